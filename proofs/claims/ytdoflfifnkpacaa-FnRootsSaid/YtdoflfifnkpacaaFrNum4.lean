/-
  Plain laws behind FnRoots: roots of halves and singles.
-/
import Derived.Test.YtdoflfifnkpacaaFrNum3
namespace Go.Proofs.Ytdoflfifnkpacaa.FR
open Go.RowKit Go.Proofs.YtdoflfifnkpacaaW.PrintWords Go.Proofs.YtdoflfifnkpacaaW.PrintLast Go.Proofs.YtdoflfifnkpacaaW.PrintMore
set_option linter.unusedSimpArgs false
set_option linter.unusedVariables false
def rq (d h R : Int) (more : Bool) : Int := if R % d > h then R / d + 1 else (if R % d = h then (if more = true then R / d + 1 else (if R / d % 2 = 1 then R / d + 1 else R / d)) else R / d)
theorem implRound10 {R e1 : Int} (more : Bool) (h0 : 536870912 ≤ R) (h1 : R < 1073741824) (h2 : -42 ≤ e1) (h3 : e1 ≤ -16) :
    Ev (fun k => impl_format_round.f k 10 15 false R e1 more) ((29 + e1 + 15) * 1024 + rq 524288 262144 R more - 1024) := by
  have tp : impl_format_top.f 10 15 = some 31 := by decide +kernel
  have j1 : ∀ (q K : Int), 29 + -42 ≤ q + 10 → q + 10 ≤ 30 + -16 → 1024 ≤ K → K < 2048 → Ev (fun k => impl_format_round.j1 k false q K 10 15) ((q + 15 + 10) * 1024 + K - 1024) := by
    intro q K a0 a1 a2 a3
    have s0 : shl .u64 1 10 = 1024 := by decide +kernel
    have e1 : wrap64 (wrap64 (q + 15) + 10) = q + 15 + 10 := by unfold wrap64; omega
    have e2 : (q + 15 + 10) % 4294967296 = q + 15 + 10 := by omega
    have e3 : shl .u32 (q + 15 + 10) 10 = (q + 15 + 10) * 1024 := by
      unfold shl
      have e : min ((10 : Int)).toNat IntKind.u32.bits = 10 := by decide
      have e' : (2 : Int) ^ 10 = 1024 := by decide
      rw [e, e']
      exact u32_id (by omega) (by omega)
    have e4 : IntKind.u64.wrap (K - 1024) = K - 1024 := u64_id (by omega) (by omega)
    have e5 : (K - 1024) % 4294967296 = K - 1024 := by omega
    have e6 : Go.bits .or .u32 ((q + 15 + 10) * 1024) (K - 1024) = (q + 15 + 10) * 1024 + (K - 1024) := or32 10 (by omega) (by omega) (by omega) (by omega) (by simp; omega) (by omega) (by omega)
    refine Ev.step (g := fun _ => some ((q + 15 + 10) * 1024 + K - 1024)) (fun k => ?_) (Ev.const _)
    simp only [impl_format_round.j1, s0, tp, Option.bind_some, e1, e2, e3, e4, e5, e6, impl_format_signed.f]
    rw [if_pos (by decide), if_neg (by omega), if_neg (by unfold wrap64; omega), if_neg (by decide)]
    simp only [Option.bind_some, Option.some.injEq]
    omega
  have j0 : ∀ K : Int, 1024 ≤ K → K ≤ 2048 → Ev (fun k => impl_format_round.j0 k false (29 + e1 - 10) K 10 15) ((29 + e1 + 15) * 1024 + K - 1024) := by
    intro K a0 a1
    have s0 : shl .u64 2 10 = 2048 := by decide +kernel
    have s1 : shl .u64 1 10 = 1024 := by decide +kernel
    by_cases c : K = 2048
    · have e : wrap64 (29 + e1 - 10 + 1) = 29 + e1 - 10 + 1 := by unfold wrap64; omega
      have g := j1 (29 + e1 - 10 + 1) 1024 (by omega) (by omega) (by omega) (by omega)
      have e2 : (29 + e1 - 10 + 1 + 15 + 10) * 1024 + 1024 - 1024 = (29 + e1 + 15) * 1024 + K - 1024 := by omega
      rw [e2] at g
      refine Ev.step (fun k => ?_) g
      simp only [impl_format_round.j0, s0, s1, e]
      rw [if_pos (by decide), if_pos c]
    · have g := j1 (29 + e1 - 10) K (by omega) (by omega) (by omega) (by omega)
      have e2 : (29 + e1 - 10 + 15 + 10) * 1024 + K - 1024 = (29 + e1 + 15) * 1024 + K - 1024 := by omega
      rw [e2] at g
      refine Ev.step (fun k => ?_) g
      simp only [impl_format_round.j0, s0]
      rw [if_pos (by decide), if_neg c]
  unfold impl_format_round.f
  refine Ev.neg (by omega) ?_
  obtain ⟨L, hL, _, hE⟩ := implLen (x := R) (by omega) (by omega)
  obtain rfl := len_uniq hL (⟨by decide, by simp; omega, by simp; omega⟩ : IsLen R 30)
  refine Ev.bind hE ?_
  have hq : mx (wrap64 ((wrap64 ((wrap64 (((30 : Nat) : Int) - 1)) + e1)) - 10)) (wrap64 ((wrap64 (1 - 15)) - 10)) = 29 + e1 - 10 := by
    unfold mx wrap64
    split <;> omega
  have hs : wrap64 (29 + e1 - 10 - e1) = 19 := by unfold wrap64; omega
  have hs1 : wrap64 (19 - 1) = 18 := by decide +kernel
  have hsh : shl .u64 1 18 = 262144 := by decide +kernel
  have hm : IntKind.u64.wrap (IntKind.u64.wrap (2 * 262144) - 1) = 524287 := by decide +kernel
  have ha : Go.bits .and .u64 R 524287 = R % 524288 := and64 19 (by decide) (by omega) (by omega)
  have hr : shr .u64 R 19 = R / 524288 := shr64 R 19 (by decide)
  have hb : Go.bits .and .u64 (R / 524288) 1 = R / 524288 % 2 := and64 1 (by decide) (by omega) (by omega)
  have hw : IntKind.u64.wrap (R / 524288 + 1) = R / 524288 + 1 := u64_id (by omega) (by omega)
  simp only [hq, hs, hs1, hsh, hm, ha, hr, hb, hw]
  refine Ev.neg (by decide) (Ev.pos (by decide) (Ev.pos (by decide) (Ev.pos (by decide) ?_)))
  unfold rq
  by_cases c1 : R % 524288 > 262144
  · rw [if_pos c1]
    exact Ev.pos c1 (j0 _ (by omega) (by omega))
  · rw [if_neg c1]
    refine Ev.neg c1 ?_
    by_cases c2 : R % 524288 = 262144
    · rw [if_pos c2]
      refine Ev.pos c2 ?_
      by_cases c3 : more = true
      · rw [if_pos c3]
        exact Ev.pos c3 (j0 _ (by omega) (by omega))
      · rw [if_neg c3]
        refine Ev.neg c3 ?_
        by_cases c4 : R / 524288 % 2 = 1
        · rw [if_pos c4]
          exact Ev.pos c4 (j0 _ (by omega) (by omega))
        · rw [if_neg c4]
          exact Ev.neg c4 (j0 _ (by omega) (by omega))
    · rw [if_neg c2]
      exact Ev.neg c2 (j0 _ (by omega) (by omega))
theorem specRound10 {R e1 : Int} (more : Bool) (h0 : 268435456 ≤ R) (h1 : R < 536870912) (h2 : -42 ≤ e1) (h3 : e1 ≤ -16) :
    Ev (fun k => spec_l4K_round.f k 5 10 false R (e1 + 1) more) ((29 + e1 + 15) * 1024 + rq 262144 131072 R more - 1024) := by
  have ls : spec_l4K_least.f 5 10 = some (-24) := by decide +kernel
  have sg : spec_l4K_sign.f 5 10 false = some 0 := by decide +kernel
  have j2 : ∀ (q K : Int), 29 + -42 ≤ q + 10 → q + 10 ≤ 30 + -16 → 1024 ≤ K → K < 2048 → Ev (fun k => spec_l4K_round.j2 k false K q 5 10) ((q + 15 + 10) * 1024 + K - 1024) := by
    intro q K a0 a1 a2 a3
    have s0 : shl .u64 1 10 = 1024 := by decide +kernel
    have s1 : wrap64 (shl .i64 1 5 - 1) = 31 := by decide +kernel
    have s2 : (shl .u32 1 10 - 1) % 4294967296 = 1023 := by decide +kernel
    have e1 : wrap64 (wrap64 (q - (-24)) + 1) = q + 15 + 10 := by unfold wrap64; omega
    have e2 : (q + 15 + 10) % 4294967296 = q + 15 + 10 := by omega
    have e3 : shl .u32 (q + 15 + 10) 10 = (q + 15 + 10) * 1024 := by
      unfold shl
      have e : min ((10 : Int)).toNat IntKind.u32.bits = 10 := by decide
      have e' : (2 : Int) ^ 10 = 1024 := by decide
      rw [e, e']
      exact u32_id (by omega) (by omega)
    have e4 : K % 4294967296 = K := by omega
    have e5 : Go.bits .and .u32 K 1023 = K - 1024 := by
      have := and32 10 (by decide) (a := K) (by omega) (by omega)
      have e' : (2 : Int) ^ 10 = 1024 := by decide
      rw [e'] at this
      have e'' : (1024 : Int) - 1 = 1023 := by decide
      rw [e''] at this
      rw [this]
      omega
    have e6 : Go.bits .or .u32 ((q + 15 + 10) * 1024) (K - 1024) = (q + 15 + 10) * 1024 + (K - 1024) := or32 10 (by omega) (by omega) (by omega) (by omega) (by simp; omega) (by omega) (by omega)
    have e7 : Go.bits .or .u32 0 ((q + 15 + 10) * 1024) = (q + 15 + 10) * 1024 := by
      have h32 : (2 : Int) ^ 32 = 4294967296 := by decide
      have := or32 32 (x := 0) (y := (q + 15 + 10) * 1024) (by decide) (by decide) (by decide) (by decide) (by omega) (by rw [h32]; omega) (by omega)
      rw [this]
      omega
    refine Ev.step (g := fun _ => some ((q + 15 + 10) * 1024 + K - 1024)) (fun k => ?_) (Ev.const _)
    simp only [spec_l4K_round.j2, s0, s1, s2, ls, sg, Option.bind_some, e1, e2, e3, e4, e5, e6, e7]
    rw [if_pos (by decide), if_neg (by omega), if_pos (by decide), if_neg (by omega)]
    simp only [Option.some.injEq]
    omega
  have j1 : ∀ K : Int, 1024 ≤ K → K ≤ 2048 → Ev (fun k => spec_l4K_round.j1 k false K (29 + e1 - 10) 5 10) ((29 + e1 + 15) * 1024 + K - 1024) := by
    intro K a0 a1
    have s0 : IntKind.u64.wrap (10 + 1) = 11 := by decide +kernel
    have s1 : shl .u64 1 11 = 2048 := by decide +kernel
    by_cases c : K = 2048
    · have e : wrap64 (29 + e1 - 10 + 1) = 29 + e1 - 10 + 1 := by unfold wrap64; omega
      have e0 : K / 2 = 1024 := by omega
      have g := j2 (29 + e1 - 10 + 1) 1024 (by omega) (by omega) (by omega) (by omega)
      have e2 : (29 + e1 - 10 + 1 + 15 + 10) * 1024 + 1024 - 1024 = (29 + e1 + 15) * 1024 + K - 1024 := by omega
      rw [e2] at g
      refine Ev.step (fun k => ?_) g
      simp only [spec_l4K_round.j1, s0, s1, e, e0]
      rw [if_pos (by decide), if_pos c]
    · have g := j2 (29 + e1 - 10) K (by omega) (by omega) (by omega) (by omega)
      have e2 : (29 + e1 - 10 + 15 + 10) * 1024 + K - 1024 = (29 + e1 + 15) * 1024 + K - 1024 := by omega
      rw [e2] at g
      refine Ev.step (fun k => ?_) g
      simp only [spec_l4K_round.j1, s0, s1]
      rw [if_pos (by decide), if_neg c]
  have hs : wrap64 (29 + e1 - 10 - (e1 + 1)) = 18 := by unfold wrap64; omega
  have hs0 : IntKind.u64.wrap 18 = 18 := by decide +kernel
  have hs1 : IntKind.u64.wrap (wrap64 (18 - 1)) = 17 := by decide +kernel
  have hsh : shl .u64 1 17 = 131072 := by decide +kernel
  have hm : IntKind.u64.wrap (shl .u64 1 18 - 1) = 262143 := by decide +kernel
  have ha : Go.bits .and .u64 R 262143 = R % 262144 := and64 18 (by decide) (by omega) (by omega)
  have hr : shr .u64 R 18 = R / 262144 := shr64 R 18 (by decide)
  have hb : Go.bits .and .u64 (R / 262144) 1 = R / 262144 % 2 := and64 1 (by decide) (by omega) (by omega)
  have hw : IntKind.u64.wrap (R / 262144 + 1) = R / 262144 + 1 := u64_id (by omega) (by omega)
  have j0 : Ev (fun k => spec_l4K_round.j0 k false R (e1 + 1) more (29 + e1 - 10) 5 10) ((29 + e1 + 15) * 1024 + rq 262144 131072 R more - 1024) := by
    refine Ev.step (g := fun k => if R % 262144 > 131072 then spec_l4K_round.j1 k false (R / 262144 + 1) (29 + e1 - 10) 5 10 else (if R % 262144 = 131072 then (if more = true then spec_l4K_round.j1 k false (R / 262144 + 1) (29 + e1 - 10) 5 10 else (if R / 262144 % 2 = 1 then spec_l4K_round.j1 k false (R / 262144 + 1) (29 + e1 - 10) 5 10 else spec_l4K_round.j1 k false (R / 262144) (29 + e1 - 10) 5 10)) else spec_l4K_round.j1 k false (R / 262144) (29 + e1 - 10) 5 10)) (fun k => ?_) ?_
    · simp only [spec_l4K_round.j0, hs, hs0, hs1, hsh, hm, ha, hr, hb, hw]
      rw [if_neg (by decide), if_pos (by decide), if_pos (by decide), if_pos (by decide)]
    · unfold rq
      by_cases c1 : R % 262144 > 131072
      · rw [if_pos c1]
        exact Ev.pos c1 (j1 _ (by omega) (by omega))
      · rw [if_neg c1]
        refine Ev.neg c1 ?_
        by_cases c2 : R % 262144 = 131072
        · rw [if_pos c2]
          refine Ev.pos c2 ?_
          by_cases c3 : more = true
          · rw [if_pos c3]
            exact Ev.pos c3 (j1 _ (by omega) (by omega))
          · rw [if_neg c3]
            refine Ev.neg c3 ?_
            by_cases c4 : R / 262144 % 2 = 1
            · rw [if_pos c4]
              exact Ev.pos c4 (j1 _ (by omega) (by omega))
            · rw [if_neg c4]
              exact Ev.neg c4 (j1 _ (by omega) (by omega))
        · rw [if_neg c2]
          exact Ev.neg c2 (j1 _ (by omega) (by omega))
  unfold spec_l4K_round.f
  refine Ev.neg (by omega) (Ev.bind (specLen (L := 29) ⟨by decide, by simp; omega, by simp; omega⟩ (by decide)) ?_)
  have hl : wrap64 (wrap64 (wrap64 (e1 + 1 + ((29 : Nat) : Int)) - wrap64 10) - 1) = 29 + e1 - 10 := by unfold wrap64; omega
  simp only [ls, Option.bind_some, hl]
  exact Ev.neg (by omega) j0
/-- Both round to the same: a root by one bit shorter, with what lies behind. -/
theorem rq_same10 {R1 R2 : Int} {m1 m2 : Bool} (h : R1 = 2 * R2 ∨ R1 = 2 * R2 + 1) (e : R1 = 2 * R2 → m1 = m2) (o : R1 = 2 * R2 + 1 → m2 = true) : rq 524288 262144 R1 m1 = rq 262144 131072 R2 m2 := by
  unfold rq
  rcases h with h | h
  · obtain rfl := e h
    have a : R1 / 524288 = R2 / 262144 := by omega
    rw [a]
    by_cases c1 : R2 % 262144 > 131072
    · rw [if_pos c1, if_pos (by omega)]
    · rw [if_neg c1, if_neg (by omega)]
      by_cases c2 : R2 % 262144 = 131072
      · rw [if_pos c2, if_pos (by omega)]
      · rw [if_neg c2, if_neg (by omega)]
  · obtain rfl := o h
    have a : R1 / 524288 = R2 / 262144 := by omega
    rw [a]
    by_cases c1 : R2 % 262144 > 131072
    · rw [if_pos c1, if_pos (by omega)]
    · rw [if_neg c1]
      by_cases c2 : R2 % 262144 = 131072
      · rw [if_pos c2, if_pos (by omega), if_pos rfl]
      · rw [if_neg c2, if_neg (by omega), if_neg (by omega)]
theorem implRound23 {R e1 : Int} (more : Bool) (h0 : 536870912 ≤ R) (h1 : R < 1073741824) (h2 : -120 ≤ e1) (h3 : e1 ≤ 60) :
    Ev (fun k => impl_format_round.f k 23 127 false R e1 more) ((29 + e1 + 127) * 8388608 + rq 64 32 R more - 8388608) := by
  have tp : impl_format_top.f 23 127 = some 255 := by decide +kernel
  have j1 : ∀ (q K : Int), 29 + -120 ≤ q + 23 → q + 23 ≤ 30 + 60 → 8388608 ≤ K → K < 16777216 → Ev (fun k => impl_format_round.j1 k false q K 23 127) ((q + 127 + 23) * 8388608 + K - 8388608) := by
    intro q K a0 a1 a2 a3
    have s0 : shl .u64 1 23 = 8388608 := by decide +kernel
    have e1 : wrap64 (wrap64 (q + 127) + 23) = q + 127 + 23 := by unfold wrap64; omega
    have e2 : (q + 127 + 23) % 4294967296 = q + 127 + 23 := by omega
    have e3 : shl .u32 (q + 127 + 23) 23 = (q + 127 + 23) * 8388608 := by
      unfold shl
      have e : min ((23 : Int)).toNat IntKind.u32.bits = 23 := by decide
      have e' : (2 : Int) ^ 23 = 8388608 := by decide
      rw [e, e']
      exact u32_id (by omega) (by omega)
    have e4 : IntKind.u64.wrap (K - 8388608) = K - 8388608 := u64_id (by omega) (by omega)
    have e5 : (K - 8388608) % 4294967296 = K - 8388608 := by omega
    have e6 : Go.bits .or .u32 ((q + 127 + 23) * 8388608) (K - 8388608) = (q + 127 + 23) * 8388608 + (K - 8388608) := or32 23 (by omega) (by omega) (by omega) (by omega) (by simp; omega) (by omega) (by omega)
    refine Ev.step (g := fun _ => some ((q + 127 + 23) * 8388608 + K - 8388608)) (fun k => ?_) (Ev.const _)
    simp only [impl_format_round.j1, s0, tp, Option.bind_some, e1, e2, e3, e4, e5, e6, impl_format_signed.f]
    rw [if_pos (by decide), if_neg (by omega), if_neg (by unfold wrap64; omega), if_neg (by decide)]
    simp only [Option.bind_some, Option.some.injEq]
    omega
  have j0 : ∀ K : Int, 8388608 ≤ K → K ≤ 16777216 → Ev (fun k => impl_format_round.j0 k false (29 + e1 - 23) K 23 127) ((29 + e1 + 127) * 8388608 + K - 8388608) := by
    intro K a0 a1
    have s0 : shl .u64 2 23 = 16777216 := by decide +kernel
    have s1 : shl .u64 1 23 = 8388608 := by decide +kernel
    by_cases c : K = 16777216
    · have e : wrap64 (29 + e1 - 23 + 1) = 29 + e1 - 23 + 1 := by unfold wrap64; omega
      have g := j1 (29 + e1 - 23 + 1) 8388608 (by omega) (by omega) (by omega) (by omega)
      have e2 : (29 + e1 - 23 + 1 + 127 + 23) * 8388608 + 8388608 - 8388608 = (29 + e1 + 127) * 8388608 + K - 8388608 := by omega
      rw [e2] at g
      refine Ev.step (fun k => ?_) g
      simp only [impl_format_round.j0, s0, s1, e]
      rw [if_pos (by decide), if_pos c]
    · have g := j1 (29 + e1 - 23) K (by omega) (by omega) (by omega) (by omega)
      have e2 : (29 + e1 - 23 + 127 + 23) * 8388608 + K - 8388608 = (29 + e1 + 127) * 8388608 + K - 8388608 := by omega
      rw [e2] at g
      refine Ev.step (fun k => ?_) g
      simp only [impl_format_round.j0, s0]
      rw [if_pos (by decide), if_neg c]
  unfold impl_format_round.f
  refine Ev.neg (by omega) ?_
  obtain ⟨L, hL, _, hE⟩ := implLen (x := R) (by omega) (by omega)
  obtain rfl := len_uniq hL (⟨by decide, by simp; omega, by simp; omega⟩ : IsLen R 30)
  refine Ev.bind hE ?_
  have hq : mx (wrap64 ((wrap64 ((wrap64 (((30 : Nat) : Int) - 1)) + e1)) - 23)) (wrap64 ((wrap64 (1 - 127)) - 23)) = 29 + e1 - 23 := by
    unfold mx wrap64
    split <;> omega
  have hs : wrap64 (29 + e1 - 23 - e1) = 6 := by unfold wrap64; omega
  have hs1 : wrap64 (6 - 1) = 5 := by decide +kernel
  have hsh : shl .u64 1 5 = 32 := by decide +kernel
  have hm : IntKind.u64.wrap (IntKind.u64.wrap (2 * 32) - 1) = 63 := by decide +kernel
  have ha : Go.bits .and .u64 R 63 = R % 64 := and64 6 (by decide) (by omega) (by omega)
  have hr : shr .u64 R 6 = R / 64 := shr64 R 6 (by decide)
  have hb : Go.bits .and .u64 (R / 64) 1 = R / 64 % 2 := and64 1 (by decide) (by omega) (by omega)
  have hw : IntKind.u64.wrap (R / 64 + 1) = R / 64 + 1 := u64_id (by omega) (by omega)
  simp only [hq, hs, hs1, hsh, hm, ha, hr, hb, hw]
  refine Ev.neg (by decide) (Ev.pos (by decide) (Ev.pos (by decide) (Ev.pos (by decide) ?_)))
  unfold rq
  by_cases c1 : R % 64 > 32
  · rw [if_pos c1]
    exact Ev.pos c1 (j0 _ (by omega) (by omega))
  · rw [if_neg c1]
    refine Ev.neg c1 ?_
    by_cases c2 : R % 64 = 32
    · rw [if_pos c2]
      refine Ev.pos c2 ?_
      by_cases c3 : more = true
      · rw [if_pos c3]
        exact Ev.pos c3 (j0 _ (by omega) (by omega))
      · rw [if_neg c3]
        refine Ev.neg c3 ?_
        by_cases c4 : R / 64 % 2 = 1
        · rw [if_pos c4]
          exact Ev.pos c4 (j0 _ (by omega) (by omega))
        · rw [if_neg c4]
          exact Ev.neg c4 (j0 _ (by omega) (by omega))
    · rw [if_neg c2]
      exact Ev.neg c2 (j0 _ (by omega) (by omega))
theorem specRound23 {R e1 : Int} (more : Bool) (h0 : 268435456 ≤ R) (h1 : R < 536870912) (h2 : -120 ≤ e1) (h3 : e1 ≤ 60) :
    Ev (fun k => spec_l4K_round.f k 8 23 false R (e1 + 1) more) ((29 + e1 + 127) * 8388608 + rq 32 16 R more - 8388608) := by
  have ls : spec_l4K_least.f 8 23 = some (-149) := by decide +kernel
  have sg : spec_l4K_sign.f 8 23 false = some 0 := by decide +kernel
  have j2 : ∀ (q K : Int), 29 + -120 ≤ q + 23 → q + 23 ≤ 30 + 60 → 8388608 ≤ K → K < 16777216 → Ev (fun k => spec_l4K_round.j2 k false K q 8 23) ((q + 127 + 23) * 8388608 + K - 8388608) := by
    intro q K a0 a1 a2 a3
    have s0 : shl .u64 1 23 = 8388608 := by decide +kernel
    have s1 : wrap64 (shl .i64 1 8 - 1) = 255 := by decide +kernel
    have s2 : (shl .u32 1 23 - 1) % 4294967296 = 8388607 := by decide +kernel
    have e1 : wrap64 (wrap64 (q - (-149)) + 1) = q + 127 + 23 := by unfold wrap64; omega
    have e2 : (q + 127 + 23) % 4294967296 = q + 127 + 23 := by omega
    have e3 : shl .u32 (q + 127 + 23) 23 = (q + 127 + 23) * 8388608 := by
      unfold shl
      have e : min ((23 : Int)).toNat IntKind.u32.bits = 23 := by decide
      have e' : (2 : Int) ^ 23 = 8388608 := by decide
      rw [e, e']
      exact u32_id (by omega) (by omega)
    have e4 : K % 4294967296 = K := by omega
    have e5 : Go.bits .and .u32 K 8388607 = K - 8388608 := by
      have := and32 23 (by decide) (a := K) (by omega) (by omega)
      have e' : (2 : Int) ^ 23 = 8388608 := by decide
      rw [e'] at this
      have e'' : (8388608 : Int) - 1 = 8388607 := by decide
      rw [e''] at this
      rw [this]
      omega
    have e6 : Go.bits .or .u32 ((q + 127 + 23) * 8388608) (K - 8388608) = (q + 127 + 23) * 8388608 + (K - 8388608) := or32 23 (by omega) (by omega) (by omega) (by omega) (by simp; omega) (by omega) (by omega)
    have e7 : Go.bits .or .u32 0 ((q + 127 + 23) * 8388608) = (q + 127 + 23) * 8388608 := by
      have h32 : (2 : Int) ^ 32 = 4294967296 := by decide
      have := or32 32 (x := 0) (y := (q + 127 + 23) * 8388608) (by decide) (by decide) (by decide) (by decide) (by omega) (by rw [h32]; omega) (by omega)
      rw [this]
      omega
    refine Ev.step (g := fun _ => some ((q + 127 + 23) * 8388608 + K - 8388608)) (fun k => ?_) (Ev.const _)
    simp only [spec_l4K_round.j2, s0, s1, s2, ls, sg, Option.bind_some, e1, e2, e3, e4, e5, e6, e7]
    rw [if_pos (by decide), if_neg (by omega), if_pos (by decide), if_neg (by omega)]
    simp only [Option.some.injEq]
    omega
  have j1 : ∀ K : Int, 8388608 ≤ K → K ≤ 16777216 → Ev (fun k => spec_l4K_round.j1 k false K (29 + e1 - 23) 8 23) ((29 + e1 + 127) * 8388608 + K - 8388608) := by
    intro K a0 a1
    have s0 : IntKind.u64.wrap (23 + 1) = 24 := by decide +kernel
    have s1 : shl .u64 1 24 = 16777216 := by decide +kernel
    by_cases c : K = 16777216
    · have e : wrap64 (29 + e1 - 23 + 1) = 29 + e1 - 23 + 1 := by unfold wrap64; omega
      have e0 : K / 2 = 8388608 := by omega
      have g := j2 (29 + e1 - 23 + 1) 8388608 (by omega) (by omega) (by omega) (by omega)
      have e2 : (29 + e1 - 23 + 1 + 127 + 23) * 8388608 + 8388608 - 8388608 = (29 + e1 + 127) * 8388608 + K - 8388608 := by omega
      rw [e2] at g
      refine Ev.step (fun k => ?_) g
      simp only [spec_l4K_round.j1, s0, s1, e, e0]
      rw [if_pos (by decide), if_pos c]
    · have g := j2 (29 + e1 - 23) K (by omega) (by omega) (by omega) (by omega)
      have e2 : (29 + e1 - 23 + 127 + 23) * 8388608 + K - 8388608 = (29 + e1 + 127) * 8388608 + K - 8388608 := by omega
      rw [e2] at g
      refine Ev.step (fun k => ?_) g
      simp only [spec_l4K_round.j1, s0, s1]
      rw [if_pos (by decide), if_neg c]
  have hs : wrap64 (29 + e1 - 23 - (e1 + 1)) = 5 := by unfold wrap64; omega
  have hs0 : IntKind.u64.wrap 5 = 5 := by decide +kernel
  have hs1 : IntKind.u64.wrap (wrap64 (5 - 1)) = 4 := by decide +kernel
  have hsh : shl .u64 1 4 = 16 := by decide +kernel
  have hm : IntKind.u64.wrap (shl .u64 1 5 - 1) = 31 := by decide +kernel
  have ha : Go.bits .and .u64 R 31 = R % 32 := and64 5 (by decide) (by omega) (by omega)
  have hr : shr .u64 R 5 = R / 32 := shr64 R 5 (by decide)
  have hb : Go.bits .and .u64 (R / 32) 1 = R / 32 % 2 := and64 1 (by decide) (by omega) (by omega)
  have hw : IntKind.u64.wrap (R / 32 + 1) = R / 32 + 1 := u64_id (by omega) (by omega)
  have j0 : Ev (fun k => spec_l4K_round.j0 k false R (e1 + 1) more (29 + e1 - 23) 8 23) ((29 + e1 + 127) * 8388608 + rq 32 16 R more - 8388608) := by
    refine Ev.step (g := fun k => if R % 32 > 16 then spec_l4K_round.j1 k false (R / 32 + 1) (29 + e1 - 23) 8 23 else (if R % 32 = 16 then (if more = true then spec_l4K_round.j1 k false (R / 32 + 1) (29 + e1 - 23) 8 23 else (if R / 32 % 2 = 1 then spec_l4K_round.j1 k false (R / 32 + 1) (29 + e1 - 23) 8 23 else spec_l4K_round.j1 k false (R / 32) (29 + e1 - 23) 8 23)) else spec_l4K_round.j1 k false (R / 32) (29 + e1 - 23) 8 23)) (fun k => ?_) ?_
    · simp only [spec_l4K_round.j0, hs, hs0, hs1, hsh, hm, ha, hr, hb, hw]
      rw [if_neg (by decide), if_pos (by decide), if_pos (by decide), if_pos (by decide)]
    · unfold rq
      by_cases c1 : R % 32 > 16
      · rw [if_pos c1]
        exact Ev.pos c1 (j1 _ (by omega) (by omega))
      · rw [if_neg c1]
        refine Ev.neg c1 ?_
        by_cases c2 : R % 32 = 16
        · rw [if_pos c2]
          refine Ev.pos c2 ?_
          by_cases c3 : more = true
          · rw [if_pos c3]
            exact Ev.pos c3 (j1 _ (by omega) (by omega))
          · rw [if_neg c3]
            refine Ev.neg c3 ?_
            by_cases c4 : R / 32 % 2 = 1
            · rw [if_pos c4]
              exact Ev.pos c4 (j1 _ (by omega) (by omega))
            · rw [if_neg c4]
              exact Ev.neg c4 (j1 _ (by omega) (by omega))
        · rw [if_neg c2]
          exact Ev.neg c2 (j1 _ (by omega) (by omega))
  unfold spec_l4K_round.f
  refine Ev.neg (by omega) (Ev.bind (specLen (L := 29) ⟨by decide, by simp; omega, by simp; omega⟩ (by decide)) ?_)
  have hl : wrap64 (wrap64 (wrap64 (e1 + 1 + ((29 : Nat) : Int)) - wrap64 23) - 1) = 29 + e1 - 23 := by unfold wrap64; omega
  simp only [ls, Option.bind_some, hl]
  exact Ev.neg (by omega) j0
/-- Both round to the same: a root by one bit shorter, with what lies behind. -/
theorem rq_same23 {R1 R2 : Int} {m1 m2 : Bool} (h : R1 = 2 * R2 ∨ R1 = 2 * R2 + 1) (e : R1 = 2 * R2 → m1 = m2) (o : R1 = 2 * R2 + 1 → m2 = true) : rq 64 32 R1 m1 = rq 32 16 R2 m2 := by
  unfold rq
  rcases h with h | h
  · obtain rfl := e h
    have a : R1 / 64 = R2 / 32 := by omega
    rw [a]
    by_cases c1 : R2 % 32 > 16
    · rw [if_pos c1, if_pos (by omega)]
    · rw [if_neg c1, if_neg (by omega)]
      by_cases c2 : R2 % 32 = 16
      · rw [if_pos c2, if_pos (by omega)]
      · rw [if_neg c2, if_neg (by omega)]
  · obtain rfl := o h
    have a : R1 / 64 = R2 / 32 := by omega
    rw [a]
    by_cases c1 : R2 % 32 > 16
    · rw [if_pos c1, if_pos (by omega)]
    · rw [if_neg c1]
      by_cases c2 : R2 % 32 = 16
      · rw [if_pos c2, if_pos (by omega), if_pos rfl]
      · rw [if_neg c2, if_neg (by omega), if_neg (by omega)]
end Go.Proofs.Ytdoflfifnkpacaa.FR
