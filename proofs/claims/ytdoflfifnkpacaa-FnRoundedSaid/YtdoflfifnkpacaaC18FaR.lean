/-
  Plain laws behind FnRounded: sums, products and quotients of halves and singles.
-/
import Derived.Test.YtdoflfifnkpacaaC18FaN6
import Derived.Test.YtdoflfifnkpacaaC18FaM
namespace Go.Proofs.Ytdoflfifnkpacaa.FA
open Go.RowKit Go.Proofs.YtdoflfifnkpacaaW.PrintWords Go.Proofs.YtdoflfifnkpacaaW.PrintLast Go.Proofs.YtdoflfifnkpacaaW.PrintMore
set_option linter.unusedSimpArgs false
set_option linter.unusedVariables false
def sg (S : Int) (neg : Bool) : Int := if neg = true then S else 0
theorem implSigned10 {a : Int} (neg : Bool) (h0 : 0 ≤ a) (h1 : a < 32768) : impl_format_signed.f 10 15 neg a = some (sg 32768 neg + a) := by
  have e : impl_format_sign.f 10 15 = some 32768 := by decide +kernel
  unfold impl_format_signed.f
  cases neg with
  | false =>
    rw [if_neg (by decide)]
    simp [sg]
  | true =>
    rw [if_pos rfl, e, Option.bind_some, or32' 15 (by decide) (by decide) (by decide) (by decide) h0 (by simp; omega) (by omega)]
    simp [sg]
theorem implInf10 (neg : Bool) : impl_format_infinite.f 10 15 neg = some (sg 32768 neg + 31744) := by
  have tp : impl_format_top.f 10 15 = some 31 := by decide +kernel
  have sh : shl .u32 31 10 = 31744 := by decide +kernel
  unfold impl_format_infinite.f
  rw [tp, Option.bind_some, if_pos (by decide), sh, implSigned10 neg (by omega) (by omega), Option.bind_some]
theorem implRnd10 {m e : Int} {L : Nat} (neg more : Bool) (hm : IsLen m L) (hL : L ≤ 62) (e0 : -1000 ≤ e) (e1 : e ≤ 1000) :
    Ev (fun k => impl_format_round.f k 10 15 neg m e more) (sg 32768 neg + code 10 (-24) 31 L m e more) := by
  have m0 : 0 < m := by
    have := hm.2.1
    have := p2_pos (L - 1)
    omega
  have m1 : m < 4611686018427387904 := by
    have := hm.2.2
    have := p2_le hL
    have e62 : (2 : Int) ^ 62 = 4611686018427387904 := by decide
    omega
  have L1 := hm.1
  have tp : impl_format_top.f 10 15 = some 31 := by decide +kernel
  have j1 : ∀ (q K : Int), -24 ≤ q → q ≤ 1200 → 0 ≤ K → K < 2048 → (-24 < q → 1024 ≤ K) → Ev (fun k => impl_format_round.j1 k neg q K 10 15) (sg 32768 neg + min ((q + 24) * 1024 + K) 31744) := by
    intro q K a0 a1 a2 a3 a4
    have s0 : shl .u64 1 10 = 1024 := by decide +kernel
    have e1 : wrap64 (wrap64 (q + 15) + 10) = q + 15 + 10 := by unfold wrap64; omega
    have e2 : (q + 15 + 10) % 4294967296 = q + 15 + 10 := by omega
    refine Ev.step (g := fun _ => some (sg 32768 neg + min ((q + 24) * 1024 + K) 31744)) (fun k => ?_) (Ev.const _)
    simp only [impl_format_round.j1, s0, tp, Option.bind_some, e1, e2]
    rw [if_pos (by decide)]
    by_cases c : K < 1024
    · rw [if_pos c]
      have e3 : K % 4294967296 = K := by omega
      rw [e3, implSigned10 neg a2 (by omega), Option.bind_some]
      congr 2
      have : q = -24 := by omega
      omega
    · rw [if_neg c]
      have w31 : wrap64 31 = 31 := by decide +kernel
      rw [w31]
      by_cases d : q + 15 + 10 ≥ 31
      · rw [if_pos d, implInf10, Option.bind_some]
        congr 2
        omega
      · rw [if_neg d]
        have e3 : shl .u32 (q + 15 + 10) 10 = (q + 15 + 10) * 1024 := by
          unfold shl
          have e : min ((10 : Int)).toNat IntKind.u32.bits = 10 := by decide
          have e' : (2 : Int) ^ 10 = 1024 := by decide
          rw [e, e']
          exact u32_id (by omega) (by omega)
        have e4 : IntKind.u64.wrap (K - 1024) = K - 1024 := u64_id (by omega) (by omega)
        have e5 : (K - 1024) % 4294967296 = K - 1024 := by omega
        have e6 : Go.bits .or .u32 ((q + 15 + 10) * 1024) (K - 1024) = (q + 15 + 10) * 1024 + (K - 1024) := or32 10 (by omega) (by omega) (by omega) (by omega) (by omega) (by simp; omega) (by omega)
        rw [e3, e4, e5, e6, implSigned10 neg (by omega) (by omega), Option.bind_some]
        congr 2
        omega
  have j0 : ∀ (q K : Int), -24 ≤ q → q ≤ 1100 → 0 ≤ K → K ≤ 2048 → (-24 < q → 1024 ≤ K) → Ev (fun k => impl_format_round.j0 k neg q K 10 15) (sg 32768 neg + min ((q + 24) * 1024 + K) 31744) := by
    intro q K a0 a1 a2 a3 a4
    have s0 : shl .u64 2 10 = 2048 := by decide +kernel
    have s1 : shl .u64 1 10 = 1024 := by decide +kernel
    by_cases c : K = 2048
    · have e : wrap64 (q + 1) = q + 1 := by unfold wrap64; omega
      have g := j1 (q + 1) 1024 (by omega) (by omega) (by omega) (by omega) (by omega)
      have e2 : min ((q + 1 + 24) * 1024 + 1024) 31744 = min ((q + 24) * 1024 + K) 31744 := by omega
      rw [e2] at g
      refine Ev.step (fun k => ?_) g
      simp only [impl_format_round.j0, s0, s1, e]
      rw [if_pos (by decide), if_pos c]
    · refine Ev.step (fun k => ?_) (j1 q K a0 (by omega) a2 (by omega) a4)
      simp only [impl_format_round.j0, s0]
      rw [if_pos (by decide), if_neg c]
  have hb := kr_bd (p := 10) (e := e) (q := max ((L : Int) - 1 + e - 10) (-24)) more hm (by omega)
  unfold impl_format_round.f
  refine Ev.neg (by omega) ?_
  obtain ⟨L', hL', _, hE⟩ := implLen (x := m) m0 (by omega)
  obtain rfl := len_uniq hL' hm
  refine Ev.bind hE ?_
  have hq : mx (wrap64 ((wrap64 ((wrap64 ((L' : Int) - 1)) + e)) - 10)) (wrap64 ((wrap64 (1 - 15)) - 10)) = max ((L' : Int) - 1 + e - 10) (-24) := by
    rw [w64_id (n := (L' : Int) - 1) (by omega) (by omega), w64_id (n := (L' : Int) - 1 + e) (by omega) (by omega), w64_id (n := (L' : Int) - 1 + e - 10) (by omega) (by omega), show wrap64 (wrap64 (1 - 15) - 10) = -24 by decide +kernel]
    unfold mx
    split <;> omega
  have hc : code 10 (-24) 31 L' m e more = min ((max ((L' : Int) - 1 + e - 10) (-24) + 24) * 1024 + kr m (max ((L' : Int) - 1 + e - 10) (-24) - e) more) 31744 := by
    unfold code
    rw [show (2 : Int) ^ 10 = 1024 by decide, show ((10 : Nat) : Int) = 10 from rfl]
    congr 1
  rw [hc]
  simp only [hq]
  have q0 : -24 ≤ max ((L' : Int) - 1 + e - 10) (-24) := by omega
  have q1 : max ((L' : Int) - 1 + e - 10) (-24) ≤ 1100 := by omega
  have q2 : -24 < max ((L' : Int) - 1 + e - 10) (-24) → max ((L' : Int) - 1 + e - 10) (-24) = (L' : Int) - 1 + e - 10 := by omega
  rw [show (2 : Int) ^ (10 + 1) = 2048 by decide, show (2 : Int) ^ 10 = 1024 by decide, show ((10 : Nat) : Int) = 10 from rfl] at hb
  obtain ⟨b0, b1, b2⟩ := hb
  generalize max ((L' : Int) - 1 + e - 10) (-24) = q at *
  have b3 : -24 < q → 1024 ≤ kr m (q - e) more := fun h => b2 (q2 h)
  have hs : wrap64 (q - e) = q - e := w64_id (by omega) (by omega)
  simp only [hs]
  clear hq hc b2
  have J := j0 q (kr m (q - e) more) q0 q1 b0 b1 b3
  clear j0 j1
  by_cases c1 : q - e > 62
  · refine Ev.pos c1 ?_
    have k0 : kr m (q - e) more = 0 := by
      unfold kr
      rw [if_neg (by omega)]
      obtain ⟨s, h⟩ : ∃ s : Nat, (q - e).toNat = s + 63 := ⟨(q - e).toNat - 63, by omega⟩
      rw [h]
      have e62 : (2 : Int) ^ 62 = 4611686018427387904 := by decide
      have h1 := p2_le (a := 62) (b := s + 63) (by omega)
      have h2 := p2_le (a := 62) (b := s + 63 - 1) (by omega)
      unfold rq
      rw [Int.emod_eq_of_lt (by omega) (by omega), Int.ediv_eq_zero_of_lt (by omega) (by omega), if_neg (by omega), if_neg (by omega)]
    rw [k0] at J ⊢
    exact J
  · refine Ev.neg c1 ?_
    by_cases c2 : q - e > 0
    · refine Ev.pos c2 ?_
      obtain ⟨s, h⟩ : ∃ s : Nat, q - e = ((s + 1 : Nat) : Int) := ⟨(q - e).toNat - 1, by omega⟩
      have hk : kr m (q - e) more = rq (2 ^ (s + 1)) (2 ^ s) m more := by
        unfold kr
        rw [if_neg (by omega), h, Int.toNat_natCast, Nat.add_sub_cancel]
      rw [hk] at J ⊢
      have s64 : s + 1 ≤ 62 := by omega
      have ps := p2_pos s
      have ps1 := p2_le s64
      have e62 : (2 : Int) ^ 62 = 4611686018427387904 := by decide
      have w1 : wrap64 (q - e - 1) = (s : Int) := by rw [w64_id (by omega) (by omega)]; omega
      have h2 : shl .u64 1 (s : Int) = 2 ^ s := by
        rw [shl64 s (by omega) (by omega) (by rw [p2_succ] at ps1; omega)]
        omega
      have h3 : IntKind.u64.wrap (IntKind.u64.wrap (2 * 2 ^ s) - 1) = 2 ^ (s + 1) - 1 := by
        rw [← p2_succ, u64_id (n := 2 ^ (s + 1)) (by have := p2_pos (s + 1); omega) (by omega), u64_id (by have := p2_pos (s + 1); omega) (by omega)]
      have h4 : Go.bits .and .u64 m (2 ^ (s + 1) - 1) = m % 2 ^ (s + 1) := and64 (s + 1) (by omega) (by omega) (by omega)
      have h5 : shr .u64 m (q - e) = m / 2 ^ (s + 1) := by rw [h]; exact shr64 m (s + 1) (by omega)
      have d0 : 0 ≤ m / 2 ^ (s + 1) := Int.ediv_nonneg (by omega) (by have := p2_pos (s + 1); omega)
      have d1 : m / 2 ^ (s + 1) ≤ m := Int.ediv_le_self _ (by omega)
      have h6 : Go.bits .and .u64 (m / 2 ^ (s + 1)) 1 = m / 2 ^ (s + 1) % 2 := and64 1 (by decide) d0 (by omega)
      have h7 : IntKind.u64.wrap (m / 2 ^ (s + 1) + 1) = m / 2 ^ (s + 1) + 1 := u64_id (by omega) (by omega)
      simp only [w1, h2, h3, h4, h5, h6, h7]
      refine Ev.pos (by omega) (Ev.pos (by omega) ?_)
      unfold rq at J ⊢
      clear h2 h3 h4 h5 h6 h7 hk ps1
      generalize m % 2 ^ (s + 1) = a at *
      generalize m / 2 ^ (s + 1) = d at *
      generalize (2 : Int) ^ s = g at *
      by_cases c1 : a > g
      · rw [if_pos c1] at J ⊢
        exact Ev.pos c1 J
      · rw [if_neg c1] at J ⊢
        refine Ev.neg c1 ?_
        by_cases c2 : a = g
        · rw [if_pos c2] at J ⊢
          refine Ev.pos c2 ?_
          by_cases c3 : more = true
          · rw [if_pos c3] at J ⊢
            exact Ev.pos c3 J
          · rw [if_neg c3] at J ⊢
            refine Ev.neg c3 ?_
            by_cases c4 : d % 2 = 1
            · rw [if_pos c4] at J ⊢
              exact Ev.pos c4 J
            · rw [if_neg c4] at J ⊢
              exact Ev.neg c4 J
        · rw [if_neg c2] at J ⊢
          exact Ev.neg c2 J
    · refine Ev.neg c2 ?_
      obtain ⟨s, h⟩ : ∃ s : Nat, -(q - e) = (s : Int) := ⟨(-(q - e)).toNat, by omega⟩
      have hk : kr m (q - e) more = m * 2 ^ s := by
        unfold kr
        rw [if_pos (by omega), h, Int.toNat_natCast]
      rw [hk] at J b1 ⊢
      have w1 : wrap64 (-(q - e)) = (s : Int) := by rw [w64_id (by omega) (by omega)]; omega
      have s64 : s ≤ 64 := by
        rcases Nat.lt_or_ge 64 s with c | c
        · exfalso
          have := p2_le (a := 64) (b := s) (by omega)
          have e64 : (2 : Int) ^ 64 = 18446744073709551616 := by decide
          have := Int.mul_le_mul_of_nonneg_right (show (1 : Int) ≤ m by omega) (show (0 : Int) ≤ 2 ^ s by omega)
          omega
        · exact c
      have h2 : shl .u64 m (s : Int) = m * 2 ^ s := shl64 s s64 (by omega) (by omega)
      simp only [w1, h2]
      exact Ev.pos (by omega) J
theorem specSign10 (neg : Bool) : spec_l4K_sign.f 5 10 neg = some (sg 32768 neg) := by
  cases neg <;> decide +kernel
theorem specInf10 (neg : Bool) : spec_l4K_inf.f 5 10 neg = some (sg 32768 neg + 31744) := by
  cases neg <;> decide +kernel
theorem orSg10 {a : Int} (neg : Bool) (h0 : 0 ≤ a) (h1 : a < 32768) : Go.bits .or .u32 (sg 32768 neg) a = sg 32768 neg + a := by
  cases neg with
  | false => exact or32 15 (by decide) (by decide) (by decide) (by decide) h0 (by simp; omega) (by omega)
  | true => exact or32 15 (by decide) (by decide) (by decide) (by decide) h0 (by simp; omega) (by omega)
theorem orSg210 {a b : Int} (neg : Bool) (h0 : 0 ≤ a) (h1 : a < 31) (h2 : 0 ≤ b) (h3 : b < 1024) : Go.bits .or .u32 (Go.bits .or .u32 (sg 32768 neg) (a * 1024)) b = sg 32768 neg + (a * 1024 + b) := by
  rw [orSg10 neg (by omega) (by omega)]
  have hs : sg 32768 neg = 0 ∨ sg 32768 neg = 32768 := by cases neg <;> simp [sg]
  rw [or32 10 (by decide) (by omega) (by simp; omega) (by omega) h2 (by simp; omega) (by omega)]
  omega
theorem specRnd10 {m e : Int} {L : Nat} (neg more : Bool) (hm : IsLen m L) (hL : L ≤ 62) (e0 : -1000 ≤ e) (e1 : e ≤ 1000) :
    Ev (fun k => spec_l4K_round.f k 5 10 neg m e more) (sg 32768 neg + code 10 (-24) 31 L m e more) := by
  have m0 : 0 < m := by
    have := hm.2.1
    have := p2_pos (L - 1)
    omega
  have m1 : m < 4611686018427387904 := by
    have := hm.2.2
    have := p2_le hL
    have e62 : (2 : Int) ^ 62 = 4611686018427387904 := by decide
    omega
  have L1 := hm.1
  have hle : spec_l4K_least.f 5 10 = some (-24) := by decide +kernel
  have j2 : ∀ (q K : Int), -24 ≤ q → q ≤ 1200 → 0 ≤ K → K < 2048 → (-24 < q → 1024 ≤ K) → Ev (fun k => spec_l4K_round.j2 k neg K q 5 10) (sg 32768 neg + min ((q + 24) * 1024 + K) 31744) := by
    intro q K a0 a1 a2 a3 a4
    have s0 : shl .u64 1 10 = 1024 := by decide +kernel
    have e1 : wrap64 (wrap64 (q - -24) + 1) = q + 24 + 1 := by unfold wrap64; omega
    have e2 : (q + 24 + 1) % 4294967296 = q + 24 + 1 := by omega
    have e3 : K % 4294967296 = K := by omega
    refine Ev.step (g := fun _ => some (sg 32768 neg + min ((q + 24) * 1024 + K) 31744)) (fun k => ?_) (Ev.const _)
    simp only [spec_l4K_round.j2, s0, specSign10, specInf10, hle, Option.bind_some, e1, e2, e3]
    rw [if_pos (by decide)]
    by_cases c : K < 1024
    · rw [if_pos c, orSg10 neg a2 (by omega)]
      congr 2
      have : q = -24 := by omega
      omega
    · rw [if_neg c, if_pos (by decide), show wrap64 (shl .i64 1 5 - 1) = 31 by decide +kernel]
      by_cases d : q + 24 + 1 ≥ 31
      · rw [if_pos d]
        congr 2
        omega
      · rw [if_neg d]
        have e3 : shl .u32 (q + 24 + 1) 10 = (q + 24 + 1) * 1024 := by
          unfold shl
          have e : min ((10 : Int)).toNat IntKind.u32.bits = 10 := by decide
          have e' : (2 : Int) ^ 10 = 1024 := by decide
          rw [e, e']
          exact u32_id (by omega) (by omega)
        have e4 : (shl .u32 1 10 - 1) % 4294967296 = 2 ^ 10 - 1 := by decide +kernel
        have e5 : Go.bits .and .u32 K (2 ^ 10 - 1) = K - 1024 := by
          rw [and32 10 (by decide) (by omega) (by omega), show (2 : Int) ^ 10 = 1024 by decide]
          omega
        rw [e3, e4, e5, orSg210 neg (by omega) (by omega) (by omega) (by omega)]
        congr 2
        omega
  have j1 : ∀ (q K : Int), -24 ≤ q → q ≤ 1100 → 0 ≤ K → K ≤ 2048 → (-24 < q → 1024 ≤ K) → Ev (fun k => spec_l4K_round.j1 k neg K q 5 10) (sg 32768 neg + min ((q + 24) * 1024 + K) 31744) := by
    intro q K a0 a1 a2 a3 a4
    have s0 : shl .u64 1 (IntKind.u64.wrap (10 + 1)) = 2048 := by decide +kernel
    by_cases c : K = 2048
    · have e : wrap64 (q + 1) = q + 1 := by unfold wrap64; omega
      have g := j2 (q + 1) 1024 (by omega) (by omega) (by omega) (by omega) (by omega)
      have e2 : min ((q + 1 + 24) * 1024 + 1024) 31744 = min ((q + 24) * 1024 + K) 31744 := by omega
      rw [e2] at g
      refine Ev.step (fun k => ?_) g
      simp only [spec_l4K_round.j1, s0, e]
      rw [if_pos (by decide), if_pos c, c, show (2048 : Int) / 2 = 1024 by decide]
    · refine Ev.step (fun k => ?_) (j2 q K a0 (by omega) a2 (by omega) a4)
      simp only [spec_l4K_round.j1, s0]
      rw [if_pos (by decide), if_neg c]
  have hb := kr_bd (p := 10) (e := e) (q := max ((L : Int) - 1 + e - 10) (-24)) more hm (by omega)
  unfold spec_l4K_round.f
  refine Ev.neg (by omega) ?_
  refine Ev.bind (specLen hm (by omega)) ?_
  simp only [hle, Option.bind_some]
  have hw : wrap64 (wrap64 (wrap64 (e + (L : Int)) - wrap64 10) - 1) = (L : Int) - 1 + e - 10 := by
    rw [show wrap64 10 = 10 by decide +kernel, w64_id (n := e + (L : Int)) (by omega) (by omega), w64_id (n := e + (L : Int) - 10) (by omega) (by omega), w64_id (by omega) (by omega)]
    omega
  simp only [hw]
  have hc : code 10 (-24) 31 L m e more = min ((max ((L : Int) - 1 + e - 10) (-24) + 24) * 1024 + kr m (max ((L : Int) - 1 + e - 10) (-24) - e) more) 31744 := by
    unfold code
    rw [show (2 : Int) ^ 10 = 1024 by decide, show ((10 : Nat) : Int) = 10 from rfl]
    congr 1
  rw [hc]
  have key : ∀ q : Int, q = max ((L : Int) - 1 + e - 10) (-24) → Ev (fun k => spec_l4K_round.j0 k neg m e more q 5 10) (sg 32768 neg + min ((q + 24) * 1024 + kr m (q - e) more) 31744) := by
    intro q hq
    have q0 : -24 ≤ q := by omega
    have q1 : q ≤ 1100 := by omega
    have q2 : -24 < q → q = (L : Int) - 1 + e - 10 := by omega
    rw [show (2 : Int) ^ (10 + 1) = 2048 by decide, show (2 : Int) ^ 10 = 1024 by decide, show ((10 : Nat) : Int) = 10 from rfl, ← hq] at hb
    obtain ⟨b0, b1, b2⟩ := hb
    have b3 : -24 < q → 1024 ≤ kr m (q - e) more := fun h => b2 (q2 h)
    have hs : wrap64 (q - e) = q - e := w64_id (by omega) (by omega)
    have J := j1 q (kr m (q - e) more) q0 q1 b0 b1 b3
    clear j1 j2 b2 hc
    refine Ev.step (g := fun k => _) (fun k => by simp only [spec_l4K_round.j0, hs]; rfl) ?_
    by_cases c1 : q - e ≤ 0
    · refine Ev.pos c1 ?_
      obtain ⟨s, h⟩ : ∃ s : Nat, -(q - e) = (s : Int) := ⟨(-(q - e)).toNat, by omega⟩
      have hk : kr m (q - e) more = m * 2 ^ s := by
        unfold kr
        rw [if_pos (by omega), h, Int.toNat_natCast]
      rw [hk] at J b1 ⊢
      have s64 : s ≤ 64 := by
        rcases Nat.lt_or_ge 64 s with c | c
        · exfalso
          have := p2_le (a := 64) (b := s) (by omega)
          have e64 : (2 : Int) ^ 64 = 18446744073709551616 := by decide
          have := Int.mul_le_mul_of_nonneg_right (show (1 : Int) ≤ m by omega) (show (0 : Int) ≤ 2 ^ s by omega)
          omega
        · exact c
      have w1 : IntKind.u64.wrap (wrap64 (-(q - e))) = (s : Int) := by rw [w64_id (by omega) (by omega), u64_id (by omega) (by omega)]; omega
      have h2 : shl .u64 m (s : Int) = m * 2 ^ s := shl64 s s64 (by omega) (by omega)
      simp only [w1, h2]
      exact Ev.pos (by omega) J
    · refine Ev.neg c1 ?_
      obtain ⟨s, h⟩ : ∃ s : Nat, q - e = ((s + 1 : Nat) : Int) := ⟨(q - e).toNat - 1, by omega⟩
      have hk : kr m (q - e) more = rq (2 ^ (s + 1)) (2 ^ s) m more := by
        unfold kr
        rw [if_neg (by omega), h, Int.toNat_natCast, Nat.add_sub_cancel]
      rw [hk] at J ⊢
      by_cases c2 : q - e < 64
      · refine Ev.pos c2 ?_
        have s64 : s + 1 ≤ 63 := by omega
        have ps := p2_pos s
        have ps1 := p2_le s64
        have e63 : (2 : Int) ^ 63 = 9223372036854775808 := by decide
        have w1 : IntKind.u64.wrap (wrap64 (q - e - 1)) = (s : Int) := by rw [w64_id (by omega) (by omega), u64_id (by omega) (by omega)]; omega
        have w2 : IntKind.u64.wrap (q - e) = ((s + 1 : Nat) : Int) := by rw [u64_id (by omega) (by omega)]; omega
        have h2 : shl .u64 1 (s : Int) = 2 ^ s := by
          rw [shl64 s (by omega) (by omega) (by rw [p2_succ] at ps1; omega)]
          omega
        have h2' : shl .u64 1 ((s + 1 : Nat) : Int) = 2 ^ (s + 1) := by
          rw [shl64 (s + 1) (by omega) (by omega) (by omega)]
          omega
        have h3 : IntKind.u64.wrap (2 ^ (s + 1) - 1) = 2 ^ (s + 1) - 1 := u64_id (by have := p2_pos (s + 1); omega) (by omega)
        have h4 : Go.bits .and .u64 m (2 ^ (s + 1) - 1) = m % 2 ^ (s + 1) := and64 (s + 1) (by omega) (by omega) (by omega)
        have h5 : shr .u64 m ((s + 1 : Nat) : Int) = m / 2 ^ (s + 1) := shr64 m (s + 1) (by omega)
        have d0 : 0 ≤ m / 2 ^ (s + 1) := Int.ediv_nonneg (by omega) (by have := p2_pos (s + 1); omega)
        have d1 : m / 2 ^ (s + 1) ≤ m := Int.ediv_le_self _ (by omega)
        have h6 : Go.bits .and .u64 (m / 2 ^ (s + 1)) 1 = m / 2 ^ (s + 1) % 2 := and64 1 (by decide) d0 (by omega)
        have h7 : IntKind.u64.wrap (m / 2 ^ (s + 1) + 1) = m / 2 ^ (s + 1) + 1 := u64_id (by omega) (by omega)
        simp only [w1, w2, h2, h2', h3, h4, h5, h6, h7]
        refine Ev.pos (by omega) (Ev.pos (by omega) ?_)
        unfold rq at J ⊢
        clear h2 h2' h3 h4 h5 h6 h7 hk ps1
        generalize m % 2 ^ (s + 1) = a at *
        generalize m / 2 ^ (s + 1) = d at *
        generalize (2 : Int) ^ s = g at *
        by_cases c1 : a > g
        · rw [if_pos c1] at J ⊢
          exact Ev.pos c1 J
        · rw [if_neg c1] at J ⊢
          refine Ev.neg c1 ?_
          by_cases c2 : a = g
          · rw [if_pos c2] at J ⊢
            refine Ev.pos c2 ?_
            by_cases c3 : more = true
            · rw [if_pos c3] at J ⊢
              exact Ev.pos c3 J
            · rw [if_neg c3] at J ⊢
              refine Ev.neg c3 ?_
              by_cases c4 : d % 2 = 1
              · rw [if_pos c4] at J ⊢
                exact Ev.pos c4 J
              · rw [if_neg c4] at J ⊢
                exact Ev.neg c4 J
          · rw [if_neg c2] at J ⊢
            exact Ev.neg c2 J
      · refine Ev.neg c2 (Ev.neg (by decide) (Ev.neg (by decide) ?_))
        have k0 : rq (2 ^ (s + 1)) (2 ^ s) m more = 0 := by
          have e62 : (2 : Int) ^ 62 = 4611686018427387904 := by decide
          have h1 := p2_le (a := 62) (b := s + 1) (by omega)
          have h2 := p2_le (a := 62) (b := s) (by omega)
          unfold rq
          rw [Int.emod_eq_of_lt (by omega) (by omega), Int.ediv_eq_zero_of_lt (by omega) (by omega), if_neg (by omega), if_neg (by omega)]
        rw [k0] at J ⊢
        exact J
  by_cases c : (L : Int) - 1 + e - 10 < -24
  · have hM : max ((L : Int) - 1 + e - 10) (-24) = -24 := by omega
    rw [hM]
    exact Ev.pos c (key _ hM.symm)
  · have hM : max ((L : Int) - 1 + e - 10) (-24) = (L : Int) - 1 + e - 10 := by omega
    rw [hM]
    exact Ev.neg c (key _ hM.symm)

theorem implSigned23 {a : Int} (neg : Bool) (h0 : 0 ≤ a) (h1 : a < 2147483648) : impl_format_signed.f 23 127 neg a = some (sg 2147483648 neg + a) := by
  have e : impl_format_sign.f 23 127 = some 2147483648 := by decide +kernel
  unfold impl_format_signed.f
  cases neg with
  | false =>
    rw [if_neg (by decide)]
    simp [sg]
  | true =>
    rw [if_pos rfl, e, Option.bind_some, or32' 31 (by decide) (by decide) (by decide) (by decide) h0 (by simp; omega) (by omega)]
    simp [sg]
theorem implInf23 (neg : Bool) : impl_format_infinite.f 23 127 neg = some (sg 2147483648 neg + 2139095040) := by
  have tp : impl_format_top.f 23 127 = some 255 := by decide +kernel
  have sh : shl .u32 255 23 = 2139095040 := by decide +kernel
  unfold impl_format_infinite.f
  rw [tp, Option.bind_some, if_pos (by decide), sh, implSigned23 neg (by omega) (by omega), Option.bind_some]
theorem implRnd23 {m e : Int} {L : Nat} (neg more : Bool) (hm : IsLen m L) (hL : L ≤ 62) (e0 : -1000 ≤ e) (e1 : e ≤ 1000) :
    Ev (fun k => impl_format_round.f k 23 127 neg m e more) (sg 2147483648 neg + code 23 (-149) 255 L m e more) := by
  have m0 : 0 < m := by
    have := hm.2.1
    have := p2_pos (L - 1)
    omega
  have m1 : m < 4611686018427387904 := by
    have := hm.2.2
    have := p2_le hL
    have e62 : (2 : Int) ^ 62 = 4611686018427387904 := by decide
    omega
  have L1 := hm.1
  have tp : impl_format_top.f 23 127 = some 255 := by decide +kernel
  have j1 : ∀ (q K : Int), -149 ≤ q → q ≤ 1200 → 0 ≤ K → K < 16777216 → (-149 < q → 8388608 ≤ K) → Ev (fun k => impl_format_round.j1 k neg q K 23 127) (sg 2147483648 neg + min ((q + 149) * 8388608 + K) 2139095040) := by
    intro q K a0 a1 a2 a3 a4
    have s0 : shl .u64 1 23 = 8388608 := by decide +kernel
    have e1 : wrap64 (wrap64 (q + 127) + 23) = q + 127 + 23 := by unfold wrap64; omega
    have e2 : (q + 127 + 23) % 4294967296 = q + 127 + 23 := by omega
    refine Ev.step (g := fun _ => some (sg 2147483648 neg + min ((q + 149) * 8388608 + K) 2139095040)) (fun k => ?_) (Ev.const _)
    simp only [impl_format_round.j1, s0, tp, Option.bind_some, e1, e2]
    rw [if_pos (by decide)]
    by_cases c : K < 8388608
    · rw [if_pos c]
      have e3 : K % 4294967296 = K := by omega
      rw [e3, implSigned23 neg a2 (by omega), Option.bind_some]
      congr 2
      have : q = -149 := by omega
      omega
    · rw [if_neg c]
      have w31 : wrap64 255 = 255 := by decide +kernel
      rw [w31]
      by_cases d : q + 127 + 23 ≥ 255
      · rw [if_pos d, implInf23, Option.bind_some]
        congr 2
        omega
      · rw [if_neg d]
        have e3 : shl .u32 (q + 127 + 23) 23 = (q + 127 + 23) * 8388608 := by
          unfold shl
          have e : min ((23 : Int)).toNat IntKind.u32.bits = 23 := by decide
          have e' : (2 : Int) ^ 23 = 8388608 := by decide
          rw [e, e']
          exact u32_id (by omega) (by omega)
        have e4 : IntKind.u64.wrap (K - 8388608) = K - 8388608 := u64_id (by omega) (by omega)
        have e5 : (K - 8388608) % 4294967296 = K - 8388608 := by omega
        have e6 : Go.bits .or .u32 ((q + 127 + 23) * 8388608) (K - 8388608) = (q + 127 + 23) * 8388608 + (K - 8388608) := or32 23 (by omega) (by omega) (by omega) (by omega) (by omega) (by simp; omega) (by omega)
        rw [e3, e4, e5, e6, implSigned23 neg (by omega) (by omega), Option.bind_some]
        congr 2
        omega
  have j0 : ∀ (q K : Int), -149 ≤ q → q ≤ 1100 → 0 ≤ K → K ≤ 16777216 → (-149 < q → 8388608 ≤ K) → Ev (fun k => impl_format_round.j0 k neg q K 23 127) (sg 2147483648 neg + min ((q + 149) * 8388608 + K) 2139095040) := by
    intro q K a0 a1 a2 a3 a4
    have s0 : shl .u64 2 23 = 16777216 := by decide +kernel
    have s1 : shl .u64 1 23 = 8388608 := by decide +kernel
    by_cases c : K = 16777216
    · have e : wrap64 (q + 1) = q + 1 := by unfold wrap64; omega
      have g := j1 (q + 1) 8388608 (by omega) (by omega) (by omega) (by omega) (by omega)
      have e2 : min ((q + 1 + 149) * 8388608 + 8388608) 2139095040 = min ((q + 149) * 8388608 + K) 2139095040 := by omega
      rw [e2] at g
      refine Ev.step (fun k => ?_) g
      simp only [impl_format_round.j0, s0, s1, e]
      rw [if_pos (by decide), if_pos c]
    · refine Ev.step (fun k => ?_) (j1 q K a0 (by omega) a2 (by omega) a4)
      simp only [impl_format_round.j0, s0]
      rw [if_pos (by decide), if_neg c]
  have hb := kr_bd (p := 23) (e := e) (q := max ((L : Int) - 1 + e - 23) (-149)) more hm (by omega)
  unfold impl_format_round.f
  refine Ev.neg (by omega) ?_
  obtain ⟨L', hL', _, hE⟩ := implLen (x := m) m0 (by omega)
  obtain rfl := len_uniq hL' hm
  refine Ev.bind hE ?_
  have hq : mx (wrap64 ((wrap64 ((wrap64 ((L' : Int) - 1)) + e)) - 23)) (wrap64 ((wrap64 (1 - 127)) - 23)) = max ((L' : Int) - 1 + e - 23) (-149) := by
    rw [w64_id (n := (L' : Int) - 1) (by omega) (by omega), w64_id (n := (L' : Int) - 1 + e) (by omega) (by omega), w64_id (n := (L' : Int) - 1 + e - 23) (by omega) (by omega), show wrap64 (wrap64 (1 - 127) - 23) = -149 by decide +kernel]
    unfold mx
    split <;> omega
  have hc : code 23 (-149) 255 L' m e more = min ((max ((L' : Int) - 1 + e - 23) (-149) + 149) * 8388608 + kr m (max ((L' : Int) - 1 + e - 23) (-149) - e) more) 2139095040 := by
    unfold code
    rw [show (2 : Int) ^ 23 = 8388608 by decide, show ((23 : Nat) : Int) = 23 from rfl]
    congr 1
  rw [hc]
  simp only [hq]
  have q0 : -149 ≤ max ((L' : Int) - 1 + e - 23) (-149) := by omega
  have q1 : max ((L' : Int) - 1 + e - 23) (-149) ≤ 1100 := by omega
  have q2 : -149 < max ((L' : Int) - 1 + e - 23) (-149) → max ((L' : Int) - 1 + e - 23) (-149) = (L' : Int) - 1 + e - 23 := by omega
  rw [show (2 : Int) ^ (23 + 1) = 16777216 by decide, show (2 : Int) ^ 23 = 8388608 by decide, show ((23 : Nat) : Int) = 23 from rfl] at hb
  obtain ⟨b0, b1, b2⟩ := hb
  generalize max ((L' : Int) - 1 + e - 23) (-149) = q at *
  have b3 : -149 < q → 8388608 ≤ kr m (q - e) more := fun h => b2 (q2 h)
  have hs : wrap64 (q - e) = q - e := w64_id (by omega) (by omega)
  simp only [hs]
  clear hq hc b2
  have J := j0 q (kr m (q - e) more) q0 q1 b0 b1 b3
  clear j0 j1
  by_cases c1 : q - e > 62
  · refine Ev.pos c1 ?_
    have k0 : kr m (q - e) more = 0 := by
      unfold kr
      rw [if_neg (by omega)]
      obtain ⟨s, h⟩ : ∃ s : Nat, (q - e).toNat = s + 63 := ⟨(q - e).toNat - 63, by omega⟩
      rw [h]
      have e62 : (2 : Int) ^ 62 = 4611686018427387904 := by decide
      have h1 := p2_le (a := 62) (b := s + 63) (by omega)
      have h2 := p2_le (a := 62) (b := s + 63 - 1) (by omega)
      unfold rq
      rw [Int.emod_eq_of_lt (by omega) (by omega), Int.ediv_eq_zero_of_lt (by omega) (by omega), if_neg (by omega), if_neg (by omega)]
    rw [k0] at J ⊢
    exact J
  · refine Ev.neg c1 ?_
    by_cases c2 : q - e > 0
    · refine Ev.pos c2 ?_
      obtain ⟨s, h⟩ : ∃ s : Nat, q - e = ((s + 1 : Nat) : Int) := ⟨(q - e).toNat - 1, by omega⟩
      have hk : kr m (q - e) more = rq (2 ^ (s + 1)) (2 ^ s) m more := by
        unfold kr
        rw [if_neg (by omega), h, Int.toNat_natCast, Nat.add_sub_cancel]
      rw [hk] at J ⊢
      have s64 : s + 1 ≤ 62 := by omega
      have ps := p2_pos s
      have ps1 := p2_le s64
      have e62 : (2 : Int) ^ 62 = 4611686018427387904 := by decide
      have w1 : wrap64 (q - e - 1) = (s : Int) := by rw [w64_id (by omega) (by omega)]; omega
      have h2 : shl .u64 1 (s : Int) = 2 ^ s := by
        rw [shl64 s (by omega) (by omega) (by rw [p2_succ] at ps1; omega)]
        omega
      have h3 : IntKind.u64.wrap (IntKind.u64.wrap (2 * 2 ^ s) - 1) = 2 ^ (s + 1) - 1 := by
        rw [← p2_succ, u64_id (n := 2 ^ (s + 1)) (by have := p2_pos (s + 1); omega) (by omega), u64_id (by have := p2_pos (s + 1); omega) (by omega)]
      have h4 : Go.bits .and .u64 m (2 ^ (s + 1) - 1) = m % 2 ^ (s + 1) := and64 (s + 1) (by omega) (by omega) (by omega)
      have h5 : shr .u64 m (q - e) = m / 2 ^ (s + 1) := by rw [h]; exact shr64 m (s + 1) (by omega)
      have d0 : 0 ≤ m / 2 ^ (s + 1) := Int.ediv_nonneg (by omega) (by have := p2_pos (s + 1); omega)
      have d1 : m / 2 ^ (s + 1) ≤ m := Int.ediv_le_self _ (by omega)
      have h6 : Go.bits .and .u64 (m / 2 ^ (s + 1)) 1 = m / 2 ^ (s + 1) % 2 := and64 1 (by decide) d0 (by omega)
      have h7 : IntKind.u64.wrap (m / 2 ^ (s + 1) + 1) = m / 2 ^ (s + 1) + 1 := u64_id (by omega) (by omega)
      simp only [w1, h2, h3, h4, h5, h6, h7]
      refine Ev.pos (by omega) (Ev.pos (by omega) ?_)
      unfold rq at J ⊢
      clear h2 h3 h4 h5 h6 h7 hk ps1
      generalize m % 2 ^ (s + 1) = a at *
      generalize m / 2 ^ (s + 1) = d at *
      generalize (2 : Int) ^ s = g at *
      by_cases c1 : a > g
      · rw [if_pos c1] at J ⊢
        exact Ev.pos c1 J
      · rw [if_neg c1] at J ⊢
        refine Ev.neg c1 ?_
        by_cases c2 : a = g
        · rw [if_pos c2] at J ⊢
          refine Ev.pos c2 ?_
          by_cases c3 : more = true
          · rw [if_pos c3] at J ⊢
            exact Ev.pos c3 J
          · rw [if_neg c3] at J ⊢
            refine Ev.neg c3 ?_
            by_cases c4 : d % 2 = 1
            · rw [if_pos c4] at J ⊢
              exact Ev.pos c4 J
            · rw [if_neg c4] at J ⊢
              exact Ev.neg c4 J
        · rw [if_neg c2] at J ⊢
          exact Ev.neg c2 J
    · refine Ev.neg c2 ?_
      obtain ⟨s, h⟩ : ∃ s : Nat, -(q - e) = (s : Int) := ⟨(-(q - e)).toNat, by omega⟩
      have hk : kr m (q - e) more = m * 2 ^ s := by
        unfold kr
        rw [if_pos (by omega), h, Int.toNat_natCast]
      rw [hk] at J b1 ⊢
      have w1 : wrap64 (-(q - e)) = (s : Int) := by rw [w64_id (by omega) (by omega)]; omega
      have s64 : s ≤ 64 := by
        rcases Nat.lt_or_ge 64 s with c | c
        · exfalso
          have := p2_le (a := 64) (b := s) (by omega)
          have e64 : (2 : Int) ^ 64 = 18446744073709551616 := by decide
          have := Int.mul_le_mul_of_nonneg_right (show (1 : Int) ≤ m by omega) (show (0 : Int) ≤ 2 ^ s by omega)
          omega
        · exact c
      have h2 : shl .u64 m (s : Int) = m * 2 ^ s := shl64 s s64 (by omega) (by omega)
      simp only [w1, h2]
      exact Ev.pos (by omega) J
theorem specSign23 (neg : Bool) : spec_l4K_sign.f 8 23 neg = some (sg 2147483648 neg) := by
  cases neg <;> decide +kernel
theorem specInf23 (neg : Bool) : spec_l4K_inf.f 8 23 neg = some (sg 2147483648 neg + 2139095040) := by
  cases neg <;> decide +kernel
theorem orSg23 {a : Int} (neg : Bool) (h0 : 0 ≤ a) (h1 : a < 2147483648) : Go.bits .or .u32 (sg 2147483648 neg) a = sg 2147483648 neg + a := by
  cases neg with
  | false => exact or32 31 (by decide) (by decide) (by decide) (by decide) h0 (by simp; omega) (by omega)
  | true => exact or32 31 (by decide) (by decide) (by decide) (by decide) h0 (by simp; omega) (by omega)
theorem orSg223 {a b : Int} (neg : Bool) (h0 : 0 ≤ a) (h1 : a < 255) (h2 : 0 ≤ b) (h3 : b < 8388608) : Go.bits .or .u32 (Go.bits .or .u32 (sg 2147483648 neg) (a * 8388608)) b = sg 2147483648 neg + (a * 8388608 + b) := by
  rw [orSg23 neg (by omega) (by omega)]
  have hs : sg 2147483648 neg = 0 ∨ sg 2147483648 neg = 2147483648 := by cases neg <;> simp [sg]
  rw [or32 23 (by decide) (by omega) (by simp; omega) (by omega) h2 (by simp; omega) (by omega)]
  omega
theorem specRnd23 {m e : Int} {L : Nat} (neg more : Bool) (hm : IsLen m L) (hL : L ≤ 62) (e0 : -1000 ≤ e) (e1 : e ≤ 1000) :
    Ev (fun k => spec_l4K_round.f k 8 23 neg m e more) (sg 2147483648 neg + code 23 (-149) 255 L m e more) := by
  have m0 : 0 < m := by
    have := hm.2.1
    have := p2_pos (L - 1)
    omega
  have m1 : m < 4611686018427387904 := by
    have := hm.2.2
    have := p2_le hL
    have e62 : (2 : Int) ^ 62 = 4611686018427387904 := by decide
    omega
  have L1 := hm.1
  have hle : spec_l4K_least.f 8 23 = some (-149) := by decide +kernel
  have j2 : ∀ (q K : Int), -149 ≤ q → q ≤ 1200 → 0 ≤ K → K < 16777216 → (-149 < q → 8388608 ≤ K) → Ev (fun k => spec_l4K_round.j2 k neg K q 8 23) (sg 2147483648 neg + min ((q + 149) * 8388608 + K) 2139095040) := by
    intro q K a0 a1 a2 a3 a4
    have s0 : shl .u64 1 23 = 8388608 := by decide +kernel
    have e1 : wrap64 (wrap64 (q - -149) + 1) = q + 149 + 1 := by unfold wrap64; omega
    have e2 : (q + 149 + 1) % 4294967296 = q + 149 + 1 := by omega
    have e3 : K % 4294967296 = K := by omega
    refine Ev.step (g := fun _ => some (sg 2147483648 neg + min ((q + 149) * 8388608 + K) 2139095040)) (fun k => ?_) (Ev.const _)
    simp only [spec_l4K_round.j2, s0, specSign23, specInf23, hle, Option.bind_some, e1, e2, e3]
    rw [if_pos (by decide)]
    by_cases c : K < 8388608
    · rw [if_pos c, orSg23 neg a2 (by omega)]
      congr 2
      have : q = -149 := by omega
      omega
    · rw [if_neg c, if_pos (by decide), show wrap64 (shl .i64 1 8 - 1) = 255 by decide +kernel]
      by_cases d : q + 149 + 1 ≥ 255
      · rw [if_pos d]
        congr 2
        omega
      · rw [if_neg d]
        have e3 : shl .u32 (q + 149 + 1) 23 = (q + 149 + 1) * 8388608 := by
          unfold shl
          have e : min ((23 : Int)).toNat IntKind.u32.bits = 23 := by decide
          have e' : (2 : Int) ^ 23 = 8388608 := by decide
          rw [e, e']
          exact u32_id (by omega) (by omega)
        have e4 : (shl .u32 1 23 - 1) % 4294967296 = 2 ^ 23 - 1 := by decide +kernel
        have e5 : Go.bits .and .u32 K (2 ^ 23 - 1) = K - 8388608 := by
          rw [and32 23 (by decide) (by omega) (by omega), show (2 : Int) ^ 23 = 8388608 by decide]
          omega
        rw [e3, e4, e5, orSg223 neg (by omega) (by omega) (by omega) (by omega)]
        congr 2
        omega
  have j1 : ∀ (q K : Int), -149 ≤ q → q ≤ 1100 → 0 ≤ K → K ≤ 16777216 → (-149 < q → 8388608 ≤ K) → Ev (fun k => spec_l4K_round.j1 k neg K q 8 23) (sg 2147483648 neg + min ((q + 149) * 8388608 + K) 2139095040) := by
    intro q K a0 a1 a2 a3 a4
    have s0 : shl .u64 1 (IntKind.u64.wrap (23 + 1)) = 16777216 := by decide +kernel
    by_cases c : K = 16777216
    · have e : wrap64 (q + 1) = q + 1 := by unfold wrap64; omega
      have g := j2 (q + 1) 8388608 (by omega) (by omega) (by omega) (by omega) (by omega)
      have e2 : min ((q + 1 + 149) * 8388608 + 8388608) 2139095040 = min ((q + 149) * 8388608 + K) 2139095040 := by omega
      rw [e2] at g
      refine Ev.step (fun k => ?_) g
      simp only [spec_l4K_round.j1, s0, e]
      rw [if_pos (by decide), if_pos c, c, show (16777216 : Int) / 2 = 8388608 by decide]
    · refine Ev.step (fun k => ?_) (j2 q K a0 (by omega) a2 (by omega) a4)
      simp only [spec_l4K_round.j1, s0]
      rw [if_pos (by decide), if_neg c]
  have hb := kr_bd (p := 23) (e := e) (q := max ((L : Int) - 1 + e - 23) (-149)) more hm (by omega)
  unfold spec_l4K_round.f
  refine Ev.neg (by omega) ?_
  refine Ev.bind (specLen hm (by omega)) ?_
  simp only [hle, Option.bind_some]
  have hw : wrap64 (wrap64 (wrap64 (e + (L : Int)) - wrap64 23) - 1) = (L : Int) - 1 + e - 23 := by
    rw [show wrap64 23 = 23 by decide +kernel, w64_id (n := e + (L : Int)) (by omega) (by omega), w64_id (n := e + (L : Int) - 23) (by omega) (by omega), w64_id (by omega) (by omega)]
    omega
  simp only [hw]
  have hc : code 23 (-149) 255 L m e more = min ((max ((L : Int) - 1 + e - 23) (-149) + 149) * 8388608 + kr m (max ((L : Int) - 1 + e - 23) (-149) - e) more) 2139095040 := by
    unfold code
    rw [show (2 : Int) ^ 23 = 8388608 by decide, show ((23 : Nat) : Int) = 23 from rfl]
    congr 1
  rw [hc]
  have key : ∀ q : Int, q = max ((L : Int) - 1 + e - 23) (-149) → Ev (fun k => spec_l4K_round.j0 k neg m e more q 8 23) (sg 2147483648 neg + min ((q + 149) * 8388608 + kr m (q - e) more) 2139095040) := by
    intro q hq
    have q0 : -149 ≤ q := by omega
    have q1 : q ≤ 1100 := by omega
    have q2 : -149 < q → q = (L : Int) - 1 + e - 23 := by omega
    rw [show (2 : Int) ^ (23 + 1) = 16777216 by decide, show (2 : Int) ^ 23 = 8388608 by decide, show ((23 : Nat) : Int) = 23 from rfl, ← hq] at hb
    obtain ⟨b0, b1, b2⟩ := hb
    have b3 : -149 < q → 8388608 ≤ kr m (q - e) more := fun h => b2 (q2 h)
    have hs : wrap64 (q - e) = q - e := w64_id (by omega) (by omega)
    have J := j1 q (kr m (q - e) more) q0 q1 b0 b1 b3
    clear j1 j2 b2 hc
    refine Ev.step (g := fun k => _) (fun k => by simp only [spec_l4K_round.j0, hs]; rfl) ?_
    by_cases c1 : q - e ≤ 0
    · refine Ev.pos c1 ?_
      obtain ⟨s, h⟩ : ∃ s : Nat, -(q - e) = (s : Int) := ⟨(-(q - e)).toNat, by omega⟩
      have hk : kr m (q - e) more = m * 2 ^ s := by
        unfold kr
        rw [if_pos (by omega), h, Int.toNat_natCast]
      rw [hk] at J b1 ⊢
      have s64 : s ≤ 64 := by
        rcases Nat.lt_or_ge 64 s with c | c
        · exfalso
          have := p2_le (a := 64) (b := s) (by omega)
          have e64 : (2 : Int) ^ 64 = 18446744073709551616 := by decide
          have := Int.mul_le_mul_of_nonneg_right (show (1 : Int) ≤ m by omega) (show (0 : Int) ≤ 2 ^ s by omega)
          omega
        · exact c
      have w1 : IntKind.u64.wrap (wrap64 (-(q - e))) = (s : Int) := by rw [w64_id (by omega) (by omega), u64_id (by omega) (by omega)]; omega
      have h2 : shl .u64 m (s : Int) = m * 2 ^ s := shl64 s s64 (by omega) (by omega)
      simp only [w1, h2]
      exact Ev.pos (by omega) J
    · refine Ev.neg c1 ?_
      obtain ⟨s, h⟩ : ∃ s : Nat, q - e = ((s + 1 : Nat) : Int) := ⟨(q - e).toNat - 1, by omega⟩
      have hk : kr m (q - e) more = rq (2 ^ (s + 1)) (2 ^ s) m more := by
        unfold kr
        rw [if_neg (by omega), h, Int.toNat_natCast, Nat.add_sub_cancel]
      rw [hk] at J ⊢
      by_cases c2 : q - e < 64
      · refine Ev.pos c2 ?_
        have s64 : s + 1 ≤ 63 := by omega
        have ps := p2_pos s
        have ps1 := p2_le s64
        have e63 : (2 : Int) ^ 63 = 9223372036854775808 := by decide
        have w1 : IntKind.u64.wrap (wrap64 (q - e - 1)) = (s : Int) := by rw [w64_id (by omega) (by omega), u64_id (by omega) (by omega)]; omega
        have w2 : IntKind.u64.wrap (q - e) = ((s + 1 : Nat) : Int) := by rw [u64_id (by omega) (by omega)]; omega
        have h2 : shl .u64 1 (s : Int) = 2 ^ s := by
          rw [shl64 s (by omega) (by omega) (by rw [p2_succ] at ps1; omega)]
          omega
        have h2' : shl .u64 1 ((s + 1 : Nat) : Int) = 2 ^ (s + 1) := by
          rw [shl64 (s + 1) (by omega) (by omega) (by omega)]
          omega
        have h3 : IntKind.u64.wrap (2 ^ (s + 1) - 1) = 2 ^ (s + 1) - 1 := u64_id (by have := p2_pos (s + 1); omega) (by omega)
        have h4 : Go.bits .and .u64 m (2 ^ (s + 1) - 1) = m % 2 ^ (s + 1) := and64 (s + 1) (by omega) (by omega) (by omega)
        have h5 : shr .u64 m ((s + 1 : Nat) : Int) = m / 2 ^ (s + 1) := shr64 m (s + 1) (by omega)
        have d0 : 0 ≤ m / 2 ^ (s + 1) := Int.ediv_nonneg (by omega) (by have := p2_pos (s + 1); omega)
        have d1 : m / 2 ^ (s + 1) ≤ m := Int.ediv_le_self _ (by omega)
        have h6 : Go.bits .and .u64 (m / 2 ^ (s + 1)) 1 = m / 2 ^ (s + 1) % 2 := and64 1 (by decide) d0 (by omega)
        have h7 : IntKind.u64.wrap (m / 2 ^ (s + 1) + 1) = m / 2 ^ (s + 1) + 1 := u64_id (by omega) (by omega)
        simp only [w1, w2, h2, h2', h3, h4, h5, h6, h7]
        refine Ev.pos (by omega) (Ev.pos (by omega) ?_)
        unfold rq at J ⊢
        clear h2 h2' h3 h4 h5 h6 h7 hk ps1
        generalize m % 2 ^ (s + 1) = a at *
        generalize m / 2 ^ (s + 1) = d at *
        generalize (2 : Int) ^ s = g at *
        by_cases c1 : a > g
        · rw [if_pos c1] at J ⊢
          exact Ev.pos c1 J
        · rw [if_neg c1] at J ⊢
          refine Ev.neg c1 ?_
          by_cases c2 : a = g
          · rw [if_pos c2] at J ⊢
            refine Ev.pos c2 ?_
            by_cases c3 : more = true
            · rw [if_pos c3] at J ⊢
              exact Ev.pos c3 J
            · rw [if_neg c3] at J ⊢
              refine Ev.neg c3 ?_
              by_cases c4 : d % 2 = 1
              · rw [if_pos c4] at J ⊢
                exact Ev.pos c4 J
              · rw [if_neg c4] at J ⊢
                exact Ev.neg c4 J
          · rw [if_neg c2] at J ⊢
            exact Ev.neg c2 J
      · refine Ev.neg c2 (Ev.neg (by decide) (Ev.neg (by decide) ?_))
        have k0 : rq (2 ^ (s + 1)) (2 ^ s) m more = 0 := by
          have e62 : (2 : Int) ^ 62 = 4611686018427387904 := by decide
          have h1 := p2_le (a := 62) (b := s + 1) (by omega)
          have h2 := p2_le (a := 62) (b := s) (by omega)
          unfold rq
          rw [Int.emod_eq_of_lt (by omega) (by omega), Int.ediv_eq_zero_of_lt (by omega) (by omega), if_neg (by omega), if_neg (by omega)]
        rw [k0] at J ⊢
        exact J
  by_cases c : (L : Int) - 1 + e - 23 < -149
  · have hM : max ((L : Int) - 1 + e - 23) (-149) = -149 := by omega
    rw [hM]
    exact Ev.pos c (key _ hM.symm)
  · have hM : max ((L : Int) - 1 + e - 23) (-149) = (L : Int) - 1 + e - 23 := by omega
    rw [hM]
    exact Ev.neg c (key _ hM.symm)
end Go.Proofs.Ytdoflfifnkpacaa.FA
