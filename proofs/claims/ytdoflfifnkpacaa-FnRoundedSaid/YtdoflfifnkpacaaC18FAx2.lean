-- Printed by a program of this session (after the kit's print.sh, with contracts of its own beside): Lean checks it.
import Derived.Test.YtdoflfifnkpacaaC18FAx0
import Derived.Test.YtdoflfifnkpacaaC18FAx1
namespace Go.Proofs.Ytdoflfifnkpacaa.FA
open Go.RowKit Go.Proofs.YtdoflfifnkpacaaW.PrintWords Go.Proofs.YtdoflfifnkpacaaW.PrintLast Go.Proofs.YtdoflfifnkpacaaW.PrintMore
attribute [local go_sem] max2_int min2_int max_two min_two max_three min_three max_four min_four   -- for this text's walks alone
set_option linter.unusedVariables false
set_option linter.unusedSimpArgs false

def spec_l4K_inf.f (a0_0 : Int) (a0_1 : Int) (a1 : Bool) : Option (Int) := if 0 ≤ a0_0 then (if 0 ≤ a0_1 then ((spec_l4K_sign.f a0_0 a0_1 a1).bind fun t149 => (some (Go.bits .or .u32 (shl .u32 (((shl .u32 1 a0_0) - 1) % 4294967296) a0_1) t149))) else (none)) else (none)
set_option maxHeartbeats 8000000 in
set_option maxRecDepth 100000 in
theorem spec_l4K_inf.calls (a0_0 : Int) (a0_1 : Int) (a1 : Bool) (r : Int) (w : World) (h : spec_l4K_inf.f a0_0 a0_1 a1 = some r) :
  Calls Try.prog 115 #[.agg #[.int .u64 a0_0, .int .u64 a0_1], .bool a1] w fun e w' => e = .returned (.int .u32 r) ∧ Below w.heap.size w w' := by
 have hu109 := Try.underlying109
 have HB := Aside0.mk (Below.refl w.heap.size w)
 have H : (if 0 ≤ a0_0 then (if 0 ≤ a0_1 then ((spec_l4K_sign.f a0_0 a0_1 a1).bind fun t149 => (some (Go.bits .or .u32 (shl .u32 (((shl .u32 1 a0_0) - 1) % 4294967296) a0_1) t149))) else (none)) else (none)) = some r := h
 clear h
 by_cases c3 : 0 ≤ a0_0
 ·rw [if_pos c3] at H
  have c3b0 := eq_true c3
  have c3b1 : decide (0 ≤ a0_0) = true := decide_eq_true c3
  clear c3
  obtain ⟨ji4, hji4⟩ : ∃ j_ : Int, (shl .u32 1 a0_0) = j_ := ⟨_, rfl⟩
  first | rw [hji4] at H | simp only [hji4] at H
  have hji4_ : (IntKind.u32.wrap (1 * 2 ^ min a0_0.toNat 32)) = ji4 := hji4
  have hji4z : a0_0 ≤ 32 → (IntKind.u32.wrap (1 * 2 ^ a0_0.toNat)) = ji4 := shl_small hji4
  have hji4u : (IntKind.u32.wrap (2 ^ min a0_0.toNat 32)) = ji4 := by have h_ := hji4_; rw [Int.one_mul] at h_; exact h_
  have hji4v : a0_0 ≤ 32 → (IntKind.u32.wrap (2 ^ a0_0.toNat)) = ji4 := fun hle_ => by have h_ := hji4z hle_; rw [Int.one_mul] at h_; exact h_
  by_cases c5 : 0 ≤ a0_1
  ·rw [if_pos c5] at H
   have c5b0 := eq_true c5
   have c5b1 : decide (0 ≤ a0_1) = true := decide_eq_true c5
   clear c5
   obtain ⟨ji6, hji6⟩ : ∃ j_ : Int, (shl .u32 (((ji4) - 1) % 4294967296) a0_1) = j_ := ⟨_, rfl⟩
   first | rw [hji6] at H | simp only [hji6] at H
   have hji6_ : (IntKind.u32.wrap ((((ji4) - 1) % 4294967296) * 2 ^ min a0_1.toNat 32)) = ji6 := hji6
   have hji6z : a0_1 ≤ 32 → (IntKind.u32.wrap ((((ji4) - 1) % 4294967296) * 2 ^ a0_1.toNat)) = ji6 := shl_small hji6
   replace H := Option.bind_eq_some_iff.mp H
   obtain ⟨t149, A70, H⟩ := H
   try dsimp only at H
   have A7 := Aside0.mk A70
   clear A70
   obtain rfl := Option.some.inj H
   go_enter Try.func115, Try.ntmps115
   go_wp2_with (first | ((with_reducible refine gate_dst (N := 2) rfl ?_); refine box_event ?hg (N := 2) ?hd (cs := #[.int .u64 a0_0, .int .u64 a0_1]) (t := 109) ?hr ?_; (case hd => rfl); (case hg => rfl); (case hr => first | (go_simp; done) | (go_simp; rfl)); intro gb148 hg w8 hbox hb; have BK148 := Aside0.mk (hbox); have GW148 := Aside0.mk (gs_ hg (eb_ HB.out) : w.heap.size ≤ gb148); have GE148 := GW148; replace HB := eh_ hb; clear hb hbox hg; obtain ⟨_, _, _, _⟩ := zc2_ BK148.out) | ((with_reducible refine gate_callee (f := 116) rfl ?_); refine gl_ (some 16) rfl rfl Try.func116 (by kernel_rfl) rfl #[.agg #[.int .u64 a0_0, .int .u64 a0_1], .bool a1] rfl ?_; (with_reducible refine (spec_l4K_sign.calls a0_0 a0_1 a1 t149 _ A7.out).mono ?_); rintro e w10 ⟨rfl, hb⟩; refine ⟨_, rfl, ?_⟩; replace BK148 := bb_ BK148 hb; replace HB := eh_ hb; (try clear hb)))
   go_ret
   exact ⟨by first | rfl | (simp [errW_none, errW_some] <;> rfl) | (simp only [← hji4, ← hji6]; first | rfl | (simp [errW_none, errW_some] <;> rfl)) | (simp [*, errW_none, errW_some] <;> rfl), es_⟩
  ·rw [if_neg c5] at H
   exact absurd H (by simp)
 ·rw [if_neg c3] at H
  exact absurd H (by simp)

def spec_l4Len.l0 : Nat → Int → Int → Option (Int)
 | 0, _, _ => none
 | k + 1, x0, x3 => if x0 > 0 then (spec_l4Len.l0 k (x0 / 2) (wrap64 (x3 + 1))) else (some x3)
def spec_l4Len.f (k : Nat) (a0 : Int) : Option (Int) := spec_l4Len.l0 k a0 0
theorem spec_l4Len.mono_l : ∀ k, (∀ y0 y1, LeO (spec_l4Len.l0 k y0 y1) (spec_l4Len.l0 (k + 1) y0 y1))
 | 0 => fun _ _ r h => by simp [spec_l4Len.l0] at h
 | k + 1 => by
  have ih0 := spec_l4Len.mono_l k
  ·intro y0 y1
   unfold spec_l4Len.l0
   repeat' first
   | (with_reducible exact ih0 _ _)
   | (with_reducible exact LeO.refl _)
   | (with_reducible exact LeO.none _)
   | (with_reducible refine LeO.ite ?_ ?_)
   | (with_reducible refine LeO.bind ?_ (fun _ => ?_))
   | exact ih0 _ _
   | exact LeO.none _
   | refine LeO.ite ?_ ?_
   | refine LeO.bind ?_ (fun _ => ?_)
theorem spec_l4Len.mono : ∀ a0 k, LeO (spec_l4Len.f k a0) (spec_l4Len.f (k + 1) a0) := by
 intro a0 k
 have ih0 := spec_l4Len.mono_l k
 unfold spec_l4Len.f
 repeat' first
   | (with_reducible exact ih0 _ _)
   | (with_reducible exact LeO.refl _)
   | (with_reducible exact LeO.none _)
   | (with_reducible refine LeO.ite ?_ ?_)
   | (with_reducible refine LeO.bind ?_ (fun _ => ?_))
   | exact ih0 _ _
   | exact LeO.none _
   | refine LeO.ite ?_ ?_
   | refine LeO.bind ?_ (fun _ => ?_)
set_option maxHeartbeats 8000000 in
set_option maxRecDepth 100000 in
theorem spec_l4Len.calls (k : Nat) (a0 : Int) (r : Int) (w : World) (h : spec_l4Len.f k a0 = some r) :
  Calls Try.prog 118 #[.int .u64 a0] w fun e w' => e = .returned (.int .i64 r) ∧ Drawn0 w w' := by
 have H : (spec_l4Len.l0 k a0 0) = some r := h
 clear h
 have H' := Aside0.mk H
 clear H
 go_enter Try.func118, Try.ntmps118
 go_wp2
 go_loopg [0, 3] k (fun kq v0 v3 w' => ∃ (x0_1 : Int) (x3_1 : Int), v0 = .int .u64 x0_1 ∧ v3 = .int .i64 x3_1 ∧ Aside0 (spec_l4Len.l0 kq x0_1 x3_1 = some r) ∧ Aside0 (kq ≤ k) ∧ Drawn0 w w')
 case atStart => exact ⟨(a0), (0), (by first | rfl | (simp; done) | (simp [*]; done)), (by first | rfl | (simp; done) | (simp [*]; done)), H', ⟨Nat.le_refl _⟩, by repeat (first | exact Drawn0.refl _ | apply Drawn0.step)⟩
 case round =>
  clear H'
  obtain ⟨x0_1, x3_1, rfl, rfl, HA, HK1, ⟨m1, rfl⟩⟩ := hrel
  cases gk with
  | zero => exact absurd HA.out (by simp [spec_l4Len.l0])
  | succ k1 =>
   have H := HA.out
   clear HA
   simp only [spec_l4Len.l0] at H
   by_cases c2 : x0_1 > 0
   ·rw [if_pos c2] at H
    have c2b0 : decide (0 < x0_1) = true := decide_eq_true c2
    clear c2
    have H' := Aside0.mk H
    clear H
    go_wp2
    go_roundg k1
    case measure => have := HK1.out; omega
    case rel => exact ⟨(x0_1 / 2), (wrap64 (x3_1 + 1)), (by first | rfl | (simp; done) | (simp [*]; done)), (by first | rfl | (simp; done) | (simp [*]; done)), H', ⟨by have := HK1.out; omega⟩, by repeat (first | exact Drawn0.refl _ | apply Drawn0.step)⟩
   ·rw [if_neg c2] at H
    have c2b0 : decide (0 < x0_1) = false := decide_eq_false c2
    clear c2
    obtain rfl := Option.some.inj H
    go_wp2
    go_ret
    exact ⟨by first | rfl | (simp; done) | (simp [*]; done), by repeat (first | exact Drawn0.refl _ | apply Drawn0.step)⟩

end Go.Proofs.Ytdoflfifnkpacaa.FA
