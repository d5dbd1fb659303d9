/-
  The functions of worlds: what they compute, and the laws of it.
-/
import Derived.StillTailTactics
import Derived.Lib.Hide
import Derived.Test.YtdoflfifnkpacaaC19WqPl
namespace Go.Proofs.Ytdoflfifnkpacaa.WO
open Go Go.RowKit Go.Proofs.YtdoflfifnkpacaaW.PrintWords Go.Proofs.YtdoflfifnkpacaaW.PrintLast Go.Proofs.YtdoflfifnkpacaaW.PrintMore
attribute [local go_sem] max2_int min2_int max_two min_two max_three min_three max_four min_four
set_option linter.unusedVariables false
set_option linter.unusedSimpArgs false
theorem walked_FnExactOwnersOf (A0 : Option Addr) (c0 : Nat) (T0 : List S159) (A1 : Option Addr) (c1 : Nat) (B0 : List S152) (A2 : Option Addr) (c2 : Nat) (C0 : List S162) (A3 : Option Addr) (c3 : Nat) (E0 : List Int) (thing : Int) (w : World)
    (hr0 : Kd.C k159 w A0 T0.length T0) (hc0 : T0.length ≤ c0) (hr1 : Kd.C k152 w A1 B0.length B0) (hc1 : B0.length ≤ c1) (hr2 : Kd.C k162 w A2 C0.length C0) (hc2 : C0.length ≤ c2) (hr3 : Kd.C (Kd.int .i64) w A3 E0.length E0) (hc3 : E0.length ≤ c3)
    (hT : T0.length * 16 ≤ 140737488351232) (hQ0 : ∀ x ∈ T0, wf64 x.f0) (hB : B0.length * 48 ≤ 140737488351232) (hQ1 : ∀ x ∈ B0, wf152 x) (hC : C0.length * 32 ≤ 140737488351232) (hQ2 : ∀ x ∈ C0, wf64 x.f0 ∧ wf64 x.f1 ∧ wf64 x.f2 ∧ wf64 x.f3) (hE : E0.length * 8 ≤ 140737488351232) (hQ3 : ∀ x ∈ E0, wf64 x) (hw : wf64 thing) :
    Calls Try.prog 6 #[.agg #[.slice A0 T0.length c0, .slice A1 B0.length c1, .slice A2 C0.length c2, .slice A3 E0.length c3], .int .i64 thing] w fun e w' => e = .returned (.bool true) ∧ Below w.heap.size w w' :=
  LA.law_OwnersOf thing A0 c0 T0 A1 c1 B0 A2 c2 C0 A3 c3 E0 w ⟨hr0, hc0, hr1, hc1, hr2, hc2, hr3, hc3⟩ hT hB hQ1 hC hE
end Go.Proofs.Ytdoflfifnkpacaa.WO
