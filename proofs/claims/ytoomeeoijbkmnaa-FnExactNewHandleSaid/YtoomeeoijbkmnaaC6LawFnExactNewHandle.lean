/-
  The law FnExactNewHandle: for every argument it returns true, and its arguments read as they did.
  No condition.
-/
import Derived.Test.YtoomeeoijbkmnaaRows
import Derived.Test.YtoomeeoijbkmnaaC6Lift
import Derived.Test.YtoomeeoijbkmnaaC6Reads
import Derived.Test.YtoomeeoijbkmnaaC6Slices
import Derived.Test.YtoomeeoijbkmnaaC6WalkNew
namespace Go.Proofs.Ytoomeeoijbkmnaa.fnExactNewHandle
open Go.ChangeShapes Go.WideShapes Go.ChangeAt Go.RowKit Go.Proofs.Ytoomeeoijbkmnaa.Op
set_option linter.unusedVariables false
theorem own : ownKnob Try.prog.godebug = none := by kernel_rfl
theorem laidOut : laidOutB Try.prog = true := by kernel_rfl
theorem walk0 (W : World) (args : List Value) (hl : args.length = Try.f8.params.toList.length) (ha : ∀ (j : Nat) (t : TypeId) (v : Value), Try.f8.params.toList[j]? = some t → args[j]? = some v → ArgOk Try.prog W t v) :
    Calls Try.prog 8 args.toArray W fun e W' => e = .returned (.bool true) ∧ Below W.heap.size W W' := by
  rw [Try.params8] at hl ha
  obtain ⟨v0, v1, rfl⟩ : ∃ v0 v1, args = [v0, v1] := by
    match args, hl with
    | [v0, v1], _ => exact ⟨v0, v1, rfl⟩
  have q0 := ha 0 43 v0 rfl rfl
  have g0 := ArgOk.reads q0 (Op.rd43 (W := W))
  obtain ⟨cs0, rfl⟩ := ArgOk.struct Try.underlying43 q0
  obtain ⟨a0_0, a0_0_l, a0_0_c, a0_1, a0_1_l, a0_1_c, e0, ka0_0, ka0_1⟩ := g0
  obtain rfl := cells_eq e0
  have q1 := ha 1 60 v1 rfl rfl
  have g1 := ArgOk.reads q1 (Op.rd60 (W := W))
  obtain ⟨cs1, rfl⟩ := ArgOk.struct Try.underlying60 q1
  obtain ⟨a1_0, a1_1, a1_2, a1_3, a1_4, a1_5, e1, ka1_0, ka1_1, ka1_2, ka1_3, ka1_4, ka1_5⟩ := g1
  obtain rfl := cells_eq e1
  obtain ⟨la0_0, za0_0, hCa0_0, hca0_0, hBa0_0, hQa0_0⟩ := PH.slice40 ka0_0
  subst za0_0
  obtain ⟨la0_1, za0_1, hCa0_1, hca0_1, hBa0_1, hQa0_1⟩ := PH.slice41 ka0_1
  subst za0_1
  exact PH.walked_FnExactNewHandle a0_0 a0_0_c la0_0 a0_1 a0_1_c la0_1 ⟨a1_0, a1_1, a1_2, a1_3, a1_4, a1_5⟩ W hCa0_0 hca0_0 hCa0_1 hca0_1 hBa0_0 hBa0_1
theorem lifted1 (os : Os) (started : os.Started) (H : Type) (enc : TypeId × Value → H) :
    ReturnsInHanded {} Try.checked os 8 .any (Rows.fnExactNewHandleSpec.pre6 enc Try.prog Try.f8 [] false) (Rows.fnExactNewHandleSpec.post enc Try.prog Try.f8 false true false false) := by
  refine lifted (tb := 4) started own laidOut (by kernel_rfl) Try.func8 rfl (by kernel_rfl) Try.underlying4 ?_ ?_ (ChangeSpec.witness6 (enc := enc) (C := Try.checked) false ⟨#[], #[.agg #[.slice none 0 0, .slice none 0 0], .agg #[.bool false, .int .i64 0, .int .i64 0, .bool false, .int .i64 0, .int .i64 0]], []⟩ 8 (by kernel_rfl) (by kernel_rfl) (by kernel_rfl) (by kernel_rfl)) walk0
  · intro ds hd
    rw [Try.params8] at hd
    match ds, hd with
    | [_, _], _ => rfl
  · rw [Try.params8]
    intro t ht
    simp only [List.mem_cons, List.not_mem_nil, or_false] at ht
    rcases ht with rfl | rfl
    all_goals exact ⟨by kernel_rfl, of_decide_eq_true (by kernel_rfl)⟩
theorem over : Rows.fnExactNewHandleRow.holds Try.pinned (OpenSpec.ofChange Rows.fnExactNewHandleSpec) :=
  OpenClaim.holds_of_wide 8 Try.f8 rfl rfl rfl rfl rfl rfl rfl ⟨rfl, rfl, rfl, rfl, rfl⟩ rfl rfl rfl rfl rfl (by kernel_rfl) Try.func8 (by kernel_rfl)
    (of_decide_eq_true (by kernel_rfl)) (by unfold Func.isWrapper; first | (rw [if_pos (by decide +kernel)]; kernel_rfl) | (rw [if_neg (by decide +kernel)]; exact ⟨rfl, rfl⟩))
    (fun os started H enc _ => lifted1 os started H enc)
end Go.Proofs.Ytoomeeoijbkmnaa.fnExactNewHandle
namespace Go.Proofs.Ytoomeeoijbkmnaa
theorem fnExactNewHandle_holds : Rows.FnExactNewHandleSaid := fnExactNewHandle.over
#print axioms fnExactNewHandle_holds
end Go.Proofs.Ytoomeeoijbkmnaa
