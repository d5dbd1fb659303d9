/-
  The law FnExactMoveHandle: for every argument it returns true, and its arguments read as they did.
  No condition.
-/
import Derived.Test.YtoomeeoijbkmnaaRows
import Derived.Test.YtoomeeoijbkmnaaC12Lift
import Derived.Test.YtoomeeoijbkmnaaC12Reads
import Derived.Test.YtoomeeoijbkmnaaC12Slices
import Derived.Test.YtoomeeoijbkmnaaC12WalkMove
namespace Go.Proofs.Ytoomeeoijbkmnaa.fnExactMoveHandle
open Go.ChangeShapes Go.WideShapes Go.ChangeAt Go.RowKit Go.Proofs.Ytoomeeoijbkmnaa.Op
set_option linter.unusedVariables false
theorem own : ownKnob Try.prog.godebug = none := by kernel_rfl
theorem laidOut : laidOutB Try.prog = true := by kernel_rfl
theorem walk0 (W : World) (args : List Value) (hl : args.length = Try.f14.params.toList.length) (ha : ∀ (j : Nat) (t : TypeId) (v : Value), Try.f14.params.toList[j]? = some t → args[j]? = some v → ArgOk Try.prog W t v) :
    Calls Try.prog 14 args.toArray W fun e W' => e = .returned (.bool true) ∧ Below W.heap.size W W' := by
  rw [Try.params14] at hl ha
  obtain ⟨v0, v1, v2, rfl⟩ : ∃ v0 v1 v2, args = [v0, v1, v2] := by
    match args, hl with
    | [v0, v1, v2], _ => exact ⟨v0, v1, v2, rfl⟩
  have q0 := ha 0 43 v0 rfl rfl
  have g0 := ArgOk.reads q0 (Op.rd43 (W := W))
  obtain ⟨cs0, rfl⟩ := ArgOk.struct Try.underlying43 q0
  obtain ⟨a0_0, a0_0_l, a0_0_c, a0_1, a0_1_l, a0_1_c, e0, ka0_0, ka0_1⟩ := g0
  obtain rfl := cells_eq e0
  have q1 := ha 1 3 v1 rfl rfl
  have g1 := ArgOk.reads q1 (Op.rd3 (W := W))
  obtain ⟨a1, rfl⟩ := ArgOk.int Try.underlying3 q1
  have q2 := ha 2 3 v2 rfl rfl
  have g2 := ArgOk.reads q2 (Op.rd3 (W := W))
  obtain ⟨a2, rfl⟩ := ArgOk.int Try.underlying3 q2
  obtain ⟨la0_0, za0_0, hCa0_0, hca0_0, hBa0_0, hQa0_0⟩ := PH.slice40 ka0_0
  subst za0_0
  obtain ⟨la0_1, za0_1, hCa0_1, hca0_1, hBa0_1, hQa0_1⟩ := PH.slice41 ka0_1
  subst za0_1
  exact PH.walked_FnExactMoveHandle a0_0 a0_0_c la0_0 a0_1 a0_1_c la0_1 a1 a2 W hCa0_0 hca0_0 hCa0_1 hca0_1 hBa0_0 hBa0_1
theorem lifted1 (os : Os) (started : os.Started) (H : Type) (enc : TypeId × Value → H) :
    ReturnsInHanded {} Try.checked os 14 .any (Rows.fnExactMoveHandleSpec.pre6 enc Try.prog Try.f14 [] false) (Rows.fnExactMoveHandleSpec.post enc Try.prog Try.f14 false true false false) := by
  refine lifted (tb := 4) started own laidOut (by kernel_rfl) Try.func14 rfl (by kernel_rfl) Try.underlying4 ?_ ?_ (ChangeSpec.witness6 (enc := enc) (C := Try.checked) false ⟨#[], #[.agg #[.slice none 0 0, .slice none 0 0], .int .i64 0, .int .i64 0], []⟩ 8 (by kernel_rfl) (by kernel_rfl) (by kernel_rfl) (by kernel_rfl)) walk0
  · intro ds hd
    rw [Try.params14] at hd
    match ds, hd with
    | [_, _, _], _ => rfl
  · rw [Try.params14]
    intro t ht
    simp only [List.mem_cons, List.not_mem_nil, or_false] at ht
    rcases ht with rfl | rfl | rfl
    all_goals exact ⟨by kernel_rfl, of_decide_eq_true (by kernel_rfl)⟩
theorem over : Rows.fnExactMoveHandleRow.holds Try.pinned (OpenSpec.ofChange Rows.fnExactMoveHandleSpec) :=
  OpenClaim.holds_of_wide 14 Try.f14 rfl rfl rfl rfl rfl rfl rfl ⟨rfl, rfl, rfl, rfl, rfl⟩ rfl rfl rfl rfl rfl (by kernel_rfl) Try.func14 (by kernel_rfl)
    (of_decide_eq_true (by kernel_rfl)) (by unfold Func.isWrapper; first | (rw [if_pos (by decide +kernel)]; kernel_rfl) | (rw [if_neg (by decide +kernel)]; exact ⟨rfl, rfl⟩))
    (fun os started H enc _ => lifted1 os started H enc)
end Go.Proofs.Ytoomeeoijbkmnaa.fnExactMoveHandle
namespace Go.Proofs.Ytoomeeoijbkmnaa
theorem fnExactMoveHandle_holds : Rows.FnExactMoveHandleSaid := fnExactMoveHandle.over
#print axioms fnExactMoveHandle_holds
end Go.Proofs.Ytoomeeoijbkmnaa
