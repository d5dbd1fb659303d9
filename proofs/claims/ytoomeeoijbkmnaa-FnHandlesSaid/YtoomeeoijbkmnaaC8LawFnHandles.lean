/-
  The law FnHandles: for every argument it returns true, and its arguments read as they did.
  No condition.
-/
import Derived.Test.YtoomeeoijbkmnaaRows
import Derived.Test.YtoomeeoijbkmnaaC8Lift
import Derived.Test.YtoomeeoijbkmnaaC8Slices8
import Derived.Test.YtoomeeoijbkmnaaC8HanJoin
namespace Go.Proofs.Ytoomeeoijbkmnaa.fnHandles
open Go.ChangeShapes Go.WideShapes Go.ChangeAt Go.RowKit Go.Proofs.Ytoomeeoijbkmnaa.Op
set_option linter.unusedVariables false
theorem own : ownKnob Try.prog.godebug = none := by kernel_rfl
theorem laidOut : laidOutB Try.prog = true := by kernel_rfl
theorem walk0 (W : World) (args : List Value) (hl : args.length = Try.f9.params.toList.length) (ha : ∀ (j : Nat) (t : TypeId) (v : Value), Try.f9.params.toList[j]? = some t → args[j]? = some v → ArgOk Try.prog W t v) :
    Calls Try.prog 9 args.toArray W fun e W' => e = .returned (.bool true) ∧ Below W.heap.size W W' := by
  rw [Try.params9] at hl ha
  obtain ⟨v0, rfl⟩ : ∃ v0, args = [v0] := by
    match args, hl with
    | [v0], _ => exact ⟨v0, rfl⟩
  have q0 := ha 0 65 v0 rfl rfl
  have g0 := ArgOk.reads q0 (Op.rd65 (W := W))
  obtain ⟨a0, a0_l, a0_c, rfl⟩ := ArgOk.slice Try.underlying65 q0
  obtain ⟨la0, za0, hCa0, hca0, hBa0, hQa0⟩ := PH.slice65 g0
  subst za0
  exact PH.walked_FnHandles a0 a0_c la0 W hCa0 hca0 hBa0 hQa0
theorem lifted1 (os : Os) (started : os.Started) (H : Type) (enc : TypeId × Value → H) :
    ReturnsInHanded {} Try.checked os 9 .any (Rows.fnHandlesSpec.pre6 enc Try.prog Try.f9 [] false) (Rows.fnHandlesSpec.post enc Try.prog Try.f9 false true false false) := by
  refine lifted (tb := 4) started own laidOut (by kernel_rfl) Try.func9 rfl (by kernel_rfl) Try.underlying4 ?_ ?_ (ChangeSpec.witness6 (enc := enc) (C := Try.checked) false ⟨#[], #[.slice none 0 0], []⟩ 8 (by kernel_rfl) (by kernel_rfl) (by kernel_rfl) (by kernel_rfl)) walk0
  · intro ds hd
    rw [Try.params9] at hd
    match ds, hd with
    | [_], _ => rfl
  · rw [Try.params9]
    intro t ht
    simp only [List.mem_cons, List.not_mem_nil, or_false] at ht
    subst ht
    all_goals exact ⟨by kernel_rfl, of_decide_eq_true (by kernel_rfl)⟩
theorem over : Rows.fnHandlesRow.holds Try.pinned (OpenSpec.ofChange Rows.fnHandlesSpec) :=
  OpenClaim.holds_of_wide 9 Try.f9 rfl rfl rfl rfl rfl rfl rfl ⟨rfl, rfl, rfl, rfl, rfl⟩ rfl rfl rfl rfl rfl (by kernel_rfl) Try.func9 (by kernel_rfl)
    (of_decide_eq_true (by kernel_rfl)) (by unfold Func.isWrapper; first | (rw [if_pos (by decide +kernel)]; kernel_rfl) | (rw [if_neg (by decide +kernel)]; exact ⟨rfl, rfl⟩))
    (fun os started H enc _ => lifted1 os started H enc)
end Go.Proofs.Ytoomeeoijbkmnaa.fnHandles
namespace Go.Proofs.Ytoomeeoijbkmnaa
theorem fnHandles_holds : Rows.FnHandlesSaid := fnHandles.over
#print axioms fnHandles_holds
end Go.Proofs.Ytoomeeoijbkmnaa
