/-
  The law FnLent: for every argument it returns true, and its arguments read as they did.
  No condition.
-/
import Derived.Test.YtoomeeoijbkmnaaRows
import Derived.Test.YtoomeeoijbkmnaaC9Lift
import Derived.Test.YtoomeeoijbkmnaaC9Slices8
import Derived.Test.YtoomeeoijbkmnaaC9LentJoin2
namespace Go.Proofs.Ytoomeeoijbkmnaa.fnLent
open Go.ChangeShapes Go.WideShapes Go.ChangeAt Go.RowKit Go.Proofs.Ytoomeeoijbkmnaa.Op
set_option linter.unusedVariables false
theorem own : ownKnob Try.prog.godebug = none := by kernel_rfl
theorem laidOut : laidOutB Try.prog = true := by kernel_rfl
theorem walk0 (W : World) (args : List Value) (hl : args.length = Try.f10.params.toList.length) (ha : ∀ (j : Nat) (t : TypeId) (v : Value), Try.f10.params.toList[j]? = some t → args[j]? = some v → ArgOk Try.prog W t v) :
    Calls Try.prog 10 args.toArray W fun e W' => e = .returned (.bool true) ∧ Below W.heap.size W W' := by
  rw [Try.params10] at hl ha
  obtain ⟨v0, rfl⟩ : ∃ v0, args = [v0] := by
    match args, hl with
    | [v0], _ => exact ⟨v0, rfl⟩
  have q0 := ha 0 65 v0 rfl rfl
  have g0 := ArgOk.reads q0 (Op.rd65 (W := W))
  obtain ⟨a0, a0_l, a0_c, rfl⟩ := ArgOk.slice Try.underlying65 q0
  obtain ⟨la0, za0, hCa0, hca0, hBa0, hQa0⟩ := PH.slice65 g0
  subst za0
  exact PH.walked_FnLent a0 a0_c la0 W hCa0 hca0 hBa0 hQa0
theorem lifted1 (os : Os) (started : os.Started) (H : Type) (enc : TypeId × Value → H) :
    ReturnsInHanded {} Try.checked os 10 .any (Rows.fnLentSpec.pre6 enc Try.prog Try.f10 [] false) (Rows.fnLentSpec.post enc Try.prog Try.f10 false true false false) := by
  refine lifted (tb := 4) started own laidOut (by kernel_rfl) Try.func10 rfl (by kernel_rfl) Try.underlying4 ?_ ?_ (ChangeSpec.witness6 (enc := enc) (C := Try.checked) false ⟨#[], #[.slice none 0 0], []⟩ 8 (by kernel_rfl) (by kernel_rfl) (by kernel_rfl) (by kernel_rfl)) walk0
  · intro ds hd
    rw [Try.params10] at hd
    match ds, hd with
    | [_], _ => rfl
  · rw [Try.params10]
    intro t ht
    simp only [List.mem_cons, List.not_mem_nil, or_false] at ht
    subst ht
    all_goals exact ⟨by kernel_rfl, of_decide_eq_true (by kernel_rfl)⟩
theorem over : Rows.fnLentRow.holds Try.pinned (OpenSpec.ofChange Rows.fnLentSpec) :=
  OpenClaim.holds_of_wide 10 Try.f10 rfl rfl rfl rfl rfl rfl rfl ⟨rfl, rfl, rfl, rfl, rfl⟩ rfl rfl rfl rfl rfl (by kernel_rfl) Try.func10 (by kernel_rfl)
    (of_decide_eq_true (by kernel_rfl)) (by unfold Func.isWrapper; first | (rw [if_pos (by decide +kernel)]; kernel_rfl) | (rw [if_neg (by decide +kernel)]; exact ⟨rfl, rfl⟩))
    (fun os started H enc _ => lifted1 os started H enc)
end Go.Proofs.Ytoomeeoijbkmnaa.fnLent
namespace Go.Proofs.Ytoomeeoijbkmnaa
theorem fnLent_holds : Rows.FnLentSaid := fnLent.over
#print axioms fnLent_holds
end Go.Proofs.Ytoomeeoijbkmnaa
