/-
  The law FnExactEnterPart: for every argument it returns true, and its arguments read as they did.
  No condition.
-/
import Derived.Test.YtoomeeoijbkmnaaRows
import Derived.Test.YtoomeeoijbkmnaaLift
import Derived.Test.YtoomeeoijbkmnaaReads
import Derived.Test.YtoomeeoijbkmnaaPureFnExactEnterPart
namespace Go.Proofs.Ytoomeeoijbkmnaa.fnExactEnterPart
open Go.ChangeShapes Go.WideShapes Go.ChangeAt Go.RowKit Go.Proofs.Ytoomeeoijbkmnaa.Op
set_option linter.unusedVariables false
theorem own : ownKnob Try.prog.godebug = none := by kernel_rfl
theorem laidOut : laidOutB Try.prog = true := by kernel_rfl
theorem walk0 (W : World) (args : List Value) (hl : args.length = Try.f4.params.toList.length) (ha : ∀ (j : Nat) (t : TypeId) (v : Value), Try.f4.params.toList[j]? = some t → args[j]? = some v → ArgOk Try.prog W t v) :
    Calls Try.prog 4 args.toArray W fun e W' => e = .returned (.bool true) ∧ Below W.heap.size W W' := by
  rw [Try.params4] at hl ha
  obtain ⟨v0, rfl⟩ : ∃ v0, args = [v0] := by
    match args, hl with
    | [v0], _ => exact ⟨v0, rfl⟩
  have q0 := ha 0 27 v0 rfl rfl
  have g0 := ArgOk.reads q0 (Op.rd27 (W := W))
  obtain ⟨cs0, rfl⟩ := ArgOk.struct Try.underlying27 q0
  obtain ⟨a0_0, a0_1_0_0, a0_1_0_1, a0_1_1, a0_2, a0_3, a0_4, e0, ka0_0, ka0_1_0_0, ka0_1_0_1, ka0_1_1, ka0_2, ka0_3, ka0_4⟩ := g0
  obtain rfl := cells_eq e0
  obtain ⟨k, h⟩ := PFnExactEnterPart.pure_of W a0_0 a0_1_0_0 a0_1_0_1 a0_1_1 a0_2 a0_3 a0_4 ka0_0 ka0_1_0_0 ka0_1_0_1 ka0_1_1 ka0_2 ka0_3 ka0_4
  refine (PFnExactEnterPart.laws_FnExactEnterPart.calls k a0_0 a0_1_0_0 a0_1_0_1 a0_1_1 a0_2 a0_3 a0_4 true W h).mono ?_
  rintro e w' ⟨rfl, hb⟩
  exact ⟨rfl, hb⟩
theorem lifted1 (os : Os) (started : os.Started) (H : Type) (enc : TypeId × Value → H) :
    ReturnsInHanded {} Try.checked os 4 .any (Rows.fnExactEnterPartSpec.pre6 enc Try.prog Try.f4 [] false) (Rows.fnExactEnterPartSpec.post enc Try.prog Try.f4 false true false false) := by
  refine lifted (tb := 4) started own laidOut (by kernel_rfl) Try.func4 rfl (by kernel_rfl) Try.underlying4 ?_ ?_ (ChangeSpec.witness6 (enc := enc) (C := Try.checked) false ⟨#[], #[.agg #[.string ByteArray.empty, .int .i64 0, .string ByteArray.empty, .int .i64 0, .int .i64 0, .bool false, .bool false]], []⟩ 8 (by kernel_rfl) (by kernel_rfl) (by kernel_rfl) (by kernel_rfl)) walk0
  · intro ds hd
    rw [Try.params4] at hd
    match ds, hd with
    | [_], _ => rfl
  · rw [Try.params4]
    intro t ht
    simp only [List.mem_cons, List.not_mem_nil, or_false] at ht
    subst ht
    all_goals exact ⟨by kernel_rfl, of_decide_eq_true (by kernel_rfl)⟩
theorem over : Rows.fnExactEnterPartRow.holds Try.pinned (OpenSpec.ofChange Rows.fnExactEnterPartSpec) :=
  OpenClaim.holds_of_wide 4 Try.f4 rfl rfl rfl rfl rfl rfl rfl ⟨rfl, rfl, rfl, rfl, rfl⟩ rfl rfl rfl rfl rfl (by kernel_rfl) Try.func4 (by kernel_rfl)
    (of_decide_eq_true (by kernel_rfl)) (by unfold Func.isWrapper; first | (rw [if_pos (by decide +kernel)]; kernel_rfl) | (rw [if_neg (by decide +kernel)]; exact ⟨rfl, rfl⟩))
    (fun os started H enc _ => lifted1 os started H enc)
end Go.Proofs.Ytoomeeoijbkmnaa.fnExactEnterPart
namespace Go.Proofs.Ytoomeeoijbkmnaa
theorem fnExactEnterPart_holds : Rows.FnExactEnterPartSaid := fnExactEnterPart.over
#print axioms fnExactEnterPart_holds
end Go.Proofs.Ytoomeeoijbkmnaa
