/-
  The law FnExactOwnersOf: for every argument it returns true, and its arguments read as they did.
  No condition.
-/
import Derived.Test.YtdoflfifnkpacaaRows
import Derived.Test.YtdoflfifnkpacaaC19Lift
import Derived.Test.YtdoflfifnkpacaaC19Reads
import Derived.Test.YtdoflfifnkpacaaC19Slices
import Derived.Test.YtdoflfifnkpacaaC19WqRow
namespace Go.Proofs.Ytdoflfifnkpacaa.fnExactOwnersOf
open Go.ChangeShapes Go.WideShapes Go.ChangeAt Go.RowKit Go.Proofs.Ytdoflfifnkpacaa.Op
set_option linter.unusedVariables false
theorem own : ownKnob Try.prog.godebug = none := by kernel_rfl
theorem laidOut : laidOutB Try.prog = true := by kernel_rfl
theorem walk0 (W : World) (args : List Value) (hl : args.length = Try.f6.params.toList.length) (ha : ∀ (j : Nat) (t : TypeId) (v : Value), Try.f6.params.toList[j]? = some t → args[j]? = some v → ArgOk Try.prog W t v) :
    Calls Try.prog 6 args.toArray W fun e W' => e = .returned (.bool true) ∧ Below W.heap.size W W' := by
  rw [Try.params6] at hl ha
  obtain ⟨v0, v1, rfl⟩ : ∃ v0 v1, args = [v0, v1] := by
    match args, hl with
    | [v0, v1], _ => exact ⟨v0, v1, rfl⟩
  have q0 := ha 0 38 v0 rfl rfl
  have g0 := ArgOk.reads q0 (Op.rd38 (W := W))
  obtain ⟨cs0, rfl⟩ := ArgOk.struct Try.underlying38 q0
  obtain ⟨a0_0, a0_0_l, a0_0_c, a0_1, a0_1_l, a0_1_c, a0_2, a0_2_l, a0_2_c, a0_3, a0_3_l, a0_3_c, e0, ka0_0, ka0_1, ka0_2, ka0_3⟩ := g0
  obtain rfl := cells_eq e0
  have q1 := ha 1 3 v1 rfl rfl
  have g1 := ArgOk.reads q1 (Op.rd3 (W := W))
  obtain ⟨a1, rfl⟩ := ArgOk.int Try.underlying3 q1
  obtain ⟨la0_0, za0_0, hCa0_0, hca0_0, hBa0_0, hQa0_0⟩ := WO.slice33 ka0_0
  subst za0_0
  obtain ⟨la0_1, za0_1, hCa0_1, hca0_1, hBa0_1, hQa0_1⟩ := WO.slice34 ka0_1
  subst za0_1
  obtain ⟨la0_2, za0_2, hCa0_2, hca0_2, hBa0_2, hQa0_2⟩ := WO.slice35 ka0_2
  subst za0_2
  obtain ⟨la0_3, za0_3, hCa0_3, hca0_3, hBa0_3, hQa0_3⟩ := WO.slice36 ka0_3
  subst za0_3
  exact WO.walked_FnExactOwnersOf a0_0 a0_0_c la0_0 a0_1 a0_1_c la0_1 a0_2 a0_2_c la0_2 a0_3 a0_3_c la0_3 a1 W hCa0_0 hca0_0 hCa0_1 hca0_1 hCa0_2 hca0_2 hCa0_3 hca0_3 hBa0_0 hQa0_0 hBa0_1 hQa0_1 hBa0_2 hQa0_2 hBa0_3 hQa0_3 (WO.wf_of g1)
theorem lifted1 (os : Os) (started : os.Started) (H : Type) (enc : TypeId × Value → H) :
    ReturnsInHanded {} Try.checked os 6 .any (Rows.fnExactOwnersOfSpec.pre6 enc Try.prog Try.f6 [] false) (Rows.fnExactOwnersOfSpec.post enc Try.prog Try.f6 false true false false) := by
  refine lifted (tb := 4) started own laidOut (by kernel_rfl) Try.func6 rfl (by kernel_rfl) Try.underlying4 ?_ ?_ (ChangeSpec.witness6 (enc := enc) (C := Try.checked) false ⟨#[], #[.agg #[.slice none 0 0, .slice none 0 0, .slice none 0 0, .slice none 0 0], .int .i64 0], []⟩ 8 (by kernel_rfl) (by kernel_rfl) (by kernel_rfl) (by kernel_rfl)) walk0
  · intro ds hd
    rw [Try.params6] at hd
    match ds, hd with
    | [_, _], _ => rfl
  · rw [Try.params6]
    intro t ht
    simp only [List.mem_cons, List.not_mem_nil, or_false] at ht
    rcases ht with rfl | rfl
    all_goals exact ⟨by kernel_rfl, of_decide_eq_true (by kernel_rfl)⟩
theorem over : Rows.fnExactOwnersOfRow.holds Try.pinned (OpenSpec.ofChange Rows.fnExactOwnersOfSpec) :=
  OpenClaim.holds_of_wide 6 Try.f6 rfl rfl rfl rfl rfl rfl rfl ⟨rfl, rfl, rfl, rfl, rfl⟩ rfl rfl rfl rfl rfl (by kernel_rfl) Try.func6 (by kernel_rfl)
    (of_decide_eq_true (by kernel_rfl)) (by unfold Func.isWrapper; first | (rw [if_pos (by decide +kernel)]; kernel_rfl) | (rw [if_neg (by decide +kernel)]; exact ⟨rfl, rfl⟩))
    (fun os started H enc _ => lifted1 os started H enc)
end Go.Proofs.Ytdoflfifnkpacaa.fnExactOwnersOf
namespace Go.Proofs.Ytdoflfifnkpacaa
theorem fnExactOwnersOf_holds : Rows.FnExactOwnersOfSaid := fnExactOwnersOf.over
#print axioms fnExactOwnersOf_holds
end Go.Proofs.Ytdoflfifnkpacaa
