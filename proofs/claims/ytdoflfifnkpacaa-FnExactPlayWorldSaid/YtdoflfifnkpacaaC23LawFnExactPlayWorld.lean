/-
  The law FnExactPlayWorld: for every argument it returns true, and its arguments read as they did.
  No condition.
-/
import Derived.Test.YtdoflfifnkpacaaRows
import Derived.Test.YtdoflfifnkpacaaC23Lift
import Derived.Test.YtdoflfifnkpacaaC23Reads
import Derived.Test.YtdoflfifnkpacaaC23WpTa
namespace Go.Proofs.Ytdoflfifnkpacaa.fnExactPlayWorld
open Go.ChangeShapes Go.WideShapes Go.ChangeAt Go.RowKit Go.Proofs.Ytdoflfifnkpacaa.Op
set_option linter.unusedVariables false
theorem own : ownKnob Try.prog.godebug = none := by kernel_rfl
theorem laidOut : laidOutB Try.prog = true := by kernel_rfl
theorem walk0 (W : World) (args : List Value) (hl : args.length = Try.f9.params.toList.length) (ha : ∀ (j : Nat) (t : TypeId) (v : Value), Try.f9.params.toList[j]? = some t → args[j]? = some v → ArgOk Try.prog W t v) :
    Calls Try.prog 9 args.toArray W fun e W' => e = .returned (.bool true) ∧ Below W.heap.size W W' := by
  rw [Try.params9] at hl ha
  obtain ⟨v0, v1, rfl⟩ : ∃ v0 v1, args = [v0, v1] := by
    match args, hl with
    | [v0, v1], _ => exact ⟨v0, v1, rfl⟩
  have q0 := ha 0 3 v0 rfl rfl
  have g0 := ArgOk.reads q0 (Op.rd3 (W := W))
  obtain ⟨a0, rfl⟩ := ArgOk.int Try.underlying3 q0
  have q1 := ha 1 80 v1 rfl rfl
  have g1 := ArgOk.reads q1 (Op.rd80 (W := W))
  obtain ⟨a1, a1_l, a1_c, rfl⟩ := ArgOk.slice Try.underlying80 q1
  obtain ⟨la1, za1, hCa1, hca1, hBa1, hQa1⟩ := WP.slice80 g1
  subst za1
  exact WP.walked_FnExactPlayWorld a0 a1 a1_c la1 W hCa1 hca1 hBa1
theorem lifted1 (os : Os) (started : os.Started) (H : Type) (enc : TypeId × Value → H) :
    ReturnsInHanded {} Try.checked os 9 .any (Rows.fnExactPlayWorldSpec.pre6 enc Try.prog Try.f9 [] false) (Rows.fnExactPlayWorldSpec.post enc Try.prog Try.f9 false true false false) := by
  refine lifted (tb := 4) started own laidOut (by kernel_rfl) Try.func9 rfl (by kernel_rfl) Try.underlying4 ?_ ?_ (ChangeSpec.witness6 (enc := enc) (C := Try.checked) false ⟨#[], #[.int .i64 0, .slice none 0 0], []⟩ 8 (by kernel_rfl) (by kernel_rfl) (by kernel_rfl) (by kernel_rfl)) walk0
  · intro ds hd
    rw [Try.params9] at hd
    match ds, hd with
    | [_, _], _ => rfl
  · rw [Try.params9]
    intro t ht
    simp only [List.mem_cons, List.not_mem_nil, or_false] at ht
    rcases ht with rfl | rfl
    all_goals exact ⟨by kernel_rfl, of_decide_eq_true (by kernel_rfl)⟩
theorem over : Rows.fnExactPlayWorldRow.holds Try.pinned (OpenSpec.ofChange Rows.fnExactPlayWorldSpec) :=
  OpenClaim.holds_of_wide 9 Try.f9 rfl rfl rfl rfl rfl rfl rfl ⟨rfl, rfl, rfl, rfl, rfl⟩ rfl rfl rfl rfl rfl (by kernel_rfl) Try.func9 (by kernel_rfl)
    (of_decide_eq_true (by kernel_rfl)) (by unfold Func.isWrapper; first | (rw [if_pos (by decide +kernel)]; kernel_rfl) | (rw [if_neg (by decide +kernel)]; exact ⟨rfl, rfl⟩))
    (fun os started H enc _ => lifted1 os started H enc)
end Go.Proofs.Ytdoflfifnkpacaa.fnExactPlayWorld
namespace Go.Proofs.Ytdoflfifnkpacaa
theorem fnExactPlayWorld_holds : Rows.FnExactPlayWorldSaid := fnExactPlayWorld.over
#print axioms fnExactPlayWorld_holds
end Go.Proofs.Ytdoflfifnkpacaa
