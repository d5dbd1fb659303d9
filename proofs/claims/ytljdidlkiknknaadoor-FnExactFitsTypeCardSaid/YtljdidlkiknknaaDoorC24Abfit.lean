/-
  What a call does, told without addresses: a state, steps, and that the code follows them.
-/
import Derived.Test.YtljdidlkiknknaaDoorC24Abrow
import Derived.Test.YtljdidlkiknknaaDoorCards
import Derived.Test.YtljdidlkiknknaaDoorTie
import Derived.SevenTiedAt
namespace Go.Proofs.YtljdidlkiknknaaDoor.AB
open Go Go.RowKit Go.Proofs.YtljdidlkiknknaaDoorW.PrintWords Go.Proofs.YtljdidlkiknknaaDoorW.PrintMore
set_option linter.unusedSimpArgs false
set_option linter.unusedVariables false
open Go.ChangeShapes Go.WideShapes Go.ChangeAt Go.Proofs.YtljdidlkiknknaaDoor.Op
theorem fit_walk (W : World) (args : List Value) (hL : laidMetH Tryd.prog laidL W) (hl : args.length = Tryd.f3.params.toList.length) (ha : ∀ (j : Nat) (t : TypeId) (v : Value), Tryd.f3.params.toList[j]? = some t → args[j]? = some v → ArgOk Tryd.prog W t v) :
    Calls Tryd.prog 3 args.toArray W fun e W' => e = .returned (.bool true) ∧ Below W.heap.size W W' := by
  rw [Tryd.params3] at hl ha
  obtain ⟨v0, v1, rfl⟩ : ∃ v0 v1, args = [v0, v1] := two hl
  obtain ⟨t, ht, r0⟩ := argT (ha 0 22 v0 rfl rfl)
  obtain ⟨v, hv, hn, r1⟩ := argV (ha 1 23 v1 rfl rfl)
  obtain ⟨N, hN⟩ := lawFits_true t v ht hv hn
  refine Ok.law (lawFits.ok N t v true hN) hL ⟨rfl, fun j x u h1 h2 => ?_⟩
  match j, h1, h2 with
  | 0, h1, h2 =>
    obtain rfl := Option.some.inj h1
    obtain rfl := Option.some.inj h2
    exact r0
  | 1, h1, h2 =>
    obtain rfl := Option.some.inj h1
    obtain rfl := Option.some.inj h2
    exact r1
theorem fit_lifted (os : Os) (started : os.Started) (H : Type) (enc : TypeId × Value → H) :
    ReturnsInHanded {} Tryd.checked os 3 .any (fun w args => (Rows.fnExactFitsTypeSpec.pre enc Tryd.prog Tryd.f3 [] false w args ∧ laidMetH Tryd.prog laidL w) ∧ sizedMet enc Tryd.prog Tryd.f3 (OpenSpec.ofChange Rows.fnExactFitsTypeSpec) false w args) (Rows.fnExactFitsTypeSpec.post enc Tryd.prog Tryd.f3 false true false false) := by
  refine liftedX (C := Tryd.checked) (laid := laidL) (tb := 4) started ownT laidOutT (by kernel_rfl) Tryd.func3 rfl (by kernel_rfl) Tryd.underlying4 ?_ ?_
    (ChangeSpec.witness_shaped (enc := enc) (C := Tryd.checked) (os := os) (X := fun w _ => laidMetH Tryd.prog laidL w) false (World.laidAll Tryd.prog os laidL) #[.slice none 0 0, .slice none 0 0] 8 (World.laidAll_os _ _ _)
      (World.shaped_of_ZipB (by kernel_rfl) (by kernel_rfl)) (by kernel_rfl) (by kernel_rfl) (by kernel_rfl)
      (by rw [MakeChecks.laidMetH_plain _ _ _ (by kernel_rfl)]; exact laidMet_laidAll _ (by kernel_rfl) (by kernel_rfl))) fit_walk
  · intro ds hd
    rw [Tryd.params3] at hd
    match ds, hd with
    | [_, _], _ => rfl
  · rw [Tryd.params3]
    intro t ht
    simp only [List.mem_cons, List.not_mem_nil, or_false] at ht
    rcases ht with rfl | rfl
    all_goals exact ⟨by kernel_rfl, of_decide_eq_true (by kernel_rfl)⟩
theorem fit_over : Rows.FnExactFitsTypeSaid :=
  OpenClaim.holds_of_wide 3 Tryd.f3 rfl rfl rfl rfl rfl rfl rfl ⟨rfl, rfl, rfl, rfl, rfl⟩ rfl rfl rfl rfl rfl (by kernel_rfl) Tryd.func3 (by kernel_rfl)
    (of_decide_eq_true (by kernel_rfl)) (by unfold Func.isWrapper; first | (rw [if_pos (by decide +kernel)]; kernel_rfl) | (rw [if_neg (by decide +kernel)]; exact ⟨rfl, rfl⟩))
    (fun os started H enc _ => fit_lifted os started H enc)
theorem fit_card : Rows.FnExactFitsTypeCardSaid :=
  Claim7.holds_tied_plain_at .later [] [.data, .pinned] true (true, "885d3ef68198a08e0a9504c48359ecc87d8a1127f079a7206ae41e1b870df506") true
    fit_over (fun _ h => by cases h) (by kernel_rfl) (fun _ h => by cases h) fnExactFitsType_row_tie rfl ⟨rfl, rfl⟩ (by kernel_rfl) rfl
    (fun f fn hf hfn => by
      obtain rfl : f = 3 := Option.some.inj ((show Tryd.prog.funcNamed "loop.example/g00209/laws.FnExactFitsType" = some 3 by kernel_rfl).symm.trans hf) |>.symm
      obtain rfl : fn = Tryd.f3 := (Option.some.inj (Tryd.func3.symm.trans hfn)).symm
      exact ⟨by kernel_rfl, fun j t ht => by
        rw [Tryd.params3] at ht
        have hm : t ∈ [22, 23] := by simpa using Array.mem_of_getElem? ht
        have hall : ([22, 23].all fun u => !Tryd.prog.wantsStandIn u) = true := by kernel_rfl
        exact (show Tryd.prog.wantsStandIn t = false by simpa using List.all_eq_true.1 hall t hm)⟩)
    (by kernel_rfl)
#print axioms fit_over
#print axioms fit_card
end Go.Proofs.YtljdidlkiknknaaDoor.AB
