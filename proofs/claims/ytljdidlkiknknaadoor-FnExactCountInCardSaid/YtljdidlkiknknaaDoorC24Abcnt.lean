/-
  What a call does, told without addresses: a state, steps, and that the code follows them.
-/
import Derived.Test.YtljdidlkiknknaaDoorC24Abh3
import Derived.Test.YtljdidlkiknknaaDoorC24Abrow
import Derived.Test.YtljdidlkiknknaaDoorCards
import Derived.Test.YtljdidlkiknknaaDoorTie
import Derived.SevenTiedAt
namespace Go.Proofs.YtljdidlkiknknaaDoor.AB
open Go Go.RowKit Go.Proofs.YtljdidlkiknknaaDoorW.PrintWords Go.Proofs.YtljdidlkiknknaaDoorW.PrintMore
set_option linter.unusedSimpArgs false
set_option linter.unusedVariables false
/-! ### FnExactCountIn: the plain law, the row and its card -/
open Go.ChangeShapes Go.WideShapes Go.ChangeAt Go.Proofs.YtljdidlkiknknaaDoor.Op
theorem lawCount_true (t : List TN) (v : List VN) (ht : t.length < 4611686018427387904) (hv : v.length < 4611686018427387904) (hn : ∀ x ∈ v, -9223372036854775808 ≤ x.n ∧ x.n < 9223372036854775808) : ∃ N, lawCount.sem N t v = some true := by
  by_cases hs : t.length ≤ 1048576
  · by_cases hs2 : v.length ≤ 1048576
    · obtain ⟨K, hK⟩ := both t v (by omega) hn
      refine ⟨K + t.length + v.length + 100, ?_⟩
      generalize hNe : K + t.length + v.length + 100 = N
      obtain ⟨b, e1, e2⟩ := hK N (by omega)
      obtain ⟨r, hr, -⟩ := szVN_val N v (1048576 - (t.length : Int)) hv (by omega) (by omega) (by omega)
      have c1 : ∃ z : Int × Bool, sCount.sem N t v = some z ∧ iCount.sem N t v = some z := by
        rw [sCount.sem, iCount.sem, e1, e2]
        cases b <;> exact ⟨_, rfl, rfl⟩
      obtain ⟨z, c1, c2⟩ := c1
      rw [lawCount.sem, szTN.sem]
      simp only [List.length_map]
      rw [w64 (by omega) (by omega)]
      simp only [show decide ((1048576 : Int) - (t.length : Int) < 0) = false by simp; omega, cond_false, Option.bind_some, hr, toTN_val N t hs (by omega), toVN_val N v hs2 (by omega), c1, c2, eqTN_val N t hs (by omega), eqVN_val N v hs2 (by omega), bne_self_eq_false, beq_self_eq_true, Bool.not_true]
      cases decide (r < 0) <;> rfl
    · refine ⟨v.length + 1, ?_⟩
      obtain ⟨r, hr, h2⟩ := szVN_val (v.length + 1) v (1048576 - (t.length : Int)) hv (by omega) (by omega) (by omega)
      rw [lawCount.sem, szTN.sem]
      simp only [List.length_map]
      rw [w64 (by omega) (by omega)]
      simp only [show decide ((1048576 : Int) - (t.length : Int) < 0) = false by simp; omega, cond_false, Option.bind_some, hr]
      cases hd : decide (r < 0) with
      | true => rfl
      | false => exact absurd (h2 hd) hs2
  · refine ⟨0, ?_⟩
    rw [lawCount.sem, szTN.sem]
    simp only [List.length_map]
    rw [w64 (by omega) (by omega)]
    simp only [show decide ((1048576 : Int) - (t.length : Int) < 0) = true by simp; omega, cond_true, Option.bind_some]
    rfl
theorem cnt_walk (W : World) (args : List Value) (hL : laidMetH Tryd.prog laidL W) (hl : args.length = Tryd.f4.params.toList.length) (ha : ∀ (j : Nat) (t : TypeId) (v : Value), Tryd.f4.params.toList[j]? = some t → args[j]? = some v → ArgOk Tryd.prog W t v) :
    Calls Tryd.prog 4 args.toArray W fun e W' => e = .returned (.bool true) ∧ Below W.heap.size W W' := by
  rw [Tryd.params4] at hl ha
  obtain ⟨v0, v1, rfl⟩ : ∃ v0 v1, args = [v0, v1] := two hl
  obtain ⟨t, ht, r0⟩ := argT (ha 0 22 v0 rfl rfl)
  obtain ⟨v, hv, hn, r1⟩ := argV (ha 1 23 v1 rfl rfl)
  obtain ⟨N, hN⟩ := lawCount_true t v ht hv hn
  refine Ok.law (lawCount.ok N t v true hN) hL ⟨rfl, fun j x u h1 h2 => ?_⟩
  match j, h1, h2 with
  | 0, h1, h2 =>
    obtain rfl := Option.some.inj h1
    obtain rfl := Option.some.inj h2
    exact r0
  | 1, h1, h2 =>
    obtain rfl := Option.some.inj h1
    obtain rfl := Option.some.inj h2
    exact r1
theorem cnt_lifted (os : Os) (started : os.Started) (H : Type) (enc : TypeId × Value → H) :
    ReturnsInHanded {} Tryd.checked os 4 .any (fun w args => (Rows.fnExactCountInSpec.pre enc Tryd.prog Tryd.f4 [] false w args ∧ laidMetH Tryd.prog laidL w) ∧ sizedMet enc Tryd.prog Tryd.f4 (OpenSpec.ofChange Rows.fnExactCountInSpec) false w args) (Rows.fnExactCountInSpec.post enc Tryd.prog Tryd.f4 false true false false) := by
  refine liftedX (C := Tryd.checked) (laid := laidL) (tb := 4) started ownT laidOutT (by kernel_rfl) Tryd.func4 rfl (by kernel_rfl) Tryd.underlying4 ?_ ?_
    (ChangeSpec.witness_shaped (enc := enc) (C := Tryd.checked) (os := os) (X := fun w _ => laidMetH Tryd.prog laidL w) false (World.laidAll Tryd.prog os laidL) #[.slice none 0 0, .slice none 0 0] 8 (World.laidAll_os _ _ _)
      (World.shaped_of_ZipB (by kernel_rfl) (by kernel_rfl)) (by kernel_rfl) (by kernel_rfl) (by kernel_rfl)
      (by rw [MakeChecks.laidMetH_plain _ _ _ (by kernel_rfl)]; exact laidMet_laidAll _ (by kernel_rfl) (by kernel_rfl))) cnt_walk
  · intro ds hd
    rw [Tryd.params4] at hd
    match ds, hd with
    | [_, _], _ => rfl
  · rw [Tryd.params4]
    intro t ht
    simp only [List.mem_cons, List.not_mem_nil, or_false] at ht
    rcases ht with rfl | rfl
    all_goals exact ⟨by kernel_rfl, of_decide_eq_true (by kernel_rfl)⟩
theorem cnt_over : Rows.FnExactCountInSaid :=
  OpenClaim.holds_of_wide 4 Tryd.f4 rfl rfl rfl rfl rfl rfl rfl ⟨rfl, rfl, rfl, rfl, rfl⟩ rfl rfl rfl rfl rfl (by kernel_rfl) Tryd.func4 (by kernel_rfl)
    (of_decide_eq_true (by kernel_rfl)) (by unfold Func.isWrapper; first | (rw [if_pos (by decide +kernel)]; kernel_rfl) | (rw [if_neg (by decide +kernel)]; exact ⟨rfl, rfl⟩))
    (fun os started H enc _ => cnt_lifted os started H enc)
theorem cnt_card : Rows.FnExactCountInCardSaid :=
  Claim7.holds_tied_plain_at .later [] [.data, .pinned] true (true, "885d3ef68198a08e0a9504c48359ecc87d8a1127f079a7206ae41e1b870df506") true
    cnt_over (fun _ h => by cases h) (by kernel_rfl) (fun _ h => by cases h) fnExactCountIn_row_tie rfl ⟨rfl, rfl⟩ (by kernel_rfl) rfl
    (fun f fn hf hfn => by
      obtain rfl : f = 4 := Option.some.inj ((show Tryd.prog.funcNamed "loop.example/g00209/laws.FnExactCountIn" = some 4 by kernel_rfl).symm.trans hf) |>.symm
      obtain rfl : fn = Tryd.f4 := (Option.some.inj (Tryd.func4.symm.trans hfn)).symm
      exact ⟨by kernel_rfl, fun j t ht => by
        rw [Tryd.params4] at ht
        have hm : t ∈ [22, 23] := by simpa using Array.mem_of_getElem? ht
        have hall : ([22, 23].all fun u => !Tryd.prog.wantsStandIn u) = true := by kernel_rfl
        exact (show Tryd.prog.wantsStandIn t = false by simpa using List.all_eq_true.1 hall t hm)⟩)
    (by kernel_rfl)
#print axioms cnt_over
#print axioms cnt_card
end Go.Proofs.YtljdidlkiknknaaDoor.AB
