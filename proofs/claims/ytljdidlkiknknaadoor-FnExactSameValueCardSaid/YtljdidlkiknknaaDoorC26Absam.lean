/-
  What a call does, told without addresses: a state, steps, and that the code follows them.
-/
import Derived.Test.YtljdidlkiknknaaDoorC26Abh4
import Derived.Test.YtljdidlkiknknaaDoorC26Abrow
import Derived.Test.YtljdidlkiknknaaDoorCards
import Derived.Test.YtljdidlkiknknaaDoorTie
import Derived.SevenTiedAt
namespace Go.Proofs.YtljdidlkiknknaaDoor.AB
open Go Go.RowKit Go.Proofs.YtljdidlkiknknaaDoorW.PrintWords Go.Proofs.YtljdidlkiknknaaDoorW.PrintMore
set_option linter.unusedSimpArgs false
set_option linter.unusedVariables false
/-! ### FnExactSameValue: the plain law, the row and its card -/
open Go.ChangeShapes Go.WideShapes Go.ChangeAt Go.Proofs.YtljdidlkiknknaaDoor.Op
theorem szVN_L0b (N : Nat) (l : List VN) (k : Int) (hl : l.length < 4611686018427387904) (hs : ∀ x ∈ l, x.text.size ≤ 140737488351232) : ∀ (m n j : Nat) (a : Int), j + m = l.length → m < n → 0 ≤ a → a ≤ 1048576 → ∃ r, szVN.L0 N l k n a (j : Int) = some r ∧ r ≤ 1048576
  | 0, n, j, a, h, hn, _, ha => by
    obtain ⟨n, rfl⟩ : ∃ n', n = n' + 1 := ⟨n - 1, by omega⟩
    rw [szVN.L0]
    simp only [List.length_map, show decide ((j : Int) < (l.length : Int)) = false by simp; omega, cond_false]
    exact ⟨_, rfl, ha⟩
  | m + 1, n, j, a, h, hn, h0, ha => by
    obtain ⟨n, rfl⟩ : ∃ n', n = n' + 1 := ⟨n - 1, by omega⟩
    rw [szVN.L0]
    simp only [List.length_map, show decide ((j : Int) < (l.length : Int)) = true by simp; omega, cond_true, inR_t (show (0 : Int) ≤ j by omega) (show (j : Int) < l.length by omega)]
    rw [w64 (n := (j : Int) + 1) (by omega) (by omega), show ((j : Int) + 1) = ((j + 1 : Nat) : Int) from rfl]
    have hj : j < l.length := by omega
    have hg : l.getD (j : Int).toNat default = l[j] := by simp [hj]
    have hz := hs l[j] (List.getElem_mem hj)
    rw [hg, szVN1.sem, w64 (by omega) (by omega)]
    by_cases c : a - (l[j].text.size : Int) < 0
    · simp only [c, decide_true, cond_true, Option.bind_some, show decide ((-1 : Int) < 0) = true from rfl]
      exact ⟨_, rfl, by decide⟩
    · simp only [c, decide_false, cond_false, Option.bind_some]
      exact szVN_L0b N l k hl hs m n (j + 1) _ (by omega) (by omega) (by omega) (by omega)
theorem szVN_valb (N : Nat) (l : List VN) (k : Int) (hl : l.length < 4611686018427387904) (hs : ∀ x ∈ l, x.text.size ≤ 140737488351232) (hN : l.length < N) (h0 : 0 ≤ k) (h1 : k ≤ 1048576) : ∃ r, szVN.sem N l k = some r ∧ r ≤ 1048576 ∧ (decide (r < 0) = false → l.length ≤ 1048576) := by
  rw [szVN.sem]
  simp only [List.length_map]
  rw [w64 (by omega) (by omega)]
  by_cases c : k - (l.length : Int) < 0
  · simp only [c, decide_true, cond_true]
    exact ⟨_, rfl, by decide, fun h => by cases h⟩
  · simp only [c, decide_false, cond_false]
    obtain ⟨r, h, h2⟩ := szVN_L0b N l k hl hs l.length N 0 (k - (l.length : Int)) (by omega) (by omega) (by omega) (by omega)
    exact ⟨r, h, h2, fun _ => by omega⟩
theorem same_L0 (N : Nat) (t : List TN) (a b : List VN) (hl : a.length ≤ 1048576) (hab : b.length = a.length) : ∀ (m n j : Nat), j + m = a.length → m < n → ∃ z, slEq.L0 N a b n (j : Int) = some z ∧ sSame.L0 N t a b n (j : Int) = some (z, true)
  | 0, n, j, h, hn => by
    obtain ⟨n, rfl⟩ : ∃ n', n = n' + 1 := ⟨n - 1, by omega⟩
    rw [slEq.L0, sSame.L0]
    simp only [List.length_map, show decide ((j : Int) < (a.length : Int)) = false by simp; omega, cond_false]
    exact ⟨_, rfl, rfl⟩
  | m + 1, n, j, h, hn => by
    obtain ⟨n, rfl⟩ : ∃ n', n = n' + 1 := ⟨n - 1, by omega⟩
    rw [slEq.L0, sSame.L0]
    simp only [List.length_map, show decide ((j : Int) < (a.length : Int)) = true by simp; omega, cond_true, inR_t (show (0 : Int) ≤ j by omega) (show (j : Int) < a.length by omega), inR_t (show (0 : Int) ≤ j by omega) (show (j : Int) < b.length by omega)]
    rw [w64 (n := (j : Int) + 1) (by omega) (by omega), show ((j : Int) + 1) = ((j + 1 : Nat) : Int) from rfl]
    obtain ⟨z, h1, h2⟩ := same_L0 N t a b hl hab m n (j + 1) (by omega) (by omega)
    rw [h1, h2]
    generalize (!_) = q
    cases q
    · exact ⟨_, rfl, rfl⟩
    · exact ⟨_, rfl, rfl⟩
theorem both2 (t : List TN) (a b : List VN) (ha : a.length ≤ 1048576) (hb : b.length ≤ 1048576) (hna : ∀ x ∈ a, -9223372036854775808 ≤ x.n ∧ x.n < 9223372036854775808) (hnb : ∀ x ∈ b, -9223372036854775808 ≤ x.n ∧ x.n < 9223372036854775808) : ∃ K, ∀ N, K ≤ N → ∃ z, sSame.sem N t a b = some z ∧ iSame.sem N t a b = some z := by
  obtain ⟨K1, h1⟩ := both t a (by omega) hna
  obtain ⟨K2, h2⟩ := both t b (by omega) hnb
  refine ⟨K1 + K2 + a.length + 10, fun N hN => ?_⟩
  obtain ⟨x, e1, e2⟩ := h1 N (by omega)
  obtain ⟨y, f1, f2⟩ := h2 N (by omega)
  rw [sSame.sem, iSame.sem, e1, e2]
  simp only [Option.bind_some]
  cases x with
  | false => exact ⟨_, rfl, rfl⟩
  | true =>
    simp only [Bool.not_true, cond_false, f1, f2, Option.bind_some]
    cases y with
    | false => exact ⟨_, rfl, rfl⟩
    | true =>
      simp only [Bool.not_true, cond_false, slEq.sem, List.length_map]
      by_cases hab : b.length = a.length
      · rw [show ((a.length : Int) != (b.length : Int)) = false from bne_len hab.symm]
        simp only [cond_false]
        obtain ⟨z, g1, g2⟩ := same_L0 N t a b ha hab a.length N 0 (by omega) (by omega)
        rw [show ((0 : Nat) : Int) = 0 from rfl] at g1 g2
        rw [g1, g2]
        exact ⟨_, rfl, rfl⟩
      · rw [show ((a.length : Int) != (b.length : Int)) = true from bne_len' (Ne.symm hab)]
        exact ⟨_, rfl, rfl⟩
theorem lawSame_true (t : List TN) (a b : List VN) (ht : t.length < 4611686018427387904) (ha : a.length < 4611686018427387904) (hb : b.length < 4611686018427387904) (hna : ∀ x ∈ a, -9223372036854775808 ≤ x.n ∧ x.n < 9223372036854775808) (hnb : ∀ x ∈ b, -9223372036854775808 ≤ x.n ∧ x.n < 9223372036854775808)
    (hsa : ∀ x ∈ a, x.text.size ≤ 140737488351232) (hsb : ∀ x ∈ b, x.text.size ≤ 140737488351232) : ∃ N, lawSame.sem N t a b = some true := by
  by_cases hs : t.length ≤ 1048576
  · have hopen : ∃ K, ∀ N, K ≤ N → a.length ≤ 1048576 → b.length ≤ 1048576 → ∃ z, sSame.sem N t a b = some z ∧ iSame.sem N t a b = some z := by
      by_cases h1 : a.length ≤ 1048576
      · by_cases h2 : b.length ≤ 1048576
        · obtain ⟨K, hK⟩ := both2 t a b h1 h2 hna hnb
          exact ⟨K, fun N hN _ _ => hK N hN⟩
        · exact ⟨0, fun N _ _ h => absurd h h2⟩
      · exact ⟨0, fun N _ h => absurd h h1⟩
    obtain ⟨K, hK⟩ := hopen
    refine ⟨K + t.length + a.length + b.length + 100, ?_⟩
    generalize hNe : K + t.length + a.length + b.length + 100 = N
    obtain ⟨r, hr, hr2, hra⟩ := szVN_valb N a (1048576 - (t.length : Int)) ha hsa (by omega) (by omega) (by omega)
    rw [lawSame.sem, szTN.sem]
    simp only [List.length_map]
    rw [w64 (by omega) (by omega)]
    simp only [show decide ((1048576 : Int) - (t.length : Int) < 0) = false by simp; omega, cond_false, Option.bind_some, hr]
    cases hd : decide (r < 0) with
    | true => rfl
    | false =>
      have h1 := hra hd
      have hr0 : 0 ≤ r := by simpa using hd
      obtain ⟨q, hq, -, hqb⟩ := szVN_valb N b r hb hsb (by omega) hr0 hr2
      simp only [cond_false, hq, Option.bind_some]
      cases hd2 : decide (q < 0) with
      | true => rfl
      | false =>
        have h2 := hqb hd2
        obtain ⟨z, c1, c2⟩ := hK N (by omega) h1 h2
        simp only [cond_false, toTN_val N t hs (by omega), toVN_val N a h1 (by omega), toVN_val N b h2 (by omega), c1, c2, eqTN_val N t hs (by omega), eqVN_val N a h1 (by omega), eqVN_val N b h2 (by omega), beq_self_eq_true, Bool.not_true, Option.bind_some]
  · refine ⟨0, ?_⟩
    rw [lawSame.sem, szTN.sem]
    simp only [List.length_map]
    rw [w64 (by omega) (by omega)]
    simp only [show decide ((1048576 : Int) - (t.length : Int) < 0) = true by simp; omega, cond_true, Option.bind_some]
    rfl
theorem argV2 {W : World} {v : Value} (h : ArgOk Tryd.prog W 23 v) : ∃ l : List VN, l.length < 4611686018427387904 ∧ (∀ x ∈ l, (-9223372036854775808 ≤ x.n ∧ x.n < 9223372036854775808) ∧ x.text.size ≤ 140737488351232) ∧ RepI W (fun b => b < W.heap.size) (.sl 3 (l.map eVN)) v := by
  obtain ⟨A, len, cap, rfl⟩ := ArgOk.slice Tryd.underlying23 h
  obtain ⟨A', len', cap', e, hl, hm, hbb, hi⟩ := ArgOk.reads h rd23
  obtain ⟨A2, len2, cap2, e2, hA⟩ := ArgOk.reads h (Reads_sliceN Tryd.underlying23)
  simp only [Value.cells, Array.toList, List.cons.injEq, Value.slice.injEq, and_true] at e e2
  obtain ⟨rfl, rfl, rfl⟩ := e
  obtain ⟨rfl, rfl, rfl⟩ := e2
  obtain ⟨l, hll, hq, hr⟩ := rowA (α := VN) eVN (fun _ => rfl) (Q := fun x => (-9223372036854775808 ≤ x.n ∧ x.n < 9223372036854775808) ∧ x.text.size ≤ 140737488351232) hl hm hA (fun h0 => by
    obtain ⟨ad, ha, hc⟩ := hi h0
    refine ⟨ad, ha, fun i hi' => ?_⟩
    obtain ⟨c, -, ⟨a0, a1, a2, rfl, ⟨n, hn, hw⟩, ⟨st, hst, hsz⟩, -⟩, hcc⟩ := hc i hi'
    simp only [List.cons.injEq, Value.int.injEq, true_and, and_true] at hn
    subst hn
    simp only [List.cons.injEq, Value.string.injEq, and_true] at hst
    subst hst
    refine ⟨⟨a0, a1, a2⟩, ⟨?_, hsz⟩, fun j y hy => ?_⟩
    · simp [Lit.wf, IntKind.min, IntKind.max, IntKind.signed, IntKind.bits] at hw
      show -9223372036854775808 ≤ a0 ∧ a0 < 9223372036854775808
      omega
    match j, hy with
    | 0, hy => exact ⟨_, rfl, (Option.some.inj hy).symm, hcc 0 _ rfl⟩
    | 1, hy => exact ⟨_, rfl, (Option.some.inj hy).symm, hcc 1 _ rfl⟩
    | 2, hy => exact ⟨_, rfl, (Option.some.inj hy).symm, hcc 2 _ rfl⟩)
  exact ⟨l, by omega, hq, hr⟩
theorem sam_walk (W : World) (args : List Value) (hL : laidMetH Tryd.prog laidL W) (hl : args.length = Tryd.f5.params.toList.length) (ha : ∀ (j : Nat) (t : TypeId) (v : Value), Tryd.f5.params.toList[j]? = some t → args[j]? = some v → ArgOk Tryd.prog W t v) :
    Calls Tryd.prog 5 args.toArray W fun e W' => e = .returned (.bool true) ∧ Below W.heap.size W W' := by
  rw [Tryd.params5] at hl ha
  obtain ⟨v0, v1, v2, rfl⟩ : ∃ v0 v1 v2, args = [v0, v1, v2] := by
    match args, hl with
    | [v0, v1, v2], _ => exact ⟨v0, v1, v2, rfl⟩
  obtain ⟨t, ht, r0⟩ := argT (ha 0 22 v0 rfl rfl)
  obtain ⟨a, hv, hn, r1⟩ := argV2 (ha 1 23 v1 rfl rfl)
  obtain ⟨b, hv2, hn2, r2⟩ := argV2 (ha 2 23 v2 rfl rfl)
  obtain ⟨N, hN⟩ := lawSame_true t a b ht hv hv2 (fun x hx => (hn x hx).1) (fun x hx => (hn2 x hx).1) (fun x hx => (hn x hx).2) (fun x hx => (hn2 x hx).2)
  refine Ok.law (lawSame.ok N t a b true hN) hL ⟨rfl, fun j x u h1 h2 => ?_⟩
  match j, h1, h2 with
  | 0, h1, h2 =>
    obtain rfl := Option.some.inj h1
    obtain rfl := Option.some.inj h2
    exact r0
  | 1, h1, h2 =>
    obtain rfl := Option.some.inj h1
    obtain rfl := Option.some.inj h2
    exact r1
  | 2, h1, h2 =>
    obtain rfl := Option.some.inj h1
    obtain rfl := Option.some.inj h2
    exact r2
theorem sam_lifted (os : Os) (started : os.Started) (H : Type) (enc : TypeId × Value → H) :
    ReturnsInHanded {} Tryd.checked os 5 .any (fun w args => (Rows.fnExactSameValueSpec.pre enc Tryd.prog Tryd.f5 [] false w args ∧ laidMetH Tryd.prog laidL w) ∧ sizedMet enc Tryd.prog Tryd.f5 (OpenSpec.ofChange Rows.fnExactSameValueSpec) false w args) (Rows.fnExactSameValueSpec.post enc Tryd.prog Tryd.f5 false true false false) := by
  refine liftedX (C := Tryd.checked) (laid := laidL) (tb := 4) started ownT laidOutT (by kernel_rfl) Tryd.func5 rfl (by kernel_rfl) Tryd.underlying4 ?_ ?_
    (ChangeSpec.witness_shaped (enc := enc) (C := Tryd.checked) (os := os) (X := fun w _ => laidMetH Tryd.prog laidL w) false (World.laidAll Tryd.prog os laidL) #[.slice none 0 0, .slice none 0 0, .slice none 0 0] 8 (World.laidAll_os _ _ _)
      (World.shaped_of_ZipB (by kernel_rfl) (by kernel_rfl)) (by kernel_rfl) (by kernel_rfl) (by kernel_rfl)
      (by rw [MakeChecks.laidMetH_plain _ _ _ (by kernel_rfl)]; exact laidMet_laidAll _ (by kernel_rfl) (by kernel_rfl))) sam_walk
  · intro ds hd
    rw [Tryd.params5] at hd
    match ds, hd with
    | [_, _, _], _ => rfl
  · rw [Tryd.params5]
    intro t ht
    simp only [List.mem_cons, List.not_mem_nil, or_false] at ht
    rcases ht with rfl | rfl | rfl
    all_goals exact ⟨by kernel_rfl, of_decide_eq_true (by kernel_rfl)⟩
theorem sam_over : Rows.FnExactSameValueSaid :=
  OpenClaim.holds_of_wide 5 Tryd.f5 rfl rfl rfl rfl rfl rfl rfl ⟨rfl, rfl, rfl, rfl, rfl⟩ rfl rfl rfl rfl rfl (by kernel_rfl) Tryd.func5 (by kernel_rfl)
    (of_decide_eq_true (by kernel_rfl)) (by unfold Func.isWrapper; first | (rw [if_pos (by decide +kernel)]; kernel_rfl) | (rw [if_neg (by decide +kernel)]; exact ⟨rfl, rfl⟩))
    (fun os started H enc _ => sam_lifted os started H enc)
theorem sam_card : Rows.FnExactSameValueCardSaid :=
  Claim7.holds_tied_plain_at .later [] [.data, .pinned] true (true, "885d3ef68198a08e0a9504c48359ecc87d8a1127f079a7206ae41e1b870df506") true
    sam_over (fun _ h => by cases h) (by kernel_rfl) (fun _ h => by cases h) fnExactSameValue_row_tie rfl ⟨rfl, rfl⟩ (by kernel_rfl) rfl
    (fun f fn hf hfn => by
      obtain rfl : f = 5 := Option.some.inj ((show Tryd.prog.funcNamed "loop.example/g00209/laws.FnExactSameValue" = some 5 by kernel_rfl).symm.trans hf) |>.symm
      obtain rfl : fn = Tryd.f5 := (Option.some.inj (Tryd.func5.symm.trans hfn)).symm
      exact ⟨by kernel_rfl, fun j t ht => by
        rw [Tryd.params5] at ht
        have hm : t ∈ [22, 23, 23] := by simpa using Array.mem_of_getElem? ht
        have hall : ([22, 23, 23].all fun u => !Tryd.prog.wantsStandIn u) = true := by kernel_rfl
        exact (show Tryd.prog.wantsStandIn t = false by simpa using List.all_eq_true.1 hall t hm)⟩)
    (by kernel_rfl)
#print axioms sam_over
#print axioms sam_card
end Go.Proofs.YtljdidlkiknknaaDoor.AB
