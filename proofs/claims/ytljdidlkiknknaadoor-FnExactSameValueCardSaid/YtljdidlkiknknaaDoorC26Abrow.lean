/-
  What a call does, told without addresses: a state, steps, and that the code follows them.
-/
import Derived.Test.YtljdidlkiknknaaDoorC26AbQ
import Derived.Test.YtljdidlkiknknaaDoorRows
import Derived.Test.YtljdidlkiknknaaDoorC26Lift
import Derived.Test.YtljdidlkiknknaaDoorC26Reads
import Derived.LaidMore
import Derived.Lay
import Derived.Stop.Joined
namespace Go.Proofs.YtljdidlkiknknaaDoor.AB
open Go Go.RowKit Go.Proofs.YtljdidlkiknknaaDoorW.PrintWords Go.Proofs.YtljdidlkiknknaaDoorW.PrintMore
set_option linter.unusedSimpArgs false
set_option linter.unusedVariables false
open Go.ChangeShapes Go.WideShapes Go.ChangeAt Go.Proofs.YtljdidlkiknknaaDoor.Op
theorem cell_lt {W : World} {a : Addr} {v : Value} (h : W.cell? a = some v) : a.block < W.heap.size ∧ a.spot = none := by
  unfold World.cell? at h
  split at h
  · rename_i e
    refine ⟨(Array.getElem?_eq_some_iff.mp e).1, ?_⟩
    split at h
    · cases h
    · rename_i hs
      simpa using hs
  · cases h
def laidL : List (String × DataW Unit) := [("unicode/utf8.acceptRanges", Rows.laid_unicode_utf8_acceptRanges), ("unicode/utf8.first", Rows.laid_unicode_utf8_first)]
def tab7f : List Int := (tab7.map fun p => [p.1, p.2]).flatten
theorem tab7c_eq : tab7c = tab7f.map (Value.int .u8) := by kernel_rfl
theorem tab7_acc : (Rows.laid_unicode_utf8_acceptRanges : DataW Unit) = DataW.agg (tab7.map fun p => DataW.agg [.lit (.int .u8 p.1), .lit (.int .u8 p.2)]) := by kernel_rfl
theorem tab6_acc : Rows.laid_unicode_utf8_first = (DataW.agg (tab6.map fun n => .lit (.int .u8 n)) : DataW Unit) := by kernel_rfl
theorem tab7f_at : ((List.range 16).all fun i => tab7f.getD (i * 2) 0 == (tab7.getD i (0, 0)).1 && tab7f.getD (i * 2 + 1) 0 == (tab7.getD i (0, 0)).2) = true := by kernel_rfl
theorem first_cell {W : World} {cs : Array Value} {fuel : Nat} {p : List MemPlace} (hv : World.var? Tryd.prog W "unicode/utf8.first" = some cs)
    (hd : DataW.trod (fun _ => ()) Tryd.prog W 0 (fun _ => true) false fuel 226 cs.toList = some (Rows.laid_unicode_utf8_first, p)) (r : Nat) (hr : r < 256) : W.cell? ⟨6, r, none⟩ = some (.int .u8 (tab6.getD r 0)) := by
  obtain ⟨xs, m, _, ex, _, hl, hel⟩ := DataW.trod_array Tryd.underlying226 hd
  have c5 : Tryd.prog.cellsOf 5 = 1 := by kernel_rfl
  have hE := hel r hr
  rw [c5, Nat.mul_one, List.getElem?_eq_getElem (by omega)] at hE
  obtain ⟨z, e1, e2, _⟩ := DataW.trod_int Tryd.underlying5 hE
  have hlen : tab6.length = 256 := by kernel_rfl
  have e3 : (xs.map (·.1)) = tab6.map fun n => .lit (.int .u8 n) := by
    have h1 := (Prod.mk.inj ex).1
    rw [tab6_acc] at h1
    exact (DataW.agg.inj h1).symm
  have e4 : (xs.map (·.1))[r]? = (tab6.map fun n => (DataW.lit (.int .u8 n) : DataW Unit))[r]? := by rw [e3]
  rw [List.getElem?_map, List.getElem?_map, List.getElem?_eq_getElem (by omega : r < xs.length), List.getElem?_eq_getElem (by omega : r < tab6.length), e2] at e4
  have hz : z = tab6.getD r 0 := by
    simp only [Option.map_some, Option.some.injEq, DataW.lit.injEq, Lit.int.injEq, true_and] at e4
    rw [e4, List.getD, List.getElem?_eq_getElem (by omega : r < tab6.length)]; rfl
  rw [World.var?_cell (show Tryd.prog.globalNamed "unicode/utf8.first" = some 6 by kernel_rfl) hv r, ← hz]
  have : cs.toList[r]? = some (.int .u8 z) := by
    have h0 : ((cs.toList.drop r).take 1)[0]? = some (.int .u8 z) := by rw [e1]; rfl
    simpa using h0
  simpa using this
theorem two {α : Type} {l : List α} (h : l.length = 2) : ∃ x y, l = [x, y] := by
  match l, h with
  | [x, y], _ => exact ⟨x, y, rfl⟩
theorem acc_cell {W : World} {cs : Array Value} {fuel : Nat} {p : List MemPlace} (hv : World.var? Tryd.prog W "unicode/utf8.acceptRanges" = some cs)
    (hd : DataW.trod (fun _ => ()) Tryd.prog W 0 (fun _ => true) false fuel 229 cs.toList = some (Rows.laid_unicode_utf8_acceptRanges, p)) (i : Nat) (hi : i < 16) : W.cell? ⟨7, i * 2, none⟩ = some (.int .u8 (tab7.getD i (0, 0)).1) ∧ W.cell? ⟨7, i * 2 + 1, none⟩ = some (.int .u8 (tab7.getD i (0, 0)).2) := by
  obtain ⟨xs, m, _, ex, _, hl, hel⟩ := DataW.trod_array Tryd.underlying229 hd
  have c228 : Tryd.prog.cellsOf 228 = 2 := by kernel_rfl
  have c5 : Tryd.prog.cellsOf 5 = 1 := by kernel_rfl
  have hE := hel i hi
  rw [c228, List.getElem?_eq_getElem (by omega)] at hE
  obtain ⟨ys, m', _, ey, hyl, hyn, hf⟩ := DataW.trod_struct Tryd.underlying228 hE
  obtain ⟨y0, y1, rfl⟩ := two (show ys.length = 2 from hyn)
  have f0 := hf 0 { name := "lo", type := 5, offset := 0, embedded := false, tag := "", pkgPath := "unicode/utf8", byteOffset := 0 } rfl
  have f1 := hf 1 { name := "hi", type := 5, offset := 1, embedded := false, tag := "", pkgPath := "unicode/utf8", byteOffset := 1 } rfl
  simp only [c5, List.getElem?_cons_zero, List.getElem?_cons_succ] at f0 f1
  obtain ⟨z0, u0, v0, _⟩ := DataW.trod_int Tryd.underlying5 f0
  obtain ⟨z1, u1, v1, _⟩ := DataW.trod_int Tryd.underlying5 f1
  have hlen : tab7.length = 16 := by kernel_rfl
  have e3 : (xs.map (·.1)) = tab7.map fun p => DataW.agg [.lit (.int .u8 p.1), .lit (.int .u8 p.2)] := by
    have h1 := (Prod.mk.inj ex).1
    rw [tab7_acc] at h1
    exact (DataW.agg.inj h1).symm
  have e4 : (xs.map (·.1))[i]? = (tab7.map fun p => (DataW.agg [.lit (.int .u8 p.1), .lit (.int .u8 p.2)] : DataW Unit))[i]? := by rw [e3]
  rw [List.getElem?_map, List.getElem?_map, List.getElem?_eq_getElem (by omega : i < xs.length), List.getElem?_eq_getElem (by omega : i < tab7.length), ey] at e4
  have hg : tab7.getD i (0, 0) = tab7[i]'(by omega) := by
    rw [List.getD_eq_getElem?_getD, List.getElem?_eq_getElem (by omega : i < tab7.length)]
    rfl
  simp only [Option.map_some, Option.some.injEq, DataW.agg.injEq, List.map_cons, List.map_nil, v0, v1, List.cons.injEq, DataW.lit.injEq, Lit.int.injEq, true_and, and_true] at e4
  have hc : ∀ k : Nat, W.cell? ⟨7, k, none⟩ = cs[k]? := fun k => World.var?_cell (show Tryd.prog.globalNamed "unicode/utf8.acceptRanges" = some 7 by kernel_rfl) hv k
  have g0 : ((((cs.toList.drop (i * 2)).take 2).drop 0).take 1)[0]? = some (.int .u8 z0) := by rw [u0]; rfl
  have g1 : ((((cs.toList.drop (i * 2)).take 2).drop 1).take 1)[0]? = some (.int .u8 z1) := by rw [u1]; rfl
  rw [hc, hc, hg, ← e4.1, ← e4.2]
  constructor
  · simpa using g0
  · simpa using g1
theorem tabOk_of {W : World} (h : laidMetH Tryd.prog laidL W) : TabOk W (fun b => b < W.heap.size) := by
  rw [MakeChecks.laidMetH_plain _ _ _ (by kernel_rfl)] at h
  obtain ⟨ps, ⟨g, t, cs, fuel, p, q, hg, ht, hv, hd, ⟨g2, t2, cs2, fuel2, p2, q2, hg2, ht2, hv2, hd2, -, -⟩, -⟩, -, -⟩ := h
  obtain rfl := Option.some.inj ((show Tryd.prog.globalNamed "unicode/utf8.acceptRanges" = some 7 by kernel_rfl).symm.trans hg)
  obtain rfl := Option.some.inj ((show (Tryd.prog.globals[7]?).map (·.type) = some 229 by kernel_rfl).symm.trans ht)
  obtain rfl := Option.some.inj ((show Tryd.prog.globalNamed "unicode/utf8.first" = some 6 by kernel_rfl).symm.trans hg2)
  obtain rfl := Option.some.inj ((show (Tryd.prog.globals[6]?).map (·.type) = some 226 by kernel_rfl).symm.trans ht2)
  intro q hq
  simp only [TT, List.mem_cons, List.not_mem_nil, or_false] at hq
  rcases hq with rfl | rfl
  · refine ⟨(cell_lt (first_cell hv2 hd2 0 (by omega))).1, fun j v hj => ?_⟩
    have hj' : (tab6.map (Value.int .u8))[j]? = some v := hj
    rw [List.getElem?_map] at hj'
    have hlen : tab6.length = 256 := by kernel_rfl
    by_cases h : j < 256
    · rw [List.getElem?_eq_getElem (by omega : j < tab6.length)] at hj'
      obtain rfl := Option.some.inj hj'
      rw [first_cell hv2 hd2 j h]
      simp [show j < tab6.length by omega]
    · rw [List.getElem?_eq_none (by omega)] at hj'
      cases hj'
  · refine ⟨(cell_lt (acc_cell hv hd 0 (by omega)).1).1, fun j v hj => ?_⟩
    have hj' : tab7c[j]? = some v := hj
    rw [tab7c_eq, List.getElem?_map] at hj'
    have hlen : tab7f.length = 32 := by kernel_rfl
    by_cases h : j < 32
    · rw [List.getElem?_eq_getElem (by omega : j < tab7f.length)] at hj'
      obtain rfl := Option.some.inj hj'
      have ht := List.all_eq_true.1 tab7f_at (j / 2) (List.mem_range.2 (by omega))
      simp only [Bool.and_eq_true, beq_iff_eq] at ht
      have hc := acc_cell hv hd (j / 2) (by omega)
      have hg : tab7f[j]'(by omega) = tab7f.getD j 0 := by simp [show j < tab7f.length by omega]
      rw [hg]
      rcases (by omega : j = j / 2 * 2 ∨ j = j / 2 * 2 + 1) with e | e
      · have h1 := hc.1
        rw [← ht.1, ← e] at h1
        exact h1
      · have h1 := hc.2
        rw [← ht.2, ← e] at h1
        exact h1
    · rw [List.getElem?_eq_none (by omega)] at hj'
      cases hj'
theorem Reads_sliceN {P : Program} {W : World} {t e : TypeId} (ht : P.underlying t = some (.slice e)) : Reads P W t (fun cs => ∃ (A : Option Addr) (len cap : Nat), cs = [.slice A len cap] ∧ (A = none → cap = 0)) := by
  intro H enc fuel cs d ps hx _
  rcases Deep.open_slice ht hx with ⟨rfl, _⟩ | ⟨a, len, cap, m, n, D, Pl, rfl, _⟩
  · exact ⟨none, 0, 0, rfl, fun _ => rfl⟩
  · exact ⟨some a, len, cap, rfl, fun h => by cases h⟩
theorem addrA (b o n : Nat) : (⟨b, o, none⟩ : Addr).add n = ⟨b, o + n, none⟩ := by
  unfold Addr.add
  split
  · rename_i h
    rw [h]
    rfl
  · rfl
theorem rowA {W : World} {α : Type} (e : α → List IV) (he : ∀ x, (e x).length = 3) {A : Option Addr} {len cap : Nat} (hl : len ≤ cap) (hm : cap ≤ maxLen) (hA : A = none → cap = 0) {Q : α → Prop}
    (h : 0 < len → ∃ ad, A = some ad ∧ ∀ i, i < len → ∃ x : α, Q x ∧ ∀ (j : Nat) (y : IV), (e x)[j]? = some y → ∃ u, scal u = true ∧ y = .v u ∧ W.cell? (ad.add (i * 3 + j)) = some u) :
    ∃ l : List α, l.length = len ∧ (∀ x ∈ l, Q x) ∧ RepI W (fun b => b < W.heap.size) (.sl 3 (l.map e)) (.slice A len cap) := by
  by_cases h0 : len = 0
  · subst h0
    exact ⟨[], rfl, fun x hx => by simp at hx, .nil A cap hA⟩
  · obtain ⟨ad, rfl, hi⟩ := h (by omega)
    obtain ⟨l, hll, hx⟩ := pick hi
    have hcell : ∀ (i : Nat) (x : α) (j : Nat) (y : IV), l[i]? = some x → (e x)[j]? = some y → ∃ u, scal u = true ∧ y = .v u ∧ W.cell? (ad.add (i * 3 + j)) = some u := fun i x j y h1 h2 => (hx i x h1).2 j y h2
    have hsp : ad.block < W.heap.size ∧ ad.spot = none := by
      have hl0 : 0 < l.length := by omega
      have h3 : 0 < (e l[0]).length := by rw [he]; omega
      obtain ⟨u, -, -, hu⟩ := hcell 0 l[0] 0 (e l[0])[0] (List.getElem?_eq_getElem hl0) (List.getElem?_eq_getElem h3)
      exact cell_lt hu
    obtain ⟨b, o, sp⟩ := ad
    obtain rfl : sp = none := hsp.2
    have hmm : maxLen ≤ 9223372036854775807 := by decide
    refine ⟨l, hll, fun x hxm => ?_, ?_⟩
    · obtain ⟨i, hi', rfl⟩ := List.getElem_of_mem hxm
      exact (hx i _ (List.getElem?_eq_getElem hi')).1
    · have hlen : (l.map e).length = len := by rw [List.length_map, hll]
      have key : ∀ i j, ∃ u, i < l.length → j < 3 → ∀ x, l[i]? = some x → ∀ y, (e x)[j]? = some y → scal u = true ∧ y = .v u ∧ W.cell? ⟨b, o + (i * 3 + j), none⟩ = some u := by
        intro i j
        by_cases hij : i < l.length ∧ j < 3
        · have h3 : j < (e l[i]).length := by rw [he]; exact hij.2
          obtain ⟨u, h1, h2, h4⟩ := hcell i l[i] j (e l[i])[j] (List.getElem?_eq_getElem hij.1) (List.getElem?_eq_getElem h3)
          refine ⟨u, fun _ _ x hxx y hy => ?_⟩
          rw [List.getElem?_eq_getElem hij.1] at hxx
          obtain rfl := Option.some.inj hxx
          rw [List.getElem?_eq_getElem h3] at hy
          obtain rfl := Option.some.inj hy
          exact ⟨h1, h2, by rw [← addrA]; exact h4⟩
        · exact ⟨.bool false, fun h1 h2 => absurd ⟨h1, h2⟩ hij⟩
      have ⟨val, hval⟩ : ∃ val : Nat → Nat → Value, ∀ i j, i < l.length → j < 3 → ∀ x, l[i]? = some x → ∀ y, (e x)[j]? = some y → scal (val i j) = true ∧ y = .v (val i j) ∧ W.cell? ⟨b, o + (i * 3 + j), none⟩ = some (val i j) := ⟨fun i j => Classical.choose (key i j), fun i j => Classical.choose_spec (key i j)⟩
      have main : RepI W (fun b => b < W.heap.size) (.sl 3 (l.map e)) (.slice (some ⟨b, o, none⟩) (l.map e).length cap) := by
        refine .sl val hsp.1 (by omega) (by omega) (fun ys hys => ?_) (fun i j hi1 hj1 => ?_) (fun i j ys y hys hy => ?_)
        · obtain ⟨x, -, rfl⟩ := List.mem_map.mp hys
          exact he x
        · rw [List.length_map] at hi1
          have h3 : j < (e l[i]).length := by rw [he]; exact hj1
          exact (hval i j hi1 hj1 l[i] (List.getElem?_eq_getElem hi1) _ (List.getElem?_eq_getElem h3)).2.2
        · rw [List.getElem?_map] at hys
          by_cases hi1 : i < l.length
          · rw [List.getElem?_eq_getElem hi1] at hys
            obtain rfl := Option.some.inj hys
            have hj1 : j < 3 := by
              have := (List.getElem?_eq_some_iff.mp hy).1
              rw [he] at this
              exact this
            obtain ⟨h1, h2, -⟩ := hval i j hi1 hj1 l[i] (List.getElem?_eq_getElem hi1) y hy
            rw [h2]
            exact .v h1
          · rw [List.getElem?_eq_none (by omega)] at hys
            cases hys
      rw [hlen] at main
      exact main

theorem argT {W : World} {v : Value} (h : ArgOk Tryd.prog W 22 v) : ∃ l : List TN, l.length < 4611686018427387904 ∧ RepI W (fun b => b < W.heap.size) (.sl 3 (l.map eTN)) v := by
  obtain ⟨A, len, cap, rfl⟩ := ArgOk.slice Tryd.underlying22 h
  obtain ⟨A', len', cap', e, hl, hm, hbb, hi⟩ := ArgOk.reads h rd22
  obtain ⟨A2, len2, cap2, e2, hA⟩ := ArgOk.reads h (Reads_sliceN Tryd.underlying22)
  simp only [Value.cells, Array.toList, List.cons.injEq, Value.slice.injEq, and_true] at e e2
  obtain ⟨rfl, rfl, rfl⟩ := e
  obtain ⟨rfl, rfl, rfl⟩ := e2
  obtain ⟨l, hll, -, hr⟩ := rowA (α := TN) eTN (fun _ => rfl) (Q := fun _ => True) hl hm hA (fun h0 => by
    obtain ⟨ad, ha, hc⟩ := hi h0
    refine ⟨ad, ha, fun i hi' => ?_⟩
    obtain ⟨c, -, ⟨a0, a1, a2, rfl, -⟩, hcc⟩ := hc i hi'
    refine ⟨⟨a0, a1, a2⟩, trivial, fun j y hy => ?_⟩
    match j, hy with
    | 0, hy => exact ⟨_, rfl, (Option.some.inj hy).symm, hcc 0 _ rfl⟩
    | 1, hy => exact ⟨_, rfl, (Option.some.inj hy).symm, hcc 1 _ rfl⟩
    | 2, hy => exact ⟨_, rfl, (Option.some.inj hy).symm, hcc 2 _ rfl⟩)
  exact ⟨l, by omega, hr⟩
theorem argV {W : World} {v : Value} (h : ArgOk Tryd.prog W 23 v) : ∃ l : List VN, l.length < 4611686018427387904 ∧ (∀ x ∈ l, -9223372036854775808 ≤ x.n ∧ x.n < 9223372036854775808) ∧ RepI W (fun b => b < W.heap.size) (.sl 3 (l.map eVN)) v := by
  obtain ⟨A, len, cap, rfl⟩ := ArgOk.slice Tryd.underlying23 h
  obtain ⟨A', len', cap', e, hl, hm, hbb, hi⟩ := ArgOk.reads h rd23
  obtain ⟨A2, len2, cap2, e2, hA⟩ := ArgOk.reads h (Reads_sliceN Tryd.underlying23)
  simp only [Value.cells, Array.toList, List.cons.injEq, Value.slice.injEq, and_true] at e e2
  obtain ⟨rfl, rfl, rfl⟩ := e
  obtain ⟨rfl, rfl, rfl⟩ := e2
  obtain ⟨l, hll, hq, hr⟩ := rowA (α := VN) eVN (fun _ => rfl) (Q := fun x => -9223372036854775808 ≤ x.n ∧ x.n < 9223372036854775808) hl hm hA (fun h0 => by
    obtain ⟨ad, ha, hc⟩ := hi h0
    refine ⟨ad, ha, fun i hi' => ?_⟩
    obtain ⟨c, -, ⟨a0, a1, a2, rfl, ⟨n, hn, hw⟩, -, -⟩, hcc⟩ := hc i hi'
    simp only [List.cons.injEq, Value.int.injEq, true_and, and_true] at hn
    subst hn
    refine ⟨⟨a0, a1, a2⟩, ?_, fun j y hy => ?_⟩
    · simp [Lit.wf, IntKind.min, IntKind.max, IntKind.signed, IntKind.bits] at hw
      show -9223372036854775808 ≤ a0 ∧ a0 < 9223372036854775808
      omega
    match j, hy with
    | 0, hy => exact ⟨_, rfl, (Option.some.inj hy).symm, hcc 0 _ rfl⟩
    | 1, hy => exact ⟨_, rfl, (Option.some.inj hy).symm, hcc 1 _ rfl⟩
    | 2, hy => exact ⟨_, rfl, (Option.some.inj hy).symm, hcc 2 _ rfl⟩)
  exact ⟨l, by omega, hq, hr⟩
theorem Ok.law {f : FuncId} {args : List TV} (h : Ok Tryd.prog f args (aI (bI true))) {W : World} {us : List Value} (hL : laidMetH Tryd.prog laidL W) (ha : All2 (RepT noM W (fun b => b < W.heap.size)) args us) :
    Calls Tryd.prog f us.toArray W fun e W' => e = .returned (.bool true) ∧ Below W.heap.size W W' := by
  refine (h.2 W (fun b => b < W.heap.size) us (tabOk_of hL) (fun b hb => hb) ha).mono fun e W' hq => ?_
  obtain ⟨u, Z', rfl, hb, -, -, hr⟩ := hq
  have hr' : RepI W' Z' (.v (.bool true)) u := hr
  cases hr'
  exact ⟨rfl, hb⟩

theorem liftedX {C : Checked} {os : Os} {f : FuncId} {fn : Func} {s : ChangeSpec} {tb : TypeId} {laid : List (String × DataW Unit)} (started : os.Started) {H : Type} {enc : TypeId × Value → H}
    (own : ownKnob C.prog.godebug = none) (laidOut : laidOutB C.prog = true) (noInit : C.prog.inits.idxOf? f = none) (hfn : C.prog.funcs[f]? = some fn)
    (hvars : s.vars = []) (hrt : fn.resultTypes = #[tb]) (hb : C.prog.underlying tb = some .bool)
    (hspec : ∀ ds : List (DataW H), ds.length = fn.params.toList.length → s.fn H ds = { results := [.lit (.bool true)], args := ds })
    (hread : ∀ t ∈ fn.params.toList, C.prog.readableRec t = true ∧ t < C.prog.types.size)
    (witness : ∃ (w : World) (tape : Tape) (i : Input), w.os = os ∧ (w.forCall tape i).Shaped C.prog ∧ i.vars = [] ∧ Input.okWide C.prog (w.forCall tape i) .any w.heap.size f i ∧
      ((s.pre enc C.prog fn [] false (w.forCall tape i).memory i.args ∧ laidMetH C.prog laid (w.forCall tape i).memory) ∧ sizedMet enc C.prog fn (OpenSpec.ofChange s) false (w.forCall tape i).memory i.args) ∧ ({ } : Assume).holds C.prog (lone (Frame.enter C.prog f i.args .normal) [] (w.forCall tape i)))
    (walk : ∀ (W : World) (args : List Value), laidMetH C.prog laid W → args.length = fn.params.toList.length → (∀ (j : Nat) (t : TypeId) (v : Value), fn.params.toList[j]? = some t → args[j]? = some v → ArgOk C.prog W t v) →
      Calls C.prog f args.toArray W fun e W' => e = .returned (.bool true) ∧ Below W.heap.size W W') :
    ReturnsInHanded {} C os f .any (fun w args => (s.pre enc C.prog fn [] false w args ∧ laidMetH C.prog laid w) ∧ sizedMet enc C.prog fn (OpenSpec.ofChange s) false w args) (s.post enc C.prog fn false true false false) := by
  refine returnsInHanded_of_change_and (C := C) (X := fun w _ => laidMetH C.prog laid w) (fun _ _ _ hh h => h.of_heap hh) own started noInit hfn witness ?_
  intro W base args ds gs before hval hW _ hsz hL _
  have hW' := hW
  obtain ⟨p, q, hA, hV, rfl, hfz, hnd⟩ := hW
  rw [hvars] at hV
  obtain ⟨rfl, rfl⟩ := trodVars_none hV
  obtain ⟨⟨hl1, hl2⟩, hlt, hat⟩ := trodAll_at hA
  have hpv : s.plain.varTypes C.prog = [] := by
    have e : s.plain.vars = [] := hvars
    unfold DataSpec.varTypes
    rw [e]
    rfl
  rw [hpv, List.append_nil, List.append_nil] at hsz
  have key := walk W args.toList hL (by simpa using hl2) (fun j t v ht hv => by
    obtain ⟨d, p', hd, htr⟩ := hat j t v ht hv
    refine ⟨⟨base, hval j t v (by simpa using ht) (by simpa using hv)⟩, fun R hR => ?_⟩
    exact hR.arg hsz ht hd htr)
  have ea : args.toList.toArray = args := by simp
  rw [ea] at key
  refine key.mono fun e W' ⟨he, bel⟩ => ?_
  subst he
  have hs := hspec ds hl1
  refine ⟨_, rfl, ds, [], p ++ [], [], p, [], hW', ?_, ?_, ?_, bel.frame _, fun h => by cases h⟩
  · rw [List.append_nil, hs, hrt]
    exact trodAll_mk1 (shut_bool hb _)
  · rw [List.append_nil, hs]
    exact trodAll_carry laidOut bel hread hlt hA
  · rw [List.append_nil, hs, hvars]
    rfl
theorem ownT : ownKnob Tryd.prog.godebug = none := by kernel_rfl
theorem laidOutT : laidOutB Tryd.prog = true := by kernel_rfl
end Go.Proofs.YtljdidlkiknknaaDoor.AB
