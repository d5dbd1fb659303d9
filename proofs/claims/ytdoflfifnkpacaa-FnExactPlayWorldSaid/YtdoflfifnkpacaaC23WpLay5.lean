/-
  The functions of worlds: what they compute, and the laws of it.
-/
import Derived.StillTailTactics
import Derived.Lib.Hide
import Derived.Test.YtdoflfifnkpacaaC23WpLay3
import Derived.Test.YtdoflfifnkpacaaC23WPx9
import Derived.Test.YtdoflfifnkpacaaC23WPx10
namespace Go.Proofs.Ytdoflfifnkpacaa.WP
open Go Go.RowKit Go.Proofs.YtdoflfifnkpacaaW.PrintWords Go.Proofs.YtdoflfifnkpacaaW.PrintLast Go.Proofs.YtdoflfifnkpacaaW.PrintMore
attribute [local go_sem] max2_int min2_int max_two min_two max_three min_three max_four min_four
set_option linter.unusedVariables false
set_option linter.unusedSimpArgs false
section
variable {P : Program} {Q : Exit → Act → World → Prop}
/-- Reads, a call, what reads no memory, the rest one by one. -/
theorem draw_call {id : Nat} {l : List Oper} {S : World → Prop} {A a : Act} {w : World} {o : Oper} {f : FuncId} {fn : Func} {as_ : Array Operand} {ts : Array TypeId} (n m : Nat) (fs fs2 : List Bool) (hf : P.funcs[f]? = some fn) (hname : (fn.name == "runtime.NumGoroutine") = false) (hb : fn.body.isSome = true) (args : Array Value)
    (hm : P.follows .mixedOrders = true) (ho : l[n]? = some o) (N : Option Tmp) (hN : o.dst = N) (hg : o.guard = none) (hop : o.op = .call { callee := .value (.func f), args := as_, argTypes := ts })
    (hB : (headsB .any l.toArray ((List.range l.length).drop (n + 1 + m)) 0 n fs && (readyB .any l.toArray (mask l.length n) (mask l.length (n + 1)) n && (headsB .any l.toArray ((List.range l.length).drop (n + 1 + m)) (n + 1) m fs2 && (restB .any l.toArray ((List.range l.length).drop (n + 1 + m)) (n + 1 + m) (l.length - (n + 1 + m)) && decide (n + 1 + m ≤ l.length))))) = true)
    (hQ : ∀ c a w d v, Q (.panic c) (Act.put a d v) w → Q (.panic c) a w) (hS : S w.drew) (hh : HdS P l.toArray S (l.take n) fs a A) (hargs : as_.map A.eval = args)
    (hcall : Calls P f args w.drew fun e w' => ∃ v, e = .returned v ∧ S w' ∧ ∃ A', HdS P l.toArray S ((l.drop (n + 1)).take m) fs2 (A.put N v) A' ∧ wpList P l.toArray Q (l.drop (n + 1 + m)) A' w') : (Code.region id l.toArray true).wp P Q a w := by
  simp only [Bool.and_eq_true, decide_eq_true_eq] at hB
  obtain ⟨h1, h2, h3, h4, h5⟩ := hB
  have hsz : l.toArray.size = l.length := by simp
  refine start_ (S := S) (ds := (List.range l.length).drop (n + 1 + m)) (mask l.length 0) hm hsz (by unfold mask; apply Array.ext <;> simp) hS (fun _ => ?_)
  have h6 := heads_ (P := P) (ops := l.toArray) (md := .any) (S := S) (ds := (List.range l.length).drop (n + 1 + m)) hQ (l.length - n) n 0 fs a A w.drew h1 (by simpa using hh) (by simp; omega) hS (by
    rw [Nat.zero_add, hsz, show l.length - n = (l.length - (n + 1)) + 1 by omega]
    refine one_ _ (show l.toArray[n]? = some o by simpa using ho) hN h2 (by
      intro hc
      obtain ⟨i, hi, e⟩ := List.mem_drop_iff_getElem.mp hc
      simp at e
      omega) (fun K hK => ?_)
    refine goes_ hf hname hb args (by simp [Region.wanted, hg]) hN hop hargs ?_
    refine hcall.mono ?_
    rintro e w' ⟨v, rfl, hs, A', hh2, hr⟩
    refine ⟨v, rfl, hK.out _ _ hs (fun _ => ?_)⟩
    have h7 := heads_ (P := P) (ops := l.toArray) (md := .any) (S := S) (ds := (List.range l.length).drop (n + 1 + m)) hQ (l.length - (n + 1 + m)) m (n + 1) fs2 (A.put N v) A' w' h3 (by simpa using hh2) (by simp; omega) hs (by
      rw [hsz]
      exact rest_ (P := P) (ops := l.toArray) (Q := Q) (S := S) (md := .any) (l.length - (n + 1 + m)) (n + 1 + m) _ _ h4 (by simp; omega) (by simpa using hr) |> fun h => by rwa [hsz] at h)
    rw [show l.length - (n + 1 + m) + m = l.length - (n + 1) by omega, hsz] at h7
    exact h7)
  rw [show l.length - n + n = l.length by omega, hsz] at h6
  exact h6
/-- The first k of m operations, and one further on. -/
def maskP (m k p : Nat) : Array Bool := (mask m k).setIfInBounds p true
def headsP (md : Region.Mode) (ops : Array Oper) (p : Nat) : Nat → Nat → Bool
  | _, 0 => true
  | k, c + 1 => anyB md ops (maskP ops.size k p) (maskP ops.size (k + 1) p) k && headsP md ops p (k + 1) c
theorem headsP_ {ops : Array Oper} {md : Region.Mode} {S : World → Prop} {ds : List Nat} {p : Nat} (hQ : ∀ c a w d v, Q (.panic c) (Act.put a d v) w → Q (.panic c) a w) (fuel : Nat) : ∀ (c k : Nat) (a A : Act) (w : World), headsP md ops p k c = true → HdS P ops S ((ops.toList.drop k).take c) (List.replicate c false) a A → k + c ≤ ops.size →
    wpAnyLast P md ops Q S ds fuel (maskP ops.size (k + c) p) A w → wpAnyLast P md ops Q S ds (fuel + c) (maskP ops.size k p) a w
  | 0, k, a, A, w, _, hh, _, h => by
    simp only [List.take_zero, HdS] at hh
    subst hh
    exact h
  | c + 1, k, a, A, w, hb, hh, hs, h => by
    simp only [headsP, Bool.and_eq_true] at hb
    have hk : k < ops.toList.length := by rw [Array.length_toList]; omega
    rw [List.drop_eq_getElem_cons hk, List.take_succ_cons, List.replicate_succ] at hh
    obtain ⟨v, hy, hh⟩ := hh
    have hi : ops[k]? = some ops.toList[k] := by
      rw [Array.getElem_toList, Array.getElem?_eq_getElem]
    have ih := headsP_ hQ fuel c (k + 1) _ A w hb.2 hh (by omega) (by rw [show k + 1 + c = k + (c + 1) by omega]; exact h)
    exact pure_ _ hi rfl hb.1 (fun c a w h => hQ c a w _ _ h) (hy.imp (fun x => ⟨x.1, fun w => x.2 w (fun z => by simp at z)⟩) id) rfl ih
theorem maskP_all (m k : Nat) : maskP m k k = mask m (k + 1) := by
  unfold maskP mask
  apply Array.ext
  · simp
  · intro i h1 h2
    simp only [List.setIfInBounds_toArray, List.getElem_toArray, List.getElem_set, List.getElem_map, List.getElem_range]
    by_cases e : k = i
    · rw [if_pos e]; subst e; simp
    · rw [if_neg e]
      congr 1
      exact propext ⟨fun h => by omega, fun h => by omega⟩
/-- Reads, then a call and a block made in any order, what reads no memory between, the rest one by one. -/
theorem draw_call2 {id : Nat} {l : List Oper} {S : World → Prop} {A a : Act} {w : World} {o op : Oper} {f : FuncId} {fn : Func} {as_ : Array Operand} {ts : Array TypeId} {β : Type} (n m : Nat) (fs : List Bool) (hf : P.funcs[f]? = some fn) (hname : (fn.name == "runtime.NumGoroutine") = false) (hb : fn.body.isSome = true) (args : Array Value)
    (V : β → Value) (D : β → Nat → World → Prop) (A2 : β → Nat → Act) (ob : Obj)
    (hm : P.follows .mixedOrders = true) (ho : l[n]? = some o) (N : Option Tmp) (hN : o.dst = N) (hg : o.guard = none) (hop : o.op = .call { callee := .value (.func f), args := as_, argTypes := ts }) (ho2 : l[n + 1 + m]? = some op) (N2 : Option Tmp) (hN2 : op.dst = N2) (hg2 : op.guard = none)
    (hB : (headsB .any l.toArray ((List.range l.length).drop (n + 1 + m + 1)) 0 n fs && ((Region.ready .any l.toArray (mask l.length n) == [n, n + 1 + m]) && (((mask l.length n).setIfInBounds n true == mask l.length (n + 1)) && (((mask l.length n).setIfInBounds (n + 1 + m) true == maskP l.length n (n + 1 + m)) &&
      (readyB .any l.toArray (maskP l.length n (n + 1 + m)) (maskP l.length (n + 1) (n + 1 + m)) n && (headsP .any l.toArray (n + 1 + m) (n + 1) m && (headsB .any l.toArray ((List.range l.length).drop (n + 1 + m + 1)) (n + 1) m (List.replicate m false) && (readyB .any l.toArray (mask l.length (n + 1 + m)) (mask l.length (n + 1 + m + 1)) (n + 1 + m) &&
      (restB .any l.toArray ((List.range l.length).drop (n + 1 + m + 1)) (n + 1 + m + 1) (l.length - (n + 1 + m + 1)) && decide (n + 1 + m + 1 ≤ l.length)))))))))) = true)
    (hQ : ∀ c a w d v, Q (.panic c) (Act.put a d v) w → Q (.panic c) a w) (hS : S w.drew) (hSa : ∀ W, S W → S (W.alloc ob)) (hh : HdS P l.toArray S (l.take n) fs a A) (hargs : as_.map A.eval = args) (hargs2 : ∀ u, as_.map (A.put N2 u).eval = args)
    (hrun : ∀ (W : World) (A' : Act), (execOp A'.eval op).run P W = .ok (.value (.pointer (some ⟨W.heap.size, 0, none⟩))) (W.alloc ob))
    (hc0 : Calls P f args w.drew fun e w' => ∃ b, e = .returned (V b) ∧ S w' ∧ D b w'.heap.size (w'.alloc ob))
    (hc1 : Calls P f args (w.drew.alloc ob) fun e w' => ∃ b, e = .returned (V b) ∧ S w' ∧ D b w.drew.heap.size w')
    (hb1 : ∀ b g, HdS P l.toArray S ((l.drop (n + 1)).take m) (List.replicate m false) ((A.put N2 (.pointer (some ⟨g, 0, none⟩))).put N (V b)) (A2 b g))
    (hb2 : ∀ b g, ∃ A', HdS P l.toArray S ((l.drop (n + 1)).take m) (List.replicate m false) (A.put N (V b)) A' ∧ A'.put N2 (.pointer (some ⟨g, 0, none⟩)) = A2 b g)
    (hrest : ∀ b g w', D b g w' → wpList P l.toArray Q (l.drop (n + 1 + m + 1)) (A2 b g) w') : (Code.region id l.toArray true).wp P Q a w := by
  simp only [Bool.and_eq_true, decide_eq_true_eq, beq_iff_eq] at hB
  obtain ⟨h1, h2, h3, h4, h5, h6, h7, h8, h9, h10⟩ := hB
  have hsz : l.toArray.size = l.length := by simp
  have hnd : ∀ j, j < n + 1 + m + 1 → j ∉ (List.range l.length).drop (n + 1 + m + 1) := by
    intro j hj hc
    obtain ⟨i, hi, e⟩ := List.mem_drop_iff_getElem.mp hc
    simp at e
    omega
  have hend : ∀ b g w', D b g w' → wpAnyLast P .any l.toArray Q S ((List.range l.length).drop (n + 1 + m + 1)) (l.length - (n + 1 + m + 1)) (mask l.length (n + 1 + m + 1)) (A2 b g) w' := by
    intro b g w' hd
    have := rest_ (P := P) (ops := l.toArray) (Q := Q) (S := S) (md := .any) (l.length - (n + 1 + m + 1)) (n + 1 + m + 1) _ _ h9 (by simp; omega) (by simpa using hrest b g w' hd)
    rwa [hsz] at this
  refine start_ (S := S) (ds := (List.range l.length).drop (n + 1 + m + 1)) (mask l.length 0) hm hsz (by unfold mask; apply Array.ext <;> simp) hS (fun _ => ?_)
  have h11 := heads_ (P := P) (ops := l.toArray) (md := .any) (S := S) (ds := (List.range l.length).drop (n + 1 + m + 1)) hQ (l.length - n) n 0 fs a A w.drew h1 (by simpa using hh) (by simp; omega) hS (by
    rw [Nat.zero_add, hsz, show l.length - n = (l.length - (n + 1)) + 1 by omega]
    refine two_ (mask l.length (n + 1)) (maskP l.length n (n + 1 + m)) (show l.toArray[n]? = some o by simpa using ho) (show l.toArray[n + 1 + m]? = some op by simpa using ho2) hN hN2 (by rw [h2, h3, h4]; simp) (hnd n (by omega)) (hnd _ (by omega)) (fun K hK => ?_) (fun K hK => ?_)
    · refine goes_ hf hname hb args (by simp [Region.wanted, hg]) hN hop hargs ?_
      refine hc0.mono ?_
      rintro e w' ⟨b, rfl, hs, hd⟩
      refine ⟨V b, rfl, hK.out _ _ hs (fun _ => ?_)⟩
      obtain ⟨A', hA, hE⟩ := hb2 b w'.heap.size
      have h12 := heads_ (P := P) (ops := l.toArray) (md := .any) (S := S) (ds := (List.range l.length).drop (n + 1 + m + 1)) hQ (l.length - (n + 1 + m)) m (n + 1) (List.replicate m false) (A.put N (V b)) A' w' h7 (by simpa using hA) (by simp; omega) hs (by
        rw [hsz, show l.length - (n + 1 + m) = (l.length - (n + 1 + m + 1)) + 1 by omega]
        refine one_ _ (show l.toArray[n + 1 + m]? = some op by simpa using ho2) hN2 h8 (hnd _ (by omega)) (fun K hK => ?_)
        refine value_ (by simp [Region.wanted, hg2]) hN2 (hrun w' A') ?_
        refine hK.out _ _ (hSa _ hs) (fun _ => ?_)
        rw [hE]
        exact hend b _ _ hd)
      rw [show l.length - (n + 1 + m) + m = l.length - (n + 1) by omega, hsz] at h12
      exact h12
    · refine value_ (by simp [Region.wanted, hg2]) hN2 (hrun w.drew A) ?_
      refine hK.out _ _ (hSa _ hS) (fun _ => ?_)
      rw [show l.length - (n + 1) = (l.length - (n + 1) - 1) + 1 by omega]
      refine one_ _ (show l.toArray[n]? = some o by simpa using ho) hN h5 (hnd n (by omega)) (fun K hK => ?_)
      refine goes_ hf hname hb args (by simp [Region.wanted, hg]) hN hop (hargs2 _) ?_
      refine hc1.mono ?_
      rintro e w' ⟨b, rfl, hs, hd⟩
      refine ⟨V b, rfl, hK.out _ _ hs (fun _ => ?_)⟩
      have h12 := headsP_ (P := P) (Q := Q) (ops := l.toArray) (md := .any) (S := S) (ds := (List.range l.length).drop (n + 1 + m + 1)) (p := n + 1 + m) hQ (l.length - (n + 1 + m + 1)) m (n + 1) _ (A2 b w.drew.heap.size) w' h6 (by simpa using hb1 b w.drew.heap.size) (by simp; omega) (by
        rw [maskP_all, hsz]
        exact hend b _ _ hd)
      rw [show l.length - (n + 1 + m + 1) + m = l.length - (n + 1) - 1 by omega, hsz] at h12
      exact h12)
  rw [show l.length - n + n = l.length by omega, hsz] at h11
  exact h11
end
theorem reps_flat {α : Type} {R : α → List Value → Prop} {sz : Nat} {enc : α → List Value} (he : ∀ x cs, R x cs → cs = enc x) : ∀ (l : List α) (cs : List Value), Reps R sz l cs → cs = l.flatMap enc
  | [], cs, h => by
    have := h.1
    simp only [List.length_nil, Nat.zero_mul] at this
    rw [List.eq_nil_of_length_eq_zero this]
    rfl
  | x :: l, cs, h => by
    have h0 := he x _ (h.2 0 x rfl)
    rw [Nat.zero_mul, List.drop_zero] at h0
    have h1 := reps_flat (sz := sz) he l (cs.drop sz) ⟨by rw [List.length_drop, h.1, List.length_cons, Nat.succ_mul]; omega, fun j p hp => by
      have := h.2 (j + 1) p (by simpa using hp)
      rwa [List.drop_drop, show sz + j * sz = (j + 1) * sz by rw [Nat.succ_mul]; omega]⟩
    rw [List.flatMap_cons, ← h0, ← h1, List.take_append_drop]
theorem R_rS {w : World} {base : Nat} {ok : Nat → Prop} {v : Value} {l : List S75} (h : Kd.R k75 75 w base ok v l) : (rS v l).ok w base := by
  obtain ⟨_, inner, ho, hr⟩ := h
  have := reps_flat (enc := hc) (fun x cs h => k75_openM h) l inner hr
  subst this
  exact ho
theorem R_rI {w : World} {base : Nat} {ok : Nat → Prop} {v : Value} {l : List Int} (h : Kd.R (Kd.int .i64) 3 w base ok v l) : (rI v l).ok w base := by
  obtain ⟨_, inner, ho, hr⟩ := h
  have := reps_flat (enc := ic) (fun x cs h => h) l inner hr
  subst this
  exact ho
theorem R_rTh {w : World} {base : Nat} {ok : Nat → Prop} {v : Value} {l : List S67} (h : Kd.R k67 67 w base ok v l) : (rTh v l).ok w base := by
  obtain ⟨_, inner, ho, hr⟩ := h
  have := reps_flat (enc := tc) (fun x cs h => k67_openM h) l inner hr
  subst this
  exact ho
theorem R_rLo {w : World} {base : Nat} {ok : Nat → Prop} {v : Value} {l : List S155} (h : Kd.R k155 155 w base ok v l) : (rLo v l).ok w base := by
  obtain ⟨_, inner, ho, hr⟩ := h
  have := reps_flat (enc := lc) (fun x cs h => k155_openM h) l inner hr
  subst this
  exact ho
/-- Two new rows of different elements stand apart. -/
theorem Lay.fresh2 {w w1 : World} {base : Nat} {r r' : Row} {L : List Row} (h : Lay w base L) (hb : Below w.heap.size w w1) (hr : r.ok w1 w.heap.size) (hr' : r'.ok w1 w.heap.size) (hne : r.e ≠ r'.e) (hbase : base ≤ w.heap.size) : Lay w1 base (r :: r' :: L) := by
  have h1 := h.fresh (fun k hk => hb.block k hk) hr' hbase
  refine ⟨fun x hx => ?_, ?_⟩
  · rcases List.mem_cons.mp hx with rfl | hx
    · exact own_less hr hbase
    · exact h1.1 x hx
  · show (List.filterMap _ (r :: r' :: L)).Nodup
    rw [List.filterMap_cons]
    cases hv : r.v.ownBlock with
    | none => exact h1.2
    | some g =>
      refine List.nodup_cons.mpr ⟨fun hg => ?_, h1.2⟩
      rw [List.filterMap_cons] at hg
      have h2 := own_base hr g hv
      have hL : g ∉ blks L := fun hg => by have := (h.in_ (k := g) hg).2; omega
      cases hv' : r'.v.ownBlock with
      | none =>
        rw [hv'] at hg
        exact hL hg
      | some g' =>
        rw [hv'] at hg
        rcases List.mem_cons.mp hg with rfl | hg
        · obtain ⟨c1, e1⟩ := own_typed hr g hv
          obtain ⟨c2, e2⟩ := own_typed hr' g hv'
          rw [e1] at e2
          simp only [Option.some.injEq, Obj.cells.injEq] at e2
          exact hne e2.2.1
        · exact hL hg
section
variable {P : Program} {ops : Array Oper} {rest : List Oper} {o : Oper} {a : Act} {Q : Exit → Act → World → Prop}
/-- w.Tables[p] = t, t's rows being new. -/
theorem WW.settab {w w0 : World} {base g gB n c : Nat} {bx : List Value} {v0 v2 v3 x0 x1 : Value} {hs : List (Value × Value)} {T : List S67} {B : List S78} {C : List S155} {E G : List Int} {S : List S75} {F : List Row} (HW : WW w base g bx v0 (.slice (some ⟨gB, 0, none⟩) n c) v2 v3 hs T B C E (rS x0 S :: rI x1 G :: F)) (HB : Below base w0 w) (hbase : base ≤ w.heap.size) (hgd : o.guard = none) (hN : o.dst = none) {t : TypeId} {q : Tmp} {x : Operand} (ho : o.op = .store t (.tmp q) x) (p : Int) (h0 : 0 ≤ p) (h1 : p < B.length)
    (haddr : a.eval (.tmp q) = .pointer (some ⟨gB, p.toNat * 2, none⟩)) (hx : a.eval x = .agg #[x0, x1]) (ht : (P.info? t).map (·.size) = some 2)
    (h : ∀ w1, WW w1 base g bx v0 (.slice (some ⟨gB, 0, none⟩) n c) v2 v3 (hs.set p.toNat (x0, x1)) T (B.set p.toNat ⟨S, G⟩) C E F → Below base w0 w1 → base ≤ w1.heap.size → wpList P ops Q rest a w1) : wpList P ops Q (o :: rest) a w := by
  obtain ⟨gB', e1, e2, e3, e4⟩ := HW.heads p h0 h1
  have hl : n = hs.length := by rw [e2, HW.1]
  subst hl
  have hi : p.toNat < hs.length := by rw [HW.1]; omega
  have k0 := HW.out.one
  have k1 := HW.less.out.one
  have hT := HW.2.tail.tail.at2.at2
  have hT := HW.2.at2
  have hfl := flat_laid pc_len hs p.toNat 0 [x0, x1] (x0, x1) hi (by simp) (by simp [laid, pc])
  have hlen := flat_len pc_len hs
  rw [Nat.add_zero] at hfl
  refine Lay.store_ev (g := gB) (e := 78) (sz := 2) (xs := hs.flatMap pc) hT HB hgd hN ho (p.toNat * 2) haddr hx (seg := [x0, x1]) rfl ht (by
    intro q hq
    simp only [List.mem_cons, List.not_mem_nil, or_false] at hq
    rcases hq with rfl | rfl
    · exact k0
    · exact k1) (by simp only [List.length_cons, List.length_nil]; omega) ?_
  intro w1 hl hb hs'
  rw [hfl] at hl
  have e5 : (⟨.slice (some ⟨gB, 0, none⟩) hs.length c, 78, 2, hs.length, (hs.set p.toNat (x0, x1)).flatMap pc⟩ : Row) = rTa (.slice (some ⟨gB, 0, none⟩) hs.length c) (hs.set p.toNat (x0, x1)) := by
    unfold rTa
    rw [List.length_set]
  rw [e5] at hl
  refine h w1 ⟨by simp [HW.1], ?_⟩ hb (hs' ▸ hbase)
  have hp := tab_pull hs B p.toNat (hdr hs p) (rd_T78 B p) HW.1 (by omega)
  have f1 : hs.set p.toNat (hdr hs p) = hs := by
    have := hdr_get hs p.toNat hi
    rw [show ((p.toNat : Nat) : Int) = p by omega] at this
    rw [this, List.set_getElem_self]
  have f2 : B.set p.toNat (rd_T78 B p) = B := by
    have := rd78_get B p.toNat (by omega)
    rw [show ((p.toNat : Nat) : Int) = p by omega] at this
    rw [this, List.set_getElem_self]
  rw [f1, f2] at hp
  have hq := (tab_pull hs B p.toNat (x0, x1) ⟨S, G⟩ HW.1 (by omega)).symm
  have hl2 := hl.un2
  -- the old table's rows go, the new ones take their place
  have g1 : List.Perm (tabRows hs B ++ rS x0 S :: rI x1 G :: F) (rS (hdr hs p).1 (rd_T78 B p).f0 :: rI (hdr hs p).2 (rd_T78 B p).f1 :: ((rS x0 S :: rI x1 G :: tabRows (hs.eraseIdx p.toNat) (B.eraseIdx p.toNat)) ++ F)) := by
    refine (hp.append_right _).trans ?_
    simp only [List.cons_append]
    refine List.Perm.cons _ (List.Perm.cons _ ?_)
    exact perm_front2 _ _ (tabRows (hs.eraseIdx p.toNat) (B.eraseIdx p.toNat)) F
  have g2 : List.Perm ((rS x0 S :: rI x1 G :: tabRows (hs.eraseIdx p.toNat) (B.eraseIdx p.toNat)) ++ F) (tabRows (hs.set p.toNat (x0, x1)) (B.set p.toNat ⟨S, G⟩) ++ F) := hq.append_right F
  have hl3 := hl2.perm (((((g1.cons _).cons _).cons _).cons _).cons _)
  have hl4 := hl3.sub (((((((List.sublist_cons_self _ _).trans (List.sublist_cons_self _ _)).cons_cons _).cons_cons _).cons_cons _).cons_cons _).cons_cons _)
  exact hl4.perm (((((g2.cons _).cons _).cons _).cons _).cons _)
end
section
variable {w w1 w0 : World} {base g gB n c : Nat} {bx : List Value} {v0 v1 v2 v3 : Value} {hs : List (Value × Value)} {T : List S67} {B : List S78} {C : List S155} {E : List Int} {F : List Row}
theorem WR.forms (h : WR w base v0 v1 v2 v3 hs T B C E F) : ∃ A0 c0 A1 c1 A2 c2 A3 c3, v0 = .slice A0 T.length c0 ∧ v1 = .slice A1 B.length c1 ∧ v2 = .slice A2 C.length c2 ∧ v3 = .slice A3 E.length c3 := by
  obtain ⟨A0, c0, e0⟩ := h.2.hdTh rfl
  obtain ⟨A1, c1, e1⟩ := h.2.tail.hdTa (n := B.length) h.1
  obtain ⟨A2, c2, e2⟩ := h.2.tail.tail.hdLo rfl
  obtain ⟨A3, c3, e3⟩ := h.2.tail.tail.tail.hdI rfl
  exact ⟨A0, c0, A1, c1, A2, c2, A3, c3, e0, e1, e2, e3⟩
/-- A table's header and rows, as what is read. -/
theorem WW.table (h : WW w base g bx v0 (.slice (some ⟨gB, 0, none⟩) n c) v2 v3 hs T B C E F) (p : Int) (h0 : 0 ≤ p) (h1 : p < B.length) :
    ∃ Aa ca Ab cb, hdr hs p = (.slice Aa (rd_T78 B p).f0.length ca, .slice Ab (rd_T78 B p).f1.length cb) ∧ w.cell? ⟨gB, p.toNat * 2, none⟩ = some (.slice Aa (rd_T78 B p).f0.length ca) ∧ w.cell? ⟨gB, p.toNat * 2 + 1, none⟩ = some (.slice Ab (rd_T78 B p).f1.length cb) ∧
      (rd_T78 B p).f0.length ≤ ca ∧ Kd.C k75 w Aa (rd_T78 B p).f0.length (rd_T78 B p).f0 ∧ (rd_T78 B p).f1.length ≤ cb ∧ Kd.C (Kd.int .i64) w Ab (rd_T78 B p).f1.length (rd_T78 B p).f1 := by
  obtain ⟨gB', e1, e2, e3, e4⟩ := h.heads p h0 h1
  have hl : n = hs.length := by rw [e2, h.1]
  subst hl
  have hp := h.pull p h0 h1
  obtain ⟨Aa, ca, a0⟩ := hp.hdS rfl
  obtain ⟨Ab, cb, a1⟩ := hp.tail.hdI rfl
  rw [a0] at e3 hp
  rw [a1] at e4 hp
  obtain ⟨-, l0, C0⟩ := C75 hp
  obtain ⟨-, l1, C1⟩ := CI hp.tail
  exact ⟨Aa, ca, Ab, cb, by rw [← a0, ← a1], h.2.tail.tail.cell _ e3, h.2.tail.tail.cell _ e4, l0, C0, l1, C1⟩
/-- A block made, as a row. -/
theorem WW.newbox (h : WW w base g bx v0 v1 v2 v3 hs T B C E F) (hz : base ≤ w.heap.size) (t : TypeId) (cs : List Value) : WW (w.alloc (.cells cs.toArray t (0, 0))) base g bx v0 v1 v2 v3 hs T B C E (_root_.Go.Proofs.Ytdoflfifnkpacaa.WP.box w.heap.size t cs :: F) :=
  WW.tuck h.1 (h.2.fresh (fun k hk => Below.heap_alloc w _ k hk) (box_ok (blk_new w _) (Nat.le_refl _)) hz)
theorem WW.tuck2 {r r' : Row} (hl : hs.length = B.length) (h : Lay w base (r :: r' :: box g 45 bx :: rTh v0 T :: rTa v1 hs :: rLo v2 C :: rI v3 E :: (tabRows hs B ++ F))) : WW w base g bx v0 v1 v2 v3 hs T B C E (r :: r' :: F) := by
  refine ⟨hl, h.perm ?_⟩
  exact (perm_front2 r r' (box g 45 bx :: rTh v0 T :: rTa v1 hs :: rLo v2 C :: rI v3 E :: tabRows hs B) F).symm
/-- What a call has made: a table. -/
theorem WW.newtab {x0 x1 : Value} {S : List S75} {G : List Int} (h : WW w base g bx v0 v1 v2 v3 hs T B C E F) (hb : Below w.heap.size w w1) (hz : base ≤ w.heap.size) {ok ok' : Nat → Prop} (r0 : Kd.R k75 75 w1 w.heap.size ok x0 S) (r1 : Kd.R (Kd.int .i64) 3 w1 w.heap.size ok' x1 G) : WW w1 base g bx v0 v1 v2 v3 hs T B C E (rS x0 S :: rI x1 G :: F) :=
  WW.tuck2 h.1 (h.2.fresh2 hb (R_rS r0) (R_rI r1) (by simp [rS, rI]) hz)
def SPost (w0 : World) (base : Nat) (T : List S67) (B : List S78) (C : List S155) (E : List Int) (told code : Int) (F : List Row) (e : Ending) (w : World) : Prop := ∃ v, e = .returned (.tuple #[v, .int .i64 told, .int .i64 code]) ∧ AfterR w0 base v T B C E F w
end
def sEnd (k : Nat) (B : List S78) (C : List S155) : Option (List S78 × List S155 × Int × Int) :=
  if C.length = 0 then some (B, C, 0, 2) else
  let x := rd_T155 C ((C.length : Int) - 1)
  if x.f2 < 0 then none else if x.f2 ≥ (B.length : Int) then none else if x.f3 < 0 then none else if x.f3 ≥ ((rd_T78 B x.f2).f0.length : Int) then none else
  (spec_DropHandle.f k (rd_T78 B x.f2).f0 (rd_T78 B x.f2).f1 x.f3 (rd_T75 (rd_T78 B x.f2).f0 x.f3).f1).bind fun d =>
    let B1 := B.set x.f2.toNat ⟨d.1, d.2.1⟩
    if x.f0 < 0 then none else if x.f0 ≥ (B.length : Int) then none else if x.f1 < 0 then none else if x.f1 ≥ ((rd_T78 B1 x.f0).f0.length : Int) then none else
    some (B1.set x.f0.toNat ⟨(rd_T78 B1 x.f0).f0.set x.f1.toNat { rd_T75 (rd_T78 B1 x.f0).f0 x.f1 with f4 := wrap64 ((rd_T75 (rd_T78 B1 x.f0).f0 x.f1).f4 - 1) }, (rd_T78 B1 x.f0).f1⟩, C.take (C.length - 1), (rd_T75 (rd_T78 B x.f2).f0 x.f3).f2, 0)
section
variable {P : Program} {Q : Exit → Act → World → Prop}
theorem draw_store {id : Nat} {l : List Oper} {S : World → Prop} {A a : Act} {w w1 : World} {o : Oper} (n : Nat) (fs : List Bool) (hm : P.follows .mixedOrders = true) (ho : l[n]? = some o)
    (hB : (headsB .any l.toArray ((List.range l.length).drop (n + 1)) 0 n fs && (readyB .any l.toArray (mask l.length n) (mask l.length (n + 1)) n && (restB .any l.toArray ((List.range l.length).drop (n + 1)) (n + 1) (l.length - (n + 1))))) = true)
    (hQ : ∀ c a w d v, Q (.panic c) (Act.put a d v) w → Q (.panic c) a w) (hg : o.guard = none) (hN : o.dst = none) (hS : S w.drew) (hh : HdS P l.toArray S (l.take n) fs a A) (hS1 : S w1) (hrun : (execOp A.eval o).run P w.drew = .ok .skip w1)
    (h : wpList P l.toArray Q (l.drop (n + 1)) A w1) : (Code.region id l.toArray true).wp P Q a w := by
  simp only [Bool.and_eq_true] at hB
  obtain ⟨h1, h2, h3⟩ := hB
  have hn : n < l.length := (List.getElem?_eq_some_iff.mp ho).1
  have hsz : l.toArray.size = l.length := by simp
  refine start_ (S := S) (ds := (List.range l.length).drop (n + 1)) (mask l.length 0) hm hsz (by unfold mask; apply Array.ext <;> simp) hS (fun _ => ?_)
  have h4 := heads_ (P := P) (ops := l.toArray) (md := .any) (S := S) (ds := (List.range l.length).drop (n + 1)) hQ (l.length - n) n 0 fs a A w.drew h1 (by simpa using hh) (by simp; omega) hS (by
    rw [Nat.zero_add, hsz, show l.length - n = (l.length - (n + 1)) + 1 by omega]
    refine one_ _ (show l.toArray[n]? = some o by simpa using ho) rfl h2 (by
      intro hc
      obtain ⟨i, hi, e⟩ := List.mem_drop_iff_getElem.mp hc
      simp at e
      omega) (fun K hK => ?_)
    rw [hN]
    refine skip_ (by simp [Region.wanted, hg]) hN hrun ?_
    refine hK.out _ _ hS1 (fun _ => ?_)
    have := rest_ (P := P) (ops := l.toArray) (Q := Q) (S := S) (md := .any) (l.length - (n + 1)) (n + 1) _ _ h3 (by simp; omega) (by simpa using h)
    rwa [hsz] at this)
  rw [show l.length - n + n = l.length by omega, hsz] at h4
  exact h4
theorem Lay.store_run {w0 W : World} {base : Nat} {L : List Row} {g n c e sz : Nat} {xs : List Value} (HL : Lay W base (⟨.slice (some ⟨g, 0, none⟩) n c, e, sz, n, xs⟩ :: L)) (HB : Below base w0 W) (t : TypeId) (off : Nat) (u : Value) {seg : List Value} (hu : u.cells.toList = seg) (ht : (P.info? t).map (·.size) = some seg.length) (h1 : ∀ q ∈ seg, q.oneCell' = true) (hfit : off + seg.length ≤ xs.length) :
    ∃ w1, (∀ (o : Oper) (a : Act) (p : Tmp) (x : Operand), o.op = .store t (.tmp p) x → a.eval (.tmp p) = .pointer (some ⟨g, off, none⟩) → a.eval x = u → (execOp a.eval o).run P W = .ok .skip w1) ∧ Lay w1 base (⟨.slice (some ⟨g, 0, none⟩) n c, e, sz, n, laid xs off seg⟩ :: L) ∧ Below base w0 w1 ∧ W.heap.size = w1.heap.size := by
  obtain ⟨hl, ⟨cur, hh, hc⟩, hb⟩ := HL.put off seg hfit
  have hrun := run_store_run (P := P) t u seg hh hu ht hc h1
  obtain ⟨s1, s2, s3, s4⟩ := setCells_same g seg off W
  refine ⟨_, fun o a p x ho haddr hx => ?_, hl, HB.trans ⟨s1, s2, s3, by rw [s4]; exact Nat.le_refl _, fun k hk => setCells_far seg _ k (by omega)⟩, s4.symm⟩
  unfold execOp
  simp only [ho, haddr, hx, Sem.run_bind, Sem.run_pure, Result.andThen_ok, hrun]
end
section
variable {w : World} {base g : Nat} {bx : List Value} {v0 v1 v2 v3 : Value} {hs : List (Value × Value)} {T : List S67} {B : List S78} {C : List S155} {E : List Int} {F F' : List Row}
theorem WW.frame (h : WW w base g bx v0 v1 v2 v3 hs T B C E F) (hp : List.Perm F F') : WW w base g bx v0 v1 v2 v3 hs T B C E F' := ⟨h.1, h.2.perm ((((((hp.append_left _).cons _).cons _).cons _).cons _).cons _)⟩
theorem WW.rot1 {a b : Row} (h : WW w base g bx v0 v1 v2 v3 hs T B C E (a :: b :: F)) : WW w base g bx v0 v1 v2 v3 hs T B C E (b :: a :: F) := h.frame (List.Perm.swap ..)
theorem WW.rot2 {a b c : Row} (h : WW w base g bx v0 v1 v2 v3 hs T B C E (a :: b :: c :: F)) : WW w base g bx v0 v1 v2 v3 hs T B C E (c :: a :: b :: F) := h.frame ((List.Perm.cons a (List.Perm.swap c b F)).trans (List.Perm.swap c a _))
end
def inB (a lo hi : Int) : Bool := decide (lo ≤ a) && decide (a ≤ hi)
theorem l1In_f (a lo hi : Int) : spec_l1In.f a lo hi = some (inB a lo hi) := by
  unfold spec_l1In.f inB
  by_cases h : a ≥ lo
  · rw [if_pos h, decide_eq_true (show lo ≤ a from h), Bool.true_and]
  · rw [if_neg h, decide_eq_false (show ¬ lo ≤ a from h), Bool.false_and]
theorem two_ones {x0 x1 : Value} (h0 : x0.oneCell' = true) (h1 : x1.oneCell' = true) : ∀ q ∈ [x0, x1], q.oneCell' = true := by
  intro q hq
  simp only [List.mem_cons, List.not_mem_nil, or_false] at hq
  rcases hq with rfl | rfl <;> assumption
def sMake (k : Nat) (T : List S67) (B : List S78) (part n : Int) : Option (List S67 × List S78 × Int × Int) :=
  if inB n 0 9 = false then some (T, B, 0, 1) else if (T.length : Int) = 40 then some (T, B, 0, 5) else if part < 0 then none else if part ≥ (B.length : Int) then none else
  (spec_l16Full.f (rd_T78 B part).f0 (rd_T78 B part).f1).bind fun fl => if fl = true then some (T, B, 0, 5) else
  if T.length < 1048576 then (spec_NewHandle.f k (rd_T78 B part).f0 (rd_T78 B part).f1 true n (T.length : Int) true 0 0).bind fun r => some (T ++ [⟨n, true⟩], B.set part.toNat ⟨r.1, r.2.1⟩, r.2.2.1, 0) else none
/-- The world's rows with more in the frame, under a name. -/
theorem WW.asD {w : World} {base g : Nat} {bx : List Value} {v0 v1 v2 v3 : Value} {hs : List (Value × Value)} {T : List S67} {B : List S78} {C : List S155} {E : List Int} {F : List Row} (_h : WW w base g bx v0 v1 v2 v3 hs T B C E F) : ∃ D : List Row → World → Prop, ∀ rows W, D rows W ↔ WW W base g bx v0 v1 v2 v3 hs T B C E (rows ++ F) := ⟨_, fun _ _ => Iff.rfl⟩
def sDrop (k : Nat) (T : List S67) (B : List S78) (C : List S155) (E : List Int) (part at_ n : Int) : Option (List S67 × List S78 × List S155 × List Int × Int × Int) :=
  if part < 0 then none else if part ≥ (B.length : Int) then none else
  (spec_l15Find.f k (rd_T78 B part).f0 (rd_T78 B part).f1 at_ n).bind fun r =>
    if r.2.2.2.2.2.2 = 0 then (if r.2.2.2.1 = true then (if r.2.2.2.2.1 = 0 then
        (spec_DropHandle.f k (rd_T78 B part).f0 (rd_T78 B part).f1 at_ n).bind fun d =>
          if r.2.2.1 < 0 then none else if r.2.2.1 ≥ (T.length : Int) then none else if E.length < 1048576 then
          some (T.set r.2.2.1.toNat { rd_T67 T r.2.2.1 with f1 := false }, B.set part.toNat ⟨d.1, d.2.1⟩, C, E ++ [r.2.2.1], r.2.2.1, 0) else none
      else some (T, B, C, E, 0, 4))
      else (if r.2.2.2.2.2.1 = (C.length : Int) then (sEnd k B C).bind fun q => some (T, q.1, q.2.1, E, q.2.2.1, q.2.2.2) else some (T, B, C, E, 0, 4)))
    else some (T, B, C, E, 0, r.2.2.2.2.2.2)
theorem WR.out {r : Row} {w : World} {base : Nat} {v0 v1 v2 v3 : Value} {hs : List (Value × Value)} {T : List S67} {B : List S78} {C : List S155} {E : List Int} {F : List Row} (h : WR w base v0 v1 v2 v3 hs T B C E (r :: F)) : Lay w base (r :: rTh v0 T :: rTa v1 hs :: rLo v2 C :: rI v3 E :: (tabRows hs B ++ F)) :=
  h.2.perm (List.perm_middle (l₁ := rTh v0 T :: rTa v1 hs :: rLo v2 C :: rI v3 E :: tabRows hs B) (l₂ := F) (a := r))
theorem WW.frame_drop2 {w : World} {base g : Nat} {bx : List Value} {v0 v1 v2 v3 : Value} {hs : List (Value × Value)} {T : List S67} {B : List S78} {C : List S155} {E : List Int} {F : List Row} {a b c : Row} (h : WW w base g bx v0 v1 v2 v3 hs T B C E (a :: b :: c :: F)) : WR w base v0 v1 v2 v3 hs T B C E (a :: F) :=
  (h.frame (F' := b :: c :: a :: F) (((List.Perm.swap b a _)).trans (List.Perm.cons b (List.Perm.swap c a F)))).less.less.less0
def sGive (k : Nat) (B : List S78) (part at_ to_ n : Int) : Option (List S78 × Int) :=
  (spec_MoveHandle.f k (rd_T78 B part).f0 (rd_T78 B part).f1 at_ n).bind fun m =>
    (spec_NewHandle.f k (rd_T78 (B.set part.toNat ⟨m.1, m.2.1⟩) to_).f0 (rd_T78 (B.set part.toNat ⟨m.1, m.2.1⟩) to_).f1 m.2.2.1 m.2.2.2.1 m.2.2.2.2.1 m.2.2.2.2.2.1 m.2.2.2.2.2.2.1 m.2.2.2.2.2.2.2.1).bind fun q =>
      some ((B.set part.toNat ⟨m.1, m.2.1⟩).set to_.toNat ⟨q.1, q.2.1⟩, q.2.2.1)
def lentB (B : List S78) (part at_ : Int) : List S78 := B.set part.toNat ⟨(rd_T78 B part).f0.set at_.toNat { rd_T75 (rd_T78 B part).f0 at_ with f4 := wrap64 ((rd_T75 (rd_T78 B part).f0 at_).f4 + 1) }, (rd_T78 B part).f1⟩
def sLend (k : Nat) (B : List S78) (C : List S155) (part at_ to_ res rep : Int) : Option (List S78 × List S155 × Int) :=
  if at_ < 0 then none else if at_ ≥ ((rd_T78 B part).f0.length : Int) then none else if C.length < 1048576 then
    (spec_NewHandle.f k (rd_T78 (lentB B part at_) to_).f0 (rd_T78 (lentB B part at_) to_).f1 true res rep false 0 ((C.length : Int) + 1)).bind fun q =>
      some ((lentB B part at_).set to_.toNat ⟨q.1, q.2.1⟩, C ++ [⟨part, at_, to_, q.2.2.1⟩], q.2.2.1) else none
def sDo (k : Nat) (T : List S67) (B : List S78) (C : List S155) (E : List Int) (kind part at_ to_ n : Int) : Option (List S67 × List S78 × List S155 × List Int × Int × Int) :=
  if kind = 5 then (sEnd k B C).bind fun q => some (T, q.1, q.2.1, E, q.2.2.1, q.2.2.2) else
  if inB kind 1 4 = false then some (T, B, C, E, 0, 1) else if inB part 0 ((B.length : Int) - 1) = false then some (T, B, C, E, 0, 1) else
  if kind = 1 then (sMake k T B part n).bind fun q => some (q.1, q.2.1, C, E, q.2.2.1, q.2.2.2) else
  if kind = 4 then sDrop k T B C E part at_ n else
  if inB to_ 0 ((B.length : Int) - 1) = false then some (T, B, C, E, 0, 1) else if to_ = part then some (T, B, C, E, 0, 1) else
  (spec_l15Find.f k (rd_T78 B part).f0 (rd_T78 B part).f1 at_ n).bind fun r =>
    if r.2.2.2.2.2.2 = 0 then (if r.2.2.2.1 = true then (if kind = 2 ∧ r.2.2.2.2.1 ≠ 0 then some (T, B, C, E, 0, 4) else
      (spec_l16Full.f (rd_T78 B to_).f0 (rd_T78 B to_).f1).bind fun fl => if fl = true then some (T, B, C, E, 0, 5) else
        if kind = 2 then (sGive k B part at_ to_ n).bind fun q => some (T, q.1, C, E, q.2, 0) else (sLend k B C part at_ to_ r.2.1 r.2.2.1).bind fun q => some (T, q.1, q.2.1, E, q.2.2, 0))
      else some (T, B, C, E, 0, 6))
    else some (T, B, C, E, 0, r.2.2.2.2.2.2)
theorem Lay.len_le {w : World} {base : Nat} {r : Row} {L : List Row} (h : Lay w base (r :: L)) : r.n ≤ 9223372036854775807 := by
  rcases h.head.2 with ⟨_, h0⟩ | ⟨g, cap, cur, _, _, _, h1, h2, _⟩
  · omega
  · simp only [maxLen] at h2; omega
theorem inB_in {a n : Int} (h : inB a 0 (n - 1) = true) : 0 ≤ a ∧ a < n := by
  unfold inB at h
  simp only [Bool.and_eq_true, decide_eq_true_eq] at h
  omega
/-- The world under a new name. -/
theorem WW.named {P : Program} {c : Code} {a : Act} {Q : Exit → Act → World → Prop} {w w0 : World} {base g : Nat} {bx : List Value} {v0 v1 v2 v3 : Value} {hs : List (Value × Value)} {T : List S67} {B : List S78} {C : List S155} {E : List Int} {F : List Row} (hW : WW w base g bx v0 v1 v2 v3 hs T B C E F) (hb : Below base w0 w) (hz : base ≤ w.heap.size)
    (h : ∀ w', WW w' base g bx v0 v1 v2 v3 hs T B C E F → Below base w0 w' → base ≤ w'.heap.size → Code.wp P c Q a w') : Code.wp P c Q a w := h w hW hb hz
theorem Lay.cons {w : World} {base : Nat} {r : Row} {L : List Row} (h : Lay w base L) (hr : r.ok w base) (hk : ∀ k, r.v.ownBlock = some k → k ∉ blks L) : Lay w base (r :: L) := by
  refine ⟨fun x hx => ?_, ?_⟩
  · rcases List.mem_cons.mp hx with rfl | hx
    · exact hr
    · exact h.1 x hx
  · show (List.filterMap _ (r :: L)).Nodup
    rw [List.filterMap_cons]
    cases hv : r.v.ownBlock with
    | none => exact h.2
    | some g => exact List.nodup_cons.mpr ⟨hk g hv, h.2⟩
theorem blks_cons (r : Row) (L : List Row) (k : Nat) : k ∈ blks (r :: L) ↔ r.v.ownBlock = some k ∨ k ∈ blks L := by
  unfold blks
  rw [List.filterMap_cons]
  cases hv : r.v.ownBlock with
  | none => simp
  | some g => simp [eq_comm]
theorem blks_app (L M : List Row) : blks (L ++ M) = blks L ++ blks M := by unfold blks; rw [List.filterMap_append]
def ofT (w : World) (k : Nat) (e : Nat) : Prop := ∃ cells, w.heap[k]? = some (.cells cells e (0, 0))
theorem ofT_one {w : World} {k e e' : Nat} (h : ofT w k e) (h' : ofT w k e') : e = e' := by
  obtain ⟨c, h⟩ := h
  obtain ⟨c', h'⟩ := h'
  rw [h] at h'
  simp only [Option.some.injEq, Obj.cells.injEq] at h'
  exact h'.2.1
theorem ok_ofT {w : World} {base k : Nat} {r : Row} (h : r.ok w base) (hk : r.v.ownBlock = some k) : ofT w k r.e := own_typed h k hk
theorem tab_rows (w : World) (base : Nat) (okb : Nat → Prop) (f : Nat → Nat) : ∀ (B : List S78) (j0 : Nat) (inner : List Value), Reps (fun (p : S78 × Nat) cs => k78.M w base (fun k => okb k ∧ f k = p.2) p.1 cs) 2 (B.zipIdx j0) inner →
    ∃ hs, hs.length = B.length ∧ inner = hs.flatMap pc ∧ (∀ r ∈ tabRows hs B, r.ok w base) ∧ (blks (tabRows hs B)).Nodup ∧ ∀ k ∈ blks (tabRows hs B), okb k ∧ j0 ≤ f k ∧ (ofT w k 75 ∨ ofT w k 3)
  | [], j0, inner, h => by
    have := h.1
    simp only [List.zipIdx_nil, List.length_nil, Nat.zero_mul] at this
    rw [List.eq_nil_of_length_eq_zero this]
    exact ⟨[], rfl, rfl, by simp [tabRows], by simp [tabRows, blks], by simp [tabRows, blks]⟩
  | t :: B, j0, inner, h => by
    rw [List.zipIdx_cons] at h
    have h0 := h.2 0 (t, j0) rfl
    rw [Nat.zero_mul, List.drop_zero] at h0
    obtain ⟨x0, x1, e, r0, r1⟩ := k78_openM h0
    obtain ⟨hs, hl, hi, hok, hnd, hkk⟩ := tab_rows w base okb f B (j0 + 1) (inner.drop 2) ⟨by rw [List.length_drop, h.1, List.length_cons, Nat.succ_mul]; omega, fun j p hp => by
      have := h.2 (j + 1) p (by simpa using hp)
      rwa [List.drop_drop, show 2 + j * 2 = (j + 1) * 2 by omega]⟩
    have o0 := R_rS r0
    have o1 := R_rI r1
    have a0 : ∀ k, x0.ownBlock = some k → okb k ∧ f k = j0 := r0.1
    have a1 : ∀ k, x1.ownBlock = some k → okb k ∧ f k = j0 := r1.1
    have t0 : ∀ k, x0.ownBlock = some k → ofT w k 75 := fun k hk => ok_ofT o0 hk
    have t1 : ∀ k, x1.ownBlock = some k → ofT w k 3 := fun k hk => ok_ofT o1 hk
    refine ⟨(x0, x1) :: hs, by simp [hl], ?_, ?_, ?_, ?_⟩
    · rw [List.flatMap_cons, show pc (x0, x1) = [x0, x1] from rfl, ← e, ← hi, List.take_append_drop]
    · intro r hr
      simp only [tabRows, List.mem_cons] at hr
      rcases hr with rfl | rfl | hr
      · exact o0
      · exact o1
      · exact hok r hr
    · have n1 : ∀ k, x1.ownBlock = some k → k ∉ blks (tabRows hs B) := fun k hk hm => by
        have := (hkk k hm).2.1
        have := (a1 k hk).2
        omega
      have n0 : ∀ k, x0.ownBlock = some k → k ∉ blks (rI x1 t.f1 :: tabRows hs B) := fun k hk hm => by
        rcases (blks_cons _ _ _).mp hm with h1 | hm
        · exact absurd (ofT_one (t0 k hk) (t1 k h1)) (by decide)
        · have := (hkk k hm).2.1
          have := (a0 k hk).2
          omega
      have c1 : (blks (rI x1 t.f1 :: tabRows hs B)).Nodup := by
        unfold blks
        rw [List.filterMap_cons]
        cases hv : (rI x1 t.f1).v.ownBlock with
        | none => exact hnd
        | some g => exact List.nodup_cons.mpr ⟨n1 g hv, hnd⟩
      show (List.filterMap _ (rS x0 t.f0 :: rI x1 t.f1 :: tabRows hs B)).Nodup
      rw [List.filterMap_cons]
      cases hv : (rS x0 t.f0).v.ownBlock with
      | none => exact c1
      | some g => exact List.nodup_cons.mpr ⟨n0 g hv, c1⟩
    · intro k hm
      simp only [tabRows] at hm
      rcases (blks_cons _ _ _).mp hm with h1 | hm
      · exact ⟨(a0 k h1).1, Nat.le_of_eq (a0 k h1).2.symm, .inl (t0 k h1)⟩
      · rcases (blks_cons _ _ _).mp hm with h1 | hm
        · exact ⟨(a1 k h1).1, Nat.le_of_eq (a1 k h1).2.symm, .inr (t1 k h1)⟩
        · have := hkk k hm
          exact ⟨this.1, by omega, this.2.2⟩
/-- Rows as the print tells them, as a world's rows. -/
theorem WR.ofR {w w1 : World} {base : Nat} {v0 v1 v2 v3 : Value} {T : List S67} {B : List S78} {C : List S155} {E : List Int} {F : List Row} (hF : Lay w base F) (hb : Below w.heap.size w w1) (hz : base ≤ w.heap.size)
    (r0 : Kd.R k67 67 w1 w.heap.size (fun _ => True) v0 T) (r1 : Kd.S k78 78 w1 w.heap.size (fun k_ => some k_ ≠ (v3 : Value).ownBlock) v1 B) (r2 : Kd.R k155 155 w1 w.heap.size (fun _ => True) v2 C) (r3 : Kd.R (Kd.int .i64) 3 w1 w.heap.size (fun _ => True) v3 E) :
    ∃ hs, WR w1 base v0 v1 v2 v3 hs T B C E F := by
  obtain ⟨f, h0, inner, ho, hr⟩ := r1
  obtain ⟨hs, hl, hi, hok, hnd, hkk⟩ := tab_rows w1 w.heap.size (fun k => (some k ≠ v3.ownBlock) ∧ some k ≠ v1.ownBlock) f B 0 inner (by
    refine ⟨hr.1, fun j p hp => ?_⟩
    exact k78.M_mono (fun k hk => ⟨hk.1, hk.2⟩) (hr.2 j p hp))
  subst hi
  rw [List.length_zipIdx] at ho
  have oT := R_rTh r0
  have oC := R_rLo r2
  have oE := R_rI r3
  have oB : (rTa v1 hs).ok w1 w.heap.size := by
    have ho' : w1.ownsRow w.heap.size 78 2 v1 B.length (hs.flatMap pc) := ho
    unfold rTa Row.ok
    rw [hl]
    exact ho'
  have hF1 := hF.below hb
  have hi : ∀ k, k ∈ blks F → k < w.heap.size := fun k hk => (hF.in_ hk).2
  have tb : ∀ k ∈ blks (tabRows hs B), w.heap.size ≤ k := by
    intro k hk
    obtain ⟨r, hr, e⟩ := List.mem_filterMap.mp hk
    exact own_base (hok r hr) k e
  have l0 : Lay w1 base (tabRows hs B ++ F) := by
    refine ⟨fun r hr => ?_, ?_⟩
    · rcases List.mem_append.mp hr with hr | hr
      · exact own_less (hok r hr) hz
      · exact hF1.1 r hr
    · rw [blks_app]
      refine List.nodup_append.mpr ⟨hnd, hF1.2, fun a ha b hb' e => ?_⟩
      have := tb a ha
      have := hi b hb'
      omega
  have inL : ∀ k, k ∈ blks (tabRows hs B ++ F) → k ∈ blks (tabRows hs B) ∨ k ∈ blks F := fun k hk => by rw [blks_app] at hk; exact List.mem_append.mp hk
  have notF : ∀ {r : Row}, r.ok w1 w.heap.size → ∀ k, r.v.ownBlock = some k → k ∉ blks F := fun ho k hk hm => by
    have := own_base ho k hk
    have := hi k hm
    omega
  have l3 : Lay w1 base (rI v3 E :: (tabRows hs B ++ F)) := l0.cons (own_less oE hz) fun k hk hm => by
    rcases inL k hm with hm | hm
    · exact (hkk k hm).1.1 hk.symm
    · exact notF oE k hk hm
  have l2 : Lay w1 base (rLo v2 C :: rI v3 E :: (tabRows hs B ++ F)) := l3.cons (own_less oC hz) fun k hk hm => by
    have ht := ok_ofT oC hk
    rcases (blks_cons _ _ _).mp hm with h1 | hm
    · exact absurd (ofT_one ht (ok_ofT oE h1)) (by simp [rTh, rTa, rLo, rI])
    rcases inL k hm with hm | hm
    · rcases (hkk k hm).2.2 with h | h <;> exact absurd (ofT_one ht h) (by simp [rTh, rTa, rLo, rI])
    · exact notF oC k hk hm
  have l1 : Lay w1 base (rTa v1 hs :: rLo v2 C :: rI v3 E :: (tabRows hs B ++ F)) := l2.cons (own_less oB hz) fun k hk hm => by
    have ht := ok_ofT oB hk
    rcases (blks_cons _ _ _).mp hm with h1 | hm
    · exact absurd (ofT_one ht (ok_ofT oC h1)) (by simp [rTh, rTa, rLo, rI])
    rcases (blks_cons _ _ _).mp hm with h1 | hm
    · exact absurd (ofT_one ht (ok_ofT oE h1)) (by simp [rTh, rTa, rLo, rI])
    rcases inL k hm with hm | hm
    · rcases (hkk k hm).2.2 with h | h <;> exact absurd (ofT_one ht h) (by simp [rTh, rTa, rLo, rI])
    · exact notF oB k hk hm
  exact ⟨hs, hl, l1.cons (own_less oT hz) fun k hk hm => by
    have ht := ok_ofT oT hk
    rcases (blks_cons _ _ _).mp hm with h1 | hm
    · exact absurd (ofT_one ht (ok_ofT oB h1)) (by simp [rTh, rTa, rLo, rI])
    rcases (blks_cons _ _ _).mp hm with h1 | hm
    · exact absurd (ofT_one ht (ok_ofT oC h1)) (by simp [rTh, rTa, rLo, rI])
    rcases (blks_cons _ _ _).mp hm with h1 | hm
    · exact absurd (ofT_one ht (ok_ofT oE h1)) (by simp [rTh, rTa, rLo, rI])
    rcases inL k hm with hm | hm
    · rcases (hkk k hm).2.2 with h | h <;> exact absurd (ofT_one ht h) (by simp [rTh, rTa, rLo, rI])
    · exact notF oT k hk hm⟩
theorem wr_C78 {w : World} {base n c : Nat} {A : Option Addr} {v0 v2 v3 : Value} {hs : List (Value × Value)} {T : List S67} {B : List S78} {C : List S155} {E : List Int} {F : List Row} (h : WR w base v0 (.slice A n c) v2 v3 hs T B C E F) : n = B.length ∧ n ≤ c ∧ k78.C w A B.length B := by
  have hT := h.2.tail
  obtain ⟨A', c', hv, hc⟩ := hT.slice
  simp only [rTa, Value.slice.injEq] at hv
  obtain ⟨rfl, hn, rfl⟩ := hv
  have hl := h.1
  have hn' : n = B.length := by rw [hn, hl]
  subst hn'
  refine ⟨rfl, by simp only [rTa] at hc; omega, rfl, ?_, fun hn0 => ?_⟩
  · have := hT.len_le
    simp only [rTa] at this
    omega
  · obtain ⟨g, c2, hv, _, _⟩ := hT.form (by simp only [rTa]; omega)
    simp only [rTa, Value.slice.injEq] at hv
    obtain ⟨rfl, _, rfl⟩ := hv
    refine ⟨_, rfl, fun j p hj => ?_⟩
    have hjl : j < B.length := (List.getElem?_eq_some_iff.mp hj).1
    have hjh : j < hs.length := by omega
    have hp := (h.2.perm ((((tab_at hs B j hl hjl).append_right F).append_left [rTh v0 T, rTa (.slice (some ⟨g, 0, none⟩) B.length c) hs, rLo v2 C, rI v3 E]).trans (perm_front2 _ _ [rTh v0 T, rTa (.slice (some ⟨g, 0, none⟩) B.length c) hs, rLo v2 C, rI v3 E] _)))
    obtain ⟨Aa, ca, ea⟩ := hp.hdS rfl
    obtain ⟨Ab, cb, eb⟩ := hp.tail.hdI rfl
    rw [ea, eb] at hp
    obtain ⟨-, l0, C0⟩ := C75 hp
    obtain ⟨-, l1, C1⟩ := CI hp.tail
    have hBj : rd_T78 B (j : Int) = p := by
      rw [rd78_get B j hjl]
      rw [List.getElem?_eq_getElem hjl] at hj
      exact Option.some.inj hj
    rw [hBj] at ea eb l0 C0 l1 C1
    refine ⟨[.slice Aa p.f0.length ca, .slice Ab p.f1.length cb], rfl, k78_mk w p l0 C0 l1 C1, fun i u hu => ?_⟩
    have hil : i < 2 := (List.getElem?_eq_some_iff.mp hu).1
    have hg := flat_get pc_len hs j i hjh hil
    rw [← hdr_get hs j hjh] at hg
    rw [add_plain]
    have hT2 := hT
    unfold rTa at hT2
    rw [← hl] at hT2
    refine hT2.cell _ ?_
    show (hs.flatMap pc)[j * 2 + i]? = some u
    rw [hg, ← hu]
    unfold pc
    rw [ea, eb]
def oldF (v0 v1 v2 v3 : Value) (hs : List (Value × Value)) (T : List S67) (B : List S78) (C : List S155) (E : List Int) (F : List Row) : List Row := rTh v0 T :: rTa v1 hs :: rLo v2 C :: rI v3 E :: (tabRows hs B ++ F)
def OPost (w0 : World) (base : Nat) (T : List S67) (B : List S78) (C : List S155) (E : List Int) (F : List Row) (e : Ending) (w : World) : Prop := ∃ v, e = .returned v ∧ AfterR w0 base v T B C E F w
/-- The model's copy: new rows; the old ones stay. -/
theorem spec_l16Own.lay (base : Nat) (v0 v1 v2 v3 : Value) (hs : List (Value × Value)) (T : List S67) (B : List S78) (C : List S155) (E : List Int) (F : List Row) (k : Nat) (T' : List S67) (B' : List S78) (C' : List S155) (E' : List Int) (w0 w : World) (hW : WR w base v0 v1 v2 v3 hs T B C E F) (hb : Below base w0 w) (hz : base ≤ w.heap.size) (hr : spec_l16Own.f k T B C E = some (T', B', C', E')) :
    Calls Try.prog 102 #[.agg #[v0, v1, v2, v3]] w fun e_ w' => OPost w0 base T' B' C' E' (oldF v0 v1 v2 v3 hs T B C E F) e_ w' := by
  obtain ⟨A0, c0, A1, c1, A2, c2, A3, c3, rfl, rfl, rfl, rfl⟩ := hW.forms
  obtain ⟨-, l0, K0⟩ := C67 hW.2
  obtain ⟨-, l1, K1⟩ := (wr_C78 hW)
  obtain ⟨-, l2, K2⟩ := C155 hW.2.tail.tail
  obtain ⟨-, l3, K3⟩ := CI hW.2.tail.tail.tail
  refine (spec_l16Own.calls k A0 c0 T A1 c1 B A2 c2 C A3 c3 E T' B' C' E' w K0 l0 K1 l1 K2 l2 K3 l3 hr).mono ?_
  rintro e_ w' ⟨x0, x1, x2, x3, rfl, r0, r1, r2, r3, hb'⟩
  obtain ⟨hs', h'⟩ := WR.ofR (F := oldF (.slice A0 T.length c0) (.slice A1 B.length c1) (.slice A2 C.length c2) (.slice A3 E.length c3) hs T B C E F) hW.2 hb' hz r0 r1 r2 r3
  exact ⟨_, rfl, AfterR.mk h' (below_up hb hz hb') (Nat.le_trans hz hb'.size)⟩
def mk (m : Nat) (is : List Nat) : Array Bool := ((List.range m).map fun i => is.contains i).toArray
def stepB (l l' : Array Bool) (i : Nat) : Bool := l.setIfInBounds i true == l'
section
variable {P : Program} {Q : Exit → Act → World → Prop}
theorem draw_two {id : Nat} {l : List Oper} {S : World → Prop} {A a : Act} {w : World} {o0 o1 o2 o3 op : Oper} {f1 f2 : FuncId} {fn1 fn2 : Func} {as1 as2 : Array Operand} {ts1 ts2 : Array TypeId} {β γ : Type} (m : Nat)
    (hf1 : P.funcs[f1]? = some fn1) (hname1 : (fn1.name == "runtime.NumGoroutine") = false) (hbo1 : fn1.body.isSome = true) (hf2 : P.funcs[f2]? = some fn2) (hname2 : (fn2.name == "runtime.NumGoroutine") = false) (hbo2 : fn2.body.isSome = true)
    (args1 : Array Value) (args2 : β → Array Value) (V1 : β → Value) (V2 : β → γ → Value) (D0 : Option Nat → World → Prop) (D1 : β → Option Nat → World → Prop) (D2 : β → γ → Option Nat → World → Prop) (A2 : β → γ → Nat → Act) (ob : Obj)
    (hm : P.follows .mixedOrders = true) (ho0 : l[0]? = some o0) (ho1 : l[1]? = some o1) (ho2 : l[2]? = some o2) (ho3 : l[3]? = some o3) (hop : l[4 + m]? = some op) (N1 N2 N3 : Option Tmp) (hN1 : o1.dst = N1) (hN2 : o3.dst = N2) (hN3 : op.dst = N3) (hg1 : o1.guard = none) (hg3 : o3.guard = none) (hgp : op.guard = none)
    (hop1 : o1.op = .call { callee := .value (.func f1), args := as1, argTypes := ts1 }) (hop3 : o3.op = .call { callee := .value (.func f2), args := as2, argTypes := ts2 })
    (hB : (takeB .any l.toArray ((List.range l.length).drop (5 + m)) (mk l.length []) (mk l.length [0]) 0 && (takeB .any l.toArray ((List.range l.length).drop (5 + m)) (mk l.length [0]) (mk l.length [0, 2]) 2 && ((Region.ready .any l.toArray (mk l.length [0, 2]) == [1, 4 + m]) && (stepB (mk l.length [0, 2]) (mk l.length [0, 1, 2]) 1 && (stepB (mk l.length [0, 2]) (mk l.length [0, 2, 4 + m]) (4 + m) &&
      ((Region.ready .any l.toArray (mk l.length [0, 1, 2]) == [3, 4 + m]) && (stepB (mk l.length [0, 1, 2]) (mask l.length 4) 3 && (stepB (mk l.length [0, 1, 2]) (mk l.length [0, 1, 2, 4 + m]) (4 + m) && (readyB .any l.toArray (mk l.length [0, 2, 4 + m]) (mk l.length [0, 1, 2, 4 + m]) 1 && (readyB .any l.toArray (mk l.length [0, 1, 2, 4 + m]) (maskP l.length 4 (4 + m)) 3 &&
      (headsP .any l.toArray (4 + m) 4 m && (headsB .any l.toArray ((List.range l.length).drop (5 + m)) 4 m (List.replicate m false) && (readyB .any l.toArray (mask l.length (4 + m)) (mask l.length (5 + m)) (4 + m) && (restB .any l.toArray ((List.range l.length).drop (5 + m)) (5 + m) (l.length - (5 + m)) && decide (5 + m ≤ l.length))))))))))))))) = true)
    (hQ : ∀ c a w d v, Q (.panic c) (Act.put a d v) w → Q (.panic c) a w) (hS : S w.drew) (hSa : ∀ W, S W → S (W.alloc ob)) (hh : HdS P l.toArray S [o0, o2] [true, true] a A)
    (hrun : ∀ (W : World) (A' : Act), (execOp A'.eval op).run P W = .ok (.value (.pointer (some ⟨W.heap.size, 0, none⟩))) (W.alloc ob))
    (ha1 : as1.map A.eval = args1) (ha1' : ∀ u, as1.map (A.put N3 u).eval = args1) (ha2 : ∀ b, as2.map (A.put N1 (V1 b)).eval = args2 b) (ha2' : ∀ b u, as2.map ((A.put N1 (V1 b)).put N3 u).eval = args2 b) (ha2'' : ∀ b u, as2.map ((A.put N3 u).put N1 (V1 b)).eval = args2 b)
    (d0 : D0 none w.drew) (hal0 : ∀ W, D0 none W → S W → D0 (some W.heap.size) (W.alloc ob)) (hal1 : ∀ b W, D1 b none W → S W → D1 b (some W.heap.size) (W.alloc ob)) (hal2 : ∀ b c W, D2 b c none W → S W → D2 b c (some W.heap.size) (W.alloc ob))
    (hc1 : ∀ og W, D0 og W → S W → Calls P f1 args1 W fun e w' => ∃ b, e = .returned (V1 b) ∧ S w' ∧ D1 b og w')
    (hc2 : ∀ b og W, D1 b og W → S W → Calls P f2 (args2 b) W fun e w' => ∃ c, e = .returned (V2 b c) ∧ S w' ∧ D2 b c og w')
    (hb1 : ∀ b c g, HdS P l.toArray S ((l.drop 4).take m) (List.replicate m false) (((A.put N1 (V1 b)).put N3 (.pointer (some ⟨g, 0, none⟩))).put N2 (V2 b c)) (A2 b c g))
    (hb2 : ∀ b c g, HdS P l.toArray S ((l.drop 4).take m) (List.replicate m false) (((A.put N3 (.pointer (some ⟨g, 0, none⟩))).put N1 (V1 b)).put N2 (V2 b c)) (A2 b c g))
    (hb3 : ∀ b c g, ∃ A', HdS P l.toArray S ((l.drop 4).take m) (List.replicate m false) ((A.put N1 (V1 b)).put N2 (V2 b c)) A' ∧ A'.put N3 (.pointer (some ⟨g, 0, none⟩)) = A2 b c g)
    (hrest : ∀ b c g w', D2 b c (some g) w' → wpList P l.toArray Q (l.drop (5 + m)) (A2 b c g) w') : (Code.region id l.toArray true).wp P Q a w := by
  simp only [Bool.and_eq_true, decide_eq_true_eq, beq_iff_eq, stepB] at hB
  obtain ⟨h1, h2, h3, h4, h5, h6, h7, h8, h9, h10, h11, h12, h13, h14, h15⟩ := hB
  have hsz : l.toArray.size = l.length := by simp
  have hnd : ∀ j, j < 5 + m → j ∉ (List.range l.length).drop (5 + m) := by
    intro j hj hc
    obtain ⟨i, hi, e⟩ := List.mem_drop_iff_getElem.mp hc
    simp at e
    omega
  have hend : ∀ b c g w', D2 b c (some g) w' → wpAnyLast P .any l.toArray Q S ((List.range l.length).drop (5 + m)) (l.length - (5 + m)) (mask l.length (5 + m)) (A2 b c g) w' := by
    intro b c g w' hd
    have := rest_ (P := P) (ops := l.toArray) (Q := Q) (S := S) (md := .any) (l.length - (5 + m)) (5 + m) _ _ h14 (by simp; omega) (by simpa using hrest b c g w' hd)
    rwa [hsz] at this
  have hP : ∀ b c g w' A1, D2 b c (some g) w' → HdS P l.toArray S ((l.drop 4).take m) (List.replicate m false) A1 (A2 b c g) → wpAnyLast P .any l.toArray Q S ((List.range l.length).drop (5 + m)) (l.length - (5 + m) + m) (maskP l.length 4 (4 + m)) A1 w' := by
    intro b c g w' A1 hd hA
    have := headsP_ (P := P) (Q := Q) (ops := l.toArray) (md := .any) (S := S) (ds := (List.range l.length).drop (5 + m)) (p := 4 + m) hQ (l.length - (5 + m)) m 4 _ (A2 b c g) w' h11 (by simpa using hA) (by simp; omega) (by
      rw [maskP_all, hsz, show 4 + m + 1 = 5 + m by omega]
      exact hend b c g w' hd)
    rwa [hsz] at this
  obtain ⟨v0, hy0, hh⟩ := hh
  obtain ⟨v2, hy2, hh⟩ := hh
  simp only [HdS] at hh
  obtain ⟨r, hr⟩ : ∃ r, l.length = r + m + 5 := ⟨l.length - (5 + m), by omega⟩
  have hr1 : l.length - (5 + m) = r := by omega
  rw [hr1] at hend hP
  have i0 : l.toArray[0]? = some o0 := by simpa using ho0
  have i1 : l.toArray[1]? = some o1 := by simpa using ho1
  have i2 : l.toArray[2]? = some o2 := by simpa using ho2
  have i3 : l.toArray[3]? = some o3 := by simpa using ho3
  have ip : l.toArray[4 + m]? = some op := by simpa using hop
  have key : ∀ fuel, fuel = r + m + 5 → wpAnyLast P .any l.toArray Q S ((List.range l.length).drop (5 + m)) fuel (mk l.length []) a w.drew := by
    rintro _ rfl
    refine take_ (mk l.length [0]) i0 rfl h1 (fun c a w h => hQ c a w _ _ h) (hy0.imp (fun x => ⟨x.1, fun w h => x.2 w (fun _ => h)⟩) (fun x => x)) hS rfl ?_
    refine take_ (mk l.length [0, 2]) i2 rfl h2 (fun c a w h => hQ c a w _ _ h) (hy2.imp (fun x => ⟨x.1, fun w h => x.2 w (fun _ => h)⟩) (fun x => x)) hS rfl ?_
    rw [hh]
    refine two_ (mk l.length [0, 1, 2]) (mk l.length [0, 2, 4 + m]) i1 ip hN1 hN3 (by rw [h3, h4, h5]; simp) (hnd 1 (by omega)) (hnd _ (by omega)) (fun K hK => ?_) (fun K hK => ?_)
    · refine goes_ hf1 hname1 hbo1 args1 (by simp [Region.wanted, hg1]) hN1 hop1 ha1 ?_
      refine (hc1 none _ d0 hS).mono ?_
      rintro e w1 ⟨b, rfl, hs1, hd1⟩
      refine ⟨V1 b, rfl, hK.out _ _ hs1 (fun _ => ?_)⟩
      refine two_ (mask l.length 4) (mk l.length [0, 1, 2, 4 + m]) i3 ip hN2 hN3 (by rw [h6, h7, h8]; simp) (hnd 3 (by omega)) (hnd _ (by omega)) (fun K hK => ?_) (fun K hK => ?_)
      · refine goes_ hf2 hname2 hbo2 (args2 b) (by simp [Region.wanted, hg3]) hN2 hop3 (ha2 b) ?_
        refine (hc2 b none _ hd1 hs1).mono ?_
        rintro e w2 ⟨c, rfl, hs2, hd2⟩
        refine ⟨V2 b c, rfl, hK.out _ _ hs2 (fun _ => ?_)⟩
        obtain ⟨A', hA, hE⟩ := hb3 b c w2.heap.size
        have h16 := heads_ (P := P) (ops := l.toArray) (md := .any) (S := S) (ds := (List.range l.length).drop (5 + m)) hQ (r + 1) m 4 (List.replicate m false) _ A' w2 h12 (by simpa using hA) (by simp; omega) hs2 (by
          rw [hsz]
          refine one_ (mask l.length (5 + m)) ip hN3 h13 (hnd _ (by omega)) (fun K hK => ?_)
          refine value_ (by simp [Region.wanted, hgp]) hN3 (hrun w2 A') ?_
          refine hK.out _ _ (hSa _ hs2) (fun _ => ?_)
          rw [hE]
          exact hend b c _ _ (hal2 b c w2 hd2 hs2))
        rw [hsz, show r + 1 + m = r + m + 1 by omega] at h16
        exact h16
      · refine value_ (by simp [Region.wanted, hgp]) hN3 (hrun w1 _) ?_
        refine hK.out _ _ (hSa _ hs1) (fun _ => ?_)
        refine one_ (maskP l.length 4 (4 + m)) i3 hN2 h10 (hnd 3 (by omega)) (fun K hK => ?_)
        refine goes_ hf2 hname2 hbo2 (args2 b) (by simp [Region.wanted, hg3]) hN2 hop3 (ha2' b _) ?_
        refine (hc2 b _ _ (hal1 b w1 hd1 hs1) (hSa _ hs1)).mono ?_
        rintro e w2 ⟨c, rfl, hs2, hd2⟩
        refine ⟨V2 b c, rfl, hK.out _ _ hs2 (fun _ => ?_)⟩
        exact hP b c _ w2 _ hd2 (hb1 b c _)
    · refine value_ (by simp [Region.wanted, hgp]) hN3 (hrun w.drew A) ?_
      refine hK.out _ _ (hSa _ hS) (fun _ => ?_)
      refine one_ (mk l.length [0, 1, 2, 4 + m]) i1 hN1 h9 (hnd 1 (by omega)) (fun K hK => ?_)
      refine goes_ hf1 hname1 hbo1 args1 (by simp [Region.wanted, hg1]) hN1 hop1 (ha1' _) ?_
      refine (hc1 _ _ (hal0 _ d0 hS) (hSa _ hS)).mono ?_
      rintro e w1 ⟨b, rfl, hs1, hd1⟩
      refine ⟨V1 b, rfl, hK.out _ _ hs1 (fun _ => ?_)⟩
      refine one_ (maskP l.length 4 (4 + m)) i3 hN2 h10 (hnd 3 (by omega)) (fun K hK => ?_)
      refine goes_ hf2 hname2 hbo2 (args2 b) (by simp [Region.wanted, hg3]) hN2 hop3 (ha2'' b _) ?_
      refine (hc2 b _ _ hd1 hs1).mono ?_
      rintro e w2 ⟨c, rfl, hs2, hd2⟩
      refine ⟨V2 b c, rfl, hK.out _ _ hs2 (fun _ => ?_)⟩
      exact hP b c _ w2 _ hd2 (hb2 b c _)
  refine start_ (S := S) (ds := (List.range l.length).drop (5 + m)) (mk l.length []) hm hsz (by unfold mk; apply Array.ext <;> simp) hS (fun _ => ?_)
  exact key _ (by omega)
end
/-- The model's new world. -/
theorem newf (n : Int) : spec_NewWorld.f n = some ([], newB n, [], [], okN n) := by
  unfold spec_NewWorld.f newB okN
  rw [l1In_f, Option.bind_some]
  unfold inB
  by_cases h : 1 ≤ n ∧ n ≤ 5
  · rw [if_pos h, decide_eq_true h, decide_eq_true h.1, decide_eq_true h.2, Bool.and_self, if_pos rfl, if_pos (by omega), if_pos (by omega)]
  · rw [if_neg h, decide_eq_false h]
    have h2 : ¬ ((decide (1 ≤ n) && decide (n ≤ 5)) = true) := by
      intro h3
      simp only [Bool.and_eq_true, decide_eq_true_eq] at h3
      exact h h3
    rw [if_neg h2]
theorem spec_NewWorld.lay (base : Nat) (n : Int) (F : List Row) (w0 w : World) (hL : Lay w base F) (hb : Below base w0 w) (hz : base ≤ w.heap.size) :
    Calls Try.prog 100 #[.int .i64 n] w fun e_ w' => NewPost w0 base n F e_ w' := by
  refine (spec_NewWorld.calls n [] (newB n) [] [] (okN n) w (newf n)).mono ?_
  rintro e_ w' ⟨x0, x1, x2, x3, rfl, r0, r1, r2, r3, hb'⟩
  obtain ⟨hs, h⟩ := WR.ofR hL hb' hz r0 r1 r2 r3
  exact ⟨_, rfl, AfterR.mk h (below_up hb hz hb') (Nat.le_trans hz hb'.size)⟩
end Go.Proofs.Ytdoflfifnkpacaa.WP
