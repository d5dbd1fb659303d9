/-
  The functions of worlds: what they compute, and the laws of it.
-/
import Derived.StillTailTactics
import Derived.Lib.Hide
import Derived.Test.YtdoflfifnkpacaaC19WOx0
namespace Go.Proofs.Ytdoflfifnkpacaa.WO.LA
open Go Go.RowKit Go.Proofs.YtdoflfifnkpacaaW.PrintWords Go.Proofs.YtdoflfifnkpacaaW.PrintLast Go.Proofs.YtdoflfifnkpacaaW.PrintMore
attribute [local go_sem] max2_int min2_int max_two min_two max_three min_three max_four min_four
set_option linter.unusedVariables false
set_option linter.unusedSimpArgs false
structure Row where
  v : Value
  e : Nat
  sz : Nat
  n : Nat
  xs : List Value
def Row.ok (w : World) (base : Nat) (r : Row) : Prop := w.ownsRow base r.e r.sz r.v r.n r.xs
def blks (L : List Row) : List Nat := L.filterMap fun r => r.v.ownBlock
def Lay (w : World) (base : Nat) (L : List Row) : Prop := (∀ r ∈ L, r.ok w base) ∧ (blks L).Nodup
namespace Lay
variable {w w1 w0 : World} {base : Nat} {r r' : Row} {L L' : List Row}
theorem nil (w : World) (base : Nat) : Lay w base [] := ⟨fun _ h => by simp at h, List.nodup_nil⟩
theorem sub (h : Lay w base L) (hs : List.Sublist L' L) : Lay w base L' := ⟨fun r hr => h.1 r (hs.subset hr), h.2.sublist (hs.filterMap _)⟩
theorem perm (h : Lay w base L) (hp : List.Perm L L') : Lay w base L' := ⟨fun r hr => h.1 r (hp.mem_iff.mpr hr), (hp.filterMap _).nodup_iff.mp h.2⟩
theorem tail (h : Lay w base (r :: L)) : Lay w base L := h.sub (List.sublist_cons_self ..)
theorem head (h : Lay w base (r :: L)) : w.ownsRow base r.e r.sz r.v r.n r.xs := h.1 r (List.mem_cons_self ..)
theorem in_ (h : Lay w base L) {k : Nat} (hk : k ∈ blks L) : base ≤ k ∧ k < w.heap.size := by
  obtain ⟨r, hr, e⟩ := List.mem_filterMap.mp hk
  exact ⟨own_base (h.1 r hr) k e, own_lt (h.1 r hr) k e⟩
theorem keep (h : Lay w base L) (hm : ∀ k ∈ blks L, w1.heap[k]? = w.heap[k]?) : Lay w1 base L :=
  ⟨fun r hr => own_move (h.1 r hr) (fun k hk => hm k (List.mem_filterMap.mpr ⟨r, hr, hk⟩)), h.2⟩
theorem below (h : Lay w base L) (hb : Below w.heap.size w w1) : Lay w1 base L := h.keep fun k hk => hb.block k (h.in_ hk).2
theorem drew (h : Lay w base L) : Lay w.drew base L := h
theorem fresh (h : Lay w base L) (hm : ∀ k, k < w.heap.size → w1.heap[k]? = w.heap[k]?) (hr : r.ok w1 w.heap.size) (hb : base ≤ w.heap.size) : Lay w1 base (r :: L) := by
  refine ⟨fun x hx => ?_, ?_⟩
  · rcases List.mem_cons.mp hx with rfl | hx
    · exact own_less hr hb
    · exact (h.keep fun k hk => hm k (h.in_ hk).2).1 x hx
  · show (List.filterMap _ (r :: L)).Nodup
    rw [List.filterMap_cons]
    cases hv : r.v.ownBlock with
    | none => exact h.2
    | some g =>
      refine List.nodup_cons.mpr ⟨fun hg => ?_, h.2⟩
      have h1 := own_base hr g hv
      have h2 := (h.in_ (k := g) hg).2
      omega
/-- One row has been written, or grown: the others are as they were. -/
theorem turn (h : Lay w base (r :: L)) (hm : ∀ k, k < w.heap.size → some k ≠ r.v.ownBlock → w1.heap[k]? = w.heap[k]?) (hr : r'.ok w1 base) (hat : r'.v.ownBlock = r.v.ownBlock ∨ ∃ b, r'.v.ownBlock = some b ∧ w.heap.size ≤ b) : Lay w1 base (r' :: L) := by
  have hne : ∀ k ∈ blks L, some k ≠ r.v.ownBlock := by
    intro k hk e
    have h2 := h.2
    unfold blks at h2 hk
    rw [List.filterMap_cons, ← e] at h2
    exact (List.nodup_cons.mp h2).1 hk
  refine ⟨fun x hx => ?_, ?_⟩
  · rcases List.mem_cons.mp hx with rfl | hx
    · exact hr
    · exact (h.tail.keep fun k hk => hm k (h.tail.in_ hk).2 (hne k hk)).1 x hx
  · show (List.filterMap _ (r' :: L)).Nodup
    rw [List.filterMap_cons]
    cases hv : r'.v.ownBlock with
    | none => exact h.tail.2
    | some g =>
      refine List.nodup_cons.mpr ⟨fun hg => ?_, h.tail.2⟩
      rcases hat with hat | ⟨b, hb, hle⟩
      · exact hne g hg (by rw [← hat, hv])
      · rw [hv] at hb
        injection hb with hb
        have := (h.tail.in_ (k := g) hg).2
        omega
theorem swap (h : Lay w base (r :: r' :: L)) : Lay w base (r' :: r :: L) := h.perm (List.Perm.swap ..)
theorem at2 {a b c : Row} (h : Lay w base (a :: b :: c :: L)) : Lay w base (c :: a :: b :: L) := h.perm ((List.Perm.cons a (List.Perm.swap c b L)).trans (List.Perm.swap c a _))
theorem un2 {a b c : Row} (h : Lay w base (c :: a :: b :: L)) : Lay w base (a :: b :: c :: L) := h.perm ((List.Perm.swap a c _).trans (List.Perm.cons a (List.Perm.swap b c L)))
end Lay
def box (g t : Nat) (cs : List Value) : Row := ⟨.slice (some ⟨g, 0, none⟩) 1 1, t, cs.length, 1, cs⟩
theorem box_ok {w : World} {base g t : Nat} {cs : List Value} (h : w.heap[g]? = some (.cells cs.toArray t (0, 0))) (hb : base ≤ g) : (box g t cs).ok w base := by
  refine ⟨by simp [box], .inr ⟨g, 1, cs.toArray, rfl, hb, h, Nat.le_refl _, by simp [maxLen], by simp [box], ?_⟩⟩
  simp [box]
theorem Lay.cell {w : World} {base g n c e sz : Nat} {xs : List Value} {L : List Row} (h : Lay w base (⟨.slice (some ⟨g, 0, none⟩) n c, e, sz, n, xs⟩ :: L)) (j : Nat) {u : Value} (hj : xs[j]? = some u) : w.cell? ⟨g, j, none⟩ = some u := by
  have ho := h.head
  have hl : j < xs.length := (List.getElem?_eq_some_iff.mp hj).1
  have h1 : xs.length = n * sz := ho.1
  exact (World.ownsRow.cellAt ho j (by show j < n * sz; omega)).trans hj
theorem Lay.form {w : World} {base : Nat} {r : Row} {L : List Row} (h : Lay w base (r :: L)) (hn : 0 < r.n) : ∃ g c, r.v = .slice (some ⟨g, 0, none⟩) r.n c ∧ base ≤ g ∧ r.n ≤ c := by
  rcases h.head.2 with ⟨_, h0⟩ | ⟨g, cap, cur, hv, hb, _, hc, _⟩
  · omega
  · exact ⟨g, cap, hv, hb, hc⟩
theorem Lay.slice {w : World} {base : Nat} {r : Row} {L : List Row} (h : Lay w base (r :: L)) : ∃ A c, r.v = .slice A r.n c ∧ r.n ≤ c := by
  rcases h.head.2 with ⟨hv, h0⟩ | ⟨g, cap, cur, hv, hb, _, hc, _⟩
  · exact ⟨none, 0, by rw [hv, h0], by omega⟩
  · exact ⟨_, cap, hv, hc⟩
/-- What stands in a row, `seg` being laid from `o` on. -/
def laid (xs : List Value) (o : Nat) (seg : List Value) : List Value := xs.take o ++ seg ++ xs.drop (o + seg.length)
theorem laid_len (xs : List Value) (o : Nat) (seg : List Value) (h : o + seg.length ≤ xs.length) : (laid xs o seg).length = xs.length := by
  unfold laid
  simp only [List.length_append, List.length_take, List.length_drop]
  omega
theorem Lay.put {w : World} {base g n c e sz : Nat} {xs : List Value} {L : List Row} (h : Lay w base (⟨.slice (some ⟨g, 0, none⟩) n c, e, sz, n, xs⟩ :: L)) (o : Nat) (seg : List Value) (hfit : o + seg.length ≤ xs.length) :
    Lay (w.setCells g o seg) base (⟨.slice (some ⟨g, 0, none⟩) n c, e, sz, n, laid xs o seg⟩ :: L) ∧ (∃ cur : Array Value, w.heap[g]? = some (.cells cur e (0, 0)) ∧ o + seg.length ≤ cur.size) ∧ base ≤ g := by
  have ho := h.head
  have hl := ho.1
  rcases ho.2 with ⟨hv, _⟩ | ⟨g', cap', cur, hv, hb, hh, hnc, hcm, hcs, ht⟩
  · cases hv
  simp only [Value.slice.injEq, Option.some.injEq, Addr.mk.injEq, and_true, true_and] at hv
  obtain ⟨rfl, rfl⟩ := hv
  simp only at hl ht hcs hh hnc
  have hle : xs.length ≤ cur.size := by
    have : n * sz ≤ c * sz := Nat.mul_le_mul_right _ hnc
    omega
  obtain ⟨cur', h3, h4, h5⟩ := setCells_row seg o w cur hh (by omega)
  obtain ⟨s1, s2, s3, s4⟩ := setCells_same g seg o w
  refine ⟨h.turn (fun k _ hk => setCells_far seg _ k (fun he => hk (by rw [he]; rfl))) ⟨by simp only; rw [laid_len _ _ _ hfit, hl], .inr ⟨g, c, cur', rfl, hb, h3, hnc, hcm, by rw [h4, hcs], ?_⟩⟩ (.inl rfl), ⟨cur, hh, by omega⟩, hb⟩
  show cur'.toList.take (n * sz) = laid xs o seg
  rw [h5]
  unfold laid
  have hx : cur.toList.take (n * sz) = xs := ht
  rw [← hl]
  have h6 : xs.take o = cur.toList.take o := by rw [← hx, List.take_take]; congr 1; omega
  have h7 : xs.drop (o + seg.length) = (cur.toList.drop (o + seg.length)).take (xs.length - (o + seg.length)) := by
    conv => lhs; rw [← hx, List.drop_take]
    rw [hl]
  have hlt : (cur.toList.take o).length = o := by rw [List.length_take]; simp; omega
  rw [h6, h7, List.take_append, List.take_of_length_le (by rw [List.length_append, hlt]; omega), List.length_append, hlt]
section
variable {P : Program} {ops : Array Oper} {rest : List Oper} {o : Oper} {a : Act} {Q : Exit → Act → World → Prop}
theorem Lay.box_ev {w0 W : World} {base : Nat} {L : List Row} (HL : Lay W base L) (HB : Below base w0 W) (hbase : base ≤ W.heap.size) (hgd : o.guard = none) {N : Tmp} (hd : o.dst = some N) (cs : List Value) (t : TypeId)
    (hrun : (execOp a.eval o).run P W = .ok (.value (.pointer (some ⟨W.heap.size, 0, none⟩))) (W.alloc (.cells cs.toArray t (0, 0))))
    (h : ∀ g w1, Lay w1 base (box g t cs :: L) → Below base w0 w1 → base ≤ w1.heap.size → wpList P ops Q rest (a.put o.dst (.pointer (some ⟨g, 0, none⟩))) w1) : wpList P ops Q (o :: rest) a W := by
  refine Kd.event_run hgd hrun (h _ _ (HL.fresh (fun k hk => Below.heap_alloc W _ k hk) (box_ok (blk_new W _) (Nat.le_refl _)) hbase) (HB.alloc hbase _) ?_)
  exact Nat.le_trans hbase (below_alloc (Below.refl _ _) _).size
theorem Lay.store_ev {w0 W : World} {base : Nat} {L : List Row} {g n c e sz : Nat} {xs : List Value} (HL : Lay W base (⟨.slice (some ⟨g, 0, none⟩) n c, e, sz, n, xs⟩ :: L)) (HB : Below base w0 W) (hgd : o.guard = none) (hN : o.dst = none) {t : TypeId} {p : Tmp} {x : Operand} (ho : o.op = .store t (.tmp p) x) (off : Nat)
    (haddr : a.eval (.tmp p) = .pointer (some ⟨g, off, none⟩)) {u : Value} (hx : a.eval x = u) {seg : List Value} (hu : u.cells.toList = seg) (ht : (P.info? t).map (·.size) = some seg.length) (h1 : ∀ q ∈ seg, q.oneCell' = true) (hfit : off + seg.length ≤ xs.length)
    (h : ∀ w1, Lay w1 base (⟨.slice (some ⟨g, 0, none⟩) n c, e, sz, n, laid xs off seg⟩ :: L) → Below base w0 w1 → W.heap.size = w1.heap.size → wpList P ops Q rest a w1) : wpList P ops Q (o :: rest) a W := by
  obtain ⟨hl, ⟨cur, hh, hc⟩, hb⟩ := HL.put off seg hfit
  have hrun := run_store_run (P := P) t u seg hh hu ht hc h1
  obtain ⟨s1, s2, s3, s4⟩ := setCells_same g seg off W
  refine wpList_plain hgd fun K hK => ?_
  unfold Oper.wp execOp
  simp only [ho, haddr, hx, Sem.run_bind, Sem.run_pure, Result.andThen_ok, hrun]
  show K (a.put o.dst undef) _
  rw [hN]
  exact hK a _ (h _ hl (HB.trans ⟨s1, s2, s3, by rw [s4]; exact Nat.le_refl _, fun k hk => setCells_far seg _ k (by omega)⟩) s4.symm)
theorem Lay.append_ev {w0 W : World} {base : Nat} {L : List Row} {r : Row} (HL : Lay W base (r :: L)) (HB : Below base w0 W) (hbase : base ≤ W.heap.size) (hgd : o.guard = none) (s x : Operand) (t : TypeId) (z : Value) (bytes : Nat)
    (ho : o.op = .call { callee := .builtin .append, args := #[s, x], argTypes := #[t, t] }) (ht : P.underlying t = some (.slice r.e)) (hinfo : (P.info? r.e).map (fun i => (i.zero, i.size, i.bytes)) = some (some z, r.sz, bytes)) (hz : z.cells.size = r.sz) (hs0 : 0 < r.sz) (hb0 : 0 < bytes)
    (hs : a.eval s = r.v) (hx : a.eval x = .slice (some ⟨W.heap.size, 0, none⟩) 1 1) (cs : List Value) (hcs : cs.length = r.sz) (h1 : ∀ u ∈ cs, u.oneCell' = true) (hl : (r.n + 1) * bytes ≤ 140737488355328)
    (h : ∀ v1 w1, Lay w1 base (⟨v1, r.e, r.sz, r.n + 1, r.xs ++ cs⟩ :: L) → Below base w0 w1 → base ≤ w1.heap.size → wpList P ops Q rest (a.put o.dst v1) w1) :
    wpList P ops Q (o :: rest) a (W.alloc (.cells cs.toArray r.e)) := by
  refine print_append_cells base hgd s x t r.e z r.sz bytes ho ht hinfo hz hs0 hb0 r.v r.n r.xs cs hs hx hcs h1 HL.head HB hbase hl ?_
  intro v1 w1 hown1 hb1 hg1 hat1
  exact h v1 w1 (HL.turn (fun k hk hne => hg1.block k hk hne) hown1 hat1) hb1 (Nat.le_trans hbase hg1.size)
def HdS (P : Program) (ops : Array Oper) (S : World → Prop) : List Oper → List Bool → Act → Act → Prop
  | [], _, a, A => a = A
  | o :: r, fs, a, A => ∃ v, YieldsIf P ops (fun w => fs.headD true = true → S w) o v a ∧ HdS P ops S r fs.tail (a.put o.dst v) A
theorem hdT_ {S : World → Prop} {o : Oper} {r : List Oper} {fs : List Bool} {a a' A : Act} {v : Value} (N : Option Tmp) (hN : o.dst = N) (hw : Region.wanted o (yielded ops a.tmps) = true) (hy : ∀ w, S w → (execOp a.eval o).run P w = .ok (.value v) w) (ha : a.put N v = a') (h : HdS P ops S r fs a' A) : HdS P ops S (o :: r) (true :: fs) a A := by
  subst hN
  subst ha
  exact ⟨v, .inl ⟨hw, fun w h => hy w (h rfl)⟩, h⟩
theorem hdF_ {S : World → Prop} {o : Oper} {r : List Oper} {fs : List Bool} {a a' A : Act} {v : Value} (N : Option Tmp) (hN : o.dst = N) (hw : Region.wanted o (yielded ops a.tmps) = true) (hy : ∀ w, (execOp a.eval o).run P w = .ok (.value v) w) (ha : a.put N v = a') (h : HdS P ops S r fs a' A) : HdS P ops S (o :: r) (false :: fs) a A := by
  subst hN
  subst ha
  exact ⟨v, .inl ⟨hw, fun w _ => hy w⟩, h⟩
theorem hd_end {S : World → Prop} {fs : List Bool} {a : Act} : HdS P ops S [] fs a a := rfl
def mask (m k : Nat) : Array Bool := ((List.range m).map fun i => decide (i < k)).toArray
def headsB (md : Region.Mode) (ops : Array Oper) (ds : List Nat) : Nat → Nat → List Bool → Bool
  | _, 0, _ => true
  | k, c + 1, fs => (if fs.headD true = true then takeB md ops ds (mask ops.size k) (mask ops.size (k + 1)) k else anyB md ops (mask ops.size k) (mask ops.size (k + 1)) k) && headsB md ops ds (k + 1) c fs.tail
def restB (md : Region.Mode) (ops : Array Oper) (ds : List Nat) : Nat → Nat → Bool
  | k, 0 => Region.ready md ops (mask ops.size k) == []
  | k, c + 1 => readyB md ops (mask ops.size k) (mask ops.size (k + 1)) k && ds.contains k && restB md ops ds (k + 1) c
theorem heads_ {md : Region.Mode} {S : World → Prop} {ds : List Nat} (hQ : ∀ c a w d v, Q (.panic c) (Act.put a d v) w → Q (.panic c) a w) (fuel : Nat) : ∀ (c k : Nat) (fs : List Bool) (a A : Act) (w : World), headsB md ops ds k c fs = true → HdS P ops S ((ops.toList.drop k).take c) fs a A → k + c ≤ ops.size → S w →
    wpAnyLast P md ops Q S ds fuel (mask ops.size (k + c)) A w → wpAnyLast P md ops Q S ds (fuel + c) (mask ops.size k) a w
  | 0, k, fs, a, A, w, _, hh, _, _, h => by
    simp only [List.take_zero, HdS] at hh
    subst hh
    exact h
  | c + 1, k, fs, a, A, w, hb, hh, hs, hS, h => by
    simp only [headsB, Bool.and_eq_true] at hb
    have hk : k < ops.toList.length := by rw [Array.length_toList]; omega
    rw [List.drop_eq_getElem_cons hk, List.take_succ_cons] at hh
    obtain ⟨v, hy, hh⟩ := hh
    have hi : ops[k]? = some ops.toList[k] := by
      rw [Array.getElem_toList, Array.getElem?_eq_getElem]
    have ih := heads_ hQ fuel c (k + 1) fs.tail _ A w hb.2 hh (by omega) hS (by rw [show k + 1 + c = k + (c + 1) by omega]; exact h)
    by_cases hf : fs.headD true = true
    · rw [if_pos hf] at hb
      exact take_ _ hi rfl hb.1 (fun c a w h => hQ c a w _ _ h) (hy.imp (fun x => ⟨x.1, fun w hw => x.2 w (fun _ => hw)⟩) id) hS rfl ih
    · rw [if_neg hf] at hb
      exact pure_ _ hi rfl hb.1 (fun c a w h => hQ c a w _ _ h) (hy.imp (fun x => ⟨x.1, fun w => x.2 w (fun z => absurd z hf)⟩) id) rfl ih
theorem rest_ {md : Region.Mode} {S : World → Prop} {ds : List Nat} : ∀ (c k : Nat) (a : Act) (w : World), restB md ops ds k c = true → k + c = ops.size → wpList P ops Q (ops.toList.drop k) a w → wpAnyLast P md ops Q S ds c (mask ops.size k) a w
  | 0, k, a, w, hb, hs, h => by
    rw [List.drop_eq_nil_of_le (by rw [Array.length_toList]; omega)] at h
    exact done_ hb h
  | c + 1, k, a, w, hb, hs, h => by
    simp only [restB, Bool.and_eq_true] at hb
    obtain ⟨⟨hr, hd⟩, hb⟩ := hb
    have hk : k < ops.toList.length := by rw [Array.length_toList]; omega
    rw [List.drop_eq_getElem_cons hk] at h
    have hi : ops[k]? = some ops.toList[k] := by
      rw [Array.getElem_toList, Array.getElem?_eq_getElem]
    simp only [readyB, Bool.and_eq_true, beq_iff_eq] at hr
    obtain ⟨hr, hm⟩ := hr
    have h0 : wpOp P ops Q k (wpList P ops Q (ops.toList.drop (k + 1))) a w := by
      unfold wpOp
      rw [hi]
      exact h
    refine wpAnyLast_all hr (by simp) (fun i hi' => ?_)
    simp only [List.mem_singleton] at hi'
    subst hi'
    refine wpOp_mono (fun a' w' h' => ⟨fun hn => absurd (by simpa using hd) hn, ?_⟩) h0
    rw [hm]
    exact rest_ c (i + 1) a' w' hb (by omega) h'
end
theorem flat_len {α : Type} {enc : α → List Value} {sz : Nat} (hz : ∀ x, (enc x).length = sz) : ∀ l : List α, (l.flatMap enc).length = l.length * sz
  | [] => by simp
  | x :: l => by rw [List.flatMap_cons, List.length_append, hz, flat_len hz l, List.length_cons, Nat.succ_mul]; omega
theorem flat_split {α : Type} (enc : α → List Value) (l : List α) (i : Nat) (h : i < l.length) : l.flatMap enc = (l.take i).flatMap enc ++ (enc l[i] ++ (l.drop (i + 1)).flatMap enc) := by
  conv => lhs; rw [← List.take_append_drop i l, List.drop_eq_getElem_cons h]
  rw [List.flatMap_append, List.flatMap_cons]
theorem flat_get {α : Type} {enc : α → List Value} {sz : Nat} (hz : ∀ x, (enc x).length = sz) (l : List α) (i j : Nat) (h : i < l.length) (hj : j < sz) : (l.flatMap enc)[i * sz + j]? = (enc l[i])[j]? := by
  have hl : ((l.take i).flatMap enc).length = i * sz := by rw [flat_len hz, List.length_take, Nat.min_eq_left (Nat.le_of_lt h)]
  rw [flat_split enc l i h, List.getElem?_append_right (by rw [hl]; omega), hl, show i * sz + j - i * sz = j by omega, List.getElem?_append_left (by rw [hz]; exact hj)]
theorem flat_laid {α : Type} {enc : α → List Value} {sz : Nat} (hz : ∀ x, (enc x).length = sz) (l : List α) (i j : Nat) (seg : List Value) (x' : α) (h : i < l.length) (hj : j + seg.length ≤ sz) (hx : enc x' = laid (enc l[i]) j seg) : laid (l.flatMap enc) (i * sz + j) seg = (l.set i x').flatMap enc := by
  have hl : ((l.take i).flatMap enc).length = i * sz := by rw [flat_len hz, List.length_take, Nat.min_eq_left (Nat.le_of_lt h)]
  have hs : i < (l.set i x').length := by rw [List.length_set]; exact h
  rw [flat_split enc (l.set i x') i hs, List.getElem_set_self, List.take_set_of_le (Nat.le_refl i), List.drop_set_of_lt (by omega), hx]
  unfold laid
  rw [flat_split enc l i h]
  have e1 : (List.flatMap enc (l.take i) ++ (enc l[i] ++ List.flatMap enc (l.drop (i + 1)))).take (i * sz + j) = List.flatMap enc (l.take i) ++ (enc l[i]).take j := by
    rw [List.take_append, hl, List.take_of_length_le (by rw [hl]; omega), show i * sz + j - i * sz = j by omega, List.take_append_of_le_length (by rw [hz]; omega)]
  have e2 : (List.flatMap enc (l.take i) ++ (enc l[i] ++ List.flatMap enc (l.drop (i + 1)))).drop (i * sz + j + seg.length) = (enc l[i]).drop (j + seg.length) ++ List.flatMap enc (l.drop (i + 1)) := by
    rw [List.drop_append, hl, List.drop_of_length_le (by rw [hl]; omega), List.nil_append, show i * sz + j + seg.length - i * sz = j + seg.length by omega, List.drop_append_of_le_length (by rw [hz]; omega)]
  rw [e1, e2]
  simp only [List.append_assoc]
def hc (h : S75) : List Value := [.bool h.f0, .int .i64 h.f1, .int .i64 h.f2, .bool h.f3, .int .i64 h.f4, .int .i64 h.f5]
def tc (x : S67) : List Value := [.int .i64 x.f0, .bool x.f1]
def lc (x : S155) : List Value := [.int .i64 x.f0, .int .i64 x.f1, .int .i64 x.f2, .int .i64 x.f3]
def pc (p : Value × Value) : List Value := [p.1, p.2]
def ic (x : Int) : List Value := [.int .i64 x]
theorem hc_len (x : S75) : (hc x).length = 6 := rfl
theorem tc_len (x : S67) : (tc x).length = 2 := rfl
theorem lc_len (x : S155) : (lc x).length = 4 := rfl
theorem pc_len (x : Value × Value) : (pc x).length = 2 := rfl
theorem ic_len (x : Int) : (ic x).length = 1 := rfl
def rS (v : Value) (S : List S75) : Row := ⟨v, 75, 6, S.length, S.flatMap hc⟩
def rI (v : Value) (l : List Int) : Row := ⟨v, 3, 1, l.length, l.flatMap ic⟩
def rTh (v : Value) (T : List S67) : Row := ⟨v, 67, 2, T.length, T.flatMap tc⟩
def rLo (v : Value) (C : List S155) : Row := ⟨v, 155, 4, C.length, C.flatMap lc⟩
def rTa (v : Value) (hs : List (Value × Value)) : Row := ⟨v, 78, 2, hs.length, hs.flatMap pc⟩
def tabRows : List (Value × Value) → List S78 → List Row
  | p :: hs, t :: B => rS p.1 t.f0 :: rI p.2 t.f1 :: tabRows hs B
  | _, _ => []
def zp : Value × Value := (.slice none 0 0, .slice none 0 0)
def hdr (hs : List (Value × Value)) (p : Int) : Value × Value := hs.getD p.toNat zp
theorem tab_pull : ∀ (hs : List (Value × Value)) (B : List S78) (i : Nat) (h' : Value × Value) (t' : S78), hs.length = B.length → i < B.length →
    List.Perm (tabRows (hs.set i h') (B.set i t')) (rS h'.1 t'.f0 :: rI h'.2 t'.f1 :: tabRows (hs.eraseIdx i) (B.eraseIdx i))
  | [], [], i, _, _, _, hi => by simp at hi
  | p :: hs, t :: B, 0, h', t', hl, hi => by
    simp only [List.set_cons_zero, List.eraseIdx_cons_zero, tabRows]
    exact List.Perm.refl _
  | p :: hs, t :: B, i + 1, h', t', hl, hi => by
    simp only [List.length_cons, Nat.add_right_cancel_iff, Nat.add_lt_add_iff_right] at hl hi
    have ih := tab_pull hs B i h' t' hl hi
    simp only [List.set_cons_succ, List.eraseIdx_cons_succ, tabRows]
    refine ((ih.cons _).cons _).trans ?_
    generalize tabRows (hs.eraseIdx i) (B.eraseIdx i) = L
    generalize rS p.1 t.f0 = a
    generalize rI p.2 t.f1 = b
    generalize rS h'.1 t'.f0 = c
    generalize rI h'.2 t'.f1 = d
    refine ((List.Perm.swap c b (d :: L)).cons a).trans ?_
    refine (List.Perm.swap c a (b :: d :: L)).trans ?_
    refine (((List.Perm.swap d b L).cons a).cons c).trans ?_
    exact (List.Perm.swap d a (b :: L)).cons c
theorem hdr_get (hs : List (Value × Value)) (i : Nat) (h : i < hs.length) : hdr hs i = hs[i] := by
  unfold hdr
  rw [Int.toNat_natCast, List.getD_eq_getElem?_getD, List.getElem?_eq_getElem h]
  rfl
theorem rd78_get (B : List S78) (i : Nat) (h : i < B.length) : rd_T78 B i = B[i] := by
  unfold rd_T78
  rw [Int.toNat_natCast, List.getD_eq_getElem?_getD, List.getElem?_eq_getElem h]
  rfl
theorem tab_at (hs : List (Value × Value)) (B : List S78) (i : Nat) (hl : hs.length = B.length) (hi : i < B.length) :
    List.Perm (tabRows hs B) (rS (hdr hs i).1 (rd_T78 B i).f0 :: rI (hdr hs i).2 (rd_T78 B i).f1 :: tabRows (hs.eraseIdx i) (B.eraseIdx i)) := by
  have := tab_pull hs B i (hdr hs i) (rd_T78 B i) hl hi
  rw [hdr_get hs i (by omega), rd78_get B i hi] at this ⊢
  rwa [List.set_getElem_self, List.set_getElem_self] at this
/-- A row of structs of scalars, as what is read. -/
theorem Lay.C {α : Type} (d : Kd α) {enc : α → List Value} {w : World} {base e c n : Nat} {A : Option Addr} {l : List α} {L : List Row} (hz : ∀ x, (enc x).length = d.sz) (hK : ∀ x ∈ l, d.K w x (enc x)) (h : Lay w base (⟨.slice A n c, e, d.sz, l.length, l.flatMap enc⟩ :: L)) : n = l.length ∧ n ≤ c ∧ d.C w A l.length l := by
  obtain ⟨A', c', hv, hc⟩ := h.slice
  simp only [Value.slice.injEq] at hv
  obtain ⟨rfl, rfl, rfl⟩ := hv
  refine ⟨rfl, hc, rfl, ?_, fun hn => ?_⟩
  · rcases h.head.2 with ⟨_, h0⟩ | ⟨g, cap, cur, _, _, _, h1, h2, _⟩
    · simp only at h0; omega
    · simp only [maxLen] at h1 h2; omega
  · obtain ⟨g, c2, hv, _, _⟩ := h.form hn
    simp only [Value.slice.injEq] at hv
    obtain ⟨rfl, _, rfl⟩ := hv
    refine ⟨_, rfl, fun j p hj => ⟨enc p, hz p, hK p (List.mem_of_getElem? hj), fun i u hu => ?_⟩⟩
    have hjl : j < l.length := (List.getElem?_eq_some_iff.mp hj).1
    have hil : i < d.sz := by have := (List.getElem?_eq_some_iff.mp hu).1; rw [hz] at this; exact this
    have hg := flat_get hz l j i hjl hil
    rw [List.getElem?_eq_getElem hjl] at hj
    injection hj with hj
    rw [hj, hu] at hg
    rw [add_plain]
    exact h.cell _ hg
theorem C75 {w : World} {base c n : Nat} {A : Option Addr} {l : List S75} {L : List Row} (h : Lay w base (rS (.slice A n c) l :: L)) : n = l.length ∧ n ≤ c ∧ k75.C w A l.length l := h.C k75 (fun _ => rfl) (fun x _ => k75_mk w x)
theorem C67 {w : World} {base c n : Nat} {A : Option Addr} {l : List S67} {L : List Row} (h : Lay w base (rTh (.slice A n c) l :: L)) : n = l.length ∧ n ≤ c ∧ k67.C w A l.length l := h.C k67 (fun _ => rfl) (fun x _ => k67_mk w x)
theorem C155 {w : World} {base c n : Nat} {A : Option Addr} {l : List S155} {L : List Row} (h : Lay w base (rLo (.slice A n c) l :: L)) : n = l.length ∧ n ≤ c ∧ k155.C w A l.length l := h.C k155 (fun _ => rfl) (fun x _ => k155_mk w x)
theorem CI {w : World} {base c n : Nat} {A : Option Addr} {l : List Int} {L : List Row} (h : Lay w base (rI (.slice A n c) l :: L)) : n = l.length ∧ n ≤ c ∧ (Kd.int .i64).C w A l.length l := h.C (Kd.int .i64) (fun _ => rfl) (fun x _ => rfl)
theorem rI_snoc (v : Value) (S : List Int) (h : Int) : (⟨v, 3, 1, S.length + 1, S.flatMap ic ++ ic h⟩ : Row) = rI v (S ++ [h]) := by
  simp [rI]
theorem Lay.at3 {w : World} {base : Nat} {L : List Row} {a b c d : Row} (h : Lay w base (a :: b :: c :: d :: L)) : Lay w base (d :: a :: b :: c :: L) := h.perm ((((List.Perm.swap d c L).cons b).cons a).trans (((List.Perm.swap d b _).cons a).trans (List.Perm.swap d a _)))
theorem Lay.un3 {w : World} {base : Nat} {L : List Row} {a b c d : Row} (h : Lay w base (d :: a :: b :: c :: L)) : Lay w base (a :: b :: c :: d :: L) := h.perm (((List.Perm.swap a d _).trans ((List.Perm.swap b d _).cons a)).trans (((List.Perm.swap c d L).cons b).cons a))
theorem Lay.hd {w : World} {base n : Nat} {r : Row} {L : List Row} (h : Lay w base (r :: L)) (hn : r.n = n) : ∃ A c, r.v = .slice A n c := by
  obtain ⟨A, c, e, _⟩ := h.slice
  exact ⟨A, c, hn ▸ e⟩
theorem Lay.hdS {w : World} {base n : Nat} {v : Value} {S : List S75} {L : List Row} (h : Lay w base (rS v S :: L)) (hn : S.length = n) : ∃ A c, v = .slice A n c := h.hd hn
theorem Lay.hdI {w : World} {base n : Nat} {v : Value} {S : List Int} {L : List Row} (h : Lay w base (rI v S :: L)) (hn : S.length = n) : ∃ A c, v = .slice A n c := h.hd hn
theorem Lay.hdTh {w : World} {base n : Nat} {v : Value} {S : List S67} {L : List Row} (h : Lay w base (rTh v S :: L)) (hn : S.length = n) : ∃ A c, v = .slice A n c := h.hd hn
theorem Lay.hdLo {w : World} {base n : Nat} {v : Value} {S : List S155} {L : List Row} (h : Lay w base (rLo v S :: L)) (hn : S.length = n) : ∃ A c, v = .slice A n c := h.hd hn
theorem Lay.hdTa {w : World} {base n : Nat} {v : Value} {S : List (Value × Value)} {L : List Row} (h : Lay w base (rTa v S :: L)) (hn : S.length = n) : ∃ A c, v = .slice A n c := h.hd hn
theorem Lay.formTh {w : World} {base n c : Nat} {A : Option Addr} {S : List S67} {L : List Row} (h : Lay w base (rTh (.slice A n c) S :: L)) (hn : 0 < S.length) : ∃ g, A = some ⟨g, 0, none⟩ := by
  obtain ⟨g, c', e, _⟩ := h.form hn
  simp only [rTh, Value.slice.injEq] at e
  exact ⟨g, e.1⟩
theorem Lay.formTa {w : World} {base n c : Nat} {A : Option Addr} {S : List (Value × Value)} {L : List Row} (h : Lay w base (rTa (.slice A n c) S :: L)) (hn : 0 < S.length) : ∃ g, A = some ⟨g, 0, none⟩ := by
  obtain ⟨g, c', e, _⟩ := h.form hn
  simp only [rTa, Value.slice.injEq] at e
  exact ⟨g, e.1⟩
end Go.Proofs.Ytdoflfifnkpacaa.WO.LA
