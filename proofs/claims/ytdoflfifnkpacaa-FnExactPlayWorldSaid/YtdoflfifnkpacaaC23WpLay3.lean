/-
  The functions of worlds: what they compute, and the laws of it.
-/
import Derived.StillTailTactics
import Derived.Lib.Hide
import Derived.Test.YtdoflfifnkpacaaC23WpT1
namespace Go.Proofs.Ytdoflfifnkpacaa.WP
open Go Go.RowKit Go.Proofs.YtdoflfifnkpacaaW.PrintWords Go.Proofs.YtdoflfifnkpacaaW.PrintLast Go.Proofs.YtdoflfifnkpacaaW.PrintMore
attribute [local go_sem] max2_int min2_int max_two min_two max_three min_three max_four min_four
set_option linter.unusedVariables false
set_option linter.unusedSimpArgs false
def WW (w : World) (base g : Nat) (bx : List Value) (v0 v1 v2 v3 : Value) (hs : List (Value × Value)) (T : List S67) (B : List S78) (C : List S155) (E : List Int) (F : List Row) : Prop :=
  hs.length = B.length ∧ Lay w base (box g 45 bx :: rTh v0 T :: rTa v1 hs :: rLo v2 C :: rI v3 E :: (tabRows hs B ++ F))
theorem below_up {base : Nat} {w0 w w1 : World} (h : Below base w0 w) (hz : base ≤ w.heap.size) (k : Below w.heap.size w w1) : Below base w0 w1 := h.trans (k.mono hz)
/-- What an act leaves: a world in its rows, all else as it was. -/
def After (w0 : World) (base g : Nat) (T : List S67) (B : List S78) (C : List S155) (E : List Int) (F : List Row) (w : World) : Prop := ∃ v0 v1 v2 v3 hs, WW w base g [v0, v1, v2, v3] v0 v1 v2 v3 hs T B C E F ∧ Below base w0 w ∧ base ≤ w.heap.size
theorem After.mk {w0 w : World} {base g : Nat} {v0 v1 v2 v3 : Value} {hs : List (Value × Value)} {T : List S67} {B : List S78} {C : List S155} {E : List Int} {F : List Row} (h : WW w base g [v0, v1, v2, v3] v0 v1 v2 v3 hs T B C E F) (hb : Below base w0 w) (hz : base ≤ w.heap.size) : After w0 base g T B C E F w := ⟨v0, v1, v2, v3, hs, h, hb, hz⟩
theorem perm_front2 {α : Type} (a b : α) (X Y : List α) : List.Perm (X ++ a :: b :: Y) (a :: b :: (X ++ Y)) := by
  refine (List.perm_middle (l₁ := X) (l₂ := b :: Y) (a := a)).trans (List.Perm.cons a ?_)
  exact List.perm_middle
theorem pull_perm (x1 x2 x3 x4 x5 : Row) (hs : List (Value × Value)) (B : List S78) (F : List Row) (i : Nat) (h' : Value × Value) (t' : S78) (hl : hs.length = B.length) (hi : i < B.length) :
    List.Perm (x1 :: x2 :: x3 :: x4 :: x5 :: (tabRows (hs.set i h') (B.set i t') ++ F)) (rS h'.1 t'.f0 :: rI h'.2 t'.f1 :: x3 :: x1 :: x2 :: x4 :: x5 :: (tabRows (hs.eraseIdx i) (B.eraseIdx i) ++ F)) := by
  have h1 := ((tab_pull hs B i h' t' hl hi).append_right F).append_left [x1, x2, x3, x4, x5]
  refine h1.trans ?_
  have h2 := perm_front2 (rS h'.1 t'.f0) (rI h'.2 t'.f1) [x1, x2, x3, x4, x5] (tabRows (hs.eraseIdx i) (B.eraseIdx i) ++ F)
  refine h2.trans (List.Perm.cons _ (List.Perm.cons _ ?_))
  exact (List.Perm.trans (List.Perm.cons x1 (List.Perm.swap x3 x2 _)) (List.Perm.swap x3 x1 _))
theorem ta_set (hs : List (Value × Value)) (i : Nat) (a b : Value) (hi : i < hs.length) : ((hs.flatMap pc).set (i * 2) a).set (i * 2 + 1) b = (hs.set i (a, b)).flatMap pc := by
  have h1 := flat_laid pc_len hs i 0 [a, b] (a, b) hi (by simp) (by simp [laid, pc])
  rw [Nat.add_zero] at h1
  rw [← h1]
  have hl := flat_len pc_len hs
  have hle : i * 2 + 2 ≤ (hs.flatMap pc).length := by omega
  generalize hs.flatMap pc = xs at hle
  unfold laid
  apply List.ext_getElem?
  intro k
  rw [List.getElem?_set, List.getElem?_set]
  simp only [List.length_set, List.length_cons, List.length_nil]
  by_cases k1 : i * 2 + 1 = k
  · subst k1
    rw [if_pos rfl, if_pos (by omega), List.append_assoc, List.getElem?_append_right (by rw [List.length_take]; omega), List.length_take, show i * 2 + 1 - min (i * 2) xs.length = 1 by omega]
    rfl
  · rw [if_neg k1]
    by_cases k2 : i * 2 = k
    · subst k2
      rw [if_pos rfl, if_pos (by omega), List.append_assoc, List.getElem?_append_right (by rw [List.length_take]; omega), List.length_take, show i * 2 - min (i * 2) xs.length = 0 by omega]
      rfl
    · rw [if_neg k2]
      by_cases k3 : k < i * 2
      · rw [List.append_assoc, List.getElem?_append_left (by rw [List.length_take]; omega), List.getElem?_take, if_pos k3]
      · rw [List.getElem?_append_right (by simp; omega), List.getElem?_drop]
        simp only [List.length_append, List.length_take, List.length_cons, List.length_nil]
        congr 1
        omega
section
variable {w w1 w0 : World} {base g gB gs n c : Nat} {A : Option Addr} {bx : List Value} {v0 v1 v2 v3 : Value} {hs : List (Value × Value)} {T : List S67} {B : List S78} {C : List S155} {E : List Int} {F : List Row}
theorem WW.pull (h : WW w base g bx v0 v1 v2 v3 hs T B C E F) (p : Int) (h0 : 0 ≤ p) (h1 : p < B.length) :
    Lay w base (rS (hdr hs p).1 (rd_T78 B p).f0 :: rI (hdr hs p).2 (rd_T78 B p).f1 :: rTa v1 hs :: box g 45 bx :: rTh v0 T :: rLo v2 C :: rI v3 E :: (tabRows (hs.eraseIdx p.toNat) (B.eraseIdx p.toNat) ++ F)) := by
  have hi : p.toNat < B.length := by omega
  have := pull_perm (box g 45 bx) (rTh v0 T) (rTa v1 hs) (rLo v2 C) (rI v3 E) hs B F p.toNat (hdr hs p) (rd_T78 B p) h.1 hi
  have e1 : hs.set p.toNat (hdr hs p) = hs := by
    have := hdr_get hs p.toNat (by rw [h.1]; exact hi)
    rw [show ((p.toNat : Nat) : Int) = p by omega] at this
    rw [this, List.set_getElem_self]
  have e2 : B.set p.toNat (rd_T78 B p) = B := by
    have := rd78_get B p.toNat hi
    rw [show ((p.toNat : Nat) : Int) = p by omega] at this
    rw [this, List.set_getElem_self]
  rw [e1, e2] at this
  exact h.2.perm this
theorem WW.push (p : Int) (a b : Value) (S : List S75) (G : List Int) (hl : hs.length = B.length) (h0 : 0 ≤ p) (h1 : p < B.length)
    (h : Lay w base (rS a S :: rI b G :: rTa v1 (hs.set p.toNat (a, b)) :: box g 45 bx :: rTh v0 T :: rLo v2 C :: rI v3 E :: (tabRows (hs.eraseIdx p.toNat) (B.eraseIdx p.toNat) ++ F))) :
    WW w base g bx v0 v1 v2 v3 (hs.set p.toNat (a, b)) T (B.set p.toNat ⟨S, G⟩) C E F := by
  have hi : p.toNat < B.length := by omega
  refine ⟨by simp [hl], ?_⟩
  exact h.perm (pull_perm (box g 45 bx) (rTh v0 T) (rTa v1 (hs.set p.toNat (a, b))) (rLo v2 C) (rI v3 E) hs B F p.toNat (a, b) ⟨S, G⟩ hl hi).symm
/-- Where the tables' headers stand. -/
theorem WW.heads (h : WW w base g bx v0 (.slice A n c) v2 v3 hs T B C E F) (p : Int) (h0 : 0 ≤ p) (h1 : p < B.length) :
    ∃ gB, A = some ⟨gB, 0, none⟩ ∧ n = B.length ∧ (hs.flatMap pc)[p.toNat * 2]? = some (hdr hs p).1 ∧ (hs.flatMap pc)[p.toNat * 2 + 1]? = some (hdr hs p).2 := by
  have hT := h.2.tail.tail
  have hi : p.toNat < hs.length := by rw [h.1]; omega
  obtain ⟨gB, hA⟩ := hT.formTa (by omega)
  obtain ⟨A', c', e⟩ := hT.hdTa rfl
  simp only [Value.slice.injEq] at e
  have e1 := flat_get pc_len hs p.toNat 0 hi (by omega)
  have e2 := flat_get pc_len hs p.toNat 1 hi (by omega)
  have e3 := hdr_get hs p.toNat hi
  rw [show ((p.toNat : Nat) : Int) = p by omega] at e3
  rw [← e3] at e1 e2
  exact ⟨gB, hA, by rw [e.2.1, h.1], e1, e2⟩
theorem WW.below (h : WW w base g bx v0 v1 v2 v3 hs T B C E F) (hb : Below w.heap.size w w1) : WW w1 base g bx v0 v1 v2 v3 hs T B C E F := ⟨h.1, h.2.below hb⟩
theorem WW.add (h : WW w base g bx v0 (.slice (some ⟨gB, 0, none⟩) n c) v2 v3 hs T B C E F) (hb : Below base w0 w) (hz : base ≤ w.heap.size) (p : Int) (h0 : 0 ≤ p) (h1 : p < B.length) (x : S75) (S' : List S75) (G' : List Int) (k : Int) (hr : addR (rd_T78 B p).f0 (rd_T78 B p).f1 x = some (S', G', k)) {ag : Array Value} (hag : (hc x).toArray = ag) :
    Calls Try.prog 155 #[.pointer (some ⟨gB, p.toNat * 2, none⟩), .agg ag] w fun e_ w' => e_ = .returned (.int .i64 k) ∧ ∃ hs', WW w' base g bx v0 (.slice (some ⟨gB, 0, none⟩) n c) v2 v3 hs' T (B.set p.toNat ⟨S', G'⟩) C E F ∧ Below base w0 w' ∧ base ≤ w'.heap.size := by
  subst hag
  obtain ⟨gB', e1, e2, e3, e4⟩ := h.heads p h0 h1
  have hl : n = hs.length := by rw [e2, h.1]
  have hp := h.pull p h0 h1
  subst hl
  refine (impl_Table_add.calls base gB (p.toNat * 2) hs.length c 78 2 (hs.flatMap pc) (hdr hs p).1 (hdr hs p).2 _ _ x S' G' k _ w0 w hp hb hz e3 e4 hr).mono ?_
  rintro e_ w' ⟨rfl, a, b, h5, h6, h7⟩
  rw [ta_set hs p.toNat a b (by rw [h.1]; omega)] at h5
  refine ⟨rfl, hs.set p.toNat (a, b), WW.push p a b S' G' h.1 h0 h1 ?_, h6, h7⟩
  have e5 : (⟨.slice (some ⟨gB, 0, none⟩) hs.length c, 78, 2, hs.length, (hs.set p.toNat (a, b)).flatMap pc⟩ : Row) = rTa (.slice (some ⟨gB, 0, none⟩) hs.length c) (hs.set p.toNat (a, b)) := by
    unfold rTa
    rw [List.length_set]
  rw [e5] at h5
  exact h5
theorem WW.drop (h : WW w base g bx v0 (.slice (some ⟨gB, 0, none⟩) n c) v2 v3 hs T B C E F) (hb : Below base w0 w) (hz : base ≤ w.heap.size) (p : Int) (h0 : 0 ≤ p) (h1 : p < B.length) (x : Int) (S' : List S75) (G' : List Int) (hr : dropR (rd_T78 B p).f0 (rd_T78 B p).f1 x = some (S', G')) :
    Calls Try.prog 157 #[.pointer (some ⟨gB, p.toNat * 2, none⟩), .int .i64 x] w fun e_ w' => e_ = .returned (.tuple #[]) ∧ ∃ hs', WW w' base g bx v0 (.slice (some ⟨gB, 0, none⟩) n c) v2 v3 hs' T (B.set p.toNat ⟨S', G'⟩) C E F ∧ Below base w0 w' ∧ base ≤ w'.heap.size := by
  obtain ⟨gB', e1, e2, e3, e4⟩ := h.heads p h0 h1
  have hl : n = hs.length := by rw [e2, h.1]
  have hp := h.pull p h0 h1
  subst hl
  refine (impl_Table_drop.calls base gB (p.toNat * 2) hs.length c 78 2 (hs.flatMap pc) (hdr hs p).1 (hdr hs p).2 _ _ x S' G' _ w0 w hp hb hz e3 e4 hr).mono ?_
  rintro e_ w' ⟨rfl, a, b, h5, h6, h7⟩
  rw [ta_set hs p.toNat a b (by rw [h.1]; omega)] at h5
  refine ⟨rfl, hs.set p.toNat (a, b), WW.push p a b S' G' h.1 h0 h1 ?_, h6, h7⟩
  have e5 : (⟨.slice (some ⟨gB, 0, none⟩) hs.length c, 78, 2, hs.length, (hs.set p.toNat (a, b)).flatMap pc⟩ : Row) = rTa (.slice (some ⟨gB, 0, none⟩) hs.length c) (hs.set p.toNat (a, b)) := by
    unfold rTa
    rw [List.length_set]
  rw [e5] at h5
  exact h5
theorem WW.full (h : WW w base g bx v0 (.slice (some ⟨gB, 0, none⟩) n c) v2 v3 hs T B C E F) (p : Int) (h0 : 0 ≤ p) (h1 : p < B.length) :
    Calls Try.prog 154 #[.pointer (some ⟨gB, p.toNat * 2, none⟩)] w fun e_ w' => e_ = .returned (.bool (fullR (rd_T78 B p).f0 (rd_T78 B p).f1)) ∧ Drawn0 w w' := by
  obtain ⟨gB', e1, e2, e3, e4⟩ := h.heads p h0 h1
  have hl : n = hs.length := by rw [e2, h.1]
  subst hl
  have hp := h.pull p h0 h1
  obtain ⟨A0, c0, a0⟩ := hp.hdS rfl
  obtain ⟨A1, c1, a1⟩ := hp.tail.hdI rfl
  rw [a0] at e3
  rw [a1] at e4
  exact impl_Table_fullL.calls gB (p.toNat * 2) A0 A1 c0 c1 _ _ w (h.2.tail.tail.cell _ e3) (h.2.tail.tail.cell _ e4)
theorem WW.find (h : WW w base g bx v0 (.slice (some ⟨gB, 0, none⟩) n c) v2 v3 hs T B C E F) (p : Int) (h0 : 0 ≤ p) (h1 : p < B.length) (i res : Int) (r : S75) (code : Int) (hr : findR (rd_T78 B p).f0 i res = (r, code)) :
    Calls Try.prog 156 #[.pointer (some ⟨gB, p.toNat * 2, none⟩), .int .i64 i, .int .i64 res] w fun e_ w' => e_ = .returned (.tuple #[.agg (hc r).toArray, .int .i64 code]) ∧ Below w.heap.size w w' := by
  obtain ⟨gB', e1, e2, e3, e4⟩ := h.heads p h0 h1
  have hl : n = hs.length := by rw [e2, h.1]
  subst hl
  have hp := h.pull p h0 h1
  obtain ⟨A0, c0, a0⟩ := hp.hdS rfl
  rw [a0] at e3 hp
  exact impl_Table_find.calls gB (p.toNat * 2) A0 c0 _ i res r code w (h.2.tail.tail.cell _ e3) (C75 hp).2.2 hr
/-- Another row stands behind the world's, or ahead of them. -/
theorem WW.tuck {r : Row} (hl : hs.length = B.length) (h : Lay w base (r :: box g 45 bx :: rTh v0 T :: rTa v1 hs :: rLo v2 C :: rI v3 E :: (tabRows hs B ++ F))) : WW w base g bx v0 v1 v2 v3 hs T B C E (r :: F) :=
  ⟨hl, h.perm (List.perm_middle (l₁ := box g 45 bx :: rTh v0 T :: rTa v1 hs :: rLo v2 C :: rI v3 E :: tabRows hs B) (l₂ := F) (a := r)).symm⟩
theorem WW.out {r : Row} (h : WW w base g bx v0 v1 v2 v3 hs T B C E (r :: F)) : Lay w base (r :: box g 45 bx :: rTh v0 T :: rTa v1 hs :: rLo v2 C :: rI v3 E :: (tabRows hs B ++ F)) :=
  h.2.perm (List.perm_middle (l₁ := box g 45 bx :: rTh v0 T :: rTa v1 hs :: rLo v2 C :: rI v3 E :: tabRows hs B) (l₂ := F) (a := r))
theorem WW.less {r : Row} (h : WW w base g bx v0 v1 v2 v3 hs T B C E (r :: F)) : WW w base g bx v0 v1 v2 v3 hs T B C E F := ⟨h.1, h.out.tail⟩
theorem WW.at (h : WW w base g bx v0 v1 v2 v3 hs T B C E F) (j : Nat) {u : Value} (hj : bx[j]? = some u) : w.cell? ⟨g, j, none⟩ = some u := h.2.cell j hj
theorem WW.drew (h : WW w base g bx v0 v1 v2 v3 hs T B C E F) : WW w.drew base g bx v0 v1 v2 v3 hs T B C E F := h
theorem WW.drewN (h : WW w base g bx v0 v1 v2 v3 hs T B C E F) (k : Nat) : WW (w.drewN k) base g bx v0 v1 v2 v3 hs T B C E F := h
theorem WW.fT (h : WW w base g bx v0 v1 v2 v3 hs T B C E F) : Lay w base (rTh v0 T :: box g 45 bx :: rTa v1 hs :: rLo v2 C :: rI v3 E :: (tabRows hs B ++ F)) := h.2.swap
theorem WW.bT {v0' : Value} {T' : List S67} (hl : hs.length = B.length) (h : Lay w base (rTh v0' T' :: box g 45 bx :: rTa v1 hs :: rLo v2 C :: rI v3 E :: (tabRows hs B ++ F))) : WW w base g bx v0' v1 v2 v3 hs T' B C E F := ⟨hl, h.swap⟩
theorem WW.fC (h : WW w base g bx v0 v1 v2 v3 hs T B C E F) : Lay w base (rLo v2 C :: box g 45 bx :: rTh v0 T :: rTa v1 hs :: rI v3 E :: (tabRows hs B ++ F)) := h.2.at3
theorem WW.bC {v2' : Value} {C' : List S155} (hl : hs.length = B.length) (h : Lay w base (rLo v2' C' :: box g 45 bx :: rTh v0 T :: rTa v1 hs :: rI v3 E :: (tabRows hs B ++ F))) : WW w base g bx v0 v1 v2' v3 hs T B C' E F := ⟨hl, h.un3⟩
theorem WW.fE (h : WW w base g bx v0 v1 v2 v3 hs T B C E F) : Lay w base (rI v3 E :: box g 45 bx :: rTh v0 T :: rTa v1 hs :: rLo v2 C :: (tabRows hs B ++ F)) := h.2.perm (List.perm_middle (l₁ := [box g 45 bx, rTh v0 T, rTa v1 hs, rLo v2 C]) (l₂ := tabRows hs B ++ F) (a := rI v3 E))
theorem WW.bE {v3' : Value} {E' : List Int} (hl : hs.length = B.length) (h : Lay w base (rI v3' E' :: box g 45 bx :: rTh v0 T :: rTa v1 hs :: rLo v2 C :: (tabRows hs B ++ F))) : WW w base g bx v0 v1 v2 v3' hs T B C E' F := ⟨hl, h.perm (List.perm_middle (l₁ := [box g 45 bx, rTh v0 T, rTa v1 hs, rLo v2 C]) (l₂ := tabRows hs B ++ F) (a := rI v3' E')).symm⟩
theorem WW.cutC {m : Nat} (h : WW w base g bx v0 v1 (.slice A n c) v3 hs T B C E F) (hm : m ≤ C.length) : WW w base g bx v0 v1 (.slice A m c) v3 hs T B (C.take m) E F := WW.bC h.1 (h.fC.cutLo hm)
theorem rd75_get (S : List S75) (i : Nat) (h : i < S.length) : rd_T75 S i = S[i] := by
  unfold rd_T75
  rw [Int.toNat_natCast, List.getD_eq_getElem?_getD, List.getElem?_eq_getElem h]
  rfl
theorem rd67_get (S : List S67) (i : Nat) (h : i < S.length) : rd_T67 S i = S[i] := by
  unfold rd_T67
  rw [Int.toNat_natCast, List.getD_eq_getElem?_getD, List.getElem?_eq_getElem h]
  rfl
theorem WW.slot (h : WW w base g bx v0 (.slice (some ⟨gB, 0, none⟩) n c) v2 v3 hs T B C E F) (p : Int) (h0 : 0 ≤ p) (h1 : p < B.length) (i : Int) (h2 : 0 ≤ i) (h3 : i < (rd_T78 B p).f0.length) :
    ∃ gs c', (hdr hs p).1 = .slice (some ⟨gs, 0, none⟩) (rd_T78 B p).f0.length c' ∧ w.cell? ⟨gB, p.toNat * 2, none⟩ = some (.slice (some ⟨gs, 0, none⟩) (rd_T78 B p).f0.length c') ∧ ∀ (j : Nat) (u : Value), (hc (rd_T75 (rd_T78 B p).f0 i))[j]? = some u → w.cell? ⟨gs, i.toNat * 6 + j, none⟩ = some u := by
  obtain ⟨gB', e1, e2, e3, e4⟩ := h.heads p h0 h1
  have hl : n = hs.length := by rw [e2, h.1]
  subst hl
  have hp := h.pull p h0 h1
  obtain ⟨A0, c0, a0⟩ := hp.hdS rfl
  rw [a0] at e3 hp
  obtain ⟨gs, rfl⟩ := hp.formS (by omega)
  refine ⟨gs, c0, a0, h.2.tail.tail.cell _ e3, fun j u hu => hp.cell _ ?_⟩
  have hi : i.toNat < (rd_T78 B p).f0.length := by omega
  have hj : j < 6 := (List.getElem?_eq_some_iff.mp hu).1
  rw [flat_get hc_len _ i.toNat j hi hj, ← rd75_get _ _ hi, show ((i.toNat : Nat) : Int) = i by omega]
  exact hu
theorem WW.thing (h : WW w base g bx (.slice A n c) v1 v2 v3 hs T B C E F) (i : Int) (h2 : 0 ≤ i) (h3 : i < T.length) : ∃ gs, A = some ⟨gs, 0, none⟩ ∧ ∀ (j : Nat) (u : Value), (tc (rd_T67 T i))[j]? = some u → w.cell? ⟨gs, i.toNat * 2 + j, none⟩ = some u := by
  obtain ⟨gs, rfl⟩ := h.fT.formTh (by omega)
  refine ⟨gs, rfl, fun j u hu => ?_⟩
  have hn := (C67 h.fT).1
  subst hn
  have hi : i.toNat < T.length := by omega
  have hj : j < 2 := (List.getElem?_eq_some_iff.mp hu).1
  refine h.fT.cell _ ?_
  rw [flat_get tc_len _ i.toNat j hi hj, ← rd67_get _ _ hi, show ((i.toNat : Nat) : Int) = i by omega]
  exact hu
theorem rd155_get (S : List S155) (i : Nat) (h : i < S.length) : rd_T155 S i = S[i] := by
  unfold rd_T155
  rw [Int.toNat_natCast, List.getD_eq_getElem?_getD, List.getElem?_eq_getElem h]
  rfl
theorem WW.loan (h : WW w base g bx v0 v1 (.slice A n c) v3 hs T B C E F) (i : Int) (h2 : 0 ≤ i) (h3 : i < C.length) : ∃ gs, A = some ⟨gs, 0, none⟩ ∧ n ≤ c ∧ ∀ (j : Nat) (u : Value), (lc (rd_T155 C i))[j]? = some u → w.cell? ⟨gs, i.toNat * 4 + j, none⟩ = some u := by
  obtain ⟨hn, hc', hC⟩ := C155 h.fC
  obtain ⟨g', c2, e, _⟩ := h.fC.form (show 0 < C.length by omega)
  simp only [rLo, Value.slice.injEq] at e
  obtain ⟨rfl, -, -⟩ := e
  subst hn
  refine ⟨g', rfl, hc', fun j u hu => ?_⟩
  have hi : i.toNat < C.length := by omega
  have hj : j < 4 := (List.getElem?_eq_some_iff.mp hu).1
  refine h.fC.cell _ ?_
  rw [flat_get lc_len _ i.toNat j hi hj, ← rd155_get _ _ hi, show ((i.toNat : Nat) : Int) = i by omega]
  exact hu
section
variable {P : Program} {ops : Array Oper} {rest : List Oper} {o : Oper} {a : Act} {Q : Exit → Act → World → Prop}
/-- append(w.Things, x), append(w.Calls, x), append(w.Ended, x): behind 'at_builtin'. -/
theorem WW.appT (HW : WW w base g bx v0 v1 v2 v3 hs T B C E F) (HB : Below base w0 w) (hbase : base ≤ w.heap.size) (hgd : o.guard = none) (s x : Operand) (t : TypeId) (z : Value) (bytes : Nat)
    (ho : o.op = .call { callee := .builtin .append, args := #[s, x], argTypes := #[t, t] }) (ht : P.underlying t = some (.slice 67)) (hinfo : (P.info? 67).map (fun i => (i.zero, i.size, i.bytes)) = some (some z, 2, bytes)) (hz : z.cells.size = 2) (hb0 : 0 < bytes)
    (hs_ : a.eval s = v0) (hx : a.eval x = .slice (some ⟨w.heap.size, 0, none⟩) 1 1) (y : S67) (hl : (T.length + 1) * bytes ≤ 140737488355328)
    (h : ∀ A' c' w1, WW w1 base g bx (.slice A' (T.length + 1) c') v1 v2 v3 hs (T ++ [y]) B C E F → Below base w0 w1 → base ≤ w1.heap.size → wpList P ops Q rest (a.put o.dst (.slice A' (T.length + 1) c')) w1) : wpList P ops Q (o :: rest) a (w.alloc (.cells (tc y).toArray 67)) := by
  refine HW.fT.append_ev HB hbase hgd s x t z bytes ho ht hinfo hz (Nat.succ_pos _) hb0 hs_ hx (tc y) rfl (by simp [tc, Value.oneCell']) hl ?_
  intro v1' w1 hl_ hb_ hz_
  have h1 := rTh_snoc v1' T y ▸ hl_
  obtain ⟨A', c', rfl⟩ := h1.hdTh (n := T.length + 1) (by simp)
  exact h A' c' w1 (WW.bT HW.1 h1) hb_ hz_
theorem WW.appC (HW : WW w base g bx v0 v1 v2 v3 hs T B C E F) (HB : Below base w0 w) (hbase : base ≤ w.heap.size) (hgd : o.guard = none) (s x : Operand) (t : TypeId) (z : Value) (bytes : Nat)
    (ho : o.op = .call { callee := .builtin .append, args := #[s, x], argTypes := #[t, t] }) (ht : P.underlying t = some (.slice 155)) (hinfo : (P.info? 155).map (fun i => (i.zero, i.size, i.bytes)) = some (some z, 4, bytes)) (hz : z.cells.size = 4) (hb0 : 0 < bytes)
    (hs_ : a.eval s = v2) (hx : a.eval x = .slice (some ⟨w.heap.size, 0, none⟩) 1 1) (y : S155) (hl : (C.length + 1) * bytes ≤ 140737488355328)
    (h : ∀ A' c' w1, WW w1 base g bx v0 v1 (.slice A' (C.length + 1) c') v3 hs T B (C ++ [y]) E F → Below base w0 w1 → base ≤ w1.heap.size → wpList P ops Q rest (a.put o.dst (.slice A' (C.length + 1) c')) w1) : wpList P ops Q (o :: rest) a (w.alloc (.cells (lc y).toArray 155)) := by
  refine HW.fC.append_ev HB hbase hgd s x t z bytes ho ht hinfo hz (Nat.succ_pos _) hb0 hs_ hx (lc y) rfl (by simp [lc, Value.oneCell']) hl ?_
  intro v1' w1 hl_ hb_ hz_
  have h1 := rLo_snoc v1' C y ▸ hl_
  obtain ⟨A', c', rfl⟩ := h1.hdLo (n := C.length + 1) (by simp)
  exact h A' c' w1 (WW.bC HW.1 h1) hb_ hz_
theorem WW.appE (HW : WW w base g bx v0 v1 v2 v3 hs T B C E F) (HB : Below base w0 w) (hbase : base ≤ w.heap.size) (hgd : o.guard = none) (s x : Operand) (t : TypeId) (z : Value) (bytes : Nat)
    (ho : o.op = .call { callee := .builtin .append, args := #[s, x], argTypes := #[t, t] }) (ht : P.underlying t = some (.slice 3)) (hinfo : (P.info? 3).map (fun i => (i.zero, i.size, i.bytes)) = some (some z, 1, bytes)) (hz : z.cells.size = 1) (hb0 : 0 < bytes)
    (hs_ : a.eval s = v3) (hx : a.eval x = .slice (some ⟨w.heap.size, 0, none⟩) 1 1) (y : Int) (hl : (E.length + 1) * bytes ≤ 140737488355328)
    (h : ∀ A' c' w1, WW w1 base g bx v0 v1 v2 (.slice A' (E.length + 1) c') hs T B C (E ++ [y]) F → Below base w0 w1 → base ≤ w1.heap.size → wpList P ops Q rest (a.put o.dst (.slice A' (E.length + 1) c')) w1) : wpList P ops Q (o :: rest) a (w.alloc (.cells #[.int .i64 y] 3)) := by
  refine HW.fE.append_ev HB hbase hgd s x t z bytes ho ht hinfo hz (Nat.succ_pos _) hb0 hs_ hx (ic y) rfl (by simp [ic, Value.oneCell']) hl ?_
  intro v1' w1 hl_ hb_ hz_
  have h1 := rI_snoc v1' E y ▸ hl_
  obtain ⟨A', c', rfl⟩ := h1.hdI (n := E.length + 1) (by simp)
  exact h A' c' w1 (WW.bE HW.1 h1) hb_ hz_
/-- w.Things = .. -/
theorem WW.setbox (HW : WW w base g bx v0 v1 v2 v3 hs T B C E F) (HB : Below base w0 w) (hbase : base ≤ w.heap.size) (hgd : o.guard = none) (hN : o.dst = none) {t : TypeId} {p : Tmp} {x : Operand} (ho : o.op = .store t (.tmp p) x) (off : Nat) (haddr : a.eval (.tmp p) = .pointer (some ⟨g, off, none⟩)) {A' : Option Addr} {n' c' : Nat}
    (hx : a.eval x = .slice A' n' c') (ht : (P.info? t).map (·.size) = some 1) (hfit : off < bx.length) (h : ∀ w1, WW w1 base g (bx.set off (.slice A' n' c')) v0 v1 v2 v3 hs T B C E F → Below base w0 w1 → base ≤ w1.heap.size → wpList P ops Q rest a w1) : wpList P ops Q (o :: rest) a w := by
  refine Lay.store_ev (g := g) (n := 1) (c := 1) (e := 45) (sz := bx.length) (xs := bx) HW.2 HB hgd hN ho off haddr hx (seg := [.slice A' n' c']) rfl ht (by simp [Value.oneCell']) hfit ?_
  intro w1 hl hb hs'
  refine h w1 ⟨HW.1, ?_⟩ hb (hs' ▸ hbase)
  rw [laid_one _ _ _ hfit] at hl
  have e1 : (⟨.slice (some ⟨g, 0, none⟩) 1 1, 45, bx.length, 1, bx.set off (.slice A' n' c')⟩ : Row) = box g 45 (bx.set off (.slice A' n' c')) := by
    unfold box
    rw [List.length_set]
  rw [e1] at hl
  exact hl
/-- w.Tables[p].Slots[i].Lends = m -/
theorem WW.lends (HW : WW w base g bx v0 v1 v2 v3 hs T B C E F) (HB : Below base w0 w) (hbase : base ≤ w.heap.size) (hgd : o.guard = none) (hN : o.dst = none) {t : TypeId} {q : Tmp} {x : Operand} (ho : o.op = .store t (.tmp q) x) (p : Int) (h0 : 0 ≤ p) (h1 : p < B.length) (i : Int) (h2 : 0 ≤ i) (h3 : i < (rd_T78 B p).f0.length) {gs n' c' : Nat} (hh : (hdr hs p).1 = .slice (some ⟨gs, 0, none⟩) n' c')
    (haddr : a.eval (.tmp q) = .pointer (some ⟨gs, i.toNat * 6 + 4, none⟩)) {m : Int} (hx : a.eval x = .int .i64 m) (ht : (P.info? t).map (·.size) = some 1)
    (h : ∀ w1, WW w1 base g bx v0 v1 v2 v3 hs T (B.set p.toNat ⟨(rd_T78 B p).f0.set i.toNat { rd_T75 (rd_T78 B p).f0 i with f4 := m }, (rd_T78 B p).f1⟩) C E F → Below base w0 w1 → base ≤ w1.heap.size → wpList P ops Q rest a w1) : wpList P ops Q (o :: rest) a w := by
  have hp := HW.pull p h0 h1
  have hi : i.toNat < (rd_T78 B p).f0.length := by omega
  have hx4 : hc { rd_T75 (rd_T78 B p).f0 i with f4 := m } = laid (hc (rd_T78 B p).f0[i.toNat]) 4 [.int .i64 m] := by
    have : rd_T75 (rd_T78 B p).f0 i = (rd_T78 B p).f0[i.toNat] := by
      unfold rd_T75
      rw [List.getD_eq_getElem?_getD, List.getElem?_eq_getElem hi]
      rfl
    rw [this]
    rfl
  have hfl := flat_laid hc_len (rd_T78 B p).f0 i.toNat 4 [.int .i64 m] _ hi (by simp) hx4
  have hlen := flat_len hc_len (rd_T78 B p).f0
  obtain ⟨A', c2, e⟩ := hp.hdS rfl
  rw [hh] at hp e
  simp only [Value.slice.injEq] at e
  obtain ⟨-, rfl, rfl⟩ := e
  refine Lay.store_ev (g := gs) (e := 75) (sz := 6) (xs := (rd_T78 B p).f0.flatMap hc) hp HB hgd hN ho (i.toNat * 6 + 4) haddr hx (seg := [.int .i64 m]) rfl ht (by simp [Value.oneCell']) (by simp only [List.length_cons, List.length_nil]; omega) ?_
  intro w1 hl hb hs'
  rw [hfl] at hl
  have e1 : (⟨.slice (some ⟨gs, 0, none⟩) (rd_T78 B p).f0.length c', 75, 6, (rd_T78 B p).f0.length, List.flatMap hc ((rd_T78 B p).f0.set i.toNat { rd_T75 (rd_T78 B p).f0 i with f4 := m })⟩ : Row) = rS (hdr hs p).1 ((rd_T78 B p).f0.set i.toNat { rd_T75 (rd_T78 B p).f0 i with f4 := m }) := by
    unfold rS
    rw [List.length_set, hh]
  rw [e1] at hl
  have e2 : hs.set p.toNat ((hdr hs p).1, (hdr hs p).2) = hs := by
    have hi' : p.toNat < hs.length := by rw [HW.1]; omega
    have := hdr_get hs p.toNat hi'
    rw [show ((p.toNat : Nat) : Int) = p by omega] at this
    rw [this]
    exact List.set_getElem_self hi'
  have h5 := WW.push (hs := hs) (bx := bx) (v0 := v0) (v1 := v1) (v2 := v2) (v3 := v3) (T := T) (C := C) (E := E) (F := F) (g := g) p (hdr hs p).1 (hdr hs p).2 ((rd_T78 B p).f0.set i.toNat { rd_T75 (rd_T78 B p).f0 i with f4 := m }) (rd_T78 B p).f1 HW.1 h0 h1 (by rw [e2]; exact hl)
  rw [e2] at h5
  exact h w1 h5 hb (hs' ▸ hbase)
/-- w.Things[i].Alive = false -/
theorem WW.alive (HW : WW w base g bx (.slice (some ⟨gs, 0, none⟩) n c) v1 v2 v3 hs T B C E F) (HB : Below base w0 w) (hbase : base ≤ w.heap.size) (hgd : o.guard = none) (hN : o.dst = none) {t : TypeId} {q : Tmp} {x : Operand} (ho : o.op = .store t (.tmp q) x) (i : Int) (h2 : 0 ≤ i) (h3 : i < T.length)
    (haddr : a.eval (.tmp q) = .pointer (some ⟨gs, i.toNat * 2 + 1, none⟩)) {m : Bool} (hx : a.eval x = .bool m) (ht : (P.info? t).map (·.size) = some 1)
    (h : ∀ w1, WW w1 base g bx (.slice (some ⟨gs, 0, none⟩) n c) v1 v2 v3 hs (T.set i.toNat { rd_T67 T i with f1 := m }) B C E F → Below base w0 w1 → base ≤ w1.heap.size → wpList P ops Q rest a w1) : wpList P ops Q (o :: rest) a w := by
  have hp := HW.fT
  have hi : i.toNat < T.length := by omega
  have hx4 : tc { rd_T67 T i with f1 := m } = laid (tc T[i.toNat]) 1 [.bool m] := by
    have : rd_T67 T i = T[i.toNat] := by
      unfold rd_T67
      rw [List.getD_eq_getElem?_getD, List.getElem?_eq_getElem hi]
      rfl
    rw [this]
    rfl
  have hfl := flat_laid tc_len T i.toNat 1 [.bool m] _ hi (by simp) hx4
  have hlen := flat_len tc_len T
  have hn := (C67 hp).1
  subst hn
  refine Lay.store_ev (g := gs) (e := 67) (sz := 2) (xs := T.flatMap tc) hp HB hgd hN ho (i.toNat * 2 + 1) haddr hx (seg := [.bool m]) rfl ht (by simp [Value.oneCell']) (by simp only [List.length_cons, List.length_nil]; omega) ?_
  intro w1 hl hb hs'
  rw [hfl] at hl
  have e1 : (⟨.slice (some ⟨gs, 0, none⟩) T.length c, 67, 2, T.length, List.flatMap tc (T.set i.toNat { rd_T67 T i with f1 := m })⟩ : Row) = rTh (.slice (some ⟨gs, 0, none⟩) T.length c) (T.set i.toNat { rd_T67 T i with f1 := m }) := by
    unfold rTh
    rw [List.length_set]
  rw [e1] at hl
  exact h w1 (WW.bT HW.1 hl) hb (hs' ▸ hbase)
end
end
def createR (T : List S67) (B : List S78) (part n : Int) : Option (List S67 × List S78 × Int × Int) :=
  if n < 0 then some (T, B, 0, 1) else (if n > 9 then some (T, B, 0, 1) else (if part < 0 then none else (if part ≥ (B.length : Int) then none else (if T.length < 1048576 then (if (T.length : Int) = 40 then some (T, B, 0, 5) else (if fullR (rd_T78 B part).f0 (rd_T78 B part).f1 = true then some (T, B, 0, 5) else
    (addR (rd_T78 B part).f0 (rd_T78 B part).f1 ⟨true, n, (T.length : Int), true, 0, 0⟩).bind fun r => some (T ++ [⟨n, true⟩], B.set part.toNat ⟨r.1, r.2.1⟩, r.2.2, 0))) else none))))
def giveR (B : List S78) (part at_ to_ n : Int) : Option (List S78 × Int × Int) :=
  if part < 0 then none else (if part ≥ (B.length : Int) then none else (if to_ < 0 then none else (if to_ ≥ (B.length : Int) then none else
    (if (findR (rd_T78 B part).f0 at_ n).2 = 0 then (if (findR (rd_T78 B part).f0 at_ n).1.f3 = true then (if (findR (rd_T78 B part).f0 at_ n).1.f4 = 0 then (if fullR (rd_T78 B to_).f0 (rd_T78 B to_).f1 = true then some (B, 0, 5) else
      ((dropR (rd_T78 B part).f0 (rd_T78 B part).f1 at_).bind fun d => (addR (rd_T78 (B.set part.toNat ⟨d.1, d.2⟩) to_).f0 (rd_T78 (B.set part.toNat ⟨d.1, d.2⟩) to_).f1 (findR (rd_T78 B part).f0 at_ n).1).bind fun r => some ((B.set part.toNat ⟨d.1, d.2⟩).set to_.toNat ⟨r.1, r.2.1⟩, r.2.2, 0)))
      else some (B, 0, 4)) else some (B, 0, 6)) else some (B, 0, (findR (rd_T78 B part).f0 at_ n).2)))))
def lendR (B : List S78) (C : List S155) (part at_ to_ n : Int) : Option (List S78 × List S155 × Int × Int) :=
  if part < 0 then none else (if part ≥ (B.length : Int) then none else (if to_ < 0 then none else (if to_ ≥ (B.length : Int) then none else
    (if (findR (rd_T78 B part).f0 at_ n).2 = 0 then (if (findR (rd_T78 B part).f0 at_ n).1.f3 = true then (if fullR (rd_T78 B to_).f0 (rd_T78 B to_).f1 = true then some (B, C, 0, 5) else (if at_ < 0 then none else (if at_ ≥ ((rd_T78 B part).f0.length : Int) then none else (if C.length < 1048576 then
      ((addR (rd_T78 (B.set part.toNat ⟨(rd_T78 B part).f0.set at_.toNat { rd_T75 (rd_T78 B part).f0 at_ with f4 := wrap64 ((rd_T75 (rd_T78 B part).f0 at_).f4 + 1) }, (rd_T78 B part).f1⟩) to_).f0 (rd_T78 (B.set part.toNat ⟨(rd_T78 B part).f0.set at_.toNat { rd_T75 (rd_T78 B part).f0 at_ with f4 := wrap64 ((rd_T75 (rd_T78 B part).f0 at_).f4 + 1) }, (rd_T78 B part).f1⟩) to_).f1 ⟨true, (findR (rd_T78 B part).f0 at_ n).1.f1, (findR (rd_T78 B part).f0 at_ n).1.f2, false, 0, (C.length : Int) + 1⟩).bind fun r =>
        some ((B.set part.toNat ⟨(rd_T78 B part).f0.set at_.toNat { rd_T75 (rd_T78 B part).f0 at_ with f4 := wrap64 ((rd_T75 (rd_T78 B part).f0 at_).f4 + 1) }, (rd_T78 B part).f1⟩).set to_.toNat ⟨r.1, r.2.1⟩, C ++ [⟨part, at_, to_, r.2.2⟩], r.2.2, 0)) else none))))
      else some (B, C, 0, 6)) else some (B, C, 0, (findR (rd_T78 B part).f0 at_ n).2)))))
def endR (B : List S78) (C : List S155) : Option (List S78 × List S155 × Int) :=
  if C.length = 0 then none else
  let x := rd_T155 C ((C.length : Int) - 1)
  if x.f2 < 0 then none else if x.f2 ≥ (B.length : Int) then none else if x.f3 < 0 then none else if x.f3 ≥ ((rd_T78 B x.f2).f0.length : Int) then none else
  (dropR (rd_T78 B x.f2).f0 (rd_T78 B x.f2).f1 x.f3).bind fun d =>
    let B1 := B.set x.f2.toNat ⟨d.1, d.2⟩
    if x.f0 < 0 then none else if x.f0 ≥ (B.length : Int) then none else if x.f1 < 0 then none else if x.f1 ≥ ((rd_T78 B1 x.f0).f0.length : Int) then none else
    some (B1.set x.f0.toNat ⟨(rd_T78 B1 x.f0).f0.set x.f1.toNat { rd_T75 (rd_T78 B1 x.f0).f0 x.f1 with f4 := wrap64 ((rd_T75 (rd_T78 B1 x.f0).f0 x.f1).f4 - 1) }, (rd_T78 B1 x.f0).f1⟩, C.take (C.length - 1), (rd_T75 (rd_T78 B x.f2).f0 x.f3).f2)
def letR (T : List S67) (B : List S78) (C : List S155) (E : List Int) (part at_ n : Int) : Option (List S67 × List S78 × List S155 × List Int × Int × Int) :=
  if part < 0 then none else (if part ≥ (B.length : Int) then none else
    (if (findR (rd_T78 B part).f0 at_ n).2 = 0 then (if (findR (rd_T78 B part).f0 at_ n).1.f3 = true then
      (if (findR (rd_T78 B part).f0 at_ n).1.f4 = 0 then (dropR (rd_T78 B part).f0 (rd_T78 B part).f1 at_).bind fun d =>
        (if (findR (rd_T78 B part).f0 at_ n).1.f2 < 0 then none else (if (findR (rd_T78 B part).f0 at_ n).1.f2 ≥ (T.length : Int) then none else (if E.length < 1048576 then
          some (T.set (findR (rd_T78 B part).f0 at_ n).1.f2.toNat { rd_T67 T (findR (rd_T78 B part).f0 at_ n).1.f2 with f1 := false }, B.set part.toNat ⟨d.1, d.2⟩, C, E ++ [(findR (rd_T78 B part).f0 at_ n).1.f2], (findR (rd_T78 B part).f0 at_ n).1.f2, 0) else none)))
      else some (T, B, C, E, 0, 4)) else (if (findR (rd_T78 B part).f0 at_ n).1.f5 = (C.length : Int) then (endR B C).bind fun r => some (T, r.1, r.2.1, E, r.2.2, 0) else some (T, B, C, E, 0, 4)))
    else some (T, B, C, E, 0, (findR (rd_T78 B part).f0 at_ n).2)))
def actR (T : List S67) (B : List S78) (C : List S155) (E : List Int) (kind part at_ to_ n : Int) : Option (List S67 × List S78 × List S155 × List Int × Int × Int) :=
  if kind = 5 then (if C.length = 0 then some (T, B, C, E, 0, 2) else (endR B C).bind fun r => some (T, r.1, r.2.1, E, r.2.2, 0))
  else (if part < 0 then some (T, B, C, E, 0, 1) else (if part ≥ (B.length : Int) then some (T, B, C, E, 0, 1) else
    (if kind = 1 then (createR T B part n).bind fun r => some (r.1, r.2.1, C, E, r.2.2.1, r.2.2.2)
    else (if kind = 4 then letR T B C E part at_ n
    else (if kind = 2 ∨ kind = 3 then (if to_ < 0 then some (T, B, C, E, 0, 1) else (if to_ ≥ (B.length : Int) then some (T, B, C, E, 0, 1) else (if to_ = part then some (T, B, C, E, 0, 1) else
      (if kind = 2 then (giveR B part at_ to_ n).bind fun r => some (T, r.1, C, E, r.2.1, r.2.2) else (lendR B C part at_ to_ n).bind fun r => some (T, r.1, r.2.1, E, r.2.2.1, r.2.2.2))))) else some (T, B, C, E, 0, 1))))))
theorem made_flat {α : Type} {enc : α → List Value} (z : Value) (sz : Nat) (henc : ∀ x, (enc x).length = sz) (x0 : α) (hx : z.cells.toList = enc x0) (hz : z.cells.size = sz) (hs : 0 < sz) (n : Nat) : (madeCells z.cells (n * sz)).toList = (List.replicate n x0).flatMap enc := by
  have hl : ((List.replicate n x0).flatMap enc).length = n * sz := by rw [flat_len henc, List.length_replicate]
  apply List.ext_getElem?
  intro k
  by_cases hk : k < n * sz
  · have h1 : k / sz < n := by
      rw [Nat.div_lt_iff_lt_mul hs]; exact hk
    have h2 : k % sz < sz := Nat.mod_lt _ hs
    have h3 : k / sz * sz + k % sz = k := by rw [Nat.mul_comm]; exact Nat.div_add_mod k sz
    have h4 := flat_get henc (List.replicate n x0) (k / sz) (k % sz) (by rw [List.length_replicate]; exact h1) h2
    rw [h3, List.getElem_replicate] at h4
    rw [h4, ← hx]
    simp [madeCells, hz, hk]
    rw [getElem!_pos z.cells (k % sz) (by rw [hz]; exact h2), Array.getElem?_eq_getElem]
  · rw [List.getElem?_eq_none (by rw [Array.length_toList, size_madeCells]; omega), List.getElem?_eq_none (by rw [hl]; omega)]
section
variable {P : Program} {ops : Array Oper} {rest : List Oper} {o : Oper} {a : Act} {Q : Exit → Act → World → Prop}
theorem Lay.make_ev {w0 W : World} {base : Nat} {L : List Row} (HL : Lay W base L) (HB : Below base w0 W) (hbase : base ≤ W.heap.size) (hgd : o.guard = none) {t e : TypeId} {x y : Operand} (ho : o.op = .makeSlice t x y) (n : Nat) (hx : a.eval x = .int .i64 (n : Int)) (hy : a.eval y = .int .i64 (n : Int))
    (ht : P.underlying t = some (.slice e)) (z : Value) (sz bytes : Nat) (hinfo : (P.info? e).map (fun i => (i.zero, i.size, i.bytes)) = some (some z, sz, bytes)) (hz : z.cells.size = sz) (hs0 : 0 < sz) (hb0 : 0 < bytes) {α : Type} (enc : α → List Value) (henc : ∀ x, (enc x).length = sz) (x0 : α) (hx0 : z.cells.toList = enc x0) (hl : n * bytes ≤ 281474976710656)
    (h : ∀ g w1, Lay w1 base (⟨.slice (some ⟨g, 0, none⟩) n n, e, sz, n, (List.replicate n x0).flatMap enc⟩ :: L) → Below base w0 w1 → base ≤ w1.heap.size → wpList P ops Q rest (a.put o.dst (.slice (some ⟨g, 0, none⟩) n n)) w1) : wpList P ops Q (o :: rest) a W := by
  obtain ⟨i0, hi, hzz⟩ := Option.map_eq_some_iff.1 hinfo
  simp only [Prod.mk.injEq] at hzz
  obtain ⟨hz0, hz1, hz2⟩ := hzz
  have hm : n ≤ 281474976710656 := Nat.le_trans (Nat.le_mul_of_pos_right _ hb0) hl
  have hr := run_make (P := P) W t e i0 z ht hi hz0 .i64 .i64 (n : Int) (n : Int) (by omega) (by omega)
    (by
      have h3 : ((i0.bytes * n : Nat) : Int) ≤ 281474976710656 := by rw [hz2, Nat.mul_comm]; omega
      rwa [Int.natCast_mul] at h3) (by omega)
  simp only [Int.toNat_natCast] at hr
  rw [hz1] at hr
  have hfl := made_flat (enc := enc) z sz henc x0 hx0 hz hs0 n
  have hsz : (madeCells z.cells (n * sz)).size = n * sz := size_madeCells _ _
  refine Kd.event_run (v := .slice (some ⟨W.heap.size, 0, none⟩) n n) hgd (by simp [execOp, ho, hx, hy, hr]) (h _ _ (HL.fresh (fun k hk => Below.heap_alloc W _ k hk) ⟨?_, .inr ⟨W.heap.size, n, _, rfl, Nat.le_refl _, blk_new W _, Nat.le_refl _, by simp only [maxLen]; omega, hsz, ?_⟩⟩ hbase) (HB.alloc hbase _) ?_)
  · simp only
    rw [← hfl, Array.length_toList, hsz]
  · simp only
    rw [hfl, List.take_of_length_le]
    rw [← hfl, Array.length_toList, hsz]
    exact Nat.le_refl _
  · exact Nat.le_trans hbase (below_alloc (Below.refl _ _) _).size
end
/-- A world's rows, with no box. -/
def WR (w : World) (base : Nat) (v0 v1 v2 v3 : Value) (hs : List (Value × Value)) (T : List S67) (B : List S78) (C : List S155) (E : List Int) (F : List Row) : Prop :=
  hs.length = B.length ∧ Lay w base (rTh v0 T :: rTa v1 hs :: rLo v2 C :: rI v3 E :: (tabRows hs B ++ F))
theorem WW.less0 {w : World} {base g : Nat} {bx : List Value} {v0 v1 v2 v3 : Value} {hs : List (Value × Value)} {T : List S67} {B : List S78} {C : List S155} {E : List Int} {F : List Row} (h : WW w base g bx v0 v1 v2 v3 hs T B C E F) : WR w base v0 v1 v2 v3 hs T B C E F := ⟨h.1, h.2.tail⟩
theorem WR.box {w : World} {base g : Nat} {bx : List Value} {v0 v1 v2 v3 : Value} {hs : List (Value × Value)} {T : List S67} {B : List S78} {C : List S155} {E : List Int} {F : List Row} (hl : hs.length = B.length) (h : Lay w base (box g 45 bx :: rTh v0 T :: rTa v1 hs :: rLo v2 C :: rI v3 E :: (tabRows hs B ++ F))) : WW w base g bx v0 v1 v2 v3 hs T B C E F := ⟨hl, h⟩
/-- What a world by value is behind a call. -/
def AfterR (w0 : World) (base : Nat) (v : Value) (T : List S67) (B : List S78) (C : List S155) (E : List Int) (F : List Row) (w : World) : Prop := ∃ v0 v1 v2 v3 hs, v = .agg #[v0, v1, v2, v3] ∧ WR w base v0 v1 v2 v3 hs T B C E F ∧ Below base w0 w ∧ base ≤ w.heap.size
theorem AfterR.mk {w0 w : World} {base : Nat} {v0 v1 v2 v3 : Value} {hs : List (Value × Value)} {T : List S67} {B : List S78} {C : List S155} {E : List Int} {F : List Row} (h : WR w base v0 v1 v2 v3 hs T B C E F) (hb : Below base w0 w) (hz : base ≤ w.heap.size) : AfterR w0 base (.agg #[v0, v1, v2, v3]) T B C E F w := ⟨v0, v1, v2, v3, hs, rfl, h, hb, hz⟩
def nilV : Value := .slice none 0 0
theorem nil_ok (w : World) (base e sz : Nat) (xs : List Value) (hx : xs = []) : (⟨nilV, e, sz, 0, xs⟩ : Row).ok w base := by
  subst hx
  exact ⟨by simp, .inl ⟨rfl, rfl⟩⟩
/-- A row of nothing may stand anywhere. -/
theorem Lay.nilRow {w : World} {base : Nat} {L : List Row} (e sz : Nat) (h : Lay w base L) : Lay w base (⟨nilV, e, sz, 0, []⟩ :: L) := by
  refine ⟨fun r hr => ?_, ?_⟩
  · rcases List.mem_cons.mp hr with rfl | hr
    · exact nil_ok w base e sz [] rfl
    · exact h.1 r hr
  · show (List.filterMap _ (_ :: L)).Nodup
    rw [List.filterMap_cons]
    exact h.2
theorem tab_nil {w : World} {base : Nat} {F : List Row} (h : Lay w base F) : ∀ n, Lay w base (tabRows (List.replicate n zp) (List.replicate n z78) ++ F)
  | 0 => h
  | n + 1 => by
    rw [List.replicate_succ, List.replicate_succ]
    exact (tab_nil h n).nilRow 3 1 |>.nilRow 75 6
theorem WR.new {w : World} {base n : Nat} {v : Value} {F : List Row} (h : Lay w base (rTa v (List.replicate n zp) :: F)) : WR w base nilV v nilV nilV (List.replicate n zp) [] (List.replicate n z78) [] [] F := by
  refine ⟨by simp, ?_⟩
  have h1 := tab_nil (F := rTa v (List.replicate n zp) :: F) h n
  have h2 := h1.perm (List.perm_middle)
  have h3 := ((h2.nilRow 3 1).nilRow 155 4).at2
  exact h3.nilRow 67 2
theorem WR.none {w : World} {base : Nat} {F : List Row} (h : Lay w base F) : WR w base nilV nilV nilV nilV [] [] [] [] [] F :=
  ⟨rfl, (((h.nilRow 3 1).nilRow 155 4).nilRow 78 2).nilRow 67 2⟩
theorem rTa_made (v : Value) (n : Nat) : (⟨v, 78, 2, n, (List.replicate n zp).flatMap pc⟩ : Row) = rTa v (List.replicate n zp) := by
  unfold rTa
  rw [List.length_replicate]
theorem rI_made (v : Value) (n : Nat) : (⟨v, 3, 1, n, (List.replicate n (0 : Int)).flatMap ic⟩ : Row) = rI v (List.replicate n 0) := by
  unfold rI
  rw [List.length_replicate]
theorem rI_put (v : Value) (l : List Int) (i : Nat) (x : Int) (h : i < l.length) : (⟨v, 3, 1, l.length, laid (l.flatMap ic) i [.int .i64 x]⟩ : Row) = rI v (l.set i x) := by
  unfold rI
  have := flat_laid ic_len l i 0 [.int .i64 x] x h (by simp) (by simp [laid, ic])
  rw [Nat.add_zero, Nat.mul_one] at this
  rw [this, List.length_set]
def okN (n : Int) : Bool := decide (1 ≤ n ∧ n ≤ 5)
def newB (n : Int) : List S78 := if 1 ≤ n ∧ n ≤ 5 then List.replicate n.toNat z78 else []
/-- What the making of a world leaves. -/
def NewPost (w0 : World) (base : Nat) (n : Int) (F : List Row) (e : Ending) (w : World) : Prop := ∃ v, e = .returned (.tuple #[v, .bool (okN n)]) ∧ AfterR w0 base v [] (newB n) [] [] F w
def playG : List S69 → List S67 → List S78 → List S155 → List Int → Option (List S67 × List S78 × List S155 × List Int × List Int)
  | [], T, B, C, E => some (T, B, C, E, [])
  | a :: l, T, B, C, E => (actR T B C E a.f0 a.f1 a.f2 a.f3 a.f4).bind fun r => (playG l r.1 r.2.1 r.2.2.1 r.2.2.2.1).bind fun q => some (q.1, q.2.1, q.2.2.1, q.2.2.2.1, r.2.2.2.2.2 :: q.2.2.2.2)
def playR (n : Int) (l : List S69) : Option (List S67 × List S78 × List S155 × List Int × List Int × Bool) :=
  if 1 ≤ n ∧ n ≤ 5 then (if (l.length : Int) > 100 then some ([], [], [], [], [], false) else (playG l [] (newB n) [] []).bind fun q => some (q.1, q.2.1, q.2.2.1, q.2.2.2.1, q.2.2.2.2, true)) else some ([], [], [], [], [], false)
/-- What a play leaves: the world and the codes, rows of one's own, all apart. -/
def PlayPost (w0 : World) (base : Nat) (r : List S67 × List S78 × List S155 × List Int × List Int × Bool) (F : List Row) (e : Ending) (w : World) : Prop := ∃ v vc, e = .returned (.tuple #[v, vc, .bool r.2.2.2.2.2]) ∧ AfterR w0 base v r.1 r.2.1 r.2.2.1 r.2.2.2.1 (rI vc r.2.2.2.2.1 :: F) w
theorem dropI_at {α : Type} (l : List α) (x : Int) (d : α) (h0 : 0 ≤ x) (h1 : x < l.length) : l.drop x.toNat = l.getD x.toNat d :: l.drop (x + 1).toNat := by
  have e : (x + 1).toNat = x.toNat + 1 := by omega
  have hl : x.toNat < l.length := by omega
  rw [e, List.drop_eq_getElem_cons hl, List.getD_eq_getElem?_getD, List.getElem?_eq_getElem hl, Option.getD_some]
theorem dropI_end {α : Type} (l : List α) (x : Int) (h1 : ¬ x < l.length) (h0 : 0 ≤ x) : l.drop x.toNat = [] := List.drop_eq_nil_of_le (by omega)
theorem Lay.one {w : World} {base : Nat} {r : Row} {L : List Row} (h : Lay w base (r :: L)) : r.v.oneCell' = true := by
  obtain ⟨A, c, e, _⟩ := h.slice
  rw [e]
  rfl
theorem WR.ones {w : World} {base : Nat} {v0 v1 v2 v3 : Value} {hs : List (Value × Value)} {T : List S67} {B : List S78} {C : List S155} {E : List Int} {F : List Row} (h : WR w base v0 v1 v2 v3 hs T B C E F) : ∀ q ∈ [v0, v1, v2, v3], q.oneCell' = true := by
  intro q hq
  simp only [List.mem_cons, List.not_mem_nil, or_false] at hq
  have h0 := h.2.one
  have h1 := h.2.tail.one
  have h2 := h.2.tail.tail.one
  have h3 := h.2.tail.tail.tail.one
  rcases hq with rfl | rfl | rfl | rfl <;> assumption
theorem Lay.re {w : World} {base : Nat} {r r' : Row} {L : List Row} (h : Lay w base (r :: L)) (e : r = r') : Lay w base (r' :: L) := e ▸ h
theorem rI_n (v : Value) (l : List Int) (n : Nat) (h : l.length = n) : rI v l = ⟨v, 3, 1, n, l.flatMap ic⟩ := by
  subst h
  rfl
theorem rI_putn (v : Value) (l : List Int) (n i : Nat) (x : Int) (hn : l.length = n) (h : i < n) : (⟨v, 3, 1, n, laid (l.flatMap ic) i [.int .i64 x]⟩ : Row) = rI v (l.set i x) := by
  subst hn
  exact rI_put v l i x h
end Go.Proofs.Ytdoflfifnkpacaa.WP
