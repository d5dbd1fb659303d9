/-
  The functions of worlds: what they compute, and the laws of it.
-/
import Derived.StillTailTactics
import Derived.Lib.Hide
import Derived.Test.YtdoflfifnkpacaaC19WqT1
namespace Go.Proofs.Ytdoflfifnkpacaa.WO.LA
open Go Go.RowKit Go.Proofs.YtdoflfifnkpacaaW.PrintWords Go.Proofs.YtdoflfifnkpacaaW.PrintLast Go.Proofs.YtdoflfifnkpacaaW.PrintMore
attribute [local go_sem] max2_int min2_int max_two min_two max_three min_three max_four min_four
set_option linter.unusedVariables false
set_option linter.unusedSimpArgs false
def WW (w : World) (base g : Nat) (bx : List Value) (v0 v1 v2 v3 : Value) (hs : List (Value × Value)) (T : List S67) (B : List S78) (C : List S155) (E : List Int) (F : List Row) : Prop :=
  hs.length = B.length ∧ Lay w base (box g 45 bx :: rTh v0 T :: rTa v1 hs :: rLo v2 C :: rI v3 E :: (tabRows hs B ++ F))
theorem below_up {base : Nat} {w0 w w1 : World} (h : Below base w0 w) (hz : base ≤ w.heap.size) (k : Below w.heap.size w w1) : Below base w0 w1 := h.trans (k.mono hz)
/-- What an act leaves: a world in its rows, all else as it was. -/
def After (w0 : World) (base g : Nat) (T : List S67) (B : List S78) (C : List S155) (E : List Int) (F : List Row) (w : World) : Prop := ∃ v0 v1 v2 v3 hs, WW w base g [v0, v1, v2, v3] v0 v1 v2 v3 hs T B C E F ∧ Below base w0 w ∧ base ≤ w.heap.size
theorem After.mk {w0 w : World} {base g : Nat} {v0 v1 v2 v3 : Value} {hs : List (Value × Value)} {T : List S67} {B : List S78} {C : List S155} {E : List Int} {F : List Row} (h : WW w base g [v0, v1, v2, v3] v0 v1 v2 v3 hs T B C E F) (hb : Below base w0 w) (hz : base ≤ w.heap.size) : After w0 base g T B C E F w := ⟨v0, v1, v2, v3, hs, h, hb, hz⟩
theorem perm_front2 {α : Type} (a b : α) (X Y : List α) : List.Perm (X ++ a :: b :: Y) (a :: b :: (X ++ Y)) := by
  refine (List.perm_middle (l₁ := X) (l₂ := b :: Y) (a := a)).trans (List.Perm.cons a ?_)
  exact List.perm_middle
section
variable {w w1 w0 : World} {base g gB gs n c : Nat} {A : Option Addr} {bx : List Value} {v0 v1 v2 v3 : Value} {hs : List (Value × Value)} {T : List S67} {B : List S78} {C : List S155} {E : List Int} {F : List Row}
theorem WW.at (h : WW w base g bx v0 v1 v2 v3 hs T B C E F) (j : Nat) {u : Value} (hj : bx[j]? = some u) : w.cell? ⟨g, j, none⟩ = some u := h.2.cell j hj
theorem WW.fT (h : WW w base g bx v0 v1 v2 v3 hs T B C E F) : Lay w base (rTh v0 T :: box g 45 bx :: rTa v1 hs :: rLo v2 C :: rI v3 E :: (tabRows hs B ++ F)) := h.2.swap
theorem WW.bT {v0' : Value} {T' : List S67} (hl : hs.length = B.length) (h : Lay w base (rTh v0' T' :: box g 45 bx :: rTa v1 hs :: rLo v2 C :: rI v3 E :: (tabRows hs B ++ F))) : WW w base g bx v0' v1 v2 v3 hs T' B C E F := ⟨hl, h.swap⟩
theorem WW.fC (h : WW w base g bx v0 v1 v2 v3 hs T B C E F) : Lay w base (rLo v2 C :: box g 45 bx :: rTh v0 T :: rTa v1 hs :: rI v3 E :: (tabRows hs B ++ F)) := h.2.at3
theorem WW.bC {v2' : Value} {C' : List S155} (hl : hs.length = B.length) (h : Lay w base (rLo v2' C' :: box g 45 bx :: rTh v0 T :: rTa v1 hs :: rI v3 E :: (tabRows hs B ++ F))) : WW w base g bx v0 v1 v2' v3 hs T B C' E F := ⟨hl, h.un3⟩
theorem WW.fE (h : WW w base g bx v0 v1 v2 v3 hs T B C E F) : Lay w base (rI v3 E :: box g 45 bx :: rTh v0 T :: rTa v1 hs :: rLo v2 C :: (tabRows hs B ++ F)) := h.2.perm (List.perm_middle (l₁ := [box g 45 bx, rTh v0 T, rTa v1 hs, rLo v2 C]) (l₂ := tabRows hs B ++ F) (a := rI v3 E))
theorem WW.bE {v3' : Value} {E' : List Int} (hl : hs.length = B.length) (h : Lay w base (rI v3' E' :: box g 45 bx :: rTh v0 T :: rTa v1 hs :: rLo v2 C :: (tabRows hs B ++ F))) : WW w base g bx v0 v1 v2 v3' hs T B C E' F := ⟨hl, h.perm (List.perm_middle (l₁ := [box g 45 bx, rTh v0 T, rTa v1 hs, rLo v2 C]) (l₂ := tabRows hs B ++ F) (a := rI v3' E')).symm⟩
theorem rd67_get (S : List S67) (i : Nat) (h : i < S.length) : rd_T67 S i = S[i] := by
  unfold rd_T67
  rw [Int.toNat_natCast, List.getD_eq_getElem?_getD, List.getElem?_eq_getElem h]
  rfl
theorem WW.thing (h : WW w base g bx (.slice A n c) v1 v2 v3 hs T B C E F) (i : Int) (h2 : 0 ≤ i) (h3 : i < T.length) : ∃ gs, A = some ⟨gs, 0, none⟩ ∧ ∀ (j : Nat) (u : Value), (tc (rd_T67 T i))[j]? = some u → w.cell? ⟨gs, i.toNat * 2 + j, none⟩ = some u := by
  obtain ⟨gs, rfl⟩ := h.fT.formTh (by omega)
  refine ⟨gs, rfl, fun j u hu => ?_⟩
  have hn := (C67 h.fT).1
  subst hn
  have hi : i.toNat < T.length := by omega
  have hj : j < 2 := (List.getElem?_eq_some_iff.mp hu).1
  refine h.fT.cell _ ?_
  rw [flat_get tc_len _ i.toNat j hi hj, ← rd67_get _ _ hi, show ((i.toNat : Nat) : Int) = i by omega]
  exact hu
section
variable {P : Program} {ops : Array Oper} {rest : List Oper} {o : Oper} {a : Act} {Q : Exit → Act → World → Prop}
end
end
section
variable {P : Program} {ops : Array Oper} {rest : List Oper} {o : Oper} {a : Act} {Q : Exit → Act → World → Prop}
end
/-- A world's rows, with no box. -/
def WR (w : World) (base : Nat) (v0 v1 v2 v3 : Value) (hs : List (Value × Value)) (T : List S67) (B : List S78) (C : List S155) (E : List Int) (F : List Row) : Prop :=
  hs.length = B.length ∧ Lay w base (rTh v0 T :: rTa v1 hs :: rLo v2 C :: rI v3 E :: (tabRows hs B ++ F))
theorem WW.less0 {w : World} {base g : Nat} {bx : List Value} {v0 v1 v2 v3 : Value} {hs : List (Value × Value)} {T : List S67} {B : List S78} {C : List S155} {E : List Int} {F : List Row} (h : WW w base g bx v0 v1 v2 v3 hs T B C E F) : WR w base v0 v1 v2 v3 hs T B C E F := ⟨h.1, h.2.tail⟩
theorem WR.box {w : World} {base g : Nat} {bx : List Value} {v0 v1 v2 v3 : Value} {hs : List (Value × Value)} {T : List S67} {B : List S78} {C : List S155} {E : List Int} {F : List Row} (hl : hs.length = B.length) (h : Lay w base (box g 45 bx :: rTh v0 T :: rTa v1 hs :: rLo v2 C :: rI v3 E :: (tabRows hs B ++ F))) : WW w base g bx v0 v1 v2 v3 hs T B C E F := ⟨hl, h⟩
/-- What a world by value is behind a call. -/
def AfterR (w0 : World) (base : Nat) (v : Value) (T : List S67) (B : List S78) (C : List S155) (E : List Int) (F : List Row) (w : World) : Prop := ∃ v0 v1 v2 v3 hs, v = .agg #[v0, v1, v2, v3] ∧ WR w base v0 v1 v2 v3 hs T B C E F ∧ Below base w0 w ∧ base ≤ w.heap.size
theorem AfterR.mk {w0 w : World} {base : Nat} {v0 v1 v2 v3 : Value} {hs : List (Value × Value)} {T : List S67} {B : List S78} {C : List S155} {E : List Int} {F : List Row} (h : WR w base v0 v1 v2 v3 hs T B C E F) (hb : Below base w0 w) (hz : base ≤ w.heap.size) : AfterR w0 base (.agg #[v0, v1, v2, v3]) T B C E F w := ⟨v0, v1, v2, v3, hs, rfl, h, hb, hz⟩
def nilV : Value := .slice none 0 0
theorem nil_ok (w : World) (base e sz : Nat) (xs : List Value) (hx : xs = []) : (⟨nilV, e, sz, 0, xs⟩ : Row).ok w base := by
  subst hx
  exact ⟨by simp, .inl ⟨rfl, rfl⟩⟩
/-- A row of nothing may stand anywhere. -/
theorem Lay.nilRow {w : World} {base : Nat} {L : List Row} (e sz : Nat) (h : Lay w base L) : Lay w base (⟨nilV, e, sz, 0, []⟩ :: L) := by
  refine ⟨fun r hr => ?_, ?_⟩
  · rcases List.mem_cons.mp hr with rfl | hr
    · exact nil_ok w base e sz [] rfl
    · exact h.1 r hr
  · show (List.filterMap _ (_ :: L)).Nodup
    rw [List.filterMap_cons]
    exact h.2
theorem dropI_at {α : Type} (l : List α) (x : Int) (d : α) (h0 : 0 ≤ x) (h1 : x < l.length) : l.drop x.toNat = l.getD x.toNat d :: l.drop (x + 1).toNat := by
  have e : (x + 1).toNat = x.toNat + 1 := by omega
  have hl : x.toNat < l.length := by omega
  rw [e, List.drop_eq_getElem_cons hl, List.getD_eq_getElem?_getD, List.getElem?_eq_getElem hl, Option.getD_some]
theorem dropI_end {α : Type} (l : List α) (x : Int) (h1 : ¬ x < l.length) (h0 : 0 ≤ x) : l.drop x.toNat = [] := List.drop_eq_nil_of_le (by omega)
theorem Lay.one {w : World} {base : Nat} {r : Row} {L : List Row} (h : Lay w base (r :: L)) : r.v.oneCell' = true := by
  obtain ⟨A, c, e, _⟩ := h.slice
  rw [e]
  rfl
theorem WR.ones {w : World} {base : Nat} {v0 v1 v2 v3 : Value} {hs : List (Value × Value)} {T : List S67} {B : List S78} {C : List S155} {E : List Int} {F : List Row} (h : WR w base v0 v1 v2 v3 hs T B C E F) : ∀ q ∈ [v0, v1, v2, v3], q.oneCell' = true := by
  intro q hq
  simp only [List.mem_cons, List.not_mem_nil, or_false] at hq
  have h0 := h.2.one
  have h1 := h.2.tail.one
  have h2 := h.2.tail.tail.one
  have h3 := h.2.tail.tail.tail.one
  rcases hq with rfl | rfl | rfl | rfl <;> assumption

end Go.Proofs.Ytdoflfifnkpacaa.WO.LA
