/-
  Plain laws about what the printed functions compute.
-/
import Derived.Test.YtoomeeoijbkmnaaC8EvDraw3
import Derived.Test.YtoomeeoijbkmnaaC8PHx19
namespace Go.Proofs.Ytoomeeoijbkmnaa.PH
open Go.RowKit Go.Proofs.YtoomeeoijbkmnaaW.PrintWords Go.Proofs.YtoomeeoijbkmnaaW.PrintLast
set_option linter.unusedSimpArgs false
theorem sameInts_l0 (S : List Int) (hl : S.length ≤ 140737488351232) (d : Nat) : ∀ (i : Nat), i ≤ S.length → S.length - i = d → Ev (fun k => laws_sameInts.l0 k S S (S.length : Int) (i : Int)) true := by
  induction d with
  | zero =>
    intro i h1 h2
    refine Ev.step (g := fun _ => some true) (fun k => ?_) (Ev.const _)
    simp only [laws_sameInts.l0]
    rw [if_neg (by omega)]
  | succ d ih =>
    intro i h1 h2
    refine Ev.step (fun k => ?_) (ih (i + 1) (by omega) (by omega))
    simp only [laws_sameInts.l0]
    rw [if_pos (by omega), if_pos (by omega), if_pos (by omega), if_pos (by omega), if_pos trivial, wrap_in (by omega) (by omega)]
    rfl
theorem sameTables_l0 (S : List S46) (F : List Int) (hl : S.length ≤ 140737488351232) (d : Nat) : ∀ (i : Nat), i ≤ S.length → S.length - i = d → Ev (fun k => laws_sameTables.l0 k (S.length : Int) (i : Int) S F S F) true := by
  induction d with
  | zero =>
    intro i h1 h2
    refine Ev.step (g := fun _ => some true) (fun k => ?_) (Ev.const _)
    simp only [laws_sameTables.l0]
    rw [if_neg (by omega)]
  | succ d ih =>
    intro i h1 h2
    refine Ev.step (fun k => ?_) (ih (i + 1) (by omega) (by omega))
    simp only [laws_sameTables.l0]
    rw [if_pos (by omega), if_pos (by omega), if_pos (by omega), if_pos (by omega), if_neg (by simp), wrap_in (by omega) (by omega)]
    rfl
theorem sameTables_ev (S : List S46) (F : List Int) (h : S.length ≤ 140737488351232) (h' : F.length ≤ 140737488351232) : Ev (fun k => laws_sameTables.f k S F S F) true := by
  unfold laws_sameTables.f
  refine Ev.pos rfl (Ev.bind (a := true) ?_ ?_)
  · unfold laws_sameInts.f
    exact Ev.pos rfl (sameInts_l0 F h' F.length 0 (by omega) (by omega))
  · refine Ev.step (g := fun k => laws_sameTables.l0 k (S.length : Int) ((0 : Nat) : Int) S F S F) (fun k => ?_) (sameTables_l0 S F h S.length 0 (by omega) (by omega))
    simp only [laws_sameTables.j0]
    rw [if_neg (by decide)]
    rfl
def used (S : List S46) : Nat := S.countP (fun h => h.f0)
theorem count_l0 : ∀ (suf pre : List S46) (c : Nat), (pre ++ suf).length ≤ 1000 → c ≤ pre.length → Ev (fun k => impl_CountUsed.l0 k (-1) (c : Int) (pre ++ suf) ((pre ++ suf).length : Int) (pre.length : Int)) (((c + used suf : Nat) : Int), true)
  | [], pre, c, hl, hc => by
    refine Ev.step (g := fun _ => some ((c : Int), true)) (fun k => ?_) (by simpa [used] using Ev.const _)
    simp only [impl_CountUsed.l0]
    rw [if_neg (by simp)]
  | h :: suf, pre, c, hl, hc => by
    simp only [List.length_append, List.length_cons] at hl
    have e : pre ++ h :: suf = (pre ++ [h]) ++ suf := by simp
    have e1 : wrap64 ((pre.length : Int) + 1) = ((pre ++ [h]).length : Int) := by
      rw [wrap_in (by omega) (by omega)]
      simp
    by_cases hu : h.f0 = true
    · have ih := count_l0 suf (pre ++ [h]) (c + 1) (by simp; omega) (by simp; omega)
      have e2 : wrap64 ((c : Int) + 1) = ((c + 1 : Nat) : Int) := by
        rw [wrap_in (by omega) (by omega)]
        omega
      have e3 : c + used (h :: suf) = c + 1 + used suf := by
        unfold used
        rw [List.countP_cons_of_pos (p := fun h : S46 => h.f0) hu]
        omega
      rw [e3]
      refine Ev.step (fun k => ?_) ih
      simp only [impl_CountUsed.l0]
      rw [if_pos (by simp; omega), if_pos (by omega), if_pos (by simp; omega), rdT', if_pos hu, if_pos trivial, e1, e2, e]
    · have ih := count_l0 suf (pre ++ [h]) c (by simp; omega) (by simp; omega)
      have e3 : c + used (h :: suf) = c + used suf := by
        unfold used
        rw [List.countP_cons_of_neg (p := fun h : S46 => h.f0) hu]
      rw [e3]
      refine Ev.step (fun k => ?_) ih
      simp only [impl_CountUsed.l0]
      rw [if_pos (by simp; omega), if_pos (by omega), if_pos (by simp; omega), rdT', if_neg hu, e1, e]
theorem count_ev {S : List S46} {F : List Int} (g : GS S F) (h : Ev (fun k => impl_GoodTable.f k S F) true) : Ev (fun k => impl_CountUsed.f k S F (-1)) ((used S : Int), true) := by
  obtain ⟨g1, g2⟩ := gs_len g
  unfold impl_CountUsed.f
  refine Ev.bind h (Ev.pos rfl ?_)
  have := count_l0 S [] 0 (by simp; omega) (by simp)
  simpa using this
theorem good_true {S : List S46} {F : List Int} (g : GS S F) : Ev (fun k => impl_GoodTable.f k S F) true := by
  obtain ⟨g1, g2⟩ := gs_len g
  obtain ⟨b, hb, h1, -⟩ := good_both S (by omega) F (by omega)
  obtain rfl := hb.mpr g
  exact h1
theorem newR_ok {S : List S46} {F : List Int} (g : GS S F) {h : S46} (hc : (newR S F h).2.2.2 = 0) :
    hok h = true ∧ h.f4 = 0 ∧ 0 ≤ (newR S F h).2.2.1 ∧ (newR S F h).2.2.1 < (newR S F h).1.length ∧ rd_T46 (newR S F h).1 (newR S F h).2.2.1 = h ∧ used (newR S F h).1 = used S + 1 := by
  unfold newR at hc ⊢
  by_cases c : hok h = true
  · rw [if_pos c] at hc ⊢
    by_cases d : h.f4 = 0
    · rw [if_pos d] at hc ⊢
      by_cases e : 0 < F.length
      · rw [if_pos e] at hc ⊢
        obtain ⟨i1, i2⟩ := last_in g e
        have hm : rd F ((F.length : Int) - 1) ∈ F := by
          unfold rd
          have e : ((F.length : Int) - 1).toNat = F.length - 1 := by omega
          rw [e, List.getD_eq_getElem?_getD, List.getElem?_eq_getElem (by omega), Option.getD_some]
          exact List.getElem_mem _
        have hu := (g.2.1 _ hm).2.2
        dsimp only
        generalize rd F ((F.length : Int) - 1) = l at *
        have e2 : ((l.toNat : Nat) : Int) = l := by omega
        have e3 := rdT_set_eq S l.toNat h (by omega)
        rw [e2] at e3
        refine ⟨c, d, i1, by simpa using i2, e3, ?_⟩
        unfold used
        rw [rdT_in S l i1 i2] at hu
        rw [List.countP_set (by omega)]
        simp [hu, hok_used c]
      · rw [if_neg e] at hc ⊢
        by_cases f : S.length = 40
        · rw [if_pos f] at hc
          simp at hc
        · rw [if_neg f]
          refine ⟨c, d, by simp, by simp; omega, ?_, ?_⟩
          · exact rdT' (suf := [])
          · unfold used
            rw [List.countP_append]
            simp [hok_used c]
    · rw [if_neg d] at hc
      simp at hc
  · rw [if_neg c] at hc
    simp at hc
theorem newR_ne {S : List S46} {F : List Int} {h : S46} (hc : (newR S F h).2.2.2 ≠ 0) : newR S F h = (S, F, 0, 1) ∨ newR S F h = (S, F, 0, 5) := by
  unfold newR at hc ⊢
  by_cases c : hok h = true
  · rw [if_pos c] at hc ⊢
    by_cases d : h.f4 = 0
    · rw [if_pos d] at hc ⊢
      by_cases e : 0 < F.length
      · rw [if_pos e] at hc
        simp at hc
      · rw [if_neg e] at hc ⊢
        by_cases f : S.length = 40
        · rw [if_pos f]
          exact Or.inr rfl
        · rw [if_neg f] at hc
          simp at hc
    · rw [if_neg d]
      exact Or.inl rfl
  · rw [if_neg c]
    exact Or.inl rfl
theorem findR_at {S : List S46} {a : Int} {h : S46} (h0 : 0 ≤ a) (h1 : a < S.length) (e : rd_T46 S a = h) (hu : h.f0 = true) (r : Int) : findR S a r = if h.f1 = r then (h.f0, h.f1, h.f2, h.f3, h.f4, h.f5, 0) else (false, 0, 0, false, 0, 0, 3) := by
  unfold findR
  rw [e, if_pos ⟨h0, h1, hu⟩]
theorem findR_free {S : List S46} {a : Int} (hu : (rd_T46 S a).f0 = false) (r : Int) : findR S a r = (false, 0, 0, false, 0, 0, 2) := by
  unfold findR
  rw [if_neg (fun x => by rw [hu] at x; exact Bool.false_ne_true x.2.2)]
theorem findImpl {S : List S46} {F : List Int} (g : GS S F) (a r : Int) : Ev (fun k => impl_FindHandle.f k S F a r) (findR S a r) := find_good a r (good_true g)
end Go.Proofs.Ytoomeeoijbkmnaa.PH
