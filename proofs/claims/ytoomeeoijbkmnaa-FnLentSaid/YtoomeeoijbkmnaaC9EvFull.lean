/-
  Plain laws about what the printed functions compute.
-/
import Derived.Test.YtoomeeoijbkmnaaC9EvHan
namespace Go.Proofs.Ytoomeeoijbkmnaa.PH
open Go.RowKit Go.Proofs.YtoomeeoijbkmnaaW.PrintWords Go.Proofs.YtoomeeoijbkmnaaW.PrintLast
set_option linter.unusedSimpArgs false
theorem full_NewHandle (S : List S46) (hS : S.length ≤ 140737488351232) (F : List Int) (hF : F.length ≤ 140737488351232) (h : S46) :
    ∃ x : List S46 × List Int × Int × Int, ((GS S F ∧ x = newR S F h) ∨ (¬ GS S F ∧ x = ([], [], 0, 1))) ∧ x.1.length ≤ 140737488351232 ∧ x.2.1.length ≤ 140737488351232 ∧ Ev (fun k => impl_NewHandle.f k S F h.f0 h.f1 h.f2 h.f3 h.f4 h.f5) x ∧ Ev (fun k => spec_NewHandle.f k S F h.f0 h.f1 h.f2 h.f3 h.f4 h.f5) x := by
  obtain ⟨b, hb, h1, h2⟩ := good_both S hS F hF
  cases b
  · refine ⟨([], [], 0, 1), Or.inr ⟨fun g_ => Bool.false_ne_true (hb.mpr g_), rfl⟩, by simp, by simp, ?_, ?_⟩
    · unfold impl_NewHandle.f
      exact Ev.bind (clone_bad h1) (Ev.bind h1 (Ev.neg (by simp) (Ev.const _)))
    · unfold spec_NewHandle.f
      exact Ev.bind h2 (Ev.neg (by simp) (Ev.const _))
  · have gs := hb.mp rfl
    obtain ⟨g1, g2⟩ := gs_len gs
    obtain ⟨l1, l2⟩ := newR_len S F h
    have hs : Ev (fun k => impl_Handle_sound.f k h.f0 h.f1 h.f2 h.f3 h.f4 h.f5) (hok h) := Ev.step (fun k => impl_hok h k) (Ev.const _)
    refine ⟨newR S F h, Or.inl ⟨hb.mp rfl, rfl⟩, by omega, by omega, ?_, ?_⟩
    · unfold impl_NewHandle.f
      refine Ev.bind (clone_some g1 g2 h1) (Ev.bind h1 (Ev.pos rfl (Ev.bind hs ?_)))
      dsimp only
      unfold newR
      by_cases c : hok h = true
      · refine Ev.pos c ?_
        rw [if_pos c]
        by_cases d : h.f4 = 0
        · rw [if_pos d, if_pos d]
          unfold impl_Table_add.f
          by_cases e : 0 < F.length
          · obtain ⟨i1, i2⟩ := last_in gs e
            rw [if_neg (by omega), if_pos e, if_pos e, if_pos i1, if_pos i2]
            exact Ev.const _
          · rw [if_neg e, if_neg e]
            by_cases f : S.length = 40
            · rw [if_pos ⟨by omega, f⟩, if_pos f]
              exact Ev.const _
            · rw [if_neg (fun x => f x.2), if_neg f, if_pos (by omega)]
              exact Ev.const _
        · rw [if_neg d, if_neg d]
          exact Ev.const _
      · refine Ev.neg c ?_
        rw [if_neg c]
        exact Ev.const _
    · unfold spec_NewHandle.f
      refine Ev.bind h2 (Ev.pos rfl (Ev.bind (Ev.of (own_some S F g1 g2)) (Ev.bind (Ev.of (spec_hok h)) ?_)))
      dsimp only
      by_cases c : hok h = true
      · refine Ev.pos c (Ev.step (g := fun _ => some (newR S F h)) (fun k => ?_) (Ev.const _))
        unfold newR
        simp only [spec_NewHandle.j0]
        by_cases d : h.f4 = 0
        · have hh : (⟨h.f0, h.f1, h.f2, h.f3, 0, h.f5⟩ : S46) = h := by
            rw [← d]
          by_cases e : 0 < F.length
          · obtain ⟨i1, i2⟩ := last_in gs e
            have w1 : wrap64 ((F.length : Int) - 1) = (F.length : Int) - 1 := wrap_in (by omega) (by omega)
            have t1 : ((F.length : Int) - 1).toNat = F.length - 1 := by omega
            have p1 : 0 ≤ (F.length : Int) - 1 := by omega
            have p2 : (F.length : Int) - 1 < F.length := by omega
            have p3 : (F.length : Int) - 1 ≤ F.length := by omega
            have p4 : (F.length : Int) > 0 := by omega
            simp only [c, d, if_true, w1, i1, i2, p1, p2, p3, p4, e, t1, bne_self_eq_false, Bool.false_eq_true, if_false, hh]
          · have p4 : ¬ (F.length : Int) > 0 := by omega
            by_cases f : S.length = 40
            · have f' : (S.length : Int) = 40 := by omega
              simp [c, d, e, f]
            · have f' : ¬ (S.length : Int) = 40 := by omega
              have q : S.length < 2932031007402 := by omega
              have q2 : wrap64 ((S.length : Int) + 1 - 1) = (S.length : Int) := by rw [wrap_in (by omega) (by omega)]; omega
              have q3 : wrap64 (S.length : Int) = (S.length : Int) := wrap_in (by omega) (by omega)
              simp [c, d, e, f', f, q, q2, q3, hh]
        · simp [c, d]
      · refine Ev.neg c (Ev.step (g := fun _ => some (newR S F h)) (fun k => ?_) (Ev.const _))
        unfold newR
        simp [spec_NewHandle.j0, c]
theorem full_LendHandle (S : List S46) (hS : S.length ≤ 140737488351232) (F : List Int) (hF : F.length ≤ 140737488351232) (a r : Int) :
    ∃ x : List S46 × List Int × Bool × Int × Int × Bool × Int × Int × Int, ((GS S F ∧ x = lendR S F a r) ∨ (¬ GS S F ∧ x = ([], [], false, 0, 0, false, 0, 0, 1))) ∧ x.1.length ≤ 140737488351232 ∧ x.2.1.length ≤ 140737488351232 ∧ Ev (fun k => impl_LendHandle.f k S F a r) x ∧ Ev (fun k => spec_LendHandle.f k S F a r) x := by
  obtain ⟨b, hb, h1, h2⟩ := good_both S hS F hF
  cases b
  · refine ⟨([], [], false, 0, 0, false, 0, 0, 1), Or.inr ⟨fun g_ => Bool.false_ne_true (hb.mpr g_), rfl⟩, by simp, by simp, ?_, ?_⟩
    · unfold impl_LendHandle.f
      exact Ev.bind (clone_bad h1) (Ev.bind (find_bad a r h1) (Ev.neg (by simp) (Ev.const _)))
    · unfold spec_LendHandle.f
      exact Ev.bind h2 (Ev.neg (by simp) (Ev.const _))
  · obtain ⟨g1, g2⟩ := gs_len (hb.mp rfl)
    obtain ⟨l1, l2⟩ := lendR_len S F a r
    refine ⟨lendR S F a r, Or.inl ⟨hb.mp rfl, rfl⟩, by omega, by omega, ?_, ?_⟩
    · unfold impl_LendHandle.f lendR
      refine Ev.bind (clone_some g1 g2 h1) (Ev.bind (find_good a r h1) ?_)
      dsimp only
      by_cases c : (findR S a r).2.2.2.2.2.2 = 0
      · have hi := findR_ok c
        rw [if_pos c, if_pos c]
        by_cases d : (findR S a r).2.2.2.2.1 = 1000
        · rw [if_pos d, if_pos d]
          exact Ev.const _
        · rw [if_neg d, if_neg d, if_pos hi.1, if_pos hi.2]
          exact Ev.const _
      · rw [if_neg c, if_neg c]
        exact Ev.const _
    · unfold spec_LendHandle.f
      refine Ev.bind h2 (Ev.pos rfl (Ev.bind (Ev.of (own_some S F g1 g2)) (Ev.bind (spec_find_ev S hS F a r) ?_)))
      dsimp only
      by_cases c : (findR S a r).2.2.2.2.2.2 = 0
      · have hi := findR_ok c
        refine Ev.pos c (Ev.step (g := fun _ => some (lendR S F a r)) (fun k => ?_) (Ev.const _))
        unfold lendR
        simp only [spec_LendHandle.j0]
        by_cases d : (findR S a r).2.2.2.2.1 = 1000
        · simp [c, d]
        · simp [c, d, hi.1, hi.2]
      · refine Ev.neg c (Ev.step (g := fun _ => some (lendR S F a r)) (fun k => ?_) (Ev.const _))
        unfold lendR
        simp only [spec_LendHandle.j0]
        simp [c]
theorem full_leave (m : Bool) (S : List S46) (hS : S.length ≤ 140737488351232) (F : List Int) (hF : F.length ≤ 140737488351232) (a r : Int) :
    ∃ x : List S46 × List Int × Bool × Int × Int × Bool × Int × Int × Int, ((GS S F ∧ x = dropR m S F a r) ∨ (¬ GS S F ∧ x = ([], [], false, 0, 0, false, 0, 0, 1))) ∧ x.1.length ≤ 140737488351232 ∧ x.2.1.length ≤ 140737488351232 ∧ Ev (fun k => impl_leave.f k S F a r m) x ∧ Ev (fun k => spec_l15Out.f k S F a r m) x := by
  obtain ⟨b, hb, h1, h2⟩ := good_both S hS F hF
  cases b
  · refine ⟨([], [], false, 0, 0, false, 0, 0, 1), Or.inr ⟨fun g_ => Bool.false_ne_true (hb.mpr g_), rfl⟩, by simp, by simp, ?_, ?_⟩
    · unfold impl_leave.f
      exact Ev.bind (clone_bad h1) (Ev.bind (find_bad a r h1) (Ev.neg (by simp) (Ev.const _)))
    · unfold spec_l15Out.f
      exact Ev.bind h2 (Ev.neg (by simp) (Ev.const _))
  · obtain ⟨g1, g2⟩ := gs_len (hb.mp rfl)
    obtain ⟨l1, l2⟩ := dropR_len m S F a r
    refine ⟨dropR m S F a r, Or.inl ⟨hb.mp rfl, rfl⟩, by omega, by omega, ?_, ?_⟩
    · unfold impl_leave.f dropR
      refine Ev.bind (clone_some g1 g2 h1) (Ev.bind (find_good a r h1) ?_)
      dsimp only
      by_cases c : (findR S a r).2.2.2.2.2.2 = 0
      · have hi := findR_ok c
        rw [if_pos c, if_pos c]
        by_cases d : (m && !(findR S a r).2.2.2.1) = true
        · rw [if_pos d, if_pos d]
          exact Ev.const _
        · rw [if_neg d, if_neg d]
          by_cases e : (findR S a r).2.2.2.2.1 = 0
          · rw [if_pos e, if_pos e]
            unfold impl_Table_drop.f
            rw [if_pos hi.1, if_pos hi.2, if_pos (by omega)]
            exact Ev.const _
          · rw [if_neg e, if_neg e]
            exact Ev.const _
      · rw [if_neg c, if_neg c]
        exact Ev.const _
    · unfold spec_l15Out.f
      refine Ev.bind h2 (Ev.pos rfl (Ev.bind (Ev.of (own_some S F g1 g2)) (Ev.bind (spec_find_ev S hS F a r) ?_)))
      dsimp only
      by_cases c : (findR S a r).2.2.2.2.2.2 = 0
      · have hi := findR_ok c
        have hF' : F.length < 17592186044416 := by omega
        refine Ev.pos c (Ev.step (g := fun _ => some (dropR m S F a r)) (fun k => ?_) (Ev.const _))
        unfold dropR
        simp only [spec_l15Out.j0]
        cases m
        · by_cases e : (findR S a r).2.2.2.2.1 = 0
          · simp [c, e, hi.1, hi.2, hF', z46]
          · simp [c, e]
        · by_cases d : (findR S a r).2.2.2.1 = true
          · by_cases e : (findR S a r).2.2.2.2.1 = 0
            · simp [c, d, e, hi.1, hi.2, hF', z46]
            · simp [c, d, e]
          · simp [c, d]
      · refine Ev.neg c (Ev.step (g := fun _ => some (dropR m S F a r)) (fun k => ?_) (Ev.const _))
        unfold dropR
        simp [c]
theorem full_DropHandle (S : List S46) (hS : S.length ≤ 140737488351232) (F : List Int) (hF : F.length ≤ 140737488351232) (a r : Int) :
    ∃ x : List S46 × List Int × Bool × Int × Int × Bool × Int × Int × Int, ((GS S F ∧ x = dropR false S F a r) ∨ (¬ GS S F ∧ x = ([], [], false, 0, 0, false, 0, 0, 1))) ∧ x.1.length ≤ 140737488351232 ∧ x.2.1.length ≤ 140737488351232 ∧ Ev (fun k => impl_DropHandle.f k S F a r) x ∧ Ev (fun k => spec_DropHandle.f k S F a r) x := by
  obtain ⟨x, x0, x1, x2, h1, h2⟩ := full_leave false S hS F hF a r
  refine ⟨x, x0, x1, x2, ?_, ?_⟩
  · unfold impl_DropHandle.f
    exact Ev.bind h1 (Ev.const _)
  · unfold spec_DropHandle.f
    exact Ev.bind h2 (Ev.const _)
theorem full_MoveHandle (S : List S46) (hS : S.length ≤ 140737488351232) (F : List Int) (hF : F.length ≤ 140737488351232) (a r : Int) :
    ∃ x : List S46 × List Int × Bool × Int × Int × Bool × Int × Int × Int, ((GS S F ∧ x = dropR true S F a r) ∨ (¬ GS S F ∧ x = ([], [], false, 0, 0, false, 0, 0, 1))) ∧ x.1.length ≤ 140737488351232 ∧ x.2.1.length ≤ 140737488351232 ∧ Ev (fun k => impl_MoveHandle.f k S F a r) x ∧ Ev (fun k => spec_MoveHandle.f k S F a r) x := by
  obtain ⟨x, x0, x1, x2, h1, h2⟩ := full_leave true S hS F hF a r
  refine ⟨x, x0, x1, x2, ?_, ?_⟩
  · unfold impl_MoveHandle.f
    exact Ev.bind h1 (Ev.const _)
  · unfold spec_MoveHandle.f
    exact Ev.bind h2 (Ev.const _)
end Go.Proofs.Ytoomeeoijbkmnaa.PH
