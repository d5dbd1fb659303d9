/-
  Plain laws about what the printed functions compute.
-/
import Derived.Test.YtoomeeoijbkmnaaC12EvLend
import Derived.Test.YtoomeeoijbkmnaaC12PHx15
import Derived.Test.YtoomeeoijbkmnaaC12PHx16
namespace Go.Proofs.Ytoomeeoijbkmnaa.PH
open Go.RowKit Go.Proofs.YtoomeeoijbkmnaaW.PrintWords Go.Proofs.YtoomeeoijbkmnaaW.PrintLast
set_option linter.unusedSimpArgs false
def dropR (m : Bool) (S : List S46) (F : List Int) (a r : Int) : List S46 × List Int × Bool × Int × Int × Bool × Int × Int × Int :=
  let q := findR S a r
  if q.2.2.2.2.2.2 = 0 then (if (m && !q.2.2.2.1) = true then (S, F, false, 0, 0, false, 0, 0, 6) else (if q.2.2.2.2.1 = 0 then (S.set a.toNat z46, F ++ [a], q.1, q.2.1, q.2.2.1, q.2.2.2.1, q.2.2.2.2.1, q.2.2.2.2.2.1, 0) else (S, F, false, 0, 0, false, 0, 0, 4))) else (S, F, false, 0, 0, false, 0, 0, q.2.2.2.2.2.2)
theorem dropR_len (m : Bool) (S : List S46) (F : List Int) (a r : Int) : (dropR m S F a r).1.length = S.length ∧ (dropR m S F a r).2.1.length ≤ F.length + 1 := by
  unfold dropR
  dsimp only
  repeat' split
  all_goals simp
theorem leave_both (m : Bool) (S : List S46) (hS : S.length ≤ 140737488351232) (F : List Int) (hF : F.length ≤ 140737488351232) (a r : Int) :
    ∃ x : List S46 × List Int × Bool × Int × Int × Bool × Int × Int × Int, x.1.length ≤ 140737488351232 ∧ x.2.1.length ≤ 140737488351232 ∧ Ev (fun k => impl_leave.f k S F a r m) x ∧ Ev (fun k => spec_l15Out.f k S F a r m) x := by
  obtain ⟨b, hb, h1, h2⟩ := good_both S hS F hF
  cases b
  · refine ⟨([], [], false, 0, 0, false, 0, 0, 1), by simp, by simp, ?_, ?_⟩
    · unfold impl_leave.f
      exact Ev.bind (clone_bad h1) (Ev.bind (find_bad a r h1) (Ev.neg (by simp) (Ev.const _)))
    · unfold spec_l15Out.f
      exact Ev.bind h2 (Ev.neg (by simp) (Ev.const _))
  · obtain ⟨g1, g2⟩ := gs_len (hb.mp rfl)
    obtain ⟨l1, l2⟩ := dropR_len m S F a r
    refine ⟨dropR m S F a r, by omega, by omega, ?_, ?_⟩
    · unfold impl_leave.f dropR
      refine Ev.bind (clone_some g1 g2 h1) (Ev.bind (find_good a r h1) ?_)
      dsimp only
      by_cases c : (findR S a r).2.2.2.2.2.2 = 0
      · have hi := findR_ok c
        rw [if_pos c, if_pos c]
        by_cases d : (m && !(findR S a r).2.2.2.1) = true
        · rw [if_pos d, if_pos d]
          exact Ev.const _
        · rw [if_neg d, if_neg d]
          by_cases e : (findR S a r).2.2.2.2.1 = 0
          · rw [if_pos e, if_pos e]
            unfold impl_Table_drop.f
            rw [if_pos hi.1, if_pos hi.2, if_pos (by omega)]
            exact Ev.const _
          · rw [if_neg e, if_neg e]
            exact Ev.const _
      · rw [if_neg c, if_neg c]
        exact Ev.const _
    · unfold spec_l15Out.f
      refine Ev.bind h2 (Ev.pos rfl (Ev.bind (Ev.of (own_some S F g1 g2)) (Ev.bind (spec_find_ev S hS F a r) ?_)))
      dsimp only
      by_cases c : (findR S a r).2.2.2.2.2.2 = 0
      · have hi := findR_ok c
        have hF' : F.length < 17592186044416 := by omega
        refine Ev.pos c (Ev.step (g := fun _ => some (dropR m S F a r)) (fun k => ?_) (Ev.const _))
        unfold dropR
        simp only [spec_l15Out.j0]
        cases m
        · by_cases e : (findR S a r).2.2.2.2.1 = 0
          · simp [c, e, hi.1, hi.2, hF', z46]
          · simp [c, e]
        · by_cases d : (findR S a r).2.2.2.1 = true
          · by_cases e : (findR S a r).2.2.2.2.1 = 0
            · simp [c, d, e, hi.1, hi.2, hF', z46]
            · simp [c, d, e]
          · simp [c, d]
      · refine Ev.neg c (Ev.step (g := fun _ => some (dropR m S F a r)) (fun k => ?_) (Ev.const _))
        unfold dropR
        simp [c]
theorem both_DropHandle (S : List S46) (hS : S.length ≤ 140737488351232) (F : List Int) (hF : F.length ≤ 140737488351232) (a r : Int) :
    ∃ x : List S46 × List Int × Bool × Int × Int × Bool × Int × Int × Int, x.1.length ≤ 140737488351232 ∧ x.2.1.length ≤ 140737488351232 ∧ Ev (fun k => impl_DropHandle.f k S F a r) x ∧ Ev (fun k => spec_DropHandle.f k S F a r) x := by
  obtain ⟨x, x1, x2, h1, h2⟩ := leave_both false S hS F hF a r
  refine ⟨x, x1, x2, ?_, ?_⟩
  · unfold impl_DropHandle.f
    exact Ev.bind h1 (Ev.const _)
  · unfold spec_DropHandle.f
    exact Ev.bind h2 (Ev.const _)
theorem both_MoveHandle (S : List S46) (hS : S.length ≤ 140737488351232) (F : List Int) (hF : F.length ≤ 140737488351232) (a r : Int) :
    ∃ x : List S46 × List Int × Bool × Int × Int × Bool × Int × Int × Int, x.1.length ≤ 140737488351232 ∧ x.2.1.length ≤ 140737488351232 ∧ Ev (fun k => impl_MoveHandle.f k S F a r) x ∧ Ev (fun k => spec_MoveHandle.f k S F a r) x := by
  obtain ⟨x, x1, x2, h1, h2⟩ := leave_both true S hS F hF a r
  refine ⟨x, x1, x2, ?_, ?_⟩
  · unfold impl_MoveHandle.f
    exact Ev.bind h1 (Ev.const _)
  · unfold spec_MoveHandle.f
    exact Ev.bind h2 (Ev.const _)
end Go.Proofs.Ytoomeeoijbkmnaa.PH
