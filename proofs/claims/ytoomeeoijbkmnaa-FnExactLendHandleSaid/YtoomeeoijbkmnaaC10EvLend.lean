/-
  Plain laws about what the printed functions compute.
-/
import Derived.Test.YtoomeeoijbkmnaaC10EvRet
import Derived.Test.YtoomeeoijbkmnaaC10PHx13
import Derived.Test.YtoomeeoijbkmnaaC10PHx14
namespace Go.Proofs.Ytoomeeoijbkmnaa.PH
open Go.RowKit Go.Proofs.YtoomeeoijbkmnaaW.PrintWords Go.Proofs.YtoomeeoijbkmnaaW.PrintLast
set_option linter.unusedSimpArgs false
theorem findR_ok {S : List S46} {a r : Int} (h : (findR S a r).2.2.2.2.2.2 = 0) : 0 ≤ a ∧ a < S.length := by
  unfold findR at h
  by_cases c : 0 ≤ a ∧ a < S.length ∧ (rd_T46 S a).f0 = true
  · exact ⟨c.1, c.2.1⟩
  · rw [if_neg c] at h
    simp at h
theorem find_bad {S : List S46} {F : List Int} (a r : Int) (h : Ev (fun k => impl_GoodTable.f k S F) false) : Ev (fun k => impl_FindHandle.f k S F a r) (false, 0, 0, false, 0, 0, 1) := by
  unfold impl_FindHandle.f
  exact Ev.bind h (Ev.neg (by simp) (Ev.const _))
theorem find_good {S : List S46} {F : List Int} (a r : Int) (h : Ev (fun k => impl_GoodTable.f k S F) true) : Ev (fun k => impl_FindHandle.f k S F a r) (findR S a r) := by
  unfold impl_FindHandle.f
  exact Ev.bind h (Ev.pos rfl (Ev.of (impl_find_ev S a r)))
def lendR (S : List S46) (F : List Int) (a r : Int) : List S46 × List Int × Bool × Int × Int × Bool × Int × Int × Int :=
  let q := findR S a r
  if q.2.2.2.2.2.2 = 0 then (if q.2.2.2.2.1 = 1000 then (S, F, false, 0, 0, false, 0, 0, 4) else (S.set a.toNat ⟨(rd_T46 S a).f0, (rd_T46 S a).f1, (rd_T46 S a).f2, (rd_T46 S a).f3, wrap64 ((rd_T46 S a).f4 + 1), (rd_T46 S a).f5⟩, F, q.1, q.2.1, q.2.2.1, q.2.2.2.1, q.2.2.2.2.1, q.2.2.2.2.2.1, 0)) else (S, F, false, 0, 0, false, 0, 0, q.2.2.2.2.2.2)
theorem lendR_len (S : List S46) (F : List Int) (a r : Int) : (lendR S F a r).1.length = S.length ∧ (lendR S F a r).2.1.length = F.length := by
  unfold lendR
  dsimp only
  repeat' split
  all_goals simp
theorem both_LendHandle (S : List S46) (hS : S.length ≤ 140737488351232) (F : List Int) (hF : F.length ≤ 140737488351232) (a r : Int) :
    ∃ x : List S46 × List Int × Bool × Int × Int × Bool × Int × Int × Int, x.1.length ≤ 140737488351232 ∧ x.2.1.length ≤ 140737488351232 ∧ Ev (fun k => impl_LendHandle.f k S F a r) x ∧ Ev (fun k => spec_LendHandle.f k S F a r) x := by
  obtain ⟨b, hb, h1, h2⟩ := good_both S hS F hF
  cases b
  · refine ⟨([], [], false, 0, 0, false, 0, 0, 1), by simp, by simp, ?_, ?_⟩
    · unfold impl_LendHandle.f
      exact Ev.bind (clone_bad h1) (Ev.bind (find_bad a r h1) (Ev.neg (by simp) (Ev.const _)))
    · unfold spec_LendHandle.f
      exact Ev.bind h2 (Ev.neg (by simp) (Ev.const _))
  · obtain ⟨g1, g2⟩ := gs_len (hb.mp rfl)
    obtain ⟨l1, l2⟩ := lendR_len S F a r
    refine ⟨lendR S F a r, by omega, by omega, ?_, ?_⟩
    · unfold impl_LendHandle.f lendR
      refine Ev.bind (clone_some g1 g2 h1) (Ev.bind (find_good a r h1) ?_)
      dsimp only
      by_cases c : (findR S a r).2.2.2.2.2.2 = 0
      · have hi := findR_ok c
        rw [if_pos c, if_pos c]
        by_cases d : (findR S a r).2.2.2.2.1 = 1000
        · rw [if_pos d, if_pos d]
          exact Ev.const _
        · rw [if_neg d, if_neg d, if_pos hi.1, if_pos hi.2]
          exact Ev.const _
      · rw [if_neg c, if_neg c]
        exact Ev.const _
    · unfold spec_LendHandle.f
      refine Ev.bind h2 (Ev.pos rfl (Ev.bind (Ev.of (own_some S F g1 g2)) (Ev.bind (spec_find_ev S hS F a r) ?_)))
      dsimp only
      by_cases c : (findR S a r).2.2.2.2.2.2 = 0
      · have hi := findR_ok c
        refine Ev.pos c (Ev.step (g := fun _ => some (lendR S F a r)) (fun k => ?_) (Ev.const _))
        unfold lendR
        simp only [spec_LendHandle.j0]
        by_cases d : (findR S a r).2.2.2.2.1 = 1000
        · simp [c, d]
        · simp [c, d, hi.1, hi.2]
      · refine Ev.neg c (Ev.step (g := fun _ => some (lendR S F a r)) (fun k => ?_) (Ev.const _))
        unfold lendR
        simp only [spec_LendHandle.j0]
        simp [c]
end Go.Proofs.Ytoomeeoijbkmnaa.PH
