/-
  Plain laws about what the printed functions compute.
-/
import Derived.Test.YtoomeeoijbkmnaaC6EvRet
import Derived.Test.YtoomeeoijbkmnaaC6PHx12
import Derived.Test.YtoomeeoijbkmnaaC6PHx13
namespace Go.Proofs.Ytoomeeoijbkmnaa.PH
open Go.RowKit Go.Proofs.YtoomeeoijbkmnaaW.PrintWords Go.Proofs.YtoomeeoijbkmnaaW.PrintLast
set_option linter.unusedSimpArgs false
def newR (S : List S46) (F : List Int) (h : S46) : List S46 × List Int × Int × Int :=
  if hok h = true then (if h.f4 = 0 then (if 0 < F.length then (S.set (rd F ((F.length : Int) - 1)).toNat h, F.take (F.length - 1), rd F ((F.length : Int) - 1), 0) else (if S.length = 40 then (S, F, 0, 5) else (S ++ [h], F, (S.length : Int), 0))) else (S, F, 0, 1)) else (S, F, 0, 1)
theorem newR_len (S : List S46) (F : List Int) (h : S46) : (newR S F h).1.length ≤ S.length + 1 ∧ (newR S F h).2.1.length ≤ F.length := by
  unfold newR
  repeat' split
  all_goals simp
  all_goals omega
theorem last_in {S : List S46} {F : List Int} (g : GS S F) (hF : 0 < F.length) : 0 ≤ rd F ((F.length : Int) - 1) ∧ rd F ((F.length : Int) - 1) < S.length := by
  have hm : rd F ((F.length : Int) - 1) ∈ F := by
    unfold rd
    have e : ((F.length : Int) - 1).toNat = F.length - 1 := by omega
    rw [e, List.getD_eq_getElem?_getD, List.getElem?_eq_getElem (by omega), Option.getD_some]
    exact List.getElem_mem _
  exact ⟨(g.2.1 _ hm).1, (g.2.1 _ hm).2.1⟩
theorem both_NewHandle (S : List S46) (hS : S.length ≤ 140737488351232) (F : List Int) (hF : F.length ≤ 140737488351232) (h : S46) :
    ∃ x : List S46 × List Int × Int × Int, x.1.length ≤ 140737488351232 ∧ x.2.1.length ≤ 140737488351232 ∧ Ev (fun k => impl_NewHandle.f k S F h.f0 h.f1 h.f2 h.f3 h.f4 h.f5) x ∧ Ev (fun k => spec_NewHandle.f k S F h.f0 h.f1 h.f2 h.f3 h.f4 h.f5) x := by
  obtain ⟨b, hb, h1, h2⟩ := good_both S hS F hF
  cases b
  · refine ⟨([], [], 0, 1), by simp, by simp, ?_, ?_⟩
    · unfold impl_NewHandle.f
      exact Ev.bind (clone_bad h1) (Ev.bind h1 (Ev.neg (by simp) (Ev.const _)))
    · unfold spec_NewHandle.f
      exact Ev.bind h2 (Ev.neg (by simp) (Ev.const _))
  · have gs := hb.mp rfl
    obtain ⟨g1, g2⟩ := gs_len gs
    obtain ⟨l1, l2⟩ := newR_len S F h
    have hs : Ev (fun k => impl_Handle_sound.f k h.f0 h.f1 h.f2 h.f3 h.f4 h.f5) (hok h) := Ev.step (fun k => impl_hok h k) (Ev.const _)
    refine ⟨newR S F h, by omega, by omega, ?_, ?_⟩
    · unfold impl_NewHandle.f
      refine Ev.bind (clone_some g1 g2 h1) (Ev.bind h1 (Ev.pos rfl (Ev.bind hs ?_)))
      dsimp only
      unfold newR
      by_cases c : hok h = true
      · refine Ev.pos c ?_
        rw [if_pos c]
        by_cases d : h.f4 = 0
        · rw [if_pos d, if_pos d]
          unfold impl_Table_add.f
          by_cases e : 0 < F.length
          · obtain ⟨i1, i2⟩ := last_in gs e
            rw [if_neg (by omega), if_pos e, if_pos e, if_pos i1, if_pos i2]
            exact Ev.const _
          · rw [if_neg e, if_neg e]
            by_cases f : S.length = 40
            · rw [if_pos ⟨by omega, f⟩, if_pos f]
              exact Ev.const _
            · rw [if_neg (fun x => f x.2), if_neg f, if_pos (by omega)]
              exact Ev.const _
        · rw [if_neg d, if_neg d]
          exact Ev.const _
      · refine Ev.neg c ?_
        rw [if_neg c]
        exact Ev.const _
    · unfold spec_NewHandle.f
      refine Ev.bind h2 (Ev.pos rfl (Ev.bind (Ev.of (own_some S F g1 g2)) (Ev.bind (Ev.of (spec_hok h)) ?_)))
      dsimp only
      by_cases c : hok h = true
      · refine Ev.pos c (Ev.step (g := fun _ => some (newR S F h)) (fun k => ?_) (Ev.const _))
        unfold newR
        simp only [spec_NewHandle.j0]
        by_cases d : h.f4 = 0
        · have hh : (⟨h.f0, h.f1, h.f2, h.f3, 0, h.f5⟩ : S46) = h := by
            rw [← d]
          by_cases e : 0 < F.length
          · obtain ⟨i1, i2⟩ := last_in gs e
            have w1 : wrap64 ((F.length : Int) - 1) = (F.length : Int) - 1 := wrap_in (by omega) (by omega)
            have t1 : ((F.length : Int) - 1).toNat = F.length - 1 := by omega
            have p1 : 0 ≤ (F.length : Int) - 1 := by omega
            have p2 : (F.length : Int) - 1 < F.length := by omega
            have p3 : (F.length : Int) - 1 ≤ F.length := by omega
            have p4 : (F.length : Int) > 0 := by omega
            simp only [c, d, if_true, w1, i1, i2, p1, p2, p3, p4, e, t1, bne_self_eq_false, Bool.false_eq_true, if_false, hh]
          · have p4 : ¬ (F.length : Int) > 0 := by omega
            by_cases f : S.length = 40
            · have f' : (S.length : Int) = 40 := by omega
              simp [c, d, e, f]
            · have f' : ¬ (S.length : Int) = 40 := by omega
              have q : S.length < 2932031007402 := by omega
              have q2 : wrap64 ((S.length : Int) + 1 - 1) = (S.length : Int) := by rw [wrap_in (by omega) (by omega)]; omega
              have q3 : wrap64 (S.length : Int) = (S.length : Int) := wrap_in (by omega) (by omega)
              simp [c, d, e, f', f, q, q2, q3, hh]
        · simp [c, d]
      · refine Ev.neg c (Ev.step (g := fun _ => some (newR S F h)) (fun k => ?_) (Ev.const _))
        unfold newR
        simp [spec_NewHandle.j0, c]
end Go.Proofs.Ytoomeeoijbkmnaa.PH
