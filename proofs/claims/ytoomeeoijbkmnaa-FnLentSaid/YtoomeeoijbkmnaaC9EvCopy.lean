/-
  Plain laws about what the printed functions compute.
-/
import Derived.Test.YtoomeeoijbkmnaaC9PHx7
import Derived.Test.YtoomeeoijbkmnaaC9EvTable
namespace Go.Proofs.Ytoomeeoijbkmnaa.PH
open Go.RowKit Go.Proofs.YtoomeeoijbkmnaaW.PrintWords Go.Proofs.YtoomeeoijbkmnaaW.PrintLast
set_option linter.unusedSimpArgs false
/-- What finding a handle tells. -/
def findR (S : List S46) (at_ res : Int) : Bool × Int × Int × Bool × Int × Int × Int :=
  if 0 ≤ at_ ∧ at_ < S.length ∧ (rd_T46 S at_).f0 = true then (if (rd_T46 S at_).f1 = res then ((rd_T46 S at_).f0, (rd_T46 S at_).f1, (rd_T46 S at_).f2, (rd_T46 S at_).f3, (rd_T46 S at_).f4, (rd_T46 S at_).f5, 0) else (false, 0, 0, false, 0, 0, 3)) else (false, 0, 0, false, 0, 0, 2)
theorem spec_find_ev (S : List S46) (hS : S.length ≤ 140737488351232) (F : List Int) (at_ res : Int) : Ev (fun k => spec_l15Find.f k S F at_ res) (findR S at_ res) := by
  unfold spec_l15Find.f spec_l1In.f
  have hw : wrap64 ((S.length : Int) - 1) = (S.length : Int) - 1 := by
    unfold wrap64
    omega
  rw [hw]
  by_cases h0 : at_ ≥ 0
  · by_cases h1 : at_ ≤ (S.length : Int) - 1
    · refine Ev.bind (a := true) (Ev.of (by rw [if_pos h0]; simp [h1])) (Ev.pos rfl (Ev.pos (by omega) (Ev.pos (by omega) ?_)))
      by_cases hu : (rd_T46 S at_).f0 = true
      · by_cases hr : (rd_T46 S at_).f1 = res
        · refine Ev.step (g := fun _ => some (findR S at_ res)) (fun k => ?_) (Ev.const _)
          unfold findR
          rw [if_pos ⟨by omega, by omega, hu⟩, if_pos hr]
          simp only [spec_l15Find.j0]
          rw [if_neg (by simp [hu]), if_pos (by omega), if_pos (by omega), if_pos hr]
        · refine Ev.step (g := fun _ => some (findR S at_ res)) (fun k => ?_) (Ev.const _)
          unfold findR
          rw [if_pos ⟨by omega, by omega, hu⟩, if_neg hr]
          simp only [spec_l15Find.j0]
          rw [if_neg (by simp [hu]), if_pos (by omega), if_pos (by omega), if_neg hr]
      · refine Ev.step (g := fun _ => some (findR S at_ res)) (fun k => ?_) (Ev.const _)
        unfold findR
        rw [if_neg (fun x => hu x.2.2)]
        simp only [spec_l15Find.j0]
        rw [if_pos (by simpa using hu)]
    · refine Ev.bind (a := false) (Ev.of (by rw [if_pos h0]; simp [h1])) (Ev.neg (by simp) ?_)
      refine Ev.step (g := fun _ => some (findR S at_ res)) (fun k => ?_) (Ev.const _)
      unfold findR
      rw [if_neg (fun x => by omega)]
      simp [spec_l15Find.j0]
  · refine Ev.bind (a := false) (Ev.of (by rw [if_neg h0])) (Ev.neg (by simp) ?_)
    refine Ev.step (g := fun _ => some (findR S at_ res)) (fun k => ?_) (Ev.const _)
    unfold findR
    rw [if_neg (fun x => by omega)]
    simp [spec_l15Find.j0]
theorem impl_find_ev (S : List S46) (at_ res : Int) : impl_Table_find.f S at_ res = some (findR S at_ res) := by
  unfold impl_Table_find.f findR
  by_cases h0 : at_ < 0
  · rw [if_pos h0, if_neg (fun x => by omega)]
  · rw [if_neg h0]
    by_cases h1 : at_ < S.length
    · rw [if_pos h1]
      by_cases hu : (rd_T46 S at_).f0 = true
      · have hc : 0 ≤ at_ ∧ at_ < S.length ∧ (rd_T46 S at_).f0 = true := ⟨by omega, h1, hu⟩
        by_cases hr : (rd_T46 S at_).f1 = res <;> simp [hr, hc]
      · rw [if_neg hu, if_neg (fun x => hu x.2.2)]
    · rw [if_neg h1, if_neg (fun x => by omega)]
end Go.Proofs.Ytoomeeoijbkmnaa.PH
