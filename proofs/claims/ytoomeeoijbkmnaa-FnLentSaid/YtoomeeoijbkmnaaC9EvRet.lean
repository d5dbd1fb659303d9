/-
  Plain laws about what the printed functions compute.
-/
import Derived.Test.YtoomeeoijbkmnaaC9PHx11
import Derived.Test.YtoomeeoijbkmnaaC9PHx10
import Derived.Test.YtoomeeoijbkmnaaC9EvCopy
namespace Go.Proofs.Ytoomeeoijbkmnaa.PH
open Go.RowKit Go.Proofs.YtoomeeoijbkmnaaW.PrintWords Go.Proofs.YtoomeeoijbkmnaaW.PrintLast
set_option linter.unusedSimpArgs false
theorem own_some (S : List S46) (F : List Int) (hS : S.length ≤ 40) (hF : F.length ≤ 40) : spec_l15Own.f S F = some (S, F) := by
  unfold spec_l15Own.f
  simp only [Option.bind_some, List.length_nil, List.nil_append]
  rw [if_pos (by omega), if_pos (by omega)]
theorem clone_some {S : List S46} {F : List Int} (hS : S.length ≤ 40) (hF : F.length ≤ 40) (h : Ev (fun k => impl_GoodTable.f k S F) true) : Ev (fun k => impl_cloneTable.f k S F) (S, F) := by
  unfold impl_cloneTable.f
  refine Ev.bind h (Ev.pos rfl ?_)
  refine Ev.of ?_
  simp only [Option.bind_some, List.length_nil, List.nil_append]
  rw [if_pos (by omega), if_pos (by omega)]
theorem clone_bad {S : List S46} {F : List Int} (h : Ev (fun k => impl_GoodTable.f k S F) false) : Ev (fun k => impl_cloneTable.f k S F) ([], []) := by
  unfold impl_cloneTable.f
  exact Ev.bind h (Ev.neg (by simp) (Ev.const _))
theorem gs_len {S : List S46} {F : List Int} (h : GS S F) : S.length ≤ 40 ∧ F.length ≤ 40 := by
  obtain ⟨_, _, _, h1, h2⟩ := h
  have := List.countP_le_length (p := fun h : S46 => !h.f0) (l := S)
  omega
def retR (S : List S46) (F : List Int) (i : Int) : List S46 × List Int × Int :=
  if 0 ≤ i ∧ i < S.length ∧ (rd_T46 S i).f0 = true then (if (rd_T46 S i).f4 = 0 then (S, F, 4) else (S.set i.toNat ⟨(rd_T46 S i).f0, (rd_T46 S i).f1, (rd_T46 S i).f2, (rd_T46 S i).f3, wrap64 (((rd_T46 S i).f4) - 1), (rd_T46 S i).f5⟩, F, 0)) else (S, F, 2)
theorem l1In_at (S : List S46) (hS : S.length ≤ 140737488351232) (i : Int) : spec_l1In.f i 0 (wrap64 ((S.length : Int) - 1)) = some (decide (0 ≤ i ∧ i < S.length)) := by
  have hw : wrap64 ((S.length : Int) - 1) = (S.length : Int) - 1 := by
    unfold wrap64
    omega
  rw [hw]
  unfold spec_l1In.f
  by_cases h : i ≥ 0
  · rw [if_pos h]
    exact congrArg some (decide_eq_decide.mpr (by omega))
  · rw [if_neg h]
    exact congrArg some (decide_eq_false (by omega)).symm
theorem impl_ret (S : List S46) (F : List Int) (i : Int) (hS : S.length ≤ 40) (hF : F.length ≤ 40) (h : Ev (fun k => impl_GoodTable.f k S F) true) : Ev (fun k => impl_ReturnHandle.f k S F i) (retR S F i) := by
  unfold impl_ReturnHandle.f
  refine Ev.bind (clone_some hS hF h) (Ev.bind h (Ev.pos rfl ?_))
  by_cases h0 : i < 0
  · refine Ev.pos h0 (Ev.step (g := fun _ => some (retR S F i)) (fun k => ?_) (Ev.const _))
    unfold retR
    simp only [impl_ReturnHandle.j0]
    rw [if_pos trivial, if_neg (fun x => by omega)]
  refine Ev.neg h0 ?_
  by_cases h1 : i ≥ S.length
  · refine Ev.pos h1 (Ev.step (g := fun _ => some (retR S F i)) (fun k => ?_) (Ev.const _))
    unfold retR
    simp only [impl_ReturnHandle.j0]
    rw [if_pos trivial, if_neg (fun x => by omega)]
  have hi : 0 ≤ i ∧ i < S.length := by omega
  refine Ev.neg h1 (Ev.pos (by omega) (Ev.pos (by omega) (Ev.step (g := fun _ => some (retR S F i)) (fun k => ?_) (Ev.const _))))
  unfold retR
  simp only [impl_ReturnHandle.j0]
  by_cases hu : (rd_T46 S i).f0 = true
  · by_cases hz : (rd_T46 S i).f4 = 0 <;> simp [hu, hi, hz]
  · simp [hu]
end Go.Proofs.Ytoomeeoijbkmnaa.PH
