/-
  Plain laws about what the printed functions compute.
-/
import Derived.Test.YtoomeeoijbkmnaaC5PHx11
import Derived.Test.YtoomeeoijbkmnaaC5EvMark
namespace Go.Proofs.Ytoomeeoijbkmnaa.PH
open Go.RowKit Go.Proofs.YtoomeeoijbkmnaaW.PrintWords Go.Proofs.YtoomeeoijbkmnaaW.PrintLast
set_option linter.unusedSimpArgs false
theorem own_some (S : List S46) (F : List Int) (hS : S.length ≤ 40) (hF : F.length ≤ 40) : spec_l15Own.f S F = some (S, F) := by
  unfold spec_l15Own.f
  simp only [Option.bind_some, List.length_nil, List.nil_append]
  rw [if_pos (by omega), if_pos (by omega)]
theorem clone_some {S : List S46} {F : List Int} (hS : S.length ≤ 40) (hF : F.length ≤ 40) (h : Ev (fun k => impl_GoodTable.f k S F) true) : Ev (fun k => impl_cloneTable.f k S F) (S, F) := by
  unfold impl_cloneTable.f
  refine Ev.bind h (Ev.pos rfl ?_)
  refine Ev.of ?_
  simp only [Option.bind_some, List.length_nil, List.nil_append]
  rw [if_pos (by omega), if_pos (by omega)]
theorem clone_bad {S : List S46} {F : List Int} (h : Ev (fun k => impl_GoodTable.f k S F) false) : Ev (fun k => impl_cloneTable.f k S F) ([], []) := by
  unfold impl_cloneTable.f
  exact Ev.bind h (Ev.neg (by simp) (Ev.const _))
theorem gs_len {S : List S46} {F : List Int} (h : GS S F) : S.length ≤ 40 ∧ F.length ≤ 40 := by
  obtain ⟨_, _, _, h1, h2⟩ := h
  have := List.countP_le_length (p := fun h : S46 => !h.f0) (l := S)
  omega
def retR (S : List S46) (F : List Int) (i : Int) : List S46 × List Int × Int :=
  if 0 ≤ i ∧ i < S.length ∧ (rd_T46 S i).f0 = true then (if (rd_T46 S i).f4 = 0 then (S, F, 4) else (S.set i.toNat ⟨(rd_T46 S i).f0, (rd_T46 S i).f1, (rd_T46 S i).f2, (rd_T46 S i).f3, wrap64 (((rd_T46 S i).f4) - 1), (rd_T46 S i).f5⟩, F, 0)) else (S, F, 2)
theorem retR_len (S : List S46) (F : List Int) (i : Int) : (retR S F i).1.length = S.length ∧ (retR S F i).2.1.length = F.length := by
  unfold retR
  repeat' split
  all_goals simp
theorem l1In_at (S : List S46) (hS : S.length ≤ 140737488351232) (i : Int) : spec_l1In.f i 0 (wrap64 ((S.length : Int) - 1)) = some (decide (0 ≤ i ∧ i < S.length)) := by
  have hw : wrap64 ((S.length : Int) - 1) = (S.length : Int) - 1 := by
    unfold wrap64
    omega
  rw [hw]
  unfold spec_l1In.f
  by_cases h : i ≥ 0
  · rw [if_pos h]
    exact congrArg some (decide_eq_decide.mpr (by omega))
  · rw [if_neg h]
    exact congrArg some (decide_eq_false (by omega)).symm
theorem spec_ret (S : List S46) (F : List Int) (i : Int) (hS : S.length ≤ 40) (hF : F.length ≤ 40) (h : Ev (fun k => spec_GoodTable.f k S F) true) : Ev (fun k => spec_ReturnHandle.f k S F i) (retR S F i) := by
  unfold spec_ReturnHandle.f
  refine Ev.bind h (Ev.pos rfl (Ev.bind (Ev.of (own_some S F hS hF)) (Ev.bind (Ev.of (l1In_at S (by omega) i)) ?_)))
  by_cases hi : 0 ≤ i ∧ i < S.length
  · refine Ev.pos (by simp; omega) (Ev.pos hi.1 (Ev.pos hi.2 (Ev.step (g := fun _ => some (retR S F i)) (fun k => ?_) (Ev.const _))))
    unfold retR
    simp only [spec_ReturnHandle.j0]
    by_cases hu : (rd_T46 S i).f0 = true
    · by_cases hz : (rd_T46 S i).f4 = 0 <;> simp [hu, hi, hz]
    · simp [hu]
  · refine Ev.neg (by simp; omega) (Ev.step (g := fun _ => some (retR S F i)) (fun k => ?_) (Ev.const _))
    unfold retR
    simp only [spec_ReturnHandle.j0]
    rw [if_pos trivial, if_neg (fun x => hi ⟨x.1, x.2.1⟩)]
theorem impl_ret (S : List S46) (F : List Int) (i : Int) (hS : S.length ≤ 40) (hF : F.length ≤ 40) (h : Ev (fun k => impl_GoodTable.f k S F) true) : Ev (fun k => impl_ReturnHandle.f k S F i) (retR S F i) := by
  unfold impl_ReturnHandle.f
  refine Ev.bind (clone_some hS hF h) (Ev.bind h (Ev.pos rfl ?_))
  by_cases h0 : i < 0
  · refine Ev.pos h0 (Ev.step (g := fun _ => some (retR S F i)) (fun k => ?_) (Ev.const _))
    unfold retR
    simp only [impl_ReturnHandle.j0]
    rw [if_pos trivial, if_neg (fun x => by omega)]
  refine Ev.neg h0 ?_
  by_cases h1 : i ≥ S.length
  · refine Ev.pos h1 (Ev.step (g := fun _ => some (retR S F i)) (fun k => ?_) (Ev.const _))
    unfold retR
    simp only [impl_ReturnHandle.j0]
    rw [if_pos trivial, if_neg (fun x => by omega)]
  have hi : 0 ≤ i ∧ i < S.length := by omega
  refine Ev.neg h1 (Ev.pos (by omega) (Ev.pos (by omega) (Ev.step (g := fun _ => some (retR S F i)) (fun k => ?_) (Ev.const _))))
  unfold retR
  simp only [impl_ReturnHandle.j0]
  by_cases hu : (rd_T46 S i).f0 = true
  · by_cases hz : (rd_T46 S i).f4 = 0 <;> simp [hu, hi, hz]
  · simp [hu]
theorem ret_both (S : List S46) (hS : S.length ≤ 140737488351232) (F : List Int) (hF : F.length ≤ 140737488351232) (i : Int) :
    ∃ r : List S46 × List Int × Int, r.1.length ≤ 140737488351232 ∧ r.2.1.length ≤ 140737488351232 ∧ Ev (fun k => impl_ReturnHandle.f k S F i) r ∧ Ev (fun k => spec_ReturnHandle.f k S F i) r := by
  obtain ⟨b, hb, h1, h2⟩ := good_both S hS F hF
  cases b
  · refine ⟨([], [], 1), by simp, by simp, ?_, ?_⟩
    · unfold impl_ReturnHandle.f
      exact Ev.bind (clone_bad h1) (Ev.bind h1 (Ev.neg (by simp) (Ev.const _)))
    · unfold spec_ReturnHandle.f
      exact Ev.bind h2 (Ev.neg (by simp) (Ev.const _))
  · obtain ⟨g1, g2⟩ := gs_len (hb.mp rfl)
    obtain ⟨l1, l2⟩ := retR_len S F i
    exact ⟨retR S F i, by omega, by omega, impl_ret S F i g1 g2 h1, spec_ret S F i g1 g2 h2⟩
theorem pure_FnExactReturnHandle (S : List S60) (F : List Int) (a1 : Int) (h : S.length * 48 ≤ 140737488351232) (h' : F.length * 8 ≤ 140737488351232) : ∃ k, laws_FnExactReturnHandle.f k S F a1 = some true := by
  suffices g : Ev (fun k => laws_FnExactReturnHandle.f k S F a1) true by
    obtain ⟨K, g⟩ := g
    exact ⟨K, g K (Nat.le_refl _)⟩
  obtain ⟨t, ht⟩ := szTable_some S F
  unfold laws_FnExactReturnHandle.f
  refine Ev.bind (Ev.of ht) ?_
  by_cases c : t < 0
  · exact Ev.pos c (Ev.const _)
  refine Ev.neg c ?_
  have hm : (S.map to46).length ≤ 140737488351232 := by rw [List.length_map]; omega
  have hf : F.length ≤ 140737488351232 := by omega
  have e := toTable_ev S F h h'
  obtain ⟨r, r1, r2, h1, h2⟩ := ret_both (S.map to46) hm F hf a1
  have er := eqTable_ev r.1 r.2.1 r1 r2
  refine Ev.bind e (Ev.bind h2 (Ev.bind e (Ev.bind h1 (Ev.bind er (Ev.pos rfl ?_)))))
  have j2 : Ev (fun k => laws_FnExactReturnHandle.j2 k (finI r.2.1.length (finT r.1.length 1)) (r.2.2 != r.2.2) (marksT r.1.length 1) (marksI r.2.1.length (finT r.1.length 1))) true := by
    refine Ev.step (g := fun k => (laws_heldTable.f k (marksT r.1.length 1) (marksI r.2.1.length (finT r.1.length 1)) 1).bind fun t359 => (if t359 < 0 then (some false) else (if t359 = (finI r.2.1.length (finT r.1.length 1)) then (some true) else (some false)))) (fun k => ?_) ?_
    · simp only [laws_FnExactReturnHandle.j2]
      rw [if_neg (by simp)]
    · exact Ev.bind (held_ev _ _ 1 r1 r2 (by omega) (by omega)) (Ev.neg (fin_pos _ _ r1 r2) (Ev.pos rfl (Ev.const _)))
  have j1 : Ev (fun k => laws_FnExactReturnHandle.j1 k a1 r.2.2 (r.2.2 != r.2.2) S F r.1 r.2.1 r.1 r.2.1) true := by
    refine Ev.step (g := fun k => (laws_markTable.f k r.1 r.2.1 1).bind fun bt340 => ((laws_heldTable.f k bt340.2.1 bt340.2.2 1).bind fun t343 => (if t343 < 0 then (some false) else (if t343 = bt340.1 then ((laws_toTable.f k S F).bind fun bt344 => ((impl_ReturnHandle.f k bt344.1 bt344.2 a1).bind fun bt350 => ((laws_eqTable.f k bt350.1 bt350.2.1 r.1 r.2.1).bind fun t358 => (if t358 = true then (laws_FnExactReturnHandle.j2 k bt340.1 (bt350.2.2 != r.2.2) bt340.2.1 bt340.2.2) else (laws_FnExactReturnHandle.j2 k bt340.1 true bt340.2.1 bt340.2.2))))) else (some false))))) (fun k => ?_) ?_
    · simp only [laws_FnExactReturnHandle.j1]
      rw [if_neg (by simp)]
    · exact Ev.bind (mark_ev _ _ 1 r1 r2) (Ev.bind (held_ev _ _ 1 r1 r2 (by omega) (by omega)) (Ev.neg (fin_pos _ _ r1 r2) (Ev.pos rfl (Ev.bind e (Ev.bind h1 (Ev.bind er (Ev.pos rfl j2)))))))
  refine Ev.step (g := fun k => (laws_toTable.f k S F).bind fun bt329 => ((laws_eqTable.f k (S.map to46) F bt329.1 bt329.2).bind fun t335 => (if t335 = true then ((laws_markTable.f k (S.map to46) F 1).bind fun bt336 => (if bt336.1 < 0 then (laws_FnExactReturnHandle.j1 k a1 r.2.2 true S F r.1 r.2.1 r.1 r.2.1) else ((laws_eqTable.f k r.1 r.2.1 r.1 r.2.1).bind fun t339 => (if t339 = true then (laws_FnExactReturnHandle.j1 k a1 r.2.2 (r.2.2 != r.2.2) S F r.1 r.2.1 r.1 r.2.1) else (laws_FnExactReturnHandle.j1 k a1 r.2.2 true S F r.1 r.2.1 r.1 r.2.1))))) else (some false)))) (fun k => ?_) ?_
  · simp only [laws_FnExactReturnHandle.j0]
    rw [if_neg (by simp)]
  · exact Ev.bind e (Ev.bind (eqTable_ev (S.map to46) F hm hf) (Ev.pos rfl (Ev.bind (mark_ev _ _ 1 hm hf) (Ev.neg (fin_pos _ _ hm hf) (Ev.bind er (Ev.pos rfl j1))))))
end Go.Proofs.Ytoomeeoijbkmnaa.PH
