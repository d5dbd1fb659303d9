/-
  Plain laws about what the printed functions compute.
-/
import Derived.Test.YtoomeeoijbkmnaaC6PHx7
import Derived.Test.YtoomeeoijbkmnaaC6EvTable
namespace Go.Proofs.Ytoomeeoijbkmnaa.PH
open Go.RowKit Go.Proofs.YtoomeeoijbkmnaaW.PrintWords Go.Proofs.YtoomeeoijbkmnaaW.PrintLast
set_option linter.unusedSimpArgs false
def to46 (h : S60) : S46 := ⟨h.f0, h.f1, h.f2, h.f3, h.f4, h.f5⟩
theorem rd60_ {pre suf : List S60} {h : S60} : rd_T60 (pre ++ h :: suf) (pre.length : Int) = h := by
  simp [rd_T60]
theorem rdI' {pre suf : List Int} {h : Int} : rd (pre ++ h :: suf) (pre.length : Int) = h := by
  simp [rd]
theorem rdT' {pre suf : List S46} {h : S46} : rd_T46 (pre ++ h :: suf) (pre.length : Int) = h := by
  simp [rd_T46]
theorem set_at {α : Type} (pre suf : List α) (h z : α) : (pre ++ z :: suf).set ((pre.length : Int)).toNat h = (pre ++ [h]) ++ suf := by
  simp
theorem toHandleS_l0 : ∀ (suf pre : List S60), (pre ++ suf).length ≤ 140737488351232 → Ev (fun k => laws_toHandleS.l0 k (pre ++ suf) (pre.map to46 ++ List.replicate suf.length z46) (pre.length : Int)) ((pre ++ suf).map to46)
  | [], pre, hl => by
    refine Ev.step (g := fun _ => some ((pre ++ []).map to46)) (fun k => ?_) (Ev.const _)
    simp only [laws_toHandleS.l0]
    rw [if_neg (by simp)]
    simp
  | h :: suf, pre, hl => by
    simp only [List.length_append, List.length_cons] at hl
    refine Ev.step (g := fun k => laws_toHandleS.l0 k ((pre ++ [h]) ++ suf) ((pre ++ [h]).map to46 ++ List.replicate suf.length z46) (((pre ++ [h]).length : Nat) : Int)) (fun k => ?_) (by simpa using toHandleS_l0 suf (pre ++ [h]) (by simp; omega))
    simp only [laws_toHandleS.l0]
    have hs : (pre.map to46 ++ List.replicate (h :: suf).length z46).set ((pre.length : Int)).toNat (to46 h) = (pre ++ [h]).map to46 ++ List.replicate suf.length z46 := by
      have := set_at (pre.map to46) (List.replicate suf.length z46) (to46 h) z46
      simp only [List.length_map] at this
      rw [List.length_cons, List.replicate_succ, this]
      simp
    rw [if_pos (by simp; omega), if_pos (by omega), rd60_]
    unfold laws_toHandle.f
    rw [Option.bind_some, if_pos (by simp; omega), wrap_in (by omega) (by omega)]
    show laws_toHandleS.l0 k (pre ++ h :: suf) ((pre.map to46 ++ List.replicate (h :: suf).length z46).set ((pre.length : Int)).toNat (to46 h)) ((pre.length : Int) + 1) = _
    rw [hs]
    simp
theorem toHandleS_ev (S : List S60) (h : S.length * 48 ≤ 140737488351232) : Ev (fun k => laws_toHandleS.f k S) (S.map to46) := by
  refine Ev.eq (fun k => ?_) (toHandleS_l0 S [] (by simp; omega))
  unfold laws_toHandleS.f
  rw [if_pos (by omega), if_pos (by omega)]
  simp
theorem toIntS_l0 : ∀ (suf pre : List Int), (pre ++ suf).length ≤ 140737488351232 → Ev (fun k => laws_toIntS.l0 k (pre ++ suf) (pre ++ List.replicate suf.length 0) (pre.length : Int)) (pre ++ suf)
  | [], pre, hl => by
    refine Ev.step (g := fun _ => some (pre ++ [])) (fun k => ?_) (Ev.const _)
    simp only [laws_toIntS.l0]
    rw [if_neg (by simp)]
    simp
  | h :: suf, pre, hl => by
    simp only [List.length_append, List.length_cons] at hl
    refine Ev.step (g := fun k => laws_toIntS.l0 k ((pre ++ [h]) ++ suf) ((pre ++ [h]) ++ List.replicate suf.length 0) (((pre ++ [h]).length : Nat) : Int)) (fun k => ?_) (by simpa using toIntS_l0 suf (pre ++ [h]) (by simp; omega))
    simp only [laws_toIntS.l0]
    rw [if_pos (by simp; omega), if_pos (by omega), rdI', if_pos (by simp; omega), wrap_in (by omega) (by omega), List.length_cons, List.replicate_succ, set_at]
    simp
theorem toIntS_ev (F : List Int) (h : F.length * 8 ≤ 140737488351232) : Ev (fun k => laws_toIntS.f k F) F := by
  refine Ev.eq (fun k => ?_) (toIntS_l0 F [] (by simp; omega))
  unfold laws_toIntS.f
  rw [if_pos (by omega), if_pos (by omega)]
  simp
theorem toTable_ev (S : List S60) (F : List Int) (h : S.length * 48 ≤ 140737488351232) (h' : F.length * 8 ≤ 140737488351232) : Ev (fun k => laws_toTable.f k S F) (S.map to46, F) := by
  unfold laws_toTable.f
  exact Ev.bind (toHandleS_ev S h) (Ev.bind (toIntS_ev F h') (Ev.const _))
theorem eqHandle_same (h : S46) : laws_eqHandle.f h.f0 h.f1 h.f2 h.f3 h.f4 h.f5 h.f0 h.f1 h.f2 h.f3 h.f4 h.f5 = some true := by
  unfold laws_eqHandle.f
  simp
theorem eqHandleS_l0 (S : List S46) (hl : S.length ≤ 140737488351232) (d : Nat) : ∀ (i : Nat), i ≤ S.length → S.length - i = d → Ev (fun k => laws_eqHandleS.l0 k S S (i : Int)) true := by
  induction d with
  | zero =>
    intro i h1 h2
    refine Ev.step (g := fun _ => some true) (fun k => ?_) (Ev.const _)
    simp only [laws_eqHandleS.l0]
    rw [if_neg (by omega)]
  | succ d ih =>
    intro i h1 h2
    refine Ev.step (fun k => ?_) (ih (i + 1) (by omega) (by omega))
    simp only [laws_eqHandleS.l0]
    rw [if_pos (by omega), if_pos (by omega), if_pos (by omega), eqHandle_same, Option.bind_some, if_pos rfl, wrap_in (by omega) (by omega)]
    rfl
theorem eqIntS_l0 (S : List Int) (hl : S.length ≤ 140737488351232) (d : Nat) : ∀ (i : Nat), i ≤ S.length → S.length - i = d → Ev (fun k => laws_eqIntS.l0 k S S (i : Int)) true := by
  induction d with
  | zero =>
    intro i h1 h2
    refine Ev.step (g := fun _ => some true) (fun k => ?_) (Ev.const _)
    simp only [laws_eqIntS.l0]
    rw [if_neg (by omega)]
  | succ d ih =>
    intro i h1 h2
    refine Ev.step (fun k => ?_) (ih (i + 1) (by omega) (by omega))
    simp only [laws_eqIntS.l0]
    rw [if_pos (by omega), if_pos (by omega), if_pos (by omega), if_pos trivial, wrap_in (by omega) (by omega)]
    rfl
theorem eqTable_ev (S : List S46) (F : List Int) (h : S.length ≤ 140737488351232) (h' : F.length ≤ 140737488351232) : Ev (fun k => laws_eqTable.f k S F S F) true := by
  unfold laws_eqTable.f
  refine Ev.bind (a := true) ?_ (Ev.pos rfl (Ev.bind (a := true) ?_ (Ev.pos rfl (Ev.const _))))
  · refine Ev.eq (fun k => ?_) (eqHandleS_l0 S h S.length 0 (by omega) (by omega))
    unfold laws_eqHandleS.f
    rw [if_pos rfl]
    rfl
  · refine Ev.eq (fun k => ?_) (eqIntS_l0 F h' F.length 0 (by omega) (by omega))
    unfold laws_eqIntS.f
    rw [if_pos rfl]
    rfl
theorem szTable_some (S : List S60) (F : List Int) : ∃ t, laws_szTable.f S F 1048576 = some t := by
  unfold laws_szTable.f laws_szHandleS.f laws_szIntS.f
  repeat' first | exact ⟨_, rfl⟩ | split | simp only [Option.bind_some]
end Go.Proofs.Ytoomeeoijbkmnaa.PH
