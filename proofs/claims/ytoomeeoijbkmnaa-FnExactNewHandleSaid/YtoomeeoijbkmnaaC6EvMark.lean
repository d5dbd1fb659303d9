/-
  Plain laws about what the printed functions compute.
-/
import Derived.Test.YtoomeeoijbkmnaaC6PHx10
import Derived.Test.YtoomeeoijbkmnaaC6EvCopy
namespace Go.Proofs.Ytoomeeoijbkmnaa.PH
open Go.RowKit Go.Proofs.YtoomeeoijbkmnaaW.PrintWords Go.Proofs.YtoomeeoijbkmnaaW.PrintLast
set_option linter.unusedSimpArgs false
def nx (x : Int) : Int := wrap64 (x + 1)
def nx6 (x : Int) : Int := nx (nx (nx (nx (nx (nx x)))))
def mk6 (x : Int) : S46 := ⟨(Int.tmod x 3) == 0, nx x, nx (nx x), (Int.tmod (nx (nx (nx x))) 3) == 0, nx (nx (nx (nx x))), nx (nx (nx (nx (nx x))))⟩
def marksT : Nat → Int → List S46
  | 0, _ => []
  | n + 1, x => mk6 x :: marksT n (nx6 x)
def finT : Nat → Int → Int
  | 0, x => x
  | n + 1, x => finT n (nx6 x)
def marksI : Nat → Int → List Int
  | 0, _ => []
  | n + 1, x => x :: marksI n (nx x)
def finI : Nat → Int → Int
  | 0, x => x
  | n + 1, x => finI n (nx x)
theorem nx_in {x : Int} (h0 : 0 ≤ x) (h : x < 9223372036854775807) : nx x = x + 1 := wrap_in (by omega) (by omega)
theorem finT_in : ∀ (n : Nat) (x : Int), 0 ≤ x → x + 6 * n < 9223372036854775807 → finT n x = x + 6 * n
  | 0, x, _, _ => by simp [finT]
  | n + 1, x, h0, h => by
    have e : nx6 x = x + 6 := by
      unfold nx6
      rw [nx_in (x := x) (by omega) (by omega), nx_in (x := x + 1) (by omega) (by omega), nx_in (x := x + 1 + 1) (by omega) (by omega), nx_in (x := x + 1 + 1 + 1) (by omega) (by omega), nx_in (x := x + 1 + 1 + 1 + 1) (by omega) (by omega), nx_in (x := x + 1 + 1 + 1 + 1 + 1) (by omega) (by omega)]
      omega
    rw [finT, e, finT_in n (x + 6) (by omega) (by omega)]
    omega
theorem finI_in : ∀ (n : Nat) (x : Int), 0 ≤ x → x + n < 9223372036854775807 → finI n x = x + n
  | 0, x, _, _ => by simp [finI]
  | n + 1, x, h0, h => by
    rw [finI, nx_in h0 (by omega), finI_in n (x + 1) (by omega) (by omega)]
    omega
theorem set_pre {α : Type} (pre suf : List α) (h z : α) : (pre ++ z :: suf).set ((pre.length : Int)).toNat h = pre ++ h :: suf := by
  simp
theorem markT_l0 : ∀ (suf pre : List S46) (x : Int), (pre ++ suf).length ≤ 140737488351232 → Ev (fun k => laws_markHandleS.l0 k (pre ++ suf) x (pre.length : Int)) (finT suf.length x, pre ++ marksT suf.length x)
  | [], pre, x, hl => by
    refine Ev.step (g := fun _ => some (x, pre ++ [])) (fun k => ?_) (Ev.const _)
    simp only [laws_markHandleS.l0]
    rw [if_neg (by simp)]
  | h :: suf, pre, x, hl => by
    simp only [List.length_append, List.length_cons] at hl
    have ih := markT_l0 suf (pre ++ [mk6 x]) (nx6 x) (by simp; omega)
    refine Ev.step (g := fun k => laws_markHandleS.l0 k ((pre ++ [mk6 x]) ++ suf) (nx6 x) (((pre ++ [mk6 x]).length : Nat) : Int)) (fun k => ?_) (by simpa [finT, marksT] using ih)
    simp only [laws_markHandleS.l0]
    rw [if_pos (by simp; omega), if_pos (by omega)]
    simp only [Option.bind_some, set_pre, rdT']
    rw [wrap_in (x := (pre.length : Int) + 1) (by omega) (by omega)]
    simp [mk6, nx6, nx]
theorem markI_l0 : ∀ (suf pre : List Int) (x : Int), (pre ++ suf).length ≤ 140737488351232 → Ev (fun k => laws_markIntS.l0 k (pre ++ suf) x (pre.length : Int)) (finI suf.length x, pre ++ marksI suf.length x)
  | [], pre, x, hl => by
    refine Ev.step (g := fun _ => some (x, pre ++ [])) (fun k => ?_) (Ev.const _)
    simp only [laws_markIntS.l0]
    rw [if_neg (by simp)]
  | h :: suf, pre, x, hl => by
    simp only [List.length_append, List.length_cons] at hl
    have ih := markI_l0 suf (pre ++ [x]) (nx x) (by simp; omega)
    refine Ev.step (g := fun k => laws_markIntS.l0 k ((pre ++ [x]) ++ suf) (nx x) (((pre ++ [x]).length : Nat) : Int)) (fun k => ?_) (by simpa [finI, marksI] using ih)
    simp only [laws_markIntS.l0]
    rw [if_pos (by simp; omega), if_pos (by omega)]
    simp only [set_pre]
    rw [wrap_in (x := (pre.length : Int) + 1) (by omega) (by omega)]
    simp [nx]
theorem mark_ev (S : List S46) (F : List Int) (x : Int) (hS : S.length ≤ 140737488351232) (hF : F.length ≤ 140737488351232) :
    Ev (fun k => laws_markTable.f k S F x) (finI F.length (finT S.length x), marksT S.length x, marksI F.length (finT S.length x)) := by
  unfold laws_markTable.f
  have e1 : Ev (fun k => laws_markHandleS.f k S x) (finT S.length x, marksT S.length x) := markT_l0 S [] x (by simpa using hS)
  have e2 : Ev (fun k => laws_markIntS.f k F (finT S.length x)) (finI F.length (finT S.length x), marksI F.length (finT S.length x)) := markI_l0 F [] _ (by simpa using hF)
  exact Ev.bind e1 (Ev.bind e2 (Ev.const _))
theorem heldT_l0 : ∀ (n : Nat) (pre : List S46) (x : Int), pre.length + n ≤ 140737488351232 → Ev (fun k => laws_heldHandleS.l0 k (pre ++ marksT n x) x (pre.length : Int)) (finT n x)
  | 0, pre, x, hl => by
    refine Ev.step (g := fun _ => some x) (fun k => ?_) (Ev.const _)
    show laws_heldHandleS.l0 (k + 1) (pre ++ []) x (pre.length : Int) = _
    simp only [laws_heldHandleS.l0]
    rw [if_neg (by simp)]
  | n + 1, pre, x, hl => by
    have ih := heldT_l0 n (pre ++ [mk6 x]) (nx6 x) (by simp; omega)
    refine Ev.step (g := fun k => laws_heldHandleS.l0 k ((pre ++ [mk6 x]) ++ marksT n (nx6 x)) (nx6 x) (((pre ++ [mk6 x]).length : Nat) : Int)) (fun k => ?_) ih
    show laws_heldHandleS.l0 (k + 1) (pre ++ mk6 x :: marksT n (nx6 x)) x (pre.length : Int) = _
    simp only [laws_heldHandleS.l0]
    rw [if_pos (by simp; omega), if_pos (by omega), rdT']
    rw [wrap_in (x := (pre.length : Int) + 1) (by omega) (by omega)]
    simp [mk6, nx6, nx]
theorem heldI_l0 : ∀ (n : Nat) (pre : List Int) (x : Int), pre.length + n ≤ 140737488351232 → Ev (fun k => laws_heldIntS.l0 k (pre ++ marksI n x) x (pre.length : Int)) (finI n x)
  | 0, pre, x, hl => by
    refine Ev.step (g := fun _ => some x) (fun k => ?_) (Ev.const _)
    show laws_heldIntS.l0 (k + 1) (pre ++ []) x (pre.length : Int) = _
    simp only [laws_heldIntS.l0]
    rw [if_neg (by simp)]
  | n + 1, pre, x, hl => by
    have ih := heldI_l0 n (pre ++ [x]) (nx x) (by simp; omega)
    refine Ev.step (g := fun k => laws_heldIntS.l0 k ((pre ++ [x]) ++ marksI n (nx x)) (nx x) (((pre ++ [x]).length : Nat) : Int)) (fun k => ?_) ih
    show laws_heldIntS.l0 (k + 1) (pre ++ x :: marksI n (nx x)) x (pre.length : Int) = _
    simp only [laws_heldIntS.l0]
    rw [if_pos (by simp; omega), if_pos (by omega), rdI']
    rw [wrap_in (x := (pre.length : Int) + 1) (by omega) (by omega)]
    simp [nx]
theorem held_ev (n m : Nat) (x : Int) (hn : n ≤ 140737488351232) (hm : m ≤ 140737488351232) (h0 : 0 ≤ x) (h1 : x ≤ 1000) :
    Ev (fun k => laws_heldTable.f k (marksT n x) (marksI m (finT n x)) x) (finI m (finT n x)) := by
  unfold laws_heldTable.f
  have e1 : Ev (fun k => laws_heldHandleS.f k (marksT n x) x) (finT n x) := heldT_l0 n [] x (by simpa using hn)
  have e2 : Ev (fun k => laws_heldIntS.f k (marksI m (finT n x)) (finT n x)) (finI m (finT n x)) := heldI_l0 m [] _ (by simpa using hm)
  have g1 := finT_in n x h0 (by omega)
  have g2 := finI_in m (finT n x) (by omega) (by omega)
  exact Ev.bind e1 (Ev.neg (by omega) (Ev.bind e2 (Ev.neg (by omega) (Ev.const _))))
theorem fin_pos (n m : Nat) (hn : n ≤ 140737488351232) (hm : m ≤ 140737488351232) : ¬ finI m (finT n 1) < 0 := by
  have g1 := finT_in n 1 (by omega) (by omega)
  have g2 := finI_in m (finT n 1) (by omega) (by omega)
  omega
end Go.Proofs.Ytoomeeoijbkmnaa.PH
