/-
  Plain laws about what the printed functions compute.
-/
import Derived.Test.YtoomeeoijbkmnaaC9EvDraw3
import Derived.Test.YtoomeeoijbkmnaaC9PHx19
namespace Go.Proofs.Ytoomeeoijbkmnaa.PH
open Go.RowKit Go.Proofs.YtoomeeoijbkmnaaW.PrintWords Go.Proofs.YtoomeeoijbkmnaaW.PrintLast
set_option linter.unusedSimpArgs false
theorem sameInts_l0 (S : List Int) (hl : S.length ≤ 140737488351232) (d : Nat) : ∀ (i : Nat), i ≤ S.length → S.length - i = d → Ev (fun k => laws_sameInts.l0 k S S (S.length : Int) (i : Int)) true := by
  induction d with
  | zero =>
    intro i h1 h2
    refine Ev.step (g := fun _ => some true) (fun k => ?_) (Ev.const _)
    simp only [laws_sameInts.l0]
    rw [if_neg (by omega)]
  | succ d ih =>
    intro i h1 h2
    refine Ev.step (fun k => ?_) (ih (i + 1) (by omega) (by omega))
    simp only [laws_sameInts.l0]
    rw [if_pos (by omega), if_pos (by omega), if_pos (by omega), if_pos (by omega), if_pos trivial, wrap_in (by omega) (by omega)]
    rfl
theorem sameTables_l0 (S : List S46) (F : List Int) (hl : S.length ≤ 140737488351232) (d : Nat) : ∀ (i : Nat), i ≤ S.length → S.length - i = d → Ev (fun k => laws_sameTables.l0 k (S.length : Int) (i : Int) S F S F) true := by
  induction d with
  | zero =>
    intro i h1 h2
    refine Ev.step (g := fun _ => some true) (fun k => ?_) (Ev.const _)
    simp only [laws_sameTables.l0]
    rw [if_neg (by omega)]
  | succ d ih =>
    intro i h1 h2
    refine Ev.step (fun k => ?_) (ih (i + 1) (by omega) (by omega))
    simp only [laws_sameTables.l0]
    rw [if_pos (by omega), if_pos (by omega), if_pos (by omega), if_pos (by omega), if_neg (by simp), wrap_in (by omega) (by omega)]
    rfl
theorem sameTables_ev (S : List S46) (F : List Int) (h : S.length ≤ 140737488351232) (h' : F.length ≤ 140737488351232) : Ev (fun k => laws_sameTables.f k S F S F) true := by
  unfold laws_sameTables.f
  refine Ev.pos rfl (Ev.bind (a := true) ?_ ?_)
  · unfold laws_sameInts.f
    exact Ev.pos rfl (sameInts_l0 F h' F.length 0 (by omega) (by omega))
  · refine Ev.step (g := fun k => laws_sameTables.l0 k (S.length : Int) ((0 : Nat) : Int) S F S F) (fun k => ?_) (sameTables_l0 S F h S.length 0 (by omega) (by omega))
    simp only [laws_sameTables.j0]
    rw [if_neg (by decide)]
    rfl
theorem good_true {S : List S46} {F : List Int} (g : GS S F) : Ev (fun k => impl_GoodTable.f k S F) true := by
  obtain ⟨g1, g2⟩ := gs_len g
  obtain ⟨b, hb, h1, -⟩ := good_both S (by omega) F (by omega)
  obtain rfl := hb.mpr g
  exact h1
theorem findR_at {S : List S46} {a : Int} {h : S46} (h0 : 0 ≤ a) (h1 : a < S.length) (e : rd_T46 S a = h) (hu : h.f0 = true) (r : Int) : findR S a r = if h.f1 = r then (h.f0, h.f1, h.f2, h.f3, h.f4, h.f5, 0) else (false, 0, 0, false, 0, 0, 3) := by
  unfold findR
  rw [e, if_pos ⟨h0, h1, hu⟩]
end Go.Proofs.Ytoomeeoijbkmnaa.PH
