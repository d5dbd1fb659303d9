/-
  Plain laws about what the printed functions compute.
-/
import Derived.Test.YtoomeeoijbkmnaaC9EvRet
import Derived.Test.YtoomeeoijbkmnaaC9PHx13
import Derived.Test.YtoomeeoijbkmnaaC9PHx14
namespace Go.Proofs.Ytoomeeoijbkmnaa.PH
open Go.RowKit Go.Proofs.YtoomeeoijbkmnaaW.PrintWords Go.Proofs.YtoomeeoijbkmnaaW.PrintLast
set_option linter.unusedSimpArgs false
theorem findR_ok {S : List S46} {a r : Int} (h : (findR S a r).2.2.2.2.2.2 = 0) : 0 ≤ a ∧ a < S.length := by
  unfold findR at h
  by_cases c : 0 ≤ a ∧ a < S.length ∧ (rd_T46 S a).f0 = true
  · exact ⟨c.1, c.2.1⟩
  · rw [if_neg c] at h
    simp at h
theorem find_bad {S : List S46} {F : List Int} (a r : Int) (h : Ev (fun k => impl_GoodTable.f k S F) false) : Ev (fun k => impl_FindHandle.f k S F a r) (false, 0, 0, false, 0, 0, 1) := by
  unfold impl_FindHandle.f
  exact Ev.bind h (Ev.neg (by simp) (Ev.const _))
theorem find_good {S : List S46} {F : List Int} (a r : Int) (h : Ev (fun k => impl_GoodTable.f k S F) true) : Ev (fun k => impl_FindHandle.f k S F a r) (findR S a r) := by
  unfold impl_FindHandle.f
  exact Ev.bind h (Ev.pos rfl (Ev.of (impl_find_ev S a r)))
def lendR (S : List S46) (F : List Int) (a r : Int) : List S46 × List Int × Bool × Int × Int × Bool × Int × Int × Int :=
  let q := findR S a r
  if q.2.2.2.2.2.2 = 0 then (if q.2.2.2.2.1 = 1000 then (S, F, false, 0, 0, false, 0, 0, 4) else (S.set a.toNat ⟨(rd_T46 S a).f0, (rd_T46 S a).f1, (rd_T46 S a).f2, (rd_T46 S a).f3, wrap64 ((rd_T46 S a).f4 + 1), (rd_T46 S a).f5⟩, F, q.1, q.2.1, q.2.2.1, q.2.2.2.1, q.2.2.2.2.1, q.2.2.2.2.2.1, 0)) else (S, F, false, 0, 0, false, 0, 0, q.2.2.2.2.2.2)
theorem lendR_len (S : List S46) (F : List Int) (a r : Int) : (lendR S F a r).1.length = S.length ∧ (lendR S F a r).2.1.length = F.length := by
  unfold lendR
  dsimp only
  repeat' split
  all_goals simp
end Go.Proofs.Ytoomeeoijbkmnaa.PH
