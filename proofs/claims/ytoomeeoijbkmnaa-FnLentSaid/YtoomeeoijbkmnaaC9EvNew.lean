/-
  Plain laws about what the printed functions compute.
-/
import Derived.Test.YtoomeeoijbkmnaaC9EvRet
import Derived.Test.YtoomeeoijbkmnaaC9PHx12
import Derived.Test.YtoomeeoijbkmnaaC9PHx13
namespace Go.Proofs.Ytoomeeoijbkmnaa.PH
open Go.RowKit Go.Proofs.YtoomeeoijbkmnaaW.PrintWords Go.Proofs.YtoomeeoijbkmnaaW.PrintLast
set_option linter.unusedSimpArgs false
def newR (S : List S46) (F : List Int) (h : S46) : List S46 × List Int × Int × Int :=
  if hok h = true then (if h.f4 = 0 then (if 0 < F.length then (S.set (rd F ((F.length : Int) - 1)).toNat h, F.take (F.length - 1), rd F ((F.length : Int) - 1), 0) else (if S.length = 40 then (S, F, 0, 5) else (S ++ [h], F, (S.length : Int), 0))) else (S, F, 0, 1)) else (S, F, 0, 1)
theorem newR_len (S : List S46) (F : List Int) (h : S46) : (newR S F h).1.length ≤ S.length + 1 ∧ (newR S F h).2.1.length ≤ F.length := by
  unfold newR
  repeat' split
  all_goals simp
  all_goals omega
theorem last_in {S : List S46} {F : List Int} (g : GS S F) (hF : 0 < F.length) : 0 ≤ rd F ((F.length : Int) - 1) ∧ rd F ((F.length : Int) - 1) < S.length := by
  have hm : rd F ((F.length : Int) - 1) ∈ F := by
    unfold rd
    have e : ((F.length : Int) - 1).toNat = F.length - 1 := by omega
    rw [e, List.getD_eq_getElem?_getD, List.getElem?_eq_getElem (by omega), Option.getD_some]
    exact List.getElem_mem _
  exact ⟨(g.2.1 _ hm).1, (g.2.1 _ hm).2.1⟩
end Go.Proofs.Ytoomeeoijbkmnaa.PH
