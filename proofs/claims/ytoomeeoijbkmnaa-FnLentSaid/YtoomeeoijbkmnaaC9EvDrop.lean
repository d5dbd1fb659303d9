/-
  Plain laws about what the printed functions compute.
-/
import Derived.Test.YtoomeeoijbkmnaaC9EvLend
import Derived.Test.YtoomeeoijbkmnaaC9PHx15
import Derived.Test.YtoomeeoijbkmnaaC9PHx16
namespace Go.Proofs.Ytoomeeoijbkmnaa.PH
open Go.RowKit Go.Proofs.YtoomeeoijbkmnaaW.PrintWords Go.Proofs.YtoomeeoijbkmnaaW.PrintLast
set_option linter.unusedSimpArgs false
def dropR (m : Bool) (S : List S46) (F : List Int) (a r : Int) : List S46 × List Int × Bool × Int × Int × Bool × Int × Int × Int :=
  let q := findR S a r
  if q.2.2.2.2.2.2 = 0 then (if (m && !q.2.2.2.1) = true then (S, F, false, 0, 0, false, 0, 0, 6) else (if q.2.2.2.2.1 = 0 then (S.set a.toNat z46, F ++ [a], q.1, q.2.1, q.2.2.1, q.2.2.2.1, q.2.2.2.2.1, q.2.2.2.2.2.1, 0) else (S, F, false, 0, 0, false, 0, 0, 4))) else (S, F, false, 0, 0, false, 0, 0, q.2.2.2.2.2.2)
theorem dropR_len (m : Bool) (S : List S46) (F : List Int) (a r : Int) : (dropR m S F a r).1.length = S.length ∧ (dropR m S F a r).2.1.length ≤ F.length + 1 := by
  unfold dropR
  dsimp only
  repeat' split
  all_goals simp
end Go.Proofs.Ytoomeeoijbkmnaa.PH
