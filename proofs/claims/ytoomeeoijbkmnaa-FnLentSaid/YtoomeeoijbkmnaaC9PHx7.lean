-- Printed by a program of this session (after the kit's print.sh, with contracts of its own beside): Lean checks it.
import Derived.Test.YtoomeeoijbkmnaaC9PHx0
import Derived.Test.YtoomeeoijbkmnaaC9PHx2
import Derived.Test.YtoomeeoijbkmnaaC9PHx4
import Derived.Test.YtoomeeoijbkmnaaC9PHx5
import Derived.Test.YtoomeeoijbkmnaaC9PHx6
namespace Go.Proofs.Ytoomeeoijbkmnaa.PH
open Go.RowKit Go.Proofs.YtoomeeoijbkmnaaW.PrintWords Go.Proofs.YtoomeeoijbkmnaaW.PrintLast Go.Proofs.YtoomeeoijbkmnaaW.PrintMore
attribute [local go_sem] max2_int min2_int max_two min_two max_three min_three max_four min_four   -- for this text's walks alone
set_option linter.unusedVariables false
set_option linter.unusedSimpArgs false

def laws_FnExactFindHandle.j0 : Nat → Bool → List (S60) → List Int → List (S46) → List Int → Option (Bool)
 | 0, _, _, _, _, _ => none
 | k + 1, x43, x180000, x180001, x202000, x202001 => if x43 = true then (some false) else ((laws_toTable.f k x180000 x180001).bind fun bt211 => ((laws_eqTable.f k x202000 x202001 bt211.1 bt211.2).bind fun t217 => (if t217 = true then (some true) else (some false))))
def laws_FnExactFindHandle.f (k : Nat) (l0_0 : List (S60)) (l0_1 : List Int) (a1 : Int) (a2 : Int) : Option (Bool) := (laws_szTable.f l0_0 l0_1 1048576).bind fun t180 => (if t180 < 0 then (some true) else ((laws_toTable.f k l0_0 l0_1).bind fun bt181 => ((spec_FindHandle.f k bt181.1 bt181.2 a1 a2).bind fun bt187 => ((laws_toTable.f k l0_0 l0_1).bind fun bt195 => ((impl_FindHandle.f k bt195.1 bt195.2 a1 a2).bind fun bt202 => ((laws_eqHandle.f bt202.1 bt202.2.1 bt202.2.2.1 bt202.2.2.2.1 bt202.2.2.2.2.1 bt202.2.2.2.2.2.1 bt187.1 bt187.2.1 bt187.2.2.1 bt187.2.2.2.1 bt187.2.2.2.2.1 bt187.2.2.2.2.2.1).bind fun t210 => (if t210 = true then (laws_FnExactFindHandle.j0 k (bt202.2.2.2.2.2.2 != bt187.2.2.2.2.2.2) l0_0 l0_1 bt195.1 bt195.2) else (laws_FnExactFindHandle.j0 k true l0_0 l0_1 bt195.1 bt195.2))))))))

end Go.Proofs.Ytoomeeoijbkmnaa.PH
