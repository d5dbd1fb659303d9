-- Printed by a program of this session (after the kit's print.sh, with contracts of its own beside): Lean checks it.
import Derived.Test.YtoomeeoijbkmnaaC9PHx0
import Derived.Test.YtoomeeoijbkmnaaC9PHx2
import Derived.Test.YtoomeeoijbkmnaaC9PHx4
import Derived.Test.YtoomeeoijbkmnaaC9PHx6
import Derived.Test.YtoomeeoijbkmnaaC9PHx8
import Derived.Test.YtoomeeoijbkmnaaC9PHx9
import Derived.Test.YtoomeeoijbkmnaaC9PHx10
namespace Go.Proofs.Ytoomeeoijbkmnaa.PH
open Go.RowKit Go.Proofs.YtoomeeoijbkmnaaW.PrintWords Go.Proofs.YtoomeeoijbkmnaaW.PrintLast Go.Proofs.YtoomeeoijbkmnaaW.PrintMore
attribute [local go_sem] max2_int min2_int max_two min_two max_three min_three max_four min_four   -- for this text's walks alone
set_option linter.unusedVariables false
set_option linter.unusedSimpArgs false

mutual
def laws_FnExactReturnHandle.j0 : Nat → Int → Int → Int → Bool → List (S60) → List Int → List (S46) → List Int → List (S46) → List Int → List (S46) → List Int → Option (Bool)
 | 0, _, _, _, _, _, _, _, _, _, _, _, _ => none
 | k + 1, x1, x7, x10, x44, x298000, x298001, x313000, x313001, x320000, x320001, x328000, x328001 => if x44 = true then (some false) else ((laws_toTable.f k x298000 x298001).bind fun bt329 => ((laws_eqTable.f k x320000 x320001 bt329.1 bt329.2).bind fun t335 => (if t335 = true then ((laws_markTable.f k x320000 x320001 1).bind fun bt336 => (if bt336.1 < 0 then (laws_FnExactReturnHandle.j1 k x1 x7 true x298000 x298001 x313000 x313001 x328000 x328001) else ((laws_eqTable.f k x328000 x328001 x313000 x313001).bind fun t339 => (if t339 = true then (laws_FnExactReturnHandle.j1 k x1 x7 (x10 != x7) x298000 x298001 x313000 x313001 x328000 x328001) else (laws_FnExactReturnHandle.j1 k x1 x7 true x298000 x298001 x313000 x313001 x328000 x328001))))) else (some false))))
def laws_FnExactReturnHandle.j1 : Nat → Int → Int → Bool → List (S60) → List Int → List (S46) → List Int → List (S46) → List Int → Option (Bool)
 | 0, _, _, _, _, _, _, _, _, _ => none
 | k + 1, x1, x7, x65, x298000, x298001, x313000, x313001, x328000, x328001 => if x65 = true then (some false) else ((laws_markTable.f k x328000 x328001 1).bind fun bt340 => ((laws_heldTable.f k bt340.2.1 bt340.2.2 1).bind fun t343 => (if t343 < 0 then (some false) else (if t343 = bt340.1 then ((laws_toTable.f k x298000 x298001).bind fun bt344 => ((impl_ReturnHandle.f k bt344.1 bt344.2 x1).bind fun bt350 => ((laws_eqTable.f k bt350.1 bt350.2.1 x313000 x313001).bind fun t358 => (if t358 = true then (laws_FnExactReturnHandle.j2 k bt340.1 (bt350.2.2 != x7) bt340.2.1 bt340.2.2) else (laws_FnExactReturnHandle.j2 k bt340.1 true bt340.2.1 bt340.2.2))))) else (some false)))))
def laws_FnExactReturnHandle.j2 : Nat → Int → Bool → List (S46) → List Int → Option (Bool)
 | 0, _, _, _, _ => none
 | k + 1, x12, x92, x328000, x328001 => if x92 = true then (some false) else ((laws_heldTable.f k x328000 x328001 1).bind fun t359 => (if t359 < 0 then (some false) else (if t359 = x12 then (some true) else (some false))))
end
def laws_FnExactReturnHandle.f (k : Nat) (l0_0 : List (S60)) (l0_1 : List Int) (a1 : Int) : Option (Bool) := (laws_szTable.f l0_0 l0_1 1048576).bind fun t298 => (if t298 < 0 then (some true) else ((laws_toTable.f k l0_0 l0_1).bind fun bt299 => ((spec_ReturnHandle.f k bt299.1 bt299.2 a1).bind fun bt305 => ((laws_toTable.f k l0_0 l0_1).bind fun bt313 => ((impl_ReturnHandle.f k bt313.1 bt313.2 a1).bind fun bt320 => ((laws_eqTable.f k bt320.1 bt320.2.1 bt305.1 bt305.2.1).bind fun t328 => (if t328 = true then (laws_FnExactReturnHandle.j0 k a1 bt305.2.2 bt320.2.2 (bt320.2.2 != bt305.2.2) l0_0 l0_1 bt305.1 bt305.2.1 bt313.1 bt313.2 bt320.1 bt320.2.1) else (laws_FnExactReturnHandle.j0 k a1 bt305.2.2 bt320.2.2 true l0_0 l0_1 bt305.1 bt305.2.1 bt313.1 bt313.2 bt320.1 bt320.2.1))))))))

end Go.Proofs.Ytoomeeoijbkmnaa.PH
