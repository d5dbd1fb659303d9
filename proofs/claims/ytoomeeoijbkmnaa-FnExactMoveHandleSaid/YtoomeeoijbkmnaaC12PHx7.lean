-- Printed by a program of this session (after the kit's print.sh, with contracts of its own beside): Lean checks it.
import Derived.Test.YtoomeeoijbkmnaaC12PHx0
import Derived.Test.YtoomeeoijbkmnaaC12PHx2
import Derived.Test.YtoomeeoijbkmnaaC12PHx4
import Derived.Test.YtoomeeoijbkmnaaC12PHx5
import Derived.Test.YtoomeeoijbkmnaaC12PHx6
namespace Go.Proofs.Ytoomeeoijbkmnaa.PH
open Go.RowKit Go.Proofs.YtoomeeoijbkmnaaW.PrintWords Go.Proofs.YtoomeeoijbkmnaaW.PrintLast Go.Proofs.YtoomeeoijbkmnaaW.PrintMore
attribute [local go_sem] max2_int min2_int max_two min_two max_three min_three max_four min_four   -- for this text's walks alone
set_option linter.unusedVariables false
set_option linter.unusedSimpArgs false

end Go.Proofs.Ytoomeeoijbkmnaa.PH
