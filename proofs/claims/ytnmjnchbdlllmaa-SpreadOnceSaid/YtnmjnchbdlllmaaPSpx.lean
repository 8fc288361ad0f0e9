-- PRINTED by print.py (a twelfth state) out of the translation. Not trusted: Lean checks it.
import Derived.Test.YtnmjnchbdlllmaaPSpx0
import Derived.Test.YtnmjnchbdlllmaaPSpx1
import Derived.Test.YtnmjnchbdlllmaaPSpx2
import Derived.Test.YtnmjnchbdlllmaaPSpx3
import Derived.Test.YtnmjnchbdlllmaaPSpx4
namespace Go.Proofs.Ytnmjnchbdlllmaa.PSp
open Go.RowKit Go.Proofs.YtnmjnchbdlllmaaW.PrintWords Go.Proofs.YtnmjnchbdlllmaaW.PrintLast Go.Proofs.YtnmjnchbdlllmaaW.PrintMore
attribute [local go_sem] max2_int min2_int max_two min_two max_three min_three max_four min_four   -- for this text's walks alone
set_option linter.unusedVariables false
set_option linter.unusedSimpArgs false

end Go.Proofs.Ytnmjnchbdlllmaa.PSp
