import Derived.Test.YtocdpledkmmomaaFAPx0
import Derived.Test.YtocdpledkmmomaaFAPx1
import Derived.Test.YtocdpledkmmomaaFAGClone
namespace Go.Proofs.Ytocdpledkmmomaa.P
open Go.RowKit Go.Proofs.YtocdpledkmmomaaW.PrintWords Go.Proofs.YtocdpledkmmomaaW.PrintLast Go.Proofs.YtocdpledkmmomaaW.PrintMore
attribute [local go_sem] max2_int min2_int max_two min_two max_three min_three max_four min_four   -- for this text's walks alone
set_option linter.unusedVariables false
set_option linter.unusedSimpArgs false

attribute [local go_sem high] eqA30















end Go.Proofs.Ytocdpledkmmomaa.P
