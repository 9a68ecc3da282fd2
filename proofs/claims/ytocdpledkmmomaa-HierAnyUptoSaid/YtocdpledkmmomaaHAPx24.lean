import Derived.Test.YtocdpledkmmomaaHAPx0
import Derived.Test.YtocdpledkmmomaaHAPx5
import Derived.Test.YtocdpledkmmomaaHAGCommon
import Derived.Test.YtocdpledkmmomaaHAGUp
import Derived.Test.YtocdpledkmmomaaHAGIfaces
import Derived.Test.YtocdpledkmmomaaHAGShared
namespace Go.Proofs.Ytocdpledkmmomaa.P
open Go.RowKit Go.Proofs.YtocdpledkmmomaaW.PrintWords Go.Proofs.YtocdpledkmmomaaW.PrintLast Go.Proofs.YtocdpledkmmomaaW.PrintMore
attribute [local go_sem] max2_int min2_int max_two min_two max_three min_three max_four min_four   -- for this text's walks alone
set_option linter.unusedVariables false
set_option linter.unusedSimpArgs false













end Go.Proofs.Ytocdpledkmmomaa.P
namespace Go.Proofs.Ytocdpledkmmomaa.P
open Go.RowKit Go.Proofs.YtocdpledkmmomaaW.PrintWords Go.Proofs.YtocdpledkmmomaaW.PrintLast Go.Proofs.YtocdpledkmmomaaW.PrintMore
attribute [local go_sem] max2_int min2_int max_two min_two max_three min_three max_four min_four   -- for this text's walks alone
set_option linter.unusedVariables false
set_option linter.unusedSimpArgs false


end Go.Proofs.Ytocdpledkmmomaa.P
