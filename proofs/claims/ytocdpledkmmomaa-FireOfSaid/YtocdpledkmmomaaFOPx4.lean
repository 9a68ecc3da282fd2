-- Written by a program of mine for this claim (see NOTES.md).
import Derived.Test.YtocdpledkmmomaaFOPx0
import Derived.Test.YtocdpledkmmomaaFOPx1
import Derived.Test.YtocdpledkmmomaaFOGClone
namespace Go.Proofs.Ytocdpledkmmomaa.P
open Go.RowKit Go.Proofs.YtocdpledkmmomaaW.PrintWords Go.Proofs.YtocdpledkmmomaaW.PrintLast Go.Proofs.YtocdpledkmmomaaW.PrintMore
attribute [local go_sem] max2_int min2_int max_two min_two max_three min_three max_four min_four   -- for this text's walks alone
set_option linter.unusedVariables false
set_option linter.unusedSimpArgs false

attribute [local go_sem high] eqA30
/-! ### garderobelaw17_great: function 9 -/

-- GIVEN: function 44 (slices_Clone_int_int), in Derived.Test.YtocdpledkmmomaaGClone

-- GIVEN: function 45 (api_Val), in Derived.Test.YtocdpledkmmomaaGClone

/-! ### shape_copied: function 42 -/

-- GIVEN: function 17 (shape_Push), in Derived.Test.YtocdpledkmmomaaGPush

/-! ### garderoberef16_None: function 20 -/

/-! ### garderoberef12_of: function 81 -/

/-! ### garderoberef12_constructor: function 82 -/

/-! ### garderoberef12_virtual: function 83 -/

/-! ### garderoberef12_static: function 84 -/

-- GIVEN: function 69 (garderoberef12_table), in Derived.Test.YtocdpledkmmomaaGTable

/-! ### garderoberef12_linked: function 70 -/

-- GIVEN: function 37 (garderoberef12_World), in Derived.Test.YtocdpledkmmomaaGWorld

/-! ### types_of: function 73 -/

/-! ### types_May: function 49 -/

end Go.Proofs.Ytocdpledkmmomaa.P
