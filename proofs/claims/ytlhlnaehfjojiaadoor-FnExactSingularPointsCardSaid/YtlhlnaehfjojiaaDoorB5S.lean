/- Contracts of the laws' helpers for lists of lines and conics; marks in lists of arrays. Printed by gen_b6.py. -/
import Derived.Test.YtlhlnaehfjojiaaDoorB4
import Derived.Test.YtlhlnaehfjojiaaDoorB5
namespace Go.Proofs.YtlhlnaehfjojiaaDoor
attribute [local irreducible] CW OW QW QOp Con thenP inBlockP
set_option maxRecDepth 10000
set_option linter.unusedSimpArgs false
set_option linter.unusedVariables false
end Go.Proofs.YtlhlnaehfjojiaaDoor
