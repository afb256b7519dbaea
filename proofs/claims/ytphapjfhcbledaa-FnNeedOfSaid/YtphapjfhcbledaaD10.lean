/- Contracts: the drawn cells. -/
import Derived.Test.YtphapjfhcbledaaD7
import Derived.Test.YtphapjfhcbledaaD8
namespace SG
open Go Go.RowKit Go.Proofs
set_option linter.unusedVariables false
set_option linter.unusedSimpArgs false
set_option maxRecDepth 100000
end SG
