/- Contracts: the drawn formulas. -/
import Derived.Test.YtllepoepfkobfaaC6
import Derived.Test.YtllepoepfkobfaaD4
namespace SG
open Go Go.RowKit Go.Proofs
set_option linter.unusedVariables false
set_option linter.unusedSimpArgs false
set_option maxRecDepth 100000
end SG
