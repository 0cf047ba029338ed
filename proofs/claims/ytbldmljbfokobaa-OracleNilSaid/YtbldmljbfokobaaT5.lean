/- Lists of bytes: contracts. Conditions: those that each theorem states. -/
import Derived.Test.YtbldmljbfokobaaT4
namespace Go.Proofs.Ytbldmljbfokobaa
open Go.Vc Go.RowKit
set_option linter.unusedVariables false
set_option linter.unusedSimpArgs false
set_option maxRecDepth 20000

end Go.Proofs.Ytbldmljbfokobaa
