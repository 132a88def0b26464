/-
  The walks of telling an error by its number.
-/
import Derived.Test.YtmbhcpaaaeobmaaEq
import Derived.Test.YtmbhcpaaaeobmaaR6
namespace Go.Proofs.Ytmbhcpaaaeobmaa
open Go Go.RowKit
set_option linter.unusedVariables false
set_option maxRecDepth 100000


end Go.Proofs.Ytmbhcpaaaeobmaa
