/-
  The walks of telling an error by its number.
-/
import Derived.Test.YtoaneidhfcljmaaEq
import Derived.Test.YtoaneidhfcljmaaR6
namespace Go.Proofs.Ytoaneidhfcljmaa
open Go Go.RowKit
set_option linter.unusedVariables false
set_option maxRecDepth 100000


end Go.Proofs.Ytoaneidhfcljmaa
