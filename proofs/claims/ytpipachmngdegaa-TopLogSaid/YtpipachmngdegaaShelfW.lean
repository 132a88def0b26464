/-
  The walks of chapter 4: where writs are held. The program's and the document's.
-/
import Derived.Test.YtpipachmngdegaaEq
import Derived.Test.YtpipachmngdegaaR9
import Derived.Test.YtpipachmngdegaaShelfSpec
import Derived.Test.YtpipachmngdegaaSame2
namespace Go.Proofs.Ytpipachmngdegaa
open Go Go.RowKit
set_option linter.unusedVariables false
set_option linter.unusedSimpArgs false
set_option maxRecDepth 100000


end Go.Proofs.Ytpipachmngdegaa
