import Derived.Test.YtpipachmngdegaaSSP27
import Derived.Test.YtpipachmngdegaaSSP44
section
namespace Go.Proofs.Ytpipachmngdegaa
open Go Go.RowKit
set_option linter.unusedVariables false
set_option linter.unusedSimpArgs false
set_option maxRecDepth 100000
end Go.Proofs.Ytpipachmngdegaa
end
