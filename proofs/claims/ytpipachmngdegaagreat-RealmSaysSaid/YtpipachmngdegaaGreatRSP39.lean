import Derived.Test.YtpipachmngdegaaGreatRSP23
import Derived.Test.YtpipachmngdegaaGreatRSP24
import Derived.Test.YtpipachmngdegaaGreatRSP16
section
namespace Go.Proofs.YtpipachmngdegaaGreat
open Go Go.RowKit
set_option linter.unusedVariables false
set_option maxRecDepth 100000
section
variable {α:Type} {p:α→Bool} {l:List α} {j:Nat} {x:α}
end
end Go.Proofs.YtpipachmngdegaaGreat
end
