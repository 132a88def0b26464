import Derived.Test.YtpipachmngdegaaTCP22
section
namespace Go.Proofs.Ytpipachmngdegaa
open Go
set_option linter.unusedVariables false
section
variable {l:List Change} {k:Nat} {x y:Change}
end
end Go.Proofs.Ytpipachmngdegaa
end
