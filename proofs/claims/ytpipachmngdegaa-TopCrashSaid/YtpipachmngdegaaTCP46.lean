import Derived.Test.YtpipachmngdegaaTCP40
import Derived.Test.YtpipachmngdegaaTCP45
section
namespace Go.Proofs.Ytpipachmngdegaa
open Go Go.RowKit
set_option linter.unusedVariables false
set_option linter.unusedSimpArgs false
set_option maxRecDepth 100000
structure uc where
  Rows:List Change
  Used:Int
  Many:Int
def zu (m:uc)(l:List Change):Int:=if 62<l.length then 2 else if ¬ dR l=0 then dR l else if 60<(bz m.Rows l).length∨m.Many<(l.length:Int)+1 then 9 else 0
def Ai (m:uc)(l:List Change):uc×Int :=
  if ¬ zu m l=0 then (m,zu m l) else (⟨bz m.Rows l,(if m.Many-m.Used<(l.length:Int)+1 then 0 else m.Used)+(l.length:Int)+1,m.Many⟩,0)
section
variable {m:uc} {l:List Change}
end
end Go.Proofs.Ytpipachmngdegaa
end
