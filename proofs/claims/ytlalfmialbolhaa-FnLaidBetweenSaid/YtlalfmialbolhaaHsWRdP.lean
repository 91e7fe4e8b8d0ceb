/- Walks: pictures drawn. -/
import Derived.Test.YtlalfmialbolhaaHsWRd
import Derived.Test.YtlalfmialbolhaaHsWEl
import Derived.Test.YtlalfmialbolhaaHsDraw
import Derived.Test.YtlalfmialbolhaaHsPic
namespace Go.Proofs.Ytlalfmialbolhaa
open Go.Hs
set_option maxRecDepth 10000
set_option maxHeartbeats 4000000
set_option linter.unusedVariables false
set_option linter.unusedSimpArgs false

end Go.Proofs.Ytlalfmialbolhaa
