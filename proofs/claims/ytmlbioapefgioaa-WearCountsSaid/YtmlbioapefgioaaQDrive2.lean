/- Drives: new ones; what must come at any rate. -/
import Derived.Test.YtmlbioapefgioaaQDrive1
namespace Go.Proofs.Ytmlbioapefgioaa.Pure
open Go Go.Proofs.Ytmlbioapefgioaa.Va
set_option linter.unusedVariables false
set_option linter.unusedSimpArgs false

end Go.Proofs.Ytmlbioapefgioaa.Pure
