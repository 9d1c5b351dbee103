/- Drives: what a run is behind a Write, or Fresh, with power and no fuse. -/
import Derived.Test.YtnlclchlnngdnaaQDrive3
namespace Go.Proofs.Ytnlclchlnngdnaa.Pure
open Go Go.Proofs.Ytnlclchlnngdnaa.Va
set_option linter.unusedVariables false
set_option linter.unusedSimpArgs false

/-- Where words are written, they stand; elsewhere it is as it was. -/
def putAt (W w : List Int) (a i : Nat) : Int := if a ≤ i ∧ i < a + w.length then w.getD (i - a) 0 else W.getD i 0
section
variable {n : Nat} {s : Fl} (hs : FlOK n s) (hD : s.D = false) (hA : s.A < 0) {w : List Int} (hw : Words w)
include hs hD hA hw
end

end Go.Proofs.Ytnlclchlnngdnaa.Pure
