/- Drives: what a run is behind a Write, or Fresh, with power and no fuse. -/
import Derived.Test.YtkoidgjgdhpdnaaQDrive3
namespace Go.Proofs.Ytkoidgjgdhpdnaa.Pure
open Go Go.Proofs.Ytkoidgjgdhpdnaa.Va
set_option linter.unusedVariables false
set_option linter.unusedSimpArgs false

/-- Where words are written, they stand; elsewhere it is as it was. -/
def putAt (W w : List Int) (a i : Nat) : Int := if a ≤ i ∧ i < a + w.length then w.getD (i - a) 0 else W.getD i 0
theorem first_ok {n : Nat} {s : Fl} (hD : s.D = false) {j b c : Nat} (hj : j < s.V.length) (hb : b + c ≤ n) : s.first n (j : Int) (b : Int) (c : Int) = (((j * n + b : Nat) : Int), 0) := by
  unfold Fl.first
  rw [if_neg (by omega), hD, if_neg (by simp), Int.toNat_natCast, Int.toNat_natCast]
section
variable {n : Nat} {s : Fl} (hs : FlOK n s) (hD : s.D = false) (hA : s.A < 0) {w : List Int} (hw : Words w)
include hs hD hA hw
end

end Go.Proofs.Ytkoidgjgdhpdnaa.Pure
