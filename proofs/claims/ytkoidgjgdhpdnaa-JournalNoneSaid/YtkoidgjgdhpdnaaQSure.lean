/- Bits that went up in sealed words: they are told, unless none did. -/
import Derived.Test.YtkoidgjgdhpdnaaQX
import Derived.Test.YtkoidgjgdhpdnaaQZeros
namespace Go.Proofs.Ytkoidgjgdhpdnaa.Pure
open Go Go.Proofs.Ytkoidgjgdhpdnaa.Va
set_option linter.unusedVariables false
set_option linter.unusedSimpArgs false

/-- One word is the other with bits raised. -/
def Up (a b : Int) : Prop := (0 ≤ b ∧ b < 4294967296) ∧ a ≤ b ∧ zer b ≤ zer a ∧ (zer b = zer a → b = a)
/-- Bits raised in the first words, where they may be. -/
def raisP (P : Nat → Bool) (s u : List Int) (m j : Nat) : Int := if j < m ∧ P j = true then bOr .u32 (s.getD j 0) (u.getD j 0) else s.getD j 0
def orP (P : Nat → Bool) (s u : List Int) (m : Nat) : List Int := (List.range s.length).map (raisP P s u m)
def sameP (P : Nat → Bool) (s u : List Int) : Nat → Bool
  | 0 => true
  | m + 1 => sameP P s u m && (!P m || (bOr .u32 (s.getD m 0) (u.getD m 0) == s.getD m 0))
section
variable {P : Nat → Bool} {s u : List Int} {m j : Nat}
end

end Go.Proofs.Ytkoidgjgdhpdnaa.Pure
