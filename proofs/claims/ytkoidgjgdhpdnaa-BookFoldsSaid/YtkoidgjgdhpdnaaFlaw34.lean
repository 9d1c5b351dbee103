/- The functions of package law34, as plain functions, and that the program computes them. Printed by a program of this work out of the evaluator. -/
import Derived.Test.YtkoidgjgdhpdnaaEn
import Derived.Tactics
import Derived.Test.YtkoidgjgdhpdnaaFbook
set_option linter.unusedVariables false
namespace Go.Proofs.Ytkoidgjgdhpdnaa.Va
noncomputable section
open Go
set_option maxRecDepth 100000

/-! instar/instarlaw34.awake -/
namespace law34_awake
abbrev TA : Type := (Unit × Unit)
def t : Tw Bool :=
 (.opt (book_Lay.c (0 : Int) (1 : Int) (0 : Int) false (0 : Int) (0 : Int) (0 : Int) (0 : Int) (0 : Int) (0 : Int) (0 : Int) (0 : Int) (0 : Int) (0 : Int) (0 : Int) (0 : Int) (2 : Int) (3 : Int) (1 : Int) (0 : Int) (0 : Int) (0 : Int) (0 : Int) (0 : Int) (0 : Int) (0 : Int) (0 : Int) (4 : Int) (5 : Int) (-(1 : Int)) (0 : Int)) fun z1 =>
 (.bb ((((List.length z1.2) : Nat) : Int) == (26 : Int))
 (.dd ((((0 : Int) ≤ (0 : Int)) ∧ ((0 : Int) < (((List.length z1.2) : Nat) : Int)))) inferInstance
 (.opt (z1.2)[(Int.toNat (0 : Int))]? fun z2 =>
 (.bb (z2 == (256 : Int))
 (.dd ((((0 : Int) ≤ (2 : Int)) ∧ ((2 : Int) < (((List.length z1.2) : Nat) : Int)))) inferInstance
 (.opt (z1.2)[(Int.toNat (2 : Int))]? fun z3 =>
 (.bb (z3 == (4 : Int))
 (.dd ((((0 : Int) ≤ (3 : Int)) ∧ ((3 : Int) < (((List.length z1.2) : Nat) : Int)))) inferInstance
 (.opt (z1.2)[(Int.toNat (3 : Int))]? fun z4 =>
 (.bb (z4 == (5 : Int))
 (.dd ((((0 : Int) ≤ (4 : Int)) ∧ ((4 : Int) < (((List.length z1.2) : Nat) : Int)))) inferInstance
 (.opt (z1.2)[(Int.toNat (4 : Int))]? fun z5 =>
 (.bb (z5 == (0 : Int))
 (.bb (z1.1 == (0 : Int))
 (.opt (book_Right.c (0 : Int) (1 : Int) (0 : Int) false (0 : Int) (0 : Int) (0 : Int) (0 : Int) (0 : Int) (0 : Int) (0 : Int) (0 : Int) (0 : Int) (0 : Int) (0 : Int) (0 : Int) (2 : Int) (3 : Int) (1 : Int) (0 : Int) (0 : Int) (0 : Int) (0 : Int) (0 : Int) (0 : Int) (0 : Int) (0 : Int) (4 : Int) (5 : Int) (-(1 : Int)) (0 : Int)) fun z6 =>
 (.bb z6
 (.opt (book_Right.c (0 : Int) (0 : Int) (0 : Int) false (0 : Int) (0 : Int) (0 : Int) (0 : Int) (0 : Int) (0 : Int) (0 : Int) (0 : Int) (0 : Int) (0 : Int) (0 : Int) (0 : Int) (0 : Int) (0 : Int) (0 : Int) (0 : Int) (0 : Int) (0 : Int) (0 : Int) (0 : Int) (0 : Int) (0 : Int) (0 : Int) (0 : Int) (0 : Int) (0 : Int) (0 : Int)) fun z7 =>
 (.ret (!z7)))
 (.ret false)))
 (.ret false))
 (.ret false)))
 .no)
 (.ret false)))
 .no)
 (.ret false)))
 .no)
 (.ret false)))
 .no)
 (.ret false)))
def c : Option Bool := (t).run
def tl (l : TA) : Tw Bool := t
def cl (l : TA) : Option Bool := c
def pA : Pt := .nl
def pH : Pt := .nl
def v (l : TA) (y : Bool) : AV U := jB y
def hh (l : TA) (y : Bool) : Hp U := []
def A : AFun U := mkA pA pH (X := Bool) cl sp1 v hh
def body := bodyOf Try.f22
def E : Env U := E0.mk5 [(44, book_Lay.A), (45, book_Right.A)] [] [] [] []
theorem hk : HK E Try.f22 [] pA pH tl v hh := fun _ _ _ => by kernel_rfl
theorem og : SoundF Try.prog cc 22 A ∧ FnOK Try.prog 22 :=
 og_of (E := E) P_mixed (E0_ok.mk5 _ _ _ _ _) (gam_of (all_cons book_Lay.og (all_cons book_Right.og all_nil)) no_ro) Try.func22 (c := body) (by kernel_rfl)
    (just_by (by kernel_rfl) (by kernel_rfl) all_nil all_nil) [] sp1_ok hk (by kernel_rfl)
end law34_awake

end
end Go.Proofs.Ytkoidgjgdhpdnaa.Va
