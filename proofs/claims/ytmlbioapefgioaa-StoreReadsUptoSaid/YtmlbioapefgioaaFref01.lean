/- The functions of package ref01, as plain functions, and that the program computes them. Printed by a program of this work out of the evaluator. -/
import Derived.Test.YtmlbioapefgioaaEn
import Derived.Tactics
set_option linter.unusedVariables false
namespace Go.Proofs.Ytmlbioapefgioaa.Va
noncomputable section
open Go
set_option maxRecDepth 100000

/-! instar/instarref01.Need -/
namespace ref01_Need
abbrev TA : Type := ((Int × Unit) × Unit)
def t (n : Int) : Tw Int :=
 (.bb (decide (n < (1 : Int)))
 (.ret (0 : Int))
 (.ret (w64 ((w64 (Int.tdiv n (4 : Int))) + (w64 (Int.tdiv (w64 ((Int.tmod n (4 : Int)) + (3 : Int))) (4 : Int)))))))
def c (n : Int) : Option Int := (t n).run
def tl (l : TA) : Tw Int := t l.1.1
def pA : Pt := (jC .nl)
def pH : Pt := .nl
def v (l : TA) (y : Int) : AV U := jI y
def hh (l : TA) (y : Int) : Hp U := []
def A : AFun U := mkA pA pH (X := Int) (fun l => (tl l).run) sp1 v hh
def body := bodyOf Try.f98
def E : Env U := E0.mk5 [] [] [] [] []
theorem hk : HK E Try.f98 [] pA pH tl v hh := fun _ _ _ => by kernel_rfl
theorem og : SoundF Try.prog cc 98 A ∧ FnOK Try.prog 98 :=
 og_of (E := E) P_mixed (E0_ok.mk5 _ _ _ _ _) (gam_of all_nil all_nil) Try.func98 (c := body) (by kernel_rfl)
    (just_by (by kernel_rfl) (by kernel_rfl) all_nil all_nil) [] sp1_ok hk (by kernel_rfl)
end ref01_Need

end
end Go.Proofs.Ytmlbioapefgioaa.Va
