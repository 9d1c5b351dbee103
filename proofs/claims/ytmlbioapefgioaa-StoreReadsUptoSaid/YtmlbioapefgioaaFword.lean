/- The functions of package word, as plain functions, and that the program computes them. Printed by a program of this work out of the evaluator. -/
import Derived.Test.YtmlbioapefgioaaEn
import Derived.Tactics
set_option linter.unusedVariables false
namespace Go.Proofs.Ytmlbioapefgioaa.Va
noncomputable section
open Go
set_option maxRecDepth 100000

/-! instar/word.Need -/
namespace word_Need
abbrev TA : Type := ((Int × Unit) × Unit)
def t (n : Int) : Tw Int :=
 (.bb (decide (n < (1 : Int)))
 (.ret (0 : Int))
 (.ret (w64 ((w64 (Int.tdiv (w64 (n - (1 : Int))) (4 : Int))) + (1 : Int)))))
def c (n : Int) : Option Int := (t n).run
def tl (l : TA) : Tw Int := t l.1.1
def pA : Pt := (jC .nl)
def pH : Pt := .nl
def v (l : TA) (y : Int) : AV U := jI y
def hh (l : TA) (y : Int) : Hp U := []
def A : AFun U := mkA pA pH (X := Int) (fun l => (tl l).run) sp1 v hh
def body := bodyOf Try.f119
def E : Env U := E0.mk5 [] [] [] [] []
theorem hk : HK E Try.f119 [] pA pH tl v hh := fun _ _ _ => by kernel_rfl
theorem og : SoundF Try.prog cc 119 A ∧ FnOK Try.prog 119 :=
 og_of (E := E) P_mixed (E0_ok.mk5 _ _ _ _ _) (gam_of all_nil all_nil) Try.func119 (c := body) (by kernel_rfl)
    (just_by (by kernel_rfl) (by kernel_rfl) all_nil all_nil) [] sp1_ok hk (by kernel_rfl)
end word_Need

end
end Go.Proofs.Ytmlbioapefgioaa.Va
