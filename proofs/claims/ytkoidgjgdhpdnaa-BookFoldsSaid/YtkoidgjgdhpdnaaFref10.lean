/- The functions of package ref10, as plain functions, and that the program computes them. Printed by a program of this work out of the evaluator. -/
import Derived.Test.YtkoidgjgdhpdnaaEn
import Derived.Tactics
import Derived.Test.YtkoidgjgdhpdnaaFref02
set_option linter.unusedVariables false
namespace Go.Proofs.Ytkoidgjgdhpdnaa.Va
noncomputable section
open Go
set_option maxRecDepth 100000

/-! instar/instarref10.Lay -/
namespace ref10_Lay
abbrev TA : Type := (((Int × (Int × ((List Int) × Unit))) × Unit) × Unit)
def t (f_0 f_1 : Int) (f_2 : (List Int)) : Tw (List Int) :=
 (.opt (ref02_Twin.c (((List.length f_2) : Nat) : Int)) fun z1 =>
 (.dd ((((((List.length (z1 :: ((w32 ((w32 ((w32 f_0) * (1073741824 : Int))) + (w32 f_1))) :: ([] : List (Int))))) + (List.length f_2)) * (4 : Nat)) ≤ (140737488355328 : Nat)) ∧ (((List.length (z1 :: ((w32 ((w32 ((w32 f_0) * (1073741824 : Int))) + (w32 f_1))) :: ([] : List (Int))))) + (List.length f_2)) ≤ (140737488355328 : Nat)))) inferInstance
 (.opt (ref02_Seal.c ((z1 :: ((w32 ((w32 ((w32 f_0) * (1073741824 : Int))) + (w32 f_1))) :: ([] : List (Int)))) ++ f_2)) fun z2 =>
 (.ret z2))
 .no))
def c (f_0 f_1 : Int) (f_2 : (List Int)) : Option (List Int) := (t f_0 f_1 f_2).run
def tl (l : TA) : Tw (List Int) := t l.1.1.1 l.1.1.2.1 l.1.1.2.2.1
def pA : Pt := (.cs (.agg (jC (jC (.cs (.sl 3) .nl)))) .nl)
def pH : Pt := .nl
def v (l : TA) (y : (List Int)) : AV U := .own 0
def hh (l : TA) (y : (List Int)) : Hp U := [.row 3 y true]
def A : AFun U := mkA pA pH (X := (List Int)) (fun l => (tl l).run) sp1 v hh
def body := bodyOf Try.f50
def E : Env U := E0.mk5 [(76, ref02_Twin.A), (77, ref02_Seal.A)] [] [] [] []
theorem hk : HK E Try.f50 [] pA pH tl v hh := fun _ _ _ => by kernel_rfl
theorem og : SoundF Try.prog cc 50 A ∧ FnOK Try.prog 50 :=
 og_of (E := E) P_mixed (E0_ok.mk5 _ _ _ _ _) (gam_of (all_cons ref02_Twin.og (all_cons ref02_Seal.og all_nil)) no_ro) Try.func50 (c := body) (by kernel_rfl)
    (just_by (by kernel_rfl) (by kernel_rfl) all_nil all_nil) [] sp1_ok hk (by kernel_rfl)
end ref10_Lay

end
end Go.Proofs.Ytkoidgjgdhpdnaa.Va
