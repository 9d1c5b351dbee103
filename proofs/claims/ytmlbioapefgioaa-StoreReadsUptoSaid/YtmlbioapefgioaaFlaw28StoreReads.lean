/- The functions of package law28StoreReads, as plain functions, and that the program computes them. Printed by a program of this work out of the evaluator. -/
import Derived.Test.YtmlbioapefgioaaEn
import Derived.Tactics
import Derived.Test.YtmlbioapefgioaaFlaw28
import Derived.Test.YtmlbioapefgioaaFref14
import Derived.Test.YtmlbioapefgioaaFref18
import Derived.Test.YtmlbioapefgioaaFref20
import Derived.Test.YtmlbioapefgioaaFref24
import Derived.Test.YtmlbioapefgioaaFref28
import Derived.Test.YtmlbioapefgioaaFstore
set_option linter.unusedVariables false
namespace Go.Proofs.Ytmlbioapefgioaa.Va
noncomputable section
open Go
set_option maxRecDepth 100000

/-! instar/instarlaw28.StoreReads -/
namespace law28_StoreReads
abbrev TA : Type := (((Int × ((List FormV) × Unit)) × ((List (List ItemV)) × ((Int × (Int × (Int × ((List ValueV) × Unit)))) × Unit))) × Unit)
def t (s__0 : Int) (s__1 : (List FormV)) (l_ : (List (List ItemV))) (a_0 a_1 a_2 : Int) (a_3 : (List ValueV)) : Tw Bool :=
 (.bb (decide ((((List.length l_) : Nat) : Int) > (30 : Int)))
 (.opt (law28_awake.c) fun z14 =>
 (.ret z14))
 (.opt (ref24_Fits.c l_ (62 : Int)) fun z1 =>
 (.bb (!z1)
 (.opt (law28_awake.c) fun z13 =>
 (.ret z13))
 (.opt (law28_great.c s__0 s__1 ((Go.Proofs.Ytmlbioapefgioaa.Va.Act28.mk a_0 a_1 a_2 a_3) :: ([] : List (Act28)))) fun z2 =>
 (.bb z2
 (.opt (law28_awake.c) fun z12 =>
 (.ret z12))
 (.opt (store_Get.c s__0 s__1 l_ a_2 a_1) fun z3 =>
 (.opt (ref28_Get.c s__0 s__1 l_ a_2 a_1) fun z4 =>
 (.opt (store_All.c s__0 s__1 l_) fun z5 =>
 (.opt (ref24_Flat.c l_) fun z6 =>
 (.opt (ref18_Mains.c z6) fun z7 =>
 (.bb (z3.2.1 != z4.2.1)
 (.ret false)
 (.opt (ref14_Same.c z3.1 z3.2.2 z4.1 z4.2.2) fun z8 =>
 (.bb (!z8)
 (.ret false)
 (.opt (ref20_Fits.c s__0 s__1 z7) fun z9 =>
 (.bb (!z9)
 (.bb (z5.1 == (12 : Int))
 (.bb ((((List.length z5.2) : Nat) : Int) == (0 : Int))
 (.opt (law28_awake.c) fun z11 =>
 (.ret z11))
 (.ret false))
 (.ret false))
 (.bb (z5.1 == (0 : Int))
 (.bb ((((List.length z5.2) : Nat) : Int) == (((List.length z7) : Nat) : Int))
 (.opt (law28_awake.c) fun z10 =>
 (.ret z10))
 (.ret false))
 (.ret false)))))))))))))))))
def c (s__0 : Int) (s__1 : (List FormV)) (l_ : (List (List ItemV))) (a_0 a_1 a_2 : Int) (a_3 : (List ValueV)) : Option Bool := (t s__0 s__1 l_ a_0 a_1 a_2 a_3).run
def tl (l : TA) : Tw Bool := t l.1.1.1 l.1.1.2.1 l.1.2.1 l.1.2.2.1.1 l.1.2.2.1.2.1 l.1.2.2.1.2.2.1 l.1.2.2.1.2.2.2.1
def pA : Pt := (.cs (.agg (jC (.cs (.sl 28) .nl))) (.cs (.sl 11) (.cs (.agg (jC (jC (jC (.cs (.sl 24) .nl))))) .nl)))
def pH : Pt := .nl
def v (l : TA) (y : Bool) : AV U := jB y
def hh (l : TA) (y : Bool) : Hp U := []
def A : AFun U := mkA pA pH (X := Bool) (fun l => (tl l).run) sp1 v hh
def body := bodyOf Try.f10
def E : Env U := E0.mk5 [(13, ref24_Fits.A), (42, law28_great.A), (46, store_Get.A), (49, ref28_Get.A), (52, store_All.A), (16, ref24_Flat.A), (53, ref18_Mains.A), (47, ref14_Same.A), (54, ref20_Fits.A), (43, law28_awake.A)] [] [] [] []
theorem hk : HK E Try.f10 [] pA pH tl v hh := fun _ _ _ => by kernel_rfl
theorem okF : SoundF Try.prog cc 10 (funcA E Try.f10 []) :=
  funcA_ok (E := E) P_mixed (E0_ok.mk5 _ _ _ _ _) (gam_of (all_cons ref24_Fits.og (all_cons law28_great.og (all_cons store_Get.og (all_cons ref28_Get.og (all_cons ⟨store_All.ok, store_All.fo⟩ (all_cons ref24_Flat.og (all_cons ref18_Mains.og (all_cons ref14_Same.og (all_cons ref20_Fits.og (all_cons law28_awake.og all_nil)))))))))) no_ro) Try.func10 (c := body) (by kernel_rfl)
    (just_by (by kernel_rfl) (by kernel_rfl) all_nil all_nil) []
theorem ok : SoundF Try.prog cc 10 A :=
  mkA_ok (E := E) (p := pA) (q := pH) (t := tl) sp1_ok hk okF
theorem fo : FnOK Try.prog 10 := ⟨Try.f10, Try.func10, by kernel_rfl, by kernel_rfl⟩
end law28_StoreReads

end
end Go.Proofs.Ytmlbioapefgioaa.Va
