/- The functions of package ref28, as plain functions, and that the program computes them. Printed by a program of this work out of the evaluator. -/
import Derived.Test.YtmlbioapefgioaaEn
import Derived.Tactics
import Derived.Test.YtmlbioapefgioaaFref13
import Derived.Test.YtmlbioapefgioaaFref14
import Derived.Test.YtmlbioapefgioaaFref18
import Derived.Test.YtmlbioapefgioaaFref24
set_option linter.unusedVariables false
namespace Go.Proofs.Ytmlbioapefgioaa.Va
noncomputable section
open Go
set_option maxRecDepth 100000

/-! instar/instarref28.bad -/
namespace ref28_bad
abbrev TA : Type := (((Int × ((List FormV) × Unit)) × (Int × (Int × Unit))) × Unit)
def t (s__0 : Int) (s__1 : (List FormV)) (form id : Int) : Tw Bool :=
 (.opt (ref13_Find.c s__0 s__1 form) fun z1 =>
 (.bb (decide (z1 < (0 : Int)))
 (.ret true)
 (.opt (ref18_Fits.c form id) fun z2 =>
 (.ret (!z2)))))
def c (s__0 : Int) (s__1 : (List FormV)) (form id : Int) : Option Bool := (t s__0 s__1 form id).run
def tl (l : TA) : Tw Bool := t l.1.1.1 l.1.1.2.1 l.1.2.1 l.1.2.2.1
def pA : Pt := (.cs (.agg (jC (.cs (.sl 28) .nl))) (jC (jC .nl)))
def pH : Pt := .nl
def v (l : TA) (y : Bool) : AV U := jB y
def hh (l : TA) (y : Bool) : Hp U := []
def A : AFun U := mkA pA pH (X := Bool) (fun l => (tl l).run) sp1 v hh
def body := bodyOf Try.f85
def E : Env U := E0.mk5 [(89, ref13_Find.A), (113, ref18_Fits.A)] [] [] [] []
theorem hk : HK E Try.f85 [] pA pH tl v hh := fun _ _ _ => by kernel_rfl
theorem og : SoundF Try.prog cc 85 A ∧ FnOK Try.prog 85 :=
 og_of (E := E) P_mixed (E0_ok.mk5 _ _ _ _ _) (gam_of (all_cons ref13_Find.og (all_cons ref18_Fits.og all_nil)) no_ro) Try.func85 (c := body) (by kernel_rfl)
    (just_by (by kernel_rfl) (by kernel_rfl) all_nil all_nil) [] sp1_ok hk (by kernel_rfl)
end ref28_bad

/-! instar/instarref28.Get -/
namespace ref28_Get
abbrev TA : Type := (((Int × ((List FormV) × Unit)) × ((List (List ItemV)) × (Int × (Int × Unit)))) × Unit)
abbrev XA : Type := (Int × (Int × (List ValueV)))
def t (s__0 : Int) (s__1 : (List FormV)) (l_ : (List (List ItemV))) (form id : Int) : Tw XA :=
 (.opt (ref28_bad.c s__0 s__1 form id) fun z1 =>
 (.bb z1
 (.ret ((0 : Int), ((2 : Int), ([] : List (ValueV)))))
 (.opt (ref24_Flat.c l_) fun z2 =>
 (.opt (ref18_Main.c form id) fun z3 =>
 (.opt (ref18_Find.c z2 z3) fun z4 =>
 (.bb (!z4.2)
 (.ret ((0 : Int), ((8 : Int), ([] : List (ValueV)))))
 (.opt (ref13_Find.c s__0 s__1 form) fun z5 =>
 (.dd (((0 : Int) ≤ z5)) inferInstance
 (.opt (s__1)[(Int.toNat z5)]? fun z6 =>
 (.opt (ref14_Take.c z6.id z6.fields (Go.Proofs.Ytmlbioapefgioaa.Va.b2l z4.1)) fun z7 =>
 (.bb (z7.2.1 != (0 : Int))
 (.ret ((0 : Int), ((12 : Int), ([] : List (ValueV)))))
 (.ret (z7.1, ((0 : Int), z7.2.2))))))
 .no))))))))
def c (s__0 : Int) (s__1 : (List FormV)) (l_ : (List (List ItemV))) (form id : Int) : Option XA := (t s__0 s__1 l_ form id).run
def tl (l : TA) : Tw XA := t l.1.1.1 l.1.1.2.1 l.1.2.1 l.1.2.2.1 l.1.2.2.2.1
def pA : Pt := (.cs (.agg (jC (.cs (.sl 28) .nl))) (.cs (.sl 11) (jC (jC .nl))))
def pH : Pt := .nl
def v (l : TA) (y : XA) : AV U := .tup [.agg [jI y.1, .own 0], jI y.2.1]
def hh (l : TA) (y : XA) : Hp U := [.row 24 y.2.2 true]
def A : AFun U := mkA pA pH (X := XA) (fun l => (tl l).run) sp1 v hh
def body := bodyOf Try.f49
def E : Env U := E0.mk5 [(85, ref28_bad.A), (16, ref24_Flat.A), (86, ref18_Main.A), (87, ref18_Find.A), (89, ref13_Find.A), (88, ref14_Take.A)] [] [] [] []
theorem hk : HK E Try.f49 [(0, [.cell 1], .own 24)] pA pH tl v hh := fun _ _ _ => by kernel_rfl
theorem og : SoundF Try.prog cc 49 A ∧ FnOK Try.prog 49 :=
 og_of (E := E) P_mixed (E0_ok.mk5 _ _ _ _ _) (gam_of (all_cons ref28_bad.og (all_cons ref24_Flat.og (all_cons ref18_Main.og (all_cons ref18_Find.og (all_cons ref13_Find.og (all_cons ref14_Take.og all_nil)))))) no_ro) Try.func49 (c := body) (by kernel_rfl)
    (just_by (by kernel_rfl) (by kernel_rfl) all_nil all_nil) [(0, [.cell 1], .own 24)] sp1_ok hk (by kernel_rfl)
end ref28_Get

end
end Go.Proofs.Ytmlbioapefgioaa.Va
