/- The functions of package ref20, as plain functions, and that the program computes them. Printed by a program of this work out of the evaluator. -/
import Derived.Test.YtmlbioapefgioaaEn
import Derived.Tactics
import Derived.Test.YtmlbioapefgioaaFref13
import Derived.Test.YtmlbioapefgioaaFref14
import Derived.Test.YtmlbioapefgioaaFref18
set_option linter.unusedVariables false
namespace Go.Proofs.Ytmlbioapefgioaa.Va
noncomputable section
open Go
set_option maxRecDepth 100000

/-! instar/instarref20.Fits -/
namespace ref20_Fits
abbrev TA : Type := (((Int × ((List FormV) × Unit)) × ((List ItemV) × Unit)) × Unit)
abbrev T5 : Type := ((Unit × (Unit × (Unit × (Unit × (Int × (Unit × Unit)))))) × ((Int × ((List FormV) × Unit)) × ((List ItemV) × Unit)))
abbrev X5 : Type := (Unit ⊕ Bool)
def l5 (h0_0 : Int) (h0_1 : (List FormV)) (h1 : (List ItemV)) (i : Int) : Tw (Int ⊕ X5) :=
 (.bb (decide (i < (((List.length h1) : Nat) : Int)))
 (.dd ((((0 : Int) ≤ i) ∧ (i < (((List.length h1) : Nat) : Int)))) inferInstance
 (.opt (h1)[(Int.toNat i)]? fun z4 =>
 (.opt (ref18_Told.c z4.key) fun z5 =>
 (.opt (ref13_Find.c h0_0 h0_1 z5.2.1) fun z6 =>
 (.bb (decide (z6 < (0 : Int)))
 (.ret (.inr (.inr false)))
 (.dd (((0 : Int) ≤ z6)) inferInstance
 (.opt (h0_1)[(Int.toNat z6)]? fun z7 =>
 (.dd ((((0 : Int) ≤ i) ∧ (i < (((List.length h1) : Nat) : Int)))) inferInstance
 (.opt (h1)[(Int.toNat i)]? fun z8 =>
 (.opt (ref14_Take.c z7.id z7.fields (Go.Proofs.Ytmlbioapefgioaa.Va.b2l z8.data)) fun z9 =>
 (.bb (z9.2.1 != (0 : Int))
 (.ret (.inr (.inr false)))
 (.ret (.inl (w64 (i + (1 : Int))))))))
 .no))
 .no)))))
 .no)
 (.ret (.inr (.inl ()))))
def L5 (i h0_0 : Int) (h0_1 : (List FormV)) (h1 : (List ItemV)) : Option X5 := Lp (fun s => (l5 h0_0 h0_1 h1 s).run) i
def p5 : Pt := (.cs (.bots 2) (.cs (.ptr 0 0) (.cs (.bots 2) (.cs (.own 1) (jC (.cs (.bots 54) .nl))))))
def q5 : Pt := (.cs (.var (jC (.cs (.sl 28) .nl))) (.cs (.row 10 true) .nl))
def ou5 (l : T5) (y : X5) : Ex × St U := (Sum.elim (fun a0 => (.exit 0, stOf 61 [] [] 0)) (fun b0 => (.ret, stOf 61 [(4, jB b0)] [] 0)) y)
def Λ5 : LFun U := mkLp p5 q5 0 (X := X5) (fun (l : T5) => L5 (d4 l.1).1 l.2.1.1 l.2.1.2.1 l.2.2.1) (spS sp1) ou5
def hd5 (l : T5) (s : Int) : T5 := (((), ((), ((), ((), (s, ((), ())))))), ((l.2.1.1, (l.2.1.2.1, ())), (l.2.2.1, ())))
def fl5 (l : T5) (s : Int) : Tw (Int ⊕ X5) := l5 l.2.1.1 l.2.1.2.1 l.2.2.1 s
def t (s__0 : Int) (s__1 : (List FormV)) (items : (List ItemV)) : Tw Bool :=
 (.opt (ref13_Right.c s__0 s__1) fun z1 =>
 (.bb (!z1)
 (.ret false)
 (.opt (ref18_Right.c items) fun z2 =>
 (.bb (!z2)
 (.ret false)
 (.opt (ref18_Mains.c items) fun z3 =>
 (.opt (L5 (0 : Int) s__0 s__1 z3) fun z10 =>
 (.sm z10
 (fun z11 => (.ret true))
 (fun z12 => (.ret z12)))))))))
def c (s__0 : Int) (s__1 : (List FormV)) (items : (List ItemV)) : Option Bool := (t s__0 s__1 items).run
def tl (l : TA) : Tw Bool := t l.1.1.1 l.1.1.2.1 l.1.2.1
def pA : Pt := (.cs (.agg (jC (.cs (.sl 28) .nl))) (.cs (.sl 10) .nl))
def pH : Pt := .nl
def v (l : TA) (y : Bool) : AV U := jB y
def hh (l : TA) (y : Bool) : Hp U := []
def A : AFun U := mkA pA pH (X := Bool) (fun l => (tl l).run) sp1 v hh
def body := bodyOf Try.f54
def E : Env U := E0.mk5 [(80, ref13_Right.A), (17, ref18_Right.A), (53, ref18_Mains.A), (95, ref18_Told.A), (89, ref13_Find.A), (88, ref14_Take.A)] [(5, Λ5)] [] [(5, ⟨[6, 5, 2], []⟩, ⟨[4], []⟩)] []
theorem hf5 : HF E (pick (loopsOf body) 5) p5 q5 0 fl5 hd5 (spS sp1) ou5 := fun _ _ _ _ => by kernel_rfl
theorem lk5 : LK E (pick (loopsOf body) 5) Λ5 := fun R st K r h =>
  lp_ok (E := E) (b := pick (loopsOf body) 5) (m := 0) (sp := (spS sp1)) (p := p5) (q := q5) (X := X5) (S := Int) (f := fl5) (hd := hd5) (s0 := fun (l : T5) => (d4 l.1).1) (ou := ou5)
    (fun l => rfl) (fun l x => by repeat' (first | rfl | (cases x with | inl => rfl | inr x => ?_))) (spS_ok sp1_ok) hf5 h
theorem hk : HK E Try.f54 [] pA pH tl v hh := fun _ _ _ => by kernel_rfl
theorem og : SoundF Try.prog cc 54 A ∧ FnOK Try.prog 54 :=
 og_of (E := E) P_mixed (E0_ok.mk5 _ _ _ _ _) (gam_of (all_cons ref13_Right.og (all_cons ref18_Right.og (all_cons ref18_Mains.og (all_cons ref18_Told.og (all_cons ref13_Find.og (all_cons ref14_Take.og all_nil)))))) no_ro) Try.func54 (c := body) (by kernel_rfl)
    (just_by (by kernel_rfl) (by kernel_rfl) (all_cons lk5 all_nil) all_nil) [] sp1_ok hk (by kernel_rfl)
end ref20_Fits

end
end Go.Proofs.Ytmlbioapefgioaa.Va
