/- The functions of package ref24, as plain functions, and that the program computes them. Printed by a program of this work out of the evaluator. -/
import Derived.Test.YtmlbioapefgioaaEn
import Derived.Tactics
import Derived.Test.YtmlbioapefgioaaFref18
import Derived.Test.YtmlbioapefgioaaFref23
set_option linter.unusedVariables false
namespace Go.Proofs.Ytmlbioapefgioaa.Va
noncomputable section
open Go
set_option maxRecDepth 100000

/-! instar/instarref24.Flat -/
namespace ref24_Flat
abbrev TA : Type := (((List (List ItemV)) × Unit) × Unit)
abbrev T3 : Type := (((List (List ItemV)) × (Unit × (Unit × (Int × (Unit × Unit))))) × ((List ItemV) × Unit))
abbrev S3 : Type := (Int × (List ItemV))
def l3 (l_ : (List (List ItemV))) (i : Int) (h0 : (List ItemV)) : Tw (S3 ⊕ (List ItemV)) :=
 (.bb (decide (i < (((List.length l_) : Nat) : Int)))
 (.dd (((0 : Int) ≤ i)) inferInstance
 (.opt (l_)[(Int.toNat i)]? fun z1 =>
 (.dd ((((((List.length h0) + (List.length z1)) * (24 : Nat)) ≤ (140737488355328 : Nat)) ∧ (((List.length h0) + (List.length z1)) ≤ (140737488355328 : Nat)))) inferInstance
 (.ret (.inl ((w64 (i + (1 : Int))), (h0 ++ z1))))
 .no))
 .no)
 (.ret (.inr h0)))
def L3 (l_ : (List (List ItemV))) (i : Int) (h0 : (List ItemV)) : Option (List ItemV) := Lp (fun s => (l3 l_ s.1 s.2).run) (i, h0)
def p3 : Pt := (.cs (.sl 11) (.cs (.bots 2) (.cs (.own 0) (jC (.cs (.bots 13) .nl)))))
def q3 : Pt := (.cs (.row 10 true) .nl)
def ou3 (l : T3) (y : (List ItemV)) : Ex × St U := (.exit 0, stOf 18 [(3, .own 0)] [.row 10 y true] 0)
def Λ3 : LFun U := mkLp p3 q3 0 (X := (List ItemV)) (fun (l : T3) => L3 l.1.1 l.1.2.2.2.1 l.2.1) sp1 ou3
def hd3 (l : T3) (s : S3) : T3 := ((l.1.1, ((), ((), (s.1, ((), ()))))), (s.2, ()))
def fl3 (l : T3) (s : S3) : Tw (S3 ⊕ (List ItemV)) := l3 l.1.1 s.1 s.2
def t (l_ : (List (List ItemV))) : Tw (List ItemV) :=
 (.opt (L3 l_ (0 : Int) ([] : List (ItemV))) fun z2 =>
 (.ret z2))
def c (l_ : (List (List ItemV))) : Option (List ItemV) := (t l_).run
def tl (l : TA) : Tw (List ItemV) := t l.1.1
def pA : Pt := (.cs (.sl 11) .nl)
def pH : Pt := .nl
def v (l : TA) (y : (List ItemV)) : AV U := .own 0
def hh (l : TA) (y : (List ItemV)) : Hp U := [.row 10 y true]
def A : AFun U := mkA pA pH (X := (List ItemV)) (fun l => (tl l).run) sp1 v hh
def body := bodyOf Try.f16
def E : Env U := E0.mk5 [] [(3, Λ3)] [] [(3, ⟨[4, 0, 3], [(3, [], .own 10)]⟩, ⟨[2, 3], []⟩)] []
theorem hf3 : HF E (pick (loopsOf body) 3) p3 q3 0 fl3 hd3 sp1 ou3 := fun _ _ _ _ => by kernel_rfl
theorem lk3 : LK E (pick (loopsOf body) 3) Λ3 := fun R st K r h =>
  lp_ok (E := E) (b := pick (loopsOf body) 3) (m := 0) (sp := sp1) (p := p3) (q := q3) (X := (List ItemV)) (S := S3) (f := fl3) (hd := hd3) (s0 := fun (l : T3) => (l.1.2.2.2.1, l.2.1)) (ou := ou3)
    (fun l => rfl) (fun l x => by rfl) sp1_ok hf3 h
theorem hk : HK E Try.f16 [] pA pH tl v hh := fun _ _ _ => by kernel_rfl
theorem og : SoundF Try.prog cc 16 A ∧ FnOK Try.prog 16 :=
 og_of (E := E) P_mixed (E0_ok.mk5 _ _ _ _ _) (gam_of all_nil all_nil) Try.func16 (c := body) (by kernel_rfl)
    (just_by (by kernel_rfl) (by kernel_rfl) (all_cons lk3 all_nil) all_nil) [] sp1_ok hk (by kernel_rfl)
end ref24_Flat

/-! instar/instarref24.Fits -/
namespace ref24_Fits
abbrev TA : Type := (((List (List ItemV)) × (Int × Unit)) × Unit)
abbrev T2 : Type := (((List (List ItemV)) × (Int × (Unit × (Int × (Unit × Unit))))) × Unit)
abbrev X2 : Type := (Unit ⊕ Bool)
def l2 (l_ : (List (List ItemV))) (room i : Int) : Tw (Int ⊕ X2) :=
 (.bb (decide (i < (((List.length l_) : Nat) : Int)))
 (.dd (((0 : Int) ≤ i)) inferInstance
 (.opt (l_)[(Int.toNat i)]? fun z1 =>
 (.bb ((((List.length z1) : Nat) : Int) == (0 : Int))
 (.ret (.inr (.inr false)))
 (.dd (((0 : Int) ≤ i)) inferInstance
 (.opt (l_)[(Int.toNat i)]? fun z2 =>
 (.opt (ref23_Total.c z2) fun z3 =>
 (.bb (decide (z3 > room))
 (.ret (.inr (.inr false)))
 (.ret (.inl (w64 (i + (1 : Int))))))))
 .no)))
 .no)
 (.ret (.inr (.inl ()))))
def L2 (l_ : (List (List ItemV))) (room i : Int) : Option X2 := Lp (fun s => (l2 l_ room s).run) i
def p2 : Pt := (.cs (.sl 11) (jC (.cs (.bots 3) (jC (.cs (.bots 24) .nl)))))
def q2 : Pt := .nl
def ou2 (l : T2) (y : X2) : Ex × St U := (Sum.elim (fun a0 => (.exit 0, stOf 30 [(0, .im (.slice 11 l.1.1))] [] 0)) (fun b0 => (.ret, stOf 30 [(0, .im (.slice 11 l.1.1)), (4, jB b0)] [] 0)) y)
def Λ2 : LFun U := mkLp p2 q2 0 (X := X2) (fun (l : T2) => L2 l.1.1 l.1.2.1 l.1.2.2.2.1) (spS sp1) ou2
def hd2 (l : T2) (s : Int) : T2 := ((l.1.1, (l.1.2.1, ((), (s, ((), ()))))), ())
def fl2 (l : T2) (s : Int) : Tw (Int ⊕ X2) := l2 l.1.1 l.1.2.1 s
def t (l_ : (List (List ItemV))) (room : Int) : Tw Bool :=
 (.opt (L2 l_ room (0 : Int)) fun z4 =>
 (.sm z4
 (fun z5 => (.opt (ref24_Flat.c l_) fun z7 =>
 (.opt (ref18_Right.c z7) fun z8 =>
 (.ret z8))))
 (fun z6 => (.ret z6))))
def c (l_ : (List (List ItemV))) (room : Int) : Option Bool := (t l_ room).run
def tl (l : TA) : Tw Bool := t l.1.1 l.1.2.1
def pA : Pt := (.cs (.sl 11) (jC .nl))
def pH : Pt := .nl
def v (l : TA) (y : Bool) : AV U := jB y
def hh (l : TA) (y : Bool) : Hp U := []
def A : AFun U := mkA pA pH (X := Bool) (fun l => (tl l).run) sp1 v hh
def body := bodyOf Try.f13
def E : Env U := E0.mk5 [(57, ref23_Total.A), (16, ref24_Flat.A), (17, ref18_Right.A)] [(2, Λ2)] [] [(2, ⟨[5, 1, 0], []⟩, ⟨[4, 0], []⟩)] []
theorem hf2 : HF E (pick (loopsOf body) 2) p2 q2 0 fl2 hd2 (spS sp1) ou2 := fun _ _ _ _ => by kernel_rfl
theorem lk2 : LK E (pick (loopsOf body) 2) Λ2 := fun R st K r h =>
  lp_ok (E := E) (b := pick (loopsOf body) 2) (m := 0) (sp := (spS sp1)) (p := p2) (q := q2) (X := X2) (S := Int) (f := fl2) (hd := hd2) (s0 := fun (l : T2) => l.1.2.2.2.1) (ou := ou2)
    (fun l => rfl) (fun l x => by repeat' (first | rfl | (cases x with | inl => rfl | inr x => ?_))) (spS_ok sp1_ok) hf2 h
theorem hk : HK E Try.f13 [] pA pH tl v hh := fun _ _ _ => by kernel_rfl
theorem og : SoundF Try.prog cc 13 A ∧ FnOK Try.prog 13 :=
 og_of (E := E) P_mixed (E0_ok.mk5 _ _ _ _ _) (gam_of (all_cons ref23_Total.og (all_cons ref24_Flat.og (all_cons ref18_Right.og all_nil))) no_ro) Try.func13 (c := body) (by kernel_rfl)
    (just_by (by kernel_rfl) (by kernel_rfl) (all_cons lk2 all_nil) all_nil) [] sp1_ok hk (by kernel_rfl)
end ref24_Fits

end
end Go.Proofs.Ytmlbioapefgioaa.Va
