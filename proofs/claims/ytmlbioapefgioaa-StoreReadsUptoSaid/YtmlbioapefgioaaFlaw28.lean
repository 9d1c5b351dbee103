/- The functions of package law28, as plain functions, and that the program computes them. Printed by a program of this work out of the evaluator. -/
import Derived.Test.YtmlbioapefgioaaEn
import Derived.Tactics
import Derived.Test.YtmlbioapefgioaaFref13
import Derived.Test.YtmlbioapefgioaaFref14
import Derived.Test.YtmlbioapefgioaaFstore
set_option linter.unusedVariables false
namespace Go.Proofs.Ytmlbioapefgioaa.Va
noncomputable section
open Go
set_option maxRecDepth 100000

/-! instar/instarlaw28.great -/
namespace law28_great
abbrev TA : Type := (((Int × ((List FormV) × Unit)) × ((List Act28) × Unit)) × Unit)
abbrev T2 : Type := ((Unit × ((List Act28) × (Unit × (Unit × (Int × (Unit × Unit)))))) × ((Int × ((List FormV) × Unit)) × Unit))
abbrev X2 : Type := (Unit ⊕ Bool)
def l2 (l_ : (List Act28)) (h0_0 : Int) (h0_1 : (List FormV)) (i : Int) : Tw (Int ⊕ X2) :=
 (.bb (decide (i < (((List.length l_) : Nat) : Int)))
 (.bb (decide (i < (81 : Int)))
 (.dd (((0 : Int) ≤ i)) inferInstance
 (.opt (l_)[(Int.toNat i)]? fun z1 =>
 (.bb (decide ((((List.length z1.vals) : Nat) : Int) > (40 : Int)))
 (.ret (.inr (.inr true)))
 (.ret (.inl (w64 (i + (1 : Int)))))))
 .no)
 (.ret (.inr (.inl ()))))
 (.ret (.inr (.inl ()))))
def L2 (l_ : (List Act28)) (i h0_0 : Int) (h0_1 : (List FormV)) : Option X2 := Lp (fun s => (l2 l_ h0_0 h0_1 s).run) i
def p2 : Pt := (.cs (.bots 1) (.cs (.sl 29) (.cs (.ptr 0 0) (.cs (.bots 2) (jC (.cs (.bots 26) .nl))))))
def q2 : Pt := (.cs (.var (jC (.cs (.sl 28) .nl))) .nl)
def ou2 (l : T2) (y : X2) : Ex × St U := (Sum.elim (fun a0 => (.exit 0, stOf 32 [(1, .im (.slice 29 l.1.2.1)), (2, .ptr 0 0)] [.var [jI l.2.1.1, .im (.slice 28 l.2.1.2.1)]] 0)) (fun b0 => (.ret, stOf 32 [(1, .im (.slice 29 l.1.2.1)), (2, .ptr 0 0), (4, jB b0)] [.var [jI l.2.1.1, .im (.slice 28 l.2.1.2.1)]] 0)) y)
def Λ2 : LFun U := mkLp p2 q2 0 (X := X2) (fun (l : T2) => L2 l.1.2.1 (d4 l.1).1 l.2.1.1 l.2.1.2.1) (spS sp1) ou2
def hd2 (l : T2) (s : Int) : T2 := (((), (l.1.2.1, ((), ((), (s, ((), ())))))), ((l.2.1.1, (l.2.1.2.1, ())), ()))
def fl2 (l : T2) (s : Int) : Tw (Int ⊕ X2) := l2 l.1.2.1 l.2.1.1 l.2.1.2.1 s
def t (s__0 : Int) (s__1 : (List FormV)) (l_ : (List Act28)) : Tw Bool :=
 (.opt (L2 l_ (0 : Int) s__0 s__1) fun z2 =>
 (.sm z2
 (fun z3 => (.bb (decide ((((List.length l_) : Nat) : Int) > (80 : Int)))
 (.ret true)
 (.opt (ref13_Right.c s__0 s__1) fun z5 =>
 (.ret (!z5)))))
 (fun z4 => (.ret z4))))
def c (s__0 : Int) (s__1 : (List FormV)) (l_ : (List Act28)) : Option Bool := (t s__0 s__1 l_).run
def tl (l : TA) : Tw Bool := t l.1.1.1 l.1.1.2.1 l.1.2.1
def pA : Pt := (.cs (.agg (jC (.cs (.sl 28) .nl))) (.cs (.sl 29) .nl))
def pH : Pt := .nl
def v (l : TA) (y : Bool) : AV U := jB y
def hh (l : TA) (y : Bool) : Hp U := []
def A : AFun U := mkA pA pH (X := Bool) (fun l => (tl l).run) sp1 v hh
def body := bodyOf Try.f42
def E : Env U := E0.mk5 [(80, ref13_Right.A)] [(2, Λ2)] [] [(2, ⟨[5, 1, 2], []⟩, ⟨[4, 2, 1], []⟩)] []
theorem hf2 : HF E (pick (loopsOf body) 2) p2 q2 0 fl2 hd2 (spS sp1) ou2 := fun _ _ _ _ => by kernel_rfl
theorem lk2 : LK E (pick (loopsOf body) 2) Λ2 := fun R st K r h =>
  lp_ok (E := E) (b := pick (loopsOf body) 2) (m := 0) (sp := (spS sp1)) (p := p2) (q := q2) (X := X2) (S := Int) (f := fl2) (hd := hd2) (s0 := fun (l : T2) => (d4 l.1).1) (ou := ou2)
    (fun l => rfl) (fun l x => by repeat' (first | rfl | (cases x with | inl => rfl | inr x => ?_))) (spS_ok sp1_ok) hf2 h
theorem hk : HK E Try.f42 [] pA pH tl v hh := fun _ _ _ => by kernel_rfl
theorem og : SoundF Try.prog cc 42 A ∧ FnOK Try.prog 42 :=
 og_of (E := E) P_mixed (E0_ok.mk5 _ _ _ _ _) (gam_of (all_cons ref13_Right.og all_nil) no_ro) Try.func42 (c := body) (by kernel_rfl)
    (just_by (by kernel_rfl) (by kernel_rfl) (all_cons lk2 all_nil) all_nil) [] sp1_ok hk (by kernel_rfl)
end law28_great

/-! instar/instarlaw28.awake -/
namespace law28_awake
abbrev TA : Type := (Unit × Unit)
def t : Tw Bool :=
 (.opt (store_Put_none1.c (1 : Int) ((Go.Proofs.Ytmlbioapefgioaa.Va.FormV.mk (2 : Int) ((Go.Proofs.Ytmlbioapefgioaa.Va.FieldV.mk (0 : Int) (2 : Int) (0 : Int) (0 : Int) (0 : Int)) :: ([] : List (FieldV)))) :: ([] : List (FormV))) (62 : Int) (3 : Int) (2 : Int) ((Go.Proofs.Ytmlbioapefgioaa.Va.ValueV.mk (1 : Int) ByteArray.empty) :: ([] : List (ValueV)))) fun z1 =>
 (.opt (store_Get.c (1 : Int) ((Go.Proofs.Ytmlbioapefgioaa.Va.FormV.mk (2 : Int) ((Go.Proofs.Ytmlbioapefgioaa.Va.FieldV.mk (0 : Int) (2 : Int) (0 : Int) (0 : Int) (0 : Int)) :: ([] : List (FieldV)))) :: ([] : List (FormV))) (d4 z1) (2 : Int) (3 : Int)) fun z2 =>
 (.opt (store_Delete.c (1 : Int) ((Go.Proofs.Ytmlbioapefgioaa.Va.FormV.mk (2 : Int) ((Go.Proofs.Ytmlbioapefgioaa.Va.FieldV.mk (0 : Int) (2 : Int) (0 : Int) (0 : Int) (0 : Int)) :: ([] : List (FieldV)))) :: ([] : List (FormV))) (d4 z1) (62 : Int) (2 : Int) (3 : Int)) fun z3 =>
 (.opt (store_Get.c (1 : Int) ((Go.Proofs.Ytmlbioapefgioaa.Va.FormV.mk (2 : Int) ((Go.Proofs.Ytmlbioapefgioaa.Va.FieldV.mk (0 : Int) (2 : Int) (0 : Int) (0 : Int) (0 : Int)) :: ([] : List (FieldV)))) :: ([] : List (FormV))) (d4 z3) (2 : Int) (3 : Int)) fun z4 =>
 (.bb (z1.2.2.2.1 == (0 : Int))
 (.bb (z2.2.1 == (0 : Int))
 (.opt (ref14_Same.c z2.1 z2.2.2 (2 : Int) ((Go.Proofs.Ytmlbioapefgioaa.Va.ValueV.mk (1 : Int) ByteArray.empty) :: ([] : List (ValueV)))) fun z5 =>
 (.bb z5
 (.bb (z3.2.2.2.1 == (0 : Int))
 (.bb (z4.2.1 == (8 : Int))
 (.ret ((((List.length (d4 z3)) : Nat) : Int) == (0 : Int)))
 (.ret false))
 (.ret false))
 (.ret false)))
 (.ret false))
 (.ret false))))))
def c : Option Bool := (t).run
def tl (l : TA) : Tw Bool := t
def cl (l : TA) : Option Bool := c
def pA : Pt := .nl
def pH : Pt := .nl
def v (l : TA) (y : Bool) : AV U := jB y
def hh (l : TA) (y : Bool) : Hp U := []
def A : AFun U := mkA pA pH (X := Bool) cl sp1 v hh
def body := bodyOf Try.f43
def E : Env U := E0.mk5 [(45, store_Put_none1.A), (46, store_Get.A), (44, store_Delete.A), (47, ref14_Same.A)] [] [] [] []
theorem hk : HK E Try.f43 [] pA pH tl v hh := fun _ _ _ => by kernel_rfl
theorem og : SoundF Try.prog cc 43 A ∧ FnOK Try.prog 43 :=
 og_of (E := E) P_mixed (E0_ok.mk5 _ _ _ _ _) (gam_of (all_cons store_Put_none1.og (all_cons store_Get.og (all_cons store_Delete.og (all_cons ref14_Same.og all_nil)))) no_ro) Try.func43 (c := body) (by kernel_rfl)
    (just_by (by kernel_rfl) (by kernel_rfl) all_nil all_nil) [] sp1_ok hk (by kernel_rfl)
end law28_awake

end
end Go.Proofs.Ytmlbioapefgioaa.Va
