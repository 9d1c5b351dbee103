/- The functions of package law28, as plain functions, and that the program computes them. Printed by a program of this work out of the evaluator. -/
import Derived.Test.YtmlbioapefgioaaEn
import Derived.Tactics
import Derived.Test.YtmlbioapefgioaaFref13
import Derived.Test.YtmlbioapefgioaaFref14
import Derived.Test.YtmlbioapefgioaaFref18
import Derived.Test.YtmlbioapefgioaaFref24
import Derived.Test.YtmlbioapefgioaaFref28
import Derived.Test.YtmlbioapefgioaaFstore
set_option linter.unusedVariables false
namespace Go.Proofs.Ytmlbioapefgioaa.Va
noncomputable section
open Go
set_option maxRecDepth 100000

/-! instar/instarlaw28.great -/
namespace law28_great
abbrev TA : Type := (((Int × ((List FormV) × Unit)) × ((List Act28) × Unit)) × Unit)
abbrev T2 : Type := ((Unit × ((List Act28) × (Unit × (Unit × (Int × (Unit × Unit)))))) × ((Int × ((List FormV) × Unit)) × Unit))
abbrev X2 : Type := (Unit ⊕ Bool)
def l2 (l_ : (List Act28)) (h0_0 : Int) (h0_1 : (List FormV)) (i : Int) : Tw (Int ⊕ X2) :=
 (.bb (decide (i < (((List.length l_) : Nat) : Int)))
 (.bb (decide (i < (81 : Int)))
 (.dd (((0 : Int) ≤ i)) inferInstance
 (.opt (l_)[(Int.toNat i)]? fun z1 =>
 (.bb (decide ((((List.length z1.vals) : Nat) : Int) > (40 : Int)))
 (.ret (.inr (.inr true)))
 (.ret (.inl (w64 (i + (1 : Int)))))))
 .no)
 (.ret (.inr (.inl ()))))
 (.ret (.inr (.inl ()))))
def L2 (l_ : (List Act28)) (i h0_0 : Int) (h0_1 : (List FormV)) : Option X2 := Lp (fun s => (l2 l_ h0_0 h0_1 s).run) i
def p2 : Pt := (.cs (.bots 1) (.cs (.sl 29) (.cs (.ptr 0 0) (.cs (.bots 2) (jC (.cs (.bots 26) .nl))))))
def q2 : Pt := (.cs (.var (jC (.cs (.sl 28) .nl))) .nl)
def ou2 (l : T2) (y : X2) : Ex × St U := (Sum.elim (fun a0 => (.exit 0, stOf 32 [(1, .im (.slice 29 l.1.2.1)), (2, .ptr 0 0)] [.var [jI l.2.1.1, .im (.slice 28 l.2.1.2.1)]] 0)) (fun b0 => (.ret, stOf 32 [(1, .im (.slice 29 l.1.2.1)), (2, .ptr 0 0), (4, jB b0)] [.var [jI l.2.1.1, .im (.slice 28 l.2.1.2.1)]] 0)) y)
def Λ2 : LFun U := mkLp p2 q2 0 (X := X2) (fun (l : T2) => L2 l.1.2.1 (d4 l.1).1 l.2.1.1 l.2.1.2.1) (spS sp1) ou2
def hd2 (l : T2) (s : Int) : T2 := (((), (l.1.2.1, ((), ((), (s, ((), ())))))), ((l.2.1.1, (l.2.1.2.1, ())), ()))
def fl2 (l : T2) (s : Int) : Tw (Int ⊕ X2) := l2 l.1.2.1 l.2.1.1 l.2.1.2.1 s
def t (s__0 : Int) (s__1 : (List FormV)) (l_ : (List Act28)) : Tw Bool :=
 (.opt (L2 l_ (0 : Int) s__0 s__1) fun z2 =>
 (.sm z2
 (fun z3 => (.bb (decide ((((List.length l_) : Nat) : Int) > (80 : Int)))
 (.ret true)
 (.opt (ref13_Right.c s__0 s__1) fun z5 =>
 (.ret (!z5)))))
 (fun z4 => (.ret z4))))
def c (s__0 : Int) (s__1 : (List FormV)) (l_ : (List Act28)) : Option Bool := (t s__0 s__1 l_).run
def tl (l : TA) : Tw Bool := t l.1.1.1 l.1.1.2.1 l.1.2.1
def pA : Pt := (.cs (.agg (jC (.cs (.sl 28) .nl))) (.cs (.sl 29) .nl))
def pH : Pt := .nl
def v (l : TA) (y : Bool) : AV U := jB y
def hh (l : TA) (y : Bool) : Hp U := []
def A : AFun U := mkA pA pH (X := Bool) (fun l => (tl l).run) sp1 v hh
def body := bodyOf Try.f42
def E : Env U := E0.mk5 [(80, ref13_Right.A)] [(2, Λ2)] [] [(2, ⟨[5, 1, 2], []⟩, ⟨[4, 2, 1], []⟩)] []
theorem hf2 : HF E (pick (loopsOf body) 2) p2 q2 0 fl2 hd2 (spS sp1) ou2 := fun _ _ _ _ => by kernel_rfl
theorem lk2 : LK E (pick (loopsOf body) 2) Λ2 := fun R st K r h =>
  lp_ok (E := E) (b := pick (loopsOf body) 2) (m := 0) (sp := (spS sp1)) (p := p2) (q := q2) (X := X2) (S := Int) (f := fl2) (hd := hd2) (s0 := fun (l : T2) => (d4 l.1).1) (ou := ou2)
    (fun l => rfl) (fun l x => by repeat' (first | rfl | (cases x with | inl => rfl | inr x => ?_))) (spS_ok sp1_ok) hf2 h
theorem hk : HK E Try.f42 [] pA pH tl v hh := fun _ _ _ => by kernel_rfl
theorem og : SoundF Try.prog cc 42 A ∧ FnOK Try.prog 42 :=
 og_of (E := E) P_mixed (E0_ok.mk5 _ _ _ _ _) (gam_of (all_cons ref13_Right.og all_nil) no_ro) Try.func42 (c := body) (by kernel_rfl)
    (just_by (by kernel_rfl) (by kernel_rfl) (all_cons lk2 all_nil) all_nil) [] sp1_ok hk (by kernel_rfl)
end law28_great

/-! instar/instarlaw28.awake -/
namespace law28_awake
abbrev TA : Type := (Unit × Unit)
def t : Tw Bool :=
 (.opt (store_Put_none1.c (1 : Int) ((Go.Proofs.Ytmlbioapefgioaa.Va.FormV.mk (2 : Int) ((Go.Proofs.Ytmlbioapefgioaa.Va.FieldV.mk (0 : Int) (2 : Int) (0 : Int) (0 : Int) (0 : Int)) :: ([] : List (FieldV)))) :: ([] : List (FormV))) (62 : Int) (3 : Int) (2 : Int) ((Go.Proofs.Ytmlbioapefgioaa.Va.ValueV.mk (1 : Int) ByteArray.empty) :: ([] : List (ValueV)))) fun z1 =>
 (.opt (store_Get.c (1 : Int) ((Go.Proofs.Ytmlbioapefgioaa.Va.FormV.mk (2 : Int) ((Go.Proofs.Ytmlbioapefgioaa.Va.FieldV.mk (0 : Int) (2 : Int) (0 : Int) (0 : Int) (0 : Int)) :: ([] : List (FieldV)))) :: ([] : List (FormV))) (d4 z1) (2 : Int) (3 : Int)) fun z2 =>
 (.opt (store_Delete.c (1 : Int) ((Go.Proofs.Ytmlbioapefgioaa.Va.FormV.mk (2 : Int) ((Go.Proofs.Ytmlbioapefgioaa.Va.FieldV.mk (0 : Int) (2 : Int) (0 : Int) (0 : Int) (0 : Int)) :: ([] : List (FieldV)))) :: ([] : List (FormV))) (d4 z1) (62 : Int) (2 : Int) (3 : Int)) fun z3 =>
 (.opt (store_Get.c (1 : Int) ((Go.Proofs.Ytmlbioapefgioaa.Va.FormV.mk (2 : Int) ((Go.Proofs.Ytmlbioapefgioaa.Va.FieldV.mk (0 : Int) (2 : Int) (0 : Int) (0 : Int) (0 : Int)) :: ([] : List (FieldV)))) :: ([] : List (FormV))) (d4 z3) (2 : Int) (3 : Int)) fun z4 =>
 (.bb (z1.2.2.2.1 == (0 : Int))
 (.bb (z2.2.1 == (0 : Int))
 (.opt (ref14_Same.c z2.1 z2.2.2 (2 : Int) ((Go.Proofs.Ytmlbioapefgioaa.Va.ValueV.mk (1 : Int) ByteArray.empty) :: ([] : List (ValueV)))) fun z5 =>
 (.bb z5
 (.bb (z3.2.2.2.1 == (0 : Int))
 (.bb (z4.2.1 == (8 : Int))
 (.ret ((((List.length (d4 z3)) : Nat) : Int) == (0 : Int)))
 (.ret false))
 (.ret false))
 (.ret false)))
 (.ret false))
 (.ret false))))))
def c : Option Bool := (t).run
def tl (l : TA) : Tw Bool := t
def cl (l : TA) : Option Bool := c
def pA : Pt := .nl
def pH : Pt := .nl
def v (l : TA) (y : Bool) : AV U := jB y
def hh (l : TA) (y : Bool) : Hp U := []
def A : AFun U := mkA pA pH (X := Bool) cl sp1 v hh
def body := bodyOf Try.f43
def E : Env U := E0.mk5 [(45, store_Put_none1.A), (46, store_Get.A), (44, store_Delete.A), (47, ref14_Same.A)] [] [] [] []
theorem hk : HK E Try.f43 [] pA pH tl v hh := fun _ _ _ => by kernel_rfl
theorem og : SoundF Try.prog cc 43 A ∧ FnOK Try.prog 43 :=
 og_of (E := E) P_mixed (E0_ok.mk5 _ _ _ _ _) (gam_of (all_cons store_Put_none1.og (all_cons store_Get.og (all_cons store_Delete.og (all_cons ref14_Same.og all_nil)))) no_ro) Try.func43 (c := body) (by kernel_rfl)
    (just_by (by kernel_rfl) (by kernel_rfl) all_nil all_nil) [] sp1_ok hk (by kernel_rfl)
end law28_awake

/-! instar/instarlaw28.told -/
namespace law28_told
abbrev TA : Type := (((Int × ((List FormV) × Unit)) × ((List (List ItemV)) × Unit)) × Unit)
abbrev T6 : Type := ((Unit × ((List (List ItemV)) × (Unit × (Unit × (Unit × (Unit × (Unit × (Int × (Unit × Unit))))))))) × ((Int × ((List FormV) × Unit)) × ((List KeptV) × ((List ItemV) × Unit))))
abbrev X6 : Type := (Unit ⊕ Bool)
def l6 (l_ : (List (List ItemV))) (h0_0 : Int) (h0_1 : (List FormV)) (h1 : (List KeptV)) (h2 : (List ItemV)) (i : Int) : Tw (Int ⊕ X6) :=
 (.bb (decide (i < (((List.length h1) : Nat) : Int)))
 (.dd ((((0 : Int) ≤ i) ∧ (i < (((List.length h1) : Nat) : Int)))) inferInstance
 (.opt (h1)[(Int.toNat i)]? fun z3 =>
 (.dd ((((0 : Int) ≤ i) ∧ (i < (((List.length h1) : Nat) : Int)))) inferInstance
 (.opt (h1)[(Int.toNat i)]? fun z4 =>
 (.opt (ref28_Get.c h0_0 h0_1 l_ z3.form z4.id) fun z5 =>
 (.bb (z5.2.1 != (0 : Int))
 (.ret (.inr (.inr false)))
 (.dd ((((0 : Int) ≤ i) ∧ (i < (((List.length h1) : Nat) : Int)))) inferInstance
 (.opt (h1)[(Int.toNat i)]? fun z6 =>
 (.opt (ref14_Same.c z5.1 z5.2.2 z6.form z6.vals) fun z7 =>
 (.bb (!z7)
 (.ret (.inr (.inr false)))
 (.dd ((((0 : Int) ≤ i) ∧ (i < (((List.length h2) : Nat) : Int)))) inferInstance
 (.opt (h2)[(Int.toNat i)]? fun z8 =>
 (.dd ((((0 : Int) ≤ i) ∧ (i < (((List.length h1) : Nat) : Int)))) inferInstance
 (.opt (h1)[(Int.toNat i)]? fun z9 =>
 (.opt (ref18_Main.c z5.1 z9.id) fun z10 =>
 (.bb (z8.key != z10)
 (.ret (.inr (.inr false)))
 (.ret (.inl (w64 (i + (1 : Int))))))))
 .no))
 .no))))
 .no))))
 .no))
 .no)
 (.ret (.inr (.inl ()))))
def L6 (l_ : (List (List ItemV))) (i h0_0 : Int) (h0_1 : (List FormV)) (h1 : (List KeptV)) (h2 : (List ItemV)) : Option X6 := Lp (fun s => (l6 l_ h0_0 h0_1 h1 h2 s).run) i
def p6 : Pt := (.cs (.bots 1) (.cs (.sl 11) (.cs (.ptr 0 0) (.cs (.bots 2) (.cs (.own 1) (.cs (.bots 1) (.cs (.own 2) (jC (.cs (.bots 70) .nl)))))))))
def q6 : Pt := (.cs (.var (jC (.cs (.sl 28) .nl))) (.cs (.row 30 true) (.cs (.row 10 true) .nl)))
def ou6 (l : T6) (y : X6) : Ex × St U := (Sum.elim (fun a0 => (.exit 0, stOf 79 [] [] 0)) (fun b0 => (.ret, stOf 79 [(4, jB b0)] [] 0)) y)
def Λ6 : LFun U := mkLp p6 q6 0 (X := X6) (fun (l : T6) => L6 l.1.2.1 (d4 l.1).2.2.2.1 l.2.1.1 l.2.1.2.1 l.2.2.1 l.2.2.2.1) (spS sp1) ou6
def hd6 (l : T6) (s : Int) : T6 := (((), (l.1.2.1, ((), ((), ((), ((), ((), (s, ((), ()))))))))), ((l.2.1.1, (l.2.1.2.1, ())), (l.2.2.1, (l.2.2.2.1, ()))))
def fl6 (l : T6) (s : Int) : Tw (Int ⊕ X6) := l6 l.1.2.1 l.2.1.1 l.2.1.2.1 l.2.2.1 l.2.2.2.1 s
def t (s__0 : Int) (s__1 : (List FormV)) (l_ : (List (List ItemV))) : Tw Bool :=
 (.opt (store_All.c s__0 s__1 l_) fun z1 =>
 (.opt (ref24_Flat.c l_) fun z2 =>
 (.bb (z1.1 != (0 : Int))
 (.ret false)
 (.bb ((((List.length z1.2) : Nat) : Int) != (((List.length z2) : Nat) : Int))
 (.ret false)
 (.opt (L6 l_ (0 : Int) s__0 s__1 z1.2 z2) fun z11 =>
 (.sm z11
 (fun z12 => (.ret true))
 (fun z13 => (.ret z13))))))))
def c (s__0 : Int) (s__1 : (List FormV)) (l_ : (List (List ItemV))) : Option Bool := (t s__0 s__1 l_).run
def tl (l : TA) : Tw Bool := t l.1.1.1 l.1.1.2.1 l.1.2.1
def pA : Pt := (.cs (.agg (jC (.cs (.sl 28) .nl))) (.cs (.sl 11) .nl))
def pH : Pt := .nl
def v (l : TA) (y : Bool) : AV U := jB y
def hh (l : TA) (y : Bool) : Hp U := []
def A : AFun U := mkA pA pH (X := Bool) (fun l => (tl l).run) sp1 v hh
def body := bodyOf Try.f50
def E : Env U := E0.mk5 [(52, store_All.A), (16, ref24_Flat.A), (49, ref28_Get.A), (47, ref14_Same.A), (86, ref18_Main.A)] [(6, Λ6)] [] [(6, ⟨[8, 5, 7, 1, 2], []⟩, ⟨[4], []⟩)] []
theorem hf6 : HF E (pick (loopsOf body) 6) p6 q6 0 fl6 hd6 (spS sp1) ou6 := fun _ _ _ _ => by kernel_rfl
theorem lk6 : LK E (pick (loopsOf body) 6) Λ6 := fun R st K r h =>
  lp_ok (E := E) (b := pick (loopsOf body) 6) (m := 0) (sp := (spS sp1)) (p := p6) (q := q6) (X := X6) (S := Int) (f := fl6) (hd := hd6) (s0 := fun (l : T6) => (d4 l.1).2.2.2.1) (ou := ou6)
    (fun l => rfl) (fun l x => by repeat' (first | rfl | (cases x with | inl => rfl | inr x => ?_))) (spS_ok sp1_ok) hf6 h
theorem hk : HK E Try.f50 [] pA pH tl v hh := fun _ _ _ => by kernel_rfl
theorem og : SoundF Try.prog cc 50 A ∧ FnOK Try.prog 50 :=
 og_of (E := E) P_mixed (E0_ok.mk5 _ _ _ _ _) (gam_of (all_cons ⟨store_All.ok, store_All.fo⟩ (all_cons ref24_Flat.og (all_cons ref28_Get.og (all_cons ref14_Same.og (all_cons ref18_Main.og all_nil))))) no_ro) Try.func50 (c := body) (by kernel_rfl)
    (just_by (by kernel_rfl) (by kernel_rfl) (all_cons lk6 all_nil) all_nil) [] sp1_ok hk (by kernel_rfl)
end law28_told

end
end Go.Proofs.Ytmlbioapefgioaa.Va
