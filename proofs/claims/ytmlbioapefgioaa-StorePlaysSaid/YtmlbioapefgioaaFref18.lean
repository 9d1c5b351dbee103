/- The functions of package ref18, as plain functions, and that the program computes them. Printed by a program of this work out of the evaluator. -/
import Derived.Test.YtmlbioapefgioaaEn
import Derived.Tactics
set_option linter.unusedVariables false
namespace Go.Proofs.Ytmlbioapefgioaa.Va
noncomputable section
open Go
set_option maxRecDepth 100000

/-! instar/instarref18.Fits -/
namespace ref18_Fits
abbrev TA : Type := ((Int × (Int × Unit)) × Unit)
def t (form id : Int) : Tw Bool :=
 (.bb (decide (form ≥ (0 : Int)))
 (.bb (decide (form ≤ (200 : Int)))
 (.bb (decide (id ≥ (0 : Int)))
 (.ret (decide (id ≤ (65535 : Int))))
 (.ret false))
 (.ret false))
 (.ret false))
def c (form id : Int) : Option Bool := (t form id).run
def tl (l : TA) : Tw Bool := t l.1.1 l.1.2.1
def pA : Pt := (jC (jC .nl))
def pH : Pt := .nl
def v (l : TA) (y : Bool) : AV U := jB y
def hh (l : TA) (y : Bool) : Hp U := []
def A : AFun U := mkA pA pH (X := Bool) (fun l => (tl l).run) sp1 v hh
def body := bodyOf Try.f113
def E : Env U := E0.mk5 [] [] [] [] []
theorem hk : HK E Try.f113 [] pA pH tl v hh := fun _ _ _ => by kernel_rfl
theorem og : SoundF Try.prog cc 113 A ∧ FnOK Try.prog 113 :=
 og_of (E := E) P_mixed (E0_ok.mk5 _ _ _ _ _) (gam_of all_nil all_nil) Try.func113 (c := body) (by kernel_rfl)
    (just_by (by kernel_rfl) (by kernel_rfl) all_nil all_nil) [] sp1_ok hk (by kernel_rfl)
end ref18_Fits

/-! instar/instarref18.Main -/
namespace ref18_Main
abbrev TA : Type := ((Int × (Int × Unit)) × Unit)
def t (form id : Int) : Tw Int :=
 (.ret (w32 ((w32 ((w32 form) * (65536 : Int))) + (w32 id))))
def c (form id : Int) : Option Int := (t form id).run
def tl (l : TA) : Tw Int := t l.1.1 l.1.2.1
def pA : Pt := (jC (jC .nl))
def pH : Pt := .nl
def v (l : TA) (y : Int) : AV U := .im (.int .u32 y)
def hh (l : TA) (y : Int) : Hp U := []
def A : AFun U := mkA pA pH (X := Int) (fun l => (tl l).run) sp1 v hh
def body := bodyOf Try.f86
def E : Env U := E0.mk5 [] [] [] [] []
theorem hk : HK E Try.f86 [] pA pH tl v hh := fun _ _ _ => by kernel_rfl
theorem og : SoundF Try.prog cc 86 A ∧ FnOK Try.prog 86 :=
 og_of (E := E) P_mixed (E0_ok.mk5 _ _ _ _ _) (gam_of all_nil all_nil) Try.func86 (c := body) (by kernel_rfl)
    (just_by (by kernel_rfl) (by kernel_rfl) all_nil all_nil) [] sp1_ok hk (by kernel_rfl)
end ref18_Main

/-! instar/instarref18.Find -/
namespace ref18_Find
abbrev TA : Type := (((List ItemV) × (Int × Unit)) × Unit)
abbrev XA : Type := (ByteArray × Bool)
abbrev T2 : Type := (((List ItemV) × (Int × (Unit × (Int × (Unit × Unit))))) × Unit)
abbrev X2 : Type := (Unit ⊕ (ByteArray × Bool))
def l2 (l_ : (List ItemV)) (k i : Int) : Tw (Int ⊕ X2) :=
 (.bb (decide (i < (((List.length l_) : Nat) : Int)))
 (.dd (((0 : Int) ≤ i)) inferInstance
 (.opt (l_)[(Int.toNat i)]? fun z1 =>
 (.bb (z1.key == k)
 (.dd (((0 : Int) ≤ i)) inferInstance
 (.opt (l_)[(Int.toNat i)]? fun z2 =>
 (.ret (.inr (.inr (z2.data, true)))))
 .no)
 (.ret (.inl (w64 (i + (1 : Int)))))))
 .no)
 (.ret (.inr (.inl ()))))
def L2 (l_ : (List ItemV)) (k i : Int) : Option X2 := Lp (fun s => (l2 l_ k s).run) i
def p2 : Pt := (.cs (.sl 10) (.cs (.int .u32) (.cs (.bots 4) (jC (.cs (.bots 18) .nl)))))
def q2 : Pt := .nl
def ou2 (l : T2) (y : X2) : Ex × St U := (Sum.elim (fun a0 => (.exit 0, stOf 25 [] [] 0)) (fun b0 => (.ret, stOf 25 [(4, .im (.str b0.1)), (5, jB b0.2)] [] 0)) y)
def Λ2 : LFun U := mkLp p2 q2 0 (X := X2) (fun (l : T2) => L2 l.1.1 l.1.2.1 l.1.2.2.2.1) (spS sp1) ou2
def hd2 (l : T2) (s : Int) : T2 := ((l.1.1, (l.1.2.1, ((), (s, ((), ()))))), ())
def fl2 (l : T2) (s : Int) : Tw (Int ⊕ X2) := l2 l.1.1 l.1.2.1 s
def t (l_ : (List ItemV)) (k : Int) : Tw XA :=
 (.opt (L2 l_ k (0 : Int)) fun z3 =>
 (.sm z3
 (fun z4 => (.ret ((ByteArray.mk (List.toArray ([] : List (UInt8)))), false)))
 (fun z5 => (.ret (z5.1, z5.2)))))
def c (l_ : (List ItemV)) (k : Int) : Option XA := (t l_ k).run
def tl (l : TA) : Tw XA := t l.1.1 l.1.2.1
def pA : Pt := (.cs (.sl 10) (.cs (.int .u32) .nl))
def pH : Pt := .nl
def v (l : TA) (y : XA) : AV U := .tup [.im (.str y.1), jB y.2]
def hh (l : TA) (y : XA) : Hp U := []
def A : AFun U := mkA pA pH (X := XA) (fun l => (tl l).run) sp1 v hh
def body := bodyOf Try.f87
def E : Env U := E0.mk5 [] [(2, Λ2)] [] [(2, ⟨[6, 0, 1], []⟩, ⟨[4, 5], []⟩)] []
theorem hf2 : HF E (pick (loopsOf body) 2) p2 q2 0 fl2 hd2 (spS sp1) ou2 := fun _ _ _ _ => by kernel_rfl
theorem lk2 : LK E (pick (loopsOf body) 2) Λ2 := fun R st K r h =>
  lp_ok (E := E) (b := pick (loopsOf body) 2) (m := 0) (sp := (spS sp1)) (p := p2) (q := q2) (X := X2) (S := Int) (f := fl2) (hd := hd2) (s0 := fun (l : T2) => l.1.2.2.2.1) (ou := ou2)
    (fun l => rfl) (fun l x => by repeat' (first | rfl | (cases x with | inl => rfl | inr x => ?_))) (spS_ok sp1_ok) hf2 h
theorem hk : HK E Try.f87 [] pA pH tl v hh := fun _ _ _ => by kernel_rfl
theorem og : SoundF Try.prog cc 87 A ∧ FnOK Try.prog 87 :=
 og_of (E := E) P_mixed (E0_ok.mk5 _ _ _ _ _) (gam_of all_nil all_nil) Try.func87 (c := body) (by kernel_rfl)
    (just_by (by kernel_rfl) (by kernel_rfl) (all_cons lk2 all_nil) all_nil) [] sp1_ok hk (by kernel_rfl)
end ref18_Find

/-! instar/instarref18.Between -/
namespace ref18_Between
abbrev TA : Type := (((List ItemV) × (Int × (Int × Unit))) × Unit)
abbrev T3 : Type := (((List ItemV) × (Int × (Int × (Unit × (Unit × (Int × (Unit × Unit))))))) × ((List ItemV) × Unit))
abbrev S3 : Type := (Int × (List ItemV))
def l3 (l_ : (List ItemV)) (lo hi i : Int) (h0 : (List ItemV)) : Tw (S3 ⊕ (List ItemV)) :=
 (.bb (decide (i < (((List.length l_) : Nat) : Int)))
 (.dd (((0 : Int) ≤ i)) inferInstance
 (.opt (l_)[(Int.toNat i)]? fun z1 =>
 (.bb (decide (z1.key ≥ lo))
 (.dd (((0 : Int) ≤ i)) inferInstance
 (.opt (l_)[(Int.toNat i)]? fun z2 =>
 (.bb (decide (z2.key ≤ hi))
 (.dd (((0 : Int) ≤ i)) inferInstance
 (.opt (l_)[(Int.toNat i)]? fun z3 =>
 (.dd ((((((List.length h0) + (List.length ((Go.Proofs.Ytmlbioapefgioaa.Va.ItemV.mk z3.key z3.data) :: ([] : List (ItemV))))) * (24 : Nat)) ≤ (140737488355328 : Nat)) ∧ (((List.length h0) + (List.length ((Go.Proofs.Ytmlbioapefgioaa.Va.ItemV.mk z3.key z3.data) :: ([] : List (ItemV))))) ≤ (140737488355328 : Nat)))) inferInstance
 (.ret (.inl ((w64 (i + (1 : Int))), (h0 ++ ((Go.Proofs.Ytmlbioapefgioaa.Va.ItemV.mk z3.key z3.data) :: ([] : List (ItemV)))))))
 .no))
 .no)
 (.ret (.inl ((w64 (i + (1 : Int))), h0)))))
 .no)
 (.ret (.inl ((w64 (i + (1 : Int))), h0)))))
 .no)
 (.ret (.inr h0)))
def L3 (l_ : (List ItemV)) (lo hi i : Int) (h0 : (List ItemV)) : Option (List ItemV) := Lp (fun s => (l3 l_ lo hi s.1 s.2).run) (i, h0)
def p3 : Pt := (.cs (.sl 10) (.cs (.int .u32) (.cs (.int .u32) (.cs (.bots 4) (.cs (.own 0) (jC (.cs (.bots 30) .nl)))))))
def q3 : Pt := (.cs (.row 10 true) .nl)
def ou3 (l : T3) (y : (List ItemV)) : Ex × St U := (.exit 0, stOf 39 [(7, .own 0)] [.row 10 y true] 0)
def Λ3 : LFun U := mkLp p3 q3 0 (X := (List ItemV)) (fun (l : T3) => L3 l.1.1 l.1.2.1 l.1.2.2.1 (d4 l.1).2.1 l.2.1) sp1 ou3
def hd3 (l : T3) (s : S3) : T3 := ((l.1.1, (l.1.2.1, (l.1.2.2.1, ((), ((), (s.1, ((), ()))))))), (s.2, ()))
def fl3 (l : T3) (s : S3) : Tw (S3 ⊕ (List ItemV)) := l3 l.1.1 l.1.2.1 l.1.2.2.1 s.1 s.2
def t (l_ : (List ItemV)) (lo hi : Int) : Tw (List ItemV) :=
 (.opt (L3 l_ lo hi (0 : Int) ([] : List (ItemV))) fun z4 =>
 (.ret z4))
def c (l_ : (List ItemV)) (lo hi : Int) : Option (List ItemV) := (t l_ lo hi).run
def tl (l : TA) : Tw (List ItemV) := t l.1.1 l.1.2.1 l.1.2.2.1
def pA : Pt := (.cs (.sl 10) (.cs (.int .u32) (.cs (.int .u32) .nl)))
def pH : Pt := .nl
def v (l : TA) (y : (List ItemV)) : AV U := .own 0
def hh (l : TA) (y : (List ItemV)) : Hp U := [.row 10 y true]
def A : AFun U := mkA pA pH (X := (List ItemV)) (fun l => (tl l).run) sp1 v hh
def body := bodyOf Try.f68
def E : Env U := E0.mk5 [] [(3, Λ3)] [] [(3, ⟨[8, 0, 7, 2, 1], [(7, [], .own 10)]⟩, ⟨[6, 7], []⟩)] []
theorem hf3 : HF E (pick (loopsOf body) 3) p3 q3 0 fl3 hd3 sp1 ou3 := fun _ _ _ _ => by kernel_rfl
theorem lk3 : LK E (pick (loopsOf body) 3) Λ3 := fun R st K r h =>
  lp_ok (E := E) (b := pick (loopsOf body) 3) (m := 0) (sp := sp1) (p := p3) (q := q3) (X := (List ItemV)) (S := S3) (f := fl3) (hd := hd3) (s0 := fun (l : T3) => ((d4 l.1).2.1, l.2.1)) (ou := ou3)
    (fun l => rfl) (fun l x => by rfl) sp1_ok hf3 h
theorem hk : HK E Try.f68 [] pA pH tl v hh := fun _ _ _ => by kernel_rfl
theorem og : SoundF Try.prog cc 68 A ∧ FnOK Try.prog 68 :=
 og_of (E := E) P_mixed (E0_ok.mk5 _ _ _ _ _) (gam_of all_nil all_nil) Try.func68 (c := body) (by kernel_rfl)
    (just_by (by kernel_rfl) (by kernel_rfl) (all_cons lk3 all_nil) all_nil) [] sp1_ok hk (by kernel_rfl)
end ref18_Between

/-! instar/instarref18.Same -/
namespace ref18_Same
abbrev TA : Type := (((List ItemV) × ((List ItemV) × Unit)) × Unit)
abbrev T4 : Type := (((List ItemV) × ((List ItemV) × (Unit × (Int × (Unit × Unit))))) × Unit)
abbrev X4 : Type := (Unit ⊕ Bool)
def l4 (a : (List ItemV)) (b : (List ItemV)) (i : Int) : Tw (Int ⊕ X4) :=
 (.bb (decide (i < (((List.length a) : Nat) : Int)))
 (.dd (((0 : Int) ≤ i)) inferInstance
 (.opt (a)[(Int.toNat i)]? fun z1 =>
 (.dd (((0 : Int) ≤ i)) inferInstance
 (.opt (b)[(Int.toNat i)]? fun z2 =>
 (.bb (!((z1.key == z2.key) && (((ByteArray.toList z1.data) == (ByteArray.toList z2.data)) && true)))
 (.ret (.inr (.inr false)))
 (.ret (.inl (w64 (i + (1 : Int)))))))
 .no))
 .no)
 (.ret (.inr (.inl ()))))
def L4 (a : (List ItemV)) (b : (List ItemV)) (i : Int) : Option X4 := Lp (fun s => (l4 a b s).run) i
def p4 : Pt := (.cs (.sl 10) (.cs (.sl 10) (.cs (.bots 3) (jC (.cs (.bots 20) .nl)))))
def q4 : Pt := .nl
def ou4 (l : T4) (y : X4) : Ex × St U := (Sum.elim (fun a0 => (.exit 0, stOf 26 [] [] 0)) (fun b0 => (.ret, stOf 26 [(4, jB b0)] [] 0)) y)
def Λ4 : LFun U := mkLp p4 q4 0 (X := X4) (fun (l : T4) => L4 l.1.1 l.1.2.1 l.1.2.2.2.1) (spS sp1) ou4
def hd4 (l : T4) (s : Int) : T4 := ((l.1.1, (l.1.2.1, ((), (s, ((), ()))))), ())
def fl4 (l : T4) (s : Int) : Tw (Int ⊕ X4) := l4 l.1.1 l.1.2.1 s
def t (a : (List ItemV)) (b : (List ItemV)) : Tw Bool :=
 (.bb ((((List.length a) : Nat) : Int) != (((List.length b) : Nat) : Int))
 (.ret false)
 (.opt (L4 a b (0 : Int)) fun z3 =>
 (.sm z3
 (fun z4 => (.ret true))
 (fun z5 => (.ret z5)))))
def c (a : (List ItemV)) (b : (List ItemV)) : Option Bool := (t a b).run
def tl (l : TA) : Tw Bool := t l.1.1 l.1.2.1
def pA : Pt := (.cs (.sl 10) (.cs (.sl 10) .nl))
def pH : Pt := .nl
def v (l : TA) (y : Bool) : AV U := jB y
def hh (l : TA) (y : Bool) : Hp U := []
def A : AFun U := mkA pA pH (X := Bool) (fun l => (tl l).run) sp1 v hh
def body := bodyOf Try.f14
def E : Env U := E0.mk5 [] [(4, Λ4)] [] [(4, ⟨[5, 1, 0], []⟩, ⟨[4], []⟩)] []
theorem hf4 : HF E (pick (loopsOf body) 4) p4 q4 0 fl4 hd4 (spS sp1) ou4 := fun _ _ _ _ => by kernel_rfl
theorem lk4 : LK E (pick (loopsOf body) 4) Λ4 := fun R st K r h =>
  lp_ok (E := E) (b := pick (loopsOf body) 4) (m := 0) (sp := (spS sp1)) (p := p4) (q := q4) (X := X4) (S := Int) (f := fl4) (hd := hd4) (s0 := fun (l : T4) => l.1.2.2.2.1) (ou := ou4)
    (fun l => rfl) (fun l x => by repeat' (first | rfl | (cases x with | inl => rfl | inr x => ?_))) (spS_ok sp1_ok) hf4 h
theorem hk : HK E Try.f14 [] pA pH tl v hh := fun _ _ _ => by kernel_rfl
theorem og : SoundF Try.prog cc 14 A ∧ FnOK Try.prog 14 :=
 og_of (E := E) P_mixed (E0_ok.mk5 _ _ _ _ _) (gam_of all_nil all_nil) Try.func14 (c := body) (by kernel_rfl)
    (just_by (by kernel_rfl) (by kernel_rfl) (all_cons lk4 all_nil) all_nil) [] sp1_ok hk (by kernel_rfl)
end ref18_Same

/-! instar/instarref18.Put -/
namespace ref18_Put
abbrev TA : Type := (((List ItemV) × ((Int × (ByteArray × Unit)) × Unit)) × Unit)
def t (l_ : (List ItemV)) (x_0 : Int) (x_1 : ByteArray) : Tw (List ItemV) :=
 (.bb (decide (x_0 > (0 : Int)))
 (.opt (ref18_Between.c l_ (0 : Int) (w32 (x_0 - (1 : Int)))) fun z2 =>
 (.dd ((((((List.length z2) + (List.length ((Go.Proofs.Ytmlbioapefgioaa.Va.ItemV.mk x_0 x_1) :: ([] : List (ItemV))))) * (24 : Nat)) ≤ (140737488355328 : Nat)) ∧ (((List.length z2) + (List.length ((Go.Proofs.Ytmlbioapefgioaa.Va.ItemV.mk x_0 x_1) :: ([] : List (ItemV))))) ≤ (140737488355328 : Nat)))) inferInstance
 (.bb (decide (x_0 < (4294967295 : Int)))
 (.opt (ref18_Between.c l_ (w32 (x_0 + (1 : Int))) (4294967295 : Int)) fun z3 =>
 (.dd ((((((List.length (z2 ++ ((Go.Proofs.Ytmlbioapefgioaa.Va.ItemV.mk x_0 x_1) :: ([] : List (ItemV))))) + (List.length z3)) * (24 : Nat)) ≤ (140737488355328 : Nat)) ∧ (((List.length (z2 ++ ((Go.Proofs.Ytmlbioapefgioaa.Va.ItemV.mk x_0 x_1) :: ([] : List (ItemV))))) + (List.length z3)) ≤ (140737488355328 : Nat)))) inferInstance
 (.ret ((z2 ++ ((Go.Proofs.Ytmlbioapefgioaa.Va.ItemV.mk x_0 x_1) :: ([] : List (ItemV)))) ++ z3))
 .no))
 (.ret (z2 ++ ((Go.Proofs.Ytmlbioapefgioaa.Va.ItemV.mk x_0 x_1) :: ([] : List (ItemV))))))
 .no))
 (.bb (decide (x_0 < (4294967295 : Int)))
 (.opt (ref18_Between.c l_ (w32 (x_0 + (1 : Int))) (4294967295 : Int)) fun z1 =>
 (.dd ((((((List.length ((Go.Proofs.Ytmlbioapefgioaa.Va.ItemV.mk x_0 x_1) :: ([] : List (ItemV)))) + (List.length z1)) * (24 : Nat)) ≤ (140737488355328 : Nat)) ∧ (((List.length ((Go.Proofs.Ytmlbioapefgioaa.Va.ItemV.mk x_0 x_1) :: ([] : List (ItemV)))) + (List.length z1)) ≤ (140737488355328 : Nat)))) inferInstance
 (.ret (((Go.Proofs.Ytmlbioapefgioaa.Va.ItemV.mk x_0 x_1) :: ([] : List (ItemV))) ++ z1))
 .no))
 (.ret ((Go.Proofs.Ytmlbioapefgioaa.Va.ItemV.mk x_0 x_1) :: ([] : List (ItemV))))))
def c (l_ : (List ItemV)) (x_0 : Int) (x_1 : ByteArray) : Option (List ItemV) := (t l_ x_0 x_1).run
def tl (l : TA) : Tw (List ItemV) := t l.1.1 l.1.2.1.1 l.1.2.1.2.1
def pA : Pt := (.cs (.sl 10) (.cs (.agg (.cs (.int .u32) (.cs .str .nl))) .nl))
def pH : Pt := .nl
def v (l : TA) (y : (List ItemV)) : AV U := .own 0
def hh (l : TA) (y : (List ItemV)) : Hp U := [.row 10 y true]
def A : AFun U := mkA pA pH (X := (List ItemV)) (fun l => (tl l).run) sp1 v hh
def body := bodyOf Try.f28
def E : Env U := E0.mk5 [(68, ref18_Between.A)] [] [] [] []
theorem hk : HK E Try.f28 [] pA pH tl v hh := fun _ _ _ => by kernel_rfl
theorem og : SoundF Try.prog cc 28 A ∧ FnOK Try.prog 28 :=
 og_of (E := E) P_mixed (E0_ok.mk5 _ _ _ _ _) (gam_of (all_cons ref18_Between.og all_nil) no_ro) Try.func28 (c := body) (by kernel_rfl)
    (just_by (by kernel_rfl) (by kernel_rfl) all_nil all_nil) [] sp1_ok hk (by kernel_rfl)
end ref18_Put

/-! instar/instarref18.Cut -/
namespace ref18_Cut
abbrev TA : Type := (((List ItemV) × (Int × Unit)) × Unit)
abbrev XA : Type := (Bool × (List ItemV))
abbrev T3 : Type := (((List ItemV) × (Int × (Unit × (Unit × (Int × (Unit × Unit)))))) × ((List ItemV) × Unit))
abbrev S3 : Type := (Int × (List ItemV))
def l3 (l_ : (List ItemV)) (k i : Int) (h0 : (List ItemV)) : Tw (S3 ⊕ (List ItemV)) :=
 (.bb (decide (i < (((List.length l_) : Nat) : Int)))
 (.dd (((0 : Int) ≤ i)) inferInstance
 (.opt (l_)[(Int.toNat i)]? fun z1 =>
 (.bb (z1.key != k)
 (.dd (((0 : Int) ≤ i)) inferInstance
 (.opt (l_)[(Int.toNat i)]? fun z2 =>
 (.dd ((((((List.length h0) + (List.length ((Go.Proofs.Ytmlbioapefgioaa.Va.ItemV.mk z2.key z2.data) :: ([] : List (ItemV))))) * (24 : Nat)) ≤ (140737488355328 : Nat)) ∧ (((List.length h0) + (List.length ((Go.Proofs.Ytmlbioapefgioaa.Va.ItemV.mk z2.key z2.data) :: ([] : List (ItemV))))) ≤ (140737488355328 : Nat)))) inferInstance
 (.ret (.inl ((w64 (i + (1 : Int))), (h0 ++ ((Go.Proofs.Ytmlbioapefgioaa.Va.ItemV.mk z2.key z2.data) :: ([] : List (ItemV)))))))
 .no))
 .no)
 (.ret (.inl ((w64 (i + (1 : Int))), h0)))))
 .no)
 (.ret (.inr h0)))
def L3 (l_ : (List ItemV)) (k i : Int) (h0 : (List ItemV)) : Option (List ItemV) := Lp (fun s => (l3 l_ k s.1 s.2).run) (i, h0)
def p3 : Pt := (.cs (.sl 10) (.cs (.int .u32) (.cs (.bots 4) (.cs (.own 0) (jC (.cs (.bots 26) .nl))))))
def q3 : Pt := (.cs (.row 10 true) .nl)
def ou3 (l : T3) (y : (List ItemV)) : Ex × St U := (.exit 0, stOf 34 [(0, .im (.slice 10 l.1.1)), (6, .own 0)] [.row 10 y true] 0)
def Λ3 : LFun U := mkLp p3 q3 0 (X := (List ItemV)) (fun (l : T3) => L3 l.1.1 l.1.2.1 (d4 l.1).1 l.2.1) sp1 ou3
def hd3 (l : T3) (s : S3) : T3 := ((l.1.1, (l.1.2.1, ((), ((), (s.1, ((), ())))))), (s.2, ()))
def fl3 (l : T3) (s : S3) : Tw (S3 ⊕ (List ItemV)) := l3 l.1.1 l.1.2.1 s.1 s.2
def t (l_ : (List ItemV)) (k : Int) : Tw XA :=
 (.opt (L3 l_ k (0 : Int) ([] : List (ItemV))) fun z3 =>
 (.ret ((decide ((((List.length z3) : Nat) : Int) < (((List.length l_) : Nat) : Int))), z3)))
def c (l_ : (List ItemV)) (k : Int) : Option XA := (t l_ k).run
def tl (l : TA) : Tw XA := t l.1.1 l.1.2.1
def pA : Pt := (.cs (.sl 10) (.cs (.int .u32) .nl))
def pH : Pt := .nl
def v (l : TA) (y : XA) : AV U := .tup [.own 0, jB y.1]
def hh (l : TA) (y : XA) : Hp U := [.row 10 y.2 true]
def A : AFun U := mkA pA pH (X := XA) (fun l => (tl l).run) sp1 v hh
def body := bodyOf Try.f29
def E : Env U := E0.mk5 [] [(3, Λ3)] [] [(3, ⟨[7, 0, 6, 1], [(6, [], .own 10)]⟩, ⟨[4, 5, 0, 6], []⟩)] []
theorem hf3 : HF E (pick (loopsOf body) 3) p3 q3 0 fl3 hd3 sp1 ou3 := fun _ _ _ _ => by kernel_rfl
theorem lk3 : LK E (pick (loopsOf body) 3) Λ3 := fun R st K r h =>
  lp_ok (E := E) (b := pick (loopsOf body) 3) (m := 0) (sp := sp1) (p := p3) (q := q3) (X := (List ItemV)) (S := S3) (f := fl3) (hd := hd3) (s0 := fun (l : T3) => ((d4 l.1).1, l.2.1)) (ou := ou3)
    (fun l => rfl) (fun l x => by rfl) sp1_ok hf3 h
theorem hk : HK E Try.f29 [] pA pH tl v hh := fun _ _ _ => by kernel_rfl
theorem og : SoundF Try.prog cc 29 A ∧ FnOK Try.prog 29 :=
 og_of (E := E) P_mixed (E0_ok.mk5 _ _ _ _ _) (gam_of all_nil all_nil) Try.func29 (c := body) (by kernel_rfl)
    (just_by (by kernel_rfl) (by kernel_rfl) (all_cons lk3 all_nil) all_nil) [] sp1_ok hk (by kernel_rfl)
end ref18_Cut

end
end Go.Proofs.Ytmlbioapefgioaa.Va
