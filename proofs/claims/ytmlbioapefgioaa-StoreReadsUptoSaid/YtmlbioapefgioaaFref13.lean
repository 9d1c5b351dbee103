/- The functions of package ref13, as plain functions, and that the program computes them. Printed by a program of this work out of the evaluator. -/
import Derived.Test.YtmlbioapefgioaaEn
import Derived.Tactics
import Derived.Test.YtmlbioapefgioaaFref12
set_option linter.unusedVariables false
namespace Go.Proofs.Ytmlbioapefgioaa.Va
noncomputable section
open Go
set_option maxRecDepth 100000

/-! instar/instarref13.At -/
namespace ref13_At
abbrev TA : Type := (((Int × ((List FieldV) × Unit)) × (Int × Unit)) × Unit)
abbrev T2 : Type := ((Unit × (Int × (Unit × (Unit × (Int × (Unit × Unit)))))) × ((Int × ((List FieldV) × Unit)) × Unit))
abbrev X2 : Type := (Unit ⊕ Int)
def l2 (id h0_0 : Int) (h0_1 : (List FieldV)) (i : Int) : Tw (Int ⊕ X2) :=
 (.bb (decide (i < (((List.length h0_1) : Nat) : Int)))
 (.dd (((0 : Int) ≤ i)) inferInstance
 (.opt (h0_1)[(Int.toNat i)]? fun z1 =>
 (.bb (z1.id == id)
 (.ret (.inr (.inr i)))
 (.ret (.inl (w64 (i + (1 : Int)))))))
 .no)
 (.ret (.inr (.inl ()))))
def L2 (id i h0_0 : Int) (h0_1 : (List FieldV)) : Option X2 := Lp (fun s => (l2 id h0_0 h0_1 s).run) i
def p2 : Pt := (.cs (.bots 1) (jC (.cs (.ptr 0 0) (.cs (.bots 2) (jC (.cs (.bots 16) .nl))))))
def q2 : Pt := (.cs (.var (jC (.cs (.sl 23) .nl))) .nl)
def ou2 (l : T2) (y : X2) : Ex × St U := (Sum.elim (fun a0 => (.exit 0, stOf 22 [] [] 0)) (fun b0 => (.ret, stOf 22 [(4, jI b0)] [] 0)) y)
def Λ2 : LFun U := mkLp p2 q2 0 (X := X2) (fun (l : T2) => L2 l.1.2.1 (d4 l.1).1 l.2.1.1 l.2.1.2.1) (spS sp1) ou2
def hd2 (l : T2) (s : Int) : T2 := (((), (l.1.2.1, ((), ((), (s, ((), ())))))), ((l.2.1.1, (l.2.1.2.1, ())), ()))
def fl2 (l : T2) (s : Int) : Tw (Int ⊕ X2) := l2 l.1.2.1 l.2.1.1 l.2.1.2.1 s
def t (f_0 : Int) (f_1 : (List FieldV)) (id : Int) : Tw Int :=
 (.opt (L2 id (0 : Int) f_0 f_1) fun z2 =>
 (.sm z2
 (fun z3 => (.ret (-(1 : Int))))
 (fun z4 => (.ret z4))))
def c (f_0 : Int) (f_1 : (List FieldV)) (id : Int) : Option Int := (t f_0 f_1 id).run
def tl (l : TA) : Tw Int := t l.1.1.1 l.1.1.2.1 l.1.2.1
def pA : Pt := (.cs (.agg (jC (.cs (.sl 23) .nl))) (jC .nl))
def pH : Pt := .nl
def v (l : TA) (y : Int) : AV U := jI y
def hh (l : TA) (y : Int) : Hp U := []
def A : AFun U := mkA pA pH (X := Int) (fun l => (tl l).run) sp1 v hh
def body := bodyOf Try.f122
def E : Env U := E0.mk5 [] [(2, Λ2)] [] [(2, ⟨[5, 1, 2], []⟩, ⟨[4], []⟩)] []
theorem hf2 : HF E (pick (loopsOf body) 2) p2 q2 0 fl2 hd2 (spS sp1) ou2 := fun _ _ _ _ => by kernel_rfl
theorem lk2 : LK E (pick (loopsOf body) 2) Λ2 := fun R st K r h =>
  lp_ok (E := E) (b := pick (loopsOf body) 2) (m := 0) (sp := (spS sp1)) (p := p2) (q := q2) (X := X2) (S := Int) (f := fl2) (hd := hd2) (s0 := fun (l : T2) => (d4 l.1).1) (ou := ou2)
    (fun l => rfl) (fun l x => by repeat' (first | rfl | (cases x with | inl => rfl | inr x => ?_))) (spS_ok sp1_ok) hf2 h
theorem hk : HK E Try.f122 [] pA pH tl v hh := fun _ _ _ => by kernel_rfl
theorem og : SoundF Try.prog cc 122 A ∧ FnOK Try.prog 122 :=
 og_of (E := E) P_mixed (E0_ok.mk5 _ _ _ _ _) (gam_of all_nil all_nil) Try.func122 (c := body) (by kernel_rfl)
    (just_by (by kernel_rfl) (by kernel_rfl) (all_cons lk2 all_nil) all_nil) [] sp1_ok hk (by kernel_rfl)
end ref13_At

/-! instar/instarref13.Long -/
namespace ref13_Long
abbrev TA : Type := (((Int × ((List FieldV) × Unit)) × Unit) × Unit)
abbrev T3 : Type := ((Unit × (Unit × (Unit × (Int × (Int × (Unit × Unit)))))) × ((Int × ((List FieldV) × Unit)) × Unit))
abbrev S3 : Type := (Int × Int)
def l3 (h0_0 : Int) (h0_1 : (List FieldV)) (n i : Int) : Tw (S3 ⊕ Int) :=
 (.bb (decide (i < (((List.length h0_1) : Nat) : Int)))
 (.dd (((0 : Int) ≤ i)) inferInstance
 (.opt (h0_1)[(Int.toNat i)]? fun z1 =>
 (.opt (ref12_Size.c z1.id z1.kind z1.lo z1.hi z1.most) fun z2 =>
 (.ret (.inl ((w64 (n + z2)), (w64 (i + (1 : Int))))))))
 .no)
 (.ret (.inr n)))
def L3 (n i h0_0 : Int) (h0_1 : (List FieldV)) : Option Int := Lp (fun s => (l3 h0_0 h0_1 s.1 s.2).run) (n, i)
def p3 : Pt := (.cs (.bots 1) (.cs (.ptr 0 0) (.cs (.bots 1) (jC (jC (.cs (.bots 16) .nl))))))
def q3 : Pt := (.cs (.var (jC (.cs (.sl 23) .nl))) .nl)
def ou3 (l : T3) (y : Int) : Ex × St U := (.exit 0, stOf 21 [(3, jI y)] [] 0)
def Λ3 : LFun U := mkLp p3 q3 0 (X := Int) (fun (l : T3) => L3 l.1.2.2.2.1 (d4 l.1).1 l.2.1.1 l.2.1.2.1) sp1 ou3
def hd3 (l : T3) (s : S3) : T3 := (((), ((), ((), (s.1, (s.2, ((), ())))))), ((l.2.1.1, (l.2.1.2.1, ())), ()))
def fl3 (l : T3) (s : S3) : Tw (S3 ⊕ Int) := l3 l.2.1.1 l.2.1.2.1 s.1 s.2
def t (f_0 : Int) (f_1 : (List FieldV)) : Tw Int :=
 (.opt (L3 (0 : Int) (0 : Int) f_0 f_1) fun z3 =>
 (.ret z3))
def c (f_0 : Int) (f_1 : (List FieldV)) : Option Int := (t f_0 f_1).run
def tl (l : TA) : Tw Int := t l.1.1.1 l.1.1.2.1
def pA : Pt := (.cs (.agg (jC (.cs (.sl 23) .nl))) .nl)
def pH : Pt := .nl
def v (l : TA) (y : Int) : AV U := jI y
def hh (l : TA) (y : Int) : Hp U := []
def A : AFun U := mkA pA pH (X := Int) (fun l => (tl l).run) sp1 v hh
def body := bodyOf Try.f123
def E : Env U := E0.mk5 [(133, ref12_Size.A)] [(3, Λ3)] [] [(3, ⟨[4, 1, 3], []⟩, ⟨[2, 3], []⟩)] []
theorem hf3 : HF E (pick (loopsOf body) 3) p3 q3 0 fl3 hd3 sp1 ou3 := fun _ _ _ _ => by kernel_rfl
theorem lk3 : LK E (pick (loopsOf body) 3) Λ3 := fun R st K r h =>
  lp_ok (E := E) (b := pick (loopsOf body) 3) (m := 0) (sp := sp1) (p := p3) (q := q3) (X := Int) (S := S3) (f := fl3) (hd := hd3) (s0 := fun (l : T3) => (l.1.2.2.2.1, (d4 l.1).1)) (ou := ou3)
    (fun l => rfl) (fun l x => by rfl) sp1_ok hf3 h
theorem hk : HK E Try.f123 [] pA pH tl v hh := fun _ _ _ => by kernel_rfl
theorem og : SoundF Try.prog cc 123 A ∧ FnOK Try.prog 123 :=
 og_of (E := E) P_mixed (E0_ok.mk5 _ _ _ _ _) (gam_of (all_cons ref12_Size.og all_nil) no_ro) Try.func123 (c := body) (by kernel_rfl)
    (just_by (by kernel_rfl) (by kernel_rfl) (all_cons lk3 all_nil) all_nil) [] sp1_ok hk (by kernel_rfl)
end ref13_Long

/-! instar/instarref13.Fine -/
namespace ref13_Fine
abbrev TA : Type := (((Int × ((List FieldV) × Unit)) × Unit) × Unit)
abbrev T4 : Type := ((Unit × (Unit × (Unit × (Int × (Unit × Unit))))) × ((Int × ((List FieldV) × Unit)) × Unit))
abbrev X4 : Type := (Unit ⊕ Bool)
def l4 (h0_0 : Int) (h0_1 : (List FieldV)) (i : Int) : Tw (Int ⊕ X4) :=
 (.bb (decide (i < (((List.length h0_1) : Nat) : Int)))
 (.dd (((0 : Int) ≤ i)) inferInstance
 (.opt (h0_1)[(Int.toNat i)]? fun z1 =>
 (.opt (ref12_Right.c z1.id z1.kind z1.lo z1.hi z1.most) fun z2 =>
 (.bb (!z2)
 (.ret (.inr (.inr false)))
 (.dd (((0 : Int) ≤ i)) inferInstance
 (.opt (h0_1)[(Int.toNat i)]? fun z3 =>
 (.opt (ref13_At.c h0_0 h0_1 z3.id) fun z4 =>
 (.bb (z4 != i)
 (.ret (.inr (.inr false)))
 (.ret (.inl (w64 (i + (1 : Int))))))))
 .no))))
 .no)
 (.ret (.inr (.inl ()))))
def L4 (i h0_0 : Int) (h0_1 : (List FieldV)) : Option X4 := Lp (fun s => (l4 h0_0 h0_1 s).run) i
def p4 : Pt := (.cs (.bots 1) (.cs (.ptr 0 0) (.cs (.bots 1) (jC (.cs (.bots 49) .nl)))))
def q4 : Pt := (.cs (.var (jC (.cs (.sl 23) .nl))) .nl)
def ou4 (l : T4) (y : X4) : Ex × St U := (Sum.elim (fun a0 => (.exit 0, stOf 53 [(1, .ptr 0 0)] [.var [jI l.2.1.1, .im (.slice 23 l.2.1.2.1)]] 0)) (fun b0 => (.ret, stOf 53 [(1, .ptr 0 0), (2, jB b0)] [.var [jI l.2.1.1, .im (.slice 23 l.2.1.2.1)]] 0)) y)
def Λ4 : LFun U := mkLp p4 q4 0 (X := X4) (fun (l : T4) => L4 l.1.2.2.2.1 l.2.1.1 l.2.1.2.1) (spS sp1) ou4
def hd4 (l : T4) (s : Int) : T4 := (((), ((), ((), (s, ((), ()))))), ((l.2.1.1, (l.2.1.2.1, ())), ()))
def fl4 (l : T4) (s : Int) : Tw (Int ⊕ X4) := l4 l.2.1.1 l.2.1.2.1 s
def t (f_0 : Int) (f_1 : (List FieldV)) : Tw Bool :=
 (.bb (decide (f_0 < (0 : Int)))
 (.ret false)
 (.bb (decide (f_0 > (200 : Int)))
 (.ret false)
 (.bb (decide ((((List.length f_1) : Nat) : Int) < (1 : Int)))
 (.ret false)
 (.bb (decide ((((List.length f_1) : Nat) : Int) > (8 : Int)))
 (.ret false)
 (.opt (L4 (0 : Int) f_0 f_1) fun z5 =>
 (.sm z5
 (fun z6 => (.opt (ref13_Long.c f_0 f_1) fun z8 =>
 (.ret (decide (z8 ≤ (64 : Int))))))
 (fun z7 => (.ret z7))))))))
def c (f_0 : Int) (f_1 : (List FieldV)) : Option Bool := (t f_0 f_1).run
def tl (l : TA) : Tw Bool := t l.1.1.1 l.1.1.2.1
def pA : Pt := (.cs (.agg (jC (.cs (.sl 23) .nl))) .nl)
def pH : Pt := .nl
def v (l : TA) (y : Bool) : AV U := jB y
def hh (l : TA) (y : Bool) : Hp U := []
def A : AFun U := mkA pA pH (X := Bool) (fun l => (tl l).run) sp1 v hh
def body := bodyOf Try.f106
def E : Env U := E0.mk5 [(121, ref12_Right.A), (122, ref13_At.A), (123, ref13_Long.A)] [(4, Λ4)] [] [(4, ⟨[3, 1], []⟩, ⟨[2, 1], []⟩)] []
theorem hf4 : HF E (pick (loopsOf body) 4) p4 q4 0 fl4 hd4 (spS sp1) ou4 := fun _ _ _ _ => by kernel_rfl
theorem lk4 : LK E (pick (loopsOf body) 4) Λ4 := fun R st K r h =>
  lp_ok (E := E) (b := pick (loopsOf body) 4) (m := 0) (sp := (spS sp1)) (p := p4) (q := q4) (X := X4) (S := Int) (f := fl4) (hd := hd4) (s0 := fun (l : T4) => l.1.2.2.2.1) (ou := ou4)
    (fun l => rfl) (fun l x => by repeat' (first | rfl | (cases x with | inl => rfl | inr x => ?_))) (spS_ok sp1_ok) hf4 h
theorem hk : HK E Try.f106 [] pA pH tl v hh := fun _ _ _ => by kernel_rfl
theorem og : SoundF Try.prog cc 106 A ∧ FnOK Try.prog 106 :=
 og_of (E := E) P_mixed (E0_ok.mk5 _ _ _ _ _) (gam_of (all_cons ref12_Right.og (all_cons ref13_At.og (all_cons ref13_Long.og all_nil))) no_ro) Try.func106 (c := body) (by kernel_rfl)
    (just_by (by kernel_rfl) (by kernel_rfl) (all_cons lk4 all_nil) all_nil) [] sp1_ok hk (by kernel_rfl)
end ref13_Fine

/-! instar/instarref13.Right -/
namespace ref13_Right
abbrev TA : Type := (((Int × ((List FormV) × Unit)) × Unit) × Unit)
abbrev T4 : Type := ((Unit × (Unit × (Unit × (Int × (Unit × Unit))))) × ((Int × ((List FormV) × Unit)) × Unit))
abbrev X4 : Type := (Unit ⊕ Bool)
def l4 (h0_0 : Int) (h0_1 : (List FormV)) (i : Int) : Tw (Int ⊕ X4) :=
 (.bb (decide (i < (((List.length h0_1) : Nat) : Int)))
 (.dd (((0 : Int) ≤ i)) inferInstance
 (.opt (h0_1)[(Int.toNat i)]? fun z1 =>
 (.opt (ref13_Fine.c z1.id z1.fields) fun z2 =>
 (.bb (!z2)
 (.ret (.inr (.inr false)))
 (.bb (decide (i > (0 : Int)))
 (.dd (((0 : Int) ≤ (w64 (i - (1 : Int))))) inferInstance
 (.opt (h0_1)[(Int.toNat (w64 (i - (1 : Int))))]? fun z3 =>
 (.dd (((0 : Int) ≤ i)) inferInstance
 (.opt (h0_1)[(Int.toNat i)]? fun z4 =>
 (.bb (decide (z3.id ≥ z4.id))
 (.ret (.inr (.inr false)))
 (.ret (.inl (w64 (i + (1 : Int)))))))
 .no))
 .no)
 (.ret (.inl (w64 (i + (1 : Int)))))))))
 .no)
 (.ret (.inr (.inl ()))))
def L4 (i h0_0 : Int) (h0_1 : (List FormV)) : Option X4 := Lp (fun s => (l4 h0_0 h0_1 s).run) i
def p4 : Pt := (.cs (.bots 1) (.cs (.ptr 0 0) (.cs (.bots 1) (jC (.cs (.bots 48) .nl)))))
def q4 : Pt := (.cs (.var (jC (.cs (.sl 28) .nl))) .nl)
def ou4 (l : T4) (y : X4) : Ex × St U := (Sum.elim (fun a0 => (.exit 0, stOf 52 [] [] 0)) (fun b0 => (.ret, stOf 52 [(2, jB b0)] [] 0)) y)
def Λ4 : LFun U := mkLp p4 q4 0 (X := X4) (fun (l : T4) => L4 l.1.2.2.2.1 l.2.1.1 l.2.1.2.1) (spS sp1) ou4
def hd4 (l : T4) (s : Int) : T4 := (((), ((), ((), (s, ((), ()))))), ((l.2.1.1, (l.2.1.2.1, ())), ()))
def fl4 (l : T4) (s : Int) : Tw (Int ⊕ X4) := l4 l.2.1.1 l.2.1.2.1 s
def t (s__0 : Int) (s__1 : (List FormV)) : Tw Bool :=
 (.bb (decide (s__0 < (1 : Int)))
 (.ret false)
 (.bb (decide (s__0 > (65535 : Int)))
 (.ret false)
 (.bb (decide ((((List.length s__1) : Nat) : Int) > (8 : Int)))
 (.ret false)
 (.opt (L4 (0 : Int) s__0 s__1) fun z5 =>
 (.sm z5
 (fun z6 => (.ret true))
 (fun z7 => (.ret z7)))))))
def c (s__0 : Int) (s__1 : (List FormV)) : Option Bool := (t s__0 s__1).run
def tl (l : TA) : Tw Bool := t l.1.1.1 l.1.1.2.1
def pA : Pt := (.cs (.agg (jC (.cs (.sl 28) .nl))) .nl)
def pH : Pt := .nl
def v (l : TA) (y : Bool) : AV U := jB y
def hh (l : TA) (y : Bool) : Hp U := []
def A : AFun U := mkA pA pH (X := Bool) (fun l => (tl l).run) sp1 v hh
def body := bodyOf Try.f80
def E : Env U := E0.mk5 [(106, ref13_Fine.A)] [(4, Λ4)] [] [(4, ⟨[3, 1], []⟩, ⟨[2], []⟩)] []
theorem hf4 : HF E (pick (loopsOf body) 4) p4 q4 0 fl4 hd4 (spS sp1) ou4 := fun _ _ _ _ => by kernel_rfl
theorem lk4 : LK E (pick (loopsOf body) 4) Λ4 := fun R st K r h =>
  lp_ok (E := E) (b := pick (loopsOf body) 4) (m := 0) (sp := (spS sp1)) (p := p4) (q := q4) (X := X4) (S := Int) (f := fl4) (hd := hd4) (s0 := fun (l : T4) => l.1.2.2.2.1) (ou := ou4)
    (fun l => rfl) (fun l x => by repeat' (first | rfl | (cases x with | inl => rfl | inr x => ?_))) (spS_ok sp1_ok) hf4 h
theorem hk : HK E Try.f80 [] pA pH tl v hh := fun _ _ _ => by kernel_rfl
theorem og : SoundF Try.prog cc 80 A ∧ FnOK Try.prog 80 :=
 og_of (E := E) P_mixed (E0_ok.mk5 _ _ _ _ _) (gam_of (all_cons ref13_Fine.og all_nil) no_ro) Try.func80 (c := body) (by kernel_rfl)
    (just_by (by kernel_rfl) (by kernel_rfl) (all_cons lk4 all_nil) all_nil) [] sp1_ok hk (by kernel_rfl)
end ref13_Right

/-! instar/instarref13.Find -/
namespace ref13_Find
abbrev TA : Type := (((Int × ((List FormV) × Unit)) × (Int × Unit)) × Unit)
abbrev T2 : Type := ((Unit × (Int × (Unit × (Unit × (Int × (Unit × Unit)))))) × ((Int × ((List FormV) × Unit)) × Unit))
abbrev X2 : Type := (Unit ⊕ Int)
def l2 (id h0_0 : Int) (h0_1 : (List FormV)) (i : Int) : Tw (Int ⊕ X2) :=
 (.bb (decide (i < (((List.length h0_1) : Nat) : Int)))
 (.dd (((0 : Int) ≤ i)) inferInstance
 (.opt (h0_1)[(Int.toNat i)]? fun z1 =>
 (.bb (z1.id == id)
 (.ret (.inr (.inr i)))
 (.ret (.inl (w64 (i + (1 : Int)))))))
 .no)
 (.ret (.inr (.inl ()))))
def L2 (id i h0_0 : Int) (h0_1 : (List FormV)) : Option X2 := Lp (fun s => (l2 id h0_0 h0_1 s).run) i
def p2 : Pt := (.cs (.bots 1) (jC (.cs (.ptr 0 0) (.cs (.bots 2) (jC (.cs (.bots 16) .nl))))))
def q2 : Pt := (.cs (.var (jC (.cs (.sl 28) .nl))) .nl)
def ou2 (l : T2) (y : X2) : Ex × St U := (Sum.elim (fun a0 => (.exit 0, stOf 22 [] [] 0)) (fun b0 => (.ret, stOf 22 [(4, jI b0)] [] 0)) y)
def Λ2 : LFun U := mkLp p2 q2 0 (X := X2) (fun (l : T2) => L2 l.1.2.1 (d4 l.1).1 l.2.1.1 l.2.1.2.1) (spS sp1) ou2
def hd2 (l : T2) (s : Int) : T2 := (((), (l.1.2.1, ((), ((), (s, ((), ())))))), ((l.2.1.1, (l.2.1.2.1, ())), ()))
def fl2 (l : T2) (s : Int) : Tw (Int ⊕ X2) := l2 l.1.2.1 l.2.1.1 l.2.1.2.1 s
def t (s__0 : Int) (s__1 : (List FormV)) (id : Int) : Tw Int :=
 (.opt (L2 id (0 : Int) s__0 s__1) fun z2 =>
 (.sm z2
 (fun z3 => (.ret (-(1 : Int))))
 (fun z4 => (.ret z4))))
def c (s__0 : Int) (s__1 : (List FormV)) (id : Int) : Option Int := (t s__0 s__1 id).run
def tl (l : TA) : Tw Int := t l.1.1.1 l.1.1.2.1 l.1.2.1
def pA : Pt := (.cs (.agg (jC (.cs (.sl 28) .nl))) (jC .nl))
def pH : Pt := .nl
def v (l : TA) (y : Int) : AV U := jI y
def hh (l : TA) (y : Int) : Hp U := []
def A : AFun U := mkA pA pH (X := Int) (fun l => (tl l).run) sp1 v hh
def body := bodyOf Try.f89
def E : Env U := E0.mk5 [] [(2, Λ2)] [] [(2, ⟨[5, 1, 2], []⟩, ⟨[4], []⟩)] []
theorem hf2 : HF E (pick (loopsOf body) 2) p2 q2 0 fl2 hd2 (spS sp1) ou2 := fun _ _ _ _ => by kernel_rfl
theorem lk2 : LK E (pick (loopsOf body) 2) Λ2 := fun R st K r h =>
  lp_ok (E := E) (b := pick (loopsOf body) 2) (m := 0) (sp := (spS sp1)) (p := p2) (q := q2) (X := X2) (S := Int) (f := fl2) (hd := hd2) (s0 := fun (l : T2) => (d4 l.1).1) (ou := ou2)
    (fun l => rfl) (fun l x => by repeat' (first | rfl | (cases x with | inl => rfl | inr x => ?_))) (spS_ok sp1_ok) hf2 h
theorem hk : HK E Try.f89 [] pA pH tl v hh := fun _ _ _ => by kernel_rfl
theorem og : SoundF Try.prog cc 89 A ∧ FnOK Try.prog 89 :=
 og_of (E := E) P_mixed (E0_ok.mk5 _ _ _ _ _) (gam_of all_nil all_nil) Try.func89 (c := body) (by kernel_rfl)
    (just_by (by kernel_rfl) (by kernel_rfl) (all_cons lk2 all_nil) all_nil) [] sp1_ok hk (by kernel_rfl)
end ref13_Find

end
end Go.Proofs.Ytmlbioapefgioaa.Va
