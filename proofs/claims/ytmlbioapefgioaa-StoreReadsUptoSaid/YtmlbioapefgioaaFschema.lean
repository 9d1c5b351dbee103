/- The functions of package schema, as plain functions, and that the program computes them. Printed by a program of this work out of the evaluator. -/
import Derived.Test.YtmlbioapefgioaaEn
import Derived.Tactics
import Derived.Test.YtmlbioapefgioaaFfield
set_option linter.unusedVariables false
namespace Go.Proofs.Ytmlbioapefgioaa.Va
noncomputable section
open Go
set_option maxRecDepth 100000

/-! instar/schema.Form -/
namespace schema_Form
abbrev TA : Type := (((Int × ((List FormV) × Unit)) × (Int × Unit)) × Unit)
abbrev XA : Type := (Int × ((List FieldV) × Bool))
abbrev T2 : Type := ((Unit × (Int × (Unit × (Unit × (Unit × ((List FormV) × (Int × (Int × (Unit × Unit))))))))) × ((Int × (Unit × Unit)) × Unit))
abbrev X2 : Type := (Unit ⊕ (Bool × (Int × (List FieldV))))
def l2 (id : Int) (k9 : (List FormV)) (k10 h0_0 k11 : Int) : Tw (Int ⊕ X2) :=
 (.bb (decide (k11 < k10))
 (.dd (((0 : Int) ≤ k11)) inferInstance
 (.opt (k9)[(Int.toNat k11)]? fun z1 =>
 (.bb (z1.id == id)
 (.ret (.inr (.inr (true, (z1.id, z1.fields)))))
 (.ret (.inl (w64 (k11 + (1 : Int)))))))
 .no)
 (.ret (.inr (.inl ()))))
def L2 (id : Int) (k9 : (List FormV)) (k10 k11 h0_0 : Int) : Option X2 := Lp (fun s => (l2 id k9 k10 h0_0 s).run) k11
def p2 : Pt := (.cs (.bots 1) (jC (.cs (.bots 2) (.cs (.ptr 0 0) (.cs (.bots 4) (.cs (.sl 28) (jC (jC (.cs (.bots 10) .nl)))))))))
def q2 : Pt := (.cs (.var (jC (.cs .nils .nl))) .nl)
def ou2 (l : T2) (y : X2) : Ex × St U := (Sum.elim (fun a0 => (.exit 0, stOf 22 [(4, .ptr 0 0)] [.var [jI l.2.1.1, .im .nils]] 0)) (fun b0 => (.ret, stOf 22 [(4, .ptr 0 0), (5, jB b0.1)] [.var [jI b0.2.1, .im (.slice 23 b0.2.2)]] 0)) y)
def Λ2 : LFun U := mkLp p2 q2 0 (X := X2) (fun (l : T2) => L2 l.1.2.1 (d4 l.1).2.1 (d4 l.1).2.2.1 (d4 l.1).2.2.2.1 l.2.1.1) (spS sp1) ou2
def hd2 (l : T2) (s : Int) : T2 := (((), (l.1.2.1, ((), ((), ((), ((d4 l.1).2.1, ((d4 l.1).2.2.1, (s, ((), ()))))))))), ((l.2.1.1, ((), ())), ()))
def fl2 (l : T2) (s : Int) : Tw (Int ⊕ X2) := l2 l.1.2.1 (d4 l.1).2.1 (d4 l.1).2.2.1 l.2.1.1 s
def t (s__0 : Int) (s__1 : (List FormV)) (id : Int) : Tw XA :=
 (.opt (L2 id s__1 (((List.length s__1) : Nat) : Int) (0 : Int) (0 : Int)) fun z2 =>
 (.sm z2
 (fun z3 => (.ret ((0 : Int), (([] : List (FieldV)), false))))
 (fun z4 => (.ret (z4.2.1, (z4.2.2, z4.1))))))
def c (s__0 : Int) (s__1 : (List FormV)) (id : Int) : Option XA := (t s__0 s__1 id).run
def tl (l : TA) : Tw XA := t l.1.1.1 l.1.1.2.1 l.1.2.1
def pA : Pt := (.cs (.agg (jC (.cs (.sl 28) .nl))) (jC .nl))
def pH : Pt := .nl
def v (l : TA) (y : XA) : AV U := .tup [.agg [jI y.1, .im (.slice 23 y.2.1)], jB y.2.2]
def hh (l : TA) (y : XA) : Hp U := []
def A : AFun U := mkA pA pH (X := XA) (fun l => (tl l).run) sp1 v hh
def body := bodyOf Try.f94
def E : Env U := E0.mk5 [] [(2, Λ2)] [] [(2, ⟨[4, 11, 1, 9, 10], []⟩, ⟨[4, 5], []⟩)] []
theorem hf2 : HF E (pick (loopsOf body) 2) p2 q2 0 fl2 hd2 (spS sp1) ou2 := fun _ _ _ _ => by kernel_rfl
theorem lk2 : LK E (pick (loopsOf body) 2) Λ2 := fun R st K r h =>
  lp_ok (E := E) (b := pick (loopsOf body) 2) (m := 0) (sp := (spS sp1)) (p := p2) (q := q2) (X := X2) (S := Int) (f := fl2) (hd := hd2) (s0 := fun (l : T2) => (d4 l.1).2.2.2.1) (ou := ou2)
    (fun l => rfl) (fun l x => by repeat' (first | rfl | (cases x with | inl => rfl | inr x => ?_))) (spS_ok sp1_ok) hf2 h
theorem hk : HK E Try.f94 [(0, [.cell 1], .im 23)] pA pH tl v hh := fun _ _ _ => by kernel_rfl
theorem og : SoundF Try.prog cc 94 A ∧ FnOK Try.prog 94 :=
 og_of (E := E) P_mixed (E0_ok.mk5 _ _ _ _ _) (gam_of all_nil all_nil) Try.func94 (c := body) (by kernel_rfl)
    (just_by (by kernel_rfl) (by kernel_rfl) (all_cons lk2 all_nil) all_nil) [(0, [.cell 1], .im 23)] sp1_ok hk (by kernel_rfl)
end schema_Form

/-! instar/schema.Long -/
namespace schema_Long
abbrev TA : Type := (((Int × ((List FieldV) × Unit)) × Unit) × Unit)
abbrev T3 : Type := ((Unit × (Int × (Unit × ((List FieldV) × (Int × (Int × (Unit × Unit))))))) × Unit)
abbrev S3 : Type := (Int × Int)
def l3 (k7 : (List FieldV)) (k8 n k9 : Int) : Tw (S3 ⊕ Int) :=
 (.bb (decide (k9 < k8))
 (.dd (((0 : Int) ≤ k9)) inferInstance
 (.opt (k7)[(Int.toNat k9)]? fun z1 =>
 (.opt (field_Size.c z1.id z1.kind z1.lo z1.hi z1.most) fun z2 =>
 (.ret (.inl ((w64 (n + z2)), (w64 (k9 + (1 : Int))))))))
 .no)
 (.ret (.inr n)))
def L3 (n : Int) (k7 : (List FieldV)) (k8 k9 : Int) : Option Int := Lp (fun s => (l3 k7 k8 s.1 s.2).run) (n, k9)
def p3 : Pt := (.cs (.bots 3) (jC (.cs (.bots 3) (.cs (.sl 23) (jC (jC (.cs (.bots 9) .nl)))))))
def q3 : Pt := .nl
def ou3 (l : T3) (y : Int) : Ex × St U := (.exit 0, stOf 19 [(3, jI y)] [] 0)
def Λ3 : LFun U := mkLp p3 q3 0 (X := Int) (fun (l : T3) => L3 l.1.2.1 l.1.2.2.2.1 (d4 l.1).1 (d4 l.1).2.1) sp1 ou3
def hd3 (l : T3) (s : S3) : T3 := (((), (s.1, ((), (l.1.2.2.2.1, ((d4 l.1).1, (s.2, ((), ()))))))), ())
def fl3 (l : T3) (s : S3) : Tw (S3 ⊕ Int) := l3 l.1.2.2.2.1 (d4 l.1).1 s.1 s.2
def t (f_0 : Int) (f_1 : (List FieldV)) : Tw Int :=
 (.opt (L3 (0 : Int) f_1 (((List.length f_1) : Nat) : Int) (0 : Int)) fun z3 =>
 (.ret z3))
def c (f_0 : Int) (f_1 : (List FieldV)) : Option Int := (t f_0 f_1).run
def tl (l : TA) : Tw Int := t l.1.1.1 l.1.1.2.1
def pA : Pt := (.cs (.agg (jC (.cs (.sl 23) .nl))) .nl)
def pH : Pt := .nl
def v (l : TA) (y : Int) : AV U := jI y
def hh (l : TA) (y : Int) : Hp U := []
def A : AFun U := mkA pA pH (X := Int) (fun l => (tl l).run) sp1 v hh
def body := bodyOf Try.f110
def E : Env U := E0.mk5 [(128, field_Size.A)] [(3, Λ3)] [] [(3, ⟨[9, 3, 7, 8], []⟩, ⟨[2, 3], []⟩)] []
theorem hf3 : HF E (pick (loopsOf body) 3) p3 q3 0 fl3 hd3 sp1 ou3 := fun _ _ _ _ => by kernel_rfl
theorem lk3 : LK E (pick (loopsOf body) 3) Λ3 := fun R st K r h =>
  lp_ok (E := E) (b := pick (loopsOf body) 3) (m := 0) (sp := sp1) (p := p3) (q := q3) (X := Int) (S := S3) (f := fl3) (hd := hd3) (s0 := fun (l : T3) => (l.1.2.1, (d4 l.1).2.1)) (ou := ou3)
    (fun l => rfl) (fun l x => by rfl) sp1_ok hf3 h
theorem hk : HK E Try.f110 [] pA pH tl v hh := fun _ _ _ => by kernel_rfl
theorem og : SoundF Try.prog cc 110 A ∧ FnOK Try.prog 110 :=
 og_of (E := E) P_mixed (E0_ok.mk5 _ _ _ _ _) (gam_of (all_cons field_Size.og all_nil) no_ro) Try.func110 (c := body) (by kernel_rfl)
    (just_by (by kernel_rfl) (by kernel_rfl) (all_cons lk3 all_nil) all_nil) [] sp1_ok hk (by kernel_rfl)
end schema_Long

/-! instar/schema.Fine -/
namespace schema_Fine
abbrev TA : Type := (((Int × ((List FieldV) × Unit)) × Unit) × Unit)
abbrev T5 : Type := ((Unit × (Nat × (Unit × ((List FieldV) × (Int × (Int × (Unit × Unit))))))) × ((List Bool) × Unit))
abbrev S5 : Type := (Int × (List Bool))
abbrev X5 : Type := (Unit ⊕ Bool)
def l5 (seen : Nat) (k32 : (List FieldV)) (k33 k34 : Int) (h0 : (List Bool)) : Tw (S5 ⊕ X5) :=
 (.bb (decide (k34 < k33))
 (.dd (((0 : Int) ≤ k34)) inferInstance
 (.opt (k32)[(Int.toNat k34)]? fun z2 =>
 (.opt (field_Right.c z2.id z2.kind z2.lo z2.hi z2.most) fun z3 =>
 (.bb (!z3)
 (.ret (.inr (.inr false)))
 (.dd ((((0 : Int) ≤ z2.id) ∧ (z2.id < (((256 : Nat) : Nat) : Int)))) inferInstance
 (.opt (h0)[(seen + (Int.toNat z2.id))]? fun z4 =>
 (.bb z4
 (.ret (.inr (.inr false)))
 (.dd ((((0 : Int) ≤ z2.id) ∧ (z2.id < (((256 : Nat) : Nat) : Int)))) inferInstance
 (.opt (h0)[(seen + (Int.toNat z2.id))]? fun z5 =>
 (.ret (.inl ((w64 (k34 + (1 : Int))), (List.set h0 (seen + (Int.toNat z2.id)) true)))))
 .no)))
 .no))))
 .no)
 (.ret (.inr (.inl ()))))
def L5 (seen : Nat) (k32 : (List FieldV)) (k33 k34 : Int) (h0 : (List Bool)) : Option X5 := Lp (fun s => (l5 seen k32 k33 s.1 s.2).run) (k34, h0)
def p5 : Pt := (.cs (.bots 3) (.cs (.rptr 0 0 1) (.cs (.bots 28) (.cs (.sl 23) (jC (jC (.cs (.bots 16) .nl)))))))
def q5 : Pt := (.cs (.row 4 true) .nl)
def ou5 (l : T5) (y : X5) : Ex × St U := (Sum.elim (fun a0 => (.exit 0, stOf 51 [] [] 0)) (fun b0 => (.ret, stOf 51 [(2, jB b0)] [] 0)) y)
def Λ5 : LFun U := mkLp p5 q5 0 (X := X5) (fun (l : T5) => L5 l.1.2.1 l.1.2.2.2.1 (d4 l.1).1 (d4 l.1).2.1 l.2.1) (spS sp1) ou5
def hd5 (l : T5) (s : S5) : T5 := (((), (l.1.2.1, ((), (l.1.2.2.2.1, ((d4 l.1).1, (s.1, ((), ()))))))), (s.2, ()))
def fl5 (l : T5) (s : S5) : Tw (S5 ⊕ X5) := l5 l.1.2.1 l.1.2.2.2.1 (d4 l.1).1 s.1 s.2
def t (f_0 : Int) (f_1 : (List FieldV)) : Tw Bool :=
 (.bb (decide (f_0 < (0 : Int)))
 (.ret false)
 (.bb (decide (f_0 > (200 : Int)))
 (.ret false)
 (.bb (decide ((((List.length f_1) : Nat) : Int) < (1 : Int)))
 (.ret false)
 (.bb (decide ((((List.length f_1) : Nat) : Int) > (8 : Int)))
 (.ret false)
 (.opt (schema_Long.c f_0 f_1) fun z1 =>
 (.bb (decide (z1 > (64 : Int)))
 (.ret false)
 (.opt (L5 (0 : Nat) f_1 (((List.length f_1) : Nat) : Int) (0 : Int) (List.replicate (256 : Nat) false)) fun z6 =>
 (.sm z6
 (fun z7 => (.ret true))
 (fun z8 => (.ret z8))))))))))
def c (f_0 : Int) (f_1 : (List FieldV)) : Option Bool := (t f_0 f_1).run
def tl (l : TA) : Tw Bool := t l.1.1.1 l.1.1.2.1
def pA : Pt := (.cs (.agg (jC (.cs (.sl 23) .nl))) .nl)
def pH : Pt := .nl
def v (l : TA) (y : Bool) : AV U := jB y
def hh (l : TA) (y : Bool) : Hp U := []
def A : AFun U := mkA pA pH (X := Bool) (fun l => (tl l).run) sp1 v hh
def body := bodyOf Try.f108
def E : Env U := E0.mk5 [(110, schema_Long.A), (124, field_Right.A)] [(5, Λ5)] [] [(5, ⟨[34, 3, 32, 33], []⟩, ⟨[2], []⟩)] []
theorem hf5 : HF E (pick (loopsOf body) 5) p5 q5 0 fl5 hd5 (spS sp1) ou5 := fun _ _ _ _ => by kernel_rfl
theorem lk5 : LK E (pick (loopsOf body) 5) Λ5 := fun R st K r h =>
  lp_ok (E := E) (b := pick (loopsOf body) 5) (m := 0) (sp := (spS sp1)) (p := p5) (q := q5) (X := X5) (S := S5) (f := fl5) (hd := hd5) (s0 := fun (l : T5) => ((d4 l.1).2.1, l.2.1)) (ou := ou5)
    (fun l => rfl) (fun l x => by repeat' (first | rfl | (cases x with | inl => rfl | inr x => ?_))) (spS_ok sp1_ok) hf5 h
theorem hk : HK E Try.f108 [] pA pH tl v hh := fun _ _ _ => by kernel_rfl
theorem og : SoundF Try.prog cc 108 A ∧ FnOK Try.prog 108 :=
 og_of (E := E) P_mixed (E0_ok.mk5 _ _ _ _ _) (gam_of (all_cons schema_Long.og (all_cons field_Right.og all_nil)) no_ro) Try.func108 (c := body) (by kernel_rfl)
    (just_by (by kernel_rfl) (by kernel_rfl) (all_cons lk5 all_nil) all_nil) [] sp1_ok hk (by kernel_rfl)
end schema_Fine

end
end Go.Proofs.Ytmlbioapefgioaa.Va
