/- The functions of package record, as plain functions, and that the program computes them. Printed by a program of this work out of the evaluator. -/
import Derived.Test.YtmlbioapefgioaaEn
import Derived.Tactics
import Derived.Test.YtmlbioapefgioaaFfield
import Derived.Test.YtmlbioapefgioaaFschema
set_option linter.unusedVariables false
namespace Go.Proofs.Ytmlbioapefgioaa.Va
noncomputable section
open Go
set_option maxRecDepth 100000

/-! instar/record.Has$1 -/
namespace record_Has_1
abbrev TA : Type := (((Int × (ByteArray × Unit)) × ((Int × (Int × (Int × (Int × (Int × Unit))))) × Unit)) × Unit)
def t (v__0 : Int) (v__1 : ByteArray) (x_0 x_1 x_2 x_3 x_4 : Int) : Tw Bool :=
 (.opt (field_Has.c x_0 x_1 x_2 x_3 x_4 v__0 v__1) fun z1 =>
 (.ret z1))
def c (v__0 : Int) (v__1 : ByteArray) (x_0 x_1 x_2 x_3 x_4 : Int) : Option Bool := (t v__0 v__1 x_0 x_1 x_2 x_3 x_4).run
def tl (l : TA) : Tw Bool := t l.1.1.1 l.1.1.2.1 l.1.2.1.1 l.1.2.1.2.1 l.1.2.1.2.2.1 l.1.2.1.2.2.2.1 (d4 l.1.2.1).1
def pA : Pt := (.cs (.agg (jC (.cs .str .nl))) (.cs (.agg (jC (jC (jC (jC (jC .nl)))))) .nl))
def pH : Pt := .nl
def v (l : TA) (y : Bool) : AV U := jB y
def hh (l : TA) (y : Bool) : Hp U := []
def A : AFun U := mkA pA pH (X := Bool) (fun l => (tl l).run) sp1 v hh
def body := bodyOf Try.f126
def E : Env U := E0.mk5 [(127, field_Has.A)] [] [] [] []
theorem hk : HK E Try.f126 [] pA pH tl v hh := fun _ _ _ => by kernel_rfl
theorem og : SoundF Try.prog cc 126 A ∧ FnOK Try.prog 126 :=
 og_of (E := E) P_mixed (E0_ok.mk5 _ _ _ _ _) (gam_of (all_cons field_Has.og all_nil) no_ro) Try.func126 (c := body) (by kernel_rfl)
    (just_by (by kernel_rfl) (by kernel_rfl) all_nil all_nil) [] sp1_ok hk (by kernel_rfl)
end record_Has_1

/-! slices.EqualFunc[[]instar/api.Value,[]instar/api.Field,instar/api.Value,instar/api.Field] -/
namespace slices_EqualFunc__api_Value_api_Fieldapi_Valueapi_Field_of_record_Has_1
abbrev TA : Type := (((List ValueV) × ((List FieldV) × (Unit × Unit))) × Unit)
abbrev T4 : Type := ((Unit × ((List FieldV) × (Unit × (Unit × ((List ValueV) × (Int × (Int × (Unit × Unit)))))))) × Unit)
abbrev X4 : Type := (Unit ⊕ Bool)
def l4 (s2 : (List FieldV)) (k15 : (List ValueV)) (k16 k17 : Int) : Tw (Int ⊕ X4) :=
 (.bb (decide (k17 < k16))
 (.dd (((0 : Int) ≤ k17)) inferInstance
 (.opt (k15)[(Int.toNat k17)]? fun z1 =>
 (.dd (((0 : Int) ≤ k17)) inferInstance
 (.opt (s2)[(Int.toNat k17)]? fun z2 =>
 (.opt (record_Has_1.c z1.n z1.s z2.id z2.kind z2.lo z2.hi z2.most) fun z3 =>
 (.bb (!z3)
 (.ret (.inr (.inr false)))
 (.ret (.inl (w64 (k17 + (1 : Int))))))))
 .no))
 .no)
 (.ret (.inr (.inl ()))))
def L4 (s2 : (List FieldV)) (k15 : (List ValueV)) (k16 k17 : Int) : Option X4 := Lp (fun s => (l4 s2 k15 k16 s).run) k17
def p4 : Pt := (.cs (.bots 1) (.cs (.sl 23) (.cs (.clo 126 .nl) (.cs (.bots 12) (.cs (.sl 24) (jC (jC (.cs (.bots 14) .nl))))))))
def q4 : Pt := .nl
def ou4 (l : T4) (y : X4) : Ex × St U := (Sum.elim (fun a0 => (.exit 0, stOf 32 [] [] 0)) (fun b0 => (.ret, stOf 32 [(6, jB b0)] [] 0)) y)
def Λ4 : LFun U := mkLp p4 q4 0 (X := X4) (fun (l : T4) => L4 l.1.2.1 (d4 l.1).1 (d4 l.1).2.1 (d4 l.1).2.2.1) (spS sp1) ou4
def hd4 (l : T4) (s : Int) : T4 := (((), (l.1.2.1, ((), ((), ((d4 l.1).1, ((d4 l.1).2.1, (s, ((), ())))))))), ())
def fl4 (l : T4) (s : Int) : Tw (Int ⊕ X4) := l4 l.1.2.1 (d4 l.1).1 (d4 l.1).2.1 s
def t (s1 : (List ValueV)) (s2 : (List FieldV)) : Tw Bool :=
 (.bb ((((List.length s1) : Nat) : Int) != (((List.length s2) : Nat) : Int))
 (.ret false)
 (.opt (L4 s2 s1 (((List.length s1) : Nat) : Int) (0 : Int)) fun z4 =>
 (.sm z4
 (fun z5 => (.ret true))
 (fun z6 => (.ret z6)))))
def c (s1 : (List ValueV)) (s2 : (List FieldV)) : Option Bool := (t s1 s2).run
def tl (l : TA) : Tw Bool := t l.1.1 l.1.2.1
def pA : Pt := (.cs (.sl 24) (.cs (.sl 23) (.cs (.clo 126 .nl) .nl)))
def pH : Pt := .nl
def v (l : TA) (y : Bool) : AV U := jB y
def hh (l : TA) (y : Bool) : Hp U := []
def A : AFun U := mkA pA pH (X := Bool) (fun l => (tl l).run) sp1 v hh
def body := bodyOf Try.f125
def E : Env U := E0.mk5 [(126, record_Has_1.A)] [(4, Λ4)] [] [(4, ⟨[17, 2, 1, 15, 16], []⟩, ⟨[6], []⟩)] []
theorem hf4 : HF E (pick (loopsOf body) 4) p4 q4 0 fl4 hd4 (spS sp1) ou4 := fun _ _ _ _ => by kernel_rfl
theorem lk4 : LK E (pick (loopsOf body) 4) Λ4 := fun R st K r h =>
  lp_ok (E := E) (b := pick (loopsOf body) 4) (m := 0) (sp := (spS sp1)) (p := p4) (q := q4) (X := X4) (S := Int) (f := fl4) (hd := hd4) (s0 := fun (l : T4) => (d4 l.1).2.2.1) (ou := ou4)
    (fun l => rfl) (fun l x => by repeat' (first | rfl | (cases x with | inl => rfl | inr x => ?_))) (spS_ok sp1_ok) hf4 h
theorem hk : HK E Try.f125 [] pA pH tl v hh := fun _ _ _ => by kernel_rfl
theorem og : SoundF Try.prog cc 125 A ∧ FnOK Try.prog 125 :=
 og_of (E := E) P_mixed (E0_ok.mk5 _ _ _ _ _) (gam_of (all_cons record_Has_1.og all_nil) no_ro) Try.func125 (c := body) (by kernel_rfl)
    (just_by (by kernel_rfl) (by kernel_rfl) (all_cons lk4 all_nil) all_nil) [] sp1_ok hk (by kernel_rfl)
end slices_EqualFunc__api_Value_api_Fieldapi_Valueapi_Field_of_record_Has_1

/-! instar/record.Has -/
namespace record_Has
abbrev TA : Type := (((Int × ((List FieldV) × Unit)) × ((Int × ((List ValueV) × Unit)) × Unit)) × Unit)
def t (f_0 : Int) (f_1 : (List FieldV)) (r_0 : Int) (r_1 : (List ValueV)) : Tw Bool :=
 (.opt (schema_Fine.c f_0 f_1) fun z1 =>
 (.bb z1
 (.bb (r_0 == f_0)
 (.opt (slices_EqualFunc__api_Value_api_Fieldapi_Valueapi_Field_of_record_Has_1.c r_1 f_1) fun z2 =>
 (.ret z2))
 (.ret false))
 (.ret false)))
def c (f_0 : Int) (f_1 : (List FieldV)) (r_0 : Int) (r_1 : (List ValueV)) : Option Bool := (t f_0 f_1 r_0 r_1).run
def tl (l : TA) : Tw Bool := t l.1.1.1 l.1.1.2.1 l.1.2.1.1 l.1.2.1.2.1
def pA : Pt := (.cs (.agg (jC (.cs (.sl 23) .nl))) (.cs (.agg (jC (.cs (.sl 24) .nl))) .nl))
def pH : Pt := .nl
def v (l : TA) (y : Bool) : AV U := jB y
def hh (l : TA) (y : Bool) : Hp U := []
def A : AFun U := mkA pA pH (X := Bool) (fun l => (tl l).run) sp1 v hh
def body := bodyOf Try.f109
def E : Env U := E0.mk5 [(108, schema_Fine.A), (125, slices_EqualFunc__api_Value_api_Fieldapi_Valueapi_Field_of_record_Has_1.A)] [] [] [] []
theorem hk : HK E Try.f109 [] pA pH tl v hh := fun _ _ _ => by kernel_rfl
theorem og : SoundF Try.prog cc 109 A ∧ FnOK Try.prog 109 :=
 og_of (E := E) P_mixed (E0_ok.mk5 _ _ _ _ _) (gam_of (all_cons schema_Fine.og (all_cons slices_EqualFunc__api_Value_api_Fieldapi_Valueapi_Field_of_record_Has_1.og all_nil)) no_ro) Try.func109 (c := body) (by kernel_rfl)
    (just_by (by kernel_rfl) (by kernel_rfl) all_nil all_nil) [] sp1_ok hk (by kernel_rfl)
end record_Has

/-! instar/record.Lay -/
namespace record_Lay
abbrev TA : Type := (((Int × ((List FieldV) × Unit)) × ((Int × ((List ValueV) × Unit)) × Unit)) × Unit)
abbrev XA : Type := (Int × (List Int))
abbrev T7 : Type := ((Unit × (Unit × (Unit × (Unit × (Unit × ((List ValueV) × (Int × (Int × (Unit × Unit))))))))) × ((Int × ((List FieldV) × Unit)) × ((List Int) × Unit)))
abbrev S7 : Type := (Int × (List Int))
abbrev X7 : Type := ((List Int) ⊕ (Int × (List Int)))
def l7 (k24 : (List ValueV)) (k25 h0_0 : Int) (h0_1 : (List FieldV)) (k26 : Int) (h1 : (List Int)) : Tw (S7 ⊕ X7) :=
 (.bb (decide (k26 < k25))
 (.dd (((0 : Int) ≤ k26)) inferInstance
 (.opt (k24)[(Int.toNat k26)]? fun z4 =>
 (.dd (((0 : Int) ≤ k26)) inferInstance
 (.opt (h0_1)[(Int.toNat k26)]? fun z5 =>
 (.opt (field_Lay.c z5.id z5.kind z5.lo z5.hi z5.most z4.n z4.s) fun z6 =>
 (.bb (z6.1 != (0 : Int))
 (.ret (.inr (.inr (z6.1, h1))))
 (.dd ((((((List.length h1) + (List.length z6.2)) * (1 : Nat)) ≤ (140737488355328 : Nat)) ∧ (((List.length h1) + (List.length z6.2)) ≤ (140737488355328 : Nat)))) inferInstance
 (.ret (.inl ((w64 (k26 + (1 : Int))), (h1 ++ z6.2))))
 .no))))
 .no))
 .no)
 (.ret (.inr (.inl h1))))
def L7 (k24 : (List ValueV)) (k25 k26 h0_0 : Int) (h0_1 : (List FieldV)) (h1 : (List Int)) : Option X7 := Lp (fun s => (l7 k24 k25 h0_0 h0_1 s.1 s.2).run) (k26, h1)
def p7 : Pt := (.cs (.bots 2) (.cs (.ptr 0 0) (.cs (.bots 3) (.cs (.own 1) (.cs (.bots 17) (.cs (.sl 24) (jC (jC (.cs (.bots 22) .nl)))))))))
def q7 : Pt := (.cs (.var (jC (.cs (.sl 23) .nl))) (.cs (.row 2 true) .nl))
def ou7 (l : T7) (y : X7) : Ex × St U := (Sum.elim (fun a0 => (.exit 1, stOf 49 [(6, .own 0)] [.row 2 a0 true] 0)) (fun b0 => (.ret, stOf 49 [(4, .im .nils), (5, jI b0.1), (6, .own 0)] [.row 2 b0.2 true] 0)) y)
def Λ7 : LFun U := mkLp p7 q7 0 (X := X7) (fun (l : T7) => L7 (d4 l.1).2.1 (d4 l.1).2.2.1 (d4 l.1).2.2.2.1 l.2.1.1 l.2.1.2.1 l.2.2.1) (spS sp1) ou7
def hd7 (l : T7) (s : S7) : T7 := (((), ((), ((), ((), ((), ((d4 l.1).2.1, ((d4 l.1).2.2.1, (s.1, ((), ()))))))))), ((l.2.1.1, (l.2.1.2.1, ())), (s.2, ())))
def fl7 (l : T7) (s : S7) : Tw (S7 ⊕ X7) := l7 (d4 l.1).2.1 (d4 l.1).2.2.1 l.2.1.1 l.2.1.2.1 s.1 s.2
def t (f_0 : Int) (f_1 : (List FieldV)) (r_0 : Int) (r_1 : (List ValueV)) : Tw XA :=
 (.opt (schema_Fine.c f_0 f_1) fun z1 =>
 (.bb (!z1)
 (.ret ((2 : Int), ([] : List (Int))))
 (.opt (record_Has.c f_0 f_1 r_0 r_1) fun z2 =>
 (.bb (!z2)
 (.ret ((16 : Int), ([] : List (Int))))
 (.opt (schema_Long.c f_0 f_1) fun z3 =>
 (.dd ((((0 : Int) ≤ (0 : Int)) ∧ (((0 : Int) ≤ z3) ∧ ((z3 ≤ (140737488355328 : Int)) ∧ ((z3 * (((1 : Nat) : Nat) : Int)) ≤ (140737488355328 : Int)))))) inferInstance
 (.opt (L7 r_1 (((List.length r_1) : Nat) : Int) (0 : Int) f_0 f_1 (List.replicate (Int.toNat (0 : Int)) (0 : Int))) fun z7 =>
 (.sm z7
 (fun z8 => (.ret ((0 : Int), z8)))
 (fun z9 => (.ret (z9.1, ([] : List (Int)))))))
 .no))))))
def c (f_0 : Int) (f_1 : (List FieldV)) (r_0 : Int) (r_1 : (List ValueV)) : Option XA := (t f_0 f_1 r_0 r_1).run
def tl (l : TA) : Tw XA := t l.1.1.1 l.1.1.2.1 l.1.2.1.1 l.1.2.1.2.1
def pA : Pt := (.cs (.agg (jC (.cs (.sl 23) .nl))) (.cs (.agg (jC (.cs (.sl 24) .nl))) .nl))
def pH : Pt := .nl
def v (l : TA) (y : XA) : AV U := .tup [.own 0, jI y.1]
def hh (l : TA) (y : XA) : Hp U := [.row 2 y.2 true]
def A : AFun U := mkA pA pH (X := XA) (fun l => (tl l).run) sp1 v hh
def body := bodyOf Try.f82
def E : Env U := E0.mk5 [(108, schema_Fine.A), (109, record_Has.A), (110, schema_Long.A), (111, field_Lay.A)] [(7, Λ7)] [] [(7, ⟨[26, 6, 2, 24, 25], []⟩, ⟨[4, 5, 6], []⟩)] []
theorem hf7 : HF E (pick (loopsOf body) 7) p7 q7 0 fl7 hd7 (spS sp1) ou7 := fun _ _ _ _ => by kernel_rfl
theorem lk7 : LK E (pick (loopsOf body) 7) Λ7 := fun R st K r h =>
  lp_ok (E := E) (b := pick (loopsOf body) 7) (m := 0) (sp := (spS sp1)) (p := p7) (q := q7) (X := X7) (S := S7) (f := fl7) (hd := hd7) (s0 := fun (l : T7) => ((d4 l.1).2.2.2.1, l.2.2.1)) (ou := ou7)
    (fun l => rfl) (fun l x => by repeat' (first | rfl | (cases x with | inl => rfl | inr x => ?_))) (spS_ok sp1_ok) hf7 h
theorem hk : HK E Try.f82 [(0, [], .own 2)] pA pH tl v hh := fun _ _ _ => by kernel_rfl
theorem og : SoundF Try.prog cc 82 A ∧ FnOK Try.prog 82 :=
 og_of (E := E) P_mixed (E0_ok.mk5 _ _ _ _ _) (gam_of (all_cons schema_Fine.og (all_cons record_Has.og (all_cons schema_Long.og (all_cons field_Lay.og all_nil)))) no_ro) Try.func82 (c := body) (by kernel_rfl)
    (just_by (by kernel_rfl) (by kernel_rfl) (all_cons lk7 all_nil) all_nil) [(0, [], .own 2)] sp1_ok hk (by kernel_rfl)
end record_Lay

/-! instar/record.Take -/
namespace record_Take
abbrev TA : Type := (((Int × ((List FieldV) × Unit)) × ((List Int) × Unit)) × Unit)
abbrev XA : Type := (Int × (Int × (List ValueV)))
abbrev T5 : Type := ((Unit × ((List Int) × (Unit × (Unit × (Unit × (Unit × (Unit × ((List FieldV) × (Int × (Int × (Unit × Unit))))))))))) × ((Int × (Unit × Unit)) × ((Int × (Unit × Unit)) × ((List ValueV) × Unit))))
abbrev S5 : Type := ((List Int) × (Int × (List ValueV)))
abbrev X5 : Type := (((List Int) × (List ValueV)) ⊕ ((List Int) × (Int × (Int × (List ValueV)))))
def l5 (k20 : (List FieldV)) (k21 h0_0 h1_0 : Int) (b : (List Int)) (k22 : Int) (h2 : (List ValueV)) : Tw (S5 ⊕ X5) :=
 (.bb (decide (k22 < k21))
 (.dd (((0 : Int) ≤ k22)) inferInstance
 (.opt (k20)[(Int.toNat k22)]? fun z2 =>
 (.opt (field_Take.c z2.id z2.kind z2.lo z2.hi z2.most b) fun z3 =>
 (.bb (z3.2.2.2 != (0 : Int))
 (.ret (.inr (.inr (b, (z3.2.2.2, ((0 : Int), h2))))))
 (.dd ((((((List.length h2) + (List.length ((Go.Proofs.Ytmlbioapefgioaa.Va.ValueV.mk z3.1 z3.2.1) :: ([] : List (ValueV))))) * (24 : Nat)) ≤ (140737488355328 : Nat)) ∧ (((List.length h2) + (List.length ((Go.Proofs.Ytmlbioapefgioaa.Va.ValueV.mk z3.1 z3.2.1) :: ([] : List (ValueV))))) ≤ (140737488355328 : Nat)))) inferInstance
 (.dd ((((0 : Int) ≤ z3.2.2.1) ∧ (z3.2.2.1 ≤ (((List.length b) : Nat) : Int)))) inferInstance
 (.ret (.inl ((List.drop (Int.toNat z3.2.2.1) b), ((w64 (k22 + (1 : Int))), (h2 ++ ((Go.Proofs.Ytmlbioapefgioaa.Va.ValueV.mk z3.1 z3.2.1) :: ([] : List (ValueV))))))))
 .no)
 .no))))
 .no)
 (.ret (.inr (.inl (b, h2)))))
def L5 (b : (List Int)) (k20 : (List FieldV)) (k21 k22 h0_0 h1_0 : Int) (h2 : (List ValueV)) : Option X5 := Lp (fun s => (l5 k20 k21 h0_0 h1_0 s.1 s.2.1 s.2.2).run) (b, (k22, h2))
def p5 : Pt := (.cs (.bots 1) (.cs (.sl 2) (.cs (.bots 2) (.cs (.ptr 0 0) (.cs (.bots 1) (.cs (.ptr 1 0) (.cs (.bots 13) (.cs (.sl 23) (jC (jC (.cs (.bots 29) .nl)))))))))))
def q5 : Pt := (.cs (.var (jC (.cs .nils .nl))) (.cs (.var (jC (.cs (.own 2) .nl))) (.cs (.row 24 true) .nl)))
def ou5 (l : T5) (y : X5) : Ex × St U := (Sum.elim (fun a0 => (.exit 0, stOf 52 [(1, .im (.slice 2 a0.1)), (4, .ptr 0 0), (6, .ptr 1 0)] [.var [jI l.2.1.1, .im .nils], .var [jI l.2.2.1.1, .own 2], .row 24 a0.2 true] 0)) (fun b0 => (.ret, stOf 52 [(1, .im (.slice 2 b0.1)), (4, .ptr 0 0), (5, jI b0.2.1), (6, .ptr 1 0)] [.var [jI b0.2.2.1, .im .nils], .var [jI l.2.2.1.1, .own 2], .row 24 b0.2.2.2 true] 0)) y)
def Λ5 : LFun U := mkLp p5 q5 0 (X := X5) (fun (l : T5) => L5 l.1.2.1 (d4 l.1).2.2.2.1 (d8 l.1).1 (d8 l.1).2.1 l.2.1.1 l.2.2.1.1 l.2.2.2.1) (spS sp1) ou5
def hd5 (l : T5) (s : S5) : T5 := (((), (s.1, ((), ((), ((), ((), ((), ((d4 l.1).2.2.2.1, ((d8 l.1).1, (s.2.1, ((), ()))))))))))), ((l.2.1.1, ((), ())), ((l.2.2.1.1, ((), ())), (s.2.2, ()))))
def fl5 (l : T5) (s : S5) : Tw (S5 ⊕ X5) := l5 (d4 l.1).2.2.2.1 (d8 l.1).1 l.2.1.1 l.2.2.1.1 s.1 s.2.1 s.2.2
def t (f_0 : Int) (f_1 : (List FieldV)) (b : (List Int)) : Tw XA :=
 (.opt (schema_Fine.c f_0 f_1) fun z1 =>
 (.bb (!z1)
 (.ret ((0 : Int), ((2 : Int), ([] : List (ValueV)))))
 (.opt (L5 b f_1 (((List.length f_1) : Nat) : Int) (0 : Int) (0 : Int) f_0 ([] : List (ValueV))) fun z4 =>
 (.sm z4
 (fun z5 => (.bb (decide ((((List.length z5.1) : Nat) : Int) > (0 : Int)))
 (.ret ((0 : Int), ((6 : Int), ([] : List (ValueV)))))
 (.ret (f_0, ((0 : Int), z5.2)))))
 (fun z6 => (.ret (z6.2.2.1, (z6.2.1, ([] : List (ValueV))))))))))
def c (f_0 : Int) (f_1 : (List FieldV)) (b : (List Int)) : Option XA := (t f_0 f_1 b).run
def tl (l : TA) : Tw XA := t l.1.1.1 l.1.1.2.1 l.1.2.1
def pA : Pt := (.cs (.agg (jC (.cs (.sl 23) .nl))) (.cs (.sl 2) .nl))
def pH : Pt := .nl
def v (l : TA) (y : XA) : AV U := .tup [.agg [jI y.1, .own 0], jI y.2.1]
def hh (l : TA) (y : XA) : Hp U := [.row 24 y.2.2 true]
def A : AFun U := mkA pA pH (X := XA) (fun l => (tl l).run) sp1 v hh
def body := bodyOf Try.f112
def E : Env U := E0.mk5 [(108, schema_Fine.A), (131, field_Take.A)] [(5, Λ5)] [] [(5, ⟨[4, 22, 1, 6, 20, 21], [(6, [.to 1], .own 24)]⟩, ⟨[4, 5, 6, 1], []⟩)] []
theorem hf5 : HF E (pick (loopsOf body) 5) p5 q5 0 fl5 hd5 (spS sp1) ou5 := fun _ _ _ _ => by kernel_rfl
theorem lk5 : LK E (pick (loopsOf body) 5) Λ5 := fun R st K r h =>
  lp_ok (E := E) (b := pick (loopsOf body) 5) (m := 0) (sp := (spS sp1)) (p := p5) (q := q5) (X := X5) (S := S5) (f := fl5) (hd := hd5) (s0 := fun (l : T5) => (l.1.2.1, ((d8 l.1).2.1, l.2.2.2.1))) (ou := ou5)
    (fun l => rfl) (fun l x => by repeat' (first | rfl | (cases x with | inl => rfl | inr x => ?_))) (spS_ok sp1_ok) hf5 h
theorem hk : HK E Try.f112 [(0, [.cell 1], .own 24)] pA pH tl v hh := fun _ _ _ => by kernel_rfl
theorem og : SoundF Try.prog cc 112 A ∧ FnOK Try.prog 112 :=
 og_of (E := E) P_mixed (E0_ok.mk5 _ _ _ _ _) (gam_of (all_cons schema_Fine.og (all_cons field_Take.og all_nil)) no_ro) Try.func112 (c := body) (by kernel_rfl)
    (just_by (by kernel_rfl) (by kernel_rfl) (all_cons lk5 all_nil) all_nil) [(0, [.cell 1], .own 24)] sp1_ok hk (by kernel_rfl)
end record_Take

end
end Go.Proofs.Ytmlbioapefgioaa.Va
