/- The functions of package record, as plain functions, and that the program computes them. Printed by a program of this work out of the evaluator. -/
import Derived.Test.YtpidbpmkogbdeaaEn
import Derived.Tactics
import Derived.Test.YtpidbpmkogbdeaaFfield
import Derived.Test.YtpidbpmkogbdeaaFschema
namespace Go.Proofs.Ytpidbpmkogbdeaa.Va
open Go
set_option linter.unusedVariables false
set_option maxRecDepth 100000

/-! instar/record.Has$1 -/
namespace record_Has_1
abbrev TA : Type := (((Int × (ByteArray × Unit)) × ((Int × (Int × (Int × (Int × (Int × Unit))))) × Unit)) × Unit)
noncomputable def t (v__0 : Int) (v__1 : ByteArray) (x_0 : Int) (x_1 : Int) (x_2 : Int) (x_3 : Int) (x_4 : Int) : Tw Bool :=
 (.opt (field_Has.c x_0 x_1 x_2 x_3 x_4 v__0 v__1) fun z1 =>
  (.ret z1))
noncomputable def c (v__0 : Int) (v__1 : ByteArray) (x_0 : Int) (x_1 : Int) (x_2 : Int) (x_3 : Int) (x_4 : Int) : Option Bool := (t v__0 v__1 x_0 x_1 x_2 x_3 x_4).run
def pA : Pt := (.cs (.agg (.cs (.int .i64) (.cs .str .nl))) (.cs (.agg (.cs (.int .i64) (.cs (.int .i64) (.cs (.int .i64) (.cs (.int .i64) (.cs (.int .i64) .nl)))))) .nl))
def pH : Pt := .nl
def v (l : TA) (y : Bool) : AV U := .im (.bool y)
def hh (l : TA) (y : Bool) : Hp U := []
noncomputable def A : AFun U := mkA (U := U) pA pH (X := Bool) (fun (l : TA) => c l.1.1.1 l.1.1.2.1 l.1.2.1.1 l.1.2.1.2.1 l.1.2.1.2.2.1 l.1.2.1.2.2.2.1 l.1.2.1.2.2.2.2.1) sp1 v hh
noncomputable def body : Code := (Go.Func.body Try.f137).getD .skip
noncomputable def Γ : List (FuncId × AFun U) := [(138, field_Has.A)]
noncomputable def Λ : List (Nat × LFun U) := []
noncomputable def CT : List (Nat × LFun U) := []
def ro : List FuncId := []
def D : Nat → Lv × Lv := dtab []
noncomputable def E : Env U := { E0 with Γ := Γ, Λ := Λ, C := CT, D := D, ro := ro }
theorem hk (R : Type) (l : TA) (K : AV U → Hp U → Option R) : funcA E Try.f137 [] R (pA.mkL l.1) (pH.mkH l.2) K = (t l.1.1.1 l.1.1.2.1 l.1.2.1.1 l.1.2.1.2.1 l.1.2.1.2.2.1 l.1.2.1.2.2.2.1 l.1.2.1.2.2.2.2.1).runK fun y => K (v l y) (hh l y) := by kernel_rfl
theorem okF : SoundF Try.prog cc 137 (funcA E Try.f137 []) :=
  funcA_ok (E := E) P_mixed (E0_ok.with Γ Λ CT D ro) (gam_of (all_cons ⟨field_Has.ok, ⟨Try.f138, Try.func138, by kernel_rfl, by kernel_rfl⟩⟩ all_nil) (all_cons (no_keep (by kernel_rfl)) all_nil)) Try.func137 (c := body) (by kernel_rfl)
    (just_by (by kernel_rfl) (by kernel_rfl) all_nil all_nil) []
theorem ok : SoundF Try.prog cc 137 A :=
  mkA_ok (E := E) (p := pA) (q := pH) (t := fun (l : TA) => t l.1.1.1 l.1.1.2.1 l.1.2.1.1 l.1.2.1.2.1 l.1.2.1.2.2.1 l.1.2.1.2.2.2.1 l.1.2.1.2.2.2.2.1) sp1_ok hk okF
theorem keep : KeepA A := mkA_keep (U := U) sp1_ok (fun (l : TA) y => ⟨(hh l y).drop 0, by kernel_rfl⟩)
end record_Has_1

/-! slices.EqualFunc[[]instar/api.Value,[]instar/api.Field,instar/api.Value,instar/api.Field] -/
namespace slices_EqualFunc__api_Value_api_Fieldapi_Valueapi_Field_of_record_Has_1
abbrev TA : Type := (((List ValueV) × ((List FieldV) × (Unit × Unit))) × Unit)
abbrev T4 : Type := ((Unit × ((List FieldV) × (Unit × (Unit × ((List ValueV) × (Int × (Int × (Unit × Unit)))))))) × Unit)
noncomputable def l4 (s2 : (List FieldV)) (k15 : (List ValueV)) (k16 : Int) (k17 : Int) : Tw (Int ⊕ (Unit ⊕ Bool)) :=
 (.bb (decide (k17 < k16))
  (.dd (((0 : Int) ≤ k17)) inferInstance
   (.opt (k15)[(Int.toNat k17)]? fun z1 =>
    (.dd (((0 : Int) ≤ k17)) inferInstance
     (.opt (s2)[(Int.toNat k17)]? fun z2 =>
      (.opt (record_Has_1.c z1.n z1.s z2.id z2.kind z2.lo z2.hi z2.most) fun z3 =>
       (.bb (!z3)
        (.ret (.inr (.inr false)))
        (.ret (.inl (w64 (k17 + (1 : Int))))))))
     .no))
   .no)
  (.ret (.inr (.inl ()))))
noncomputable def L4 (s2 : (List FieldV)) (k15 : (List ValueV)) (k16 : Int) (k17 : Int) : Option (Unit ⊕ Bool) := Lp (fun s => (l4 s2 k15 k16 s).run) k17
def p4 : Pt := (.cs (.bots 1) (.cs (.sl 23) (.cs (.clo 137 .nl) (.cs (.bots 12) (.cs (.sl 24) (.cs (.int .i64) (.cs (.int .i64) (.cs (.bots 14) .nl))))))))
def q4 : Pt := .nl
def ou4 (l : T4) (y : (Unit ⊕ Bool)) : Ex × St U := (Sum.elim (fun a0 => (.exit 0, stOf 32 [] [] 0)) (fun b0 => (.ret, stOf 32 [(6, .im (.bool b0))] [] 0)) y)
noncomputable def Λ4 : LFun U := mkLp (U := U) p4 q4 0 (X := (Unit ⊕ Bool)) (fun (l : T4) => L4 l.1.2.1 l.1.2.2.2.2.1 l.1.2.2.2.2.2.1 l.1.2.2.2.2.2.2.1) (spS sp1) ou4
noncomputable def t (s1 : (List ValueV)) (s2 : (List FieldV)) : Tw Bool :=
 (.bb ((((List.length s1) : Nat) : Int) != (((List.length s2) : Nat) : Int))
  (.ret false)
  (.opt (L4 s2 s1 (((List.length s1) : Nat) : Int) (0 : Int)) fun z4 =>
   (.sm z4
    (fun z5 => (.ret true))
    (fun z6 => (.ret z6)))))
noncomputable def c (s1 : (List ValueV)) (s2 : (List FieldV)) : Option Bool := (t s1 s2).run
def pA : Pt := (.cs (.sl 24) (.cs (.sl 23) (.cs (.clo 137 .nl) .nl)))
def pH : Pt := .nl
def v (l : TA) (y : Bool) : AV U := .im (.bool y)
def hh (l : TA) (y : Bool) : Hp U := []
noncomputable def A : AFun U := mkA (U := U) pA pH (X := Bool) (fun (l : TA) => c l.1.1 l.1.2.1) sp1 v hh
noncomputable def body : Code := (Go.Func.body Try.f136).getD .skip
noncomputable def Γ : List (FuncId × AFun U) := [(137, record_Has_1.A)]
noncomputable def Λ : List (Nat × LFun U) := [(4, Λ4)]
noncomputable def CT : List (Nat × LFun U) := []
def ro : List FuncId := []
def D : Nat → Lv × Lv := dtab [(4, ⟨[17, 2, 1, 15, 16], []⟩, ⟨[6], []⟩)]
noncomputable def E : Env U := { E0 with Γ := Γ, Λ := Λ, C := CT, D := D, ro := ro }
theorem hf4 (R : Type) (l : T4) (s : Int) (K : Ex → St U → Option R) : codeA E (pick (loopsOf body) 4) ⟨p4.mkL ((((), (l.1.2.1, ((), ((), (l.1.2.2.2.2.1, (l.1.2.2.2.2.2.1, (s, ((), ())))))))), ()) : T4).1, q4.mkH ((((), (l.1.2.1, ((), ((), (l.1.2.2.2.2.1, (l.1.2.2.2.2.2.1, (s, ((), ())))))))), ()) : T4).2, 0⟩ (roundK E (pick (loopsOf body) 4) K) =
  (l4 l.1.2.1 l.1.2.2.2.2.1 l.1.2.2.2.2.2.1 s).runK (lpK K (fun s => ⟨p4.mkL ((((), (l.1.2.1, ((), ((), (l.1.2.2.2.2.1, (l.1.2.2.2.2.2.1, (s, ((), ())))))))), ()) : T4).1, q4.mkH ((((), (l.1.2.1, ((), ((), (l.1.2.2.2.2.1, (l.1.2.2.2.2.2.1, (s, ((), ())))))))), ()) : T4).2, 0⟩) (spS sp1) (ou4 l)) := by kernel_rfl
theorem lk4 (R : Type) (st : St U) (K : Ex → St U → Option R) (r : R) (h : Λ4 R st K = some r) : ∃ n, loopA E (pick (loopsOf body) 4) n st K = some r :=
  lp_ok (U := U) (E := E) (b := pick (loopsOf body) 4) (m := 0) (sp := (spS sp1)) (p := p4) (q := q4) (X := (Unit ⊕ Bool)) (S := Int) (f := fun (l : T4) s => l4 l.1.2.1 l.1.2.2.2.2.1 l.1.2.2.2.2.2.1 s) (hd := fun (l : T4) s => (((), (l.1.2.1, ((), ((), (l.1.2.2.2.2.1, (l.1.2.2.2.2.2.1, (s, ((), ())))))))), ())) (s0 := fun (l : T4) => l.1.2.2.2.2.2.2.1) (ou := ou4)
    (fun l => rfl) (fun l x => by repeat' (first | rfl | (cases x with | inl => rfl | inr x => ?_))) (spS_ok sp1_ok) hf4 h
theorem hk (R : Type) (l : TA) (K : AV U → Hp U → Option R) : funcA E Try.f136 [] R (pA.mkL l.1) (pH.mkH l.2) K = (t l.1.1 l.1.2.1).runK fun y => K (v l y) (hh l y) := by kernel_rfl
theorem okF : SoundF Try.prog cc 136 (funcA E Try.f136 []) :=
  funcA_ok (E := E) P_mixed (E0_ok.with Γ Λ CT D ro) (gam_of (all_cons ⟨record_Has_1.ok, ⟨Try.f137, Try.func137, by kernel_rfl, by kernel_rfl⟩⟩ all_nil) (all_cons (no_keep (by kernel_rfl)) all_nil)) Try.func136 (c := body) (by kernel_rfl)
    (just_by (by kernel_rfl) (by kernel_rfl) (all_cons lk4 all_nil) all_nil) []
theorem ok : SoundF Try.prog cc 136 A :=
  mkA_ok (E := E) (p := pA) (q := pH) (t := fun (l : TA) => t l.1.1 l.1.2.1) sp1_ok hk okF
theorem keep : KeepA A := mkA_keep (U := U) sp1_ok (fun (l : TA) y => ⟨(hh l y).drop 0, by kernel_rfl⟩)
end slices_EqualFunc__api_Value_api_Fieldapi_Valueapi_Field_of_record_Has_1

/-! instar/record.Has -/
namespace record_Has
abbrev TA : Type := (((Int × ((List FieldV) × Unit)) × ((Int × ((List ValueV) × Unit)) × Unit)) × Unit)
noncomputable def t (f_0 : Int) (f_1 : (List FieldV)) (r_0 : Int) (r_1 : (List ValueV)) : Tw Bool :=
 (.opt (schema_Fine.c f_0 f_1) fun z1 =>
  (.bb z1
   (.bb (r_0 == f_0)
    (.opt (slices_EqualFunc__api_Value_api_Fieldapi_Valueapi_Field_of_record_Has_1.c r_1 f_1) fun z2 =>
     (.ret z2))
    (.ret false))
   (.ret false)))
noncomputable def c (f_0 : Int) (f_1 : (List FieldV)) (r_0 : Int) (r_1 : (List ValueV)) : Option Bool := (t f_0 f_1 r_0 r_1).run
def pA : Pt := (.cs (.agg (.cs (.int .i64) (.cs (.sl 23) .nl))) (.cs (.agg (.cs (.int .i64) (.cs (.sl 24) .nl))) .nl))
def pH : Pt := .nl
def v (l : TA) (y : Bool) : AV U := .im (.bool y)
def hh (l : TA) (y : Bool) : Hp U := []
noncomputable def A : AFun U := mkA (U := U) pA pH (X := Bool) (fun (l : TA) => c l.1.1.1 l.1.1.2.1 l.1.2.1.1 l.1.2.1.2.1) sp1 v hh
noncomputable def body : Code := (Go.Func.body Try.f71).getD .skip
noncomputable def Γ : List (FuncId × AFun U) := [(135, schema_Fine.A), (136, slices_EqualFunc__api_Value_api_Fieldapi_Valueapi_Field_of_record_Has_1.A)]
noncomputable def Λ : List (Nat × LFun U) := []
noncomputable def CT : List (Nat × LFun U) := []
def ro : List FuncId := []
def D : Nat → Lv × Lv := dtab []
noncomputable def E : Env U := { E0 with Γ := Γ, Λ := Λ, C := CT, D := D, ro := ro }
theorem hk (R : Type) (l : TA) (K : AV U → Hp U → Option R) : funcA E Try.f71 [] R (pA.mkL l.1) (pH.mkH l.2) K = (t l.1.1.1 l.1.1.2.1 l.1.2.1.1 l.1.2.1.2.1).runK fun y => K (v l y) (hh l y) := by kernel_rfl
theorem okF : SoundF Try.prog cc 71 (funcA E Try.f71 []) :=
  funcA_ok (E := E) P_mixed (E0_ok.with Γ Λ CT D ro) (gam_of (all_cons ⟨schema_Fine.ok, ⟨Try.f135, Try.func135, by kernel_rfl, by kernel_rfl⟩⟩ (all_cons ⟨slices_EqualFunc__api_Value_api_Fieldapi_Valueapi_Field_of_record_Has_1.ok, ⟨Try.f136, Try.func136, by kernel_rfl, by kernel_rfl⟩⟩ all_nil)) (all_cons (no_keep (by kernel_rfl)) (all_cons (no_keep (by kernel_rfl)) all_nil))) Try.func71 (c := body) (by kernel_rfl)
    (just_by (by kernel_rfl) (by kernel_rfl) all_nil all_nil) []
theorem ok : SoundF Try.prog cc 71 A :=
  mkA_ok (E := E) (p := pA) (q := pH) (t := fun (l : TA) => t l.1.1.1 l.1.1.2.1 l.1.2.1.1 l.1.2.1.2.1) sp1_ok hk okF
theorem keep : KeepA A := mkA_keep (U := U) sp1_ok (fun (l : TA) y => ⟨(hh l y).drop 0, by kernel_rfl⟩)
end record_Has

/-! instar/record.First -/
namespace record_First
abbrev TA : Type := (((Int × ((List FieldV) × Unit)) × Unit) × Unit)
abbrev T5 : Type := ((Unit × (Unit × (Unit × (Unit × ((List FieldV) × (Int × (Int × (Unit × Unit)))))))) × ((Int × (Unit × Unit)) × ((Int × (Unit × Unit)) × ((List ValueV) × Unit))))
noncomputable def l5 (k14 : (List FieldV)) (k15 : Int) (h0_0 : Int) (h1_0 : Int) (k16 : Int) (h2 : (List ValueV)) : Tw ((Int × (List ValueV)) ⊕ (List ValueV)) :=
 (.bb (decide (k16 < k15))
  (.dd (((0 : Int) ≤ k16)) inferInstance
   (.opt (k14)[(Int.toNat k16)]? fun z2 =>
    (.opt (field_Least.c z2.id z2.kind z2.lo z2.hi z2.most) fun z3 =>
     (.dd ((((((List.length h2) + (List.length ((Go.Proofs.Ytpidbpmkogbdeaa.Va.ValueV.mk z3.1 z3.2) :: ([] : List ValueV)))) * (24 : Nat)) ≤ (140737488355328 : Nat)) ∧ (((List.length h2) + (List.length ((Go.Proofs.Ytpidbpmkogbdeaa.Va.ValueV.mk z3.1 z3.2) :: ([] : List ValueV)))) ≤ (140737488355328 : Nat)))) inferInstance
      (.ret (.inl ((w64 (k16 + (1 : Int))), (h2 ++ ((Go.Proofs.Ytpidbpmkogbdeaa.Va.ValueV.mk z3.1 z3.2) :: ([] : List ValueV))))))
      .no)))
   .no)
  (.ret (.inr h2)))
noncomputable def L5 (k14 : (List FieldV)) (k15 : Int) (k16 : Int) (h0_0 : Int) (h1_0 : Int) (h2 : (List ValueV)) : Option (List ValueV) := Lp (fun s => (l5 k14 k15 h0_0 h1_0 s.1 s.2).run) (k16, h2)
def p5 : Pt := (.cs (.bots 2) (.cs (.ptr 0 0) (.cs (.ptr 1 0) (.cs (.bots 10) (.cs (.sl 23) (.cs (.int .i64) (.cs (.int .i64) (.cs (.bots 12) .nl))))))))
def q5 : Pt := (.cs (.var (.cs (.int .i64) (.cs .nils .nl))) (.cs (.var (.cs (.int .i64) (.cs (.own 2) .nl))) (.cs (.row 24 true) .nl)))
def ou5 (l : T5) (y : (List ValueV)) : Ex × St U := (.exit 0, stOf 29 [(2, .ptr 0 0), (3, .ptr 1 0)] [.var [.im (.int .i64 l.2.1.1), .im .nils], .var [.im (.int .i64 l.2.2.1.1), .own 2], .row 24 y true] 0)
noncomputable def Λ5 : LFun U := mkLp (U := U) p5 q5 0 (X := (List ValueV)) (fun (l : T5) => L5 l.1.2.2.2.2.1 l.1.2.2.2.2.2.1 l.1.2.2.2.2.2.2.1 l.2.1.1 l.2.2.1.1 l.2.2.2.1) sp1 ou5
noncomputable def t (f_0 : Int) (f_1 : (List FieldV)) : Tw (Int × (List ValueV)) :=
 (.opt (schema_Fine.c f_0 f_1) fun z1 =>
  (.bb (!z1)
   (.ret ((0 : Int), ([] : List ValueV)))
   (.opt (L5 f_1 (((List.length f_1) : Nat) : Int) (0 : Int) (0 : Int) f_0 ([] : List ValueV)) fun z4 =>
    (.ret (f_0, z4)))))
noncomputable def c (f_0 : Int) (f_1 : (List FieldV)) : Option (Int × (List ValueV)) := (t f_0 f_1).run
def pA : Pt := (.cs (.agg (.cs (.int .i64) (.cs (.sl 23) .nl))) .nl)
def pH : Pt := .nl
def v (l : TA) (y : (Int × (List ValueV))) : AV U := .agg [.im (.int .i64 y.1), .own 0]
def hh (l : TA) (y : (Int × (List ValueV))) : Hp U := [.row 24 y.2 true]
noncomputable def A : AFun U := mkA (U := U) pA pH (X := (Int × (List ValueV))) (fun (l : TA) => c l.1.1.1 l.1.1.2.1) sp1 v hh
noncomputable def body : Code := (Go.Func.body Try.f74).getD .skip
noncomputable def Γ : List (FuncId × AFun U) := [(135, schema_Fine.A), (140, field_Least.A)]
noncomputable def Λ : List (Nat × LFun U) := [(5, Λ5)]
noncomputable def CT : List (Nat × LFun U) := []
def ro : List FuncId := []
def D : Nat → Lv × Lv := dtab [(5, ⟨[16, 3, 14, 2, 15], [(3, [.to 1], .own 24)]⟩, ⟨[2, 3], []⟩)]
noncomputable def E : Env U := { E0 with Γ := Γ, Λ := Λ, C := CT, D := D, ro := ro }
theorem hf5 (R : Type) (l : T5) (s : (Int × (List ValueV))) (K : Ex → St U → Option R) : codeA E (pick (loopsOf body) 5) ⟨p5.mkL ((((), ((), ((), ((), (l.1.2.2.2.2.1, (l.1.2.2.2.2.2.1, (s.1, ((), ())))))))), ((l.2.1.1, ((), ())), ((l.2.2.1.1, ((), ())), (s.2, ())))) : T5).1, q5.mkH ((((), ((), ((), ((), (l.1.2.2.2.2.1, (l.1.2.2.2.2.2.1, (s.1, ((), ())))))))), ((l.2.1.1, ((), ())), ((l.2.2.1.1, ((), ())), (s.2, ())))) : T5).2, 0⟩ (roundK E (pick (loopsOf body) 5) K) =
  (l5 l.1.2.2.2.2.1 l.1.2.2.2.2.2.1 l.2.1.1 l.2.2.1.1 s.1 s.2).runK (lpK K (fun s => ⟨p5.mkL ((((), ((), ((), ((), (l.1.2.2.2.2.1, (l.1.2.2.2.2.2.1, (s.1, ((), ())))))))), ((l.2.1.1, ((), ())), ((l.2.2.1.1, ((), ())), (s.2, ())))) : T5).1, q5.mkH ((((), ((), ((), ((), (l.1.2.2.2.2.1, (l.1.2.2.2.2.2.1, (s.1, ((), ())))))))), ((l.2.1.1, ((), ())), ((l.2.2.1.1, ((), ())), (s.2, ())))) : T5).2, 0⟩) sp1 (ou5 l)) := by kernel_rfl
theorem lk5 (R : Type) (st : St U) (K : Ex → St U → Option R) (r : R) (h : Λ5 R st K = some r) : ∃ n, loopA E (pick (loopsOf body) 5) n st K = some r :=
  lp_ok (U := U) (E := E) (b := pick (loopsOf body) 5) (m := 0) (sp := sp1) (p := p5) (q := q5) (X := (List ValueV)) (S := (Int × (List ValueV))) (f := fun (l : T5) s => l5 l.1.2.2.2.2.1 l.1.2.2.2.2.2.1 l.2.1.1 l.2.2.1.1 s.1 s.2) (hd := fun (l : T5) s => (((), ((), ((), ((), (l.1.2.2.2.2.1, (l.1.2.2.2.2.2.1, (s.1, ((), ())))))))), ((l.2.1.1, ((), ())), ((l.2.2.1.1, ((), ())), (s.2, ()))))) (s0 := fun (l : T5) => (l.1.2.2.2.2.2.2.1, l.2.2.2.1)) (ou := ou5)
    (fun l => rfl) (fun l x => by rfl) sp1_ok hf5 h
theorem hk (R : Type) (l : TA) (K : AV U → Hp U → Option R) : funcA E Try.f74 [(0, [.cell 1], .own 24)] R (pA.mkL l.1) (pH.mkH l.2) K = (t l.1.1.1 l.1.1.2.1).runK fun y => K (v l y) (hh l y) := by kernel_rfl
theorem okF : SoundF Try.prog cc 74 (funcA E Try.f74 [(0, [.cell 1], .own 24)]) :=
  funcA_ok (E := E) P_mixed (E0_ok.with Γ Λ CT D ro) (gam_of (all_cons ⟨schema_Fine.ok, ⟨Try.f135, Try.func135, by kernel_rfl, by kernel_rfl⟩⟩ (all_cons ⟨field_Least.ok, ⟨Try.f140, Try.func140, by kernel_rfl, by kernel_rfl⟩⟩ all_nil)) (all_cons (no_keep (by kernel_rfl)) (all_cons (no_keep (by kernel_rfl)) all_nil))) Try.func74 (c := body) (by kernel_rfl)
    (just_by (by kernel_rfl) (by kernel_rfl) (all_cons lk5 all_nil) all_nil) [(0, [.cell 1], .own 24)]
theorem ok : SoundF Try.prog cc 74 A :=
  mkA_ok (E := E) (p := pA) (q := pH) (t := fun (l : TA) => t l.1.1.1 l.1.1.2.1) sp1_ok hk okF
theorem keep : KeepA A := mkA_keep (U := U) sp1_ok (fun (l : TA) y => ⟨(hh l y).drop 0, by kernel_rfl⟩)
end record_First

/-! instar/record.Lay -/
namespace record_Lay
abbrev TA : Type := (((Int × ((List FieldV) × Unit)) × ((Int × ((List ValueV) × Unit)) × Unit)) × Unit)
abbrev T7 : Type := ((Unit × (Unit × (Unit × (Unit × (Unit × ((List ValueV) × (Int × (Int × (Unit × Unit))))))))) × ((Int × ((List FieldV) × Unit)) × ((List Int) × Unit)))
noncomputable def l7 (k24 : (List ValueV)) (k25 : Int) (h0_0 : Int) (h0_1 : (List FieldV)) (k26 : Int) (h1 : (List Int)) : Tw ((Int × (List Int)) ⊕ ((List Int) ⊕ (Int × (List Int)))) :=
 (.bb (decide (k26 < k25))
  (.dd (((0 : Int) ≤ k26)) inferInstance
   (.opt (k24)[(Int.toNat k26)]? fun z4 =>
    (.dd (((0 : Int) ≤ k26)) inferInstance
     (.opt (h0_1)[(Int.toNat k26)]? fun z5 =>
      (.opt (field_Lay.c z5.id z5.kind z5.lo z5.hi z5.most z4.n z4.s) fun z6 =>
       (.bb (z6.1 != (0 : Int))
        (.ret (.inr (.inr (z6.1, h1))))
        (.dd ((((((List.length h1) + (List.length z6.2)) * (1 : Nat)) ≤ (140737488355328 : Nat)) ∧ (((List.length h1) + (List.length z6.2)) ≤ (140737488355328 : Nat)))) inferInstance
         (.ret (.inl ((w64 (k26 + (1 : Int))), (h1 ++ z6.2))))
         .no))))
     .no))
   .no)
  (.ret (.inr (.inl h1))))
noncomputable def L7 (k24 : (List ValueV)) (k25 : Int) (k26 : Int) (h0_0 : Int) (h0_1 : (List FieldV)) (h1 : (List Int)) : Option ((List Int) ⊕ (Int × (List Int))) := Lp (fun s => (l7 k24 k25 h0_0 h0_1 s.1 s.2).run) (k26, h1)
def p7 : Pt := (.cs (.bots 2) (.cs (.ptr 0 0) (.cs (.bots 3) (.cs (.own 1) (.cs (.bots 17) (.cs (.sl 24) (.cs (.int .i64) (.cs (.int .i64) (.cs (.bots 22) .nl)))))))))
def q7 : Pt := (.cs (.var (.cs (.int .i64) (.cs (.sl 23) .nl))) (.cs (.row 2 true) .nl))
def ou7 (l : T7) (y : ((List Int) ⊕ (Int × (List Int)))) : Ex × St U := (Sum.elim (fun a0 => (.exit 1, stOf 49 [(6, .own 0)] [.row 2 a0 true] 0)) (fun b0 => (.ret, stOf 49 [(4, .im .nils), (5, .im (.int .i64 b0.1)), (6, .own 0)] [.row 2 b0.2 true] 0)) y)
noncomputable def Λ7 : LFun U := mkLp (U := U) p7 q7 0 (X := ((List Int) ⊕ (Int × (List Int)))) (fun (l : T7) => L7 l.1.2.2.2.2.2.1 l.1.2.2.2.2.2.2.1 l.1.2.2.2.2.2.2.2.1 l.2.1.1 l.2.1.2.1 l.2.2.1) (spS sp1) ou7
noncomputable def t (f_0 : Int) (f_1 : (List FieldV)) (r_0 : Int) (r_1 : (List ValueV)) : Tw (Int × (List Int)) :=
 (.opt (schema_Fine.c f_0 f_1) fun z1 =>
  (.bb (!z1)
   (.ret ((2 : Int), ([] : List Int)))
   (.opt (record_Has.c f_0 f_1 r_0 r_1) fun z2 =>
    (.bb (!z2)
     (.ret ((16 : Int), ([] : List Int)))
     (.opt (schema_Long.c f_0 f_1) fun z3 =>
      (.dd ((((0 : Int) ≤ (0 : Int)) ∧ (((0 : Int) ≤ z3) ∧ ((z3 ≤ (140737488355328 : Int)) ∧ ((z3 * (((1 : Nat) : Nat) : Int)) ≤ (140737488355328 : Int)))))) inferInstance
       (.opt (L7 r_1 (((List.length r_1) : Nat) : Int) (0 : Int) f_0 f_1 (List.replicate (Int.toNat (0 : Int)) (0 : Int))) fun z7 =>
        (.sm z7
         (fun z8 => (.ret ((0 : Int), z8)))
         (fun z9 => (.ret (z9.1, ([] : List Int))))))
       .no))))))
noncomputable def c (f_0 : Int) (f_1 : (List FieldV)) (r_0 : Int) (r_1 : (List ValueV)) : Option (Int × (List Int)) := (t f_0 f_1 r_0 r_1).run
def pA : Pt := (.cs (.agg (.cs (.int .i64) (.cs (.sl 23) .nl))) (.cs (.agg (.cs (.int .i64) (.cs (.sl 24) .nl))) .nl))
def pH : Pt := .nl
def v (l : TA) (y : (Int × (List Int))) : AV U := .tup [.own 0, .im (.int .i64 y.1)]
def hh (l : TA) (y : (Int × (List Int))) : Hp U := [.row 2 y.2 true]
noncomputable def A : AFun U := mkA (U := U) pA pH (X := (Int × (List Int))) (fun (l : TA) => c l.1.1.1 l.1.1.2.1 l.1.2.1.1 l.1.2.1.2.1) sp1 v hh
noncomputable def body : Code := (Go.Func.body Try.f76).getD .skip
noncomputable def Γ : List (FuncId × AFun U) := [(135, schema_Fine.A), (71, record_Has.A), (142, schema_Long.A), (143, field_Lay.A)]
noncomputable def Λ : List (Nat × LFun U) := [(7, Λ7)]
noncomputable def CT : List (Nat × LFun U) := []
def ro : List FuncId := []
def D : Nat → Lv × Lv := dtab [(7, ⟨[26, 6, 2, 24, 25], []⟩, ⟨[4, 5, 6], []⟩)]
noncomputable def E : Env U := { E0 with Γ := Γ, Λ := Λ, C := CT, D := D, ro := ro }
theorem hf7 (R : Type) (l : T7) (s : (Int × (List Int))) (K : Ex → St U → Option R) : codeA E (pick (loopsOf body) 7) ⟨p7.mkL ((((), ((), ((), ((), ((), (l.1.2.2.2.2.2.1, (l.1.2.2.2.2.2.2.1, (s.1, ((), ()))))))))), ((l.2.1.1, (l.2.1.2.1, ())), (s.2, ()))) : T7).1, q7.mkH ((((), ((), ((), ((), ((), (l.1.2.2.2.2.2.1, (l.1.2.2.2.2.2.2.1, (s.1, ((), ()))))))))), ((l.2.1.1, (l.2.1.2.1, ())), (s.2, ()))) : T7).2, 0⟩ (roundK E (pick (loopsOf body) 7) K) =
  (l7 l.1.2.2.2.2.2.1 l.1.2.2.2.2.2.2.1 l.2.1.1 l.2.1.2.1 s.1 s.2).runK (lpK K (fun s => ⟨p7.mkL ((((), ((), ((), ((), ((), (l.1.2.2.2.2.2.1, (l.1.2.2.2.2.2.2.1, (s.1, ((), ()))))))))), ((l.2.1.1, (l.2.1.2.1, ())), (s.2, ()))) : T7).1, q7.mkH ((((), ((), ((), ((), ((), (l.1.2.2.2.2.2.1, (l.1.2.2.2.2.2.2.1, (s.1, ((), ()))))))))), ((l.2.1.1, (l.2.1.2.1, ())), (s.2, ()))) : T7).2, 0⟩) (spS sp1) (ou7 l)) := by kernel_rfl
theorem lk7 (R : Type) (st : St U) (K : Ex → St U → Option R) (r : R) (h : Λ7 R st K = some r) : ∃ n, loopA E (pick (loopsOf body) 7) n st K = some r :=
  lp_ok (U := U) (E := E) (b := pick (loopsOf body) 7) (m := 0) (sp := (spS sp1)) (p := p7) (q := q7) (X := ((List Int) ⊕ (Int × (List Int)))) (S := (Int × (List Int))) (f := fun (l : T7) s => l7 l.1.2.2.2.2.2.1 l.1.2.2.2.2.2.2.1 l.2.1.1 l.2.1.2.1 s.1 s.2) (hd := fun (l : T7) s => (((), ((), ((), ((), ((), (l.1.2.2.2.2.2.1, (l.1.2.2.2.2.2.2.1, (s.1, ((), ()))))))))), ((l.2.1.1, (l.2.1.2.1, ())), (s.2, ())))) (s0 := fun (l : T7) => (l.1.2.2.2.2.2.2.2.1, l.2.2.1)) (ou := ou7)
    (fun l => rfl) (fun l x => by repeat' (first | rfl | (cases x with | inl => rfl | inr x => ?_))) (spS_ok sp1_ok) hf7 h
theorem hk (R : Type) (l : TA) (K : AV U → Hp U → Option R) : funcA E Try.f76 [(0, [], .own 2)] R (pA.mkL l.1) (pH.mkH l.2) K = (t l.1.1.1 l.1.1.2.1 l.1.2.1.1 l.1.2.1.2.1).runK fun y => K (v l y) (hh l y) := by kernel_rfl
theorem okF : SoundF Try.prog cc 76 (funcA E Try.f76 [(0, [], .own 2)]) :=
  funcA_ok (E := E) P_mixed (E0_ok.with Γ Λ CT D ro) (gam_of (all_cons ⟨schema_Fine.ok, ⟨Try.f135, Try.func135, by kernel_rfl, by kernel_rfl⟩⟩ (all_cons ⟨record_Has.ok, ⟨Try.f71, Try.func71, by kernel_rfl, by kernel_rfl⟩⟩ (all_cons ⟨schema_Long.ok, ⟨Try.f142, Try.func142, by kernel_rfl, by kernel_rfl⟩⟩ (all_cons ⟨field_Lay.ok, ⟨Try.f143, Try.func143, by kernel_rfl, by kernel_rfl⟩⟩ all_nil)))) (all_cons (no_keep (by kernel_rfl)) (all_cons (no_keep (by kernel_rfl)) (all_cons (no_keep (by kernel_rfl)) (all_cons (no_keep (by kernel_rfl)) all_nil))))) Try.func76 (c := body) (by kernel_rfl)
    (just_by (by kernel_rfl) (by kernel_rfl) (all_cons lk7 all_nil) all_nil) [(0, [], .own 2)]
theorem ok : SoundF Try.prog cc 76 A :=
  mkA_ok (E := E) (p := pA) (q := pH) (t := fun (l : TA) => t l.1.1.1 l.1.1.2.1 l.1.2.1.1 l.1.2.1.2.1) sp1_ok hk okF
theorem keep : KeepA A := mkA_keep (U := U) sp1_ok (fun (l : TA) y => ⟨(hh l y).drop 0, by kernel_rfl⟩)
end record_Lay

/-! instar/record.Take -/
namespace record_Take
abbrev TA : Type := (((Int × ((List FieldV) × Unit)) × ((List Int) × Unit)) × Unit)
abbrev T5 : Type := ((Unit × ((List Int) × (Unit × (Unit × (Unit × (Unit × (Unit × ((List FieldV) × (Int × (Int × (Unit × Unit))))))))))) × ((Int × (Unit × Unit)) × ((Int × (Unit × Unit)) × ((List ValueV) × Unit))))
noncomputable def l5 (k20 : (List FieldV)) (k21 : Int) (h0_0 : Int) (h1_0 : Int) (b : (List Int)) (k22 : Int) (h2 : (List ValueV)) : Tw (((List Int) × (Int × (List ValueV))) ⊕ (((List Int) × (List ValueV)) ⊕ ((List Int) × (Int × (Int × (List ValueV)))))) :=
 (.bb (decide (k22 < k21))
  (.dd (((0 : Int) ≤ k22)) inferInstance
   (.opt (k20)[(Int.toNat k22)]? fun z2 =>
    (.opt (field_Take.c z2.id z2.kind z2.lo z2.hi z2.most b) fun z3 =>
     (.bb (z3.2.2.2 != (0 : Int))
      (.ret (.inr (.inr (b, (z3.2.2.2, ((0 : Int), h2))))))
      (.dd ((((((List.length h2) + (List.length ((Go.Proofs.Ytpidbpmkogbdeaa.Va.ValueV.mk z3.1 z3.2.1) :: ([] : List ValueV)))) * (24 : Nat)) ≤ (140737488355328 : Nat)) ∧ (((List.length h2) + (List.length ((Go.Proofs.Ytpidbpmkogbdeaa.Va.ValueV.mk z3.1 z3.2.1) :: ([] : List ValueV)))) ≤ (140737488355328 : Nat)))) inferInstance
       (.dd ((((0 : Int) ≤ z3.2.2.1) ∧ (z3.2.2.1 ≤ (((List.length b) : Nat) : Int)))) inferInstance
        (.ret (.inl ((List.drop (Int.toNat z3.2.2.1) b), ((w64 (k22 + (1 : Int))), (h2 ++ ((Go.Proofs.Ytpidbpmkogbdeaa.Va.ValueV.mk z3.1 z3.2.1) :: ([] : List ValueV)))))))
        .no)
       .no))))
   .no)
  (.ret (.inr (.inl (b, h2)))))
noncomputable def L5 (b : (List Int)) (k20 : (List FieldV)) (k21 : Int) (k22 : Int) (h0_0 : Int) (h1_0 : Int) (h2 : (List ValueV)) : Option (((List Int) × (List ValueV)) ⊕ ((List Int) × (Int × (Int × (List ValueV))))) := Lp (fun s => (l5 k20 k21 h0_0 h1_0 s.1 s.2.1 s.2.2).run) (b, (k22, h2))
def p5 : Pt := (.cs (.bots 1) (.cs (.sl 2) (.cs (.bots 2) (.cs (.ptr 0 0) (.cs (.bots 1) (.cs (.ptr 1 0) (.cs (.bots 13) (.cs (.sl 23) (.cs (.int .i64) (.cs (.int .i64) (.cs (.bots 29) .nl)))))))))))
def q5 : Pt := (.cs (.var (.cs (.int .i64) (.cs .nils .nl))) (.cs (.var (.cs (.int .i64) (.cs (.own 2) .nl))) (.cs (.row 24 true) .nl)))
def ou5 (l : T5) (y : (((List Int) × (List ValueV)) ⊕ ((List Int) × (Int × (Int × (List ValueV)))))) : Ex × St U := (Sum.elim (fun a0 => (.exit 0, stOf 52 [(1, .im (.slice 2 a0.1)), (4, .ptr 0 0), (6, .ptr 1 0)] [.var [.im (.int .i64 l.2.1.1), .im .nils], .var [.im (.int .i64 l.2.2.1.1), .own 2], .row 24 a0.2 true] 0)) (fun b0 => (.ret, stOf 52 [(1, .im (.slice 2 b0.1)), (4, .ptr 0 0), (5, .im (.int .i64 b0.2.1)), (6, .ptr 1 0)] [.var [.im (.int .i64 b0.2.2.1), .im .nils], .var [.im (.int .i64 l.2.2.1.1), .own 2], .row 24 b0.2.2.2 true] 0)) y)
noncomputable def Λ5 : LFun U := mkLp (U := U) p5 q5 0 (X := (((List Int) × (List ValueV)) ⊕ ((List Int) × (Int × (Int × (List ValueV)))))) (fun (l : T5) => L5 l.1.2.1 l.1.2.2.2.2.2.2.2.1 l.1.2.2.2.2.2.2.2.2.1 l.1.2.2.2.2.2.2.2.2.2.1 l.2.1.1 l.2.2.1.1 l.2.2.2.1) (spS sp1) ou5
noncomputable def t (f_0 : Int) (f_1 : (List FieldV)) (b : (List Int)) : Tw (Int × (Int × (List ValueV))) :=
 (.opt (schema_Fine.c f_0 f_1) fun z1 =>
  (.bb (!z1)
   (.ret ((0 : Int), ((2 : Int), ([] : List ValueV))))
   (.opt (L5 b f_1 (((List.length f_1) : Nat) : Int) (0 : Int) (0 : Int) f_0 ([] : List ValueV)) fun z4 =>
    (.sm z4
     (fun z5 => (.bb (decide ((((List.length z5.1) : Nat) : Int) > (0 : Int)))
       (.ret ((0 : Int), ((6 : Int), ([] : List ValueV))))
       (.ret (f_0, ((0 : Int), z5.2)))))
     (fun z6 => (.ret (z6.2.2.1, (z6.2.1, ([] : List ValueV)))))))))
noncomputable def c (f_0 : Int) (f_1 : (List FieldV)) (b : (List Int)) : Option (Int × (Int × (List ValueV))) := (t f_0 f_1 b).run
def pA : Pt := (.cs (.agg (.cs (.int .i64) (.cs (.sl 23) .nl))) (.cs (.sl 2) .nl))
def pH : Pt := .nl
def v (l : TA) (y : (Int × (Int × (List ValueV)))) : AV U := .tup [.agg [.im (.int .i64 y.1), .own 0], .im (.int .i64 y.2.1)]
def hh (l : TA) (y : (Int × (Int × (List ValueV)))) : Hp U := [.row 24 y.2.2 true]
noncomputable def A : AFun U := mkA (U := U) pA pH (X := (Int × (Int × (List ValueV)))) (fun (l : TA) => c l.1.1.1 l.1.1.2.1 l.1.2.1) sp1 v hh
noncomputable def body : Code := (Go.Func.body Try.f77).getD .skip
noncomputable def Γ : List (FuncId × AFun U) := [(135, schema_Fine.A), (144, field_Take.A)]
noncomputable def Λ : List (Nat × LFun U) := [(5, Λ5)]
noncomputable def CT : List (Nat × LFun U) := []
def ro : List FuncId := []
def D : Nat → Lv × Lv := dtab [(5, ⟨[4, 22, 1, 6, 20, 21], [(6, [.to 1], .own 24)]⟩, ⟨[4, 5, 6, 1], []⟩)]
noncomputable def E : Env U := { E0 with Γ := Γ, Λ := Λ, C := CT, D := D, ro := ro }
theorem hf5 (R : Type) (l : T5) (s : ((List Int) × (Int × (List ValueV)))) (K : Ex → St U → Option R) : codeA E (pick (loopsOf body) 5) ⟨p5.mkL ((((), (s.1, ((), ((), ((), ((), ((), (l.1.2.2.2.2.2.2.2.1, (l.1.2.2.2.2.2.2.2.2.1, (s.2.1, ((), ()))))))))))), ((l.2.1.1, ((), ())), ((l.2.2.1.1, ((), ())), (s.2.2, ())))) : T5).1, q5.mkH ((((), (s.1, ((), ((), ((), ((), ((), (l.1.2.2.2.2.2.2.2.1, (l.1.2.2.2.2.2.2.2.2.1, (s.2.1, ((), ()))))))))))), ((l.2.1.1, ((), ())), ((l.2.2.1.1, ((), ())), (s.2.2, ())))) : T5).2, 0⟩ (roundK E (pick (loopsOf body) 5) K) =
  (l5 l.1.2.2.2.2.2.2.2.1 l.1.2.2.2.2.2.2.2.2.1 l.2.1.1 l.2.2.1.1 s.1 s.2.1 s.2.2).runK (lpK K (fun s => ⟨p5.mkL ((((), (s.1, ((), ((), ((), ((), ((), (l.1.2.2.2.2.2.2.2.1, (l.1.2.2.2.2.2.2.2.2.1, (s.2.1, ((), ()))))))))))), ((l.2.1.1, ((), ())), ((l.2.2.1.1, ((), ())), (s.2.2, ())))) : T5).1, q5.mkH ((((), (s.1, ((), ((), ((), ((), ((), (l.1.2.2.2.2.2.2.2.1, (l.1.2.2.2.2.2.2.2.2.1, (s.2.1, ((), ()))))))))))), ((l.2.1.1, ((), ())), ((l.2.2.1.1, ((), ())), (s.2.2, ())))) : T5).2, 0⟩) (spS sp1) (ou5 l)) := by kernel_rfl
theorem lk5 (R : Type) (st : St U) (K : Ex → St U → Option R) (r : R) (h : Λ5 R st K = some r) : ∃ n, loopA E (pick (loopsOf body) 5) n st K = some r :=
  lp_ok (U := U) (E := E) (b := pick (loopsOf body) 5) (m := 0) (sp := (spS sp1)) (p := p5) (q := q5) (X := (((List Int) × (List ValueV)) ⊕ ((List Int) × (Int × (Int × (List ValueV)))))) (S := ((List Int) × (Int × (List ValueV)))) (f := fun (l : T5) s => l5 l.1.2.2.2.2.2.2.2.1 l.1.2.2.2.2.2.2.2.2.1 l.2.1.1 l.2.2.1.1 s.1 s.2.1 s.2.2) (hd := fun (l : T5) s => (((), (s.1, ((), ((), ((), ((), ((), (l.1.2.2.2.2.2.2.2.1, (l.1.2.2.2.2.2.2.2.2.1, (s.2.1, ((), ()))))))))))), ((l.2.1.1, ((), ())), ((l.2.2.1.1, ((), ())), (s.2.2, ()))))) (s0 := fun (l : T5) => (l.1.2.1, (l.1.2.2.2.2.2.2.2.2.2.1, l.2.2.2.1))) (ou := ou5)
    (fun l => rfl) (fun l x => by repeat' (first | rfl | (cases x with | inl => rfl | inr x => ?_))) (spS_ok sp1_ok) hf5 h
theorem hk (R : Type) (l : TA) (K : AV U → Hp U → Option R) : funcA E Try.f77 [(0, [.cell 1], .own 24)] R (pA.mkL l.1) (pH.mkH l.2) K = (t l.1.1.1 l.1.1.2.1 l.1.2.1).runK fun y => K (v l y) (hh l y) := by kernel_rfl
theorem okF : SoundF Try.prog cc 77 (funcA E Try.f77 [(0, [.cell 1], .own 24)]) :=
  funcA_ok (E := E) P_mixed (E0_ok.with Γ Λ CT D ro) (gam_of (all_cons ⟨schema_Fine.ok, ⟨Try.f135, Try.func135, by kernel_rfl, by kernel_rfl⟩⟩ (all_cons ⟨field_Take.ok, ⟨Try.f144, Try.func144, by kernel_rfl, by kernel_rfl⟩⟩ all_nil)) (all_cons (no_keep (by kernel_rfl)) (all_cons (no_keep (by kernel_rfl)) all_nil))) Try.func77 (c := body) (by kernel_rfl)
    (just_by (by kernel_rfl) (by kernel_rfl) (all_cons lk5 all_nil) all_nil) [(0, [.cell 1], .own 24)]
theorem ok : SoundF Try.prog cc 77 A :=
  mkA_ok (E := E) (p := pA) (q := pH) (t := fun (l : TA) => t l.1.1.1 l.1.1.2.1 l.1.2.1) sp1_ok hk okF
theorem keep : KeepA A := mkA_keep (U := U) sp1_ok (fun (l : TA) y => ⟨(hh l y).drop 0, by kernel_rfl⟩)
end record_Take

end Go.Proofs.Ytpidbpmkogbdeaa.Va
