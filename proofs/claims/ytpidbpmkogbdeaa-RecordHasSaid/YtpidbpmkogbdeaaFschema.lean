/- The functions of package schema, as plain functions, and that the program computes them. Printed by a program of this work out of the evaluator. -/
import Derived.Test.YtpidbpmkogbdeaaEn
import Derived.Tactics
import Derived.Test.YtpidbpmkogbdeaaFfield
namespace Go.Proofs.Ytpidbpmkogbdeaa.Va
open Go
set_option linter.unusedVariables false
set_option maxRecDepth 100000

/-! instar/schema.Long -/
namespace schema_Long
abbrev TA : Type := (((Int × ((List FieldV) × Unit)) × Unit) × Unit)
abbrev T3 : Type := ((Unit × (Int × (Unit × ((List FieldV) × (Int × (Int × (Unit × Unit))))))) × Unit)
noncomputable def l3 (k7 : (List FieldV)) (k8 : Int) (n : Int) (k9 : Int) : Tw ((Int × Int) ⊕ Int) :=
 (.bb (decide (k9 < k8))
  (.dd (((0 : Int) ≤ k9)) inferInstance
   (.opt (k7)[(Int.toNat k9)]? fun z1 =>
    (.opt (field_Size.c z1.id z1.kind z1.lo z1.hi z1.most) fun z2 =>
     (.ret (.inl ((w64 (n + z2)), (w64 (k9 + (1 : Int))))))))
   .no)
  (.ret (.inr n)))
noncomputable def L3 (n : Int) (k7 : (List FieldV)) (k8 : Int) (k9 : Int) : Option Int := Lp (fun s => (l3 k7 k8 s.1 s.2).run) (n, k9)
def p3 : Pt := (.cs (.bots 3) (.cs (.int .i64) (.cs (.bots 3) (.cs (.sl 23) (.cs (.int .i64) (.cs (.int .i64) (.cs (.bots 9) .nl)))))))
def q3 : Pt := .nl
def ou3 (l : T3) (y : Int) : Ex × St U := (.exit 0, stOf 19 [(3, .im (.int .i64 y))] [] 0)
noncomputable def Λ3 : LFun U := mkLp (U := U) p3 q3 0 (X := Int) (fun (l : T3) => L3 l.1.2.1 l.1.2.2.2.1 l.1.2.2.2.2.1 l.1.2.2.2.2.2.1) sp1 ou3
noncomputable def t (f_0 : Int) (f_1 : (List FieldV)) : Tw Int :=
 (.opt (L3 (0 : Int) f_1 (((List.length f_1) : Nat) : Int) (0 : Int)) fun z3 =>
  (.ret z3))
noncomputable def c (f_0 : Int) (f_1 : (List FieldV)) : Option Int := (t f_0 f_1).run
def pA : Pt := (.cs (.agg (.cs (.int .i64) (.cs (.sl 23) .nl))) .nl)
def pH : Pt := .nl
def v (l : TA) (y : Int) : AV U := .im (.int .i64 y)
def hh (l : TA) (y : Int) : Hp U := []
noncomputable def A : AFun U := mkA (U := U) pA pH (X := Int) (fun (l : TA) => c l.1.1.1 l.1.1.2.1) sp1 v hh
noncomputable def body : Code := (Go.Func.body Try.f142).getD .skip
noncomputable def Γ : List (FuncId × AFun U) := [(176, field_Size.A)]
noncomputable def Λ : List (Nat × LFun U) := [(3, Λ3)]
noncomputable def CT : List (Nat × LFun U) := []
def ro : List FuncId := []
def D : Nat → Lv × Lv := dtab [(3, ⟨[9, 3, 7, 8], []⟩, ⟨[2, 3], []⟩)]
noncomputable def E : Env U := { E0 with Γ := Γ, Λ := Λ, C := CT, D := D, ro := ro }
theorem hf3 (R : Type) (l : T3) (s : (Int × Int)) (K : Ex → St U → Option R) : codeA E (pick (loopsOf body) 3) ⟨p3.mkL ((((), (s.1, ((), (l.1.2.2.2.1, (l.1.2.2.2.2.1, (s.2, ((), ()))))))), ()) : T3).1, q3.mkH ((((), (s.1, ((), (l.1.2.2.2.1, (l.1.2.2.2.2.1, (s.2, ((), ()))))))), ()) : T3).2, 0⟩ (roundK E (pick (loopsOf body) 3) K) =
  (l3 l.1.2.2.2.1 l.1.2.2.2.2.1 s.1 s.2).runK (lpK K (fun s => ⟨p3.mkL ((((), (s.1, ((), (l.1.2.2.2.1, (l.1.2.2.2.2.1, (s.2, ((), ()))))))), ()) : T3).1, q3.mkH ((((), (s.1, ((), (l.1.2.2.2.1, (l.1.2.2.2.2.1, (s.2, ((), ()))))))), ()) : T3).2, 0⟩) sp1 (ou3 l)) := by kernel_rfl
theorem lk3 (R : Type) (st : St U) (K : Ex → St U → Option R) (r : R) (h : Λ3 R st K = some r) : ∃ n, loopA E (pick (loopsOf body) 3) n st K = some r :=
  lp_ok (U := U) (E := E) (b := pick (loopsOf body) 3) (m := 0) (sp := sp1) (p := p3) (q := q3) (X := Int) (S := (Int × Int)) (f := fun (l : T3) s => l3 l.1.2.2.2.1 l.1.2.2.2.2.1 s.1 s.2) (hd := fun (l : T3) s => (((), (s.1, ((), (l.1.2.2.2.1, (l.1.2.2.2.2.1, (s.2, ((), ()))))))), ())) (s0 := fun (l : T3) => (l.1.2.1, l.1.2.2.2.2.2.1)) (ou := ou3)
    (fun l => rfl) (fun l x => by rfl) sp1_ok hf3 h
theorem hk (R : Type) (l : TA) (K : AV U → Hp U → Option R) : funcA E Try.f142 [] R (pA.mkL l.1) (pH.mkH l.2) K = (t l.1.1.1 l.1.1.2.1).runK fun y => K (v l y) (hh l y) := by kernel_rfl
theorem okF : SoundF Try.prog cc 142 (funcA E Try.f142 []) :=
  funcA_ok (E := E) P_mixed (E0_ok.with Γ Λ CT D ro) (gam_of (all_cons ⟨field_Size.ok, ⟨Try.f176, Try.func176, by kernel_rfl, by kernel_rfl⟩⟩ all_nil) (all_cons (no_keep (by kernel_rfl)) all_nil)) Try.func142 (c := body) (by kernel_rfl)
    (just_by (by kernel_rfl) (by kernel_rfl) (all_cons lk3 all_nil) all_nil) []
theorem ok : SoundF Try.prog cc 142 A :=
  mkA_ok (E := E) (p := pA) (q := pH) (t := fun (l : TA) => t l.1.1.1 l.1.1.2.1) sp1_ok hk okF
theorem keep : KeepA A := mkA_keep (U := U) sp1_ok (fun (l : TA) y => ⟨(hh l y).drop 0, by kernel_rfl⟩)
end schema_Long

/-! instar/schema.Fine -/
namespace schema_Fine
abbrev TA : Type := (((Int × ((List FieldV) × Unit)) × Unit) × Unit)
abbrev T5 : Type := ((Unit × (Nat × (Unit × ((List FieldV) × (Int × (Int × (Unit × Unit))))))) × ((List Bool) × Unit))
noncomputable def l5 (seen : Nat) (k32 : (List FieldV)) (k33 : Int) (k34 : Int) (h0 : (List Bool)) : Tw ((Int × (List Bool)) ⊕ (Unit ⊕ Bool)) :=
 (.bb (decide (k34 < k33))
  (.dd (((0 : Int) ≤ k34)) inferInstance
   (.opt (k32)[(Int.toNat k34)]? fun z2 =>
    (.opt (field_Right.c z2.id z2.kind z2.lo z2.hi z2.most) fun z3 =>
     (.bb (!z3)
      (.ret (.inr (.inr false)))
      (.dd ((((0 : Int) ≤ z2.id) ∧ (z2.id < (((256 : Nat) : Nat) : Int)))) inferInstance
       (.opt (h0)[(seen + (Int.toNat z2.id))]? fun z4 =>
        (.bb z4
         (.ret (.inr (.inr false)))
         (.dd ((((0 : Int) ≤ z2.id) ∧ (z2.id < (((256 : Nat) : Nat) : Int)))) inferInstance
          (.opt (h0)[(seen + (Int.toNat z2.id))]? fun z5 =>
           (.ret (.inl ((w64 (k34 + (1 : Int))), (List.set h0 (seen + (Int.toNat z2.id)) true)))))
          .no)))
       .no))))
   .no)
  (.ret (.inr (.inl ()))))
noncomputable def L5 (seen : Nat) (k32 : (List FieldV)) (k33 : Int) (k34 : Int) (h0 : (List Bool)) : Option (Unit ⊕ Bool) := Lp (fun s => (l5 seen k32 k33 s.1 s.2).run) (k34, h0)
def p5 : Pt := (.cs (.bots 3) (.cs (.rptr 0 0 1) (.cs (.bots 28) (.cs (.sl 23) (.cs (.int .i64) (.cs (.int .i64) (.cs (.bots 16) .nl)))))))
def q5 : Pt := (.cs (.row 4 true) .nl)
def ou5 (l : T5) (y : (Unit ⊕ Bool)) : Ex × St U := (Sum.elim (fun a0 => (.exit 0, stOf 51 [] [] 0)) (fun b0 => (.ret, stOf 51 [(2, .im (.bool b0))] [] 0)) y)
noncomputable def Λ5 : LFun U := mkLp (U := U) p5 q5 0 (X := (Unit ⊕ Bool)) (fun (l : T5) => L5 l.1.2.1 l.1.2.2.2.1 l.1.2.2.2.2.1 l.1.2.2.2.2.2.1 l.2.1) (spS sp1) ou5
noncomputable def t (f_0 : Int) (f_1 : (List FieldV)) : Tw Bool :=
 (.bb (decide (f_0 < (0 : Int)))
  (.ret false)
  (.bb (decide (f_0 > (200 : Int)))
   (.ret false)
   (.bb (decide ((((List.length f_1) : Nat) : Int) < (1 : Int)))
    (.ret false)
    (.bb (decide ((((List.length f_1) : Nat) : Int) > (8 : Int)))
     (.ret false)
     (.opt (schema_Long.c f_0 f_1) fun z1 =>
      (.bb (decide (z1 > (64 : Int)))
       (.ret false)
       (.opt (L5 (0 : Nat) f_1 (((List.length f_1) : Nat) : Int) (0 : Int) (List.replicate (256 : Nat) false)) fun z6 =>
        (.sm z6
         (fun z7 => (.ret true))
         (fun z8 => (.ret z8))))))))))
noncomputable def c (f_0 : Int) (f_1 : (List FieldV)) : Option Bool := (t f_0 f_1).run
def pA : Pt := (.cs (.agg (.cs (.int .i64) (.cs (.sl 23) .nl))) .nl)
def pH : Pt := .nl
def v (l : TA) (y : Bool) : AV U := .im (.bool y)
def hh (l : TA) (y : Bool) : Hp U := []
noncomputable def A : AFun U := mkA (U := U) pA pH (X := Bool) (fun (l : TA) => c l.1.1.1 l.1.1.2.1) sp1 v hh
noncomputable def body : Code := (Go.Func.body Try.f135).getD .skip
noncomputable def Γ : List (FuncId × AFun U) := [(142, schema_Long.A), (174, field_Right.A)]
noncomputable def Λ : List (Nat × LFun U) := [(5, Λ5)]
noncomputable def CT : List (Nat × LFun U) := []
def ro : List FuncId := []
def D : Nat → Lv × Lv := dtab [(5, ⟨[34, 3, 32, 33], []⟩, ⟨[2], []⟩)]
noncomputable def E : Env U := { E0 with Γ := Γ, Λ := Λ, C := CT, D := D, ro := ro }
theorem hf5 (R : Type) (l : T5) (s : (Int × (List Bool))) (K : Ex → St U → Option R) : codeA E (pick (loopsOf body) 5) ⟨p5.mkL ((((), (l.1.2.1, ((), (l.1.2.2.2.1, (l.1.2.2.2.2.1, (s.1, ((), ()))))))), (s.2, ())) : T5).1, q5.mkH ((((), (l.1.2.1, ((), (l.1.2.2.2.1, (l.1.2.2.2.2.1, (s.1, ((), ()))))))), (s.2, ())) : T5).2, 0⟩ (roundK E (pick (loopsOf body) 5) K) =
  (l5 l.1.2.1 l.1.2.2.2.1 l.1.2.2.2.2.1 s.1 s.2).runK (lpK K (fun s => ⟨p5.mkL ((((), (l.1.2.1, ((), (l.1.2.2.2.1, (l.1.2.2.2.2.1, (s.1, ((), ()))))))), (s.2, ())) : T5).1, q5.mkH ((((), (l.1.2.1, ((), (l.1.2.2.2.1, (l.1.2.2.2.2.1, (s.1, ((), ()))))))), (s.2, ())) : T5).2, 0⟩) (spS sp1) (ou5 l)) := by kernel_rfl
theorem lk5 (R : Type) (st : St U) (K : Ex → St U → Option R) (r : R) (h : Λ5 R st K = some r) : ∃ n, loopA E (pick (loopsOf body) 5) n st K = some r :=
  lp_ok (U := U) (E := E) (b := pick (loopsOf body) 5) (m := 0) (sp := (spS sp1)) (p := p5) (q := q5) (X := (Unit ⊕ Bool)) (S := (Int × (List Bool))) (f := fun (l : T5) s => l5 l.1.2.1 l.1.2.2.2.1 l.1.2.2.2.2.1 s.1 s.2) (hd := fun (l : T5) s => (((), (l.1.2.1, ((), (l.1.2.2.2.1, (l.1.2.2.2.2.1, (s.1, ((), ()))))))), (s.2, ()))) (s0 := fun (l : T5) => (l.1.2.2.2.2.2.1, l.2.1)) (ou := ou5)
    (fun l => rfl) (fun l x => by repeat' (first | rfl | (cases x with | inl => rfl | inr x => ?_))) (spS_ok sp1_ok) hf5 h
theorem hk (R : Type) (l : TA) (K : AV U → Hp U → Option R) : funcA E Try.f135 [] R (pA.mkL l.1) (pH.mkH l.2) K = (t l.1.1.1 l.1.1.2.1).runK fun y => K (v l y) (hh l y) := by kernel_rfl
theorem okF : SoundF Try.prog cc 135 (funcA E Try.f135 []) :=
  funcA_ok (E := E) P_mixed (E0_ok.with Γ Λ CT D ro) (gam_of (all_cons ⟨schema_Long.ok, ⟨Try.f142, Try.func142, by kernel_rfl, by kernel_rfl⟩⟩ (all_cons ⟨field_Right.ok, ⟨Try.f174, Try.func174, by kernel_rfl, by kernel_rfl⟩⟩ all_nil)) (all_cons (no_keep (by kernel_rfl)) (all_cons (no_keep (by kernel_rfl)) all_nil))) Try.func135 (c := body) (by kernel_rfl)
    (just_by (by kernel_rfl) (by kernel_rfl) (all_cons lk5 all_nil) all_nil) []
theorem ok : SoundF Try.prog cc 135 A :=
  mkA_ok (E := E) (p := pA) (q := pH) (t := fun (l : TA) => t l.1.1.1 l.1.1.2.1) sp1_ok hk okF
theorem keep : KeepA A := mkA_keep (U := U) sp1_ok (fun (l : TA) y => ⟨(hh l y).drop 0, by kernel_rfl⟩)
end schema_Fine

end Go.Proofs.Ytpidbpmkogbdeaa.Va
