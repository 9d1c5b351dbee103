/- The functions of package ref14, as plain functions, and that the program computes them. Printed by a program of this work out of the evaluator. -/
import Derived.Test.YtpidbpmkogbdeaaEn
import Derived.Tactics
import Derived.Test.YtpidbpmkogbdeaaFref12
import Derived.Test.YtpidbpmkogbdeaaFref13
namespace Go.Proofs.Ytpidbpmkogbdeaa.Va
open Go
set_option linter.unusedVariables false
set_option maxRecDepth 100000

/-! instar/instarref14.Has -/
namespace ref14_Has
abbrev TA : Type := (((Int × ((List FieldV) × Unit)) × ((Int × ((List ValueV) × Unit)) × Unit)) × Unit)
abbrev T4 : Type := ((Unit × (Unit × (Unit × (Unit × (Int × (Unit × Unit)))))) × ((Int × ((List FieldV) × Unit)) × ((Int × ((List ValueV) × Unit)) × Unit)))
noncomputable def l4 (h0_0 : Int) (h0_1 : (List FieldV)) (h1_0 : Int) (h1_1 : (List ValueV)) (i : Int) : Tw (Int ⊕ (Unit ⊕ Bool)) :=
 (.bb (decide (i < (((List.length h1_1) : Nat) : Int)))
  (.dd (((0 : Int) ≤ i)) inferInstance
   (.opt (h0_1)[(Int.toNat i)]? fun z2 =>
    (.dd (((0 : Int) ≤ i)) inferInstance
     (.opt (h1_1)[(Int.toNat i)]? fun z3 =>
      (.opt (ref12_Has.c z2.id z2.kind z2.lo z2.hi z2.most z3.n z3.s) fun z4 =>
       (.bb (!z4)
        (.ret (.inr (.inr false)))
        (.ret (.inl (w64 (i + (1 : Int))))))))
     .no))
   .no)
  (.ret (.inr (.inl ()))))
noncomputable def L4 (i : Int) (h0_0 : Int) (h0_1 : (List FieldV)) (h1_0 : Int) (h1_1 : (List ValueV)) : Option (Unit ⊕ Bool) := Lp (fun s => (l4 h0_0 h0_1 h1_0 h1_1 s).run) i
def p4 : Pt := (.cs (.bots 2) (.cs (.ptr 0 0) (.cs (.ptr 1 0) (.cs (.bots 1) (.cs (.int .i64) (.cs (.bots 38) .nl))))))
def q4 : Pt := (.cs (.var (.cs (.int .i64) (.cs (.sl 23) .nl))) (.cs (.var (.cs (.int .i64) (.cs (.sl 24) .nl))) .nl))
def ou4 (l : T4) (y : (Unit ⊕ Bool)) : Ex × St U := (Sum.elim (fun a0 => (.exit 0, stOf 44 [] [] 0)) (fun b0 => (.ret, stOf 44 [(4, .im (.bool b0))] [] 0)) y)
noncomputable def Λ4 : LFun U := mkLp (U := U) p4 q4 0 (X := (Unit ⊕ Bool)) (fun (l : T4) => L4 l.1.2.2.2.2.1 l.2.1.1 l.2.1.2.1 l.2.2.1.1 l.2.2.1.2.1) (spS sp1) ou4
noncomputable def t (f_0 : Int) (f_1 : (List FieldV)) (r_0 : Int) (r_1 : (List ValueV)) : Tw Bool :=
 (.opt (ref13_Fine.c f_0 f_1) fun z1 =>
  (.bb (!z1)
   (.ret false)
   (.bb (r_0 != f_0)
    (.ret false)
    (.bb ((((List.length r_1) : Nat) : Int) != (((List.length f_1) : Nat) : Int))
     (.ret false)
     (.opt (L4 (0 : Int) f_0 f_1 r_0 r_1) fun z5 =>
      (.sm z5
       (fun z6 => (.ret true))
       (fun z7 => (.ret z7))))))))
noncomputable def c (f_0 : Int) (f_1 : (List FieldV)) (r_0 : Int) (r_1 : (List ValueV)) : Option Bool := (t f_0 f_1 r_0 r_1).run
def pA : Pt := (.cs (.agg (.cs (.int .i64) (.cs (.sl 23) .nl))) (.cs (.agg (.cs (.int .i64) (.cs (.sl 24) .nl))) .nl))
def pH : Pt := .nl
def v (l : TA) (y : Bool) : AV U := .im (.bool y)
def hh (l : TA) (y : Bool) : Hp U := []
noncomputable def A : AFun U := mkA (U := U) pA pH (X := Bool) (fun (l : TA) => c l.1.1.1 l.1.1.2.1 l.1.2.1.1 l.1.2.1.2.1) sp1 v hh
noncomputable def body : Code := (Go.Func.body Try.f72).getD .skip
noncomputable def Γ : List (FuncId × AFun U) := [(69, ref13_Fine.A), (139, ref12_Has.A)]
noncomputable def Λ : List (Nat × LFun U) := [(4, Λ4)]
noncomputable def CT : List (Nat × LFun U) := []
def ro : List FuncId := []
def D : Nat → Lv × Lv := dtab [(4, ⟨[5, 3, 2], []⟩, ⟨[4], []⟩)]
noncomputable def E : Env U := { E0 with Γ := Γ, Λ := Λ, C := CT, D := D, ro := ro }
theorem hf4 (R : Type) (l : T4) (s : Int) (K : Ex → St U → Option R) : codeA E (pick (loopsOf body) 4) ⟨p4.mkL ((((), ((), ((), ((), (s, ((), ())))))), ((l.2.1.1, (l.2.1.2.1, ())), ((l.2.2.1.1, (l.2.2.1.2.1, ())), ()))) : T4).1, q4.mkH ((((), ((), ((), ((), (s, ((), ())))))), ((l.2.1.1, (l.2.1.2.1, ())), ((l.2.2.1.1, (l.2.2.1.2.1, ())), ()))) : T4).2, 0⟩ (roundK E (pick (loopsOf body) 4) K) =
  (l4 l.2.1.1 l.2.1.2.1 l.2.2.1.1 l.2.2.1.2.1 s).runK (lpK K (fun s => ⟨p4.mkL ((((), ((), ((), ((), (s, ((), ())))))), ((l.2.1.1, (l.2.1.2.1, ())), ((l.2.2.1.1, (l.2.2.1.2.1, ())), ()))) : T4).1, q4.mkH ((((), ((), ((), ((), (s, ((), ())))))), ((l.2.1.1, (l.2.1.2.1, ())), ((l.2.2.1.1, (l.2.2.1.2.1, ())), ()))) : T4).2, 0⟩) (spS sp1) (ou4 l)) := by kernel_rfl
theorem lk4 (R : Type) (st : St U) (K : Ex → St U → Option R) (r : R) (h : Λ4 R st K = some r) : ∃ n, loopA E (pick (loopsOf body) 4) n st K = some r :=
  lp_ok (U := U) (E := E) (b := pick (loopsOf body) 4) (m := 0) (sp := (spS sp1)) (p := p4) (q := q4) (X := (Unit ⊕ Bool)) (S := Int) (f := fun (l : T4) s => l4 l.2.1.1 l.2.1.2.1 l.2.2.1.1 l.2.2.1.2.1 s) (hd := fun (l : T4) s => (((), ((), ((), ((), (s, ((), ())))))), ((l.2.1.1, (l.2.1.2.1, ())), ((l.2.2.1.1, (l.2.2.1.2.1, ())), ())))) (s0 := fun (l : T4) => l.1.2.2.2.2.1) (ou := ou4)
    (fun l => rfl) (fun l x => by repeat' (first | rfl | (cases x with | inl => rfl | inr x => ?_))) (spS_ok sp1_ok) hf4 h
theorem hk (R : Type) (l : TA) (K : AV U → Hp U → Option R) : funcA E Try.f72 [] R (pA.mkL l.1) (pH.mkH l.2) K = (t l.1.1.1 l.1.1.2.1 l.1.2.1.1 l.1.2.1.2.1).runK fun y => K (v l y) (hh l y) := by kernel_rfl
theorem okF : SoundF Try.prog cc 72 (funcA E Try.f72 []) :=
  funcA_ok (E := E) P_mixed (E0_ok.with Γ Λ CT D ro) (gam_of (all_cons ⟨ref13_Fine.ok, ⟨Try.f69, Try.func69, by kernel_rfl, by kernel_rfl⟩⟩ (all_cons ⟨ref12_Has.ok, ⟨Try.f139, Try.func139, by kernel_rfl, by kernel_rfl⟩⟩ all_nil)) (all_cons (no_keep (by kernel_rfl)) (all_cons (no_keep (by kernel_rfl)) all_nil))) Try.func72 (c := body) (by kernel_rfl)
    (just_by (by kernel_rfl) (by kernel_rfl) (all_cons lk4 all_nil) all_nil) []
theorem ok : SoundF Try.prog cc 72 A :=
  mkA_ok (E := E) (p := pA) (q := pH) (t := fun (l : TA) => t l.1.1.1 l.1.1.2.1 l.1.2.1.1 l.1.2.1.2.1) sp1_ok hk okF
theorem keep : KeepA A := mkA_keep (U := U) sp1_ok (fun (l : TA) y => ⟨(hh l y).drop 0, by kernel_rfl⟩)
end ref14_Has

/-! instar/instarref14.Same -/
namespace ref14_Same
abbrev TA : Type := (((Int × ((List ValueV) × Unit)) × ((Int × (Unit × Unit)) × Unit)) × Unit)
abbrev T4 : Type := ((Unit × (Unit × (Unit × (Unit × (Int × (Unit × Unit)))))) × ((Int × ((List ValueV) × Unit)) × ((Int × (Unit × Unit)) × Unit)))
noncomputable def l4 (i : Int) (h0_0 : Int) (h0_1 : (List ValueV)) (h1_0 : Int) : Tw (Unit ⊕ Unit) :=
 (.bb (decide (i < (((List.length h0_1) : Nat) : Int)))
  (.dd (((0 : Int) ≤ i)) inferInstance
   (.opt (h0_1)[(Int.toNat i)]? fun z1 =>
    .no)
   .no)
  (.ret (.inr ())))
noncomputable def L4 (i : Int) (h0_0 : Int) (h0_1 : (List ValueV)) (h1_0 : Int) : Option Unit := Lp (fun s => (l4 i h0_0 h0_1 h1_0).run) ()
def p4 : Pt := (.cs (.bots 2) (.cs (.ptr 0 0) (.cs (.ptr 1 0) (.cs (.bots 1) (.cs (.int .i64) (.cs (.bots 32) .nl))))))
def q4 : Pt := (.cs (.var (.cs (.int .i64) (.cs (.sl 24) .nl))) (.cs (.var (.cs (.int .i64) (.cs .nils .nl))) .nl))
def ou4 (l : T4) (y : Unit) : Ex × St U := (.exit 0, stOf 38 [] [] 0)
noncomputable def Λ4 : LFun U := mkLp (U := U) p4 q4 0 (X := Unit) (fun (l : T4) => L4 l.1.2.2.2.2.1 l.2.1.1 l.2.1.2.1 l.2.2.1.1) sp1 ou4
noncomputable def t (a_0 : Int) (a_1 : (List ValueV)) (b_0 : Int) : Tw Bool :=
 (.bb (a_0 != b_0)
  (.ret false)
  (.bb ((((List.length a_1) : Nat) : Int) != (0 : Int))
   (.ret false)
   (.opt (L4 (0 : Int) a_0 a_1 b_0) fun z2 =>
    (.ret true))))
noncomputable def c (a_0 : Int) (a_1 : (List ValueV)) (b_0 : Int) : Option Bool := (t a_0 a_1 b_0).run
def pA : Pt := (.cs (.agg (.cs (.int .i64) (.cs (.sl 24) .nl))) (.cs (.agg (.cs (.int .i64) (.cs .nils .nl))) .nl))
def pH : Pt := .nl
def v (l : TA) (y : Bool) : AV U := .im (.bool y)
def hh (l : TA) (y : Bool) : Hp U := []
noncomputable def A : AFun U := mkA (U := U) pA pH (X := Bool) (fun (l : TA) => c l.1.1.1 l.1.1.2.1 l.1.2.1.1) sp1 v hh
noncomputable def body : Code := (Go.Func.body Try.f73).getD .skip
noncomputable def Γ : List (FuncId × AFun U) := []
noncomputable def Λ : List (Nat × LFun U) := [(4, Λ4)]
noncomputable def CT : List (Nat × LFun U) := []
def ro : List FuncId := []
def D : Nat → Lv × Lv := dtab [(4, ⟨[5, 3, 2], []⟩, ⟨[4], []⟩)]
noncomputable def E : Env U := { E0 with Γ := Γ, Λ := Λ, C := CT, D := D, ro := ro }
theorem hf4 (R : Type) (l : T4) (s : Unit) (K : Ex → St U → Option R) : codeA E (pick (loopsOf body) 4) ⟨p4.mkL ((((), ((), ((), ((), (l.1.2.2.2.2.1, ((), ())))))), ((l.2.1.1, (l.2.1.2.1, ())), ((l.2.2.1.1, ((), ())), ()))) : T4).1, q4.mkH ((((), ((), ((), ((), (l.1.2.2.2.2.1, ((), ())))))), ((l.2.1.1, (l.2.1.2.1, ())), ((l.2.2.1.1, ((), ())), ()))) : T4).2, 0⟩ (roundK E (pick (loopsOf body) 4) K) =
  (l4 l.1.2.2.2.2.1 l.2.1.1 l.2.1.2.1 l.2.2.1.1).runK (lpK K (fun s => ⟨p4.mkL ((((), ((), ((), ((), (l.1.2.2.2.2.1, ((), ())))))), ((l.2.1.1, (l.2.1.2.1, ())), ((l.2.2.1.1, ((), ())), ()))) : T4).1, q4.mkH ((((), ((), ((), ((), (l.1.2.2.2.2.1, ((), ())))))), ((l.2.1.1, (l.2.1.2.1, ())), ((l.2.2.1.1, ((), ())), ()))) : T4).2, 0⟩) sp1 (ou4 l)) := by kernel_rfl
theorem lk4 (R : Type) (st : St U) (K : Ex → St U → Option R) (r : R) (h : Λ4 R st K = some r) : ∃ n, loopA E (pick (loopsOf body) 4) n st K = some r :=
  lp_ok (U := U) (E := E) (b := pick (loopsOf body) 4) (m := 0) (sp := sp1) (p := p4) (q := q4) (X := Unit) (S := Unit) (f := fun (l : T4) s => l4 l.1.2.2.2.2.1 l.2.1.1 l.2.1.2.1 l.2.2.1.1) (hd := fun (l : T4) s => (((), ((), ((), ((), (l.1.2.2.2.2.1, ((), ())))))), ((l.2.1.1, (l.2.1.2.1, ())), ((l.2.2.1.1, ((), ())), ())))) (s0 := fun (l : T4) => ()) (ou := ou4)
    (fun l => rfl) (fun l x => by rfl) sp1_ok hf4 h
theorem hk (R : Type) (l : TA) (K : AV U → Hp U → Option R) : funcA E Try.f73 [] R (pA.mkL l.1) (pH.mkH l.2) K = (t l.1.1.1 l.1.1.2.1 l.1.2.1.1).runK fun y => K (v l y) (hh l y) := by kernel_rfl
theorem okF : SoundF Try.prog cc 73 (funcA E Try.f73 []) :=
  funcA_ok (E := E) P_mixed (E0_ok.with Γ Λ CT D ro) (gam_of all_nil all_nil) Try.func73 (c := body) (by kernel_rfl)
    (just_by (by kernel_rfl) (by kernel_rfl) (all_cons lk4 all_nil) all_nil) []
theorem ok : SoundF Try.prog cc 73 A :=
  mkA_ok (E := E) (p := pA) (q := pH) (t := fun (l : TA) => t l.1.1.1 l.1.1.2.1 l.1.2.1.1) sp1_ok hk okF
theorem keep : KeepA A := mkA_keep (U := U) sp1_ok (fun (l : TA) y => ⟨(hh l y).drop 0, by kernel_rfl⟩)
end ref14_Same

/-! instar/instarref14.Same -/
namespace ref14_Same_v2
abbrev TA : Type := (((Int × ((List ValueV) × Unit)) × ((Int × ((List ValueV) × Unit)) × Unit)) × Unit)
abbrev T4 : Type := ((Unit × (Unit × (Unit × (Unit × (Int × (Unit × Unit)))))) × ((Int × ((List ValueV) × Unit)) × ((Int × ((List ValueV) × Unit)) × Unit)))
noncomputable def l4 (h0_0 : Int) (h0_1 : (List ValueV)) (h1_0 : Int) (h1_1 : (List ValueV)) (i : Int) : Tw (Int ⊕ (Unit ⊕ Bool)) :=
 (.bb (decide (i < (((List.length h0_1) : Nat) : Int)))
  (.dd (((0 : Int) ≤ i)) inferInstance
   (.opt (h0_1)[(Int.toNat i)]? fun z1 =>
    (.dd (((0 : Int) ≤ i)) inferInstance
     (.opt (h1_1)[(Int.toNat i)]? fun z2 =>
      (.bb (!((z1.n == z2.n) && (((ByteArray.toList z1.s) == (ByteArray.toList z2.s)) && true)))
       (.ret (.inr (.inr false)))
       (.ret (.inl (w64 (i + (1 : Int)))))))
     .no))
   .no)
  (.ret (.inr (.inl ()))))
noncomputable def L4 (i : Int) (h0_0 : Int) (h0_1 : (List ValueV)) (h1_0 : Int) (h1_1 : (List ValueV)) : Option (Unit ⊕ Bool) := Lp (fun s => (l4 h0_0 h0_1 h1_0 h1_1 s).run) i
def p4 : Pt := (.cs (.bots 2) (.cs (.ptr 0 0) (.cs (.ptr 1 0) (.cs (.bots 1) (.cs (.int .i64) (.cs (.bots 32) .nl))))))
def q4 : Pt := (.cs (.var (.cs (.int .i64) (.cs (.sl 24) .nl))) (.cs (.var (.cs (.int .i64) (.cs (.sl 24) .nl))) .nl))
def ou4 (l : T4) (y : (Unit ⊕ Bool)) : Ex × St U := (Sum.elim (fun a0 => (.exit 0, stOf 38 [] [] 0)) (fun b0 => (.ret, stOf 38 [(4, .im (.bool b0))] [] 0)) y)
noncomputable def Λ4 : LFun U := mkLp (U := U) p4 q4 0 (X := (Unit ⊕ Bool)) (fun (l : T4) => L4 l.1.2.2.2.2.1 l.2.1.1 l.2.1.2.1 l.2.2.1.1 l.2.2.1.2.1) (spS sp1) ou4
noncomputable def t (a_0 : Int) (a_1 : (List ValueV)) (b_0 : Int) (b_1 : (List ValueV)) : Tw Bool :=
 (.bb (a_0 != b_0)
  (.ret false)
  (.bb ((((List.length a_1) : Nat) : Int) != (((List.length b_1) : Nat) : Int))
   (.ret false)
   (.opt (L4 (0 : Int) a_0 a_1 b_0 b_1) fun z3 =>
    (.sm z3
     (fun z4 => (.ret true))
     (fun z5 => (.ret z5))))))
noncomputable def c (a_0 : Int) (a_1 : (List ValueV)) (b_0 : Int) (b_1 : (List ValueV)) : Option Bool := (t a_0 a_1 b_0 b_1).run
def pA : Pt := (.cs (.agg (.cs (.int .i64) (.cs (.sl 24) .nl))) (.cs (.agg (.cs (.int .i64) (.cs (.sl 24) .nl))) .nl))
def pH : Pt := .nl
def v (l : TA) (y : Bool) : AV U := .im (.bool y)
def hh (l : TA) (y : Bool) : Hp U := []
noncomputable def A : AFun U := mkA (U := U) pA pH (X := Bool) (fun (l : TA) => c l.1.1.1 l.1.1.2.1 l.1.2.1.1 l.1.2.1.2.1) sp1 v hh
noncomputable def body : Code := (Go.Func.body Try.f73).getD .skip
noncomputable def Γ : List (FuncId × AFun U) := []
noncomputable def Λ : List (Nat × LFun U) := [(4, Λ4)]
noncomputable def CT : List (Nat × LFun U) := []
def ro : List FuncId := []
def D : Nat → Lv × Lv := dtab [(4, ⟨[5, 3, 2], []⟩, ⟨[4], []⟩)]
noncomputable def E : Env U := { E0 with Γ := Γ, Λ := Λ, C := CT, D := D, ro := ro }
theorem hf4 (R : Type) (l : T4) (s : Int) (K : Ex → St U → Option R) : codeA E (pick (loopsOf body) 4) ⟨p4.mkL ((((), ((), ((), ((), (s, ((), ())))))), ((l.2.1.1, (l.2.1.2.1, ())), ((l.2.2.1.1, (l.2.2.1.2.1, ())), ()))) : T4).1, q4.mkH ((((), ((), ((), ((), (s, ((), ())))))), ((l.2.1.1, (l.2.1.2.1, ())), ((l.2.2.1.1, (l.2.2.1.2.1, ())), ()))) : T4).2, 0⟩ (roundK E (pick (loopsOf body) 4) K) =
  (l4 l.2.1.1 l.2.1.2.1 l.2.2.1.1 l.2.2.1.2.1 s).runK (lpK K (fun s => ⟨p4.mkL ((((), ((), ((), ((), (s, ((), ())))))), ((l.2.1.1, (l.2.1.2.1, ())), ((l.2.2.1.1, (l.2.2.1.2.1, ())), ()))) : T4).1, q4.mkH ((((), ((), ((), ((), (s, ((), ())))))), ((l.2.1.1, (l.2.1.2.1, ())), ((l.2.2.1.1, (l.2.2.1.2.1, ())), ()))) : T4).2, 0⟩) (spS sp1) (ou4 l)) := by kernel_rfl
theorem lk4 (R : Type) (st : St U) (K : Ex → St U → Option R) (r : R) (h : Λ4 R st K = some r) : ∃ n, loopA E (pick (loopsOf body) 4) n st K = some r :=
  lp_ok (U := U) (E := E) (b := pick (loopsOf body) 4) (m := 0) (sp := (spS sp1)) (p := p4) (q := q4) (X := (Unit ⊕ Bool)) (S := Int) (f := fun (l : T4) s => l4 l.2.1.1 l.2.1.2.1 l.2.2.1.1 l.2.2.1.2.1 s) (hd := fun (l : T4) s => (((), ((), ((), ((), (s, ((), ())))))), ((l.2.1.1, (l.2.1.2.1, ())), ((l.2.2.1.1, (l.2.2.1.2.1, ())), ())))) (s0 := fun (l : T4) => l.1.2.2.2.2.1) (ou := ou4)
    (fun l => rfl) (fun l x => by repeat' (first | rfl | (cases x with | inl => rfl | inr x => ?_))) (spS_ok sp1_ok) hf4 h
theorem hk (R : Type) (l : TA) (K : AV U → Hp U → Option R) : funcA E Try.f73 [] R (pA.mkL l.1) (pH.mkH l.2) K = (t l.1.1.1 l.1.1.2.1 l.1.2.1.1 l.1.2.1.2.1).runK fun y => K (v l y) (hh l y) := by kernel_rfl
theorem okF : SoundF Try.prog cc 73 (funcA E Try.f73 []) :=
  funcA_ok (E := E) P_mixed (E0_ok.with Γ Λ CT D ro) (gam_of all_nil all_nil) Try.func73 (c := body) (by kernel_rfl)
    (just_by (by kernel_rfl) (by kernel_rfl) (all_cons lk4 all_nil) all_nil) []
theorem ok : SoundF Try.prog cc 73 A :=
  mkA_ok (E := E) (p := pA) (q := pH) (t := fun (l : TA) => t l.1.1.1 l.1.1.2.1 l.1.2.1.1 l.1.2.1.2.1) sp1_ok hk okF
theorem keep : KeepA A := mkA_keep (U := U) sp1_ok (fun (l : TA) y => ⟨(hh l y).drop 0, by kernel_rfl⟩)
end ref14_Same_v2

/-! instar/instarref14.First -/
namespace ref14_First
abbrev TA : Type := (((Int × ((List FieldV) × Unit)) × Unit) × Unit)
abbrev T3 : Type := ((Unit × (Unit × (Unit × (Unit × (Int × (Unit × Unit)))))) × ((Int × ((List FieldV) × Unit)) × ((Int × (Unit × Unit)) × ((Int × (Unit × Unit)) × ((List ValueV) × Unit)))))
noncomputable def l3 (h0_0 : Int) (h0_1 : (List FieldV)) (h1_0 : Int) (h2_0 : Int) (i : Int) (h3 : (List ValueV)) : Tw ((Int × (List ValueV)) ⊕ (List ValueV)) :=
 (.bb (decide (i < (((List.length h0_1) : Nat) : Int)))
  (.dd (((0 : Int) ≤ i)) inferInstance
   (.opt (h0_1)[(Int.toNat i)]? fun z1 =>
    (.opt (ref12_Least.c z1.id z1.kind z1.lo z1.hi z1.most) fun z2 =>
     (.dd ((((((List.length h3) + (List.length ((Go.Proofs.Ytpidbpmkogbdeaa.Va.ValueV.mk z2.1 z2.2) :: ([] : List ValueV)))) * (24 : Nat)) ≤ (140737488355328 : Nat)) ∧ (((List.length h3) + (List.length ((Go.Proofs.Ytpidbpmkogbdeaa.Va.ValueV.mk z2.1 z2.2) :: ([] : List ValueV)))) ≤ (140737488355328 : Nat)))) inferInstance
      (.ret (.inl ((w64 (i + (1 : Int))), (h3 ++ ((Go.Proofs.Ytpidbpmkogbdeaa.Va.ValueV.mk z2.1 z2.2) :: ([] : List ValueV))))))
      .no)))
   .no)
  (.ret (.inr h3)))
noncomputable def L3 (i : Int) (h0_0 : Int) (h0_1 : (List FieldV)) (h1_0 : Int) (h2_0 : Int) (h3 : (List ValueV)) : Option (List ValueV) := Lp (fun s => (l3 h0_0 h0_1 h1_0 h2_0 s.1 s.2).run) (i, h3)
def p3 : Pt := (.cs (.bots 1) (.cs (.ptr 0 0) (.cs (.ptr 1 0) (.cs (.ptr 2 0) (.cs (.int .i64) (.cs (.bots 22) .nl))))))
def q3 : Pt := (.cs (.var (.cs (.int .i64) (.cs (.sl 23) .nl))) (.cs (.var (.cs (.int .i64) (.cs .nils .nl))) (.cs (.var (.cs (.int .i64) (.cs (.own 3) .nl))) (.cs (.row 24 true) .nl))))
def ou3 (l : T3) (y : (List ValueV)) : Ex × St U := (.exit 0, stOf 27 [(2, .ptr 0 0), (3, .ptr 1 0)] [.var [.im (.int .i64 l.2.2.1.1), .im .nils], .var [.im (.int .i64 l.2.2.2.1.1), .own 2], .row 24 y true] 0)
noncomputable def Λ3 : LFun U := mkLp (U := U) p3 q3 0 (X := (List ValueV)) (fun (l : T3) => L3 l.1.2.2.2.2.1 l.2.1.1 l.2.1.2.1 l.2.2.1.1 l.2.2.2.1.1 l.2.2.2.2.1) sp1 ou3
noncomputable def t (f_0 : Int) (f_1 : (List FieldV)) : Tw (List ValueV) :=
 (.opt (L3 (0 : Int) f_0 f_1 (0 : Int) f_0 ([] : List ValueV)) fun z3 =>
  (.ret z3))
noncomputable def c (f_0 : Int) (f_1 : (List FieldV)) : Option (List ValueV) := (t f_0 f_1).run
def pA : Pt := (.cs (.agg (.cs (.int .i64) (.cs (.sl 23) .nl))) .nl)
def pH : Pt := .nl
def v (l : TA) (y : (List ValueV)) : AV U := .agg [.im (.int .i64 l.1.1.1), .own 0]
def hh (l : TA) (y : (List ValueV)) : Hp U := [.row 24 y true]
noncomputable def A : AFun U := mkA (U := U) pA pH (X := (List ValueV)) (fun (l : TA) => c l.1.1.1 l.1.1.2.1) sp1 v hh
noncomputable def body : Code := (Go.Func.body Try.f70).getD .skip
noncomputable def Γ : List (FuncId × AFun U) := [(134, ref12_Least.A)]
noncomputable def Λ : List (Nat × LFun U) := [(3, Λ3)]
noncomputable def CT : List (Nat × LFun U) := []
def ro : List FuncId := []
def D : Nat → Lv × Lv := dtab [(3, ⟨[4, 3, 1, 2], [(3, [.to 1], .own 24)]⟩, ⟨[2, 3], []⟩)]
noncomputable def E : Env U := { E0 with Γ := Γ, Λ := Λ, C := CT, D := D, ro := ro }
theorem hf3 (R : Type) (l : T3) (s : (Int × (List ValueV))) (K : Ex → St U → Option R) : codeA E (pick (loopsOf body) 3) ⟨p3.mkL ((((), ((), ((), ((), (s.1, ((), ())))))), ((l.2.1.1, (l.2.1.2.1, ())), ((l.2.2.1.1, ((), ())), ((l.2.2.2.1.1, ((), ())), (s.2, ()))))) : T3).1, q3.mkH ((((), ((), ((), ((), (s.1, ((), ())))))), ((l.2.1.1, (l.2.1.2.1, ())), ((l.2.2.1.1, ((), ())), ((l.2.2.2.1.1, ((), ())), (s.2, ()))))) : T3).2, 0⟩ (roundK E (pick (loopsOf body) 3) K) =
  (l3 l.2.1.1 l.2.1.2.1 l.2.2.1.1 l.2.2.2.1.1 s.1 s.2).runK (lpK K (fun s => ⟨p3.mkL ((((), ((), ((), ((), (s.1, ((), ())))))), ((l.2.1.1, (l.2.1.2.1, ())), ((l.2.2.1.1, ((), ())), ((l.2.2.2.1.1, ((), ())), (s.2, ()))))) : T3).1, q3.mkH ((((), ((), ((), ((), (s.1, ((), ())))))), ((l.2.1.1, (l.2.1.2.1, ())), ((l.2.2.1.1, ((), ())), ((l.2.2.2.1.1, ((), ())), (s.2, ()))))) : T3).2, 0⟩) sp1 (ou3 l)) := by kernel_rfl
theorem lk3 (R : Type) (st : St U) (K : Ex → St U → Option R) (r : R) (h : Λ3 R st K = some r) : ∃ n, loopA E (pick (loopsOf body) 3) n st K = some r :=
  lp_ok (U := U) (E := E) (b := pick (loopsOf body) 3) (m := 0) (sp := sp1) (p := p3) (q := q3) (X := (List ValueV)) (S := (Int × (List ValueV))) (f := fun (l : T3) s => l3 l.2.1.1 l.2.1.2.1 l.2.2.1.1 l.2.2.2.1.1 s.1 s.2) (hd := fun (l : T3) s => (((), ((), ((), ((), (s.1, ((), ())))))), ((l.2.1.1, (l.2.1.2.1, ())), ((l.2.2.1.1, ((), ())), ((l.2.2.2.1.1, ((), ())), (s.2, ())))))) (s0 := fun (l : T3) => (l.1.2.2.2.2.1, l.2.2.2.2.1)) (ou := ou3)
    (fun l => rfl) (fun l x => by rfl) sp1_ok hf3 h
theorem hk (R : Type) (l : TA) (K : AV U → Hp U → Option R) : funcA E Try.f70 [] R (pA.mkL l.1) (pH.mkH l.2) K = (t l.1.1.1 l.1.1.2.1).runK fun y => K (v l y) (hh l y) := by kernel_rfl
theorem okF : SoundF Try.prog cc 70 (funcA E Try.f70 []) :=
  funcA_ok (E := E) P_mixed (E0_ok.with Γ Λ CT D ro) (gam_of (all_cons ⟨ref12_Least.ok, ⟨Try.f134, Try.func134, by kernel_rfl, by kernel_rfl⟩⟩ all_nil) (all_cons (no_keep (by kernel_rfl)) all_nil)) Try.func70 (c := body) (by kernel_rfl)
    (just_by (by kernel_rfl) (by kernel_rfl) (all_cons lk3 all_nil) all_nil) []
theorem ok : SoundF Try.prog cc 70 A :=
  mkA_ok (E := E) (p := pA) (q := pH) (t := fun (l : TA) => t l.1.1.1 l.1.1.2.1) sp1_ok hk okF
theorem keep : KeepA A := mkA_keep (U := U) sp1_ok (fun (l : TA) y => ⟨(hh l y).drop 0, by kernel_rfl⟩)
end ref14_First

end Go.Proofs.Ytpidbpmkogbdeaa.Va
