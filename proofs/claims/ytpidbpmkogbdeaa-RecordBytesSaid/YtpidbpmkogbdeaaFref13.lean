/- The functions of package ref13, as plain functions, and that the program computes them. Printed by a program of this work out of the evaluator. -/
import Derived.Test.YtpidbpmkogbdeaaEn
import Derived.Tactics
import Derived.Test.YtpidbpmkogbdeaaFref12
namespace Go.Proofs.Ytpidbpmkogbdeaa.Va
open Go
set_option linter.unusedVariables false
set_option maxRecDepth 100000

/-! instar/instarref13.At -/
namespace ref13_At
abbrev TA : Type := (((Int × ((List FieldV) × Unit)) × (Int × Unit)) × Unit)
abbrev T2 : Type := ((Unit × (Int × (Unit × (Unit × (Int × (Unit × Unit)))))) × ((Int × ((List FieldV) × Unit)) × Unit))
noncomputable def l2 (id : Int) (h0_0 : Int) (h0_1 : (List FieldV)) (i : Int) : Tw (Int ⊕ (Unit ⊕ Int)) :=
 (.bb (decide (i < (((List.length h0_1) : Nat) : Int)))
  (.dd (((0 : Int) ≤ i)) inferInstance
   (.opt (h0_1)[(Int.toNat i)]? fun z1 =>
    (.bb (z1.id == id)
     (.ret (.inr (.inr i)))
     (.ret (.inl (w64 (i + (1 : Int)))))))
   .no)
  (.ret (.inr (.inl ()))))
noncomputable def L2 (id : Int) (i : Int) (h0_0 : Int) (h0_1 : (List FieldV)) : Option (Unit ⊕ Int) := Lp (fun s => (l2 id h0_0 h0_1 s).run) i
def p2 : Pt := (.cs (.bots 1) (.cs (.int .i64) (.cs (.ptr 0 0) (.cs (.bots 2) (.cs (.int .i64) (.cs (.bots 16) .nl))))))
def q2 : Pt := (.cs (.var (.cs (.int .i64) (.cs (.sl 23) .nl))) .nl)
def ou2 (l : T2) (y : (Unit ⊕ Int)) : Ex × St U := (Sum.elim (fun a0 => (.exit 0, stOf 22 [] [] 0)) (fun b0 => (.ret, stOf 22 [(4, .im (.int .i64 b0))] [] 0)) y)
noncomputable def Λ2 : LFun U := mkLp (U := U) p2 q2 0 (X := (Unit ⊕ Int)) (fun (l : T2) => L2 l.1.2.1 l.1.2.2.2.2.1 l.2.1.1 l.2.1.2.1) (spS sp1) ou2
noncomputable def t (f_0 : Int) (f_1 : (List FieldV)) (id : Int) : Tw Int :=
 (.opt (L2 id (0 : Int) f_0 f_1) fun z2 =>
  (.sm z2
   (fun z3 => (.ret (-(1 : Int))))
   (fun z4 => (.ret z4))))
noncomputable def c (f_0 : Int) (f_1 : (List FieldV)) (id : Int) : Option Int := (t f_0 f_1 id).run
def pA : Pt := (.cs (.agg (.cs (.int .i64) (.cs (.sl 23) .nl))) (.cs (.int .i64) .nl))
def pH : Pt := .nl
def v (l : TA) (y : Int) : AV U := .im (.int .i64 y)
def hh (l : TA) (y : Int) : Hp U := []
noncomputable def A : AFun U := mkA (U := U) pA pH (X := Int) (fun (l : TA) => c l.1.1.1 l.1.1.2.1 l.1.2.1) sp1 v hh
noncomputable def body : Code := (Go.Func.body Try.f133).getD .skip
noncomputable def Γ : List (FuncId × AFun U) := []
noncomputable def Λ : List (Nat × LFun U) := [(2, Λ2)]
noncomputable def CT : List (Nat × LFun U) := []
def ro : List FuncId := []
def D : Nat → Lv × Lv := dtab [(2, ⟨[5, 1, 2], []⟩, ⟨[4], []⟩)]
noncomputable def E : Env U := { E0 with Γ := Γ, Λ := Λ, C := CT, D := D, ro := ro }
theorem hf2 (R : Type) (l : T2) (s : Int) (K : Ex → St U → Option R) : codeA E (pick (loopsOf body) 2) ⟨p2.mkL ((((), (l.1.2.1, ((), ((), (s, ((), ())))))), ((l.2.1.1, (l.2.1.2.1, ())), ())) : T2).1, q2.mkH ((((), (l.1.2.1, ((), ((), (s, ((), ())))))), ((l.2.1.1, (l.2.1.2.1, ())), ())) : T2).2, 0⟩ (roundK E (pick (loopsOf body) 2) K) =
  (l2 l.1.2.1 l.2.1.1 l.2.1.2.1 s).runK (lpK K (fun s => ⟨p2.mkL ((((), (l.1.2.1, ((), ((), (s, ((), ())))))), ((l.2.1.1, (l.2.1.2.1, ())), ())) : T2).1, q2.mkH ((((), (l.1.2.1, ((), ((), (s, ((), ())))))), ((l.2.1.1, (l.2.1.2.1, ())), ())) : T2).2, 0⟩) (spS sp1) (ou2 l)) := by kernel_rfl
theorem lk2 (R : Type) (st : St U) (K : Ex → St U → Option R) (r : R) (h : Λ2 R st K = some r) : ∃ n, loopA E (pick (loopsOf body) 2) n st K = some r :=
  lp_ok (U := U) (E := E) (b := pick (loopsOf body) 2) (m := 0) (sp := (spS sp1)) (p := p2) (q := q2) (X := (Unit ⊕ Int)) (S := Int) (f := fun (l : T2) s => l2 l.1.2.1 l.2.1.1 l.2.1.2.1 s) (hd := fun (l : T2) s => (((), (l.1.2.1, ((), ((), (s, ((), ())))))), ((l.2.1.1, (l.2.1.2.1, ())), ()))) (s0 := fun (l : T2) => l.1.2.2.2.2.1) (ou := ou2)
    (fun l => rfl) (fun l x => by repeat' (first | rfl | (cases x with | inl => rfl | inr x => ?_))) (spS_ok sp1_ok) hf2 h
theorem hk (R : Type) (l : TA) (K : AV U → Hp U → Option R) : funcA E Try.f133 [] R (pA.mkL l.1) (pH.mkH l.2) K = (t l.1.1.1 l.1.1.2.1 l.1.2.1).runK fun y => K (v l y) (hh l y) := by kernel_rfl
theorem okF : SoundF Try.prog cc 133 (funcA E Try.f133 []) :=
  funcA_ok (E := E) P_mixed (E0_ok.with Γ Λ CT D ro) (gam_of all_nil all_nil) Try.func133 (c := body) (by kernel_rfl)
    (just_by (by kernel_rfl) (by kernel_rfl) (all_cons lk2 all_nil) all_nil) []
theorem ok : SoundF Try.prog cc 133 A :=
  mkA_ok (E := E) (p := pA) (q := pH) (t := fun (l : TA) => t l.1.1.1 l.1.1.2.1 l.1.2.1) sp1_ok hk okF
theorem keep : KeepA A := mkA_keep (U := U) sp1_ok (fun (l : TA) y => ⟨(hh l y).drop 0, by kernel_rfl⟩)
end ref13_At

/-! instar/instarref13.Long -/
namespace ref13_Long
abbrev TA : Type := (((Int × ((List FieldV) × Unit)) × Unit) × Unit)
abbrev T3 : Type := ((Unit × (Unit × (Unit × (Int × (Int × (Unit × Unit)))))) × ((Int × ((List FieldV) × Unit)) × Unit))
noncomputable def l3 (h0_0 : Int) (h0_1 : (List FieldV)) (n : Int) (i : Int) : Tw ((Int × Int) ⊕ Int) :=
 (.bb (decide (i < (((List.length h0_1) : Nat) : Int)))
  (.dd (((0 : Int) ≤ i)) inferInstance
   (.opt (h0_1)[(Int.toNat i)]? fun z1 =>
    (.opt (ref12_Size.c z1.id z1.kind z1.lo z1.hi z1.most) fun z2 =>
     (.ret (.inl ((w64 (n + z2)), (w64 (i + (1 : Int))))))))
   .no)
  (.ret (.inr n)))
noncomputable def L3 (n : Int) (i : Int) (h0_0 : Int) (h0_1 : (List FieldV)) : Option Int := Lp (fun s => (l3 h0_0 h0_1 s.1 s.2).run) (n, i)
def p3 : Pt := (.cs (.bots 1) (.cs (.ptr 0 0) (.cs (.bots 1) (.cs (.int .i64) (.cs (.int .i64) (.cs (.bots 16) .nl))))))
def q3 : Pt := (.cs (.var (.cs (.int .i64) (.cs (.sl 23) .nl))) .nl)
def ou3 (l : T3) (y : Int) : Ex × St U := (.exit 0, stOf 21 [(3, .im (.int .i64 y))] [] 0)
noncomputable def Λ3 : LFun U := mkLp (U := U) p3 q3 0 (X := Int) (fun (l : T3) => L3 l.1.2.2.2.1 l.1.2.2.2.2.1 l.2.1.1 l.2.1.2.1) sp1 ou3
noncomputable def t (f_0 : Int) (f_1 : (List FieldV)) : Tw Int :=
 (.opt (L3 (0 : Int) (0 : Int) f_0 f_1) fun z3 =>
  (.ret z3))
noncomputable def c (f_0 : Int) (f_1 : (List FieldV)) : Option Int := (t f_0 f_1).run
def pA : Pt := (.cs (.agg (.cs (.int .i64) (.cs (.sl 23) .nl))) .nl)
def pH : Pt := .nl
def v (l : TA) (y : Int) : AV U := .im (.int .i64 y)
def hh (l : TA) (y : Int) : Hp U := []
noncomputable def A : AFun U := mkA (U := U) pA pH (X := Int) (fun (l : TA) => c l.1.1.1 l.1.1.2.1) sp1 v hh
noncomputable def body : Code := (Go.Func.body Try.f80).getD .skip
noncomputable def Γ : List (FuncId × AFun U) := [(147, ref12_Size.A)]
noncomputable def Λ : List (Nat × LFun U) := [(3, Λ3)]
noncomputable def CT : List (Nat × LFun U) := []
def ro : List FuncId := []
def D : Nat → Lv × Lv := dtab [(3, ⟨[4, 1, 3], []⟩, ⟨[2, 3], []⟩)]
noncomputable def E : Env U := { E0 with Γ := Γ, Λ := Λ, C := CT, D := D, ro := ro }
theorem hf3 (R : Type) (l : T3) (s : (Int × Int)) (K : Ex → St U → Option R) : codeA E (pick (loopsOf body) 3) ⟨p3.mkL ((((), ((), ((), (s.1, (s.2, ((), ())))))), ((l.2.1.1, (l.2.1.2.1, ())), ())) : T3).1, q3.mkH ((((), ((), ((), (s.1, (s.2, ((), ())))))), ((l.2.1.1, (l.2.1.2.1, ())), ())) : T3).2, 0⟩ (roundK E (pick (loopsOf body) 3) K) =
  (l3 l.2.1.1 l.2.1.2.1 s.1 s.2).runK (lpK K (fun s => ⟨p3.mkL ((((), ((), ((), (s.1, (s.2, ((), ())))))), ((l.2.1.1, (l.2.1.2.1, ())), ())) : T3).1, q3.mkH ((((), ((), ((), (s.1, (s.2, ((), ())))))), ((l.2.1.1, (l.2.1.2.1, ())), ())) : T3).2, 0⟩) sp1 (ou3 l)) := by kernel_rfl
theorem lk3 (R : Type) (st : St U) (K : Ex → St U → Option R) (r : R) (h : Λ3 R st K = some r) : ∃ n, loopA E (pick (loopsOf body) 3) n st K = some r :=
  lp_ok (U := U) (E := E) (b := pick (loopsOf body) 3) (m := 0) (sp := sp1) (p := p3) (q := q3) (X := Int) (S := (Int × Int)) (f := fun (l : T3) s => l3 l.2.1.1 l.2.1.2.1 s.1 s.2) (hd := fun (l : T3) s => (((), ((), ((), (s.1, (s.2, ((), ())))))), ((l.2.1.1, (l.2.1.2.1, ())), ()))) (s0 := fun (l : T3) => (l.1.2.2.2.1, l.1.2.2.2.2.1)) (ou := ou3)
    (fun l => rfl) (fun l x => by rfl) sp1_ok hf3 h
theorem hk (R : Type) (l : TA) (K : AV U → Hp U → Option R) : funcA E Try.f80 [] R (pA.mkL l.1) (pH.mkH l.2) K = (t l.1.1.1 l.1.1.2.1).runK fun y => K (v l y) (hh l y) := by kernel_rfl
theorem okF : SoundF Try.prog cc 80 (funcA E Try.f80 []) :=
  funcA_ok (E := E) P_mixed (E0_ok.with Γ Λ CT D ro) (gam_of (all_cons ⟨ref12_Size.ok, ⟨Try.f147, Try.func147, by kernel_rfl, by kernel_rfl⟩⟩ all_nil) (all_cons (no_keep (by kernel_rfl)) all_nil)) Try.func80 (c := body) (by kernel_rfl)
    (just_by (by kernel_rfl) (by kernel_rfl) (all_cons lk3 all_nil) all_nil) []
theorem ok : SoundF Try.prog cc 80 A :=
  mkA_ok (E := E) (p := pA) (q := pH) (t := fun (l : TA) => t l.1.1.1 l.1.1.2.1) sp1_ok hk okF
theorem keep : KeepA A := mkA_keep (U := U) sp1_ok (fun (l : TA) y => ⟨(hh l y).drop 0, by kernel_rfl⟩)
end ref13_Long

/-! instar/instarref13.Fine -/
namespace ref13_Fine
abbrev TA : Type := (((Int × ((List FieldV) × Unit)) × Unit) × Unit)
abbrev T4 : Type := ((Unit × (Unit × (Unit × (Int × (Unit × Unit))))) × ((Int × ((List FieldV) × Unit)) × Unit))
noncomputable def l4 (h0_0 : Int) (h0_1 : (List FieldV)) (i : Int) : Tw (Int ⊕ (Unit ⊕ Bool)) :=
 (.bb (decide (i < (((List.length h0_1) : Nat) : Int)))
  (.dd (((0 : Int) ≤ i)) inferInstance
   (.opt (h0_1)[(Int.toNat i)]? fun z1 =>
    (.opt (ref12_Right.c z1.id z1.kind z1.lo z1.hi z1.most) fun z2 =>
     (.bb (!z2)
      (.ret (.inr (.inr false)))
      (.dd (((0 : Int) ≤ i)) inferInstance
       (.opt (h0_1)[(Int.toNat i)]? fun z3 =>
        (.opt (ref13_At.c h0_0 h0_1 z3.id) fun z4 =>
         (.bb (z4 != i)
          (.ret (.inr (.inr false)))
          (.ret (.inl (w64 (i + (1 : Int))))))))
       .no))))
   .no)
  (.ret (.inr (.inl ()))))
noncomputable def L4 (i : Int) (h0_0 : Int) (h0_1 : (List FieldV)) : Option (Unit ⊕ Bool) := Lp (fun s => (l4 h0_0 h0_1 s).run) i
def p4 : Pt := (.cs (.bots 1) (.cs (.ptr 0 0) (.cs (.bots 1) (.cs (.int .i64) (.cs (.bots 49) .nl)))))
def q4 : Pt := (.cs (.var (.cs (.int .i64) (.cs (.sl 23) .nl))) .nl)
def ou4 (l : T4) (y : (Unit ⊕ Bool)) : Ex × St U := (Sum.elim (fun a0 => (.exit 0, stOf 53 [(1, .ptr 0 0)] [.var [.im (.int .i64 l.2.1.1), .im (.slice 23 l.2.1.2.1)]] 0)) (fun b0 => (.ret, stOf 53 [(1, .ptr 0 0), (2, .im (.bool b0))] [.var [.im (.int .i64 l.2.1.1), .im (.slice 23 l.2.1.2.1)]] 0)) y)
noncomputable def Λ4 : LFun U := mkLp (U := U) p4 q4 0 (X := (Unit ⊕ Bool)) (fun (l : T4) => L4 l.1.2.2.2.1 l.2.1.1 l.2.1.2.1) (spS sp1) ou4
noncomputable def t (f_0 : Int) (f_1 : (List FieldV)) : Tw Bool :=
 (.bb (decide (f_0 < (0 : Int)))
  (.ret false)
  (.bb (decide (f_0 > (200 : Int)))
   (.ret false)
   (.bb (decide ((((List.length f_1) : Nat) : Int) < (1 : Int)))
    (.ret false)
    (.bb (decide ((((List.length f_1) : Nat) : Int) > (8 : Int)))
     (.ret false)
     (.opt (L4 (0 : Int) f_0 f_1) fun z5 =>
      (.sm z5
       (fun z6 => (.opt (ref13_Long.c f_0 f_1) fun z8 =>
         (.ret (decide (z8 ≤ (64 : Int))))))
       (fun z7 => (.ret z7))))))))
noncomputable def c (f_0 : Int) (f_1 : (List FieldV)) : Option Bool := (t f_0 f_1).run
def pA : Pt := (.cs (.agg (.cs (.int .i64) (.cs (.sl 23) .nl))) .nl)
def pH : Pt := .nl
def v (l : TA) (y : Bool) : AV U := .im (.bool y)
def hh (l : TA) (y : Bool) : Hp U := []
noncomputable def A : AFun U := mkA (U := U) pA pH (X := Bool) (fun (l : TA) => c l.1.1.1 l.1.1.2.1) sp1 v hh
noncomputable def body : Code := (Go.Func.body Try.f69).getD .skip
noncomputable def Γ : List (FuncId × AFun U) := [(132, ref12_Right.A), (133, ref13_At.A), (80, ref13_Long.A)]
noncomputable def Λ : List (Nat × LFun U) := [(4, Λ4)]
noncomputable def CT : List (Nat × LFun U) := []
def ro : List FuncId := []
def D : Nat → Lv × Lv := dtab [(4, ⟨[3, 1], []⟩, ⟨[2, 1], []⟩)]
noncomputable def E : Env U := { E0 with Γ := Γ, Λ := Λ, C := CT, D := D, ro := ro }
theorem hf4 (R : Type) (l : T4) (s : Int) (K : Ex → St U → Option R) : codeA E (pick (loopsOf body) 4) ⟨p4.mkL ((((), ((), ((), (s, ((), ()))))), ((l.2.1.1, (l.2.1.2.1, ())), ())) : T4).1, q4.mkH ((((), ((), ((), (s, ((), ()))))), ((l.2.1.1, (l.2.1.2.1, ())), ())) : T4).2, 0⟩ (roundK E (pick (loopsOf body) 4) K) =
  (l4 l.2.1.1 l.2.1.2.1 s).runK (lpK K (fun s => ⟨p4.mkL ((((), ((), ((), (s, ((), ()))))), ((l.2.1.1, (l.2.1.2.1, ())), ())) : T4).1, q4.mkH ((((), ((), ((), (s, ((), ()))))), ((l.2.1.1, (l.2.1.2.1, ())), ())) : T4).2, 0⟩) (spS sp1) (ou4 l)) := by kernel_rfl
theorem lk4 (R : Type) (st : St U) (K : Ex → St U → Option R) (r : R) (h : Λ4 R st K = some r) : ∃ n, loopA E (pick (loopsOf body) 4) n st K = some r :=
  lp_ok (U := U) (E := E) (b := pick (loopsOf body) 4) (m := 0) (sp := (spS sp1)) (p := p4) (q := q4) (X := (Unit ⊕ Bool)) (S := Int) (f := fun (l : T4) s => l4 l.2.1.1 l.2.1.2.1 s) (hd := fun (l : T4) s => (((), ((), ((), (s, ((), ()))))), ((l.2.1.1, (l.2.1.2.1, ())), ()))) (s0 := fun (l : T4) => l.1.2.2.2.1) (ou := ou4)
    (fun l => rfl) (fun l x => by repeat' (first | rfl | (cases x with | inl => rfl | inr x => ?_))) (spS_ok sp1_ok) hf4 h
theorem hk (R : Type) (l : TA) (K : AV U → Hp U → Option R) : funcA E Try.f69 [] R (pA.mkL l.1) (pH.mkH l.2) K = (t l.1.1.1 l.1.1.2.1).runK fun y => K (v l y) (hh l y) := by kernel_rfl
theorem okF : SoundF Try.prog cc 69 (funcA E Try.f69 []) :=
  funcA_ok (E := E) P_mixed (E0_ok.with Γ Λ CT D ro) (gam_of (all_cons ⟨ref12_Right.ok, ⟨Try.f132, Try.func132, by kernel_rfl, by kernel_rfl⟩⟩ (all_cons ⟨ref13_At.ok, ⟨Try.f133, Try.func133, by kernel_rfl, by kernel_rfl⟩⟩ (all_cons ⟨ref13_Long.ok, ⟨Try.f80, Try.func80, by kernel_rfl, by kernel_rfl⟩⟩ all_nil))) (all_cons (no_keep (by kernel_rfl)) (all_cons (no_keep (by kernel_rfl)) (all_cons (no_keep (by kernel_rfl)) all_nil)))) Try.func69 (c := body) (by kernel_rfl)
    (just_by (by kernel_rfl) (by kernel_rfl) (all_cons lk4 all_nil) all_nil) []
theorem ok : SoundF Try.prog cc 69 A :=
  mkA_ok (E := E) (p := pA) (q := pH) (t := fun (l : TA) => t l.1.1.1 l.1.1.2.1) sp1_ok hk okF
theorem keep : KeepA A := mkA_keep (U := U) sp1_ok (fun (l : TA) y => ⟨(hh l y).drop 0, by kernel_rfl⟩)
end ref13_Fine

end Go.Proofs.Ytpidbpmkogbdeaa.Va
