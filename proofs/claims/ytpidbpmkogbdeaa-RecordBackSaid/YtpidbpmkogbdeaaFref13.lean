/- The functions of package ref13, as plain functions, and that the program computes them. Printed by a program of this work out of the evaluator. -/
import Derived.Test.YtpidbpmkogbdeaaEn
import Derived.Tactics
import Derived.Test.YtpidbpmkogbdeaaFref12
namespace Go.Proofs.Ytpidbpmkogbdeaa.Va
open Go
set_option linter.unusedVariables false
set_option maxRecDepth 100000

/-! instar/instarref13.Long -/
namespace ref13_Long
abbrev TA : Type := (((Int × ((List FieldV) × Unit)) × Unit) × Unit)
abbrev T3 : Type := ((Unit × (Unit × (Unit × (Int × (Int × (Unit × Unit)))))) × ((Int × ((List FieldV) × Unit)) × Unit))
noncomputable def l3 (h0_0 : Int) (h0_1 : (List FieldV)) (n : Int) (i : Int) : Tw ((Int × Int) ⊕ Int) :=
 (.bb (decide (i < (((List.length h0_1) : Nat) : Int)))
  (.dd (((0 : Int) ≤ i)) inferInstance
   (.opt (h0_1)[(Int.toNat i)]? fun z1 =>
    (.opt (ref12_Size.c z1.id z1.kind z1.lo z1.hi z1.most) fun z2 =>
     (.ret (.inl ((w64 (n + z2)), (w64 (i + (1 : Int))))))))
   .no)
  (.ret (.inr n)))
noncomputable def L3 (n : Int) (i : Int) (h0_0 : Int) (h0_1 : (List FieldV)) : Option Int := Lp (fun s => (l3 h0_0 h0_1 s.1 s.2).run) (n, i)
def p3 : Pt := (.cs (.bots 1) (.cs (.ptr 0 0) (.cs (.bots 1) (.cs (.int .i64) (.cs (.int .i64) (.cs (.bots 16) .nl))))))
def q3 : Pt := (.cs (.var (.cs (.int .i64) (.cs (.sl 23) .nl))) .nl)
def ou3 (l : T3) (y : Int) : Ex × St U := (.exit 0, stOf 21 [(3, .im (.int .i64 y))] [] 0)
noncomputable def Λ3 : LFun U := mkLp (U := U) p3 q3 0 (X := Int) (fun (l : T3) => L3 l.1.2.2.2.1 l.1.2.2.2.2.1 l.2.1.1 l.2.1.2.1) sp1 ou3
noncomputable def t (f_0 : Int) (f_1 : (List FieldV)) : Tw Int :=
 (.opt (L3 (0 : Int) (0 : Int) f_0 f_1) fun z3 =>
  (.ret z3))
noncomputable def c (f_0 : Int) (f_1 : (List FieldV)) : Option Int := (t f_0 f_1).run
def pA : Pt := (.cs (.agg (.cs (.int .i64) (.cs (.sl 23) .nl))) .nl)
def pH : Pt := .nl
def v (l : TA) (y : Int) : AV U := .im (.int .i64 y)
def hh (l : TA) (y : Int) : Hp U := []
noncomputable def A : AFun U := mkA (U := U) pA pH (X := Int) (fun (l : TA) => c l.1.1.1 l.1.1.2.1) sp1 v hh
noncomputable def body : Code := (Go.Func.body Try.f80).getD .skip
noncomputable def Γ : List (FuncId × AFun U) := [(147, ref12_Size.A)]
noncomputable def Λ : List (Nat × LFun U) := [(3, Λ3)]
noncomputable def CT : List (Nat × LFun U) := []
def ro : List FuncId := []
def D : Nat → Lv × Lv := dtab [(3, ⟨[4, 1, 3], []⟩, ⟨[2, 3], []⟩)]
noncomputable def E : Env U := { E0 with Γ := Γ, Λ := Λ, C := CT, D := D, ro := ro }
theorem hf3 (R : Type) (l : T3) (s : (Int × Int)) (K : Ex → St U → Option R) : codeA E (pick (loopsOf body) 3) ⟨p3.mkL ((((), ((), ((), (s.1, (s.2, ((), ())))))), ((l.2.1.1, (l.2.1.2.1, ())), ())) : T3).1, q3.mkH ((((), ((), ((), (s.1, (s.2, ((), ())))))), ((l.2.1.1, (l.2.1.2.1, ())), ())) : T3).2, 0⟩ (roundK E (pick (loopsOf body) 3) K) =
  (l3 l.2.1.1 l.2.1.2.1 s.1 s.2).runK (lpK K (fun s => ⟨p3.mkL ((((), ((), ((), (s.1, (s.2, ((), ())))))), ((l.2.1.1, (l.2.1.2.1, ())), ())) : T3).1, q3.mkH ((((), ((), ((), (s.1, (s.2, ((), ())))))), ((l.2.1.1, (l.2.1.2.1, ())), ())) : T3).2, 0⟩) sp1 (ou3 l)) := by kernel_rfl
theorem lk3 (R : Type) (st : St U) (K : Ex → St U → Option R) (r : R) (h : Λ3 R st K = some r) : ∃ n, loopA E (pick (loopsOf body) 3) n st K = some r :=
  lp_ok (U := U) (E := E) (b := pick (loopsOf body) 3) (m := 0) (sp := sp1) (p := p3) (q := q3) (X := Int) (S := (Int × Int)) (f := fun (l : T3) s => l3 l.2.1.1 l.2.1.2.1 s.1 s.2) (hd := fun (l : T3) s => (((), ((), ((), (s.1, (s.2, ((), ())))))), ((l.2.1.1, (l.2.1.2.1, ())), ()))) (s0 := fun (l : T3) => (l.1.2.2.2.1, l.1.2.2.2.2.1)) (ou := ou3)
    (fun l => rfl) (fun l x => by rfl) sp1_ok hf3 h
theorem hk (R : Type) (l : TA) (K : AV U → Hp U → Option R) : funcA E Try.f80 [] R (pA.mkL l.1) (pH.mkH l.2) K = (t l.1.1.1 l.1.1.2.1).runK fun y => K (v l y) (hh l y) := by kernel_rfl
theorem okF : SoundF Try.prog cc 80 (funcA E Try.f80 []) :=
  funcA_ok (E := E) P_mixed (E0_ok.with Γ Λ CT D ro) (gam_of (all_cons ⟨ref12_Size.ok, ⟨Try.f147, Try.func147, by kernel_rfl, by kernel_rfl⟩⟩ all_nil) (all_cons (no_keep (by kernel_rfl)) all_nil)) Try.func80 (c := body) (by kernel_rfl)
    (just_by (by kernel_rfl) (by kernel_rfl) (all_cons lk3 all_nil) all_nil) []
theorem ok : SoundF Try.prog cc 80 A :=
  mkA_ok (E := E) (p := pA) (q := pH) (t := fun (l : TA) => t l.1.1.1 l.1.1.2.1) sp1_ok hk okF
theorem keep : KeepA A := mkA_keep (U := U) sp1_ok (fun (l : TA) y => ⟨(hh l y).drop 0, by kernel_rfl⟩)
end ref13_Long

end Go.Proofs.Ytpidbpmkogbdeaa.Va
