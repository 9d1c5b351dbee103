/- The functions of package ref02, as plain functions, and that the program computes them. Printed by a program of this work out of the evaluator. -/
import Derived.Test.YtkoidgjgdhpdnaaEn
import Derived.Tactics
import Derived.Test.YtkoidgjgdhpdnaaFref01
namespace Go.Proofs.Ytkoidgjgdhpdnaa.Va
open Go
set_option linter.unusedVariables false
set_option maxRecDepth 100000

/-! instar/instarref02.Twin -/
namespace ref02_Twin
abbrev TA : Type := ((Int × Unit) × Unit)
noncomputable def t (n : Int) : Tw Int :=
 (.ret (w32 ((w32 ((w32 (w64 ((65535 : Int) - n))) * (65536 : Int))) + (w32 n))))
noncomputable def c (n : Int) : Option Int := (t n).run
def pA : Pt := (.cs (.int .i64) .nl)
def pH : Pt := .nl
def v (l : TA) (y : Int) : AV U := .im (.int .u32 y)
def hh (l : TA) (y : Int) : Hp U := []
noncomputable def A : AFun U := mkA (U := U) pA pH (X := Int) (fun (l : TA) => c l.1.1) sp1 v hh
noncomputable def body : Code := (Go.Func.body Try.f76).getD .skip
noncomputable def Γ : List (FuncId × AFun U) := []
noncomputable def Λ : List (Nat × LFun U) := []
noncomputable def CT : List (Nat × LFun U) := []
def ro : List FuncId := []
def D : Nat → Lv × Lv := dtab []
noncomputable def E : Env U := { E0 with Γ := Γ, Λ := Λ, C := CT, D := D, ro := ro }
theorem hk (R : Type) (l : TA) (K : AV U → Hp U → Option R) : funcA E Try.f76 [] R (pA.mkL l.1) (pH.mkH l.2) K = (t l.1.1).runK fun y => K (v l y) (hh l y) := by kernel_rfl
theorem okF : SoundF Try.prog cc 76 (funcA E Try.f76 []) :=
  funcA_ok (E := E) P_mixed (E0_ok.with Γ Λ CT D ro) (gam_of all_nil all_nil) Try.func76 (c := body) (by kernel_rfl)
    (just_by (by kernel_rfl) (by kernel_rfl) all_nil all_nil) []
theorem ok : SoundF Try.prog cc 76 A :=
  mkA_ok (E := E) (p := pA) (q := pH) (t := fun (l : TA) => t l.1.1) sp1_ok hk okF
theorem keep : KeepA A := mkA_keep (U := U) sp1_ok (fun (l : TA) y => ⟨(hh l y).drop 0, by kernel_rfl⟩)
end ref02_Twin

/-! instar/instarref02.Sum -/
namespace ref02_Sum
abbrev TA : Type := (((List Int) × Unit) × Unit)
abbrev T3 : Type := (((List Int) × (Unit × (Int × (Int × (Unit × Unit))))) × Unit)
noncomputable def l3 (l_ : (List Int)) (n i : Int) : Tw ((Int × Int) ⊕ Int) :=
 (.bb (decide (i < (((List.length l_) : Nat) : Int)))
  (.dd (((0 : Int) ≤ i)) inferInstance
   (.opt (l_)[(Int.toNat i)]? fun z1 =>
    (.opt (ref01_Ones.c z1) fun z2 =>
     (.ret (.inl ((w32 ((w32 (n + (32 : Int))) - (w32 z2))), (w64 (i + (1 : Int))))))))
   .no)
  (.ret (.inr n)))
noncomputable def L3 (l_ : (List Int)) (n i : Int) : Option Int := Lp (fun s => (l3 l_ s.1 s.2).run) (n, i)
def p3 : Pt := (.cs (.sl 3) (.cs (.bots 2) (.cs (.int .u32) (.cs (.int .i64) (.cs (.bots 16) .nl)))))
def q3 : Pt := .nl
def ou3 (l : T3) (y : Int) : Ex × St U := (.exit 0, stOf 21 [(3, .im (.int .u32 y))] [] 0)
noncomputable def Λ3 : LFun U := mkLp (U := U) p3 q3 0 (X := Int) (fun (l : T3) => L3 l.1.1 l.1.2.2.1 l.1.2.2.2.1) sp1 ou3
noncomputable def t (l_ : (List Int)) : Tw Int :=
 (.opt (L3 l_ (0 : Int) (0 : Int)) fun z3 =>
  (.ret z3))
noncomputable def c (l_ : (List Int)) : Option Int := (t l_).run
def pA : Pt := (.cs (.sl 3) .nl)
def pH : Pt := .nl
def v (l : TA) (y : Int) : AV U := .im (.int .u32 y)
def hh (l : TA) (y : Int) : Hp U := []
noncomputable def A : AFun U := mkA (U := U) pA pH (X := Int) (fun (l : TA) => c l.1.1) sp1 v hh
noncomputable def body : Code := (Go.Func.body Try.f100).getD .skip
noncomputable def Γ : List (FuncId × AFun U) := [(109, ref01_Ones.A)]
noncomputable def Λ : List (Nat × LFun U) := [(3, Λ3)]
noncomputable def CT : List (Nat × LFun U) := []
def ro : List FuncId := []
def D : Nat → Lv × Lv := dtab [(3, ⟨[4, 0, 3], []⟩, ⟨[2, 3], []⟩)]
noncomputable def E : Env U := { E0 with Γ := Γ, Λ := Λ, C := CT, D := D, ro := ro }
theorem hf3 (R : Type) (l : T3) (s : (Int × Int)) (K : Ex → St U → Option R) : codeA E (pick (loopsOf body) 3) ⟨p3.mkL (((l.1.1, ((), (s.1, (s.2, ((), ()))))), ()) : T3).1, q3.mkH (((l.1.1, ((), (s.1, (s.2, ((), ()))))), ()) : T3).2, 0⟩ (roundK E (pick (loopsOf body) 3) K) =
  (l3 l.1.1 s.1 s.2).runK (lpK K (fun s => ⟨p3.mkL (((l.1.1, ((), (s.1, (s.2, ((), ()))))), ()) : T3).1, q3.mkH (((l.1.1, ((), (s.1, (s.2, ((), ()))))), ()) : T3).2, 0⟩) sp1 (ou3 l)) := by kernel_rfl
theorem lk3 (R : Type) (st : St U) (K : Ex → St U → Option R) (r : R) (h : Λ3 R st K = some r) : ∃ n, loopA E (pick (loopsOf body) 3) n st K = some r :=
  lp_ok (U := U) (E := E) (b := pick (loopsOf body) 3) (m := 0) (sp := sp1) (p := p3) (q := q3) (X := Int) (S := (Int × Int)) (f := fun (l : T3) s => l3 l.1.1 s.1 s.2) (hd := fun (l : T3) s => ((l.1.1, ((), (s.1, (s.2, ((), ()))))), ())) (s0 := fun (l : T3) => (l.1.2.2.1, l.1.2.2.2.1)) (ou := ou3)
    (fun l => rfl) (fun l x => by rfl) sp1_ok hf3 h
theorem hk (R : Type) (l : TA) (K : AV U → Hp U → Option R) : funcA E Try.f100 [] R (pA.mkL l.1) (pH.mkH l.2) K = (t l.1.1).runK fun y => K (v l y) (hh l y) := by kernel_rfl
theorem okF : SoundF Try.prog cc 100 (funcA E Try.f100 []) :=
  funcA_ok (E := E) P_mixed (E0_ok.with Γ Λ CT D ro) (gam_of (all_cons ⟨ref01_Ones.ok, ⟨Try.f109, Try.func109, by kernel_rfl, by kernel_rfl⟩⟩ all_nil) (all_cons (no_keep (by kernel_rfl)) all_nil)) Try.func100 (c := body) (by kernel_rfl)
    (just_by (by kernel_rfl) (by kernel_rfl) (all_cons lk3 all_nil) all_nil) []
theorem ok : SoundF Try.prog cc 100 A :=
  mkA_ok (E := E) (p := pA) (q := pH) (t := fun (l : TA) => t l.1.1) sp1_ok hk okF
theorem keep : KeepA A := mkA_keep (U := U) sp1_ok (fun (l : TA) y => ⟨(hh l y).drop 0, by kernel_rfl⟩)
end ref02_Sum

/-! instar/instarref02.Seal -/
namespace ref02_Seal
abbrev TA : Type := (((List Int) × Unit) × Unit)
noncomputable def t (l_ : (List Int)) : Tw (List Int) :=
 (.dd (((((List.length l_) * (4 : Nat)) ≤ (140737488355328 : Nat)) ∧ ((List.length l_) ≤ (140737488355328 : Nat)))) inferInstance
  (.opt (ref02_Sum.c l_) fun z1 =>
   (.dd ((((((List.length l_) + (List.length (z1 :: ([] : List (Int))))) * (4 : Nat)) ≤ (140737488355328 : Nat)) ∧ (((List.length l_) + (List.length (z1 :: ([] : List (Int))))) ≤ (140737488355328 : Nat)))) inferInstance
    (.ret (l_ ++ (z1 :: ([] : List (Int)))))
    .no))
  .no)
noncomputable def c (l_ : (List Int)) : Option (List Int) := (t l_).run
def pA : Pt := (.cs (.sl 3) .nl)
def pH : Pt := .nl
def v (l : TA) (y : (List Int)) : AV U := .own 0
def hh (l : TA) (y : (List Int)) : Hp U := [.row 3 y true]
noncomputable def A : AFun U := mkA (U := U) pA pH (X := (List Int)) (fun (l : TA) => c l.1.1) sp1 v hh
noncomputable def body : Code := (Go.Func.body Try.f77).getD .skip
noncomputable def Γ : List (FuncId × AFun U) := [(100, ref02_Sum.A)]
noncomputable def Λ : List (Nat × LFun U) := []
noncomputable def CT : List (Nat × LFun U) := []
def ro : List FuncId := []
def D : Nat → Lv × Lv := dtab []
noncomputable def E : Env U := { E0 with Γ := Γ, Λ := Λ, C := CT, D := D, ro := ro }
theorem hk (R : Type) (l : TA) (K : AV U → Hp U → Option R) : funcA E Try.f77 [] R (pA.mkL l.1) (pH.mkH l.2) K = (t l.1.1).runK fun y => K (v l y) (hh l y) := by kernel_rfl
theorem okF : SoundF Try.prog cc 77 (funcA E Try.f77 []) :=
  funcA_ok (E := E) P_mixed (E0_ok.with Γ Λ CT D ro) (gam_of (all_cons ⟨ref02_Sum.ok, ⟨Try.f100, Try.func100, by kernel_rfl, by kernel_rfl⟩⟩ all_nil) (all_cons (no_keep (by kernel_rfl)) all_nil)) Try.func77 (c := body) (by kernel_rfl)
    (just_by (by kernel_rfl) (by kernel_rfl) all_nil all_nil) []
theorem ok : SoundF Try.prog cc 77 A :=
  mkA_ok (E := E) (p := pA) (q := pH) (t := fun (l : TA) => t l.1.1) sp1_ok hk okF
theorem keep : KeepA A := mkA_keep (U := U) sp1_ok (fun (l : TA) y => ⟨(hh l y).drop 0, by kernel_rfl⟩)
end ref02_Seal

end Go.Proofs.Ytkoidgjgdhpdnaa.Va
