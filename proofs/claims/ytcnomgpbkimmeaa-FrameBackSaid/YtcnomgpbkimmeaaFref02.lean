/- The functions of package ref02, as plain functions, and that the program computes them. Printed by a program of this work out of the evaluator. -/
import Derived.Test.YtcnomgpbkimmeaaEn
import Derived.Tactics
import Derived.Test.YtcnomgpbkimmeaaFref01
namespace Go.Proofs.Ytcnomgpbkimmeaa.Va
open Go
set_option linter.unusedVariables false
set_option maxRecDepth 100000

/-! instar/instarref02.Twin -/
namespace ref02_Twin
abbrev TA : Type := ((Int × Unit) × Unit)
noncomputable def t (n : Int) : Tw Int :=
 (.ret (w32 ((w32 ((w32 (w64 ((65535 : Int) - n))) * (65536 : Int))) + (w32 n))))
noncomputable def c (n : Int) : Option Int := (t n).run
def pA : Pt := (.cs (.int .i64) .nl)
def pH : Pt := .nl
def v (l : TA) (y : Int) : AV U := .im (.int .u32 y)
def hh (l : TA) (y : Int) : Hp U := []
noncomputable def A : AFun U := mkA (U := U) pA pH (X := Int) (fun (l : TA) => c l.1.1) sp1 v hh
noncomputable def body : Code := (Go.Func.body Try.f113).getD .skip
noncomputable def Γ : List (FuncId × AFun U) := []
noncomputable def Λ : List (Nat × LFun U) := []
def D : Nat → Lv × Lv := dtab []
noncomputable def E : Env U := { E0 with Γ := Γ, Λ := Λ, C := [], D := D }
theorem hk (R : Type) (l : TA) (K : AV U → Hp U → Option R) : funcA E Try.f113 [] R (pA.mkL l.1) (pH.mkH l.2) K = (t l.1.1).runK fun y => K (v l y) (hh l y) := by kernel_rfl
theorem okF : SoundF Try.prog cc 113 (funcA E Try.f113 []) :=
  funcA_ok (E := E) P_mixed (E0_ok.with Γ Λ [] D) (gam_of all_nil) Try.func113 (c := body) (by kernel_rfl)
    (just_by (by kernel_rfl) (by kernel_rfl) all_nil all_nil) []
theorem ok : SoundF Try.prog cc 113 A :=
  mkA_ok (E := E) (p := pA) (q := pH) (t := fun (l : TA) => t l.1.1) sp1_ok hk okF
end ref02_Twin

/-! instar/instarref02.Told -/
namespace ref02_Told
abbrev TA : Type := ((Int × Unit) × Unit)
noncomputable def t (x : Int) : Tw (Int × Bool) :=
 (.opt (ref02_Twin.c (w64 (Int.tmod x (65536 : Int)))) fun z1 =>
  (.bb (z1 != x)
   (.ret ((0 : Int), false))
   (.ret ((w64 (Int.tmod x (65536 : Int))), true))))
noncomputable def c (x : Int) : Option (Int × Bool) := (t x).run
def pA : Pt := (.cs (.int .u32) .nl)
def pH : Pt := .nl
def v (l : TA) (y : (Int × Bool)) : AV U := .tup [.im (.int .i64 y.1), .im (.bool y.2)]
def hh (l : TA) (y : (Int × Bool)) : Hp U := []
noncomputable def A : AFun U := mkA (U := U) pA pH (X := (Int × Bool)) (fun (l : TA) => c l.1.1) sp1 v hh
noncomputable def body : Code := (Go.Func.body Try.f116).getD .skip
noncomputable def Γ : List (FuncId × AFun U) := [(113, ref02_Twin.A)]
noncomputable def Λ : List (Nat × LFun U) := []
def D : Nat → Lv × Lv := dtab []
noncomputable def E : Env U := { E0 with Γ := Γ, Λ := Λ, C := [], D := D }
theorem hk (R : Type) (l : TA) (K : AV U → Hp U → Option R) : funcA E Try.f116 [] R (pA.mkL l.1) (pH.mkH l.2) K = (t l.1.1).runK fun y => K (v l y) (hh l y) := by kernel_rfl
theorem okF : SoundF Try.prog cc 116 (funcA E Try.f116 []) :=
  funcA_ok (E := E) P_mixed (E0_ok.with Γ Λ [] D) (gam_of (all_cons ⟨ref02_Twin.ok, ⟨Try.f113, Try.func113, by kernel_rfl, by kernel_rfl⟩⟩ all_nil)) Try.func116 (c := body) (by kernel_rfl)
    (just_by (by kernel_rfl) (by kernel_rfl) all_nil all_nil) []
theorem ok : SoundF Try.prog cc 116 A :=
  mkA_ok (E := E) (p := pA) (q := pH) (t := fun (l : TA) => t l.1.1) sp1_ok hk okF
end ref02_Told

/-! instar/instarref02.Sum -/
namespace ref02_Sum
abbrev TA : Type := (((List Int) × Unit) × Unit)
abbrev T3 : Type := (((List Int) × (Unit × (Int × (Int × (Unit × Unit))))) × Unit)
noncomputable def l3 (l_ : (List Int)) (n : Int) (i : Int) : Tw ((Int × Int) ⊕ Int) :=
 (.bb (decide (i < (((List.length l_) : Nat) : Int)))
  (.dd (((0 : Int) ≤ i)) inferInstance
   (.opt (l_)[(Int.toNat i)]? fun z1 =>
    (.opt (ref01_Ones.c z1) fun z2 =>
     (.ret (.inl ((w32 ((w32 (n + (32 : Int))) - (w32 z2))), (w64 (i + (1 : Int))))))))
   .no)
  (.ret (.inr n)))
noncomputable def L3 (l_ : (List Int)) (n : Int) (i : Int) : Option Int := Lp (fun s => (l3 l_ s.1 s.2).run) (n, i)
def p3 : Pt := (.cs (.sl 3) (.cs (.bots 2) (.cs (.int .u32) (.cs (.int .i64) (.cs (.bots 16) .nl)))))
def q3 : Pt := .nl
def ou3 (l : T3) (y : Int) : Ex × St U := (.exit 0, stOf 21 [(3, .im (.int .u32 y))] [] 0)
noncomputable def Λ3 : LFun U := mkLp (U := U) p3 q3 0 (X := Int) (fun (l : T3) => L3 l.1.1 l.1.2.2.1 l.1.2.2.2.1) sp1 ou3
noncomputable def t (l_ : (List Int)) : Tw Int :=
 (.opt (L3 l_ (0 : Int) (0 : Int)) fun z3 =>
  (.ret z3))
noncomputable def c (l_ : (List Int)) : Option Int := (t l_).run
def pA : Pt := (.cs (.sl 3) .nl)
def pH : Pt := .nl
def v (l : TA) (y : Int) : AV U := .im (.int .u32 y)
def hh (l : TA) (y : Int) : Hp U := []
noncomputable def A : AFun U := mkA (U := U) pA pH (X := Int) (fun (l : TA) => c l.1.1) sp1 v hh
noncomputable def body : Code := (Go.Func.body Try.f147).getD .skip
noncomputable def Γ : List (FuncId × AFun U) := [(153, ref01_Ones.A)]
noncomputable def Λ : List (Nat × LFun U) := [(3, Λ3)]
def D : Nat → Lv × Lv := dtab [(3, ⟨[4, 0, 3], []⟩, ⟨[2, 3], []⟩)]
noncomputable def E : Env U := { E0 with Γ := Γ, Λ := Λ, C := [], D := D }
theorem hf3 (R : Type) (l : T3) (s : (Int × Int)) (K : Ex → St U → Option R) : codeA E (pick (loopsOf body) 3) ⟨p3.mkL (((l.1.1, ((), (s.1, (s.2, ((), ()))))), ()) : T3).1, q3.mkH (((l.1.1, ((), (s.1, (s.2, ((), ()))))), ()) : T3).2, 0⟩ (roundK E (pick (loopsOf body) 3) K) =
  (l3 l.1.1 s.1 s.2).runK (lpK K (fun s => ⟨p3.mkL (((l.1.1, ((), (s.1, (s.2, ((), ()))))), ()) : T3).1, q3.mkH (((l.1.1, ((), (s.1, (s.2, ((), ()))))), ()) : T3).2, 0⟩) sp1 (ou3 l)) := by kernel_rfl
theorem lk3 (R : Type) (st : St U) (K : Ex → St U → Option R) (r : R) (h : Λ3 R st K = some r) : ∃ n, loopA E (pick (loopsOf body) 3) n st K = some r :=
  lp_ok (U := U) (E := E) (b := pick (loopsOf body) 3) (m := 0) (sp := sp1) (p := p3) (q := q3) (X := Int) (S := (Int × Int)) (f := fun (l : T3) s => l3 l.1.1 s.1 s.2) (hd := fun (l : T3) s => ((l.1.1, ((), (s.1, (s.2, ((), ()))))), ())) (s0 := fun (l : T3) => (l.1.2.2.1, l.1.2.2.2.1)) (ou := ou3)
    (fun l => rfl) (fun l x => by rfl) sp1_ok hf3 h
theorem hk (R : Type) (l : TA) (K : AV U → Hp U → Option R) : funcA E Try.f147 [] R (pA.mkL l.1) (pH.mkH l.2) K = (t l.1.1).runK fun y => K (v l y) (hh l y) := by kernel_rfl
theorem okF : SoundF Try.prog cc 147 (funcA E Try.f147 []) :=
  funcA_ok (E := E) P_mixed (E0_ok.with Γ Λ [] D) (gam_of (all_cons ⟨ref01_Ones.ok, ⟨Try.f153, Try.func153, by kernel_rfl, by kernel_rfl⟩⟩ all_nil)) Try.func147 (c := body) (by kernel_rfl)
    (just_by (by kernel_rfl) (by kernel_rfl) (all_cons lk3 all_nil) all_nil) []
theorem ok : SoundF Try.prog cc 147 A :=
  mkA_ok (E := E) (p := pA) (q := pH) (t := fun (l : TA) => t l.1.1) sp1_ok hk okF
end ref02_Sum

/-! instar/instarref02.Seal -/
namespace ref02_Seal
abbrev TA : Type := (((List Int) × Unit) × Unit)
noncomputable def t (l_ : (List Int)) : Tw (List Int) :=
 (.dd (((((List.length l_) * (4 : Nat)) ≤ (140737488355328 : Nat)) ∧ ((List.length l_) ≤ (140737488355328 : Nat)))) inferInstance
  (.opt (ref02_Sum.c l_) fun z1 =>
   (.dd ((((((List.length l_) + (List.length (z1 :: ([] : List Int)))) * (4 : Nat)) ≤ (140737488355328 : Nat)) ∧ (((List.length l_) + (List.length (z1 :: ([] : List Int)))) ≤ (140737488355328 : Nat)))) inferInstance
    (.ret (l_ ++ (z1 :: ([] : List Int))))
    .no))
  .no)
noncomputable def c (l_ : (List Int)) : Option (List Int) := (t l_).run
def pA : Pt := (.cs (.sl 3) .nl)
def pH : Pt := .nl
def v (l : TA) (y : (List Int)) : AV U := .own 0
def hh (l : TA) (y : (List Int)) : Hp U := [.row 3 y true]
noncomputable def A : AFun U := mkA (U := U) pA pH (X := (List Int)) (fun (l : TA) => c l.1.1) sp1 v hh
noncomputable def body : Code := (Go.Func.body Try.f102).getD .skip
noncomputable def Γ : List (FuncId × AFun U) := [(147, ref02_Sum.A)]
noncomputable def Λ : List (Nat × LFun U) := []
def D : Nat → Lv × Lv := dtab []
noncomputable def E : Env U := { E0 with Γ := Γ, Λ := Λ, C := [], D := D }
theorem hk (R : Type) (l : TA) (K : AV U → Hp U → Option R) : funcA E Try.f102 [] R (pA.mkL l.1) (pH.mkH l.2) K = (t l.1.1).runK fun y => K (v l y) (hh l y) := by kernel_rfl
theorem okF : SoundF Try.prog cc 102 (funcA E Try.f102 []) :=
  funcA_ok (E := E) P_mixed (E0_ok.with Γ Λ [] D) (gam_of (all_cons ⟨ref02_Sum.ok, ⟨Try.f147, Try.func147, by kernel_rfl, by kernel_rfl⟩⟩ all_nil)) Try.func102 (c := body) (by kernel_rfl)
    (just_by (by kernel_rfl) (by kernel_rfl) all_nil all_nil) []
theorem ok : SoundF Try.prog cc 102 A :=
  mkA_ok (E := E) (p := pA) (q := pH) (t := fun (l : TA) => t l.1.1) sp1_ok hk okF
end ref02_Seal

end Go.Proofs.Ytcnomgpbkimmeaa.Va
