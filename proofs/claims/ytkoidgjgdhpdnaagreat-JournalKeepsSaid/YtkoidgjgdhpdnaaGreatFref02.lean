/- The functions of package ref02, as plain functions, and that the program computes them. Printed by a program of this work out of the evaluator. -/
import Derived.Test.YtkoidgjgdhpdnaaGreatEn
import Derived.Tactics
import Derived.Test.YtkoidgjgdhpdnaaGreatFref01
set_option linter.unusedVariables false
namespace Go.Proofs.YtkoidgjgdhpdnaaGreat.Va
noncomputable section
open Go
set_option maxRecDepth 100000

/-! instar/instarref02.Twin -/
namespace ref02_Twin
abbrev TA : Type := ((Int × Unit) × Unit)
def t (n : Int) : Tw Int :=
 (.ret (w32 ((w32 ((w32 (w64 ((65535 : Int) - n))) * (65536 : Int))) + (w32 n))))
def c (n : Int) : Option Int := (t n).run
def tl (l : TA) : Tw Int := t l.1.1
def cl (l : TA) : Option Int := (tl l).run
def pA : Pt := (jC .nl)
def pH : Pt := .nl
def v (l : TA) (y : Int) : AV U := .im (.int .u32 y)
def hh (l : TA) (y : Int) : Hp U := []
def A : AFun U := mkA (U := U) pA pH (X := Int) cl sp1 v hh
def body : Code := (Go.Func.body Tryz.f75).getD .skip
def Γ : List (FuncId × AFun U) := []
def Λ : List (Nat × LFun U) := []
def CT : List (Nat × LFun U) := []
def ro : List FuncId := []
def D : Nat → Lv × Lv := dtab []
def E : Env U := { E0 with Γ := Γ, Λ := Λ, C := CT, D := D, ro := ro }
theorem hk (R : Type) (l : TA) (K : AV U → Hp U → Option R) : funcA E Tryz.f75 [] R (pA.mkL l.1) (pH.mkH l.2) K = (tl l).runK fun y => K (v l y) (hh l y) := by kernel_rfl
theorem okF : SoundF Tryz.prog cc 75 (funcA E Tryz.f75 []) :=
  funcA_ok (E := E) P_mixed (E0_ok.with Γ Λ CT D ro) (gam_of all_nil all_nil) Tryz.func75 (c := body) (by kernel_rfl)
    (just_by (by kernel_rfl) (by kernel_rfl) all_nil all_nil) []
theorem ok : SoundF Tryz.prog cc 75 A :=
  mkA_ok (E := E) (p := pA) (q := pH) (t := tl) sp1_ok hk okF
theorem fo : FnOK Tryz.prog 75 := ⟨Tryz.f75, Tryz.func75, by kernel_rfl, by kernel_rfl⟩
theorem keep : KeepA A := mkA_keep (U := U) sp1_ok (fun (l : TA) y => ⟨(hh l y).drop 0, by kernel_rfl⟩)
end ref02_Twin

/-! instar/instarref02.Sum -/
namespace ref02_Sum
abbrev TA : Type := (((List Int) × Unit) × Unit)
abbrev T3 : Type := (((List Int) × (Unit × (Int × (Int × (Unit × Unit))))) × Unit)
abbrev S3 : Type := (Int × Int)
def l3 (l_ : (List Int)) (n i : Int) : Tw (S3 ⊕ Int) :=
 (.bb (decide (i < (((List.length l_) : Nat) : Int)))
 (.dd (((0 : Int) ≤ i)) inferInstance
 (.opt (l_)[(Int.toNat i)]? fun z1 =>
 (.opt (ref01_Ones.c z1) fun z2 =>
 (.ret (.inl ((w32 ((w32 (n + (32 : Int))) - (w32 z2))), (w64 (i + (1 : Int))))))))
 .no)
 (.ret (.inr n)))
def L3 (l_ : (List Int)) (n i : Int) : Option Int := Lp (fun s => (l3 l_ s.1 s.2).run) (n, i)
def p3 : Pt := (.cs (.sl 3) (.cs (.bots 2) (.cs (.int .u32) (jC (.cs (.bots 16) .nl)))))
def q3 : Pt := .nl
def ou3 (l : T3) (y : Int) : Ex × St U := (.exit 0, stOf 21 [(3, .im (.int .u32 y))] [] 0)
def Λ3 : LFun U := mkLp (U := U) p3 q3 0 (X := Int) (fun (l : T3) => L3 l.1.1 l.1.2.2.1 l.1.2.2.2.1) sp1 ou3
def hd3 (l : T3) (s : S3) : T3 := ((l.1.1, ((), (s.1, (s.2, ((), ()))))), ())
def fl3 (l : T3) (s : S3) : Tw (S3 ⊕ Int) := l3 l.1.1 s.1 s.2
def t (l_ : (List Int)) : Tw Int :=
 (.opt (L3 l_ (0 : Int) (0 : Int)) fun z3 =>
 (.ret z3))
def c (l_ : (List Int)) : Option Int := (t l_).run
def tl (l : TA) : Tw Int := t l.1.1
def cl (l : TA) : Option Int := (tl l).run
def pA : Pt := (.cs (.sl 3) .nl)
def pH : Pt := .nl
def v (l : TA) (y : Int) : AV U := .im (.int .u32 y)
def hh (l : TA) (y : Int) : Hp U := []
def A : AFun U := mkA (U := U) pA pH (X := Int) cl sp1 v hh
def body : Code := (Go.Func.body Tryz.f99).getD .skip
def Γ : List (FuncId × AFun U) := [(108, ref01_Ones.A)]
def Λ : List (Nat × LFun U) := [(3, Λ3)]
def CT : List (Nat × LFun U) := []
def ro : List FuncId := []
def D : Nat → Lv × Lv := dtab [(3, ⟨[4, 0, 3], []⟩, ⟨[2, 3], []⟩)]
def E : Env U := { E0 with Γ := Γ, Λ := Λ, C := CT, D := D, ro := ro }
theorem hf3 (R : Type) (l : T3) (s : S3) (K : Ex → St U → Option R) : codeA E (pick (loopsOf body) 3) ⟨p3.mkL (hd3 l s).1, q3.mkH (hd3 l s).2, 0⟩ (roundK E (pick (loopsOf body) 3) K) =
  (fl3 l s).runK (lpK K (fun s => ⟨p3.mkL (hd3 l s).1, q3.mkH (hd3 l s).2, 0⟩) sp1 (ou3 l)) := by kernel_rfl
theorem lk3 (R : Type) (st : St U) (K : Ex → St U → Option R) (r : R) (h : Λ3 R st K = some r) : ∃ n, loopA E (pick (loopsOf body) 3) n st K = some r :=
  lp_ok (U := U) (E := E) (b := pick (loopsOf body) 3) (m := 0) (sp := sp1) (p := p3) (q := q3) (X := Int) (S := S3) (f := fl3) (hd := hd3) (s0 := fun (l : T3) => (l.1.2.2.1, l.1.2.2.2.1)) (ou := ou3)
    (fun l => rfl) (fun l x => by rfl) sp1_ok hf3 h
theorem hk (R : Type) (l : TA) (K : AV U → Hp U → Option R) : funcA E Tryz.f99 [] R (pA.mkL l.1) (pH.mkH l.2) K = (tl l).runK fun y => K (v l y) (hh l y) := by kernel_rfl
theorem okF : SoundF Tryz.prog cc 99 (funcA E Tryz.f99 []) :=
  funcA_ok (E := E) P_mixed (E0_ok.with Γ Λ CT D ro) (gam_of (all_cons ⟨ref01_Ones.ok, ref01_Ones.fo⟩ all_nil) no_ro) Tryz.func99 (c := body) (by kernel_rfl)
    (just_by (by kernel_rfl) (by kernel_rfl) (all_cons lk3 all_nil) all_nil) []
theorem ok : SoundF Tryz.prog cc 99 A :=
  mkA_ok (E := E) (p := pA) (q := pH) (t := tl) sp1_ok hk okF
theorem fo : FnOK Tryz.prog 99 := ⟨Tryz.f99, Tryz.func99, by kernel_rfl, by kernel_rfl⟩
theorem keep : KeepA A := mkA_keep (U := U) sp1_ok (fun (l : TA) y => ⟨(hh l y).drop 0, by kernel_rfl⟩)
end ref02_Sum

/-! instar/instarref02.Seal -/
namespace ref02_Seal
abbrev TA : Type := (((List Int) × Unit) × Unit)
def t (l_ : (List Int)) : Tw (List Int) :=
 (.dd (((((List.length l_) * (4 : Nat)) ≤ (140737488355328 : Nat)) ∧ ((List.length l_) ≤ (140737488355328 : Nat)))) inferInstance
 (.opt (ref02_Sum.c l_) fun z1 =>
 (.dd ((((((List.length l_) + (List.length (z1 :: ([] : List (Int))))) * (4 : Nat)) ≤ (140737488355328 : Nat)) ∧ (((List.length l_) + (List.length (z1 :: ([] : List (Int))))) ≤ (140737488355328 : Nat)))) inferInstance
 (.ret (l_ ++ (z1 :: ([] : List (Int)))))
 .no))
 .no)
def c (l_ : (List Int)) : Option (List Int) := (t l_).run
def tl (l : TA) : Tw (List Int) := t l.1.1
def cl (l : TA) : Option (List Int) := (tl l).run
def pA : Pt := (.cs (.sl 3) .nl)
def pH : Pt := .nl
def v (l : TA) (y : (List Int)) : AV U := .own 0
def hh (l : TA) (y : (List Int)) : Hp U := [.row 3 y true]
def A : AFun U := mkA (U := U) pA pH (X := (List Int)) cl sp1 v hh
def body : Code := (Go.Func.body Tryz.f76).getD .skip
def Γ : List (FuncId × AFun U) := [(99, ref02_Sum.A)]
def Λ : List (Nat × LFun U) := []
def CT : List (Nat × LFun U) := []
def ro : List FuncId := []
def D : Nat → Lv × Lv := dtab []
def E : Env U := { E0 with Γ := Γ, Λ := Λ, C := CT, D := D, ro := ro }
theorem hk (R : Type) (l : TA) (K : AV U → Hp U → Option R) : funcA E Tryz.f76 [] R (pA.mkL l.1) (pH.mkH l.2) K = (tl l).runK fun y => K (v l y) (hh l y) := by kernel_rfl
theorem okF : SoundF Tryz.prog cc 76 (funcA E Tryz.f76 []) :=
  funcA_ok (E := E) P_mixed (E0_ok.with Γ Λ CT D ro) (gam_of (all_cons ⟨ref02_Sum.ok, ref02_Sum.fo⟩ all_nil) no_ro) Tryz.func76 (c := body) (by kernel_rfl)
    (just_by (by kernel_rfl) (by kernel_rfl) all_nil all_nil) []
theorem ok : SoundF Tryz.prog cc 76 A :=
  mkA_ok (E := E) (p := pA) (q := pH) (t := tl) sp1_ok hk okF
theorem fo : FnOK Tryz.prog 76 := ⟨Tryz.f76, Tryz.func76, by kernel_rfl, by kernel_rfl⟩
theorem keep : KeepA A := mkA_keep (U := U) sp1_ok (fun (l : TA) y => ⟨(hh l y).drop 0, by kernel_rfl⟩)
end ref02_Seal

/-! instar/instarref02.Told -/
namespace ref02_Told
abbrev TA : Type := ((Int × Unit) × Unit)
abbrev XA : Type := (Int × Bool)
def t (x : Int) : Tw XA :=
 (.opt (ref02_Twin.c (w64 (Int.tmod x (65536 : Int)))) fun z1 =>
 (.bb (z1 != x)
 (.ret ((0 : Int), false))
 (.ret ((w64 (Int.tmod x (65536 : Int))), true))))
def c (x : Int) : Option XA := (t x).run
def tl (l : TA) : Tw XA := t l.1.1
def cl (l : TA) : Option XA := (tl l).run
def pA : Pt := (.cs (.int .u32) .nl)
def pH : Pt := .nl
def v (l : TA) (y : XA) : AV U := .tup [jI y.1, jB y.2]
def hh (l : TA) (y : XA) : Hp U := []
def A : AFun U := mkA (U := U) pA pH (X := XA) cl sp1 v hh
def body : Code := (Go.Func.body Tryz.f97).getD .skip
def Γ : List (FuncId × AFun U) := [(75, ref02_Twin.A)]
def Λ : List (Nat × LFun U) := []
def CT : List (Nat × LFun U) := []
def ro : List FuncId := []
def D : Nat → Lv × Lv := dtab []
def E : Env U := { E0 with Γ := Γ, Λ := Λ, C := CT, D := D, ro := ro }
theorem hk (R : Type) (l : TA) (K : AV U → Hp U → Option R) : funcA E Tryz.f97 [] R (pA.mkL l.1) (pH.mkH l.2) K = (tl l).runK fun y => K (v l y) (hh l y) := by kernel_rfl
theorem okF : SoundF Tryz.prog cc 97 (funcA E Tryz.f97 []) :=
  funcA_ok (E := E) P_mixed (E0_ok.with Γ Λ CT D ro) (gam_of (all_cons ⟨ref02_Twin.ok, ref02_Twin.fo⟩ all_nil) no_ro) Tryz.func97 (c := body) (by kernel_rfl)
    (just_by (by kernel_rfl) (by kernel_rfl) all_nil all_nil) []
theorem ok : SoundF Tryz.prog cc 97 A :=
  mkA_ok (E := E) (p := pA) (q := pH) (t := tl) sp1_ok hk okF
theorem fo : FnOK Tryz.prog 97 := ⟨Tryz.f97, Tryz.func97, by kernel_rfl, by kernel_rfl⟩
theorem keep : KeepA A := mkA_keep (U := U) sp1_ok (fun (l : TA) y => ⟨(hh l y).drop 0, by kernel_rfl⟩)
end ref02_Told

end
end Go.Proofs.YtkoidgjgdhpdnaaGreat.Va
