/- The functions of package zeros, as plain functions, and that the program computes them. Printed by a program of this work out of the evaluator. -/
import Derived.Test.YtkoidgjgdhpdnaaGreatEn
import Derived.Tactics
import Derived.Test.YtkoidgjgdhpdnaaGreatFword
set_option linter.unusedVariables false
namespace Go.Proofs.YtkoidgjgdhpdnaaGreat.Va
noncomputable section
open Go
set_option maxRecDepth 100000

/-! instar/zeros.Twin -/
namespace zeros_Twin
abbrev TA : Type := ((Int × Unit) × Unit)
abbrev XA : Type := (Int × Int)
def t (n : Int) : Tw XA :=
 (.bb (decide (n < (0 : Int)))
 (.ret ((0 : Int), (2 : Int)))
 (.bb (decide (n > (65535 : Int)))
 (.ret ((0 : Int), (2 : Int)))
 (.ret ((bOr .u32 (w32 n) (bShl .u32 (w32 (w64 ((65535 : Int) - n))) (16 : Int))), (0 : Int)))))
def c (n : Int) : Option XA := (t n).run
def tl (l : TA) : Tw XA := t l.1.1
def cl (l : TA) : Option XA := (tl l).run
def pA : Pt := (jC .nl)
def pH : Pt := .nl
def v (l : TA) (y : XA) : AV U := .tup [.im (.int .u32 y.1), jI y.2]
def hh (l : TA) (y : XA) : Hp U := []
def A : AFun U := mkA (U := U) pA pH (X := XA) cl sp1 v hh
def body : Code := (Go.Func.body Tryz.f87).getD .skip
def Γ : List (FuncId × AFun U) := []
def Λ : List (Nat × LFun U) := []
def CT : List (Nat × LFun U) := []
def ro : List FuncId := []
def D : Nat → Lv × Lv := dtab []
def E : Env U := { E0 with Γ := Γ, Λ := Λ, C := CT, D := D, ro := ro }
theorem hk (R : Type) (l : TA) (K : AV U → Hp U → Option R) : funcA E Tryz.f87 [] R (pA.mkL l.1) (pH.mkH l.2) K = (tl l).runK fun y => K (v l y) (hh l y) := by kernel_rfl
theorem okF : SoundF Tryz.prog cc 87 (funcA E Tryz.f87 []) :=
  funcA_ok (E := E) P_mixed (E0_ok.with Γ Λ CT D ro) (gam_of all_nil all_nil) Tryz.func87 (c := body) (by kernel_rfl)
    (just_by (by kernel_rfl) (by kernel_rfl) all_nil all_nil) []
theorem ok : SoundF Tryz.prog cc 87 A :=
  mkA_ok (E := E) (p := pA) (q := pH) (t := tl) sp1_ok hk okF
theorem fo : FnOK Tryz.prog 87 := ⟨Tryz.f87, Tryz.func87, by kernel_rfl, by kernel_rfl⟩
theorem keep : KeepA A := mkA_keep (U := U) sp1_ok (fun (l : TA) y => ⟨(hh l y).drop 0, by kernel_rfl⟩)
end zeros_Twin

/-! instar/zeros.Sum -/
namespace zeros_Sum
abbrev TA : Type := (((List Int) × Unit) × Unit)
abbrev T3 : Type := ((Unit × (Int × (Unit × ((List Int) × (Int × (Int × (Unit × Unit))))))) × Unit)
abbrev S3 : Type := (Int × Int)
def l3 (k6 : (List Int)) (k7 n k8 : Int) : Tw (S3 ⊕ Int) :=
 (.bb (decide (k8 < k7))
 (.dd (((0 : Int) ≤ k8)) inferInstance
 (.opt (k6)[(Int.toNat k8)]? fun z1 =>
 (.opt (word_Ones.c z1) fun z2 =>
 (.ret (.inl ((w64 (n + (w64 ((32 : Int) - z2)))), (w64 (k8 + (1 : Int))))))))
 .no)
 (.ret (.inr n)))
def L3 (n : Int) (k6 : (List Int)) (k7 k8 : Int) : Option Int := Lp (fun s => (l3 k6 k7 s.1 s.2).run) (n, k8)
def p3 : Pt := (.cs (.bots 3) (jC (.cs (.bots 2) (.cs (.sl 3) (jC (jC (.cs (.bots 11) .nl)))))))
def q3 : Pt := .nl
def ou3 (l : T3) (y : Int) : Ex × St U := (.exit 0, stOf 20 [(3, jI y)] [] 0)
def Λ3 : LFun U := mkLp (U := U) p3 q3 0 (X := Int) (fun (l : T3) => L3 l.1.2.1 l.1.2.2.2.1 l.1.2.2.2.2.1 l.1.2.2.2.2.2.1) sp1 ou3
def hd3 (l : T3) (s : S3) : T3 := (((), (s.1, ((), (l.1.2.2.2.1, (l.1.2.2.2.2.1, (s.2, ((), ()))))))), ())
def fl3 (l : T3) (s : S3) : Tw (S3 ⊕ Int) := l3 l.1.2.2.2.1 l.1.2.2.2.2.1 s.1 s.2
def t (l_ : (List Int)) : Tw Int :=
 (.opt (L3 (0 : Int) l_ (((List.length l_) : Nat) : Int) (0 : Int)) fun z3 =>
 (.ret (w32 z3)))
def c (l_ : (List Int)) : Option Int := (t l_).run
def tl (l : TA) : Tw Int := t l.1.1
def cl (l : TA) : Option Int := (tl l).run
def pA : Pt := (.cs (.sl 3) .nl)
def pH : Pt := .nl
def v (l : TA) (y : Int) : AV U := .im (.int .u32 y)
def hh (l : TA) (y : Int) : Hp U := []
def A : AFun U := mkA (U := U) pA pH (X := Int) cl sp1 v hh
def body : Code := (Go.Func.body Tryz.f104).getD .skip
def Γ : List (FuncId × AFun U) := [(109, word_Ones.A)]
def Λ : List (Nat × LFun U) := [(3, Λ3)]
def CT : List (Nat × LFun U) := []
def ro : List FuncId := []
def D : Nat → Lv × Lv := dtab [(3, ⟨[8, 3, 6, 7], []⟩, ⟨[2, 3], []⟩)]
def E : Env U := { E0 with Γ := Γ, Λ := Λ, C := CT, D := D, ro := ro }
theorem hf3 (R : Type) (l : T3) (s : S3) (K : Ex → St U → Option R) : codeA E (pick (loopsOf body) 3) ⟨p3.mkL (hd3 l s).1, q3.mkH (hd3 l s).2, 0⟩ (roundK E (pick (loopsOf body) 3) K) =
  (fl3 l s).runK (lpK K (fun s => ⟨p3.mkL (hd3 l s).1, q3.mkH (hd3 l s).2, 0⟩) sp1 (ou3 l)) := by kernel_rfl
theorem lk3 (R : Type) (st : St U) (K : Ex → St U → Option R) (r : R) (h : Λ3 R st K = some r) : ∃ n, loopA E (pick (loopsOf body) 3) n st K = some r :=
  lp_ok (U := U) (E := E) (b := pick (loopsOf body) 3) (m := 0) (sp := sp1) (p := p3) (q := q3) (X := Int) (S := S3) (f := fl3) (hd := hd3) (s0 := fun (l : T3) => (l.1.2.1, l.1.2.2.2.2.2.1)) (ou := ou3)
    (fun l => rfl) (fun l x => by rfl) sp1_ok hf3 h
theorem hk (R : Type) (l : TA) (K : AV U → Hp U → Option R) : funcA E Tryz.f104 [] R (pA.mkL l.1) (pH.mkH l.2) K = (tl l).runK fun y => K (v l y) (hh l y) := by kernel_rfl
theorem okF : SoundF Tryz.prog cc 104 (funcA E Tryz.f104 []) :=
  funcA_ok (E := E) P_mixed (E0_ok.with Γ Λ CT D ro) (gam_of (all_cons ⟨word_Ones.ok, word_Ones.fo⟩ all_nil) no_ro) Tryz.func104 (c := body) (by kernel_rfl)
    (just_by (by kernel_rfl) (by kernel_rfl) (all_cons lk3 all_nil) all_nil) []
theorem ok : SoundF Tryz.prog cc 104 A :=
  mkA_ok (E := E) (p := pA) (q := pH) (t := tl) sp1_ok hk okF
theorem fo : FnOK Tryz.prog 104 := ⟨Tryz.f104, Tryz.func104, by kernel_rfl, by kernel_rfl⟩
theorem keep : KeepA A := mkA_keep (U := U) sp1_ok (fun (l : TA) y => ⟨(hh l y).drop 0, by kernel_rfl⟩)
end zeros_Sum

/-! instar/zeros.Seal -/
namespace zeros_Seal
abbrev TA : Type := (((List Int) × Unit) × Unit)
def t (l_ : (List Int)) : Tw (List Int) :=
 (.dd ((((0 : Int) ≤ (w64 ((((List.length l_) : Nat) : Int) + (1 : Int)))) ∧ (((w64 ((((List.length l_) : Nat) : Int) + (1 : Int))) ≤ (w64 ((((List.length l_) : Nat) : Int) + (1 : Int)))) ∧ (((w64 ((((List.length l_) : Nat) : Int) + (1 : Int))) ≤ (140737488355328 : Int)) ∧ (((w64 ((((List.length l_) : Nat) : Int) + (1 : Int))) * (((4 : Nat) : Nat) : Int)) ≤ (140737488355328 : Int)))))) inferInstance
 (.opt (zeros_Sum.c l_) fun z1 =>
 (.dd ((((0 : Int) ≤ (((List.length l_) : Nat) : Int)) ∧ ((((List.length l_) : Nat) : Int) < (((List.length ((List.take (List.length (List.replicate (Int.toNat (w64 ((((List.length l_) : Nat) : Int) + (1 : Int)))) (0 : Int))) l_) ++ (List.drop (List.length l_) (List.replicate (Int.toNat (w64 ((((List.length l_) : Nat) : Int) + (1 : Int)))) (0 : Int))))) : Nat) : Int)))) inferInstance
 (.opt (((List.take (List.length (List.replicate (Int.toNat (w64 ((((List.length l_) : Nat) : Int) + (1 : Int)))) (0 : Int))) l_) ++ (List.drop (List.length l_) (List.replicate (Int.toNat (w64 ((((List.length l_) : Nat) : Int) + (1 : Int)))) (0 : Int)))))[(Int.toNat (((List.length l_) : Nat) : Int))]? fun z2 =>
 (.ret (List.set ((List.take (List.length (List.replicate (Int.toNat (w64 ((((List.length l_) : Nat) : Int) + (1 : Int)))) (0 : Int))) l_) ++ (List.drop (List.length l_) (List.replicate (Int.toNat (w64 ((((List.length l_) : Nat) : Int) + (1 : Int)))) (0 : Int)))) (Int.toNat (((List.length l_) : Nat) : Int)) z1)))
 .no))
 .no)
def c (l_ : (List Int)) : Option (List Int) := (t l_).run
def tl (l : TA) : Tw (List Int) := t l.1.1
def cl (l : TA) : Option (List Int) := (tl l).run
def pA : Pt := (.cs (.sl 3) .nl)
def pH : Pt := .nl
def v (l : TA) (y : (List Int)) : AV U := .own 0
def hh (l : TA) (y : (List Int)) : Hp U := [.row 3 y true]
def A : AFun U := mkA (U := U) pA pH (X := (List Int)) cl sp1 v hh
def body : Code := (Go.Func.body Tryz.f88).getD .skip
def Γ : List (FuncId × AFun U) := [(104, zeros_Sum.A)]
def Λ : List (Nat × LFun U) := []
def CT : List (Nat × LFun U) := []
def ro : List FuncId := []
def D : Nat → Lv × Lv := dtab []
def E : Env U := { E0 with Γ := Γ, Λ := Λ, C := CT, D := D, ro := ro }
theorem hk (R : Type) (l : TA) (K : AV U → Hp U → Option R) : funcA E Tryz.f88 [] R (pA.mkL l.1) (pH.mkH l.2) K = (tl l).runK fun y => K (v l y) (hh l y) := by kernel_rfl
theorem okF : SoundF Tryz.prog cc 88 (funcA E Tryz.f88 []) :=
  funcA_ok (E := E) P_mixed (E0_ok.with Γ Λ CT D ro) (gam_of (all_cons ⟨zeros_Sum.ok, zeros_Sum.fo⟩ all_nil) no_ro) Tryz.func88 (c := body) (by kernel_rfl)
    (just_by (by kernel_rfl) (by kernel_rfl) all_nil all_nil) []
theorem ok : SoundF Tryz.prog cc 88 A :=
  mkA_ok (E := E) (p := pA) (q := pH) (t := tl) sp1_ok hk okF
theorem fo : FnOK Tryz.prog 88 := ⟨Tryz.f88, Tryz.func88, by kernel_rfl, by kernel_rfl⟩
theorem keep : KeepA A := mkA_keep (U := U) sp1_ok (fun (l : TA) y => ⟨(hh l y).drop 0, by kernel_rfl⟩)
end zeros_Seal

/-! instar/zeros.Told -/
namespace zeros_Told
abbrev TA : Type := ((Int × Unit) × Unit)
abbrev XA : Type := (Int × Bool)
def t (x : Int) : Tw XA :=
 (.bb ((bShr .u32 x (16 : Int)) != (bAnd .u32 (bNot .u32 x) (65535 : Int)))
 (.ret ((0 : Int), false))
 (.ret ((w64 (bAnd .u32 x (65535 : Int))), true)))
def c (x : Int) : Option XA := (t x).run
def tl (l : TA) : Tw XA := t l.1.1
def cl (l : TA) : Option XA := (tl l).run
def pA : Pt := (.cs (.int .u32) .nl)
def pH : Pt := .nl
def v (l : TA) (y : XA) : AV U := .tup [jI y.1, jB y.2]
def hh (l : TA) (y : XA) : Hp U := []
def A : AFun U := mkA (U := U) pA pH (X := XA) cl sp1 v hh
def body : Code := (Go.Func.body Tryz.f82).getD .skip
def Γ : List (FuncId × AFun U) := []
def Λ : List (Nat × LFun U) := []
def CT : List (Nat × LFun U) := []
def ro : List FuncId := []
def D : Nat → Lv × Lv := dtab []
def E : Env U := { E0 with Γ := Γ, Λ := Λ, C := CT, D := D, ro := ro }
theorem hk (R : Type) (l : TA) (K : AV U → Hp U → Option R) : funcA E Tryz.f82 [] R (pA.mkL l.1) (pH.mkH l.2) K = (tl l).runK fun y => K (v l y) (hh l y) := by kernel_rfl
theorem okF : SoundF Tryz.prog cc 82 (funcA E Tryz.f82 []) :=
  funcA_ok (E := E) P_mixed (E0_ok.with Γ Λ CT D ro) (gam_of all_nil all_nil) Tryz.func82 (c := body) (by kernel_rfl)
    (just_by (by kernel_rfl) (by kernel_rfl) all_nil all_nil) []
theorem ok : SoundF Tryz.prog cc 82 A :=
  mkA_ok (E := E) (p := pA) (q := pH) (t := tl) sp1_ok hk okF
theorem fo : FnOK Tryz.prog 82 := ⟨Tryz.f82, Tryz.func82, by kernel_rfl, by kernel_rfl⟩
theorem keep : KeepA A := mkA_keep (U := U) sp1_ok (fun (l : TA) y => ⟨(hh l y).drop 0, by kernel_rfl⟩)
end zeros_Told

/-! instar/zeros.Right -/
namespace zeros_Right
abbrev TA : Type := (((List Int) × Unit) × Unit)
def t (l_ : (List Int)) : Tw Bool :=
 (.bb (decide ((w64 ((((List.length l_) : Nat) : Int) - (1 : Int))) ≥ (0 : Int)))
 (.dd (((0 : Int) ≤ (w64 ((((List.length l_) : Nat) : Int) - (1 : Int))))) inferInstance
 (.opt (l_)[(Int.toNat (w64 ((((List.length l_) : Nat) : Int) - (1 : Int))))]? fun z1 =>
 (.dd ((((0 : Int) ≤ (w64 ((((List.length l_) : Nat) : Int) - (1 : Int)))) ∧ ((w64 ((((List.length l_) : Nat) : Int) - (1 : Int))) ≤ (((List.length l_) : Nat) : Int)))) inferInstance
 (.opt (zeros_Sum.c (List.take (Int.toNat (w64 ((((List.length l_) : Nat) : Int) - (1 : Int)))) l_)) fun z2 =>
 (.ret (z1 == z2)))
 .no))
 .no)
 (.ret false))
def c (l_ : (List Int)) : Option Bool := (t l_).run
def tl (l : TA) : Tw Bool := t l.1.1
def cl (l : TA) : Option Bool := (tl l).run
def pA : Pt := (.cs (.sl 3) .nl)
def pH : Pt := .nl
def v (l : TA) (y : Bool) : AV U := jB y
def hh (l : TA) (y : Bool) : Hp U := []
def A : AFun U := mkA (U := U) pA pH (X := Bool) cl sp1 v hh
def body : Code := (Go.Func.body Tryz.f83).getD .skip
def Γ : List (FuncId × AFun U) := [(104, zeros_Sum.A)]
def Λ : List (Nat × LFun U) := []
def CT : List (Nat × LFun U) := []
def ro : List FuncId := []
def D : Nat → Lv × Lv := dtab []
def E : Env U := { E0 with Γ := Γ, Λ := Λ, C := CT, D := D, ro := ro }
theorem hk (R : Type) (l : TA) (K : AV U → Hp U → Option R) : funcA E Tryz.f83 [] R (pA.mkL l.1) (pH.mkH l.2) K = (tl l).runK fun y => K (v l y) (hh l y) := by kernel_rfl
theorem okF : SoundF Tryz.prog cc 83 (funcA E Tryz.f83 []) :=
  funcA_ok (E := E) P_mixed (E0_ok.with Γ Λ CT D ro) (gam_of (all_cons ⟨zeros_Sum.ok, zeros_Sum.fo⟩ all_nil) no_ro) Tryz.func83 (c := body) (by kernel_rfl)
    (just_by (by kernel_rfl) (by kernel_rfl) all_nil all_nil) []
theorem ok : SoundF Tryz.prog cc 83 A :=
  mkA_ok (E := E) (p := pA) (q := pH) (t := tl) sp1_ok hk okF
theorem fo : FnOK Tryz.prog 83 := ⟨Tryz.f83, Tryz.func83, by kernel_rfl, by kernel_rfl⟩
theorem keep : KeepA A := mkA_keep (U := U) sp1_ok (fun (l : TA) y => ⟨(hh l y).drop 0, by kernel_rfl⟩)
end zeros_Right

end
end Go.Proofs.YtkoidgjgdhpdnaaGreat.Va
