/- The functions of package word, as plain functions, and that the program computes them. Printed by a program of this work out of the evaluator. -/
import Derived.Test.YtkoidgjgdhpdnaaGreatEn
import Derived.Tactics
set_option linter.unusedVariables false
namespace Go.Proofs.YtkoidgjgdhpdnaaGreat.Va
noncomputable section
open Go
set_option maxRecDepth 100000

/-! instar/word.Raised -/
namespace word_Raised
abbrev TA : Type := ((Int × (Int × Unit)) × Unit)
def t (was mask : Int) : Tw Int :=
 (.ret (bOr .u32 was mask))
def c (was mask : Int) : Option Int := (t was mask).run
def tl (l : TA) : Tw Int := t l.1.1 l.1.2.1
def cl (l : TA) : Option Int := (tl l).run
def pA : Pt := (.cs (.int .u32) (.cs (.int .u32) .nl))
def pH : Pt := .nl
def v (l : TA) (y : Int) : AV U := .im (.int .u32 y)
def hh (l : TA) (y : Int) : Hp U := []
def A : AFun U := mkA (U := U) pA pH (X := Int) cl sp1 v hh
def body : Code := (Go.Func.body Tryz.f94).getD .skip
def Γ : List (FuncId × AFun U) := []
def Λ : List (Nat × LFun U) := []
def CT : List (Nat × LFun U) := []
def ro : List FuncId := []
def D : Nat → Lv × Lv := dtab []
def E : Env U := { E0 with Γ := Γ, Λ := Λ, C := CT, D := D, ro := ro }
theorem hk (R : Type) (l : TA) (K : AV U → Hp U → Option R) : funcA E Tryz.f94 [] R (pA.mkL l.1) (pH.mkH l.2) K = (tl l).runK fun y => K (v l y) (hh l y) := by kernel_rfl
theorem okF : SoundF Tryz.prog cc 94 (funcA E Tryz.f94 []) :=
  funcA_ok (E := E) P_mixed (E0_ok.with Γ Λ CT D ro) (gam_of all_nil all_nil) Tryz.func94 (c := body) (by kernel_rfl)
    (just_by (by kernel_rfl) (by kernel_rfl) all_nil all_nil) []
theorem ok : SoundF Tryz.prog cc 94 A :=
  mkA_ok (E := E) (p := pA) (q := pH) (t := tl) sp1_ok hk okF
theorem fo : FnOK Tryz.prog 94 := ⟨Tryz.f94, Tryz.func94, by kernel_rfl, by kernel_rfl⟩
theorem keep : KeepA A := mkA_keep (U := U) sp1_ok (fun (l : TA) y => ⟨(hh l y).drop 0, by kernel_rfl⟩)
end word_Raised

/-! instar/word.Ones -/
namespace word_Ones
abbrev TA : Type := ((Int × Unit) × Unit)
abbrev T2 : Type := ((Int × (Unit × (Int × (Unit × Unit)))) × Unit)
abbrev S2 : Type := (Int × Int)
def l2 (x n : Int) : Tw (S2 ⊕ Int) :=
 (.bb (x != (0 : Int))
 (.ret (.inl ((bAnd .u32 x (w32 (x - (1 : Int)))), (w64 (n + (1 : Int))))))
 (.ret (.inr n)))
def L2 (x n : Int) : Option Int := Lp (fun s => (l2 s.1 s.2).run) (x, n)
def p2 : Pt := (.cs (.int .u32) (.cs (.bots 2) (jC (.cs (.bots 9) .nl))))
def q2 : Pt := .nl
def ou2 (l : T2) (y : Int) : Ex × St U := (.exit 0, stOf 13 [(3, jI y)] [] 0)
def Λ2 : LFun U := mkLp (U := U) p2 q2 0 (X := Int) (fun (l : T2) => L2 l.1.1 l.1.2.2.1) sp1 ou2
def hd2 (l : T2) (s : S2) : T2 := ((s.1, ((), (s.2, ((), ())))), ())
def fl2 (l : T2) (s : S2) : Tw (S2 ⊕ Int) := l2 s.1 s.2
def t (x : Int) : Tw Int :=
 (.opt (L2 x (0 : Int)) fun z1 =>
 (.ret z1))
def c (x : Int) : Option Int := (t x).run
def tl (l : TA) : Tw Int := t l.1.1
def cl (l : TA) : Option Int := (tl l).run
def pA : Pt := (.cs (.int .u32) .nl)
def pH : Pt := .nl
def v (l : TA) (y : Int) : AV U := jI y
def hh (l : TA) (y : Int) : Hp U := []
def A : AFun U := mkA (U := U) pA pH (X := Int) cl sp1 v hh
def body : Code := (Go.Func.body Tryz.f109).getD .skip
def Γ : List (FuncId × AFun U) := []
def Λ : List (Nat × LFun U) := [(2, Λ2)]
def CT : List (Nat × LFun U) := []
def ro : List FuncId := []
def D : Nat → Lv × Lv := dtab [(2, ⟨[0, 3], []⟩, ⟨[2, 3], []⟩)]
def E : Env U := { E0 with Γ := Γ, Λ := Λ, C := CT, D := D, ro := ro }
theorem hf2 (R : Type) (l : T2) (s : S2) (K : Ex → St U → Option R) : codeA E (pick (loopsOf body) 2) ⟨p2.mkL (hd2 l s).1, q2.mkH (hd2 l s).2, 0⟩ (roundK E (pick (loopsOf body) 2) K) =
  (fl2 l s).runK (lpK K (fun s => ⟨p2.mkL (hd2 l s).1, q2.mkH (hd2 l s).2, 0⟩) sp1 (ou2 l)) := by kernel_rfl
theorem lk2 (R : Type) (st : St U) (K : Ex → St U → Option R) (r : R) (h : Λ2 R st K = some r) : ∃ n, loopA E (pick (loopsOf body) 2) n st K = some r :=
  lp_ok (U := U) (E := E) (b := pick (loopsOf body) 2) (m := 0) (sp := sp1) (p := p2) (q := q2) (X := Int) (S := S2) (f := fl2) (hd := hd2) (s0 := fun (l : T2) => (l.1.1, l.1.2.2.1)) (ou := ou2)
    (fun l => rfl) (fun l x => by rfl) sp1_ok hf2 h
theorem hk (R : Type) (l : TA) (K : AV U → Hp U → Option R) : funcA E Tryz.f109 [] R (pA.mkL l.1) (pH.mkH l.2) K = (tl l).runK fun y => K (v l y) (hh l y) := by kernel_rfl
theorem okF : SoundF Tryz.prog cc 109 (funcA E Tryz.f109 []) :=
  funcA_ok (E := E) P_mixed (E0_ok.with Γ Λ CT D ro) (gam_of all_nil all_nil) Tryz.func109 (c := body) (by kernel_rfl)
    (just_by (by kernel_rfl) (by kernel_rfl) (all_cons lk2 all_nil) all_nil) []
theorem ok : SoundF Tryz.prog cc 109 A :=
  mkA_ok (E := E) (p := pA) (q := pH) (t := tl) sp1_ok hk okF
theorem fo : FnOK Tryz.prog 109 := ⟨Tryz.f109, Tryz.func109, by kernel_rfl, by kernel_rfl⟩
theorem keep : KeepA A := mkA_keep (U := U) sp1_ok (fun (l : TA) y => ⟨(hh l y).drop 0, by kernel_rfl⟩)
end word_Ones

/-! instar/word.Within -/
namespace word_Within
abbrev TA : Type := ((Int × (Int × Unit)) × Unit)
def t (a b : Int) : Tw Bool :=
 (.ret ((bAndn .u32 a b) == (0 : Int)))
def c (a b : Int) : Option Bool := (t a b).run
def tl (l : TA) : Tw Bool := t l.1.1 l.1.2.1
def cl (l : TA) : Option Bool := (tl l).run
def pA : Pt := (.cs (.int .u32) (.cs (.int .u32) .nl))
def pH : Pt := .nl
def v (l : TA) (y : Bool) : AV U := jB y
def hh (l : TA) (y : Bool) : Hp U := []
def A : AFun U := mkA (U := U) pA pH (X := Bool) cl sp1 v hh
def body : Code := (Go.Func.body Tryz.f89).getD .skip
def Γ : List (FuncId × AFun U) := []
def Λ : List (Nat × LFun U) := []
def CT : List (Nat × LFun U) := []
def ro : List FuncId := []
def D : Nat → Lv × Lv := dtab []
def E : Env U := { E0 with Γ := Γ, Λ := Λ, C := CT, D := D, ro := ro }
theorem hk (R : Type) (l : TA) (K : AV U → Hp U → Option R) : funcA E Tryz.f89 [] R (pA.mkL l.1) (pH.mkH l.2) K = (tl l).runK fun y => K (v l y) (hh l y) := by kernel_rfl
theorem okF : SoundF Tryz.prog cc 89 (funcA E Tryz.f89 []) :=
  funcA_ok (E := E) P_mixed (E0_ok.with Γ Λ CT D ro) (gam_of all_nil all_nil) Tryz.func89 (c := body) (by kernel_rfl)
    (just_by (by kernel_rfl) (by kernel_rfl) all_nil all_nil) []
theorem ok : SoundF Tryz.prog cc 89 A :=
  mkA_ok (E := E) (p := pA) (q := pH) (t := tl) sp1_ok hk okF
theorem fo : FnOK Tryz.prog 89 := ⟨Tryz.f89, Tryz.func89, by kernel_rfl, by kernel_rfl⟩
theorem keep : KeepA A := mkA_keep (U := U) sp1_ok (fun (l : TA) y => ⟨(hh l y).drop 0, by kernel_rfl⟩)
end word_Within

/-! instar/word.Torn -/
namespace word_Torn
abbrev TA : Type := ((Int × (Int × (Int × Unit))) × Unit)
def t (was x mask : Int) : Tw Int :=
 (.ret (bAndn .u32 was (bAndn .u32 mask x)))
def c (was x mask : Int) : Option Int := (t was x mask).run
def tl (l : TA) : Tw Int := t l.1.1 l.1.2.1 l.1.2.2.1
def cl (l : TA) : Option Int := (tl l).run
def pA : Pt := (.cs (.int .u32) (.cs (.int .u32) (.cs (.int .u32) .nl)))
def pH : Pt := .nl
def v (l : TA) (y : Int) : AV U := .im (.int .u32 y)
def hh (l : TA) (y : Int) : Hp U := []
def A : AFun U := mkA (U := U) pA pH (X := Int) cl sp1 v hh
def body : Code := (Go.Func.body Tryz.f106).getD .skip
def Γ : List (FuncId × AFun U) := []
def Λ : List (Nat × LFun U) := []
def CT : List (Nat × LFun U) := []
def ro : List FuncId := []
def D : Nat → Lv × Lv := dtab []
def E : Env U := { E0 with Γ := Γ, Λ := Λ, C := CT, D := D, ro := ro }
theorem hk (R : Type) (l : TA) (K : AV U → Hp U → Option R) : funcA E Tryz.f106 [] R (pA.mkL l.1) (pH.mkH l.2) K = (tl l).runK fun y => K (v l y) (hh l y) := by kernel_rfl
theorem okF : SoundF Tryz.prog cc 106 (funcA E Tryz.f106 []) :=
  funcA_ok (E := E) P_mixed (E0_ok.with Γ Λ CT D ro) (gam_of all_nil all_nil) Tryz.func106 (c := body) (by kernel_rfl)
    (just_by (by kernel_rfl) (by kernel_rfl) all_nil all_nil) []
theorem ok : SoundF Tryz.prog cc 106 A :=
  mkA_ok (E := E) (p := pA) (q := pH) (t := tl) sp1_ok hk okF
theorem fo : FnOK Tryz.prog 106 := ⟨Tryz.f106, Tryz.func106, by kernel_rfl, by kernel_rfl⟩
theorem keep : KeepA A := mkA_keep (U := U) sp1_ok (fun (l : TA) y => ⟨(hh l y).drop 0, by kernel_rfl⟩)
end word_Torn

end
end Go.Proofs.YtkoidgjgdhpdnaaGreat.Va
