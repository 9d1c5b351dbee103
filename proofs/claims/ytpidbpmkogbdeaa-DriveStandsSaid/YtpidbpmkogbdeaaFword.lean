/- The functions of package word, as plain functions, and that the program computes them. Printed by a program of this work out of the evaluator. -/
import Derived.Test.YtpidbpmkogbdeaaEn
import Derived.Tactics
namespace Go.Proofs.Ytpidbpmkogbdeaa.Va
open Go
set_option linter.unusedVariables false
set_option maxRecDepth 100000

/-! instar/word.Within -/
namespace word_Within
abbrev TA : Type := ((Int × (Int × Unit)) × Unit)
noncomputable def t (a : Int) (b : Int) : Tw Bool :=
 (.ret ((bAndn .u32 a b) == (0 : Int)))
noncomputable def c (a : Int) (b : Int) : Option Bool := (t a b).run
def pA : Pt := (.cs (.int .u32) (.cs (.int .u32) .nl))
def pH : Pt := .nl
def v (l : TA) (y : Bool) : AV U := .im (.bool y)
def hh (l : TA) (y : Bool) : Hp U := []
noncomputable def A : AFun U := mkA (U := U) pA pH (X := Bool) (fun (l : TA) => c l.1.1 l.1.2.1) sp1 v hh
noncomputable def body : Code := (Go.Func.body Try.f123).getD .skip
noncomputable def Γ : List (FuncId × AFun U) := []
noncomputable def Λ : List (Nat × LFun U) := []
noncomputable def CT : List (Nat × LFun U) := []
def ro : List FuncId := []
def D : Nat → Lv × Lv := dtab []
noncomputable def E : Env U := { E0 with Γ := Γ, Λ := Λ, C := CT, D := D, ro := ro }
theorem hk (R : Type) (l : TA) (K : AV U → Hp U → Option R) : funcA E Try.f123 [] R (pA.mkL l.1) (pH.mkH l.2) K = (t l.1.1 l.1.2.1).runK fun y => K (v l y) (hh l y) := by kernel_rfl
theorem okF : SoundF Try.prog cc 123 (funcA E Try.f123 []) :=
  funcA_ok (E := E) P_mixed (E0_ok.with Γ Λ CT D ro) (gam_of all_nil all_nil) Try.func123 (c := body) (by kernel_rfl)
    (just_by (by kernel_rfl) (by kernel_rfl) all_nil all_nil) []
theorem ok : SoundF Try.prog cc 123 A :=
  mkA_ok (E := E) (p := pA) (q := pH) (t := fun (l : TA) => t l.1.1 l.1.2.1) sp1_ok hk okF
theorem keep : KeepA A := mkA_keep (U := U) sp1_ok (fun (l : TA) y => ⟨(hh l y).drop 0, by kernel_rfl⟩)
end word_Within

/-! instar/word.Torn -/
namespace word_Torn
abbrev TA : Type := ((Int × (Int × (Int × Unit))) × Unit)
noncomputable def t (was : Int) (x : Int) (mask : Int) : Tw Int :=
 (.ret (bAndn .u32 was (bAndn .u32 mask x)))
noncomputable def c (was : Int) (x : Int) (mask : Int) : Option Int := (t was x mask).run
def pA : Pt := (.cs (.int .u32) (.cs (.int .u32) (.cs (.int .u32) .nl)))
def pH : Pt := .nl
def v (l : TA) (y : Int) : AV U := .im (.int .u32 y)
def hh (l : TA) (y : Int) : Hp U := []
noncomputable def A : AFun U := mkA (U := U) pA pH (X := Int) (fun (l : TA) => c l.1.1 l.1.2.1 l.1.2.2.1) sp1 v hh
noncomputable def body : Code := (Go.Func.body Try.f124).getD .skip
noncomputable def Γ : List (FuncId × AFun U) := []
noncomputable def Λ : List (Nat × LFun U) := []
noncomputable def CT : List (Nat × LFun U) := []
def ro : List FuncId := []
def D : Nat → Lv × Lv := dtab []
noncomputable def E : Env U := { E0 with Γ := Γ, Λ := Λ, C := CT, D := D, ro := ro }
theorem hk (R : Type) (l : TA) (K : AV U → Hp U → Option R) : funcA E Try.f124 [] R (pA.mkL l.1) (pH.mkH l.2) K = (t l.1.1 l.1.2.1 l.1.2.2.1).runK fun y => K (v l y) (hh l y) := by kernel_rfl
theorem okF : SoundF Try.prog cc 124 (funcA E Try.f124 []) :=
  funcA_ok (E := E) P_mixed (E0_ok.with Γ Λ CT D ro) (gam_of all_nil all_nil) Try.func124 (c := body) (by kernel_rfl)
    (just_by (by kernel_rfl) (by kernel_rfl) all_nil all_nil) []
theorem ok : SoundF Try.prog cc 124 A :=
  mkA_ok (E := E) (p := pA) (q := pH) (t := fun (l : TA) => t l.1.1 l.1.2.1 l.1.2.2.1) sp1_ok hk okF
theorem keep : KeepA A := mkA_keep (U := U) sp1_ok (fun (l : TA) y => ⟨(hh l y).drop 0, by kernel_rfl⟩)
end word_Torn

/-! instar/word.Raised -/
namespace word_Raised
abbrev TA : Type := ((Int × (Int × Unit)) × Unit)
noncomputable def t (was : Int) (mask : Int) : Tw Int :=
 (.ret (bOr .u32 was mask))
noncomputable def c (was : Int) (mask : Int) : Option Int := (t was mask).run
def pA : Pt := (.cs (.int .u32) (.cs (.int .u32) .nl))
def pH : Pt := .nl
def v (l : TA) (y : Int) : AV U := .im (.int .u32 y)
def hh (l : TA) (y : Int) : Hp U := []
noncomputable def A : AFun U := mkA (U := U) pA pH (X := Int) (fun (l : TA) => c l.1.1 l.1.2.1) sp1 v hh
noncomputable def body : Code := (Go.Func.body Try.f116).getD .skip
noncomputable def Γ : List (FuncId × AFun U) := []
noncomputable def Λ : List (Nat × LFun U) := []
noncomputable def CT : List (Nat × LFun U) := []
def ro : List FuncId := []
def D : Nat → Lv × Lv := dtab []
noncomputable def E : Env U := { E0 with Γ := Γ, Λ := Λ, C := CT, D := D, ro := ro }
theorem hk (R : Type) (l : TA) (K : AV U → Hp U → Option R) : funcA E Try.f116 [] R (pA.mkL l.1) (pH.mkH l.2) K = (t l.1.1 l.1.2.1).runK fun y => K (v l y) (hh l y) := by kernel_rfl
theorem okF : SoundF Try.prog cc 116 (funcA E Try.f116 []) :=
  funcA_ok (E := E) P_mixed (E0_ok.with Γ Λ CT D ro) (gam_of all_nil all_nil) Try.func116 (c := body) (by kernel_rfl)
    (just_by (by kernel_rfl) (by kernel_rfl) all_nil all_nil) []
theorem ok : SoundF Try.prog cc 116 A :=
  mkA_ok (E := E) (p := pA) (q := pH) (t := fun (l : TA) => t l.1.1 l.1.2.1) sp1_ok hk okF
theorem keep : KeepA A := mkA_keep (U := U) sp1_ok (fun (l : TA) y => ⟨(hh l y).drop 0, by kernel_rfl⟩)
end word_Raised

end Go.Proofs.Ytpidbpmkogbdeaa.Va
