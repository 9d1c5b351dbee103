/- The functions of package ref10, as plain functions, and that the program computes them. Printed by a program of this work out of the evaluator. -/
import Derived.Test.YtkoidgjgdhpdnaaEn
import Derived.Tactics
import Derived.Test.YtkoidgjgdhpdnaaFref02
namespace Go.Proofs.Ytkoidgjgdhpdnaa.Va
open Go
set_option linter.unusedVariables false
set_option maxRecDepth 100000

/-! instar/instarref10.Lay -/
namespace ref10_Lay
abbrev TA : Type := (((Int × (Int × ((List Int) × Unit))) × Unit) × Unit)
noncomputable def t (f_0 f_1 : Int) (f_2 : (List Int)) : Tw (List Int) :=
 (.opt (ref02_Twin.c (((List.length f_2) : Nat) : Int)) fun z1 =>
  (.dd ((((((List.length (z1 :: ((w32 ((w32 ((w32 f_0) * (1073741824 : Int))) + (w32 f_1))) :: ([] : List (Int))))) + (List.length f_2)) * (4 : Nat)) ≤ (140737488355328 : Nat)) ∧ (((List.length (z1 :: ((w32 ((w32 ((w32 f_0) * (1073741824 : Int))) + (w32 f_1))) :: ([] : List (Int))))) + (List.length f_2)) ≤ (140737488355328 : Nat)))) inferInstance
   (.opt (ref02_Seal.c ((z1 :: ((w32 ((w32 ((w32 f_0) * (1073741824 : Int))) + (w32 f_1))) :: ([] : List (Int)))) ++ f_2)) fun z2 =>
    (.ret z2))
   .no))
noncomputable def c (f_0 f_1 : Int) (f_2 : (List Int)) : Option (List Int) := (t f_0 f_1 f_2).run
def pA : Pt := (.cs (.agg (.cs (.int .i64) (.cs (.int .i64) (.cs (.sl 3) .nl)))) .nl)
def pH : Pt := .nl
def v (l : TA) (y : (List Int)) : AV U := .own 0
def hh (l : TA) (y : (List Int)) : Hp U := [.row 3 y true]
noncomputable def A : AFun U := mkA (U := U) pA pH (X := (List Int)) (fun (l : TA) => c l.1.1.1 l.1.1.2.1 l.1.1.2.2.1) sp1 v hh
noncomputable def body : Code := (Go.Func.body Try.f50).getD .skip
noncomputable def Γ : List (FuncId × AFun U) := [(76, ref02_Twin.A), (77, ref02_Seal.A)]
noncomputable def Λ : List (Nat × LFun U) := []
noncomputable def CT : List (Nat × LFun U) := []
def ro : List FuncId := []
def D : Nat → Lv × Lv := dtab []
noncomputable def E : Env U := { E0 with Γ := Γ, Λ := Λ, C := CT, D := D, ro := ro }
theorem hk (R : Type) (l : TA) (K : AV U → Hp U → Option R) : funcA E Try.f50 [] R (pA.mkL l.1) (pH.mkH l.2) K = (t l.1.1.1 l.1.1.2.1 l.1.1.2.2.1).runK fun y => K (v l y) (hh l y) := by kernel_rfl
theorem okF : SoundF Try.prog cc 50 (funcA E Try.f50 []) :=
  funcA_ok (E := E) P_mixed (E0_ok.with Γ Λ CT D ro) (gam_of (all_cons ⟨ref02_Twin.ok, ⟨Try.f76, Try.func76, by kernel_rfl, by kernel_rfl⟩⟩ (all_cons ⟨ref02_Seal.ok, ⟨Try.f77, Try.func77, by kernel_rfl, by kernel_rfl⟩⟩ all_nil)) (all_cons (no_keep (by kernel_rfl)) (all_cons (no_keep (by kernel_rfl)) all_nil))) Try.func50 (c := body) (by kernel_rfl)
    (just_by (by kernel_rfl) (by kernel_rfl) all_nil all_nil) []
theorem ok : SoundF Try.prog cc 50 A :=
  mkA_ok (E := E) (p := pA) (q := pH) (t := fun (l : TA) => t l.1.1.1 l.1.1.2.1 l.1.1.2.2.1) sp1_ok hk okF
theorem keep : KeepA A := mkA_keep (U := U) sp1_ok (fun (l : TA) y => ⟨(hh l y).drop 0, by kernel_rfl⟩)
end ref10_Lay

end Go.Proofs.Ytkoidgjgdhpdnaa.Va
