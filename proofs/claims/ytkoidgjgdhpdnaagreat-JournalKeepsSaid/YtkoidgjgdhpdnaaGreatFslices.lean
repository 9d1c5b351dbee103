/- The functions of package slices, as plain functions, and that the program computes them. Printed by a program of this work out of the evaluator. -/
import Derived.Test.YtkoidgjgdhpdnaaGreatEn
import Derived.Tactics
set_option linter.unusedVariables false
namespace Go.Proofs.YtkoidgjgdhpdnaaGreat.Va
noncomputable section
open Go
set_option maxRecDepth 100000

/-! A copy of a slice: nil or not. -/
namespace slices_Clone__uint32uint32
abbrev TA : Type := ((List Int) × Unit) × Unit
def t (s_ : (List Int)) : Tw Unit :=
 (.dd ((((((List.length ([] : List (Int))) + (List.length s_)) * (4 : Nat)) ≤ (140737488355328 : Nat)) ∧ (((List.length ([] : List (Int))) + (List.length s_)) ≤ (140737488355328 : Nat)))) inferInstance
 (.ret ())
 .no)
def c (s_ : (List Int)) : Option (List Int) := (t s_).run.bind fun _ => some s_
def pA : Pt := (.cs (.sl 3) .nl)
def pH : Pt := .nl
def A : AFun U := mkA (U := U) pA pH (X := (List Int)) (fun (l : TA) => (t l.1.1).run.bind fun _ => some l.1.1) sp1 (fun _ _ => .own 0) (fun l x => [.row 3 x true])
def body : Code := (Go.Func.body Tryz.f39).getD .skip
def E : Env U := { E0 with Γ := [], Λ := [], C := [], D := dtab [] }
theorem okF_nn : SoundF Tryz.prog cc 39 (funcA E Tryz.f39 []) :=
  funcA_ok (E := E) P_mixed (E0_ok.with [] [] [] (dtab []) []) (gam_of all_nil all_nil) Tryz.func39 (c := body) (by kernel_rfl)
    (just_by (by kernel_rfl) (by kernel_rfl) all_nil all_nil) []
theorem okF_ns : SoundF Tryz.prog cc 39 (funcA E Tryz.f39 [(0, [], .own 3)]) :=
  funcA_ok (E := E) P_mixed (E0_ok.with [] [] [] (dtab []) []) (gam_of all_nil all_nil) Tryz.func39 (c := body) (by kernel_rfl)
    (just_by (by kernel_rfl) (by kernel_rfl) all_nil all_nil) [(0, [], .own 3)]
theorem hn (R : Type) (l : (List Int)) (K : AV U → Hp U → Option R) : funcA E Tryz.f39 [] R [.nn 3 l] [] K = (t l).runK fun _ => K (.own 0) [.row 3 l true] := by kernel_rfl
theorem hs (R : Type) (K : AV U → Hp U → Option R) : funcA E Tryz.f39 [(0, [], .own 3)] R [.ns] [] K = K (.own 0) [.row 3 [] true] := by kernel_rfl
theorem ok : SoundF Tryz.prog cc 39 A := clone_ok (U := U) (P := Tryz.prog) (cc := cc) (f := 39) (T := 3) (A := funcA E Tryz.f39 []) (B := funcA E Tryz.f39 [(0, [], .own 3)]) (t := t) hn hs okF_nn okF_ns
theorem fo : FnOK Tryz.prog 39 := ⟨Tryz.f39, Tryz.func39, by kernel_rfl, by kernel_rfl⟩
end slices_Clone__uint32uint32

end
end Go.Proofs.YtkoidgjgdhpdnaaGreat.Va
