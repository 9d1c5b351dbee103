/- The functions of package law36, as plain functions, and that the program computes them. Printed by a program of this work out of the evaluator. -/
import Derived.Test.YtcnomgpbkimmeaaEn
import Derived.Tactics
import Derived.Test.YtcnomgpbkimmeaaFboot
namespace Go.Proofs.Ytcnomgpbkimmeaa.Va
open Go
set_option linter.unusedVariables false
set_option maxRecDepth 100000

/-! instar/instarlaw36.awake -/
namespace law36_awake
abbrev TA : Type := (Unit × Unit)
noncomputable def t : Tw Bool :=
 (.opt (boot_Next.c (4 : Int) (0 : Int) (2 : Int) false (0 : Int) (1 : Int) (1 : Int) (1 : Int) (0 : Int) (0 : Int) (0 : Int) (0 : Int) (0 : Int) (0 : Int) (0 : Int) (0 : Int) (1 : Int) (1 : Int) (1 : Int) (0 : Int) (0 : Int) (0 : Int) (0 : Int) (0 : Int) (0 : Int) (0 : Int) (0 : Int) (1 : Int) (1 : Int) (7 : Int) (2 : Int)) fun z1 =>
  (.opt (boot_Tries.c (4 : Int) (0 : Int) (2 : Int) false (0 : Int) (1 : Int) (1 : Int) (1 : Int) (0 : Int) (0 : Int) (0 : Int) (0 : Int) (0 : Int) (0 : Int) (0 : Int) (0 : Int) (1 : Int) (1 : Int) (1 : Int) (0 : Int) (0 : Int) (0 : Int) (0 : Int) (0 : Int) (0 : Int) (0 : Int) (0 : Int) (1 : Int) (1 : Int) (7 : Int) (2 : Int)) fun z2 =>
   (.bb (z2 == (3 : Int))
    (.bb (z1.2.2.2.2.2.2.2.2.2.2.2.2.2.2.2.2.2.2.2.2.2.2.2.2.2.2.2.2.2.2.2.2 == (0 : Int))
     (.bb (z1.2.2.2.2.2.2.2.2.2.2.2.2.2.2.2.2.2.2.2.2.2.2.2.2.2.2.2.2.2.2.2.1 == (0 : Int))
      (.bb (z1.2.2.1 == (1 : Int))
       (.opt (boot_What.c (4 : Int) (0 : Int) (2 : Int) false (0 : Int) (1 : Int) (1 : Int) (1 : Int) (0 : Int) (0 : Int) (0 : Int) (0 : Int) (0 : Int) (0 : Int) (0 : Int) (0 : Int) (1 : Int) (1 : Int) (1 : Int) (0 : Int) (0 : Int) (0 : Int) (0 : Int) (0 : Int) (0 : Int) (0 : Int) (0 : Int) (1 : Int) (1 : Int) (7 : Int) (2 : Int)) fun z3 =>
        (.ret (z3 == (1 : Int))))
       (.ret false))
      (.ret false))
     (.ret false))
    (.ret false))))
noncomputable def c : Option Bool := (t).run
def pA : Pt := .nl
def pH : Pt := .nl
def v (l : TA) (y : Bool) : AV U := .im (.bool y)
def hh (l : TA) (y : Bool) : Hp U := []
noncomputable def A : AFun U := mkA (U := U) pA pH (X := Bool) (fun (l : TA) => c) sp1 v hh
noncomputable def body : Code := (Go.Func.body Try.f88).getD .skip
noncomputable def Γ : List (FuncId × AFun U) := [(82, boot_Next.A), (86, boot_Tries.A), (84, boot_What.A)]
noncomputable def Λ : List (Nat × LFun U) := []
noncomputable def CT : List (Nat × LFun U) := []
def ro : List FuncId := []
def D : Nat → Lv × Lv := dtab []
noncomputable def E : Env U := { E0 with Γ := Γ, Λ := Λ, C := CT, D := D, ro := ro }
theorem hk (R : Type) (l : TA) (K : AV U → Hp U → Option R) : funcA E Try.f88 [] R (pA.mkL l.1) (pH.mkH l.2) K = (t).runK fun y => K (v l y) (hh l y) := by kernel_rfl
theorem okF : SoundF Try.prog cc 88 (funcA E Try.f88 []) :=
  funcA_ok (E := E) P_mixed (E0_ok.with Γ Λ CT D ro) (gam_of (all_cons ⟨boot_Next.ok, ⟨Try.f82, Try.func82, by kernel_rfl, by kernel_rfl⟩⟩ (all_cons ⟨boot_Tries.ok, ⟨Try.f86, Try.func86, by kernel_rfl, by kernel_rfl⟩⟩ (all_cons ⟨boot_What.ok, ⟨Try.f84, Try.func84, by kernel_rfl, by kernel_rfl⟩⟩ all_nil))) (all_cons (no_keep (by kernel_rfl)) (all_cons (no_keep (by kernel_rfl)) (all_cons (no_keep (by kernel_rfl)) all_nil)))) Try.func88 (c := body) (by kernel_rfl)
    (just_by (by kernel_rfl) (by kernel_rfl) all_nil all_nil) []
theorem ok : SoundF Try.prog cc 88 A :=
  mkA_ok (E := E) (p := pA) (q := pH) (t := fun (l : TA) => t) sp1_ok hk okF
theorem keep : KeepA A := mkA_keep (U := U) sp1_ok (fun (l : TA) y => ⟨(hh l y).drop 0, by kernel_rfl⟩)
end law36_awake

end Go.Proofs.Ytcnomgpbkimmeaa.Va
