/- The functions of package law34, as plain functions, and that the program computes them. Printed by a program of this work out of the evaluator. -/
import Derived.Test.YtcnomgpbkimmeaaEn
import Derived.Tactics
import Derived.Test.YtcnomgpbkimmeaaFbook
namespace Go.Proofs.Ytcnomgpbkimmeaa.Va
open Go
set_option linter.unusedVariables false
set_option maxRecDepth 100000

/-! instar/instarlaw34.awake -/
namespace law34_awake
abbrev TA : Type := (Unit × Unit)
noncomputable def t : Tw Bool :=
 (.opt (book_Lay.c (0 : Int) (1 : Int) (0 : Int) false (0 : Int) (0 : Int) (0 : Int) (0 : Int) (0 : Int) (0 : Int) (0 : Int) (0 : Int) (0 : Int) (0 : Int) (0 : Int) (0 : Int) (2 : Int) (3 : Int) (1 : Int) (0 : Int) (0 : Int) (0 : Int) (0 : Int) (0 : Int) (0 : Int) (0 : Int) (0 : Int) (4 : Int) (5 : Int) (-(1 : Int)) (0 : Int)) fun z1 =>
  (.bb ((((List.length z1.2) : Nat) : Int) == (26 : Int))
   (.dd ((((0 : Int) ≤ (0 : Int)) ∧ ((0 : Int) < (((List.length z1.2) : Nat) : Int)))) inferInstance
    (.opt (z1.2)[(Int.toNat (0 : Int))]? fun z2 =>
     (.bb (z2 == (256 : Int))
      (.dd ((((0 : Int) ≤ (2 : Int)) ∧ ((2 : Int) < (((List.length z1.2) : Nat) : Int)))) inferInstance
       (.opt (z1.2)[(Int.toNat (2 : Int))]? fun z3 =>
        (.bb (z3 == (4 : Int))
         (.dd ((((0 : Int) ≤ (3 : Int)) ∧ ((3 : Int) < (((List.length z1.2) : Nat) : Int)))) inferInstance
          (.opt (z1.2)[(Int.toNat (3 : Int))]? fun z4 =>
           (.bb (z4 == (5 : Int))
            (.dd ((((0 : Int) ≤ (4 : Int)) ∧ ((4 : Int) < (((List.length z1.2) : Nat) : Int)))) inferInstance
             (.opt (z1.2)[(Int.toNat (4 : Int))]? fun z5 =>
              (.bb (z5 == (0 : Int))
               (.bb (z1.1 == (0 : Int))
                (.opt (book_Right.c (0 : Int) (1 : Int) (0 : Int) false (0 : Int) (0 : Int) (0 : Int) (0 : Int) (0 : Int) (0 : Int) (0 : Int) (0 : Int) (0 : Int) (0 : Int) (0 : Int) (0 : Int) (2 : Int) (3 : Int) (1 : Int) (0 : Int) (0 : Int) (0 : Int) (0 : Int) (0 : Int) (0 : Int) (0 : Int) (0 : Int) (4 : Int) (5 : Int) (-(1 : Int)) (0 : Int)) fun z6 =>
                 (.bb z6
                  (.opt (book_Right.c (0 : Int) (0 : Int) (0 : Int) false (0 : Int) (0 : Int) (0 : Int) (0 : Int) (0 : Int) (0 : Int) (0 : Int) (0 : Int) (0 : Int) (0 : Int) (0 : Int) (0 : Int) (0 : Int) (0 : Int) (0 : Int) (0 : Int) (0 : Int) (0 : Int) (0 : Int) (0 : Int) (0 : Int) (0 : Int) (0 : Int) (0 : Int) (0 : Int) (0 : Int) (0 : Int)) fun z7 =>
                   (.ret (!z7)))
                  (.ret false)))
                (.ret false))
               (.ret false)))
             .no)
            (.ret false)))
          .no)
         (.ret false)))
       .no)
      (.ret false)))
    .no)
   (.ret false)))
noncomputable def c : Option Bool := (t).run
def pA : Pt := .nl
def pH : Pt := .nl
def v (l : TA) (y : Bool) : AV U := .im (.bool y)
def hh (l : TA) (y : Bool) : Hp U := []
noncomputable def A : AFun U := mkA (U := U) pA pH (X := Bool) (fun (l : TA) => c) sp1 v hh
noncomputable def body : Code := (Go.Func.body Try.f35).getD .skip
noncomputable def Γ : List (FuncId × AFun U) := [(40, book_Lay.A), (44, book_Right.A)]
noncomputable def Λ : List (Nat × LFun U) := []
noncomputable def CT : List (Nat × LFun U) := []
def ro : List FuncId := []
def D : Nat → Lv × Lv := dtab []
noncomputable def E : Env U := { E0 with Γ := Γ, Λ := Λ, C := CT, D := D, ro := ro }
theorem hk (R : Type) (l : TA) (K : AV U → Hp U → Option R) : funcA E Try.f35 [] R (pA.mkL l.1) (pH.mkH l.2) K = (t).runK fun y => K (v l y) (hh l y) := by kernel_rfl
theorem okF : SoundF Try.prog cc 35 (funcA E Try.f35 []) :=
  funcA_ok (E := E) P_mixed (E0_ok.with Γ Λ CT D ro) (gam_of (all_cons ⟨book_Lay.ok, ⟨Try.f40, Try.func40, by kernel_rfl, by kernel_rfl⟩⟩ (all_cons ⟨book_Right.ok, ⟨Try.f44, Try.func44, by kernel_rfl, by kernel_rfl⟩⟩ all_nil)) (all_cons (no_keep (by kernel_rfl)) (all_cons (no_keep (by kernel_rfl)) all_nil))) Try.func35 (c := body) (by kernel_rfl)
    (just_by (by kernel_rfl) (by kernel_rfl) all_nil all_nil) []
theorem ok : SoundF Try.prog cc 35 A :=
  mkA_ok (E := E) (p := pA) (q := pH) (t := fun (l : TA) => t) sp1_ok hk okF
theorem keep : KeepA A := mkA_keep (U := U) sp1_ok (fun (l : TA) y => ⟨(hh l y).drop 0, by kernel_rfl⟩)
end law34_awake

end Go.Proofs.Ytcnomgpbkimmeaa.Va
