/- The functions of package law43, as plain functions, and that the program computes them. Printed by a program of this work out of the evaluator. -/
import Derived.Test.YtmlbioapefgioaaEn
import Derived.Tactics
import Derived.Test.YtmlbioapefgioaaFflash
import Derived.Test.YtmlbioapefgioaaFwear
namespace Go.Proofs.Ytmlbioapefgioaa.Va
open Go
set_option linter.unusedVariables false
set_option maxRecDepth 100000

/-! instar/instarlaw43.awake -/
namespace law43_awake
abbrev TA : Type := (Unit × Unit)
noncomputable def t : Tw Bool :=
 (.opt (flash_New.c (11 : Int) (64 : Int)) fun z1 =>
  (.sm z1
   (fun z2 => (.opt (flash_Flash_Erase.c (7 : Int) (64 : Int) z2.2.1 z2.2.2.1 z2.2.2.2.1 z2.2.2.2.2.1 z2.2.2.2.2.2.1 z2.2.2.2.2.2.2) fun z4 =>
     (.opt (flash_Flash_Erase.c (7 : Int) (64 : Int) z4.2.1 z4.2.2.1 z4.2.2.2.1 z4.2.2.2.2.1 z4.2.2.2.2.2 z2.2.2.2.2.2.2) fun z5 =>
      (.opt (wear_Of.c (64 : Int) (2 : Int) (5 : Int) (2 : Int) (1 : Int) (9 : Int) (64 : Int) z5.2.1 z5.2.2.1 z5.2.2.2.1 z5.2.2.2.2.1 z5.2.2.2.2.2 z2.2.2.2.2.2.2) fun z6 =>
       (.opt (wear_Worst.c (64 : Int) (2 : Int) (5 : Int) (2 : Int) (1 : Int) (9 : Int) (64 : Int) z5.2.1 z5.2.2.1 z5.2.2.2.1 z5.2.2.2.2.1 z5.2.2.2.2.2 z2.2.2.2.2.2.2) fun z7 =>
        (.bb (z6.2.2.2.2.2.2.2.2.2.2.2.2 == (0 : Int))
         (.bb ((z6.2.2.2.2.2.2.2.2.2.1 == (0 : Int)) && ((z6.2.2.2.2.2.2.2.2.2.2.1 == (2 : Int)) && ((z6.2.2.2.2.2.2.2.2.2.2.2.1 == (2 : Int)) && true)))
          (.opt (wear_Share.c z6.1 z6.2.1 z6.2.2.1 z6.2.2.2.1 z6.2.2.2.2.1 z6.2.2.2.2.2.1 z6.2.2.2.2.2.2.1 z6.2.2.2.2.2.2.2.1 z6.2.2.2.2.2.2.2.2.1 z6.2.2.2.2.2.2.2.2.2.1 z6.2.2.2.2.2.2.2.2.2.2.1 z6.2.2.2.2.2.2.2.2.2.2.2.1 (3 : Int)) fun z8 =>
           (.bb ((Ieee.Format.order (Go.FloatKind.format Go.FloatKind.f64) z8 (4607182418800017408 : Nat)) == (Option.some Ordering.eq))
            (.bb (z7.1 == (7 : Int))
             (.bb (z7.2 == (2 : Int))
              (.opt (wear_Share.c z6.1 z6.2.1 z6.2.2.1 z6.2.2.2.1 z6.2.2.2.2.1 z6.2.2.2.2.2.1 z6.2.2.2.2.2.2.1 z6.2.2.2.2.2.2.2.1 z6.2.2.2.2.2.2.2.2.1 z6.2.2.2.2.2.2.2.2.2.1 z6.2.2.2.2.2.2.2.2.2.2.1 z6.2.2.2.2.2.2.2.2.2.2.2.1 (9 : Int)) fun z9 =>
               (.ret ((Ieee.Format.order (Go.FloatKind.format Go.FloatKind.f64) z9 (0 : Nat)) == (Option.some Ordering.eq))))
              (.ret false))
             (.ret false))
            (.ret false)))
          (.ret false))
         (.ret false)))))))
   (fun z3 => (.opt (flash_Flash_Erase_nil0.c (7 : Int)) fun z10 =>
     (.opt (flash_Flash_Erase_nil0.c (7 : Int)) fun z11 =>
      (.opt (wear_Of_nil0.c (64 : Int) (2 : Int) (5 : Int) (2 : Int) (1 : Int) (9 : Int)) fun z12 =>
       (.opt (wear_Worst_nil0.c (64 : Int) (2 : Int) (5 : Int) (2 : Int) (1 : Int) (9 : Int)) fun z13 =>
        (.bb (z12.2.2.2.2.2.2.2.2.2.2.2.2 == (0 : Int))
         (.bb ((z12.2.2.2.2.2.2.2.2.2.1 == (0 : Int)) && ((z12.2.2.2.2.2.2.2.2.2.2.1 == (2 : Int)) && ((z12.2.2.2.2.2.2.2.2.2.2.2.1 == (2 : Int)) && true)))
          (.opt (wear_Share.c z12.1 z12.2.1 z12.2.2.1 z12.2.2.2.1 z12.2.2.2.2.1 z12.2.2.2.2.2.1 z12.2.2.2.2.2.2.1 z12.2.2.2.2.2.2.2.1 z12.2.2.2.2.2.2.2.2.1 z12.2.2.2.2.2.2.2.2.2.1 z12.2.2.2.2.2.2.2.2.2.2.1 z12.2.2.2.2.2.2.2.2.2.2.2.1 (3 : Int)) fun z14 =>
           (.bb ((Ieee.Format.order (Go.FloatKind.format Go.FloatKind.f64) z14 (4607182418800017408 : Nat)) == (Option.some Ordering.eq))
            (.bb (z13.1 == (7 : Int))
             (.bb (z13.2 == (2 : Int))
              (.opt (wear_Share.c z12.1 z12.2.1 z12.2.2.1 z12.2.2.2.1 z12.2.2.2.2.1 z12.2.2.2.2.2.1 z12.2.2.2.2.2.2.1 z12.2.2.2.2.2.2.2.1 z12.2.2.2.2.2.2.2.2.1 z12.2.2.2.2.2.2.2.2.2.1 z12.2.2.2.2.2.2.2.2.2.2.1 z12.2.2.2.2.2.2.2.2.2.2.2.1 (9 : Int)) fun z15 =>
               (.ret ((Ieee.Format.order (Go.FloatKind.format Go.FloatKind.f64) z15 (0 : Nat)) == (Option.some Ordering.eq))))
              (.ret false))
             (.ret false))
            (.ret false)))
          (.ret false))
         (.ret false)))))))))
noncomputable def c : Option Bool := (t).run
noncomputable def tl (l : TA) : Tw Bool := t
noncomputable def cl (l : TA) : Option Bool := c
def pA : Pt := .nl
def pH : Pt := .nl
def v (l : TA) (y : Bool) : AV U := jB y
def hh (l : TA) (y : Bool) : Hp U := []
noncomputable def A : AFun U := mkA (U := U) pA pH (X := Bool) cl sp1 v hh
noncomputable def body : Code := (Go.Func.body Try.f30).getD .skip
noncomputable def Γ : List (FuncId × AFun U) := [(31, flash_New.A), (36, (orA flash_Flash_Erase.pA flash_Flash_Erase.pH flash_Flash_Erase.A flash_Flash_Erase_nil0.A)), (32, (orA wear_Of.pA wear_Of.pH wear_Of.A wear_Of_nil0.A)), (33, (orA wear_Worst.pA wear_Worst.pH wear_Worst.A wear_Worst_nil0.A)), (41, wear_Share.A)]
noncomputable def Λ : List (Nat × LFun U) := []
noncomputable def CT : List (Nat × LFun U) := []
def ro : List FuncId := [32, 33]
def D : Nat → Lv × Lv := dtab []
noncomputable def E : Env U := { E0 with Γ := Γ, Λ := Λ, C := CT, D := D, ro := ro }
theorem hk (R : Type) (l : TA) (K : AV U → Hp U → Option R) : funcA E Try.f30 [] R (pA.mkL l.1) (pH.mkH l.2) K = (tl l).runK fun y => K (v l y) (hh l y) := by kernel_rfl
theorem okF : SoundF Try.prog cc 30 (funcA E Try.f30 []) :=
  funcA_ok (E := E) P_mixed (E0_ok.with Γ Λ CT D ro) (gam_of (all_cons ⟨flash_New.ok, flash_New.fo⟩ (all_cons ⟨(orA_ok flash_Flash_Erase.ok flash_Flash_Erase_nil0.ok), flash_Flash_Erase.fo⟩ (all_cons ⟨(orA_ok wear_Of.ok wear_Of_nil0.ok), wear_Of.fo⟩ (all_cons ⟨(orA_ok wear_Worst.ok wear_Worst_nil0.ok), wear_Worst.fo⟩ (all_cons ⟨wear_Share.ok, wear_Share.fo⟩ all_nil))))) (all_cons (no_keep (by kernel_rfl)) (all_cons (no_keep (by kernel_rfl)) (all_cons (fun _ => (orA_keep wear_Of.keep wear_Of_nil0.keep)) (all_cons (fun _ => (orA_keep wear_Worst.keep wear_Worst_nil0.keep)) (all_cons (no_keep (by kernel_rfl)) all_nil)))))) Try.func30 (c := body) (by kernel_rfl)
    (just_by (by kernel_rfl) (by kernel_rfl) all_nil all_nil) []
theorem ok : SoundF Try.prog cc 30 A :=
  mkA_ok (E := E) (p := pA) (q := pH) (t := tl) sp1_ok hk okF
theorem fo : FnOK Try.prog 30 := ⟨Try.f30, Try.func30, by kernel_rfl, by kernel_rfl⟩
theorem keep : KeepA A := mkA_keep (U := U) sp1_ok (fun (l : TA) y => ⟨(hh l y).drop 0, by kernel_rfl⟩)
end law43_awake

end Go.Proofs.Ytmlbioapefgioaa.Va
