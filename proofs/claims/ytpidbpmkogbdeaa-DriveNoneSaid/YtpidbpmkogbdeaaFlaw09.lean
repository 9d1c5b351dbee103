/- The functions of package law09, as plain functions, and that the program computes them. Printed by a program of this work out of the evaluator. -/
import Derived.Test.YtpidbpmkogbdeaaEn
import Derived.Tactics
import Derived.Test.YtpidbpmkogbdeaaFdrive
import Derived.Test.YtpidbpmkogbdeaaFflash
namespace Go.Proofs.Ytpidbpmkogbdeaa.Va
open Go
set_option linter.unusedVariables false
set_option maxRecDepth 100000

/-! instar/instarlaw09.awake -/
namespace law09_awake
abbrev TA : Type := (Unit × Unit)
noncomputable def t : Tw Bool :=
 (.opt (flash_New.c (11 : Int) (64 : Int)) fun z1 =>
  (.sm z1
   (fun z2 => (.opt (drive_New.c (64 : Int) (2 : Int) (5 : Int) (2 : Int) (1 : Int) (9 : Int) (64 : Int) z2.2.1 z2.2.2.1 z2.2.2.2.1 z2.2.2.2.2.1 z2.2.2.2.2.2) fun z4 =>
     (.sm z4
      (fun z5 => (.opt (drive_Drive_Write.c (1 : Int) (2 : Int) ((5 : Int) :: ([] : List Int)) (64 : Int) (2 : Int) (5 : Int) (2 : Int) (1 : Int) (9 : Int) (64 : Int) z2.2.1 z2.2.2.1 z2.2.2.2.1 z2.2.2.2.2.1 z2.2.2.2.2.2) fun z7 =>
        (.opt (drive_Drive_Write.c (1 : Int) (2 : Int) ((5 : Int) :: ([] : List Int)) (64 : Int) (2 : Int) (5 : Int) (2 : Int) (1 : Int) (9 : Int) (64 : Int) z7.2.1 z7.2.2.1 z7.2.2.2.1 z7.2.2.2.2 z2.2.2.2.2.2) fun z8 =>
         (.opt (drive_Drive_Write.c (1 : Int) (2 : Int) ((7 : Int) :: ([] : List Int)) (64 : Int) (2 : Int) (5 : Int) (2 : Int) (1 : Int) (9 : Int) (64 : Int) z8.2.1 z8.2.2.1 z8.2.2.2.1 z8.2.2.2.2 z2.2.2.2.2.2) fun z9 =>
          (.bb (z2.1 == (0 : Int))
           (.bb (z5 == (0 : Int))
            (.bb (z7.1 == (0 : Int))
             (.bb (z8.1 == (0 : Int))
              (.bb (z9.1 == (11 : Int))
               (.opt (flash_Flash_Writes_v2.c (64 : Int) z9.2.1 z9.2.2.1 z9.2.2.2.1 z9.2.2.2.2 z2.2.2.2.2.2) fun z10 =>
                (.bb (z9.2.1 == (1 : Int))
                 (.opt (drive_Drive_Geometry.c (64 : Int) (2 : Int) (5 : Int) (2 : Int) (1 : Int) (9 : Int) (64 : Int) z9.2.1 z9.2.2.1 z9.2.2.2.1 z9.2.2.2.2 z2.2.2.2.2.2) fun z11 =>
                  (.ret (((64 : Int) == (64 : Int)) && (((2 : Int) == (2 : Int)) && (((5 : Int) == (5 : Int)) && (((2 : Int) == (2 : Int)) && (((1 : Int) == (1 : Int)) && (((9 : Int) == (9 : Int)) && true))))))))
                 (.ret false)))
               (.ret false))
              (.ret false))
             (.ret false))
            (.ret false))
           (.ret false))))))
      (fun z6 => (.opt (drive_Drive_Write_nil0.c (1 : Int) (2 : Int) ((5 : Int) :: ([] : List Int))) fun z12 =>
        (.opt (drive_Drive_Write_nil0.c (1 : Int) (2 : Int) ((5 : Int) :: ([] : List Int))) fun z13 =>
         (.opt (drive_Drive_Write_nil0.c (1 : Int) (2 : Int) ((7 : Int) :: ([] : List Int))) fun z14 =>
          (.bb (z2.1 == (0 : Int))
           (.bb (z6 == (0 : Int))
            (.bb (z12 == (0 : Int))
             (.bb (z13 == (0 : Int))
              (.bb (z14 == (11 : Int))
               (.opt (flash_Flash_Writes_v2.c (64 : Int) z2.2.1 z2.2.2.1 z2.2.2.2.1 z2.2.2.2.2.1 z2.2.2.2.2.2) fun z15 =>
                (.bb (z2.2.1 == (1 : Int))
                 (.opt (drive_Drive_Geometry_nil0.c) fun z16 =>
                  (.ret ((z16.1 == (64 : Int)) && ((z16.2.1 == (2 : Int)) && ((z16.2.2.1 == (5 : Int)) && ((z16.2.2.2.1 == (2 : Int)) && ((z16.2.2.2.2.1 == (1 : Int)) && ((z16.2.2.2.2.2 == (9 : Int)) && true))))))))
                 (.ret false)))
               (.ret false))
              (.ret false))
             (.ret false))
            (.ret false))
           (.ret false)))))))))
   (fun z3 => (.opt (drive_New_nil0.c (64 : Int) (2 : Int) (5 : Int) (2 : Int) (1 : Int) (9 : Int)) fun z17 =>
     (.opt (drive_Drive_Write_nil0.c (1 : Int) (2 : Int) ((5 : Int) :: ([] : List Int))) fun z18 =>
      (.opt (drive_Drive_Write_nil0.c (1 : Int) (2 : Int) ((5 : Int) :: ([] : List Int))) fun z19 =>
       (.opt (drive_Drive_Write_nil0.c (1 : Int) (2 : Int) ((7 : Int) :: ([] : List Int))) fun z20 =>
        (.bb (z3 == (0 : Int))
         (.bb (z17 == (0 : Int))
          (.bb (z18 == (0 : Int))
           (.bb (z19 == (0 : Int))
            (.bb (z20 == (11 : Int))
             (.opt (flash_Flash_Writes_nil0.c) fun z21 =>
              (.bb (z21 == (1 : Int))
               (.opt (drive_Drive_Geometry_nil0.c) fun z22 =>
                (.ret ((z22.1 == (64 : Int)) && ((z22.2.1 == (2 : Int)) && ((z22.2.2.1 == (5 : Int)) && ((z22.2.2.2.1 == (2 : Int)) && ((z22.2.2.2.2.1 == (1 : Int)) && ((z22.2.2.2.2.2 == (9 : Int)) && true))))))))
               (.ret false)))
             (.ret false))
            (.ret false))
           (.ret false))
          (.ret false))
         (.ret false)))))))))
noncomputable def c : Option Bool := (t).run
def pA : Pt := .nl
def pH : Pt := .nl
def v (l : TA) (y : Bool) : AV U := .im (.bool y)
def hh (l : TA) (y : Bool) : Hp U := []
noncomputable def A : AFun U := mkA (U := U) pA pH (X := Bool) (fun (l : TA) => c) sp1 v hh
noncomputable def body : Code := (Go.Func.body Try.f81).getD .skip
noncomputable def Γ : List (FuncId × AFun U) := [(32, flash_New.A), (88, (orA drive_New.pA drive_New.pH drive_New.A drive_New_nil0.A)), (84, (orA drive_Drive_Write.pA drive_Drive_Write.pH drive_Drive_Write.A drive_Drive_Write_nil0.A)), (36, (orA flash_Flash_Writes_v2.pA flash_Flash_Writes_v2.pH flash_Flash_Writes_v2.A flash_Flash_Writes_nil0.A)), (87, (orA drive_Drive_Geometry.pA drive_Drive_Geometry.pH drive_Drive_Geometry.A drive_Drive_Geometry_nil0.A))]
noncomputable def Λ : List (Nat × LFun U) := []
noncomputable def CT : List (Nat × LFun U) := []
def ro : List FuncId := [88, 36, 87]
def D : Nat → Lv × Lv := dtab []
noncomputable def E : Env U := { E0 with Γ := Γ, Λ := Λ, C := CT, D := D, ro := ro }
theorem hk (R : Type) (l : TA) (K : AV U → Hp U → Option R) : funcA E Try.f81 [] R (pA.mkL l.1) (pH.mkH l.2) K = (t).runK fun y => K (v l y) (hh l y) := by kernel_rfl
theorem okF : SoundF Try.prog cc 81 (funcA E Try.f81 []) :=
  funcA_ok (E := E) P_mixed (E0_ok.with Γ Λ CT D ro) (gam_of (all_cons ⟨flash_New.ok, ⟨Try.f32, Try.func32, by kernel_rfl, by kernel_rfl⟩⟩ (all_cons ⟨(orA_ok drive_New.ok drive_New_nil0.ok), ⟨Try.f88, Try.func88, by kernel_rfl, by kernel_rfl⟩⟩ (all_cons ⟨(orA_ok drive_Drive_Write.ok drive_Drive_Write_nil0.ok), ⟨Try.f84, Try.func84, by kernel_rfl, by kernel_rfl⟩⟩ (all_cons ⟨(orA_ok flash_Flash_Writes_v2.ok flash_Flash_Writes_nil0.ok), ⟨Try.f36, Try.func36, by kernel_rfl, by kernel_rfl⟩⟩ (all_cons ⟨(orA_ok drive_Drive_Geometry.ok drive_Drive_Geometry_nil0.ok), ⟨Try.f87, Try.func87, by kernel_rfl, by kernel_rfl⟩⟩ all_nil))))) (all_cons (no_keep (by kernel_rfl)) (all_cons (fun _ => (orA_keep drive_New.keep drive_New_nil0.keep)) (all_cons (no_keep (by kernel_rfl)) (all_cons (fun _ => (orA_keep flash_Flash_Writes_v2.keep flash_Flash_Writes_nil0.keep)) (all_cons (fun _ => (orA_keep drive_Drive_Geometry.keep drive_Drive_Geometry_nil0.keep)) all_nil)))))) Try.func81 (c := body) (by kernel_rfl)
    (just_by (by kernel_rfl) (by kernel_rfl) all_nil all_nil) []
theorem ok : SoundF Try.prog cc 81 A :=
  mkA_ok (E := E) (p := pA) (q := pH) (t := fun (l : TA) => t) sp1_ok hk okF
theorem keep : KeepA A := mkA_keep (U := U) sp1_ok (fun (l : TA) y => ⟨(hh l y).drop 0, by kernel_rfl⟩)
end law09_awake

end Go.Proofs.Ytpidbpmkogbdeaa.Va
