/- The functions of package law07FlashNone, as plain functions, and that the program computes them. Printed by a program of this work out of the evaluator. -/
import Derived.Test.YtpidbpmkogbdeaaEn
import Derived.Tactics
import Derived.Test.YtpidbpmkogbdeaaFflash
import Derived.Test.YtpidbpmkogbdeaaFlaw07
namespace Go.Proofs.Ytpidbpmkogbdeaa.Va
open Go
set_option linter.unusedVariables false
set_option maxRecDepth 100000

/-! instar/instarlaw07.FlashNone -/
namespace law07_FlashNone
abbrev TA : Type := (((Int × (Int × (Int × ((List Int) × Unit)))) × Unit) × Unit)
noncomputable def t (a_0 : Int) (a_1 : Int) (a_2 : Int) (a_3 : (List Int)) : Tw Bool :=
 (.opt (flash_Flash_Read_nil0.c a_1) fun z1 =>
  (.opt (flash_Flash_Size_nil0.c) fun z2 =>
   (.opt (flash_Flash_Arm_nil0.c a_1 a_3) fun z3 =>
    (.opt (flash_Flash_Power_nil0.c) fun z4 =>
     (.bb (z1.1 == (0 : Int))
      (.bb (z1.2 == (1 : Int))
       (.opt (flash_Flash_Program_nil0.c a_1 a_2) fun z5 =>
        (.bb (z5 == (1 : Int))
         (.opt (flash_Flash_Erase_nil0.c a_1) fun z6 =>
          (.bb (z6 == (1 : Int))
           (.opt (flash_Flash_Writes_nil0.c) fun z7 =>
            (.opt (flash_Flash_Wear_nil0.c a_1) fun z8 =>
             (.opt (flash_Flash_Words_nil0.c) fun z9 =>
              (.bb ((w64 ((w64 ((w64 ((w64 (z2.1 + z2.2)) + z7)) + z8)) + (0 : Int))) == (0 : Int))
               (.opt (flash_Flash_Gone_nil0.c) fun z10 =>
                (.bb z10
                 (.opt (flash_Flash_Copy_nil0.c) fun z11 =>
                  (.opt (law07_awake.c) fun z12 =>
                   (.ret z12)))
                 (.ret false)))
               (.ret false)))))
           (.ret false)))
         (.ret false)))
       (.ret false))
      (.ret false))))))
noncomputable def c (a_0 : Int) (a_1 : Int) (a_2 : Int) (a_3 : (List Int)) : Option Bool := (t a_0 a_1 a_2 a_3).run
def pA : Pt := (.cs (.agg (.cs (.int .i64) (.cs (.int .i64) (.cs (.int .u32) (.cs (.sl 3) .nl))))) .nl)
def pH : Pt := .nl
def v (l : TA) (y : Bool) : AV U := .im (.bool y)
def hh (l : TA) (y : Bool) : Hp U := []
noncomputable def A : AFun U := mkA (U := U) pA pH (X := Bool) (fun (l : TA) => c l.1.1.1 l.1.1.2.1 l.1.1.2.2.1 l.1.1.2.2.2.1) sp1 v hh
noncomputable def body : Code := (Go.Func.body Try.f9).getD .skip
noncomputable def Γ : List (FuncId × AFun U) := [(54, flash_Flash_Read_nil0.A), (53, flash_Flash_Size_nil0.A), (55, flash_Flash_Arm_nil0.A), (56, flash_Flash_Power_nil0.A), (57, flash_Flash_Program_nil0.A), (49, flash_Flash_Erase_nil0.A), (36, flash_Flash_Writes_nil0.A), (51, flash_Flash_Wear_nil0.A), (34, flash_Flash_Words_nil0.A), (35, flash_Flash_Gone_nil0.A), (48, flash_Flash_Copy_nil0.A), (31, law07_awake.A)]
noncomputable def Λ : List (Nat × LFun U) := []
noncomputable def CT : List (Nat × LFun U) := []
def ro : List FuncId := []
def D : Nat → Lv × Lv := dtab []
noncomputable def E : Env U := { E0 with Γ := Γ, Λ := Λ, C := CT, D := D, ro := ro }
theorem hk (R : Type) (l : TA) (K : AV U → Hp U → Option R) : funcA E Try.f9 [] R (pA.mkL l.1) (pH.mkH l.2) K = (t l.1.1.1 l.1.1.2.1 l.1.1.2.2.1 l.1.1.2.2.2.1).runK fun y => K (v l y) (hh l y) := by kernel_rfl
theorem okF : SoundF Try.prog cc 9 (funcA E Try.f9 []) :=
  funcA_ok (E := E) P_mixed (E0_ok.with Γ Λ CT D ro) (gam_of (all_cons ⟨flash_Flash_Read_nil0.ok, ⟨Try.f54, Try.func54, by kernel_rfl, by kernel_rfl⟩⟩ (all_cons ⟨flash_Flash_Size_nil0.ok, ⟨Try.f53, Try.func53, by kernel_rfl, by kernel_rfl⟩⟩ (all_cons ⟨flash_Flash_Arm_nil0.ok, ⟨Try.f55, Try.func55, by kernel_rfl, by kernel_rfl⟩⟩ (all_cons ⟨flash_Flash_Power_nil0.ok, ⟨Try.f56, Try.func56, by kernel_rfl, by kernel_rfl⟩⟩ (all_cons ⟨flash_Flash_Program_nil0.ok, ⟨Try.f57, Try.func57, by kernel_rfl, by kernel_rfl⟩⟩ (all_cons ⟨flash_Flash_Erase_nil0.ok, ⟨Try.f49, Try.func49, by kernel_rfl, by kernel_rfl⟩⟩ (all_cons ⟨flash_Flash_Writes_nil0.ok, ⟨Try.f36, Try.func36, by kernel_rfl, by kernel_rfl⟩⟩ (all_cons ⟨flash_Flash_Wear_nil0.ok, ⟨Try.f51, Try.func51, by kernel_rfl, by kernel_rfl⟩⟩ (all_cons ⟨flash_Flash_Words_nil0.ok, ⟨Try.f34, Try.func34, by kernel_rfl, by kernel_rfl⟩⟩ (all_cons ⟨flash_Flash_Gone_nil0.ok, ⟨Try.f35, Try.func35, by kernel_rfl, by kernel_rfl⟩⟩ (all_cons ⟨flash_Flash_Copy_nil0.ok, ⟨Try.f48, Try.func48, by kernel_rfl, by kernel_rfl⟩⟩ (all_cons ⟨law07_awake.ok, ⟨Try.f31, Try.func31, by kernel_rfl, by kernel_rfl⟩⟩ all_nil)))))))))))) (all_cons (no_keep (by kernel_rfl)) (all_cons (no_keep (by kernel_rfl)) (all_cons (no_keep (by kernel_rfl)) (all_cons (no_keep (by kernel_rfl)) (all_cons (no_keep (by kernel_rfl)) (all_cons (no_keep (by kernel_rfl)) (all_cons (no_keep (by kernel_rfl)) (all_cons (no_keep (by kernel_rfl)) (all_cons (no_keep (by kernel_rfl)) (all_cons (no_keep (by kernel_rfl)) (all_cons (no_keep (by kernel_rfl)) (all_cons (no_keep (by kernel_rfl)) all_nil))))))))))))) Try.func9 (c := body) (by kernel_rfl)
    (just_by (by kernel_rfl) (by kernel_rfl) all_nil all_nil) []
theorem ok : SoundF Try.prog cc 9 A :=
  mkA_ok (E := E) (p := pA) (q := pH) (t := fun (l : TA) => t l.1.1.1 l.1.1.2.1 l.1.1.2.2.1 l.1.1.2.2.2.1) sp1_ok hk okF
theorem keep : KeepA A := mkA_keep (U := U) sp1_ok (fun (l : TA) y => ⟨(hh l y).drop 0, by kernel_rfl⟩)
end law07_FlashNone

end Go.Proofs.Ytpidbpmkogbdeaa.Va
