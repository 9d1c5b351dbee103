/- The functions of package law09DriveNone, as plain functions, and that the program computes them. Printed by a program of this work out of the evaluator. -/
import Derived.Test.YtpidbpmkogbdeaaEn
import Derived.Tactics
import Derived.Test.YtpidbpmkogbdeaaFdrive
import Derived.Test.YtpidbpmkogbdeaaFflash
import Derived.Test.YtpidbpmkogbdeaaFlaw09
import Derived.Test.YtpidbpmkogbdeaaFref08
namespace Go.Proofs.Ytpidbpmkogbdeaa.Va
open Go
set_option linter.unusedVariables false
set_option maxRecDepth 100000

/-! instar/instarlaw09.DriveNone -/
namespace law09_DriveNone
abbrev TA : Type := (((Int × (Int × (Int × (Int × (Int × (Int × Unit)))))) × ((Int × (Int × Unit)) × ((Int × (Int × (Int × (Int × ((List Int) × Unit))))) × Unit))) × Unit)
noncomputable def t (g_0 : Int) (g_1 : Int) (g_2 : Int) (g_3 : Int) (g_4 : Int) (g_5 : Int) (size_0 : Int) (size_1 : Int) (a_0 : Int) (a_1 : Int) (a_2 : Int) (a_3 : Int) (a_4 : (List Int)) : Tw Bool :=
 (.bb (decide ((((List.length a_4) : Nat) : Int) > (200 : Int)))
  (.opt (law09_awake.c) fun z92 =>
   (.ret z92))
  (.bb (decide (size_0 > (100 : Int)))
   (.bb (decide (size_0 ≤ (512 : Int)))
    (.opt (law09_awake.c) fun z91 =>
     (.ret z91))
    (.bb (decide (size_1 > (128 : Int)))
     (.bb (decide (size_1 ≤ (1024 : Int)))
      (.opt (law09_awake.c) fun z90 =>
       (.ret z90))
      (.opt (drive_Drive_Read_nil0.c a_1 a_2 a_3) fun z68 =>
       (.opt (drive_Drive_Blank_nil0.c a_1 a_2) fun z69 =>
        (.bb ((((List.length z68.2) : Nat) : Int) != (0 : Int))
         (.ret false)
         (.bb (z68.1 != (1 : Int))
          (.ret false)
          (.bb z69.1
           (.ret false)
           (.bb (z69.2 != (1 : Int))
            (.ret false)
            (.opt (drive_Drive_Write_nil0.c a_1 a_2 a_4) fun z70 =>
             (.bb (z70 != (1 : Int))
              (.ret false)
              (.opt (drive_Drive_Clean_nil0.c a_1) fun z71 =>
               (.bb (z71 != (1 : Int))
                (.ret false)
                (.opt (drive_Drive_Fresh_nil0.c a_1 a_4) fun z72 =>
                 (.bb (z72 != (1 : Int))
                  (.ret false)
                  (.opt (drive_Drive_Geometry_nil0.c) fun z73 =>
                   (.bb (!((z73.1 == (0 : Int)) && ((z73.2.1 == (0 : Int)) && ((z73.2.2.1 == (0 : Int)) && ((z73.2.2.2.1 == (0 : Int)) && ((z73.2.2.2.2.1 == (0 : Int)) && ((z73.2.2.2.2.2 == (0 : Int)) && true)))))))
                    (.ret false)
                    (.opt (flash_New.c size_0 size_1) fun z74 =>
                     (.sm z74
                      (fun z75 => (.opt (drive_New.c g_0 g_1 g_2 g_3 g_4 g_5 size_1 z75.2.1 z75.2.2.1 z75.2.2.2.1 z75.2.2.2.2.1 z75.2.2.2.2.2) fun z77 =>
                        (.sm z77
                         (fun z78 => (.opt (ref08_Right.c g_0 g_1 g_2 g_3 g_4 g_5) fun z80 =>
                           (.bb (!z80)
                            (.bb (z78 == (2 : Int))
                             (.ret false)
                             (.ret false))
                            (.opt (ref08_Map.c g_0 g_1 g_2 g_3 g_4 g_5) fun z81 =>
                             (.bb (size_0 != (((List.length z81) : Nat) : Int))
                              (.bb (z78 == (2 : Int))
                               (.ret false)
                               (.ret false))
                              (.bb (size_1 != g_0)
                               (.bb (z78 == (2 : Int))
                                (.ret false)
                                (.ret false))
                               (.bb (z78 == (0 : Int))
                                (.opt (law09_awake.c) fun z82 =>
                                 (.ret z82))
                                (.ret false))))))))
                         (fun z79 => (.opt (ref08_Right.c g_0 g_1 g_2 g_3 g_4 g_5) fun z83 =>
                           (.bb (!z83)
                            (.bb (z79 == (2 : Int))
                             (.opt (law09_awake.c) fun z87 =>
                              (.ret z87))
                             (.ret false))
                            (.opt (ref08_Map.c g_0 g_1 g_2 g_3 g_4 g_5) fun z84 =>
                             (.bb (size_0 != (((List.length z84) : Nat) : Int))
                              (.bb (z79 == (2 : Int))
                               (.opt (law09_awake.c) fun z86 =>
                                (.ret z86))
                               (.ret false))
                              (.bb (size_1 != g_0)
                               (.bb (z79 == (2 : Int))
                                (.opt (law09_awake.c) fun z85 =>
                                 (.ret z85))
                                (.ret false))
                               (.bb (z79 == (0 : Int))
                                (.ret false)
                                (.ret false)))))))))))
                      (fun z76 => (.opt (drive_New_nil0.c g_0 g_1 g_2 g_3 g_4 g_5) fun z88 =>
                        (.bb (z88 == (1 : Int))
                         (.opt (law09_awake.c) fun z89 =>
                          (.ret z89))
                         (.ret false)))))))))))))))))))))
     (.opt (drive_Drive_Read_nil0.c a_1 a_2 a_3) fun z46 =>
      (.opt (drive_Drive_Blank_nil0.c a_1 a_2) fun z47 =>
       (.bb ((((List.length z46.2) : Nat) : Int) != (0 : Int))
        (.ret false)
        (.bb (z46.1 != (1 : Int))
         (.ret false)
         (.bb z47.1
          (.ret false)
          (.bb (z47.2 != (1 : Int))
           (.ret false)
           (.opt (drive_Drive_Write_nil0.c a_1 a_2 a_4) fun z48 =>
            (.bb (z48 != (1 : Int))
             (.ret false)
             (.opt (drive_Drive_Clean_nil0.c a_1) fun z49 =>
              (.bb (z49 != (1 : Int))
               (.ret false)
               (.opt (drive_Drive_Fresh_nil0.c a_1 a_4) fun z50 =>
                (.bb (z50 != (1 : Int))
                 (.ret false)
                 (.opt (drive_Drive_Geometry_nil0.c) fun z51 =>
                  (.bb (!((z51.1 == (0 : Int)) && ((z51.2.1 == (0 : Int)) && ((z51.2.2.1 == (0 : Int)) && ((z51.2.2.2.1 == (0 : Int)) && ((z51.2.2.2.2.1 == (0 : Int)) && ((z51.2.2.2.2.2 == (0 : Int)) && true)))))))
                   (.ret false)
                   (.opt (flash_New.c size_0 size_1) fun z52 =>
                    (.sm z52
                     (fun z53 => (.opt (drive_New.c g_0 g_1 g_2 g_3 g_4 g_5 size_1 z53.2.1 z53.2.2.1 z53.2.2.2.1 z53.2.2.2.2.1 z53.2.2.2.2.2) fun z55 =>
                       (.sm z55
                        (fun z56 => (.opt (ref08_Right.c g_0 g_1 g_2 g_3 g_4 g_5) fun z58 =>
                          (.bb (!z58)
                           (.bb (z56 == (2 : Int))
                            (.ret false)
                            (.ret false))
                           (.opt (ref08_Map.c g_0 g_1 g_2 g_3 g_4 g_5) fun z59 =>
                            (.bb (size_0 != (((List.length z59) : Nat) : Int))
                             (.bb (z56 == (2 : Int))
                              (.ret false)
                              (.ret false))
                             (.bb (size_1 != g_0)
                              (.bb (z56 == (2 : Int))
                               (.ret false)
                               (.ret false))
                              (.bb (z56 == (0 : Int))
                               (.opt (law09_awake.c) fun z60 =>
                                (.ret z60))
                               (.ret false))))))))
                        (fun z57 => (.opt (ref08_Right.c g_0 g_1 g_2 g_3 g_4 g_5) fun z61 =>
                          (.bb (!z61)
                           (.bb (z57 == (2 : Int))
                            (.opt (law09_awake.c) fun z65 =>
                             (.ret z65))
                            (.ret false))
                           (.opt (ref08_Map.c g_0 g_1 g_2 g_3 g_4 g_5) fun z62 =>
                            (.bb (size_0 != (((List.length z62) : Nat) : Int))
                             (.bb (z57 == (2 : Int))
                              (.opt (law09_awake.c) fun z64 =>
                               (.ret z64))
                              (.ret false))
                             (.bb (size_1 != g_0)
                              (.bb (z57 == (2 : Int))
                               (.opt (law09_awake.c) fun z63 =>
                                (.ret z63))
                               (.ret false))
                              (.bb (z57 == (0 : Int))
                               (.ret false)
                               (.ret false)))))))))))
                     (fun z54 => (.opt (drive_New_nil0.c g_0 g_1 g_2 g_3 g_4 g_5) fun z66 =>
                       (.bb (z66 == (1 : Int))
                        (.opt (law09_awake.c) fun z67 =>
                         (.ret z67))
                        (.ret false))))))))))))))))))))))
   (.bb (decide (size_1 > (128 : Int)))
    (.bb (decide (size_1 ≤ (1024 : Int)))
     (.opt (law09_awake.c) fun z45 =>
      (.ret z45))
     (.opt (drive_Drive_Read_nil0.c a_1 a_2 a_3) fun z23 =>
      (.opt (drive_Drive_Blank_nil0.c a_1 a_2) fun z24 =>
       (.bb ((((List.length z23.2) : Nat) : Int) != (0 : Int))
        (.ret false)
        (.bb (z23.1 != (1 : Int))
         (.ret false)
         (.bb z24.1
          (.ret false)
          (.bb (z24.2 != (1 : Int))
           (.ret false)
           (.opt (drive_Drive_Write_nil0.c a_1 a_2 a_4) fun z25 =>
            (.bb (z25 != (1 : Int))
             (.ret false)
             (.opt (drive_Drive_Clean_nil0.c a_1) fun z26 =>
              (.bb (z26 != (1 : Int))
               (.ret false)
               (.opt (drive_Drive_Fresh_nil0.c a_1 a_4) fun z27 =>
                (.bb (z27 != (1 : Int))
                 (.ret false)
                 (.opt (drive_Drive_Geometry_nil0.c) fun z28 =>
                  (.bb (!((z28.1 == (0 : Int)) && ((z28.2.1 == (0 : Int)) && ((z28.2.2.1 == (0 : Int)) && ((z28.2.2.2.1 == (0 : Int)) && ((z28.2.2.2.2.1 == (0 : Int)) && ((z28.2.2.2.2.2 == (0 : Int)) && true)))))))
                   (.ret false)
                   (.opt (flash_New.c size_0 size_1) fun z29 =>
                    (.sm z29
                     (fun z30 => (.opt (drive_New.c g_0 g_1 g_2 g_3 g_4 g_5 size_1 z30.2.1 z30.2.2.1 z30.2.2.2.1 z30.2.2.2.2.1 z30.2.2.2.2.2) fun z32 =>
                       (.sm z32
                        (fun z33 => (.opt (ref08_Right.c g_0 g_1 g_2 g_3 g_4 g_5) fun z35 =>
                          (.bb (!z35)
                           (.bb (z33 == (2 : Int))
                            (.ret false)
                            (.ret false))
                           (.opt (ref08_Map.c g_0 g_1 g_2 g_3 g_4 g_5) fun z36 =>
                            (.bb (size_0 != (((List.length z36) : Nat) : Int))
                             (.bb (z33 == (2 : Int))
                              (.ret false)
                              (.ret false))
                             (.bb (size_1 != g_0)
                              (.bb (z33 == (2 : Int))
                               (.ret false)
                               (.ret false))
                              (.bb (z33 == (0 : Int))
                               (.opt (law09_awake.c) fun z37 =>
                                (.ret z37))
                               (.ret false))))))))
                        (fun z34 => (.opt (ref08_Right.c g_0 g_1 g_2 g_3 g_4 g_5) fun z38 =>
                          (.bb (!z38)
                           (.bb (z34 == (2 : Int))
                            (.opt (law09_awake.c) fun z42 =>
                             (.ret z42))
                            (.ret false))
                           (.opt (ref08_Map.c g_0 g_1 g_2 g_3 g_4 g_5) fun z39 =>
                            (.bb (size_0 != (((List.length z39) : Nat) : Int))
                             (.bb (z34 == (2 : Int))
                              (.opt (law09_awake.c) fun z41 =>
                               (.ret z41))
                              (.ret false))
                             (.bb (size_1 != g_0)
                              (.bb (z34 == (2 : Int))
                               (.opt (law09_awake.c) fun z40 =>
                                (.ret z40))
                               (.ret false))
                              (.bb (z34 == (0 : Int))
                               (.ret false)
                               (.ret false)))))))))))
                     (fun z31 => (.opt (drive_New_nil0.c g_0 g_1 g_2 g_3 g_4 g_5) fun z43 =>
                       (.bb (z43 == (1 : Int))
                        (.opt (law09_awake.c) fun z44 =>
                         (.ret z44))
                        (.ret false)))))))))))))))))))))
    (.opt (drive_Drive_Read_nil0.c a_1 a_2 a_3) fun z1 =>
     (.opt (drive_Drive_Blank_nil0.c a_1 a_2) fun z2 =>
      (.bb ((((List.length z1.2) : Nat) : Int) != (0 : Int))
       (.ret false)
       (.bb (z1.1 != (1 : Int))
        (.ret false)
        (.bb z2.1
         (.ret false)
         (.bb (z2.2 != (1 : Int))
          (.ret false)
          (.opt (drive_Drive_Write_nil0.c a_1 a_2 a_4) fun z3 =>
           (.bb (z3 != (1 : Int))
            (.ret false)
            (.opt (drive_Drive_Clean_nil0.c a_1) fun z4 =>
             (.bb (z4 != (1 : Int))
              (.ret false)
              (.opt (drive_Drive_Fresh_nil0.c a_1 a_4) fun z5 =>
               (.bb (z5 != (1 : Int))
                (.ret false)
                (.opt (drive_Drive_Geometry_nil0.c) fun z6 =>
                 (.bb (!((z6.1 == (0 : Int)) && ((z6.2.1 == (0 : Int)) && ((z6.2.2.1 == (0 : Int)) && ((z6.2.2.2.1 == (0 : Int)) && ((z6.2.2.2.2.1 == (0 : Int)) && ((z6.2.2.2.2.2 == (0 : Int)) && true)))))))
                  (.ret false)
                  (.opt (flash_New.c size_0 size_1) fun z7 =>
                   (.sm z7
                    (fun z8 => (.opt (drive_New.c g_0 g_1 g_2 g_3 g_4 g_5 size_1 z8.2.1 z8.2.2.1 z8.2.2.2.1 z8.2.2.2.2.1 z8.2.2.2.2.2) fun z10 =>
                      (.sm z10
                       (fun z11 => (.opt (ref08_Right.c g_0 g_1 g_2 g_3 g_4 g_5) fun z13 =>
                         (.bb (!z13)
                          (.bb (z11 == (2 : Int))
                           (.ret false)
                           (.ret false))
                          (.opt (ref08_Map.c g_0 g_1 g_2 g_3 g_4 g_5) fun z14 =>
                           (.bb (size_0 != (((List.length z14) : Nat) : Int))
                            (.bb (z11 == (2 : Int))
                             (.ret false)
                             (.ret false))
                            (.bb (size_1 != g_0)
                             (.bb (z11 == (2 : Int))
                              (.ret false)
                              (.ret false))
                             (.bb (z11 == (0 : Int))
                              (.opt (law09_awake.c) fun z15 =>
                               (.ret z15))
                              (.ret false))))))))
                       (fun z12 => (.opt (ref08_Right.c g_0 g_1 g_2 g_3 g_4 g_5) fun z16 =>
                         (.bb (!z16)
                          (.bb (z12 == (2 : Int))
                           (.opt (law09_awake.c) fun z20 =>
                            (.ret z20))
                           (.ret false))
                          (.opt (ref08_Map.c g_0 g_1 g_2 g_3 g_4 g_5) fun z17 =>
                           (.bb (size_0 != (((List.length z17) : Nat) : Int))
                            (.bb (z12 == (2 : Int))
                             (.opt (law09_awake.c) fun z19 =>
                              (.ret z19))
                             (.ret false))
                            (.bb (size_1 != g_0)
                             (.bb (z12 == (2 : Int))
                              (.opt (law09_awake.c) fun z18 =>
                               (.ret z18))
                              (.ret false))
                             (.bb (z12 == (0 : Int))
                              (.ret false)
                              (.ret false)))))))))))
                    (fun z9 => (.opt (drive_New_nil0.c g_0 g_1 g_2 g_3 g_4 g_5) fun z21 =>
                      (.bb (z21 == (1 : Int))
                       (.opt (law09_awake.c) fun z22 =>
                        (.ret z22))
                       (.ret false)))))))))))))))))))))))
noncomputable def c (g_0 : Int) (g_1 : Int) (g_2 : Int) (g_3 : Int) (g_4 : Int) (g_5 : Int) (size_0 : Int) (size_1 : Int) (a_0 : Int) (a_1 : Int) (a_2 : Int) (a_3 : Int) (a_4 : (List Int)) : Option Bool := (t g_0 g_1 g_2 g_3 g_4 g_5 size_0 size_1 a_0 a_1 a_2 a_3 a_4).run
def pA : Pt := (.cs (.agg (.cs (.int .i64) (.cs (.int .i64) (.cs (.int .i64) (.cs (.int .i64) (.cs (.int .i64) (.cs (.int .i64) .nl))))))) (.cs (.agg (.cs (.int .i64) (.cs (.int .i64) .nl))) (.cs (.agg (.cs (.int .i64) (.cs (.int .i64) (.cs (.int .i64) (.cs (.int .i64) (.cs (.sl 3) .nl)))))) .nl)))
def pH : Pt := .nl
def v (l : TA) (y : Bool) : AV U := .im (.bool y)
def hh (l : TA) (y : Bool) : Hp U := []
noncomputable def A : AFun U := mkA (U := U) pA pH (X := Bool) (fun (l : TA) => c l.1.1.1 l.1.1.2.1 l.1.1.2.2.1 l.1.1.2.2.2.1 l.1.1.2.2.2.2.1 l.1.1.2.2.2.2.2.1 l.1.2.1.1 l.1.2.1.2.1 l.1.2.2.1.1 l.1.2.2.1.2.1 l.1.2.2.1.2.2.1 l.1.2.2.1.2.2.2.1 l.1.2.2.1.2.2.2.2.1) sp1 v hh
noncomputable def body : Code := (Go.Func.body Try.f15).getD .skip
noncomputable def Γ : List (FuncId × AFun U) := [(82, drive_Drive_Read_nil0.A), (83, drive_Drive_Blank_nil0.A), (84, drive_Drive_Write_nil0.A), (85, drive_Drive_Clean_nil0.A), (86, drive_Drive_Fresh_nil0.A), (87, drive_Drive_Geometry_nil0.A), (32, flash_New.A), (88, (orA drive_New.pA drive_New.pH drive_New.A drive_New_nil0.A)), (89, ref08_Right.A), (90, ref08_Map.A), (81, law09_awake.A)]
noncomputable def Λ : List (Nat × LFun U) := []
noncomputable def CT : List (Nat × LFun U) := []
def ro : List FuncId := [88]
def D : Nat → Lv × Lv := dtab []
noncomputable def E : Env U := { E0 with Γ := Γ, Λ := Λ, C := CT, D := D, ro := ro }
theorem hk (R : Type) (l : TA) (K : AV U → Hp U → Option R) : funcA E Try.f15 [] R (pA.mkL l.1) (pH.mkH l.2) K = (t l.1.1.1 l.1.1.2.1 l.1.1.2.2.1 l.1.1.2.2.2.1 l.1.1.2.2.2.2.1 l.1.1.2.2.2.2.2.1 l.1.2.1.1 l.1.2.1.2.1 l.1.2.2.1.1 l.1.2.2.1.2.1 l.1.2.2.1.2.2.1 l.1.2.2.1.2.2.2.1 l.1.2.2.1.2.2.2.2.1).runK fun y => K (v l y) (hh l y) := by kernel_rfl
theorem okF : SoundF Try.prog cc 15 (funcA E Try.f15 []) :=
  funcA_ok (E := E) P_mixed (E0_ok.with Γ Λ CT D ro) (gam_of (all_cons ⟨drive_Drive_Read_nil0.ok, ⟨Try.f82, Try.func82, by kernel_rfl, by kernel_rfl⟩⟩ (all_cons ⟨drive_Drive_Blank_nil0.ok, ⟨Try.f83, Try.func83, by kernel_rfl, by kernel_rfl⟩⟩ (all_cons ⟨drive_Drive_Write_nil0.ok, ⟨Try.f84, Try.func84, by kernel_rfl, by kernel_rfl⟩⟩ (all_cons ⟨drive_Drive_Clean_nil0.ok, ⟨Try.f85, Try.func85, by kernel_rfl, by kernel_rfl⟩⟩ (all_cons ⟨drive_Drive_Fresh_nil0.ok, ⟨Try.f86, Try.func86, by kernel_rfl, by kernel_rfl⟩⟩ (all_cons ⟨drive_Drive_Geometry_nil0.ok, ⟨Try.f87, Try.func87, by kernel_rfl, by kernel_rfl⟩⟩ (all_cons ⟨flash_New.ok, ⟨Try.f32, Try.func32, by kernel_rfl, by kernel_rfl⟩⟩ (all_cons ⟨(orA_ok drive_New.ok drive_New_nil0.ok), ⟨Try.f88, Try.func88, by kernel_rfl, by kernel_rfl⟩⟩ (all_cons ⟨ref08_Right.ok, ⟨Try.f89, Try.func89, by kernel_rfl, by kernel_rfl⟩⟩ (all_cons ⟨ref08_Map.ok, ⟨Try.f90, Try.func90, by kernel_rfl, by kernel_rfl⟩⟩ (all_cons ⟨law09_awake.ok, ⟨Try.f81, Try.func81, by kernel_rfl, by kernel_rfl⟩⟩ all_nil))))))))))) (all_cons (no_keep (by kernel_rfl)) (all_cons (no_keep (by kernel_rfl)) (all_cons (no_keep (by kernel_rfl)) (all_cons (no_keep (by kernel_rfl)) (all_cons (no_keep (by kernel_rfl)) (all_cons (no_keep (by kernel_rfl)) (all_cons (no_keep (by kernel_rfl)) (all_cons (fun _ => (orA_keep drive_New.keep drive_New_nil0.keep)) (all_cons (no_keep (by kernel_rfl)) (all_cons (no_keep (by kernel_rfl)) (all_cons (no_keep (by kernel_rfl)) all_nil)))))))))))) Try.func15 (c := body) (by kernel_rfl)
    (just_by (by kernel_rfl) (by kernel_rfl) all_nil all_nil) []
theorem ok : SoundF Try.prog cc 15 A :=
  mkA_ok (E := E) (p := pA) (q := pH) (t := fun (l : TA) => t l.1.1.1 l.1.1.2.1 l.1.1.2.2.1 l.1.1.2.2.2.1 l.1.1.2.2.2.2.1 l.1.1.2.2.2.2.2.1 l.1.2.1.1 l.1.2.1.2.1 l.1.2.2.1.1 l.1.2.2.1.2.1 l.1.2.2.1.2.2.1 l.1.2.2.1.2.2.2.1 l.1.2.2.1.2.2.2.2.1) sp1_ok hk okF
theorem keep : KeepA A := mkA_keep (U := U) sp1_ok (fun (l : TA) y => ⟨(hh l y).drop 0, by kernel_rfl⟩)
end law09_DriveNone

end Go.Proofs.Ytpidbpmkogbdeaa.Va
