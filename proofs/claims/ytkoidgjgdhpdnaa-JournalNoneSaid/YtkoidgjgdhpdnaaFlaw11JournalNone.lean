/- The functions of package law11JournalNone, as plain functions, and that the program computes them. Printed by a program of this work out of the evaluator. -/
import Derived.Test.YtkoidgjgdhpdnaaEn
import Derived.Tactics
import Derived.Test.YtkoidgjgdhpdnaaFdrive
import Derived.Test.YtkoidgjgdhpdnaaFflash
import Derived.Test.YtkoidgjgdhpdnaaFjournal
import Derived.Test.YtkoidgjgdhpdnaaFlaw11
import Derived.Test.YtkoidgjgdhpdnaaFref08
namespace Go.Proofs.Ytkoidgjgdhpdnaa.Va
open Go
set_option linter.unusedVariables false
set_option maxRecDepth 100000

/-! instar/instarlaw11.JournalNone -/
namespace law11_JournalNone
abbrev TA : Type := (((Int × (Int × (Int × (Int × (Int × (Int × Unit)))))) × ((Int × (Int × ((List Int) × ((List Int) × Unit)))) × Unit)) × Unit)
noncomputable def t (g_0 g_1 g_2 g_3 g_4 g_5 a_0 a_1 : Int) (a_2 : (List Int)) (a_3 : (List Int)) : Tw Bool :=
 (.opt (ref08_Small.c g_0 g_1 g_2 g_3 g_4 g_5) fun z1 =>
  (.bb (!z1)
   (.opt (law11_awake.c) fun z36 =>
    (.ret z36))
   (.opt (law11_great.c ((Go.Proofs.Ytkoidgjgdhpdnaa.Va.Act11.mk a_0 a_1 a_2 a_3) :: ([] : List (Act11)))) fun z2 =>
    (.bb z2
     (.opt (law11_awake.c) fun z35 =>
      (.ret z35))
     (.opt (journal_Journal_Place_nil0.c) fun z3 =>
      (.opt (journal_Journal_Seq_nil0.c) fun z4 =>
       (.bb (z4 != (0 : Int))
        (.ret false)
        (.opt (journal_Journal_Whole_nil0.c) fun z5 =>
         (.opt (journal_Journal_Changes_nil0.c) fun z6 =>
          (.opt (journal_Journal_Torn_nil0.c) fun z7 =>
           (.bb z7
            (.ret false)
            (.bb ((w64 (z3.1 + z3.2)) != (0 : Int))
             (.ret false)
             (.opt (journal_Journal_Change_nil0.c a_2 a_3) fun z8 =>
              (.bb (z8 != (1 : Int))
               (.ret false)
               (.opt (journal_Journal_Put_nil0.c a_3) fun z9 =>
                (.bb (z9 != (1 : Int))
                 (.ret false)
                 (.opt (journal_Journal_Mend_nil0.c a_3) fun z10 =>
                  (.bb (z10 != (1 : Int))
                   (.ret false)
                   (.opt (ref08_Map.c g_0 g_1 g_2 g_3 g_4 g_5) fun z11 =>
                    (.opt (flash_New.c (((List.length z11) : Nat) : Int) g_0) fun z12 =>
                     (.sm z12
                      (fun z13 => (.opt (drive_New.c g_0 g_1 g_2 g_3 g_4 g_5 g_0 z13.2.1 z13.2.2.1 z13.2.2.2.1 z13.2.2.2.2.1 z13.2.2.2.2.2) fun z15 =>
                        (.sm z15
                         (fun z16 => (.bb (z16 != (0 : Int))
                           (.ret false)
                           (.opt (journal_Open.c g_0 g_1 g_2 g_3 g_4 g_5 g_0 z13.2.1 z13.2.2.1 z13.2.2.2.1 z13.2.2.2.2.1 z13.2.2.2.2.2) fun z18 =>
                            (.sm z18
                             (fun z19 => (.opt (journal_New_nil0.c a_3) fun z21 =>
                               (.opt (journal_Open_nil0.c) fun z22 =>
                                (.bb (z19 == (8 : Int))
                                 (.bb (z21 == (1 : Int))
                                  (.bb (z22 == (1 : Int))
                                   (.opt (law11_awake.c) fun z23 =>
                                    (.ret z23))
                                   (.ret false))
                                  (.ret false))
                                 (.ret false)))))
                             (fun z20 => (.opt (journal_New_nil0.c a_3) fun z24 =>
                               (.opt (journal_Open_nil0.c) fun z25 =>
                                (.ret false))))))))
                         (fun z17 => (.bb (z17 != (0 : Int))
                           (.ret false)
                           (.opt (journal_Open_nil0.c) fun z26 =>
                            (.opt (journal_New_nil0.c a_3) fun z27 =>
                             (.opt (journal_Open_nil0.c) fun z28 =>
                              (.bb (z26 == (8 : Int))
                               (.bb (z27 == (1 : Int))
                                (.bb (z28 == (1 : Int))
                                 (.opt (law11_awake.c) fun z29 =>
                                  (.ret z29))
                                 (.ret false))
                                (.ret false))
                               (.ret false))))))))))
                      (fun z14 => (.opt (drive_New_nil0.c g_0 g_1 g_2 g_3 g_4 g_5) fun z30 =>
                        (.bb (z30 != (0 : Int))
                         (.ret false)
                         (.opt (journal_Open_nil0.c) fun z31 =>
                          (.opt (journal_New_nil0.c a_3) fun z32 =>
                           (.opt (journal_Open_nil0.c) fun z33 =>
                            (.bb (z31 == (8 : Int))
                             (.bb (z32 == (1 : Int))
                              (.bb (z33 == (1 : Int))
                               (.opt (law11_awake.c) fun z34 =>
                                (.ret z34))
                               (.ret false))
                              (.ret false))
                             (.ret false)))))))))))))))))))))))))))))
noncomputable def c (g_0 g_1 g_2 g_3 g_4 g_5 a_0 a_1 : Int) (a_2 : (List Int)) (a_3 : (List Int)) : Option Bool := (t g_0 g_1 g_2 g_3 g_4 g_5 a_0 a_1 a_2 a_3).run
def pA : Pt := (.cs (.agg (.cs (.int .i64) (.cs (.int .i64) (.cs (.int .i64) (.cs (.int .i64) (.cs (.int .i64) (.cs (.int .i64) .nl))))))) (.cs (.agg (.cs (.int .i64) (.cs (.int .i64) (.cs (.sl 3) (.cs (.sl 3) .nl))))) .nl))
def pH : Pt := .nl
def v (l : TA) (y : Bool) : AV U := .im (.bool y)
def hh (l : TA) (y : Bool) : Hp U := []
noncomputable def A : AFun U := mkA (U := U) pA pH (X := Bool) (fun (l : TA) => c l.1.1.1 l.1.1.2.1 l.1.1.2.2.1 l.1.1.2.2.2.1 l.1.1.2.2.2.2.1 l.1.1.2.2.2.2.2.1 l.1.2.1.1 l.1.2.1.2.1 l.1.2.1.2.2.1 l.1.2.1.2.2.2.1) sp1 v hh
noncomputable def body : Code := (Go.Func.body Try.f3).getD .skip
noncomputable def Γ : List (FuncId × AFun U) := [(5, ref08_Small.A), (6, law11_great.A), (8, journal_Journal_Place_nil0.A), (9, journal_Journal_Seq_nil0.A), (10, journal_Journal_Whole_nil0.A), (11, journal_Journal_Changes_nil0.A), (12, journal_Journal_Torn_nil0.A), (13, journal_Journal_Change_nil0.A), (14, journal_Journal_Put_nil0.A), (15, journal_Journal_Mend_nil0.A), (17, ref08_Map.A), (16, flash_New.A), (18, (orA drive_New.pA drive_New.pH drive_New.A drive_New_nil0.A)), (19, (orA journal_Open.pA journal_Open.pH journal_Open.A journal_Open_nil0.A)), (20, journal_New_nil0.A), (7, law11_awake.A)]
noncomputable def Λ : List (Nat × LFun U) := []
noncomputable def CT : List (Nat × LFun U) := []
def ro : List FuncId := [18]
def D : Nat → Lv × Lv := dtab []
noncomputable def E : Env U := { E0 with Γ := Γ, Λ := Λ, C := CT, D := D, ro := ro }
theorem hk (R : Type) (l : TA) (K : AV U → Hp U → Option R) : funcA E Try.f3 [] R (pA.mkL l.1) (pH.mkH l.2) K = (t l.1.1.1 l.1.1.2.1 l.1.1.2.2.1 l.1.1.2.2.2.1 l.1.1.2.2.2.2.1 l.1.1.2.2.2.2.2.1 l.1.2.1.1 l.1.2.1.2.1 l.1.2.1.2.2.1 l.1.2.1.2.2.2.1).runK fun y => K (v l y) (hh l y) := by kernel_rfl
theorem okF : SoundF Try.prog cc 3 (funcA E Try.f3 []) :=
  funcA_ok (E := E) P_mixed (E0_ok.with Γ Λ CT D ro) (gam_of (all_cons ⟨ref08_Small.ok, ⟨Try.f5, Try.func5, by kernel_rfl, by kernel_rfl⟩⟩ (all_cons ⟨law11_great.ok, ⟨Try.f6, Try.func6, by kernel_rfl, by kernel_rfl⟩⟩ (all_cons ⟨journal_Journal_Place_nil0.ok, ⟨Try.f8, Try.func8, by kernel_rfl, by kernel_rfl⟩⟩ (all_cons ⟨journal_Journal_Seq_nil0.ok, ⟨Try.f9, Try.func9, by kernel_rfl, by kernel_rfl⟩⟩ (all_cons ⟨journal_Journal_Whole_nil0.ok, ⟨Try.f10, Try.func10, by kernel_rfl, by kernel_rfl⟩⟩ (all_cons ⟨journal_Journal_Changes_nil0.ok, ⟨Try.f11, Try.func11, by kernel_rfl, by kernel_rfl⟩⟩ (all_cons ⟨journal_Journal_Torn_nil0.ok, ⟨Try.f12, Try.func12, by kernel_rfl, by kernel_rfl⟩⟩ (all_cons ⟨journal_Journal_Change_nil0.ok, ⟨Try.f13, Try.func13, by kernel_rfl, by kernel_rfl⟩⟩ (all_cons ⟨journal_Journal_Put_nil0.ok, ⟨Try.f14, Try.func14, by kernel_rfl, by kernel_rfl⟩⟩ (all_cons ⟨journal_Journal_Mend_nil0.ok, ⟨Try.f15, Try.func15, by kernel_rfl, by kernel_rfl⟩⟩ (all_cons ⟨ref08_Map.ok, ⟨Try.f17, Try.func17, by kernel_rfl, by kernel_rfl⟩⟩ (all_cons ⟨flash_New.ok, ⟨Try.f16, Try.func16, by kernel_rfl, by kernel_rfl⟩⟩ (all_cons ⟨(orA_ok drive_New.ok drive_New_nil0.ok), ⟨Try.f18, Try.func18, by kernel_rfl, by kernel_rfl⟩⟩ (all_cons ⟨(orA_ok journal_Open.ok journal_Open_nil0.ok), ⟨Try.f19, Try.func19, by kernel_rfl, by kernel_rfl⟩⟩ (all_cons ⟨journal_New_nil0.ok, ⟨Try.f20, Try.func20, by kernel_rfl, by kernel_rfl⟩⟩ (all_cons ⟨law11_awake.ok, ⟨Try.f7, Try.func7, by kernel_rfl, by kernel_rfl⟩⟩ all_nil)))))))))))))))) (all_cons (no_keep (by kernel_rfl)) (all_cons (no_keep (by kernel_rfl)) (all_cons (no_keep (by kernel_rfl)) (all_cons (no_keep (by kernel_rfl)) (all_cons (no_keep (by kernel_rfl)) (all_cons (no_keep (by kernel_rfl)) (all_cons (no_keep (by kernel_rfl)) (all_cons (no_keep (by kernel_rfl)) (all_cons (no_keep (by kernel_rfl)) (all_cons (no_keep (by kernel_rfl)) (all_cons (no_keep (by kernel_rfl)) (all_cons (no_keep (by kernel_rfl)) (all_cons (fun _ => (orA_keep drive_New.keep drive_New_nil0.keep)) (all_cons (no_keep (by kernel_rfl)) (all_cons (no_keep (by kernel_rfl)) (all_cons (no_keep (by kernel_rfl)) all_nil))))))))))))))))) Try.func3 (c := body) (by kernel_rfl)
    (just_by (by kernel_rfl) (by kernel_rfl) all_nil all_nil) []
theorem ok : SoundF Try.prog cc 3 A :=
  mkA_ok (E := E) (p := pA) (q := pH) (t := fun (l : TA) => t l.1.1.1 l.1.1.2.1 l.1.1.2.2.1 l.1.1.2.2.2.1 l.1.1.2.2.2.2.1 l.1.1.2.2.2.2.2.1 l.1.2.1.1 l.1.2.1.2.1 l.1.2.1.2.2.1 l.1.2.1.2.2.2.1) sp1_ok hk okF
theorem keep : KeepA A := mkA_keep (U := U) sp1_ok (fun (l : TA) y => ⟨(hh l y).drop 0, by kernel_rfl⟩)
end law11_JournalNone

end Go.Proofs.Ytkoidgjgdhpdnaa.Va
