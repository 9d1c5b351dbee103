/- The functions of package law11JournalPlays, as plain functions, and that the program computes them. Printed by a program of this work out of the evaluator. -/
import Derived.Test.YtkoidgjgdhpdnaaGreatEn
import Derived.Tactics
import Derived.Test.YtkoidgjgdhpdnaaGreatFlaw11
import Derived.Test.YtkoidgjgdhpdnaaGreatFref08
namespace Go.Proofs.YtkoidgjgdhpdnaaGreat.Va
open Go
set_option linter.unusedVariables false
set_option maxRecDepth 100000

/-! instar/instarlaw11.JournalPlays -/
namespace law11_JournalPlays
abbrev TA : Type := (((Int × (Int × (Int × (Int × (Int × (Int × Unit)))))) × ((List Int) × ((List Act11) × Unit))) × Unit)
noncomputable def t (g_0 g_1 g_2 g_3 g_4 g_5 : Int) (whole : (List Int)) (l_ : (List Act11)) : Tw Bool :=
 (.opt (ref08_Small.c g_0 g_1 g_2 g_3 g_4 g_5) fun z1 =>
  (.bb (!z1)
   (.opt (law11_awake.c) fun z22 =>
    (.ret z22))
   (.opt (law11_great.c l_) fun z2 =>
    (.bb z2
     (.opt (law11_awake.c) fun z21 =>
      (.ret z21))
     (.bb (decide ((((List.length whole) : Nat) : Int) > (100 : Int)))
      (.opt (law11_awake.c) fun z20 =>
       (.ret z20))
      (.opt (law11_begin.c g_0 g_1 g_2 g_3 g_4 g_5 whole) fun z3 =>
       (.sm z3
        (fun z4 => (.bb (!z4.1)
          (.ret false)
          (.opt (law11_pair_run.c l_ g_0 z4.2.1 z4.2.2.1 z4.2.2.2.1 z4.2.2.2.2.1 z4.2.2.2.2.2.1 z4.2.2.2.2.2.2.1 g_0 g_1 g_2 g_3 g_4 g_5 z4.2.2.2.2.2.2.2.1 z4.2.2.2.2.2.2.2.2.1 z4.2.2.2.2.2.2.2.2.2.1 z4.2.2.2.2.2.2.2.2.2.2.1 z4.2.2.2.2.2.2.2.2.2.2.2.1 z4.2.2.2.2.2.2.2.2.2.2.2.2.1 z4.2.2.2.2.2.2.2.2.2.2.2.2.2.1 z4.2.2.2.2.2.2.2.2.2.2.2.2.2.2.1 z4.2.2.2.2.2.2.2.2.2.2.2.2.2.2.2.1 z4.2.2.2.2.2.2.2.2.2.2.2.2.2.2.2.2.1 z4.2.2.2.2.2.2.2.2.2.2.2.2.2.2.2.2.2.1 g_0 g_1 g_2 g_3 g_4 g_5 g_0 z4.2.2.2.2.2.2.2.2.2.2.2.2.2.2.2.2.2.2.1 z4.2.2.2.2.2.2.2.2.2.2.2.2.2.2.2.2.2.2.2.1 z4.2.2.2.2.2.2.2.2.2.2.2.2.2.2.2.2.2.2.2.2.1 z4.2.2.2.2.2.2.2.2.2.2.2.2.2.2.2.2.2.2.2.2.2.1 z4.2.2.2.2.2.2.2.2.2.2.2.2.2.2.2.2.2.2.2.2.2.2.1 z4.2.2.2.2.2.2.2.2.2.2.2.2.2.2.2.2.2.2.2.2.2.2.2.1 z4.2.2.2.2.2.2.2.2.2.2.2.2.2.2.2.2.2.2.2.2.2.2.2.2) fun z6 =>
           (.bb z6.1
            (.opt (law11_awake.c) fun z7 =>
             (.ret z7))
            (.ret false)))))
        (fun z5 => (.sm z5
          (fun z8 => (.bb (!z8.1)
            (.ret false)
            .no))
          (fun z9 => (.sm z9
            (fun z10 => (.bb (!z10.1)
              (.ret false)
              (.bb (decide ((((List.length whole) : Nat) : Int) < (1 : Int)))
               (.opt (law11_awake.c) fun z13 =>
                (.ret z13))
               (.bb (decide ((((List.length whole) : Nat) : Int) > (56 : Int)))
                (.opt (law11_awake.c) fun z12 =>
                 (.ret z12))
                (.ret false)))))
            (fun z11 => (.sm z11
              (fun z14 => (.bb (!z14.1)
                (.ret false)
                (.bb (decide ((((List.length whole) : Nat) : Int) < (1 : Int)))
                 (.opt (law11_awake.c) fun z17 =>
                  (.ret z17))
                 (.bb (decide ((((List.length whole) : Nat) : Int) > (56 : Int)))
                  (.opt (law11_awake.c) fun z16 =>
                   (.ret z16))
                  (.ret false)))))
              (fun z15 => (.bb (!z15)
                (.ret false)
                (.bb (decide ((((List.length whole) : Nat) : Int) < (1 : Int)))
                 (.opt (law11_awake.c) fun z19 =>
                  (.ret z19))
                 (.bb (decide ((((List.length whole) : Nat) : Int) > (56 : Int)))
                  (.opt (law11_awake.c) fun z18 =>
                   (.ret z18))
                  (.ret false))))))))))))))))))
noncomputable def c (g_0 g_1 g_2 g_3 g_4 g_5 : Int) (whole : (List Int)) (l_ : (List Act11)) : Option Bool := (t g_0 g_1 g_2 g_3 g_4 g_5 whole l_).run
noncomputable def tl (l : TA) : Tw Bool := t l.1.1.1 l.1.1.2.1 l.1.1.2.2.1 l.1.1.2.2.2.1 l.1.1.2.2.2.2.1 l.1.1.2.2.2.2.2.1 l.1.2.1 l.1.2.2.1
noncomputable def cl (l : TA) : Option Bool := c l.1.1.1 l.1.1.2.1 l.1.1.2.2.1 l.1.1.2.2.2.1 l.1.1.2.2.2.2.1 l.1.1.2.2.2.2.2.1 l.1.2.1 l.1.2.2.1
def pA : Pt := (.cs (.agg (jC (jC (jC (jC (jC (jC .nl))))))) (.cs (.sl 3) (.cs (.sl 27) .nl)))
def pH : Pt := .nl
def v (l : TA) (y : Bool) : AV U := jB y
def hh (l : TA) (y : Bool) : Hp U := []
noncomputable def A : AFun U := mkA (U := U) pA pH (X := Bool) cl sp1 v hh
noncomputable def body : Code := (Go.Func.body Tryz.f3).getD .skip
noncomputable def Γ : List (FuncId × AFun U) := [(5, ref08_Small.A), (6, law11_great.A), (8, law11_begin.A), (9, law11_pair_run.A), (7, law11_awake.A)]
noncomputable def Λ : List (Nat × LFun U) := []
noncomputable def CT : List (Nat × LFun U) := []
def ro : List FuncId := []
def D : Nat → Lv × Lv := dtab []
noncomputable def E : Env U := { E0 with Γ := Γ, Λ := Λ, C := CT, D := D, ro := ro }
theorem hk (R : Type) (l : TA) (K : AV U → Hp U → Option R) : funcA E Tryz.f3 [] R (pA.mkL l.1) (pH.mkH l.2) K = (tl l).runK fun y => K (v l y) (hh l y) := by kernel_rfl
theorem okF : SoundF Tryz.prog cc 3 (funcA E Tryz.f3 []) :=
  funcA_ok (E := E) P_mixed (E0_ok.with Γ Λ CT D ro) (gam_of (all_cons ⟨ref08_Small.ok, ref08_Small.fo⟩ (all_cons ⟨law11_great.ok, law11_great.fo⟩ (all_cons ⟨law11_begin.ok, law11_begin.fo⟩ (all_cons ⟨law11_pair_run.ok, law11_pair_run.fo⟩ (all_cons ⟨law11_awake.ok, law11_awake.fo⟩ all_nil))))) no_ro) Tryz.func3 (c := body) (by kernel_rfl)
    (just_by (by kernel_rfl) (by kernel_rfl) all_nil all_nil) []
theorem ok : SoundF Tryz.prog cc 3 A :=
  mkA_ok (E := E) (p := pA) (q := pH) (t := tl) sp1_ok hk okF
theorem fo : FnOK Tryz.prog 3 := ⟨Tryz.f3, Tryz.func3, by kernel_rfl, by kernel_rfl⟩
theorem keep : KeepA A := mkA_keep (U := U) sp1_ok (fun (l : TA) y => ⟨(hh l y).drop 0, by kernel_rfl⟩)
end law11_JournalPlays

end Go.Proofs.YtkoidgjgdhpdnaaGreat.Va
