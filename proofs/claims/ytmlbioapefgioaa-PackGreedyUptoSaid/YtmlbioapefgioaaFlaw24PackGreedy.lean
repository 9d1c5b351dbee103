/- The functions of package law24PackGreedy, as plain functions, and that the program computes them. Printed by a program of this work out of the evaluator. -/
import Derived.Test.YtmlbioapefgioaaEn
import Derived.Tactics
import Derived.Test.YtmlbioapefgioaaFlaw24
import Derived.Test.YtmlbioapefgioaaFpack
import Derived.Test.YtmlbioapefgioaaFref18
import Derived.Test.YtmlbioapefgioaaFref24
namespace Go.Proofs.Ytmlbioapefgioaa.Va
open Go
set_option linter.unusedVariables false
set_option maxRecDepth 100000

/-! instar/instarlaw24.PackGreedy -/
namespace law24_PackGreedy
abbrev TA : Type := (((List ItemV) × ((List (List ItemV)) × (Int × Unit))) × Unit)
noncomputable def t (items : (List ItemV)) (l_ : (List (List ItemV))) (room : Int) : Tw Bool :=
 (.bb (decide ((((List.length items) : Nat) : Int) > (200 : Int)))
  (.opt (law24_awake.c) fun z18 =>
   (.ret z18))
  (.bb (decide ((((List.length l_) : Nat) : Int) > (40 : Int)))
   (.opt (law24_awake.c) fun z17 =>
    (.ret z17))
   (.bb (decide (room < (62 : Int)))
    (.opt (law24_awake.c) fun z16 =>
     (.ret z16))
    (.bb (decide (room > (1022 : Int)))
     (.opt (law24_awake.c) fun z15 =>
      (.ret z15))
     (.opt (pack_Fits.c l_ room) fun z1 =>
      (.opt (ref24_Fits.c l_ room) fun z2 =>
       (.bb (!(z1 == z2))
        (.ret false)
        (.opt (pack_Flat.c l_) fun z3 =>
         (.opt (ref24_Flat.c l_) fun z4 =>
          (.opt (ref18_Same.c z3 z4) fun z5 =>
           (.bb (!z5)
            (.ret false)
            (.opt (ref18_Right.c items) fun z6 =>
             (.bb (!z6)
              (.opt (law24_awake.c) fun z14 =>
               (.ret z14))
              (.opt (pack_Greedy.c items room) fun z7 =>
               (.opt (ref24_Greedy.c items room) fun z8 =>
                (.opt (ref24_Same.c z7 z8) fun z9 =>
                 (.bb z9
                  (.opt (ref24_Fits.c z7 room) fun z10 =>
                   (.bb z10
                    (.opt (ref24_Flat.c z7) fun z11 =>
                     (.opt (ref18_Same.c z11 items) fun z12 =>
                      (.bb z12
                       (.opt (law24_awake.c) fun z13 =>
                        (.ret z13))
                       (.ret false))))
                    (.ret false)))
                  (.ret false))))))))))))))))))
noncomputable def c (items : (List ItemV)) (l_ : (List (List ItemV))) (room : Int) : Option Bool := (t items l_ room).run
noncomputable def tl (l : TA) : Tw Bool := t l.1.1 l.1.2.1 l.1.2.2.1
noncomputable def cl (l : TA) : Option Bool := c l.1.1 l.1.2.1 l.1.2.2.1
def pA : Pt := (.cs (.sl 10) (.cs (.sl 11) (jC .nl)))
def pH : Pt := .nl
def v (l : TA) (y : Bool) : AV U := jB y
def hh (l : TA) (y : Bool) : Hp U := []
noncomputable def A : AFun U := mkA (U := U) pA pH (X := Bool) cl sp1 v hh
noncomputable def body : Code := (Go.Func.body Try.f3).getD .skip
noncomputable def Γ : List (FuncId × AFun U) := [(12, pack_Fits.A), (13, ref24_Fits.A), (15, pack_Flat.A), (16, ref24_Flat.A), (14, ref18_Same.A), (17, ref18_Right.A), (18, pack_Greedy.A), (20, ref24_Greedy.A), (19, ref24_Same.A), (11, law24_awake.A)]
noncomputable def Λ : List (Nat × LFun U) := []
noncomputable def CT : List (Nat × LFun U) := []
def ro : List FuncId := []
def D : Nat → Lv × Lv := dtab []
noncomputable def E : Env U := { E0 with Γ := Γ, Λ := Λ, C := CT, D := D, ro := ro }
theorem hk (R : Type) (l : TA) (K : AV U → Hp U → Option R) : funcA E Try.f3 [] R (pA.mkL l.1) (pH.mkH l.2) K = (tl l).runK fun y => K (v l y) (hh l y) := by kernel_rfl
theorem okF : SoundF Try.prog cc 3 (funcA E Try.f3 []) :=
  funcA_ok (E := E) P_mixed (E0_ok.with Γ Λ CT D ro) (gam_of (all_cons ⟨pack_Fits.ok, pack_Fits.fo⟩ (all_cons ⟨ref24_Fits.ok, ref24_Fits.fo⟩ (all_cons ⟨pack_Flat.ok, pack_Flat.fo⟩ (all_cons ⟨ref24_Flat.ok, ref24_Flat.fo⟩ (all_cons ⟨ref18_Same.ok, ref18_Same.fo⟩ (all_cons ⟨ref18_Right.ok, ref18_Right.fo⟩ (all_cons ⟨pack_Greedy.ok, pack_Greedy.fo⟩ (all_cons ⟨ref24_Greedy.ok, ref24_Greedy.fo⟩ (all_cons ⟨ref24_Same.ok, ref24_Same.fo⟩ (all_cons ⟨law24_awake.ok, law24_awake.fo⟩ all_nil)))))))))) no_ro) Try.func3 (c := body) (by kernel_rfl)
    (just_by (by kernel_rfl) (by kernel_rfl) all_nil all_nil) []
theorem ok : SoundF Try.prog cc 3 A :=
  mkA_ok (E := E) (p := pA) (q := pH) (t := tl) sp1_ok hk okF
theorem fo : FnOK Try.prog 3 := ⟨Try.f3, Try.func3, by kernel_rfl, by kernel_rfl⟩
theorem keep : KeepA A := mkA_keep (U := U) sp1_ok (fun (l : TA) y => ⟨(hh l y).drop 0, by kernel_rfl⟩)
end law24_PackGreedy

end Go.Proofs.Ytmlbioapefgioaa.Va
