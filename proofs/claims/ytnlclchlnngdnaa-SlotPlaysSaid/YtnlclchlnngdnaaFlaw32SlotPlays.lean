/- The functions of package law32SlotPlays, as plain functions, and that the program computes them. Printed by a program of this work out of the evaluator. -/
import Derived.Test.YtnlclchlnngdnaaEn
import Derived.Tactics
import Derived.Test.YtnlclchlnngdnaaFlaw32
namespace Go.Proofs.Ytnlclchlnngdnaa.Va
open Go
set_option linter.unusedVariables false
set_option maxRecDepth 100000

/-! instar/instarlaw32.SlotPlays -/
namespace law32_SlotPlays
abbrev TA : Type := (((Int × (Int × (Int × (Int × (Int × (Int × (Int × ((List Act32) × Unit)))))))) × Unit) × Unit)
noncomputable def t (p__0 p__1 p__2 p__3 p__4 p__5 p__6 : Int) (p__7 : (List Act32)) : Tw Bool :=
 (.opt (law32_Play_Great.c p__0 p__1 p__2 p__3 p__4 p__5 p__6 p__7) fun z1 =>
  (.bb z1
   (.opt (law32_awake.c) fun z18 =>
    (.ret z18))
   (.opt (law32_begin.c p__0 p__1 p__2 p__3 p__4 p__5 p__6 p__7) fun z2 =>
    (.sm z2
     (fun z3 => (.bb z3.1
       (.opt (law32_desk_run.c p__6 p__7 p__0 z3.2.1 z3.2.2.1 z3.2.2.2.1 z3.2.2.2.2.1 z3.2.2.2.2.2.1 p__0 p__1 p__2 p__3 p__4 p__5 p__0 p__1 p__2 p__3 p__4 p__5 p__0 z3.2.2.2.2.2.2.1 z3.2.2.2.2.2.2.2.1 z3.2.2.2.2.2.2.2.2.1 z3.2.2.2.2.2.2.2.2.2.1 z3.2.2.2.2.2.2.2.2.2.2) fun z5 =>
        (.sm z5
         (fun z6 => (.bb z6.1
           (.opt (law32_awake.c) fun z8 =>
            (.ret z8))
           (.ret false)))
         (fun z7 => (.bb z7.1
           (.opt (law32_awake.c) fun z9 =>
            (.ret z9))
           (.ret false)))))
       (.ret false)))
     (fun z4 => (.sm z4
       (fun z10 => (.bb z10.1
         .no
         (.ret false)))
       (fun z11 => (.sm z11
         (fun z12 => (.bb z12.1
           .no
           (.ret false)))
         (fun z13 => (.sm z13
           (fun z14 => (.bb z14.1
             .no
             (.ret false)))
           (fun z15 => (.sm z15
             (fun z16 => (.bb z16.1
               .no
               (.ret false)))
             (fun z17 => (.bb z17
               .no
               (.ret false)))))))))))))))
noncomputable def c (p__0 p__1 p__2 p__3 p__4 p__5 p__6 : Int) (p__7 : (List Act32)) : Option Bool := (t p__0 p__1 p__2 p__3 p__4 p__5 p__6 p__7).run
def pA : Pt := (.cs (.agg (.cs (.int .i64) (.cs (.int .i64) (.cs (.int .i64) (.cs (.int .i64) (.cs (.int .i64) (.cs (.int .i64) (.cs (.int .i64) (.cs (.sl 25) .nl))))))))) .nl)
def pH : Pt := .nl
def v (l : TA) (y : Bool) : AV U := .im (.bool y)
def hh (l : TA) (y : Bool) : Hp U := []
noncomputable def A : AFun U := mkA (U := U) pA pH (X := Bool) (fun (l : TA) => c l.1.1.1 l.1.1.2.1 l.1.1.2.2.1 l.1.1.2.2.2.1 l.1.1.2.2.2.2.1 l.1.1.2.2.2.2.2.1 l.1.1.2.2.2.2.2.2.1 l.1.1.2.2.2.2.2.2.2.1) sp1 v hh
noncomputable def body : Code := (Go.Func.body Try.f3).getD .skip
noncomputable def Γ : List (FuncId × AFun U) := [(6, law32_Play_Great.A), (8, law32_begin.A), (9, law32_desk_run.A), (7, law32_awake.A)]
noncomputable def Λ : List (Nat × LFun U) := []
noncomputable def CT : List (Nat × LFun U) := []
def ro : List FuncId := []
def D : Nat → Lv × Lv := dtab []
noncomputable def E : Env U := { E0 with Γ := Γ, Λ := Λ, C := CT, D := D, ro := ro }
theorem hk (R : Type) (l : TA) (K : AV U → Hp U → Option R) : funcA E Try.f3 [] R (pA.mkL l.1) (pH.mkH l.2) K = (t l.1.1.1 l.1.1.2.1 l.1.1.2.2.1 l.1.1.2.2.2.1 l.1.1.2.2.2.2.1 l.1.1.2.2.2.2.2.1 l.1.1.2.2.2.2.2.2.1 l.1.1.2.2.2.2.2.2.2.1).runK fun y => K (v l y) (hh l y) := by kernel_rfl
theorem okF : SoundF Try.prog cc 3 (funcA E Try.f3 []) :=
  funcA_ok (E := E) P_mixed (E0_ok.with Γ Λ CT D ro) (gam_of (all_cons ⟨law32_Play_Great.ok, ⟨Try.f6, Try.func6, by kernel_rfl, by kernel_rfl⟩⟩ (all_cons ⟨law32_begin.ok, ⟨Try.f8, Try.func8, by kernel_rfl, by kernel_rfl⟩⟩ (all_cons ⟨law32_desk_run.ok, ⟨Try.f9, Try.func9, by kernel_rfl, by kernel_rfl⟩⟩ (all_cons ⟨law32_awake.ok, ⟨Try.f7, Try.func7, by kernel_rfl, by kernel_rfl⟩⟩ all_nil)))) (all_cons (no_keep (by kernel_rfl)) (all_cons (no_keep (by kernel_rfl)) (all_cons (no_keep (by kernel_rfl)) (all_cons (no_keep (by kernel_rfl)) all_nil))))) Try.func3 (c := body) (by kernel_rfl)
    (just_by (by kernel_rfl) (by kernel_rfl) all_nil all_nil) []
theorem ok : SoundF Try.prog cc 3 A :=
  mkA_ok (E := E) (p := pA) (q := pH) (t := fun (l : TA) => t l.1.1.1 l.1.1.2.1 l.1.1.2.2.1 l.1.1.2.2.2.1 l.1.1.2.2.2.2.1 l.1.1.2.2.2.2.2.1 l.1.1.2.2.2.2.2.2.1 l.1.1.2.2.2.2.2.2.2.1) sp1_ok hk okF
theorem keep : KeepA A := mkA_keep (U := U) sp1_ok (fun (l : TA) y => ⟨(hh l y).drop 0, by kernel_rfl⟩)
end law32_SlotPlays

end Go.Proofs.Ytnlclchlnngdnaa.Va
