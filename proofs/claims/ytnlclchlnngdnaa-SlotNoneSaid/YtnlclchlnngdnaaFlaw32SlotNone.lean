/- The functions of package law32SlotNone, as plain functions, and that the program computes them. Printed by a program of this work out of the evaluator. -/
import Derived.Test.YtnlclchlnngdnaaEn
import Derived.Tactics
import Derived.Test.YtnlclchlnngdnaaFlaw32
import Derived.Test.YtnlclchlnngdnaaFslot
namespace Go.Proofs.Ytnlclchlnngdnaa.Va
open Go
set_option linter.unusedVariables false
set_option maxRecDepth 100000

/-! instar/instarlaw32.SlotNone -/
namespace law32_SlotNone
abbrev TA : Type := (((Int × (Int × (Int × (Int × (Int × (Int × (Int × ((List Act32) × Unit)))))))) × ((Int × (Int × (Int × ((List Int) × ((List Int) × Unit))))) × Unit)) × Unit)
noncomputable def t (p__0 p__1 p__2 p__3 p__4 p__5 p__6 : Int) (p__7 : (List Act32)) (a_0 a_1 a_2 : Int) (a_3 : (List Int)) (a_4 : (List Int)) : Tw Bool :=
 (.opt (slot_Done_nil0.c a_1 p__6) fun z1 =>
  (.opt (slot_Bytes_nil0.c a_1 p__6) fun z2 =>
   (.bb (z1.1 == (0 : Int))
    (.bb (z1.2 == (1 : Int))
     (.bb ((((List.length z2.2) : Nat) : Int) == (0 : Int))
      (.bb (z2.1 == (1 : Int))
       (.opt (slot_Begin_nil0.c a_1) fun z3 =>
        (.bb (z3 == (1 : Int))
         (.opt (slot_Chunk_nil0.c a_1 p__6 a_2 a_3) fun z4 =>
          (.bb (z4 == (1 : Int))
           (.opt (law32_awake.c) fun z5 =>
            (.ret z5))
           (.ret false)))
         (.ret false)))
       (.ret false))
      (.ret false))
     (.ret false))
    (.ret false))))
noncomputable def c (p__0 p__1 p__2 p__3 p__4 p__5 p__6 : Int) (p__7 : (List Act32)) (a_0 a_1 a_2 : Int) (a_3 : (List Int)) (a_4 : (List Int)) : Option Bool := (t p__0 p__1 p__2 p__3 p__4 p__5 p__6 p__7 a_0 a_1 a_2 a_3 a_4).run
def pA : Pt := (.cs (.agg (.cs (.int .i64) (.cs (.int .i64) (.cs (.int .i64) (.cs (.int .i64) (.cs (.int .i64) (.cs (.int .i64) (.cs (.int .i64) (.cs (.sl 25) .nl))))))))) (.cs (.agg (.cs (.int .i64) (.cs (.int .i64) (.cs (.int .i64) (.cs (.sl 2) (.cs (.sl 3) .nl)))))) .nl))
def pH : Pt := .nl
def v (l : TA) (y : Bool) : AV U := .im (.bool y)
def hh (l : TA) (y : Bool) : Hp U := []
noncomputable def A : AFun U := mkA (U := U) pA pH (X := Bool) (fun (l : TA) => c l.1.1.1 l.1.1.2.1 l.1.1.2.2.1 l.1.1.2.2.2.1 l.1.1.2.2.2.2.1 l.1.1.2.2.2.2.2.1 l.1.1.2.2.2.2.2.2.1 l.1.1.2.2.2.2.2.2.2.1 l.1.2.1.1 l.1.2.1.2.1 l.1.2.1.2.2.1 l.1.2.1.2.2.2.1 l.1.2.1.2.2.2.2.1) sp1 v hh
noncomputable def body : Code := (Go.Func.body Try.f5).getD .skip
noncomputable def Γ : List (FuncId × AFun U) := [(13, slot_Done_nil0.A), (23, slot_Bytes_nil0.A), (24, slot_Begin_nil0.A), (25, slot_Chunk_nil0.A), (7, law32_awake.A)]
noncomputable def Λ : List (Nat × LFun U) := []
noncomputable def CT : List (Nat × LFun U) := []
def ro : List FuncId := []
def D : Nat → Lv × Lv := dtab []
noncomputable def E : Env U := { E0 with Γ := Γ, Λ := Λ, C := CT, D := D, ro := ro }
theorem hk (R : Type) (l : TA) (K : AV U → Hp U → Option R) : funcA E Try.f5 [] R (pA.mkL l.1) (pH.mkH l.2) K = (t l.1.1.1 l.1.1.2.1 l.1.1.2.2.1 l.1.1.2.2.2.1 l.1.1.2.2.2.2.1 l.1.1.2.2.2.2.2.1 l.1.1.2.2.2.2.2.2.1 l.1.1.2.2.2.2.2.2.2.1 l.1.2.1.1 l.1.2.1.2.1 l.1.2.1.2.2.1 l.1.2.1.2.2.2.1 l.1.2.1.2.2.2.2.1).runK fun y => K (v l y) (hh l y) := by kernel_rfl
theorem okF : SoundF Try.prog cc 5 (funcA E Try.f5 []) :=
  funcA_ok (E := E) P_mixed (E0_ok.with Γ Λ CT D ro) (gam_of (all_cons ⟨slot_Done_nil0.ok, ⟨Try.f13, Try.func13, by kernel_rfl, by kernel_rfl⟩⟩ (all_cons ⟨slot_Bytes_nil0.ok, ⟨Try.f23, Try.func23, by kernel_rfl, by kernel_rfl⟩⟩ (all_cons ⟨slot_Begin_nil0.ok, ⟨Try.f24, Try.func24, by kernel_rfl, by kernel_rfl⟩⟩ (all_cons ⟨slot_Chunk_nil0.ok, ⟨Try.f25, Try.func25, by kernel_rfl, by kernel_rfl⟩⟩ (all_cons ⟨law32_awake.ok, ⟨Try.f7, Try.func7, by kernel_rfl, by kernel_rfl⟩⟩ all_nil))))) (all_cons (no_keep (by kernel_rfl)) (all_cons (no_keep (by kernel_rfl)) (all_cons (no_keep (by kernel_rfl)) (all_cons (no_keep (by kernel_rfl)) (all_cons (no_keep (by kernel_rfl)) all_nil)))))) Try.func5 (c := body) (by kernel_rfl)
    (just_by (by kernel_rfl) (by kernel_rfl) all_nil all_nil) []
theorem ok : SoundF Try.prog cc 5 A :=
  mkA_ok (E := E) (p := pA) (q := pH) (t := fun (l : TA) => t l.1.1.1 l.1.1.2.1 l.1.1.2.2.1 l.1.1.2.2.2.1 l.1.1.2.2.2.2.1 l.1.1.2.2.2.2.2.1 l.1.1.2.2.2.2.2.2.1 l.1.1.2.2.2.2.2.2.2.1 l.1.2.1.1 l.1.2.1.2.1 l.1.2.1.2.2.1 l.1.2.1.2.2.2.1 l.1.2.1.2.2.2.2.1) sp1_ok hk okF
theorem keep : KeepA A := mkA_keep (U := U) sp1_ok (fun (l : TA) y => ⟨(hh l y).drop 0, by kernel_rfl⟩)
end law32_SlotNone

end Go.Proofs.Ytnlclchlnngdnaa.Va
