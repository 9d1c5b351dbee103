/- The functions of package law14RecordBack, as plain functions, and that the program computes them. Printed by a program of this work out of the evaluator. -/
import Derived.Test.YtpidbpmkogbdeaaEn
import Derived.Tactics
import Derived.Test.YtpidbpmkogbdeaaFlaw14
import Derived.Test.YtpidbpmkogbdeaaFrecord
import Derived.Test.YtpidbpmkogbdeaaFref13
import Derived.Test.YtpidbpmkogbdeaaFref14
namespace Go.Proofs.Ytpidbpmkogbdeaa.Va
open Go
set_option linter.unusedVariables false
set_option maxRecDepth 100000

/-! instar/instarlaw14.RecordBack -/
namespace law14_RecordBack
abbrev TA : Type := (((Int × ((List FieldV) × Unit)) × ((Int × ((List ValueV) × Unit)) × ((List Int) × Unit))) × Unit)
noncomputable def t (f_0 : Int) (f_1 : (List FieldV)) (r_0 : Int) (r_1 : (List ValueV)) (b : (List Int)) : Tw Bool :=
 (.opt (law14_great.c f_0 f_1 r_0 r_1) fun z1 =>
  (.bb z1
   (.opt (law14_awake.c) fun z14 =>
    (.ret z14))
   (.opt (record_Lay.c f_0 f_1 r_0 r_1) fun z2 =>
    (.bb (z2.1 == (0 : Int))
     (.opt (record_Take.c f_0 f_1 z2.2) fun z7 =>
      (.opt (ref14_Same_v2.c z7.1 z7.2.2 r_0 r_1) fun z8 =>
       (.bb (!z8)
        (.ret false)
        (.bb (z7.2.1 != (0 : Int))
         (.ret false)
         (.opt (ref13_Long.c f_0 f_1) fun z9 =>
          (.bb (decide ((((List.length z2.2) : Nat) : Int) > z9))
           (.ret false)
           (.opt (record_Take.c f_0 f_1 b) fun z10 =>
            (.bb (z10.2.1 == (0 : Int))
             (.opt (record_Lay.c f_0 f_1 z10.1 z10.2.2) fun z12 =>
              (.bb (!((ByteArray.toList (Go.Proofs.Ytpidbpmkogbdeaa.Va.l2b z12.2)) == (ByteArray.toList (Go.Proofs.Ytpidbpmkogbdeaa.Va.l2b b))))
               (.ret false)
               (.bb (z12.1 != (0 : Int))
                (.ret false)
                (.opt (law14_awake.c) fun z13 =>
                 (.ret z13)))))
             (.opt (law14_awake.c) fun z11 =>
              (.ret z11))))))))))
     (.opt (record_Take.c f_0 f_1 b) fun z3 =>
      (.bb (z3.2.1 == (0 : Int))
       (.opt (record_Lay.c f_0 f_1 z3.1 z3.2.2) fun z5 =>
        (.bb (!((ByteArray.toList (Go.Proofs.Ytpidbpmkogbdeaa.Va.l2b z5.2)) == (ByteArray.toList (Go.Proofs.Ytpidbpmkogbdeaa.Va.l2b b))))
         (.ret false)
         (.bb (z5.1 != (0 : Int))
          (.ret false)
          (.opt (law14_awake.c) fun z6 =>
           (.ret z6)))))
       (.opt (law14_awake.c) fun z4 =>
        (.ret z4))))))))
noncomputable def c (f_0 : Int) (f_1 : (List FieldV)) (r_0 : Int) (r_1 : (List ValueV)) (b : (List Int)) : Option Bool := (t f_0 f_1 r_0 r_1 b).run
def pA : Pt := (.cs (.agg (.cs (.int .i64) (.cs (.sl 23) .nl))) (.cs (.agg (.cs (.int .i64) (.cs (.sl 24) .nl))) (.cs (.sl 2) .nl)))
def pH : Pt := .nl
def v (l : TA) (y : Bool) : AV U := .im (.bool y)
def hh (l : TA) (y : Bool) : Hp U := []
noncomputable def A : AFun U := mkA (U := U) pA pH (X := Bool) (fun (l : TA) => c l.1.1.1 l.1.1.2.1 l.1.2.1.1 l.1.2.1.2.1 l.1.2.2.1) sp1 v hh
noncomputable def body : Code := (Go.Func.body Try.f14).getD .skip
noncomputable def Γ : List (FuncId × AFun U) := [(67, law14_great.A), (76, record_Lay.A), (77, record_Take.A), (68, law14_awake.A), (73, ref14_Same_v2.A), (80, ref13_Long.A)]
noncomputable def Λ : List (Nat × LFun U) := []
noncomputable def CT : List (Nat × LFun U) := []
def ro : List FuncId := []
def D : Nat → Lv × Lv := dtab []
noncomputable def E : Env U := { E0 with Γ := Γ, Λ := Λ, C := CT, D := D, ro := ro }
theorem hk (R : Type) (l : TA) (K : AV U → Hp U → Option R) : funcA E Try.f14 [] R (pA.mkL l.1) (pH.mkH l.2) K = (t l.1.1.1 l.1.1.2.1 l.1.2.1.1 l.1.2.1.2.1 l.1.2.2.1).runK fun y => K (v l y) (hh l y) := by kernel_rfl
theorem okF : SoundF Try.prog cc 14 (funcA E Try.f14 []) :=
  funcA_ok (E := E) P_mixed (E0_ok.with Γ Λ CT D ro) (gam_of (all_cons ⟨law14_great.ok, ⟨Try.f67, Try.func67, by kernel_rfl, by kernel_rfl⟩⟩ (all_cons ⟨record_Lay.ok, ⟨Try.f76, Try.func76, by kernel_rfl, by kernel_rfl⟩⟩ (all_cons ⟨record_Take.ok, ⟨Try.f77, Try.func77, by kernel_rfl, by kernel_rfl⟩⟩ (all_cons ⟨law14_awake.ok, ⟨Try.f68, Try.func68, by kernel_rfl, by kernel_rfl⟩⟩ (all_cons ⟨ref14_Same_v2.ok, ⟨Try.f73, Try.func73, by kernel_rfl, by kernel_rfl⟩⟩ (all_cons ⟨ref13_Long.ok, ⟨Try.f80, Try.func80, by kernel_rfl, by kernel_rfl⟩⟩ all_nil)))))) (all_cons (no_keep (by kernel_rfl)) (all_cons (no_keep (by kernel_rfl)) (all_cons (no_keep (by kernel_rfl)) (all_cons (no_keep (by kernel_rfl)) (all_cons (no_keep (by kernel_rfl)) (all_cons (no_keep (by kernel_rfl)) all_nil))))))) Try.func14 (c := body) (by kernel_rfl)
    (just_by (by kernel_rfl) (by kernel_rfl) all_nil all_nil) []
theorem ok : SoundF Try.prog cc 14 A :=
  mkA_ok (E := E) (p := pA) (q := pH) (t := fun (l : TA) => t l.1.1.1 l.1.1.2.1 l.1.2.1.1 l.1.2.1.2.1 l.1.2.2.1) sp1_ok hk okF
theorem keep : KeepA A := mkA_keep (U := U) sp1_ok (fun (l : TA) y => ⟨(hh l y).drop 0, by kernel_rfl⟩)
end law14_RecordBack

end Go.Proofs.Ytpidbpmkogbdeaa.Va
