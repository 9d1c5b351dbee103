/- The functions of package law14RecordHas, as plain functions, and that the program computes them. Printed by a program of this work out of the evaluator. -/
import Derived.Test.YtpidbpmkogbdeaaEn
import Derived.Tactics
import Derived.Test.YtpidbpmkogbdeaaFlaw14
import Derived.Test.YtpidbpmkogbdeaaFrecord
import Derived.Test.YtpidbpmkogbdeaaFref13
import Derived.Test.YtpidbpmkogbdeaaFref14
namespace Go.Proofs.Ytpidbpmkogbdeaa.Va
open Go
set_option linter.unusedVariables false
set_option maxRecDepth 100000

/-! instar/instarlaw14.RecordHas -/
namespace law14_RecordHas
abbrev TA : Type := (((Int × ((List FieldV) × Unit)) × ((Int × ((List ValueV) × Unit)) × ((Int × ((List ValueV) × Unit)) × Unit))) × Unit)
noncomputable def t (f_0 : Int) (f_1 : (List FieldV)) (r_0 : Int) (r_1 : (List ValueV)) (s__0 : Int) (s__1 : (List ValueV)) : Tw Bool :=
 (.opt (law14_great.c f_0 f_1 r_0 r_1) fun z1 =>
  (.bb z1
   (.opt (law14_awake.c) fun z20 =>
    (.ret z20))
   (.opt (ref13_Fine.c f_0 f_1) fun z2 =>
    (.bb z2
     (.opt (ref14_First.c f_0 f_1) fun z11 =>
      (.opt (record_Has.c f_0 f_1 r_0 r_1) fun z12 =>
       (.opt (ref14_Has.c f_0 f_1 r_0 r_1) fun z13 =>
        (.bb (z12 == z13)
         (.opt (record_First.c f_0 f_1) fun z14 =>
          (.opt (ref14_Same_v2.c z14.1 z14.2 f_0 z11) fun z15 =>
           (.bb z15
            (.opt (record_Same.c r_0 r_1 s__0 s__1) fun z16 =>
             (.opt (ref14_Same_v2.c r_0 r_1 s__0 s__1) fun z17 =>
              (.bb (z16 == z17)
               (.opt (record_Same.c r_0 r_1 r_0 r_1) fun z18 =>
                (.bb z18
                 (.opt (law14_awake.c) fun z19 =>
                  (.ret z19))
                 (.ret false)))
               (.ret false))))
            (.ret false))))
         (.ret false)))))
     (.opt (record_Has.c f_0 f_1 r_0 r_1) fun z3 =>
      (.opt (ref14_Has.c f_0 f_1 r_0 r_1) fun z4 =>
       (.bb (z3 == z4)
        (.opt (record_First.c f_0 f_1) fun z5 =>
         (.opt (ref14_Same.c z5.1 z5.2 (0 : Int)) fun z6 =>
          (.bb z6
           (.opt (record_Same.c r_0 r_1 s__0 s__1) fun z7 =>
            (.opt (ref14_Same_v2.c r_0 r_1 s__0 s__1) fun z8 =>
             (.bb (z7 == z8)
              (.opt (record_Same.c r_0 r_1 r_0 r_1) fun z9 =>
               (.bb z9
                (.opt (law14_awake.c) fun z10 =>
                 (.ret z10))
                (.ret false)))
              (.ret false))))
           (.ret false))))
        (.ret false))))))))
noncomputable def c (f_0 : Int) (f_1 : (List FieldV)) (r_0 : Int) (r_1 : (List ValueV)) (s__0 : Int) (s__1 : (List ValueV)) : Option Bool := (t f_0 f_1 r_0 r_1 s__0 s__1).run
def pA : Pt := (.cs (.agg (.cs (.int .i64) (.cs (.sl 23) .nl))) (.cs (.agg (.cs (.int .i64) (.cs (.sl 24) .nl))) (.cs (.agg (.cs (.int .i64) (.cs (.sl 24) .nl))) .nl)))
def pH : Pt := .nl
def v (l : TA) (y : Bool) : AV U := .im (.bool y)
def hh (l : TA) (y : Bool) : Hp U := []
noncomputable def A : AFun U := mkA (U := U) pA pH (X := Bool) (fun (l : TA) => c l.1.1.1 l.1.1.2.1 l.1.2.1.1 l.1.2.1.2.1 l.1.2.2.1.1 l.1.2.2.1.2.1) sp1 v hh
noncomputable def body : Code := (Go.Func.body Try.f12).getD .skip
noncomputable def Γ : List (FuncId × AFun U) := [(67, law14_great.A), (69, ref13_Fine.A), (71, record_Has.A), (72, ref14_Has.A), (74, record_First.A), (73, (orA ref14_Same.pA ref14_Same.pH ref14_Same.A ref14_Same_v2.A)), (75, record_Same.A), (68, law14_awake.A), (70, ref14_First.A)]
noncomputable def Λ : List (Nat × LFun U) := []
noncomputable def CT : List (Nat × LFun U) := []
def ro : List FuncId := []
def D : Nat → Lv × Lv := dtab []
noncomputable def E : Env U := { E0 with Γ := Γ, Λ := Λ, C := CT, D := D, ro := ro }
theorem hk (R : Type) (l : TA) (K : AV U → Hp U → Option R) : funcA E Try.f12 [] R (pA.mkL l.1) (pH.mkH l.2) K = (t l.1.1.1 l.1.1.2.1 l.1.2.1.1 l.1.2.1.2.1 l.1.2.2.1.1 l.1.2.2.1.2.1).runK fun y => K (v l y) (hh l y) := by kernel_rfl
theorem okF : SoundF Try.prog cc 12 (funcA E Try.f12 []) :=
  funcA_ok (E := E) P_mixed (E0_ok.with Γ Λ CT D ro) (gam_of (all_cons ⟨law14_great.ok, ⟨Try.f67, Try.func67, by kernel_rfl, by kernel_rfl⟩⟩ (all_cons ⟨ref13_Fine.ok, ⟨Try.f69, Try.func69, by kernel_rfl, by kernel_rfl⟩⟩ (all_cons ⟨record_Has.ok, ⟨Try.f71, Try.func71, by kernel_rfl, by kernel_rfl⟩⟩ (all_cons ⟨ref14_Has.ok, ⟨Try.f72, Try.func72, by kernel_rfl, by kernel_rfl⟩⟩ (all_cons ⟨record_First.ok, ⟨Try.f74, Try.func74, by kernel_rfl, by kernel_rfl⟩⟩ (all_cons ⟨(orA_ok ref14_Same.ok ref14_Same_v2.ok), ⟨Try.f73, Try.func73, by kernel_rfl, by kernel_rfl⟩⟩ (all_cons ⟨record_Same.ok, ⟨Try.f75, Try.func75, by kernel_rfl, by kernel_rfl⟩⟩ (all_cons ⟨law14_awake.ok, ⟨Try.f68, Try.func68, by kernel_rfl, by kernel_rfl⟩⟩ (all_cons ⟨ref14_First.ok, ⟨Try.f70, Try.func70, by kernel_rfl, by kernel_rfl⟩⟩ all_nil))))))))) (all_cons (no_keep (by kernel_rfl)) (all_cons (no_keep (by kernel_rfl)) (all_cons (no_keep (by kernel_rfl)) (all_cons (no_keep (by kernel_rfl)) (all_cons (no_keep (by kernel_rfl)) (all_cons (no_keep (by kernel_rfl)) (all_cons (no_keep (by kernel_rfl)) (all_cons (no_keep (by kernel_rfl)) (all_cons (no_keep (by kernel_rfl)) all_nil)))))))))) Try.func12 (c := body) (by kernel_rfl)
    (just_by (by kernel_rfl) (by kernel_rfl) all_nil all_nil) []
theorem ok : SoundF Try.prog cc 12 A :=
  mkA_ok (E := E) (p := pA) (q := pH) (t := fun (l : TA) => t l.1.1.1 l.1.1.2.1 l.1.2.1.1 l.1.2.1.2.1 l.1.2.2.1.1 l.1.2.2.1.2.1) sp1_ok hk okF
theorem keep : KeepA A := mkA_keep (U := U) sp1_ok (fun (l : TA) y => ⟨(hh l y).drop 0, by kernel_rfl⟩)
end law14_RecordHas

end Go.Proofs.Ytpidbpmkogbdeaa.Va
