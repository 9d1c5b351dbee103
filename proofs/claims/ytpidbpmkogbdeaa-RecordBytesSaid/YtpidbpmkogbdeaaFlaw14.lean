/- The functions of package law14, as plain functions, and that the program computes them. Printed by a program of this work out of the evaluator. -/
import Derived.Test.YtpidbpmkogbdeaaEn
import Derived.Tactics
import Derived.Test.YtpidbpmkogbdeaaFrecord
namespace Go.Proofs.Ytpidbpmkogbdeaa.Va
open Go
set_option linter.unusedVariables false
set_option maxRecDepth 100000

/-! instar/instarlaw14.great -/
namespace law14_great
abbrev TA : Type := (((Int × ((List FieldV) × Unit)) × ((Int × ((List ValueV) × Unit)) × Unit)) × Unit)
noncomputable def t (f_0 : Int) (f_1 : (List FieldV)) (r_0 : Int) (r_1 : (List ValueV)) : Tw Bool :=
 (.bb (decide ((((List.length f_1) : Nat) : Int) > (40 : Int)))
  (.ret true)
  (.ret (decide ((((List.length r_1) : Nat) : Int) > (40 : Int)))))
noncomputable def c (f_0 : Int) (f_1 : (List FieldV)) (r_0 : Int) (r_1 : (List ValueV)) : Option Bool := (t f_0 f_1 r_0 r_1).run
def pA : Pt := (.cs (.agg (.cs (.int .i64) (.cs (.sl 23) .nl))) (.cs (.agg (.cs (.int .i64) (.cs (.sl 24) .nl))) .nl))
def pH : Pt := .nl
def v (l : TA) (y : Bool) : AV U := .im (.bool y)
def hh (l : TA) (y : Bool) : Hp U := []
noncomputable def A : AFun U := mkA (U := U) pA pH (X := Bool) (fun (l : TA) => c l.1.1.1 l.1.1.2.1 l.1.2.1.1 l.1.2.1.2.1) sp1 v hh
noncomputable def body : Code := (Go.Func.body Try.f67).getD .skip
noncomputable def Γ : List (FuncId × AFun U) := []
noncomputable def Λ : List (Nat × LFun U) := []
noncomputable def CT : List (Nat × LFun U) := []
def ro : List FuncId := []
def D : Nat → Lv × Lv := dtab []
noncomputable def E : Env U := { E0 with Γ := Γ, Λ := Λ, C := CT, D := D, ro := ro }
theorem hk (R : Type) (l : TA) (K : AV U → Hp U → Option R) : funcA E Try.f67 [] R (pA.mkL l.1) (pH.mkH l.2) K = (t l.1.1.1 l.1.1.2.1 l.1.2.1.1 l.1.2.1.2.1).runK fun y => K (v l y) (hh l y) := by kernel_rfl
theorem okF : SoundF Try.prog cc 67 (funcA E Try.f67 []) :=
  funcA_ok (E := E) P_mixed (E0_ok.with Γ Λ CT D ro) (gam_of all_nil all_nil) Try.func67 (c := body) (by kernel_rfl)
    (just_by (by kernel_rfl) (by kernel_rfl) all_nil all_nil) []
theorem ok : SoundF Try.prog cc 67 A :=
  mkA_ok (E := E) (p := pA) (q := pH) (t := fun (l : TA) => t l.1.1.1 l.1.1.2.1 l.1.2.1.1 l.1.2.1.2.1) sp1_ok hk okF
theorem keep : KeepA A := mkA_keep (U := U) sp1_ok (fun (l : TA) y => ⟨(hh l y).drop 0, by kernel_rfl⟩)
end law14_great

/-! instar/instarlaw14.awake -/
namespace law14_awake
abbrev TA : Type := (Unit × Unit)
noncomputable def t : Tw Bool :=
 (.opt (record_Lay.c (5 : Int) ((Go.Proofs.Ytpidbpmkogbdeaa.Va.FieldV.mk (1 : Int) (2 : Int) (0 : Int) (0 : Int) (0 : Int)) :: ((Go.Proofs.Ytpidbpmkogbdeaa.Va.FieldV.mk (2 : Int) (4 : Int) (0 : Int) (0 : Int) (3 : Int)) :: ([] : List FieldV))) (5 : Int) ((Go.Proofs.Ytpidbpmkogbdeaa.Va.ValueV.mk (1 : Int) ByteArray.empty) :: ((Go.Proofs.Ytpidbpmkogbdeaa.Va.ValueV.mk (0 : Int) (ByteArray.mk (List.toArray ((97 : UInt8) :: ((98 : UInt8) :: ([] : List UInt8)))))) :: ([] : List ValueV)))) fun z1 =>
  (.bb ((ByteArray.toList (Go.Proofs.Ytpidbpmkogbdeaa.Va.l2b z1.2)) == (ByteArray.toList (ByteArray.mk (List.toArray ((1 : UInt8) :: ((2 : UInt8) :: ((97 : UInt8) :: ((98 : UInt8) :: ([] : List UInt8)))))))))
   (.bb (z1.1 == (0 : Int))
    (.opt (record_First.c (5 : Int) ((Go.Proofs.Ytpidbpmkogbdeaa.Va.FieldV.mk (1 : Int) (2 : Int) (0 : Int) (0 : Int) (0 : Int)) :: ((Go.Proofs.Ytpidbpmkogbdeaa.Va.FieldV.mk (2 : Int) (4 : Int) (0 : Int) (0 : Int) (3 : Int)) :: ([] : List FieldV)))) fun z2 =>
     (.ret ((((List.length z2.2) : Nat) : Int) == (2 : Int))))
    (.ret false))
   (.ret false)))
noncomputable def c : Option Bool := (t).run
def pA : Pt := .nl
def pH : Pt := .nl
def v (l : TA) (y : Bool) : AV U := .im (.bool y)
def hh (l : TA) (y : Bool) : Hp U := []
noncomputable def A : AFun U := mkA (U := U) pA pH (X := Bool) (fun (l : TA) => c) sp1 v hh
noncomputable def body : Code := (Go.Func.body Try.f68).getD .skip
noncomputable def Γ : List (FuncId × AFun U) := [(76, record_Lay.A), (74, record_First.A)]
noncomputable def Λ : List (Nat × LFun U) := []
noncomputable def CT : List (Nat × LFun U) := []
def ro : List FuncId := []
def D : Nat → Lv × Lv := dtab []
noncomputable def E : Env U := { E0 with Γ := Γ, Λ := Λ, C := CT, D := D, ro := ro }
theorem hk (R : Type) (l : TA) (K : AV U → Hp U → Option R) : funcA E Try.f68 [] R (pA.mkL l.1) (pH.mkH l.2) K = (t).runK fun y => K (v l y) (hh l y) := by kernel_rfl
theorem okF : SoundF Try.prog cc 68 (funcA E Try.f68 []) :=
  funcA_ok (E := E) P_mixed (E0_ok.with Γ Λ CT D ro) (gam_of (all_cons ⟨record_Lay.ok, ⟨Try.f76, Try.func76, by kernel_rfl, by kernel_rfl⟩⟩ (all_cons ⟨record_First.ok, ⟨Try.f74, Try.func74, by kernel_rfl, by kernel_rfl⟩⟩ all_nil)) (all_cons (no_keep (by kernel_rfl)) (all_cons (no_keep (by kernel_rfl)) all_nil))) Try.func68 (c := body) (by kernel_rfl)
    (just_by (by kernel_rfl) (by kernel_rfl) all_nil all_nil) []
theorem ok : SoundF Try.prog cc 68 A :=
  mkA_ok (E := E) (p := pA) (q := pH) (t := fun (l : TA) => t) sp1_ok hk okF
theorem keep : KeepA A := mkA_keep (U := U) sp1_ok (fun (l : TA) y => ⟨(hh l y).drop 0, by kernel_rfl⟩)
end law14_awake

end Go.Proofs.Ytpidbpmkogbdeaa.Va
