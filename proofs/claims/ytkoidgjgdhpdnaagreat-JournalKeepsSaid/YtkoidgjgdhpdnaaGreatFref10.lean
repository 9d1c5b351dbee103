/- The functions of package ref10, as plain functions, and that the program computes them. Printed by a program of this work out of the evaluator. -/
import Derived.Test.YtkoidgjgdhpdnaaGreatEn
import Derived.Tactics
import Derived.Test.YtkoidgjgdhpdnaaGreatFref01
import Derived.Test.YtkoidgjgdhpdnaaGreatFref02
set_option linter.unusedVariables false
namespace Go.Proofs.YtkoidgjgdhpdnaaGreat.Va
noncomputable section
open Go
set_option maxRecDepth 100000

/-! instar/instarref10.Lay -/
namespace ref10_Lay
abbrev TA : Type := (((Int × (Int × ((List Int) × Unit))) × Unit) × Unit)
def t (f_0 f_1 : Int) (f_2 : (List Int)) : Tw (List Int) :=
 (.opt (ref02_Twin.c (((List.length f_2) : Nat) : Int)) fun z1 =>
 (.dd ((((((List.length (z1 :: ((w32 ((w32 ((w32 f_0) * (1073741824 : Int))) + (w32 f_1))) :: ([] : List (Int))))) + (List.length f_2)) * (4 : Nat)) ≤ (140737488355328 : Nat)) ∧ (((List.length (z1 :: ((w32 ((w32 ((w32 f_0) * (1073741824 : Int))) + (w32 f_1))) :: ([] : List (Int))))) + (List.length f_2)) ≤ (140737488355328 : Nat)))) inferInstance
 (.opt (ref02_Seal.c ((z1 :: ((w32 ((w32 ((w32 f_0) * (1073741824 : Int))) + (w32 f_1))) :: ([] : List (Int)))) ++ f_2)) fun z2 =>
 (.ret z2))
 .no))
def c (f_0 f_1 : Int) (f_2 : (List Int)) : Option (List Int) := (t f_0 f_1 f_2).run
def tl (l : TA) : Tw (List Int) := t l.1.1.1 l.1.1.2.1 l.1.1.2.2.1
def cl (l : TA) : Option (List Int) := (tl l).run
def pA : Pt := (.cs (.agg (jC (jC (.cs (.sl 3) .nl)))) .nl)
def pH : Pt := .nl
def v (l : TA) (y : (List Int)) : AV U := .own 0
def hh (l : TA) (y : (List Int)) : Hp U := [.row 3 y true]
def A : AFun U := mkA (U := U) pA pH (X := (List Int)) cl sp1 v hh
def body : Code := (Go.Func.body Tryz.f57).getD .skip
def Γ : List (FuncId × AFun U) := [(75, ref02_Twin.A), (76, ref02_Seal.A)]
def Λ : List (Nat × LFun U) := []
def CT : List (Nat × LFun U) := []
def ro : List FuncId := []
def D : Nat → Lv × Lv := dtab []
def E : Env U := { E0 with Γ := Γ, Λ := Λ, C := CT, D := D, ro := ro }
theorem hk (R : Type) (l : TA) (K : AV U → Hp U → Option R) : funcA E Tryz.f57 [] R (pA.mkL l.1) (pH.mkH l.2) K = (tl l).runK fun y => K (v l y) (hh l y) := by kernel_rfl
theorem okF : SoundF Tryz.prog cc 57 (funcA E Tryz.f57 []) :=
  funcA_ok (E := E) P_mixed (E0_ok.with Γ Λ CT D ro) (gam_of (all_cons ⟨ref02_Twin.ok, ref02_Twin.fo⟩ (all_cons ⟨ref02_Seal.ok, ref02_Seal.fo⟩ all_nil)) no_ro) Tryz.func57 (c := body) (by kernel_rfl)
    (just_by (by kernel_rfl) (by kernel_rfl) all_nil all_nil) []
theorem ok : SoundF Tryz.prog cc 57 A :=
  mkA_ok (E := E) (p := pA) (q := pH) (t := tl) sp1_ok hk okF
theorem fo : FnOK Tryz.prog 57 := ⟨Tryz.f57, Tryz.func57, by kernel_rfl, by kernel_rfl⟩
theorem keep : KeepA A := mkA_keep (U := U) sp1_ok (fun (l : TA) y => ⟨(hh l y).drop 0, by kernel_rfl⟩)
end ref10_Lay

/-! instar/instarref10.Right -/
namespace ref10_Right
abbrev TA : Type := (((Int × (Int × ((List Int) × Unit))) × Unit) × Unit)
def t (f_0 f_1 : Int) (f_2 : (List Int)) : Tw Bool :=
 (.bb (f_0 == (1 : Int))
 (.bb (decide (f_1 ≥ (1 : Int)))
 (.bb (decide (f_1 ≤ (1073741823 : Int)))
 (.bb (decide ((((List.length f_2) : Nat) : Int) ≥ (1 : Int)))
 (.ret (decide ((((List.length f_2) : Nat) : Int) ≤ (56 : Int))))
 (.ret false))
 (.ret false))
 (.ret false))
 (.bb (f_0 == (2 : Int))
 (.bb (decide (f_1 ≥ (1 : Int)))
 (.bb (decide (f_1 ≤ (1073741823 : Int)))
 (.bb (decide ((((List.length f_2) : Nat) : Int) ≥ (1 : Int)))
 (.ret (decide ((((List.length f_2) : Nat) : Int) ≤ (56 : Int))))
 (.ret false))
 (.ret false))
 (.ret false))
 (.ret false)))
def c (f_0 f_1 : Int) (f_2 : (List Int)) : Option Bool := (t f_0 f_1 f_2).run
def tl (l : TA) : Tw Bool := t l.1.1.1 l.1.1.2.1 l.1.1.2.2.1
def cl (l : TA) : Option Bool := (tl l).run
def pA : Pt := (.cs (.agg (jC (jC (.cs (.sl 3) .nl)))) .nl)
def pH : Pt := .nl
def v (l : TA) (y : Bool) : AV U := jB y
def hh (l : TA) (y : Bool) : Hp U := []
def A : AFun U := mkA (U := U) pA pH (X := Bool) cl sp1 v hh
def body : Code := (Go.Func.body Tryz.f98).getD .skip
def Γ : List (FuncId × AFun U) := []
def Λ : List (Nat × LFun U) := []
def CT : List (Nat × LFun U) := []
def ro : List FuncId := []
def D : Nat → Lv × Lv := dtab []
def E : Env U := { E0 with Γ := Γ, Λ := Λ, C := CT, D := D, ro := ro }
theorem hk (R : Type) (l : TA) (K : AV U → Hp U → Option R) : funcA E Tryz.f98 [] R (pA.mkL l.1) (pH.mkH l.2) K = (tl l).runK fun y => K (v l y) (hh l y) := by kernel_rfl
theorem okF : SoundF Tryz.prog cc 98 (funcA E Tryz.f98 []) :=
  funcA_ok (E := E) P_mixed (E0_ok.with Γ Λ CT D ro) (gam_of all_nil all_nil) Tryz.func98 (c := body) (by kernel_rfl)
    (just_by (by kernel_rfl) (by kernel_rfl) all_nil all_nil) []
theorem ok : SoundF Tryz.prog cc 98 A :=
  mkA_ok (E := E) (p := pA) (q := pH) (t := tl) sp1_ok hk okF
theorem fo : FnOK Tryz.prog 98 := ⟨Tryz.f98, Tryz.func98, by kernel_rfl, by kernel_rfl⟩
theorem keep : KeepA A := mkA_keep (U := U) sp1_ok (fun (l : TA) y => ⟨(hh l y).drop 0, by kernel_rfl⟩)
end ref10_Right

/-! instar/instarref10.Read -/
namespace ref10_Read
abbrev TA : Type := (((List Int) × Unit) × Unit)
abbrev XA : Type := (Int × (Int × (Int × (Bool × (List Int)))))
def t (w : (List Int)) : Tw XA :=
 (.bb (decide ((((List.length w) : Nat) : Int) < (4 : Int)))
 (.ret ((0 : Int), ((0 : Int), ((0 : Int), (false, ([] : List (Int)))))))
 (.opt (w)[(Int.toNat (0 : Int))]? fun z1 =>
 (.opt (ref02_Told.c z1) fun z2 =>
 (.bb (decide (z2.1 < (1 : Int)))
 (.ret ((0 : Int), ((0 : Int), ((0 : Int), (false, ([] : List (Int)))))))
 (.bb (decide (z2.1 > (56 : Int)))
 (.ret ((0 : Int), ((0 : Int), ((0 : Int), (false, ([] : List (Int)))))))
 (.bb (decide ((((List.length w) : Nat) : Int) < (w64 (z2.1 + (3 : Int)))))
 (.ret ((0 : Int), ((0 : Int), ((0 : Int), (false, ([] : List (Int)))))))
 (.opt (w)[(Int.toNat (1 : Int))]? fun z3 =>
 (.opt (w)[(Int.toNat (1 : Int))]? fun z4 =>
 (.dd ((((0 : Int) ≤ (2 : Int)) ∧ (((2 : Int) ≤ (w64 ((2 : Int) + z2.1))) ∧ ((w64 ((2 : Int) + z2.1)) ≤ (((List.length w) : Nat) : Int))))) inferInstance
 (.dd (((((List.length (List.drop (Int.toNat (2 : Int)) (List.take (Int.toNat (w64 ((2 : Int) + z2.1))) w))) * (4 : Nat)) ≤ (140737488355328 : Nat)) ∧ ((List.length (List.drop (Int.toNat (2 : Int)) (List.take (Int.toNat (w64 ((2 : Int) + z2.1))) w))) ≤ (140737488355328 : Nat)))) inferInstance
 (.opt (ref10_Right.c (w64 (w32 (Int.tdiv z3 (1073741824 : Int)))) (w64 (Int.tmod z4 (1073741824 : Int))) (List.drop (Int.toNat (2 : Int)) (List.take (Int.toNat (w64 ((2 : Int) + z2.1))) w))) fun z5 =>
 (.bb (!z5)
 (.ret ((0 : Int), ((0 : Int), ((0 : Int), (false, ([] : List (Int)))))))
 (.opt (ref10_Lay.c (w64 (w32 (Int.tdiv z3 (1073741824 : Int)))) (w64 (Int.tmod z4 (1073741824 : Int))) (List.drop (Int.toNat (2 : Int)) (List.take (Int.toNat (w64 ((2 : Int) + z2.1))) w))) fun z6 =>
 (.dd ((((0 : Int) ≤ (w64 (z2.1 + (3 : Int)))) ∧ ((w64 (z2.1 + (3 : Int))) ≤ (((List.length w) : Nat) : Int)))) inferInstance
 (.opt (ref01_Same.c z6 (List.take (Int.toNat (w64 (z2.1 + (3 : Int)))) w)) fun z7 =>
 (.bb (!z7)
 (.ret ((0 : Int), ((0 : Int), ((0 : Int), (false, ([] : List (Int)))))))
 (.ret ((w64 (w32 (Int.tdiv z3 (1073741824 : Int)))), ((w64 (Int.tmod z4 (1073741824 : Int))), ((w64 (z2.1 + (3 : Int))), (true, (List.drop (Int.toNat (2 : Int)) (List.take (Int.toNat (w64 ((2 : Int) + z2.1))) w)))))))))
 .no))))
 .no)
 .no)))))))))
def c (w : (List Int)) : Option XA := (t w).run
def tl (l : TA) : Tw XA := t l.1.1
def cl (l : TA) : Option XA := (tl l).run
def pA : Pt := (.cs (.sl 3) .nl)
def pH : Pt := .nl
def v (l : TA) (y : XA) : AV U := .tup [.agg [jI y.1, jI y.2.1, .own 0], jI y.2.2.1, jB y.2.2.2.1]
def hh (l : TA) (y : XA) : Hp U := [.row 3 y.2.2.2.2 true]
def A : AFun U := mkA (U := U) pA pH (X := XA) cl sp1 v hh
def body : Code := (Go.Func.body Tryz.f74).getD .skip
def Γ : List (FuncId × AFun U) := [(97, ref02_Told.A), (98, ref10_Right.A), (57, ref10_Lay.A), (17, ref01_Same.A)]
def Λ : List (Nat × LFun U) := []
def CT : List (Nat × LFun U) := []
def ro : List FuncId := []
def D : Nat → Lv × Lv := dtab []
def E : Env U := { E0 with Γ := Γ, Λ := Λ, C := CT, D := D, ro := ro }
theorem hk (R : Type) (l : TA) (K : AV U → Hp U → Option R) : funcA E Tryz.f74 [(0, [.cell 2], .own 3)] R (pA.mkL l.1) (pH.mkH l.2) K = (tl l).runK fun y => K (v l y) (hh l y) := by kernel_rfl
theorem okF : SoundF Tryz.prog cc 74 (funcA E Tryz.f74 [(0, [.cell 2], .own 3)]) :=
  funcA_ok (E := E) P_mixed (E0_ok.with Γ Λ CT D ro) (gam_of (all_cons ⟨ref02_Told.ok, ref02_Told.fo⟩ (all_cons ⟨ref10_Right.ok, ref10_Right.fo⟩ (all_cons ⟨ref10_Lay.ok, ref10_Lay.fo⟩ (all_cons ⟨ref01_Same.ok, ref01_Same.fo⟩ all_nil)))) no_ro) Tryz.func74 (c := body) (by kernel_rfl)
    (just_by (by kernel_rfl) (by kernel_rfl) all_nil all_nil) [(0, [.cell 2], .own 3)]
theorem ok : SoundF Tryz.prog cc 74 A :=
  mkA_ok (E := E) (p := pA) (q := pH) (t := tl) sp1_ok hk okF
theorem fo : FnOK Tryz.prog 74 := ⟨Tryz.f74, Tryz.func74, by kernel_rfl, by kernel_rfl⟩
theorem keep : KeepA A := mkA_keep (U := U) sp1_ok (fun (l : TA) y => ⟨(hh l y).drop 0, by kernel_rfl⟩)
end ref10_Read

end
end Go.Proofs.YtkoidgjgdhpdnaaGreat.Va
