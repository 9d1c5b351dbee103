/- The functions of package frame, as plain functions, and that the program computes them. Printed by a program of this work out of the evaluator. -/
import Derived.Test.YtkoidgjgdhpdnaaGreatEn
import Derived.Tactics
import Derived.Test.YtkoidgjgdhpdnaaGreatFslices
import Derived.Test.YtkoidgjgdhpdnaaGreatFzeros
set_option linter.unusedVariables false
namespace Go.Proofs.YtkoidgjgdhpdnaaGreat.Va
noncomputable section
open Go
set_option maxRecDepth 100000

/-! instar/frame.Size -/
namespace frame_Size
abbrev TA : Type := ((Int × Unit) × Unit)
def t (n : Int) : Tw Int :=
 (.bb (decide (n < (1 : Int)))
 (.ret (0 : Int))
 (.bb (decide (n > (56 : Int)))
 (.ret (0 : Int))
 (.ret (w64 (n + (3 : Int))))))
def c (n : Int) : Option Int := (t n).run
def tl (l : TA) : Tw Int := t l.1.1
def cl (l : TA) : Option Int := (tl l).run
def pA : Pt := (jC .nl)
def pH : Pt := .nl
def v (l : TA) (y : Int) : AV U := jI y
def hh (l : TA) (y : Int) : Hp U := []
def A : AFun U := mkA (U := U) pA pH (X := Int) cl sp1 v hh
def body : Code := (Go.Func.body Tryz.f64).getD .skip
def Γ : List (FuncId × AFun U) := []
def Λ : List (Nat × LFun U) := []
def CT : List (Nat × LFun U) := []
def ro : List FuncId := []
def D : Nat → Lv × Lv := dtab []
def E : Env U := { E0 with Γ := Γ, Λ := Λ, C := CT, D := D, ro := ro }
theorem hk (R : Type) (l : TA) (K : AV U → Hp U → Option R) : funcA E Tryz.f64 [] R (pA.mkL l.1) (pH.mkH l.2) K = (tl l).runK fun y => K (v l y) (hh l y) := by kernel_rfl
theorem okF : SoundF Tryz.prog cc 64 (funcA E Tryz.f64 []) :=
  funcA_ok (E := E) P_mixed (E0_ok.with Γ Λ CT D ro) (gam_of all_nil all_nil) Tryz.func64 (c := body) (by kernel_rfl)
    (just_by (by kernel_rfl) (by kernel_rfl) all_nil all_nil) []
theorem ok : SoundF Tryz.prog cc 64 A :=
  mkA_ok (E := E) (p := pA) (q := pH) (t := tl) sp1_ok hk okF
theorem fo : FnOK Tryz.prog 64 := ⟨Tryz.f64, Tryz.func64, by kernel_rfl, by kernel_rfl⟩
theorem keep : KeepA A := mkA_keep (U := U) sp1_ok (fun (l : TA) y => ⟨(hh l y).drop 0, by kernel_rfl⟩)
end frame_Size

/-! instar/frame.Lay -/
namespace frame_Lay
abbrev TA : Type := (((Int × (Int × ((List Int) × Unit))) × Unit) × Unit)
abbrev XA : Type := (Int × (List Int))
def t (f_0 f_1 : Int) (f_2 : (List Int)) : Tw XA :=
 (.opt (frame_Size.c (((List.length f_2) : Nat) : Int)) fun z1 =>
 (.bb (z1 == (0 : Int))
 (.ret ((2 : Int), ([] : List (Int))))
 (.bb (decide (f_0 < (1 : Int)))
 (.ret ((2 : Int), ([] : List (Int))))
 (.bb (decide (f_0 > (2 : Int)))
 (.ret ((2 : Int), ([] : List (Int))))
 (.bb (decide (f_1 < (1 : Int)))
 (.ret ((2 : Int), ([] : List (Int))))
 (.bb (decide (f_1 > (1073741823 : Int)))
 (.ret ((2 : Int), ([] : List (Int))))
 (.dd ((((0 : Int) ≤ (w64 ((2 : Int) + (((List.length f_2) : Nat) : Int)))) ∧ (((w64 ((2 : Int) + (((List.length f_2) : Nat) : Int))) ≤ (w64 ((2 : Int) + (((List.length f_2) : Nat) : Int)))) ∧ (((w64 ((2 : Int) + (((List.length f_2) : Nat) : Int))) ≤ (140737488355328 : Int)) ∧ (((w64 ((2 : Int) + (((List.length f_2) : Nat) : Int))) * (((4 : Nat) : Nat) : Int)) ≤ (140737488355328 : Int)))))) inferInstance
 (.opt (zeros_Twin.c (((List.length f_2) : Nat) : Int)) fun z2 =>
 (.dd ((((0 : Int) ≤ (0 : Int)) ∧ ((0 : Int) < (((List.length (List.replicate (Int.toNat (w64 ((2 : Int) + (((List.length f_2) : Nat) : Int)))) (0 : Int))) : Nat) : Int)))) inferInstance
 (.opt ((List.replicate (Int.toNat (w64 ((2 : Int) + (((List.length f_2) : Nat) : Int)))) (0 : Int)))[(Int.toNat (0 : Int))]? fun z3 =>
 (.dd ((((0 : Int) ≤ (1 : Int)) ∧ ((1 : Int) < (((List.length (List.set (List.replicate (Int.toNat (w64 ((2 : Int) + (((List.length f_2) : Nat) : Int)))) (0 : Int)) (Int.toNat (0 : Int)) z2.1)) : Nat) : Int)))) inferInstance
 (.opt ((List.set (List.replicate (Int.toNat (w64 ((2 : Int) + (((List.length f_2) : Nat) : Int)))) (0 : Int)) (Int.toNat (0 : Int)) z2.1))[(Int.toNat (1 : Int))]? fun z4 =>
 (.dd ((((0 : Int) ≤ (2 : Int)) ∧ ((2 : Int) ≤ (((List.length (List.set (List.set (List.replicate (Int.toNat (w64 ((2 : Int) + (((List.length f_2) : Nat) : Int)))) (0 : Int)) (Int.toNat (0 : Int)) z2.1) (Int.toNat (1 : Int)) (w32 (bOr .i64 (bShl .i64 f_0 (30 : Int)) f_1)))) : Nat) : Int)))) inferInstance
 (.dd ((((3 : Nat) = (3 : Nat)) ∧ (((1 : Nat) = (1 : Nat)) ∧ (((Int.toNat (2 : Int)) + ((List.length (List.set (List.set (List.replicate (Int.toNat (w64 ((2 : Int) + (((List.length f_2) : Nat) : Int)))) (0 : Int)) (Int.toNat (0 : Int)) z2.1) (Int.toNat (1 : Int)) (w32 (bOr .i64 (bShl .i64 f_0 (30 : Int)) f_1)))) - (Int.toNat (2 : Int)))) ≤ (List.length (List.set (List.set (List.replicate (Int.toNat (w64 ((2 : Int) + (((List.length f_2) : Nat) : Int)))) (0 : Int)) (Int.toNat (0 : Int)) z2.1) (Int.toNat (1 : Int)) (w32 (bOr .i64 (bShl .i64 f_0 (30 : Int)) f_1)))))))) inferInstance
 (.opt (zeros_Seal.c ((List.take (Int.toNat (2 : Int)) (List.set (List.set (List.replicate (Int.toNat (w64 ((2 : Int) + (((List.length f_2) : Nat) : Int)))) (0 : Int)) (Int.toNat (0 : Int)) z2.1) (Int.toNat (1 : Int)) (w32 (bOr .i64 (bShl .i64 f_0 (30 : Int)) f_1)))) ++ ((List.take ((List.length (List.set (List.set (List.replicate (Int.toNat (w64 ((2 : Int) + (((List.length f_2) : Nat) : Int)))) (0 : Int)) (Int.toNat (0 : Int)) z2.1) (Int.toNat (1 : Int)) (w32 (bOr .i64 (bShl .i64 f_0 (30 : Int)) f_1)))) - (Int.toNat (2 : Int))) f_2) ++ (List.drop ((Int.toNat (2 : Int)) + (min (List.length f_2) ((List.length (List.set (List.set (List.replicate (Int.toNat (w64 ((2 : Int) + (((List.length f_2) : Nat) : Int)))) (0 : Int)) (Int.toNat (0 : Int)) z2.1) (Int.toNat (1 : Int)) (w32 (bOr .i64 (bShl .i64 f_0 (30 : Int)) f_1)))) - (Int.toNat (2 : Int))))) (List.set (List.set (List.replicate (Int.toNat (w64 ((2 : Int) + (((List.length f_2) : Nat) : Int)))) (0 : Int)) (Int.toNat (0 : Int)) z2.1) (Int.toNat (1 : Int)) (w32 (bOr .i64 (bShl .i64 f_0 (30 : Int)) f_1))))))) fun z5 =>
 (.ret ((0 : Int), z5)))
 .no)
 .no))
 .no))
 .no))
 .no)))))))
def c (f_0 f_1 : Int) (f_2 : (List Int)) : Option XA := (t f_0 f_1 f_2).run
def tl (l : TA) : Tw XA := t l.1.1.1 l.1.1.2.1 l.1.1.2.2.1
def cl (l : TA) : Option XA := (tl l).run
def pA : Pt := (.cs (.agg (jC (jC (.cs (.sl 3) .nl)))) .nl)
def pH : Pt := .nl
def v (l : TA) (y : XA) : AV U := .tup [.own 0, jI y.1]
def hh (l : TA) (y : XA) : Hp U := [.row 3 y.2 true]
def A : AFun U := mkA (U := U) pA pH (X := XA) cl sp1 v hh
def body : Code := (Go.Func.body Tryz.f65).getD .skip
def Γ : List (FuncId × AFun U) := [(64, frame_Size.A), (87, zeros_Twin.A), (88, zeros_Seal.A)]
def Λ : List (Nat × LFun U) := []
def CT : List (Nat × LFun U) := []
def ro : List FuncId := []
def D : Nat → Lv × Lv := dtab []
def E : Env U := { E0 with Γ := Γ, Λ := Λ, C := CT, D := D, ro := ro }
theorem hk (R : Type) (l : TA) (K : AV U → Hp U → Option R) : funcA E Tryz.f65 [(0, [], .own 3)] R (pA.mkL l.1) (pH.mkH l.2) K = (tl l).runK fun y => K (v l y) (hh l y) := by kernel_rfl
theorem okF : SoundF Tryz.prog cc 65 (funcA E Tryz.f65 [(0, [], .own 3)]) :=
  funcA_ok (E := E) P_mixed (E0_ok.with Γ Λ CT D ro) (gam_of (all_cons ⟨frame_Size.ok, frame_Size.fo⟩ (all_cons ⟨zeros_Twin.ok, zeros_Twin.fo⟩ (all_cons ⟨zeros_Seal.ok, zeros_Seal.fo⟩ all_nil))) no_ro) Tryz.func65 (c := body) (by kernel_rfl)
    (just_by (by kernel_rfl) (by kernel_rfl) all_nil all_nil) [(0, [], .own 3)]
theorem ok : SoundF Tryz.prog cc 65 A :=
  mkA_ok (E := E) (p := pA) (q := pH) (t := tl) sp1_ok hk okF
theorem fo : FnOK Tryz.prog 65 := ⟨Tryz.f65, Tryz.func65, by kernel_rfl, by kernel_rfl⟩
theorem keep : KeepA A := mkA_keep (U := U) sp1_ok (fun (l : TA) y => ⟨(hh l y).drop 0, by kernel_rfl⟩)
end frame_Lay

/-! instar/frame.Read -/
namespace frame_Read
abbrev TA : Type := (((List Int) × Unit) × Unit)
abbrev XA : Type := (Int × (Int × (Int × (Bool × (List Int)))))
def t (w : (List Int)) : Tw XA :=
 (.bb ((((List.length w) : Nat) : Int) == (0 : Int))
 (.ret ((0 : Int), ((0 : Int), ((0 : Int), (false, ([] : List (Int)))))))
 (.opt (w)[(Int.toNat (0 : Int))]? fun z1 =>
 (.opt (zeros_Told.c z1) fun z2 =>
 (.opt (frame_Size.c z2.1) fun z3 =>
 (.bb (!z2.2)
 (.ret ((0 : Int), ((0 : Int), ((0 : Int), (false, ([] : List (Int)))))))
 (.bb (z3 == (0 : Int))
 (.ret ((0 : Int), ((0 : Int), ((0 : Int), (false, ([] : List (Int)))))))
 (.bb (decide ((((List.length w) : Nat) : Int) < z3))
 (.ret ((0 : Int), ((0 : Int), ((0 : Int), (false, ([] : List (Int)))))))
 (.dd ((((0 : Int) ≤ z3) ∧ (z3 ≤ (((List.length w) : Nat) : Int)))) inferInstance
 (.opt (zeros_Right.c (List.take (Int.toNat z3) w)) fun z4 =>
 (.bb (!z4)
 (.ret ((0 : Int), ((0 : Int), ((0 : Int), (false, ([] : List (Int)))))))
 (.opt (w)[(Int.toNat (1 : Int))]? fun z5 =>
 (.opt (w)[(Int.toNat (1 : Int))]? fun z6 =>
 (.dd ((((0 : Int) ≤ (2 : Int)) ∧ (((2 : Int) ≤ (w64 (z3 - (1 : Int)))) ∧ ((w64 (z3 - (1 : Int))) ≤ (((List.length w) : Nat) : Int))))) inferInstance
 (.opt (slices_Clone__uint32uint32.c (List.drop (Int.toNat (2 : Int)) (List.take (Int.toNat (w64 (z3 - (1 : Int)))) w))) fun z7 =>
 (.bb (decide ((w64 (bShr .u32 z5 (30 : Int))) < (1 : Int)))
 (.ret ((0 : Int), ((0 : Int), ((0 : Int), (false, ([] : List (Int)))))))
 (.bb (decide ((w64 (bShr .u32 z5 (30 : Int))) > (2 : Int)))
 (.ret ((0 : Int), ((0 : Int), ((0 : Int), (false, ([] : List (Int)))))))
 (.bb (decide ((w64 (bAnd .u32 z6 (1073741823 : Int))) < (1 : Int)))
 (.ret ((0 : Int), ((0 : Int), ((0 : Int), (false, ([] : List (Int)))))))
 (.ret ((w64 (bShr .u32 z5 (30 : Int))), ((w64 (bAnd .u32 z6 (1073741823 : Int))), (z3, (true, z7)))))))))
 .no)))))
 .no))))))))
def c (w : (List Int)) : Option XA := (t w).run
def tl (l : TA) : Tw XA := t l.1.1
def cl (l : TA) : Option XA := (tl l).run
def pA : Pt := (.cs (.sl 3) .nl)
def pH : Pt := .nl
def v (l : TA) (y : XA) : AV U := .tup [.agg [jI y.1, jI y.2.1, .own 0], jI y.2.2.1, jB y.2.2.2.1]
def hh (l : TA) (y : XA) : Hp U := [.row 3 y.2.2.2.2 true]
def A : AFun U := mkA (U := U) pA pH (X := XA) cl sp1 v hh
def body : Code := (Go.Func.body Tryz.f61).getD .skip
def Γ : List (FuncId × AFun U) := [(82, zeros_Told.A), (64, frame_Size.A), (83, zeros_Right.A), (39, slices_Clone__uint32uint32.A)]
def Λ : List (Nat × LFun U) := []
def CT : List (Nat × LFun U) := []
def ro : List FuncId := []
def D : Nat → Lv × Lv := dtab []
def E : Env U := { E0 with Γ := Γ, Λ := Λ, C := CT, D := D, ro := ro }
theorem hk (R : Type) (l : TA) (K : AV U → Hp U → Option R) : funcA E Tryz.f61 [(0, [.cell 2], .own 3)] R (pA.mkL l.1) (pH.mkH l.2) K = (tl l).runK fun y => K (v l y) (hh l y) := by kernel_rfl
theorem okF : SoundF Tryz.prog cc 61 (funcA E Tryz.f61 [(0, [.cell 2], .own 3)]) :=
  funcA_ok (E := E) P_mixed (E0_ok.with Γ Λ CT D ro) (gam_of (all_cons ⟨zeros_Told.ok, zeros_Told.fo⟩ (all_cons ⟨frame_Size.ok, frame_Size.fo⟩ (all_cons ⟨zeros_Right.ok, zeros_Right.fo⟩ (all_cons ⟨slices_Clone__uint32uint32.ok, slices_Clone__uint32uint32.fo⟩ all_nil)))) no_ro) Tryz.func61 (c := body) (by kernel_rfl)
    (just_by (by kernel_rfl) (by kernel_rfl) all_nil all_nil) [(0, [.cell 2], .own 3)]
theorem ok : SoundF Tryz.prog cc 61 A :=
  mkA_ok (E := E) (p := pA) (q := pH) (t := tl) sp1_ok hk okF
theorem fo : FnOK Tryz.prog 61 := ⟨Tryz.f61, Tryz.func61, by kernel_rfl, by kernel_rfl⟩
theorem keep : KeepA A := mkA_keep (U := U) sp1_ok (fun (l : TA) y => ⟨(hh l y).drop 0, by kernel_rfl⟩)
end frame_Read

end
end Go.Proofs.YtkoidgjgdhpdnaaGreat.Va
