/- The functions of package frame, as plain functions, and that the program computes them. Printed by a program of this work out of the evaluator. -/
import Derived.Test.YtkoidgjgdhpdnaaEn
import Derived.Tactics
import Derived.Test.YtkoidgjgdhpdnaaFslices
import Derived.Test.YtkoidgjgdhpdnaaFzeros
namespace Go.Proofs.Ytkoidgjgdhpdnaa.Va
open Go
set_option linter.unusedVariables false
set_option maxRecDepth 100000

/-! instar/frame.Size -/
namespace frame_Size
abbrev TA : Type := ((Int × Unit) × Unit)
noncomputable def t (n : Int) : Tw Int :=
 (.bb (decide (n < (1 : Int)))
  (.ret (0 : Int))
  (.bb (decide (n > (56 : Int)))
   (.ret (0 : Int))
   (.ret (w64 (n + (3 : Int))))))
noncomputable def c (n : Int) : Option Int := (t n).run
def pA : Pt := (.cs (.int .i64) .nl)
def pH : Pt := .nl
def v (l : TA) (y : Int) : AV U := .im (.int .i64 y)
def hh (l : TA) (y : Int) : Hp U := []
noncomputable def A : AFun U := mkA (U := U) pA pH (X := Int) (fun (l : TA) => c l.1.1) sp1 v hh
noncomputable def body : Code := (Go.Func.body Try.f58).getD .skip
noncomputable def Γ : List (FuncId × AFun U) := []
noncomputable def Λ : List (Nat × LFun U) := []
noncomputable def CT : List (Nat × LFun U) := []
def ro : List FuncId := []
def D : Nat → Lv × Lv := dtab []
noncomputable def E : Env U := { E0 with Γ := Γ, Λ := Λ, C := CT, D := D, ro := ro }
theorem hk (R : Type) (l : TA) (K : AV U → Hp U → Option R) : funcA E Try.f58 [] R (pA.mkL l.1) (pH.mkH l.2) K = (t l.1.1).runK fun y => K (v l y) (hh l y) := by kernel_rfl
theorem okF : SoundF Try.prog cc 58 (funcA E Try.f58 []) :=
  funcA_ok (E := E) P_mixed (E0_ok.with Γ Λ CT D ro) (gam_of all_nil all_nil) Try.func58 (c := body) (by kernel_rfl)
    (just_by (by kernel_rfl) (by kernel_rfl) all_nil all_nil) []
theorem ok : SoundF Try.prog cc 58 A :=
  mkA_ok (E := E) (p := pA) (q := pH) (t := fun (l : TA) => t l.1.1) sp1_ok hk okF
theorem keep : KeepA A := mkA_keep (U := U) sp1_ok (fun (l : TA) y => ⟨(hh l y).drop 0, by kernel_rfl⟩)
end frame_Size

/-! instar/frame.Read -/
namespace frame_Read
abbrev TA : Type := (((List Int) × Unit) × Unit)
noncomputable def t (w : (List Int)) : Tw (Int × (Int × (Int × (Bool × (List Int))))) :=
 (.bb ((((List.length w) : Nat) : Int) == (0 : Int))
  (.ret ((0 : Int), ((0 : Int), ((0 : Int), (false, ([] : List (Int)))))))
  (.opt (w)[(Int.toNat (0 : Int))]? fun z1 =>
   (.opt (zeros_Told.c z1) fun z2 =>
    (.opt (frame_Size.c z2.1) fun z3 =>
     (.bb (!z2.2)
      (.ret ((0 : Int), ((0 : Int), ((0 : Int), (false, ([] : List (Int)))))))
      (.bb (z3 == (0 : Int))
       (.ret ((0 : Int), ((0 : Int), ((0 : Int), (false, ([] : List (Int)))))))
       (.bb (decide ((((List.length w) : Nat) : Int) < z3))
        (.ret ((0 : Int), ((0 : Int), ((0 : Int), (false, ([] : List (Int)))))))
        (.dd ((((0 : Int) ≤ z3) ∧ (z3 ≤ (((List.length w) : Nat) : Int)))) inferInstance
         (.opt (zeros_Right.c (List.take (Int.toNat z3) w)) fun z4 =>
          (.bb (!z4)
           (.ret ((0 : Int), ((0 : Int), ((0 : Int), (false, ([] : List (Int)))))))
           (.opt (w)[(Int.toNat (1 : Int))]? fun z5 =>
            (.opt (w)[(Int.toNat (1 : Int))]? fun z6 =>
             (.dd ((((0 : Int) ≤ (2 : Int)) ∧ (((2 : Int) ≤ (w64 (z3 - (1 : Int)))) ∧ ((w64 (z3 - (1 : Int))) ≤ (((List.length w) : Nat) : Int))))) inferInstance
              (.opt (slices_Clone__uint32uint32.c (List.drop (Int.toNat (2 : Int)) (List.take (Int.toNat (w64 (z3 - (1 : Int)))) w))) fun z7 =>
               (.bb (decide ((w64 (bShr .u32 z5 (30 : Int))) < (1 : Int)))
                (.ret ((0 : Int), ((0 : Int), ((0 : Int), (false, ([] : List (Int)))))))
                (.bb (decide ((w64 (bShr .u32 z5 (30 : Int))) > (2 : Int)))
                 (.ret ((0 : Int), ((0 : Int), ((0 : Int), (false, ([] : List (Int)))))))
                 (.bb (decide ((w64 (bAnd .u32 z6 (1073741823 : Int))) < (1 : Int)))
                  (.ret ((0 : Int), ((0 : Int), ((0 : Int), (false, ([] : List (Int)))))))
                  (.ret ((w64 (bShr .u32 z5 (30 : Int))), ((w64 (bAnd .u32 z6 (1073741823 : Int))), (z3, (true, z7)))))))))
              .no)))))
         .no))))))))
noncomputable def c (w : (List Int)) : Option (Int × (Int × (Int × (Bool × (List Int))))) := (t w).run
def pA : Pt := (.cs (.sl 3) .nl)
def pH : Pt := .nl
def v (l : TA) (y : (Int × (Int × (Int × (Bool × (List Int)))))) : AV U := .tup [.agg [.im (.int .i64 y.1), .im (.int .i64 y.2.1), .own 0], .im (.int .i64 y.2.2.1), .im (.bool y.2.2.2.1)]
def hh (l : TA) (y : (Int × (Int × (Int × (Bool × (List Int)))))) : Hp U := [.row 3 y.2.2.2.2 true]
noncomputable def A : AFun U := mkA (U := U) pA pH (X := (Int × (Int × (Int × (Bool × (List Int)))))) (fun (l : TA) => c l.1.1) sp1 v hh
noncomputable def body : Code := (Go.Func.body Try.f65).getD .skip
noncomputable def Γ : List (FuncId × AFun U) := [(88, zeros_Told.A), (58, frame_Size.A), (89, zeros_Right.A), (32, slices_Clone__uint32uint32.A)]
noncomputable def Λ : List (Nat × LFun U) := []
noncomputable def CT : List (Nat × LFun U) := []
def ro : List FuncId := []
def D : Nat → Lv × Lv := dtab []
noncomputable def E : Env U := { E0 with Γ := Γ, Λ := Λ, C := CT, D := D, ro := ro }
theorem hk (R : Type) (l : TA) (K : AV U → Hp U → Option R) : funcA E Try.f65 [(0, [.cell 2], .own 3)] R (pA.mkL l.1) (pH.mkH l.2) K = (t l.1.1).runK fun y => K (v l y) (hh l y) := by kernel_rfl
theorem okF : SoundF Try.prog cc 65 (funcA E Try.f65 [(0, [.cell 2], .own 3)]) :=
  funcA_ok (E := E) P_mixed (E0_ok.with Γ Λ CT D ro) (gam_of (all_cons ⟨zeros_Told.ok, ⟨Try.f88, Try.func88, by kernel_rfl, by kernel_rfl⟩⟩ (all_cons ⟨frame_Size.ok, ⟨Try.f58, Try.func58, by kernel_rfl, by kernel_rfl⟩⟩ (all_cons ⟨zeros_Right.ok, ⟨Try.f89, Try.func89, by kernel_rfl, by kernel_rfl⟩⟩ (all_cons ⟨slices_Clone__uint32uint32.ok, ⟨Try.f32, Try.func32, by kernel_rfl, by kernel_rfl⟩⟩ all_nil)))) (all_cons (no_keep (by kernel_rfl)) (all_cons (no_keep (by kernel_rfl)) (all_cons (no_keep (by kernel_rfl)) (all_cons (no_keep (by kernel_rfl)) all_nil))))) Try.func65 (c := body) (by kernel_rfl)
    (just_by (by kernel_rfl) (by kernel_rfl) all_nil all_nil) [(0, [.cell 2], .own 3)]
theorem ok : SoundF Try.prog cc 65 A :=
  mkA_ok (E := E) (p := pA) (q := pH) (t := fun (l : TA) => t l.1.1) sp1_ok hk okF
theorem keep : KeepA A := mkA_keep (U := U) sp1_ok (fun (l : TA) y => ⟨(hh l y).drop 0, by kernel_rfl⟩)
end frame_Read

/-! instar/frame.Lay -/
namespace frame_Lay
abbrev TA : Type := (((Int × (Int × ((List Int) × Unit))) × Unit) × Unit)
noncomputable def t (f_0 f_1 : Int) (f_2 : (List Int)) : Tw (Int × (List Int)) :=
 (.opt (frame_Size.c (((List.length f_2) : Nat) : Int)) fun z1 =>
  (.bb (z1 == (0 : Int))
   (.ret ((2 : Int), ([] : List (Int))))
   (.bb (decide (f_0 < (1 : Int)))
    (.ret ((2 : Int), ([] : List (Int))))
    (.bb (decide (f_0 > (2 : Int)))
     (.ret ((2 : Int), ([] : List (Int))))
     (.bb (decide (f_1 < (1 : Int)))
      (.ret ((2 : Int), ([] : List (Int))))
      (.bb (decide (f_1 > (1073741823 : Int)))
       (.ret ((2 : Int), ([] : List (Int))))
       (.dd ((((0 : Int) ≤ (w64 ((2 : Int) + (((List.length f_2) : Nat) : Int)))) ∧ (((w64 ((2 : Int) + (((List.length f_2) : Nat) : Int))) ≤ (w64 ((2 : Int) + (((List.length f_2) : Nat) : Int)))) ∧ (((w64 ((2 : Int) + (((List.length f_2) : Nat) : Int))) ≤ (140737488355328 : Int)) ∧ (((w64 ((2 : Int) + (((List.length f_2) : Nat) : Int))) * (((4 : Nat) : Nat) : Int)) ≤ (140737488355328 : Int)))))) inferInstance
        (.opt (zeros_Twin.c (((List.length f_2) : Nat) : Int)) fun z2 =>
         (.dd ((((0 : Int) ≤ (0 : Int)) ∧ ((0 : Int) < (((List.length (List.replicate (Int.toNat (w64 ((2 : Int) + (((List.length f_2) : Nat) : Int)))) (0 : Int))) : Nat) : Int)))) inferInstance
          (.opt ((List.replicate (Int.toNat (w64 ((2 : Int) + (((List.length f_2) : Nat) : Int)))) (0 : Int)))[(Int.toNat (0 : Int))]? fun z3 =>
           (.dd ((((0 : Int) ≤ (1 : Int)) ∧ ((1 : Int) < (((List.length (List.set (List.replicate (Int.toNat (w64 ((2 : Int) + (((List.length f_2) : Nat) : Int)))) (0 : Int)) (Int.toNat (0 : Int)) z2.1)) : Nat) : Int)))) inferInstance
            (.opt ((List.set (List.replicate (Int.toNat (w64 ((2 : Int) + (((List.length f_2) : Nat) : Int)))) (0 : Int)) (Int.toNat (0 : Int)) z2.1))[(Int.toNat (1 : Int))]? fun z4 =>
             (.dd ((((0 : Int) ≤ (2 : Int)) ∧ ((2 : Int) ≤ (((List.length (List.set (List.set (List.replicate (Int.toNat (w64 ((2 : Int) + (((List.length f_2) : Nat) : Int)))) (0 : Int)) (Int.toNat (0 : Int)) z2.1) (Int.toNat (1 : Int)) (w32 (bOr .i64 (bShl .i64 f_0 (30 : Int)) f_1)))) : Nat) : Int)))) inferInstance
              (.dd ((((3 : Nat) = (3 : Nat)) ∧ (((1 : Nat) = (1 : Nat)) ∧ (((Int.toNat (2 : Int)) + ((List.length (List.set (List.set (List.replicate (Int.toNat (w64 ((2 : Int) + (((List.length f_2) : Nat) : Int)))) (0 : Int)) (Int.toNat (0 : Int)) z2.1) (Int.toNat (1 : Int)) (w32 (bOr .i64 (bShl .i64 f_0 (30 : Int)) f_1)))) - (Int.toNat (2 : Int)))) ≤ (List.length (List.set (List.set (List.replicate (Int.toNat (w64 ((2 : Int) + (((List.length f_2) : Nat) : Int)))) (0 : Int)) (Int.toNat (0 : Int)) z2.1) (Int.toNat (1 : Int)) (w32 (bOr .i64 (bShl .i64 f_0 (30 : Int)) f_1)))))))) inferInstance
               (.opt (zeros_Seal.c ((List.take (Int.toNat (2 : Int)) (List.set (List.set (List.replicate (Int.toNat (w64 ((2 : Int) + (((List.length f_2) : Nat) : Int)))) (0 : Int)) (Int.toNat (0 : Int)) z2.1) (Int.toNat (1 : Int)) (w32 (bOr .i64 (bShl .i64 f_0 (30 : Int)) f_1)))) ++ ((List.take ((List.length (List.set (List.set (List.replicate (Int.toNat (w64 ((2 : Int) + (((List.length f_2) : Nat) : Int)))) (0 : Int)) (Int.toNat (0 : Int)) z2.1) (Int.toNat (1 : Int)) (w32 (bOr .i64 (bShl .i64 f_0 (30 : Int)) f_1)))) - (Int.toNat (2 : Int))) f_2) ++ (List.drop ((Int.toNat (2 : Int)) + (min (List.length f_2) ((List.length (List.set (List.set (List.replicate (Int.toNat (w64 ((2 : Int) + (((List.length f_2) : Nat) : Int)))) (0 : Int)) (Int.toNat (0 : Int)) z2.1) (Int.toNat (1 : Int)) (w32 (bOr .i64 (bShl .i64 f_0 (30 : Int)) f_1)))) - (Int.toNat (2 : Int))))) (List.set (List.set (List.replicate (Int.toNat (w64 ((2 : Int) + (((List.length f_2) : Nat) : Int)))) (0 : Int)) (Int.toNat (0 : Int)) z2.1) (Int.toNat (1 : Int)) (w32 (bOr .i64 (bShl .i64 f_0 (30 : Int)) f_1))))))) fun z5 =>
                (.ret ((0 : Int), z5)))
               .no)
              .no))
            .no))
          .no))
        .no)))))))
noncomputable def c (f_0 f_1 : Int) (f_2 : (List Int)) : Option (Int × (List Int)) := (t f_0 f_1 f_2).run
def pA : Pt := (.cs (.agg (.cs (.int .i64) (.cs (.int .i64) (.cs (.sl 3) .nl)))) .nl)
def pH : Pt := .nl
def v (l : TA) (y : (Int × (List Int))) : AV U := .tup [.own 0, .im (.int .i64 y.1)]
def hh (l : TA) (y : (Int × (List Int))) : Hp U := [.row 3 y.2 true]
noncomputable def A : AFun U := mkA (U := U) pA pH (X := (Int × (List Int))) (fun (l : TA) => c l.1.1.1 l.1.1.2.1 l.1.1.2.2.1) sp1 v hh
noncomputable def body : Code := (Go.Func.body Try.f59).getD .skip
noncomputable def Γ : List (FuncId × AFun U) := [(58, frame_Size.A), (82, zeros_Twin.A), (83, zeros_Seal.A)]
noncomputable def Λ : List (Nat × LFun U) := []
noncomputable def CT : List (Nat × LFun U) := []
def ro : List FuncId := []
def D : Nat → Lv × Lv := dtab []
noncomputable def E : Env U := { E0 with Γ := Γ, Λ := Λ, C := CT, D := D, ro := ro }
theorem hk (R : Type) (l : TA) (K : AV U → Hp U → Option R) : funcA E Try.f59 [(0, [], .own 3)] R (pA.mkL l.1) (pH.mkH l.2) K = (t l.1.1.1 l.1.1.2.1 l.1.1.2.2.1).runK fun y => K (v l y) (hh l y) := by kernel_rfl
theorem okF : SoundF Try.prog cc 59 (funcA E Try.f59 [(0, [], .own 3)]) :=
  funcA_ok (E := E) P_mixed (E0_ok.with Γ Λ CT D ro) (gam_of (all_cons ⟨frame_Size.ok, ⟨Try.f58, Try.func58, by kernel_rfl, by kernel_rfl⟩⟩ (all_cons ⟨zeros_Twin.ok, ⟨Try.f82, Try.func82, by kernel_rfl, by kernel_rfl⟩⟩ (all_cons ⟨zeros_Seal.ok, ⟨Try.f83, Try.func83, by kernel_rfl, by kernel_rfl⟩⟩ all_nil))) (all_cons (no_keep (by kernel_rfl)) (all_cons (no_keep (by kernel_rfl)) (all_cons (no_keep (by kernel_rfl)) all_nil)))) Try.func59 (c := body) (by kernel_rfl)
    (just_by (by kernel_rfl) (by kernel_rfl) all_nil all_nil) [(0, [], .own 3)]
theorem ok : SoundF Try.prog cc 59 A :=
  mkA_ok (E := E) (p := pA) (q := pH) (t := fun (l : TA) => t l.1.1.1 l.1.1.2.1 l.1.1.2.2.1) sp1_ok hk okF
theorem keep : KeepA A := mkA_keep (U := U) sp1_ok (fun (l : TA) y => ⟨(hh l y).drop 0, by kernel_rfl⟩)
end frame_Lay

end Go.Proofs.Ytkoidgjgdhpdnaa.Va
