/- The functions of package frame, as plain functions, and that the program computes them. Printed by a program of this work out of the evaluator. -/
import Derived.Test.YtkoidgjgdhpdnaaEn
import Derived.Tactics
import Derived.Test.YtkoidgjgdhpdnaaFslices
import Derived.Test.YtkoidgjgdhpdnaaFzeros
set_option linter.unusedVariables false
namespace Go.Proofs.Ytkoidgjgdhpdnaa.Va
noncomputable section
open Go
set_option maxRecDepth 100000

/-! instar/frame.Size -/
namespace frame_Size
abbrev TA : Type := ((Int × Unit) × Unit)
def t (n : Int) : Tw Int :=
 (.bb (decide (n < (1 : Int)))
 (.ret (0 : Int))
 (.bb (decide (n > (56 : Int)))
 (.ret (0 : Int))
 (.ret (w64 (n + (3 : Int))))))
def c (n : Int) : Option Int := (t n).run
def tl (l : TA) : Tw Int := t l.1.1
def pA : Pt := (jC .nl)
def pH : Pt := .nl
def v (l : TA) (y : Int) : AV U := jI y
def hh (l : TA) (y : Int) : Hp U := []
def A : AFun U := mkA pA pH (X := Int) (fun l => (tl l).run) sp1 v hh
def body := bodyOf Try.f58
def E : Env U := E0.mk5 [] [] [] [] []
theorem hk : HK E Try.f58 [] pA pH tl v hh := fun _ _ _ => by kernel_rfl
theorem og : SoundF Try.prog cc 58 A ∧ FnOK Try.prog 58 :=
 og_of (E := E) P_mixed (E0_ok.mk5 _ _ _ _ _) (gam_of all_nil all_nil) Try.func58 (c := body) (by kernel_rfl)
    (just_by (by kernel_rfl) (by kernel_rfl) all_nil all_nil) [] sp1_ok hk (by kernel_rfl)
end frame_Size

/-! instar/frame.Lay -/
namespace frame_Lay
abbrev TA : Type := (((Int × (Int × ((List Int) × Unit))) × Unit) × Unit)
abbrev XA : Type := (Int × (List Int))
def t (f_0 f_1 : Int) (f_2 : (List Int)) : Tw XA :=
 (.opt (frame_Size.c (((List.length f_2) : Nat) : Int)) fun z1 =>
 (.bb (z1 == (0 : Int))
 (.ret ((2 : Int), ([] : List (Int))))
 (.bb (decide (f_0 < (1 : Int)))
 (.ret ((2 : Int), ([] : List (Int))))
 (.bb (decide (f_0 > (2 : Int)))
 (.ret ((2 : Int), ([] : List (Int))))
 (.bb (decide (f_1 < (1 : Int)))
 (.ret ((2 : Int), ([] : List (Int))))
 (.bb (decide (f_1 > (1073741823 : Int)))
 (.ret ((2 : Int), ([] : List (Int))))
 (.dd ((((0 : Int) ≤ (w64 ((2 : Int) + (((List.length f_2) : Nat) : Int)))) ∧ (((w64 ((2 : Int) + (((List.length f_2) : Nat) : Int))) ≤ (w64 ((2 : Int) + (((List.length f_2) : Nat) : Int)))) ∧ (((w64 ((2 : Int) + (((List.length f_2) : Nat) : Int))) ≤ (140737488355328 : Int)) ∧ (((w64 ((2 : Int) + (((List.length f_2) : Nat) : Int))) * (((4 : Nat) : Nat) : Int)) ≤ (140737488355328 : Int)))))) inferInstance
 (.opt (zeros_Twin.c (((List.length f_2) : Nat) : Int)) fun z2 =>
 (.dd ((((0 : Int) ≤ (0 : Int)) ∧ ((0 : Int) < (((List.length (List.replicate (Int.toNat (w64 ((2 : Int) + (((List.length f_2) : Nat) : Int)))) (0 : Int))) : Nat) : Int)))) inferInstance
 (.opt ((List.replicate (Int.toNat (w64 ((2 : Int) + (((List.length f_2) : Nat) : Int)))) (0 : Int)))[(Int.toNat (0 : Int))]? fun z3 =>
 (.dd ((((0 : Int) ≤ (1 : Int)) ∧ ((1 : Int) < (((List.length (List.set (List.replicate (Int.toNat (w64 ((2 : Int) + (((List.length f_2) : Nat) : Int)))) (0 : Int)) (Int.toNat (0 : Int)) z2.1)) : Nat) : Int)))) inferInstance
 (.opt ((List.set (List.replicate (Int.toNat (w64 ((2 : Int) + (((List.length f_2) : Nat) : Int)))) (0 : Int)) (Int.toNat (0 : Int)) z2.1))[(Int.toNat (1 : Int))]? fun z4 =>
 (.dd ((((0 : Int) ≤ (2 : Int)) ∧ ((2 : Int) ≤ (((List.length (List.set (List.set (List.replicate (Int.toNat (w64 ((2 : Int) + (((List.length f_2) : Nat) : Int)))) (0 : Int)) (Int.toNat (0 : Int)) z2.1) (Int.toNat (1 : Int)) (w32 (bOr .i64 (bShl .i64 f_0 (30 : Int)) f_1)))) : Nat) : Int)))) inferInstance
 (.dd ((((3 : Nat) = (3 : Nat)) ∧ (((1 : Nat) = (1 : Nat)) ∧ (((Int.toNat (2 : Int)) + ((List.length (List.set (List.set (List.replicate (Int.toNat (w64 ((2 : Int) + (((List.length f_2) : Nat) : Int)))) (0 : Int)) (Int.toNat (0 : Int)) z2.1) (Int.toNat (1 : Int)) (w32 (bOr .i64 (bShl .i64 f_0 (30 : Int)) f_1)))) - (Int.toNat (2 : Int)))) ≤ (List.length (List.set (List.set (List.replicate (Int.toNat (w64 ((2 : Int) + (((List.length f_2) : Nat) : Int)))) (0 : Int)) (Int.toNat (0 : Int)) z2.1) (Int.toNat (1 : Int)) (w32 (bOr .i64 (bShl .i64 f_0 (30 : Int)) f_1)))))))) inferInstance
 (.opt (zeros_Seal.c ((List.take (Int.toNat (2 : Int)) (List.set (List.set (List.replicate (Int.toNat (w64 ((2 : Int) + (((List.length f_2) : Nat) : Int)))) (0 : Int)) (Int.toNat (0 : Int)) z2.1) (Int.toNat (1 : Int)) (w32 (bOr .i64 (bShl .i64 f_0 (30 : Int)) f_1)))) ++ ((List.take ((List.length (List.set (List.set (List.replicate (Int.toNat (w64 ((2 : Int) + (((List.length f_2) : Nat) : Int)))) (0 : Int)) (Int.toNat (0 : Int)) z2.1) (Int.toNat (1 : Int)) (w32 (bOr .i64 (bShl .i64 f_0 (30 : Int)) f_1)))) - (Int.toNat (2 : Int))) f_2) ++ (List.drop ((Int.toNat (2 : Int)) + (min (List.length f_2) ((List.length (List.set (List.set (List.replicate (Int.toNat (w64 ((2 : Int) + (((List.length f_2) : Nat) : Int)))) (0 : Int)) (Int.toNat (0 : Int)) z2.1) (Int.toNat (1 : Int)) (w32 (bOr .i64 (bShl .i64 f_0 (30 : Int)) f_1)))) - (Int.toNat (2 : Int))))) (List.set (List.set (List.replicate (Int.toNat (w64 ((2 : Int) + (((List.length f_2) : Nat) : Int)))) (0 : Int)) (Int.toNat (0 : Int)) z2.1) (Int.toNat (1 : Int)) (w32 (bOr .i64 (bShl .i64 f_0 (30 : Int)) f_1))))))) fun z5 =>
 (.ret ((0 : Int), z5)))
 .no)
 .no))
 .no))
 .no))
 .no)))))))
def c (f_0 f_1 : Int) (f_2 : (List Int)) : Option XA := (t f_0 f_1 f_2).run
def tl (l : TA) : Tw XA := t l.1.1.1 l.1.1.2.1 l.1.1.2.2.1
def pA : Pt := (.cs (.agg (jC (jC (.cs (.sl 3) .nl)))) .nl)
def pH : Pt := .nl
def v (l : TA) (y : XA) : AV U := .tup [.own 0, jI y.1]
def hh (l : TA) (y : XA) : Hp U := [.row 3 y.2 true]
def A : AFun U := mkA pA pH (X := XA) (fun l => (tl l).run) sp1 v hh
def body := bodyOf Try.f59
def E : Env U := E0.mk5 [(58, frame_Size.A), (82, zeros_Twin.A), (83, zeros_Seal.A)] [] [] [] []
theorem hk : HK E Try.f59 [(0, [], .own 3)] pA pH tl v hh := fun _ _ _ => by kernel_rfl
theorem og : SoundF Try.prog cc 59 A ∧ FnOK Try.prog 59 :=
 og_of (E := E) P_mixed (E0_ok.mk5 _ _ _ _ _) (gam_of (all_cons frame_Size.og (all_cons zeros_Twin.og (all_cons zeros_Seal.og all_nil))) no_ro) Try.func59 (c := body) (by kernel_rfl)
    (just_by (by kernel_rfl) (by kernel_rfl) all_nil all_nil) [(0, [], .own 3)] sp1_ok hk (by kernel_rfl)
end frame_Lay

/-! instar/frame.Read -/
namespace frame_Read
abbrev TA : Type := (((List Int) × Unit) × Unit)
abbrev XA : Type := (Int × (Int × (Int × (Bool × (List Int)))))
def t (w : (List Int)) : Tw XA :=
 (.bb ((((List.length w) : Nat) : Int) == (0 : Int))
 (.ret ((0 : Int), ((0 : Int), ((0 : Int), (false, ([] : List (Int)))))))
 (.opt (w)[(Int.toNat (0 : Int))]? fun z1 =>
 (.opt (zeros_Told.c z1) fun z2 =>
 (.opt (frame_Size.c z2.1) fun z3 =>
 (.bb (!z2.2)
 (.ret ((0 : Int), ((0 : Int), ((0 : Int), (false, ([] : List (Int)))))))
 (.bb (z3 == (0 : Int))
 (.ret ((0 : Int), ((0 : Int), ((0 : Int), (false, ([] : List (Int)))))))
 (.bb (decide ((((List.length w) : Nat) : Int) < z3))
 (.ret ((0 : Int), ((0 : Int), ((0 : Int), (false, ([] : List (Int)))))))
 (.dd ((((0 : Int) ≤ z3) ∧ (z3 ≤ (((List.length w) : Nat) : Int)))) inferInstance
 (.opt (zeros_Right.c (List.take (Int.toNat z3) w)) fun z4 =>
 (.bb (!z4)
 (.ret ((0 : Int), ((0 : Int), ((0 : Int), (false, ([] : List (Int)))))))
 (.opt (w)[(Int.toNat (1 : Int))]? fun z5 =>
 (.opt (w)[(Int.toNat (1 : Int))]? fun z6 =>
 (.dd ((((0 : Int) ≤ (2 : Int)) ∧ (((2 : Int) ≤ (w64 (z3 - (1 : Int)))) ∧ ((w64 (z3 - (1 : Int))) ≤ (((List.length w) : Nat) : Int))))) inferInstance
 (.opt (slices_Clone__uint32uint32.c (List.drop (Int.toNat (2 : Int)) (List.take (Int.toNat (w64 (z3 - (1 : Int)))) w))) fun z7 =>
 (.bb (decide ((w64 (bShr .u32 z5 (30 : Int))) < (1 : Int)))
 (.ret ((0 : Int), ((0 : Int), ((0 : Int), (false, ([] : List (Int)))))))
 (.bb (decide ((w64 (bShr .u32 z5 (30 : Int))) > (2 : Int)))
 (.ret ((0 : Int), ((0 : Int), ((0 : Int), (false, ([] : List (Int)))))))
 (.bb (decide ((w64 (bAnd .u32 z6 (1073741823 : Int))) < (1 : Int)))
 (.ret ((0 : Int), ((0 : Int), ((0 : Int), (false, ([] : List (Int)))))))
 (.ret ((w64 (bShr .u32 z5 (30 : Int))), ((w64 (bAnd .u32 z6 (1073741823 : Int))), (z3, (true, z7)))))))))
 .no)))))
 .no))))))))
def c (w : (List Int)) : Option XA := (t w).run
def tl (l : TA) : Tw XA := t l.1.1
def pA : Pt := (.cs (.sl 3) .nl)
def pH : Pt := .nl
def v (l : TA) (y : XA) : AV U := .tup [.agg [jI y.1, jI y.2.1, .own 0], jI y.2.2.1, jB y.2.2.2.1]
def hh (l : TA) (y : XA) : Hp U := [.row 3 (d4 y) true]
def A : AFun U := mkA pA pH (X := XA) (fun l => (tl l).run) sp1 v hh
def body := bodyOf Try.f65
def E : Env U := E0.mk5 [(88, zeros_Told.A), (58, frame_Size.A), (89, zeros_Right.A), (32, slices_Clone__uint32uint32.A)] [] [] [] []
theorem hk : HK E Try.f65 [(0, [.cell 2], .own 3)] pA pH tl v hh := fun _ _ _ => by kernel_rfl
theorem og : SoundF Try.prog cc 65 A ∧ FnOK Try.prog 65 :=
 og_of (E := E) P_mixed (E0_ok.mk5 _ _ _ _ _) (gam_of (all_cons zeros_Told.og (all_cons frame_Size.og (all_cons zeros_Right.og (all_cons ⟨slices_Clone__uint32uint32.ok, slices_Clone__uint32uint32.fo⟩ all_nil)))) no_ro) Try.func65 (c := body) (by kernel_rfl)
    (just_by (by kernel_rfl) (by kernel_rfl) all_nil all_nil) [(0, [.cell 2], .own 3)] sp1_ok hk (by kernel_rfl)
end frame_Read

end
end Go.Proofs.Ytkoidgjgdhpdnaa.Va
