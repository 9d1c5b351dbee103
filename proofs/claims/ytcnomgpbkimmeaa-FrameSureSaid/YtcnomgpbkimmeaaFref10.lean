/- The functions of package ref10, as plain functions, and that the program computes them. Printed by a program of this work out of the evaluator. -/
import Derived.Test.YtcnomgpbkimmeaaEn
import Derived.Tactics
import Derived.Test.YtcnomgpbkimmeaaFref01
import Derived.Test.YtcnomgpbkimmeaaFref02
namespace Go.Proofs.Ytcnomgpbkimmeaa.Va
open Go
set_option linter.unusedVariables false
set_option maxRecDepth 100000

/-! instar/instarref10.Right -/
namespace ref10_Right
abbrev TA : Type := (((Int × (Int × ((List Int) × Unit))) × Unit) × Unit)
noncomputable def t (f_0 : Int) (f_1 : Int) (f_2 : (List Int)) : Tw Bool :=
 (.bb (f_0 == (1 : Int))
  (.bb (decide (f_1 ≥ (1 : Int)))
   (.bb (decide (f_1 ≤ (1073741823 : Int)))
    (.bb (decide ((((List.length f_2) : Nat) : Int) ≥ (1 : Int)))
     (.ret (decide ((((List.length f_2) : Nat) : Int) ≤ (56 : Int))))
     (.ret false))
    (.ret false))
   (.ret false))
  (.bb (f_0 == (2 : Int))
   (.bb (decide (f_1 ≥ (1 : Int)))
    (.bb (decide (f_1 ≤ (1073741823 : Int)))
     (.bb (decide ((((List.length f_2) : Nat) : Int) ≥ (1 : Int)))
      (.ret (decide ((((List.length f_2) : Nat) : Int) ≤ (56 : Int))))
      (.ret false))
     (.ret false))
    (.ret false))
   (.ret false)))
noncomputable def c (f_0 : Int) (f_1 : Int) (f_2 : (List Int)) : Option Bool := (t f_0 f_1 f_2).run
def pA : Pt := (.cs (.agg (.cs (.int .i64) (.cs (.int .i64) (.cs (.sl 3) .nl)))) .nl)
def pH : Pt := .nl
def v (l : TA) (y : Bool) : AV U := .im (.bool y)
def hh (l : TA) (y : Bool) : Hp U := []
noncomputable def A : AFun U := mkA (U := U) pA pH (X := Bool) (fun (l : TA) => c l.1.1.1 l.1.1.2.1 l.1.1.2.2.1) sp1 v hh
noncomputable def body : Code := (Go.Func.body Try.f46).getD .skip
noncomputable def Γ : List (FuncId × AFun U) := []
noncomputable def Λ : List (Nat × LFun U) := []
def D : Nat → Lv × Lv := dtab []
noncomputable def E : Env U := { E0 with Γ := Γ, Λ := Λ, C := [], D := D }
theorem hk (R : Type) (l : TA) (K : AV U → Hp U → Option R) : funcA E Try.f46 [] R (pA.mkL l.1) (pH.mkH l.2) K = (t l.1.1.1 l.1.1.2.1 l.1.1.2.2.1).runK fun y => K (v l y) (hh l y) := by kernel_rfl
theorem okF : SoundF Try.prog cc 46 (funcA E Try.f46 []) :=
  funcA_ok (E := E) P_mixed (E0_ok.with Γ Λ [] D) (gam_of all_nil) Try.func46 (c := body) (by kernel_rfl)
    (just_by (by kernel_rfl) (by kernel_rfl) all_nil all_nil) []
theorem ok : SoundF Try.prog cc 46 A :=
  mkA_ok (E := E) (p := pA) (q := pH) (t := fun (l : TA) => t l.1.1.1 l.1.1.2.1 l.1.1.2.2.1) sp1_ok hk okF
end ref10_Right

/-! instar/instarref10.Lay -/
namespace ref10_Lay
abbrev TA : Type := (((Int × (Int × ((List Int) × Unit))) × Unit) × Unit)
noncomputable def t (f_0 : Int) (f_1 : Int) (f_2 : (List Int)) : Tw (List Int) :=
 (.opt (ref02_Twin.c (((List.length f_2) : Nat) : Int)) fun z1 =>
  (.dd ((((((List.length (z1 :: ((w32 ((w32 ((w32 f_0) * (1073741824 : Int))) + (w32 f_1))) :: ([] : List Int)))) + (List.length f_2)) * (4 : Nat)) ≤ (140737488355328 : Nat)) ∧ (((List.length (z1 :: ((w32 ((w32 ((w32 f_0) * (1073741824 : Int))) + (w32 f_1))) :: ([] : List Int)))) + (List.length f_2)) ≤ (140737488355328 : Nat)))) inferInstance
   (.opt (ref02_Seal.c ((z1 :: ((w32 ((w32 ((w32 f_0) * (1073741824 : Int))) + (w32 f_1))) :: ([] : List Int))) ++ f_2)) fun z2 =>
    (.ret z2))
   .no))
noncomputable def c (f_0 : Int) (f_1 : Int) (f_2 : (List Int)) : Option (List Int) := (t f_0 f_1 f_2).run
def pA : Pt := (.cs (.agg (.cs (.int .i64) (.cs (.int .i64) (.cs (.sl 3) .nl)))) .nl)
def pH : Pt := .nl
def v (l : TA) (y : (List Int)) : AV U := .own 0
def hh (l : TA) (y : (List Int)) : Hp U := [.row 3 y true]
noncomputable def A : AFun U := mkA (U := U) pA pH (X := (List Int)) (fun (l : TA) => c l.1.1.1 l.1.1.2.1 l.1.1.2.2.1) sp1 v hh
noncomputable def body : Code := (Go.Func.body Try.f47).getD .skip
noncomputable def Γ : List (FuncId × AFun U) := [(113, ref02_Twin.A), (102, ref02_Seal.A)]
noncomputable def Λ : List (Nat × LFun U) := []
def D : Nat → Lv × Lv := dtab []
noncomputable def E : Env U := { E0 with Γ := Γ, Λ := Λ, C := [], D := D }
theorem hk (R : Type) (l : TA) (K : AV U → Hp U → Option R) : funcA E Try.f47 [] R (pA.mkL l.1) (pH.mkH l.2) K = (t l.1.1.1 l.1.1.2.1 l.1.1.2.2.1).runK fun y => K (v l y) (hh l y) := by kernel_rfl
theorem okF : SoundF Try.prog cc 47 (funcA E Try.f47 []) :=
  funcA_ok (E := E) P_mixed (E0_ok.with Γ Λ [] D) (gam_of (all_cons ⟨ref02_Twin.ok, ⟨Try.f113, Try.func113, by kernel_rfl, by kernel_rfl⟩⟩ (all_cons ⟨ref02_Seal.ok, ⟨Try.f102, Try.func102, by kernel_rfl, by kernel_rfl⟩⟩ all_nil))) Try.func47 (c := body) (by kernel_rfl)
    (just_by (by kernel_rfl) (by kernel_rfl) all_nil all_nil) []
theorem ok : SoundF Try.prog cc 47 A :=
  mkA_ok (E := E) (p := pA) (q := pH) (t := fun (l : TA) => t l.1.1.1 l.1.1.2.1 l.1.1.2.2.1) sp1_ok hk okF
end ref10_Lay

/-! instar/instarref10.Read -/
namespace ref10_Read
abbrev TA : Type := (((List Int) × Unit) × Unit)
noncomputable def t (w : (List Int)) : Tw (Int × (Int × (Int × (Bool × (List Int))))) :=
 (.bb (decide ((((List.length w) : Nat) : Int) < (4 : Int)))
  (.ret ((0 : Int), ((0 : Int), ((0 : Int), (false, ([] : List Int))))))
  (.opt (w)[(Int.toNat (0 : Int))]? fun z1 =>
   (.opt (ref02_Told.c z1) fun z2 =>
    (.bb (decide (z2.1 < (1 : Int)))
     (.ret ((0 : Int), ((0 : Int), ((0 : Int), (false, ([] : List Int))))))
     (.bb (decide (z2.1 > (56 : Int)))
      (.ret ((0 : Int), ((0 : Int), ((0 : Int), (false, ([] : List Int))))))
      (.bb (decide ((((List.length w) : Nat) : Int) < (w64 (z2.1 + (3 : Int)))))
       (.ret ((0 : Int), ((0 : Int), ((0 : Int), (false, ([] : List Int))))))
       (.opt (w)[(Int.toNat (1 : Int))]? fun z3 =>
        (.opt (w)[(Int.toNat (1 : Int))]? fun z4 =>
         (.dd ((((0 : Int) ≤ (2 : Int)) ∧ (((2 : Int) ≤ (w64 ((2 : Int) + z2.1))) ∧ ((w64 ((2 : Int) + z2.1)) ≤ (((List.length w) : Nat) : Int))))) inferInstance
          (.dd (((((List.length (List.drop (Int.toNat (2 : Int)) (List.take (Int.toNat (w64 ((2 : Int) + z2.1))) w))) * (4 : Nat)) ≤ (140737488355328 : Nat)) ∧ ((List.length (List.drop (Int.toNat (2 : Int)) (List.take (Int.toNat (w64 ((2 : Int) + z2.1))) w))) ≤ (140737488355328 : Nat)))) inferInstance
           (.opt (ref10_Right.c (w64 (w32 (Int.tdiv z3 (1073741824 : Int)))) (w64 (Int.tmod z4 (1073741824 : Int))) (List.drop (Int.toNat (2 : Int)) (List.take (Int.toNat (w64 ((2 : Int) + z2.1))) w))) fun z5 =>
            (.bb (!z5)
             (.ret ((0 : Int), ((0 : Int), ((0 : Int), (false, ([] : List Int))))))
             (.opt (ref10_Lay.c (w64 (w32 (Int.tdiv z3 (1073741824 : Int)))) (w64 (Int.tmod z4 (1073741824 : Int))) (List.drop (Int.toNat (2 : Int)) (List.take (Int.toNat (w64 ((2 : Int) + z2.1))) w))) fun z6 =>
              (.dd ((((0 : Int) ≤ (w64 (z2.1 + (3 : Int)))) ∧ ((w64 (z2.1 + (3 : Int))) ≤ (((List.length w) : Nat) : Int)))) inferInstance
               (.opt (ref01_Same.c z6 (List.take (Int.toNat (w64 (z2.1 + (3 : Int)))) w)) fun z7 =>
                (.bb (!z7)
                 (.ret ((0 : Int), ((0 : Int), ((0 : Int), (false, ([] : List Int))))))
                 (.ret ((w64 (w32 (Int.tdiv z3 (1073741824 : Int)))), ((w64 (Int.tmod z4 (1073741824 : Int))), ((w64 (z2.1 + (3 : Int))), (true, (List.drop (Int.toNat (2 : Int)) (List.take (Int.toNat (w64 ((2 : Int) + z2.1))) w)))))))))
               .no))))
           .no)
          .no)))))))))
noncomputable def c (w : (List Int)) : Option (Int × (Int × (Int × (Bool × (List Int))))) := (t w).run
def pA : Pt := (.cs (.sl 3) .nl)
def pH : Pt := .nl
def v (l : TA) (y : (Int × (Int × (Int × (Bool × (List Int)))))) : AV U := .tup [.agg [.im (.int .i64 y.1), .im (.int .i64 y.2.1), .own 0], .im (.int .i64 y.2.2.1), .im (.bool y.2.2.2.1)]
def hh (l : TA) (y : (Int × (Int × (Int × (Bool × (List Int)))))) : Hp U := [.row 3 y.2.2.2.2 true]
noncomputable def A : AFun U := mkA (U := U) pA pH (X := (Int × (Int × (Int × (Bool × (List Int)))))) (fun (l : TA) => c l.1.1) sp1 v hh
noncomputable def body : Code := (Go.Func.body Try.f50).getD .skip
noncomputable def Γ : List (FuncId × AFun U) := [(116, ref02_Told.A), (46, ref10_Right.A), (47, ref10_Lay.A), (27, ref01_Same.A)]
noncomputable def Λ : List (Nat × LFun U) := []
def D : Nat → Lv × Lv := dtab []
noncomputable def E : Env U := { E0 with Γ := Γ, Λ := Λ, C := [], D := D }
theorem hk (R : Type) (l : TA) (K : AV U → Hp U → Option R) : funcA E Try.f50 [(0, [.cell 2], .own 3)] R (pA.mkL l.1) (pH.mkH l.2) K = (t l.1.1).runK fun y => K (v l y) (hh l y) := by kernel_rfl
theorem okF : SoundF Try.prog cc 50 (funcA E Try.f50 [(0, [.cell 2], .own 3)]) :=
  funcA_ok (E := E) P_mixed (E0_ok.with Γ Λ [] D) (gam_of (all_cons ⟨ref02_Told.ok, ⟨Try.f116, Try.func116, by kernel_rfl, by kernel_rfl⟩⟩ (all_cons ⟨ref10_Right.ok, ⟨Try.f46, Try.func46, by kernel_rfl, by kernel_rfl⟩⟩ (all_cons ⟨ref10_Lay.ok, ⟨Try.f47, Try.func47, by kernel_rfl, by kernel_rfl⟩⟩ (all_cons ⟨ref01_Same.ok, ⟨Try.f27, Try.func27, by kernel_rfl, by kernel_rfl⟩⟩ all_nil))))) Try.func50 (c := body) (by kernel_rfl)
    (just_by (by kernel_rfl) (by kernel_rfl) all_nil all_nil) [(0, [.cell 2], .own 3)]
theorem ok : SoundF Try.prog cc 50 A :=
  mkA_ok (E := E) (p := pA) (q := pH) (t := fun (l : TA) => t l.1.1) sp1_ok hk okF
end ref10_Read

/-! instar/instarref10.Same -/
namespace ref10_Same
abbrev TA : Type := (((Int × (Int × ((List Int) × Unit))) × ((Int × (Int × ((List Int) × Unit))) × Unit)) × Unit)
noncomputable def t (a_0 : Int) (a_1 : Int) (a_2 : (List Int)) (b_0 : Int) (b_1 : Int) (b_2 : (List Int)) : Tw Bool :=
 (.bb (a_0 == b_0)
  (.bb (a_1 == b_1)
   (.opt (ref01_Same.c a_2 b_2) fun z1 =>
    (.ret z1))
   (.ret false))
  (.ret false))
noncomputable def c (a_0 : Int) (a_1 : Int) (a_2 : (List Int)) (b_0 : Int) (b_1 : Int) (b_2 : (List Int)) : Option Bool := (t a_0 a_1 a_2 b_0 b_1 b_2).run
def pA : Pt := (.cs (.agg (.cs (.int .i64) (.cs (.int .i64) (.cs (.sl 3) .nl)))) (.cs (.agg (.cs (.int .i64) (.cs (.int .i64) (.cs (.sl 3) .nl)))) .nl))
def pH : Pt := .nl
def v (l : TA) (y : Bool) : AV U := .im (.bool y)
def hh (l : TA) (y : Bool) : Hp U := []
noncomputable def A : AFun U := mkA (U := U) pA pH (X := Bool) (fun (l : TA) => c l.1.1.1 l.1.1.2.1 l.1.1.2.2.1 l.1.2.1.1 l.1.2.1.2.1 l.1.2.1.2.2.1) sp1 v hh
noncomputable def body : Code := (Go.Func.body Try.f51).getD .skip
noncomputable def Γ : List (FuncId × AFun U) := [(27, ref01_Same.A)]
noncomputable def Λ : List (Nat × LFun U) := []
def D : Nat → Lv × Lv := dtab []
noncomputable def E : Env U := { E0 with Γ := Γ, Λ := Λ, C := [], D := D }
theorem hk (R : Type) (l : TA) (K : AV U → Hp U → Option R) : funcA E Try.f51 [] R (pA.mkL l.1) (pH.mkH l.2) K = (t l.1.1.1 l.1.1.2.1 l.1.1.2.2.1 l.1.2.1.1 l.1.2.1.2.1 l.1.2.1.2.2.1).runK fun y => K (v l y) (hh l y) := by kernel_rfl
theorem okF : SoundF Try.prog cc 51 (funcA E Try.f51 []) :=
  funcA_ok (E := E) P_mixed (E0_ok.with Γ Λ [] D) (gam_of (all_cons ⟨ref01_Same.ok, ⟨Try.f27, Try.func27, by kernel_rfl, by kernel_rfl⟩⟩ all_nil)) Try.func51 (c := body) (by kernel_rfl)
    (just_by (by kernel_rfl) (by kernel_rfl) all_nil all_nil) []
theorem ok : SoundF Try.prog cc 51 A :=
  mkA_ok (E := E) (p := pA) (q := pH) (t := fun (l : TA) => t l.1.1.1 l.1.1.2.1 l.1.1.2.2.1 l.1.2.1.1 l.1.2.1.2.1 l.1.2.1.2.2.1) sp1_ok hk okF
end ref10_Same

end Go.Proofs.Ytcnomgpbkimmeaa.Va
