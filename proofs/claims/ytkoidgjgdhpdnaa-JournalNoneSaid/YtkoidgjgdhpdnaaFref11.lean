/- The functions of package ref11, as plain functions, and that the program computes them. Printed by a program of this work out of the evaluator. -/
import Derived.Test.YtkoidgjgdhpdnaaEn
import Derived.Tactics
import Derived.Test.YtkoidgjgdhpdnaaFref09
import Derived.Test.YtkoidgjgdhpdnaaFref10
namespace Go.Proofs.Ytkoidgjgdhpdnaa.Va
open Go
set_option linter.unusedVariables false
set_option maxRecDepth 100000

/-! instar/instarref11.load -/
namespace ref11_load
abbrev TA : Type := (((List Int) × Unit) × Unit)
noncomputable def t (l_ : (List Int)) : Tw Bool :=
 (.bb (decide ((((List.length l_) : Nat) : Int) ≥ (1 : Int)))
  (.ret (decide ((((List.length l_) : Nat) : Int) ≤ (56 : Int))))
  (.ret false))
noncomputable def c (l_ : (List Int)) : Option Bool := (t l_).run
def pA : Pt := (.cs (.sl 3) .nl)
def pH : Pt := .nl
def v (l : TA) (y : Bool) : AV U := .im (.bool y)
def hh (l : TA) (y : Bool) : Hp U := []
noncomputable def A : AFun U := mkA (U := U) pA pH (X := Bool) (fun (l : TA) => c l.1.1) sp1 v hh
noncomputable def body : Code := (Go.Func.body Try.f47).getD .skip
noncomputable def Γ : List (FuncId × AFun U) := []
noncomputable def Λ : List (Nat × LFun U) := []
noncomputable def CT : List (Nat × LFun U) := []
def ro : List FuncId := []
def D : Nat → Lv × Lv := dtab []
noncomputable def E : Env U := { E0 with Γ := Γ, Λ := Λ, C := CT, D := D, ro := ro }
theorem hk (R : Type) (l : TA) (K : AV U → Hp U → Option R) : funcA E Try.f47 [] R (pA.mkL l.1) (pH.mkH l.2) K = (t l.1.1).runK fun y => K (v l y) (hh l y) := by kernel_rfl
theorem okF : SoundF Try.prog cc 47 (funcA E Try.f47 []) :=
  funcA_ok (E := E) P_mixed (E0_ok.with Γ Λ CT D ro) (gam_of all_nil all_nil) Try.func47 (c := body) (by kernel_rfl)
    (just_by (by kernel_rfl) (by kernel_rfl) all_nil all_nil) []
theorem ok : SoundF Try.prog cc 47 A :=
  mkA_ok (E := E) (p := pA) (q := pH) (t := fun (l : TA) => t l.1.1) sp1_ok hk okF
theorem keep : KeepA A := mkA_keep (U := U) sp1_ok (fun (l : TA) y => ⟨(hh l y).drop 0, by kernel_rfl⟩)
end ref11_load

/-! (*instar/instarref11.Journal).add -/
namespace ref11_Journal_add
abbrev TA : Type := ((Unit × ((Int × (Int × ((List Int) × Unit))) × (Int × Unit))) × ((Unit × (Int × (Int × (Bool × (Int × (Unit × (Unit × Unit))))))) × ((Unit × (Int × (Int × (Int × (Int × (Int × (Int × Unit))))))) × ((Unit × (Int × (Unit × (Int × (Bool × (Int × (Unit × Unit))))))) × ((List Int) × ((List Int) × Unit))))))
noncomputable def t (f_0 f_1 : Int) (f_2 : (List Int)) (n h0_1 h0_2 : Int) (h0_3 : Bool) (h0_4 h1_1 h1_2 h1_3 h1_4 h1_5 h1_6 h2_1 h2_3 : Int) (h2_4 : Bool) (h2_5 : Int) (h3 : (List Int)) (h4 : (List Int)) : Tw ((Int × (List (List Int))) ⊕ Int) :=
 (.bb (f_0 == (1 : Int))
  (.ret (.inr (w64 (h0_2 + n))))
  (.ret (.inl ((w64 (h0_2 + n)), (f_2 :: ([] : List (List Int)))))))
noncomputable def c (f_0 f_1 : Int) (f_2 : (List Int)) (n h0_1 h0_2 : Int) (h0_3 : Bool) (h0_4 h1_1 h1_2 h1_3 h1_4 h1_5 h1_6 h2_1 h2_3 : Int) (h2_4 : Bool) (h2_5 : Int) (h3 : (List Int)) (h4 : (List Int)) : Option ((Int × (List (List Int))) ⊕ Int) := (t f_0 f_1 f_2 n h0_1 h0_2 h0_3 h0_4 h1_1 h1_2 h1_3 h1_4 h1_5 h1_6 h2_1 h2_3 h2_4 h2_5 h3 h4).run
def pA : Pt := (.cs (.ptr 0 0) (.cs (.agg (.cs (.int .i64) (.cs (.int .i64) (.cs (.sl 3) .nl)))) (.cs (.int .i64) .nl)))
def pH : Pt := (.cs (.var (.cs (.ptr 1 0) (.cs (.int .i64) (.cs (.int .i64) (.cs .bool (.cs (.int .i64) (.cs .nils (.cs .nils .nl)))))))) (.cs (.var (.cs (.ptr 2 0) (.cs (.int .i64) (.cs (.int .i64) (.cs (.int .i64) (.cs (.int .i64) (.cs (.int .i64) (.cs (.int .i64) .nl)))))))) (.cs (.var (.cs (.own 3) (.cs (.int .i64) (.cs (.own 4) (.cs (.int .i64) (.cs .bool (.cs (.int .i64) (.cs .nils .nl)))))))) (.cs (.row 3 true) (.cs (.row 1 true) .nl)))))
def v (l : TA) (y : ((Int × (List (List Int))) ⊕ Int)) : AV U := (Sum.elim (fun a0 => .tup []) (fun b0 => .tup []) y)
def hh (l : TA) (y : ((Int × (List (List Int))) ⊕ Int)) : Hp U := (Sum.elim (fun a0 => [.var [.ptr 1 0, .im (.int .i64 l.2.1.2.1), .im (.int .i64 a0.1), .im (.bool l.2.1.2.2.2.1), .im (.int .i64 l.1.2.1.2.1), .im .nils, .own 5], .var [.ptr 2 0, .im (.int .i64 l.2.2.1.2.1), .im (.int .i64 l.2.2.1.2.2.1), .im (.int .i64 l.2.2.1.2.2.2.1), .im (.int .i64 l.2.2.1.2.2.2.2.1), .im (.int .i64 l.2.2.1.2.2.2.2.2.1), .im (.int .i64 l.2.2.1.2.2.2.2.2.2.1)], .var [.own 3, .im (.int .i64 l.2.2.2.1.2.1), .own 4, .im (.int .i64 l.2.2.2.1.2.2.2.1), .im (.bool l.2.2.2.1.2.2.2.2.1), .im (.int .i64 l.2.2.2.1.2.2.2.2.2.1), .im .nils], .row 3 l.2.2.2.2.1 true, .row 1 l.2.2.2.2.2.1 true, .row 12 a0.2 true]) (fun b0 => [.var [.ptr 1 0, .im (.int .i64 l.2.1.2.1), .im (.int .i64 b0), .im (.bool l.2.1.2.2.2.1), .im (.int .i64 l.1.2.1.2.1), .im (.slice 3 l.1.2.1.2.2.1), .im .nils], .var [.ptr 2 0, .im (.int .i64 l.2.2.1.2.1), .im (.int .i64 l.2.2.1.2.2.1), .im (.int .i64 l.2.2.1.2.2.2.1), .im (.int .i64 l.2.2.1.2.2.2.2.1), .im (.int .i64 l.2.2.1.2.2.2.2.2.1), .im (.int .i64 l.2.2.1.2.2.2.2.2.2.1)], .var [.own 3, .im (.int .i64 l.2.2.2.1.2.1), .own 4, .im (.int .i64 l.2.2.2.1.2.2.2.1), .im (.bool l.2.2.2.1.2.2.2.2.1), .im (.int .i64 l.2.2.2.1.2.2.2.2.2.1), .im .nils], .row 3 l.2.2.2.2.1 true, .row 1 l.2.2.2.2.2.1 true]) y)
noncomputable def A : AFun U := mkA (U := U) pA pH (X := ((Int × (List (List Int))) ⊕ Int)) (fun (l : TA) => c l.1.2.1.1 l.1.2.1.2.1 l.1.2.1.2.2.1 l.1.2.2.1 l.2.1.2.1 l.2.1.2.2.1 l.2.1.2.2.2.1 l.2.1.2.2.2.2.1 l.2.2.1.2.1 l.2.2.1.2.2.1 l.2.2.1.2.2.2.1 l.2.2.1.2.2.2.2.1 l.2.2.1.2.2.2.2.2.1 l.2.2.1.2.2.2.2.2.2.1 l.2.2.2.1.2.1 l.2.2.2.1.2.2.2.1 l.2.2.2.1.2.2.2.2.1 l.2.2.2.1.2.2.2.2.2.1 l.2.2.2.2.1 l.2.2.2.2.2.1) (spS sp1) v hh
noncomputable def body : Code := (Go.Func.body Try.f52).getD .skip
noncomputable def Γ : List (FuncId × AFun U) := []
noncomputable def Λ : List (Nat × LFun U) := []
noncomputable def CT : List (Nat × LFun U) := []
def ro : List FuncId := []
def D : Nat → Lv × Lv := dtab []
noncomputable def E : Env U := { E0 with Γ := Γ, Λ := Λ, C := CT, D := D, ro := ro }
theorem hk (R : Type) (l : TA) (K : AV U → Hp U → Option R) : funcA E Try.f52 [] R (pA.mkL l.1) (pH.mkH l.2) K = (t l.1.2.1.1 l.1.2.1.2.1 l.1.2.1.2.2.1 l.1.2.2.1 l.2.1.2.1 l.2.1.2.2.1 l.2.1.2.2.2.1 l.2.1.2.2.2.2.1 l.2.2.1.2.1 l.2.2.1.2.2.1 l.2.2.1.2.2.2.1 l.2.2.1.2.2.2.2.1 l.2.2.1.2.2.2.2.2.1 l.2.2.1.2.2.2.2.2.2.1 l.2.2.2.1.2.1 l.2.2.2.1.2.2.2.1 l.2.2.2.1.2.2.2.2.1 l.2.2.2.1.2.2.2.2.2.1 l.2.2.2.2.1 l.2.2.2.2.2.1).runK fun y => K (v l y) (hh l y) := by kernel_rfl
theorem okF : SoundF Try.prog cc 52 (funcA E Try.f52 []) :=
  funcA_ok (E := E) P_mixed (E0_ok.with Γ Λ CT D ro) (gam_of all_nil all_nil) Try.func52 (c := body) (by kernel_rfl)
    (just_by (by kernel_rfl) (by kernel_rfl) all_nil all_nil) []
theorem ok : SoundF Try.prog cc 52 A :=
  mkA_ok (E := E) (p := pA) (q := pH) (t := fun (l : TA) => t l.1.2.1.1 l.1.2.1.2.1 l.1.2.1.2.2.1 l.1.2.2.1 l.2.1.2.1 l.2.1.2.2.1 l.2.1.2.2.2.1 l.2.1.2.2.2.2.1 l.2.2.1.2.1 l.2.2.1.2.2.1 l.2.2.1.2.2.2.1 l.2.2.1.2.2.2.2.1 l.2.2.1.2.2.2.2.2.1 l.2.2.1.2.2.2.2.2.2.1 l.2.2.2.1.2.1 l.2.2.2.1.2.2.2.1 l.2.2.2.1.2.2.2.2.1 l.2.2.2.1.2.2.2.2.2.1 l.2.2.2.2.1 l.2.2.2.2.2.1) (spS_ok sp1_ok) hk okF
end ref11_Journal_add

/-! (*instar/instarref11.Journal).turn -/
namespace ref11_Journal_turn
abbrev TA : Type := ((Unit × ((List Int) × (Int × Unit))) × ((Unit × (Int × (Int × (Bool × (Int × (Unit × (Unit × Unit))))))) × ((Unit × (Int × (Int × (Int × (Int × (Int × (Int × Unit))))))) × ((Unit × (Int × (Unit × (Int × (Bool × (Int × (Unit × Unit))))))) × ((List Int) × ((List Int) × Unit))))))
noncomputable def t (whole : (List Int)) (seq h0_1 h0_2 : Int) (h0_3 : Bool) (h0_4 h1_1 h1_2 h1_3 h1_4 h1_5 h1_6 h2_1 h2_3 : Int) (h2_4 : Bool) (h2_5 : Int) (h3 : (List Int)) (h4 : (List Int)) : Tw ((Int × (Int × (Int × (Bool × (Int × (Bool × (Int × ((List Int) × ((List Int) × (List (List Int))))))))))) ⊕ ((Int × (Int × (Int × (Bool × (Int × (Bool × (Int × ((List Int) × (List Int))))))))) ⊕ (Int × (Int × (Bool × (Int × ((List Int) × (List Int)))))))) :=
 (.dd (((((List.length whole) * (4 : Nat)) ≤ (140737488355328 : Nat)) ∧ ((List.length whole) ≤ (140737488355328 : Nat)))) inferInstance
  (.opt (ref10_Lay.c (1 : Int) seq whole) fun z1 =>
   (.opt (ref09_Drive_Fresh.c (w64 ((1 : Int) - h0_1)) z1 h1_1 h1_2 h1_3 h1_4 h1_5 h1_6 h2_1 h2_3 h2_4 h2_5 h3 h4) fun z2 =>
    (.bb (z2.1 != (0 : Int))
     (.ret (.inr (.inr (z2.1, (z2.2.1, (z2.2.2.1, (z2.2.2.2.1, (z2.2.2.2.2.1, z2.2.2.2.2.2))))))))
     (.opt (ref11_Journal_add.c (1 : Int) seq whole (((List.length z1) : Nat) : Int) (w64 ((1 : Int) - h0_1)) (0 : Int) false h0_4 h1_1 h1_2 h1_3 h1_4 h1_5 h1_6 h2_1 z2.2.1 z2.2.2.1 z2.2.2.2.1 z2.2.2.2.2.1 z2.2.2.2.2.2) fun z3 =>
      (.sm z3
       (fun z4 => (.ret (.inl ((0 : Int), ((w64 ((1 : Int) - h0_1)), (z4.1, (false, (z2.2.1, (z2.2.2.1, (z2.2.2.2.1, (z2.2.2.2.2.1, (z2.2.2.2.2.2, z4.2))))))))))))
       (fun z5 => (.ret (.inr (.inl ((0 : Int), ((w64 ((1 : Int) - h0_1)), (z5, (false, (z2.2.1, (z2.2.2.1, (z2.2.2.2.1, (z2.2.2.2.2.1, z2.2.2.2.2.2)))))))))))))))))
  .no)
noncomputable def c (whole : (List Int)) (seq h0_1 h0_2 : Int) (h0_3 : Bool) (h0_4 h1_1 h1_2 h1_3 h1_4 h1_5 h1_6 h2_1 h2_3 : Int) (h2_4 : Bool) (h2_5 : Int) (h3 : (List Int)) (h4 : (List Int)) : Option ((Int × (Int × (Int × (Bool × (Int × (Bool × (Int × ((List Int) × ((List Int) × (List (List Int))))))))))) ⊕ ((Int × (Int × (Int × (Bool × (Int × (Bool × (Int × ((List Int) × (List Int))))))))) ⊕ (Int × (Int × (Bool × (Int × ((List Int) × (List Int)))))))) := (t whole seq h0_1 h0_2 h0_3 h0_4 h1_1 h1_2 h1_3 h1_4 h1_5 h1_6 h2_1 h2_3 h2_4 h2_5 h3 h4).run
def pA : Pt := (.cs (.ptr 0 0) (.cs (.sl 3) (.cs (.int .i64) .nl)))
def pH : Pt := (.cs (.var (.cs (.ptr 1 0) (.cs (.int .i64) (.cs (.int .i64) (.cs .bool (.cs (.int .i64) (.cs .nils (.cs .nils .nl)))))))) (.cs (.var (.cs (.ptr 2 0) (.cs (.int .i64) (.cs (.int .i64) (.cs (.int .i64) (.cs (.int .i64) (.cs (.int .i64) (.cs (.int .i64) .nl)))))))) (.cs (.var (.cs (.own 3) (.cs (.int .i64) (.cs (.own 4) (.cs (.int .i64) (.cs .bool (.cs (.int .i64) (.cs .nils .nl)))))))) (.cs (.row 3 true) (.cs (.row 1 true) .nl)))))
def v (l : TA) (y : ((Int × (Int × (Int × (Bool × (Int × (Bool × (Int × ((List Int) × ((List Int) × (List (List Int))))))))))) ⊕ ((Int × (Int × (Int × (Bool × (Int × (Bool × (Int × ((List Int) × (List Int))))))))) ⊕ (Int × (Int × (Bool × (Int × ((List Int) × (List Int))))))))) : AV U := (Sum.elim (fun a0 => .im (.int .i64 a0.1)) (fun b0 => (Sum.elim (fun a1 => .im (.int .i64 a1.1)) (fun b1 => .im (.int .i64 b1.1)) b0)) y)
def hh (l : TA) (y : ((Int × (Int × (Int × (Bool × (Int × (Bool × (Int × ((List Int) × ((List Int) × (List (List Int))))))))))) ⊕ ((Int × (Int × (Int × (Bool × (Int × (Bool × (Int × ((List Int) × (List Int))))))))) ⊕ (Int × (Int × (Bool × (Int × ((List Int) × (List Int))))))))) : Hp U := (Sum.elim (fun a0 => [.var [.ptr 1 0, .im (.int .i64 a0.2.1), .im (.int .i64 a0.2.2.1), .im (.bool a0.2.2.2.1), .im (.int .i64 l.1.2.2.1), .im .nils, .own 5], .var [.ptr 2 0, .im (.int .i64 l.2.2.1.2.1), .im (.int .i64 l.2.2.1.2.2.1), .im (.int .i64 l.2.2.1.2.2.2.1), .im (.int .i64 l.2.2.1.2.2.2.2.1), .im (.int .i64 l.2.2.1.2.2.2.2.2.1), .im (.int .i64 l.2.2.1.2.2.2.2.2.2.1)], .var [.own 3, .im (.int .i64 l.2.2.2.1.2.1), .own 4, .im (.int .i64 a0.2.2.2.2.1), .im (.bool a0.2.2.2.2.2.1), .im (.int .i64 a0.2.2.2.2.2.2.1), .im .nils], .row 3 a0.2.2.2.2.2.2.2.1 true, .row 1 a0.2.2.2.2.2.2.2.2.1 true, .row 12 a0.2.2.2.2.2.2.2.2.2 true]) (fun b0 => (Sum.elim (fun a1 => [.var [.ptr 1 0, .im (.int .i64 a1.2.1), .im (.int .i64 a1.2.2.1), .im (.bool a1.2.2.2.1), .im (.int .i64 l.1.2.2.1), .im (.slice 3 l.1.2.1), .im .nils], .var [.ptr 2 0, .im (.int .i64 l.2.2.1.2.1), .im (.int .i64 l.2.2.1.2.2.1), .im (.int .i64 l.2.2.1.2.2.2.1), .im (.int .i64 l.2.2.1.2.2.2.2.1), .im (.int .i64 l.2.2.1.2.2.2.2.2.1), .im (.int .i64 l.2.2.1.2.2.2.2.2.2.1)], .var [.own 3, .im (.int .i64 l.2.2.2.1.2.1), .own 4, .im (.int .i64 a1.2.2.2.2.1), .im (.bool a1.2.2.2.2.2.1), .im (.int .i64 a1.2.2.2.2.2.2.1), .im .nils], .row 3 a1.2.2.2.2.2.2.2.1 true, .row 1 a1.2.2.2.2.2.2.2.2 true]) (fun b1 => [.var [.ptr 1 0, .im (.int .i64 l.2.1.2.1), .im (.int .i64 l.2.1.2.2.1), .im (.bool l.2.1.2.2.2.1), .im (.int .i64 l.2.1.2.2.2.2.1), .im .nils, .im .nils], .var [.ptr 2 0, .im (.int .i64 l.2.2.1.2.1), .im (.int .i64 l.2.2.1.2.2.1), .im (.int .i64 l.2.2.1.2.2.2.1), .im (.int .i64 l.2.2.1.2.2.2.2.1), .im (.int .i64 l.2.2.1.2.2.2.2.2.1), .im (.int .i64 l.2.2.1.2.2.2.2.2.2.1)], .var [.own 3, .im (.int .i64 l.2.2.2.1.2.1), .own 4, .im (.int .i64 b1.2.1), .im (.bool b1.2.2.1), .im (.int .i64 b1.2.2.2.1), .im .nils], .row 3 b1.2.2.2.2.1 true, .row 1 b1.2.2.2.2.2 true]) b0)) y)
noncomputable def A : AFun U := mkA (U := U) pA pH (X := ((Int × (Int × (Int × (Bool × (Int × (Bool × (Int × ((List Int) × ((List Int) × (List (List Int))))))))))) ⊕ ((Int × (Int × (Int × (Bool × (Int × (Bool × (Int × ((List Int) × (List Int))))))))) ⊕ (Int × (Int × (Bool × (Int × ((List Int) × (List Int))))))))) (fun (l : TA) => c l.1.2.1 l.1.2.2.1 l.2.1.2.1 l.2.1.2.2.1 l.2.1.2.2.2.1 l.2.1.2.2.2.2.1 l.2.2.1.2.1 l.2.2.1.2.2.1 l.2.2.1.2.2.2.1 l.2.2.1.2.2.2.2.1 l.2.2.1.2.2.2.2.2.1 l.2.2.1.2.2.2.2.2.2.1 l.2.2.2.1.2.1 l.2.2.2.1.2.2.2.1 l.2.2.2.1.2.2.2.2.1 l.2.2.2.1.2.2.2.2.2.1 l.2.2.2.2.1 l.2.2.2.2.2.1) (spS (spS sp1)) v hh
noncomputable def body : Code := (Go.Func.body Try.f49).getD .skip
noncomputable def Γ : List (FuncId × AFun U) := [(50, ref10_Lay.A), (75, ref09_Drive_Fresh.A), (52, ref11_Journal_add.A)]
noncomputable def Λ : List (Nat × LFun U) := []
noncomputable def CT : List (Nat × LFun U) := []
def ro : List FuncId := []
def D : Nat → Lv × Lv := dtab []
noncomputable def E : Env U := { E0 with Γ := Γ, Λ := Λ, C := CT, D := D, ro := ro }
theorem hk (R : Type) (l : TA) (K : AV U → Hp U → Option R) : funcA E Try.f49 [] R (pA.mkL l.1) (pH.mkH l.2) K = (t l.1.2.1 l.1.2.2.1 l.2.1.2.1 l.2.1.2.2.1 l.2.1.2.2.2.1 l.2.1.2.2.2.2.1 l.2.2.1.2.1 l.2.2.1.2.2.1 l.2.2.1.2.2.2.1 l.2.2.1.2.2.2.2.1 l.2.2.1.2.2.2.2.2.1 l.2.2.1.2.2.2.2.2.2.1 l.2.2.2.1.2.1 l.2.2.2.1.2.2.2.1 l.2.2.2.1.2.2.2.2.1 l.2.2.2.1.2.2.2.2.2.1 l.2.2.2.2.1 l.2.2.2.2.2.1).runK fun y => K (v l y) (hh l y) := by kernel_rfl
theorem okF : SoundF Try.prog cc 49 (funcA E Try.f49 []) :=
  funcA_ok (E := E) P_mixed (E0_ok.with Γ Λ CT D ro) (gam_of (all_cons ⟨ref10_Lay.ok, ⟨Try.f50, Try.func50, by kernel_rfl, by kernel_rfl⟩⟩ (all_cons ⟨ref09_Drive_Fresh.ok, ⟨Try.f75, Try.func75, by kernel_rfl, by kernel_rfl⟩⟩ (all_cons ⟨ref11_Journal_add.ok, ⟨Try.f52, Try.func52, by kernel_rfl, by kernel_rfl⟩⟩ all_nil))) (all_cons (no_keep (by kernel_rfl)) (all_cons (no_keep (by kernel_rfl)) (all_cons (no_keep (by kernel_rfl)) all_nil)))) Try.func49 (c := body) (by kernel_rfl)
    (just_by (by kernel_rfl) (by kernel_rfl) all_nil all_nil) []
theorem ok : SoundF Try.prog cc 49 A :=
  mkA_ok (E := E) (p := pA) (q := pH) (t := fun (l : TA) => t l.1.2.1 l.1.2.2.1 l.2.1.2.1 l.2.1.2.2.1 l.2.1.2.2.2.1 l.2.1.2.2.2.2.1 l.2.2.1.2.1 l.2.2.1.2.2.1 l.2.2.1.2.2.2.1 l.2.2.1.2.2.2.2.1 l.2.2.1.2.2.2.2.2.1 l.2.2.1.2.2.2.2.2.2.1 l.2.2.2.1.2.1 l.2.2.2.1.2.2.2.1 l.2.2.2.1.2.2.2.2.1 l.2.2.2.1.2.2.2.2.2.1 l.2.2.2.2.1 l.2.2.2.2.2.1) (spS_ok (spS_ok sp1_ok)) hk okF
end ref11_Journal_turn

/-! instar/instarref11.New -/
namespace ref11_New
abbrev TA : Type := ((Unit × ((List Int) × Unit)) × ((Unit × (Int × (Int × (Int × (Int × (Int × (Int × Unit))))))) × ((Unit × (Int × (Unit × (Int × (Bool × (Int × (Unit × Unit))))))) × ((List Int) × ((List Int) × Unit)))))
noncomputable def t (whole : (List Int)) (h0_1 h0_2 h0_3 h0_4 h0_5 h0_6 h1_1 h1_3 : Int) (h1_4 : Bool) (h1_5 : Int) (h2 : (List Int)) (h3 : (List Int)) : Tw ((Int × (Int × (Bool × (Int × ((List Int) × ((List Int) × (Int × (Int × (Bool × (Int × ((List Int) × (List (List Int))))))))))))) ⊕ (Int × (Int × (Bool × (Int × ((List Int) × (List Int))))))) :=
 (.opt (ref11_load.c whole) fun z1 =>
  (.bb (!z1)
   (.ret (.inr ((2 : Int), (h1_3, (h1_4, (h1_5, (h2, h3)))))))
   (.opt (ref09_Drive_Clean.c (1 : Int) h0_1 h0_2 h0_3 h0_4 h0_5 h0_6 h1_1 h1_3 h1_4 h1_5 h2 h3) fun z2 =>
    (.bb (z2.1 != (0 : Int))
     (.ret (.inr (z2.1, (z2.2.1, (z2.2.2.1, (z2.2.2.2.1, (z2.2.2.2.2.1, z2.2.2.2.2.2)))))))
     (.opt (ref11_Journal_turn.c whole (1 : Int) (1 : Int) (0 : Int) false (0 : Int) h0_1 h0_2 h0_3 h0_4 h0_5 h0_6 h1_1 z2.2.1 z2.2.2.1 z2.2.2.2.1 z2.2.2.2.2.1 z2.2.2.2.2.2) fun z3 =>
      (.sm z3
       (fun z4 => (.bb (z4.1 != (0 : Int))
         (.ret (.inr (z4.1, (z4.2.2.2.2.1, (z4.2.2.2.2.2.1, (z4.2.2.2.2.2.2.1, (z4.2.2.2.2.2.2.2.1, z4.2.2.2.2.2.2.2.2.1)))))))
         (.ret (.inl ((0 : Int), (z4.2.2.2.2.1, (z4.2.2.2.2.2.1, (z4.2.2.2.2.2.2.1, (z4.2.2.2.2.2.2.2.1, (z4.2.2.2.2.2.2.2.2.1, (z4.2.1, (z4.2.2.1, (z4.2.2.2.1, ((1 : Int), (([] : List (Int)), z4.2.2.2.2.2.2.2.2.2)))))))))))))))
       (fun z5 => (.sm z5
         (fun z6 => (.bb (z6.1 != (0 : Int))
           (.ret (.inr (z6.1, (z6.2.2.2.2.1, (z6.2.2.2.2.2.1, (z6.2.2.2.2.2.2.1, (z6.2.2.2.2.2.2.2.1, z6.2.2.2.2.2.2.2.2)))))))
           (.ret (.inl ((0 : Int), (z6.2.2.2.2.1, (z6.2.2.2.2.2.1, (z6.2.2.2.2.2.2.1, (z6.2.2.2.2.2.2.2.1, (z6.2.2.2.2.2.2.2.2, (z6.2.1, (z6.2.2.1, (z6.2.2.2.1, ((1 : Int), (whole, ([] : List (List Int)))))))))))))))))
         (fun z7 => (.bb (z7.1 != (0 : Int))
           (.ret (.inr (z7.1, (z7.2.1, (z7.2.2.1, (z7.2.2.2.1, (z7.2.2.2.2.1, z7.2.2.2.2.2)))))))
           (.ret (.inl ((0 : Int), (z7.2.1, (z7.2.2.1, (z7.2.2.2.1, (z7.2.2.2.2.1, (z7.2.2.2.2.2, ((1 : Int), ((0 : Int), (false, ((0 : Int), (([] : List (Int)), ([] : List (List Int)))))))))))))))))))))))))
noncomputable def c (whole : (List Int)) (h0_1 h0_2 h0_3 h0_4 h0_5 h0_6 h1_1 h1_3 : Int) (h1_4 : Bool) (h1_5 : Int) (h2 : (List Int)) (h3 : (List Int)) : Option ((Int × (Int × (Bool × (Int × ((List Int) × ((List Int) × (Int × (Int × (Bool × (Int × ((List Int) × (List (List Int))))))))))))) ⊕ (Int × (Int × (Bool × (Int × ((List Int) × (List Int))))))) := (t whole h0_1 h0_2 h0_3 h0_4 h0_5 h0_6 h1_1 h1_3 h1_4 h1_5 h2 h3).run
def pA : Pt := (.cs (.ptr 0 0) (.cs (.sl 3) .nl))
def pH : Pt := (.cs (.var (.cs (.ptr 1 0) (.cs (.int .i64) (.cs (.int .i64) (.cs (.int .i64) (.cs (.int .i64) (.cs (.int .i64) (.cs (.int .i64) .nl)))))))) (.cs (.var (.cs (.own 2) (.cs (.int .i64) (.cs (.own 3) (.cs (.int .i64) (.cs .bool (.cs (.int .i64) (.cs .nils .nl)))))))) (.cs (.row 3 true) (.cs (.row 1 true) .nl))))
def v (l : TA) (y : ((Int × (Int × (Bool × (Int × ((List Int) × ((List Int) × (Int × (Int × (Bool × (Int × ((List Int) × (List (List Int))))))))))))) ⊕ (Int × (Int × (Bool × (Int × ((List Int) × (List Int)))))))) : AV U := (Sum.elim (fun a0 => .tup [.ptr 4 0, .im (.int .i64 a0.1)]) (fun b0 => .tup [.im .nilp, .im (.int .i64 b0.1)]) y)
def hh (l : TA) (y : ((Int × (Int × (Bool × (Int × ((List Int) × ((List Int) × (Int × (Int × (Bool × (Int × ((List Int) × (List (List Int))))))))))))) ⊕ (Int × (Int × (Bool × (Int × ((List Int) × (List Int)))))))) : Hp U := (Sum.elim (fun a0 => [.var [.ptr 1 0, .im (.int .i64 l.2.1.2.1), .im (.int .i64 l.2.1.2.2.1), .im (.int .i64 l.2.1.2.2.2.1), .im (.int .i64 l.2.1.2.2.2.2.1), .im (.int .i64 l.2.1.2.2.2.2.2.1), .im (.int .i64 l.2.1.2.2.2.2.2.2.1)], .var [.own 2, .im (.int .i64 l.2.2.1.2.1), .own 3, .im (.int .i64 a0.2.1), .im (.bool a0.2.2.1), .im (.int .i64 a0.2.2.2.1), .im .nils], .row 3 a0.2.2.2.2.1 true, .row 1 a0.2.2.2.2.2.1 true, .var [.ptr 0 0, .im (.int .i64 a0.2.2.2.2.2.2.1), .im (.int .i64 a0.2.2.2.2.2.2.2.1), .im (.bool a0.2.2.2.2.2.2.2.2.1), .im (.int .i64 a0.2.2.2.2.2.2.2.2.2.1), .im (.slice 3 a0.2.2.2.2.2.2.2.2.2.2.1), .own 5], .row 12 a0.2.2.2.2.2.2.2.2.2.2.2 true]) (fun b0 => [.var [.ptr 1 0, .im (.int .i64 l.2.1.2.1), .im (.int .i64 l.2.1.2.2.1), .im (.int .i64 l.2.1.2.2.2.1), .im (.int .i64 l.2.1.2.2.2.2.1), .im (.int .i64 l.2.1.2.2.2.2.2.1), .im (.int .i64 l.2.1.2.2.2.2.2.2.1)], .var [.own 2, .im (.int .i64 l.2.2.1.2.1), .own 3, .im (.int .i64 b0.2.1), .im (.bool b0.2.2.1), .im (.int .i64 b0.2.2.2.1), .im .nils], .row 3 b0.2.2.2.2.1 true, .row 1 b0.2.2.2.2.2 true]) y)
noncomputable def A : AFun U := mkA (U := U) pA pH (X := ((Int × (Int × (Bool × (Int × ((List Int) × ((List Int) × (Int × (Int × (Bool × (Int × ((List Int) × (List (List Int))))))))))))) ⊕ (Int × (Int × (Bool × (Int × ((List Int) × (List Int)))))))) (fun (l : TA) => c l.1.2.1 l.2.1.2.1 l.2.1.2.2.1 l.2.1.2.2.2.1 l.2.1.2.2.2.2.1 l.2.1.2.2.2.2.2.1 l.2.1.2.2.2.2.2.2.1 l.2.2.1.2.1 l.2.2.1.2.2.2.1 l.2.2.1.2.2.2.2.1 l.2.2.1.2.2.2.2.2.1 l.2.2.2.1 l.2.2.2.2.1) (spS sp1) v hh
noncomputable def body : Code := (Go.Func.body Try.f25).getD .skip
noncomputable def Γ : List (FuncId × AFun U) := [(47, ref11_load.A), (48, ref09_Drive_Clean.A), (49, ref11_Journal_turn.A)]
noncomputable def Λ : List (Nat × LFun U) := []
noncomputable def CT : List (Nat × LFun U) := []
def ro : List FuncId := []
def D : Nat → Lv × Lv := dtab []
noncomputable def E : Env U := { E0 with Γ := Γ, Λ := Λ, C := CT, D := D, ro := ro }
theorem hk (R : Type) (l : TA) (K : AV U → Hp U → Option R) : funcA E Try.f25 [(0, [.to 5], .im 3), (0, [.to 6], .own 12)] R (pA.mkL l.1) (pH.mkH l.2) K = (t l.1.2.1 l.2.1.2.1 l.2.1.2.2.1 l.2.1.2.2.2.1 l.2.1.2.2.2.2.1 l.2.1.2.2.2.2.2.1 l.2.1.2.2.2.2.2.2.1 l.2.2.1.2.1 l.2.2.1.2.2.2.1 l.2.2.1.2.2.2.2.1 l.2.2.1.2.2.2.2.2.1 l.2.2.2.1 l.2.2.2.2.1).runK fun y => K (v l y) (hh l y) := by kernel_rfl
theorem okF : SoundF Try.prog cc 25 (funcA E Try.f25 [(0, [.to 5], .im 3), (0, [.to 6], .own 12)]) :=
  funcA_ok (E := E) P_mixed (E0_ok.with Γ Λ CT D ro) (gam_of (all_cons ⟨ref11_load.ok, ⟨Try.f47, Try.func47, by kernel_rfl, by kernel_rfl⟩⟩ (all_cons ⟨ref09_Drive_Clean.ok, ⟨Try.f48, Try.func48, by kernel_rfl, by kernel_rfl⟩⟩ (all_cons ⟨ref11_Journal_turn.ok, ⟨Try.f49, Try.func49, by kernel_rfl, by kernel_rfl⟩⟩ all_nil))) (all_cons (no_keep (by kernel_rfl)) (all_cons (no_keep (by kernel_rfl)) (all_cons (no_keep (by kernel_rfl)) all_nil)))) Try.func25 (c := body) (by kernel_rfl)
    (just_by (by kernel_rfl) (by kernel_rfl) all_nil all_nil) [(0, [.to 5], .im 3), (0, [.to 6], .own 12)]
theorem ok : SoundF Try.prog cc 25 A :=
  mkA_ok (E := E) (p := pA) (q := pH) (t := fun (l : TA) => t l.1.2.1 l.2.1.2.1 l.2.1.2.2.1 l.2.1.2.2.2.1 l.2.1.2.2.2.2.1 l.2.1.2.2.2.2.2.1 l.2.1.2.2.2.2.2.2.1 l.2.2.1.2.1 l.2.2.1.2.2.2.1 l.2.2.1.2.2.2.2.1 l.2.2.1.2.2.2.2.2.1 l.2.2.2.1 l.2.2.2.2.1) (spS_ok sp1_ok) hk okF
end ref11_New

end Go.Proofs.Ytkoidgjgdhpdnaa.Va
