/- The functions of package ref09, as plain functions, and that the program computes them. Printed by a program of this work out of the evaluator. -/
import Derived.Test.YtkoidgjgdhpdnaaEn
import Derived.Tactics
import Derived.Test.YtkoidgjgdhpdnaaFref01
import Derived.Test.YtkoidgjgdhpdnaaFref07
import Derived.Test.YtkoidgjgdhpdnaaFref08
namespace Go.Proofs.Ytkoidgjgdhpdnaa.Va
open Go
set_option linter.unusedVariables false
set_option maxRecDepth 100000

/-! (*instar/instarref09.Drive).bad -/
namespace ref09_Drive_bad
abbrev TA : Type := ((Unit × (Int × (Int × (Int × Unit)))) × ((Unit × (Int × (Int × (Int × (Int × (Int × (Int × Unit))))))) × ((Unit × (Int × (Unit × (Int × (Bool × (Int × (Unit × Unit))))))) × ((List Int) × ((List Int) × Unit)))))
noncomputable def t (s_ at_ n h0_1 h0_2 h0_3 h0_4 h0_5 h0_6 h1_1 h1_3 : Int) (h1_4 : Bool) (h1_5 : Int) (h2 : (List Int)) (h3 : (List Int)) : Tw Int :=
 (.bb (decide (s_ < (0 : Int)))
  (.ret (3 : Int))
  (.opt (ref08_Map.c h0_1 h0_2 h0_3 h0_4 h0_5 h0_6) fun z1 =>
   (.bb (decide (s_ ≥ (((List.length z1) : Nat) : Int)))
    (.ret (3 : Int))
    (.bb (decide (at_ < (0 : Int)))
     (.ret (3 : Int))
     (.bb (decide (at_ > h0_1))
      (.ret (3 : Int))
      (.bb (decide (n < (0 : Int)))
       (.ret (3 : Int))
       (.bb (decide (n > (w64 (h0_1 - at_))))
        (.ret (3 : Int))
        (.bb h1_4
         (.ret (10 : Int))
         (.ret (0 : Int))))))))))
noncomputable def c (s_ at_ n h0_1 h0_2 h0_3 h0_4 h0_5 h0_6 h1_1 h1_3 : Int) (h1_4 : Bool) (h1_5 : Int) (h2 : (List Int)) (h3 : (List Int)) : Option Int := (t s_ at_ n h0_1 h0_2 h0_3 h0_4 h0_5 h0_6 h1_1 h1_3 h1_4 h1_5 h2 h3).run
def pA : Pt := (.cs (.ptr 0 0) (.cs (.int .i64) (.cs (.int .i64) (.cs (.int .i64) .nl))))
def pH : Pt := (.cs (.var (.cs (.ptr 1 0) (.cs (.int .i64) (.cs (.int .i64) (.cs (.int .i64) (.cs (.int .i64) (.cs (.int .i64) (.cs (.int .i64) .nl)))))))) (.cs (.var (.cs (.own 2) (.cs (.int .i64) (.cs (.own 3) (.cs (.int .i64) (.cs .bool (.cs (.int .i64) (.cs .nils .nl)))))))) (.cs (.row 3 true) (.cs (.row 1 true) .nl))))
def v (l : TA) (y : Int) : AV U := .im (.int .i64 y)
def hh (l : TA) (y : Int) : Hp U := [.var [.ptr 1 0, .im (.int .i64 l.2.1.2.1), .im (.int .i64 l.2.1.2.2.1), .im (.int .i64 l.2.1.2.2.2.1), .im (.int .i64 l.2.1.2.2.2.2.1), .im (.int .i64 l.2.1.2.2.2.2.2.1), .im (.int .i64 l.2.1.2.2.2.2.2.2.1)], .var [.own 2, .im (.int .i64 l.2.2.1.2.1), .own 3, .im (.int .i64 l.2.2.1.2.2.2.1), .im (.bool l.2.2.1.2.2.2.2.1), .im (.int .i64 l.2.2.1.2.2.2.2.2.1), .im .nils], .row 3 l.2.2.2.1 true, .row 1 l.2.2.2.2.1 true]
noncomputable def A : AFun U := mkA (U := U) pA pH (X := Int) (fun (l : TA) => c l.1.2.1 l.1.2.2.1 l.1.2.2.2.1 l.2.1.2.1 l.2.1.2.2.1 l.2.1.2.2.2.1 l.2.1.2.2.2.2.1 l.2.1.2.2.2.2.2.1 l.2.1.2.2.2.2.2.2.1 l.2.2.1.2.1 l.2.2.1.2.2.2.1 l.2.2.1.2.2.2.2.1 l.2.2.1.2.2.2.2.2.1 l.2.2.2.1 l.2.2.2.2.1) sp1 v hh
noncomputable def body : Code := (Go.Func.body Try.f78).getD .skip
noncomputable def Γ : List (FuncId × AFun U) := [(17, ref08_Map.A)]
noncomputable def Λ : List (Nat × LFun U) := []
noncomputable def CT : List (Nat × LFun U) := []
def ro : List FuncId := []
def D : Nat → Lv × Lv := dtab []
noncomputable def E : Env U := { E0 with Γ := Γ, Λ := Λ, C := CT, D := D, ro := ro }
theorem hk (R : Type) (l : TA) (K : AV U → Hp U → Option R) : funcA E Try.f78 [] R (pA.mkL l.1) (pH.mkH l.2) K = (t l.1.2.1 l.1.2.2.1 l.1.2.2.2.1 l.2.1.2.1 l.2.1.2.2.1 l.2.1.2.2.2.1 l.2.1.2.2.2.2.1 l.2.1.2.2.2.2.2.1 l.2.1.2.2.2.2.2.2.1 l.2.2.1.2.1 l.2.2.1.2.2.2.1 l.2.2.1.2.2.2.2.1 l.2.2.1.2.2.2.2.2.1 l.2.2.2.1 l.2.2.2.2.1).runK fun y => K (v l y) (hh l y) := by kernel_rfl
theorem okF : SoundF Try.prog cc 78 (funcA E Try.f78 []) :=
  funcA_ok (E := E) P_mixed (E0_ok.with Γ Λ CT D ro) (gam_of (all_cons ⟨ref08_Map.ok, ⟨Try.f17, Try.func17, by kernel_rfl, by kernel_rfl⟩⟩ all_nil) (all_cons (no_keep (by kernel_rfl)) all_nil)) Try.func78 (c := body) (by kernel_rfl)
    (just_by (by kernel_rfl) (by kernel_rfl) all_nil all_nil) []
theorem ok : SoundF Try.prog cc 78 A :=
  mkA_ok (E := E) (p := pA) (q := pH) (t := fun (l : TA) => t l.1.2.1 l.1.2.2.1 l.1.2.2.2.1 l.2.1.2.1 l.2.1.2.2.1 l.2.1.2.2.2.1 l.2.1.2.2.2.2.1 l.2.1.2.2.2.2.2.1 l.2.1.2.2.2.2.2.2.1 l.2.2.1.2.1 l.2.2.1.2.2.2.1 l.2.2.1.2.2.2.2.1 l.2.2.1.2.2.2.2.2.1 l.2.2.2.1 l.2.2.2.2.1) sp1_ok hk okF
theorem keep : KeepA A := mkA_keep (U := U) sp1_ok (fun (l : TA) y => ⟨(hh l y).drop 4, by kernel_rfl⟩)
end ref09_Drive_bad

/-! (*instar/instarref09.Drive).Read -/
namespace ref09_Drive_Read
abbrev TA : Type := ((Unit × (Int × (Int × (Int × Unit)))) × ((Unit × (Int × (Int × (Int × (Int × (Int × (Int × Unit))))))) × ((Unit × (Int × (Unit × (Int × (Bool × (Int × (Unit × Unit))))))) × ((List Int) × ((List Int) × Unit)))))
abbrev T6 : Type := ((Unit × (Int × (Int × (Int × (Unit × (Unit × (Int × (Unit × Unit)))))))) × ((Unit × (Int × (Int × (Int × (Int × (Int × (Int × Unit))))))) × ((Unit × (Int × (Unit × (Int × (Bool × (Int × (Unit × Unit))))))) × ((List Int) × ((List Int) × ((List Int) × Unit))))))
noncomputable def l6 (s_ at_ n h0_1 h0_2 h0_3 h0_4 h0_5 h0_6 h1_1 h1_3 : Int) (h1_4 : Bool) (h1_5 : Int) (h2 : (List Int)) (h3 : (List Int)) (i : Int) (h4 : (List Int)) : Tw ((Int × (List Int)) ⊕ (List Int)) :=
 (.bb (decide (i < n))
  (.dd ((((0 : Int) ≤ (w64 ((w64 ((w64 (s_ * h0_1)) + at_)) + i))) ∧ ((w64 ((w64 ((w64 (s_ * h0_1)) + at_)) + i)) < (((List.length h2) : Nat) : Int)))) inferInstance
   (.opt (h2)[(Int.toNat (w64 ((w64 ((w64 (s_ * h0_1)) + at_)) + i)))]? fun z2 =>
    (.dd ((((((List.length h4) + (List.length (z2 :: ([] : List (Int))))) * (4 : Nat)) ≤ (140737488355328 : Nat)) ∧ (((List.length h4) + (List.length (z2 :: ([] : List (Int))))) ≤ (140737488355328 : Nat)))) inferInstance
     (.ret (.inl ((w64 (i + (1 : Int))), (h4 ++ (z2 :: ([] : List (Int)))))))
     .no))
   .no)
  (.ret (.inr h4)))
noncomputable def L6 (s_ at_ n i h0_1 h0_2 h0_3 h0_4 h0_5 h0_6 h1_1 h1_3 : Int) (h1_4 : Bool) (h1_5 : Int) (h2 : (List Int)) (h3 : (List Int)) (h4 : (List Int)) : Option (List Int) := Lp (fun s => (l6 s_ at_ n h0_1 h0_2 h0_3 h0_4 h0_5 h0_6 h1_1 h1_3 h1_4 h1_5 h2 h3 s.1 s.2).run) (i, h4)
def p6 : Pt := (.cs (.ptr 0 0) (.cs (.int .i64) (.cs (.int .i64) (.cs (.int .i64) (.cs (.bots 7) (.cs (.own 4) (.cs (.int .i64) (.cs (.bots 37) .nl))))))))
def q6 : Pt := (.cs (.var (.cs (.ptr 1 0) (.cs (.int .i64) (.cs (.int .i64) (.cs (.int .i64) (.cs (.int .i64) (.cs (.int .i64) (.cs (.int .i64) .nl)))))))) (.cs (.var (.cs (.own 2) (.cs (.int .i64) (.cs (.own 3) (.cs (.int .i64) (.cs .bool (.cs (.int .i64) (.cs .nils .nl)))))))) (.cs (.row 3 true) (.cs (.row 1 true) (.cs (.row 3 true) .nl)))))
def ou6 (l : T6) (y : (List Int)) : Ex × St U := (.exit 0, stOf 50 [(11, .own 4)] [.var [.ptr 1 0, .im (.int .i64 l.2.1.2.1), .im (.int .i64 l.2.1.2.2.1), .im (.int .i64 l.2.1.2.2.2.1), .im (.int .i64 l.2.1.2.2.2.2.1), .im (.int .i64 l.2.1.2.2.2.2.2.1), .im (.int .i64 l.2.1.2.2.2.2.2.2.1)], .var [.own 2, .im (.int .i64 l.2.2.1.2.1), .own 3, .im (.int .i64 l.2.2.1.2.2.2.1), .im (.bool l.2.2.1.2.2.2.2.1), .im (.int .i64 l.2.2.1.2.2.2.2.2.1), .im .nils], .row 3 l.2.2.2.1 true, .row 1 l.2.2.2.2.1 true, .row 3 y true] 4)
noncomputable def Λ6 : LFun U := mkLp (U := U) p6 q6 4 (X := (List Int)) (fun (l : T6) => L6 l.1.2.1 l.1.2.2.1 l.1.2.2.2.1 l.1.2.2.2.2.2.2.1 l.2.1.2.1 l.2.1.2.2.1 l.2.1.2.2.2.1 l.2.1.2.2.2.2.1 l.2.1.2.2.2.2.2.1 l.2.1.2.2.2.2.2.2.1 l.2.2.1.2.1 l.2.2.1.2.2.2.1 l.2.2.1.2.2.2.2.1 l.2.2.1.2.2.2.2.2.1 l.2.2.2.1 l.2.2.2.2.1 l.2.2.2.2.2.1) sp1 ou6
noncomputable def t (s_ at_ n h0_1 h0_2 h0_3 h0_4 h0_5 h0_6 h1_1 h1_3 : Int) (h1_4 : Bool) (h1_5 : Int) (h2 : (List Int)) (h3 : (List Int)) : Tw (Int × (List Int)) :=
 (.opt (ref09_Drive_bad.c s_ at_ n h0_1 h0_2 h0_3 h0_4 h0_5 h0_6 h1_1 h1_3 h1_4 h1_5 h2 h3) fun z1 =>
  (.bb (z1 != (0 : Int))
   (.ret (z1, ([] : List (Int))))
   (.opt (L6 s_ at_ n (0 : Int) h0_1 h0_2 h0_3 h0_4 h0_5 h0_6 h1_1 h1_3 h1_4 h1_5 h2 h3 ([] : List (Int))) fun z3 =>
    (.ret ((0 : Int), z3)))))
noncomputable def c (s_ at_ n h0_1 h0_2 h0_3 h0_4 h0_5 h0_6 h1_1 h1_3 : Int) (h1_4 : Bool) (h1_5 : Int) (h2 : (List Int)) (h3 : (List Int)) : Option (Int × (List Int)) := (t s_ at_ n h0_1 h0_2 h0_3 h0_4 h0_5 h0_6 h1_1 h1_3 h1_4 h1_5 h2 h3).run
def pA : Pt := (.cs (.ptr 0 0) (.cs (.int .i64) (.cs (.int .i64) (.cs (.int .i64) .nl))))
def pH : Pt := (.cs (.var (.cs (.ptr 1 0) (.cs (.int .i64) (.cs (.int .i64) (.cs (.int .i64) (.cs (.int .i64) (.cs (.int .i64) (.cs (.int .i64) .nl)))))))) (.cs (.var (.cs (.own 2) (.cs (.int .i64) (.cs (.own 3) (.cs (.int .i64) (.cs .bool (.cs (.int .i64) (.cs .nils .nl)))))))) (.cs (.row 3 true) (.cs (.row 1 true) .nl))))
def v (l : TA) (y : (Int × (List Int))) : AV U := .tup [.own 4, .im (.int .i64 y.1)]
def hh (l : TA) (y : (Int × (List Int))) : Hp U := [.var [.ptr 1 0, .im (.int .i64 l.2.1.2.1), .im (.int .i64 l.2.1.2.2.1), .im (.int .i64 l.2.1.2.2.2.1), .im (.int .i64 l.2.1.2.2.2.2.1), .im (.int .i64 l.2.1.2.2.2.2.2.1), .im (.int .i64 l.2.1.2.2.2.2.2.2.1)], .var [.own 2, .im (.int .i64 l.2.2.1.2.1), .own 3, .im (.int .i64 l.2.2.1.2.2.2.1), .im (.bool l.2.2.1.2.2.2.2.1), .im (.int .i64 l.2.2.1.2.2.2.2.2.1), .im .nils], .row 3 l.2.2.2.1 true, .row 1 l.2.2.2.2.1 true, .row 3 y.2 true]
noncomputable def A : AFun U := mkA (U := U) pA pH (X := (Int × (List Int))) (fun (l : TA) => c l.1.2.1 l.1.2.2.1 l.1.2.2.2.1 l.2.1.2.1 l.2.1.2.2.1 l.2.1.2.2.2.1 l.2.1.2.2.2.2.1 l.2.1.2.2.2.2.2.1 l.2.1.2.2.2.2.2.2.1 l.2.2.1.2.1 l.2.2.1.2.2.2.1 l.2.2.1.2.2.2.2.1 l.2.2.1.2.2.2.2.2.1 l.2.2.2.1 l.2.2.2.2.1) sp1 v hh
noncomputable def body : Code := (Go.Func.body Try.f97).getD .skip
noncomputable def Γ : List (FuncId × AFun U) := [(78, ref09_Drive_bad.A)]
noncomputable def Λ : List (Nat × LFun U) := [(6, Λ6)]
noncomputable def CT : List (Nat × LFun U) := []
def ro : List FuncId := [78]
def D : Nat → Lv × Lv := dtab [(6, ⟨[12, 2, 0, 1, 11, 3], [(11, [], .own 3)]⟩, ⟨[8, 9, 11], []⟩)]
noncomputable def E : Env U := { E0 with Γ := Γ, Λ := Λ, C := CT, D := D, ro := ro }
theorem hf6 (R : Type) (l : T6) (s : (Int × (List Int))) (K : Ex → St U → Option R) : codeA E (pick (loopsOf body) 6) ⟨p6.mkL ((((), (l.1.2.1, (l.1.2.2.1, (l.1.2.2.2.1, ((), ((), (s.1, ((), ())))))))), (((), (l.2.1.2.1, (l.2.1.2.2.1, (l.2.1.2.2.2.1, (l.2.1.2.2.2.2.1, (l.2.1.2.2.2.2.2.1, (l.2.1.2.2.2.2.2.2.1, ()))))))), (((), (l.2.2.1.2.1, ((), (l.2.2.1.2.2.2.1, (l.2.2.1.2.2.2.2.1, (l.2.2.1.2.2.2.2.2.1, ((), ()))))))), (l.2.2.2.1, (l.2.2.2.2.1, (s.2, ())))))) : T6).1, q6.mkH ((((), (l.1.2.1, (l.1.2.2.1, (l.1.2.2.2.1, ((), ((), (s.1, ((), ())))))))), (((), (l.2.1.2.1, (l.2.1.2.2.1, (l.2.1.2.2.2.1, (l.2.1.2.2.2.2.1, (l.2.1.2.2.2.2.2.1, (l.2.1.2.2.2.2.2.2.1, ()))))))), (((), (l.2.2.1.2.1, ((), (l.2.2.1.2.2.2.1, (l.2.2.1.2.2.2.2.1, (l.2.2.1.2.2.2.2.2.1, ((), ()))))))), (l.2.2.2.1, (l.2.2.2.2.1, (s.2, ())))))) : T6).2, 4⟩ (roundK E (pick (loopsOf body) 6) K) =
  (l6 l.1.2.1 l.1.2.2.1 l.1.2.2.2.1 l.2.1.2.1 l.2.1.2.2.1 l.2.1.2.2.2.1 l.2.1.2.2.2.2.1 l.2.1.2.2.2.2.2.1 l.2.1.2.2.2.2.2.2.1 l.2.2.1.2.1 l.2.2.1.2.2.2.1 l.2.2.1.2.2.2.2.1 l.2.2.1.2.2.2.2.2.1 l.2.2.2.1 l.2.2.2.2.1 s.1 s.2).runK (lpK K (fun s => ⟨p6.mkL ((((), (l.1.2.1, (l.1.2.2.1, (l.1.2.2.2.1, ((), ((), (s.1, ((), ())))))))), (((), (l.2.1.2.1, (l.2.1.2.2.1, (l.2.1.2.2.2.1, (l.2.1.2.2.2.2.1, (l.2.1.2.2.2.2.2.1, (l.2.1.2.2.2.2.2.2.1, ()))))))), (((), (l.2.2.1.2.1, ((), (l.2.2.1.2.2.2.1, (l.2.2.1.2.2.2.2.1, (l.2.2.1.2.2.2.2.2.1, ((), ()))))))), (l.2.2.2.1, (l.2.2.2.2.1, (s.2, ())))))) : T6).1, q6.mkH ((((), (l.1.2.1, (l.1.2.2.1, (l.1.2.2.2.1, ((), ((), (s.1, ((), ())))))))), (((), (l.2.1.2.1, (l.2.1.2.2.1, (l.2.1.2.2.2.1, (l.2.1.2.2.2.2.1, (l.2.1.2.2.2.2.2.1, (l.2.1.2.2.2.2.2.2.1, ()))))))), (((), (l.2.2.1.2.1, ((), (l.2.2.1.2.2.2.1, (l.2.2.1.2.2.2.2.1, (l.2.2.1.2.2.2.2.2.1, ((), ()))))))), (l.2.2.2.1, (l.2.2.2.2.1, (s.2, ())))))) : T6).2, 4⟩) sp1 (ou6 l)) := by kernel_rfl
theorem lk6 (R : Type) (st : St U) (K : Ex → St U → Option R) (r : R) (h : Λ6 R st K = some r) : ∃ n, loopA E (pick (loopsOf body) 6) n st K = some r :=
  lp_ok (U := U) (E := E) (b := pick (loopsOf body) 6) (m := 4) (sp := sp1) (p := p6) (q := q6) (X := (List Int)) (S := (Int × (List Int))) (f := fun (l : T6) s => l6 l.1.2.1 l.1.2.2.1 l.1.2.2.2.1 l.2.1.2.1 l.2.1.2.2.1 l.2.1.2.2.2.1 l.2.1.2.2.2.2.1 l.2.1.2.2.2.2.2.1 l.2.1.2.2.2.2.2.2.1 l.2.2.1.2.1 l.2.2.1.2.2.2.1 l.2.2.1.2.2.2.2.1 l.2.2.1.2.2.2.2.2.1 l.2.2.2.1 l.2.2.2.2.1 s.1 s.2) (hd := fun (l : T6) s => (((), (l.1.2.1, (l.1.2.2.1, (l.1.2.2.2.1, ((), ((), (s.1, ((), ())))))))), (((), (l.2.1.2.1, (l.2.1.2.2.1, (l.2.1.2.2.2.1, (l.2.1.2.2.2.2.1, (l.2.1.2.2.2.2.2.1, (l.2.1.2.2.2.2.2.2.1, ()))))))), (((), (l.2.2.1.2.1, ((), (l.2.2.1.2.2.2.1, (l.2.2.1.2.2.2.2.1, (l.2.2.1.2.2.2.2.2.1, ((), ()))))))), (l.2.2.2.1, (l.2.2.2.2.1, (s.2, ()))))))) (s0 := fun (l : T6) => (l.1.2.2.2.2.2.2.1, l.2.2.2.2.2.1)) (ou := ou6)
    (fun l => rfl) (fun l x => by rfl) sp1_ok hf6 h
theorem hk (R : Type) (l : TA) (K : AV U → Hp U → Option R) : funcA E Try.f97 [(0, [], .own 3)] R (pA.mkL l.1) (pH.mkH l.2) K = (t l.1.2.1 l.1.2.2.1 l.1.2.2.2.1 l.2.1.2.1 l.2.1.2.2.1 l.2.1.2.2.2.1 l.2.1.2.2.2.2.1 l.2.1.2.2.2.2.2.1 l.2.1.2.2.2.2.2.2.1 l.2.2.1.2.1 l.2.2.1.2.2.2.1 l.2.2.1.2.2.2.2.1 l.2.2.1.2.2.2.2.2.1 l.2.2.2.1 l.2.2.2.2.1).runK fun y => K (v l y) (hh l y) := by kernel_rfl
theorem okF : SoundF Try.prog cc 97 (funcA E Try.f97 [(0, [], .own 3)]) :=
  funcA_ok (E := E) P_mixed (E0_ok.with Γ Λ CT D ro) (gam_of (all_cons ⟨ref09_Drive_bad.ok, ⟨Try.f78, Try.func78, by kernel_rfl, by kernel_rfl⟩⟩ all_nil) (all_cons (fun _ => ref09_Drive_bad.keep) all_nil)) Try.func97 (c := body) (by kernel_rfl)
    (just_by (by kernel_rfl) (by kernel_rfl) (all_cons lk6 all_nil) all_nil) [(0, [], .own 3)]
theorem ok : SoundF Try.prog cc 97 A :=
  mkA_ok (E := E) (p := pA) (q := pH) (t := fun (l : TA) => t l.1.2.1 l.1.2.2.1 l.1.2.2.2.1 l.2.1.2.1 l.2.1.2.2.1 l.2.1.2.2.2.1 l.2.1.2.2.2.2.1 l.2.1.2.2.2.2.2.1 l.2.1.2.2.2.2.2.2.1 l.2.2.1.2.1 l.2.2.1.2.2.2.1 l.2.2.1.2.2.2.2.1 l.2.2.1.2.2.2.2.2.1 l.2.2.2.1 l.2.2.2.2.1) sp1_ok hk okF
theorem keep : KeepA A := mkA_keep (U := U) sp1_ok (fun (l : TA) y => ⟨(hh l y).drop 4, by kernel_rfl⟩)
end ref09_Drive_Read

/-! (*instar/instarref09.Drive).Blank -/
namespace ref09_Drive_Blank
abbrev TA : Type := ((Unit × (Int × (Int × Unit))) × ((Unit × (Int × (Int × (Int × (Int × (Int × (Int × Unit))))))) × ((Unit × (Int × (Unit × (Int × (Bool × (Int × (Unit × Unit))))))) × ((List Int) × ((List Int) × Unit)))))
abbrev T5 : Type := ((Unit × (Unit × (Int × (Int × (Unit × Unit))))) × ((Unit × (Int × (Int × (Int × (Int × (Int × (Int × Unit))))))) × ((Unit × (Int × (Unit × (Int × (Bool × (Int × (Unit × Unit))))))) × ((List Int) × ((List Int) × ((List Int) × Unit))))))
noncomputable def l5 (e h0_1 h0_2 h0_3 h0_4 h0_5 h0_6 h1_1 h1_3 : Int) (h1_4 : Bool) (h1_5 : Int) (h2 : (List Int)) (h3 : (List Int)) (h4 : (List Int)) (i : Int) : Tw (Int ⊕ (Unit ⊕ Bool)) :=
 (.bb (decide (i < (((List.length h4) : Nat) : Int)))
  (.dd ((((0 : Int) ≤ i) ∧ (i < (((List.length h4) : Nat) : Int)))) inferInstance
   (.opt (h4)[(Int.toNat i)]? fun z2 =>
    (.bb (z2 != (4294967295 : Int))
     (.ret (.inr (.inr false)))
     (.ret (.inl (w64 (i + (1 : Int)))))))
   .no)
  (.ret (.inr (.inl ()))))
noncomputable def L5 (e i h0_1 h0_2 h0_3 h0_4 h0_5 h0_6 h1_1 h1_3 : Int) (h1_4 : Bool) (h1_5 : Int) (h2 : (List Int)) (h3 : (List Int)) (h4 : (List Int)) : Option (Unit ⊕ Bool) := Lp (fun s => (l5 e h0_1 h0_2 h0_3 h0_4 h0_5 h0_6 h1_1 h1_3 h1_4 h1_5 h2 h3 h4 s).run) i
def p5 : Pt := (.cs (.bots 8) (.cs (.own 4) (.cs (.int .i64) (.cs (.int .i64) (.cs (.bots 40) .nl)))))
def q5 : Pt := (.cs (.var (.cs (.ptr 1 0) (.cs (.int .i64) (.cs (.int .i64) (.cs (.int .i64) (.cs (.int .i64) (.cs (.int .i64) (.cs (.int .i64) .nl)))))))) (.cs (.var (.cs (.own 2) (.cs (.int .i64) (.cs (.own 3) (.cs (.int .i64) (.cs .bool (.cs (.int .i64) (.cs .nils .nl)))))))) (.cs (.row 3 true) (.cs (.row 1 true) (.cs (.row 3 true) .nl)))))
def ou5 (l : T5) (y : (Unit ⊕ Bool)) : Ex × St U := (Sum.elim (fun a0 => (.exit 0, stOf 51 [(9, .im (.int .i64 l.1.2.2.1))] [.var [.ptr 1 0, .im (.int .i64 l.2.1.2.1), .im (.int .i64 l.2.1.2.2.1), .im (.int .i64 l.2.1.2.2.2.1), .im (.int .i64 l.2.1.2.2.2.2.1), .im (.int .i64 l.2.1.2.2.2.2.2.1), .im (.int .i64 l.2.1.2.2.2.2.2.2.1)], .var [.own 2, .im (.int .i64 l.2.2.1.2.1), .own 3, .im (.int .i64 l.2.2.1.2.2.2.1), .im (.bool l.2.2.1.2.2.2.2.1), .im (.int .i64 l.2.2.1.2.2.2.2.2.1), .im .nils], .row 3 l.2.2.2.1 true, .row 1 l.2.2.2.2.1 true] 4)) (fun b0 => (.ret, stOf 51 [(6, .im (.bool b0)), (7, .im (.int .i64 l.1.2.2.1)), (9, .im (.int .i64 l.1.2.2.1))] [.var [.ptr 1 0, .im (.int .i64 l.2.1.2.1), .im (.int .i64 l.2.1.2.2.1), .im (.int .i64 l.2.1.2.2.2.1), .im (.int .i64 l.2.1.2.2.2.2.1), .im (.int .i64 l.2.1.2.2.2.2.2.1), .im (.int .i64 l.2.1.2.2.2.2.2.2.1)], .var [.own 2, .im (.int .i64 l.2.2.1.2.1), .own 3, .im (.int .i64 l.2.2.1.2.2.2.1), .im (.bool l.2.2.1.2.2.2.2.1), .im (.int .i64 l.2.2.1.2.2.2.2.2.1), .im .nils], .row 3 l.2.2.2.1 true, .row 1 l.2.2.2.2.1 true] 4)) y)
noncomputable def Λ5 : LFun U := mkLp (U := U) p5 q5 4 (X := (Unit ⊕ Bool)) (fun (l : T5) => L5 l.1.2.2.1 l.1.2.2.2.1 l.2.1.2.1 l.2.1.2.2.1 l.2.1.2.2.2.1 l.2.1.2.2.2.2.1 l.2.1.2.2.2.2.2.1 l.2.1.2.2.2.2.2.2.1 l.2.2.1.2.1 l.2.2.1.2.2.2.1 l.2.2.1.2.2.2.2.1 l.2.2.1.2.2.2.2.2.1 l.2.2.2.1 l.2.2.2.2.1 l.2.2.2.2.2.1) (spS sp1) ou5
noncomputable def t (s_ at_ h0_1 h0_2 h0_3 h0_4 h0_5 h0_6 h1_1 h1_3 : Int) (h1_4 : Bool) (h1_5 : Int) (h2 : (List Int)) (h3 : (List Int)) : Tw (Bool × Int) :=
 (.bb (decide (at_ < (0 : Int)))
  (.ret (false, (3 : Int)))
  (.bb (decide (at_ > h0_1))
   (.ret (false, (3 : Int)))
   (.opt (ref09_Drive_Read.c s_ at_ (w64 (h0_1 - at_)) h0_1 h0_2 h0_3 h0_4 h0_5 h0_6 h1_1 h1_3 h1_4 h1_5 h2 h3) fun z1 =>
    (.opt (L5 z1.1 (0 : Int) h0_1 h0_2 h0_3 h0_4 h0_5 h0_6 h1_1 h1_3 h1_4 h1_5 h2 h3 z1.2) fun z3 =>
     (.sm z3
      (fun z4 => (.ret ((z1.1 == (0 : Int)), z1.1)))
      (fun z5 => (.ret (z5, z1.1))))))))
noncomputable def c (s_ at_ h0_1 h0_2 h0_3 h0_4 h0_5 h0_6 h1_1 h1_3 : Int) (h1_4 : Bool) (h1_5 : Int) (h2 : (List Int)) (h3 : (List Int)) : Option (Bool × Int) := (t s_ at_ h0_1 h0_2 h0_3 h0_4 h0_5 h0_6 h1_1 h1_3 h1_4 h1_5 h2 h3).run
def pA : Pt := (.cs (.ptr 0 0) (.cs (.int .i64) (.cs (.int .i64) .nl)))
def pH : Pt := (.cs (.var (.cs (.ptr 1 0) (.cs (.int .i64) (.cs (.int .i64) (.cs (.int .i64) (.cs (.int .i64) (.cs (.int .i64) (.cs (.int .i64) .nl)))))))) (.cs (.var (.cs (.own 2) (.cs (.int .i64) (.cs (.own 3) (.cs (.int .i64) (.cs .bool (.cs (.int .i64) (.cs .nils .nl)))))))) (.cs (.row 3 true) (.cs (.row 1 true) .nl))))
def v (l : TA) (y : (Bool × Int)) : AV U := .tup [.im (.bool y.1), .im (.int .i64 y.2)]
def hh (l : TA) (y : (Bool × Int)) : Hp U := [.var [.ptr 1 0, .im (.int .i64 l.2.1.2.1), .im (.int .i64 l.2.1.2.2.1), .im (.int .i64 l.2.1.2.2.2.1), .im (.int .i64 l.2.1.2.2.2.2.1), .im (.int .i64 l.2.1.2.2.2.2.2.1), .im (.int .i64 l.2.1.2.2.2.2.2.2.1)], .var [.own 2, .im (.int .i64 l.2.2.1.2.1), .own 3, .im (.int .i64 l.2.2.1.2.2.2.1), .im (.bool l.2.2.1.2.2.2.2.1), .im (.int .i64 l.2.2.1.2.2.2.2.2.1), .im .nils], .row 3 l.2.2.2.1 true, .row 1 l.2.2.2.2.1 true]
noncomputable def A : AFun U := mkA (U := U) pA pH (X := (Bool × Int)) (fun (l : TA) => c l.1.2.1 l.1.2.2.1 l.2.1.2.1 l.2.1.2.2.1 l.2.1.2.2.2.1 l.2.1.2.2.2.2.1 l.2.1.2.2.2.2.2.1 l.2.1.2.2.2.2.2.2.1 l.2.2.1.2.1 l.2.2.1.2.2.2.1 l.2.2.1.2.2.2.2.1 l.2.2.1.2.2.2.2.2.1 l.2.2.2.1 l.2.2.2.2.1) sp1 v hh
noncomputable def body : Code := (Go.Func.body Try.f73).getD .skip
noncomputable def Γ : List (FuncId × AFun U) := [(97, ref09_Drive_Read.A)]
noncomputable def Λ : List (Nat × LFun U) := [(5, Λ5)]
noncomputable def CT : List (Nat × LFun U) := []
def ro : List FuncId := [97]
def D : Nat → Lv × Lv := dtab [(5, ⟨[9, 10, 8], []⟩, ⟨[6, 7, 9], []⟩)]
noncomputable def E : Env U := { E0 with Γ := Γ, Λ := Λ, C := CT, D := D, ro := ro }
theorem hf5 (R : Type) (l : T5) (s : Int) (K : Ex → St U → Option R) : codeA E (pick (loopsOf body) 5) ⟨p5.mkL ((((), ((), (l.1.2.2.1, (s, ((), ()))))), (((), (l.2.1.2.1, (l.2.1.2.2.1, (l.2.1.2.2.2.1, (l.2.1.2.2.2.2.1, (l.2.1.2.2.2.2.2.1, (l.2.1.2.2.2.2.2.2.1, ()))))))), (((), (l.2.2.1.2.1, ((), (l.2.2.1.2.2.2.1, (l.2.2.1.2.2.2.2.1, (l.2.2.1.2.2.2.2.2.1, ((), ()))))))), (l.2.2.2.1, (l.2.2.2.2.1, (l.2.2.2.2.2.1, ())))))) : T5).1, q5.mkH ((((), ((), (l.1.2.2.1, (s, ((), ()))))), (((), (l.2.1.2.1, (l.2.1.2.2.1, (l.2.1.2.2.2.1, (l.2.1.2.2.2.2.1, (l.2.1.2.2.2.2.2.1, (l.2.1.2.2.2.2.2.2.1, ()))))))), (((), (l.2.2.1.2.1, ((), (l.2.2.1.2.2.2.1, (l.2.2.1.2.2.2.2.1, (l.2.2.1.2.2.2.2.2.1, ((), ()))))))), (l.2.2.2.1, (l.2.2.2.2.1, (l.2.2.2.2.2.1, ())))))) : T5).2, 4⟩ (roundK E (pick (loopsOf body) 5) K) =
  (l5 l.1.2.2.1 l.2.1.2.1 l.2.1.2.2.1 l.2.1.2.2.2.1 l.2.1.2.2.2.2.1 l.2.1.2.2.2.2.2.1 l.2.1.2.2.2.2.2.2.1 l.2.2.1.2.1 l.2.2.1.2.2.2.1 l.2.2.1.2.2.2.2.1 l.2.2.1.2.2.2.2.2.1 l.2.2.2.1 l.2.2.2.2.1 l.2.2.2.2.2.1 s).runK (lpK K (fun s => ⟨p5.mkL ((((), ((), (l.1.2.2.1, (s, ((), ()))))), (((), (l.2.1.2.1, (l.2.1.2.2.1, (l.2.1.2.2.2.1, (l.2.1.2.2.2.2.1, (l.2.1.2.2.2.2.2.1, (l.2.1.2.2.2.2.2.2.1, ()))))))), (((), (l.2.2.1.2.1, ((), (l.2.2.1.2.2.2.1, (l.2.2.1.2.2.2.2.1, (l.2.2.1.2.2.2.2.2.1, ((), ()))))))), (l.2.2.2.1, (l.2.2.2.2.1, (l.2.2.2.2.2.1, ())))))) : T5).1, q5.mkH ((((), ((), (l.1.2.2.1, (s, ((), ()))))), (((), (l.2.1.2.1, (l.2.1.2.2.1, (l.2.1.2.2.2.1, (l.2.1.2.2.2.2.1, (l.2.1.2.2.2.2.2.1, (l.2.1.2.2.2.2.2.2.1, ()))))))), (((), (l.2.2.1.2.1, ((), (l.2.2.1.2.2.2.1, (l.2.2.1.2.2.2.2.1, (l.2.2.1.2.2.2.2.2.1, ((), ()))))))), (l.2.2.2.1, (l.2.2.2.2.1, (l.2.2.2.2.2.1, ())))))) : T5).2, 4⟩) (spS sp1) (ou5 l)) := by kernel_rfl
theorem lk5 (R : Type) (st : St U) (K : Ex → St U → Option R) (r : R) (h : Λ5 R st K = some r) : ∃ n, loopA E (pick (loopsOf body) 5) n st K = some r :=
  lp_ok (U := U) (E := E) (b := pick (loopsOf body) 5) (m := 4) (sp := (spS sp1)) (p := p5) (q := q5) (X := (Unit ⊕ Bool)) (S := Int) (f := fun (l : T5) s => l5 l.1.2.2.1 l.2.1.2.1 l.2.1.2.2.1 l.2.1.2.2.2.1 l.2.1.2.2.2.2.1 l.2.1.2.2.2.2.2.1 l.2.1.2.2.2.2.2.2.1 l.2.2.1.2.1 l.2.2.1.2.2.2.1 l.2.2.1.2.2.2.2.1 l.2.2.1.2.2.2.2.2.1 l.2.2.2.1 l.2.2.2.2.1 l.2.2.2.2.2.1 s) (hd := fun (l : T5) s => (((), ((), (l.1.2.2.1, (s, ((), ()))))), (((), (l.2.1.2.1, (l.2.1.2.2.1, (l.2.1.2.2.2.1, (l.2.1.2.2.2.2.1, (l.2.1.2.2.2.2.2.1, (l.2.1.2.2.2.2.2.2.1, ()))))))), (((), (l.2.2.1.2.1, ((), (l.2.2.1.2.2.2.1, (l.2.2.1.2.2.2.2.1, (l.2.2.1.2.2.2.2.2.1, ((), ()))))))), (l.2.2.2.1, (l.2.2.2.2.1, (l.2.2.2.2.2.1, ()))))))) (s0 := fun (l : T5) => l.1.2.2.2.1) (ou := ou5)
    (fun l => rfl) (fun l x => by repeat' (first | rfl | (cases x with | inl => rfl | inr x => ?_))) (spS_ok sp1_ok) hf5 h
theorem hk (R : Type) (l : TA) (K : AV U → Hp U → Option R) : funcA E Try.f73 [] R (pA.mkL l.1) (pH.mkH l.2) K = (t l.1.2.1 l.1.2.2.1 l.2.1.2.1 l.2.1.2.2.1 l.2.1.2.2.2.1 l.2.1.2.2.2.2.1 l.2.1.2.2.2.2.2.1 l.2.1.2.2.2.2.2.2.1 l.2.2.1.2.1 l.2.2.1.2.2.2.1 l.2.2.1.2.2.2.2.1 l.2.2.1.2.2.2.2.2.1 l.2.2.2.1 l.2.2.2.2.1).runK fun y => K (v l y) (hh l y) := by kernel_rfl
theorem okF : SoundF Try.prog cc 73 (funcA E Try.f73 []) :=
  funcA_ok (E := E) P_mixed (E0_ok.with Γ Λ CT D ro) (gam_of (all_cons ⟨ref09_Drive_Read.ok, ⟨Try.f97, Try.func97, by kernel_rfl, by kernel_rfl⟩⟩ all_nil) (all_cons (fun _ => ref09_Drive_Read.keep) all_nil)) Try.func73 (c := body) (by kernel_rfl)
    (just_by (by kernel_rfl) (by kernel_rfl) (all_cons lk5 all_nil) all_nil) []
theorem ok : SoundF Try.prog cc 73 A :=
  mkA_ok (E := E) (p := pA) (q := pH) (t := fun (l : TA) => t l.1.2.1 l.1.2.2.1 l.2.1.2.1 l.2.1.2.2.1 l.2.1.2.2.2.1 l.2.1.2.2.2.2.1 l.2.1.2.2.2.2.2.1 l.2.1.2.2.2.2.2.2.1 l.2.2.1.2.1 l.2.2.1.2.2.2.1 l.2.2.1.2.2.2.2.1 l.2.2.1.2.2.2.2.2.1 l.2.2.2.1 l.2.2.2.2.1) sp1_ok hk okF
theorem keep : KeepA A := mkA_keep (U := U) sp1_ok (fun (l : TA) y => ⟨(hh l y).drop 4, by kernel_rfl⟩)
end ref09_Drive_Blank

/-! (*instar/instarref09.Drive).Clean -/
namespace ref09_Drive_Clean
abbrev TA : Type := ((Unit × (Int × Unit)) × ((Unit × (Int × (Int × (Int × (Int × (Int × (Int × Unit))))))) × ((Unit × (Int × (Unit × (Int × (Bool × (Int × (Unit × Unit))))))) × ((List Int) × ((List Int) × Unit)))))
noncomputable def t (s_ h0_1 h0_2 h0_3 h0_4 h0_5 h0_6 h1_1 h1_3 : Int) (h1_4 : Bool) (h1_5 : Int) (h2 : (List Int)) (h3 : (List Int)) : Tw (Int × (Int × (Bool × (Int × ((List Int) × (List Int)))))) :=
 (.opt (ref09_Drive_Blank.c s_ (0 : Int) h0_1 h0_2 h0_3 h0_4 h0_5 h0_6 h1_1 h1_3 h1_4 h1_5 h2 h3) fun z1 =>
  (.bb (z1.2 != (0 : Int))
   (.ret (z1.2, (h1_3, (h1_4, (h1_5, (h2, h3))))))
   (.bb z1.1
    (.ret (z1.2, (h1_3, (h1_4, (h1_5, (h2, h3))))))
    (.opt (ref07_Flash_Erase.c s_ h1_1 h1_3 h1_4 h1_5 h2 h3) fun z2 =>
     (.ret (z2.1, (z2.2.1, (z2.2.2.1, (z2.2.2.2.1, (z2.2.2.2.2.1, z2.2.2.2.2.2))))))))))
noncomputable def c (s_ h0_1 h0_2 h0_3 h0_4 h0_5 h0_6 h1_1 h1_3 : Int) (h1_4 : Bool) (h1_5 : Int) (h2 : (List Int)) (h3 : (List Int)) : Option (Int × (Int × (Bool × (Int × ((List Int) × (List Int)))))) := (t s_ h0_1 h0_2 h0_3 h0_4 h0_5 h0_6 h1_1 h1_3 h1_4 h1_5 h2 h3).run
def pA : Pt := (.cs (.ptr 0 0) (.cs (.int .i64) .nl))
def pH : Pt := (.cs (.var (.cs (.ptr 1 0) (.cs (.int .i64) (.cs (.int .i64) (.cs (.int .i64) (.cs (.int .i64) (.cs (.int .i64) (.cs (.int .i64) .nl)))))))) (.cs (.var (.cs (.own 2) (.cs (.int .i64) (.cs (.own 3) (.cs (.int .i64) (.cs .bool (.cs (.int .i64) (.cs .nils .nl)))))))) (.cs (.row 3 true) (.cs (.row 1 true) .nl))))
def v (l : TA) (y : (Int × (Int × (Bool × (Int × ((List Int) × (List Int))))))) : AV U := .im (.int .i64 y.1)
def hh (l : TA) (y : (Int × (Int × (Bool × (Int × ((List Int) × (List Int))))))) : Hp U := [.var [.ptr 1 0, .im (.int .i64 l.2.1.2.1), .im (.int .i64 l.2.1.2.2.1), .im (.int .i64 l.2.1.2.2.2.1), .im (.int .i64 l.2.1.2.2.2.2.1), .im (.int .i64 l.2.1.2.2.2.2.2.1), .im (.int .i64 l.2.1.2.2.2.2.2.2.1)], .var [.own 2, .im (.int .i64 l.2.2.1.2.1), .own 3, .im (.int .i64 y.2.1), .im (.bool y.2.2.1), .im (.int .i64 y.2.2.2.1), .im .nils], .row 3 y.2.2.2.2.1 true, .row 1 y.2.2.2.2.2 true]
noncomputable def A : AFun U := mkA (U := U) pA pH (X := (Int × (Int × (Bool × (Int × ((List Int) × (List Int))))))) (fun (l : TA) => c l.1.2.1 l.2.1.2.1 l.2.1.2.2.1 l.2.1.2.2.2.1 l.2.1.2.2.2.2.1 l.2.1.2.2.2.2.2.1 l.2.1.2.2.2.2.2.2.1 l.2.2.1.2.1 l.2.2.1.2.2.2.1 l.2.2.1.2.2.2.2.1 l.2.2.1.2.2.2.2.2.1 l.2.2.2.1 l.2.2.2.2.1) sp1 v hh
noncomputable def body : Code := (Go.Func.body Try.f48).getD .skip
noncomputable def Γ : List (FuncId × AFun U) := [(73, ref09_Drive_Blank.A), (74, ref07_Flash_Erase.A)]
noncomputable def Λ : List (Nat × LFun U) := []
noncomputable def CT : List (Nat × LFun U) := []
def ro : List FuncId := [73]
def D : Nat → Lv × Lv := dtab []
noncomputable def E : Env U := { E0 with Γ := Γ, Λ := Λ, C := CT, D := D, ro := ro }
theorem hk (R : Type) (l : TA) (K : AV U → Hp U → Option R) : funcA E Try.f48 [] R (pA.mkL l.1) (pH.mkH l.2) K = (t l.1.2.1 l.2.1.2.1 l.2.1.2.2.1 l.2.1.2.2.2.1 l.2.1.2.2.2.2.1 l.2.1.2.2.2.2.2.1 l.2.1.2.2.2.2.2.2.1 l.2.2.1.2.1 l.2.2.1.2.2.2.1 l.2.2.1.2.2.2.2.1 l.2.2.1.2.2.2.2.2.1 l.2.2.2.1 l.2.2.2.2.1).runK fun y => K (v l y) (hh l y) := by kernel_rfl
theorem okF : SoundF Try.prog cc 48 (funcA E Try.f48 []) :=
  funcA_ok (E := E) P_mixed (E0_ok.with Γ Λ CT D ro) (gam_of (all_cons ⟨ref09_Drive_Blank.ok, ⟨Try.f73, Try.func73, by kernel_rfl, by kernel_rfl⟩⟩ (all_cons ⟨ref07_Flash_Erase.ok, ⟨Try.f74, Try.func74, by kernel_rfl, by kernel_rfl⟩⟩ all_nil)) (all_cons (fun _ => ref09_Drive_Blank.keep) (all_cons (no_keep (by kernel_rfl)) all_nil))) Try.func48 (c := body) (by kernel_rfl)
    (just_by (by kernel_rfl) (by kernel_rfl) all_nil all_nil) []
theorem ok : SoundF Try.prog cc 48 A :=
  mkA_ok (E := E) (p := pA) (q := pH) (t := fun (l : TA) => t l.1.2.1 l.2.1.2.1 l.2.1.2.2.1 l.2.1.2.2.2.1 l.2.1.2.2.2.2.1 l.2.1.2.2.2.2.2.1 l.2.1.2.2.2.2.2.2.1 l.2.2.1.2.1 l.2.2.1.2.2.2.1 l.2.2.1.2.2.2.2.1 l.2.2.1.2.2.2.2.2.1 l.2.2.2.1 l.2.2.2.2.1) sp1_ok hk okF
end ref09_Drive_Clean

/-! (*instar/instarref09.Drive).Write -/
namespace ref09_Drive_Write
abbrev TA : Type := ((Unit × (Int × (Int × ((List Int) × Unit)))) × ((Unit × (Int × (Int × (Int × (Int × (Int × (Int × Unit))))))) × ((Unit × (Int × (Unit × (Int × (Bool × (Int × (Unit × Unit))))))) × ((List Int) × ((List Int) × Unit)))))
abbrev T6 : Type := ((Unit × (Unit × ((List Int) × (Unit × (Int × (Int × (Unit × Unit))))))) × ((Unit × (Int × (Int × (Int × (Int × (Int × (Int × Unit))))))) × ((Unit × (Int × (Unit × (Int × (Bool × (Int × (Unit × Unit))))))) × ((List Int) × ((List Int) × Unit)))))
noncomputable def l6 (w : (List Int)) (a h0_1 h0_2 h0_3 h0_4 h0_5 h0_6 h1_1 h1_3 : Int) (h1_4 : Bool) (h1_5 : Int) (h2 : (List Int)) (h3 : (List Int)) (i : Int) : Tw (Int ⊕ (Unit ⊕ Int)) :=
 (.bb (decide (i < (((List.length w) : Nat) : Int)))
  (.dd (((0 : Int) ≤ i)) inferInstance
   (.opt (w)[(Int.toNat i)]? fun z2 =>
    (.dd ((((0 : Int) ≤ (w64 (a + i))) ∧ ((w64 (a + i)) < (((List.length h2) : Nat) : Int)))) inferInstance
     (.opt (h2)[(Int.toNat (w64 (a + i)))]? fun z3 =>
      (.opt (ref01_Bits.c z2 z3 (0 : Int) (0 : Int)) fun z4 =>
       (.bb (z4 != (0 : Int))
        (.ret (.inr (.inr (11 : Int))))
        (.ret (.inl (w64 (i + (1 : Int))))))))
     .no))
   .no)
  (.ret (.inr (.inl ()))))
noncomputable def L6 (w : (List Int)) (a i h0_1 h0_2 h0_3 h0_4 h0_5 h0_6 h1_1 h1_3 : Int) (h1_4 : Bool) (h1_5 : Int) (h2 : (List Int)) (h3 : (List Int)) : Option (Unit ⊕ Int) := Lp (fun s => (l6 w a h0_1 h0_2 h0_3 h0_4 h0_5 h0_6 h1_1 h1_3 h1_4 h1_5 h2 h3 s).run) i
def p6 : Pt := (.cs (.ptr 0 0) (.cs (.bots 2) (.cs (.sl 3) (.cs (.bots 6) (.cs (.int .i64) (.cs (.int .i64) (.cs (.bots 82) .nl)))))))
def q6 : Pt := (.cs (.var (.cs (.ptr 1 0) (.cs (.int .i64) (.cs (.int .i64) (.cs (.int .i64) (.cs (.int .i64) (.cs (.int .i64) (.cs (.int .i64) .nl)))))))) (.cs (.var (.cs (.own 2) (.cs (.int .i64) (.cs (.own 3) (.cs (.int .i64) (.cs .bool (.cs (.int .i64) (.cs .nils .nl)))))))) (.cs (.row 3 true) (.cs (.row 1 true) .nl))))
def ou6 (l : T6) (y : (Unit ⊕ Int)) : Ex × St U := (Sum.elim (fun a0 => (.exit 0, stOf 94 [(0, .ptr 0 0), (3, .im (.slice 3 l.1.2.2.1)), (10, .im (.int .i64 l.1.2.2.2.2.1))] [.var [.ptr 1 0, .im (.int .i64 l.2.1.2.1), .im (.int .i64 l.2.1.2.2.1), .im (.int .i64 l.2.1.2.2.2.1), .im (.int .i64 l.2.1.2.2.2.2.1), .im (.int .i64 l.2.1.2.2.2.2.2.1), .im (.int .i64 l.2.1.2.2.2.2.2.2.1)], .var [.own 2, .im (.int .i64 l.2.2.1.2.1), .own 3, .im (.int .i64 l.2.2.1.2.2.2.1), .im (.bool l.2.2.1.2.2.2.2.1), .im (.int .i64 l.2.2.1.2.2.2.2.2.1), .im .nils], .row 3 l.2.2.2.1 true, .row 1 l.2.2.2.2.1 true] 4)) (fun b0 => (.ret, stOf 94 [(0, .ptr 0 0), (3, .im (.slice 3 l.1.2.2.1)), (8, .im (.int .i64 b0)), (10, .im (.int .i64 l.1.2.2.2.2.1))] [.var [.ptr 1 0, .im (.int .i64 l.2.1.2.1), .im (.int .i64 l.2.1.2.2.1), .im (.int .i64 l.2.1.2.2.2.1), .im (.int .i64 l.2.1.2.2.2.2.1), .im (.int .i64 l.2.1.2.2.2.2.2.1), .im (.int .i64 l.2.1.2.2.2.2.2.2.1)], .var [.own 2, .im (.int .i64 l.2.2.1.2.1), .own 3, .im (.int .i64 l.2.2.1.2.2.2.1), .im (.bool l.2.2.1.2.2.2.2.1), .im (.int .i64 l.2.2.1.2.2.2.2.2.1), .im .nils], .row 3 l.2.2.2.1 true, .row 1 l.2.2.2.2.1 true] 4)) y)
noncomputable def Λ6 : LFun U := mkLp (U := U) p6 q6 4 (X := (Unit ⊕ Int)) (fun (l : T6) => L6 l.1.2.2.1 l.1.2.2.2.2.1 l.1.2.2.2.2.2.1 l.2.1.2.1 l.2.1.2.2.1 l.2.1.2.2.2.1 l.2.1.2.2.2.2.1 l.2.1.2.2.2.2.2.1 l.2.1.2.2.2.2.2.2.1 l.2.2.1.2.1 l.2.2.1.2.2.2.1 l.2.2.1.2.2.2.2.1 l.2.2.1.2.2.2.2.2.1 l.2.2.2.1 l.2.2.2.2.1) (spS sp1) ou6
abbrev T11 : Type := ((Unit × (Unit × ((List Int) × (Unit × (Int × (Unit × (Int × (Unit × Unit)))))))) × ((Unit × (Int × (Int × (Int × (Int × (Int × (Int × Unit))))))) × ((Unit × (Int × (Unit × (Int × (Bool × (Int × (Unit × Unit))))))) × ((List Int) × ((List Int) × Unit)))))
noncomputable def l11 (w : (List Int)) (a h0_1 h0_2 h0_3 h0_4 h0_5 h0_6 h1_1 : Int) (h3 : (List Int)) (i h1_3 : Int) (h1_4 : Bool) (h1_5 : Int) (h2 : (List Int)) : Tw ((Int × (Int × (Bool × (Int × (List Int))))) ⊕ ((Int × (Bool × (Int × (List Int)))) ⊕ (Int × (Int × (Bool × (Int × (List Int))))))) :=
 (.bb (decide (i < (((List.length w) : Nat) : Int)))
  (.dd ((((0 : Int) ≤ (w64 (a + i))) ∧ ((w64 (a + i)) < (((List.length h2) : Nat) : Int)))) inferInstance
   (.opt (h2)[(Int.toNat (w64 (a + i)))]? fun z8 =>
    (.dd (((0 : Int) ≤ i)) inferInstance
     (.opt (w)[(Int.toNat i)]? fun z9 =>
      (.bb (z8 != z9)
       (.dd (((0 : Int) ≤ i)) inferInstance
        (.opt (w)[(Int.toNat i)]? fun z10 =>
         (.opt (ref07_Flash_Program.c (w64 (a + i)) z10 h1_1 h1_3 h1_4 h1_5 h2 h3) fun z11 =>
          (.bb (z11.1 != (0 : Int))
           (.ret (.inr (.inr (z11.1, (z11.2.1, (z11.2.2.1, (z11.2.2.2.1, z11.2.2.2.2)))))))
           (.ret (.inl ((w64 (i + (1 : Int))), (z11.2.1, (z11.2.2.1, (z11.2.2.2.1, z11.2.2.2.2)))))))))
        .no)
       (.ret (.inl ((w64 (i + (1 : Int))), (h1_3, (h1_4, (h1_5, h2))))))))
     .no))
   .no)
  (.ret (.inr (.inl (h1_3, (h1_4, (h1_5, h2)))))))
noncomputable def L11 (w : (List Int)) (a i h0_1 h0_2 h0_3 h0_4 h0_5 h0_6 h1_1 h1_3 : Int) (h1_4 : Bool) (h1_5 : Int) (h2 : (List Int)) (h3 : (List Int)) : Option ((Int × (Bool × (Int × (List Int)))) ⊕ (Int × (Int × (Bool × (Int × (List Int)))))) := Lp (fun s => (l11 w a h0_1 h0_2 h0_3 h0_4 h0_5 h0_6 h1_1 h3 s.1 s.2.1 s.2.2.1 s.2.2.2.1 s.2.2.2.2).run) (i, (h1_3, (h1_4, (h1_5, h2))))
def p11 : Pt := (.cs (.ptr 0 0) (.cs (.bots 2) (.cs (.sl 3) (.cs (.bots 6) (.cs (.int .i64) (.cs (.bots 1) (.cs (.int .i64) (.cs (.bots 81) .nl))))))))
def q11 : Pt := (.cs (.var (.cs (.ptr 1 0) (.cs (.int .i64) (.cs (.int .i64) (.cs (.int .i64) (.cs (.int .i64) (.cs (.int .i64) (.cs (.int .i64) .nl)))))))) (.cs (.var (.cs (.own 2) (.cs (.int .i64) (.cs (.own 3) (.cs (.int .i64) (.cs .bool (.cs (.int .i64) (.cs .nils .nl)))))))) (.cs (.row 3 true) (.cs (.row 1 true) .nl))))
def ou11 (l : T11) (y : ((Int × (Bool × (Int × (List Int)))) ⊕ (Int × (Int × (Bool × (Int × (List Int))))))) : Ex × St U := (Sum.elim (fun a0 => (.exit 2, stOf 94 [] [.var [.ptr 1 0, .im (.int .i64 l.2.1.2.1), .im (.int .i64 l.2.1.2.2.1), .im (.int .i64 l.2.1.2.2.2.1), .im (.int .i64 l.2.1.2.2.2.2.1), .im (.int .i64 l.2.1.2.2.2.2.2.1), .im (.int .i64 l.2.1.2.2.2.2.2.2.1)], .var [.own 2, .im (.int .i64 l.2.2.1.2.1), .own 3, .im (.int .i64 a0.1), .im (.bool a0.2.1), .im (.int .i64 a0.2.2.1), .im .nils], .row 3 a0.2.2.2 true, .row 1 l.2.2.2.2.1 true] 4)) (fun b0 => (.ret, stOf 94 [(8, .im (.int .i64 b0.1))] [.var [.ptr 1 0, .im (.int .i64 l.2.1.2.1), .im (.int .i64 l.2.1.2.2.1), .im (.int .i64 l.2.1.2.2.2.1), .im (.int .i64 l.2.1.2.2.2.2.1), .im (.int .i64 l.2.1.2.2.2.2.2.1), .im (.int .i64 l.2.1.2.2.2.2.2.2.1)], .var [.own 2, .im (.int .i64 l.2.2.1.2.1), .own 3, .im (.int .i64 b0.2.1), .im (.bool b0.2.2.1), .im (.int .i64 b0.2.2.2.1), .im .nils], .row 3 b0.2.2.2.2 true, .row 1 l.2.2.2.2.1 true] 4)) y)
noncomputable def Λ11 : LFun U := mkLp (U := U) p11 q11 4 (X := ((Int × (Bool × (Int × (List Int)))) ⊕ (Int × (Int × (Bool × (Int × (List Int))))))) (fun (l : T11) => L11 l.1.2.2.1 l.1.2.2.2.2.1 l.1.2.2.2.2.2.2.1 l.2.1.2.1 l.2.1.2.2.1 l.2.1.2.2.2.1 l.2.1.2.2.2.2.1 l.2.1.2.2.2.2.2.1 l.2.1.2.2.2.2.2.2.1 l.2.2.1.2.1 l.2.2.1.2.2.2.1 l.2.2.1.2.2.2.2.1 l.2.2.1.2.2.2.2.2.1 l.2.2.2.1 l.2.2.2.2.1) (spS sp1) ou11
noncomputable def t (s_ at_ : Int) (w : (List Int)) (h0_1 h0_2 h0_3 h0_4 h0_5 h0_6 h1_1 h1_3 : Int) (h1_4 : Bool) (h1_5 : Int) (h2 : (List Int)) (h3 : (List Int)) : Tw (Int × (Int × (Bool × (Int × (List Int))))) :=
 (.opt (ref09_Drive_bad.c s_ at_ (((List.length w) : Nat) : Int) h0_1 h0_2 h0_3 h0_4 h0_5 h0_6 h1_1 h1_3 h1_4 h1_5 h2 h3) fun z1 =>
  (.bb (z1 != (0 : Int))
   (.ret (z1, (h1_3, (h1_4, (h1_5, h2)))))
   (.opt (L6 w (w64 ((w64 (s_ * h0_1)) + at_)) (0 : Int) h0_1 h0_2 h0_3 h0_4 h0_5 h0_6 h1_1 h1_3 h1_4 h1_5 h2 h3) fun z5 =>
    (.sm z5
     (fun z6 => (.opt (L11 w (w64 ((w64 (s_ * h0_1)) + at_)) (0 : Int) h0_1 h0_2 h0_3 h0_4 h0_5 h0_6 h1_1 h1_3 h1_4 h1_5 h2 h3) fun z12 =>
       (.sm z12
        (fun z13 => (.ret ((0 : Int), (z13.1, (z13.2.1, (z13.2.2.1, z13.2.2.2))))))
        (fun z14 => (.ret (z14.1, (z14.2.1, (z14.2.2.1, (z14.2.2.2.1, z14.2.2.2.2)))))))))
     (fun z7 => (.ret (z7, (h1_3, (h1_4, (h1_5, h2))))))))))
noncomputable def c (s_ at_ : Int) (w : (List Int)) (h0_1 h0_2 h0_3 h0_4 h0_5 h0_6 h1_1 h1_3 : Int) (h1_4 : Bool) (h1_5 : Int) (h2 : (List Int)) (h3 : (List Int)) : Option (Int × (Int × (Bool × (Int × (List Int))))) := (t s_ at_ w h0_1 h0_2 h0_3 h0_4 h0_5 h0_6 h1_1 h1_3 h1_4 h1_5 h2 h3).run
def pA : Pt := (.cs (.ptr 0 0) (.cs (.int .i64) (.cs (.int .i64) (.cs (.sl 3) .nl))))
def pH : Pt := (.cs (.var (.cs (.ptr 1 0) (.cs (.int .i64) (.cs (.int .i64) (.cs (.int .i64) (.cs (.int .i64) (.cs (.int .i64) (.cs (.int .i64) .nl)))))))) (.cs (.var (.cs (.own 2) (.cs (.int .i64) (.cs (.own 3) (.cs (.int .i64) (.cs .bool (.cs (.int .i64) (.cs .nils .nl)))))))) (.cs (.row 3 true) (.cs (.row 1 true) .nl))))
def v (l : TA) (y : (Int × (Int × (Bool × (Int × (List Int)))))) : AV U := .im (.int .i64 y.1)
def hh (l : TA) (y : (Int × (Int × (Bool × (Int × (List Int)))))) : Hp U := [.var [.ptr 1 0, .im (.int .i64 l.2.1.2.1), .im (.int .i64 l.2.1.2.2.1), .im (.int .i64 l.2.1.2.2.2.1), .im (.int .i64 l.2.1.2.2.2.2.1), .im (.int .i64 l.2.1.2.2.2.2.2.1), .im (.int .i64 l.2.1.2.2.2.2.2.2.1)], .var [.own 2, .im (.int .i64 l.2.2.1.2.1), .own 3, .im (.int .i64 y.2.1), .im (.bool y.2.2.1), .im (.int .i64 y.2.2.2.1), .im .nils], .row 3 y.2.2.2.2 true, .row 1 l.2.2.2.2.1 true]
noncomputable def A : AFun U := mkA (U := U) pA pH (X := (Int × (Int × (Bool × (Int × (List Int)))))) (fun (l : TA) => c l.1.2.1 l.1.2.2.1 l.1.2.2.2.1 l.2.1.2.1 l.2.1.2.2.1 l.2.1.2.2.2.1 l.2.1.2.2.2.2.1 l.2.1.2.2.2.2.2.1 l.2.1.2.2.2.2.2.2.1 l.2.2.1.2.1 l.2.2.1.2.2.2.1 l.2.2.1.2.2.2.2.1 l.2.2.1.2.2.2.2.2.1 l.2.2.2.1 l.2.2.2.2.1) sp1 v hh
noncomputable def body : Code := (Go.Func.body Try.f51).getD .skip
noncomputable def Γ : List (FuncId × AFun U) := [(78, ref09_Drive_bad.A), (79, ref01_Bits.A), (80, ref07_Flash_Program.A)]
noncomputable def Λ : List (Nat × LFun U) := [(6, Λ6), (11, Λ11)]
noncomputable def CT : List (Nat × LFun U) := []
def ro : List FuncId := [78]
def D : Nat → Lv × Lv := dtab [(6, ⟨[11, 10, 0, 3], []⟩, ⟨[8, 3, 10, 0], []⟩), (11, ⟨[12, 3, 10, 0], []⟩, ⟨[8], []⟩)]
noncomputable def E : Env U := { E0 with Γ := Γ, Λ := Λ, C := CT, D := D, ro := ro }
theorem hf6 (R : Type) (l : T6) (s : Int) (K : Ex → St U → Option R) : codeA E (pick (loopsOf body) 6) ⟨p6.mkL ((((), ((), (l.1.2.2.1, ((), (l.1.2.2.2.2.1, (s, ((), ()))))))), (((), (l.2.1.2.1, (l.2.1.2.2.1, (l.2.1.2.2.2.1, (l.2.1.2.2.2.2.1, (l.2.1.2.2.2.2.2.1, (l.2.1.2.2.2.2.2.2.1, ()))))))), (((), (l.2.2.1.2.1, ((), (l.2.2.1.2.2.2.1, (l.2.2.1.2.2.2.2.1, (l.2.2.1.2.2.2.2.2.1, ((), ()))))))), (l.2.2.2.1, (l.2.2.2.2.1, ()))))) : T6).1, q6.mkH ((((), ((), (l.1.2.2.1, ((), (l.1.2.2.2.2.1, (s, ((), ()))))))), (((), (l.2.1.2.1, (l.2.1.2.2.1, (l.2.1.2.2.2.1, (l.2.1.2.2.2.2.1, (l.2.1.2.2.2.2.2.1, (l.2.1.2.2.2.2.2.2.1, ()))))))), (((), (l.2.2.1.2.1, ((), (l.2.2.1.2.2.2.1, (l.2.2.1.2.2.2.2.1, (l.2.2.1.2.2.2.2.2.1, ((), ()))))))), (l.2.2.2.1, (l.2.2.2.2.1, ()))))) : T6).2, 4⟩ (roundK E (pick (loopsOf body) 6) K) =
  (l6 l.1.2.2.1 l.1.2.2.2.2.1 l.2.1.2.1 l.2.1.2.2.1 l.2.1.2.2.2.1 l.2.1.2.2.2.2.1 l.2.1.2.2.2.2.2.1 l.2.1.2.2.2.2.2.2.1 l.2.2.1.2.1 l.2.2.1.2.2.2.1 l.2.2.1.2.2.2.2.1 l.2.2.1.2.2.2.2.2.1 l.2.2.2.1 l.2.2.2.2.1 s).runK (lpK K (fun s => ⟨p6.mkL ((((), ((), (l.1.2.2.1, ((), (l.1.2.2.2.2.1, (s, ((), ()))))))), (((), (l.2.1.2.1, (l.2.1.2.2.1, (l.2.1.2.2.2.1, (l.2.1.2.2.2.2.1, (l.2.1.2.2.2.2.2.1, (l.2.1.2.2.2.2.2.2.1, ()))))))), (((), (l.2.2.1.2.1, ((), (l.2.2.1.2.2.2.1, (l.2.2.1.2.2.2.2.1, (l.2.2.1.2.2.2.2.2.1, ((), ()))))))), (l.2.2.2.1, (l.2.2.2.2.1, ()))))) : T6).1, q6.mkH ((((), ((), (l.1.2.2.1, ((), (l.1.2.2.2.2.1, (s, ((), ()))))))), (((), (l.2.1.2.1, (l.2.1.2.2.1, (l.2.1.2.2.2.1, (l.2.1.2.2.2.2.1, (l.2.1.2.2.2.2.2.1, (l.2.1.2.2.2.2.2.2.1, ()))))))), (((), (l.2.2.1.2.1, ((), (l.2.2.1.2.2.2.1, (l.2.2.1.2.2.2.2.1, (l.2.2.1.2.2.2.2.2.1, ((), ()))))))), (l.2.2.2.1, (l.2.2.2.2.1, ()))))) : T6).2, 4⟩) (spS sp1) (ou6 l)) := by kernel_rfl
theorem lk6 (R : Type) (st : St U) (K : Ex → St U → Option R) (r : R) (h : Λ6 R st K = some r) : ∃ n, loopA E (pick (loopsOf body) 6) n st K = some r :=
  lp_ok (U := U) (E := E) (b := pick (loopsOf body) 6) (m := 4) (sp := (spS sp1)) (p := p6) (q := q6) (X := (Unit ⊕ Int)) (S := Int) (f := fun (l : T6) s => l6 l.1.2.2.1 l.1.2.2.2.2.1 l.2.1.2.1 l.2.1.2.2.1 l.2.1.2.2.2.1 l.2.1.2.2.2.2.1 l.2.1.2.2.2.2.2.1 l.2.1.2.2.2.2.2.2.1 l.2.2.1.2.1 l.2.2.1.2.2.2.1 l.2.2.1.2.2.2.2.1 l.2.2.1.2.2.2.2.2.1 l.2.2.2.1 l.2.2.2.2.1 s) (hd := fun (l : T6) s => (((), ((), (l.1.2.2.1, ((), (l.1.2.2.2.2.1, (s, ((), ()))))))), (((), (l.2.1.2.1, (l.2.1.2.2.1, (l.2.1.2.2.2.1, (l.2.1.2.2.2.2.1, (l.2.1.2.2.2.2.2.1, (l.2.1.2.2.2.2.2.2.1, ()))))))), (((), (l.2.2.1.2.1, ((), (l.2.2.1.2.2.2.1, (l.2.2.1.2.2.2.2.1, (l.2.2.1.2.2.2.2.2.1, ((), ()))))))), (l.2.2.2.1, (l.2.2.2.2.1, ())))))) (s0 := fun (l : T6) => l.1.2.2.2.2.2.1) (ou := ou6)
    (fun l => rfl) (fun l x => by repeat' (first | rfl | (cases x with | inl => rfl | inr x => ?_))) (spS_ok sp1_ok) hf6 h
theorem hf11 (R : Type) (l : T11) (s : (Int × (Int × (Bool × (Int × (List Int)))))) (K : Ex → St U → Option R) : codeA E (pick (loopsOf body) 11) ⟨p11.mkL ((((), ((), (l.1.2.2.1, ((), (l.1.2.2.2.2.1, ((), (s.1, ((), ())))))))), (((), (l.2.1.2.1, (l.2.1.2.2.1, (l.2.1.2.2.2.1, (l.2.1.2.2.2.2.1, (l.2.1.2.2.2.2.2.1, (l.2.1.2.2.2.2.2.2.1, ()))))))), (((), (l.2.2.1.2.1, ((), (s.2.1, (s.2.2.1, (s.2.2.2.1, ((), ()))))))), (s.2.2.2.2, (l.2.2.2.2.1, ()))))) : T11).1, q11.mkH ((((), ((), (l.1.2.2.1, ((), (l.1.2.2.2.2.1, ((), (s.1, ((), ())))))))), (((), (l.2.1.2.1, (l.2.1.2.2.1, (l.2.1.2.2.2.1, (l.2.1.2.2.2.2.1, (l.2.1.2.2.2.2.2.1, (l.2.1.2.2.2.2.2.2.1, ()))))))), (((), (l.2.2.1.2.1, ((), (s.2.1, (s.2.2.1, (s.2.2.2.1, ((), ()))))))), (s.2.2.2.2, (l.2.2.2.2.1, ()))))) : T11).2, 4⟩ (roundK E (pick (loopsOf body) 11) K) =
  (l11 l.1.2.2.1 l.1.2.2.2.2.1 l.2.1.2.1 l.2.1.2.2.1 l.2.1.2.2.2.1 l.2.1.2.2.2.2.1 l.2.1.2.2.2.2.2.1 l.2.1.2.2.2.2.2.2.1 l.2.2.1.2.1 l.2.2.2.2.1 s.1 s.2.1 s.2.2.1 s.2.2.2.1 s.2.2.2.2).runK (lpK K (fun s => ⟨p11.mkL ((((), ((), (l.1.2.2.1, ((), (l.1.2.2.2.2.1, ((), (s.1, ((), ())))))))), (((), (l.2.1.2.1, (l.2.1.2.2.1, (l.2.1.2.2.2.1, (l.2.1.2.2.2.2.1, (l.2.1.2.2.2.2.2.1, (l.2.1.2.2.2.2.2.2.1, ()))))))), (((), (l.2.2.1.2.1, ((), (s.2.1, (s.2.2.1, (s.2.2.2.1, ((), ()))))))), (s.2.2.2.2, (l.2.2.2.2.1, ()))))) : T11).1, q11.mkH ((((), ((), (l.1.2.2.1, ((), (l.1.2.2.2.2.1, ((), (s.1, ((), ())))))))), (((), (l.2.1.2.1, (l.2.1.2.2.1, (l.2.1.2.2.2.1, (l.2.1.2.2.2.2.1, (l.2.1.2.2.2.2.2.1, (l.2.1.2.2.2.2.2.2.1, ()))))))), (((), (l.2.2.1.2.1, ((), (s.2.1, (s.2.2.1, (s.2.2.2.1, ((), ()))))))), (s.2.2.2.2, (l.2.2.2.2.1, ()))))) : T11).2, 4⟩) (spS sp1) (ou11 l)) := by kernel_rfl
theorem lk11 (R : Type) (st : St U) (K : Ex → St U → Option R) (r : R) (h : Λ11 R st K = some r) : ∃ n, loopA E (pick (loopsOf body) 11) n st K = some r :=
  lp_ok (U := U) (E := E) (b := pick (loopsOf body) 11) (m := 4) (sp := (spS sp1)) (p := p11) (q := q11) (X := ((Int × (Bool × (Int × (List Int)))) ⊕ (Int × (Int × (Bool × (Int × (List Int))))))) (S := (Int × (Int × (Bool × (Int × (List Int)))))) (f := fun (l : T11) s => l11 l.1.2.2.1 l.1.2.2.2.2.1 l.2.1.2.1 l.2.1.2.2.1 l.2.1.2.2.2.1 l.2.1.2.2.2.2.1 l.2.1.2.2.2.2.2.1 l.2.1.2.2.2.2.2.2.1 l.2.2.1.2.1 l.2.2.2.2.1 s.1 s.2.1 s.2.2.1 s.2.2.2.1 s.2.2.2.2) (hd := fun (l : T11) s => (((), ((), (l.1.2.2.1, ((), (l.1.2.2.2.2.1, ((), (s.1, ((), ())))))))), (((), (l.2.1.2.1, (l.2.1.2.2.1, (l.2.1.2.2.2.1, (l.2.1.2.2.2.2.1, (l.2.1.2.2.2.2.2.1, (l.2.1.2.2.2.2.2.2.1, ()))))))), (((), (l.2.2.1.2.1, ((), (s.2.1, (s.2.2.1, (s.2.2.2.1, ((), ()))))))), (s.2.2.2.2, (l.2.2.2.2.1, ())))))) (s0 := fun (l : T11) => (l.1.2.2.2.2.2.2.1, (l.2.2.1.2.2.2.1, (l.2.2.1.2.2.2.2.1, (l.2.2.1.2.2.2.2.2.1, l.2.2.2.1))))) (ou := ou11)
    (fun l => rfl) (fun l x => by repeat' (first | rfl | (cases x with | inl => rfl | inr x => ?_))) (spS_ok sp1_ok) hf11 h
theorem hk (R : Type) (l : TA) (K : AV U → Hp U → Option R) : funcA E Try.f51 [] R (pA.mkL l.1) (pH.mkH l.2) K = (t l.1.2.1 l.1.2.2.1 l.1.2.2.2.1 l.2.1.2.1 l.2.1.2.2.1 l.2.1.2.2.2.1 l.2.1.2.2.2.2.1 l.2.1.2.2.2.2.2.1 l.2.1.2.2.2.2.2.2.1 l.2.2.1.2.1 l.2.2.1.2.2.2.1 l.2.2.1.2.2.2.2.1 l.2.2.1.2.2.2.2.2.1 l.2.2.2.1 l.2.2.2.2.1).runK fun y => K (v l y) (hh l y) := by kernel_rfl
theorem okF : SoundF Try.prog cc 51 (funcA E Try.f51 []) :=
  funcA_ok (E := E) P_mixed (E0_ok.with Γ Λ CT D ro) (gam_of (all_cons ⟨ref09_Drive_bad.ok, ⟨Try.f78, Try.func78, by kernel_rfl, by kernel_rfl⟩⟩ (all_cons ⟨ref01_Bits.ok, ⟨Try.f79, Try.func79, by kernel_rfl, by kernel_rfl⟩⟩ (all_cons ⟨ref07_Flash_Program.ok, ⟨Try.f80, Try.func80, by kernel_rfl, by kernel_rfl⟩⟩ all_nil))) (all_cons (fun _ => ref09_Drive_bad.keep) (all_cons (no_keep (by kernel_rfl)) (all_cons (no_keep (by kernel_rfl)) all_nil)))) Try.func51 (c := body) (by kernel_rfl)
    (just_by (by kernel_rfl) (by kernel_rfl) (all_cons lk6 (all_cons lk11 all_nil)) all_nil) []
theorem ok : SoundF Try.prog cc 51 A :=
  mkA_ok (E := E) (p := pA) (q := pH) (t := fun (l : TA) => t l.1.2.1 l.1.2.2.1 l.1.2.2.2.1 l.2.1.2.1 l.2.1.2.2.1 l.2.1.2.2.2.1 l.2.1.2.2.2.2.1 l.2.1.2.2.2.2.2.1 l.2.1.2.2.2.2.2.2.1 l.2.2.1.2.1 l.2.2.1.2.2.2.1 l.2.2.1.2.2.2.2.1 l.2.2.1.2.2.2.2.2.1 l.2.2.2.1 l.2.2.2.2.1) sp1_ok hk okF
end ref09_Drive_Write

/-! (*instar/instarref09.Drive).Fresh -/
namespace ref09_Drive_Fresh
abbrev TA : Type := ((Unit × (Int × ((List Int) × Unit))) × ((Unit × (Int × (Int × (Int × (Int × (Int × (Int × Unit))))))) × ((Unit × (Int × (Unit × (Int × (Bool × (Int × (Unit × Unit))))))) × ((List Int) × ((List Int) × Unit)))))
noncomputable def t (s_ : Int) (w : (List Int)) (h0_1 h0_2 h0_3 h0_4 h0_5 h0_6 h1_1 h1_3 : Int) (h1_4 : Bool) (h1_5 : Int) (h2 : (List Int)) (h3 : (List Int)) : Tw (Int × (Int × (Bool × (Int × ((List Int) × (List Int)))))) :=
 (.opt (ref09_Drive_bad.c s_ (0 : Int) (((List.length w) : Nat) : Int) h0_1 h0_2 h0_3 h0_4 h0_5 h0_6 h1_1 h1_3 h1_4 h1_5 h2 h3) fun z1 =>
  (.bb (z1 != (0 : Int))
   (.ret (z1, (h1_3, (h1_4, (h1_5, (h2, h3))))))
   (.opt (ref09_Drive_Clean.c s_ h0_1 h0_2 h0_3 h0_4 h0_5 h0_6 h1_1 h1_3 h1_4 h1_5 h2 h3) fun z2 =>
    (.bb (z2.1 != (0 : Int))
     (.ret (z2.1, (z2.2.1, (z2.2.2.1, (z2.2.2.2.1, (z2.2.2.2.2.1, z2.2.2.2.2.2))))))
     (.opt (ref09_Drive_Write.c s_ (0 : Int) w h0_1 h0_2 h0_3 h0_4 h0_5 h0_6 h1_1 z2.2.1 z2.2.2.1 z2.2.2.2.1 z2.2.2.2.2.1 z2.2.2.2.2.2) fun z3 =>
      (.ret (z3.1, (z3.2.1, (z3.2.2.1, (z3.2.2.2.1, (z3.2.2.2.2, z2.2.2.2.2.2)))))))))))
noncomputable def c (s_ : Int) (w : (List Int)) (h0_1 h0_2 h0_3 h0_4 h0_5 h0_6 h1_1 h1_3 : Int) (h1_4 : Bool) (h1_5 : Int) (h2 : (List Int)) (h3 : (List Int)) : Option (Int × (Int × (Bool × (Int × ((List Int) × (List Int)))))) := (t s_ w h0_1 h0_2 h0_3 h0_4 h0_5 h0_6 h1_1 h1_3 h1_4 h1_5 h2 h3).run
def pA : Pt := (.cs (.ptr 0 0) (.cs (.int .i64) (.cs (.sl 3) .nl)))
def pH : Pt := (.cs (.var (.cs (.ptr 1 0) (.cs (.int .i64) (.cs (.int .i64) (.cs (.int .i64) (.cs (.int .i64) (.cs (.int .i64) (.cs (.int .i64) .nl)))))))) (.cs (.var (.cs (.own 2) (.cs (.int .i64) (.cs (.own 3) (.cs (.int .i64) (.cs .bool (.cs (.int .i64) (.cs .nils .nl)))))))) (.cs (.row 3 true) (.cs (.row 1 true) .nl))))
def v (l : TA) (y : (Int × (Int × (Bool × (Int × ((List Int) × (List Int))))))) : AV U := .im (.int .i64 y.1)
def hh (l : TA) (y : (Int × (Int × (Bool × (Int × ((List Int) × (List Int))))))) : Hp U := [.var [.ptr 1 0, .im (.int .i64 l.2.1.2.1), .im (.int .i64 l.2.1.2.2.1), .im (.int .i64 l.2.1.2.2.2.1), .im (.int .i64 l.2.1.2.2.2.2.1), .im (.int .i64 l.2.1.2.2.2.2.2.1), .im (.int .i64 l.2.1.2.2.2.2.2.2.1)], .var [.own 2, .im (.int .i64 l.2.2.1.2.1), .own 3, .im (.int .i64 y.2.1), .im (.bool y.2.2.1), .im (.int .i64 y.2.2.2.1), .im .nils], .row 3 y.2.2.2.2.1 true, .row 1 y.2.2.2.2.2 true]
noncomputable def A : AFun U := mkA (U := U) pA pH (X := (Int × (Int × (Bool × (Int × ((List Int) × (List Int))))))) (fun (l : TA) => c l.1.2.1 l.1.2.2.1 l.2.1.2.1 l.2.1.2.2.1 l.2.1.2.2.2.1 l.2.1.2.2.2.2.1 l.2.1.2.2.2.2.2.1 l.2.1.2.2.2.2.2.2.1 l.2.2.1.2.1 l.2.2.1.2.2.2.1 l.2.2.1.2.2.2.2.1 l.2.2.1.2.2.2.2.2.1 l.2.2.2.1 l.2.2.2.2.1) sp1 v hh
noncomputable def body : Code := (Go.Func.body Try.f75).getD .skip
noncomputable def Γ : List (FuncId × AFun U) := [(78, ref09_Drive_bad.A), (48, ref09_Drive_Clean.A), (51, ref09_Drive_Write.A)]
noncomputable def Λ : List (Nat × LFun U) := []
noncomputable def CT : List (Nat × LFun U) := []
def ro : List FuncId := [78]
def D : Nat → Lv × Lv := dtab []
noncomputable def E : Env U := { E0 with Γ := Γ, Λ := Λ, C := CT, D := D, ro := ro }
theorem hk (R : Type) (l : TA) (K : AV U → Hp U → Option R) : funcA E Try.f75 [] R (pA.mkL l.1) (pH.mkH l.2) K = (t l.1.2.1 l.1.2.2.1 l.2.1.2.1 l.2.1.2.2.1 l.2.1.2.2.2.1 l.2.1.2.2.2.2.1 l.2.1.2.2.2.2.2.1 l.2.1.2.2.2.2.2.2.1 l.2.2.1.2.1 l.2.2.1.2.2.2.1 l.2.2.1.2.2.2.2.1 l.2.2.1.2.2.2.2.2.1 l.2.2.2.1 l.2.2.2.2.1).runK fun y => K (v l y) (hh l y) := by kernel_rfl
theorem okF : SoundF Try.prog cc 75 (funcA E Try.f75 []) :=
  funcA_ok (E := E) P_mixed (E0_ok.with Γ Λ CT D ro) (gam_of (all_cons ⟨ref09_Drive_bad.ok, ⟨Try.f78, Try.func78, by kernel_rfl, by kernel_rfl⟩⟩ (all_cons ⟨ref09_Drive_Clean.ok, ⟨Try.f48, Try.func48, by kernel_rfl, by kernel_rfl⟩⟩ (all_cons ⟨ref09_Drive_Write.ok, ⟨Try.f51, Try.func51, by kernel_rfl, by kernel_rfl⟩⟩ all_nil))) (all_cons (fun _ => ref09_Drive_bad.keep) (all_cons (no_keep (by kernel_rfl)) (all_cons (no_keep (by kernel_rfl)) all_nil)))) Try.func75 (c := body) (by kernel_rfl)
    (just_by (by kernel_rfl) (by kernel_rfl) all_nil all_nil) []
theorem ok : SoundF Try.prog cc 75 A :=
  mkA_ok (E := E) (p := pA) (q := pH) (t := fun (l : TA) => t l.1.2.1 l.1.2.2.1 l.2.1.2.1 l.2.1.2.2.1 l.2.1.2.2.2.1 l.2.1.2.2.2.2.1 l.2.1.2.2.2.2.2.1 l.2.1.2.2.2.2.2.2.1 l.2.2.1.2.1 l.2.2.1.2.2.2.1 l.2.2.1.2.2.2.2.1 l.2.2.1.2.2.2.2.2.1 l.2.2.2.1 l.2.2.2.2.1) sp1_ok hk okF
end ref09_Drive_Fresh

/-! (*instar/instarref09.Drive).bad -/
namespace ref09_Drive_bad_v2
abbrev TA : Type := ((Unit × (Int × (Int × (Int × Unit)))) × ((Unit × (Int × (Int × (Int × (Int × (Int × (Int × Unit))))))) × ((Unit × (Int × (Unit × (Int × (Bool × (Int × (Unit × Unit))))))) × ((List Int) × ((List Int) × ((List Int) × Unit))))))
noncomputable def t (s_ at_ n h0_1 h0_2 h0_3 h0_4 h0_5 h0_6 h1_1 h1_3 : Int) (h1_4 : Bool) (h1_5 : Int) (h2 : (List Int)) (h3 : (List Int)) (h4 : (List Int)) : Tw Int :=
 (.bb (decide (s_ < (0 : Int)))
  (.ret (3 : Int))
  (.opt (ref08_Map.c h0_1 h0_2 h0_3 h0_4 h0_5 h0_6) fun z1 =>
   (.bb (decide (s_ ≥ (((List.length z1) : Nat) : Int)))
    (.ret (3 : Int))
    (.bb (decide (at_ < (0 : Int)))
     (.ret (3 : Int))
     (.bb (decide (at_ > h0_1))
      (.ret (3 : Int))
      (.bb (decide (n < (0 : Int)))
       (.ret (3 : Int))
       (.bb (decide (n > (w64 (h0_1 - at_))))
        (.ret (3 : Int))
        (.bb h1_4
         (.ret (10 : Int))
         (.ret (0 : Int))))))))))
noncomputable def c (s_ at_ n h0_1 h0_2 h0_3 h0_4 h0_5 h0_6 h1_1 h1_3 : Int) (h1_4 : Bool) (h1_5 : Int) (h2 : (List Int)) (h3 : (List Int)) (h4 : (List Int)) : Option Int := (t s_ at_ n h0_1 h0_2 h0_3 h0_4 h0_5 h0_6 h1_1 h1_3 h1_4 h1_5 h2 h3 h4).run
def pA : Pt := (.cs (.ptr 0 0) (.cs (.int .i64) (.cs (.int .i64) (.cs (.int .i64) .nl))))
def pH : Pt := (.cs (.var (.cs (.ptr 1 0) (.cs (.int .i64) (.cs (.int .i64) (.cs (.int .i64) (.cs (.int .i64) (.cs (.int .i64) (.cs (.int .i64) .nl)))))))) (.cs (.var (.cs (.own 2) (.cs (.int .i64) (.cs (.own 3) (.cs (.int .i64) (.cs .bool (.cs (.int .i64) (.cs (.own 4) .nl)))))))) (.cs (.row 3 true) (.cs (.row 1 true) (.cs (.row 3 true) .nl)))))
def v (l : TA) (y : Int) : AV U := .im (.int .i64 y)
def hh (l : TA) (y : Int) : Hp U := [.var [.ptr 1 0, .im (.int .i64 l.2.1.2.1), .im (.int .i64 l.2.1.2.2.1), .im (.int .i64 l.2.1.2.2.2.1), .im (.int .i64 l.2.1.2.2.2.2.1), .im (.int .i64 l.2.1.2.2.2.2.2.1), .im (.int .i64 l.2.1.2.2.2.2.2.2.1)], .var [.own 2, .im (.int .i64 l.2.2.1.2.1), .own 3, .im (.int .i64 l.2.2.1.2.2.2.1), .im (.bool l.2.2.1.2.2.2.2.1), .im (.int .i64 l.2.2.1.2.2.2.2.2.1), .own 4], .row 3 l.2.2.2.1 true, .row 1 l.2.2.2.2.1 true, .row 3 l.2.2.2.2.2.1 true]
noncomputable def A : AFun U := mkA (U := U) pA pH (X := Int) (fun (l : TA) => c l.1.2.1 l.1.2.2.1 l.1.2.2.2.1 l.2.1.2.1 l.2.1.2.2.1 l.2.1.2.2.2.1 l.2.1.2.2.2.2.1 l.2.1.2.2.2.2.2.1 l.2.1.2.2.2.2.2.2.1 l.2.2.1.2.1 l.2.2.1.2.2.2.1 l.2.2.1.2.2.2.2.1 l.2.2.1.2.2.2.2.2.1 l.2.2.2.1 l.2.2.2.2.1 l.2.2.2.2.2.1) sp1 v hh
noncomputable def body : Code := (Go.Func.body Try.f78).getD .skip
noncomputable def Γ : List (FuncId × AFun U) := [(17, ref08_Map.A)]
noncomputable def Λ : List (Nat × LFun U) := []
noncomputable def CT : List (Nat × LFun U) := []
def ro : List FuncId := []
def D : Nat → Lv × Lv := dtab []
noncomputable def E : Env U := { E0 with Γ := Γ, Λ := Λ, C := CT, D := D, ro := ro }
theorem hk (R : Type) (l : TA) (K : AV U → Hp U → Option R) : funcA E Try.f78 [] R (pA.mkL l.1) (pH.mkH l.2) K = (t l.1.2.1 l.1.2.2.1 l.1.2.2.2.1 l.2.1.2.1 l.2.1.2.2.1 l.2.1.2.2.2.1 l.2.1.2.2.2.2.1 l.2.1.2.2.2.2.2.1 l.2.1.2.2.2.2.2.2.1 l.2.2.1.2.1 l.2.2.1.2.2.2.1 l.2.2.1.2.2.2.2.1 l.2.2.1.2.2.2.2.2.1 l.2.2.2.1 l.2.2.2.2.1 l.2.2.2.2.2.1).runK fun y => K (v l y) (hh l y) := by kernel_rfl
theorem okF : SoundF Try.prog cc 78 (funcA E Try.f78 []) :=
  funcA_ok (E := E) P_mixed (E0_ok.with Γ Λ CT D ro) (gam_of (all_cons ⟨ref08_Map.ok, ⟨Try.f17, Try.func17, by kernel_rfl, by kernel_rfl⟩⟩ all_nil) (all_cons (no_keep (by kernel_rfl)) all_nil)) Try.func78 (c := body) (by kernel_rfl)
    (just_by (by kernel_rfl) (by kernel_rfl) all_nil all_nil) []
theorem ok : SoundF Try.prog cc 78 A :=
  mkA_ok (E := E) (p := pA) (q := pH) (t := fun (l : TA) => t l.1.2.1 l.1.2.2.1 l.1.2.2.2.1 l.2.1.2.1 l.2.1.2.2.1 l.2.1.2.2.2.1 l.2.1.2.2.2.2.1 l.2.1.2.2.2.2.2.1 l.2.1.2.2.2.2.2.2.1 l.2.2.1.2.1 l.2.2.1.2.2.2.1 l.2.2.1.2.2.2.2.1 l.2.2.1.2.2.2.2.2.1 l.2.2.2.1 l.2.2.2.2.1 l.2.2.2.2.2.1) sp1_ok hk okF
theorem keep : KeepA A := mkA_keep (U := U) sp1_ok (fun (l : TA) y => ⟨(hh l y).drop 5, by kernel_rfl⟩)
end ref09_Drive_bad_v2

/-! (*instar/instarref09.Drive).Read -/
namespace ref09_Drive_Read_v2
abbrev TA : Type := ((Unit × (Int × (Int × (Int × Unit)))) × ((Unit × (Int × (Int × (Int × (Int × (Int × (Int × Unit))))))) × ((Unit × (Int × (Unit × (Int × (Bool × (Int × (Unit × Unit))))))) × ((List Int) × ((List Int) × ((List Int) × Unit))))))
abbrev T6 : Type := ((Unit × (Int × (Int × (Int × (Unit × (Unit × (Int × (Unit × Unit)))))))) × ((Unit × (Int × (Int × (Int × (Int × (Int × (Int × Unit))))))) × ((Unit × (Int × (Unit × (Int × (Bool × (Int × (Unit × Unit))))))) × ((List Int) × ((List Int) × ((List Int) × ((List Int) × Unit)))))))
noncomputable def l6 (s_ at_ n h0_1 h0_2 h0_3 h0_4 h0_5 h0_6 h1_1 h1_3 : Int) (h1_4 : Bool) (h1_5 : Int) (h2 : (List Int)) (h3 : (List Int)) (h4 : (List Int)) (i : Int) (h5 : (List Int)) : Tw ((Int × (List Int)) ⊕ (List Int)) :=
 (.bb (decide (i < n))
  (.dd ((((0 : Int) ≤ (w64 ((w64 ((w64 (s_ * h0_1)) + at_)) + i))) ∧ ((w64 ((w64 ((w64 (s_ * h0_1)) + at_)) + i)) < (((List.length h2) : Nat) : Int)))) inferInstance
   (.opt (h2)[(Int.toNat (w64 ((w64 ((w64 (s_ * h0_1)) + at_)) + i)))]? fun z2 =>
    (.dd ((((((List.length h5) + (List.length (z2 :: ([] : List (Int))))) * (4 : Nat)) ≤ (140737488355328 : Nat)) ∧ (((List.length h5) + (List.length (z2 :: ([] : List (Int))))) ≤ (140737488355328 : Nat)))) inferInstance
     (.ret (.inl ((w64 (i + (1 : Int))), (h5 ++ (z2 :: ([] : List (Int)))))))
     .no))
   .no)
  (.ret (.inr h5)))
noncomputable def L6 (s_ at_ n i h0_1 h0_2 h0_3 h0_4 h0_5 h0_6 h1_1 h1_3 : Int) (h1_4 : Bool) (h1_5 : Int) (h2 : (List Int)) (h3 : (List Int)) (h4 : (List Int)) (h5 : (List Int)) : Option (List Int) := Lp (fun s => (l6 s_ at_ n h0_1 h0_2 h0_3 h0_4 h0_5 h0_6 h1_1 h1_3 h1_4 h1_5 h2 h3 h4 s.1 s.2).run) (i, h5)
def p6 : Pt := (.cs (.ptr 0 0) (.cs (.int .i64) (.cs (.int .i64) (.cs (.int .i64) (.cs (.bots 7) (.cs (.own 5) (.cs (.int .i64) (.cs (.bots 37) .nl))))))))
def q6 : Pt := (.cs (.var (.cs (.ptr 1 0) (.cs (.int .i64) (.cs (.int .i64) (.cs (.int .i64) (.cs (.int .i64) (.cs (.int .i64) (.cs (.int .i64) .nl)))))))) (.cs (.var (.cs (.own 2) (.cs (.int .i64) (.cs (.own 3) (.cs (.int .i64) (.cs .bool (.cs (.int .i64) (.cs (.own 4) .nl)))))))) (.cs (.row 3 true) (.cs (.row 1 true) (.cs (.row 3 true) (.cs (.row 3 true) .nl))))))
def ou6 (l : T6) (y : (List Int)) : Ex × St U := (.exit 0, stOf 50 [(11, .own 5)] [.var [.ptr 1 0, .im (.int .i64 l.2.1.2.1), .im (.int .i64 l.2.1.2.2.1), .im (.int .i64 l.2.1.2.2.2.1), .im (.int .i64 l.2.1.2.2.2.2.1), .im (.int .i64 l.2.1.2.2.2.2.2.1), .im (.int .i64 l.2.1.2.2.2.2.2.2.1)], .var [.own 2, .im (.int .i64 l.2.2.1.2.1), .own 3, .im (.int .i64 l.2.2.1.2.2.2.1), .im (.bool l.2.2.1.2.2.2.2.1), .im (.int .i64 l.2.2.1.2.2.2.2.2.1), .own 4], .row 3 l.2.2.2.1 true, .row 1 l.2.2.2.2.1 true, .row 3 l.2.2.2.2.2.1 true, .row 3 y true] 5)
noncomputable def Λ6 : LFun U := mkLp (U := U) p6 q6 5 (X := (List Int)) (fun (l : T6) => L6 l.1.2.1 l.1.2.2.1 l.1.2.2.2.1 l.1.2.2.2.2.2.2.1 l.2.1.2.1 l.2.1.2.2.1 l.2.1.2.2.2.1 l.2.1.2.2.2.2.1 l.2.1.2.2.2.2.2.1 l.2.1.2.2.2.2.2.2.1 l.2.2.1.2.1 l.2.2.1.2.2.2.1 l.2.2.1.2.2.2.2.1 l.2.2.1.2.2.2.2.2.1 l.2.2.2.1 l.2.2.2.2.1 l.2.2.2.2.2.1 l.2.2.2.2.2.2.1) sp1 ou6
noncomputable def t (s_ at_ n h0_1 h0_2 h0_3 h0_4 h0_5 h0_6 h1_1 h1_3 : Int) (h1_4 : Bool) (h1_5 : Int) (h2 : (List Int)) (h3 : (List Int)) (h4 : (List Int)) : Tw (Int × (List Int)) :=
 (.opt (ref09_Drive_bad_v2.c s_ at_ n h0_1 h0_2 h0_3 h0_4 h0_5 h0_6 h1_1 h1_3 h1_4 h1_5 h2 h3 h4) fun z1 =>
  (.bb (z1 != (0 : Int))
   (.ret (z1, ([] : List (Int))))
   (.opt (L6 s_ at_ n (0 : Int) h0_1 h0_2 h0_3 h0_4 h0_5 h0_6 h1_1 h1_3 h1_4 h1_5 h2 h3 h4 ([] : List (Int))) fun z3 =>
    (.ret ((0 : Int), z3)))))
noncomputable def c (s_ at_ n h0_1 h0_2 h0_3 h0_4 h0_5 h0_6 h1_1 h1_3 : Int) (h1_4 : Bool) (h1_5 : Int) (h2 : (List Int)) (h3 : (List Int)) (h4 : (List Int)) : Option (Int × (List Int)) := (t s_ at_ n h0_1 h0_2 h0_3 h0_4 h0_5 h0_6 h1_1 h1_3 h1_4 h1_5 h2 h3 h4).run
def pA : Pt := (.cs (.ptr 0 0) (.cs (.int .i64) (.cs (.int .i64) (.cs (.int .i64) .nl))))
def pH : Pt := (.cs (.var (.cs (.ptr 1 0) (.cs (.int .i64) (.cs (.int .i64) (.cs (.int .i64) (.cs (.int .i64) (.cs (.int .i64) (.cs (.int .i64) .nl)))))))) (.cs (.var (.cs (.own 2) (.cs (.int .i64) (.cs (.own 3) (.cs (.int .i64) (.cs .bool (.cs (.int .i64) (.cs (.own 4) .nl)))))))) (.cs (.row 3 true) (.cs (.row 1 true) (.cs (.row 3 true) .nl)))))
def v (l : TA) (y : (Int × (List Int))) : AV U := .tup [.own 5, .im (.int .i64 y.1)]
def hh (l : TA) (y : (Int × (List Int))) : Hp U := [.var [.ptr 1 0, .im (.int .i64 l.2.1.2.1), .im (.int .i64 l.2.1.2.2.1), .im (.int .i64 l.2.1.2.2.2.1), .im (.int .i64 l.2.1.2.2.2.2.1), .im (.int .i64 l.2.1.2.2.2.2.2.1), .im (.int .i64 l.2.1.2.2.2.2.2.2.1)], .var [.own 2, .im (.int .i64 l.2.2.1.2.1), .own 3, .im (.int .i64 l.2.2.1.2.2.2.1), .im (.bool l.2.2.1.2.2.2.2.1), .im (.int .i64 l.2.2.1.2.2.2.2.2.1), .own 4], .row 3 l.2.2.2.1 true, .row 1 l.2.2.2.2.1 true, .row 3 l.2.2.2.2.2.1 true, .row 3 y.2 true]
noncomputable def A : AFun U := mkA (U := U) pA pH (X := (Int × (List Int))) (fun (l : TA) => c l.1.2.1 l.1.2.2.1 l.1.2.2.2.1 l.2.1.2.1 l.2.1.2.2.1 l.2.1.2.2.2.1 l.2.1.2.2.2.2.1 l.2.1.2.2.2.2.2.1 l.2.1.2.2.2.2.2.2.1 l.2.2.1.2.1 l.2.2.1.2.2.2.1 l.2.2.1.2.2.2.2.1 l.2.2.1.2.2.2.2.2.1 l.2.2.2.1 l.2.2.2.2.1 l.2.2.2.2.2.1) sp1 v hh
noncomputable def body : Code := (Go.Func.body Try.f97).getD .skip
noncomputable def Γ : List (FuncId × AFun U) := [(78, ref09_Drive_bad_v2.A)]
noncomputable def Λ : List (Nat × LFun U) := [(6, Λ6)]
noncomputable def CT : List (Nat × LFun U) := []
def ro : List FuncId := [78]
def D : Nat → Lv × Lv := dtab [(6, ⟨[12, 2, 0, 1, 11, 3], [(11, [], .own 3)]⟩, ⟨[8, 9, 11], []⟩)]
noncomputable def E : Env U := { E0 with Γ := Γ, Λ := Λ, C := CT, D := D, ro := ro }
theorem hf6 (R : Type) (l : T6) (s : (Int × (List Int))) (K : Ex → St U → Option R) : codeA E (pick (loopsOf body) 6) ⟨p6.mkL ((((), (l.1.2.1, (l.1.2.2.1, (l.1.2.2.2.1, ((), ((), (s.1, ((), ())))))))), (((), (l.2.1.2.1, (l.2.1.2.2.1, (l.2.1.2.2.2.1, (l.2.1.2.2.2.2.1, (l.2.1.2.2.2.2.2.1, (l.2.1.2.2.2.2.2.2.1, ()))))))), (((), (l.2.2.1.2.1, ((), (l.2.2.1.2.2.2.1, (l.2.2.1.2.2.2.2.1, (l.2.2.1.2.2.2.2.2.1, ((), ()))))))), (l.2.2.2.1, (l.2.2.2.2.1, (l.2.2.2.2.2.1, (s.2, ()))))))) : T6).1, q6.mkH ((((), (l.1.2.1, (l.1.2.2.1, (l.1.2.2.2.1, ((), ((), (s.1, ((), ())))))))), (((), (l.2.1.2.1, (l.2.1.2.2.1, (l.2.1.2.2.2.1, (l.2.1.2.2.2.2.1, (l.2.1.2.2.2.2.2.1, (l.2.1.2.2.2.2.2.2.1, ()))))))), (((), (l.2.2.1.2.1, ((), (l.2.2.1.2.2.2.1, (l.2.2.1.2.2.2.2.1, (l.2.2.1.2.2.2.2.2.1, ((), ()))))))), (l.2.2.2.1, (l.2.2.2.2.1, (l.2.2.2.2.2.1, (s.2, ()))))))) : T6).2, 5⟩ (roundK E (pick (loopsOf body) 6) K) =
  (l6 l.1.2.1 l.1.2.2.1 l.1.2.2.2.1 l.2.1.2.1 l.2.1.2.2.1 l.2.1.2.2.2.1 l.2.1.2.2.2.2.1 l.2.1.2.2.2.2.2.1 l.2.1.2.2.2.2.2.2.1 l.2.2.1.2.1 l.2.2.1.2.2.2.1 l.2.2.1.2.2.2.2.1 l.2.2.1.2.2.2.2.2.1 l.2.2.2.1 l.2.2.2.2.1 l.2.2.2.2.2.1 s.1 s.2).runK (lpK K (fun s => ⟨p6.mkL ((((), (l.1.2.1, (l.1.2.2.1, (l.1.2.2.2.1, ((), ((), (s.1, ((), ())))))))), (((), (l.2.1.2.1, (l.2.1.2.2.1, (l.2.1.2.2.2.1, (l.2.1.2.2.2.2.1, (l.2.1.2.2.2.2.2.1, (l.2.1.2.2.2.2.2.2.1, ()))))))), (((), (l.2.2.1.2.1, ((), (l.2.2.1.2.2.2.1, (l.2.2.1.2.2.2.2.1, (l.2.2.1.2.2.2.2.2.1, ((), ()))))))), (l.2.2.2.1, (l.2.2.2.2.1, (l.2.2.2.2.2.1, (s.2, ()))))))) : T6).1, q6.mkH ((((), (l.1.2.1, (l.1.2.2.1, (l.1.2.2.2.1, ((), ((), (s.1, ((), ())))))))), (((), (l.2.1.2.1, (l.2.1.2.2.1, (l.2.1.2.2.2.1, (l.2.1.2.2.2.2.1, (l.2.1.2.2.2.2.2.1, (l.2.1.2.2.2.2.2.2.1, ()))))))), (((), (l.2.2.1.2.1, ((), (l.2.2.1.2.2.2.1, (l.2.2.1.2.2.2.2.1, (l.2.2.1.2.2.2.2.2.1, ((), ()))))))), (l.2.2.2.1, (l.2.2.2.2.1, (l.2.2.2.2.2.1, (s.2, ()))))))) : T6).2, 5⟩) sp1 (ou6 l)) := by kernel_rfl
theorem lk6 (R : Type) (st : St U) (K : Ex → St U → Option R) (r : R) (h : Λ6 R st K = some r) : ∃ n, loopA E (pick (loopsOf body) 6) n st K = some r :=
  lp_ok (U := U) (E := E) (b := pick (loopsOf body) 6) (m := 5) (sp := sp1) (p := p6) (q := q6) (X := (List Int)) (S := (Int × (List Int))) (f := fun (l : T6) s => l6 l.1.2.1 l.1.2.2.1 l.1.2.2.2.1 l.2.1.2.1 l.2.1.2.2.1 l.2.1.2.2.2.1 l.2.1.2.2.2.2.1 l.2.1.2.2.2.2.2.1 l.2.1.2.2.2.2.2.2.1 l.2.2.1.2.1 l.2.2.1.2.2.2.1 l.2.2.1.2.2.2.2.1 l.2.2.1.2.2.2.2.2.1 l.2.2.2.1 l.2.2.2.2.1 l.2.2.2.2.2.1 s.1 s.2) (hd := fun (l : T6) s => (((), (l.1.2.1, (l.1.2.2.1, (l.1.2.2.2.1, ((), ((), (s.1, ((), ())))))))), (((), (l.2.1.2.1, (l.2.1.2.2.1, (l.2.1.2.2.2.1, (l.2.1.2.2.2.2.1, (l.2.1.2.2.2.2.2.1, (l.2.1.2.2.2.2.2.2.1, ()))))))), (((), (l.2.2.1.2.1, ((), (l.2.2.1.2.2.2.1, (l.2.2.1.2.2.2.2.1, (l.2.2.1.2.2.2.2.2.1, ((), ()))))))), (l.2.2.2.1, (l.2.2.2.2.1, (l.2.2.2.2.2.1, (s.2, ())))))))) (s0 := fun (l : T6) => (l.1.2.2.2.2.2.2.1, l.2.2.2.2.2.2.1)) (ou := ou6)
    (fun l => rfl) (fun l x => by rfl) sp1_ok hf6 h
theorem hk (R : Type) (l : TA) (K : AV U → Hp U → Option R) : funcA E Try.f97 [(0, [], .own 3)] R (pA.mkL l.1) (pH.mkH l.2) K = (t l.1.2.1 l.1.2.2.1 l.1.2.2.2.1 l.2.1.2.1 l.2.1.2.2.1 l.2.1.2.2.2.1 l.2.1.2.2.2.2.1 l.2.1.2.2.2.2.2.1 l.2.1.2.2.2.2.2.2.1 l.2.2.1.2.1 l.2.2.1.2.2.2.1 l.2.2.1.2.2.2.2.1 l.2.2.1.2.2.2.2.2.1 l.2.2.2.1 l.2.2.2.2.1 l.2.2.2.2.2.1).runK fun y => K (v l y) (hh l y) := by kernel_rfl
theorem okF : SoundF Try.prog cc 97 (funcA E Try.f97 [(0, [], .own 3)]) :=
  funcA_ok (E := E) P_mixed (E0_ok.with Γ Λ CT D ro) (gam_of (all_cons ⟨ref09_Drive_bad_v2.ok, ⟨Try.f78, Try.func78, by kernel_rfl, by kernel_rfl⟩⟩ all_nil) (all_cons (fun _ => ref09_Drive_bad_v2.keep) all_nil)) Try.func97 (c := body) (by kernel_rfl)
    (just_by (by kernel_rfl) (by kernel_rfl) (all_cons lk6 all_nil) all_nil) [(0, [], .own 3)]
theorem ok : SoundF Try.prog cc 97 A :=
  mkA_ok (E := E) (p := pA) (q := pH) (t := fun (l : TA) => t l.1.2.1 l.1.2.2.1 l.1.2.2.2.1 l.2.1.2.1 l.2.1.2.2.1 l.2.1.2.2.2.1 l.2.1.2.2.2.2.1 l.2.1.2.2.2.2.2.1 l.2.1.2.2.2.2.2.2.1 l.2.2.1.2.1 l.2.2.1.2.2.2.1 l.2.2.1.2.2.2.2.1 l.2.2.1.2.2.2.2.2.1 l.2.2.2.1 l.2.2.2.2.1 l.2.2.2.2.2.1) sp1_ok hk okF
theorem keep : KeepA A := mkA_keep (U := U) sp1_ok (fun (l : TA) y => ⟨(hh l y).drop 5, by kernel_rfl⟩)
end ref09_Drive_Read_v2

/-! (*instar/instarref09.Drive).Blank -/
namespace ref09_Drive_Blank_v2
abbrev TA : Type := ((Unit × (Int × (Int × Unit))) × ((Unit × (Int × (Int × (Int × (Int × (Int × (Int × Unit))))))) × ((Unit × (Int × (Unit × (Int × (Bool × (Int × (Unit × Unit))))))) × ((List Int) × ((List Int) × ((List Int) × Unit))))))
abbrev T5 : Type := ((Unit × (Unit × (Int × (Int × (Unit × Unit))))) × ((Unit × (Int × (Int × (Int × (Int × (Int × (Int × Unit))))))) × ((Unit × (Int × (Unit × (Int × (Bool × (Int × (Unit × Unit))))))) × ((List Int) × ((List Int) × ((List Int) × ((List Int) × Unit)))))))
noncomputable def l5 (e h0_1 h0_2 h0_3 h0_4 h0_5 h0_6 h1_1 h1_3 : Int) (h1_4 : Bool) (h1_5 : Int) (h2 : (List Int)) (h3 : (List Int)) (h4 : (List Int)) (h5 : (List Int)) (i : Int) : Tw (Int ⊕ (Unit ⊕ Bool)) :=
 (.bb (decide (i < (((List.length h5) : Nat) : Int)))
  (.dd ((((0 : Int) ≤ i) ∧ (i < (((List.length h5) : Nat) : Int)))) inferInstance
   (.opt (h5)[(Int.toNat i)]? fun z2 =>
    (.bb (z2 != (4294967295 : Int))
     (.ret (.inr (.inr false)))
     (.ret (.inl (w64 (i + (1 : Int)))))))
   .no)
  (.ret (.inr (.inl ()))))
noncomputable def L5 (e i h0_1 h0_2 h0_3 h0_4 h0_5 h0_6 h1_1 h1_3 : Int) (h1_4 : Bool) (h1_5 : Int) (h2 : (List Int)) (h3 : (List Int)) (h4 : (List Int)) (h5 : (List Int)) : Option (Unit ⊕ Bool) := Lp (fun s => (l5 e h0_1 h0_2 h0_3 h0_4 h0_5 h0_6 h1_1 h1_3 h1_4 h1_5 h2 h3 h4 h5 s).run) i
def p5 : Pt := (.cs (.bots 8) (.cs (.own 5) (.cs (.int .i64) (.cs (.int .i64) (.cs (.bots 40) .nl)))))
def q5 : Pt := (.cs (.var (.cs (.ptr 1 0) (.cs (.int .i64) (.cs (.int .i64) (.cs (.int .i64) (.cs (.int .i64) (.cs (.int .i64) (.cs (.int .i64) .nl)))))))) (.cs (.var (.cs (.own 2) (.cs (.int .i64) (.cs (.own 3) (.cs (.int .i64) (.cs .bool (.cs (.int .i64) (.cs (.own 4) .nl)))))))) (.cs (.row 3 true) (.cs (.row 1 true) (.cs (.row 3 true) (.cs (.row 3 true) .nl))))))
def ou5 (l : T5) (y : (Unit ⊕ Bool)) : Ex × St U := (Sum.elim (fun a0 => (.exit 0, stOf 51 [(9, .im (.int .i64 l.1.2.2.1))] [.var [.ptr 1 0, .im (.int .i64 l.2.1.2.1), .im (.int .i64 l.2.1.2.2.1), .im (.int .i64 l.2.1.2.2.2.1), .im (.int .i64 l.2.1.2.2.2.2.1), .im (.int .i64 l.2.1.2.2.2.2.2.1), .im (.int .i64 l.2.1.2.2.2.2.2.2.1)], .var [.own 2, .im (.int .i64 l.2.2.1.2.1), .own 3, .im (.int .i64 l.2.2.1.2.2.2.1), .im (.bool l.2.2.1.2.2.2.2.1), .im (.int .i64 l.2.2.1.2.2.2.2.2.1), .own 4], .row 3 l.2.2.2.1 true, .row 1 l.2.2.2.2.1 true, .row 3 l.2.2.2.2.2.1 true] 5)) (fun b0 => (.ret, stOf 51 [(6, .im (.bool b0)), (7, .im (.int .i64 l.1.2.2.1)), (9, .im (.int .i64 l.1.2.2.1))] [.var [.ptr 1 0, .im (.int .i64 l.2.1.2.1), .im (.int .i64 l.2.1.2.2.1), .im (.int .i64 l.2.1.2.2.2.1), .im (.int .i64 l.2.1.2.2.2.2.1), .im (.int .i64 l.2.1.2.2.2.2.2.1), .im (.int .i64 l.2.1.2.2.2.2.2.2.1)], .var [.own 2, .im (.int .i64 l.2.2.1.2.1), .own 3, .im (.int .i64 l.2.2.1.2.2.2.1), .im (.bool l.2.2.1.2.2.2.2.1), .im (.int .i64 l.2.2.1.2.2.2.2.2.1), .own 4], .row 3 l.2.2.2.1 true, .row 1 l.2.2.2.2.1 true, .row 3 l.2.2.2.2.2.1 true] 5)) y)
noncomputable def Λ5 : LFun U := mkLp (U := U) p5 q5 5 (X := (Unit ⊕ Bool)) (fun (l : T5) => L5 l.1.2.2.1 l.1.2.2.2.1 l.2.1.2.1 l.2.1.2.2.1 l.2.1.2.2.2.1 l.2.1.2.2.2.2.1 l.2.1.2.2.2.2.2.1 l.2.1.2.2.2.2.2.2.1 l.2.2.1.2.1 l.2.2.1.2.2.2.1 l.2.2.1.2.2.2.2.1 l.2.2.1.2.2.2.2.2.1 l.2.2.2.1 l.2.2.2.2.1 l.2.2.2.2.2.1 l.2.2.2.2.2.2.1) (spS sp1) ou5
noncomputable def t (s_ at_ h0_1 h0_2 h0_3 h0_4 h0_5 h0_6 h1_1 h1_3 : Int) (h1_4 : Bool) (h1_5 : Int) (h2 : (List Int)) (h3 : (List Int)) (h4 : (List Int)) : Tw (Bool × Int) :=
 (.bb (decide (at_ < (0 : Int)))
  (.ret (false, (3 : Int)))
  (.bb (decide (at_ > h0_1))
   (.ret (false, (3 : Int)))
   (.opt (ref09_Drive_Read_v2.c s_ at_ (w64 (h0_1 - at_)) h0_1 h0_2 h0_3 h0_4 h0_5 h0_6 h1_1 h1_3 h1_4 h1_5 h2 h3 h4) fun z1 =>
    (.opt (L5 z1.1 (0 : Int) h0_1 h0_2 h0_3 h0_4 h0_5 h0_6 h1_1 h1_3 h1_4 h1_5 h2 h3 h4 z1.2) fun z3 =>
     (.sm z3
      (fun z4 => (.ret ((z1.1 == (0 : Int)), z1.1)))
      (fun z5 => (.ret (z5, z1.1))))))))
noncomputable def c (s_ at_ h0_1 h0_2 h0_3 h0_4 h0_5 h0_6 h1_1 h1_3 : Int) (h1_4 : Bool) (h1_5 : Int) (h2 : (List Int)) (h3 : (List Int)) (h4 : (List Int)) : Option (Bool × Int) := (t s_ at_ h0_1 h0_2 h0_3 h0_4 h0_5 h0_6 h1_1 h1_3 h1_4 h1_5 h2 h3 h4).run
def pA : Pt := (.cs (.ptr 0 0) (.cs (.int .i64) (.cs (.int .i64) .nl)))
def pH : Pt := (.cs (.var (.cs (.ptr 1 0) (.cs (.int .i64) (.cs (.int .i64) (.cs (.int .i64) (.cs (.int .i64) (.cs (.int .i64) (.cs (.int .i64) .nl)))))))) (.cs (.var (.cs (.own 2) (.cs (.int .i64) (.cs (.own 3) (.cs (.int .i64) (.cs .bool (.cs (.int .i64) (.cs (.own 4) .nl)))))))) (.cs (.row 3 true) (.cs (.row 1 true) (.cs (.row 3 true) .nl)))))
def v (l : TA) (y : (Bool × Int)) : AV U := .tup [.im (.bool y.1), .im (.int .i64 y.2)]
def hh (l : TA) (y : (Bool × Int)) : Hp U := [.var [.ptr 1 0, .im (.int .i64 l.2.1.2.1), .im (.int .i64 l.2.1.2.2.1), .im (.int .i64 l.2.1.2.2.2.1), .im (.int .i64 l.2.1.2.2.2.2.1), .im (.int .i64 l.2.1.2.2.2.2.2.1), .im (.int .i64 l.2.1.2.2.2.2.2.2.1)], .var [.own 2, .im (.int .i64 l.2.2.1.2.1), .own 3, .im (.int .i64 l.2.2.1.2.2.2.1), .im (.bool l.2.2.1.2.2.2.2.1), .im (.int .i64 l.2.2.1.2.2.2.2.2.1), .own 4], .row 3 l.2.2.2.1 true, .row 1 l.2.2.2.2.1 true, .row 3 l.2.2.2.2.2.1 true]
noncomputable def A : AFun U := mkA (U := U) pA pH (X := (Bool × Int)) (fun (l : TA) => c l.1.2.1 l.1.2.2.1 l.2.1.2.1 l.2.1.2.2.1 l.2.1.2.2.2.1 l.2.1.2.2.2.2.1 l.2.1.2.2.2.2.2.1 l.2.1.2.2.2.2.2.2.1 l.2.2.1.2.1 l.2.2.1.2.2.2.1 l.2.2.1.2.2.2.2.1 l.2.2.1.2.2.2.2.2.1 l.2.2.2.1 l.2.2.2.2.1 l.2.2.2.2.2.1) sp1 v hh
noncomputable def body : Code := (Go.Func.body Try.f73).getD .skip
noncomputable def Γ : List (FuncId × AFun U) := [(97, ref09_Drive_Read_v2.A)]
noncomputable def Λ : List (Nat × LFun U) := [(5, Λ5)]
noncomputable def CT : List (Nat × LFun U) := []
def ro : List FuncId := [97]
def D : Nat → Lv × Lv := dtab [(5, ⟨[9, 10, 8], []⟩, ⟨[6, 7, 9], []⟩)]
noncomputable def E : Env U := { E0 with Γ := Γ, Λ := Λ, C := CT, D := D, ro := ro }
theorem hf5 (R : Type) (l : T5) (s : Int) (K : Ex → St U → Option R) : codeA E (pick (loopsOf body) 5) ⟨p5.mkL ((((), ((), (l.1.2.2.1, (s, ((), ()))))), (((), (l.2.1.2.1, (l.2.1.2.2.1, (l.2.1.2.2.2.1, (l.2.1.2.2.2.2.1, (l.2.1.2.2.2.2.2.1, (l.2.1.2.2.2.2.2.2.1, ()))))))), (((), (l.2.2.1.2.1, ((), (l.2.2.1.2.2.2.1, (l.2.2.1.2.2.2.2.1, (l.2.2.1.2.2.2.2.2.1, ((), ()))))))), (l.2.2.2.1, (l.2.2.2.2.1, (l.2.2.2.2.2.1, (l.2.2.2.2.2.2.1, ()))))))) : T5).1, q5.mkH ((((), ((), (l.1.2.2.1, (s, ((), ()))))), (((), (l.2.1.2.1, (l.2.1.2.2.1, (l.2.1.2.2.2.1, (l.2.1.2.2.2.2.1, (l.2.1.2.2.2.2.2.1, (l.2.1.2.2.2.2.2.2.1, ()))))))), (((), (l.2.2.1.2.1, ((), (l.2.2.1.2.2.2.1, (l.2.2.1.2.2.2.2.1, (l.2.2.1.2.2.2.2.2.1, ((), ()))))))), (l.2.2.2.1, (l.2.2.2.2.1, (l.2.2.2.2.2.1, (l.2.2.2.2.2.2.1, ()))))))) : T5).2, 5⟩ (roundK E (pick (loopsOf body) 5) K) =
  (l5 l.1.2.2.1 l.2.1.2.1 l.2.1.2.2.1 l.2.1.2.2.2.1 l.2.1.2.2.2.2.1 l.2.1.2.2.2.2.2.1 l.2.1.2.2.2.2.2.2.1 l.2.2.1.2.1 l.2.2.1.2.2.2.1 l.2.2.1.2.2.2.2.1 l.2.2.1.2.2.2.2.2.1 l.2.2.2.1 l.2.2.2.2.1 l.2.2.2.2.2.1 l.2.2.2.2.2.2.1 s).runK (lpK K (fun s => ⟨p5.mkL ((((), ((), (l.1.2.2.1, (s, ((), ()))))), (((), (l.2.1.2.1, (l.2.1.2.2.1, (l.2.1.2.2.2.1, (l.2.1.2.2.2.2.1, (l.2.1.2.2.2.2.2.1, (l.2.1.2.2.2.2.2.2.1, ()))))))), (((), (l.2.2.1.2.1, ((), (l.2.2.1.2.2.2.1, (l.2.2.1.2.2.2.2.1, (l.2.2.1.2.2.2.2.2.1, ((), ()))))))), (l.2.2.2.1, (l.2.2.2.2.1, (l.2.2.2.2.2.1, (l.2.2.2.2.2.2.1, ()))))))) : T5).1, q5.mkH ((((), ((), (l.1.2.2.1, (s, ((), ()))))), (((), (l.2.1.2.1, (l.2.1.2.2.1, (l.2.1.2.2.2.1, (l.2.1.2.2.2.2.1, (l.2.1.2.2.2.2.2.1, (l.2.1.2.2.2.2.2.2.1, ()))))))), (((), (l.2.2.1.2.1, ((), (l.2.2.1.2.2.2.1, (l.2.2.1.2.2.2.2.1, (l.2.2.1.2.2.2.2.2.1, ((), ()))))))), (l.2.2.2.1, (l.2.2.2.2.1, (l.2.2.2.2.2.1, (l.2.2.2.2.2.2.1, ()))))))) : T5).2, 5⟩) (spS sp1) (ou5 l)) := by kernel_rfl
theorem lk5 (R : Type) (st : St U) (K : Ex → St U → Option R) (r : R) (h : Λ5 R st K = some r) : ∃ n, loopA E (pick (loopsOf body) 5) n st K = some r :=
  lp_ok (U := U) (E := E) (b := pick (loopsOf body) 5) (m := 5) (sp := (spS sp1)) (p := p5) (q := q5) (X := (Unit ⊕ Bool)) (S := Int) (f := fun (l : T5) s => l5 l.1.2.2.1 l.2.1.2.1 l.2.1.2.2.1 l.2.1.2.2.2.1 l.2.1.2.2.2.2.1 l.2.1.2.2.2.2.2.1 l.2.1.2.2.2.2.2.2.1 l.2.2.1.2.1 l.2.2.1.2.2.2.1 l.2.2.1.2.2.2.2.1 l.2.2.1.2.2.2.2.2.1 l.2.2.2.1 l.2.2.2.2.1 l.2.2.2.2.2.1 l.2.2.2.2.2.2.1 s) (hd := fun (l : T5) s => (((), ((), (l.1.2.2.1, (s, ((), ()))))), (((), (l.2.1.2.1, (l.2.1.2.2.1, (l.2.1.2.2.2.1, (l.2.1.2.2.2.2.1, (l.2.1.2.2.2.2.2.1, (l.2.1.2.2.2.2.2.2.1, ()))))))), (((), (l.2.2.1.2.1, ((), (l.2.2.1.2.2.2.1, (l.2.2.1.2.2.2.2.1, (l.2.2.1.2.2.2.2.2.1, ((), ()))))))), (l.2.2.2.1, (l.2.2.2.2.1, (l.2.2.2.2.2.1, (l.2.2.2.2.2.2.1, ())))))))) (s0 := fun (l : T5) => l.1.2.2.2.1) (ou := ou5)
    (fun l => rfl) (fun l x => by repeat' (first | rfl | (cases x with | inl => rfl | inr x => ?_))) (spS_ok sp1_ok) hf5 h
theorem hk (R : Type) (l : TA) (K : AV U → Hp U → Option R) : funcA E Try.f73 [] R (pA.mkL l.1) (pH.mkH l.2) K = (t l.1.2.1 l.1.2.2.1 l.2.1.2.1 l.2.1.2.2.1 l.2.1.2.2.2.1 l.2.1.2.2.2.2.1 l.2.1.2.2.2.2.2.1 l.2.1.2.2.2.2.2.2.1 l.2.2.1.2.1 l.2.2.1.2.2.2.1 l.2.2.1.2.2.2.2.1 l.2.2.1.2.2.2.2.2.1 l.2.2.2.1 l.2.2.2.2.1 l.2.2.2.2.2.1).runK fun y => K (v l y) (hh l y) := by kernel_rfl
theorem okF : SoundF Try.prog cc 73 (funcA E Try.f73 []) :=
  funcA_ok (E := E) P_mixed (E0_ok.with Γ Λ CT D ro) (gam_of (all_cons ⟨ref09_Drive_Read_v2.ok, ⟨Try.f97, Try.func97, by kernel_rfl, by kernel_rfl⟩⟩ all_nil) (all_cons (fun _ => ref09_Drive_Read_v2.keep) all_nil)) Try.func73 (c := body) (by kernel_rfl)
    (just_by (by kernel_rfl) (by kernel_rfl) (all_cons lk5 all_nil) all_nil) []
theorem ok : SoundF Try.prog cc 73 A :=
  mkA_ok (E := E) (p := pA) (q := pH) (t := fun (l : TA) => t l.1.2.1 l.1.2.2.1 l.2.1.2.1 l.2.1.2.2.1 l.2.1.2.2.2.1 l.2.1.2.2.2.2.1 l.2.1.2.2.2.2.2.1 l.2.1.2.2.2.2.2.2.1 l.2.2.1.2.1 l.2.2.1.2.2.2.1 l.2.2.1.2.2.2.2.1 l.2.2.1.2.2.2.2.2.1 l.2.2.2.1 l.2.2.2.2.1 l.2.2.2.2.2.1) sp1_ok hk okF
theorem keep : KeepA A := mkA_keep (U := U) sp1_ok (fun (l : TA) y => ⟨(hh l y).drop 5, by kernel_rfl⟩)
end ref09_Drive_Blank_v2

/-! (*instar/instarref09.Drive).Clean -/
namespace ref09_Drive_Clean_v2
abbrev TA : Type := ((Unit × (Int × Unit)) × ((Unit × (Int × (Int × (Int × (Int × (Int × (Int × Unit))))))) × ((Unit × (Int × (Unit × (Int × (Bool × (Int × (Unit × Unit))))))) × ((List Int) × ((List Int) × ((List Int) × Unit))))))
noncomputable def t (s_ h0_1 h0_2 h0_3 h0_4 h0_5 h0_6 h1_1 h1_3 : Int) (h1_4 : Bool) (h1_5 : Int) (h2 : (List Int)) (h3 : (List Int)) (h4 : (List Int)) : Tw (Int × (Int × (Bool × (Int × ((List Int) × (List Int)))))) :=
 (.opt (ref09_Drive_Blank_v2.c s_ (0 : Int) h0_1 h0_2 h0_3 h0_4 h0_5 h0_6 h1_1 h1_3 h1_4 h1_5 h2 h3 h4) fun z1 =>
  (.bb (z1.2 != (0 : Int))
   (.ret (z1.2, (h1_3, (h1_4, (h1_5, (h2, h3))))))
   (.bb z1.1
    (.ret (z1.2, (h1_3, (h1_4, (h1_5, (h2, h3))))))
    (.opt (ref07_Flash_Erase_v2.c s_ h1_1 h1_3 h1_4 h1_5 h2 h3 h4) fun z2 =>
     (.ret (z2.1, (z2.2.1, (z2.2.2.1, (z2.2.2.2.1, (z2.2.2.2.2.1, z2.2.2.2.2.2))))))))))
noncomputable def c (s_ h0_1 h0_2 h0_3 h0_4 h0_5 h0_6 h1_1 h1_3 : Int) (h1_4 : Bool) (h1_5 : Int) (h2 : (List Int)) (h3 : (List Int)) (h4 : (List Int)) : Option (Int × (Int × (Bool × (Int × ((List Int) × (List Int)))))) := (t s_ h0_1 h0_2 h0_3 h0_4 h0_5 h0_6 h1_1 h1_3 h1_4 h1_5 h2 h3 h4).run
def pA : Pt := (.cs (.ptr 0 0) (.cs (.int .i64) .nl))
def pH : Pt := (.cs (.var (.cs (.ptr 1 0) (.cs (.int .i64) (.cs (.int .i64) (.cs (.int .i64) (.cs (.int .i64) (.cs (.int .i64) (.cs (.int .i64) .nl)))))))) (.cs (.var (.cs (.own 2) (.cs (.int .i64) (.cs (.own 3) (.cs (.int .i64) (.cs .bool (.cs (.int .i64) (.cs (.own 4) .nl)))))))) (.cs (.row 3 true) (.cs (.row 1 true) (.cs (.row 3 true) .nl)))))
def v (l : TA) (y : (Int × (Int × (Bool × (Int × ((List Int) × (List Int))))))) : AV U := .im (.int .i64 y.1)
def hh (l : TA) (y : (Int × (Int × (Bool × (Int × ((List Int) × (List Int))))))) : Hp U := [.var [.ptr 1 0, .im (.int .i64 l.2.1.2.1), .im (.int .i64 l.2.1.2.2.1), .im (.int .i64 l.2.1.2.2.2.1), .im (.int .i64 l.2.1.2.2.2.2.1), .im (.int .i64 l.2.1.2.2.2.2.2.1), .im (.int .i64 l.2.1.2.2.2.2.2.2.1)], .var [.own 2, .im (.int .i64 l.2.2.1.2.1), .own 3, .im (.int .i64 y.2.1), .im (.bool y.2.2.1), .im (.int .i64 y.2.2.2.1), .own 4], .row 3 y.2.2.2.2.1 true, .row 1 y.2.2.2.2.2 true, .row 3 l.2.2.2.2.2.1 true]
noncomputable def A : AFun U := mkA (U := U) pA pH (X := (Int × (Int × (Bool × (Int × ((List Int) × (List Int))))))) (fun (l : TA) => c l.1.2.1 l.2.1.2.1 l.2.1.2.2.1 l.2.1.2.2.2.1 l.2.1.2.2.2.2.1 l.2.1.2.2.2.2.2.1 l.2.1.2.2.2.2.2.2.1 l.2.2.1.2.1 l.2.2.1.2.2.2.1 l.2.2.1.2.2.2.2.1 l.2.2.1.2.2.2.2.2.1 l.2.2.2.1 l.2.2.2.2.1 l.2.2.2.2.2.1) sp1 v hh
noncomputable def body : Code := (Go.Func.body Try.f48).getD .skip
noncomputable def Γ : List (FuncId × AFun U) := [(73, ref09_Drive_Blank_v2.A), (74, ref07_Flash_Erase_v2.A)]
noncomputable def Λ : List (Nat × LFun U) := []
noncomputable def CT : List (Nat × LFun U) := []
def ro : List FuncId := [73]
def D : Nat → Lv × Lv := dtab []
noncomputable def E : Env U := { E0 with Γ := Γ, Λ := Λ, C := CT, D := D, ro := ro }
theorem hk (R : Type) (l : TA) (K : AV U → Hp U → Option R) : funcA E Try.f48 [] R (pA.mkL l.1) (pH.mkH l.2) K = (t l.1.2.1 l.2.1.2.1 l.2.1.2.2.1 l.2.1.2.2.2.1 l.2.1.2.2.2.2.1 l.2.1.2.2.2.2.2.1 l.2.1.2.2.2.2.2.2.1 l.2.2.1.2.1 l.2.2.1.2.2.2.1 l.2.2.1.2.2.2.2.1 l.2.2.1.2.2.2.2.2.1 l.2.2.2.1 l.2.2.2.2.1 l.2.2.2.2.2.1).runK fun y => K (v l y) (hh l y) := by kernel_rfl
theorem okF : SoundF Try.prog cc 48 (funcA E Try.f48 []) :=
  funcA_ok (E := E) P_mixed (E0_ok.with Γ Λ CT D ro) (gam_of (all_cons ⟨ref09_Drive_Blank_v2.ok, ⟨Try.f73, Try.func73, by kernel_rfl, by kernel_rfl⟩⟩ (all_cons ⟨ref07_Flash_Erase_v2.ok, ⟨Try.f74, Try.func74, by kernel_rfl, by kernel_rfl⟩⟩ all_nil)) (all_cons (fun _ => ref09_Drive_Blank_v2.keep) (all_cons (no_keep (by kernel_rfl)) all_nil))) Try.func48 (c := body) (by kernel_rfl)
    (just_by (by kernel_rfl) (by kernel_rfl) all_nil all_nil) []
theorem ok : SoundF Try.prog cc 48 A :=
  mkA_ok (E := E) (p := pA) (q := pH) (t := fun (l : TA) => t l.1.2.1 l.2.1.2.1 l.2.1.2.2.1 l.2.1.2.2.2.1 l.2.1.2.2.2.2.1 l.2.1.2.2.2.2.2.1 l.2.1.2.2.2.2.2.2.1 l.2.2.1.2.1 l.2.2.1.2.2.2.1 l.2.2.1.2.2.2.2.1 l.2.2.1.2.2.2.2.2.1 l.2.2.2.1 l.2.2.2.2.1 l.2.2.2.2.2.1) sp1_ok hk okF
end ref09_Drive_Clean_v2

/-! (*instar/instarref09.Drive).Write -/
namespace ref09_Drive_Write_v2
abbrev TA : Type := ((Unit × (Int × (Int × ((List Int) × Unit)))) × ((Unit × (Int × (Int × (Int × (Int × (Int × (Int × Unit))))))) × ((Unit × (Int × (Unit × (Int × (Bool × (Int × (Unit × Unit))))))) × ((List Int) × ((List Int) × ((List Int) × Unit))))))
abbrev T6 : Type := ((Unit × (Unit × ((List Int) × (Unit × (Int × (Int × (Unit × Unit))))))) × ((Unit × (Int × (Int × (Int × (Int × (Int × (Int × Unit))))))) × ((Unit × (Int × (Unit × (Int × (Bool × (Int × (Unit × Unit))))))) × ((List Int) × ((List Int) × ((List Int) × Unit))))))
noncomputable def l6 (w : (List Int)) (a h0_1 h0_2 h0_3 h0_4 h0_5 h0_6 h1_1 h1_3 : Int) (h1_4 : Bool) (h1_5 : Int) (h2 : (List Int)) (h3 : (List Int)) (h4 : (List Int)) (i : Int) : Tw (Int ⊕ (Unit ⊕ Int)) :=
 (.bb (decide (i < (((List.length w) : Nat) : Int)))
  (.dd (((0 : Int) ≤ i)) inferInstance
   (.opt (w)[(Int.toNat i)]? fun z2 =>
    (.dd ((((0 : Int) ≤ (w64 (a + i))) ∧ ((w64 (a + i)) < (((List.length h2) : Nat) : Int)))) inferInstance
     (.opt (h2)[(Int.toNat (w64 (a + i)))]? fun z3 =>
      (.opt (ref01_Bits.c z2 z3 (0 : Int) (0 : Int)) fun z4 =>
       (.bb (z4 != (0 : Int))
        (.ret (.inr (.inr (11 : Int))))
        (.ret (.inl (w64 (i + (1 : Int))))))))
     .no))
   .no)
  (.ret (.inr (.inl ()))))
noncomputable def L6 (w : (List Int)) (a i h0_1 h0_2 h0_3 h0_4 h0_5 h0_6 h1_1 h1_3 : Int) (h1_4 : Bool) (h1_5 : Int) (h2 : (List Int)) (h3 : (List Int)) (h4 : (List Int)) : Option (Unit ⊕ Int) := Lp (fun s => (l6 w a h0_1 h0_2 h0_3 h0_4 h0_5 h0_6 h1_1 h1_3 h1_4 h1_5 h2 h3 h4 s).run) i
def p6 : Pt := (.cs (.ptr 0 0) (.cs (.bots 2) (.cs (.sl 3) (.cs (.bots 6) (.cs (.int .i64) (.cs (.int .i64) (.cs (.bots 82) .nl)))))))
def q6 : Pt := (.cs (.var (.cs (.ptr 1 0) (.cs (.int .i64) (.cs (.int .i64) (.cs (.int .i64) (.cs (.int .i64) (.cs (.int .i64) (.cs (.int .i64) .nl)))))))) (.cs (.var (.cs (.own 2) (.cs (.int .i64) (.cs (.own 3) (.cs (.int .i64) (.cs .bool (.cs (.int .i64) (.cs (.own 4) .nl)))))))) (.cs (.row 3 true) (.cs (.row 1 true) (.cs (.row 3 true) .nl)))))
def ou6 (l : T6) (y : (Unit ⊕ Int)) : Ex × St U := (Sum.elim (fun a0 => (.exit 0, stOf 94 [(0, .ptr 0 0), (3, .im (.slice 3 l.1.2.2.1)), (10, .im (.int .i64 l.1.2.2.2.2.1))] [.var [.ptr 1 0, .im (.int .i64 l.2.1.2.1), .im (.int .i64 l.2.1.2.2.1), .im (.int .i64 l.2.1.2.2.2.1), .im (.int .i64 l.2.1.2.2.2.2.1), .im (.int .i64 l.2.1.2.2.2.2.2.1), .im (.int .i64 l.2.1.2.2.2.2.2.2.1)], .var [.own 2, .im (.int .i64 l.2.2.1.2.1), .own 3, .im (.int .i64 l.2.2.1.2.2.2.1), .im (.bool l.2.2.1.2.2.2.2.1), .im (.int .i64 l.2.2.1.2.2.2.2.2.1), .own 4], .row 3 l.2.2.2.1 true, .row 1 l.2.2.2.2.1 true, .row 3 l.2.2.2.2.2.1 true] 5)) (fun b0 => (.ret, stOf 94 [(0, .ptr 0 0), (3, .im (.slice 3 l.1.2.2.1)), (8, .im (.int .i64 b0)), (10, .im (.int .i64 l.1.2.2.2.2.1))] [.var [.ptr 1 0, .im (.int .i64 l.2.1.2.1), .im (.int .i64 l.2.1.2.2.1), .im (.int .i64 l.2.1.2.2.2.1), .im (.int .i64 l.2.1.2.2.2.2.1), .im (.int .i64 l.2.1.2.2.2.2.2.1), .im (.int .i64 l.2.1.2.2.2.2.2.2.1)], .var [.own 2, .im (.int .i64 l.2.2.1.2.1), .own 3, .im (.int .i64 l.2.2.1.2.2.2.1), .im (.bool l.2.2.1.2.2.2.2.1), .im (.int .i64 l.2.2.1.2.2.2.2.2.1), .own 4], .row 3 l.2.2.2.1 true, .row 1 l.2.2.2.2.1 true, .row 3 l.2.2.2.2.2.1 true] 5)) y)
noncomputable def Λ6 : LFun U := mkLp (U := U) p6 q6 5 (X := (Unit ⊕ Int)) (fun (l : T6) => L6 l.1.2.2.1 l.1.2.2.2.2.1 l.1.2.2.2.2.2.1 l.2.1.2.1 l.2.1.2.2.1 l.2.1.2.2.2.1 l.2.1.2.2.2.2.1 l.2.1.2.2.2.2.2.1 l.2.1.2.2.2.2.2.2.1 l.2.2.1.2.1 l.2.2.1.2.2.2.1 l.2.2.1.2.2.2.2.1 l.2.2.1.2.2.2.2.2.1 l.2.2.2.1 l.2.2.2.2.1 l.2.2.2.2.2.1) (spS sp1) ou6
abbrev T11 : Type := ((Unit × (Unit × ((List Int) × (Unit × (Int × (Unit × (Int × (Unit × Unit)))))))) × ((Unit × (Int × (Int × (Int × (Int × (Int × (Int × Unit))))))) × ((Unit × (Int × (Unit × (Int × (Bool × (Int × (Unit × Unit))))))) × ((List Int) × ((List Int) × ((List Int) × Unit))))))
noncomputable def l11 (w : (List Int)) (a h0_1 h0_2 h0_3 h0_4 h0_5 h0_6 h1_1 : Int) (h3 : (List Int)) (h4 : (List Int)) (i h1_3 : Int) (h1_4 : Bool) (h1_5 : Int) (h2 : (List Int)) : Tw ((Int × (Int × (Bool × (Int × (List Int))))) ⊕ ((Int × (Bool × (Int × (List Int)))) ⊕ (Int × (Int × (Bool × (Int × (List Int))))))) :=
 (.bb (decide (i < (((List.length w) : Nat) : Int)))
  (.dd ((((0 : Int) ≤ (w64 (a + i))) ∧ ((w64 (a + i)) < (((List.length h2) : Nat) : Int)))) inferInstance
   (.opt (h2)[(Int.toNat (w64 (a + i)))]? fun z8 =>
    (.dd (((0 : Int) ≤ i)) inferInstance
     (.opt (w)[(Int.toNat i)]? fun z9 =>
      (.bb (z8 != z9)
       (.dd (((0 : Int) ≤ i)) inferInstance
        (.opt (w)[(Int.toNat i)]? fun z10 =>
         (.opt (ref07_Flash_Program_v2.c (w64 (a + i)) z10 h1_1 h1_3 h1_4 h1_5 h2 h3 h4) fun z11 =>
          (.bb (z11.1 != (0 : Int))
           (.ret (.inr (.inr (z11.1, (z11.2.1, (z11.2.2.1, (z11.2.2.2.1, z11.2.2.2.2)))))))
           (.ret (.inl ((w64 (i + (1 : Int))), (z11.2.1, (z11.2.2.1, (z11.2.2.2.1, z11.2.2.2.2)))))))))
        .no)
       (.ret (.inl ((w64 (i + (1 : Int))), (h1_3, (h1_4, (h1_5, h2))))))))
     .no))
   .no)
  (.ret (.inr (.inl (h1_3, (h1_4, (h1_5, h2)))))))
noncomputable def L11 (w : (List Int)) (a i h0_1 h0_2 h0_3 h0_4 h0_5 h0_6 h1_1 h1_3 : Int) (h1_4 : Bool) (h1_5 : Int) (h2 : (List Int)) (h3 : (List Int)) (h4 : (List Int)) : Option ((Int × (Bool × (Int × (List Int)))) ⊕ (Int × (Int × (Bool × (Int × (List Int)))))) := Lp (fun s => (l11 w a h0_1 h0_2 h0_3 h0_4 h0_5 h0_6 h1_1 h3 h4 s.1 s.2.1 s.2.2.1 s.2.2.2.1 s.2.2.2.2).run) (i, (h1_3, (h1_4, (h1_5, h2))))
def p11 : Pt := (.cs (.ptr 0 0) (.cs (.bots 2) (.cs (.sl 3) (.cs (.bots 6) (.cs (.int .i64) (.cs (.bots 1) (.cs (.int .i64) (.cs (.bots 81) .nl))))))))
def q11 : Pt := (.cs (.var (.cs (.ptr 1 0) (.cs (.int .i64) (.cs (.int .i64) (.cs (.int .i64) (.cs (.int .i64) (.cs (.int .i64) (.cs (.int .i64) .nl)))))))) (.cs (.var (.cs (.own 2) (.cs (.int .i64) (.cs (.own 3) (.cs (.int .i64) (.cs .bool (.cs (.int .i64) (.cs (.own 4) .nl)))))))) (.cs (.row 3 true) (.cs (.row 1 true) (.cs (.row 3 true) .nl)))))
def ou11 (l : T11) (y : ((Int × (Bool × (Int × (List Int)))) ⊕ (Int × (Int × (Bool × (Int × (List Int))))))) : Ex × St U := (Sum.elim (fun a0 => (.exit 2, stOf 94 [] [.var [.ptr 1 0, .im (.int .i64 l.2.1.2.1), .im (.int .i64 l.2.1.2.2.1), .im (.int .i64 l.2.1.2.2.2.1), .im (.int .i64 l.2.1.2.2.2.2.1), .im (.int .i64 l.2.1.2.2.2.2.2.1), .im (.int .i64 l.2.1.2.2.2.2.2.2.1)], .var [.own 2, .im (.int .i64 l.2.2.1.2.1), .own 3, .im (.int .i64 a0.1), .im (.bool a0.2.1), .im (.int .i64 a0.2.2.1), .own 4], .row 3 a0.2.2.2 true, .row 1 l.2.2.2.2.1 true, .row 3 l.2.2.2.2.2.1 true] 5)) (fun b0 => (.ret, stOf 94 [(8, .im (.int .i64 b0.1))] [.var [.ptr 1 0, .im (.int .i64 l.2.1.2.1), .im (.int .i64 l.2.1.2.2.1), .im (.int .i64 l.2.1.2.2.2.1), .im (.int .i64 l.2.1.2.2.2.2.1), .im (.int .i64 l.2.1.2.2.2.2.2.1), .im (.int .i64 l.2.1.2.2.2.2.2.2.1)], .var [.own 2, .im (.int .i64 l.2.2.1.2.1), .own 3, .im (.int .i64 b0.2.1), .im (.bool b0.2.2.1), .im (.int .i64 b0.2.2.2.1), .own 4], .row 3 b0.2.2.2.2 true, .row 1 l.2.2.2.2.1 true, .row 3 l.2.2.2.2.2.1 true] 5)) y)
noncomputable def Λ11 : LFun U := mkLp (U := U) p11 q11 5 (X := ((Int × (Bool × (Int × (List Int)))) ⊕ (Int × (Int × (Bool × (Int × (List Int))))))) (fun (l : T11) => L11 l.1.2.2.1 l.1.2.2.2.2.1 l.1.2.2.2.2.2.2.1 l.2.1.2.1 l.2.1.2.2.1 l.2.1.2.2.2.1 l.2.1.2.2.2.2.1 l.2.1.2.2.2.2.2.1 l.2.1.2.2.2.2.2.2.1 l.2.2.1.2.1 l.2.2.1.2.2.2.1 l.2.2.1.2.2.2.2.1 l.2.2.1.2.2.2.2.2.1 l.2.2.2.1 l.2.2.2.2.1 l.2.2.2.2.2.1) (spS sp1) ou11
noncomputable def t (s_ at_ : Int) (w : (List Int)) (h0_1 h0_2 h0_3 h0_4 h0_5 h0_6 h1_1 h1_3 : Int) (h1_4 : Bool) (h1_5 : Int) (h2 : (List Int)) (h3 : (List Int)) (h4 : (List Int)) : Tw (Int × (Int × (Bool × (Int × (List Int))))) :=
 (.opt (ref09_Drive_bad_v2.c s_ at_ (((List.length w) : Nat) : Int) h0_1 h0_2 h0_3 h0_4 h0_5 h0_6 h1_1 h1_3 h1_4 h1_5 h2 h3 h4) fun z1 =>
  (.bb (z1 != (0 : Int))
   (.ret (z1, (h1_3, (h1_4, (h1_5, h2)))))
   (.opt (L6 w (w64 ((w64 (s_ * h0_1)) + at_)) (0 : Int) h0_1 h0_2 h0_3 h0_4 h0_5 h0_6 h1_1 h1_3 h1_4 h1_5 h2 h3 h4) fun z5 =>
    (.sm z5
     (fun z6 => (.opt (L11 w (w64 ((w64 (s_ * h0_1)) + at_)) (0 : Int) h0_1 h0_2 h0_3 h0_4 h0_5 h0_6 h1_1 h1_3 h1_4 h1_5 h2 h3 h4) fun z12 =>
       (.sm z12
        (fun z13 => (.ret ((0 : Int), (z13.1, (z13.2.1, (z13.2.2.1, z13.2.2.2))))))
        (fun z14 => (.ret (z14.1, (z14.2.1, (z14.2.2.1, (z14.2.2.2.1, z14.2.2.2.2)))))))))
     (fun z7 => (.ret (z7, (h1_3, (h1_4, (h1_5, h2))))))))))
noncomputable def c (s_ at_ : Int) (w : (List Int)) (h0_1 h0_2 h0_3 h0_4 h0_5 h0_6 h1_1 h1_3 : Int) (h1_4 : Bool) (h1_5 : Int) (h2 : (List Int)) (h3 : (List Int)) (h4 : (List Int)) : Option (Int × (Int × (Bool × (Int × (List Int))))) := (t s_ at_ w h0_1 h0_2 h0_3 h0_4 h0_5 h0_6 h1_1 h1_3 h1_4 h1_5 h2 h3 h4).run
def pA : Pt := (.cs (.ptr 0 0) (.cs (.int .i64) (.cs (.int .i64) (.cs (.sl 3) .nl))))
def pH : Pt := (.cs (.var (.cs (.ptr 1 0) (.cs (.int .i64) (.cs (.int .i64) (.cs (.int .i64) (.cs (.int .i64) (.cs (.int .i64) (.cs (.int .i64) .nl)))))))) (.cs (.var (.cs (.own 2) (.cs (.int .i64) (.cs (.own 3) (.cs (.int .i64) (.cs .bool (.cs (.int .i64) (.cs (.own 4) .nl)))))))) (.cs (.row 3 true) (.cs (.row 1 true) (.cs (.row 3 true) .nl)))))
def v (l : TA) (y : (Int × (Int × (Bool × (Int × (List Int)))))) : AV U := .im (.int .i64 y.1)
def hh (l : TA) (y : (Int × (Int × (Bool × (Int × (List Int)))))) : Hp U := [.var [.ptr 1 0, .im (.int .i64 l.2.1.2.1), .im (.int .i64 l.2.1.2.2.1), .im (.int .i64 l.2.1.2.2.2.1), .im (.int .i64 l.2.1.2.2.2.2.1), .im (.int .i64 l.2.1.2.2.2.2.2.1), .im (.int .i64 l.2.1.2.2.2.2.2.2.1)], .var [.own 2, .im (.int .i64 l.2.2.1.2.1), .own 3, .im (.int .i64 y.2.1), .im (.bool y.2.2.1), .im (.int .i64 y.2.2.2.1), .own 4], .row 3 y.2.2.2.2 true, .row 1 l.2.2.2.2.1 true, .row 3 l.2.2.2.2.2.1 true]
noncomputable def A : AFun U := mkA (U := U) pA pH (X := (Int × (Int × (Bool × (Int × (List Int)))))) (fun (l : TA) => c l.1.2.1 l.1.2.2.1 l.1.2.2.2.1 l.2.1.2.1 l.2.1.2.2.1 l.2.1.2.2.2.1 l.2.1.2.2.2.2.1 l.2.1.2.2.2.2.2.1 l.2.1.2.2.2.2.2.2.1 l.2.2.1.2.1 l.2.2.1.2.2.2.1 l.2.2.1.2.2.2.2.1 l.2.2.1.2.2.2.2.2.1 l.2.2.2.1 l.2.2.2.2.1 l.2.2.2.2.2.1) sp1 v hh
noncomputable def body : Code := (Go.Func.body Try.f51).getD .skip
noncomputable def Γ : List (FuncId × AFun U) := [(78, ref09_Drive_bad_v2.A), (79, ref01_Bits.A), (80, ref07_Flash_Program_v2.A)]
noncomputable def Λ : List (Nat × LFun U) := [(6, Λ6), (11, Λ11)]
noncomputable def CT : List (Nat × LFun U) := []
def ro : List FuncId := [78]
def D : Nat → Lv × Lv := dtab [(6, ⟨[11, 10, 0, 3], []⟩, ⟨[8, 3, 10, 0], []⟩), (11, ⟨[12, 3, 10, 0], []⟩, ⟨[8], []⟩)]
noncomputable def E : Env U := { E0 with Γ := Γ, Λ := Λ, C := CT, D := D, ro := ro }
theorem hf6 (R : Type) (l : T6) (s : Int) (K : Ex → St U → Option R) : codeA E (pick (loopsOf body) 6) ⟨p6.mkL ((((), ((), (l.1.2.2.1, ((), (l.1.2.2.2.2.1, (s, ((), ()))))))), (((), (l.2.1.2.1, (l.2.1.2.2.1, (l.2.1.2.2.2.1, (l.2.1.2.2.2.2.1, (l.2.1.2.2.2.2.2.1, (l.2.1.2.2.2.2.2.2.1, ()))))))), (((), (l.2.2.1.2.1, ((), (l.2.2.1.2.2.2.1, (l.2.2.1.2.2.2.2.1, (l.2.2.1.2.2.2.2.2.1, ((), ()))))))), (l.2.2.2.1, (l.2.2.2.2.1, (l.2.2.2.2.2.1, ())))))) : T6).1, q6.mkH ((((), ((), (l.1.2.2.1, ((), (l.1.2.2.2.2.1, (s, ((), ()))))))), (((), (l.2.1.2.1, (l.2.1.2.2.1, (l.2.1.2.2.2.1, (l.2.1.2.2.2.2.1, (l.2.1.2.2.2.2.2.1, (l.2.1.2.2.2.2.2.2.1, ()))))))), (((), (l.2.2.1.2.1, ((), (l.2.2.1.2.2.2.1, (l.2.2.1.2.2.2.2.1, (l.2.2.1.2.2.2.2.2.1, ((), ()))))))), (l.2.2.2.1, (l.2.2.2.2.1, (l.2.2.2.2.2.1, ())))))) : T6).2, 5⟩ (roundK E (pick (loopsOf body) 6) K) =
  (l6 l.1.2.2.1 l.1.2.2.2.2.1 l.2.1.2.1 l.2.1.2.2.1 l.2.1.2.2.2.1 l.2.1.2.2.2.2.1 l.2.1.2.2.2.2.2.1 l.2.1.2.2.2.2.2.2.1 l.2.2.1.2.1 l.2.2.1.2.2.2.1 l.2.2.1.2.2.2.2.1 l.2.2.1.2.2.2.2.2.1 l.2.2.2.1 l.2.2.2.2.1 l.2.2.2.2.2.1 s).runK (lpK K (fun s => ⟨p6.mkL ((((), ((), (l.1.2.2.1, ((), (l.1.2.2.2.2.1, (s, ((), ()))))))), (((), (l.2.1.2.1, (l.2.1.2.2.1, (l.2.1.2.2.2.1, (l.2.1.2.2.2.2.1, (l.2.1.2.2.2.2.2.1, (l.2.1.2.2.2.2.2.2.1, ()))))))), (((), (l.2.2.1.2.1, ((), (l.2.2.1.2.2.2.1, (l.2.2.1.2.2.2.2.1, (l.2.2.1.2.2.2.2.2.1, ((), ()))))))), (l.2.2.2.1, (l.2.2.2.2.1, (l.2.2.2.2.2.1, ())))))) : T6).1, q6.mkH ((((), ((), (l.1.2.2.1, ((), (l.1.2.2.2.2.1, (s, ((), ()))))))), (((), (l.2.1.2.1, (l.2.1.2.2.1, (l.2.1.2.2.2.1, (l.2.1.2.2.2.2.1, (l.2.1.2.2.2.2.2.1, (l.2.1.2.2.2.2.2.2.1, ()))))))), (((), (l.2.2.1.2.1, ((), (l.2.2.1.2.2.2.1, (l.2.2.1.2.2.2.2.1, (l.2.2.1.2.2.2.2.2.1, ((), ()))))))), (l.2.2.2.1, (l.2.2.2.2.1, (l.2.2.2.2.2.1, ())))))) : T6).2, 5⟩) (spS sp1) (ou6 l)) := by kernel_rfl
theorem lk6 (R : Type) (st : St U) (K : Ex → St U → Option R) (r : R) (h : Λ6 R st K = some r) : ∃ n, loopA E (pick (loopsOf body) 6) n st K = some r :=
  lp_ok (U := U) (E := E) (b := pick (loopsOf body) 6) (m := 5) (sp := (spS sp1)) (p := p6) (q := q6) (X := (Unit ⊕ Int)) (S := Int) (f := fun (l : T6) s => l6 l.1.2.2.1 l.1.2.2.2.2.1 l.2.1.2.1 l.2.1.2.2.1 l.2.1.2.2.2.1 l.2.1.2.2.2.2.1 l.2.1.2.2.2.2.2.1 l.2.1.2.2.2.2.2.2.1 l.2.2.1.2.1 l.2.2.1.2.2.2.1 l.2.2.1.2.2.2.2.1 l.2.2.1.2.2.2.2.2.1 l.2.2.2.1 l.2.2.2.2.1 l.2.2.2.2.2.1 s) (hd := fun (l : T6) s => (((), ((), (l.1.2.2.1, ((), (l.1.2.2.2.2.1, (s, ((), ()))))))), (((), (l.2.1.2.1, (l.2.1.2.2.1, (l.2.1.2.2.2.1, (l.2.1.2.2.2.2.1, (l.2.1.2.2.2.2.2.1, (l.2.1.2.2.2.2.2.2.1, ()))))))), (((), (l.2.2.1.2.1, ((), (l.2.2.1.2.2.2.1, (l.2.2.1.2.2.2.2.1, (l.2.2.1.2.2.2.2.2.1, ((), ()))))))), (l.2.2.2.1, (l.2.2.2.2.1, (l.2.2.2.2.2.1, ()))))))) (s0 := fun (l : T6) => l.1.2.2.2.2.2.1) (ou := ou6)
    (fun l => rfl) (fun l x => by repeat' (first | rfl | (cases x with | inl => rfl | inr x => ?_))) (spS_ok sp1_ok) hf6 h
theorem hf11 (R : Type) (l : T11) (s : (Int × (Int × (Bool × (Int × (List Int)))))) (K : Ex → St U → Option R) : codeA E (pick (loopsOf body) 11) ⟨p11.mkL ((((), ((), (l.1.2.2.1, ((), (l.1.2.2.2.2.1, ((), (s.1, ((), ())))))))), (((), (l.2.1.2.1, (l.2.1.2.2.1, (l.2.1.2.2.2.1, (l.2.1.2.2.2.2.1, (l.2.1.2.2.2.2.2.1, (l.2.1.2.2.2.2.2.2.1, ()))))))), (((), (l.2.2.1.2.1, ((), (s.2.1, (s.2.2.1, (s.2.2.2.1, ((), ()))))))), (s.2.2.2.2, (l.2.2.2.2.1, (l.2.2.2.2.2.1, ())))))) : T11).1, q11.mkH ((((), ((), (l.1.2.2.1, ((), (l.1.2.2.2.2.1, ((), (s.1, ((), ())))))))), (((), (l.2.1.2.1, (l.2.1.2.2.1, (l.2.1.2.2.2.1, (l.2.1.2.2.2.2.1, (l.2.1.2.2.2.2.2.1, (l.2.1.2.2.2.2.2.2.1, ()))))))), (((), (l.2.2.1.2.1, ((), (s.2.1, (s.2.2.1, (s.2.2.2.1, ((), ()))))))), (s.2.2.2.2, (l.2.2.2.2.1, (l.2.2.2.2.2.1, ())))))) : T11).2, 5⟩ (roundK E (pick (loopsOf body) 11) K) =
  (l11 l.1.2.2.1 l.1.2.2.2.2.1 l.2.1.2.1 l.2.1.2.2.1 l.2.1.2.2.2.1 l.2.1.2.2.2.2.1 l.2.1.2.2.2.2.2.1 l.2.1.2.2.2.2.2.2.1 l.2.2.1.2.1 l.2.2.2.2.1 l.2.2.2.2.2.1 s.1 s.2.1 s.2.2.1 s.2.2.2.1 s.2.2.2.2).runK (lpK K (fun s => ⟨p11.mkL ((((), ((), (l.1.2.2.1, ((), (l.1.2.2.2.2.1, ((), (s.1, ((), ())))))))), (((), (l.2.1.2.1, (l.2.1.2.2.1, (l.2.1.2.2.2.1, (l.2.1.2.2.2.2.1, (l.2.1.2.2.2.2.2.1, (l.2.1.2.2.2.2.2.2.1, ()))))))), (((), (l.2.2.1.2.1, ((), (s.2.1, (s.2.2.1, (s.2.2.2.1, ((), ()))))))), (s.2.2.2.2, (l.2.2.2.2.1, (l.2.2.2.2.2.1, ())))))) : T11).1, q11.mkH ((((), ((), (l.1.2.2.1, ((), (l.1.2.2.2.2.1, ((), (s.1, ((), ())))))))), (((), (l.2.1.2.1, (l.2.1.2.2.1, (l.2.1.2.2.2.1, (l.2.1.2.2.2.2.1, (l.2.1.2.2.2.2.2.1, (l.2.1.2.2.2.2.2.2.1, ()))))))), (((), (l.2.2.1.2.1, ((), (s.2.1, (s.2.2.1, (s.2.2.2.1, ((), ()))))))), (s.2.2.2.2, (l.2.2.2.2.1, (l.2.2.2.2.2.1, ())))))) : T11).2, 5⟩) (spS sp1) (ou11 l)) := by kernel_rfl
theorem lk11 (R : Type) (st : St U) (K : Ex → St U → Option R) (r : R) (h : Λ11 R st K = some r) : ∃ n, loopA E (pick (loopsOf body) 11) n st K = some r :=
  lp_ok (U := U) (E := E) (b := pick (loopsOf body) 11) (m := 5) (sp := (spS sp1)) (p := p11) (q := q11) (X := ((Int × (Bool × (Int × (List Int)))) ⊕ (Int × (Int × (Bool × (Int × (List Int))))))) (S := (Int × (Int × (Bool × (Int × (List Int)))))) (f := fun (l : T11) s => l11 l.1.2.2.1 l.1.2.2.2.2.1 l.2.1.2.1 l.2.1.2.2.1 l.2.1.2.2.2.1 l.2.1.2.2.2.2.1 l.2.1.2.2.2.2.2.1 l.2.1.2.2.2.2.2.2.1 l.2.2.1.2.1 l.2.2.2.2.1 l.2.2.2.2.2.1 s.1 s.2.1 s.2.2.1 s.2.2.2.1 s.2.2.2.2) (hd := fun (l : T11) s => (((), ((), (l.1.2.2.1, ((), (l.1.2.2.2.2.1, ((), (s.1, ((), ())))))))), (((), (l.2.1.2.1, (l.2.1.2.2.1, (l.2.1.2.2.2.1, (l.2.1.2.2.2.2.1, (l.2.1.2.2.2.2.2.1, (l.2.1.2.2.2.2.2.2.1, ()))))))), (((), (l.2.2.1.2.1, ((), (s.2.1, (s.2.2.1, (s.2.2.2.1, ((), ()))))))), (s.2.2.2.2, (l.2.2.2.2.1, (l.2.2.2.2.2.1, ()))))))) (s0 := fun (l : T11) => (l.1.2.2.2.2.2.2.1, (l.2.2.1.2.2.2.1, (l.2.2.1.2.2.2.2.1, (l.2.2.1.2.2.2.2.2.1, l.2.2.2.1))))) (ou := ou11)
    (fun l => rfl) (fun l x => by repeat' (first | rfl | (cases x with | inl => rfl | inr x => ?_))) (spS_ok sp1_ok) hf11 h
theorem hk (R : Type) (l : TA) (K : AV U → Hp U → Option R) : funcA E Try.f51 [] R (pA.mkL l.1) (pH.mkH l.2) K = (t l.1.2.1 l.1.2.2.1 l.1.2.2.2.1 l.2.1.2.1 l.2.1.2.2.1 l.2.1.2.2.2.1 l.2.1.2.2.2.2.1 l.2.1.2.2.2.2.2.1 l.2.1.2.2.2.2.2.2.1 l.2.2.1.2.1 l.2.2.1.2.2.2.1 l.2.2.1.2.2.2.2.1 l.2.2.1.2.2.2.2.2.1 l.2.2.2.1 l.2.2.2.2.1 l.2.2.2.2.2.1).runK fun y => K (v l y) (hh l y) := by kernel_rfl
theorem okF : SoundF Try.prog cc 51 (funcA E Try.f51 []) :=
  funcA_ok (E := E) P_mixed (E0_ok.with Γ Λ CT D ro) (gam_of (all_cons ⟨ref09_Drive_bad_v2.ok, ⟨Try.f78, Try.func78, by kernel_rfl, by kernel_rfl⟩⟩ (all_cons ⟨ref01_Bits.ok, ⟨Try.f79, Try.func79, by kernel_rfl, by kernel_rfl⟩⟩ (all_cons ⟨ref07_Flash_Program_v2.ok, ⟨Try.f80, Try.func80, by kernel_rfl, by kernel_rfl⟩⟩ all_nil))) (all_cons (fun _ => ref09_Drive_bad_v2.keep) (all_cons (no_keep (by kernel_rfl)) (all_cons (no_keep (by kernel_rfl)) all_nil)))) Try.func51 (c := body) (by kernel_rfl)
    (just_by (by kernel_rfl) (by kernel_rfl) (all_cons lk6 (all_cons lk11 all_nil)) all_nil) []
theorem ok : SoundF Try.prog cc 51 A :=
  mkA_ok (E := E) (p := pA) (q := pH) (t := fun (l : TA) => t l.1.2.1 l.1.2.2.1 l.1.2.2.2.1 l.2.1.2.1 l.2.1.2.2.1 l.2.1.2.2.2.1 l.2.1.2.2.2.2.1 l.2.1.2.2.2.2.2.1 l.2.1.2.2.2.2.2.2.1 l.2.2.1.2.1 l.2.2.1.2.2.2.1 l.2.2.1.2.2.2.2.1 l.2.2.1.2.2.2.2.2.1 l.2.2.2.1 l.2.2.2.2.1 l.2.2.2.2.2.1) sp1_ok hk okF
end ref09_Drive_Write_v2

/-! (*instar/instarref09.Drive).Fresh -/
namespace ref09_Drive_Fresh_v2
abbrev TA : Type := ((Unit × (Int × ((List Int) × Unit))) × ((Unit × (Int × (Int × (Int × (Int × (Int × (Int × Unit))))))) × ((Unit × (Int × (Unit × (Int × (Bool × (Int × (Unit × Unit))))))) × ((List Int) × ((List Int) × ((List Int) × Unit))))))
noncomputable def t (s_ : Int) (w : (List Int)) (h0_1 h0_2 h0_3 h0_4 h0_5 h0_6 h1_1 h1_3 : Int) (h1_4 : Bool) (h1_5 : Int) (h2 : (List Int)) (h3 : (List Int)) (h4 : (List Int)) : Tw (Int × (Int × (Bool × (Int × ((List Int) × (List Int)))))) :=
 (.opt (ref09_Drive_bad_v2.c s_ (0 : Int) (((List.length w) : Nat) : Int) h0_1 h0_2 h0_3 h0_4 h0_5 h0_6 h1_1 h1_3 h1_4 h1_5 h2 h3 h4) fun z1 =>
  (.bb (z1 != (0 : Int))
   (.ret (z1, (h1_3, (h1_4, (h1_5, (h2, h3))))))
   (.opt (ref09_Drive_Clean_v2.c s_ h0_1 h0_2 h0_3 h0_4 h0_5 h0_6 h1_1 h1_3 h1_4 h1_5 h2 h3 h4) fun z2 =>
    (.bb (z2.1 != (0 : Int))
     (.ret (z2.1, (z2.2.1, (z2.2.2.1, (z2.2.2.2.1, (z2.2.2.2.2.1, z2.2.2.2.2.2))))))
     (.opt (ref09_Drive_Write_v2.c s_ (0 : Int) w h0_1 h0_2 h0_3 h0_4 h0_5 h0_6 h1_1 z2.2.1 z2.2.2.1 z2.2.2.2.1 z2.2.2.2.2.1 z2.2.2.2.2.2 h4) fun z3 =>
      (.ret (z3.1, (z3.2.1, (z3.2.2.1, (z3.2.2.2.1, (z3.2.2.2.2, z2.2.2.2.2.2)))))))))))
noncomputable def c (s_ : Int) (w : (List Int)) (h0_1 h0_2 h0_3 h0_4 h0_5 h0_6 h1_1 h1_3 : Int) (h1_4 : Bool) (h1_5 : Int) (h2 : (List Int)) (h3 : (List Int)) (h4 : (List Int)) : Option (Int × (Int × (Bool × (Int × ((List Int) × (List Int)))))) := (t s_ w h0_1 h0_2 h0_3 h0_4 h0_5 h0_6 h1_1 h1_3 h1_4 h1_5 h2 h3 h4).run
def pA : Pt := (.cs (.ptr 0 0) (.cs (.int .i64) (.cs (.sl 3) .nl)))
def pH : Pt := (.cs (.var (.cs (.ptr 1 0) (.cs (.int .i64) (.cs (.int .i64) (.cs (.int .i64) (.cs (.int .i64) (.cs (.int .i64) (.cs (.int .i64) .nl)))))))) (.cs (.var (.cs (.own 2) (.cs (.int .i64) (.cs (.own 3) (.cs (.int .i64) (.cs .bool (.cs (.int .i64) (.cs (.own 4) .nl)))))))) (.cs (.row 3 true) (.cs (.row 1 true) (.cs (.row 3 true) .nl)))))
def v (l : TA) (y : (Int × (Int × (Bool × (Int × ((List Int) × (List Int))))))) : AV U := .im (.int .i64 y.1)
def hh (l : TA) (y : (Int × (Int × (Bool × (Int × ((List Int) × (List Int))))))) : Hp U := [.var [.ptr 1 0, .im (.int .i64 l.2.1.2.1), .im (.int .i64 l.2.1.2.2.1), .im (.int .i64 l.2.1.2.2.2.1), .im (.int .i64 l.2.1.2.2.2.2.1), .im (.int .i64 l.2.1.2.2.2.2.2.1), .im (.int .i64 l.2.1.2.2.2.2.2.2.1)], .var [.own 2, .im (.int .i64 l.2.2.1.2.1), .own 3, .im (.int .i64 y.2.1), .im (.bool y.2.2.1), .im (.int .i64 y.2.2.2.1), .own 4], .row 3 y.2.2.2.2.1 true, .row 1 y.2.2.2.2.2 true, .row 3 l.2.2.2.2.2.1 true]
noncomputable def A : AFun U := mkA (U := U) pA pH (X := (Int × (Int × (Bool × (Int × ((List Int) × (List Int))))))) (fun (l : TA) => c l.1.2.1 l.1.2.2.1 l.2.1.2.1 l.2.1.2.2.1 l.2.1.2.2.2.1 l.2.1.2.2.2.2.1 l.2.1.2.2.2.2.2.1 l.2.1.2.2.2.2.2.2.1 l.2.2.1.2.1 l.2.2.1.2.2.2.1 l.2.2.1.2.2.2.2.1 l.2.2.1.2.2.2.2.2.1 l.2.2.2.1 l.2.2.2.2.1 l.2.2.2.2.2.1) sp1 v hh
noncomputable def body : Code := (Go.Func.body Try.f75).getD .skip
noncomputable def Γ : List (FuncId × AFun U) := [(78, ref09_Drive_bad_v2.A), (48, ref09_Drive_Clean_v2.A), (51, ref09_Drive_Write_v2.A)]
noncomputable def Λ : List (Nat × LFun U) := []
noncomputable def CT : List (Nat × LFun U) := []
def ro : List FuncId := [78]
def D : Nat → Lv × Lv := dtab []
noncomputable def E : Env U := { E0 with Γ := Γ, Λ := Λ, C := CT, D := D, ro := ro }
theorem hk (R : Type) (l : TA) (K : AV U → Hp U → Option R) : funcA E Try.f75 [] R (pA.mkL l.1) (pH.mkH l.2) K = (t l.1.2.1 l.1.2.2.1 l.2.1.2.1 l.2.1.2.2.1 l.2.1.2.2.2.1 l.2.1.2.2.2.2.1 l.2.1.2.2.2.2.2.1 l.2.1.2.2.2.2.2.2.1 l.2.2.1.2.1 l.2.2.1.2.2.2.1 l.2.2.1.2.2.2.2.1 l.2.2.1.2.2.2.2.2.1 l.2.2.2.1 l.2.2.2.2.1 l.2.2.2.2.2.1).runK fun y => K (v l y) (hh l y) := by kernel_rfl
theorem okF : SoundF Try.prog cc 75 (funcA E Try.f75 []) :=
  funcA_ok (E := E) P_mixed (E0_ok.with Γ Λ CT D ro) (gam_of (all_cons ⟨ref09_Drive_bad_v2.ok, ⟨Try.f78, Try.func78, by kernel_rfl, by kernel_rfl⟩⟩ (all_cons ⟨ref09_Drive_Clean_v2.ok, ⟨Try.f48, Try.func48, by kernel_rfl, by kernel_rfl⟩⟩ (all_cons ⟨ref09_Drive_Write_v2.ok, ⟨Try.f51, Try.func51, by kernel_rfl, by kernel_rfl⟩⟩ all_nil))) (all_cons (fun _ => ref09_Drive_bad_v2.keep) (all_cons (no_keep (by kernel_rfl)) (all_cons (no_keep (by kernel_rfl)) all_nil)))) Try.func75 (c := body) (by kernel_rfl)
    (just_by (by kernel_rfl) (by kernel_rfl) all_nil all_nil) []
theorem ok : SoundF Try.prog cc 75 A :=
  mkA_ok (E := E) (p := pA) (q := pH) (t := fun (l : TA) => t l.1.2.1 l.1.2.2.1 l.2.1.2.1 l.2.1.2.2.1 l.2.1.2.2.2.1 l.2.1.2.2.2.2.1 l.2.1.2.2.2.2.2.1 l.2.1.2.2.2.2.2.2.1 l.2.2.1.2.1 l.2.2.1.2.2.2.1 l.2.2.1.2.2.2.2.1 l.2.2.1.2.2.2.2.2.1 l.2.2.2.1 l.2.2.2.2.1 l.2.2.2.2.2.1) sp1_ok hk okF
end ref09_Drive_Fresh_v2

/-! instar/instarref09.New -/
namespace ref09_New
abbrev TA : Type := (((Int × (Int × (Int × (Int × (Int × (Int × Unit)))))) × Unit) × Unit)
noncomputable def t (g_0 g_1 g_2 g_3 g_4 g_5 : Int) : Tw ((Int × (Bool × (Int × ((List Int) × (List Int))))) ⊕ Unit) :=
 (.opt (ref08_Map.c g_0 g_1 g_2 g_3 g_4 g_5) fun z1 =>
  (.opt (ref07_New.c (((List.length z1) : Nat) : Int) g_0) fun z2 =>
   (.sm z2
    (fun z3 => (.ret (.inl (z3.1, (z3.2.1, (z3.2.2.1, (z3.2.2.2.1, z3.2.2.2.2)))))))
    (fun z4 => (.ret (.inr ()))))))
noncomputable def c (g_0 g_1 g_2 g_3 g_4 g_5 : Int) : Option ((Int × (Bool × (Int × ((List Int) × (List Int))))) ⊕ Unit) := (t g_0 g_1 g_2 g_3 g_4 g_5).run
def pA : Pt := (.cs (.agg (.cs (.int .i64) (.cs (.int .i64) (.cs (.int .i64) (.cs (.int .i64) (.cs (.int .i64) (.cs (.int .i64) .nl))))))) .nl)
def pH : Pt := .nl
def v (l : TA) (y : ((Int × (Bool × (Int × ((List Int) × (List Int))))) ⊕ Unit)) : AV U := (Sum.elim (fun a0 => .ptr 0 0) (fun b0 => .ptr 0 0) y)
def hh (l : TA) (y : ((Int × (Bool × (Int × ((List Int) × (List Int))))) ⊕ Unit)) : Hp U := (Sum.elim (fun a0 => [.var [.ptr 1 0, .im (.int .i64 l.1.1.1), .im (.int .i64 l.1.1.2.1), .im (.int .i64 l.1.1.2.2.1), .im (.int .i64 l.1.1.2.2.2.1), .im (.int .i64 l.1.1.2.2.2.2.1), .im (.int .i64 l.1.1.2.2.2.2.2.1)], .var [.own 2, .im (.int .i64 l.1.1.1), .own 3, .im (.int .i64 a0.1), .im (.bool a0.2.1), .im (.int .i64 a0.2.2.1), .im .nils], .row 3 a0.2.2.2.1 true, .row 1 a0.2.2.2.2 true]) (fun b0 => [.var [.im .nilp, .im (.int .i64 l.1.1.1), .im (.int .i64 l.1.1.2.1), .im (.int .i64 l.1.1.2.2.1), .im (.int .i64 l.1.1.2.2.2.1), .im (.int .i64 l.1.1.2.2.2.2.1), .im (.int .i64 l.1.1.2.2.2.2.2.1)]]) y)
noncomputable def A : AFun U := mkA (U := U) pA pH (X := ((Int × (Bool × (Int × ((List Int) × (List Int))))) ⊕ Unit)) (fun (l : TA) => c l.1.1.1 l.1.1.2.1 l.1.1.2.2.1 l.1.1.2.2.2.1 l.1.1.2.2.2.2.1 l.1.1.2.2.2.2.2.1) (spS sp1) v hh
noncomputable def body : Code := (Go.Func.body Try.f23).getD .skip
noncomputable def Γ : List (FuncId × AFun U) := [(17, ref08_Map.A), (46, ref07_New.A)]
noncomputable def Λ : List (Nat × LFun U) := []
noncomputable def CT : List (Nat × LFun U) := []
def ro : List FuncId := []
def D : Nat → Lv × Lv := dtab []
noncomputable def E : Env U := { E0 with Γ := Γ, Λ := Λ, C := CT, D := D, ro := ro }
theorem hk (R : Type) (l : TA) (K : AV U → Hp U → Option R) : funcA E Try.f23 [] R (pA.mkL l.1) (pH.mkH l.2) K = (t l.1.1.1 l.1.1.2.1 l.1.1.2.2.1 l.1.1.2.2.2.1 l.1.1.2.2.2.2.1 l.1.1.2.2.2.2.2.1).runK fun y => K (v l y) (hh l y) := by kernel_rfl
theorem okF : SoundF Try.prog cc 23 (funcA E Try.f23 []) :=
  funcA_ok (E := E) P_mixed (E0_ok.with Γ Λ CT D ro) (gam_of (all_cons ⟨ref08_Map.ok, ⟨Try.f17, Try.func17, by kernel_rfl, by kernel_rfl⟩⟩ (all_cons ⟨ref07_New.ok, ⟨Try.f46, Try.func46, by kernel_rfl, by kernel_rfl⟩⟩ all_nil)) (all_cons (no_keep (by kernel_rfl)) (all_cons (no_keep (by kernel_rfl)) all_nil))) Try.func23 (c := body) (by kernel_rfl)
    (just_by (by kernel_rfl) (by kernel_rfl) all_nil all_nil) []
theorem ok : SoundF Try.prog cc 23 A :=
  mkA_ok (E := E) (p := pA) (q := pH) (t := fun (l : TA) => t l.1.1.1 l.1.1.2.1 l.1.1.2.2.1 l.1.1.2.2.2.1 l.1.1.2.2.2.2.1 l.1.1.2.2.2.2.2.1) (spS_ok sp1_ok) hk okF
theorem keep : KeepA A := mkA_keep (U := U) (spS_ok sp1_ok) (fun (l : TA) y => ⟨(hh l y).drop 0, by (cases y with | inl y => kernel_rfl | inr y => kernel_rfl)⟩)
end ref09_New

end Go.Proofs.Ytkoidgjgdhpdnaa.Va
