/- The functions of package law10, as plain functions, and that the program computes them. Printed by a program of this work out of the evaluator. -/
import Derived.Test.YtcnomgpbkimmeaaEn
import Derived.Tactics
import Derived.Test.YtcnomgpbkimmeaaFframe
import Derived.Test.YtcnomgpbkimmeaaFref01
import Derived.Test.YtcnomgpbkimmeaaFref10
namespace Go.Proofs.Ytcnomgpbkimmeaa.Va
open Go
set_option linter.unusedVariables false
set_option maxRecDepth 100000

/-! instar/instarlaw10.awake -/
namespace law10_awake
abbrev TA : Type := (Unit × Unit)
noncomputable def t : Tw Bool :=
 (.opt (frame_Lay.c (2 : Int) (1 : Int) ((5 : Int) :: ([] : List Int))) fun z1 =>
  (.bb ((((List.length z1.2) : Nat) : Int) == (4 : Int))
   (.dd ((((0 : Int) ≤ (0 : Int)) ∧ ((0 : Int) < (((List.length z1.2) : Nat) : Int)))) inferInstance
    (.opt (z1.2)[(Int.toNat (0 : Int))]? fun z2 =>
     (.bb (z2 == (4294836225 : Int))
      (.dd ((((0 : Int) ≤ (1 : Int)) ∧ ((1 : Int) < (((List.length z1.2) : Nat) : Int)))) inferInstance
       (.opt (z1.2)[(Int.toNat (1 : Int))]? fun z3 =>
        (.bb (z3 == (2147483649 : Int))
         (.dd ((((0 : Int) ≤ (3 : Int)) ∧ ((3 : Int) < (((List.length z1.2) : Nat) : Int)))) inferInstance
          (.opt (z1.2)[(Int.toNat (3 : Int))]? fun z4 =>
           (.bb (z4 == (76 : Int))
            (.ret (z1.1 == (0 : Int)))
            (.ret false)))
          .no)
         (.ret false)))
       .no)
      (.ret false)))
    .no)
   (.ret false)))
noncomputable def c : Option Bool := (t).run
def pA : Pt := .nl
def pH : Pt := .nl
def v (l : TA) (y : Bool) : AV U := .im (.bool y)
def hh (l : TA) (y : Bool) : Hp U := []
noncomputable def A : AFun U := mkA (U := U) pA pH (X := Bool) (fun (l : TA) => c) sp1 v hh
noncomputable def body : Code := (Go.Func.body Try.f52).getD .skip
noncomputable def Γ : List (FuncId × AFun U) := [(45, frame_Lay.A)]
noncomputable def Λ : List (Nat × LFun U) := []
def D : Nat → Lv × Lv := dtab []
noncomputable def E : Env U := { E0 with Γ := Γ, Λ := Λ, C := [], D := D }
theorem hk (R : Type) (l : TA) (K : AV U → Hp U → Option R) : funcA E Try.f52 [] R (pA.mkL l.1) (pH.mkH l.2) K = (t).runK fun y => K (v l y) (hh l y) := by kernel_rfl
theorem okF : SoundF Try.prog cc 52 (funcA E Try.f52 []) :=
  funcA_ok (E := E) P_mixed (E0_ok.with Γ Λ [] D) (gam_of (all_cons ⟨frame_Lay.ok, ⟨Try.f45, Try.func45, by kernel_rfl, by kernel_rfl⟩⟩ all_nil)) Try.func52 (c := body) (by kernel_rfl)
    (just_by (by kernel_rfl) (by kernel_rfl) all_nil all_nil) []
theorem ok : SoundF Try.prog cc 52 A :=
  mkA_ok (E := E) (p := pA) (q := pH) (t := fun (l : TA) => t) sp1_ok hk okF
end law10_awake

/-! instar/instarlaw10.FrameWords -/
namespace law10_FrameWords
abbrev TA : Type := (((Int × (Int × ((List Int) × Unit))) × ((List Int) × Unit)) × Unit)
noncomputable def t (f_0 : Int) (f_1 : Int) (f_2 : (List Int)) (w : (List Int)) : Tw Bool :=
 (.opt (frame_Lay.c f_0 f_1 f_2) fun z1 =>
  (.opt (ref10_Right.c f_0 f_1 f_2) fun z2 =>
   (.bb z2
    (.bb (z1.1 != (0 : Int))
     (.ret false)
     (.opt (ref10_Lay.c f_0 f_1 f_2) fun z9 =>
      (.opt (ref01_Same.c z1.2 z9) fun z10 =>
       (.bb (!z10)
        (.ret false)
        (.opt (frame_Size.c (((List.length f_2) : Nat) : Int)) fun z11 =>
         (.bb ((((List.length z1.2) : Nat) : Int) != z11)
          (.ret false)
          (.opt (frame_Read.c w) fun z12 =>
           (.opt (ref10_Read.c w) fun z13 =>
            (.opt (ref10_Same.c z12.1 z12.2.1 z12.2.2.2.2 z13.1 z13.2.1 z13.2.2.2.2) fun z14 =>
             (.bb z14
              (.bb (z12.2.2.1 == z13.2.2.1)
               (.bb (z12.2.2.2.1 == z13.2.2.2.1)
                (.opt (frame_Size.c z12.2.2.1) fun z15 =>
                 (.bb (decide (z12.2.2.1 < (1 : Int)))
                  (.bb ((z15 == (0 : Int)) == true)
                   (.opt (law10_awake.c) fun z17 =>
                    (.ret z17))
                   (.ret false))
                  (.bb ((z15 == (0 : Int)) == (decide (z12.2.2.1 > (56 : Int))))
                   (.opt (law10_awake.c) fun z16 =>
                    (.ret z16))
                   (.ret false))))
                (.ret false))
               (.ret false))
              (.ret false)))))))))))
    (.bb (z1.1 != (2 : Int))
     (.ret false)
     (.bb ((((List.length z1.2) : Nat) : Int) != (0 : Int))
      (.ret false)
      (.opt (frame_Read.c w) fun z3 =>
       (.opt (ref10_Read.c w) fun z4 =>
        (.opt (ref10_Same.c z3.1 z3.2.1 z3.2.2.2.2 z4.1 z4.2.1 z4.2.2.2.2) fun z5 =>
         (.bb z5
          (.bb (z3.2.2.1 == z4.2.2.1)
           (.bb (z3.2.2.2.1 == z4.2.2.2.1)
            (.opt (frame_Size.c z3.2.2.1) fun z6 =>
             (.bb (decide (z3.2.2.1 < (1 : Int)))
              (.bb ((z6 == (0 : Int)) == true)
               (.opt (law10_awake.c) fun z8 =>
                (.ret z8))
               (.ret false))
              (.bb ((z6 == (0 : Int)) == (decide (z3.2.2.1 > (56 : Int))))
               (.opt (law10_awake.c) fun z7 =>
                (.ret z7))
               (.ret false))))
            (.ret false))
           (.ret false))
          (.ret false))))))))))
noncomputable def c (f_0 : Int) (f_1 : Int) (f_2 : (List Int)) (w : (List Int)) : Option Bool := (t f_0 f_1 f_2 w).run
def pA : Pt := (.cs (.agg (.cs (.int .i64) (.cs (.int .i64) (.cs (.sl 3) .nl)))) (.cs (.sl 3) .nl))
def pH : Pt := .nl
def v (l : TA) (y : Bool) : AV U := .im (.bool y)
def hh (l : TA) (y : Bool) : Hp U := []
noncomputable def A : AFun U := mkA (U := U) pA pH (X := Bool) (fun (l : TA) => c l.1.1.1 l.1.1.2.1 l.1.1.2.2.1 l.1.2.1) sp1 v hh
noncomputable def body : Code := (Go.Func.body Try.f9).getD .skip
noncomputable def Γ : List (FuncId × AFun U) := [(45, frame_Lay.A), (46, ref10_Right.A), (49, frame_Read.A), (50, ref10_Read.A), (51, ref10_Same.A), (48, frame_Size.A), (52, law10_awake.A), (47, ref10_Lay.A), (27, ref01_Same.A)]
noncomputable def Λ : List (Nat × LFun U) := []
def D : Nat → Lv × Lv := dtab []
noncomputable def E : Env U := { E0 with Γ := Γ, Λ := Λ, C := [], D := D }
theorem hk (R : Type) (l : TA) (K : AV U → Hp U → Option R) : funcA E Try.f9 [] R (pA.mkL l.1) (pH.mkH l.2) K = (t l.1.1.1 l.1.1.2.1 l.1.1.2.2.1 l.1.2.1).runK fun y => K (v l y) (hh l y) := by kernel_rfl
theorem okF : SoundF Try.prog cc 9 (funcA E Try.f9 []) :=
  funcA_ok (E := E) P_mixed (E0_ok.with Γ Λ [] D) (gam_of (all_cons ⟨frame_Lay.ok, ⟨Try.f45, Try.func45, by kernel_rfl, by kernel_rfl⟩⟩ (all_cons ⟨ref10_Right.ok, ⟨Try.f46, Try.func46, by kernel_rfl, by kernel_rfl⟩⟩ (all_cons ⟨frame_Read.ok, ⟨Try.f49, Try.func49, by kernel_rfl, by kernel_rfl⟩⟩ (all_cons ⟨ref10_Read.ok, ⟨Try.f50, Try.func50, by kernel_rfl, by kernel_rfl⟩⟩ (all_cons ⟨ref10_Same.ok, ⟨Try.f51, Try.func51, by kernel_rfl, by kernel_rfl⟩⟩ (all_cons ⟨frame_Size.ok, ⟨Try.f48, Try.func48, by kernel_rfl, by kernel_rfl⟩⟩ (all_cons ⟨law10_awake.ok, ⟨Try.f52, Try.func52, by kernel_rfl, by kernel_rfl⟩⟩ (all_cons ⟨ref10_Lay.ok, ⟨Try.f47, Try.func47, by kernel_rfl, by kernel_rfl⟩⟩ (all_cons ⟨ref01_Same.ok, ⟨Try.f27, Try.func27, by kernel_rfl, by kernel_rfl⟩⟩ all_nil)))))))))) Try.func9 (c := body) (by kernel_rfl)
    (just_by (by kernel_rfl) (by kernel_rfl) all_nil all_nil) []
theorem ok : SoundF Try.prog cc 9 A :=
  mkA_ok (E := E) (p := pA) (q := pH) (t := fun (l : TA) => t l.1.1.1 l.1.1.2.1 l.1.1.2.2.1 l.1.2.1) sp1_ok hk okF
end law10_FrameWords

/-! instar/instarlaw10.FrameBack -/
namespace law10_FrameBack
abbrev TA : Type := (((Int × (Int × ((List Int) × Unit))) × ((List Int) × Unit)) × Unit)
noncomputable def t (f_0 : Int) (f_1 : Int) (f_2 : (List Int)) (more : (List Int)) : Tw Bool :=
 (.opt (frame_Lay.c f_0 f_1 f_2) fun z1 =>
  (.bb (z1.1 != (0 : Int))
   (.opt (ref10_Right.c f_0 f_1 f_2) fun z5 =>
    (.bb (!z5)
     (.opt (law10_awake.c) fun z6 =>
      (.ret z6))
     (.ret false)))
   (.dd (((((List.length z1.2) * (4 : Nat)) ≤ (140737488355328 : Nat)) ∧ ((List.length z1.2) ≤ (140737488355328 : Nat)))) inferInstance
    (.dd ((((((List.length z1.2) + (List.length more)) * (4 : Nat)) ≤ (140737488355328 : Nat)) ∧ (((List.length z1.2) + (List.length more)) ≤ (140737488355328 : Nat)))) inferInstance
     (.opt (frame_Read.c (z1.2 ++ more)) fun z2 =>
      (.opt (ref10_Same.c z2.1 z2.2.1 z2.2.2.2.2 f_0 f_1 f_2) fun z3 =>
       (.bb z3
        (.bb (z2.2.2.1 == (((List.length z1.2) : Nat) : Int))
         (.bb z2.2.2.2.1
          (.opt (law10_awake.c) fun z4 =>
           (.ret z4))
          (.ret false))
         (.ret false))
        (.ret false))))
     .no)
    .no)))
noncomputable def c (f_0 : Int) (f_1 : Int) (f_2 : (List Int)) (more : (List Int)) : Option Bool := (t f_0 f_1 f_2 more).run
def pA : Pt := (.cs (.agg (.cs (.int .i64) (.cs (.int .i64) (.cs (.sl 3) .nl)))) (.cs (.sl 3) .nl))
def pH : Pt := .nl
def v (l : TA) (y : Bool) : AV U := .im (.bool y)
def hh (l : TA) (y : Bool) : Hp U := []
noncomputable def A : AFun U := mkA (U := U) pA pH (X := Bool) (fun (l : TA) => c l.1.1.1 l.1.1.2.1 l.1.1.2.2.1 l.1.2.1) sp1 v hh
noncomputable def body : Code := (Go.Func.body Try.f10).getD .skip
noncomputable def Γ : List (FuncId × AFun U) := [(45, frame_Lay.A), (49, frame_Read.A), (51, ref10_Same.A), (52, law10_awake.A), (46, ref10_Right.A)]
noncomputable def Λ : List (Nat × LFun U) := []
def D : Nat → Lv × Lv := dtab []
noncomputable def E : Env U := { E0 with Γ := Γ, Λ := Λ, C := [], D := D }
theorem hk (R : Type) (l : TA) (K : AV U → Hp U → Option R) : funcA E Try.f10 [] R (pA.mkL l.1) (pH.mkH l.2) K = (t l.1.1.1 l.1.1.2.1 l.1.1.2.2.1 l.1.2.1).runK fun y => K (v l y) (hh l y) := by kernel_rfl
theorem okF : SoundF Try.prog cc 10 (funcA E Try.f10 []) :=
  funcA_ok (E := E) P_mixed (E0_ok.with Γ Λ [] D) (gam_of (all_cons ⟨frame_Lay.ok, ⟨Try.f45, Try.func45, by kernel_rfl, by kernel_rfl⟩⟩ (all_cons ⟨frame_Read.ok, ⟨Try.f49, Try.func49, by kernel_rfl, by kernel_rfl⟩⟩ (all_cons ⟨ref10_Same.ok, ⟨Try.f51, Try.func51, by kernel_rfl, by kernel_rfl⟩⟩ (all_cons ⟨law10_awake.ok, ⟨Try.f52, Try.func52, by kernel_rfl, by kernel_rfl⟩⟩ (all_cons ⟨ref10_Right.ok, ⟨Try.f46, Try.func46, by kernel_rfl, by kernel_rfl⟩⟩ all_nil)))))) Try.func10 (c := body) (by kernel_rfl)
    (just_by (by kernel_rfl) (by kernel_rfl) all_nil all_nil) []
theorem ok : SoundF Try.prog cc 10 A :=
  mkA_ok (E := E) (p := pA) (q := pH) (t := fun (l : TA) => t l.1.1.1 l.1.1.2.1 l.1.1.2.2.1 l.1.2.1) sp1_ok hk okF
end law10_FrameBack

/-! instar/instarlaw10.FrameSure -/
namespace law10_FrameSure
abbrev TA : Type := (((Int × (Int × ((List Int) × Unit))) × ((List Int) × ((List Int) × Unit))) × Unit)
abbrev T7 : Type := ((Unit × ((List Int) × ((List Int) × (Unit × (Unit × (Unit × (Unit × (Unit × (Bool × (Int × (Unit × Unit))))))))))) × ((Int × (Int × ((List Int) × Unit))) × ((List Int) × ((List Int) × Unit))))
noncomputable def l7 (up : (List Int)) (more : (List Int)) (h0_0 : Int) (h0_1 : Int) (h0_2 : (List Int)) (h1 : (List Int)) (same : Bool) (i : Int) (h2 : (List Int)) : Tw ((Bool × (Int × (List Int))) ⊕ (Bool × (List Int))) :=
 (.bb (decide (i < (((List.length h2) : Nat) : Int)))
  (.bb (decide (i < (((List.length up) : Nat) : Int)))
   (.dd ((((0 : Int) ≤ i) ∧ (i < (((List.length h2) : Nat) : Int)))) inferInstance
    (.opt (h2)[(Int.toNat i)]? fun z2 =>
     (.dd (((0 : Int) ≤ i)) inferInstance
      (.opt (up)[(Int.toNat i)]? fun z3 =>
       (.dd ((((0 : Int) ≤ i) ∧ (i < (((List.length h2) : Nat) : Int)))) inferInstance
        (.opt (h2)[(Int.toNat i)]? fun z4 =>
         (.bb same
          (.dd ((((0 : Int) ≤ i) ∧ (i < (((List.length (List.set h2 (Int.toNat i) (bOr .u32 z2 z3))) : Nat) : Int)))) inferInstance
           (.opt ((List.set h2 (Int.toNat i) (bOr .u32 z2 z3)))[(Int.toNat i)]? fun z5 =>
            (.dd ((((0 : Int) ≤ i) ∧ (i < (((List.length h1) : Nat) : Int)))) inferInstance
             (.opt (h1)[(Int.toNat i)]? fun z6 =>
              (.ret (.inl ((z5 == z6), ((w64 (i + (1 : Int))), (List.set h2 (Int.toNat i) (bOr .u32 z2 z3)))))))
             .no))
           .no)
          (.ret (.inl (false, ((w64 (i + (1 : Int))), (List.set h2 (Int.toNat i) (bOr .u32 z2 z3))))))))
        .no))
      .no))
    .no)
   (.ret (.inr (same, h2))))
  (.ret (.inr (same, h2))))
noncomputable def L7 (up : (List Int)) (more : (List Int)) (same : Bool) (i : Int) (h0_0 : Int) (h0_1 : Int) (h0_2 : (List Int)) (h1 : (List Int)) (h2 : (List Int)) : Option (Bool × (List Int)) := Lp (fun s => (l7 up more h0_0 h0_1 h0_2 h1 s.1 s.2.1 s.2.2).run) (same, (i, h2))
def p7 : Pt := (.cs (.bots 1) (.cs (.sl 3) (.cs (.sl 3) (.cs (.ptr 0 0) (.cs (.bots 3) (.cs (.own 1) (.cs (.bots 1) (.cs (.own 2) (.cs .bool (.cs (.int .i64) (.cs (.bots 97) .nl)))))))))))
def q7 : Pt := (.cs (.var (.cs (.int .i64) (.cs (.int .i64) (.cs (.sl 3) .nl)))) (.cs (.row 3 true) (.cs (.row 3 true) .nl)))
def ou7 (l : T7) (y : (Bool × (List Int))) : Ex × St U := (.exit 0, stOf 109 [(2, .im (.slice 3 l.1.2.2.1)), (3, .ptr 0 0), (9, .own 1), (10, .im (.bool y.1))] [.var [.im (.int .i64 l.2.1.1), .im (.int .i64 l.2.1.2.1), .im (.slice 3 l.2.1.2.2.1)], .row 3 y.2 true] 0)
noncomputable def Λ7 : LFun U := mkLp (U := U) p7 q7 0 (X := (Bool × (List Int))) (fun (l : T7) => L7 l.1.2.1 l.1.2.2.1 l.1.2.2.2.2.2.2.2.2.1 l.1.2.2.2.2.2.2.2.2.2.1 l.2.1.1 l.2.1.2.1 l.2.1.2.2.1 l.2.2.1 l.2.2.2.1) sp1 ou7
noncomputable def t (f_0 : Int) (f_1 : Int) (f_2 : (List Int)) (up : (List Int)) (more : (List Int)) : Tw Bool :=
 (.opt (frame_Lay.c f_0 f_1 f_2) fun z1 =>
  (.bb (z1.1 != (0 : Int))
   (.opt (ref10_Right.c f_0 f_1 f_2) fun z12 =>
    (.bb (!z12)
     (.opt (law10_awake.c) fun z13 =>
      (.ret z13))
     (.ret false)))
   (.dd (((((List.length z1.2) * (4 : Nat)) ≤ (140737488355328 : Nat)) ∧ ((List.length z1.2) ≤ (140737488355328 : Nat)))) inferInstance
    (.opt (L7 up more true (0 : Int) f_0 f_1 f_2 z1.2 z1.2) fun z7 =>
     (.dd ((((((List.length z7.2) + (List.length more)) * (4 : Nat)) ≤ (140737488355328 : Nat)) ∧ (((List.length z7.2) + (List.length more)) ≤ (140737488355328 : Nat)))) inferInstance
      (.opt (frame_Read.c (z7.2 ++ more)) fun z8 =>
       (.bb z7.1
        (.bb z8.2.2.2.1
         (.opt (ref10_Same.c z8.1 z8.2.1 z8.2.2.2.2 f_0 f_1 f_2) fun z10 =>
          (.bb z10
           (.opt (law10_awake.c) fun z11 =>
            (.ret z11))
           (.ret false)))
         (.ret false))
        (.bb (!z8.2.2.2.1)
         (.bb (z8.2.2.1 == (0 : Int))
          (.bb (z8.1 == (0 : Int))
           (.bb (z8.2.1 == (0 : Int))
            (.bb ((((List.length z8.2.2.2.2) : Nat) : Int) == (0 : Int))
             (.opt (law10_awake.c) fun z9 =>
              (.ret z9))
             (.ret false))
            (.ret false))
           (.ret false))
          (.ret false))
         (.ret false))))
      .no))
    .no)))
noncomputable def c (f_0 : Int) (f_1 : Int) (f_2 : (List Int)) (up : (List Int)) (more : (List Int)) : Option Bool := (t f_0 f_1 f_2 up more).run
def pA : Pt := (.cs (.agg (.cs (.int .i64) (.cs (.int .i64) (.cs (.sl 3) .nl)))) (.cs (.sl 3) (.cs (.sl 3) .nl)))
def pH : Pt := .nl
def v (l : TA) (y : Bool) : AV U := .im (.bool y)
def hh (l : TA) (y : Bool) : Hp U := []
noncomputable def A : AFun U := mkA (U := U) pA pH (X := Bool) (fun (l : TA) => c l.1.1.1 l.1.1.2.1 l.1.1.2.2.1 l.1.2.1 l.1.2.2.1) sp1 v hh
noncomputable def body : Code := (Go.Func.body Try.f11).getD .skip
noncomputable def Γ : List (FuncId × AFun U) := [(45, frame_Lay.A), (49, frame_Read.A), (52, law10_awake.A), (51, ref10_Same.A), (46, ref10_Right.A)]
noncomputable def Λ : List (Nat × LFun U) := [(7, Λ7)]
def D : Nat → Lv × Lv := dtab [(7, ⟨[11, 7, 9, 10, 1, 3, 2], []⟩, ⟨[6, 3, 10, 2, 9], []⟩)]
noncomputable def E : Env U := { E0 with Γ := Γ, Λ := Λ, C := [], D := D }
theorem hf7 (R : Type) (l : T7) (s : (Bool × (Int × (List Int)))) (K : Ex → St U → Option R) : codeA E (pick (loopsOf body) 7) ⟨p7.mkL ((((), (l.1.2.1, (l.1.2.2.1, ((), ((), ((), ((), ((), (s.1, (s.2.1, ((), ()))))))))))), ((l.2.1.1, (l.2.1.2.1, (l.2.1.2.2.1, ()))), (l.2.2.1, (s.2.2, ())))) : T7).1, q7.mkH ((((), (l.1.2.1, (l.1.2.2.1, ((), ((), ((), ((), ((), (s.1, (s.2.1, ((), ()))))))))))), ((l.2.1.1, (l.2.1.2.1, (l.2.1.2.2.1, ()))), (l.2.2.1, (s.2.2, ())))) : T7).2, 0⟩ (roundK E (pick (loopsOf body) 7) K) =
  (l7 l.1.2.1 l.1.2.2.1 l.2.1.1 l.2.1.2.1 l.2.1.2.2.1 l.2.2.1 s.1 s.2.1 s.2.2).runK (lpK K (fun s => ⟨p7.mkL ((((), (l.1.2.1, (l.1.2.2.1, ((), ((), ((), ((), ((), (s.1, (s.2.1, ((), ()))))))))))), ((l.2.1.1, (l.2.1.2.1, (l.2.1.2.2.1, ()))), (l.2.2.1, (s.2.2, ())))) : T7).1, q7.mkH ((((), (l.1.2.1, (l.1.2.2.1, ((), ((), ((), ((), ((), (s.1, (s.2.1, ((), ()))))))))))), ((l.2.1.1, (l.2.1.2.1, (l.2.1.2.2.1, ()))), (l.2.2.1, (s.2.2, ())))) : T7).2, 0⟩) sp1 (ou7 l)) := by kernel_rfl
theorem lk7 (R : Type) (st : St U) (K : Ex → St U → Option R) (r : R) (h : Λ7 R st K = some r) : ∃ n, loopA E (pick (loopsOf body) 7) n st K = some r :=
  lp_ok (U := U) (E := E) (b := pick (loopsOf body) 7) (m := 0) (sp := sp1) (p := p7) (q := q7) (X := (Bool × (List Int))) (S := (Bool × (Int × (List Int)))) (f := fun (l : T7) s => l7 l.1.2.1 l.1.2.2.1 l.2.1.1 l.2.1.2.1 l.2.1.2.2.1 l.2.2.1 s.1 s.2.1 s.2.2) (hd := fun (l : T7) s => (((), (l.1.2.1, (l.1.2.2.1, ((), ((), ((), ((), ((), (s.1, (s.2.1, ((), ()))))))))))), ((l.2.1.1, (l.2.1.2.1, (l.2.1.2.2.1, ()))), (l.2.2.1, (s.2.2, ()))))) (s0 := fun (l : T7) => (l.1.2.2.2.2.2.2.2.2.1, (l.1.2.2.2.2.2.2.2.2.2.1, l.2.2.2.1))) (ou := ou7)
    (fun l => rfl) (fun l x => by rfl) sp1_ok hf7 h
theorem hk (R : Type) (l : TA) (K : AV U → Hp U → Option R) : funcA E Try.f11 [] R (pA.mkL l.1) (pH.mkH l.2) K = (t l.1.1.1 l.1.1.2.1 l.1.1.2.2.1 l.1.2.1 l.1.2.2.1).runK fun y => K (v l y) (hh l y) := by kernel_rfl
theorem okF : SoundF Try.prog cc 11 (funcA E Try.f11 []) :=
  funcA_ok (E := E) P_mixed (E0_ok.with Γ Λ [] D) (gam_of (all_cons ⟨frame_Lay.ok, ⟨Try.f45, Try.func45, by kernel_rfl, by kernel_rfl⟩⟩ (all_cons ⟨frame_Read.ok, ⟨Try.f49, Try.func49, by kernel_rfl, by kernel_rfl⟩⟩ (all_cons ⟨law10_awake.ok, ⟨Try.f52, Try.func52, by kernel_rfl, by kernel_rfl⟩⟩ (all_cons ⟨ref10_Same.ok, ⟨Try.f51, Try.func51, by kernel_rfl, by kernel_rfl⟩⟩ (all_cons ⟨ref10_Right.ok, ⟨Try.f46, Try.func46, by kernel_rfl, by kernel_rfl⟩⟩ all_nil)))))) Try.func11 (c := body) (by kernel_rfl)
    (just_by (by kernel_rfl) (by kernel_rfl) (all_cons lk7 all_nil) all_nil) []
theorem ok : SoundF Try.prog cc 11 A :=
  mkA_ok (E := E) (p := pA) (q := pH) (t := fun (l : TA) => t l.1.1.1 l.1.1.2.1 l.1.1.2.2.1 l.1.2.1 l.1.2.2.1) sp1_ok hk okF
end law10_FrameSure

/-! instar/instarlaw10.FrameCut -/
namespace law10_FrameCut
abbrev TA : Type := (((Int × (Int × ((List Int) × Unit))) × (Int × (Int × Unit))) × Unit)
abbrev T9 : Type := ((Unit × (Int × (Unit × (Unit × (Unit × (Unit × (Int × (Unit × Unit)))))))) × ((List Int) × ((List Int) × Unit)))
noncomputable def l9 (n : Int) (last : Int) (h0 : (List Int)) (h1 : (List Int)) : Tw ((List Int) ⊕ (List Int)) :=
 (.bb (decide ((((List.length h1) : Nat) : Int) < (100 : Int)))
  (.dd ((((((List.length h1) + (List.length ((4294967295 : Int) :: ([] : List Int)))) * (4 : Nat)) ≤ (140737488355328 : Nat)) ∧ (((List.length h1) + (List.length ((4294967295 : Int) :: ([] : List Int)))) ≤ (140737488355328 : Nat)))) inferInstance
   (.ret (.inl (h1 ++ ((4294967295 : Int) :: ([] : List Int)))))
   .no)
  (.ret (.inr h1)))
noncomputable def L9 (n : Int) (last : Int) (h0 : (List Int)) (h1 : (List Int)) : Option (List Int) := Lp (fun s => (l9 n last h0 s).run) h1
def p9 : Pt := (.cs (.bots 1) (.cs (.int .i64) (.cs (.bots 5) (.cs (.own 0) (.cs (.bots 1) (.cs (.own 1) (.cs (.int .u32) (.cs (.bots 69) .nl))))))))
def q9 : Pt := (.cs (.row 3 true) (.cs (.row 3 true) .nl))
def ou9 (l : T9) (y : (List Int)) : Ex × St U := (.exit 0, stOf 80 [(1, .im (.int .i64 l.1.2.1)), (7, .own 0), (9, .own 1), (10, .im (.int .u32 l.1.2.2.2.2.2.2.1))] [.row 3 l.2.1 true, .row 3 y true] 0)
noncomputable def Λ9 : LFun U := mkLp (U := U) p9 q9 0 (X := (List Int)) (fun (l : T9) => L9 l.1.2.1 l.1.2.2.2.2.2.2.1 l.2.1 l.2.2.1) sp1 ou9
noncomputable def t (f_0 : Int) (f_1 : Int) (f_2 : (List Int)) (n : Int) (mask : Int) : Tw Bool :=
 (.opt (frame_Lay.c f_0 f_1 f_2) fun z1 =>
  (.bb (z1.1 != (0 : Int))
   (.opt (ref10_Right.c f_0 f_1 f_2) fun z10 =>
    (.bb (!z10)
     (.opt (law10_awake.c) fun z11 =>
      (.ret z11))
     (.ret false)))
   (.bb (decide (n < (0 : Int)))
    (.opt (law10_awake.c) fun z9 =>
     (.ret z9))
    (.bb (decide (n ≥ (((List.length z1.2) : Nat) : Int)))
     (.opt (law10_awake.c) fun z8 =>
      (.ret z8))
     (.dd ((((0 : Int) ≤ n) ∧ (n ≤ (((List.length z1.2) : Nat) : Int)))) inferInstance
      (.dd (((((List.length (List.take ((Int.toNat n) - (0 : Nat)) (List.drop (0 : Nat) z1.2))) * (4 : Nat)) ≤ (140737488355328 : Nat)) ∧ ((List.length (List.take ((Int.toNat n) - (0 : Nat)) (List.drop (0 : Nat) z1.2))) ≤ (140737488355328 : Nat)))) inferInstance
       (.dd ((((0 : Int) ≤ n) ∧ (n < (((List.length z1.2) : Nat) : Int)))) inferInstance
        (.opt (z1.2)[(Int.toNat n)]? fun z2 =>
         (.dd ((((((List.length (List.take ((Int.toNat n) - (0 : Nat)) (List.drop (0 : Nat) z1.2))) + (List.length ((bOr .u32 z2 mask) :: ([] : List Int)))) * (4 : Nat)) ≤ (140737488355328 : Nat)) ∧ (((List.length (List.take ((Int.toNat n) - (0 : Nat)) (List.drop (0 : Nat) z1.2))) + (List.length ((bOr .u32 z2 mask) :: ([] : List Int)))) ≤ (140737488355328 : Nat)))) inferInstance
          (.opt (L9 n (bOr .u32 z2 mask) z1.2 ((List.take ((Int.toNat n) - (0 : Nat)) (List.drop (0 : Nat) z1.2)) ++ ((bOr .u32 z2 mask) :: ([] : List Int)))) fun z3 =>
           (.opt (frame_Read.c z3) fun z4 =>
            (.bb (n == (w64 ((((List.length z1.2) : Nat) : Int) - (1 : Int))))
             (.dd ((((0 : Int) ≤ n) ∧ (n < (((List.length z1.2) : Nat) : Int)))) inferInstance
              (.opt (z1.2)[(Int.toNat n)]? fun z6 =>
               (.bb (z4.2.2.2.1 == ((bOr .u32 z2 mask) == z6))
                (.opt (law10_awake.c) fun z7 =>
                 (.ret z7))
                (.ret false)))
              .no)
             (.bb (z4.2.2.2.1 == false)
              (.opt (law10_awake.c) fun z5 =>
               (.ret z5))
              (.ret false)))))
          .no))
        .no)
       .no)
      .no)))))
noncomputable def c (f_0 : Int) (f_1 : Int) (f_2 : (List Int)) (n : Int) (mask : Int) : Option Bool := (t f_0 f_1 f_2 n mask).run
def pA : Pt := (.cs (.agg (.cs (.int .i64) (.cs (.int .i64) (.cs (.sl 3) .nl)))) (.cs (.int .i64) (.cs (.int .u32) .nl)))
def pH : Pt := .nl
def v (l : TA) (y : Bool) : AV U := .im (.bool y)
def hh (l : TA) (y : Bool) : Hp U := []
noncomputable def A : AFun U := mkA (U := U) pA pH (X := Bool) (fun (l : TA) => c l.1.1.1 l.1.1.2.1 l.1.1.2.2.1 l.1.2.1 l.1.2.2.1) sp1 v hh
noncomputable def body : Code := (Go.Func.body Try.f12).getD .skip
noncomputable def Γ : List (FuncId × AFun U) := [(45, frame_Lay.A), (49, frame_Read.A), (52, law10_awake.A), (46, ref10_Right.A)]
noncomputable def Λ : List (Nat × LFun U) := [(9, Λ9)]
def D : Nat → Lv × Lv := dtab [(9, ⟨[9, 1, 7, 10], []⟩, ⟨[6, 1, 7, 10, 9], []⟩)]
noncomputable def E : Env U := { E0 with Γ := Γ, Λ := Λ, C := [], D := D }
theorem hf9 (R : Type) (l : T9) (s : (List Int)) (K : Ex → St U → Option R) : codeA E (pick (loopsOf body) 9) ⟨p9.mkL ((((), (l.1.2.1, ((), ((), ((), ((), (l.1.2.2.2.2.2.2.1, ((), ())))))))), (l.2.1, (s, ()))) : T9).1, q9.mkH ((((), (l.1.2.1, ((), ((), ((), ((), (l.1.2.2.2.2.2.2.1, ((), ())))))))), (l.2.1, (s, ()))) : T9).2, 0⟩ (roundK E (pick (loopsOf body) 9) K) =
  (l9 l.1.2.1 l.1.2.2.2.2.2.2.1 l.2.1 s).runK (lpK K (fun s => ⟨p9.mkL ((((), (l.1.2.1, ((), ((), ((), ((), (l.1.2.2.2.2.2.2.1, ((), ())))))))), (l.2.1, (s, ()))) : T9).1, q9.mkH ((((), (l.1.2.1, ((), ((), ((), ((), (l.1.2.2.2.2.2.2.1, ((), ())))))))), (l.2.1, (s, ()))) : T9).2, 0⟩) sp1 (ou9 l)) := by kernel_rfl
theorem lk9 (R : Type) (st : St U) (K : Ex → St U → Option R) (r : R) (h : Λ9 R st K = some r) : ∃ n, loopA E (pick (loopsOf body) 9) n st K = some r :=
  lp_ok (U := U) (E := E) (b := pick (loopsOf body) 9) (m := 0) (sp := sp1) (p := p9) (q := q9) (X := (List Int)) (S := (List Int)) (f := fun (l : T9) s => l9 l.1.2.1 l.1.2.2.2.2.2.2.1 l.2.1 s) (hd := fun (l : T9) s => (((), (l.1.2.1, ((), ((), ((), ((), (l.1.2.2.2.2.2.2.1, ((), ())))))))), (l.2.1, (s, ())))) (s0 := fun (l : T9) => l.2.2.1) (ou := ou9)
    (fun l => rfl) (fun l x => by rfl) sp1_ok hf9 h
theorem hk (R : Type) (l : TA) (K : AV U → Hp U → Option R) : funcA E Try.f12 [] R (pA.mkL l.1) (pH.mkH l.2) K = (t l.1.1.1 l.1.1.2.1 l.1.1.2.2.1 l.1.2.1 l.1.2.2.1).runK fun y => K (v l y) (hh l y) := by kernel_rfl
theorem okF : SoundF Try.prog cc 12 (funcA E Try.f12 []) :=
  funcA_ok (E := E) P_mixed (E0_ok.with Γ Λ [] D) (gam_of (all_cons ⟨frame_Lay.ok, ⟨Try.f45, Try.func45, by kernel_rfl, by kernel_rfl⟩⟩ (all_cons ⟨frame_Read.ok, ⟨Try.f49, Try.func49, by kernel_rfl, by kernel_rfl⟩⟩ (all_cons ⟨law10_awake.ok, ⟨Try.f52, Try.func52, by kernel_rfl, by kernel_rfl⟩⟩ (all_cons ⟨ref10_Right.ok, ⟨Try.f46, Try.func46, by kernel_rfl, by kernel_rfl⟩⟩ all_nil))))) Try.func12 (c := body) (by kernel_rfl)
    (just_by (by kernel_rfl) (by kernel_rfl) (all_cons lk9 all_nil) all_nil) []
theorem ok : SoundF Try.prog cc 12 A :=
  mkA_ok (E := E) (p := pA) (q := pH) (t := fun (l : TA) => t l.1.1.1 l.1.1.2.1 l.1.1.2.2.1 l.1.2.1 l.1.2.2.1) sp1_ok hk okF
end law10_FrameCut

end Go.Proofs.Ytcnomgpbkimmeaa.Va
