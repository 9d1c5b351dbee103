/- The functions of package law02, as plain functions, and that the program computes them. Printed by a program of this work out of the evaluator. -/
import Derived.Test.YtadhnolgfhgepaaEn
import Derived.Tactics
import Derived.Test.YtadhnolgfhgepaaFref01
import Derived.Test.YtadhnolgfhgepaaFref02
import Derived.Test.YtadhnolgfhgepaaFzeros
namespace Go.Proofs.Ytadhnolgfhgepaa.Va
open Go
set_option linter.unusedVariables false
set_option maxRecDepth 100000

/-! instar/instarlaw02.awake -/
namespace law02_awake
abbrev TA : Type := (Unit × Unit)
noncomputable def t : Tw Bool :=
 (.opt (zeros_Twin.c (1 : Int)) fun z1 =>
  (.opt (zeros_Sum.c ((0 : Int) :: ((1 : Int) :: []))) fun z2 =>
   (.bb (z2 == (63 : Int))
    (.bb (z1.1 == (4294836225 : Int))
     (.bb (z1.2 == (0 : Int))
      (.opt (zeros_Right.c ((0 : Int) :: ((32 : Int) :: []))) fun z3 =>
       (.bb z3
        (.opt (zeros_Right_none0.c) fun z4 =>
         (.ret (!z4)))
        (.ret false)))
      (.ret false))
     (.ret false))
    (.ret false))))
noncomputable def c : Option Bool := (t).run
def pA : Pt := .nl
def pH : Pt := .nl
def v (l : TA) (y : Bool) : AV U := .im (.bool y)
def hh (l : TA) (y : Bool) : Hp U := []
noncomputable def A : AFun U := mkA (U := U) pA pH (X := Bool) (fun (l : TA) => c) sp1 v hh
noncomputable def body : Code := (Go.Func.body Try.f30).getD .skip
noncomputable def Γ : List (FuncId × AFun U) := [(33, zeros_Twin.A), (23, zeros_Sum.A), (28, (orA zeros_Right.pA zeros_Right.pH zeros_Right.A zeros_Right_none0.A))]
noncomputable def Λ : List (Nat × LFun U) := []
def D : Nat → Lv × Lv := dtab []
noncomputable def E : Env U := { E0 with Γ := Γ, Λ := Λ, C := [], D := D }
theorem hk (R : Type) (l : TA) (K : AV U → Hp U → Option R) : funcA E Try.f30 [] R (pA.mkL l.1) (pH.mkH l.2) K = (t).runK fun y => K (v l y) (hh l y) := by kernel_rfl
theorem okF : SoundF Try.prog cc 30 (funcA E Try.f30 []) :=
  funcA_ok (E := E) P_mixed (E0_ok.with Γ Λ [] D) (gam_of (all_cons ⟨zeros_Twin.ok, ⟨Try.f33, Try.func33, by kernel_rfl, by kernel_rfl⟩⟩ (all_cons ⟨zeros_Sum.ok, ⟨Try.f23, Try.func23, by kernel_rfl, by kernel_rfl⟩⟩ (all_cons ⟨(orA_ok zeros_Right.ok zeros_Right_none0.ok), ⟨Try.f28, Try.func28, by kernel_rfl, by kernel_rfl⟩⟩ all_nil)))) Try.func30 (c := body) (by kernel_rfl)
    (just_by (by kernel_rfl) (by kernel_rfl) all_nil all_nil) []
theorem ok : SoundF Try.prog cc 30 A :=
  mkA_ok (E := E) (p := pA) (q := pH) (t := fun (l : TA) => t) sp1_ok hk okF
end law02_awake

/-! instar/instarlaw02.ZerosSums -/
namespace law02_ZerosSums
abbrev TA : Type := (((List Int) × Unit) × Unit)
noncomputable def t (l_ : (List Int)) : Tw Bool :=
 (.opt (zeros_Sum.c l_) fun z1 =>
  (.opt (ref02_Sum.c l_) fun z2 =>
   (.bb (z1 == z2)
    (.opt (zeros_Seal.c l_) fun z3 =>
     (.opt (ref02_Seal.c l_) fun z4 =>
      (.opt (ref01_Same.c z3 z4) fun z5 =>
       (.bb z5
        (.opt (zeros_Right.c l_) fun z6 =>
         (.opt (ref02_Right.c l_) fun z7 =>
          (.bb (z6 == z7)
           (.opt (law02_awake.c) fun z8 =>
            (.ret z8))
           (.ret false))))
        (.ret false)))))
    (.ret false))))
noncomputable def c (l_ : (List Int)) : Option Bool := (t l_).run
def pA : Pt := (.cs (.sl 3) .nl)
def pH : Pt := .nl
def v (l : TA) (y : Bool) : AV U := .im (.bool y)
def hh (l : TA) (y : Bool) : Hp U := []
noncomputable def A : AFun U := mkA (U := U) pA pH (X := Bool) (fun (l : TA) => c l.1.1) sp1 v hh
noncomputable def body : Code := (Go.Func.body Try.f5).getD .skip
noncomputable def Γ : List (FuncId × AFun U) := [(23, zeros_Sum.A), (24, ref02_Sum.A), (26, zeros_Seal.A), (27, ref02_Seal.A), (25, ref01_Same.A), (28, zeros_Right.A), (29, ref02_Right.A), (30, law02_awake.A)]
noncomputable def Λ : List (Nat × LFun U) := []
def D : Nat → Lv × Lv := dtab []
noncomputable def E : Env U := { E0 with Γ := Γ, Λ := Λ, C := [], D := D }
theorem hk (R : Type) (l : TA) (K : AV U → Hp U → Option R) : funcA E Try.f5 [] R (pA.mkL l.1) (pH.mkH l.2) K = (t l.1.1).runK fun y => K (v l y) (hh l y) := by kernel_rfl
theorem okF : SoundF Try.prog cc 5 (funcA E Try.f5 []) :=
  funcA_ok (E := E) P_mixed (E0_ok.with Γ Λ [] D) (gam_of (all_cons ⟨zeros_Sum.ok, ⟨Try.f23, Try.func23, by kernel_rfl, by kernel_rfl⟩⟩ (all_cons ⟨ref02_Sum.ok, ⟨Try.f24, Try.func24, by kernel_rfl, by kernel_rfl⟩⟩ (all_cons ⟨zeros_Seal.ok, ⟨Try.f26, Try.func26, by kernel_rfl, by kernel_rfl⟩⟩ (all_cons ⟨ref02_Seal.ok, ⟨Try.f27, Try.func27, by kernel_rfl, by kernel_rfl⟩⟩ (all_cons ⟨ref01_Same.ok, ⟨Try.f25, Try.func25, by kernel_rfl, by kernel_rfl⟩⟩ (all_cons ⟨zeros_Right.ok, ⟨Try.f28, Try.func28, by kernel_rfl, by kernel_rfl⟩⟩ (all_cons ⟨ref02_Right.ok, ⟨Try.f29, Try.func29, by kernel_rfl, by kernel_rfl⟩⟩ (all_cons ⟨law02_awake.ok, ⟨Try.f30, Try.func30, by kernel_rfl, by kernel_rfl⟩⟩ all_nil))))))))) Try.func5 (c := body) (by kernel_rfl)
    (just_by (by kernel_rfl) (by kernel_rfl) all_nil all_nil) []
theorem ok : SoundF Try.prog cc 5 A :=
  mkA_ok (E := E) (p := pA) (q := pH) (t := fun (l : TA) => t l.1.1) sp1_ok hk okF
end law02_ZerosSums

/-! instar/instarlaw02.ZerosTwins -/
namespace law02_ZerosTwins
abbrev TA : Type := ((Int × (Int × Unit)) × Unit)
noncomputable def t (n : Int) (x : Int) : Tw Bool :=
 (.opt (zeros_Told.c x) fun z1 =>
  (.opt (ref02_Told.c x) fun z2 =>
   (.opt (zeros_Twin.c n) fun z3 =>
    (.bb (z1.1 != z2.1)
     (.ret false)
     (.bb (!(z1.2 == z2.2))
      (.ret false)
      (.bb (decide (n < (0 : Int)))
       (.bb (z3.1 == (0 : Int))
        (.bb (z3.2 == (2 : Int))
         (.opt (law02_awake.c) fun z8 =>
          (.ret z8))
         (.ret false))
        (.ret false))
       (.bb (decide (n > (65535 : Int)))
        (.bb (z3.1 == (0 : Int))
         (.bb (z3.2 == (2 : Int))
          (.opt (law02_awake.c) fun z7 =>
           (.ret z7))
          (.ret false))
         (.ret false))
        (.opt (zeros_Told.c z3.1) fun z4 =>
         (.opt (ref02_Twin.c n) fun z5 =>
          (.bb (z3.1 == z5)
           (.bb (z3.2 == (0 : Int))
            (.bb (z4.1 == n)
             (.bb z4.2
              (.opt (law02_awake.c) fun z6 =>
               (.ret z6))
              (.ret false))
             (.ret false))
            (.ret false))
           (.ret false)))))))))))
noncomputable def c (n : Int) (x : Int) : Option Bool := (t n x).run
def pA : Pt := (.cs (.int .i64) (.cs (.int .u32) .nl))
def pH : Pt := .nl
def v (l : TA) (y : Bool) : AV U := .im (.bool y)
def hh (l : TA) (y : Bool) : Hp U := []
noncomputable def A : AFun U := mkA (U := U) pA pH (X := Bool) (fun (l : TA) => c l.1.1 l.1.2.1) sp1 v hh
noncomputable def body : Code := (Go.Func.body Try.f6).getD .skip
noncomputable def Γ : List (FuncId × AFun U) := [(31, zeros_Told.A), (32, ref02_Told.A), (33, zeros_Twin.A), (34, ref02_Twin.A), (30, law02_awake.A)]
noncomputable def Λ : List (Nat × LFun U) := []
def D : Nat → Lv × Lv := dtab []
noncomputable def E : Env U := { E0 with Γ := Γ, Λ := Λ, C := [], D := D }
theorem hk (R : Type) (l : TA) (K : AV U → Hp U → Option R) : funcA E Try.f6 [] R (pA.mkL l.1) (pH.mkH l.2) K = (t l.1.1 l.1.2.1).runK fun y => K (v l y) (hh l y) := by kernel_rfl
theorem okF : SoundF Try.prog cc 6 (funcA E Try.f6 []) :=
  funcA_ok (E := E) P_mixed (E0_ok.with Γ Λ [] D) (gam_of (all_cons ⟨zeros_Told.ok, ⟨Try.f31, Try.func31, by kernel_rfl, by kernel_rfl⟩⟩ (all_cons ⟨ref02_Told.ok, ⟨Try.f32, Try.func32, by kernel_rfl, by kernel_rfl⟩⟩ (all_cons ⟨zeros_Twin.ok, ⟨Try.f33, Try.func33, by kernel_rfl, by kernel_rfl⟩⟩ (all_cons ⟨ref02_Twin.ok, ⟨Try.f34, Try.func34, by kernel_rfl, by kernel_rfl⟩⟩ (all_cons ⟨law02_awake.ok, ⟨Try.f30, Try.func30, by kernel_rfl, by kernel_rfl⟩⟩ all_nil)))))) Try.func6 (c := body) (by kernel_rfl)
    (just_by (by kernel_rfl) (by kernel_rfl) all_nil all_nil) []
theorem ok : SoundF Try.prog cc 6 A :=
  mkA_ok (E := E) (p := pA) (q := pH) (t := fun (l : TA) => t l.1.1 l.1.2.1) sp1_ok hk okF
end law02_ZerosTwins

/-! instar/instarlaw02.ZerosSure -/
namespace law02_ZerosSure
abbrev TA : Type := (((List Int) × ((List Int) × Unit)) × Unit)
abbrev T7 : Type := ((Unit × ((List Int) × (Unit × (Unit × (Bool × (Unit × (Int × (Unit × Unit)))))))) × ((List Int) × ((List Int) × Unit)))
noncomputable def l7 (up : (List Int)) (h0 : (List Int)) (same : Bool) (i : Int) (h1 : (List Int)) : Tw ((Bool × (Int × (List Int))) ⊕ (Bool × (List Int))) :=
 (.bb (decide (i < (((List.length h1) : Nat) : Int)))
  (.bb (decide (i < (((List.length up) : Nat) : Int)))
   (.dd ((((0 : Int) ≤ i) ∧ (i < (((List.length h1) : Nat) : Int)))) inferInstance
    (.opt (h1)[(Int.toNat i)]? fun z3 =>
     (.dd (((0 : Int) ≤ i)) inferInstance
      (.opt (up)[(Int.toNat i)]? fun z4 =>
       (.dd ((((0 : Int) ≤ i) ∧ (i < (((List.length h1) : Nat) : Int)))) inferInstance
        (.opt (h1)[(Int.toNat i)]? fun z5 =>
         (.bb same
          (.dd ((((0 : Int) ≤ i) ∧ (i < (((List.length (List.set h1 (Int.toNat i) (bOr .u32 z3 z4))) : Nat) : Int)))) inferInstance
           (.opt ((List.set h1 (Int.toNat i) (bOr .u32 z3 z4)))[(Int.toNat i)]? fun z6 =>
            (.dd ((((0 : Int) ≤ i) ∧ (i < (((List.length h0) : Nat) : Int)))) inferInstance
             (.opt (h0)[(Int.toNat i)]? fun z7 =>
              (.ret (.inl ((z6 == z7), ((w64 (i + (1 : Int))), (List.set h1 (Int.toNat i) (bOr .u32 z3 z4)))))))
             .no))
           .no)
          (.ret (.inl (false, ((w64 (i + (1 : Int))), (List.set h1 (Int.toNat i) (bOr .u32 z3 z4))))))))
        .no))
      .no))
    .no)
   (.ret (.inr (same, h1))))
  (.ret (.inr (same, h1))))
noncomputable def L7 (up : (List Int)) (same : Bool) (i : Int) (h0 : (List Int)) (h1 : (List Int)) : Option (Bool × (List Int)) := Lp (fun s => (l7 up h0 s.1 s.2.1 s.2.2).run) (same, (i, h1))
def p7 : Pt := (.cs (.bots 1) (.cs (.sl 3) (.cs (.bots 3) (.cs (.own 0) (.cs .bool (.cs (.own 1) (.cs (.int .i64) (.cs (.bots 58) .nl))))))))
def q7 : Pt := (.cs (.row 3 true) (.cs (.row 3 true) .nl))
def ou7 (l : T7) (y : (Bool × (List Int))) : Ex × St U := (.exit 0, stOf 67 [(6, .im (.bool y.1)), (7, .own 0)] [.row 3 y.2 true] 0)
noncomputable def Λ7 : LFun U := mkLp (U := U) p7 q7 0 (X := (Bool × (List Int))) (fun (l : T7) => L7 l.1.2.1 l.1.2.2.2.2.1 l.1.2.2.2.2.2.2.1 l.2.1 l.2.2.1) sp1 ou7
noncomputable def t (l_ : (List Int)) (up : (List Int)) : Tw Bool :=
 (.opt (zeros_Seal.c l_) fun z1 =>
  (.opt (zeros_Right.c z1) fun z2 =>
   (.bb (!z2)
    (.ret false)
    (.bb ((((List.length z1) : Nat) : Int) != (w64 ((((List.length l_) : Nat) : Int) + (1 : Int))))
     (.ret false)
     (.dd (((((List.length z1) * (4 : Nat)) ≤ (140737488355328 : Nat)) ∧ ((List.length z1) ≤ (140737488355328 : Nat)))) inferInstance
      (.opt (L7 up true (0 : Int) z1 z1) fun z8 =>
       (.opt (zeros_Right.c z8.2) fun z9 =>
        (.bb (z9 == z8.1)
         (.opt (law02_awake.c) fun z10 =>
          (.ret z10))
         (.ret false))))
      .no)))))
noncomputable def c (l_ : (List Int)) (up : (List Int)) : Option Bool := (t l_ up).run
def pA : Pt := (.cs (.sl 3) (.cs (.sl 3) .nl))
def pH : Pt := .nl
def v (l : TA) (y : Bool) : AV U := .im (.bool y)
def hh (l : TA) (y : Bool) : Hp U := []
noncomputable def A : AFun U := mkA (U := U) pA pH (X := Bool) (fun (l : TA) => c l.1.1 l.1.2.1) sp1 v hh
noncomputable def body : Code := (Go.Func.body Try.f7).getD .skip
noncomputable def Γ : List (FuncId × AFun U) := [(26, zeros_Seal.A), (28, zeros_Right.A), (30, law02_awake.A)]
noncomputable def Λ : List (Nat × LFun U) := [(7, Λ7)]
def D : Nat → Lv × Lv := dtab [(7, ⟨[8, 5, 7, 6, 1], []⟩, ⟨[4, 6, 7], []⟩)]
noncomputable def E : Env U := { E0 with Γ := Γ, Λ := Λ, C := [], D := D }
theorem hf7 (R : Type) (l : T7) (s : (Bool × (Int × (List Int)))) (K : Ex → St U → Option R) : codeA E (pick (loopsOf body) 7) ⟨p7.mkL ((((), (l.1.2.1, ((), ((), (s.1, ((), (s.2.1, ((), ())))))))), (l.2.1, (s.2.2, ()))) : T7).1, q7.mkH ((((), (l.1.2.1, ((), ((), (s.1, ((), (s.2.1, ((), ())))))))), (l.2.1, (s.2.2, ()))) : T7).2, 0⟩ (roundK E (pick (loopsOf body) 7) K) =
  (l7 l.1.2.1 l.2.1 s.1 s.2.1 s.2.2).runK (lpK K (fun s => ⟨p7.mkL ((((), (l.1.2.1, ((), ((), (s.1, ((), (s.2.1, ((), ())))))))), (l.2.1, (s.2.2, ()))) : T7).1, q7.mkH ((((), (l.1.2.1, ((), ((), (s.1, ((), (s.2.1, ((), ())))))))), (l.2.1, (s.2.2, ()))) : T7).2, 0⟩) sp1 (ou7 l)) := by kernel_rfl
theorem lk7 (R : Type) (st : St U) (K : Ex → St U → Option R) (r : R) (h : Λ7 R st K = some r) : ∃ n, loopA E (pick (loopsOf body) 7) n st K = some r :=
  lp_ok (U := U) (E := E) (b := pick (loopsOf body) 7) (m := 0) (sp := sp1) (p := p7) (q := q7) (X := (Bool × (List Int))) (S := (Bool × (Int × (List Int)))) (f := fun (l : T7) s => l7 l.1.2.1 l.2.1 s.1 s.2.1 s.2.2) (hd := fun (l : T7) s => (((), (l.1.2.1, ((), ((), (s.1, ((), (s.2.1, ((), ())))))))), (l.2.1, (s.2.2, ())))) (s0 := fun (l : T7) => (l.1.2.2.2.2.1, (l.1.2.2.2.2.2.2.1, l.2.2.1))) (ou := ou7)
    (fun l => rfl) (fun l x => by rfl) sp1_ok hf7 h
theorem hk (R : Type) (l : TA) (K : AV U → Hp U → Option R) : funcA E Try.f7 [] R (pA.mkL l.1) (pH.mkH l.2) K = (t l.1.1 l.1.2.1).runK fun y => K (v l y) (hh l y) := by kernel_rfl
theorem okF : SoundF Try.prog cc 7 (funcA E Try.f7 []) :=
  funcA_ok (E := E) P_mixed (E0_ok.with Γ Λ [] D) (gam_of (all_cons ⟨zeros_Seal.ok, ⟨Try.f26, Try.func26, by kernel_rfl, by kernel_rfl⟩⟩ (all_cons ⟨zeros_Right.ok, ⟨Try.f28, Try.func28, by kernel_rfl, by kernel_rfl⟩⟩ (all_cons ⟨law02_awake.ok, ⟨Try.f30, Try.func30, by kernel_rfl, by kernel_rfl⟩⟩ all_nil)))) Try.func7 (c := body) (by kernel_rfl)
    (just_by (by kernel_rfl) (by kernel_rfl) (all_cons lk7 all_nil) all_nil) []
theorem ok : SoundF Try.prog cc 7 A :=
  mkA_ok (E := E) (p := pA) (q := pH) (t := fun (l : TA) => t l.1.1 l.1.2.1) sp1_ok hk okF
end law02_ZerosSure

/-! instar/instarlaw02.ZerosOne -/
namespace law02_ZerosOne
abbrev TA : Type := ((Int × (Int × Unit)) × Unit)
noncomputable def t (n : Int) (up : Int) : Tw Bool :=
 (.opt (zeros_Twin.c n) fun z1 =>
  (.bb (z1.2 != (0 : Int))
   (.bb (decide (n < (0 : Int)))
    (.opt (law02_awake.c) fun z6 =>
     (.ret z6))
    (.bb (decide (n > (65535 : Int)))
     (.opt (law02_awake.c) fun z5 =>
      (.ret z5))
     (.ret false)))
   (.opt (zeros_Told.c (bOr .u32 z1.1 up)) fun z2 =>
    (.bb (z2.2 == ((bOr .u32 z1.1 up) == z1.1))
     (.bb (!z2.2)
      (.opt (law02_awake.c) fun z4 =>
       (.ret z4))
      (.bb (z2.1 == n)
       (.opt (law02_awake.c) fun z3 =>
        (.ret z3))
       (.ret false)))
     (.ret false)))))
noncomputable def c (n : Int) (up : Int) : Option Bool := (t n up).run
def pA : Pt := (.cs (.int .i64) (.cs (.int .u32) .nl))
def pH : Pt := .nl
def v (l : TA) (y : Bool) : AV U := .im (.bool y)
def hh (l : TA) (y : Bool) : Hp U := []
noncomputable def A : AFun U := mkA (U := U) pA pH (X := Bool) (fun (l : TA) => c l.1.1 l.1.2.1) sp1 v hh
noncomputable def body : Code := (Go.Func.body Try.f8).getD .skip
noncomputable def Γ : List (FuncId × AFun U) := [(33, zeros_Twin.A), (31, zeros_Told.A), (30, law02_awake.A)]
noncomputable def Λ : List (Nat × LFun U) := []
def D : Nat → Lv × Lv := dtab []
noncomputable def E : Env U := { E0 with Γ := Γ, Λ := Λ, C := [], D := D }
theorem hk (R : Type) (l : TA) (K : AV U → Hp U → Option R) : funcA E Try.f8 [] R (pA.mkL l.1) (pH.mkH l.2) K = (t l.1.1 l.1.2.1).runK fun y => K (v l y) (hh l y) := by kernel_rfl
theorem okF : SoundF Try.prog cc 8 (funcA E Try.f8 []) :=
  funcA_ok (E := E) P_mixed (E0_ok.with Γ Λ [] D) (gam_of (all_cons ⟨zeros_Twin.ok, ⟨Try.f33, Try.func33, by kernel_rfl, by kernel_rfl⟩⟩ (all_cons ⟨zeros_Told.ok, ⟨Try.f31, Try.func31, by kernel_rfl, by kernel_rfl⟩⟩ (all_cons ⟨law02_awake.ok, ⟨Try.f30, Try.func30, by kernel_rfl, by kernel_rfl⟩⟩ all_nil)))) Try.func8 (c := body) (by kernel_rfl)
    (just_by (by kernel_rfl) (by kernel_rfl) all_nil all_nil) []
theorem ok : SoundF Try.prog cc 8 A :=
  mkA_ok (E := E) (p := pA) (q := pH) (t := fun (l : TA) => t l.1.1 l.1.2.1) sp1_ok hk okF
end law02_ZerosOne

end Go.Proofs.Ytadhnolgfhgepaa.Va
