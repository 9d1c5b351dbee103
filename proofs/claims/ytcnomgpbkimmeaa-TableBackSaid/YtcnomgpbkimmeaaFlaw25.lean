/- The functions of package law25, as plain functions, and that the program computes them. Printed by a program of this work out of the evaluator. -/
import Derived.Test.YtcnomgpbkimmeaaEn
import Derived.Tactics
import Derived.Test.YtcnomgpbkimmeaaFref01
import Derived.Test.YtcnomgpbkimmeaaFref25
import Derived.Test.YtcnomgpbkimmeaaFtable
namespace Go.Proofs.Ytcnomgpbkimmeaa.Va
open Go
set_option linter.unusedVariables false
set_option maxRecDepth 100000

/-! instar/instarlaw25.awake -/
namespace law25_awake
abbrev TA : Type := (Unit × Unit)
noncomputable def t : Tw Bool :=
 (.opt (table_Lay.c (1 : Int) (2 : Int) ((3 : Int) :: ([] : List Int))) fun z1 =>
  (.opt (ref01_Same.c z1.2 ((1 : Int) :: ((2 : Int) :: ((1 : Int) :: ((3 : Int) :: ((123 : Int) :: ([] : List Int))))))) fun z2 =>
   (.bb z2
    (.bb (z1.1 == (0 : Int))
     (.opt (table_Size.c (1 : Int)) fun z3 =>
      (.bb (z3 == (5 : Int))
       (.opt (table_Size.c (129 : Int)) fun z4 =>
        (.ret (z4 == (0 : Int))))
       (.ret false)))
     (.ret false))
    (.ret false))))
noncomputable def c : Option Bool := (t).run
def pA : Pt := .nl
def pH : Pt := .nl
def v (l : TA) (y : Bool) : AV U := .im (.bool y)
def hh (l : TA) (y : Bool) : Hp U := []
noncomputable def A : AFun U := mkA (U := U) pA pH (X := Bool) (fun (l : TA) => c) sp1 v hh
noncomputable def body : Code := (Go.Func.body Try.f24).getD .skip
noncomputable def Γ : List (FuncId × AFun U) := [(25, table_Lay.A), (27, ref01_Same.A), (29, table_Size.A)]
noncomputable def Λ : List (Nat × LFun U) := []
def D : Nat → Lv × Lv := dtab []
noncomputable def E : Env U := { E0 with Γ := Γ, Λ := Λ, C := [], D := D }
theorem hk (R : Type) (l : TA) (K : AV U → Hp U → Option R) : funcA E Try.f24 [] R (pA.mkL l.1) (pH.mkH l.2) K = (t).runK fun y => K (v l y) (hh l y) := by kernel_rfl
theorem okF : SoundF Try.prog cc 24 (funcA E Try.f24 []) :=
  funcA_ok (E := E) P_mixed (E0_ok.with Γ Λ [] D) (gam_of (all_cons ⟨table_Lay.ok, ⟨Try.f25, Try.func25, by kernel_rfl, by kernel_rfl⟩⟩ (all_cons ⟨ref01_Same.ok, ⟨Try.f27, Try.func27, by kernel_rfl, by kernel_rfl⟩⟩ (all_cons ⟨table_Size.ok, ⟨Try.f29, Try.func29, by kernel_rfl, by kernel_rfl⟩⟩ all_nil)))) Try.func24 (c := body) (by kernel_rfl)
    (just_by (by kernel_rfl) (by kernel_rfl) all_nil all_nil) []
theorem ok : SoundF Try.prog cc 24 A :=
  mkA_ok (E := E) (p := pA) (q := pH) (t := fun (l : TA) => t) sp1_ok hk okF
end law25_awake

/-! instar/instarlaw25.TableWords -/
namespace law25_TableWords
abbrev TA : Type := (((Int × (Int × ((List Int) × Unit))) × ((List Int) × Unit)) × Unit)
noncomputable def t (t__0 : Int) (t__1 : Int) (t__2 : (List Int)) (w : (List Int)) : Tw Bool :=
 (.bb (decide ((((List.length t__2) : Nat) : Int) > (200 : Int)))
  (.opt (law25_awake.c) fun z18 =>
   (.ret z18))
  (.opt (table_Lay.c t__0 t__1 t__2) fun z1 =>
   (.opt (ref25_Right.c t__0 t__1 t__2) fun z2 =>
    (.bb z2
     (.opt (ref25_Lay.c t__0 t__1 t__2) fun z9 =>
      (.opt (ref01_Same.c z1.2 z9) fun z10 =>
       (.bb (!z10)
        (.ret false)
        (.bb (z1.1 != (0 : Int))
         (.ret false)
         (.opt (table_Size.c (((List.length t__2) : Nat) : Int)) fun z11 =>
          (.bb ((((List.length z1.2) : Nat) : Int) != z11)
           (.ret false)
           (.opt (table_Take.c w) fun z12 =>
            (.opt (ref25_Take.c w) fun z13 =>
             (.opt (ref25_Same.c z12.1 z12.2.1 z12.2.2.2 z13.1 z13.2.1 z13.2.2.2) fun z14 =>
              (.bb z14
               (.bb (z12.2.2.1 == z13.2.2.1)
                (.opt (table_Right.c t__0 t__1 t__2) fun z15 =>
                 (.opt (ref25_Right.c t__0 t__1 t__2) fun z16 =>
                  (.bb (z15 == z16)
                   (.opt (law25_awake.c) fun z17 =>
                    (.ret z17))
                   (.ret false))))
                (.ret false))
               (.ret false)))))))))))
     (.bb ((((List.length z1.2) : Nat) : Int) != (0 : Int))
      (.ret false)
      (.bb (z1.1 != (2 : Int))
       (.ret false)
       (.opt (table_Take.c w) fun z3 =>
        (.opt (ref25_Take.c w) fun z4 =>
         (.opt (ref25_Same.c z3.1 z3.2.1 z3.2.2.2 z4.1 z4.2.1 z4.2.2.2) fun z5 =>
          (.bb z5
           (.bb (z3.2.2.1 == z4.2.2.1)
            (.opt (table_Right.c t__0 t__1 t__2) fun z6 =>
             (.opt (ref25_Right.c t__0 t__1 t__2) fun z7 =>
              (.bb (z6 == z7)
               (.opt (law25_awake.c) fun z8 =>
                (.ret z8))
               (.ret false))))
            (.ret false))
           (.ret false)))))))))))
noncomputable def c (t__0 : Int) (t__1 : Int) (t__2 : (List Int)) (w : (List Int)) : Option Bool := (t t__0 t__1 t__2 w).run
def pA : Pt := (.cs (.agg (.cs (.int .i64) (.cs (.int .i64) (.cs (.sl 1) .nl)))) (.cs (.sl 3) .nl))
def pH : Pt := .nl
def v (l : TA) (y : Bool) : AV U := .im (.bool y)
def hh (l : TA) (y : Bool) : Hp U := []
noncomputable def A : AFun U := mkA (U := U) pA pH (X := Bool) (fun (l : TA) => c l.1.1.1 l.1.1.2.1 l.1.1.2.2.1 l.1.2.1) sp1 v hh
noncomputable def body : Code := (Go.Func.body Try.f3).getD .skip
noncomputable def Γ : List (FuncId × AFun U) := [(25, table_Lay.A), (26, ref25_Right.A), (30, table_Take.A), (31, ref25_Take.A), (32, ref25_Same.A), (33, table_Right.A), (24, law25_awake.A), (28, ref25_Lay.A), (27, ref01_Same.A), (29, table_Size.A)]
noncomputable def Λ : List (Nat × LFun U) := []
def D : Nat → Lv × Lv := dtab []
noncomputable def E : Env U := { E0 with Γ := Γ, Λ := Λ, C := [], D := D }
theorem hk (R : Type) (l : TA) (K : AV U → Hp U → Option R) : funcA E Try.f3 [] R (pA.mkL l.1) (pH.mkH l.2) K = (t l.1.1.1 l.1.1.2.1 l.1.1.2.2.1 l.1.2.1).runK fun y => K (v l y) (hh l y) := by kernel_rfl
theorem okF : SoundF Try.prog cc 3 (funcA E Try.f3 []) :=
  funcA_ok (E := E) P_mixed (E0_ok.with Γ Λ [] D) (gam_of (all_cons ⟨table_Lay.ok, ⟨Try.f25, Try.func25, by kernel_rfl, by kernel_rfl⟩⟩ (all_cons ⟨ref25_Right.ok, ⟨Try.f26, Try.func26, by kernel_rfl, by kernel_rfl⟩⟩ (all_cons ⟨table_Take.ok, ⟨Try.f30, Try.func30, by kernel_rfl, by kernel_rfl⟩⟩ (all_cons ⟨ref25_Take.ok, ⟨Try.f31, Try.func31, by kernel_rfl, by kernel_rfl⟩⟩ (all_cons ⟨ref25_Same.ok, ⟨Try.f32, Try.func32, by kernel_rfl, by kernel_rfl⟩⟩ (all_cons ⟨table_Right.ok, ⟨Try.f33, Try.func33, by kernel_rfl, by kernel_rfl⟩⟩ (all_cons ⟨law25_awake.ok, ⟨Try.f24, Try.func24, by kernel_rfl, by kernel_rfl⟩⟩ (all_cons ⟨ref25_Lay.ok, ⟨Try.f28, Try.func28, by kernel_rfl, by kernel_rfl⟩⟩ (all_cons ⟨ref01_Same.ok, ⟨Try.f27, Try.func27, by kernel_rfl, by kernel_rfl⟩⟩ (all_cons ⟨table_Size.ok, ⟨Try.f29, Try.func29, by kernel_rfl, by kernel_rfl⟩⟩ all_nil))))))))))) Try.func3 (c := body) (by kernel_rfl)
    (just_by (by kernel_rfl) (by kernel_rfl) all_nil all_nil) []
theorem ok : SoundF Try.prog cc 3 A :=
  mkA_ok (E := E) (p := pA) (q := pH) (t := fun (l : TA) => t l.1.1.1 l.1.1.2.1 l.1.1.2.2.1 l.1.2.1) sp1_ok hk okF
end law25_TableWords

/-! instar/instarlaw25.TableBack -/
namespace law25_TableBack
abbrev TA : Type := (((Int × (Int × ((List Int) × Unit))) × ((List Int) × Unit)) × Unit)
noncomputable def t (t__0 : Int) (t__1 : Int) (t__2 : (List Int)) (more : (List Int)) : Tw Bool :=
 (.opt (table_Lay.c t__0 t__1 t__2) fun z1 =>
  (.bb (z1.1 != (0 : Int))
   (.bb ((((List.length z1.2) : Nat) : Int) == (0 : Int))
    (.opt (law25_awake.c) fun z5 =>
     (.ret z5))
    (.ret false))
   (.dd (((((List.length z1.2) * (4 : Nat)) ≤ (140737488355328 : Nat)) ∧ ((List.length z1.2) ≤ (140737488355328 : Nat)))) inferInstance
    (.dd ((((((List.length z1.2) + (List.length more)) * (4 : Nat)) ≤ (140737488355328 : Nat)) ∧ (((List.length z1.2) + (List.length more)) ≤ (140737488355328 : Nat)))) inferInstance
     (.opt (table_Take.c (z1.2 ++ more)) fun z2 =>
      (.opt (ref25_Same.c z2.1 z2.2.1 z2.2.2.2 t__0 t__1 t__2) fun z3 =>
       (.bb z3
        (.bb (z2.2.2.1 == (0 : Int))
         (.opt (law25_awake.c) fun z4 =>
          (.ret z4))
         (.ret false))
        (.ret false))))
     .no)
    .no)))
noncomputable def c (t__0 : Int) (t__1 : Int) (t__2 : (List Int)) (more : (List Int)) : Option Bool := (t t__0 t__1 t__2 more).run
def pA : Pt := (.cs (.agg (.cs (.int .i64) (.cs (.int .i64) (.cs (.sl 1) .nl)))) (.cs (.sl 3) .nl))
def pH : Pt := .nl
def v (l : TA) (y : Bool) : AV U := .im (.bool y)
def hh (l : TA) (y : Bool) : Hp U := []
noncomputable def A : AFun U := mkA (U := U) pA pH (X := Bool) (fun (l : TA) => c l.1.1.1 l.1.1.2.1 l.1.1.2.2.1 l.1.2.1) sp1 v hh
noncomputable def body : Code := (Go.Func.body Try.f4).getD .skip
noncomputable def Γ : List (FuncId × AFun U) := [(25, table_Lay.A), (30, table_Take.A), (32, ref25_Same.A), (24, law25_awake.A)]
noncomputable def Λ : List (Nat × LFun U) := []
def D : Nat → Lv × Lv := dtab []
noncomputable def E : Env U := { E0 with Γ := Γ, Λ := Λ, C := [], D := D }
theorem hk (R : Type) (l : TA) (K : AV U → Hp U → Option R) : funcA E Try.f4 [] R (pA.mkL l.1) (pH.mkH l.2) K = (t l.1.1.1 l.1.1.2.1 l.1.1.2.2.1 l.1.2.1).runK fun y => K (v l y) (hh l y) := by kernel_rfl
theorem okF : SoundF Try.prog cc 4 (funcA E Try.f4 []) :=
  funcA_ok (E := E) P_mixed (E0_ok.with Γ Λ [] D) (gam_of (all_cons ⟨table_Lay.ok, ⟨Try.f25, Try.func25, by kernel_rfl, by kernel_rfl⟩⟩ (all_cons ⟨table_Take.ok, ⟨Try.f30, Try.func30, by kernel_rfl, by kernel_rfl⟩⟩ (all_cons ⟨ref25_Same.ok, ⟨Try.f32, Try.func32, by kernel_rfl, by kernel_rfl⟩⟩ (all_cons ⟨law25_awake.ok, ⟨Try.f24, Try.func24, by kernel_rfl, by kernel_rfl⟩⟩ all_nil))))) Try.func4 (c := body) (by kernel_rfl)
    (just_by (by kernel_rfl) (by kernel_rfl) all_nil all_nil) []
theorem ok : SoundF Try.prog cc 4 A :=
  mkA_ok (E := E) (p := pA) (q := pH) (t := fun (l : TA) => t l.1.1.1 l.1.1.2.1 l.1.1.2.2.1 l.1.2.1) sp1_ok hk okF
end law25_TableBack

/-! instar/instarlaw25.TableSure -/
namespace law25_TableSure
abbrev TA : Type := (((Int × (Int × ((List Int) × Unit))) × ((List Int) × Unit)) × Unit)
abbrev T6 : Type := ((Unit × ((List Int) × (Unit × (Unit × (Unit × (Unit × (Bool × (Int × (Unit × Unit))))))))) × ((Int × (Int × ((List Int) × Unit))) × ((List Int) × Unit)))
noncomputable def l6 (up : (List Int)) (h0_0 : Int) (h0_1 : Int) (h0_2 : (List Int)) (same : Bool) (i : Int) (h1 : (List Int)) : Tw ((Bool × (Int × (List Int))) ⊕ (Bool × (List Int))) :=
 (.bb (decide (i < (((List.length h1) : Nat) : Int)))
  (.bb (decide (i < (((List.length up) : Nat) : Int)))
   (.bb (i != (2 : Int))
    (.dd ((((0 : Int) ≤ i) ∧ (i < (((List.length h1) : Nat) : Int)))) inferInstance
     (.opt (h1)[(Int.toNat i)]? fun z2 =>
      (.dd (((0 : Int) ≤ i)) inferInstance
       (.opt (up)[(Int.toNat i)]? fun z3 =>
        (.dd ((((0 : Int) ≤ i) ∧ (i < (((List.length h1) : Nat) : Int)))) inferInstance
         (.opt (h1)[(Int.toNat i)]? fun z4 =>
          (.bb ((bOr .u32 z2 z3) != z4)
           (.dd ((((0 : Int) ≤ i) ∧ (i < (((List.length h1) : Nat) : Int)))) inferInstance
            (.opt (h1)[(Int.toNat i)]? fun z5 =>
             (.dd (((0 : Int) ≤ i)) inferInstance
              (.opt (up)[(Int.toNat i)]? fun z6 =>
               (.dd ((((0 : Int) ≤ i) ∧ (i < (((List.length h1) : Nat) : Int)))) inferInstance
                (.opt (h1)[(Int.toNat i)]? fun z7 =>
                 (.ret (.inl (false, ((w64 (i + (1 : Int))), (List.set h1 (Int.toNat i) (bOr .u32 z5 z6)))))))
                .no))
              .no))
            .no)
           (.ret (.inl (same, ((w64 (i + (1 : Int))), h1))))))
         .no))
       .no))
     .no)
    (.ret (.inl (same, ((w64 (i + (1 : Int))), h1)))))
   (.ret (.inr (same, h1))))
  (.ret (.inr (same, h1))))
noncomputable def L6 (up : (List Int)) (same : Bool) (i : Int) (h0_0 : Int) (h0_1 : Int) (h0_2 : (List Int)) (h1 : (List Int)) : Option (Bool × (List Int)) := Lp (fun s => (l6 up h0_0 h0_1 h0_2 s.1 s.2.1 s.2.2).run) (same, (i, h1))
def p6 : Pt := (.cs (.bots 1) (.cs (.sl 3) (.cs (.ptr 0 0) (.cs (.bots 2) (.cs (.own 1) (.cs (.bots 1) (.cs .bool (.cs (.int .i64) (.cs (.bots 94) .nl)))))))))
def q6 : Pt := (.cs (.var (.cs (.int .i64) (.cs (.int .i64) (.cs (.sl 1) .nl)))) (.cs (.row 3 true) .nl))
def ou6 (l : T6) (y : (Bool × (List Int))) : Ex × St U := (.exit 0, stOf 103 [(2, .ptr 0 0), (5, .own 1), (7, .im (.bool y.1))] [.var [.im (.int .i64 l.2.1.1), .im (.int .i64 l.2.1.2.1), .im (.slice 1 l.2.1.2.2.1)], .row 3 y.2 true] 0)
noncomputable def Λ6 : LFun U := mkLp (U := U) p6 q6 0 (X := (Bool × (List Int))) (fun (l : T6) => L6 l.1.2.1 l.1.2.2.2.2.2.2.1 l.1.2.2.2.2.2.2.2.1 l.2.1.1 l.2.1.2.1 l.2.1.2.2.1 l.2.2.1) sp1 ou6
noncomputable def t (t__0 : Int) (t__1 : Int) (t__2 : (List Int)) (up : (List Int)) : Tw Bool :=
 (.opt (table_Lay.c t__0 t__1 t__2) fun z1 =>
  (.bb (z1.1 != (0 : Int))
   (.bb ((((List.length z1.2) : Nat) : Int) == (0 : Int))
    (.opt (law25_awake.c) fun z13 =>
     (.ret z13))
    (.ret false))
   (.opt (L6 up true (0 : Int) t__0 t__1 t__2 z1.2) fun z8 =>
    (.opt (table_Take.c z8.2) fun z9 =>
     (.bb z8.1
      (.opt (ref25_Same.c z9.1 z9.2.1 z9.2.2.2 t__0 t__1 t__2) fun z11 =>
       (.bb z11
        (.bb (z9.2.2.1 == (0 : Int))
         (.opt (law25_awake.c) fun z12 =>
          (.ret z12))
         (.ret false))
        (.ret false)))
      (.bb (z9.1 == (0 : Int))
       (.bb (z9.2.1 == (0 : Int))
        (.bb ((((List.length z9.2.2.2) : Nat) : Int) == (0 : Int))
         (.bb (z9.2.2.1 == (12 : Int))
          (.opt (law25_awake.c) fun z10 =>
           (.ret z10))
          (.ret false))
         (.ret false))
        (.ret false))
       (.ret false)))))))
noncomputable def c (t__0 : Int) (t__1 : Int) (t__2 : (List Int)) (up : (List Int)) : Option Bool := (t t__0 t__1 t__2 up).run
def pA : Pt := (.cs (.agg (.cs (.int .i64) (.cs (.int .i64) (.cs (.sl 1) .nl)))) (.cs (.sl 3) .nl))
def pH : Pt := .nl
def v (l : TA) (y : Bool) : AV U := .im (.bool y)
def hh (l : TA) (y : Bool) : Hp U := []
noncomputable def A : AFun U := mkA (U := U) pA pH (X := Bool) (fun (l : TA) => c l.1.1.1 l.1.1.2.1 l.1.1.2.2.1 l.1.2.1) sp1 v hh
noncomputable def body : Code := (Go.Func.body Try.f5).getD .skip
noncomputable def Γ : List (FuncId × AFun U) := [(25, table_Lay.A), (30, table_Take.A), (24, law25_awake.A), (32, ref25_Same.A)]
noncomputable def Λ : List (Nat × LFun U) := [(6, Λ6)]
def D : Nat → Lv × Lv := dtab [(6, ⟨[8, 1, 5, 2, 7], []⟩, ⟨[4, 2, 7, 5], []⟩)]
noncomputable def E : Env U := { E0 with Γ := Γ, Λ := Λ, C := [], D := D }
theorem hf6 (R : Type) (l : T6) (s : (Bool × (Int × (List Int)))) (K : Ex → St U → Option R) : codeA E (pick (loopsOf body) 6) ⟨p6.mkL ((((), (l.1.2.1, ((), ((), ((), ((), (s.1, (s.2.1, ((), ()))))))))), ((l.2.1.1, (l.2.1.2.1, (l.2.1.2.2.1, ()))), (s.2.2, ()))) : T6).1, q6.mkH ((((), (l.1.2.1, ((), ((), ((), ((), (s.1, (s.2.1, ((), ()))))))))), ((l.2.1.1, (l.2.1.2.1, (l.2.1.2.2.1, ()))), (s.2.2, ()))) : T6).2, 0⟩ (roundK E (pick (loopsOf body) 6) K) =
  (l6 l.1.2.1 l.2.1.1 l.2.1.2.1 l.2.1.2.2.1 s.1 s.2.1 s.2.2).runK (lpK K (fun s => ⟨p6.mkL ((((), (l.1.2.1, ((), ((), ((), ((), (s.1, (s.2.1, ((), ()))))))))), ((l.2.1.1, (l.2.1.2.1, (l.2.1.2.2.1, ()))), (s.2.2, ()))) : T6).1, q6.mkH ((((), (l.1.2.1, ((), ((), ((), ((), (s.1, (s.2.1, ((), ()))))))))), ((l.2.1.1, (l.2.1.2.1, (l.2.1.2.2.1, ()))), (s.2.2, ()))) : T6).2, 0⟩) sp1 (ou6 l)) := by kernel_rfl
theorem lk6 (R : Type) (st : St U) (K : Ex → St U → Option R) (r : R) (h : Λ6 R st K = some r) : ∃ n, loopA E (pick (loopsOf body) 6) n st K = some r :=
  lp_ok (U := U) (E := E) (b := pick (loopsOf body) 6) (m := 0) (sp := sp1) (p := p6) (q := q6) (X := (Bool × (List Int))) (S := (Bool × (Int × (List Int)))) (f := fun (l : T6) s => l6 l.1.2.1 l.2.1.1 l.2.1.2.1 l.2.1.2.2.1 s.1 s.2.1 s.2.2) (hd := fun (l : T6) s => (((), (l.1.2.1, ((), ((), ((), ((), (s.1, (s.2.1, ((), ()))))))))), ((l.2.1.1, (l.2.1.2.1, (l.2.1.2.2.1, ()))), (s.2.2, ())))) (s0 := fun (l : T6) => (l.1.2.2.2.2.2.2.1, (l.1.2.2.2.2.2.2.2.1, l.2.2.1))) (ou := ou6)
    (fun l => rfl) (fun l x => by rfl) sp1_ok hf6 h
theorem hk (R : Type) (l : TA) (K : AV U → Hp U → Option R) : funcA E Try.f5 [] R (pA.mkL l.1) (pH.mkH l.2) K = (t l.1.1.1 l.1.1.2.1 l.1.1.2.2.1 l.1.2.1).runK fun y => K (v l y) (hh l y) := by kernel_rfl
theorem okF : SoundF Try.prog cc 5 (funcA E Try.f5 []) :=
  funcA_ok (E := E) P_mixed (E0_ok.with Γ Λ [] D) (gam_of (all_cons ⟨table_Lay.ok, ⟨Try.f25, Try.func25, by kernel_rfl, by kernel_rfl⟩⟩ (all_cons ⟨table_Take.ok, ⟨Try.f30, Try.func30, by kernel_rfl, by kernel_rfl⟩⟩ (all_cons ⟨law25_awake.ok, ⟨Try.f24, Try.func24, by kernel_rfl, by kernel_rfl⟩⟩ (all_cons ⟨ref25_Same.ok, ⟨Try.f32, Try.func32, by kernel_rfl, by kernel_rfl⟩⟩ all_nil))))) Try.func5 (c := body) (by kernel_rfl)
    (just_by (by kernel_rfl) (by kernel_rfl) (all_cons lk6 all_nil) all_nil) []
theorem ok : SoundF Try.prog cc 5 A :=
  mkA_ok (E := E) (p := pA) (q := pH) (t := fun (l : TA) => t l.1.1.1 l.1.1.2.1 l.1.1.2.2.1 l.1.2.1) sp1_ok hk okF
end law25_TableSure

end Go.Proofs.Ytcnomgpbkimmeaa.Va
