/- The functions of package table, as plain functions, and that the program computes them. Printed by a program of this work out of the evaluator. -/
import Derived.Test.YtcnomgpbkimmeaaEn
import Derived.Tactics
import Derived.Test.YtcnomgpbkimmeaaFzeros
namespace Go.Proofs.Ytcnomgpbkimmeaa.Va
open Go
set_option linter.unusedVariables false
set_option maxRecDepth 100000

/-! instar/table.Right -/
namespace table_Right
abbrev TA : Type := (((Int × (Int × ((List Int) × Unit))) × Unit) × Unit)
abbrev T3 : Type := ((Unit × (Unit × (Unit × (Nat × (Unit × ((List Int) × (Int × (Int × (Unit × Unit))))))))) × ((Int × (Int × ((List Int) × Unit))) × ((List Bool) × Unit)))
noncomputable def l3 (seen : Nat) (k7 : (List Int)) (k8 : Int) (h0_0 : Int) (h0_1 : Int) (h0_2 : (List Int)) (k9 : Int) (h1 : (List Bool)) : Tw ((Int × (List Bool)) ⊕ (Unit ⊕ Bool)) :=
 (.bb (decide (k9 < k8))
  (.dd (((0 : Int) ≤ k9)) inferInstance
   (.opt (k7)[(Int.toNat k9)]? fun z1 =>
    (.bb (decide (z1 < (0 : Int)))
     (.ret (.inr (.inr false)))
     (.bb (decide (z1 ≥ (128 : Int)))
      (.ret (.inr (.inr false)))
      (.dd ((((0 : Int) ≤ z1) ∧ (z1 < (((128 : Nat) : Nat) : Int)))) inferInstance
       (.opt (h1)[(seen + (Int.toNat z1))]? fun z2 =>
        (.bb z2
         (.ret (.inr (.inr false)))
         (.dd ((((0 : Int) ≤ z1) ∧ (z1 < (((128 : Nat) : Nat) : Int)))) inferInstance
          (.opt (h1)[(seen + (Int.toNat z1))]? fun z3 =>
           (.ret (.inl ((w64 (k9 + (1 : Int))), (List.set h1 (seen + (Int.toNat z1)) true)))))
          .no)))
       .no))))
   .no)
  (.ret (.inr (.inl ()))))
noncomputable def L3 (seen : Nat) (k7 : (List Int)) (k8 : Int) (k9 : Int) (h0_0 : Int) (h0_1 : Int) (h0_2 : (List Int)) (h1 : (List Bool)) : Option (Unit ⊕ Bool) := Lp (fun s => (l3 seen k7 k8 h0_0 h0_1 h0_2 s.1 s.2).run) (k9, h1)
def p3 : Pt := (.cs (.bots 1) (.cs (.ptr 0 0) (.cs (.bots 1) (.cs (.rptr 1 0 1) (.cs (.bots 3) (.cs (.sl 1) (.cs (.int .i64) (.cs (.int .i64) (.cs (.bots 35) .nl)))))))))
def q3 : Pt := (.cs (.var (.cs (.int .i64) (.cs (.int .i64) (.cs (.sl 1) .nl)))) (.cs (.row 4 true) .nl))
def ou3 (l : T3) (y : (Unit ⊕ Bool)) : Ex × St U := (Sum.elim (fun a0 => (.exit 0, stOf 45 [(1, .ptr 0 0)] [.var [.im (.int .i64 l.2.1.1), .im (.int .i64 l.2.1.2.1), .im (.slice 1 l.2.1.2.2.1)]] 0)) (fun b0 => (.ret, stOf 45 [(1, .ptr 0 0), (2, .im (.bool b0))] [.var [.im (.int .i64 l.2.1.1), .im (.int .i64 l.2.1.2.1), .im (.slice 1 l.2.1.2.2.1)]] 0)) y)
noncomputable def Λ3 : LFun U := mkLp (U := U) p3 q3 0 (X := (Unit ⊕ Bool)) (fun (l : T3) => L3 l.1.2.2.2.1 l.1.2.2.2.2.2.1 l.1.2.2.2.2.2.2.1 l.1.2.2.2.2.2.2.2.1 l.2.1.1 l.2.1.2.1 l.2.1.2.2.1 l.2.2.1) (spS sp1) ou3
noncomputable def t (t__0 : Int) (t__1 : Int) (t__2 : (List Int)) : Tw Bool :=
 (.opt (L3 (0 : Nat) t__2 (((List.length t__2) : Nat) : Int) (0 : Int) t__0 t__1 t__2 (List.replicate (128 : Nat) false)) fun z4 =>
  (.sm z4
   (fun z5 => (.bb (decide (t__0 ≥ (1 : Int)))
     (.bb (decide (t__0 ≤ (1073741823 : Int)))
      (.bb (decide (t__1 ≥ (1 : Int)))
       (.ret (decide (t__1 ≤ (65535 : Int))))
       (.ret false))
      (.ret false))
     (.ret false)))
   (fun z6 => (.ret z6))))
noncomputable def c (t__0 : Int) (t__1 : Int) (t__2 : (List Int)) : Option Bool := (t t__0 t__1 t__2).run
def pA : Pt := (.cs (.agg (.cs (.int .i64) (.cs (.int .i64) (.cs (.sl 1) .nl)))) .nl)
def pH : Pt := .nl
def v (l : TA) (y : Bool) : AV U := .im (.bool y)
def hh (l : TA) (y : Bool) : Hp U := []
noncomputable def A : AFun U := mkA (U := U) pA pH (X := Bool) (fun (l : TA) => c l.1.1.1 l.1.1.2.1 l.1.1.2.2.1) sp1 v hh
noncomputable def body : Code := (Go.Func.body Try.f33).getD .skip
noncomputable def Γ : List (FuncId × AFun U) := []
noncomputable def Λ : List (Nat × LFun U) := [(3, Λ3)]
def D : Nat → Lv × Lv := dtab [(3, ⟨[9, 3, 7, 1, 8], []⟩, ⟨[2, 1], []⟩)]
noncomputable def E : Env U := { E0 with Γ := Γ, Λ := Λ, C := [], D := D }
theorem hf3 (R : Type) (l : T3) (s : (Int × (List Bool))) (K : Ex → St U → Option R) : codeA E (pick (loopsOf body) 3) ⟨p3.mkL ((((), ((), ((), (l.1.2.2.2.1, ((), (l.1.2.2.2.2.2.1, (l.1.2.2.2.2.2.2.1, (s.1, ((), ()))))))))), ((l.2.1.1, (l.2.1.2.1, (l.2.1.2.2.1, ()))), (s.2, ()))) : T3).1, q3.mkH ((((), ((), ((), (l.1.2.2.2.1, ((), (l.1.2.2.2.2.2.1, (l.1.2.2.2.2.2.2.1, (s.1, ((), ()))))))))), ((l.2.1.1, (l.2.1.2.1, (l.2.1.2.2.1, ()))), (s.2, ()))) : T3).2, 0⟩ (roundK E (pick (loopsOf body) 3) K) =
  (l3 l.1.2.2.2.1 l.1.2.2.2.2.2.1 l.1.2.2.2.2.2.2.1 l.2.1.1 l.2.1.2.1 l.2.1.2.2.1 s.1 s.2).runK (lpK K (fun s => ⟨p3.mkL ((((), ((), ((), (l.1.2.2.2.1, ((), (l.1.2.2.2.2.2.1, (l.1.2.2.2.2.2.2.1, (s.1, ((), ()))))))))), ((l.2.1.1, (l.2.1.2.1, (l.2.1.2.2.1, ()))), (s.2, ()))) : T3).1, q3.mkH ((((), ((), ((), (l.1.2.2.2.1, ((), (l.1.2.2.2.2.2.1, (l.1.2.2.2.2.2.2.1, (s.1, ((), ()))))))))), ((l.2.1.1, (l.2.1.2.1, (l.2.1.2.2.1, ()))), (s.2, ()))) : T3).2, 0⟩) (spS sp1) (ou3 l)) := by kernel_rfl
theorem lk3 (R : Type) (st : St U) (K : Ex → St U → Option R) (r : R) (h : Λ3 R st K = some r) : ∃ n, loopA E (pick (loopsOf body) 3) n st K = some r :=
  lp_ok (U := U) (E := E) (b := pick (loopsOf body) 3) (m := 0) (sp := (spS sp1)) (p := p3) (q := q3) (X := (Unit ⊕ Bool)) (S := (Int × (List Bool))) (f := fun (l : T3) s => l3 l.1.2.2.2.1 l.1.2.2.2.2.2.1 l.1.2.2.2.2.2.2.1 l.2.1.1 l.2.1.2.1 l.2.1.2.2.1 s.1 s.2) (hd := fun (l : T3) s => (((), ((), ((), (l.1.2.2.2.1, ((), (l.1.2.2.2.2.2.1, (l.1.2.2.2.2.2.2.1, (s.1, ((), ()))))))))), ((l.2.1.1, (l.2.1.2.1, (l.2.1.2.2.1, ()))), (s.2, ())))) (s0 := fun (l : T3) => (l.1.2.2.2.2.2.2.2.1, l.2.2.1)) (ou := ou3)
    (fun l => rfl) (fun l x => by repeat' (first | rfl | (cases x with | inl => rfl | inr x => ?_))) (spS_ok sp1_ok) hf3 h
theorem hk (R : Type) (l : TA) (K : AV U → Hp U → Option R) : funcA E Try.f33 [] R (pA.mkL l.1) (pH.mkH l.2) K = (t l.1.1.1 l.1.1.2.1 l.1.1.2.2.1).runK fun y => K (v l y) (hh l y) := by kernel_rfl
theorem okF : SoundF Try.prog cc 33 (funcA E Try.f33 []) :=
  funcA_ok (E := E) P_mixed (E0_ok.with Γ Λ [] D) (gam_of all_nil) Try.func33 (c := body) (by kernel_rfl)
    (just_by (by kernel_rfl) (by kernel_rfl) (all_cons lk3 all_nil) all_nil) []
theorem ok : SoundF Try.prog cc 33 A :=
  mkA_ok (E := E) (p := pA) (q := pH) (t := fun (l : TA) => t l.1.1.1 l.1.1.2.1 l.1.1.2.2.1) sp1_ok hk okF
end table_Right

/-! instar/table.Lay -/
namespace table_Lay
abbrev TA : Type := (((Int × (Int × ((List Int) × Unit))) × Unit) × Unit)
abbrev T6 : Type := ((Unit × (Unit × (Unit × ((List Int) × (Int × (Int × (Unit × Unit))))))) × ((List Int) × Unit))
noncomputable def l6 (k32 : (List Int)) (k33 : Int) (k34 : Int) (h0 : (List Int)) : Tw ((Int × (List Int)) ⊕ (List Int)) :=
 (.bb (decide (k34 < k33))
  (.dd (((0 : Int) ≤ k34)) inferInstance
   (.opt (k32)[(Int.toNat k34)]? fun z5 =>
    (.dd ((((0 : Int) ≤ (w64 ((3 : Int) + k34))) ∧ ((w64 ((3 : Int) + k34)) < (((List.length h0) : Nat) : Int)))) inferInstance
     (.opt (h0)[(Int.toNat (w64 ((3 : Int) + k34)))]? fun z6 =>
      (.ret (.inl ((w64 (k34 + (1 : Int))), (List.set h0 (Int.toNat (w64 ((3 : Int) + k34))) (w32 z5))))))
     .no))
   .no)
  (.ret (.inr h0)))
noncomputable def L6 (k32 : (List Int)) (k33 : Int) (k34 : Int) (h0 : (List Int)) : Option (List Int) := Lp (fun s => (l6 k32 k33 s.1 s.2).run) (k34, h0)
def p6 : Pt := (.cs (.bots 4) (.cs (.own 0) (.cs (.bots 27) (.cs (.sl 1) (.cs (.int .i64) (.cs (.int .i64) (.cs (.bots 13) .nl)))))))
def q6 : Pt := (.cs (.row 3 true) .nl)
def ou6 (l : T6) (y : (List Int)) : Ex × St U := (.exit 0, stOf 48 [(4, .own 0)] [.row 3 y true] 0)
noncomputable def Λ6 : LFun U := mkLp (U := U) p6 q6 0 (X := (List Int)) (fun (l : T6) => L6 l.1.2.2.2.1 l.1.2.2.2.2.1 l.1.2.2.2.2.2.1 l.2.1) sp1 ou6
noncomputable def t (t__0 : Int) (t__1 : Int) (t__2 : (List Int)) : Tw (Int × (List Int)) :=
 (.opt (table_Right.c t__0 t__1 t__2) fun z1 =>
  (.bb (!z1)
   (.ret ((2 : Int), ([] : List Int)))
   (.dd ((((0 : Int) ≤ (w64 ((3 : Int) + (((List.length t__2) : Nat) : Int)))) ∧ (((w64 ((3 : Int) + (((List.length t__2) : Nat) : Int))) ≤ (w64 ((3 : Int) + (((List.length t__2) : Nat) : Int)))) ∧ (((w64 ((3 : Int) + (((List.length t__2) : Nat) : Int))) ≤ (140737488355328 : Int)) ∧ (((w64 ((3 : Int) + (((List.length t__2) : Nat) : Int))) * (((4 : Nat) : Nat) : Int)) ≤ (140737488355328 : Int)))))) inferInstance
    (.dd ((((0 : Int) ≤ (0 : Int)) ∧ ((0 : Int) < (((List.length (List.replicate (Int.toNat (w64 ((3 : Int) + (((List.length t__2) : Nat) : Int)))) (0 : Int))) : Nat) : Int)))) inferInstance
     (.opt ((List.replicate (Int.toNat (w64 ((3 : Int) + (((List.length t__2) : Nat) : Int)))) (0 : Int)))[(Int.toNat (0 : Int))]? fun z2 =>
      (.dd ((((0 : Int) ≤ (1 : Int)) ∧ ((1 : Int) < (((List.length (List.set (List.replicate (Int.toNat (w64 ((3 : Int) + (((List.length t__2) : Nat) : Int)))) (0 : Int)) (Int.toNat (0 : Int)) (w32 t__0))) : Nat) : Int)))) inferInstance
       (.opt ((List.set (List.replicate (Int.toNat (w64 ((3 : Int) + (((List.length t__2) : Nat) : Int)))) (0 : Int)) (Int.toNat (0 : Int)) (w32 t__0)))[(Int.toNat (1 : Int))]? fun z3 =>
        (.dd ((((0 : Int) ≤ (2 : Int)) ∧ ((2 : Int) < (((List.length (List.set (List.set (List.replicate (Int.toNat (w64 ((3 : Int) + (((List.length t__2) : Nat) : Int)))) (0 : Int)) (Int.toNat (0 : Int)) (w32 t__0)) (Int.toNat (1 : Int)) (w32 t__1))) : Nat) : Int)))) inferInstance
         (.opt ((List.set (List.set (List.replicate (Int.toNat (w64 ((3 : Int) + (((List.length t__2) : Nat) : Int)))) (0 : Int)) (Int.toNat (0 : Int)) (w32 t__0)) (Int.toNat (1 : Int)) (w32 t__1)))[(Int.toNat (2 : Int))]? fun z4 =>
          (.opt (L6 t__2 (((List.length t__2) : Nat) : Int) (0 : Int) (List.set (List.set (List.set (List.replicate (Int.toNat (w64 ((3 : Int) + (((List.length t__2) : Nat) : Int)))) (0 : Int)) (Int.toNat (0 : Int)) (w32 t__0)) (Int.toNat (1 : Int)) (w32 t__1)) (Int.toNat (2 : Int)) (w32 (((List.length t__2) : Nat) : Int)))) fun z7 =>
           (.opt (zeros_Seal.c z7) fun z8 =>
            (.ret ((0 : Int), z8)))))
         .no))
       .no))
     .no)
    .no)))
noncomputable def c (t__0 : Int) (t__1 : Int) (t__2 : (List Int)) : Option (Int × (List Int)) := (t t__0 t__1 t__2).run
def pA : Pt := (.cs (.agg (.cs (.int .i64) (.cs (.int .i64) (.cs (.sl 1) .nl)))) .nl)
def pH : Pt := .nl
def v (l : TA) (y : (Int × (List Int))) : AV U := .tup [.own 0, .im (.int .i64 y.1)]
def hh (l : TA) (y : (Int × (List Int))) : Hp U := [.row 3 y.2 true]
noncomputable def A : AFun U := mkA (U := U) pA pH (X := (Int × (List Int))) (fun (l : TA) => c l.1.1.1 l.1.1.2.1 l.1.1.2.2.1) sp1 v hh
noncomputable def body : Code := (Go.Func.body Try.f25).getD .skip
noncomputable def Γ : List (FuncId × AFun U) := [(33, table_Right.A), (101, zeros_Seal.A)]
noncomputable def Λ : List (Nat × LFun U) := [(6, Λ6)]
def D : Nat → Lv × Lv := dtab [(6, ⟨[34, 4, 32, 33], []⟩, ⟨[2, 3, 4], []⟩)]
noncomputable def E : Env U := { E0 with Γ := Γ, Λ := Λ, C := [], D := D }
theorem hf6 (R : Type) (l : T6) (s : (Int × (List Int))) (K : Ex → St U → Option R) : codeA E (pick (loopsOf body) 6) ⟨p6.mkL ((((), ((), ((), (l.1.2.2.2.1, (l.1.2.2.2.2.1, (s.1, ((), ()))))))), (s.2, ())) : T6).1, q6.mkH ((((), ((), ((), (l.1.2.2.2.1, (l.1.2.2.2.2.1, (s.1, ((), ()))))))), (s.2, ())) : T6).2, 0⟩ (roundK E (pick (loopsOf body) 6) K) =
  (l6 l.1.2.2.2.1 l.1.2.2.2.2.1 s.1 s.2).runK (lpK K (fun s => ⟨p6.mkL ((((), ((), ((), (l.1.2.2.2.1, (l.1.2.2.2.2.1, (s.1, ((), ()))))))), (s.2, ())) : T6).1, q6.mkH ((((), ((), ((), (l.1.2.2.2.1, (l.1.2.2.2.2.1, (s.1, ((), ()))))))), (s.2, ())) : T6).2, 0⟩) sp1 (ou6 l)) := by kernel_rfl
theorem lk6 (R : Type) (st : St U) (K : Ex → St U → Option R) (r : R) (h : Λ6 R st K = some r) : ∃ n, loopA E (pick (loopsOf body) 6) n st K = some r :=
  lp_ok (U := U) (E := E) (b := pick (loopsOf body) 6) (m := 0) (sp := sp1) (p := p6) (q := q6) (X := (List Int)) (S := (Int × (List Int))) (f := fun (l : T6) s => l6 l.1.2.2.2.1 l.1.2.2.2.2.1 s.1 s.2) (hd := fun (l : T6) s => (((), ((), ((), (l.1.2.2.2.1, (l.1.2.2.2.2.1, (s.1, ((), ()))))))), (s.2, ()))) (s0 := fun (l : T6) => (l.1.2.2.2.2.2.1, l.2.1)) (ou := ou6)
    (fun l => rfl) (fun l x => by rfl) sp1_ok hf6 h
theorem hk (R : Type) (l : TA) (K : AV U → Hp U → Option R) : funcA E Try.f25 [(0, [], .own 3)] R (pA.mkL l.1) (pH.mkH l.2) K = (t l.1.1.1 l.1.1.2.1 l.1.1.2.2.1).runK fun y => K (v l y) (hh l y) := by kernel_rfl
theorem okF : SoundF Try.prog cc 25 (funcA E Try.f25 [(0, [], .own 3)]) :=
  funcA_ok (E := E) P_mixed (E0_ok.with Γ Λ [] D) (gam_of (all_cons ⟨table_Right.ok, ⟨Try.f33, Try.func33, by kernel_rfl, by kernel_rfl⟩⟩ (all_cons ⟨zeros_Seal.ok, ⟨Try.f101, Try.func101, by kernel_rfl, by kernel_rfl⟩⟩ all_nil))) Try.func25 (c := body) (by kernel_rfl)
    (just_by (by kernel_rfl) (by kernel_rfl) (all_cons lk6 all_nil) all_nil) [(0, [], .own 3)]
theorem ok : SoundF Try.prog cc 25 A :=
  mkA_ok (E := E) (p := pA) (q := pH) (t := fun (l : TA) => t l.1.1.1 l.1.1.2.1 l.1.1.2.2.1) sp1_ok hk okF
end table_Lay

/-! instar/table.Size -/
namespace table_Size
abbrev TA : Type := ((Int × Unit) × Unit)
noncomputable def t (n : Int) : Tw Int :=
 (.bb (decide (n < (0 : Int)))
  (.ret (0 : Int))
  (.bb (decide (n > (128 : Int)))
   (.ret (0 : Int))
   (.ret (w64 ((w64 ((3 : Int) + n)) + (1 : Int))))))
noncomputable def c (n : Int) : Option Int := (t n).run
def pA : Pt := (.cs (.int .i64) .nl)
def pH : Pt := .nl
def v (l : TA) (y : Int) : AV U := .im (.int .i64 y)
def hh (l : TA) (y : Int) : Hp U := []
noncomputable def A : AFun U := mkA (U := U) pA pH (X := Int) (fun (l : TA) => c l.1.1) sp1 v hh
noncomputable def body : Code := (Go.Func.body Try.f29).getD .skip
noncomputable def Γ : List (FuncId × AFun U) := []
noncomputable def Λ : List (Nat × LFun U) := []
def D : Nat → Lv × Lv := dtab []
noncomputable def E : Env U := { E0 with Γ := Γ, Λ := Λ, C := [], D := D }
theorem hk (R : Type) (l : TA) (K : AV U → Hp U → Option R) : funcA E Try.f29 [] R (pA.mkL l.1) (pH.mkH l.2) K = (t l.1.1).runK fun y => K (v l y) (hh l y) := by kernel_rfl
theorem okF : SoundF Try.prog cc 29 (funcA E Try.f29 []) :=
  funcA_ok (E := E) P_mixed (E0_ok.with Γ Λ [] D) (gam_of all_nil) Try.func29 (c := body) (by kernel_rfl)
    (just_by (by kernel_rfl) (by kernel_rfl) all_nil all_nil) []
theorem ok : SoundF Try.prog cc 29 A :=
  mkA_ok (E := E) (p := pA) (q := pH) (t := fun (l : TA) => t l.1.1) sp1_ok hk okF
end table_Size

/-! instar/table.Take -/
namespace table_Take
abbrev TA : Type := (((List Int) × Unit) × Unit)
abbrev T6 : Type := (((List Int) × (Unit × (Unit × (Unit × (Int × (Unit × (Unit × ((List Int) × (Int × (Int × (Unit × Unit))))))))))) × ((Int × (Int × (Unit × Unit))) × ((Int × (Int × (Unit × Unit))) × ((List Int) × Unit))))
noncomputable def l6 (w : (List Int)) (n : Int) (k44 : (List Int)) (k45 : Int) (h0_0 : Int) (h0_1 : Int) (h1_0 : Int) (h1_1 : Int) (k46 : Int) (h2 : (List Int)) : Tw ((Int × (List Int)) ⊕ (List Int)) :=
 (.bb (decide (k46 < k45))
  (.dd (((0 : Int) ≤ k46)) inferInstance
   (.opt (k44)[(Int.toNat k46)]? fun z7 =>
    (.dd ((((((List.length h2) + (List.length ((w64 z7) :: ([] : List Int)))) * (8 : Nat)) ≤ (140737488355328 : Nat)) ∧ (((List.length h2) + (List.length ((w64 z7) :: ([] : List Int)))) ≤ (140737488355328 : Nat)))) inferInstance
     (.ret (.inl ((w64 (k46 + (1 : Int))), (h2 ++ ((w64 z7) :: ([] : List Int))))))
     .no))
   .no)
  (.ret (.inr h2)))
noncomputable def L6 (w : (List Int)) (n : Int) (k44 : (List Int)) (k45 : Int) (k46 : Int) (h0_0 : Int) (h0_1 : Int) (h1_0 : Int) (h1_1 : Int) (h2 : (List Int)) : Option (List Int) := Lp (fun s => (l6 w n k44 k45 h0_0 h0_1 h1_0 h1_1 s.1 s.2).run) (k46, h2)
def p6 : Pt := (.cs (.sl 3) (.cs (.bots 1) (.cs (.ptr 0 0) (.cs (.bots 1) (.cs (.int .i64) (.cs (.ptr 1 0) (.cs (.bots 38) (.cs (.sl 3) (.cs (.int .i64) (.cs (.int .i64) (.cs (.bots 24) .nl)))))))))))
def q6 : Pt := (.cs (.var (.cs (.int .i64) (.cs (.int .i64) (.cs .nils .nl)))) (.cs (.var (.cs (.int .i64) (.cs (.int .i64) (.cs (.own 2) .nl)))) (.cs (.row 1 true) .nl)))
def ou6 (l : T6) (y : (List Int)) : Ex × St U := (.exit 0, stOf 71 [(0, .im (.slice 3 l.1.1)), (2, .ptr 0 0), (4, .im (.int .i64 l.1.2.2.2.2.1)), (5, .ptr 1 0)] [.var [.im (.int .i64 l.2.1.1), .im (.int .i64 l.2.1.2.1), .im .nils], .var [.im (.int .i64 l.2.2.1.1), .im (.int .i64 l.2.2.1.2.1), .own 2], .row 1 y true] 0)
noncomputable def Λ6 : LFun U := mkLp (U := U) p6 q6 0 (X := (List Int)) (fun (l : T6) => L6 l.1.1 l.1.2.2.2.2.1 l.1.2.2.2.2.2.2.2.1 l.1.2.2.2.2.2.2.2.2.1 l.1.2.2.2.2.2.2.2.2.2.1 l.2.1.1 l.2.1.2.1 l.2.2.1.1 l.2.2.1.2.1 l.2.2.2.1) sp1 ou6
noncomputable def t (w : (List Int)) : Tw (Int × (Int × (Int × (List Int)))) :=
 (.bb (decide ((((List.length w) : Nat) : Int) ≤ (3 : Int)))
  (.ret ((0 : Int), ((0 : Int), ((12 : Int), ([] : List Int)))))
  (.opt (w)[(Int.toNat (2 : Int))]? fun z1 =>
   (.bb (decide (z1 > (128 : Int)))
    (.ret ((0 : Int), ((0 : Int), ((12 : Int), ([] : List Int)))))
    (.opt (w)[(Int.toNat (2 : Int))]? fun z2 =>
     (.opt (table_Size.c (w64 z2)) fun z3 =>
      (.bb (decide ((((List.length w) : Nat) : Int) < z3))
       (.ret ((0 : Int), ((0 : Int), ((12 : Int), ([] : List Int)))))
       (.opt (w)[(Int.toNat (2 : Int))]? fun z4 =>
        (.opt (w)[(Int.toNat (0 : Int))]? fun z5 =>
         (.opt (w)[(Int.toNat (1 : Int))]? fun z6 =>
          (.dd ((((0 : Int) ≤ (3 : Int)) ∧ (((3 : Int) ≤ (w64 ((3 : Int) + (w64 z4)))) ∧ ((w64 ((3 : Int) + (w64 z4))) ≤ (((List.length w) : Nat) : Int))))) inferInstance
           (.opt (L6 w (w64 z4) (List.drop (Int.toNat (3 : Int)) (List.take (Int.toNat (w64 ((3 : Int) + (w64 z4)))) w)) (((List.length (List.drop (Int.toNat (3 : Int)) (List.take (Int.toNat (w64 ((3 : Int) + (w64 z4)))) w))) : Nat) : Int) (0 : Int) (0 : Int) (0 : Int) (w64 z5) (w64 z6) ([] : List Int)) fun z8 =>
            (.opt (table_Right.c (w64 z5) (w64 z6) z8) fun z9 =>
             (.bb (!z9)
              (.ret ((0 : Int), ((0 : Int), ((12 : Int), ([] : List Int)))))
              (.opt (table_Size.c (w64 z4)) fun z10 =>
               (.dd ((((0 : Int) ≤ z10) ∧ (z10 ≤ (((List.length w) : Nat) : Int)))) inferInstance
                (.opt (zeros_Right.c (List.take (Int.toNat z10) w)) fun z11 =>
                 (.bb (!z11)
                  (.ret ((0 : Int), ((0 : Int), ((12 : Int), ([] : List Int)))))
                  (.ret ((w64 z5), ((w64 z6), ((0 : Int), z8))))))
                .no)))))
           .no))))))))))
noncomputable def c (w : (List Int)) : Option (Int × (Int × (Int × (List Int)))) := (t w).run
def pA : Pt := (.cs (.sl 3) .nl)
def pH : Pt := .nl
def v (l : TA) (y : (Int × (Int × (Int × (List Int))))) : AV U := .tup [.agg [.im (.int .i64 y.1), .im (.int .i64 y.2.1), .own 0], .im (.int .i64 y.2.2.1)]
def hh (l : TA) (y : (Int × (Int × (Int × (List Int))))) : Hp U := [.row 1 y.2.2.2 true]
noncomputable def A : AFun U := mkA (U := U) pA pH (X := (Int × (Int × (Int × (List Int))))) (fun (l : TA) => c l.1.1) sp1 v hh
noncomputable def body : Code := (Go.Func.body Try.f30).getD .skip
noncomputable def Γ : List (FuncId × AFun U) := [(29, table_Size.A), (33, table_Right.A), (103, zeros_Right.A)]
noncomputable def Λ : List (Nat × LFun U) := [(6, Λ6)]
def D : Nat → Lv × Lv := dtab [(6, ⟨[46, 5, 44, 2, 4, 0, 45], [(5, [.to 2], .own 1)]⟩, ⟨[2, 3, 5, 4, 0], []⟩)]
noncomputable def E : Env U := { E0 with Γ := Γ, Λ := Λ, C := [], D := D }
theorem hf6 (R : Type) (l : T6) (s : (Int × (List Int))) (K : Ex → St U → Option R) : codeA E (pick (loopsOf body) 6) ⟨p6.mkL (((l.1.1, ((), ((), ((), (l.1.2.2.2.2.1, ((), ((), (l.1.2.2.2.2.2.2.2.1, (l.1.2.2.2.2.2.2.2.2.1, (s.1, ((), ()))))))))))), ((l.2.1.1, (l.2.1.2.1, ((), ()))), ((l.2.2.1.1, (l.2.2.1.2.1, ((), ()))), (s.2, ())))) : T6).1, q6.mkH (((l.1.1, ((), ((), ((), (l.1.2.2.2.2.1, ((), ((), (l.1.2.2.2.2.2.2.2.1, (l.1.2.2.2.2.2.2.2.2.1, (s.1, ((), ()))))))))))), ((l.2.1.1, (l.2.1.2.1, ((), ()))), ((l.2.2.1.1, (l.2.2.1.2.1, ((), ()))), (s.2, ())))) : T6).2, 0⟩ (roundK E (pick (loopsOf body) 6) K) =
  (l6 l.1.1 l.1.2.2.2.2.1 l.1.2.2.2.2.2.2.2.1 l.1.2.2.2.2.2.2.2.2.1 l.2.1.1 l.2.1.2.1 l.2.2.1.1 l.2.2.1.2.1 s.1 s.2).runK (lpK K (fun s => ⟨p6.mkL (((l.1.1, ((), ((), ((), (l.1.2.2.2.2.1, ((), ((), (l.1.2.2.2.2.2.2.2.1, (l.1.2.2.2.2.2.2.2.2.1, (s.1, ((), ()))))))))))), ((l.2.1.1, (l.2.1.2.1, ((), ()))), ((l.2.2.1.1, (l.2.2.1.2.1, ((), ()))), (s.2, ())))) : T6).1, q6.mkH (((l.1.1, ((), ((), ((), (l.1.2.2.2.2.1, ((), ((), (l.1.2.2.2.2.2.2.2.1, (l.1.2.2.2.2.2.2.2.2.1, (s.1, ((), ()))))))))))), ((l.2.1.1, (l.2.1.2.1, ((), ()))), ((l.2.2.1.1, (l.2.2.1.2.1, ((), ()))), (s.2, ())))) : T6).2, 0⟩) sp1 (ou6 l)) := by kernel_rfl
theorem lk6 (R : Type) (st : St U) (K : Ex → St U → Option R) (r : R) (h : Λ6 R st K = some r) : ∃ n, loopA E (pick (loopsOf body) 6) n st K = some r :=
  lp_ok (U := U) (E := E) (b := pick (loopsOf body) 6) (m := 0) (sp := sp1) (p := p6) (q := q6) (X := (List Int)) (S := (Int × (List Int))) (f := fun (l : T6) s => l6 l.1.1 l.1.2.2.2.2.1 l.1.2.2.2.2.2.2.2.1 l.1.2.2.2.2.2.2.2.2.1 l.2.1.1 l.2.1.2.1 l.2.2.1.1 l.2.2.1.2.1 s.1 s.2) (hd := fun (l : T6) s => ((l.1.1, ((), ((), ((), (l.1.2.2.2.2.1, ((), ((), (l.1.2.2.2.2.2.2.2.1, (l.1.2.2.2.2.2.2.2.2.1, (s.1, ((), ()))))))))))), ((l.2.1.1, (l.2.1.2.1, ((), ()))), ((l.2.2.1.1, (l.2.2.1.2.1, ((), ()))), (s.2, ()))))) (s0 := fun (l : T6) => (l.1.2.2.2.2.2.2.2.2.2.1, l.2.2.2.1)) (ou := ou6)
    (fun l => rfl) (fun l x => by rfl) sp1_ok hf6 h
theorem hk (R : Type) (l : TA) (K : AV U → Hp U → Option R) : funcA E Try.f30 [(0, [.cell 2], .own 1)] R (pA.mkL l.1) (pH.mkH l.2) K = (t l.1.1).runK fun y => K (v l y) (hh l y) := by kernel_rfl
theorem okF : SoundF Try.prog cc 30 (funcA E Try.f30 [(0, [.cell 2], .own 1)]) :=
  funcA_ok (E := E) P_mixed (E0_ok.with Γ Λ [] D) (gam_of (all_cons ⟨table_Size.ok, ⟨Try.f29, Try.func29, by kernel_rfl, by kernel_rfl⟩⟩ (all_cons ⟨table_Right.ok, ⟨Try.f33, Try.func33, by kernel_rfl, by kernel_rfl⟩⟩ (all_cons ⟨zeros_Right.ok, ⟨Try.f103, Try.func103, by kernel_rfl, by kernel_rfl⟩⟩ all_nil)))) Try.func30 (c := body) (by kernel_rfl)
    (just_by (by kernel_rfl) (by kernel_rfl) (all_cons lk6 all_nil) all_nil) [(0, [.cell 2], .own 1)]
theorem ok : SoundF Try.prog cc 30 A :=
  mkA_ok (E := E) (p := pA) (q := pH) (t := fun (l : TA) => t l.1.1) sp1_ok hk okF
end table_Take

end Go.Proofs.Ytcnomgpbkimmeaa.Va
