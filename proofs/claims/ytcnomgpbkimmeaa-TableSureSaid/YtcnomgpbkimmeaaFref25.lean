/- The functions of package ref25, as plain functions, and that the program computes them. Printed by a program of this work out of the evaluator. -/
import Derived.Test.YtcnomgpbkimmeaaEn
import Derived.Tactics
import Derived.Test.YtcnomgpbkimmeaaFref01
import Derived.Test.YtcnomgpbkimmeaaFref02
namespace Go.Proofs.Ytcnomgpbkimmeaa.Va
open Go
set_option linter.unusedVariables false
set_option maxRecDepth 100000

/-! instar/instarref25.Right -/
namespace ref25_Right
abbrev TA : Type := (((Int × (Int × ((List Int) × Unit))) × Unit) × Unit)
abbrev T9 : Type := ((Unit × (Unit × (Unit × (Int × (Int × (Unit × Unit)))))) × ((Int × (Int × ((List Int) × Unit))) × Unit))
noncomputable def l9 (i : Int) (h0_0 : Int) (h0_1 : Int) (h0_2 : (List Int)) (k : Int) : Tw (Int ⊕ (Unit ⊕ Bool)) :=
 (.bb (decide (k < i))
  (.dd (((0 : Int) ≤ k)) inferInstance
   (.opt (h0_2)[(Int.toNat k)]? fun z3 =>
    (.dd (((0 : Int) ≤ i)) inferInstance
     (.opt (h0_2)[(Int.toNat i)]? fun z4 =>
      (.bb (z3 == z4)
       (.ret (.inr (.inr false)))
       (.ret (.inl (w64 (k + (1 : Int)))))))
     .no))
   .no)
  (.ret (.inr (.inl ()))))
noncomputable def L9 (i : Int) (k : Int) (h0_0 : Int) (h0_1 : Int) (h0_2 : (List Int)) : Option (Unit ⊕ Bool) := Lp (fun s => (l9 i h0_0 h0_1 h0_2 s).run) k
def p9 : Pt := (.cs (.bots 1) (.cs (.ptr 0 0) (.cs (.bots 1) (.cs (.int .i64) (.cs (.int .i64) (.cs (.bots 55) .nl))))))
def q9 : Pt := (.cs (.var (.cs (.int .i64) (.cs (.int .i64) (.cs (.sl 1) .nl)))) .nl)
def ou9 (l : T9) (y : (Unit ⊕ Bool)) : Ex × St U := (Sum.elim (fun a0 => (.exit 2, stOf 60 [(1, .ptr 0 0), (3, .im (.int .i64 l.1.2.2.2.1))] [.var [.im (.int .i64 l.2.1.1), .im (.int .i64 l.2.1.2.1), .im (.slice 1 l.2.1.2.2.1)]] 0)) (fun b0 => (.ret, stOf 60 [(1, .ptr 0 0), (2, .im (.bool b0)), (3, .im (.int .i64 l.1.2.2.2.1))] [.var [.im (.int .i64 l.2.1.1), .im (.int .i64 l.2.1.2.1), .im (.slice 1 l.2.1.2.2.1)]] 0)) y)
noncomputable def Λ9 : LFun U := mkLp (U := U) p9 q9 0 (X := (Unit ⊕ Bool)) (fun (l : T9) => L9 l.1.2.2.2.1 l.1.2.2.2.2.1 l.2.1.1 l.2.1.2.1 l.2.1.2.2.1) (spS sp1) ou9
abbrev T4 : Type := ((Unit × (Unit × (Unit × (Int × (Unit × Unit))))) × ((Int × (Int × ((List Int) × Unit))) × Unit))
noncomputable def l4 (h0_0 : Int) (h0_1 : Int) (h0_2 : (List Int)) (i : Int) : Tw (Int ⊕ (Unit ⊕ Bool)) :=
 (.bb (decide (i < (((List.length h0_2) : Nat) : Int)))
  (.dd (((0 : Int) ≤ i)) inferInstance
   (.opt (h0_2)[(Int.toNat i)]? fun z1 =>
    (.bb (decide (z1 < (0 : Int)))
     (.ret (.inr (.inr false)))
     (.dd (((0 : Int) ≤ i)) inferInstance
      (.opt (h0_2)[(Int.toNat i)]? fun z2 =>
       (.bb (decide (z2 > (127 : Int)))
        (.ret (.inr (.inr false)))
        (.opt (L9 i (0 : Int) h0_0 h0_1 h0_2) fun z5 =>
         (.sm z5
          (fun z6 => (.ret (.inl (w64 (i + (1 : Int))))))
          (fun z7 => (.ret (.inr (.inr z7))))))))
      .no)))
   .no)
  (.ret (.inr (.inl ()))))
noncomputable def L4 (i : Int) (h0_0 : Int) (h0_1 : Int) (h0_2 : (List Int)) : Option (Unit ⊕ Bool) := Lp (fun s => (l4 h0_0 h0_1 h0_2 s).run) i
def p4 : Pt := (.cs (.bots 1) (.cs (.ptr 0 0) (.cs (.bots 1) (.cs (.int .i64) (.cs (.bots 56) .nl)))))
def q4 : Pt := (.cs (.var (.cs (.int .i64) (.cs (.int .i64) (.cs (.sl 1) .nl)))) .nl)
def ou4 (l : T4) (y : (Unit ⊕ Bool)) : Ex × St U := (Sum.elim (fun a0 => (.exit 0, stOf 60 [] [] 0)) (fun b0 => (.ret, stOf 60 [(2, .im (.bool b0))] [] 0)) y)
noncomputable def Λ4 : LFun U := mkLp (U := U) p4 q4 0 (X := (Unit ⊕ Bool)) (fun (l : T4) => L4 l.1.2.2.2.1 l.2.1.1 l.2.1.2.1 l.2.1.2.2.1) (spS sp1) ou4
noncomputable def t (t__0 : Int) (t__1 : Int) (t__2 : (List Int)) : Tw Bool :=
 (.bb (decide (t__0 < (1 : Int)))
  (.ret false)
  (.bb (decide (t__0 > (1073741823 : Int)))
   (.ret false)
   (.bb (decide (t__1 < (1 : Int)))
    (.ret false)
    (.bb (decide (t__1 > (65535 : Int)))
     (.ret false)
     (.opt (L4 (0 : Int) t__0 t__1 t__2) fun z8 =>
      (.sm z8
       (fun z9 => (.ret true))
       (fun z10 => (.ret z10))))))))
noncomputable def c (t__0 : Int) (t__1 : Int) (t__2 : (List Int)) : Option Bool := (t t__0 t__1 t__2).run
def pA : Pt := (.cs (.agg (.cs (.int .i64) (.cs (.int .i64) (.cs (.sl 1) .nl)))) .nl)
def pH : Pt := .nl
def v (l : TA) (y : Bool) : AV U := .im (.bool y)
def hh (l : TA) (y : Bool) : Hp U := []
noncomputable def A : AFun U := mkA (U := U) pA pH (X := Bool) (fun (l : TA) => c l.1.1.1 l.1.1.2.1 l.1.1.2.2.1) sp1 v hh
noncomputable def body : Code := (Go.Func.body Try.f26).getD .skip
noncomputable def Γ : List (FuncId × AFun U) := []
noncomputable def Λ : List (Nat × LFun U) := [(9, Λ9), (4, Λ4)]
def D : Nat → Lv × Lv := dtab [(4, ⟨[3, 1], []⟩, ⟨[2], []⟩), (9, ⟨[4, 3, 1], []⟩, ⟨[2, 1, 3], []⟩)]
noncomputable def E : Env U := { E0 with Γ := Γ, Λ := Λ, C := [], D := D }
theorem hf9 (R : Type) (l : T9) (s : Int) (K : Ex → St U → Option R) : codeA E (pick (loopsOf body) 9) ⟨p9.mkL ((((), ((), ((), (l.1.2.2.2.1, (s, ((), ())))))), ((l.2.1.1, (l.2.1.2.1, (l.2.1.2.2.1, ()))), ())) : T9).1, q9.mkH ((((), ((), ((), (l.1.2.2.2.1, (s, ((), ())))))), ((l.2.1.1, (l.2.1.2.1, (l.2.1.2.2.1, ()))), ())) : T9).2, 0⟩ (roundK E (pick (loopsOf body) 9) K) =
  (l9 l.1.2.2.2.1 l.2.1.1 l.2.1.2.1 l.2.1.2.2.1 s).runK (lpK K (fun s => ⟨p9.mkL ((((), ((), ((), (l.1.2.2.2.1, (s, ((), ())))))), ((l.2.1.1, (l.2.1.2.1, (l.2.1.2.2.1, ()))), ())) : T9).1, q9.mkH ((((), ((), ((), (l.1.2.2.2.1, (s, ((), ())))))), ((l.2.1.1, (l.2.1.2.1, (l.2.1.2.2.1, ()))), ())) : T9).2, 0⟩) (spS sp1) (ou9 l)) := by kernel_rfl
theorem lk9 (R : Type) (st : St U) (K : Ex → St U → Option R) (r : R) (h : Λ9 R st K = some r) : ∃ n, loopA E (pick (loopsOf body) 9) n st K = some r :=
  lp_ok (U := U) (E := E) (b := pick (loopsOf body) 9) (m := 0) (sp := (spS sp1)) (p := p9) (q := q9) (X := (Unit ⊕ Bool)) (S := Int) (f := fun (l : T9) s => l9 l.1.2.2.2.1 l.2.1.1 l.2.1.2.1 l.2.1.2.2.1 s) (hd := fun (l : T9) s => (((), ((), ((), (l.1.2.2.2.1, (s, ((), ())))))), ((l.2.1.1, (l.2.1.2.1, (l.2.1.2.2.1, ()))), ()))) (s0 := fun (l : T9) => l.1.2.2.2.2.1) (ou := ou9)
    (fun l => rfl) (fun l x => by repeat' (first | rfl | (cases x with | inl => rfl | inr x => ?_))) (spS_ok sp1_ok) hf9 h
theorem hf4 (R : Type) (l : T4) (s : Int) (K : Ex → St U → Option R) : codeA E (pick (loopsOf body) 4) ⟨p4.mkL ((((), ((), ((), (s, ((), ()))))), ((l.2.1.1, (l.2.1.2.1, (l.2.1.2.2.1, ()))), ())) : T4).1, q4.mkH ((((), ((), ((), (s, ((), ()))))), ((l.2.1.1, (l.2.1.2.1, (l.2.1.2.2.1, ()))), ())) : T4).2, 0⟩ (roundK E (pick (loopsOf body) 4) K) =
  (l4 l.2.1.1 l.2.1.2.1 l.2.1.2.2.1 s).runK (lpK K (fun s => ⟨p4.mkL ((((), ((), ((), (s, ((), ()))))), ((l.2.1.1, (l.2.1.2.1, (l.2.1.2.2.1, ()))), ())) : T4).1, q4.mkH ((((), ((), ((), (s, ((), ()))))), ((l.2.1.1, (l.2.1.2.1, (l.2.1.2.2.1, ()))), ())) : T4).2, 0⟩) (spS sp1) (ou4 l)) := by kernel_rfl
theorem lk4 (R : Type) (st : St U) (K : Ex → St U → Option R) (r : R) (h : Λ4 R st K = some r) : ∃ n, loopA E (pick (loopsOf body) 4) n st K = some r :=
  lp_ok (U := U) (E := E) (b := pick (loopsOf body) 4) (m := 0) (sp := (spS sp1)) (p := p4) (q := q4) (X := (Unit ⊕ Bool)) (S := Int) (f := fun (l : T4) s => l4 l.2.1.1 l.2.1.2.1 l.2.1.2.2.1 s) (hd := fun (l : T4) s => (((), ((), ((), (s, ((), ()))))), ((l.2.1.1, (l.2.1.2.1, (l.2.1.2.2.1, ()))), ()))) (s0 := fun (l : T4) => l.1.2.2.2.1) (ou := ou4)
    (fun l => rfl) (fun l x => by repeat' (first | rfl | (cases x with | inl => rfl | inr x => ?_))) (spS_ok sp1_ok) hf4 h
theorem hk (R : Type) (l : TA) (K : AV U → Hp U → Option R) : funcA E Try.f26 [] R (pA.mkL l.1) (pH.mkH l.2) K = (t l.1.1.1 l.1.1.2.1 l.1.1.2.2.1).runK fun y => K (v l y) (hh l y) := by kernel_rfl
theorem okF : SoundF Try.prog cc 26 (funcA E Try.f26 []) :=
  funcA_ok (E := E) P_mixed (E0_ok.with Γ Λ [] D) (gam_of all_nil) Try.func26 (c := body) (by kernel_rfl)
    (just_by (by kernel_rfl) (by kernel_rfl) (all_cons lk9 (all_cons lk4 all_nil)) all_nil) []
theorem ok : SoundF Try.prog cc 26 A :=
  mkA_ok (E := E) (p := pA) (q := pH) (t := fun (l : TA) => t l.1.1.1 l.1.1.2.1 l.1.1.2.2.1) sp1_ok hk okF
end ref25_Right

/-! instar/instarref25.Lay -/
namespace ref25_Lay
abbrev TA : Type := (((Int × (Int × ((List Int) × Unit))) × Unit) × Unit)
abbrev T3 : Type := ((Unit × (Unit × (Unit × (Unit × (Int × (Unit × Unit)))))) × ((Int × (Int × ((List Int) × Unit))) × ((List Int) × Unit)))
noncomputable def l3 (h0_0 : Int) (h0_1 : Int) (h0_2 : (List Int)) (i : Int) (h1 : (List Int)) : Tw ((Int × (List Int)) ⊕ (List Int)) :=
 (.bb (decide (i < (((List.length h0_2) : Nat) : Int)))
  (.dd (((0 : Int) ≤ i)) inferInstance
   (.opt (h0_2)[(Int.toNat i)]? fun z1 =>
    (.dd ((((((List.length h1) + (List.length ((w32 z1) :: ([] : List Int)))) * (4 : Nat)) ≤ (140737488355328 : Nat)) ∧ (((List.length h1) + (List.length ((w32 z1) :: ([] : List Int)))) ≤ (140737488355328 : Nat)))) inferInstance
     (.ret (.inl ((w64 (i + (1 : Int))), (h1 ++ ((w32 z1) :: ([] : List Int))))))
     .no))
   .no)
  (.ret (.inr h1)))
noncomputable def L3 (i : Int) (h0_0 : Int) (h0_1 : Int) (h0_2 : (List Int)) (h1 : (List Int)) : Option (List Int) := Lp (fun s => (l3 h0_0 h0_1 h0_2 s.1 s.2).run) (i, h1)
def p3 : Pt := (.cs (.bots 1) (.cs (.ptr 0 0) (.cs (.bots 1) (.cs (.own 1) (.cs (.int .i64) (.cs (.bots 29) .nl))))))
def q3 : Pt := (.cs (.var (.cs (.int .i64) (.cs (.int .i64) (.cs (.sl 1) .nl)))) (.cs (.row 3 true) .nl))
def ou3 (l : T3) (y : (List Int)) : Ex × St U := (.exit 0, stOf 34 [(3, .own 0)] [.row 3 y true] 0)
noncomputable def Λ3 : LFun U := mkLp (U := U) p3 q3 0 (X := (List Int)) (fun (l : T3) => L3 l.1.2.2.2.2.1 l.2.1.1 l.2.1.2.1 l.2.1.2.2.1 l.2.2.1) sp1 ou3
noncomputable def t (t__0 : Int) (t__1 : Int) (t__2 : (List Int)) : Tw (List Int) :=
 (.opt (L3 (0 : Int) t__0 t__1 t__2 ((w32 t__0) :: ((w32 t__1) :: ((w32 (((List.length t__2) : Nat) : Int)) :: ([] : List Int))))) fun z2 =>
  (.opt (ref02_Seal.c z2) fun z3 =>
   (.ret z3)))
noncomputable def c (t__0 : Int) (t__1 : Int) (t__2 : (List Int)) : Option (List Int) := (t t__0 t__1 t__2).run
def pA : Pt := (.cs (.agg (.cs (.int .i64) (.cs (.int .i64) (.cs (.sl 1) .nl)))) .nl)
def pH : Pt := .nl
def v (l : TA) (y : (List Int)) : AV U := .own 0
def hh (l : TA) (y : (List Int)) : Hp U := [.row 3 y true]
noncomputable def A : AFun U := mkA (U := U) pA pH (X := (List Int)) (fun (l : TA) => c l.1.1.1 l.1.1.2.1 l.1.1.2.2.1) sp1 v hh
noncomputable def body : Code := (Go.Func.body Try.f28).getD .skip
noncomputable def Γ : List (FuncId × AFun U) := [(102, ref02_Seal.A)]
noncomputable def Λ : List (Nat × LFun U) := [(3, Λ3)]
def D : Nat → Lv × Lv := dtab [(3, ⟨[4, 1, 3], []⟩, ⟨[2, 3], []⟩)]
noncomputable def E : Env U := { E0 with Γ := Γ, Λ := Λ, C := [], D := D }
theorem hf3 (R : Type) (l : T3) (s : (Int × (List Int))) (K : Ex → St U → Option R) : codeA E (pick (loopsOf body) 3) ⟨p3.mkL ((((), ((), ((), ((), (s.1, ((), ())))))), ((l.2.1.1, (l.2.1.2.1, (l.2.1.2.2.1, ()))), (s.2, ()))) : T3).1, q3.mkH ((((), ((), ((), ((), (s.1, ((), ())))))), ((l.2.1.1, (l.2.1.2.1, (l.2.1.2.2.1, ()))), (s.2, ()))) : T3).2, 0⟩ (roundK E (pick (loopsOf body) 3) K) =
  (l3 l.2.1.1 l.2.1.2.1 l.2.1.2.2.1 s.1 s.2).runK (lpK K (fun s => ⟨p3.mkL ((((), ((), ((), ((), (s.1, ((), ())))))), ((l.2.1.1, (l.2.1.2.1, (l.2.1.2.2.1, ()))), (s.2, ()))) : T3).1, q3.mkH ((((), ((), ((), ((), (s.1, ((), ())))))), ((l.2.1.1, (l.2.1.2.1, (l.2.1.2.2.1, ()))), (s.2, ()))) : T3).2, 0⟩) sp1 (ou3 l)) := by kernel_rfl
theorem lk3 (R : Type) (st : St U) (K : Ex → St U → Option R) (r : R) (h : Λ3 R st K = some r) : ∃ n, loopA E (pick (loopsOf body) 3) n st K = some r :=
  lp_ok (U := U) (E := E) (b := pick (loopsOf body) 3) (m := 0) (sp := sp1) (p := p3) (q := q3) (X := (List Int)) (S := (Int × (List Int))) (f := fun (l : T3) s => l3 l.2.1.1 l.2.1.2.1 l.2.1.2.2.1 s.1 s.2) (hd := fun (l : T3) s => (((), ((), ((), ((), (s.1, ((), ())))))), ((l.2.1.1, (l.2.1.2.1, (l.2.1.2.2.1, ()))), (s.2, ())))) (s0 := fun (l : T3) => (l.1.2.2.2.2.1, l.2.2.1)) (ou := ou3)
    (fun l => rfl) (fun l x => by rfl) sp1_ok hf3 h
theorem hk (R : Type) (l : TA) (K : AV U → Hp U → Option R) : funcA E Try.f28 [] R (pA.mkL l.1) (pH.mkH l.2) K = (t l.1.1.1 l.1.1.2.1 l.1.1.2.2.1).runK fun y => K (v l y) (hh l y) := by kernel_rfl
theorem okF : SoundF Try.prog cc 28 (funcA E Try.f28 []) :=
  funcA_ok (E := E) P_mixed (E0_ok.with Γ Λ [] D) (gam_of (all_cons ⟨ref02_Seal.ok, ⟨Try.f102, Try.func102, by kernel_rfl, by kernel_rfl⟩⟩ all_nil)) Try.func28 (c := body) (by kernel_rfl)
    (just_by (by kernel_rfl) (by kernel_rfl) (all_cons lk3 all_nil) all_nil) []
theorem ok : SoundF Try.prog cc 28 A :=
  mkA_ok (E := E) (p := pA) (q := pH) (t := fun (l : TA) => t l.1.1.1 l.1.1.2.1 l.1.1.2.2.1) sp1_ok hk okF
end ref25_Lay

/-! instar/instarref25.Take -/
namespace ref25_Take
abbrev TA : Type := (((List Int) × Unit) × Unit)
abbrev T6 : Type := (((List Int) × (Unit × (Unit × (Unit × (Int × (Unit × (Int × (Unit × Unit)))))))) × ((Int × (Int × (Unit × Unit))) × ((Int × (Int × (Unit × Unit))) × ((List Int) × Unit))))
noncomputable def l6 (w : (List Int)) (n : Int) (h0_0 : Int) (h0_1 : Int) (h1_0 : Int) (h1_1 : Int) (i : Int) (h2 : (List Int)) : Tw ((Int × (List Int)) ⊕ (List Int)) :=
 (.bb (decide (i < n))
  (.dd (((0 : Int) ≤ (w64 ((3 : Int) + i)))) inferInstance
   (.opt (w)[(Int.toNat (w64 ((3 : Int) + i)))]? fun z6 =>
    (.dd ((((((List.length h2) + (List.length ((w64 z6) :: ([] : List Int)))) * (8 : Nat)) ≤ (140737488355328 : Nat)) ∧ (((List.length h2) + (List.length ((w64 z6) :: ([] : List Int)))) ≤ (140737488355328 : Nat)))) inferInstance
     (.ret (.inl ((w64 (i + (1 : Int))), (h2 ++ ((w64 z6) :: ([] : List Int))))))
     .no))
   .no)
  (.ret (.inr h2)))
noncomputable def L6 (w : (List Int)) (n : Int) (i : Int) (h0_0 : Int) (h0_1 : Int) (h1_0 : Int) (h1_1 : Int) (h2 : (List Int)) : Option (List Int) := Lp (fun s => (l6 w n h0_0 h0_1 h1_0 h1_1 s.1 s.2).run) (i, h2)
def p6 : Pt := (.cs (.sl 3) (.cs (.bots 1) (.cs (.ptr 0 0) (.cs (.bots 1) (.cs (.int .i64) (.cs (.ptr 1 0) (.cs (.int .i64) (.cs (.bots 64) .nl))))))))
def q6 : Pt := (.cs (.var (.cs (.int .i64) (.cs (.int .i64) (.cs .nils .nl)))) (.cs (.var (.cs (.int .i64) (.cs (.int .i64) (.cs (.own 2) .nl)))) (.cs (.row 1 true) .nl)))
def ou6 (l : T6) (y : (List Int)) : Ex × St U := (.exit 0, stOf 71 [(0, .im (.slice 3 l.1.1)), (2, .ptr 0 0), (4, .im (.int .i64 l.1.2.2.2.2.1)), (5, .ptr 1 0)] [.var [.im (.int .i64 l.2.1.1), .im (.int .i64 l.2.1.2.1), .im .nils], .var [.im (.int .i64 l.2.2.1.1), .im (.int .i64 l.2.2.1.2.1), .own 2], .row 1 y true] 0)
noncomputable def Λ6 : LFun U := mkLp (U := U) p6 q6 0 (X := (List Int)) (fun (l : T6) => L6 l.1.1 l.1.2.2.2.2.1 l.1.2.2.2.2.2.2.1 l.2.1.1 l.2.1.2.1 l.2.2.1.1 l.2.2.1.2.1 l.2.2.2.1) sp1 ou6
noncomputable def t (w : (List Int)) : Tw (Int × (Int × (Int × (List Int)))) :=
 (.bb (decide ((((List.length w) : Nat) : Int) < (4 : Int)))
  (.ret ((0 : Int), ((0 : Int), ((12 : Int), ([] : List Int)))))
  (.opt (w)[(Int.toNat (2 : Int))]? fun z1 =>
   (.bb (decide (z1 > (128 : Int)))
    (.ret ((0 : Int), ((0 : Int), ((12 : Int), ([] : List Int)))))
    (.opt (w)[(Int.toNat (2 : Int))]? fun z2 =>
     (.bb (decide ((((List.length w) : Nat) : Int) < (w64 ((4 : Int) + (w64 z2)))))
      (.ret ((0 : Int), ((0 : Int), ((12 : Int), ([] : List Int)))))
      (.opt (w)[(Int.toNat (2 : Int))]? fun z3 =>
       (.opt (w)[(Int.toNat (0 : Int))]? fun z4 =>
        (.opt (w)[(Int.toNat (1 : Int))]? fun z5 =>
         (.opt (L6 w (w64 z3) (0 : Int) (0 : Int) (0 : Int) (w64 z4) (w64 z5) ([] : List Int)) fun z7 =>
          (.opt (ref25_Right.c (w64 z4) (w64 z5) z7) fun z8 =>
           (.bb (!z8)
            (.ret ((0 : Int), ((0 : Int), ((12 : Int), ([] : List Int)))))
            (.opt (ref25_Lay.c (w64 z4) (w64 z5) z7) fun z9 =>
             (.dd ((((0 : Int) ≤ (w64 ((4 : Int) + (w64 z3)))) ∧ ((w64 ((4 : Int) + (w64 z3))) ≤ (((List.length w) : Nat) : Int)))) inferInstance
              (.opt (ref01_Same.c z9 (List.take (Int.toNat (w64 ((4 : Int) + (w64 z3)))) w)) fun z10 =>
               (.bb (!z10)
                (.ret ((0 : Int), ((0 : Int), ((12 : Int), ([] : List Int)))))
                (.ret ((w64 z4), ((w64 z5), ((0 : Int), z7))))))
              .no)))))))))))))
noncomputable def c (w : (List Int)) : Option (Int × (Int × (Int × (List Int)))) := (t w).run
def pA : Pt := (.cs (.sl 3) .nl)
def pH : Pt := .nl
def v (l : TA) (y : (Int × (Int × (Int × (List Int))))) : AV U := .tup [.agg [.im (.int .i64 y.1), .im (.int .i64 y.2.1), .own 0], .im (.int .i64 y.2.2.1)]
def hh (l : TA) (y : (Int × (Int × (Int × (List Int))))) : Hp U := [.row 1 y.2.2.2 true]
noncomputable def A : AFun U := mkA (U := U) pA pH (X := (Int × (Int × (Int × (List Int))))) (fun (l : TA) => c l.1.1) sp1 v hh
noncomputable def body : Code := (Go.Func.body Try.f31).getD .skip
noncomputable def Γ : List (FuncId × AFun U) := [(26, ref25_Right.A), (28, ref25_Lay.A), (27, ref01_Same.A)]
noncomputable def Λ : List (Nat × LFun U) := [(6, Λ6)]
def D : Nat → Lv × Lv := dtab [(6, ⟨[6, 5, 0, 2, 4], [(5, [.to 2], .own 1)]⟩, ⟨[2, 3, 5, 4, 0], []⟩)]
noncomputable def E : Env U := { E0 with Γ := Γ, Λ := Λ, C := [], D := D }
theorem hf6 (R : Type) (l : T6) (s : (Int × (List Int))) (K : Ex → St U → Option R) : codeA E (pick (loopsOf body) 6) ⟨p6.mkL (((l.1.1, ((), ((), ((), (l.1.2.2.2.2.1, ((), (s.1, ((), ())))))))), ((l.2.1.1, (l.2.1.2.1, ((), ()))), ((l.2.2.1.1, (l.2.2.1.2.1, ((), ()))), (s.2, ())))) : T6).1, q6.mkH (((l.1.1, ((), ((), ((), (l.1.2.2.2.2.1, ((), (s.1, ((), ())))))))), ((l.2.1.1, (l.2.1.2.1, ((), ()))), ((l.2.2.1.1, (l.2.2.1.2.1, ((), ()))), (s.2, ())))) : T6).2, 0⟩ (roundK E (pick (loopsOf body) 6) K) =
  (l6 l.1.1 l.1.2.2.2.2.1 l.2.1.1 l.2.1.2.1 l.2.2.1.1 l.2.2.1.2.1 s.1 s.2).runK (lpK K (fun s => ⟨p6.mkL (((l.1.1, ((), ((), ((), (l.1.2.2.2.2.1, ((), (s.1, ((), ())))))))), ((l.2.1.1, (l.2.1.2.1, ((), ()))), ((l.2.2.1.1, (l.2.2.1.2.1, ((), ()))), (s.2, ())))) : T6).1, q6.mkH (((l.1.1, ((), ((), ((), (l.1.2.2.2.2.1, ((), (s.1, ((), ())))))))), ((l.2.1.1, (l.2.1.2.1, ((), ()))), ((l.2.2.1.1, (l.2.2.1.2.1, ((), ()))), (s.2, ())))) : T6).2, 0⟩) sp1 (ou6 l)) := by kernel_rfl
theorem lk6 (R : Type) (st : St U) (K : Ex → St U → Option R) (r : R) (h : Λ6 R st K = some r) : ∃ n, loopA E (pick (loopsOf body) 6) n st K = some r :=
  lp_ok (U := U) (E := E) (b := pick (loopsOf body) 6) (m := 0) (sp := sp1) (p := p6) (q := q6) (X := (List Int)) (S := (Int × (List Int))) (f := fun (l : T6) s => l6 l.1.1 l.1.2.2.2.2.1 l.2.1.1 l.2.1.2.1 l.2.2.1.1 l.2.2.1.2.1 s.1 s.2) (hd := fun (l : T6) s => ((l.1.1, ((), ((), ((), (l.1.2.2.2.2.1, ((), (s.1, ((), ())))))))), ((l.2.1.1, (l.2.1.2.1, ((), ()))), ((l.2.2.1.1, (l.2.2.1.2.1, ((), ()))), (s.2, ()))))) (s0 := fun (l : T6) => (l.1.2.2.2.2.2.2.1, l.2.2.2.1)) (ou := ou6)
    (fun l => rfl) (fun l x => by rfl) sp1_ok hf6 h
theorem hk (R : Type) (l : TA) (K : AV U → Hp U → Option R) : funcA E Try.f31 [(0, [.cell 2], .own 1)] R (pA.mkL l.1) (pH.mkH l.2) K = (t l.1.1).runK fun y => K (v l y) (hh l y) := by kernel_rfl
theorem okF : SoundF Try.prog cc 31 (funcA E Try.f31 [(0, [.cell 2], .own 1)]) :=
  funcA_ok (E := E) P_mixed (E0_ok.with Γ Λ [] D) (gam_of (all_cons ⟨ref25_Right.ok, ⟨Try.f26, Try.func26, by kernel_rfl, by kernel_rfl⟩⟩ (all_cons ⟨ref25_Lay.ok, ⟨Try.f28, Try.func28, by kernel_rfl, by kernel_rfl⟩⟩ (all_cons ⟨ref01_Same.ok, ⟨Try.f27, Try.func27, by kernel_rfl, by kernel_rfl⟩⟩ all_nil)))) Try.func31 (c := body) (by kernel_rfl)
    (just_by (by kernel_rfl) (by kernel_rfl) (all_cons lk6 all_nil) all_nil) [(0, [.cell 2], .own 1)]
theorem ok : SoundF Try.prog cc 31 A :=
  mkA_ok (E := E) (p := pA) (q := pH) (t := fun (l : TA) => t l.1.1) sp1_ok hk okF
end ref25_Take

/-! instar/instarref25.Same -/
namespace ref25_Same
abbrev TA : Type := (((Int × (Int × ((List Int) × Unit))) × ((Int × (Int × ((List Int) × Unit))) × Unit)) × Unit)
abbrev T4 : Type := ((Unit × (Unit × (Unit × (Unit × (Int × (Unit × Unit)))))) × ((Int × (Int × ((List Int) × Unit))) × ((Int × (Int × ((List Int) × Unit))) × Unit)))
noncomputable def l4 (h0_0 : Int) (h0_1 : Int) (h0_2 : (List Int)) (h1_0 : Int) (h1_1 : Int) (h1_2 : (List Int)) (i : Int) : Tw (Int ⊕ (Unit ⊕ Bool)) :=
 (.bb (decide (i < (((List.length h0_2) : Nat) : Int)))
  (.dd (((0 : Int) ≤ i)) inferInstance
   (.opt (h0_2)[(Int.toNat i)]? fun z1 =>
    (.dd (((0 : Int) ≤ i)) inferInstance
     (.opt (h1_2)[(Int.toNat i)]? fun z2 =>
      (.bb (z1 != z2)
       (.ret (.inr (.inr false)))
       (.ret (.inl (w64 (i + (1 : Int)))))))
     .no))
   .no)
  (.ret (.inr (.inl ()))))
noncomputable def L4 (i : Int) (h0_0 : Int) (h0_1 : Int) (h0_2 : (List Int)) (h1_0 : Int) (h1_1 : Int) (h1_2 : (List Int)) : Option (Unit ⊕ Bool) := Lp (fun s => (l4 h0_0 h0_1 h0_2 h1_0 h1_1 h1_2 s).run) i
def p4 : Pt := (.cs (.bots 2) (.cs (.ptr 0 0) (.cs (.ptr 1 0) (.cs (.bots 1) (.cs (.int .i64) (.cs (.bots 39) .nl))))))
def q4 : Pt := (.cs (.var (.cs (.int .i64) (.cs (.int .i64) (.cs (.sl 1) .nl)))) (.cs (.var (.cs (.int .i64) (.cs (.int .i64) (.cs (.sl 1) .nl)))) .nl))
def ou4 (l : T4) (y : (Unit ⊕ Bool)) : Ex × St U := (Sum.elim (fun a0 => (.exit 0, stOf 45 [] [] 0)) (fun b0 => (.ret, stOf 45 [(4, .im (.bool b0))] [] 0)) y)
noncomputable def Λ4 : LFun U := mkLp (U := U) p4 q4 0 (X := (Unit ⊕ Bool)) (fun (l : T4) => L4 l.1.2.2.2.2.1 l.2.1.1 l.2.1.2.1 l.2.1.2.2.1 l.2.2.1.1 l.2.2.1.2.1 l.2.2.1.2.2.1) (spS sp1) ou4
noncomputable def t (a_0 : Int) (a_1 : Int) (a_2 : (List Int)) (b_0 : Int) (b_1 : Int) (b_2 : (List Int)) : Tw Bool :=
 (.bb (a_0 != b_0)
  (.ret false)
  (.bb (a_1 != b_1)
   (.ret false)
   (.bb ((((List.length a_2) : Nat) : Int) != (((List.length b_2) : Nat) : Int))
    (.ret false)
    (.opt (L4 (0 : Int) a_0 a_1 a_2 b_0 b_1 b_2) fun z3 =>
     (.sm z3
      (fun z4 => (.ret true))
      (fun z5 => (.ret z5)))))))
noncomputable def c (a_0 : Int) (a_1 : Int) (a_2 : (List Int)) (b_0 : Int) (b_1 : Int) (b_2 : (List Int)) : Option Bool := (t a_0 a_1 a_2 b_0 b_1 b_2).run
def pA : Pt := (.cs (.agg (.cs (.int .i64) (.cs (.int .i64) (.cs (.sl 1) .nl)))) (.cs (.agg (.cs (.int .i64) (.cs (.int .i64) (.cs (.sl 1) .nl)))) .nl))
def pH : Pt := .nl
def v (l : TA) (y : Bool) : AV U := .im (.bool y)
def hh (l : TA) (y : Bool) : Hp U := []
noncomputable def A : AFun U := mkA (U := U) pA pH (X := Bool) (fun (l : TA) => c l.1.1.1 l.1.1.2.1 l.1.1.2.2.1 l.1.2.1.1 l.1.2.1.2.1 l.1.2.1.2.2.1) sp1 v hh
noncomputable def body : Code := (Go.Func.body Try.f32).getD .skip
noncomputable def Γ : List (FuncId × AFun U) := []
noncomputable def Λ : List (Nat × LFun U) := [(4, Λ4)]
def D : Nat → Lv × Lv := dtab [(4, ⟨[5, 3, 2], []⟩, ⟨[4], []⟩)]
noncomputable def E : Env U := { E0 with Γ := Γ, Λ := Λ, C := [], D := D }
theorem hf4 (R : Type) (l : T4) (s : Int) (K : Ex → St U → Option R) : codeA E (pick (loopsOf body) 4) ⟨p4.mkL ((((), ((), ((), ((), (s, ((), ())))))), ((l.2.1.1, (l.2.1.2.1, (l.2.1.2.2.1, ()))), ((l.2.2.1.1, (l.2.2.1.2.1, (l.2.2.1.2.2.1, ()))), ()))) : T4).1, q4.mkH ((((), ((), ((), ((), (s, ((), ())))))), ((l.2.1.1, (l.2.1.2.1, (l.2.1.2.2.1, ()))), ((l.2.2.1.1, (l.2.2.1.2.1, (l.2.2.1.2.2.1, ()))), ()))) : T4).2, 0⟩ (roundK E (pick (loopsOf body) 4) K) =
  (l4 l.2.1.1 l.2.1.2.1 l.2.1.2.2.1 l.2.2.1.1 l.2.2.1.2.1 l.2.2.1.2.2.1 s).runK (lpK K (fun s => ⟨p4.mkL ((((), ((), ((), ((), (s, ((), ())))))), ((l.2.1.1, (l.2.1.2.1, (l.2.1.2.2.1, ()))), ((l.2.2.1.1, (l.2.2.1.2.1, (l.2.2.1.2.2.1, ()))), ()))) : T4).1, q4.mkH ((((), ((), ((), ((), (s, ((), ())))))), ((l.2.1.1, (l.2.1.2.1, (l.2.1.2.2.1, ()))), ((l.2.2.1.1, (l.2.2.1.2.1, (l.2.2.1.2.2.1, ()))), ()))) : T4).2, 0⟩) (spS sp1) (ou4 l)) := by kernel_rfl
theorem lk4 (R : Type) (st : St U) (K : Ex → St U → Option R) (r : R) (h : Λ4 R st K = some r) : ∃ n, loopA E (pick (loopsOf body) 4) n st K = some r :=
  lp_ok (U := U) (E := E) (b := pick (loopsOf body) 4) (m := 0) (sp := (spS sp1)) (p := p4) (q := q4) (X := (Unit ⊕ Bool)) (S := Int) (f := fun (l : T4) s => l4 l.2.1.1 l.2.1.2.1 l.2.1.2.2.1 l.2.2.1.1 l.2.2.1.2.1 l.2.2.1.2.2.1 s) (hd := fun (l : T4) s => (((), ((), ((), ((), (s, ((), ())))))), ((l.2.1.1, (l.2.1.2.1, (l.2.1.2.2.1, ()))), ((l.2.2.1.1, (l.2.2.1.2.1, (l.2.2.1.2.2.1, ()))), ())))) (s0 := fun (l : T4) => l.1.2.2.2.2.1) (ou := ou4)
    (fun l => rfl) (fun l x => by repeat' (first | rfl | (cases x with | inl => rfl | inr x => ?_))) (spS_ok sp1_ok) hf4 h
theorem hk (R : Type) (l : TA) (K : AV U → Hp U → Option R) : funcA E Try.f32 [] R (pA.mkL l.1) (pH.mkH l.2) K = (t l.1.1.1 l.1.1.2.1 l.1.1.2.2.1 l.1.2.1.1 l.1.2.1.2.1 l.1.2.1.2.2.1).runK fun y => K (v l y) (hh l y) := by kernel_rfl
theorem okF : SoundF Try.prog cc 32 (funcA E Try.f32 []) :=
  funcA_ok (E := E) P_mixed (E0_ok.with Γ Λ [] D) (gam_of all_nil) Try.func32 (c := body) (by kernel_rfl)
    (just_by (by kernel_rfl) (by kernel_rfl) (all_cons lk4 all_nil) all_nil) []
theorem ok : SoundF Try.prog cc 32 A :=
  mkA_ok (E := E) (p := pA) (q := pH) (t := fun (l : TA) => t l.1.1.1 l.1.1.2.1 l.1.1.2.2.1 l.1.2.1.1 l.1.2.1.2.1 l.1.2.1.2.2.1) sp1_ok hk okF
end ref25_Same

end Go.Proofs.Ytcnomgpbkimmeaa.Va
