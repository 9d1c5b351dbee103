/- The functions of package word, as plain functions, and that the program computes them. Printed by a program of this work out of the evaluator. -/
import Derived.Test.YtnlclchlnngdnaaEn
import Derived.Tactics
namespace Go.Proofs.Ytnlclchlnngdnaa.Va
open Go
set_option linter.unusedVariables false
set_option maxRecDepth 100000

/-! instar/word.Need -/
namespace word_Need
abbrev TA : Type := ((Int × Unit) × Unit)
noncomputable def t (n : Int) : Tw Int :=
 (.bb (decide (n < (1 : Int)))
  (.ret (0 : Int))
  (.ret (w64 ((w64 (Int.tdiv (w64 (n - (1 : Int))) (4 : Int))) + (1 : Int)))))
noncomputable def c (n : Int) : Option Int := (t n).run
def pA : Pt := (.cs (.int .i64) .nl)
def pH : Pt := .nl
def v (l : TA) (y : Int) : AV U := .im (.int .i64 y)
def hh (l : TA) (y : Int) : Hp U := []
noncomputable def A : AFun U := mkA (U := U) pA pH (X := Int) (fun (l : TA) => c l.1.1) sp1 v hh
noncomputable def body : Code := (Go.Func.body Try.f46).getD .skip
noncomputable def Γ : List (FuncId × AFun U) := []
noncomputable def Λ : List (Nat × LFun U) := []
noncomputable def CT : List (Nat × LFun U) := []
def ro : List FuncId := []
def D : Nat → Lv × Lv := dtab []
noncomputable def E : Env U := { E0 with Γ := Γ, Λ := Λ, C := CT, D := D, ro := ro }
theorem hk (R : Type) (l : TA) (K : AV U → Hp U → Option R) : funcA E Try.f46 [] R (pA.mkL l.1) (pH.mkH l.2) K = (t l.1.1).runK fun y => K (v l y) (hh l y) := by kernel_rfl
theorem okF : SoundF Try.prog cc 46 (funcA E Try.f46 []) :=
  funcA_ok (E := E) P_mixed (E0_ok.with Γ Λ CT D ro) (gam_of all_nil all_nil) Try.func46 (c := body) (by kernel_rfl)
    (just_by (by kernel_rfl) (by kernel_rfl) all_nil all_nil) []
theorem ok : SoundF Try.prog cc 46 A :=
  mkA_ok (E := E) (p := pA) (q := pH) (t := fun (l : TA) => t l.1.1) sp1_ok hk okF
theorem keep : KeepA A := mkA_keep (U := U) sp1_ok (fun (l : TA) y => ⟨(hh l y).drop 0, by kernel_rfl⟩)
end word_Need

/-! instar/word.at -/
namespace word_at
abbrev TA : Type := (((List Int) × (Int × Unit)) × Unit)
noncomputable def t (w : (List Int)) (i : Int) : Tw Int :=
 (.dd (((0 : Int) ≤ (w64 (Int.tdiv i (4 : Int))))) inferInstance
  (.opt (w)[(Int.toNat (w64 (Int.tdiv i (4 : Int))))]? fun z1 =>
   (.dd (((wu64 (w64 ((8 : Int) * (w64 ((3 : Int) - (Int.tmod i (4 : Int))))))) < (0 : Int))) inferInstance
    .no
    (.ret (w8 (bShr .u32 z1 (wu64 (w64 ((8 : Int) * (w64 ((3 : Int) - (Int.tmod i (4 : Int))))))))))))
  .no)
noncomputable def c (w : (List Int)) (i : Int) : Option Int := (t w i).run
def pA : Pt := (.cs (.sl 3) (.cs (.int .i64) .nl))
def pH : Pt := .nl
def v (l : TA) (y : Int) : AV U := .im (.int .u8 y)
def hh (l : TA) (y : Int) : Hp U := []
noncomputable def A : AFun U := mkA (U := U) pA pH (X := Int) (fun (l : TA) => c l.1.1 l.1.2.1) sp1 v hh
noncomputable def body : Code := (Go.Func.body Try.f67).getD .skip
noncomputable def Γ : List (FuncId × AFun U) := []
noncomputable def Λ : List (Nat × LFun U) := []
noncomputable def CT : List (Nat × LFun U) := []
def ro : List FuncId := []
def D : Nat → Lv × Lv := dtab []
noncomputable def E : Env U := { E0 with Γ := Γ, Λ := Λ, C := CT, D := D, ro := ro }
theorem hk (R : Type) (l : TA) (K : AV U → Hp U → Option R) : funcA E Try.f67 [] R (pA.mkL l.1) (pH.mkH l.2) K = (t l.1.1 l.1.2.1).runK fun y => K (v l y) (hh l y) := by kernel_rfl
theorem okF : SoundF Try.prog cc 67 (funcA E Try.f67 []) :=
  funcA_ok (E := E) P_mixed (E0_ok.with Γ Λ CT D ro) (gam_of all_nil all_nil) Try.func67 (c := body) (by kernel_rfl)
    (just_by (by kernel_rfl) (by kernel_rfl) all_nil all_nil) []
theorem ok : SoundF Try.prog cc 67 A :=
  mkA_ok (E := E) (p := pA) (q := pH) (t := fun (l : TA) => t l.1.1 l.1.2.1) sp1_ok hk okF
theorem keep : KeepA A := mkA_keep (U := U) sp1_ok (fun (l : TA) y => ⟨(hh l y).drop 0, by kernel_rfl⟩)
end word_at

/-! instar/word.rest -/
namespace word_rest
abbrev TA : Type := (((List Int) × (Int × Unit)) × Unit)
abbrev T2 : Type := (((List Int) × (Int × (Unit × (Int × (Int × (Unit × Unit)))))) × Unit)
noncomputable def l2 (w : (List Int)) (n k10 k11 : Int) : Tw (Int ⊕ (Unit ⊕ Bool)) :=
 (.bb (decide (k11 < k10))
  (.opt (word_at.c w (w64 (n + k11))) fun z1 =>
   (.bb (z1 != (0 : Int))
    (.ret (.inr (.inr true)))
    (.ret (.inl (w64 (k11 + (1 : Int)))))))
  (.ret (.inr (.inl ()))))
noncomputable def L2 (w : (List Int)) (n k10 k11 : Int) : Option (Unit ⊕ Bool) := Lp (fun s => (l2 w n k10 s).run) k11
def p2 : Pt := (.cs (.sl 3) (.cs (.int .i64) (.cs (.bots 8) (.cs (.int .i64) (.cs (.int .i64) (.cs (.bots 9) .nl))))))
def q2 : Pt := .nl
def ou2 (l : T2) (y : (Unit ⊕ Bool)) : Ex × St U := (Sum.elim (fun a0 => (.exit 0, stOf 21 [] [] 0)) (fun b0 => (.ret, stOf 21 [(4, .im (.bool b0))] [] 0)) y)
noncomputable def Λ2 : LFun U := mkLp (U := U) p2 q2 0 (X := (Unit ⊕ Bool)) (fun (l : T2) => L2 l.1.1 l.1.2.1 l.1.2.2.2.1 l.1.2.2.2.2.1) (spS sp1) ou2
noncomputable def t (w : (List Int)) (n : Int) : Tw Bool :=
 (.opt (L2 w n (w64 ((w64 ((4 : Int) * (((List.length w) : Nat) : Int))) - n)) (0 : Int)) fun z2 =>
  (.sm z2
   (fun z3 => (.ret false))
   (fun z4 => (.ret z4))))
noncomputable def c (w : (List Int)) (n : Int) : Option Bool := (t w n).run
def pA : Pt := (.cs (.sl 3) (.cs (.int .i64) .nl))
def pH : Pt := .nl
def v (l : TA) (y : Bool) : AV U := .im (.bool y)
def hh (l : TA) (y : Bool) : Hp U := []
noncomputable def A : AFun U := mkA (U := U) pA pH (X := Bool) (fun (l : TA) => c l.1.1 l.1.2.1) sp1 v hh
noncomputable def body : Code := (Go.Func.body Try.f66).getD .skip
noncomputable def Γ : List (FuncId × AFun U) := [(67, word_at.A)]
noncomputable def Λ : List (Nat × LFun U) := [(2, Λ2)]
noncomputable def CT : List (Nat × LFun U) := []
def ro : List FuncId := []
def D : Nat → Lv × Lv := dtab [(2, ⟨[11, 1, 0, 10], []⟩, ⟨[4], []⟩)]
noncomputable def E : Env U := { E0 with Γ := Γ, Λ := Λ, C := CT, D := D, ro := ro }
theorem hf2 (R : Type) (l : T2) (s : Int) (K : Ex → St U → Option R) : codeA E (pick (loopsOf body) 2) ⟨p2.mkL (((l.1.1, (l.1.2.1, ((), (l.1.2.2.2.1, (s, ((), ())))))), ()) : T2).1, q2.mkH (((l.1.1, (l.1.2.1, ((), (l.1.2.2.2.1, (s, ((), ())))))), ()) : T2).2, 0⟩ (roundK E (pick (loopsOf body) 2) K) =
  (l2 l.1.1 l.1.2.1 l.1.2.2.2.1 s).runK (lpK K (fun s => ⟨p2.mkL (((l.1.1, (l.1.2.1, ((), (l.1.2.2.2.1, (s, ((), ())))))), ()) : T2).1, q2.mkH (((l.1.1, (l.1.2.1, ((), (l.1.2.2.2.1, (s, ((), ())))))), ()) : T2).2, 0⟩) (spS sp1) (ou2 l)) := by kernel_rfl
theorem lk2 (R : Type) (st : St U) (K : Ex → St U → Option R) (r : R) (h : Λ2 R st K = some r) : ∃ n, loopA E (pick (loopsOf body) 2) n st K = some r :=
  lp_ok (U := U) (E := E) (b := pick (loopsOf body) 2) (m := 0) (sp := (spS sp1)) (p := p2) (q := q2) (X := (Unit ⊕ Bool)) (S := Int) (f := fun (l : T2) s => l2 l.1.1 l.1.2.1 l.1.2.2.2.1 s) (hd := fun (l : T2) s => ((l.1.1, (l.1.2.1, ((), (l.1.2.2.2.1, (s, ((), ())))))), ())) (s0 := fun (l : T2) => l.1.2.2.2.2.1) (ou := ou2)
    (fun l => rfl) (fun l x => by repeat' (first | rfl | (cases x with | inl => rfl | inr x => ?_))) (spS_ok sp1_ok) hf2 h
theorem hk (R : Type) (l : TA) (K : AV U → Hp U → Option R) : funcA E Try.f66 [] R (pA.mkL l.1) (pH.mkH l.2) K = (t l.1.1 l.1.2.1).runK fun y => K (v l y) (hh l y) := by kernel_rfl
theorem okF : SoundF Try.prog cc 66 (funcA E Try.f66 []) :=
  funcA_ok (E := E) P_mixed (E0_ok.with Γ Λ CT D ro) (gam_of (all_cons ⟨word_at.ok, ⟨Try.f67, Try.func67, by kernel_rfl, by kernel_rfl⟩⟩ all_nil) (all_cons (no_keep (by kernel_rfl)) all_nil)) Try.func66 (c := body) (by kernel_rfl)
    (just_by (by kernel_rfl) (by kernel_rfl) (all_cons lk2 all_nil) all_nil) []
theorem ok : SoundF Try.prog cc 66 A :=
  mkA_ok (E := E) (p := pA) (q := pH) (t := fun (l : TA) => t l.1.1 l.1.2.1) sp1_ok hk okF
theorem keep : KeepA A := mkA_keep (U := U) sp1_ok (fun (l : TA) y => ⟨(hh l y).drop 0, by kernel_rfl⟩)
end word_rest

/-! instar/word.Bytes -/
namespace word_Bytes
abbrev TA : Type := (((List Int) × (Int × Unit)) × Unit)
abbrev T10 : Type := (((List Int) × (Unit × (Unit × (Unit × (Int × (Int × (Unit × Unit))))))) × ((List Int) × Unit))
noncomputable def l10 (w : (List Int)) (k32 k33 : Int) (h0 : (List Int)) : Tw ((Int × (List Int)) ⊕ (List Int)) :=
 (.bb (decide (k33 < k32))
  (.opt (word_at.c w k33) fun z3 =>
   (.dd ((((0 : Int) ≤ k33) ∧ (k33 < (((List.length h0) : Nat) : Int)))) inferInstance
    (.opt (h0)[(Int.toNat k33)]? fun z4 =>
     (.ret (.inl ((w64 (k33 + (1 : Int))), (List.set h0 (Int.toNat k33) z3)))))
    .no))
  (.ret (.inr h0)))
noncomputable def L10 (w : (List Int)) (k32 k33 : Int) (h0 : (List Int)) : Option (List Int) := Lp (fun s => (l10 w k32 s.1 s.2).run) (k33, h0)
def p10 : Pt := (.cs (.sl 3) (.cs (.bots 6) (.cs (.own 0) (.cs (.bots 24) (.cs (.int .i64) (.cs (.int .i64) (.cs (.bots 10) .nl)))))))
def q10 : Pt := (.cs (.row 2 true) .nl)
def ou10 (l : T10) (y : (List Int)) : Ex × St U := (.exit 1, stOf 44 [(7, .own 0)] [.row 2 y true] 0)
noncomputable def Λ10 : LFun U := mkLp (U := U) p10 q10 0 (X := (List Int)) (fun (l : T10) => L10 l.1.1 l.1.2.2.2.2.1 l.1.2.2.2.2.2.1 l.2.1) sp1 ou10
noncomputable def t (w : (List Int)) (n : Int) : Tw (Int × (List Int)) :=
 (.opt (word_Need.c n) fun z1 =>
  (.bb (decide (n < (0 : Int)))
   (.ret ((2 : Int), ([] : List (Int))))
   (.bb (decide ((((List.length w) : Nat) : Int) < z1))
    (.ret ((5 : Int), ([] : List (Int))))
    (.bb (decide ((((List.length w) : Nat) : Int) > z1))
     (.ret ((6 : Int), ([] : List (Int))))
     (.opt (word_rest.c w n) fun z2 =>
      (.bb z2
       (.ret ((6 : Int), ([] : List (Int))))
       (.dd ((((0 : Int) ≤ n) ∧ ((n ≤ n) ∧ ((n ≤ (140737488355328 : Int)) ∧ ((n * (((1 : Nat) : Nat) : Int)) ≤ (140737488355328 : Int)))))) inferInstance
        (.opt (L10 w (((List.length (List.replicate (Int.toNat n) (0 : Int))) : Nat) : Int) (0 : Int) (List.replicate (Int.toNat n) (0 : Int))) fun z5 =>
         (.ret ((0 : Int), z5)))
        .no)))))))
noncomputable def c (w : (List Int)) (n : Int) : Option (Int × (List Int)) := (t w n).run
def pA : Pt := (.cs (.sl 3) (.cs (.int .i64) .nl))
def pH : Pt := .nl
def v (l : TA) (y : (Int × (List Int))) : AV U := .tup [.own 0, .im (.int .i64 y.1)]
def hh (l : TA) (y : (Int × (List Int))) : Hp U := [.row 2 y.2 true]
noncomputable def A : AFun U := mkA (U := U) pA pH (X := (Int × (List Int))) (fun (l : TA) => c l.1.1 l.1.2.1) sp1 v hh
noncomputable def body : Code := (Go.Func.body Try.f47).getD .skip
noncomputable def Γ : List (FuncId × AFun U) := [(46, word_Need.A), (66, word_rest.A), (67, word_at.A)]
noncomputable def Λ : List (Nat × LFun U) := [(10, Λ10)]
noncomputable def CT : List (Nat × LFun U) := []
def ro : List FuncId := []
def D : Nat → Lv × Lv := dtab [(10, ⟨[33, 0, 7, 32], []⟩, ⟨[4, 5, 7], []⟩)]
noncomputable def E : Env U := { E0 with Γ := Γ, Λ := Λ, C := CT, D := D, ro := ro }
theorem hf10 (R : Type) (l : T10) (s : (Int × (List Int))) (K : Ex → St U → Option R) : codeA E (pick (loopsOf body) 10) ⟨p10.mkL (((l.1.1, ((), ((), ((), (l.1.2.2.2.2.1, (s.1, ((), ()))))))), (s.2, ())) : T10).1, q10.mkH (((l.1.1, ((), ((), ((), (l.1.2.2.2.2.1, (s.1, ((), ()))))))), (s.2, ())) : T10).2, 0⟩ (roundK E (pick (loopsOf body) 10) K) =
  (l10 l.1.1 l.1.2.2.2.2.1 s.1 s.2).runK (lpK K (fun s => ⟨p10.mkL (((l.1.1, ((), ((), ((), (l.1.2.2.2.2.1, (s.1, ((), ()))))))), (s.2, ())) : T10).1, q10.mkH (((l.1.1, ((), ((), ((), (l.1.2.2.2.2.1, (s.1, ((), ()))))))), (s.2, ())) : T10).2, 0⟩) sp1 (ou10 l)) := by kernel_rfl
theorem lk10 (R : Type) (st : St U) (K : Ex → St U → Option R) (r : R) (h : Λ10 R st K = some r) : ∃ n, loopA E (pick (loopsOf body) 10) n st K = some r :=
  lp_ok (U := U) (E := E) (b := pick (loopsOf body) 10) (m := 0) (sp := sp1) (p := p10) (q := q10) (X := (List Int)) (S := (Int × (List Int))) (f := fun (l : T10) s => l10 l.1.1 l.1.2.2.2.2.1 s.1 s.2) (hd := fun (l : T10) s => ((l.1.1, ((), ((), ((), (l.1.2.2.2.2.1, (s.1, ((), ()))))))), (s.2, ()))) (s0 := fun (l : T10) => (l.1.2.2.2.2.2.1, l.2.1)) (ou := ou10)
    (fun l => rfl) (fun l x => by rfl) sp1_ok hf10 h
theorem hk (R : Type) (l : TA) (K : AV U → Hp U → Option R) : funcA E Try.f47 [(0, [], .own 2)] R (pA.mkL l.1) (pH.mkH l.2) K = (t l.1.1 l.1.2.1).runK fun y => K (v l y) (hh l y) := by kernel_rfl
theorem okF : SoundF Try.prog cc 47 (funcA E Try.f47 [(0, [], .own 2)]) :=
  funcA_ok (E := E) P_mixed (E0_ok.with Γ Λ CT D ro) (gam_of (all_cons ⟨word_Need.ok, ⟨Try.f46, Try.func46, by kernel_rfl, by kernel_rfl⟩⟩ (all_cons ⟨word_rest.ok, ⟨Try.f66, Try.func66, by kernel_rfl, by kernel_rfl⟩⟩ (all_cons ⟨word_at.ok, ⟨Try.f67, Try.func67, by kernel_rfl, by kernel_rfl⟩⟩ all_nil))) (all_cons (no_keep (by kernel_rfl)) (all_cons (no_keep (by kernel_rfl)) (all_cons (no_keep (by kernel_rfl)) all_nil)))) Try.func47 (c := body) (by kernel_rfl)
    (just_by (by kernel_rfl) (by kernel_rfl) (all_cons lk10 all_nil) all_nil) [(0, [], .own 2)]
theorem ok : SoundF Try.prog cc 47 A :=
  mkA_ok (E := E) (p := pA) (q := pH) (t := fun (l : TA) => t l.1.1 l.1.2.1) sp1_ok hk okF
theorem keep : KeepA A := mkA_keep (U := U) sp1_ok (fun (l : TA) y => ⟨(hh l y).drop 0, by kernel_rfl⟩)
end word_Bytes

/-! instar/word.Pack -/
namespace word_Pack
abbrev TA : Type := (((List Int) × Unit) × Unit)
abbrev T3 : Type := (((List Int) × (Unit × (Unit × (Unit × (Int × (Int × (Unit × Unit))))))) × ((List Int) × Unit))
noncomputable def l3 (b : (List Int)) (k10 k11 : Int) (h0 : (List Int)) : Tw ((Int × (List Int)) ⊕ (List Int)) :=
 (.bb (decide (k11 < k10))
  (.dd ((((0 : Int) ≤ (w64 (Int.tdiv k11 (4 : Int)))) ∧ ((w64 (Int.tdiv k11 (4 : Int))) < (((List.length h0) : Nat) : Int)))) inferInstance
   (.opt (h0)[(Int.toNat (w64 (Int.tdiv k11 (4 : Int))))]? fun z2 =>
    (.dd (((0 : Int) ≤ k11)) inferInstance
     (.opt (b)[(Int.toNat k11)]? fun z3 =>
      (.dd (((wu64 (w64 ((8 : Int) * (w64 ((3 : Int) - (Int.tmod k11 (4 : Int))))))) < (0 : Int))) inferInstance
       .no
       (.dd ((((0 : Int) ≤ (w64 (Int.tdiv k11 (4 : Int)))) ∧ ((w64 (Int.tdiv k11 (4 : Int))) < (((List.length h0) : Nat) : Int)))) inferInstance
        (.opt (h0)[(Int.toNat (w64 (Int.tdiv k11 (4 : Int))))]? fun z4 =>
         (.ret (.inl ((w64 (k11 + (1 : Int))), (List.set h0 (Int.toNat (w64 (Int.tdiv k11 (4 : Int)))) (bOr .u32 z2 (bShl .u32 (w32 z3) (wu64 (w64 ((8 : Int) * (w64 ((3 : Int) - (Int.tmod k11 (4 : Int))))))))))))))
        .no)))
     .no))
   .no)
  (.ret (.inr h0)))
noncomputable def L3 (b : (List Int)) (k10 k11 : Int) (h0 : (List Int)) : Option (List Int) := Lp (fun s => (l3 b k10 s.1 s.2).run) (k11, h0)
def p3 : Pt := (.cs (.sl 2) (.cs (.bots 2) (.cs (.own 0) (.cs (.bots 6) (.cs (.int .i64) (.cs (.int .i64) (.cs (.bots 22) .nl)))))))
def q3 : Pt := (.cs (.row 3 true) .nl)
def ou3 (l : T3) (y : (List Int)) : Ex × St U := (.exit 0, stOf 34 [(3, .own 0)] [.row 3 y true] 0)
noncomputable def Λ3 : LFun U := mkLp (U := U) p3 q3 0 (X := (List Int)) (fun (l : T3) => L3 l.1.1 l.1.2.2.2.2.1 l.1.2.2.2.2.2.1 l.2.1) sp1 ou3
noncomputable def t (b : (List Int)) : Tw (List Int) :=
 (.opt (word_Need.c (((List.length b) : Nat) : Int)) fun z1 =>
  (.dd ((((0 : Int) ≤ z1) ∧ ((z1 ≤ z1) ∧ ((z1 ≤ (140737488355328 : Int)) ∧ ((z1 * (((4 : Nat) : Nat) : Int)) ≤ (140737488355328 : Int)))))) inferInstance
   (.opt (L3 b (((List.length b) : Nat) : Int) (0 : Int) (List.replicate (Int.toNat z1) (0 : Int))) fun z5 =>
    (.ret z5))
   .no))
noncomputable def c (b : (List Int)) : Option (List Int) := (t b).run
def pA : Pt := (.cs (.sl 2) .nl)
def pH : Pt := .nl
def v (l : TA) (y : (List Int)) : AV U := .own 0
def hh (l : TA) (y : (List Int)) : Hp U := [.row 3 y true]
noncomputable def A : AFun U := mkA (U := U) pA pH (X := (List Int)) (fun (l : TA) => c l.1.1) sp1 v hh
noncomputable def body : Code := (Go.Func.body Try.f50).getD .skip
noncomputable def Γ : List (FuncId × AFun U) := [(46, word_Need.A)]
noncomputable def Λ : List (Nat × LFun U) := [(3, Λ3)]
noncomputable def CT : List (Nat × LFun U) := []
def ro : List FuncId := []
def D : Nat → Lv × Lv := dtab [(3, ⟨[11, 0, 3, 10], []⟩, ⟨[2, 3], []⟩)]
noncomputable def E : Env U := { E0 with Γ := Γ, Λ := Λ, C := CT, D := D, ro := ro }
theorem hf3 (R : Type) (l : T3) (s : (Int × (List Int))) (K : Ex → St U → Option R) : codeA E (pick (loopsOf body) 3) ⟨p3.mkL (((l.1.1, ((), ((), ((), (l.1.2.2.2.2.1, (s.1, ((), ()))))))), (s.2, ())) : T3).1, q3.mkH (((l.1.1, ((), ((), ((), (l.1.2.2.2.2.1, (s.1, ((), ()))))))), (s.2, ())) : T3).2, 0⟩ (roundK E (pick (loopsOf body) 3) K) =
  (l3 l.1.1 l.1.2.2.2.2.1 s.1 s.2).runK (lpK K (fun s => ⟨p3.mkL (((l.1.1, ((), ((), ((), (l.1.2.2.2.2.1, (s.1, ((), ()))))))), (s.2, ())) : T3).1, q3.mkH (((l.1.1, ((), ((), ((), (l.1.2.2.2.2.1, (s.1, ((), ()))))))), (s.2, ())) : T3).2, 0⟩) sp1 (ou3 l)) := by kernel_rfl
theorem lk3 (R : Type) (st : St U) (K : Ex → St U → Option R) (r : R) (h : Λ3 R st K = some r) : ∃ n, loopA E (pick (loopsOf body) 3) n st K = some r :=
  lp_ok (U := U) (E := E) (b := pick (loopsOf body) 3) (m := 0) (sp := sp1) (p := p3) (q := q3) (X := (List Int)) (S := (Int × (List Int))) (f := fun (l : T3) s => l3 l.1.1 l.1.2.2.2.2.1 s.1 s.2) (hd := fun (l : T3) s => ((l.1.1, ((), ((), ((), (l.1.2.2.2.2.1, (s.1, ((), ()))))))), (s.2, ()))) (s0 := fun (l : T3) => (l.1.2.2.2.2.2.1, l.2.1)) (ou := ou3)
    (fun l => rfl) (fun l x => by rfl) sp1_ok hf3 h
theorem hk (R : Type) (l : TA) (K : AV U → Hp U → Option R) : funcA E Try.f50 [] R (pA.mkL l.1) (pH.mkH l.2) K = (t l.1.1).runK fun y => K (v l y) (hh l y) := by kernel_rfl
theorem okF : SoundF Try.prog cc 50 (funcA E Try.f50 []) :=
  funcA_ok (E := E) P_mixed (E0_ok.with Γ Λ CT D ro) (gam_of (all_cons ⟨word_Need.ok, ⟨Try.f46, Try.func46, by kernel_rfl, by kernel_rfl⟩⟩ all_nil) (all_cons (no_keep (by kernel_rfl)) all_nil)) Try.func50 (c := body) (by kernel_rfl)
    (just_by (by kernel_rfl) (by kernel_rfl) (all_cons lk3 all_nil) all_nil) []
theorem ok : SoundF Try.prog cc 50 A :=
  mkA_ok (E := E) (p := pA) (q := pH) (t := fun (l : TA) => t l.1.1) sp1_ok hk okF
theorem keep : KeepA A := mkA_keep (U := U) sp1_ok (fun (l : TA) y => ⟨(hh l y).drop 0, by kernel_rfl⟩)
end word_Pack

/-! instar/word.Within -/
namespace word_Within
abbrev TA : Type := ((Int × (Int × Unit)) × Unit)
noncomputable def t (a b : Int) : Tw Bool :=
 (.ret ((bAndn .u32 a b) == (0 : Int)))
noncomputable def c (a b : Int) : Option Bool := (t a b).run
def pA : Pt := (.cs (.int .u32) (.cs (.int .u32) .nl))
def pH : Pt := .nl
def v (l : TA) (y : Bool) : AV U := .im (.bool y)
def hh (l : TA) (y : Bool) : Hp U := []
noncomputable def A : AFun U := mkA (U := U) pA pH (X := Bool) (fun (l : TA) => c l.1.1 l.1.2.1) sp1 v hh
noncomputable def body : Code := (Go.Func.body Try.f70).getD .skip
noncomputable def Γ : List (FuncId × AFun U) := []
noncomputable def Λ : List (Nat × LFun U) := []
noncomputable def CT : List (Nat × LFun U) := []
def ro : List FuncId := []
def D : Nat → Lv × Lv := dtab []
noncomputable def E : Env U := { E0 with Γ := Γ, Λ := Λ, C := CT, D := D, ro := ro }
theorem hk (R : Type) (l : TA) (K : AV U → Hp U → Option R) : funcA E Try.f70 [] R (pA.mkL l.1) (pH.mkH l.2) K = (t l.1.1 l.1.2.1).runK fun y => K (v l y) (hh l y) := by kernel_rfl
theorem okF : SoundF Try.prog cc 70 (funcA E Try.f70 []) :=
  funcA_ok (E := E) P_mixed (E0_ok.with Γ Λ CT D ro) (gam_of all_nil all_nil) Try.func70 (c := body) (by kernel_rfl)
    (just_by (by kernel_rfl) (by kernel_rfl) all_nil all_nil) []
theorem ok : SoundF Try.prog cc 70 A :=
  mkA_ok (E := E) (p := pA) (q := pH) (t := fun (l : TA) => t l.1.1 l.1.2.1) sp1_ok hk okF
theorem keep : KeepA A := mkA_keep (U := U) sp1_ok (fun (l : TA) y => ⟨(hh l y).drop 0, by kernel_rfl⟩)
end word_Within

/-! instar/word.Raised -/
namespace word_Raised
abbrev TA : Type := ((Int × (Int × Unit)) × Unit)
noncomputable def t (was mask : Int) : Tw Int :=
 (.ret (bOr .u32 was mask))
noncomputable def c (was mask : Int) : Option Int := (t was mask).run
def pA : Pt := (.cs (.int .u32) (.cs (.int .u32) .nl))
def pH : Pt := .nl
def v (l : TA) (y : Int) : AV U := .im (.int .u32 y)
def hh (l : TA) (y : Int) : Hp U := []
noncomputable def A : AFun U := mkA (U := U) pA pH (X := Int) (fun (l : TA) => c l.1.1 l.1.2.1) sp1 v hh
noncomputable def body : Code := (Go.Func.body Try.f84).getD .skip
noncomputable def Γ : List (FuncId × AFun U) := []
noncomputable def Λ : List (Nat × LFun U) := []
noncomputable def CT : List (Nat × LFun U) := []
def ro : List FuncId := []
def D : Nat → Lv × Lv := dtab []
noncomputable def E : Env U := { E0 with Γ := Γ, Λ := Λ, C := CT, D := D, ro := ro }
theorem hk (R : Type) (l : TA) (K : AV U → Hp U → Option R) : funcA E Try.f84 [] R (pA.mkL l.1) (pH.mkH l.2) K = (t l.1.1 l.1.2.1).runK fun y => K (v l y) (hh l y) := by kernel_rfl
theorem okF : SoundF Try.prog cc 84 (funcA E Try.f84 []) :=
  funcA_ok (E := E) P_mixed (E0_ok.with Γ Λ CT D ro) (gam_of all_nil all_nil) Try.func84 (c := body) (by kernel_rfl)
    (just_by (by kernel_rfl) (by kernel_rfl) all_nil all_nil) []
theorem ok : SoundF Try.prog cc 84 A :=
  mkA_ok (E := E) (p := pA) (q := pH) (t := fun (l : TA) => t l.1.1 l.1.2.1) sp1_ok hk okF
theorem keep : KeepA A := mkA_keep (U := U) sp1_ok (fun (l : TA) y => ⟨(hh l y).drop 0, by kernel_rfl⟩)
end word_Raised

/-! instar/word.Torn -/
namespace word_Torn
abbrev TA : Type := ((Int × (Int × (Int × Unit))) × Unit)
noncomputable def t (was x mask : Int) : Tw Int :=
 (.ret (bAndn .u32 was (bAndn .u32 mask x)))
noncomputable def c (was x mask : Int) : Option Int := (t was x mask).run
def pA : Pt := (.cs (.int .u32) (.cs (.int .u32) (.cs (.int .u32) .nl)))
def pH : Pt := .nl
def v (l : TA) (y : Int) : AV U := .im (.int .u32 y)
def hh (l : TA) (y : Int) : Hp U := []
noncomputable def A : AFun U := mkA (U := U) pA pH (X := Int) (fun (l : TA) => c l.1.1 l.1.2.1 l.1.2.2.1) sp1 v hh
noncomputable def body : Code := (Go.Func.body Try.f85).getD .skip
noncomputable def Γ : List (FuncId × AFun U) := []
noncomputable def Λ : List (Nat × LFun U) := []
noncomputable def CT : List (Nat × LFun U) := []
def ro : List FuncId := []
def D : Nat → Lv × Lv := dtab []
noncomputable def E : Env U := { E0 with Γ := Γ, Λ := Λ, C := CT, D := D, ro := ro }
theorem hk (R : Type) (l : TA) (K : AV U → Hp U → Option R) : funcA E Try.f85 [] R (pA.mkL l.1) (pH.mkH l.2) K = (t l.1.1 l.1.2.1 l.1.2.2.1).runK fun y => K (v l y) (hh l y) := by kernel_rfl
theorem okF : SoundF Try.prog cc 85 (funcA E Try.f85 []) :=
  funcA_ok (E := E) P_mixed (E0_ok.with Γ Λ CT D ro) (gam_of all_nil all_nil) Try.func85 (c := body) (by kernel_rfl)
    (just_by (by kernel_rfl) (by kernel_rfl) all_nil all_nil) []
theorem ok : SoundF Try.prog cc 85 A :=
  mkA_ok (E := E) (p := pA) (q := pH) (t := fun (l : TA) => t l.1.1 l.1.2.1 l.1.2.2.1) sp1_ok hk okF
theorem keep : KeepA A := mkA_keep (U := U) sp1_ok (fun (l : TA) y => ⟨(hh l y).drop 0, by kernel_rfl⟩)
end word_Torn

end Go.Proofs.Ytnlclchlnngdnaa.Va
