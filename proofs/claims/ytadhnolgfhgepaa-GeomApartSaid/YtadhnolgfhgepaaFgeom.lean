/- The functions of package geom, as plain functions, and that the program computes them. Printed by a program of this work out of the evaluator. -/
import Derived.Test.YtadhnolgfhgepaaEn
import Derived.Tactics
namespace Go.Proofs.Ytadhnolgfhgepaa.Va
open Go
set_option linter.unusedVariables false
set_option maxRecDepth 100000

/-! instar/geom.Check -/
namespace geom_Check
abbrev TA : Type := (((Int × (Int × (Int × (Int × (Int × (Int × Unit)))))) × Unit) × Unit)
abbrev T2 : Type := ((Unit × (Unit × (Int × (Int × (Unit × Unit))))) × ((List (Int × Int × Int)) × Unit))
noncomputable def l2 (k31 : Int) (h0 : (List (Int × Int × Int))) (k32 : Int) : Tw (Int ⊕ (Unit ⊕ Int)) :=
 (.bb (decide (k32 < k31))
  (.dd ((((0 : Int) ≤ k32) ∧ (k32 < (((List.length h0) : Nat) : Int)))) inferInstance
   (.opt (h0)[(Int.toNat k32)]? fun z1 =>
    (.bb (decide (z1.1 < z1.2.1))
     (.ret (.inr (.inr (2 : Int))))
     (.bb (decide (z1.1 > z1.2.2))
      (.ret (.inr (.inr (2 : Int))))
      (.ret (.inl (w64 (k32 + (1 : Int))))))))
   .no)
  (.ret (.inr (.inl ()))))
noncomputable def L2 (k31 : Int) (k32 : Int) (h0 : (List (Int × Int × Int))) : Option (Unit ⊕ Int) := Lp (fun s => (l2 k31 h0 s).run) k32
def p2 : Pt := (.cs (.bots 30) (.cs (.own 0) (.cs (.int .i64) (.cs (.int .i64) (.cs (.bots 16) .nl)))))
def q2 : Pt := (.cs (.row 14 true) .nl)
def ou2 (l : T2) (y : (Unit ⊕ Int)) : Ex × St U := (Sum.elim (fun a0 => (.exit 0, stOf 49 [] [] 0)) (fun b0 => (.ret, stOf 49 [(2, .im (.int .i64 b0))] [] 0)) y)
noncomputable def Λ2 : LFun U := mkLp (U := U) p2 q2 0 (X := (Unit ⊕ Int)) (fun (l : T2) => L2 l.1.2.2.1 l.1.2.2.2.1 l.2.1) (spS sp1) ou2
noncomputable def t (g_0 : Int) (g_1 : Int) (g_2 : Int) (g_3 : Int) (g_4 : Int) (g_5 : Int) : Tw Int :=
 (.opt (L2 (((List.length ((Prod.mk g_0 (Prod.mk (64 : Int) (1024 : Int))) :: ((Prod.mk g_1 (Prod.mk (2 : Int) (32 : Int))) :: ((Prod.mk g_3 (Prod.mk (2 : Int) (w64 (g_0 - (8 : Int))))) :: ((Prod.mk g_2 (Prod.mk (w64 ((3 : Int) + (imin g_3 (128 : Int)))) (128 : Int))) :: ((Prod.mk g_4 (Prod.mk (1 : Int) (9 : Int))) :: ((Prod.mk g_5 (Prod.mk (1 : Int) (1073741823 : Int))) :: []))))))) : Nat) : Int) (0 : Int) ((Prod.mk g_0 (Prod.mk (64 : Int) (1024 : Int))) :: ((Prod.mk g_1 (Prod.mk (2 : Int) (32 : Int))) :: ((Prod.mk g_3 (Prod.mk (2 : Int) (w64 (g_0 - (8 : Int))))) :: ((Prod.mk g_2 (Prod.mk (w64 ((3 : Int) + (imin g_3 (128 : Int)))) (128 : Int))) :: ((Prod.mk g_4 (Prod.mk (1 : Int) (9 : Int))) :: ((Prod.mk g_5 (Prod.mk (1 : Int) (1073741823 : Int))) :: []))))))) fun z2 =>
  (.sm z2
   (fun z3 => (.ret (0 : Int)))
   (fun z4 => (.ret z4))))
noncomputable def c (g_0 : Int) (g_1 : Int) (g_2 : Int) (g_3 : Int) (g_4 : Int) (g_5 : Int) : Option Int := (t g_0 g_1 g_2 g_3 g_4 g_5).run
def pA : Pt := (.cs (.agg (.cs (.int .i64) (.cs (.int .i64) (.cs (.int .i64) (.cs (.int .i64) (.cs (.int .i64) (.cs (.int .i64) .nl))))))) .nl)
def pH : Pt := .nl
def v (l : TA) (y : Int) : AV U := .im (.int .i64 y)
def hh (l : TA) (y : Int) : Hp U := []
noncomputable def A : AFun U := mkA (U := U) pA pH (X := Int) (fun (l : TA) => c l.1.1.1 l.1.1.2.1 l.1.1.2.2.1 l.1.1.2.2.2.1 l.1.1.2.2.2.2.1 l.1.1.2.2.2.2.2.1) sp1 v hh
noncomputable def body : Code := (Go.Func.body Try.f54).getD .skip
noncomputable def Γ : List (FuncId × AFun U) := []
noncomputable def Λ : List (Nat × LFun U) := [(2, Λ2)]
def D : Nat → Lv × Lv := dtab [(2, ⟨[32, 30, 31], []⟩, ⟨[2], []⟩)]
noncomputable def E : Env U := { E0 with Γ := Γ, Λ := Λ, C := [], D := D }
theorem hf2 (R : Type) (l : T2) (s : Int) (K : Ex → St U → Option R) : codeA E (pick (loopsOf body) 2) ⟨p2.mkL ((((), ((), (l.1.2.2.1, (s, ((), ()))))), (l.2.1, ())) : T2).1, q2.mkH ((((), ((), (l.1.2.2.1, (s, ((), ()))))), (l.2.1, ())) : T2).2, 0⟩ (roundK E (pick (loopsOf body) 2) K) =
  (l2 l.1.2.2.1 l.2.1 s).runK (lpK K (fun s => ⟨p2.mkL ((((), ((), (l.1.2.2.1, (s, ((), ()))))), (l.2.1, ())) : T2).1, q2.mkH ((((), ((), (l.1.2.2.1, (s, ((), ()))))), (l.2.1, ())) : T2).2, 0⟩) (spS sp1) (ou2 l)) := by kernel_rfl
theorem lk2 (R : Type) (st : St U) (K : Ex → St U → Option R) (r : R) (h : Λ2 R st K = some r) : ∃ n, loopA E (pick (loopsOf body) 2) n st K = some r :=
  lp_ok (U := U) (E := E) (b := pick (loopsOf body) 2) (m := 0) (sp := (spS sp1)) (p := p2) (q := q2) (X := (Unit ⊕ Int)) (S := Int) (f := fun (l : T2) s => l2 l.1.2.2.1 l.2.1 s) (hd := fun (l : T2) s => (((), ((), (l.1.2.2.1, (s, ((), ()))))), (l.2.1, ()))) (s0 := fun (l : T2) => l.1.2.2.2.1) (ou := ou2)
    (fun l => rfl) (fun l x => by repeat' (first | rfl | (cases x with | inl => rfl | inr x => ?_))) (spS_ok sp1_ok) hf2 h
theorem hk (R : Type) (l : TA) (K : AV U → Hp U → Option R) : funcA E Try.f54 [] R (pA.mkL l.1) (pH.mkH l.2) K = (t l.1.1.1 l.1.1.2.1 l.1.1.2.2.1 l.1.1.2.2.2.1 l.1.1.2.2.2.2.1 l.1.1.2.2.2.2.2.1).runK fun y => K (v l y) (hh l y) := by kernel_rfl
theorem okF : SoundF Try.prog cc 54 (funcA E Try.f54 []) :=
  funcA_ok (E := E) P_mixed (E0_ok.with Γ Λ [] D) (gam_of all_nil) Try.func54 (c := body) (by kernel_rfl)
    (just_by (by kernel_rfl) (by kernel_rfl) (all_cons lk2 all_nil) all_nil) []
theorem ok : SoundF Try.prog cc 54 A :=
  mkA_ok (E := E) (p := pA) (q := pH) (t := fun (l : TA) => t l.1.1.1 l.1.1.2.1 l.1.1.2.2.1 l.1.1.2.2.2.1 l.1.1.2.2.2.2.1 l.1.1.2.2.2.2.2.1) sp1_ok hk okF
end geom_Check

/-! instar/geom.fine -/
namespace geom_fine
abbrev TA : Type := (((Int × (Int × (Int × (Int × (Int × (Int × Unit)))))) × (Int × (Int × Unit))) × Unit)
noncomputable def t (g_0 : Int) (g_1 : Int) (g_2 : Int) (g_3 : Int) (g_4 : Int) (g_5 : Int) (i : Int) (n : Int) : Tw Bool :=
 (.opt (geom_Check.c g_0 g_1 g_2 g_3 g_4 g_5) fun z1 =>
  (.bb (z1 == (0 : Int))
   (.bb (decide (i ≥ (0 : Int)))
    (.ret (decide (i < n)))
    (.ret false))
   (.ret false)))
noncomputable def c (g_0 : Int) (g_1 : Int) (g_2 : Int) (g_3 : Int) (g_4 : Int) (g_5 : Int) (i : Int) (n : Int) : Option Bool := (t g_0 g_1 g_2 g_3 g_4 g_5 i n).run
def pA : Pt := (.cs (.agg (.cs (.int .i64) (.cs (.int .i64) (.cs (.int .i64) (.cs (.int .i64) (.cs (.int .i64) (.cs (.int .i64) .nl))))))) (.cs (.int .i64) (.cs (.int .i64) .nl)))
def pH : Pt := .nl
def v (l : TA) (y : Bool) : AV U := .im (.bool y)
def hh (l : TA) (y : Bool) : Hp U := []
noncomputable def A : AFun U := mkA (U := U) pA pH (X := Bool) (fun (l : TA) => c l.1.1.1 l.1.1.2.1 l.1.1.2.2.1 l.1.1.2.2.2.1 l.1.1.2.2.2.2.1 l.1.1.2.2.2.2.2.1 l.1.2.1 l.1.2.2.1) sp1 v hh
noncomputable def body : Code := (Go.Func.body Try.f84).getD .skip
noncomputable def Γ : List (FuncId × AFun U) := [(54, geom_Check.A)]
noncomputable def Λ : List (Nat × LFun U) := []
def D : Nat → Lv × Lv := dtab []
noncomputable def E : Env U := { E0 with Γ := Γ, Λ := Λ, C := [], D := D }
theorem hk (R : Type) (l : TA) (K : AV U → Hp U → Option R) : funcA E Try.f84 [] R (pA.mkL l.1) (pH.mkH l.2) K = (t l.1.1.1 l.1.1.2.1 l.1.1.2.2.1 l.1.1.2.2.2.1 l.1.1.2.2.2.2.1 l.1.1.2.2.2.2.2.1 l.1.2.1 l.1.2.2.1).runK fun y => K (v l y) (hh l y) := by kernel_rfl
theorem okF : SoundF Try.prog cc 84 (funcA E Try.f84 []) :=
  funcA_ok (E := E) P_mixed (E0_ok.with Γ Λ [] D) (gam_of (all_cons ⟨geom_Check.ok, ⟨Try.f54, Try.func54, by kernel_rfl, by kernel_rfl⟩⟩ all_nil)) Try.func84 (c := body) (by kernel_rfl)
    (just_by (by kernel_rfl) (by kernel_rfl) all_nil all_nil) []
theorem ok : SoundF Try.prog cc 84 A :=
  mkA_ok (E := E) (p := pA) (q := pH) (t := fun (l : TA) => t l.1.1.1 l.1.1.2.1 l.1.1.2.2.1 l.1.1.2.2.2.1 l.1.1.2.2.2.2.1 l.1.1.2.2.2.2.2.1 l.1.2.1 l.1.2.2.1) sp1_ok hk okF
end geom_fine

/-! instar/geom.Sectors -/
namespace geom_Sectors
abbrev TA : Type := (((Int × (Int × (Int × (Int × (Int × (Int × Unit)))))) × Unit) × Unit)
noncomputable def t (g_0 : Int) (g_1 : Int) (g_2 : Int) (g_3 : Int) (g_4 : Int) (g_5 : Int) : Tw Int :=
 (.opt (geom_fine.c g_0 g_1 g_2 g_3 g_4 g_5 (0 : Int) (1 : Int)) fun z1 =>
  (.bb (!z1)
   (.ret (0 : Int))
   (.ret (w64 ((w64 ((2 : Int) + (w64 ((2 : Int) * g_1)))) + g_2)))))
noncomputable def c (g_0 : Int) (g_1 : Int) (g_2 : Int) (g_3 : Int) (g_4 : Int) (g_5 : Int) : Option Int := (t g_0 g_1 g_2 g_3 g_4 g_5).run
def pA : Pt := (.cs (.agg (.cs (.int .i64) (.cs (.int .i64) (.cs (.int .i64) (.cs (.int .i64) (.cs (.int .i64) (.cs (.int .i64) .nl))))))) .nl)
def pH : Pt := .nl
def v (l : TA) (y : Int) : AV U := .im (.int .i64 y)
def hh (l : TA) (y : Int) : Hp U := []
noncomputable def A : AFun U := mkA (U := U) pA pH (X := Int) (fun (l : TA) => c l.1.1.1 l.1.1.2.1 l.1.1.2.2.1 l.1.1.2.2.2.1 l.1.1.2.2.2.2.1 l.1.1.2.2.2.2.2.1) sp1 v hh
noncomputable def body : Code := (Go.Func.body Try.f56).getD .skip
noncomputable def Γ : List (FuncId × AFun U) := [(84, geom_fine.A)]
noncomputable def Λ : List (Nat × LFun U) := []
def D : Nat → Lv × Lv := dtab []
noncomputable def E : Env U := { E0 with Γ := Γ, Λ := Λ, C := [], D := D }
theorem hk (R : Type) (l : TA) (K : AV U → Hp U → Option R) : funcA E Try.f56 [] R (pA.mkL l.1) (pH.mkH l.2) K = (t l.1.1.1 l.1.1.2.1 l.1.1.2.2.1 l.1.1.2.2.2.1 l.1.1.2.2.2.2.1 l.1.1.2.2.2.2.2.1).runK fun y => K (v l y) (hh l y) := by kernel_rfl
theorem okF : SoundF Try.prog cc 56 (funcA E Try.f56 []) :=
  funcA_ok (E := E) P_mixed (E0_ok.with Γ Λ [] D) (gam_of (all_cons ⟨geom_fine.ok, ⟨Try.f84, Try.func84, by kernel_rfl, by kernel_rfl⟩⟩ all_nil)) Try.func56 (c := body) (by kernel_rfl)
    (just_by (by kernel_rfl) (by kernel_rfl) all_nil all_nil) []
theorem ok : SoundF Try.prog cc 56 A :=
  mkA_ok (E := E) (p := pA) (q := pH) (t := fun (l : TA) => t l.1.1.1 l.1.1.2.1 l.1.1.2.2.1 l.1.1.2.2.2.1 l.1.1.2.2.2.2.1 l.1.1.2.2.2.2.2.1) sp1_ok hk okF
end geom_Sectors

/-! instar/geom.Ledger -/
namespace geom_Ledger
abbrev TA : Type := (((Int × (Int × (Int × (Int × (Int × (Int × Unit)))))) × (Int × Unit)) × Unit)
noncomputable def t (g_0 : Int) (g_1 : Int) (g_2 : Int) (g_3 : Int) (g_4 : Int) (g_5 : Int) (slot : Int) : Tw Int :=
 (.opt (geom_fine.c g_0 g_1 g_2 g_3 g_4 g_5 slot (2 : Int)) fun z1 =>
  (.bb (!z1)
   (.ret (-(1 : Int)))
   (.ret (w64 ((2 : Int) + (w64 (slot * g_1)))))))
noncomputable def c (g_0 : Int) (g_1 : Int) (g_2 : Int) (g_3 : Int) (g_4 : Int) (g_5 : Int) (slot : Int) : Option Int := (t g_0 g_1 g_2 g_3 g_4 g_5 slot).run
def pA : Pt := (.cs (.agg (.cs (.int .i64) (.cs (.int .i64) (.cs (.int .i64) (.cs (.int .i64) (.cs (.int .i64) (.cs (.int .i64) .nl))))))) (.cs (.int .i64) .nl))
def pH : Pt := .nl
def v (l : TA) (y : Int) : AV U := .im (.int .i64 y)
def hh (l : TA) (y : Int) : Hp U := []
noncomputable def A : AFun U := mkA (U := U) pA pH (X := Int) (fun (l : TA) => c l.1.1.1 l.1.1.2.1 l.1.1.2.2.1 l.1.1.2.2.2.1 l.1.1.2.2.2.2.1 l.1.1.2.2.2.2.2.1 l.1.2.1) sp1 v hh
noncomputable def body : Code := (Go.Func.body Try.f58).getD .skip
noncomputable def Γ : List (FuncId × AFun U) := [(84, geom_fine.A)]
noncomputable def Λ : List (Nat × LFun U) := []
def D : Nat → Lv × Lv := dtab []
noncomputable def E : Env U := { E0 with Γ := Γ, Λ := Λ, C := [], D := D }
theorem hk (R : Type) (l : TA) (K : AV U → Hp U → Option R) : funcA E Try.f58 [] R (pA.mkL l.1) (pH.mkH l.2) K = (t l.1.1.1 l.1.1.2.1 l.1.1.2.2.1 l.1.1.2.2.2.1 l.1.1.2.2.2.2.1 l.1.1.2.2.2.2.2.1 l.1.2.1).runK fun y => K (v l y) (hh l y) := by kernel_rfl
theorem okF : SoundF Try.prog cc 58 (funcA E Try.f58 []) :=
  funcA_ok (E := E) P_mixed (E0_ok.with Γ Λ [] D) (gam_of (all_cons ⟨geom_fine.ok, ⟨Try.f84, Try.func84, by kernel_rfl, by kernel_rfl⟩⟩ all_nil)) Try.func58 (c := body) (by kernel_rfl)
    (just_by (by kernel_rfl) (by kernel_rfl) all_nil all_nil) []
theorem ok : SoundF Try.prog cc 58 A :=
  mkA_ok (E := E) (p := pA) (q := pH) (t := fun (l : TA) => t l.1.1.1 l.1.1.2.1 l.1.1.2.2.1 l.1.1.2.2.2.1 l.1.1.2.2.2.2.1 l.1.1.2.2.2.2.2.1 l.1.2.1) sp1_ok hk okF
end geom_Ledger

/-! instar/geom.Chunk -/
namespace geom_Chunk
abbrev TA : Type := (((Int × (Int × (Int × (Int × (Int × (Int × Unit)))))) × (Int × (Int × Unit))) × Unit)
noncomputable def t (g_0 : Int) (g_1 : Int) (g_2 : Int) (g_3 : Int) (g_4 : Int) (g_5 : Int) (slot : Int) (i : Int) : Tw Int :=
 (.opt (geom_Ledger.c g_0 g_1 g_2 g_3 g_4 g_5 slot) fun z1 =>
  (.bb (decide (z1 ≥ (0 : Int)))
   (.opt (geom_fine.c g_0 g_1 g_2 g_3 g_4 g_5 i (w64 (g_1 - (1 : Int)))) fun z2 =>
    (.bb z2
     (.ret (w64 ((w64 (z1 + (1 : Int))) + i)))
     (.ret (-(1 : Int)))))
   (.ret (-(1 : Int)))))
noncomputable def c (g_0 : Int) (g_1 : Int) (g_2 : Int) (g_3 : Int) (g_4 : Int) (g_5 : Int) (slot : Int) (i : Int) : Option Int := (t g_0 g_1 g_2 g_3 g_4 g_5 slot i).run
def pA : Pt := (.cs (.agg (.cs (.int .i64) (.cs (.int .i64) (.cs (.int .i64) (.cs (.int .i64) (.cs (.int .i64) (.cs (.int .i64) .nl))))))) (.cs (.int .i64) (.cs (.int .i64) .nl)))
def pH : Pt := .nl
def v (l : TA) (y : Int) : AV U := .im (.int .i64 y)
def hh (l : TA) (y : Int) : Hp U := []
noncomputable def A : AFun U := mkA (U := U) pA pH (X := Int) (fun (l : TA) => c l.1.1.1 l.1.1.2.1 l.1.1.2.2.1 l.1.1.2.2.2.1 l.1.1.2.2.2.2.1 l.1.1.2.2.2.2.2.1 l.1.2.1 l.1.2.2.1) sp1 v hh
noncomputable def body : Code := (Go.Func.body Try.f60).getD .skip
noncomputable def Γ : List (FuncId × AFun U) := [(58, geom_Ledger.A), (84, geom_fine.A)]
noncomputable def Λ : List (Nat × LFun U) := []
def D : Nat → Lv × Lv := dtab []
noncomputable def E : Env U := { E0 with Γ := Γ, Λ := Λ, C := [], D := D }
theorem hk (R : Type) (l : TA) (K : AV U → Hp U → Option R) : funcA E Try.f60 [] R (pA.mkL l.1) (pH.mkH l.2) K = (t l.1.1.1 l.1.1.2.1 l.1.1.2.2.1 l.1.1.2.2.2.1 l.1.1.2.2.2.2.1 l.1.1.2.2.2.2.2.1 l.1.2.1 l.1.2.2.1).runK fun y => K (v l y) (hh l y) := by kernel_rfl
theorem okF : SoundF Try.prog cc 60 (funcA E Try.f60 []) :=
  funcA_ok (E := E) P_mixed (E0_ok.with Γ Λ [] D) (gam_of (all_cons ⟨geom_Ledger.ok, ⟨Try.f58, Try.func58, by kernel_rfl, by kernel_rfl⟩⟩ (all_cons ⟨geom_fine.ok, ⟨Try.f84, Try.func84, by kernel_rfl, by kernel_rfl⟩⟩ all_nil))) Try.func60 (c := body) (by kernel_rfl)
    (just_by (by kernel_rfl) (by kernel_rfl) all_nil all_nil) []
theorem ok : SoundF Try.prog cc 60 A :=
  mkA_ok (E := E) (p := pA) (q := pH) (t := fun (l : TA) => t l.1.1.1 l.1.1.2.1 l.1.1.2.2.1 l.1.1.2.2.2.1 l.1.1.2.2.2.2.1 l.1.1.2.2.2.2.2.1 l.1.2.1 l.1.2.2.1) sp1_ok hk okF
end geom_Chunk

/-! instar/geom.Page -/
namespace geom_Page
abbrev TA : Type := (((Int × (Int × (Int × (Int × (Int × (Int × Unit)))))) × (Int × Unit)) × Unit)
noncomputable def t (g_0 : Int) (g_1 : Int) (g_2 : Int) (g_3 : Int) (g_4 : Int) (g_5 : Int) (p_ : Int) : Tw Int :=
 (.opt (geom_fine.c g_0 g_1 g_2 g_3 g_4 g_5 p_ g_2) fun z1 =>
  (.bb (!z1)
   (.ret (-(1 : Int)))
   (.opt (geom_Sectors.c g_0 g_1 g_2 g_3 g_4 g_5) fun z2 =>
    (.ret (w64 ((w64 (z2 - g_2)) + p_))))))
noncomputable def c (g_0 : Int) (g_1 : Int) (g_2 : Int) (g_3 : Int) (g_4 : Int) (g_5 : Int) (p_ : Int) : Option Int := (t g_0 g_1 g_2 g_3 g_4 g_5 p_).run
def pA : Pt := (.cs (.agg (.cs (.int .i64) (.cs (.int .i64) (.cs (.int .i64) (.cs (.int .i64) (.cs (.int .i64) (.cs (.int .i64) .nl))))))) (.cs (.int .i64) .nl))
def pH : Pt := .nl
def v (l : TA) (y : Int) : AV U := .im (.int .i64 y)
def hh (l : TA) (y : Int) : Hp U := []
noncomputable def A : AFun U := mkA (U := U) pA pH (X := Int) (fun (l : TA) => c l.1.1.1 l.1.1.2.1 l.1.1.2.2.1 l.1.1.2.2.2.1 l.1.1.2.2.2.2.1 l.1.1.2.2.2.2.2.1 l.1.2.1) sp1 v hh
noncomputable def body : Code := (Go.Func.body Try.f61).getD .skip
noncomputable def Γ : List (FuncId × AFun U) := [(84, geom_fine.A), (56, geom_Sectors.A)]
noncomputable def Λ : List (Nat × LFun U) := []
def D : Nat → Lv × Lv := dtab []
noncomputable def E : Env U := { E0 with Γ := Γ, Λ := Λ, C := [], D := D }
theorem hk (R : Type) (l : TA) (K : AV U → Hp U → Option R) : funcA E Try.f61 [] R (pA.mkL l.1) (pH.mkH l.2) K = (t l.1.1.1 l.1.1.2.1 l.1.1.2.2.1 l.1.1.2.2.2.1 l.1.1.2.2.2.2.1 l.1.1.2.2.2.2.2.1 l.1.2.1).runK fun y => K (v l y) (hh l y) := by kernel_rfl
theorem okF : SoundF Try.prog cc 61 (funcA E Try.f61 []) :=
  funcA_ok (E := E) P_mixed (E0_ok.with Γ Λ [] D) (gam_of (all_cons ⟨geom_fine.ok, ⟨Try.f84, Try.func84, by kernel_rfl, by kernel_rfl⟩⟩ (all_cons ⟨geom_Sectors.ok, ⟨Try.f56, Try.func56, by kernel_rfl, by kernel_rfl⟩⟩ all_nil))) Try.func61 (c := body) (by kernel_rfl)
    (just_by (by kernel_rfl) (by kernel_rfl) all_nil all_nil) []
theorem ok : SoundF Try.prog cc 61 A :=
  mkA_ok (E := E) (p := pA) (q := pH) (t := fun (l : TA) => t l.1.1.1 l.1.1.2.1 l.1.1.2.2.1 l.1.1.2.2.2.1 l.1.1.2.2.2.2.1 l.1.1.2.2.2.2.2.1 l.1.2.1) sp1_ok hk okF
end geom_Page

/-! instar/geom.Long -/
namespace geom_Long
abbrev TA : Type := (((Int × (Int × (Int × (Int × (Int × (Int × Unit)))))) × Unit) × Unit)
noncomputable def t (g_0 : Int) (g_1 : Int) (g_2 : Int) (g_3 : Int) (g_4 : Int) (g_5 : Int) : Tw Int :=
 (.opt (geom_fine.c g_0 g_1 g_2 g_3 g_4 g_5 (0 : Int) (1 : Int)) fun z1 =>
  (.bb (!z1)
   (.ret (0 : Int))
   (.ret (w64 ((4 : Int) * g_0)))))
noncomputable def c (g_0 : Int) (g_1 : Int) (g_2 : Int) (g_3 : Int) (g_4 : Int) (g_5 : Int) : Option Int := (t g_0 g_1 g_2 g_3 g_4 g_5).run
def pA : Pt := (.cs (.agg (.cs (.int .i64) (.cs (.int .i64) (.cs (.int .i64) (.cs (.int .i64) (.cs (.int .i64) (.cs (.int .i64) .nl))))))) .nl)
def pH : Pt := .nl
def v (l : TA) (y : Int) : AV U := .im (.int .i64 y)
def hh (l : TA) (y : Int) : Hp U := []
noncomputable def A : AFun U := mkA (U := U) pA pH (X := Int) (fun (l : TA) => c l.1.1.1 l.1.1.2.1 l.1.1.2.2.1 l.1.1.2.2.2.1 l.1.1.2.2.2.2.1 l.1.1.2.2.2.2.2.1) sp1 v hh
noncomputable def body : Code := (Go.Func.body Try.f75).getD .skip
noncomputable def Γ : List (FuncId × AFun U) := [(84, geom_fine.A)]
noncomputable def Λ : List (Nat × LFun U) := []
def D : Nat → Lv × Lv := dtab []
noncomputable def E : Env U := { E0 with Γ := Γ, Λ := Λ, C := [], D := D }
theorem hk (R : Type) (l : TA) (K : AV U → Hp U → Option R) : funcA E Try.f75 [] R (pA.mkL l.1) (pH.mkH l.2) K = (t l.1.1.1 l.1.1.2.1 l.1.1.2.2.1 l.1.1.2.2.2.1 l.1.1.2.2.2.2.1 l.1.1.2.2.2.2.2.1).runK fun y => K (v l y) (hh l y) := by kernel_rfl
theorem okF : SoundF Try.prog cc 75 (funcA E Try.f75 []) :=
  funcA_ok (E := E) P_mixed (E0_ok.with Γ Λ [] D) (gam_of (all_cons ⟨geom_fine.ok, ⟨Try.f84, Try.func84, by kernel_rfl, by kernel_rfl⟩⟩ all_nil)) Try.func75 (c := body) (by kernel_rfl)
    (just_by (by kernel_rfl) (by kernel_rfl) all_nil all_nil) []
theorem ok : SoundF Try.prog cc 75 A :=
  mkA_ok (E := E) (p := pA) (q := pH) (t := fun (l : TA) => t l.1.1.1 l.1.1.2.1 l.1.1.2.2.1 l.1.1.2.2.2.1 l.1.1.2.2.2.2.1 l.1.1.2.2.2.2.2.1) sp1_ok hk okF
end geom_Long

/-! instar/geom.Cap -/
namespace geom_Cap
abbrev TA : Type := (((Int × (Int × (Int × (Int × (Int × (Int × Unit)))))) × Unit) × Unit)
noncomputable def t (g_0 : Int) (g_1 : Int) (g_2 : Int) (g_3 : Int) (g_4 : Int) (g_5 : Int) : Tw Int :=
 (.opt (geom_Long.c g_0 g_1 g_2 g_3 g_4 g_5) fun z1 =>
  (.ret (w64 (z1 * (imax (w64 (g_1 - (1 : Int))) (0 : Int))))))
noncomputable def c (g_0 : Int) (g_1 : Int) (g_2 : Int) (g_3 : Int) (g_4 : Int) (g_5 : Int) : Option Int := (t g_0 g_1 g_2 g_3 g_4 g_5).run
def pA : Pt := (.cs (.agg (.cs (.int .i64) (.cs (.int .i64) (.cs (.int .i64) (.cs (.int .i64) (.cs (.int .i64) (.cs (.int .i64) .nl))))))) .nl)
def pH : Pt := .nl
def v (l : TA) (y : Int) : AV U := .im (.int .i64 y)
def hh (l : TA) (y : Int) : Hp U := []
noncomputable def A : AFun U := mkA (U := U) pA pH (X := Int) (fun (l : TA) => c l.1.1.1 l.1.1.2.1 l.1.1.2.2.1 l.1.1.2.2.2.1 l.1.1.2.2.2.2.1 l.1.1.2.2.2.2.2.1) sp1 v hh
noncomputable def body : Code := (Go.Func.body Try.f89).getD .skip
noncomputable def Γ : List (FuncId × AFun U) := [(75, geom_Long.A)]
noncomputable def Λ : List (Nat × LFun U) := []
def D : Nat → Lv × Lv := dtab []
noncomputable def E : Env U := { E0 with Γ := Γ, Λ := Λ, C := [], D := D }
theorem hk (R : Type) (l : TA) (K : AV U → Hp U → Option R) : funcA E Try.f89 [] R (pA.mkL l.1) (pH.mkH l.2) K = (t l.1.1.1 l.1.1.2.1 l.1.1.2.2.1 l.1.1.2.2.2.1 l.1.1.2.2.2.2.1 l.1.1.2.2.2.2.2.1).runK fun y => K (v l y) (hh l y) := by kernel_rfl
theorem okF : SoundF Try.prog cc 89 (funcA E Try.f89 []) :=
  funcA_ok (E := E) P_mixed (E0_ok.with Γ Λ [] D) (gam_of (all_cons ⟨geom_Long.ok, ⟨Try.f75, Try.func75, by kernel_rfl, by kernel_rfl⟩⟩ all_nil)) Try.func89 (c := body) (by kernel_rfl)
    (just_by (by kernel_rfl) (by kernel_rfl) all_nil all_nil) []
theorem ok : SoundF Try.prog cc 89 A :=
  mkA_ok (E := E) (p := pA) (q := pH) (t := fun (l : TA) => t l.1.1.1 l.1.1.2.1 l.1.1.2.2.1 l.1.1.2.2.2.1 l.1.1.2.2.2.2.1 l.1.1.2.2.2.2.2.1) sp1_ok hk okF
end geom_Cap

/-! instar/geom.Chunks -/
namespace geom_Chunks
abbrev TA : Type := (((Int × (Int × (Int × (Int × (Int × (Int × Unit)))))) × (Int × Unit)) × Unit)
noncomputable def t (g_0 : Int) (g_1 : Int) (g_2 : Int) (g_3 : Int) (g_4 : Int) (g_5 : Int) (total : Int) : Tw Int :=
 (.bb (decide (total < (1 : Int)))
  (.ret (0 : Int))
  (.opt (geom_Cap.c g_0 g_1 g_2 g_3 g_4 g_5) fun z1 =>
   (.bb (decide (total > z1))
    (.ret (0 : Int))
    (.opt (geom_Long.c g_0 g_1 g_2 g_3 g_4 g_5) fun z2 =>
     (.dd ((z2 = (0 : Int))) inferInstance
      .no
      (.ret (w64 ((w64 (Int.tdiv (w64 (total - (1 : Int))) z2)) + (1 : Int)))))))))
noncomputable def c (g_0 : Int) (g_1 : Int) (g_2 : Int) (g_3 : Int) (g_4 : Int) (g_5 : Int) (total : Int) : Option Int := (t g_0 g_1 g_2 g_3 g_4 g_5 total).run
def pA : Pt := (.cs (.agg (.cs (.int .i64) (.cs (.int .i64) (.cs (.int .i64) (.cs (.int .i64) (.cs (.int .i64) (.cs (.int .i64) .nl))))))) (.cs (.int .i64) .nl))
def pH : Pt := .nl
def v (l : TA) (y : Int) : AV U := .im (.int .i64 y)
def hh (l : TA) (y : Int) : Hp U := []
noncomputable def A : AFun U := mkA (U := U) pA pH (X := Int) (fun (l : TA) => c l.1.1.1 l.1.1.2.1 l.1.1.2.2.1 l.1.1.2.2.2.1 l.1.1.2.2.2.2.1 l.1.1.2.2.2.2.2.1 l.1.2.1) sp1 v hh
noncomputable def body : Code := (Go.Func.body Try.f73).getD .skip
noncomputable def Γ : List (FuncId × AFun U) := [(89, geom_Cap.A), (75, geom_Long.A)]
noncomputable def Λ : List (Nat × LFun U) := []
def D : Nat → Lv × Lv := dtab []
noncomputable def E : Env U := { E0 with Γ := Γ, Λ := Λ, C := [], D := D }
theorem hk (R : Type) (l : TA) (K : AV U → Hp U → Option R) : funcA E Try.f73 [] R (pA.mkL l.1) (pH.mkH l.2) K = (t l.1.1.1 l.1.1.2.1 l.1.1.2.2.1 l.1.1.2.2.2.1 l.1.1.2.2.2.2.1 l.1.1.2.2.2.2.2.1 l.1.2.1).runK fun y => K (v l y) (hh l y) := by kernel_rfl
theorem okF : SoundF Try.prog cc 73 (funcA E Try.f73 []) :=
  funcA_ok (E := E) P_mixed (E0_ok.with Γ Λ [] D) (gam_of (all_cons ⟨geom_Cap.ok, ⟨Try.f89, Try.func89, by kernel_rfl, by kernel_rfl⟩⟩ (all_cons ⟨geom_Long.ok, ⟨Try.f75, Try.func75, by kernel_rfl, by kernel_rfl⟩⟩ all_nil))) Try.func73 (c := body) (by kernel_rfl)
    (just_by (by kernel_rfl) (by kernel_rfl) all_nil all_nil) []
theorem ok : SoundF Try.prog cc 73 A :=
  mkA_ok (E := E) (p := pA) (q := pH) (t := fun (l : TA) => t l.1.1.1 l.1.1.2.1 l.1.1.2.2.1 l.1.1.2.2.2.1 l.1.1.2.2.2.2.1 l.1.1.2.2.2.2.2.1 l.1.2.1) sp1_ok hk okF
end geom_Chunks

/-! instar/geom.Part -/
namespace geom_Part
abbrev TA : Type := (((Int × (Int × (Int × (Int × (Int × (Int × Unit)))))) × (Int × (Int × Unit))) × Unit)
noncomputable def t (g_0 : Int) (g_1 : Int) (g_2 : Int) (g_3 : Int) (g_4 : Int) (g_5 : Int) (total : Int) (i : Int) : Tw Int :=
 (.bb (decide (i < (0 : Int)))
  (.ret (0 : Int))
  (.opt (geom_Chunks.c g_0 g_1 g_2 g_3 g_4 g_5 total) fun z1 =>
   (.bb (decide (i ≥ z1))
    (.ret (0 : Int))
    (.opt (geom_Long.c g_0 g_1 g_2 g_3 g_4 g_5) fun z2 =>
     (.opt (geom_Long.c g_0 g_1 g_2 g_3 g_4 g_5) fun z3 =>
      (.ret (imin z2 (w64 (total - (w64 (i * z3)))))))))))
noncomputable def c (g_0 : Int) (g_1 : Int) (g_2 : Int) (g_3 : Int) (g_4 : Int) (g_5 : Int) (total : Int) (i : Int) : Option Int := (t g_0 g_1 g_2 g_3 g_4 g_5 total i).run
def pA : Pt := (.cs (.agg (.cs (.int .i64) (.cs (.int .i64) (.cs (.int .i64) (.cs (.int .i64) (.cs (.int .i64) (.cs (.int .i64) .nl))))))) (.cs (.int .i64) (.cs (.int .i64) .nl)))
def pH : Pt := .nl
def v (l : TA) (y : Int) : AV U := .im (.int .i64 y)
def hh (l : TA) (y : Int) : Hp U := []
noncomputable def A : AFun U := mkA (U := U) pA pH (X := Int) (fun (l : TA) => c l.1.1.1 l.1.1.2.1 l.1.1.2.2.1 l.1.1.2.2.2.1 l.1.1.2.2.2.2.1 l.1.1.2.2.2.2.2.1 l.1.2.1 l.1.2.2.1) sp1 v hh
noncomputable def body : Code := (Go.Func.body Try.f74).getD .skip
noncomputable def Γ : List (FuncId × AFun U) := [(73, geom_Chunks.A), (75, geom_Long.A)]
noncomputable def Λ : List (Nat × LFun U) := []
def D : Nat → Lv × Lv := dtab []
noncomputable def E : Env U := { E0 with Γ := Γ, Λ := Λ, C := [], D := D }
theorem hk (R : Type) (l : TA) (K : AV U → Hp U → Option R) : funcA E Try.f74 [] R (pA.mkL l.1) (pH.mkH l.2) K = (t l.1.1.1 l.1.1.2.1 l.1.1.2.2.1 l.1.1.2.2.2.1 l.1.1.2.2.2.2.1 l.1.1.2.2.2.2.2.1 l.1.2.1 l.1.2.2.1).runK fun y => K (v l y) (hh l y) := by kernel_rfl
theorem okF : SoundF Try.prog cc 74 (funcA E Try.f74 []) :=
  funcA_ok (E := E) P_mixed (E0_ok.with Γ Λ [] D) (gam_of (all_cons ⟨geom_Chunks.ok, ⟨Try.f73, Try.func73, by kernel_rfl, by kernel_rfl⟩⟩ (all_cons ⟨geom_Long.ok, ⟨Try.f75, Try.func75, by kernel_rfl, by kernel_rfl⟩⟩ all_nil))) Try.func74 (c := body) (by kernel_rfl)
    (just_by (by kernel_rfl) (by kernel_rfl) all_nil all_nil) []
theorem ok : SoundF Try.prog cc 74 A :=
  mkA_ok (E := E) (p := pA) (q := pH) (t := fun (l : TA) => t l.1.1.1 l.1.1.2.1 l.1.1.2.2.1 l.1.1.2.2.2.1 l.1.1.2.2.2.2.1 l.1.1.2.2.2.2.2.1 l.1.2.1 l.1.2.2.1) sp1_ok hk okF
end geom_Part

/-! instar/geom.Where -/
namespace geom_Where
abbrev TA : Type := (((Int × (Int × (Int × (Int × (Int × (Int × Unit)))))) × (Int × Unit)) × Unit)
noncomputable def t (g_0 : Int) (g_1 : Int) (g_2 : Int) (g_3 : Int) (g_4 : Int) (g_5 : Int) (sector : Int) : Tw (Int × (Int × Int)) :=
 (.opt (geom_Sectors.c g_0 g_1 g_2 g_3 g_4 g_5) fun z1 =>
  (.opt (geom_fine.c g_0 g_1 g_2 g_3 g_4 g_5 sector z1) fun z2 =>
   (.bb (!z2)
    (.ret ((-(1 : Int)), ((0 : Int), (0 : Int))))
    (.bb (decide ((w64 (sector - (2 : Int))) < (0 : Int)))
     (.ret ((0 : Int), ((0 : Int), sector)))
     (.bb (decide ((w64 (sector - (2 : Int))) ≥ (w64 ((2 : Int) * g_1))))
      (.ret ((3 : Int), ((0 : Int), (w64 ((w64 (sector - (2 : Int))) - (w64 ((2 : Int) * g_1)))))))
      (.dd ((g_1 = (0 : Int))) inferInstance
       .no
       (.bb ((Int.tmod (w64 (sector - (2 : Int))) g_1) == (0 : Int))
        (.dd ((g_1 = (0 : Int))) inferInstance
         .no
         (.ret ((1 : Int), ((w64 (Int.tdiv (w64 (sector - (2 : Int))) g_1)), (0 : Int)))))
        (.dd ((g_1 = (0 : Int))) inferInstance
         .no
         (.dd ((g_1 = (0 : Int))) inferInstance
          .no
          (.ret ((2 : Int), ((w64 (Int.tdiv (w64 (sector - (2 : Int))) g_1)), (w64 ((Int.tmod (w64 (sector - (2 : Int))) g_1) - (1 : Int)))))))))))))))
noncomputable def c (g_0 : Int) (g_1 : Int) (g_2 : Int) (g_3 : Int) (g_4 : Int) (g_5 : Int) (sector : Int) : Option (Int × (Int × Int)) := (t g_0 g_1 g_2 g_3 g_4 g_5 sector).run
def pA : Pt := (.cs (.agg (.cs (.int .i64) (.cs (.int .i64) (.cs (.int .i64) (.cs (.int .i64) (.cs (.int .i64) (.cs (.int .i64) .nl))))))) (.cs (.int .i64) .nl))
def pH : Pt := .nl
def v (l : TA) (y : (Int × (Int × Int))) : AV U := .tup [.im (.int .i64 y.1), .im (.int .i64 y.2.1), .im (.int .i64 y.2.2)]
def hh (l : TA) (y : (Int × (Int × Int))) : Hp U := []
noncomputable def A : AFun U := mkA (U := U) pA pH (X := (Int × (Int × Int))) (fun (l : TA) => c l.1.1.1 l.1.1.2.1 l.1.1.2.2.1 l.1.1.2.2.2.1 l.1.1.2.2.2.2.1 l.1.1.2.2.2.2.2.1 l.1.2.1) sp1 v hh
noncomputable def body : Code := (Go.Func.body Try.f72).getD .skip
noncomputable def Γ : List (FuncId × AFun U) := [(56, geom_Sectors.A), (84, geom_fine.A)]
noncomputable def Λ : List (Nat × LFun U) := []
def D : Nat → Lv × Lv := dtab []
noncomputable def E : Env U := { E0 with Γ := Γ, Λ := Λ, C := [], D := D }
theorem hk (R : Type) (l : TA) (K : AV U → Hp U → Option R) : funcA E Try.f72 [] R (pA.mkL l.1) (pH.mkH l.2) K = (t l.1.1.1 l.1.1.2.1 l.1.1.2.2.1 l.1.1.2.2.2.1 l.1.1.2.2.2.2.1 l.1.1.2.2.2.2.2.1 l.1.2.1).runK fun y => K (v l y) (hh l y) := by kernel_rfl
theorem okF : SoundF Try.prog cc 72 (funcA E Try.f72 []) :=
  funcA_ok (E := E) P_mixed (E0_ok.with Γ Λ [] D) (gam_of (all_cons ⟨geom_Sectors.ok, ⟨Try.f56, Try.func56, by kernel_rfl, by kernel_rfl⟩⟩ (all_cons ⟨geom_fine.ok, ⟨Try.f84, Try.func84, by kernel_rfl, by kernel_rfl⟩⟩ all_nil))) Try.func72 (c := body) (by kernel_rfl)
    (just_by (by kernel_rfl) (by kernel_rfl) all_nil all_nil) []
theorem ok : SoundF Try.prog cc 72 A :=
  mkA_ok (E := E) (p := pA) (q := pH) (t := fun (l : TA) => t l.1.1.1 l.1.1.2.1 l.1.1.2.2.1 l.1.1.2.2.2.1 l.1.1.2.2.2.2.1 l.1.1.2.2.2.2.2.1 l.1.2.1) sp1_ok hk okF
end geom_Where

end Go.Proofs.Ytadhnolgfhgepaa.Va
