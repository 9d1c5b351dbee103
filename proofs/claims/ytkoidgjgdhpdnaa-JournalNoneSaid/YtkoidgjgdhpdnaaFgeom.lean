/- The functions of package geom, as plain functions, and that the program computes them. Printed by a program of this work out of the evaluator. -/
import Derived.Test.YtkoidgjgdhpdnaaEn
import Derived.Tactics
namespace Go.Proofs.Ytkoidgjgdhpdnaa.Va
open Go
set_option linter.unusedVariables false
set_option maxRecDepth 100000

/-! instar/geom.Check -/
namespace geom_Check
abbrev TA : Type := (((Int × (Int × (Int × (Int × (Int × (Int × Unit)))))) × Unit) × Unit)
abbrev T2 : Type := ((Unit × (Unit × (Int × (Int × (Unit × Unit))))) × ((List (Int × Int × Int)) × Unit))
noncomputable def l2 (k31 : Int) (h0 : (List (Int × Int × Int))) (k32 : Int) : Tw (Int ⊕ (Unit ⊕ Int)) :=
 (.bb (decide (k32 < k31))
  (.dd ((((0 : Int) ≤ k32) ∧ (k32 < (((List.length h0) : Nat) : Int)))) inferInstance
   (.opt (h0)[(Int.toNat k32)]? fun z1 =>
    (.bb (decide (z1.1 < z1.2.1))
     (.ret (.inr (.inr (2 : Int))))
     (.bb (decide (z1.1 > z1.2.2))
      (.ret (.inr (.inr (2 : Int))))
      (.ret (.inl (w64 (k32 + (1 : Int))))))))
   .no)
  (.ret (.inr (.inl ()))))
noncomputable def L2 (k31 k32 : Int) (h0 : (List (Int × Int × Int))) : Option (Unit ⊕ Int) := Lp (fun s => (l2 k31 h0 s).run) k32
def p2 : Pt := (.cs (.bots 30) (.cs (.own 0) (.cs (.int .i64) (.cs (.int .i64) (.cs (.bots 16) .nl)))))
def q2 : Pt := (.cs (.row 14 true) .nl)
def ou2 (l : T2) (y : (Unit ⊕ Int)) : Ex × St U := (Sum.elim (fun a0 => (.exit 0, stOf 49 [] [] 0)) (fun b0 => (.ret, stOf 49 [(2, .im (.int .i64 b0))] [] 0)) y)
noncomputable def Λ2 : LFun U := mkLp (U := U) p2 q2 0 (X := (Unit ⊕ Int)) (fun (l : T2) => L2 l.1.2.2.1 l.1.2.2.2.1 l.2.1) (spS sp1) ou2
noncomputable def t (g_0 g_1 g_2 g_3 g_4 g_5 : Int) : Tw Int :=
 (.opt (L2 (((List.length ((Prod.mk g_0 (Prod.mk (64 : Int) (1024 : Int))) :: ((Prod.mk g_1 (Prod.mk (2 : Int) (32 : Int))) :: ((Prod.mk g_3 (Prod.mk (2 : Int) (w64 (g_0 - (8 : Int))))) :: ((Prod.mk g_2 (Prod.mk (w64 ((3 : Int) + (imin g_3 (128 : Int)))) (128 : Int))) :: ((Prod.mk g_4 (Prod.mk (1 : Int) (9 : Int))) :: ((Prod.mk g_5 (Prod.mk (1 : Int) (1073741823 : Int))) :: ([] : List (Int × Int × Int))))))))) : Nat) : Int) (0 : Int) ((Prod.mk g_0 (Prod.mk (64 : Int) (1024 : Int))) :: ((Prod.mk g_1 (Prod.mk (2 : Int) (32 : Int))) :: ((Prod.mk g_3 (Prod.mk (2 : Int) (w64 (g_0 - (8 : Int))))) :: ((Prod.mk g_2 (Prod.mk (w64 ((3 : Int) + (imin g_3 (128 : Int)))) (128 : Int))) :: ((Prod.mk g_4 (Prod.mk (1 : Int) (9 : Int))) :: ((Prod.mk g_5 (Prod.mk (1 : Int) (1073741823 : Int))) :: ([] : List (Int × Int × Int))))))))) fun z2 =>
  (.sm z2
   (fun z3 => (.ret (0 : Int)))
   (fun z4 => (.ret z4))))
noncomputable def c (g_0 g_1 g_2 g_3 g_4 g_5 : Int) : Option Int := (t g_0 g_1 g_2 g_3 g_4 g_5).run
def pA : Pt := (.cs (.agg (.cs (.int .i64) (.cs (.int .i64) (.cs (.int .i64) (.cs (.int .i64) (.cs (.int .i64) (.cs (.int .i64) .nl))))))) .nl)
def pH : Pt := .nl
def v (l : TA) (y : Int) : AV U := .im (.int .i64 y)
def hh (l : TA) (y : Int) : Hp U := []
noncomputable def A : AFun U := mkA (U := U) pA pH (X := Int) (fun (l : TA) => c l.1.1.1 l.1.1.2.1 l.1.1.2.2.1 l.1.1.2.2.2.1 l.1.1.2.2.2.2.1 l.1.1.2.2.2.2.2.1) sp1 v hh
noncomputable def body : Code := (Go.Func.body Try.f37).getD .skip
noncomputable def Γ : List (FuncId × AFun U) := []
noncomputable def Λ : List (Nat × LFun U) := [(2, Λ2)]
noncomputable def CT : List (Nat × LFun U) := []
def ro : List FuncId := []
def D : Nat → Lv × Lv := dtab [(2, ⟨[32, 30, 31], []⟩, ⟨[2], []⟩)]
noncomputable def E : Env U := { E0 with Γ := Γ, Λ := Λ, C := CT, D := D, ro := ro }
theorem hf2 (R : Type) (l : T2) (s : Int) (K : Ex → St U → Option R) : codeA E (pick (loopsOf body) 2) ⟨p2.mkL ((((), ((), (l.1.2.2.1, (s, ((), ()))))), (l.2.1, ())) : T2).1, q2.mkH ((((), ((), (l.1.2.2.1, (s, ((), ()))))), (l.2.1, ())) : T2).2, 0⟩ (roundK E (pick (loopsOf body) 2) K) =
  (l2 l.1.2.2.1 l.2.1 s).runK (lpK K (fun s => ⟨p2.mkL ((((), ((), (l.1.2.2.1, (s, ((), ()))))), (l.2.1, ())) : T2).1, q2.mkH ((((), ((), (l.1.2.2.1, (s, ((), ()))))), (l.2.1, ())) : T2).2, 0⟩) (spS sp1) (ou2 l)) := by kernel_rfl
theorem lk2 (R : Type) (st : St U) (K : Ex → St U → Option R) (r : R) (h : Λ2 R st K = some r) : ∃ n, loopA E (pick (loopsOf body) 2) n st K = some r :=
  lp_ok (U := U) (E := E) (b := pick (loopsOf body) 2) (m := 0) (sp := (spS sp1)) (p := p2) (q := q2) (X := (Unit ⊕ Int)) (S := Int) (f := fun (l : T2) s => l2 l.1.2.2.1 l.2.1 s) (hd := fun (l : T2) s => (((), ((), (l.1.2.2.1, (s, ((), ()))))), (l.2.1, ()))) (s0 := fun (l : T2) => l.1.2.2.2.1) (ou := ou2)
    (fun l => rfl) (fun l x => by repeat' (first | rfl | (cases x with | inl => rfl | inr x => ?_))) (spS_ok sp1_ok) hf2 h
theorem hk (R : Type) (l : TA) (K : AV U → Hp U → Option R) : funcA E Try.f37 [] R (pA.mkL l.1) (pH.mkH l.2) K = (t l.1.1.1 l.1.1.2.1 l.1.1.2.2.1 l.1.1.2.2.2.1 l.1.1.2.2.2.2.1 l.1.1.2.2.2.2.2.1).runK fun y => K (v l y) (hh l y) := by kernel_rfl
theorem okF : SoundF Try.prog cc 37 (funcA E Try.f37 []) :=
  funcA_ok (E := E) P_mixed (E0_ok.with Γ Λ CT D ro) (gam_of all_nil all_nil) Try.func37 (c := body) (by kernel_rfl)
    (just_by (by kernel_rfl) (by kernel_rfl) (all_cons lk2 all_nil) all_nil) []
theorem ok : SoundF Try.prog cc 37 A :=
  mkA_ok (E := E) (p := pA) (q := pH) (t := fun (l : TA) => t l.1.1.1 l.1.1.2.1 l.1.1.2.2.1 l.1.1.2.2.2.1 l.1.1.2.2.2.2.1 l.1.1.2.2.2.2.2.1) sp1_ok hk okF
theorem keep : KeepA A := mkA_keep (U := U) sp1_ok (fun (l : TA) y => ⟨(hh l y).drop 0, by kernel_rfl⟩)
end geom_Check

/-! instar/geom.fine -/
namespace geom_fine
abbrev TA : Type := (((Int × (Int × (Int × (Int × (Int × (Int × Unit)))))) × (Int × (Int × Unit))) × Unit)
noncomputable def t (g_0 g_1 g_2 g_3 g_4 g_5 i n : Int) : Tw Bool :=
 (.opt (geom_Check.c g_0 g_1 g_2 g_3 g_4 g_5) fun z1 =>
  (.bb (z1 == (0 : Int))
   (.bb (decide (i ≥ (0 : Int)))
    (.ret (decide (i < n)))
    (.ret false))
   (.ret false)))
noncomputable def c (g_0 g_1 g_2 g_3 g_4 g_5 i n : Int) : Option Bool := (t g_0 g_1 g_2 g_3 g_4 g_5 i n).run
def pA : Pt := (.cs (.agg (.cs (.int .i64) (.cs (.int .i64) (.cs (.int .i64) (.cs (.int .i64) (.cs (.int .i64) (.cs (.int .i64) .nl))))))) (.cs (.int .i64) (.cs (.int .i64) .nl)))
def pH : Pt := .nl
def v (l : TA) (y : Bool) : AV U := .im (.bool y)
def hh (l : TA) (y : Bool) : Hp U := []
noncomputable def A : AFun U := mkA (U := U) pA pH (X := Bool) (fun (l : TA) => c l.1.1.1 l.1.1.2.1 l.1.1.2.2.1 l.1.1.2.2.2.1 l.1.1.2.2.2.2.1 l.1.1.2.2.2.2.2.1 l.1.2.1 l.1.2.2.1) sp1 v hh
noncomputable def body : Code := (Go.Func.body Try.f63).getD .skip
noncomputable def Γ : List (FuncId × AFun U) := [(37, geom_Check.A)]
noncomputable def Λ : List (Nat × LFun U) := []
noncomputable def CT : List (Nat × LFun U) := []
def ro : List FuncId := []
def D : Nat → Lv × Lv := dtab []
noncomputable def E : Env U := { E0 with Γ := Γ, Λ := Λ, C := CT, D := D, ro := ro }
theorem hk (R : Type) (l : TA) (K : AV U → Hp U → Option R) : funcA E Try.f63 [] R (pA.mkL l.1) (pH.mkH l.2) K = (t l.1.1.1 l.1.1.2.1 l.1.1.2.2.1 l.1.1.2.2.2.1 l.1.1.2.2.2.2.1 l.1.1.2.2.2.2.2.1 l.1.2.1 l.1.2.2.1).runK fun y => K (v l y) (hh l y) := by kernel_rfl
theorem okF : SoundF Try.prog cc 63 (funcA E Try.f63 []) :=
  funcA_ok (E := E) P_mixed (E0_ok.with Γ Λ CT D ro) (gam_of (all_cons ⟨geom_Check.ok, ⟨Try.f37, Try.func37, by kernel_rfl, by kernel_rfl⟩⟩ all_nil) (all_cons (no_keep (by kernel_rfl)) all_nil)) Try.func63 (c := body) (by kernel_rfl)
    (just_by (by kernel_rfl) (by kernel_rfl) all_nil all_nil) []
theorem ok : SoundF Try.prog cc 63 A :=
  mkA_ok (E := E) (p := pA) (q := pH) (t := fun (l : TA) => t l.1.1.1 l.1.1.2.1 l.1.1.2.2.1 l.1.1.2.2.2.1 l.1.1.2.2.2.2.1 l.1.1.2.2.2.2.2.1 l.1.2.1 l.1.2.2.1) sp1_ok hk okF
theorem keep : KeepA A := mkA_keep (U := U) sp1_ok (fun (l : TA) y => ⟨(hh l y).drop 0, by kernel_rfl⟩)
end geom_fine

/-! instar/geom.Sectors -/
namespace geom_Sectors
abbrev TA : Type := (((Int × (Int × (Int × (Int × (Int × (Int × Unit)))))) × Unit) × Unit)
noncomputable def t (g_0 g_1 g_2 g_3 g_4 g_5 : Int) : Tw Int :=
 (.opt (geom_fine.c g_0 g_1 g_2 g_3 g_4 g_5 (0 : Int) (1 : Int)) fun z1 =>
  (.bb (!z1)
   (.ret (0 : Int))
   (.ret (w64 ((w64 ((2 : Int) + (w64 ((2 : Int) * g_1)))) + g_2)))))
noncomputable def c (g_0 g_1 g_2 g_3 g_4 g_5 : Int) : Option Int := (t g_0 g_1 g_2 g_3 g_4 g_5).run
def pA : Pt := (.cs (.agg (.cs (.int .i64) (.cs (.int .i64) (.cs (.int .i64) (.cs (.int .i64) (.cs (.int .i64) (.cs (.int .i64) .nl))))))) .nl)
def pH : Pt := .nl
def v (l : TA) (y : Int) : AV U := .im (.int .i64 y)
def hh (l : TA) (y : Int) : Hp U := []
noncomputable def A : AFun U := mkA (U := U) pA pH (X := Int) (fun (l : TA) => c l.1.1.1 l.1.1.2.1 l.1.1.2.2.1 l.1.1.2.2.2.1 l.1.1.2.2.2.2.1 l.1.1.2.2.2.2.2.1) sp1 v hh
noncomputable def body : Code := (Go.Func.body Try.f39).getD .skip
noncomputable def Γ : List (FuncId × AFun U) := [(63, geom_fine.A)]
noncomputable def Λ : List (Nat × LFun U) := []
noncomputable def CT : List (Nat × LFun U) := []
def ro : List FuncId := []
def D : Nat → Lv × Lv := dtab []
noncomputable def E : Env U := { E0 with Γ := Γ, Λ := Λ, C := CT, D := D, ro := ro }
theorem hk (R : Type) (l : TA) (K : AV U → Hp U → Option R) : funcA E Try.f39 [] R (pA.mkL l.1) (pH.mkH l.2) K = (t l.1.1.1 l.1.1.2.1 l.1.1.2.2.1 l.1.1.2.2.2.1 l.1.1.2.2.2.2.1 l.1.1.2.2.2.2.2.1).runK fun y => K (v l y) (hh l y) := by kernel_rfl
theorem okF : SoundF Try.prog cc 39 (funcA E Try.f39 []) :=
  funcA_ok (E := E) P_mixed (E0_ok.with Γ Λ CT D ro) (gam_of (all_cons ⟨geom_fine.ok, ⟨Try.f63, Try.func63, by kernel_rfl, by kernel_rfl⟩⟩ all_nil) (all_cons (no_keep (by kernel_rfl)) all_nil)) Try.func39 (c := body) (by kernel_rfl)
    (just_by (by kernel_rfl) (by kernel_rfl) all_nil all_nil) []
theorem ok : SoundF Try.prog cc 39 A :=
  mkA_ok (E := E) (p := pA) (q := pH) (t := fun (l : TA) => t l.1.1.1 l.1.1.2.1 l.1.1.2.2.1 l.1.1.2.2.2.1 l.1.1.2.2.2.2.1 l.1.1.2.2.2.2.2.1) sp1_ok hk okF
theorem keep : KeepA A := mkA_keep (U := U) sp1_ok (fun (l : TA) y => ⟨(hh l y).drop 0, by kernel_rfl⟩)
end geom_Sectors

end Go.Proofs.Ytkoidgjgdhpdnaa.Va
