/- The functions of package slices, as plain functions, and that the program computes them. Printed by a program of this work out of the evaluator. -/
import Derived.Test.YtcnomgpbkimmeaaEn
import Derived.Tactics
namespace Go.Proofs.Ytcnomgpbkimmeaa.Va
open Go
set_option linter.unusedVariables false
set_option maxRecDepth 100000

/-! slices.Index[[]int,int] -/
namespace slices_Index__intint
abbrev TA : Type := (((List Int) × (Int × Unit)) × Unit)
abbrev T2 : Type := (((List Int) × (Int × (Unit × (Int × (Int × (Unit × Unit)))))) × Unit)
noncomputable def l2 (s_ : (List Int)) (v_ k7 k8 : Int) : Tw (Int ⊕ (Unit ⊕ Int)) :=
 (.bb (decide (k8 < k7))
  (.dd (((0 : Int) ≤ k8)) inferInstance
   (.opt (s_)[(Int.toNat k8)]? fun z1 =>
    (.bb (v_ == z1)
     (.ret (.inr (.inr k8)))
     (.ret (.inl (w64 (k8 + (1 : Int)))))))
   .no)
  (.ret (.inr (.inl ()))))
noncomputable def L2 (s_ : (List Int)) (v_ k7 k8 : Int) : Option (Unit ⊕ Int) := Lp (fun s => (l2 s_ v_ k7 s).run) k8
def p2 : Pt := (.cs (.sl 1) (.cs (.int .i64) (.cs (.bots 5) (.cs (.int .i64) (.cs (.int .i64) (.cs (.bots 10) .nl))))))
def q2 : Pt := .nl
def ou2 (l : T2) (y : (Unit ⊕ Int)) : Ex × St U := (Sum.elim (fun a0 => (.exit 0, stOf 19 [] [] 0)) (fun b0 => (.ret, stOf 19 [(4, .im (.int .i64 b0))] [] 0)) y)
noncomputable def Λ2 : LFun U := mkLp (U := U) p2 q2 0 (X := (Unit ⊕ Int)) (fun (l : T2) => L2 l.1.1 l.1.2.1 l.1.2.2.2.1 l.1.2.2.2.2.1) (spS sp1) ou2
noncomputable def t (s_ : (List Int)) (v_ : Int) : Tw Int :=
 (.opt (L2 s_ v_ (((List.length s_) : Nat) : Int) (0 : Int)) fun z2 =>
  (.sm z2
   (fun z3 => (.ret (-(1 : Int))))
   (fun z4 => (.ret z4))))
noncomputable def c (s_ : (List Int)) (v_ : Int) : Option Int := (t s_ v_).run
def pA : Pt := (.cs (.sl 1) (.cs (.int .i64) .nl))
def pH : Pt := .nl
def v (l : TA) (y : Int) : AV U := .im (.int .i64 y)
def hh (l : TA) (y : Int) : Hp U := []
noncomputable def A : AFun U := mkA (U := U) pA pH (X := Int) (fun (l : TA) => c l.1.1 l.1.2.1) sp1 v hh
noncomputable def body : Code := (Go.Func.body Try.f154).getD .skip
noncomputable def Γ : List (FuncId × AFun U) := []
noncomputable def Λ : List (Nat × LFun U) := [(2, Λ2)]
noncomputable def CT : List (Nat × LFun U) := []
def ro : List FuncId := []
def D : Nat → Lv × Lv := dtab [(2, ⟨[8, 0, 1, 7], []⟩, ⟨[4], []⟩)]
noncomputable def E : Env U := { E0 with Γ := Γ, Λ := Λ, C := CT, D := D, ro := ro }
theorem hf2 (R : Type) (l : T2) (s : Int) (K : Ex → St U → Option R) : codeA E (pick (loopsOf body) 2) ⟨p2.mkL (((l.1.1, (l.1.2.1, ((), (l.1.2.2.2.1, (s, ((), ())))))), ()) : T2).1, q2.mkH (((l.1.1, (l.1.2.1, ((), (l.1.2.2.2.1, (s, ((), ())))))), ()) : T2).2, 0⟩ (roundK E (pick (loopsOf body) 2) K) =
  (l2 l.1.1 l.1.2.1 l.1.2.2.2.1 s).runK (lpK K (fun s => ⟨p2.mkL (((l.1.1, (l.1.2.1, ((), (l.1.2.2.2.1, (s, ((), ())))))), ()) : T2).1, q2.mkH (((l.1.1, (l.1.2.1, ((), (l.1.2.2.2.1, (s, ((), ())))))), ()) : T2).2, 0⟩) (spS sp1) (ou2 l)) := by kernel_rfl
theorem lk2 (R : Type) (st : St U) (K : Ex → St U → Option R) (r : R) (h : Λ2 R st K = some r) : ∃ n, loopA E (pick (loopsOf body) 2) n st K = some r :=
  lp_ok (U := U) (E := E) (b := pick (loopsOf body) 2) (m := 0) (sp := (spS sp1)) (p := p2) (q := q2) (X := (Unit ⊕ Int)) (S := Int) (f := fun (l : T2) s => l2 l.1.1 l.1.2.1 l.1.2.2.2.1 s) (hd := fun (l : T2) s => ((l.1.1, (l.1.2.1, ((), (l.1.2.2.2.1, (s, ((), ())))))), ())) (s0 := fun (l : T2) => l.1.2.2.2.2.1) (ou := ou2)
    (fun l => rfl) (fun l x => by repeat' (first | rfl | (cases x with | inl => rfl | inr x => ?_))) (spS_ok sp1_ok) hf2 h
theorem hk (R : Type) (l : TA) (K : AV U → Hp U → Option R) : funcA E Try.f154 [] R (pA.mkL l.1) (pH.mkH l.2) K = (t l.1.1 l.1.2.1).runK fun y => K (v l y) (hh l y) := by kernel_rfl
theorem okF : SoundF Try.prog cc 154 (funcA E Try.f154 []) :=
  funcA_ok (E := E) P_mixed (E0_ok.with Γ Λ CT D ro) (gam_of all_nil all_nil) Try.func154 (c := body) (by kernel_rfl)
    (just_by (by kernel_rfl) (by kernel_rfl) (all_cons lk2 all_nil) all_nil) []
theorem ok : SoundF Try.prog cc 154 A :=
  mkA_ok (E := E) (p := pA) (q := pH) (t := fun (l : TA) => t l.1.1 l.1.2.1) sp1_ok hk okF
theorem keep : KeepA A := mkA_keep (U := U) sp1_ok (fun (l : TA) y => ⟨(hh l y).drop 0, by kernel_rfl⟩)
end slices_Index__intint

/-! slices.Contains[[]int,int] -/
namespace slices_Contains__intint
abbrev TA : Type := (((List Int) × (Int × Unit)) × Unit)
noncomputable def t (s_ : (List Int)) (v_ : Int) : Tw Bool :=
 (.opt (slices_Index__intint.c s_ v_) fun z1 =>
  (.ret (decide (z1 ≥ (0 : Int)))))
noncomputable def c (s_ : (List Int)) (v_ : Int) : Option Bool := (t s_ v_).run
def pA : Pt := (.cs (.sl 1) (.cs (.int .i64) .nl))
def pH : Pt := .nl
def v (l : TA) (y : Bool) : AV U := .im (.bool y)
def hh (l : TA) (y : Bool) : Hp U := []
noncomputable def A : AFun U := mkA (U := U) pA pH (X := Bool) (fun (l : TA) => c l.1.1 l.1.2.1) sp1 v hh
noncomputable def body : Code := (Go.Func.body Try.f148).getD .skip
noncomputable def Γ : List (FuncId × AFun U) := [(154, slices_Index__intint.A)]
noncomputable def Λ : List (Nat × LFun U) := []
noncomputable def CT : List (Nat × LFun U) := []
def ro : List FuncId := []
def D : Nat → Lv × Lv := dtab []
noncomputable def E : Env U := { E0 with Γ := Γ, Λ := Λ, C := CT, D := D, ro := ro }
theorem hk (R : Type) (l : TA) (K : AV U → Hp U → Option R) : funcA E Try.f148 [] R (pA.mkL l.1) (pH.mkH l.2) K = (t l.1.1 l.1.2.1).runK fun y => K (v l y) (hh l y) := by kernel_rfl
theorem okF : SoundF Try.prog cc 148 (funcA E Try.f148 []) :=
  funcA_ok (E := E) P_mixed (E0_ok.with Γ Λ CT D ro) (gam_of (all_cons ⟨slices_Index__intint.ok, ⟨Try.f154, Try.func154, by kernel_rfl, by kernel_rfl⟩⟩ all_nil) (all_cons (no_keep (by kernel_rfl)) all_nil)) Try.func148 (c := body) (by kernel_rfl)
    (just_by (by kernel_rfl) (by kernel_rfl) all_nil all_nil) []
theorem ok : SoundF Try.prog cc 148 A :=
  mkA_ok (E := E) (p := pA) (q := pH) (t := fun (l : TA) => t l.1.1 l.1.2.1) sp1_ok hk okF
theorem keep : KeepA A := mkA_keep (U := U) sp1_ok (fun (l : TA) y => ⟨(hh l y).drop 0, by kernel_rfl⟩)
end slices_Contains__intint

end Go.Proofs.Ytcnomgpbkimmeaa.Va
