/- The functions of package slices, as plain functions, and that the program computes them. Printed by a program of this work out of the evaluator. -/
import Derived.Test.YtcnomgpbkimmeaaEn
import Derived.Tactics
namespace Go.Proofs.Ytcnomgpbkimmeaa.Va
open Go
set_option linter.unusedVariables false
set_option maxRecDepth 100000

/-! slices.Equal[[]uint32,uint32] -/
namespace slices_Equal__uint32uint32
abbrev TA : Type := (((List Int) × ((List Int) × Unit)) × Unit)
abbrev T4 : Type := (((List Int) × ((List Int) × (Unit × (Int × (Int × (Unit × Unit)))))) × Unit)
noncomputable def l4 (s1 : (List Int)) (s2 : (List Int)) (k12 k13 : Int) : Tw (Int ⊕ (Unit ⊕ Bool)) :=
 (.bb (decide (k13 < k12))
  (.dd (((0 : Int) ≤ k13)) inferInstance
   (.opt (s1)[(Int.toNat k13)]? fun z1 =>
    (.dd (((0 : Int) ≤ k13)) inferInstance
     (.opt (s2)[(Int.toNat k13)]? fun z2 =>
      (.bb (z1 != z2)
       (.ret (.inr (.inr false)))
       (.ret (.inl (w64 (k13 + (1 : Int)))))))
     .no))
   .no)
  (.ret (.inr (.inl ()))))
noncomputable def L4 (s1 : (List Int)) (s2 : (List Int)) (k12 k13 : Int) : Option (Unit ⊕ Bool) := Lp (fun s => (l4 s1 s2 k12 s).run) k13
def p4 : Pt := (.cs (.sl 3) (.cs (.sl 3) (.cs (.bots 10) (.cs (.int .i64) (.cs (.int .i64) (.cs (.bots 12) .nl))))))
def q4 : Pt := .nl
def ou4 (l : T4) (y : (Unit ⊕ Bool)) : Ex × St U := (Sum.elim (fun a0 => (.exit 0, stOf 26 [] [] 0)) (fun b0 => (.ret, stOf 26 [(4, .im (.bool b0))] [] 0)) y)
noncomputable def Λ4 : LFun U := mkLp (U := U) p4 q4 0 (X := (Unit ⊕ Bool)) (fun (l : T4) => L4 l.1.1 l.1.2.1 l.1.2.2.2.1 l.1.2.2.2.2.1) (spS sp1) ou4
noncomputable def t (s1 : (List Int)) (s2 : (List Int)) : Tw Bool :=
 (.bb ((((List.length s1) : Nat) : Int) != (((List.length s2) : Nat) : Int))
  (.ret false)
  (.opt (L4 s1 s2 (((List.length s1) : Nat) : Int) (0 : Int)) fun z3 =>
   (.sm z3
    (fun z4 => (.ret true))
    (fun z5 => (.ret z5)))))
noncomputable def c (s1 : (List Int)) (s2 : (List Int)) : Option Bool := (t s1 s2).run
def pA : Pt := (.cs (.sl 3) (.cs (.sl 3) .nl))
def pH : Pt := .nl
def v (l : TA) (y : Bool) : AV U := .im (.bool y)
def hh (l : TA) (y : Bool) : Hp U := []
noncomputable def A : AFun U := mkA (U := U) pA pH (X := Bool) (fun (l : TA) => c l.1.1 l.1.2.1) sp1 v hh
noncomputable def body : Code := (Go.Func.body Try.f106).getD .skip
noncomputable def Γ : List (FuncId × AFun U) := []
noncomputable def Λ : List (Nat × LFun U) := [(4, Λ4)]
noncomputable def CT : List (Nat × LFun U) := []
def ro : List FuncId := []
def D : Nat → Lv × Lv := dtab [(4, ⟨[13, 1, 0, 12], []⟩, ⟨[4], []⟩)]
noncomputable def E : Env U := { E0 with Γ := Γ, Λ := Λ, C := CT, D := D, ro := ro }
theorem hf4 (R : Type) (l : T4) (s : Int) (K : Ex → St U → Option R) : codeA E (pick (loopsOf body) 4) ⟨p4.mkL (((l.1.1, (l.1.2.1, ((), (l.1.2.2.2.1, (s, ((), ())))))), ()) : T4).1, q4.mkH (((l.1.1, (l.1.2.1, ((), (l.1.2.2.2.1, (s, ((), ())))))), ()) : T4).2, 0⟩ (roundK E (pick (loopsOf body) 4) K) =
  (l4 l.1.1 l.1.2.1 l.1.2.2.2.1 s).runK (lpK K (fun s => ⟨p4.mkL (((l.1.1, (l.1.2.1, ((), (l.1.2.2.2.1, (s, ((), ())))))), ()) : T4).1, q4.mkH (((l.1.1, (l.1.2.1, ((), (l.1.2.2.2.1, (s, ((), ())))))), ()) : T4).2, 0⟩) (spS sp1) (ou4 l)) := by kernel_rfl
theorem lk4 (R : Type) (st : St U) (K : Ex → St U → Option R) (r : R) (h : Λ4 R st K = some r) : ∃ n, loopA E (pick (loopsOf body) 4) n st K = some r :=
  lp_ok (U := U) (E := E) (b := pick (loopsOf body) 4) (m := 0) (sp := (spS sp1)) (p := p4) (q := q4) (X := (Unit ⊕ Bool)) (S := Int) (f := fun (l : T4) s => l4 l.1.1 l.1.2.1 l.1.2.2.2.1 s) (hd := fun (l : T4) s => ((l.1.1, (l.1.2.1, ((), (l.1.2.2.2.1, (s, ((), ())))))), ())) (s0 := fun (l : T4) => l.1.2.2.2.2.1) (ou := ou4)
    (fun l => rfl) (fun l x => by repeat' (first | rfl | (cases x with | inl => rfl | inr x => ?_))) (spS_ok sp1_ok) hf4 h
theorem hk (R : Type) (l : TA) (K : AV U → Hp U → Option R) : funcA E Try.f106 [] R (pA.mkL l.1) (pH.mkH l.2) K = (t l.1.1 l.1.2.1).runK fun y => K (v l y) (hh l y) := by kernel_rfl
theorem okF : SoundF Try.prog cc 106 (funcA E Try.f106 []) :=
  funcA_ok (E := E) P_mixed (E0_ok.with Γ Λ CT D ro) (gam_of all_nil all_nil) Try.func106 (c := body) (by kernel_rfl)
    (just_by (by kernel_rfl) (by kernel_rfl) (all_cons lk4 all_nil) all_nil) []
theorem ok : SoundF Try.prog cc 106 A :=
  mkA_ok (E := E) (p := pA) (q := pH) (t := fun (l : TA) => t l.1.1 l.1.2.1) sp1_ok hk okF
theorem keep : KeepA A := mkA_keep (U := U) sp1_ok (fun (l : TA) y => ⟨(hh l y).drop 0, by kernel_rfl⟩)
end slices_Equal__uint32uint32

end Go.Proofs.Ytcnomgpbkimmeaa.Va
