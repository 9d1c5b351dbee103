/- The functions of package item, as plain functions, and that the program computes them. Printed by a program of this work out of the evaluator. -/
import Derived.Test.YtmlbioapefgioaaEn
import Derived.Tactics
namespace Go.Proofs.Ytmlbioapefgioaa.Va
open Go
set_option linter.unusedVariables false
set_option maxRecDepth 100000

/-! instar/item.Right -/
namespace item_Right
abbrev TA : Type := (((List ItemV) × Unit) × Unit)
abbrev T2 : Type := (((List ItemV) × (Unit × ((List ItemV) × (Int × (Int × (Unit × Unit)))))) × Unit)
abbrev X2 : Type := (Unit ⊕ Bool)
noncomputable def l2 (l_ : (List ItemV)) (k5 : (List ItemV)) (k6 k7 : Int) : Tw (Int ⊕ X2) :=
 (.bb (decide (k7 < k6))
  (.dd (((0 : Int) ≤ k7)) inferInstance
   (.opt (k5)[(Int.toNat k7)]? fun z1 =>
    (.bb (decide ((((ByteArray.size z1.data) : Nat) : Int) > (64 : Int)))
     (.ret (.inr (.inr false)))
     (.bb (decide (k7 > (0 : Int)))
      (.dd (((0 : Int) ≤ (w64 (k7 - (1 : Int))))) inferInstance
       (.opt (l_)[(Int.toNat (w64 (k7 - (1 : Int))))]? fun z2 =>
        (.bb (decide (z2.key ≥ z1.key))
         (.ret (.inr (.inr false)))
         (.ret (.inl (w64 (k7 + (1 : Int)))))))
       .no)
      (.ret (.inl (w64 (k7 + (1 : Int))))))))
   .no)
  (.ret (.inr (.inl ()))))
noncomputable def L2 (l_ : (List ItemV)) (k5 : (List ItemV)) (k6 k7 : Int) : Option X2 := Lp (fun s => (l2 l_ k5 k6 s).run) k7
def p2 : Pt := (.cs (.sl 10) (.cs (.bots 4) (.cs (.sl 10) (jC (jC (.cs (.bots 24) .nl))))))
def q2 : Pt := .nl
def ou2 (l : T2) (y : X2) : Ex × St U := (Sum.elim (fun a0 => (.exit 0, stOf 32 [] [] 0)) (fun b0 => (.ret, stOf 32 [(2, jB b0)] [] 0)) y)
noncomputable def Λ2 : LFun U := mkLp (U := U) p2 q2 0 (X := X2) (fun (l : T2) => L2 l.1.1 l.1.2.2.1 l.1.2.2.2.1 l.1.2.2.2.2.1) (spS sp1) ou2
def hd2 (l : T2) (s : Int) : T2 := ((l.1.1, ((), (l.1.2.2.1, (l.1.2.2.2.1, (s, ((), ())))))), ())
noncomputable def fl2 (l : T2) (s : Int) : Tw (Int ⊕ X2) := l2 l.1.1 l.1.2.2.1 l.1.2.2.2.1 s
noncomputable def t (l_ : (List ItemV)) : Tw Bool :=
 (.opt (L2 l_ l_ (((List.length l_) : Nat) : Int) (0 : Int)) fun z3 =>
  (.sm z3
   (fun z4 => (.ret true))
   (fun z5 => (.ret z5))))
noncomputable def c (l_ : (List ItemV)) : Option Bool := (t l_).run
noncomputable def tl (l : TA) : Tw Bool := t l.1.1
noncomputable def cl (l : TA) : Option Bool := c l.1.1
def pA : Pt := (.cs (.sl 10) .nl)
def pH : Pt := .nl
def v (l : TA) (y : Bool) : AV U := jB y
def hh (l : TA) (y : Bool) : Hp U := []
noncomputable def A : AFun U := mkA (U := U) pA pH (X := Bool) cl sp1 v hh
noncomputable def body : Code := (Go.Func.body Try.f56).getD .skip
noncomputable def Γ : List (FuncId × AFun U) := []
noncomputable def Λ : List (Nat × LFun U) := [(2, Λ2)]
noncomputable def CT : List (Nat × LFun U) := []
def ro : List FuncId := []
def D : Nat → Lv × Lv := dtab [(2, ⟨[7, 0, 5, 6], []⟩, ⟨[2], []⟩)]
noncomputable def E : Env U := { E0 with Γ := Γ, Λ := Λ, C := CT, D := D, ro := ro }
theorem hf2 (R : Type) (l : T2) (s : Int) (K : Ex → St U → Option R) : codeA E (pick (loopsOf body) 2) ⟨p2.mkL (hd2 l s).1, q2.mkH (hd2 l s).2, 0⟩ (roundK E (pick (loopsOf body) 2) K) =
  (fl2 l s).runK (lpK K (fun s => ⟨p2.mkL (hd2 l s).1, q2.mkH (hd2 l s).2, 0⟩) (spS sp1) (ou2 l)) := by kernel_rfl
theorem lk2 (R : Type) (st : St U) (K : Ex → St U → Option R) (r : R) (h : Λ2 R st K = some r) : ∃ n, loopA E (pick (loopsOf body) 2) n st K = some r :=
  lp_ok (U := U) (E := E) (b := pick (loopsOf body) 2) (m := 0) (sp := (spS sp1)) (p := p2) (q := q2) (X := X2) (S := Int) (f := fl2) (hd := hd2) (s0 := fun (l : T2) => l.1.2.2.2.2.1) (ou := ou2)
    (fun l => rfl) (fun l x => by repeat' (first | rfl | (cases x with | inl => rfl | inr x => ?_))) (spS_ok sp1_ok) hf2 h
theorem hk (R : Type) (l : TA) (K : AV U → Hp U → Option R) : funcA E Try.f56 [] R (pA.mkL l.1) (pH.mkH l.2) K = (tl l).runK fun y => K (v l y) (hh l y) := by kernel_rfl
theorem okF : SoundF Try.prog cc 56 (funcA E Try.f56 []) :=
  funcA_ok (E := E) P_mixed (E0_ok.with Γ Λ CT D ro) (gam_of all_nil all_nil) Try.func56 (c := body) (by kernel_rfl)
    (just_by (by kernel_rfl) (by kernel_rfl) (all_cons lk2 all_nil) all_nil) []
theorem ok : SoundF Try.prog cc 56 A :=
  mkA_ok (E := E) (p := pA) (q := pH) (t := tl) sp1_ok hk okF
theorem fo : FnOK Try.prog 56 := ⟨Try.f56, Try.func56, by kernel_rfl, by kernel_rfl⟩
theorem keep : KeepA A := mkA_keep (U := U) sp1_ok (fun (l : TA) y => ⟨(hh l y).drop 0, by kernel_rfl⟩)
end item_Right

end Go.Proofs.Ytmlbioapefgioaa.Va
