/- The functions of package ref18, as plain functions, and that the program computes them. Printed by a program of this work out of the evaluator. -/
import Derived.Test.YtmlbioapefgioaaEn
import Derived.Tactics
namespace Go.Proofs.Ytmlbioapefgioaa.Va
open Go
set_option linter.unusedVariables false
set_option maxRecDepth 100000

/-! instar/instarref18.Same -/
namespace ref18_Same
abbrev TA : Type := (((List ItemV) × ((List ItemV) × Unit)) × Unit)
abbrev T4 : Type := (((List ItemV) × ((List ItemV) × (Unit × (Int × (Unit × Unit))))) × Unit)
abbrev X4 : Type := (Unit ⊕ Bool)
noncomputable def l4 (a : (List ItemV)) (b : (List ItemV)) (i : Int) : Tw (Int ⊕ X4) :=
 (.bb (decide (i < (((List.length a) : Nat) : Int)))
  (.dd (((0 : Int) ≤ i)) inferInstance
   (.opt (a)[(Int.toNat i)]? fun z1 =>
    (.dd (((0 : Int) ≤ i)) inferInstance
     (.opt (b)[(Int.toNat i)]? fun z2 =>
      (.bb (!((z1.key == z2.key) && (((ByteArray.toList z1.data) == (ByteArray.toList z2.data)) && true)))
       (.ret (.inr (.inr false)))
       (.ret (.inl (w64 (i + (1 : Int)))))))
     .no))
   .no)
  (.ret (.inr (.inl ()))))
noncomputable def L4 (a : (List ItemV)) (b : (List ItemV)) (i : Int) : Option X4 := Lp (fun s => (l4 a b s).run) i
def p4 : Pt := (.cs (.sl 10) (.cs (.sl 10) (.cs (.bots 3) (jC (.cs (.bots 20) .nl)))))
def q4 : Pt := .nl
def ou4 (l : T4) (y : X4) : Ex × St U := (Sum.elim (fun a0 => (.exit 0, stOf 26 [] [] 0)) (fun b0 => (.ret, stOf 26 [(4, jB b0)] [] 0)) y)
noncomputable def Λ4 : LFun U := mkLp (U := U) p4 q4 0 (X := X4) (fun (l : T4) => L4 l.1.1 l.1.2.1 l.1.2.2.2.1) (spS sp1) ou4
def hd4 (l : T4) (s : Int) : T4 := ((l.1.1, (l.1.2.1, ((), (s, ((), ()))))), ())
noncomputable def fl4 (l : T4) (s : Int) : Tw (Int ⊕ X4) := l4 l.1.1 l.1.2.1 s
noncomputable def t (a : (List ItemV)) (b : (List ItemV)) : Tw Bool :=
 (.bb ((((List.length a) : Nat) : Int) != (((List.length b) : Nat) : Int))
  (.ret false)
  (.opt (L4 a b (0 : Int)) fun z3 =>
   (.sm z3
    (fun z4 => (.ret true))
    (fun z5 => (.ret z5)))))
noncomputable def c (a : (List ItemV)) (b : (List ItemV)) : Option Bool := (t a b).run
noncomputable def tl (l : TA) : Tw Bool := t l.1.1 l.1.2.1
noncomputable def cl (l : TA) : Option Bool := c l.1.1 l.1.2.1
def pA : Pt := (.cs (.sl 10) (.cs (.sl 10) .nl))
def pH : Pt := .nl
def v (l : TA) (y : Bool) : AV U := jB y
def hh (l : TA) (y : Bool) : Hp U := []
noncomputable def A : AFun U := mkA (U := U) pA pH (X := Bool) cl sp1 v hh
noncomputable def body : Code := (Go.Func.body Try.f14).getD .skip
noncomputable def Γ : List (FuncId × AFun U) := []
noncomputable def Λ : List (Nat × LFun U) := [(4, Λ4)]
noncomputable def CT : List (Nat × LFun U) := []
def ro : List FuncId := []
def D : Nat → Lv × Lv := dtab [(4, ⟨[5, 1, 0], []⟩, ⟨[4], []⟩)]
noncomputable def E : Env U := { E0 with Γ := Γ, Λ := Λ, C := CT, D := D, ro := ro }
theorem hf4 (R : Type) (l : T4) (s : Int) (K : Ex → St U → Option R) : codeA E (pick (loopsOf body) 4) ⟨p4.mkL (hd4 l s).1, q4.mkH (hd4 l s).2, 0⟩ (roundK E (pick (loopsOf body) 4) K) =
  (fl4 l s).runK (lpK K (fun s => ⟨p4.mkL (hd4 l s).1, q4.mkH (hd4 l s).2, 0⟩) (spS sp1) (ou4 l)) := by kernel_rfl
theorem lk4 (R : Type) (st : St U) (K : Ex → St U → Option R) (r : R) (h : Λ4 R st K = some r) : ∃ n, loopA E (pick (loopsOf body) 4) n st K = some r :=
  lp_ok (U := U) (E := E) (b := pick (loopsOf body) 4) (m := 0) (sp := (spS sp1)) (p := p4) (q := q4) (X := X4) (S := Int) (f := fl4) (hd := hd4) (s0 := fun (l : T4) => l.1.2.2.2.1) (ou := ou4)
    (fun l => rfl) (fun l x => by repeat' (first | rfl | (cases x with | inl => rfl | inr x => ?_))) (spS_ok sp1_ok) hf4 h
theorem hk (R : Type) (l : TA) (K : AV U → Hp U → Option R) : funcA E Try.f14 [] R (pA.mkL l.1) (pH.mkH l.2) K = (tl l).runK fun y => K (v l y) (hh l y) := by kernel_rfl
theorem okF : SoundF Try.prog cc 14 (funcA E Try.f14 []) :=
  funcA_ok (E := E) P_mixed (E0_ok.with Γ Λ CT D ro) (gam_of all_nil all_nil) Try.func14 (c := body) (by kernel_rfl)
    (just_by (by kernel_rfl) (by kernel_rfl) (all_cons lk4 all_nil) all_nil) []
theorem ok : SoundF Try.prog cc 14 A :=
  mkA_ok (E := E) (p := pA) (q := pH) (t := tl) sp1_ok hk okF
theorem fo : FnOK Try.prog 14 := ⟨Try.f14, Try.func14, by kernel_rfl, by kernel_rfl⟩
theorem keep : KeepA A := mkA_keep (U := U) sp1_ok (fun (l : TA) y => ⟨(hh l y).drop 0, by kernel_rfl⟩)
end ref18_Same

/-! instar/instarref18.Right -/
namespace ref18_Right
abbrev TA : Type := (((List ItemV) × Unit) × Unit)
abbrev T2 : Type := (((List ItemV) × (Unit × (Int × (Unit × Unit)))) × Unit)
abbrev X2 : Type := (Unit ⊕ Bool)
noncomputable def l2 (l_ : (List ItemV)) (i : Int) : Tw (Int ⊕ X2) :=
 (.bb (decide (i < (((List.length l_) : Nat) : Int)))
  (.dd (((0 : Int) ≤ i)) inferInstance
   (.opt (l_)[(Int.toNat i)]? fun z1 =>
    (.bb (decide ((((ByteArray.size z1.data) : Nat) : Int) > (64 : Int)))
     (.ret (.inr (.inr false)))
     (.bb (decide (i > (0 : Int)))
      (.dd (((0 : Int) ≤ (w64 (i - (1 : Int))))) inferInstance
       (.opt (l_)[(Int.toNat (w64 (i - (1 : Int))))]? fun z2 =>
        (.dd (((0 : Int) ≤ i)) inferInstance
         (.opt (l_)[(Int.toNat i)]? fun z3 =>
          (.bb (decide (z2.key ≥ z3.key))
           (.ret (.inr (.inr false)))
           (.ret (.inl (w64 (i + (1 : Int)))))))
         .no))
       .no)
      (.ret (.inl (w64 (i + (1 : Int))))))))
   .no)
  (.ret (.inr (.inl ()))))
noncomputable def L2 (l_ : (List ItemV)) (i : Int) : Option X2 := Lp (fun s => (l2 l_ s).run) i
def p2 : Pt := (.cs (.sl 10) (.cs (.bots 2) (jC (.cs (.bots 31) .nl))))
def q2 : Pt := .nl
def ou2 (l : T2) (y : X2) : Ex × St U := (Sum.elim (fun a0 => (.exit 0, stOf 35 [] [] 0)) (fun b0 => (.ret, stOf 35 [(2, jB b0)] [] 0)) y)
noncomputable def Λ2 : LFun U := mkLp (U := U) p2 q2 0 (X := X2) (fun (l : T2) => L2 l.1.1 l.1.2.2.1) (spS sp1) ou2
def hd2 (l : T2) (s : Int) : T2 := ((l.1.1, ((), (s, ((), ())))), ())
noncomputable def fl2 (l : T2) (s : Int) : Tw (Int ⊕ X2) := l2 l.1.1 s
noncomputable def t (l_ : (List ItemV)) : Tw Bool :=
 (.opt (L2 l_ (0 : Int)) fun z4 =>
  (.sm z4
   (fun z5 => (.ret true))
   (fun z6 => (.ret z6))))
noncomputable def c (l_ : (List ItemV)) : Option Bool := (t l_).run
noncomputable def tl (l : TA) : Tw Bool := t l.1.1
noncomputable def cl (l : TA) : Option Bool := c l.1.1
def pA : Pt := (.cs (.sl 10) .nl)
def pH : Pt := .nl
def v (l : TA) (y : Bool) : AV U := jB y
def hh (l : TA) (y : Bool) : Hp U := []
noncomputable def A : AFun U := mkA (U := U) pA pH (X := Bool) cl sp1 v hh
noncomputable def body : Code := (Go.Func.body Try.f17).getD .skip
noncomputable def Γ : List (FuncId × AFun U) := []
noncomputable def Λ : List (Nat × LFun U) := [(2, Λ2)]
noncomputable def CT : List (Nat × LFun U) := []
def ro : List FuncId := []
def D : Nat → Lv × Lv := dtab [(2, ⟨[3, 0], []⟩, ⟨[2], []⟩)]
noncomputable def E : Env U := { E0 with Γ := Γ, Λ := Λ, C := CT, D := D, ro := ro }
theorem hf2 (R : Type) (l : T2) (s : Int) (K : Ex → St U → Option R) : codeA E (pick (loopsOf body) 2) ⟨p2.mkL (hd2 l s).1, q2.mkH (hd2 l s).2, 0⟩ (roundK E (pick (loopsOf body) 2) K) =
  (fl2 l s).runK (lpK K (fun s => ⟨p2.mkL (hd2 l s).1, q2.mkH (hd2 l s).2, 0⟩) (spS sp1) (ou2 l)) := by kernel_rfl
theorem lk2 (R : Type) (st : St U) (K : Ex → St U → Option R) (r : R) (h : Λ2 R st K = some r) : ∃ n, loopA E (pick (loopsOf body) 2) n st K = some r :=
  lp_ok (U := U) (E := E) (b := pick (loopsOf body) 2) (m := 0) (sp := (spS sp1)) (p := p2) (q := q2) (X := X2) (S := Int) (f := fl2) (hd := hd2) (s0 := fun (l : T2) => l.1.2.2.1) (ou := ou2)
    (fun l => rfl) (fun l x => by repeat' (first | rfl | (cases x with | inl => rfl | inr x => ?_))) (spS_ok sp1_ok) hf2 h
theorem hk (R : Type) (l : TA) (K : AV U → Hp U → Option R) : funcA E Try.f17 [] R (pA.mkL l.1) (pH.mkH l.2) K = (tl l).runK fun y => K (v l y) (hh l y) := by kernel_rfl
theorem okF : SoundF Try.prog cc 17 (funcA E Try.f17 []) :=
  funcA_ok (E := E) P_mixed (E0_ok.with Γ Λ CT D ro) (gam_of all_nil all_nil) Try.func17 (c := body) (by kernel_rfl)
    (just_by (by kernel_rfl) (by kernel_rfl) (all_cons lk2 all_nil) all_nil) []
theorem ok : SoundF Try.prog cc 17 A :=
  mkA_ok (E := E) (p := pA) (q := pH) (t := tl) sp1_ok hk okF
theorem fo : FnOK Try.prog 17 := ⟨Try.f17, Try.func17, by kernel_rfl, by kernel_rfl⟩
theorem keep : KeepA A := mkA_keep (U := U) sp1_ok (fun (l : TA) y => ⟨(hh l y).drop 0, by kernel_rfl⟩)
end ref18_Right

end Go.Proofs.Ytmlbioapefgioaa.Va
