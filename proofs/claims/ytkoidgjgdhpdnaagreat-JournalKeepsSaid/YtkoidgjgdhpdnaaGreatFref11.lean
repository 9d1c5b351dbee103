/- The functions of package ref11, as plain functions, and that the program computes them. Printed by a program of this work out of the evaluator. -/
import Derived.Test.YtkoidgjgdhpdnaaGreatEn
import Derived.Tactics
import Derived.Test.YtkoidgjgdhpdnaaGreatFref01
import Derived.Test.YtkoidgjgdhpdnaaGreatFref09
import Derived.Test.YtkoidgjgdhpdnaaGreatFref10
set_option linter.unusedVariables false
namespace Go.Proofs.YtkoidgjgdhpdnaaGreat.Va
noncomputable section
open Go
set_option maxRecDepth 100000

/-! instar/instarref11.load -/
namespace ref11_load
abbrev TA : Type := (((List Int) × Unit) × Unit)
def t (l_ : (List Int)) : Tw Bool :=
 (.bb (decide ((((List.length l_) : Nat) : Int) ≥ (1 : Int)))
 (.ret (decide ((((List.length l_) : Nat) : Int) ≤ (56 : Int))))
 (.ret false))
def c (l_ : (List Int)) : Option Bool := (t l_).run
def tl (l : TA) : Tw Bool := t l.1.1
def cl (l : TA) : Option Bool := (tl l).run
def pA : Pt := (.cs (.sl 3) .nl)
def pH : Pt := .nl
def v (l : TA) (y : Bool) : AV U := jB y
def hh (l : TA) (y : Bool) : Hp U := []
def A : AFun U := mkA (U := U) pA pH (X := Bool) cl sp1 v hh
def body : Code := (Go.Func.body Tryz.f51).getD .skip
def Γ : List (FuncId × AFun U) := []
def Λ : List (Nat × LFun U) := []
def CT : List (Nat × LFun U) := []
def ro : List FuncId := []
def D : Nat → Lv × Lv := dtab []
def E : Env U := { E0 with Γ := Γ, Λ := Λ, C := CT, D := D, ro := ro }
theorem hk (R : Type) (l : TA) (K : AV U → Hp U → Option R) : funcA E Tryz.f51 [] R (pA.mkL l.1) (pH.mkH l.2) K = (tl l).runK fun y => K (v l y) (hh l y) := by kernel_rfl
theorem okF : SoundF Tryz.prog cc 51 (funcA E Tryz.f51 []) :=
  funcA_ok (E := E) P_mixed (E0_ok.with Γ Λ CT D ro) (gam_of all_nil all_nil) Tryz.func51 (c := body) (by kernel_rfl)
    (just_by (by kernel_rfl) (by kernel_rfl) all_nil all_nil) []
theorem ok : SoundF Tryz.prog cc 51 A :=
  mkA_ok (E := E) (p := pA) (q := pH) (t := tl) sp1_ok hk okF
theorem fo : FnOK Tryz.prog 51 := ⟨Tryz.f51, Tryz.func51, by kernel_rfl, by kernel_rfl⟩
theorem keep : KeepA A := mkA_keep (U := U) sp1_ok (fun (l : TA) y => ⟨(hh l y).drop 0, by kernel_rfl⟩)
end ref11_load

/-! instar/instarref11.SameLoads -/
namespace ref11_SameLoads
abbrev TA : Type := (((List (List Int)) × ((List (List Int)) × Unit)) × Unit)
abbrev T4 : Type := (((List (List Int)) × ((List (List Int)) × (Unit × (Int × (Unit × Unit))))) × Unit)
abbrev X4 : Type := (Unit ⊕ Bool)
def l4 (a : (List (List Int))) (b : (List (List Int))) (i : Int) : Tw (Int ⊕ X4) :=
 (.bb (decide (i < (((List.length a) : Nat) : Int)))
 (.dd (((0 : Int) ≤ i)) inferInstance
 (.opt (a)[(Int.toNat i)]? fun z1 =>
 (.dd (((0 : Int) ≤ i)) inferInstance
 (.opt (b)[(Int.toNat i)]? fun z2 =>
 (.opt (ref01_Same.c z1 z2) fun z3 =>
 (.bb (!z3)
 (.ret (.inr (.inr false)))
 (.ret (.inl (w64 (i + (1 : Int))))))))
 .no))
 .no)
 (.ret (.inr (.inl ()))))
def L4 (a : (List (List Int))) (b : (List (List Int))) (i : Int) : Option X4 := Lp (fun s => (l4 a b s).run) i
def p4 : Pt := (.cs (.sl 12) (.cs (.sl 12) (.cs (.bots 3) (jC (.cs (.bots 21) .nl)))))
def q4 : Pt := .nl
def ou4 (l : T4) (y : X4) : Ex × St U := (Sum.elim (fun a0 => (.exit 0, stOf 27 [] [] 0)) (fun b0 => (.ret, stOf 27 [(4, jB b0)] [] 0)) y)
def Λ4 : LFun U := mkLp (U := U) p4 q4 0 (X := X4) (fun (l : T4) => L4 l.1.1 l.1.2.1 l.1.2.2.2.1) (spS sp1) ou4
def hd4 (l : T4) (s : Int) : T4 := ((l.1.1, (l.1.2.1, ((), (s, ((), ()))))), ())
def fl4 (l : T4) (s : Int) : Tw (Int ⊕ X4) := l4 l.1.1 l.1.2.1 s
def t (a : (List (List Int))) (b : (List (List Int))) : Tw Bool :=
 (.bb ((((List.length a) : Nat) : Int) != (((List.length b) : Nat) : Int))
 (.ret false)
 (.opt (L4 a b (0 : Int)) fun z4 =>
 (.sm z4
 (fun z5 => (.ret true))
 (fun z6 => (.ret z6)))))
def c (a : (List (List Int))) (b : (List (List Int))) : Option Bool := (t a b).run
def tl (l : TA) : Tw Bool := t l.1.1 l.1.2.1
def cl (l : TA) : Option Bool := (tl l).run
def pA : Pt := (.cs (.sl 12) (.cs (.sl 12) .nl))
def pH : Pt := .nl
def v (l : TA) (y : Bool) : AV U := jB y
def hh (l : TA) (y : Bool) : Hp U := []
def A : AFun U := mkA (U := U) pA pH (X := Bool) cl sp1 v hh
def body : Code := (Go.Func.body Tryz.f19).getD .skip
def Γ : List (FuncId × AFun U) := [(17, ref01_Same.A)]
def Λ : List (Nat × LFun U) := [(4, Λ4)]
def CT : List (Nat × LFun U) := []
def ro : List FuncId := []
def D : Nat → Lv × Lv := dtab [(4, ⟨[5, 1, 0], []⟩, ⟨[4], []⟩)]
def E : Env U := { E0 with Γ := Γ, Λ := Λ, C := CT, D := D, ro := ro }
theorem hf4 (R : Type) (l : T4) (s : Int) (K : Ex → St U → Option R) : codeA E (pick (loopsOf body) 4) ⟨p4.mkL (hd4 l s).1, q4.mkH (hd4 l s).2, 0⟩ (roundK E (pick (loopsOf body) 4) K) =
  (fl4 l s).runK (lpK K (fun s => ⟨p4.mkL (hd4 l s).1, q4.mkH (hd4 l s).2, 0⟩) (spS sp1) (ou4 l)) := by kernel_rfl
theorem lk4 (R : Type) (st : St U) (K : Ex → St U → Option R) (r : R) (h : Λ4 R st K = some r) : ∃ n, loopA E (pick (loopsOf body) 4) n st K = some r :=
  lp_ok (U := U) (E := E) (b := pick (loopsOf body) 4) (m := 0) (sp := (spS sp1)) (p := p4) (q := q4) (X := X4) (S := Int) (f := fl4) (hd := hd4) (s0 := fun (l : T4) => l.1.2.2.2.1) (ou := ou4)
    (fun l => rfl) (fun l x => by repeat' (first | rfl | (cases x with | inl => rfl | inr x => ?_))) (spS_ok sp1_ok) hf4 h
theorem hk (R : Type) (l : TA) (K : AV U → Hp U → Option R) : funcA E Tryz.f19 [] R (pA.mkL l.1) (pH.mkH l.2) K = (tl l).runK fun y => K (v l y) (hh l y) := by kernel_rfl
theorem okF : SoundF Tryz.prog cc 19 (funcA E Tryz.f19 []) :=
  funcA_ok (E := E) P_mixed (E0_ok.with Γ Λ CT D ro) (gam_of (all_cons ⟨ref01_Same.ok, ref01_Same.fo⟩ all_nil) no_ro) Tryz.func19 (c := body) (by kernel_rfl)
    (just_by (by kernel_rfl) (by kernel_rfl) (all_cons lk4 all_nil) all_nil) []
theorem ok : SoundF Tryz.prog cc 19 A :=
  mkA_ok (E := E) (p := pA) (q := pH) (t := tl) sp1_ok hk okF
theorem fo : FnOK Tryz.prog 19 := ⟨Tryz.f19, Tryz.func19, by kernel_rfl, by kernel_rfl⟩
theorem keep : KeepA A := mkA_keep (U := U) sp1_ok (fun (l : TA) y => ⟨(hh l y).drop 0, by kernel_rfl⟩)
end ref11_SameLoads

/-! (*instar/instarref11.Journal).add -/
namespace ref11_Journal_add
abbrev TA : Type := ((Unit × ((Int × (Int × ((List Int) × Unit))) × (Int × Unit))) × ((Unit × (Int × (Int × (Bool × (Int × (Unit × (Unit × Unit))))))) × ((Unit × (Int × (Int × (Int × (Int × (Int × (Int × Unit))))))) × ((Unit × (Int × (Unit × (Int × (Bool × (Int × (Unit × Unit))))))) × ((List Int) × ((List Int) × ((List Int) × Unit)))))))
abbrev XA : Type := ((Int × (List (List Int))) ⊕ (Int × (List (List Int))))
def t (f_0 f_1 : Int) (f_2 : (List Int)) (n h0_1 h0_2 : Int) (h0_3 : Bool) (h0_4 h1_1 h1_2 h1_3 h1_4 h1_5 h1_6 h2_1 h2_3 : Int) (h2_4 : Bool) (h2_5 : Int) (h3 : (List Int)) (h4 : (List Int)) (h5 : (List Int)) : Tw XA :=
 (.bb (f_0 == (1 : Int))
 (.ret (.inr ((w64 (h0_2 + n)), ([] : List (List Int)))))
 (.ret (.inl ((w64 (h0_2 + n)), (f_2 :: ([] : List (List Int)))))))
def c (f_0 f_1 : Int) (f_2 : (List Int)) (n h0_1 h0_2 : Int) (h0_3 : Bool) (h0_4 h1_1 h1_2 h1_3 h1_4 h1_5 h1_6 h2_1 h2_3 : Int) (h2_4 : Bool) (h2_5 : Int) (h3 : (List Int)) (h4 : (List Int)) (h5 : (List Int)) : Option XA := (t f_0 f_1 f_2 n h0_1 h0_2 h0_3 h0_4 h1_1 h1_2 h1_3 h1_4 h1_5 h1_6 h2_1 h2_3 h2_4 h2_5 h3 h4 h5).run
def tl (l : TA) : Tw XA := t l.1.2.1.1 l.1.2.1.2.1 l.1.2.1.2.2.1 l.1.2.2.1 l.2.1.2.1 l.2.1.2.2.1 l.2.1.2.2.2.1 l.2.1.2.2.2.2.1 l.2.2.1.2.1 l.2.2.1.2.2.1 l.2.2.1.2.2.2.1 l.2.2.1.2.2.2.2.1 l.2.2.1.2.2.2.2.2.1 l.2.2.1.2.2.2.2.2.2.1 l.2.2.2.1.2.1 l.2.2.2.1.2.2.2.1 l.2.2.2.1.2.2.2.2.1 l.2.2.2.1.2.2.2.2.2.1 l.2.2.2.2.1 l.2.2.2.2.2.1 l.2.2.2.2.2.2.1
def cl (l : TA) : Option XA := (tl l).run
def pA : Pt := (.cs (.ptr 0 0) (.cs (.agg (jC (jC (.cs (.sl 3) .nl)))) (jC .nl)))
def pH : Pt := (.cs (.var (.cs (.ptr 1 0) (jC (jC (.cs .bool (jC (.cs .nils (.cs .nils .nl)))))))) (.cs (.var (.cs (.ptr 2 0) (jC (jC (jC (jC (jC (jC .nl)))))))) (.cs (.var (.cs (.own 3) (jC (.cs (.own 4) (jC (.cs .bool (jC (.cs (.own 5) .nl)))))))) (.cs (.row 3 true) (.cs (.row 1 true) (.cs (.row 3 true) .nl))))))
def v (l : TA) (y : XA) : AV U := (Sum.elim (fun a0 => .tup []) (fun b0 => .tup []) y)
def hh (l : TA) (y : XA) : Hp U := (Sum.elim (fun a0 => [.var [.ptr 1 0, jI l.2.1.2.1, jI a0.1, jB l.2.1.2.2.2.1, jI l.1.2.1.2.1, .im .nils, .im (.slice 12 a0.2)], .var [.ptr 2 0, jI l.2.2.1.2.1, jI l.2.2.1.2.2.1, jI l.2.2.1.2.2.2.1, jI l.2.2.1.2.2.2.2.1, jI l.2.2.1.2.2.2.2.2.1, jI l.2.2.1.2.2.2.2.2.2.1], .var [.own 3, jI l.2.2.2.1.2.1, .own 4, jI l.2.2.2.1.2.2.2.1, jB l.2.2.2.1.2.2.2.2.1, jI l.2.2.2.1.2.2.2.2.2.1, .own 5], .row 3 l.2.2.2.2.1 true, .row 1 l.2.2.2.2.2.1 true, .row 3 l.2.2.2.2.2.2.1 true]) (fun b0 => [.var [.ptr 1 0, jI l.2.1.2.1, jI b0.1, jB l.2.1.2.2.2.1, jI l.1.2.1.2.1, .im (.slice 3 l.1.2.1.2.2.1), .im (.slice 12 b0.2)], .var [.ptr 2 0, jI l.2.2.1.2.1, jI l.2.2.1.2.2.1, jI l.2.2.1.2.2.2.1, jI l.2.2.1.2.2.2.2.1, jI l.2.2.1.2.2.2.2.2.1, jI l.2.2.1.2.2.2.2.2.2.1], .var [.own 3, jI l.2.2.2.1.2.1, .own 4, jI l.2.2.2.1.2.2.2.1, jB l.2.2.2.1.2.2.2.2.1, jI l.2.2.2.1.2.2.2.2.2.1, .own 5], .row 3 l.2.2.2.2.1 true, .row 1 l.2.2.2.2.2.1 true, .row 3 l.2.2.2.2.2.2.1 true]) y)
def A : AFun U := mkA (U := U) pA pH (X := XA) cl (spS sp1) v hh
def body : Code := (Go.Func.body Tryz.f59).getD .skip
def Γ : List (FuncId × AFun U) := []
def Λ : List (Nat × LFun U) := []
def CT : List (Nat × LFun U) := []
def ro : List FuncId := []
def D : Nat → Lv × Lv := dtab []
def E : Env U := { E0 with Γ := Γ, Λ := Λ, C := CT, D := D, ro := ro, pre := [(0, [.to 6], .im 12)], kill := [], tr := false }
theorem hk (R : Type) (l : TA) (K : AV U → Hp U → Option R) : funcA E Tryz.f59 [] R (pA.mkL l.1) (pH.mkH l.2) K = (tl l).runK fun y => K (v l y) (hh l y) := by kernel_rfl
theorem okF : SoundF Tryz.prog cc 59 (funcA E Tryz.f59 []) :=
  funcA_ok (E := E) P_mixed ((E0_ok.with Γ Λ CT D ro).pre [(0, [.to 6], .im 12)] [] false) (gam_of all_nil all_nil) Tryz.func59 (c := body) (by kernel_rfl)
    (just_by (by kernel_rfl) (by kernel_rfl) all_nil all_nil) []
theorem ok : SoundF Tryz.prog cc 59 A :=
  mkA_ok (E := E) (p := pA) (q := pH) (t := tl) (spS_ok sp1_ok) hk okF
theorem fo : FnOK Tryz.prog 59 := ⟨Tryz.f59, Tryz.func59, by kernel_rfl, by kernel_rfl⟩
end ref11_Journal_add

/-! (*instar/instarref11.Journal).turn -/
namespace ref11_Journal_turn
abbrev TA : Type := ((Unit × ((List Int) × (Int × Unit))) × ((Unit × (Int × (Int × (Bool × (Int × (Unit × (Unit × Unit))))))) × ((Unit × (Int × (Int × (Int × (Int × (Int × (Int × Unit))))))) × ((Unit × (Int × (Unit × (Int × (Bool × (Int × (Unit × Unit))))))) × ((List Int) × ((List Int) × ((List Int) × Unit)))))))
abbrev XA : Type := ((Int × (Int × (Int × (Bool × (Int × ((List (List Int)) × (Int × (Bool × (Int × ((List Int) × (List Int))))))))))) ⊕ (Int × (Int × (Int × (Bool × ((List (List Int)) × (Int × (Bool × (Int × ((List Int) × (List Int)))))))))))
def t (whole : (List Int)) (seq h0_1 h0_2 : Int) (h0_3 : Bool) (h0_4 h1_1 h1_2 h1_3 h1_4 h1_5 h1_6 h2_1 h2_3 : Int) (h2_4 : Bool) (h2_5 : Int) (h3 : (List Int)) (h4 : (List Int)) (h5 : (List Int)) : Tw XA :=
 (.dd (((((List.length whole) * (4 : Nat)) ≤ (140737488355328 : Nat)) ∧ ((List.length whole) ≤ (140737488355328 : Nat)))) inferInstance
 (.opt (ref10_Lay.c (1 : Int) seq whole) fun z1 =>
 (.opt (ref09_Drive_Fresh.c (w64 ((1 : Int) - h0_1)) z1 h1_1 h1_2 h1_3 h1_4 h1_5 h1_6 h2_1 h2_3 h2_4 h2_5 h3 h4 h5) fun z2 =>
 (.bb (z2.1 != (0 : Int))
 (.ret (.inl (z2.1, (h0_1, (h0_2, (h0_3, (h0_4, (([] : List (List Int)), (z2.2.1, (z2.2.2.1, (z2.2.2.2.1, (z2.2.2.2.2.1, z2.2.2.2.2.2))))))))))))
 (.opt (ref11_Journal_add.c (1 : Int) seq whole (((List.length z1) : Nat) : Int) (w64 ((1 : Int) - h0_1)) (0 : Int) false h0_4 h1_1 h1_2 h1_3 h1_4 h1_5 h1_6 h2_1 z2.2.1 z2.2.2.1 z2.2.2.2.1 z2.2.2.2.2.1 z2.2.2.2.2.2 h5) fun z3 =>
 (.sm z3
 (fun z4 => (.ret (.inl ((0 : Int), ((w64 ((1 : Int) - h0_1)), (z4.1, (false, (seq, (z4.2, (z2.2.1, (z2.2.2.1, (z2.2.2.2.1, (z2.2.2.2.2.1, z2.2.2.2.2.2)))))))))))))
 (fun z5 => (.ret (.inr ((0 : Int), ((w64 ((1 : Int) - h0_1)), (z5.1, (false, (z5.2, (z2.2.1, (z2.2.2.1, (z2.2.2.2.1, (z2.2.2.2.2.1, z2.2.2.2.2.2)))))))))))))))))
 .no)
def c (whole : (List Int)) (seq h0_1 h0_2 : Int) (h0_3 : Bool) (h0_4 h1_1 h1_2 h1_3 h1_4 h1_5 h1_6 h2_1 h2_3 : Int) (h2_4 : Bool) (h2_5 : Int) (h3 : (List Int)) (h4 : (List Int)) (h5 : (List Int)) : Option XA := (t whole seq h0_1 h0_2 h0_3 h0_4 h1_1 h1_2 h1_3 h1_4 h1_5 h1_6 h2_1 h2_3 h2_4 h2_5 h3 h4 h5).run
def tl (l : TA) : Tw XA := t l.1.2.1 l.1.2.2.1 l.2.1.2.1 l.2.1.2.2.1 l.2.1.2.2.2.1 l.2.1.2.2.2.2.1 l.2.2.1.2.1 l.2.2.1.2.2.1 l.2.2.1.2.2.2.1 l.2.2.1.2.2.2.2.1 l.2.2.1.2.2.2.2.2.1 l.2.2.1.2.2.2.2.2.2.1 l.2.2.2.1.2.1 l.2.2.2.1.2.2.2.1 l.2.2.2.1.2.2.2.2.1 l.2.2.2.1.2.2.2.2.2.1 l.2.2.2.2.1 l.2.2.2.2.2.1 l.2.2.2.2.2.2.1
def cl (l : TA) : Option XA := (tl l).run
def pA : Pt := (.cs (.ptr 0 0) (.cs (.sl 3) (jC .nl)))
def pH : Pt := (.cs (.var (.cs (.ptr 1 0) (jC (jC (.cs .bool (jC (.cs .nils (.cs .nils .nl)))))))) (.cs (.var (.cs (.ptr 2 0) (jC (jC (jC (jC (jC (jC .nl)))))))) (.cs (.var (.cs (.own 3) (jC (.cs (.own 4) (jC (.cs .bool (jC (.cs (.own 5) .nl)))))))) (.cs (.row 3 true) (.cs (.row 1 true) (.cs (.row 3 true) .nl))))))
def v (l : TA) (y : XA) : AV U := (Sum.elim (fun a0 => jI a0.1) (fun b0 => jI b0.1) y)
def hh (l : TA) (y : XA) : Hp U := (Sum.elim (fun a0 => [.var [.ptr 1 0, jI a0.2.1, jI a0.2.2.1, jB a0.2.2.2.1, jI a0.2.2.2.2.1, .im .nils, .im (.slice 12 a0.2.2.2.2.2.1)], .var [.ptr 2 0, jI l.2.2.1.2.1, jI l.2.2.1.2.2.1, jI l.2.2.1.2.2.2.1, jI l.2.2.1.2.2.2.2.1, jI l.2.2.1.2.2.2.2.2.1, jI l.2.2.1.2.2.2.2.2.2.1], .var [.own 3, jI l.2.2.2.1.2.1, .own 4, jI a0.2.2.2.2.2.2.1, jB a0.2.2.2.2.2.2.2.1, jI a0.2.2.2.2.2.2.2.2.1, .own 5], .row 3 a0.2.2.2.2.2.2.2.2.2.1 true, .row 1 a0.2.2.2.2.2.2.2.2.2.2 true, .row 3 l.2.2.2.2.2.2.1 true]) (fun b0 => [.var [.ptr 1 0, jI b0.2.1, jI b0.2.2.1, jB b0.2.2.2.1, jI l.1.2.2.1, .im (.slice 3 l.1.2.1), .im (.slice 12 b0.2.2.2.2.1)], .var [.ptr 2 0, jI l.2.2.1.2.1, jI l.2.2.1.2.2.1, jI l.2.2.1.2.2.2.1, jI l.2.2.1.2.2.2.2.1, jI l.2.2.1.2.2.2.2.2.1, jI l.2.2.1.2.2.2.2.2.2.1], .var [.own 3, jI l.2.2.2.1.2.1, .own 4, jI b0.2.2.2.2.2.1, jB b0.2.2.2.2.2.2.1, jI b0.2.2.2.2.2.2.2.1, .own 5], .row 3 b0.2.2.2.2.2.2.2.2.1 true, .row 1 b0.2.2.2.2.2.2.2.2.2 true, .row 3 l.2.2.2.2.2.2.1 true]) y)
def A : AFun U := mkA (U := U) pA pH (X := XA) cl (spS sp1) v hh
def body : Code := (Go.Func.body Tryz.f53).getD .skip
def Γ : List (FuncId × AFun U) := [(57, ref10_Lay.A), (72, ref09_Drive_Fresh.A), (59, ref11_Journal_add.A)]
def Λ : List (Nat × LFun U) := []
def CT : List (Nat × LFun U) := []
def ro : List FuncId := []
def D : Nat → Lv × Lv := dtab []
def E : Env U := { E0 with Γ := Γ, Λ := Λ, C := CT, D := D, ro := ro, pre := [(0, [.to 6], .im 12)], kill := [], tr := false }
theorem hk (R : Type) (l : TA) (K : AV U → Hp U → Option R) : funcA E Tryz.f53 [] R (pA.mkL l.1) (pH.mkH l.2) K = (tl l).runK fun y => K (v l y) (hh l y) := by kernel_rfl
theorem okF : SoundF Tryz.prog cc 53 (funcA E Tryz.f53 []) :=
  funcA_ok (E := E) P_mixed ((E0_ok.with Γ Λ CT D ro).pre [(0, [.to 6], .im 12)] [] false) (gam_of (all_cons ⟨ref10_Lay.ok, ref10_Lay.fo⟩ (all_cons ⟨ref09_Drive_Fresh.ok, ref09_Drive_Fresh.fo⟩ (all_cons ⟨ref11_Journal_add.ok, ref11_Journal_add.fo⟩ all_nil))) no_ro) Tryz.func53 (c := body) (by kernel_rfl)
    (just_by (by kernel_rfl) (by kernel_rfl) all_nil all_nil) []
theorem ok : SoundF Tryz.prog cc 53 A :=
  mkA_ok (E := E) (p := pA) (q := pH) (t := tl) (spS_ok sp1_ok) hk okF
theorem fo : FnOK Tryz.prog 53 := ⟨Tryz.f53, Tryz.func53, by kernel_rfl, by kernel_rfl⟩
end ref11_Journal_turn

/-! instar/instarref11.New -/
namespace ref11_New
abbrev TA : Type := ((Unit × ((List Int) × Unit)) × ((Unit × (Int × (Int × (Int × (Int × (Int × (Int × Unit))))))) × ((Unit × (Int × (Unit × (Int × (Bool × (Int × (Unit × Unit))))))) × ((List Int) × ((List Int) × ((List Int) × Unit))))))
abbrev XA : Type := ((Int × (Int × (Bool × (Int × ((List Int) × ((List Int) × (Int × (Int × (Bool × (Int × ((List Int) × (List (List Int))))))))))))) ⊕ (Int × (Int × (Bool × (Int × ((List Int) × (List Int)))))))
def t (whole : (List Int)) (h0_1 h0_2 h0_3 h0_4 h0_5 h0_6 h1_1 h1_3 : Int) (h1_4 : Bool) (h1_5 : Int) (h2 : (List Int)) (h3 : (List Int)) (h4 : (List Int)) : Tw XA :=
 (.opt (ref11_load.c whole) fun z1 =>
 (.bb (!z1)
 (.ret (.inr ((2 : Int), (h1_3, (h1_4, (h1_5, (h2, h3)))))))
 (.opt (ref09_Drive_Clean.c (1 : Int) h0_1 h0_2 h0_3 h0_4 h0_5 h0_6 h1_1 h1_3 h1_4 h1_5 h2 h3 h4) fun z2 =>
 (.bb (z2.1 != (0 : Int))
 (.ret (.inr (z2.1, (z2.2.1, (z2.2.2.1, (z2.2.2.2.1, (z2.2.2.2.2.1, z2.2.2.2.2.2)))))))
 (.opt (ref11_Journal_turn.c whole (1 : Int) (1 : Int) (0 : Int) false (0 : Int) h0_1 h0_2 h0_3 h0_4 h0_5 h0_6 h1_1 z2.2.1 z2.2.2.1 z2.2.2.2.1 z2.2.2.2.2.1 z2.2.2.2.2.2 h4) fun z3 =>
 (.sm z3
 (fun z4 => (.bb (z4.1 != (0 : Int))
 (.ret (.inr (z4.1, (z4.2.2.2.2.2.2.1, (z4.2.2.2.2.2.2.2.1, (z4.2.2.2.2.2.2.2.2.1, (z4.2.2.2.2.2.2.2.2.2.1, z4.2.2.2.2.2.2.2.2.2.2)))))))
 (.ret (.inl ((0 : Int), (z4.2.2.2.2.2.2.1, (z4.2.2.2.2.2.2.2.1, (z4.2.2.2.2.2.2.2.2.1, (z4.2.2.2.2.2.2.2.2.2.1, (z4.2.2.2.2.2.2.2.2.2.2, (z4.2.1, (z4.2.2.1, (z4.2.2.2.1, (z4.2.2.2.2.1, (([] : List (Int)), z4.2.2.2.2.2.1)))))))))))))))
 (fun z5 => (.bb (z5.1 != (0 : Int))
 (.ret (.inr (z5.1, (z5.2.2.2.2.2.1, (z5.2.2.2.2.2.2.1, (z5.2.2.2.2.2.2.2.1, (z5.2.2.2.2.2.2.2.2.1, z5.2.2.2.2.2.2.2.2.2)))))))
 (.ret (.inl ((0 : Int), (z5.2.2.2.2.2.1, (z5.2.2.2.2.2.2.1, (z5.2.2.2.2.2.2.2.1, (z5.2.2.2.2.2.2.2.2.1, (z5.2.2.2.2.2.2.2.2.2, (z5.2.1, (z5.2.2.1, (z5.2.2.2.1, ((1 : Int), (whole, z5.2.2.2.2.1)))))))))))))))))))))
def c (whole : (List Int)) (h0_1 h0_2 h0_3 h0_4 h0_5 h0_6 h1_1 h1_3 : Int) (h1_4 : Bool) (h1_5 : Int) (h2 : (List Int)) (h3 : (List Int)) (h4 : (List Int)) : Option XA := (t whole h0_1 h0_2 h0_3 h0_4 h0_5 h0_6 h1_1 h1_3 h1_4 h1_5 h2 h3 h4).run
def tl (l : TA) : Tw XA := t l.1.2.1 l.2.1.2.1 l.2.1.2.2.1 l.2.1.2.2.2.1 l.2.1.2.2.2.2.1 l.2.1.2.2.2.2.2.1 l.2.1.2.2.2.2.2.2.1 l.2.2.1.2.1 l.2.2.1.2.2.2.1 l.2.2.1.2.2.2.2.1 l.2.2.1.2.2.2.2.2.1 l.2.2.2.1 l.2.2.2.2.1 l.2.2.2.2.2.1
def cl (l : TA) : Option XA := (tl l).run
def pA : Pt := (.cs (.ptr 0 0) (.cs (.sl 3) .nl))
def pH : Pt := (.cs (.var (.cs (.ptr 1 0) (jC (jC (jC (jC (jC (jC .nl)))))))) (.cs (.var (.cs (.own 2) (jC (.cs (.own 3) (jC (.cs .bool (jC (.cs (.own 4) .nl)))))))) (.cs (.row 3 true) (.cs (.row 1 true) (.cs (.row 3 true) .nl)))))
def v (l : TA) (y : XA) : AV U := (Sum.elim (fun a0 => .tup [.ptr 5 0, jI a0.1]) (fun b0 => .tup [.im .nilp, jI b0.1]) y)
def hh (l : TA) (y : XA) : Hp U := (Sum.elim (fun a0 => [.var [.ptr 1 0, jI l.2.1.2.1, jI l.2.1.2.2.1, jI l.2.1.2.2.2.1, jI l.2.1.2.2.2.2.1, jI l.2.1.2.2.2.2.2.1, jI l.2.1.2.2.2.2.2.2.1], .var [.own 2, jI l.2.2.1.2.1, .own 3, jI a0.2.1, jB a0.2.2.1, jI a0.2.2.2.1, .own 4], .row 3 a0.2.2.2.2.1 true, .row 1 a0.2.2.2.2.2.1 true, .row 3 l.2.2.2.2.2.1 true, .var [.ptr 0 0, jI a0.2.2.2.2.2.2.1, jI a0.2.2.2.2.2.2.2.1, jB a0.2.2.2.2.2.2.2.2.1, jI a0.2.2.2.2.2.2.2.2.2.1, .im (.slice 3 a0.2.2.2.2.2.2.2.2.2.2.1), .im (.slice 12 a0.2.2.2.2.2.2.2.2.2.2.2)]]) (fun b0 => [.var [.ptr 1 0, jI l.2.1.2.1, jI l.2.1.2.2.1, jI l.2.1.2.2.2.1, jI l.2.1.2.2.2.2.1, jI l.2.1.2.2.2.2.2.1, jI l.2.1.2.2.2.2.2.2.1], .var [.own 2, jI l.2.2.1.2.1, .own 3, jI b0.2.1, jB b0.2.2.1, jI b0.2.2.2.1, .own 4], .row 3 b0.2.2.2.2.1 true, .row 1 b0.2.2.2.2.2 true, .row 3 l.2.2.2.2.2.1 true]) y)
def A : AFun U := mkA (U := U) pA pH (X := XA) cl (spS sp1) v hh
def body : Code := (Go.Func.body Tryz.f30).getD .skip
def Γ : List (FuncId × AFun U) := [(51, ref11_load.A), (52, ref09_Drive_Clean.A), (53, ref11_Journal_turn.A)]
def Λ : List (Nat × LFun U) := []
def CT : List (Nat × LFun U) := []
def ro : List FuncId := []
def D : Nat → Lv × Lv := dtab []
def E : Env U := { E0 with Γ := Γ, Λ := Λ, C := CT, D := D, ro := ro }
theorem hk (R : Type) (l : TA) (K : AV U → Hp U → Option R) : funcA E Tryz.f30 [(0, [.to 6], .im 12), (0, [.to 5], .im 3)] R (pA.mkL l.1) (pH.mkH l.2) K = (tl l).runK fun y => K (v l y) (hh l y) := by kernel_rfl
theorem okF : SoundF Tryz.prog cc 30 (funcA E Tryz.f30 [(0, [.to 6], .im 12), (0, [.to 5], .im 3)]) :=
  funcA_ok (E := E) P_mixed (E0_ok.with Γ Λ CT D ro) (gam_of (all_cons ⟨ref11_load.ok, ref11_load.fo⟩ (all_cons ⟨ref09_Drive_Clean.ok, ref09_Drive_Clean.fo⟩ (all_cons ⟨ref11_Journal_turn.ok, ref11_Journal_turn.fo⟩ all_nil))) no_ro) Tryz.func30 (c := body) (by kernel_rfl)
    (just_by (by kernel_rfl) (by kernel_rfl) all_nil all_nil) [(0, [.to 6], .im 12), (0, [.to 5], .im 3)]
theorem ok : SoundF Tryz.prog cc 30 A :=
  mkA_ok (E := E) (p := pA) (q := pH) (t := tl) (spS_ok sp1_ok) hk okF
theorem fo : FnOK Tryz.prog 30 := ⟨Tryz.f30, Tryz.func30, by kernel_rfl, by kernel_rfl⟩
end ref11_New

/-! (*instar/instarref11.Journal).add -/
namespace ref11_Journal_add_v2
abbrev TA : Type := ((Unit × ((Int × (Int × ((List Int) × Unit))) × (Int × Unit))) × ((Unit × (Int × (Int × (Bool × (Int × ((List Int) × ((List (List Int)) × Unit))))))) × ((Unit × (Int × (Int × (Int × (Int × (Int × (Int × Unit))))))) × ((Unit × (Int × (Unit × (Int × (Bool × (Int × (Unit × Unit))))))) × ((List Int) × ((List Int) × ((List Int) × Unit)))))))
abbrev XA : Type := (Int × ((List Int) × (List (List Int))))
def t (f_0 f_1 : Int) (f_2 : (List Int)) (n h0_1 h0_2 : Int) (h0_3 : Bool) (h0_4 : Int) (h0_5 : (List Int)) (h0_6 : (List (List Int))) (h1_1 h1_2 h1_3 h1_4 h1_5 h1_6 h2_1 h2_3 : Int) (h2_4 : Bool) (h2_5 : Int) (h3 : (List Int)) (h4 : (List Int)) (h5 : (List Int)) : Tw XA :=
 (.bb (f_0 == (1 : Int))
 (.ret ((w64 (h0_2 + n)), (f_2, ([] : List (List Int)))))
 (.dd (((((List.length h0_6) * (24 : Nat)) ≤ (140737488355328 : Nat)) ∧ ((List.length h0_6) ≤ (140737488355328 : Nat)))) inferInstance
 (.dd ((((((List.length h0_6) + (List.length (f_2 :: ([] : List (List Int))))) * (24 : Nat)) ≤ (140737488355328 : Nat)) ∧ (((List.length h0_6) + (List.length (f_2 :: ([] : List (List Int))))) ≤ (140737488355328 : Nat)))) inferInstance
 (.ret ((w64 (h0_2 + n)), (h0_5, (h0_6 ++ (f_2 :: ([] : List (List Int)))))))
 .no)
 .no))
def c (f_0 f_1 : Int) (f_2 : (List Int)) (n h0_1 h0_2 : Int) (h0_3 : Bool) (h0_4 : Int) (h0_5 : (List Int)) (h0_6 : (List (List Int))) (h1_1 h1_2 h1_3 h1_4 h1_5 h1_6 h2_1 h2_3 : Int) (h2_4 : Bool) (h2_5 : Int) (h3 : (List Int)) (h4 : (List Int)) (h5 : (List Int)) : Option XA := (t f_0 f_1 f_2 n h0_1 h0_2 h0_3 h0_4 h0_5 h0_6 h1_1 h1_2 h1_3 h1_4 h1_5 h1_6 h2_1 h2_3 h2_4 h2_5 h3 h4 h5).run
def tl (l : TA) : Tw XA := t l.1.2.1.1 l.1.2.1.2.1 l.1.2.1.2.2.1 l.1.2.2.1 l.2.1.2.1 l.2.1.2.2.1 l.2.1.2.2.2.1 l.2.1.2.2.2.2.1 l.2.1.2.2.2.2.2.1 l.2.1.2.2.2.2.2.2.1 l.2.2.1.2.1 l.2.2.1.2.2.1 l.2.2.1.2.2.2.1 l.2.2.1.2.2.2.2.1 l.2.2.1.2.2.2.2.2.1 l.2.2.1.2.2.2.2.2.2.1 l.2.2.2.1.2.1 l.2.2.2.1.2.2.2.1 l.2.2.2.1.2.2.2.2.1 l.2.2.2.1.2.2.2.2.2.1 l.2.2.2.2.1 l.2.2.2.2.2.1 l.2.2.2.2.2.2.1
def cl (l : TA) : Option XA := (tl l).run
def pA : Pt := (.cs (.ptr 0 0) (.cs (.agg (jC (jC (.cs (.sl 3) .nl)))) (jC .nl)))
def pH : Pt := (.cs (.var (.cs (.ptr 1 0) (jC (jC (.cs .bool (jC (.cs (.sl 3) (.cs (.sl 12) .nl)))))))) (.cs (.var (.cs (.ptr 2 0) (jC (jC (jC (jC (jC (jC .nl)))))))) (.cs (.var (.cs (.own 3) (jC (.cs (.own 4) (jC (.cs .bool (jC (.cs (.own 5) .nl)))))))) (.cs (.row 3 true) (.cs (.row 1 true) (.cs (.row 3 true) .nl))))))
def v (l : TA) (y : XA) : AV U := .tup []
def hh (l : TA) (y : XA) : Hp U := [.var [.ptr 1 0, jI l.2.1.2.1, jI y.1, jB l.2.1.2.2.2.1, jI l.1.2.1.2.1, .im (.slice 3 y.2.1), .im (.slice 12 y.2.2)], .var [.ptr 2 0, jI l.2.2.1.2.1, jI l.2.2.1.2.2.1, jI l.2.2.1.2.2.2.1, jI l.2.2.1.2.2.2.2.1, jI l.2.2.1.2.2.2.2.2.1, jI l.2.2.1.2.2.2.2.2.2.1], .var [.own 3, jI l.2.2.2.1.2.1, .own 4, jI l.2.2.2.1.2.2.2.1, jB l.2.2.2.1.2.2.2.2.1, jI l.2.2.2.1.2.2.2.2.2.1, .own 5], .row 3 l.2.2.2.2.1 true, .row 1 l.2.2.2.2.2.1 true, .row 3 l.2.2.2.2.2.2.1 true]
def A : AFun U := mkA (U := U) pA pH (X := XA) cl sp1 v hh
def body : Code := (Go.Func.body Tryz.f59).getD .skip
def Γ : List (FuncId × AFun U) := []
def Λ : List (Nat × LFun U) := []
def CT : List (Nat × LFun U) := []
def ro : List FuncId := []
def D : Nat → Lv × Lv := dtab []
def E : Env U := { E0 with Γ := Γ, Λ := Λ, C := CT, D := D, ro := ro, pre := [(0, [.to 6], .im 12)], kill := [], tr := false }
theorem hk (R : Type) (l : TA) (K : AV U → Hp U → Option R) : funcA E Tryz.f59 [] R (pA.mkL l.1) (pH.mkH l.2) K = (tl l).runK fun y => K (v l y) (hh l y) := by kernel_rfl
theorem okF : SoundF Tryz.prog cc 59 (funcA E Tryz.f59 []) :=
  funcA_ok (E := E) P_mixed ((E0_ok.with Γ Λ CT D ro).pre [(0, [.to 6], .im 12)] [] false) (gam_of all_nil all_nil) Tryz.func59 (c := body) (by kernel_rfl)
    (just_by (by kernel_rfl) (by kernel_rfl) all_nil all_nil) []
theorem ok : SoundF Tryz.prog cc 59 A :=
  mkA_ok (E := E) (p := pA) (q := pH) (t := tl) sp1_ok hk okF
theorem fo : FnOK Tryz.prog 59 := ⟨Tryz.f59, Tryz.func59, by kernel_rfl, by kernel_rfl⟩
end ref11_Journal_add_v2

/-! (*instar/instarref11.Journal).turn -/
namespace ref11_Journal_turn_v2
abbrev TA : Type := ((Unit × ((List Int) × (Int × Unit))) × ((Unit × (Int × (Int × (Bool × (Int × ((List Int) × ((List (List Int)) × Unit))))))) × ((Unit × (Int × (Int × (Int × (Int × (Int × (Int × Unit))))))) × ((Unit × (Int × (Unit × (Int × (Bool × (Int × (Unit × Unit))))))) × ((List Int) × ((List Int) × ((List Int) × Unit)))))))
abbrev XA : Type := (Int × (Int × (Int × (Bool × (Int × ((List Int) × ((List (List Int)) × (Int × (Bool × (Int × ((List Int) × (List Int))))))))))))
def t (whole : (List Int)) (seq h0_1 h0_2 : Int) (h0_3 : Bool) (h0_4 : Int) (h0_5 : (List Int)) (h0_6 : (List (List Int))) (h1_1 h1_2 h1_3 h1_4 h1_5 h1_6 h2_1 h2_3 : Int) (h2_4 : Bool) (h2_5 : Int) (h3 : (List Int)) (h4 : (List Int)) (h5 : (List Int)) : Tw XA :=
 (.dd (((((List.length whole) * (4 : Nat)) ≤ (140737488355328 : Nat)) ∧ ((List.length whole) ≤ (140737488355328 : Nat)))) inferInstance
 (.opt (ref10_Lay.c (1 : Int) seq whole) fun z1 =>
 (.opt (ref09_Drive_Fresh.c (w64 ((1 : Int) - h0_1)) z1 h1_1 h1_2 h1_3 h1_4 h1_5 h1_6 h2_1 h2_3 h2_4 h2_5 h3 h4 h5) fun z2 =>
 (.bb (z2.1 != (0 : Int))
 (.ret (z2.1, (h0_1, (h0_2, (h0_3, (h0_4, (h0_5, (h0_6, (z2.2.1, (z2.2.2.1, (z2.2.2.2.1, (z2.2.2.2.2.1, z2.2.2.2.2.2))))))))))))
 (.opt (ref11_Journal_add_v2.c (1 : Int) seq whole (((List.length z1) : Nat) : Int) (w64 ((1 : Int) - h0_1)) (0 : Int) false h0_4 h0_5 h0_6 h1_1 h1_2 h1_3 h1_4 h1_5 h1_6 h2_1 z2.2.1 z2.2.2.1 z2.2.2.2.1 z2.2.2.2.2.1 z2.2.2.2.2.2 h5) fun z3 =>
 (.ret ((0 : Int), ((w64 ((1 : Int) - h0_1)), (z3.1, (false, (seq, (z3.2.1, (z3.2.2, (z2.2.1, (z2.2.2.1, (z2.2.2.2.1, (z2.2.2.2.2.1, z2.2.2.2.2.2))))))))))))))))
 .no)
def c (whole : (List Int)) (seq h0_1 h0_2 : Int) (h0_3 : Bool) (h0_4 : Int) (h0_5 : (List Int)) (h0_6 : (List (List Int))) (h1_1 h1_2 h1_3 h1_4 h1_5 h1_6 h2_1 h2_3 : Int) (h2_4 : Bool) (h2_5 : Int) (h3 : (List Int)) (h4 : (List Int)) (h5 : (List Int)) : Option XA := (t whole seq h0_1 h0_2 h0_3 h0_4 h0_5 h0_6 h1_1 h1_2 h1_3 h1_4 h1_5 h1_6 h2_1 h2_3 h2_4 h2_5 h3 h4 h5).run
def tl (l : TA) : Tw XA := t l.1.2.1 l.1.2.2.1 l.2.1.2.1 l.2.1.2.2.1 l.2.1.2.2.2.1 l.2.1.2.2.2.2.1 l.2.1.2.2.2.2.2.1 l.2.1.2.2.2.2.2.2.1 l.2.2.1.2.1 l.2.2.1.2.2.1 l.2.2.1.2.2.2.1 l.2.2.1.2.2.2.2.1 l.2.2.1.2.2.2.2.2.1 l.2.2.1.2.2.2.2.2.2.1 l.2.2.2.1.2.1 l.2.2.2.1.2.2.2.1 l.2.2.2.1.2.2.2.2.1 l.2.2.2.1.2.2.2.2.2.1 l.2.2.2.2.1 l.2.2.2.2.2.1 l.2.2.2.2.2.2.1
def cl (l : TA) : Option XA := (tl l).run
def pA : Pt := (.cs (.ptr 0 0) (.cs (.sl 3) (jC .nl)))
def pH : Pt := (.cs (.var (.cs (.ptr 1 0) (jC (jC (.cs .bool (jC (.cs (.sl 3) (.cs (.sl 12) .nl)))))))) (.cs (.var (.cs (.ptr 2 0) (jC (jC (jC (jC (jC (jC .nl)))))))) (.cs (.var (.cs (.own 3) (jC (.cs (.own 4) (jC (.cs .bool (jC (.cs (.own 5) .nl)))))))) (.cs (.row 3 true) (.cs (.row 1 true) (.cs (.row 3 true) .nl))))))
def v (l : TA) (y : XA) : AV U := jI y.1
def hh (l : TA) (y : XA) : Hp U := [.var [.ptr 1 0, jI y.2.1, jI y.2.2.1, jB y.2.2.2.1, jI y.2.2.2.2.1, .im (.slice 3 y.2.2.2.2.2.1), .im (.slice 12 y.2.2.2.2.2.2.1)], .var [.ptr 2 0, jI l.2.2.1.2.1, jI l.2.2.1.2.2.1, jI l.2.2.1.2.2.2.1, jI l.2.2.1.2.2.2.2.1, jI l.2.2.1.2.2.2.2.2.1, jI l.2.2.1.2.2.2.2.2.2.1], .var [.own 3, jI l.2.2.2.1.2.1, .own 4, jI y.2.2.2.2.2.2.2.1, jB y.2.2.2.2.2.2.2.2.1, jI y.2.2.2.2.2.2.2.2.2.1, .own 5], .row 3 y.2.2.2.2.2.2.2.2.2.2.1 true, .row 1 y.2.2.2.2.2.2.2.2.2.2.2 true, .row 3 l.2.2.2.2.2.2.1 true]
def A : AFun U := mkA (U := U) pA pH (X := XA) cl sp1 v hh
def body : Code := (Go.Func.body Tryz.f53).getD .skip
def Γ : List (FuncId × AFun U) := [(57, ref10_Lay.A), (72, ref09_Drive_Fresh.A), (59, ref11_Journal_add_v2.A)]
def Λ : List (Nat × LFun U) := []
def CT : List (Nat × LFun U) := []
def ro : List FuncId := []
def D : Nat → Lv × Lv := dtab []
def E : Env U := { E0 with Γ := Γ, Λ := Λ, C := CT, D := D, ro := ro, pre := [(0, [.to 6], .im 12)], kill := [], tr := false }
theorem hk (R : Type) (l : TA) (K : AV U → Hp U → Option R) : funcA E Tryz.f53 [] R (pA.mkL l.1) (pH.mkH l.2) K = (tl l).runK fun y => K (v l y) (hh l y) := by kernel_rfl
theorem okF : SoundF Tryz.prog cc 53 (funcA E Tryz.f53 []) :=
  funcA_ok (E := E) P_mixed ((E0_ok.with Γ Λ CT D ro).pre [(0, [.to 6], .im 12)] [] false) (gam_of (all_cons ⟨ref10_Lay.ok, ref10_Lay.fo⟩ (all_cons ⟨ref09_Drive_Fresh.ok, ref09_Drive_Fresh.fo⟩ (all_cons ⟨ref11_Journal_add_v2.ok, ref11_Journal_add_v2.fo⟩ all_nil))) no_ro) Tryz.func53 (c := body) (by kernel_rfl)
    (just_by (by kernel_rfl) (by kernel_rfl) all_nil all_nil) []
theorem ok : SoundF Tryz.prog cc 53 A :=
  mkA_ok (E := E) (p := pA) (q := pH) (t := tl) sp1_ok hk okF
theorem fo : FnOK Tryz.prog 53 := ⟨Tryz.f53, Tryz.func53, by kernel_rfl, by kernel_rfl⟩
end ref11_Journal_turn_v2

/-! (*instar/instarref11.Journal).Mend -/
namespace ref11_Journal_Mend
abbrev TA : Type := ((Unit × ((List Int) × Unit)) × ((Unit × (Int × (Int × (Bool × (Int × ((List Int) × ((List (List Int)) × Unit))))))) × ((Unit × (Int × (Int × (Int × (Int × (Int × (Int × Unit))))))) × ((Unit × (Int × (Unit × (Int × (Bool × (Int × (Unit × Unit))))))) × ((List Int) × ((List Int) × ((List Int) × Unit)))))))
abbrev XA : Type := (Int × (Int × (Int × (Bool × (Int × ((List Int) × ((List (List Int)) × (Int × (Bool × (Int × ((List Int) × (List Int))))))))))))
def t (whole : (List Int)) (h0_1 h0_2 : Int) (h0_3 : Bool) (h0_4 : Int) (h0_5 : (List Int)) (h0_6 : (List (List Int))) (h1_1 h1_2 h1_3 h1_4 h1_5 h1_6 h2_1 h2_3 : Int) (h2_4 : Bool) (h2_5 : Int) (h3 : (List Int)) (h4 : (List Int)) (h5 : (List Int)) : Tw XA :=
 (.opt (ref11_load.c whole) fun z1 =>
 (.bb (!z1)
 (.ret ((2 : Int), (h0_1, (h0_2, (h0_3, (h0_4, (h0_5, (h0_6, (h2_3, (h2_4, (h2_5, (h3, h4))))))))))))
 (.bb (!h0_3)
 (.ret ((0 : Int), (h0_1, (h0_2, (h0_3, (h0_4, (h0_5, (h0_6, (h2_3, (h2_4, (h2_5, (h3, h4))))))))))))
 (.bb (decide (h0_4 ≥ h1_6))
 (.ret ((0 : Int), (h0_1, (h0_2, (h0_3, (h0_4, (h0_5, (h0_6, (h2_3, (h2_4, (h2_5, (h3, h4))))))))))))
 (.opt (ref11_Journal_turn_v2.c whole (w64 (h0_4 + (1 : Int))) h0_1 h0_2 h0_3 h0_4 h0_5 h0_6 h1_1 h1_2 h1_3 h1_4 h1_5 h1_6 h2_1 h2_3 h2_4 h2_5 h3 h4 h5) fun z2 =>
 (.ret (z2.1, (z2.2.1, (z2.2.2.1, (z2.2.2.2.1, (z2.2.2.2.2.1, (z2.2.2.2.2.2.1, (z2.2.2.2.2.2.2.1, (z2.2.2.2.2.2.2.2.1, (z2.2.2.2.2.2.2.2.2.1, (z2.2.2.2.2.2.2.2.2.2.1, (z2.2.2.2.2.2.2.2.2.2.2.1, z2.2.2.2.2.2.2.2.2.2.2.2)))))))))))))))))
def c (whole : (List Int)) (h0_1 h0_2 : Int) (h0_3 : Bool) (h0_4 : Int) (h0_5 : (List Int)) (h0_6 : (List (List Int))) (h1_1 h1_2 h1_3 h1_4 h1_5 h1_6 h2_1 h2_3 : Int) (h2_4 : Bool) (h2_5 : Int) (h3 : (List Int)) (h4 : (List Int)) (h5 : (List Int)) : Option XA := (t whole h0_1 h0_2 h0_3 h0_4 h0_5 h0_6 h1_1 h1_2 h1_3 h1_4 h1_5 h1_6 h2_1 h2_3 h2_4 h2_5 h3 h4 h5).run
def tl (l : TA) : Tw XA := t l.1.2.1 l.2.1.2.1 l.2.1.2.2.1 l.2.1.2.2.2.1 l.2.1.2.2.2.2.1 l.2.1.2.2.2.2.2.1 l.2.1.2.2.2.2.2.2.1 l.2.2.1.2.1 l.2.2.1.2.2.1 l.2.2.1.2.2.2.1 l.2.2.1.2.2.2.2.1 l.2.2.1.2.2.2.2.2.1 l.2.2.1.2.2.2.2.2.2.1 l.2.2.2.1.2.1 l.2.2.2.1.2.2.2.1 l.2.2.2.1.2.2.2.2.1 l.2.2.2.1.2.2.2.2.2.1 l.2.2.2.2.1 l.2.2.2.2.2.1 l.2.2.2.2.2.2.1
def cl (l : TA) : Option XA := (tl l).run
def pA : Pt := (.cs (.ptr 0 0) (.cs (.sl 3) .nl))
def pH : Pt := (.cs (.var (.cs (.ptr 1 0) (jC (jC (.cs .bool (jC (.cs (.sl 3) (.cs (.sl 12) .nl)))))))) (.cs (.var (.cs (.ptr 2 0) (jC (jC (jC (jC (jC (jC .nl)))))))) (.cs (.var (.cs (.own 3) (jC (.cs (.own 4) (jC (.cs .bool (jC (.cs (.own 5) .nl)))))))) (.cs (.row 3 true) (.cs (.row 1 true) (.cs (.row 3 true) .nl))))))
def v (l : TA) (y : XA) : AV U := jI y.1
def hh (l : TA) (y : XA) : Hp U := [.var [.ptr 1 0, jI y.2.1, jI y.2.2.1, jB y.2.2.2.1, jI y.2.2.2.2.1, .im (.slice 3 y.2.2.2.2.2.1), .im (.slice 12 y.2.2.2.2.2.2.1)], .var [.ptr 2 0, jI l.2.2.1.2.1, jI l.2.2.1.2.2.1, jI l.2.2.1.2.2.2.1, jI l.2.2.1.2.2.2.2.1, jI l.2.2.1.2.2.2.2.2.1, jI l.2.2.1.2.2.2.2.2.2.1], .var [.own 3, jI l.2.2.2.1.2.1, .own 4, jI y.2.2.2.2.2.2.2.1, jB y.2.2.2.2.2.2.2.2.1, jI y.2.2.2.2.2.2.2.2.2.1, .own 5], .row 3 y.2.2.2.2.2.2.2.2.2.2.1 true, .row 1 y.2.2.2.2.2.2.2.2.2.2.2 true, .row 3 l.2.2.2.2.2.2.1 true]
def A : AFun U := mkA (U := U) pA pH (X := XA) cl sp1 v hh
def body : Code := (Go.Func.body Tryz.f38).getD .skip
def Γ : List (FuncId × AFun U) := [(51, ref11_load.A), (53, ref11_Journal_turn_v2.A)]
def Λ : List (Nat × LFun U) := []
def CT : List (Nat × LFun U) := []
def ro : List FuncId := []
def D : Nat → Lv × Lv := dtab []
def E : Env U := { E0 with Γ := Γ, Λ := Λ, C := CT, D := D, ro := ro, pre := [(0, [.to 6], .im 12)], kill := [], tr := false }
theorem hk (R : Type) (l : TA) (K : AV U → Hp U → Option R) : funcA E Tryz.f38 [] R (pA.mkL l.1) (pH.mkH l.2) K = (tl l).runK fun y => K (v l y) (hh l y) := by kernel_rfl
theorem okF : SoundF Tryz.prog cc 38 (funcA E Tryz.f38 []) :=
  funcA_ok (E := E) P_mixed ((E0_ok.with Γ Λ CT D ro).pre [(0, [.to 6], .im 12)] [] false) (gam_of (all_cons ⟨ref11_load.ok, ref11_load.fo⟩ (all_cons ⟨ref11_Journal_turn_v2.ok, ref11_Journal_turn_v2.fo⟩ all_nil)) no_ro) Tryz.func38 (c := body) (by kernel_rfl)
    (just_by (by kernel_rfl) (by kernel_rfl) all_nil all_nil) []
theorem ok : SoundF Tryz.prog cc 38 A :=
  mkA_ok (E := E) (p := pA) (q := pH) (t := tl) sp1_ok hk okF
theorem fo : FnOK Tryz.prog 38 := ⟨Tryz.f38, Tryz.func38, by kernel_rfl, by kernel_rfl⟩
end ref11_Journal_Mend

/-! (*instar/instarref11.Journal).Put -/
namespace ref11_Journal_Put
abbrev TA : Type := ((Unit × (Int × ((List Int) × ((List Int) × Unit)))) × ((Unit × (Int × (Int × (Bool × (Int × ((List Int) × ((List (List Int)) × Unit))))))) × ((Unit × (Int × (Int × (Int × (Int × (Int × (Int × Unit))))))) × ((Unit × (Int × (Unit × (Int × (Bool × (Int × (Unit × Unit))))))) × ((List Int) × ((List Int) × ((List Int) × Unit)))))))
abbrev XA : Type := (Int × (Int × (Int × (Bool × (Int × ((List Int) × ((List (List Int)) × (Int × (Bool × (Int × ((List Int) × (List Int))))))))))))
def t (kind : Int) (l_ : (List Int)) (whole : (List Int)) (h0_1 h0_2 : Int) (h0_3 : Bool) (h0_4 : Int) (h0_5 : (List Int)) (h0_6 : (List (List Int))) (h1_1 h1_2 h1_3 h1_4 h1_5 h1_6 h2_1 h2_3 : Int) (h2_4 : Bool) (h2_5 : Int) (h3 : (List Int)) (h4 : (List Int)) (h5 : (List Int)) : Tw XA :=
 (.opt (ref11_load.c l_) fun z1 =>
 (.bb (!z1)
 (.ret ((2 : Int), (h0_1, (h0_2, (h0_3, (h0_4, (h0_5, (h0_6, (h2_3, (h2_4, (h2_5, (h3, h4))))))))))))
 (.opt (ref11_load.c whole) fun z2 =>
 (.bb (!z2)
 (.ret ((2 : Int), (h0_1, (h0_2, (h0_3, (h0_4, (h0_5, (h0_6, (h2_3, (h2_4, (h2_5, (h3, h4))))))))))))
 (.bb (decide (h0_4 ≥ h1_6))
 (.ret ((13 : Int), (h0_1, (h0_2, (h0_3, (h0_4, (h0_5, (h0_6, (h2_3, (h2_4, (h2_5, (h3, h4))))))))))))
 (.dd (((((List.length l_) * (4 : Nat)) ≤ (140737488355328 : Nat)) ∧ ((List.length l_) ≤ (140737488355328 : Nat)))) inferInstance
 (.opt (ref10_Lay.c kind (w64 (h0_4 + (1 : Int))) l_) fun z3 =>
 (.bb h0_3
 (.opt (ref11_Journal_turn_v2.c whole (w64 (h0_4 + (1 : Int))) h0_1 h0_2 h0_3 h0_4 h0_5 h0_6 h1_1 h1_2 h1_3 h1_4 h1_5 h1_6 h2_1 h2_3 h2_4 h2_5 h3 h4 h5) fun z7 =>
 (.ret (z7.1, (z7.2.1, (z7.2.2.1, (z7.2.2.2.1, (z7.2.2.2.2.1, (z7.2.2.2.2.2.1, (z7.2.2.2.2.2.2.1, (z7.2.2.2.2.2.2.2.1, (z7.2.2.2.2.2.2.2.2.1, (z7.2.2.2.2.2.2.2.2.2.1, (z7.2.2.2.2.2.2.2.2.2.2.1, z7.2.2.2.2.2.2.2.2.2.2.2)))))))))))))
 (.bb (decide ((w64 (h0_2 + (((List.length z3) : Nat) : Int))) > h1_1))
 (.opt (ref11_Journal_turn_v2.c whole (w64 (h0_4 + (1 : Int))) h0_1 h0_2 h0_3 h0_4 h0_5 h0_6 h1_1 h1_2 h1_3 h1_4 h1_5 h1_6 h2_1 h2_3 h2_4 h2_5 h3 h4 h5) fun z6 =>
 (.ret (z6.1, (z6.2.1, (z6.2.2.1, (z6.2.2.2.1, (z6.2.2.2.2.1, (z6.2.2.2.2.2.1, (z6.2.2.2.2.2.2.1, (z6.2.2.2.2.2.2.2.1, (z6.2.2.2.2.2.2.2.2.1, (z6.2.2.2.2.2.2.2.2.2.1, (z6.2.2.2.2.2.2.2.2.2.2.1, z6.2.2.2.2.2.2.2.2.2.2.2)))))))))))))
 (.opt (ref09_Drive_Write.c h0_1 h0_2 z3 h1_1 h1_2 h1_3 h1_4 h1_5 h1_6 h2_1 h2_3 h2_4 h2_5 h3 h4 h5) fun z4 =>
 (.bb (z4.1 != (0 : Int))
 (.ret (z4.1, (h0_1, (h0_2, (h0_3, (h0_4, (h0_5, (h0_6, (z4.2.1, (z4.2.2.1, (z4.2.2.2.1, (z4.2.2.2.2, h4))))))))))))
 (.opt (ref11_Journal_add_v2.c kind (w64 (h0_4 + (1 : Int))) l_ (((List.length z3) : Nat) : Int) h0_1 h0_2 h0_3 h0_4 h0_5 h0_6 h1_1 h1_2 h1_3 h1_4 h1_5 h1_6 h2_1 z4.2.1 z4.2.2.1 z4.2.2.2.1 z4.2.2.2.2 h4 h5) fun z5 =>
 (.ret ((0 : Int), (h0_1, (z5.1, (h0_3, ((w64 (h0_4 + (1 : Int))), (z5.2.1, (z5.2.2, (z4.2.1, (z4.2.2.1, (z4.2.2.2.1, (z4.2.2.2.2, h4))))))))))))))))))
 .no))))))
def c (kind : Int) (l_ : (List Int)) (whole : (List Int)) (h0_1 h0_2 : Int) (h0_3 : Bool) (h0_4 : Int) (h0_5 : (List Int)) (h0_6 : (List (List Int))) (h1_1 h1_2 h1_3 h1_4 h1_5 h1_6 h2_1 h2_3 : Int) (h2_4 : Bool) (h2_5 : Int) (h3 : (List Int)) (h4 : (List Int)) (h5 : (List Int)) : Option XA := (t kind l_ whole h0_1 h0_2 h0_3 h0_4 h0_5 h0_6 h1_1 h1_2 h1_3 h1_4 h1_5 h1_6 h2_1 h2_3 h2_4 h2_5 h3 h4 h5).run
def tl (l : TA) : Tw XA := t l.1.2.1 l.1.2.2.1 l.1.2.2.2.1 l.2.1.2.1 l.2.1.2.2.1 l.2.1.2.2.2.1 l.2.1.2.2.2.2.1 l.2.1.2.2.2.2.2.1 l.2.1.2.2.2.2.2.2.1 l.2.2.1.2.1 l.2.2.1.2.2.1 l.2.2.1.2.2.2.1 l.2.2.1.2.2.2.2.1 l.2.2.1.2.2.2.2.2.1 l.2.2.1.2.2.2.2.2.2.1 l.2.2.2.1.2.1 l.2.2.2.1.2.2.2.1 l.2.2.2.1.2.2.2.2.1 l.2.2.2.1.2.2.2.2.2.1 l.2.2.2.2.1 l.2.2.2.2.2.1 l.2.2.2.2.2.2.1
def cl (l : TA) : Option XA := (tl l).run
def pA : Pt := (.cs (.ptr 0 0) (jC (.cs (.sl 3) (.cs (.sl 3) .nl))))
def pH : Pt := (.cs (.var (.cs (.ptr 1 0) (jC (jC (.cs .bool (jC (.cs (.sl 3) (.cs (.sl 12) .nl)))))))) (.cs (.var (.cs (.ptr 2 0) (jC (jC (jC (jC (jC (jC .nl)))))))) (.cs (.var (.cs (.own 3) (jC (.cs (.own 4) (jC (.cs .bool (jC (.cs (.own 5) .nl)))))))) (.cs (.row 3 true) (.cs (.row 1 true) (.cs (.row 3 true) .nl))))))
def v (l : TA) (y : XA) : AV U := jI y.1
def hh (l : TA) (y : XA) : Hp U := [.var [.ptr 1 0, jI y.2.1, jI y.2.2.1, jB y.2.2.2.1, jI y.2.2.2.2.1, .im (.slice 3 y.2.2.2.2.2.1), .im (.slice 12 y.2.2.2.2.2.2.1)], .var [.ptr 2 0, jI l.2.2.1.2.1, jI l.2.2.1.2.2.1, jI l.2.2.1.2.2.2.1, jI l.2.2.1.2.2.2.2.1, jI l.2.2.1.2.2.2.2.2.1, jI l.2.2.1.2.2.2.2.2.2.1], .var [.own 3, jI l.2.2.2.1.2.1, .own 4, jI y.2.2.2.2.2.2.2.1, jB y.2.2.2.2.2.2.2.2.1, jI y.2.2.2.2.2.2.2.2.2.1, .own 5], .row 3 y.2.2.2.2.2.2.2.2.2.2.1 true, .row 1 y.2.2.2.2.2.2.2.2.2.2.2 true, .row 3 l.2.2.2.2.2.2.1 true]
def A : AFun U := mkA (U := U) pA pH (X := XA) cl sp1 v hh
def body : Code := (Go.Func.body Tryz.f37).getD .skip
def Γ : List (FuncId × AFun U) := [(51, ref11_load.A), (57, ref10_Lay.A), (58, ref09_Drive_Write.A), (59, ref11_Journal_add_v2.A), (53, ref11_Journal_turn_v2.A)]
def Λ : List (Nat × LFun U) := []
def CT : List (Nat × LFun U) := []
def ro : List FuncId := []
def D : Nat → Lv × Lv := dtab []
def E : Env U := { E0 with Γ := Γ, Λ := Λ, C := CT, D := D, ro := ro, pre := [(0, [.to 6], .im 12)], kill := [], tr := false }
theorem hk (R : Type) (l : TA) (K : AV U → Hp U → Option R) : funcA E Tryz.f37 [] R (pA.mkL l.1) (pH.mkH l.2) K = (tl l).runK fun y => K (v l y) (hh l y) := by kernel_rfl
theorem okF : SoundF Tryz.prog cc 37 (funcA E Tryz.f37 []) :=
  funcA_ok (E := E) P_mixed ((E0_ok.with Γ Λ CT D ro).pre [(0, [.to 6], .im 12)] [] false) (gam_of (all_cons ⟨ref11_load.ok, ref11_load.fo⟩ (all_cons ⟨ref10_Lay.ok, ref10_Lay.fo⟩ (all_cons ⟨ref09_Drive_Write.ok, ref09_Drive_Write.fo⟩ (all_cons ⟨ref11_Journal_add_v2.ok, ref11_Journal_add_v2.fo⟩ (all_cons ⟨ref11_Journal_turn_v2.ok, ref11_Journal_turn_v2.fo⟩ all_nil))))) no_ro) Tryz.func37 (c := body) (by kernel_rfl)
    (just_by (by kernel_rfl) (by kernel_rfl) all_nil all_nil) []
theorem ok : SoundF Tryz.prog cc 37 A :=
  mkA_ok (E := E) (p := pA) (q := pH) (t := tl) sp1_ok hk okF
theorem fo : FnOK Tryz.prog 37 := ⟨Tryz.f37, Tryz.func37, by kernel_rfl, by kernel_rfl⟩
end ref11_Journal_Put

/-! instar/instarref11.scan -/
namespace ref11_scan
abbrev TA : Type := ((Unit × (Int × Unit)) × ((Unit × (Int × (Int × (Int × (Int × (Int × (Int × Unit))))))) × ((Unit × (Int × (Unit × (Int × (Bool × (Int × (Unit × Unit))))))) × ((List Int) × ((List Int) × ((List Int) × Unit))))))
abbrev XA : Type := (Int × (Bool × (Int × ((List Int) × (List (List Int))))))
abbrev T4 : Type := ((Unit × (Int × (Unit × (Unit × (Unit × (Unit × (Unit × (Int × (Unit × Unit))))))))) × ((Unit × (Int × (Int × (Int × (Int × (Int × (Int × Unit))))))) × ((Unit × (Int × (Unit × (Int × (Bool × (Int × (Unit × Unit))))))) × ((List Int) × ((List Int) × ((List Int) × ((Unit × (Int × (Int × (Bool × (Int × (Unit × (Unit × Unit))))))) × ((Unit × (Int × (Int × (Bool × (Int × ((List Int) × ((List (List Int)) × Unit))))))) × ((List Int) × Unit)))))))))
abbrev S4 : Type := (Int × (Int × (Int × ((List Int) × (List (List Int))))))
abbrev X4 : Type := (Int × (Int × ((List Int) × (List (List Int)))))
def l4 (sector h0_1 h0_2 h0_3 h0_4 h0_5 h0_6 h1_1 h1_3 : Int) (h1_4 : Bool) (h1_5 : Int) (h2 : (List Int)) (h3 : (List Int)) (h4 : (List Int)) (h5_1 h5_2 : Int) (h5_3 : Bool) (h5_4 h6_1 : Int) (h6_3 : Bool) (h7 : (List Int)) (i h6_2 h6_4 : Int) (h6_5 : (List Int)) (h6_6 : (List (List Int))) : Tw (S4 ⊕ X4) :=
 (.bb (decide (i < (((List.length h7) : Nat) : Int)))
 (.dd ((((0 : Int) ≤ h6_2) ∧ (h6_2 ≤ (((List.length h7) : Nat) : Int)))) inferInstance
 (.opt (ref10_Read.c (List.take ((List.length h7) - (Int.toNat h6_2)) (List.drop (Int.toNat h6_2) h7))) fun z2 =>
 (.bb (!z2.2.2.2.1)
 (.ret (.inr (h6_2, (h6_4, (h6_5, h6_6)))))
 (.bb (h6_4 == (0 : Int))
 (.bb (z2.1 != (1 : Int))
 (.ret (.inr (h6_2, (h6_4, (h6_5, h6_6)))))
 (.bb (h6_4 != (0 : Int))
 (.bb (z2.2.1 != (w64 (h6_4 + (1 : Int))))
 (.ret (.inr (h6_2, (h6_4, (h6_5, h6_6)))))
 (.opt (ref11_Journal_add_v2.c z2.1 z2.2.1 z2.2.2.2.2 z2.2.2.1 h6_1 h6_2 h6_3 h6_4 h6_5 h6_6 h0_1 h0_2 h0_3 h0_4 h0_5 h0_6 h1_1 h1_3 h1_4 h1_5 h2 h3 h4) fun z6 =>
 (.ret (.inl ((w64 (i + (1 : Int))), (z6.1, (z2.2.1, (z6.2.1, z6.2.2))))))))
 (.opt (ref11_Journal_add_v2.c z2.1 z2.2.1 z2.2.2.2.2 z2.2.2.1 h6_1 h6_2 h6_3 h6_4 h6_5 h6_6 h0_1 h0_2 h0_3 h0_4 h0_5 h0_6 h1_1 h1_3 h1_4 h1_5 h2 h3 h4) fun z5 =>
 (.ret (.inl ((w64 (i + (1 : Int))), (z5.1, (z2.2.1, (z5.2.1, z5.2.2)))))))))
 (.bb (h6_4 != (0 : Int))
 (.bb (z2.2.1 != (w64 (h6_4 + (1 : Int))))
 (.ret (.inr (h6_2, (h6_4, (h6_5, h6_6)))))
 (.opt (ref11_Journal_add_v2.c z2.1 z2.2.1 z2.2.2.2.2 z2.2.2.1 h6_1 h6_2 h6_3 h6_4 h6_5 h6_6 h0_1 h0_2 h0_3 h0_4 h0_5 h0_6 h1_1 h1_3 h1_4 h1_5 h2 h3 h4) fun z4 =>
 (.ret (.inl ((w64 (i + (1 : Int))), (z4.1, (z2.2.1, (z4.2.1, z4.2.2))))))))
 (.opt (ref11_Journal_add_v2.c z2.1 z2.2.1 z2.2.2.2.2 z2.2.2.1 h6_1 h6_2 h6_3 h6_4 h6_5 h6_6 h0_1 h0_2 h0_3 h0_4 h0_5 h0_6 h1_1 h1_3 h1_4 h1_5 h2 h3 h4) fun z3 =>
 (.ret (.inl ((w64 (i + (1 : Int))), (z3.1, (z2.2.1, (z3.2.1, z3.2.2)))))))))))
 .no)
 (.ret (.inr (h6_2, (h6_4, (h6_5, h6_6))))))
def L4 (sector i h0_1 h0_2 h0_3 h0_4 h0_5 h0_6 h1_1 h1_3 : Int) (h1_4 : Bool) (h1_5 : Int) (h2 : (List Int)) (h3 : (List Int)) (h4 : (List Int)) (h5_1 h5_2 : Int) (h5_3 : Bool) (h5_4 h6_1 h6_2 : Int) (h6_3 : Bool) (h6_4 : Int) (h6_5 : (List Int)) (h6_6 : (List (List Int))) (h7 : (List Int)) : Option X4 := Lp (fun s => (l4 sector h0_1 h0_2 h0_3 h0_4 h0_5 h0_6 h1_1 h1_3 h1_4 h1_5 h2 h3 h4 h5_1 h5_2 h5_3 h5_4 h6_1 h6_3 h7 s.1 s.2.1 s.2.2.1 s.2.2.2.1 s.2.2.2.2).run) (i, (h6_2, (h6_4, (h6_5, h6_6))))
def p4 : Pt := (.cs (.ptr 0 0) (jC (.cs (.bots 2) (.cs (.ptr 5 0) (.cs (.ptr 6 0) (.cs (.own 7) (.cs (.bots 1) (jC (.cs (.bots 74) .nl)))))))))
def q4 : Pt := (.cs (.var (.cs (.ptr 1 0) (jC (jC (jC (jC (jC (jC .nl)))))))) (.cs (.var (.cs (.own 2) (jC (.cs (.own 3) (jC (.cs .bool (jC (.cs (.own 4) .nl)))))))) (.cs (.row 3 true) (.cs (.row 1 true) (.cs (.row 3 true) (.cs (.var (.cs .nilp (jC (jC (.cs .bool (jC (.cs .nils (.cs .nils .nl)))))))) (.cs (.var (.cs (.ptr 0 0) (jC (jC (.cs .bool (jC (.cs (.sl 3) (.cs (.sl 12) .nl)))))))) (.cs (.row 3 true) .nl))))))))
def ou4 (l : T4) (y : X4) : Ex × St U := (.exit 0, stOf 83 [(0, .ptr 0 0), (1, jI l.1.2.1), (4, .ptr 5 0), (5, .ptr 6 0)] [.var [.ptr 1 0, jI l.2.1.2.1, jI l.2.1.2.2.1, jI l.2.1.2.2.2.1, jI l.2.1.2.2.2.2.1, jI l.2.1.2.2.2.2.2.1, jI l.2.1.2.2.2.2.2.2.1], .var [.own 2, jI l.2.2.1.2.1, .own 3, jI l.2.2.1.2.2.2.1, jB l.2.2.1.2.2.2.2.1, jI l.2.2.1.2.2.2.2.2.1, .own 4], .row 3 l.2.2.2.1 true, .row 1 l.2.2.2.2.1 true, .row 3 l.2.2.2.2.2.1 true, .var [.im .nilp, jI l.2.2.2.2.2.2.1.2.1, jI l.2.2.2.2.2.2.1.2.2.1, jB l.2.2.2.2.2.2.1.2.2.2.1, jI l.2.2.2.2.2.2.1.2.2.2.2.1, .im .nils, .im .nils], .var [.ptr 0 0, jI l.2.2.2.2.2.2.2.1.2.1, jI y.1, jB l.2.2.2.2.2.2.2.1.2.2.2.1, jI y.2.1, .im (.slice 3 y.2.2.1), .im (.slice 12 y.2.2.2)]] 5)
def Λ4 : LFun U := mkLp (U := U) p4 q4 5 (X := X4) (fun (l : T4) => L4 l.1.2.1 l.1.2.2.2.2.2.2.2.1 l.2.1.2.1 l.2.1.2.2.1 l.2.1.2.2.2.1 l.2.1.2.2.2.2.1 l.2.1.2.2.2.2.2.1 l.2.1.2.2.2.2.2.2.1 l.2.2.1.2.1 l.2.2.1.2.2.2.1 l.2.2.1.2.2.2.2.1 l.2.2.1.2.2.2.2.2.1 l.2.2.2.1 l.2.2.2.2.1 l.2.2.2.2.2.1 l.2.2.2.2.2.2.1.2.1 l.2.2.2.2.2.2.1.2.2.1 l.2.2.2.2.2.2.1.2.2.2.1 l.2.2.2.2.2.2.1.2.2.2.2.1 l.2.2.2.2.2.2.2.1.2.1 l.2.2.2.2.2.2.2.1.2.2.1 l.2.2.2.2.2.2.2.1.2.2.2.1 l.2.2.2.2.2.2.2.1.2.2.2.2.1 l.2.2.2.2.2.2.2.1.2.2.2.2.2.1 l.2.2.2.2.2.2.2.1.2.2.2.2.2.2.1 l.2.2.2.2.2.2.2.2.1) sp1 ou4
def hd4 (l : T4) (s : S4) : T4 := (((), (l.1.2.1, ((), ((), ((), ((), ((), (s.1, ((), ()))))))))), (((), (l.2.1.2.1, (l.2.1.2.2.1, (l.2.1.2.2.2.1, (l.2.1.2.2.2.2.1, (l.2.1.2.2.2.2.2.1, (l.2.1.2.2.2.2.2.2.1, ()))))))), (((), (l.2.2.1.2.1, ((), (l.2.2.1.2.2.2.1, (l.2.2.1.2.2.2.2.1, (l.2.2.1.2.2.2.2.2.1, ((), ()))))))), (l.2.2.2.1, (l.2.2.2.2.1, (l.2.2.2.2.2.1, (((), (l.2.2.2.2.2.2.1.2.1, (l.2.2.2.2.2.2.1.2.2.1, (l.2.2.2.2.2.2.1.2.2.2.1, (l.2.2.2.2.2.2.1.2.2.2.2.1, ((), ((), ()))))))), (((), (l.2.2.2.2.2.2.2.1.2.1, (s.2.1, (l.2.2.2.2.2.2.2.1.2.2.2.1, (s.2.2.1, (s.2.2.2.1, (s.2.2.2.2, ()))))))), (l.2.2.2.2.2.2.2.2.1, ())))))))))
def fl4 (l : T4) (s : S4) : Tw (S4 ⊕ X4) := l4 l.1.2.1 l.2.1.2.1 l.2.1.2.2.1 l.2.1.2.2.2.1 l.2.1.2.2.2.2.1 l.2.1.2.2.2.2.2.1 l.2.1.2.2.2.2.2.2.1 l.2.2.1.2.1 l.2.2.1.2.2.2.1 l.2.2.1.2.2.2.2.1 l.2.2.1.2.2.2.2.2.1 l.2.2.2.1 l.2.2.2.2.1 l.2.2.2.2.2.1 l.2.2.2.2.2.2.1.2.1 l.2.2.2.2.2.2.1.2.2.1 l.2.2.2.2.2.2.1.2.2.2.1 l.2.2.2.2.2.2.1.2.2.2.2.1 l.2.2.2.2.2.2.2.1.2.1 l.2.2.2.2.2.2.2.1.2.2.2.1 l.2.2.2.2.2.2.2.2.1 s.1 s.2.1 s.2.2.1 s.2.2.2.1 s.2.2.2.2
def t (sector h0_1 h0_2 h0_3 h0_4 h0_5 h0_6 h1_1 h1_3 : Int) (h1_4 : Bool) (h1_5 : Int) (h2 : (List Int)) (h3 : (List Int)) (h4 : (List Int)) : Tw XA :=
 (.opt (ref09_Drive_Read.c sector (0 : Int) h0_1 h0_1 h0_2 h0_3 h0_4 h0_5 h0_6 h1_1 h1_3 h1_4 h1_5 h2 h3 h4) fun z1 =>
 (.opt (L4 sector (0 : Int) h0_1 h0_2 h0_3 h0_4 h0_5 h0_6 h1_1 h1_3 h1_4 h1_5 h2 h3 h4 (0 : Int) (0 : Int) false (0 : Int) sector (0 : Int) false (0 : Int) ([] : List (Int)) ([] : List (List Int)) z1.2) fun z7 =>
 (.opt (ref09_Drive_Blank.c sector z7.1 h0_1 h0_2 h0_3 h0_4 h0_5 h0_6 h1_1 h1_3 h1_4 h1_5 h2 h3 h4) fun z8 =>
 (.ret (z7.1, ((!z8.1), (z7.2.1, (z7.2.2.1, z7.2.2.2))))))))
def c (sector h0_1 h0_2 h0_3 h0_4 h0_5 h0_6 h1_1 h1_3 : Int) (h1_4 : Bool) (h1_5 : Int) (h2 : (List Int)) (h3 : (List Int)) (h4 : (List Int)) : Option XA := (t sector h0_1 h0_2 h0_3 h0_4 h0_5 h0_6 h1_1 h1_3 h1_4 h1_5 h2 h3 h4).run
def tl (l : TA) : Tw XA := t l.1.2.1 l.2.1.2.1 l.2.1.2.2.1 l.2.1.2.2.2.1 l.2.1.2.2.2.2.1 l.2.1.2.2.2.2.2.1 l.2.1.2.2.2.2.2.2.1 l.2.2.1.2.1 l.2.2.1.2.2.2.1 l.2.2.1.2.2.2.2.1 l.2.2.1.2.2.2.2.2.1 l.2.2.2.1 l.2.2.2.2.1 l.2.2.2.2.2.1
def cl (l : TA) : Option XA := (tl l).run
def pA : Pt := (.cs (.ptr 0 0) (jC .nl))
def pH : Pt := (.cs (.var (.cs (.ptr 1 0) (jC (jC (jC (jC (jC (jC .nl)))))))) (.cs (.var (.cs (.own 2) (jC (.cs (.own 3) (jC (.cs .bool (jC (.cs (.own 4) .nl)))))))) (.cs (.row 3 true) (.cs (.row 1 true) (.cs (.row 3 true) .nl)))))
def v (l : TA) (y : XA) : AV U := .agg [.ptr 0 0, jI l.1.2.1, jI y.1, jB y.2.1, jI y.2.2.1, .im (.slice 3 y.2.2.2.1), .im (.slice 12 y.2.2.2.2)]
def hh (l : TA) (y : XA) : Hp U := [.var [.ptr 1 0, jI l.2.1.2.1, jI l.2.1.2.2.1, jI l.2.1.2.2.2.1, jI l.2.1.2.2.2.2.1, jI l.2.1.2.2.2.2.2.1, jI l.2.1.2.2.2.2.2.2.1], .var [.own 2, jI l.2.2.1.2.1, .own 3, jI l.2.2.1.2.2.2.1, jB l.2.2.1.2.2.2.2.1, jI l.2.2.1.2.2.2.2.2.1, .own 4], .row 3 l.2.2.2.1 true, .row 1 l.2.2.2.2.1 true, .row 3 l.2.2.2.2.2.1 true]
def A : AFun U := mkA (U := U) pA pH (X := XA) cl sp1 v hh
def body : Code := (Go.Func.body Tryz.f56).getD .skip
def Γ : List (FuncId × AFun U) := [(73, ref09_Drive_Read.A), (74, ref10_Read.A), (59, ref11_Journal_add_v2.A), (70, ref09_Drive_Blank.A)]
def Λ : List (Nat × LFun U) := [(4, Λ4)]
def CT : List (Nat × LFun U) := []
def ro : List FuncId := [73, 70]
def D : Nat → Lv × Lv := dtab [(4, ⟨[4, 0, 5, 1, 8, 6], [(5, [.to 6], .im 12), (5, [.to 5], .im 3)]⟩, ⟨[4, 0, 5, 1], []⟩)]
def E : Env U := { E0 with Γ := Γ, Λ := Λ, C := CT, D := D, ro := ro }
theorem hf4 (R : Type) (l : T4) (s : S4) (K : Ex → St U → Option R) : codeA E (pick (loopsOf body) 4) ⟨p4.mkL (hd4 l s).1, q4.mkH (hd4 l s).2, 5⟩ (roundK E (pick (loopsOf body) 4) K) =
  (fl4 l s).runK (lpK K (fun s => ⟨p4.mkL (hd4 l s).1, q4.mkH (hd4 l s).2, 5⟩) sp1 (ou4 l)) := by kernel_rfl
theorem lk4 (R : Type) (st : St U) (K : Ex → St U → Option R) (r : R) (h : Λ4 R st K = some r) : ∃ n, loopA E (pick (loopsOf body) 4) n st K = some r :=
  lp_ok (U := U) (E := E) (b := pick (loopsOf body) 4) (m := 5) (sp := sp1) (p := p4) (q := q4) (X := X4) (S := S4) (f := fl4) (hd := hd4) (s0 := fun (l : T4) => (l.1.2.2.2.2.2.2.2.1, (l.2.2.2.2.2.2.2.1.2.2.1, (l.2.2.2.2.2.2.2.1.2.2.2.2.1, (l.2.2.2.2.2.2.2.1.2.2.2.2.2.1, l.2.2.2.2.2.2.2.1.2.2.2.2.2.2.1))))) (ou := ou4)
    (fun l => rfl) (fun l x => by rfl) sp1_ok hf4 h
theorem hk (R : Type) (l : TA) (K : AV U → Hp U → Option R) : funcA E Tryz.f56 [(0, [.cell 6], .im 12)] R (pA.mkL l.1) (pH.mkH l.2) K = (tl l).runK fun y => K (v l y) (hh l y) := by kernel_rfl
theorem okF : SoundF Tryz.prog cc 56 (funcA E Tryz.f56 [(0, [.cell 6], .im 12)]) :=
  funcA_ok (E := E) P_mixed (E0_ok.with Γ Λ CT D ro) (gam_of (all_cons ⟨ref09_Drive_Read.ok, ref09_Drive_Read.fo⟩ (all_cons ⟨ref10_Read.ok, ref10_Read.fo⟩ (all_cons ⟨ref11_Journal_add_v2.ok, ref11_Journal_add_v2.fo⟩ (all_cons ⟨ref09_Drive_Blank.ok, ref09_Drive_Blank.fo⟩ all_nil)))) (all_cons (fun _ => ref09_Drive_Read.keep) (all_cons (no_keep (by kernel_rfl)) (all_cons (no_keep (by kernel_rfl)) (all_cons (fun _ => ref09_Drive_Blank.keep) all_nil))))) Tryz.func56 (c := body) (by kernel_rfl)
    (just_by (by kernel_rfl) (by kernel_rfl) (all_cons lk4 all_nil) all_nil) [(0, [.cell 6], .im 12)]
theorem ok : SoundF Tryz.prog cc 56 A :=
  mkA_ok (E := E) (p := pA) (q := pH) (t := tl) sp1_ok hk okF
theorem fo : FnOK Tryz.prog 56 := ⟨Tryz.f56, Tryz.func56, by kernel_rfl, by kernel_rfl⟩
theorem keep : KeepA A := mkA_keep (U := U) sp1_ok (fun (l : TA) y => ⟨(hh l y).drop 5, by kernel_rfl⟩)
end ref11_scan

/-! instar/instarref11.Open -/
namespace ref11_Open
abbrev TA : Type := ((Unit × Unit) × ((Unit × (Int × (Int × (Int × (Int × (Int × (Int × Unit))))))) × ((Unit × (Int × (Unit × (Int × (Bool × (Int × (Unit × Unit))))))) × ((List Int) × ((List Int) × ((List Int) × Unit))))))
abbrev XA : Type := ((Int × (Int × (Int × (Bool × (Int × ((List Int) × (List (List Int)))))))) ⊕ Int)
def t (h0_1 h0_2 h0_3 h0_4 h0_5 h0_6 h1_1 h1_3 : Int) (h1_4 : Bool) (h1_5 : Int) (h2 : (List Int)) (h3 : (List Int)) (h4 : (List Int)) : Tw XA :=
 (.bb h1_4
 (.ret (.inr (10 : Int)))
 (.opt (ref11_scan.c (0 : Int) h0_1 h0_2 h0_3 h0_4 h0_5 h0_6 h1_1 h1_3 h1_4 h1_5 h2 h3 h4) fun z1 =>
 (.opt (ref11_scan.c (1 : Int) h0_1 h0_2 h0_3 h0_4 h0_5 h0_6 h1_1 h1_3 h1_4 h1_5 h2 h3 h4) fun z2 =>
 (.bb (z1.2.2.1 == (0 : Int))
 (.bb (z2.2.2.1 == (0 : Int))
 (.ret (.inr (8 : Int)))
 (.bb (decide (z2.2.2.1 > z1.2.2.1))
 (.ret (.inl ((0 : Int), ((1 : Int), (z2.1, (z2.2.1, (z2.2.2.1, (z2.2.2.2.1, z2.2.2.2.2))))))))
 (.ret (.inl ((0 : Int), ((0 : Int), (z1.1, (z1.2.1, (z1.2.2.1, (z1.2.2.2.1, z1.2.2.2.2))))))))))
 (.bb (decide (z2.2.2.1 > z1.2.2.1))
 (.ret (.inl ((0 : Int), ((1 : Int), (z2.1, (z2.2.1, (z2.2.2.1, (z2.2.2.2.1, z2.2.2.2.2))))))))
 (.ret (.inl ((0 : Int), ((0 : Int), (z1.1, (z1.2.1, (z1.2.2.1, (z1.2.2.2.1, z1.2.2.2.2)))))))))))))
def c (h0_1 h0_2 h0_3 h0_4 h0_5 h0_6 h1_1 h1_3 : Int) (h1_4 : Bool) (h1_5 : Int) (h2 : (List Int)) (h3 : (List Int)) (h4 : (List Int)) : Option XA := (t h0_1 h0_2 h0_3 h0_4 h0_5 h0_6 h1_1 h1_3 h1_4 h1_5 h2 h3 h4).run
def tl (l : TA) : Tw XA := t l.2.1.2.1 l.2.1.2.2.1 l.2.1.2.2.2.1 l.2.1.2.2.2.2.1 l.2.1.2.2.2.2.2.1 l.2.1.2.2.2.2.2.2.1 l.2.2.1.2.1 l.2.2.1.2.2.2.1 l.2.2.1.2.2.2.2.1 l.2.2.1.2.2.2.2.2.1 l.2.2.2.1 l.2.2.2.2.1 l.2.2.2.2.2.1
def cl (l : TA) : Option XA := (tl l).run
def pA : Pt := (.cs (.ptr 0 0) .nl)
def pH : Pt := (.cs (.var (.cs (.ptr 1 0) (jC (jC (jC (jC (jC (jC .nl)))))))) (.cs (.var (.cs (.own 2) (jC (.cs (.own 3) (jC (.cs .bool (jC (.cs (.own 4) .nl)))))))) (.cs (.row 3 true) (.cs (.row 1 true) (.cs (.row 3 true) .nl)))))
def v (l : TA) (y : XA) : AV U := (Sum.elim (fun a0 => .tup [.ptr 5 0, jI a0.1]) (fun b0 => .tup [.im .nilp, jI b0]) y)
def hh (l : TA) (y : XA) : Hp U := (Sum.elim (fun a0 => [.var [.ptr 1 0, jI l.2.1.2.1, jI l.2.1.2.2.1, jI l.2.1.2.2.2.1, jI l.2.1.2.2.2.2.1, jI l.2.1.2.2.2.2.2.1, jI l.2.1.2.2.2.2.2.2.1], .var [.own 2, jI l.2.2.1.2.1, .own 3, jI l.2.2.1.2.2.2.1, jB l.2.2.1.2.2.2.2.1, jI l.2.2.1.2.2.2.2.2.1, .own 4], .row 3 l.2.2.2.1 true, .row 1 l.2.2.2.2.1 true, .row 3 l.2.2.2.2.2.1 true, .var [.ptr 0 0, jI a0.2.1, jI a0.2.2.1, jB a0.2.2.2.1, jI a0.2.2.2.2.1, .im (.slice 3 a0.2.2.2.2.2.1), .im (.slice 12 a0.2.2.2.2.2.2)]]) (fun b0 => [.var [.ptr 1 0, jI l.2.1.2.1, jI l.2.1.2.2.1, jI l.2.1.2.2.2.1, jI l.2.1.2.2.2.2.1, jI l.2.1.2.2.2.2.2.1, jI l.2.1.2.2.2.2.2.2.1], .var [.own 2, jI l.2.2.1.2.1, .own 3, jI l.2.2.1.2.2.2.1, jB l.2.2.1.2.2.2.2.1, jI l.2.2.1.2.2.2.2.2.1, .own 4], .row 3 l.2.2.2.1 true, .row 1 l.2.2.2.2.1 true, .row 3 l.2.2.2.2.2.1 true]) y)
def A : AFun U := mkA (U := U) pA pH (X := XA) cl (spS sp1) v hh
def body : Code := (Go.Func.body Tryz.f36).getD .skip
def Γ : List (FuncId × AFun U) := [(56, ref11_scan.A)]
def Λ : List (Nat × LFun U) := []
def CT : List (Nat × LFun U) := []
def ro : List FuncId := []
def D : Nat → Lv × Lv := dtab []
def E : Env U := { E0 with Γ := Γ, Λ := Λ, C := CT, D := D, ro := ro }
theorem hk (R : Type) (l : TA) (K : AV U → Hp U → Option R) : funcA E Tryz.f36 [(0, [.to 6], .im 12)] R (pA.mkL l.1) (pH.mkH l.2) K = (tl l).runK fun y => K (v l y) (hh l y) := by kernel_rfl
theorem okF : SoundF Tryz.prog cc 36 (funcA E Tryz.f36 [(0, [.to 6], .im 12)]) :=
  funcA_ok (E := E) P_mixed (E0_ok.with Γ Λ CT D ro) (gam_of (all_cons ⟨ref11_scan.ok, ref11_scan.fo⟩ all_nil) no_ro) Tryz.func36 (c := body) (by kernel_rfl)
    (just_by (by kernel_rfl) (by kernel_rfl) all_nil all_nil) [(0, [.to 6], .im 12)]
theorem ok : SoundF Tryz.prog cc 36 A :=
  mkA_ok (E := E) (p := pA) (q := pH) (t := tl) (spS_ok sp1_ok) hk okF
theorem fo : FnOK Tryz.prog 36 := ⟨Tryz.f36, Tryz.func36, by kernel_rfl, by kernel_rfl⟩
theorem keep : KeepA A := mkA_keep (U := U) (spS_ok sp1_ok) (fun (l : TA) y => ⟨(hh l y).drop 5, by (cases y with | inl y => kernel_rfl | inr y => kernel_rfl)⟩)
end ref11_Open

end
end Go.Proofs.YtkoidgjgdhpdnaaGreat.Va
