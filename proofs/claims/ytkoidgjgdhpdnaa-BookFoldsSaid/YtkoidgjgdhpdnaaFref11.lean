/- The functions of package ref11, as plain functions, and that the program computes them. Printed by a program of this work out of the evaluator. -/
import Derived.Test.YtkoidgjgdhpdnaaEn
import Derived.Tactics
import Derived.Test.YtkoidgjgdhpdnaaFref09
import Derived.Test.YtkoidgjgdhpdnaaFref10
set_option linter.unusedVariables false
namespace Go.Proofs.Ytkoidgjgdhpdnaa.Va
noncomputable section
open Go
set_option maxRecDepth 100000

/-! instar/instarref11.load -/
namespace ref11_load
abbrev TA : Type := (((List Int) × Unit) × Unit)
def t (l_ : (List Int)) : Tw Bool :=
 (.bb (decide ((((List.length l_) : Nat) : Int) ≥ (1 : Int)))
 (.ret (decide ((((List.length l_) : Nat) : Int) ≤ (56 : Int))))
 (.ret false))
def c (l_ : (List Int)) : Option Bool := (t l_).run
def tl (l : TA) : Tw Bool := t l.1.1
def pA : Pt := (.cs (.sl 3) .nl)
def pH : Pt := .nl
def v (l : TA) (y : Bool) : AV U := jB y
def hh (l : TA) (y : Bool) : Hp U := []
def A : AFun U := mkA pA pH (X := Bool) (fun l => (tl l).run) sp1 v hh
def body := bodyOf Try.f47
def E : Env U := E0.mk5 [] [] [] [] []
theorem hk : HK E Try.f47 [] pA pH tl v hh := fun _ _ _ => by kernel_rfl
theorem og : SoundF Try.prog cc 47 A ∧ FnOK Try.prog 47 :=
 og_of (E := E) P_mixed (E0_ok.mk5 _ _ _ _ _) (gam_of all_nil all_nil) Try.func47 (c := body) (by kernel_rfl)
    (just_by (by kernel_rfl) (by kernel_rfl) all_nil all_nil) [] sp1_ok hk (by kernel_rfl)
end ref11_load

/-! (*instar/instarref11.Journal).add -/
namespace ref11_Journal_add
abbrev TA : Type := ((Unit × ((Int × (Int × ((List Int) × Unit))) × (Int × Unit))) × ((Unit × (Int × (Int × (Bool × (Int × (Unit × (Unit × Unit))))))) × ((Unit × (Int × (Int × (Int × (Int × (Int × (Int × Unit))))))) × ((Unit × (Int × (Unit × (Int × (Bool × (Int × (Unit × Unit))))))) × ((List Int) × ((List Int) × ((List Int) × Unit)))))))
abbrev XA : Type := ((Int × (List (List Int))) ⊕ (Int × (List (List Int))))
def t (f_0 f_1 : Int) (f_2 : (List Int)) (n h0_1 h0_2 : Int) (h0_3 : Bool) (h0_4 h1_1 h1_2 h1_3 h1_4 h1_5 h1_6 h2_1 h2_3 : Int) (h2_4 : Bool) (h2_5 : Int) (h3 : (List Int)) (h4 : (List Int)) (h5 : (List Int)) : Tw XA :=
 (.bb (f_0 == (1 : Int))
 (.ret (.inr ((w64 (h0_2 + n)), ([] : List (List Int)))))
 (.ret (.inl ((w64 (h0_2 + n)), (f_2 :: ([] : List (List Int)))))))
def c (f_0 f_1 : Int) (f_2 : (List Int)) (n h0_1 h0_2 : Int) (h0_3 : Bool) (h0_4 h1_1 h1_2 h1_3 h1_4 h1_5 h1_6 h2_1 h2_3 : Int) (h2_4 : Bool) (h2_5 : Int) (h3 : (List Int)) (h4 : (List Int)) (h5 : (List Int)) : Option XA := (t f_0 f_1 f_2 n h0_1 h0_2 h0_3 h0_4 h1_1 h1_2 h1_3 h1_4 h1_5 h1_6 h2_1 h2_3 h2_4 h2_5 h3 h4 h5).run
def tl (l : TA) : Tw XA := t l.1.2.1.1 l.1.2.1.2.1 l.1.2.1.2.2.1 l.1.2.2.1 l.2.1.2.1 l.2.1.2.2.1 l.2.1.2.2.2.1 (d4 l.2.1).1 l.2.2.1.2.1 l.2.2.1.2.2.1 l.2.2.1.2.2.2.1 (d4 l.2.2.1).1 (d4 l.2.2.1).2.1 (d4 l.2.2.1).2.2.1 l.2.2.2.1.2.1 l.2.2.2.1.2.2.2.1 (d4 l.2.2.2.1).1 (d4 l.2.2.2.1).2.1 (d4 l).1 (d4 l).2.1 (d4 l).2.2.1
def pA : Pt := (.cs (.ptr 0 0) (.cs (.agg (jC (jC (.cs (.sl 3) .nl)))) (jC .nl)))
def pH : Pt := (.cs (.var (.cs (.ptr 1 0) (jC (jC (.cs .bool (jC (.cs .nils (.cs .nils .nl)))))))) (.cs (.var (.cs (.ptr 2 0) (jC (jC (jC (jC (jC (jC .nl)))))))) (.cs (.var (.cs (.own 3) (jC (.cs (.own 4) (jC (.cs .bool (jC (.cs (.own 5) .nl)))))))) (.cs (.row 3 true) (.cs (.row 1 true) (.cs (.row 3 true) .nl))))))
def v (l : TA) (y : XA) : AV U := (Sum.elim (fun a0 => .tup []) (fun b0 => .tup []) y)
def hh (l : TA) (y : XA) : Hp U := (Sum.elim (fun a0 => [.var [.ptr 1 0, jI l.2.1.2.1, jI a0.1, jB l.2.1.2.2.2.1, jI l.1.2.1.2.1, .im .nils, .own 6], .var [.ptr 2 0, jI l.2.2.1.2.1, jI l.2.2.1.2.2.1, jI l.2.2.1.2.2.2.1, jI (d4 l.2.2.1).1, jI (d4 l.2.2.1).2.1, jI (d4 l.2.2.1).2.2.1], .var [.own 3, jI l.2.2.2.1.2.1, .own 4, jI l.2.2.2.1.2.2.2.1, jB (d4 l.2.2.2.1).1, jI (d4 l.2.2.2.1).2.1, .own 5], .row 3 (d4 l).1 true, .row 1 (d4 l).2.1 true, .row 3 (d4 l).2.2.1 true, .row 12 a0.2 true]) (fun b0 => [.var [.ptr 1 0, jI l.2.1.2.1, jI b0.1, jB l.2.1.2.2.2.1, jI l.1.2.1.2.1, .im (.slice 3 l.1.2.1.2.2.1), .own 6], .var [.ptr 2 0, jI l.2.2.1.2.1, jI l.2.2.1.2.2.1, jI l.2.2.1.2.2.2.1, jI (d4 l.2.2.1).1, jI (d4 l.2.2.1).2.1, jI (d4 l.2.2.1).2.2.1], .var [.own 3, jI l.2.2.2.1.2.1, .own 4, jI l.2.2.2.1.2.2.2.1, jB (d4 l.2.2.2.1).1, jI (d4 l.2.2.2.1).2.1, .own 5], .row 3 (d4 l).1 true, .row 1 (d4 l).2.1 true, .row 3 (d4 l).2.2.1 true, .row 12 b0.2 true]) y)
def A : AFun U := mkA pA pH (X := XA) (fun l => (tl l).run) (spS sp1) v hh
def body := bodyOf Try.f52
def Γ : List (FuncId × AFun U) := []
def Λ : List (Nat × LFun U) := []
def CT : List (Nat × LFun U) := []
def ro : List FuncId := []
def D : Nat → Lv × Lv := dtab []
def E : Env U := { E0 with Γ := Γ, Λ := Λ, C := CT, D := D, ro := ro, pre := [(0, [.to 6], .mv 12)], kill := [], tr := false }
theorem hk : HK E Try.f52 [] pA pH tl v hh := fun _ _ _ => by kernel_rfl
theorem okF : SoundF Try.prog cc 52 (funcA E Try.f52 []) :=
  funcA_ok (E := E) P_mixed ((E0_ok.with Γ Λ CT D ro).pre [(0, [.to 6], .mv 12)] [] false) (gam_of all_nil all_nil) Try.func52 (c := body) (by kernel_rfl)
    (just_by (by kernel_rfl) (by kernel_rfl) all_nil all_nil) []
theorem ok : SoundF Try.prog cc 52 A :=
  mkA_ok (E := E) (p := pA) (q := pH) (t := tl) (spS_ok sp1_ok) hk okF
theorem fo : FnOK Try.prog 52 := ⟨Try.f52, Try.func52, by kernel_rfl, by kernel_rfl⟩
end ref11_Journal_add

/-! (*instar/instarref11.Journal).turn -/
namespace ref11_Journal_turn
abbrev TA : Type := ((Unit × ((List Int) × (Int × Unit))) × ((Unit × (Int × (Int × (Bool × (Int × (Unit × (Unit × Unit))))))) × ((Unit × (Int × (Int × (Int × (Int × (Int × (Int × Unit))))))) × ((Unit × (Int × (Unit × (Int × (Bool × (Int × (Unit × Unit))))))) × ((List Int) × ((List Int) × ((List Int) × Unit)))))))
abbrev XA : Type := ((Int × (Int × (Int × (Bool × (Int × (Int × (Bool × (Int × ((List Int) × ((List Int) × (List (List Int)))))))))))) ⊕ (Int × (Int × (Int × (Bool × (Int × (Bool × (Int × ((List Int) × ((List Int) × (List (List Int))))))))))))
def t (whole : (List Int)) (seq h0_1 h0_2 : Int) (h0_3 : Bool) (h0_4 h1_1 h1_2 h1_3 h1_4 h1_5 h1_6 h2_1 h2_3 : Int) (h2_4 : Bool) (h2_5 : Int) (h3 : (List Int)) (h4 : (List Int)) (h5 : (List Int)) : Tw XA :=
 (.dd (((((List.length whole) * (4 : Nat)) ≤ (140737488355328 : Nat)) ∧ ((List.length whole) ≤ (140737488355328 : Nat)))) inferInstance
 (.opt (ref10_Lay.c (1 : Int) seq whole) fun z1 =>
 (.opt (ref09_Drive_Fresh.c (w64 ((1 : Int) - h0_1)) z1 h1_1 h1_2 h1_3 h1_4 h1_5 h1_6 h2_1 h2_3 h2_4 h2_5 h3 h4 h5) fun z2 =>
 (.bb (z2.1 != (0 : Int))
 (.ret (.inl (z2.1, (h0_1, (h0_2, (h0_3, (h0_4, (z2.2.1, (z2.2.2.1, (z2.2.2.2.1, ((d4 z2).1, ((d4 z2).2, ([] : List (List Int))))))))))))))
 (.opt (ref11_Journal_add.c (1 : Int) seq whole (((List.length z1) : Nat) : Int) (w64 ((1 : Int) - h0_1)) (0 : Int) false h0_4 h1_1 h1_2 h1_3 h1_4 h1_5 h1_6 h2_1 z2.2.1 z2.2.2.1 z2.2.2.2.1 (d4 z2).1 (d4 z2).2 h5) fun z3 =>
 (.sm z3
 (fun z4 => (.ret (.inl ((0 : Int), ((w64 ((1 : Int) - h0_1)), (z4.1, (false, (seq, (z2.2.1, (z2.2.2.1, (z2.2.2.2.1, ((d4 z2).1, ((d4 z2).2, z4.2)))))))))))))
 (fun z5 => (.ret (.inr ((0 : Int), ((w64 ((1 : Int) - h0_1)), (z5.1, (false, (z2.2.1, (z2.2.2.1, (z2.2.2.2.1, ((d4 z2).1, ((d4 z2).2, z5.2)))))))))))))))))
 .no)
def c (whole : (List Int)) (seq h0_1 h0_2 : Int) (h0_3 : Bool) (h0_4 h1_1 h1_2 h1_3 h1_4 h1_5 h1_6 h2_1 h2_3 : Int) (h2_4 : Bool) (h2_5 : Int) (h3 : (List Int)) (h4 : (List Int)) (h5 : (List Int)) : Option XA := (t whole seq h0_1 h0_2 h0_3 h0_4 h1_1 h1_2 h1_3 h1_4 h1_5 h1_6 h2_1 h2_3 h2_4 h2_5 h3 h4 h5).run
def tl (l : TA) : Tw XA := t l.1.2.1 l.1.2.2.1 l.2.1.2.1 l.2.1.2.2.1 l.2.1.2.2.2.1 (d4 l.2.1).1 l.2.2.1.2.1 l.2.2.1.2.2.1 l.2.2.1.2.2.2.1 (d4 l.2.2.1).1 (d4 l.2.2.1).2.1 (d4 l.2.2.1).2.2.1 l.2.2.2.1.2.1 l.2.2.2.1.2.2.2.1 (d4 l.2.2.2.1).1 (d4 l.2.2.2.1).2.1 (d4 l).1 (d4 l).2.1 (d4 l).2.2.1
def pA : Pt := (.cs (.ptr 0 0) (.cs (.sl 3) (jC .nl)))
def pH : Pt := (.cs (.var (.cs (.ptr 1 0) (jC (jC (.cs .bool (jC (.cs .nils (.cs .nils .nl)))))))) (.cs (.var (.cs (.ptr 2 0) (jC (jC (jC (jC (jC (jC .nl)))))))) (.cs (.var (.cs (.own 3) (jC (.cs (.own 4) (jC (.cs .bool (jC (.cs (.own 5) .nl)))))))) (.cs (.row 3 true) (.cs (.row 1 true) (.cs (.row 3 true) .nl))))))
def v (l : TA) (y : XA) : AV U := (Sum.elim (fun a0 => jI a0.1) (fun b0 => jI b0.1) y)
def hh (l : TA) (y : XA) : Hp U := (Sum.elim (fun a0 => [.var [.ptr 1 0, jI a0.2.1, jI a0.2.2.1, jB a0.2.2.2.1, jI (d4 a0).1, .im .nils, .own 6], .var [.ptr 2 0, jI l.2.2.1.2.1, jI l.2.2.1.2.2.1, jI l.2.2.1.2.2.2.1, jI (d4 l.2.2.1).1, jI (d4 l.2.2.1).2.1, jI (d4 l.2.2.1).2.2.1], .var [.own 3, jI l.2.2.2.1.2.1, .own 4, jI (d4 a0).2.1, jB (d4 a0).2.2.1, jI (d4 a0).2.2.2.1, .own 5], .row 3 (d8 a0).1 true, .row 1 (d8 a0).2.1 true, .row 3 (d4 l).2.2.1 true, .row 12 (d8 a0).2.2 true]) (fun b0 => [.var [.ptr 1 0, jI b0.2.1, jI b0.2.2.1, jB b0.2.2.2.1, jI l.1.2.2.1, .im (.slice 3 l.1.2.1), .own 6], .var [.ptr 2 0, jI l.2.2.1.2.1, jI l.2.2.1.2.2.1, jI l.2.2.1.2.2.2.1, jI (d4 l.2.2.1).1, jI (d4 l.2.2.1).2.1, jI (d4 l.2.2.1).2.2.1], .var [.own 3, jI l.2.2.2.1.2.1, .own 4, jI (d4 b0).1, jB (d4 b0).2.1, jI (d4 b0).2.2.1, .own 5], .row 3 (d4 b0).2.2.2.1 true, .row 1 (d8 b0).1 true, .row 3 (d4 l).2.2.1 true, .row 12 (d8 b0).2 true]) y)
def A : AFun U := mkA pA pH (X := XA) (fun l => (tl l).run) (spS sp1) v hh
def body := bodyOf Try.f49
def Γ : List (FuncId × AFun U) := [(50, ref10_Lay.A), (75, ref09_Drive_Fresh.A), (52, ref11_Journal_add.A)]
def Λ : List (Nat × LFun U) := []
def CT : List (Nat × LFun U) := []
def ro : List FuncId := []
def D : Nat → Lv × Lv := dtab []
def E : Env U := { E0 with Γ := Γ, Λ := Λ, C := CT, D := D, ro := ro, pre := [(0, [.to 6], .mv 12)], kill := [], tr := false }
theorem hk : HK E Try.f49 [] pA pH tl v hh := fun _ _ _ => by kernel_rfl
theorem okF : SoundF Try.prog cc 49 (funcA E Try.f49 []) :=
  funcA_ok (E := E) P_mixed ((E0_ok.with Γ Λ CT D ro).pre [(0, [.to 6], .mv 12)] [] false) (gam_of (all_cons ref10_Lay.og (all_cons ref09_Drive_Fresh.og (all_cons ⟨ref11_Journal_add.ok, ref11_Journal_add.fo⟩ all_nil))) no_ro) Try.func49 (c := body) (by kernel_rfl)
    (just_by (by kernel_rfl) (by kernel_rfl) all_nil all_nil) []
theorem ok : SoundF Try.prog cc 49 A :=
  mkA_ok (E := E) (p := pA) (q := pH) (t := tl) (spS_ok sp1_ok) hk okF
theorem fo : FnOK Try.prog 49 := ⟨Try.f49, Try.func49, by kernel_rfl, by kernel_rfl⟩
end ref11_Journal_turn

/-! instar/instarref11.New -/
namespace ref11_New
abbrev TA : Type := ((Unit × ((List Int) × Unit)) × ((Unit × (Int × (Int × (Int × (Int × (Int × (Int × Unit))))))) × ((Unit × (Int × (Unit × (Int × (Bool × (Int × (Unit × Unit))))))) × ((List Int) × ((List Int) × ((List Int) × Unit))))))
abbrev XA : Type := ((Int × (Int × (Bool × (Int × ((List Int) × ((List Int) × (Int × (Int × (Bool × (Int × ((List Int) × (List (List Int))))))))))))) ⊕ (Int × (Int × (Bool × (Int × ((List Int) × (List Int)))))))
def t (whole : (List Int)) (h0_1 h0_2 h0_3 h0_4 h0_5 h0_6 h1_1 h1_3 : Int) (h1_4 : Bool) (h1_5 : Int) (h2 : (List Int)) (h3 : (List Int)) (h4 : (List Int)) : Tw XA :=
 (.opt (ref11_load.c whole) fun z1 =>
 (.bb (!z1)
 (.ret (.inr ((2 : Int), (h1_3, (h1_4, (h1_5, (h2, h3)))))))
 (.opt (ref09_Drive_Clean.c (1 : Int) h0_1 h0_2 h0_3 h0_4 h0_5 h0_6 h1_1 h1_3 h1_4 h1_5 h2 h3 h4) fun z2 =>
 (.bb (z2.1 != (0 : Int))
 (.ret (.inr (z2.1, (z2.2.1, (z2.2.2.1, (z2.2.2.2.1, ((d4 z2).1, (d4 z2).2)))))))
 (.opt (ref11_Journal_turn.c whole (1 : Int) (1 : Int) (0 : Int) false (0 : Int) h0_1 h0_2 h0_3 h0_4 h0_5 h0_6 h1_1 z2.2.1 z2.2.2.1 z2.2.2.2.1 (d4 z2).1 (d4 z2).2 h4) fun z3 =>
 (.sm z3
 (fun z4 => (.bb (z4.1 != (0 : Int))
 (.ret (.inr (z4.1, ((d4 z4).2.1, ((d4 z4).2.2.1, ((d4 z4).2.2.2.1, ((d8 z4).1, (d8 z4).2.1)))))))
 (.ret (.inl ((0 : Int), ((d4 z4).2.1, ((d4 z4).2.2.1, ((d4 z4).2.2.2.1, ((d8 z4).1, ((d8 z4).2.1, (z4.2.1, (z4.2.2.1, (z4.2.2.2.1, ((d4 z4).1, (([] : List (Int)), (d8 z4).2.2)))))))))))))))
 (fun z5 => (.bb (z5.1 != (0 : Int))
 (.ret (.inr (z5.1, ((d4 z5).1, ((d4 z5).2.1, ((d4 z5).2.2.1, ((d4 z5).2.2.2.1, (d8 z5).1)))))))
 (.ret (.inl ((0 : Int), ((d4 z5).1, ((d4 z5).2.1, ((d4 z5).2.2.1, ((d4 z5).2.2.2.1, ((d8 z5).1, (z5.2.1, (z5.2.2.1, (z5.2.2.2.1, ((1 : Int), (whole, (d8 z5).2)))))))))))))))))))))
def c (whole : (List Int)) (h0_1 h0_2 h0_3 h0_4 h0_5 h0_6 h1_1 h1_3 : Int) (h1_4 : Bool) (h1_5 : Int) (h2 : (List Int)) (h3 : (List Int)) (h4 : (List Int)) : Option XA := (t whole h0_1 h0_2 h0_3 h0_4 h0_5 h0_6 h1_1 h1_3 h1_4 h1_5 h2 h3 h4).run
def tl (l : TA) : Tw XA := t l.1.2.1 l.2.1.2.1 l.2.1.2.2.1 l.2.1.2.2.2.1 (d4 l.2.1).1 (d4 l.2.1).2.1 (d4 l.2.1).2.2.1 l.2.2.1.2.1 l.2.2.1.2.2.2.1 (d4 l.2.2.1).1 (d4 l.2.2.1).2.1 l.2.2.2.1 (d4 l).1 (d4 l).2.1
def pA : Pt := (.cs (.ptr 0 0) (.cs (.sl 3) .nl))
def pH : Pt := (.cs (.var (.cs (.ptr 1 0) (jC (jC (jC (jC (jC (jC .nl)))))))) (.cs (.var (.cs (.own 2) (jC (.cs (.own 3) (jC (.cs .bool (jC (.cs (.own 4) .nl)))))))) (.cs (.row 3 true) (.cs (.row 1 true) (.cs (.row 3 true) .nl)))))
def v (l : TA) (y : XA) : AV U := (Sum.elim (fun a0 => .tup [.ptr 5 0, jI a0.1]) (fun b0 => .tup [.im .nilp, jI b0.1]) y)
def hh (l : TA) (y : XA) : Hp U := (Sum.elim (fun a0 => [.var [.ptr 1 0, jI l.2.1.2.1, jI l.2.1.2.2.1, jI l.2.1.2.2.2.1, jI (d4 l.2.1).1, jI (d4 l.2.1).2.1, jI (d4 l.2.1).2.2.1], .var [.own 2, jI l.2.2.1.2.1, .own 3, jI a0.2.1, jB a0.2.2.1, jI a0.2.2.2.1, .own 4], .row 3 (d4 a0).1 true, .row 1 (d4 a0).2.1 true, .row 3 (d4 l).2.1 true, .var [.ptr 0 0, jI (d4 a0).2.2.1, jI (d4 a0).2.2.2.1, jB (d8 a0).1, jI (d8 a0).2.1, .im (.slice 3 (d8 a0).2.2.1), .own 6], .row 12 (d8 a0).2.2.2 true]) (fun b0 => [.var [.ptr 1 0, jI l.2.1.2.1, jI l.2.1.2.2.1, jI l.2.1.2.2.2.1, jI (d4 l.2.1).1, jI (d4 l.2.1).2.1, jI (d4 l.2.1).2.2.1], .var [.own 2, jI l.2.2.1.2.1, .own 3, jI b0.2.1, jB b0.2.2.1, jI b0.2.2.2.1, .own 4], .row 3 (d4 b0).1 true, .row 1 (d4 b0).2 true, .row 3 (d4 l).2.1 true]) y)
def A : AFun U := mkA pA pH (X := XA) (fun l => (tl l).run) (spS sp1) v hh
def body := bodyOf Try.f25
def E : Env U := E0.mk5 [(47, ref11_load.A), (48, ref09_Drive_Clean.A), (49, ref11_Journal_turn.A)] [] [] [] []
theorem hk : HK E Try.f25 [(0, [.to 5], .im 3)] pA pH tl v hh := fun _ _ _ => by kernel_rfl
theorem og : SoundF Try.prog cc 25 A ∧ FnOK Try.prog 25 :=
 og_of (E := E) P_mixed (E0_ok.mk5 _ _ _ _ _) (gam_of (all_cons ref11_load.og (all_cons ref09_Drive_Clean.og (all_cons ⟨ref11_Journal_turn.ok, ref11_Journal_turn.fo⟩ all_nil))) no_ro) Try.func25 (c := body) (by kernel_rfl)
    (just_by (by kernel_rfl) (by kernel_rfl) all_nil all_nil) [(0, [.to 5], .im 3)] (spS_ok sp1_ok) hk (by kernel_rfl)
end ref11_New

/-! (*instar/instarref11.Journal).add -/
namespace ref11_Journal_add_v2
abbrev TA : Type := ((Unit × ((Int × (Int × ((List Int) × Unit))) × (Int × Unit))) × ((Unit × (Int × (Int × (Bool × (Int × ((List Int) × (Unit × Unit))))))) × ((Unit × (Int × (Int × (Int × (Int × (Int × (Int × Unit))))))) × ((Unit × (Int × (Unit × (Int × (Bool × (Int × (Unit × Unit))))))) × ((List Int) × ((List Int) × ((List Int) × ((List (List Int)) × Unit))))))))
abbrev XA : Type := (Int × ((List Int) × (List (List Int))))
def t (f_0 f_1 : Int) (f_2 : (List Int)) (n h0_1 h0_2 : Int) (h0_3 : Bool) (h0_4 : Int) (h0_5 : (List Int)) (h1_1 h1_2 h1_3 h1_4 h1_5 h1_6 h2_1 h2_3 : Int) (h2_4 : Bool) (h2_5 : Int) (h3 : (List Int)) (h4 : (List Int)) (h5 : (List Int)) (h6 : (List (List Int))) : Tw XA :=
 (.bb (f_0 == (1 : Int))
 (.ret ((w64 (h0_2 + n)), (f_2, ([] : List (List Int)))))
 (.dd (((((List.length h6) * (24 : Nat)) ≤ (140737488355328 : Nat)) ∧ ((List.length h6) ≤ (140737488355328 : Nat)))) inferInstance
 (.dd ((((((List.length h6) + (List.length (f_2 :: ([] : List (List Int))))) * (24 : Nat)) ≤ (140737488355328 : Nat)) ∧ (((List.length h6) + (List.length (f_2 :: ([] : List (List Int))))) ≤ (140737488355328 : Nat)))) inferInstance
 (.ret ((w64 (h0_2 + n)), (h0_5, (h6 ++ (f_2 :: ([] : List (List Int)))))))
 .no)
 .no))
def c (f_0 f_1 : Int) (f_2 : (List Int)) (n h0_1 h0_2 : Int) (h0_3 : Bool) (h0_4 : Int) (h0_5 : (List Int)) (h1_1 h1_2 h1_3 h1_4 h1_5 h1_6 h2_1 h2_3 : Int) (h2_4 : Bool) (h2_5 : Int) (h3 : (List Int)) (h4 : (List Int)) (h5 : (List Int)) (h6 : (List (List Int))) : Option XA := (t f_0 f_1 f_2 n h0_1 h0_2 h0_3 h0_4 h0_5 h1_1 h1_2 h1_3 h1_4 h1_5 h1_6 h2_1 h2_3 h2_4 h2_5 h3 h4 h5 h6).run
def tl (l : TA) : Tw XA := t l.1.2.1.1 l.1.2.1.2.1 l.1.2.1.2.2.1 l.1.2.2.1 l.2.1.2.1 l.2.1.2.2.1 l.2.1.2.2.2.1 (d4 l.2.1).1 (d4 l.2.1).2.1 l.2.2.1.2.1 l.2.2.1.2.2.1 l.2.2.1.2.2.2.1 (d4 l.2.2.1).1 (d4 l.2.2.1).2.1 (d4 l.2.2.1).2.2.1 l.2.2.2.1.2.1 l.2.2.2.1.2.2.2.1 (d4 l.2.2.2.1).1 (d4 l.2.2.2.1).2.1 (d4 l).1 (d4 l).2.1 (d4 l).2.2.1 (d4 l).2.2.2.1
def pA : Pt := (.cs (.ptr 0 0) (.cs (.agg (jC (jC (.cs (.sl 3) .nl)))) (jC .nl)))
def pH : Pt := (.cs (.var (.cs (.ptr 1 0) (jC (jC (.cs .bool (jC (.cs (.sl 3) (.cs (.own 6) .nl)))))))) (.cs (.var (.cs (.ptr 2 0) (jC (jC (jC (jC (jC (jC .nl)))))))) (.cs (.var (.cs (.own 3) (jC (.cs (.own 4) (jC (.cs .bool (jC (.cs (.own 5) .nl)))))))) (.cs (.row 3 true) (.cs (.row 1 true) (.cs (.row 3 true) (.cs (.row 12 true) .nl)))))))
def v (l : TA) (y : XA) : AV U := .tup []
def hh (l : TA) (y : XA) : Hp U := [.var [.ptr 1 0, jI l.2.1.2.1, jI y.1, jB l.2.1.2.2.2.1, jI l.1.2.1.2.1, .im (.slice 3 y.2.1), .own 7], .var [.ptr 2 0, jI l.2.2.1.2.1, jI l.2.2.1.2.2.1, jI l.2.2.1.2.2.2.1, jI (d4 l.2.2.1).1, jI (d4 l.2.2.1).2.1, jI (d4 l.2.2.1).2.2.1], .var [.own 3, jI l.2.2.2.1.2.1, .own 4, jI l.2.2.2.1.2.2.2.1, jB (d4 l.2.2.2.1).1, jI (d4 l.2.2.2.1).2.1, .own 5], .row 3 (d4 l).1 true, .row 1 (d4 l).2.1 true, .row 3 (d4 l).2.2.1 true, .dead, .row 12 y.2.2 true]
def A : AFun U := mkA pA pH (X := XA) (fun l => (tl l).run) sp1 v hh
def body := bodyOf Try.f52
def Γ : List (FuncId × AFun U) := []
def Λ : List (Nat × LFun U) := []
def CT : List (Nat × LFun U) := []
def ro : List FuncId := []
def D : Nat → Lv × Lv := dtab []
def E : Env U := { E0 with Γ := Γ, Λ := Λ, C := CT, D := D, ro := ro, pre := [(0, [.to 6], .mv 12)], kill := [6], tr := false }
theorem hk : HK E Try.f52 [] pA pH tl v hh := fun _ _ _ => by kernel_rfl
theorem okF : SoundF Try.prog cc 52 (funcA E Try.f52 []) :=
  funcA_ok (E := E) P_mixed ((E0_ok.with Γ Λ CT D ro).pre [(0, [.to 6], .mv 12)] [6] false) (gam_of all_nil all_nil) Try.func52 (c := body) (by kernel_rfl)
    (just_by (by kernel_rfl) (by kernel_rfl) all_nil all_nil) []
theorem ok : SoundF Try.prog cc 52 A :=
  mkA_ok (E := E) (p := pA) (q := pH) (t := tl) sp1_ok hk okF
theorem fo : FnOK Try.prog 52 := ⟨Try.f52, Try.func52, by kernel_rfl, by kernel_rfl⟩
end ref11_Journal_add_v2

/-! (*instar/instarref11.Journal).turn -/
namespace ref11_Journal_turn_v2
abbrev TA : Type := ((Unit × ((List Int) × (Int × Unit))) × ((Unit × (Int × (Int × (Bool × (Int × ((List Int) × (Unit × Unit))))))) × ((Unit × (Int × (Int × (Int × (Int × (Int × (Int × Unit))))))) × ((Unit × (Int × (Unit × (Int × (Bool × (Int × (Unit × Unit))))))) × ((List Int) × ((List Int) × ((List Int) × ((List (List Int)) × Unit))))))))
abbrev XA : Type := (Int × (Int × (Int × (Bool × (Int × ((List Int) × (Int × (Bool × (Int × ((List Int) × ((List Int) × (List (List Int)))))))))))))
def t (whole : (List Int)) (seq h0_1 h0_2 : Int) (h0_3 : Bool) (h0_4 : Int) (h0_5 : (List Int)) (h1_1 h1_2 h1_3 h1_4 h1_5 h1_6 h2_1 h2_3 : Int) (h2_4 : Bool) (h2_5 : Int) (h3 : (List Int)) (h4 : (List Int)) (h5 : (List Int)) (h6 : (List (List Int))) : Tw XA :=
 (.dd (((((List.length whole) * (4 : Nat)) ≤ (140737488355328 : Nat)) ∧ ((List.length whole) ≤ (140737488355328 : Nat)))) inferInstance
 (.opt (ref10_Lay.c (1 : Int) seq whole) fun z1 =>
 (.opt (ref09_Drive_Fresh.c (w64 ((1 : Int) - h0_1)) z1 h1_1 h1_2 h1_3 h1_4 h1_5 h1_6 h2_1 h2_3 h2_4 h2_5 h3 h4 h5) fun z2 =>
 (.bb (z2.1 != (0 : Int))
 (.ret (z2.1, (h0_1, (h0_2, (h0_3, (h0_4, (h0_5, (z2.2.1, (z2.2.2.1, (z2.2.2.2.1, ((d4 z2).1, ((d4 z2).2, h6))))))))))))
 (.opt (ref11_Journal_add_v2.c (1 : Int) seq whole (((List.length z1) : Nat) : Int) (w64 ((1 : Int) - h0_1)) (0 : Int) false h0_4 h0_5 h1_1 h1_2 h1_3 h1_4 h1_5 h1_6 h2_1 z2.2.1 z2.2.2.1 z2.2.2.2.1 (d4 z2).1 (d4 z2).2 h5 h6) fun z3 =>
 (.ret ((0 : Int), ((w64 ((1 : Int) - h0_1)), (z3.1, (false, (seq, (z3.2.1, (z2.2.1, (z2.2.2.1, (z2.2.2.2.1, ((d4 z2).1, ((d4 z2).2, z3.2.2))))))))))))))))
 .no)
def c (whole : (List Int)) (seq h0_1 h0_2 : Int) (h0_3 : Bool) (h0_4 : Int) (h0_5 : (List Int)) (h1_1 h1_2 h1_3 h1_4 h1_5 h1_6 h2_1 h2_3 : Int) (h2_4 : Bool) (h2_5 : Int) (h3 : (List Int)) (h4 : (List Int)) (h5 : (List Int)) (h6 : (List (List Int))) : Option XA := (t whole seq h0_1 h0_2 h0_3 h0_4 h0_5 h1_1 h1_2 h1_3 h1_4 h1_5 h1_6 h2_1 h2_3 h2_4 h2_5 h3 h4 h5 h6).run
def tl (l : TA) : Tw XA := t l.1.2.1 l.1.2.2.1 l.2.1.2.1 l.2.1.2.2.1 l.2.1.2.2.2.1 (d4 l.2.1).1 (d4 l.2.1).2.1 l.2.2.1.2.1 l.2.2.1.2.2.1 l.2.2.1.2.2.2.1 (d4 l.2.2.1).1 (d4 l.2.2.1).2.1 (d4 l.2.2.1).2.2.1 l.2.2.2.1.2.1 l.2.2.2.1.2.2.2.1 (d4 l.2.2.2.1).1 (d4 l.2.2.2.1).2.1 (d4 l).1 (d4 l).2.1 (d4 l).2.2.1 (d4 l).2.2.2.1
def pA : Pt := (.cs (.ptr 0 0) (.cs (.sl 3) (jC .nl)))
def pH : Pt := (.cs (.var (.cs (.ptr 1 0) (jC (jC (.cs .bool (jC (.cs (.sl 3) (.cs (.own 6) .nl)))))))) (.cs (.var (.cs (.ptr 2 0) (jC (jC (jC (jC (jC (jC .nl)))))))) (.cs (.var (.cs (.own 3) (jC (.cs (.own 4) (jC (.cs .bool (jC (.cs (.own 5) .nl)))))))) (.cs (.row 3 true) (.cs (.row 1 true) (.cs (.row 3 true) (.cs (.row 12 true) .nl)))))))
def v (l : TA) (y : XA) : AV U := jI y.1
def hh (l : TA) (y : XA) : Hp U := [.var [.ptr 1 0, jI y.2.1, jI y.2.2.1, jB y.2.2.2.1, jI (d4 y).1, .im (.slice 3 (d4 y).2.1), .own 7], .var [.ptr 2 0, jI l.2.2.1.2.1, jI l.2.2.1.2.2.1, jI l.2.2.1.2.2.2.1, jI (d4 l.2.2.1).1, jI (d4 l.2.2.1).2.1, jI (d4 l.2.2.1).2.2.1], .var [.own 3, jI l.2.2.2.1.2.1, .own 4, jI (d4 y).2.2.1, jB (d4 y).2.2.2.1, jI (d8 y).1, .own 5], .row 3 (d8 y).2.1 true, .row 1 (d8 y).2.2.1 true, .row 3 (d4 l).2.2.1 true, .dead, .row 12 (d8 y).2.2.2 true]
def A : AFun U := mkA pA pH (X := XA) (fun l => (tl l).run) sp1 v hh
def body := bodyOf Try.f49
def Γ : List (FuncId × AFun U) := [(50, ref10_Lay.A), (75, ref09_Drive_Fresh.A), (52, ref11_Journal_add_v2.A)]
def Λ : List (Nat × LFun U) := []
def CT : List (Nat × LFun U) := []
def ro : List FuncId := []
def D : Nat → Lv × Lv := dtab []
def E : Env U := { E0 with Γ := Γ, Λ := Λ, C := CT, D := D, ro := ro, pre := [(0, [.to 6], .mv 12)], kill := [6], tr := false }
theorem hk : HK E Try.f49 [] pA pH tl v hh := fun _ _ _ => by kernel_rfl
theorem okF : SoundF Try.prog cc 49 (funcA E Try.f49 []) :=
  funcA_ok (E := E) P_mixed ((E0_ok.with Γ Λ CT D ro).pre [(0, [.to 6], .mv 12)] [6] false) (gam_of (all_cons ref10_Lay.og (all_cons ref09_Drive_Fresh.og (all_cons ⟨ref11_Journal_add_v2.ok, ref11_Journal_add_v2.fo⟩ all_nil))) no_ro) Try.func49 (c := body) (by kernel_rfl)
    (just_by (by kernel_rfl) (by kernel_rfl) all_nil all_nil) []
theorem ok : SoundF Try.prog cc 49 A :=
  mkA_ok (E := E) (p := pA) (q := pH) (t := tl) sp1_ok hk okF
theorem fo : FnOK Try.prog 49 := ⟨Try.f49, Try.func49, by kernel_rfl, by kernel_rfl⟩
end ref11_Journal_turn_v2

/-! (*instar/instarref11.Journal).Put -/
namespace ref11_Journal_Put
abbrev TA : Type := ((Unit × (Int × ((List Int) × ((List Int) × Unit)))) × ((Unit × (Int × (Int × (Bool × (Int × ((List Int) × (Unit × Unit))))))) × ((Unit × (Int × (Int × (Int × (Int × (Int × (Int × Unit))))))) × ((Unit × (Int × (Unit × (Int × (Bool × (Int × (Unit × Unit))))))) × ((List Int) × ((List Int) × ((List Int) × ((List (List Int)) × Unit))))))))
abbrev XA : Type := (Int × (Int × (Int × (Bool × (Int × ((List Int) × (Int × (Bool × (Int × ((List Int) × ((List Int) × (List (List Int)))))))))))))
def t (kind : Int) (l_ : (List Int)) (whole : (List Int)) (h0_1 h0_2 : Int) (h0_3 : Bool) (h0_4 : Int) (h0_5 : (List Int)) (h1_1 h1_2 h1_3 h1_4 h1_5 h1_6 h2_1 h2_3 : Int) (h2_4 : Bool) (h2_5 : Int) (h3 : (List Int)) (h4 : (List Int)) (h5 : (List Int)) (h6 : (List (List Int))) : Tw XA :=
 (.opt (ref11_load.c l_) fun z1 =>
 (.bb (!z1)
 (.ret ((2 : Int), (h0_1, (h0_2, (h0_3, (h0_4, (h0_5, (h2_3, (h2_4, (h2_5, (h3, (h4, h6))))))))))))
 (.opt (ref11_load.c whole) fun z2 =>
 (.bb (!z2)
 (.ret ((2 : Int), (h0_1, (h0_2, (h0_3, (h0_4, (h0_5, (h2_3, (h2_4, (h2_5, (h3, (h4, h6))))))))))))
 (.bb (decide (h0_4 ≥ h1_6))
 (.ret ((13 : Int), (h0_1, (h0_2, (h0_3, (h0_4, (h0_5, (h2_3, (h2_4, (h2_5, (h3, (h4, h6))))))))))))
 (.dd (((((List.length l_) * (4 : Nat)) ≤ (140737488355328 : Nat)) ∧ ((List.length l_) ≤ (140737488355328 : Nat)))) inferInstance
 (.opt (ref10_Lay.c kind (w64 (h0_4 + (1 : Int))) l_) fun z3 =>
 (.bb h0_3
 (.opt (ref11_Journal_turn_v2.c whole (w64 (h0_4 + (1 : Int))) h0_1 h0_2 h0_3 h0_4 h0_5 h1_1 h1_2 h1_3 h1_4 h1_5 h1_6 h2_1 h2_3 h2_4 h2_5 h3 h4 h5 h6) fun z7 =>
 (.ret (z7.1, (z7.2.1, (z7.2.2.1, (z7.2.2.2.1, ((d4 z7).1, ((d4 z7).2.1, ((d4 z7).2.2.1, ((d4 z7).2.2.2.1, ((d8 z7).1, ((d8 z7).2.1, ((d8 z7).2.2.1, (d8 z7).2.2.2)))))))))))))
 (.bb (decide ((w64 (h0_2 + (((List.length z3) : Nat) : Int))) > h1_1))
 (.opt (ref11_Journal_turn_v2.c whole (w64 (h0_4 + (1 : Int))) h0_1 h0_2 h0_3 h0_4 h0_5 h1_1 h1_2 h1_3 h1_4 h1_5 h1_6 h2_1 h2_3 h2_4 h2_5 h3 h4 h5 h6) fun z6 =>
 (.ret (z6.1, (z6.2.1, (z6.2.2.1, (z6.2.2.2.1, ((d4 z6).1, ((d4 z6).2.1, ((d4 z6).2.2.1, ((d4 z6).2.2.2.1, ((d8 z6).1, ((d8 z6).2.1, ((d8 z6).2.2.1, (d8 z6).2.2.2)))))))))))))
 (.opt (ref09_Drive_Write.c h0_1 h0_2 z3 h1_1 h1_2 h1_3 h1_4 h1_5 h1_6 h2_1 h2_3 h2_4 h2_5 h3 h4 h5) fun z4 =>
 (.bb (z4.1 != (0 : Int))
 (.ret (z4.1, (h0_1, (h0_2, (h0_3, (h0_4, (h0_5, (z4.2.1, (z4.2.2.1, (z4.2.2.2.1, ((d4 z4), (h4, h6))))))))))))
 (.opt (ref11_Journal_add_v2.c kind (w64 (h0_4 + (1 : Int))) l_ (((List.length z3) : Nat) : Int) h0_1 h0_2 h0_3 h0_4 h0_5 h1_1 h1_2 h1_3 h1_4 h1_5 h1_6 h2_1 z4.2.1 z4.2.2.1 z4.2.2.2.1 (d4 z4) h4 h5 h6) fun z5 =>
 (.ret ((0 : Int), (h0_1, (z5.1, (h0_3, ((w64 (h0_4 + (1 : Int))), (z5.2.1, (z4.2.1, (z4.2.2.1, (z4.2.2.2.1, ((d4 z4), (h4, z5.2.2))))))))))))))))))
 .no))))))
def c (kind : Int) (l_ : (List Int)) (whole : (List Int)) (h0_1 h0_2 : Int) (h0_3 : Bool) (h0_4 : Int) (h0_5 : (List Int)) (h1_1 h1_2 h1_3 h1_4 h1_5 h1_6 h2_1 h2_3 : Int) (h2_4 : Bool) (h2_5 : Int) (h3 : (List Int)) (h4 : (List Int)) (h5 : (List Int)) (h6 : (List (List Int))) : Option XA := (t kind l_ whole h0_1 h0_2 h0_3 h0_4 h0_5 h1_1 h1_2 h1_3 h1_4 h1_5 h1_6 h2_1 h2_3 h2_4 h2_5 h3 h4 h5 h6).run
def tl (l : TA) : Tw XA := t l.1.2.1 l.1.2.2.1 l.1.2.2.2.1 l.2.1.2.1 l.2.1.2.2.1 l.2.1.2.2.2.1 (d4 l.2.1).1 (d4 l.2.1).2.1 l.2.2.1.2.1 l.2.2.1.2.2.1 l.2.2.1.2.2.2.1 (d4 l.2.2.1).1 (d4 l.2.2.1).2.1 (d4 l.2.2.1).2.2.1 l.2.2.2.1.2.1 l.2.2.2.1.2.2.2.1 (d4 l.2.2.2.1).1 (d4 l.2.2.2.1).2.1 (d4 l).1 (d4 l).2.1 (d4 l).2.2.1 (d4 l).2.2.2.1
def pA : Pt := (.cs (.ptr 0 0) (jC (.cs (.sl 3) (.cs (.sl 3) .nl))))
def pH : Pt := (.cs (.var (.cs (.ptr 1 0) (jC (jC (.cs .bool (jC (.cs (.sl 3) (.cs (.own 6) .nl)))))))) (.cs (.var (.cs (.ptr 2 0) (jC (jC (jC (jC (jC (jC .nl)))))))) (.cs (.var (.cs (.own 3) (jC (.cs (.own 4) (jC (.cs .bool (jC (.cs (.own 5) .nl)))))))) (.cs (.row 3 true) (.cs (.row 1 true) (.cs (.row 3 true) (.cs (.row 12 true) .nl)))))))
def v (l : TA) (y : XA) : AV U := jI y.1
def hh (l : TA) (y : XA) : Hp U := [.var [.ptr 1 0, jI y.2.1, jI y.2.2.1, jB y.2.2.2.1, jI (d4 y).1, .im (.slice 3 (d4 y).2.1), .own 7], .var [.ptr 2 0, jI l.2.2.1.2.1, jI l.2.2.1.2.2.1, jI l.2.2.1.2.2.2.1, jI (d4 l.2.2.1).1, jI (d4 l.2.2.1).2.1, jI (d4 l.2.2.1).2.2.1], .var [.own 3, jI l.2.2.2.1.2.1, .own 4, jI (d4 y).2.2.1, jB (d4 y).2.2.2.1, jI (d8 y).1, .own 5], .row 3 (d8 y).2.1 true, .row 1 (d8 y).2.2.1 true, .row 3 (d4 l).2.2.1 true, .dead, .row 12 (d8 y).2.2.2 true]
def A : AFun U := mkA pA pH (X := XA) (fun l => (tl l).run) sp1 v hh
def body := bodyOf Try.f26
def Γ : List (FuncId × AFun U) := [(47, ref11_load.A), (50, ref10_Lay.A), (51, ref09_Drive_Write.A), (52, ref11_Journal_add_v2.A), (49, ref11_Journal_turn_v2.A)]
def Λ : List (Nat × LFun U) := []
def CT : List (Nat × LFun U) := []
def ro : List FuncId := []
def D : Nat → Lv × Lv := dtab []
def E : Env U := { E0 with Γ := Γ, Λ := Λ, C := CT, D := D, ro := ro, pre := [(0, [.to 6], .mv 12)], kill := [6], tr := false }
theorem hk : HK E Try.f26 [] pA pH tl v hh := fun _ _ _ => by kernel_rfl
theorem okF : SoundF Try.prog cc 26 (funcA E Try.f26 []) :=
  funcA_ok (E := E) P_mixed ((E0_ok.with Γ Λ CT D ro).pre [(0, [.to 6], .mv 12)] [6] false) (gam_of (all_cons ref11_load.og (all_cons ref10_Lay.og (all_cons ref09_Drive_Write.og (all_cons ⟨ref11_Journal_add_v2.ok, ref11_Journal_add_v2.fo⟩ (all_cons ⟨ref11_Journal_turn_v2.ok, ref11_Journal_turn_v2.fo⟩ all_nil))))) no_ro) Try.func26 (c := body) (by kernel_rfl)
    (just_by (by kernel_rfl) (by kernel_rfl) all_nil all_nil) []
theorem ok : SoundF Try.prog cc 26 A :=
  mkA_ok (E := E) (p := pA) (q := pH) (t := tl) sp1_ok hk okF
theorem fo : FnOK Try.prog 26 := ⟨Try.f26, Try.func26, by kernel_rfl, by kernel_rfl⟩
end ref11_Journal_Put

end
end Go.Proofs.Ytkoidgjgdhpdnaa.Va
