/- The functions of package journal, as plain functions, and that the program computes them. Printed by a program of this work out of the evaluator. -/
import Derived.Test.YtkoidgjgdhpdnaaGreatEn
import Derived.Tactics
import Derived.Test.YtkoidgjgdhpdnaaGreatFdrive
import Derived.Test.YtkoidgjgdhpdnaaGreatFframe
import Derived.Test.YtkoidgjgdhpdnaaGreatFslices
set_option linter.unusedVariables false
namespace Go.Proofs.YtkoidgjgdhpdnaaGreat.Va
noncomputable section
open Go
set_option maxRecDepth 100000

/-! instar/journal.may -/
namespace journal_may
abbrev TA : Type := (((List (List Int)) × Unit) × Unit)
abbrev T2 : Type := ((Unit × ((List (List Int)) × (Int × (Int × (Unit × Unit))))) × Unit)
abbrev X2 : Type := (Unit ⊕ Bool)
def l2 (k5 : (List (List Int))) (k6 k7 : Int) : Tw (Int ⊕ X2) :=
 (.bb (decide (k7 < k6))
 (.dd (((0 : Int) ≤ k7)) inferInstance
 (.opt (k5)[(Int.toNat k7)]? fun z1 =>
 (.opt (frame_Size.c (((List.length z1) : Nat) : Int)) fun z2 =>
 (.bb (z2 == (0 : Int))
 (.ret (.inr (.inr false)))
 (.ret (.inl (w64 (k7 + (1 : Int))))))))
 .no)
 (.ret (.inr (.inl ()))))
def L2 (k5 : (List (List Int))) (k6 k7 : Int) : Option X2 := Lp (fun s => (l2 k5 k6 s).run) k7
def p2 : Pt := (.cs (.bots 5) (.cs (.sl 12) (jC (jC (.cs (.bots 8) .nl)))))
def q2 : Pt := .nl
def ou2 (l : T2) (y : X2) : Ex × St U := (Sum.elim (fun a0 => (.exit 0, stOf 16 [] [] 0)) (fun b0 => (.ret, stOf 16 [(2, jB b0)] [] 0)) y)
def Λ2 : LFun U := mkLp (U := U) p2 q2 0 (X := X2) (fun (l : T2) => L2 l.1.2.1 l.1.2.2.1 l.1.2.2.2.1) (spS sp1) ou2
def hd2 (l : T2) (s : Int) : T2 := (((), (l.1.2.1, (l.1.2.2.1, (s, ((), ()))))), ())
def fl2 (l : T2) (s : Int) : Tw (Int ⊕ X2) := l2 l.1.2.1 l.1.2.2.1 s
def t (loads : (List (List Int))) : Tw Bool :=
 (.opt (L2 loads (((List.length loads) : Nat) : Int) (0 : Int)) fun z3 =>
 (.sm z3
 (fun z4 => (.ret true))
 (fun z5 => (.ret z5))))
def c (loads : (List (List Int))) : Option Bool := (t loads).run
def tl (l : TA) : Tw Bool := t l.1.1
def cl (l : TA) : Option Bool := (tl l).run
def pA : Pt := (.cs (.sl 12) .nl)
def pH : Pt := .nl
def v (l : TA) (y : Bool) : AV U := jB y
def hh (l : TA) (y : Bool) : Hp U := []
def A : AFun U := mkA (U := U) pA pH (X := Bool) cl sp1 v hh
def body : Code := (Go.Func.body Tryz.f42).getD .skip
def Γ : List (FuncId × AFun U) := [(64, frame_Size.A)]
def Λ : List (Nat × LFun U) := [(2, Λ2)]
def CT : List (Nat × LFun U) := []
def ro : List FuncId := []
def D : Nat → Lv × Lv := dtab [(2, ⟨[7, 5, 6], []⟩, ⟨[2], []⟩)]
def E : Env U := { E0 with Γ := Γ, Λ := Λ, C := CT, D := D, ro := ro }
theorem hf2 (R : Type) (l : T2) (s : Int) (K : Ex → St U → Option R) : codeA E (pick (loopsOf body) 2) ⟨p2.mkL (hd2 l s).1, q2.mkH (hd2 l s).2, 0⟩ (roundK E (pick (loopsOf body) 2) K) =
  (fl2 l s).runK (lpK K (fun s => ⟨p2.mkL (hd2 l s).1, q2.mkH (hd2 l s).2, 0⟩) (spS sp1) (ou2 l)) := by kernel_rfl
theorem lk2 (R : Type) (st : St U) (K : Ex → St U → Option R) (r : R) (h : Λ2 R st K = some r) : ∃ n, loopA E (pick (loopsOf body) 2) n st K = some r :=
  lp_ok (U := U) (E := E) (b := pick (loopsOf body) 2) (m := 0) (sp := (spS sp1)) (p := p2) (q := q2) (X := X2) (S := Int) (f := fl2) (hd := hd2) (s0 := fun (l : T2) => l.1.2.2.2.1) (ou := ou2)
    (fun l => rfl) (fun l x => by repeat' (first | rfl | (cases x with | inl => rfl | inr x => ?_))) (spS_ok sp1_ok) hf2 h
theorem hk (R : Type) (l : TA) (K : AV U → Hp U → Option R) : funcA E Tryz.f42 [] R (pA.mkL l.1) (pH.mkH l.2) K = (tl l).runK fun y => K (v l y) (hh l y) := by kernel_rfl
theorem okF : SoundF Tryz.prog cc 42 (funcA E Tryz.f42 []) :=
  funcA_ok (E := E) P_mixed (E0_ok.with Γ Λ CT D ro) (gam_of (all_cons ⟨frame_Size.ok, frame_Size.fo⟩ all_nil) no_ro) Tryz.func42 (c := body) (by kernel_rfl)
    (just_by (by kernel_rfl) (by kernel_rfl) (all_cons lk2 all_nil) all_nil) []
theorem ok : SoundF Tryz.prog cc 42 A :=
  mkA_ok (E := E) (p := pA) (q := pH) (t := tl) sp1_ok hk okF
theorem fo : FnOK Tryz.prog 42 := ⟨Tryz.f42, Tryz.func42, by kernel_rfl, by kernel_rfl⟩
theorem keep : KeepA A := mkA_keep (U := U) sp1_ok (fun (l : TA) y => ⟨(hh l y).drop 0, by kernel_rfl⟩)
end journal_may

/-! (*instar/journal.Journal).said -/
namespace journal_Journal_said
abbrev TA : Type := ((Unit × ((Int × (Int × ((List Int) × Unit))) × (Int × Unit))) × ((Unit × (Int × (Int × (Bool × (Int × (Unit × (Unit × Unit))))))) × ((Unit × (Int × (Int × (Int × (Int × (Int × (Int × Unit))))))) × ((Unit × (Int × (Unit × (Int × (Bool × (Int × (Unit × Unit))))))) × ((List Int) × ((List Int) × ((List Int) × Unit)))))))
abbrev XA : Type := ((Int × (List (List Int))) ⊕ (Int × (List (List Int))))
def t (f_0 f_1 : Int) (f_2 : (List Int)) (n h0_1 h0_2 : Int) (h0_3 : Bool) (h0_4 h1_1 h1_2 h1_3 h1_4 h1_5 h1_6 h2_1 h2_3 : Int) (h2_4 : Bool) (h2_5 : Int) (h3 : (List Int)) (h4 : (List Int)) (h5 : (List Int)) : Tw XA :=
 (.bb (f_0 == (1 : Int))
 (.ret (.inr ((w64 (h0_2 + n)), ([] : List (List Int)))))
 (.ret (.inl ((w64 (h0_2 + n)), (f_2 :: ([] : List (List Int)))))))
def c (f_0 f_1 : Int) (f_2 : (List Int)) (n h0_1 h0_2 : Int) (h0_3 : Bool) (h0_4 h1_1 h1_2 h1_3 h1_4 h1_5 h1_6 h2_1 h2_3 : Int) (h2_4 : Bool) (h2_5 : Int) (h3 : (List Int)) (h4 : (List Int)) (h5 : (List Int)) : Option XA := (t f_0 f_1 f_2 n h0_1 h0_2 h0_3 h0_4 h1_1 h1_2 h1_3 h1_4 h1_5 h1_6 h2_1 h2_3 h2_4 h2_5 h3 h4 h5).run
def tl (l : TA) : Tw XA := t l.1.2.1.1 l.1.2.1.2.1 l.1.2.1.2.2.1 l.1.2.2.1 l.2.1.2.1 l.2.1.2.2.1 l.2.1.2.2.2.1 l.2.1.2.2.2.2.1 l.2.2.1.2.1 l.2.2.1.2.2.1 l.2.2.1.2.2.2.1 l.2.2.1.2.2.2.2.1 l.2.2.1.2.2.2.2.2.1 l.2.2.1.2.2.2.2.2.2.1 l.2.2.2.1.2.1 l.2.2.2.1.2.2.2.1 l.2.2.2.1.2.2.2.2.1 l.2.2.2.1.2.2.2.2.2.1 l.2.2.2.2.1 l.2.2.2.2.2.1 l.2.2.2.2.2.2.1
def cl (l : TA) : Option XA := (tl l).run
def pA : Pt := (.cs (.ptr 0 0) (.cs (.agg (jC (jC (.cs (.sl 3) .nl)))) (jC .nl)))
def pH : Pt := (.cs (.var (.cs (.ptr 1 0) (jC (jC (.cs .bool (jC (.cs .nils (.cs .nils .nl)))))))) (.cs (.var (.cs (.ptr 2 0) (jC (jC (jC (jC (jC (jC .nl)))))))) (.cs (.var (.cs (.own 3) (jC (.cs (.own 4) (jC (.cs .bool (jC (.cs (.own 5) .nl)))))))) (.cs (.row 3 true) (.cs (.row 1 true) (.cs (.row 3 true) .nl))))))
def v (l : TA) (y : XA) : AV U := (Sum.elim (fun a0 => .tup []) (fun b0 => .tup []) y)
def hh (l : TA) (y : XA) : Hp U := (Sum.elim (fun a0 => [.var [.ptr 1 0, jI l.2.1.2.1, jI a0.1, jB l.2.1.2.2.2.1, jI l.1.2.1.2.1, .im .nils, .own 6], .var [.ptr 2 0, jI l.2.2.1.2.1, jI l.2.2.1.2.2.1, jI l.2.2.1.2.2.2.1, jI l.2.2.1.2.2.2.2.1, jI l.2.2.1.2.2.2.2.2.1, jI l.2.2.1.2.2.2.2.2.2.1], .var [.own 3, jI l.2.2.2.1.2.1, .own 4, jI l.2.2.2.1.2.2.2.1, jB l.2.2.2.1.2.2.2.2.1, jI l.2.2.2.1.2.2.2.2.2.1, .own 5], .row 3 l.2.2.2.2.1 true, .row 1 l.2.2.2.2.2.1 true, .row 3 l.2.2.2.2.2.2.1 true, .row 12 a0.2 true]) (fun b0 => [.var [.ptr 1 0, jI l.2.1.2.1, jI b0.1, jB l.2.1.2.2.2.1, jI l.1.2.1.2.1, .im (.slice 3 l.1.2.1.2.2.1), .own 6], .var [.ptr 2 0, jI l.2.2.1.2.1, jI l.2.2.1.2.2.1, jI l.2.2.1.2.2.2.1, jI l.2.2.1.2.2.2.2.1, jI l.2.2.1.2.2.2.2.2.1, jI l.2.2.1.2.2.2.2.2.2.1], .var [.own 3, jI l.2.2.2.1.2.1, .own 4, jI l.2.2.2.1.2.2.2.1, jB l.2.2.2.1.2.2.2.2.1, jI l.2.2.2.1.2.2.2.2.2.1, .own 5], .row 3 l.2.2.2.2.1 true, .row 1 l.2.2.2.2.2.1 true, .row 3 l.2.2.2.2.2.2.1 true, .row 12 b0.2 true]) y)
def A : AFun U := mkA (U := U) pA pH (X := XA) cl (spS sp1) v hh
def body : Code := (Go.Func.body Tryz.f62).getD .skip
def Γ : List (FuncId × AFun U) := []
def Λ : List (Nat × LFun U) := []
def CT : List (Nat × LFun U) := []
def ro : List FuncId := []
def D : Nat → Lv × Lv := dtab []
def E : Env U := { E0 with Γ := Γ, Λ := Λ, C := CT, D := D, ro := ro, pre := [(0, [.to 6], .mv 12)], kill := [] }
theorem hk (R : Type) (l : TA) (K : AV U → Hp U → Option R) : funcA E Tryz.f62 [] R (pA.mkL l.1) (pH.mkH l.2) K = (tl l).runK fun y => K (v l y) (hh l y) := by kernel_rfl
theorem okF : SoundF Tryz.prog cc 62 (funcA E Tryz.f62 []) :=
  funcA_ok (E := E) P_mixed ((E0_ok.with Γ Λ CT D ro).pre [(0, [.to 6], .mv 12)] [] false) (gam_of all_nil all_nil) Tryz.func62 (c := body) (by kernel_rfl)
    (just_by (by kernel_rfl) (by kernel_rfl) all_nil all_nil) []
theorem ok : SoundF Tryz.prog cc 62 A :=
  mkA_ok (E := E) (p := pA) (q := pH) (t := tl) (spS_ok sp1_ok) hk okF
theorem fo : FnOK Tryz.prog 62 := ⟨Tryz.f62, Tryz.func62, by kernel_rfl, by kernel_rfl⟩
end journal_Journal_said

/-! (*instar/journal.Journal).over -/
namespace journal_Journal_over
abbrev TA : Type := ((Unit × ((List Int) × (Int × Unit))) × ((Unit × (Int × (Int × (Bool × (Int × (Unit × (Unit × Unit))))))) × ((Unit × (Int × (Int × (Int × (Int × (Int × (Int × Unit))))))) × ((Unit × (Int × (Unit × (Int × (Bool × (Int × (Unit × Unit))))))) × ((List Int) × ((List Int) × ((List Int) × Unit)))))))
abbrev XA : Type := ((Int × (Int × (Int × (Bool × (Int × (Int × (Bool × (Int × ((List Int) × ((List Int) × (List (List Int)))))))))))) ⊕ (Int × (Int × (Int × (Bool × ((List Int) × (Int × (Bool × (Int × ((List Int) × ((List Int) × (List (List Int)))))))))))))
def t (whole : (List Int)) (seq h0_1 h0_2 : Int) (h0_3 : Bool) (h0_4 h1_1 h1_2 h1_3 h1_4 h1_5 h1_6 h2_1 h2_3 : Int) (h2_4 : Bool) (h2_5 : Int) (h3 : (List Int)) (h4 : (List Int)) (h5 : (List Int)) : Tw XA :=
 (.opt (slices_Clone__uint32uint32.c whole) fun z1 =>
 (.opt (frame_Lay.c (1 : Int) seq z1) fun z2 =>
 (.bb (z2.1 != (0 : Int))
 (.ret (.inl (z2.1, (h0_1, (h0_2, (h0_3, (h0_4, (h2_3, (h2_4, (h2_5, (h3, (h4, ([] : List (List Int))))))))))))))
 (.opt (drive_Drive_Fresh.c (w64 ((1 : Int) - h0_1)) z2.2 h1_1 h1_2 h1_3 h1_4 h1_5 h1_6 h2_1 h2_3 h2_4 h2_5 h3 h4 h5) fun z3 =>
 (.bb (z3.1 != (0 : Int))
 (.ret (.inl (z3.1, (h0_1, (h0_2, (h0_3, (h0_4, (z3.2.1, (z3.2.2.1, (z3.2.2.2.1, (z3.2.2.2.2.1, (z3.2.2.2.2.2, ([] : List (List Int))))))))))))))
 (.opt (journal_Journal_said.c (1 : Int) seq z1 (((List.length z2.2) : Nat) : Int) (w64 ((1 : Int) - h0_1)) (0 : Int) false h0_4 h1_1 h1_2 h1_3 h1_4 h1_5 h1_6 h2_1 z3.2.1 z3.2.2.1 z3.2.2.2.1 z3.2.2.2.2.1 z3.2.2.2.2.2 h5) fun z4 =>
 (.sm z4
 (fun z5 => (.ret (.inl ((0 : Int), ((w64 ((1 : Int) - h0_1)), (z5.1, (false, (seq, (z3.2.1, (z3.2.2.1, (z3.2.2.2.1, (z3.2.2.2.2.1, (z3.2.2.2.2.2, z5.2)))))))))))))
 (fun z6 => (.ret (.inr ((0 : Int), ((w64 ((1 : Int) - h0_1)), (z6.1, (false, (z1, (z3.2.1, (z3.2.2.1, (z3.2.2.2.1, (z3.2.2.2.2.1, (z3.2.2.2.2.2, z6.2))))))))))))))))))))
def c (whole : (List Int)) (seq h0_1 h0_2 : Int) (h0_3 : Bool) (h0_4 h1_1 h1_2 h1_3 h1_4 h1_5 h1_6 h2_1 h2_3 : Int) (h2_4 : Bool) (h2_5 : Int) (h3 : (List Int)) (h4 : (List Int)) (h5 : (List Int)) : Option XA := (t whole seq h0_1 h0_2 h0_3 h0_4 h1_1 h1_2 h1_3 h1_4 h1_5 h1_6 h2_1 h2_3 h2_4 h2_5 h3 h4 h5).run
def tl (l : TA) : Tw XA := t l.1.2.1 l.1.2.2.1 l.2.1.2.1 l.2.1.2.2.1 l.2.1.2.2.2.1 l.2.1.2.2.2.2.1 l.2.2.1.2.1 l.2.2.1.2.2.1 l.2.2.1.2.2.2.1 l.2.2.1.2.2.2.2.1 l.2.2.1.2.2.2.2.2.1 l.2.2.1.2.2.2.2.2.2.1 l.2.2.2.1.2.1 l.2.2.2.1.2.2.2.1 l.2.2.2.1.2.2.2.2.1 l.2.2.2.1.2.2.2.2.2.1 l.2.2.2.2.1 l.2.2.2.2.2.1 l.2.2.2.2.2.2.1
def cl (l : TA) : Option XA := (tl l).run
def pA : Pt := (.cs (.ptr 0 0) (.cs (.sl 3) (jC .nl)))
def pH : Pt := (.cs (.var (.cs (.ptr 1 0) (jC (jC (.cs .bool (jC (.cs .nils (.cs .nils .nl)))))))) (.cs (.var (.cs (.ptr 2 0) (jC (jC (jC (jC (jC (jC .nl)))))))) (.cs (.var (.cs (.own 3) (jC (.cs (.own 4) (jC (.cs .bool (jC (.cs (.own 5) .nl)))))))) (.cs (.row 3 true) (.cs (.row 1 true) (.cs (.row 3 true) .nl))))))
def v (l : TA) (y : XA) : AV U := (Sum.elim (fun a0 => jI a0.1) (fun b0 => jI b0.1) y)
def hh (l : TA) (y : XA) : Hp U := (Sum.elim (fun a0 => [.var [.ptr 1 0, jI a0.2.1, jI a0.2.2.1, jB a0.2.2.2.1, jI a0.2.2.2.2.1, .im .nils, .own 6], .var [.ptr 2 0, jI l.2.2.1.2.1, jI l.2.2.1.2.2.1, jI l.2.2.1.2.2.2.1, jI l.2.2.1.2.2.2.2.1, jI l.2.2.1.2.2.2.2.2.1, jI l.2.2.1.2.2.2.2.2.2.1], .var [.own 3, jI l.2.2.2.1.2.1, .own 4, jI a0.2.2.2.2.2.1, jB a0.2.2.2.2.2.2.1, jI a0.2.2.2.2.2.2.2.1, .own 5], .row 3 a0.2.2.2.2.2.2.2.2.1 true, .row 1 a0.2.2.2.2.2.2.2.2.2.1 true, .row 3 l.2.2.2.2.2.2.1 true, .row 12 a0.2.2.2.2.2.2.2.2.2.2 true]) (fun b0 => [.var [.ptr 1 0, jI b0.2.1, jI b0.2.2.1, jB b0.2.2.2.1, jI l.1.2.2.1, .im (.slice 3 b0.2.2.2.2.1), .own 6], .var [.ptr 2 0, jI l.2.2.1.2.1, jI l.2.2.1.2.2.1, jI l.2.2.1.2.2.2.1, jI l.2.2.1.2.2.2.2.1, jI l.2.2.1.2.2.2.2.2.1, jI l.2.2.1.2.2.2.2.2.2.1], .var [.own 3, jI l.2.2.2.1.2.1, .own 4, jI b0.2.2.2.2.2.1, jB b0.2.2.2.2.2.2.1, jI b0.2.2.2.2.2.2.2.1, .own 5], .row 3 b0.2.2.2.2.2.2.2.2.1 true, .row 1 b0.2.2.2.2.2.2.2.2.2.1 true, .row 3 l.2.2.2.2.2.2.1 true, .row 12 b0.2.2.2.2.2.2.2.2.2.2 true]) y)
def A : AFun U := mkA (U := U) pA pH (X := XA) cl (spS sp1) v hh
def body : Code := (Go.Func.body Tryz.f44).getD .skip
def Γ : List (FuncId × AFun U) := [(39, slices_Clone__uint32uint32.A), (65, frame_Lay.A), (66, drive_Drive_Fresh.A), (62, journal_Journal_said.A)]
def Λ : List (Nat × LFun U) := []
def CT : List (Nat × LFun U) := []
def ro : List FuncId := []
def D : Nat → Lv × Lv := dtab []
def E : Env U := { E0 with Γ := Γ, Λ := Λ, C := CT, D := D, ro := ro, pre := [(0, [.to 6], .mv 12)], kill := [] }
theorem hk (R : Type) (l : TA) (K : AV U → Hp U → Option R) : funcA E Tryz.f44 [] R (pA.mkL l.1) (pH.mkH l.2) K = (tl l).runK fun y => K (v l y) (hh l y) := by kernel_rfl
theorem okF : SoundF Tryz.prog cc 44 (funcA E Tryz.f44 []) :=
  funcA_ok (E := E) P_mixed ((E0_ok.with Γ Λ CT D ro).pre [(0, [.to 6], .mv 12)] [] false) (gam_of (all_cons ⟨slices_Clone__uint32uint32.ok, slices_Clone__uint32uint32.fo⟩ (all_cons ⟨frame_Lay.ok, frame_Lay.fo⟩ (all_cons ⟨drive_Drive_Fresh.ok, drive_Drive_Fresh.fo⟩ (all_cons ⟨journal_Journal_said.ok, journal_Journal_said.fo⟩ all_nil)))) no_ro) Tryz.func44 (c := body) (by kernel_rfl)
    (just_by (by kernel_rfl) (by kernel_rfl) all_nil all_nil) []
theorem ok : SoundF Tryz.prog cc 44 A :=
  mkA_ok (E := E) (p := pA) (q := pH) (t := tl) (spS_ok sp1_ok) hk okF
theorem fo : FnOK Tryz.prog 44 := ⟨Tryz.f44, Tryz.func44, by kernel_rfl, by kernel_rfl⟩
end journal_Journal_over

/-! instar/journal.New -/
namespace journal_New
abbrev TA : Type := ((Unit × ((List Int) × Unit)) × ((Unit × (Int × (Int × (Int × (Int × (Int × (Int × Unit))))))) × ((Unit × (Int × (Unit × (Int × (Bool × (Int × (Unit × Unit))))))) × ((List Int) × ((List Int) × ((List Int) × Unit))))))
abbrev XA : Type := ((Int × (Int × (Bool × (Int × ((List Int) × ((List Int) × (Int × (Int × (Bool × (Int × ((List Int) × (List (List Int))))))))))))) ⊕ (Int × (Int × (Bool × (Int × ((List Int) × (List Int)))))))
def t (whole : (List Int)) (h0_1 h0_2 h0_3 h0_4 h0_5 h0_6 h1_1 h1_3 : Int) (h1_4 : Bool) (h1_5 : Int) (h2 : (List Int)) (h3 : (List Int)) (h4 : (List Int)) : Tw XA :=
 (.opt (journal_may.c (whole :: ([] : List (List Int)))) fun z1 =>
 (.bb (!z1)
 (.ret (.inr ((2 : Int), (h1_3, (h1_4, (h1_5, (h2, h3)))))))
 (.opt (drive_Drive_Clean.c (1 : Int) h0_1 h0_2 h0_3 h0_4 h0_5 h0_6 h1_1 h1_3 h1_4 h1_5 h2 h3 h4) fun z2 =>
 (.bb (z2.1 != (0 : Int))
 (.ret (.inr (z2.1, (z2.2.1, (z2.2.2.1, (z2.2.2.2.1, (z2.2.2.2.2.1, z2.2.2.2.2.2)))))))
 (.opt (journal_Journal_over.c whole (1 : Int) (1 : Int) (0 : Int) false (0 : Int) h0_1 h0_2 h0_3 h0_4 h0_5 h0_6 h1_1 z2.2.1 z2.2.2.1 z2.2.2.2.1 z2.2.2.2.2.1 z2.2.2.2.2.2 h4) fun z3 =>
 (.sm z3
 (fun z4 => (.bb (z4.1 != (0 : Int))
 (.ret (.inr (z4.1, (z4.2.2.2.2.2.1, (z4.2.2.2.2.2.2.1, (z4.2.2.2.2.2.2.2.1, (z4.2.2.2.2.2.2.2.2.1, z4.2.2.2.2.2.2.2.2.2.1)))))))
 (.ret (.inl ((0 : Int), (z4.2.2.2.2.2.1, (z4.2.2.2.2.2.2.1, (z4.2.2.2.2.2.2.2.1, (z4.2.2.2.2.2.2.2.2.1, (z4.2.2.2.2.2.2.2.2.2.1, (z4.2.1, (z4.2.2.1, (z4.2.2.2.1, (z4.2.2.2.2.1, (([] : List (Int)), z4.2.2.2.2.2.2.2.2.2.2)))))))))))))))
 (fun z5 => (.bb (z5.1 != (0 : Int))
 (.ret (.inr (z5.1, (z5.2.2.2.2.2.1, (z5.2.2.2.2.2.2.1, (z5.2.2.2.2.2.2.2.1, (z5.2.2.2.2.2.2.2.2.1, z5.2.2.2.2.2.2.2.2.2.1)))))))
 (.ret (.inl ((0 : Int), (z5.2.2.2.2.2.1, (z5.2.2.2.2.2.2.1, (z5.2.2.2.2.2.2.2.1, (z5.2.2.2.2.2.2.2.2.1, (z5.2.2.2.2.2.2.2.2.2.1, (z5.2.1, (z5.2.2.1, (z5.2.2.2.1, ((1 : Int), (z5.2.2.2.2.1, z5.2.2.2.2.2.2.2.2.2.2)))))))))))))))))))))
def c (whole : (List Int)) (h0_1 h0_2 h0_3 h0_4 h0_5 h0_6 h1_1 h1_3 : Int) (h1_4 : Bool) (h1_5 : Int) (h2 : (List Int)) (h3 : (List Int)) (h4 : (List Int)) : Option XA := (t whole h0_1 h0_2 h0_3 h0_4 h0_5 h0_6 h1_1 h1_3 h1_4 h1_5 h2 h3 h4).run
def tl (l : TA) : Tw XA := t l.1.2.1 l.2.1.2.1 l.2.1.2.2.1 l.2.1.2.2.2.1 l.2.1.2.2.2.2.1 l.2.1.2.2.2.2.2.1 l.2.1.2.2.2.2.2.2.1 l.2.2.1.2.1 l.2.2.1.2.2.2.1 l.2.2.1.2.2.2.2.1 l.2.2.1.2.2.2.2.2.1 l.2.2.2.1 l.2.2.2.2.1 l.2.2.2.2.2.1
def cl (l : TA) : Option XA := (tl l).run
def pA : Pt := (.cs (.ptr 0 0) (.cs (.sl 3) .nl))
def pH : Pt := (.cs (.var (.cs (.ptr 1 0) (jC (jC (jC (jC (jC (jC .nl)))))))) (.cs (.var (.cs (.own 2) (jC (.cs (.own 3) (jC (.cs .bool (jC (.cs (.own 4) .nl)))))))) (.cs (.row 3 true) (.cs (.row 1 true) (.cs (.row 3 true) .nl)))))
def v (l : TA) (y : XA) : AV U := (Sum.elim (fun a0 => .tup [.ptr 5 0, jI a0.1]) (fun b0 => .tup [.im .nilp, jI b0.1]) y)
def hh (l : TA) (y : XA) : Hp U := (Sum.elim (fun a0 => [.var [.ptr 1 0, jI l.2.1.2.1, jI l.2.1.2.2.1, jI l.2.1.2.2.2.1, jI l.2.1.2.2.2.2.1, jI l.2.1.2.2.2.2.2.1, jI l.2.1.2.2.2.2.2.2.1], .var [.own 2, jI l.2.2.1.2.1, .own 3, jI a0.2.1, jB a0.2.2.1, jI a0.2.2.2.1, .own 4], .row 3 a0.2.2.2.2.1 true, .row 1 a0.2.2.2.2.2.1 true, .row 3 l.2.2.2.2.2.1 true, .var [.ptr 0 0, jI a0.2.2.2.2.2.2.1, jI a0.2.2.2.2.2.2.2.1, jB a0.2.2.2.2.2.2.2.2.1, jI a0.2.2.2.2.2.2.2.2.2.1, .im (.slice 3 a0.2.2.2.2.2.2.2.2.2.2.1), .own 6], .row 12 a0.2.2.2.2.2.2.2.2.2.2.2 true]) (fun b0 => [.var [.ptr 1 0, jI l.2.1.2.1, jI l.2.1.2.2.1, jI l.2.1.2.2.2.1, jI l.2.1.2.2.2.2.1, jI l.2.1.2.2.2.2.2.1, jI l.2.1.2.2.2.2.2.2.1], .var [.own 2, jI l.2.2.1.2.1, .own 3, jI b0.2.1, jB b0.2.2.1, jI b0.2.2.2.1, .own 4], .row 3 b0.2.2.2.2.1 true, .row 1 b0.2.2.2.2.2 true, .row 3 l.2.2.2.2.2.1 true]) y)
def A : AFun U := mkA (U := U) pA pH (X := XA) cl (spS sp1) v hh
def body : Code := (Go.Func.body Tryz.f29).getD .skip
def Γ : List (FuncId × AFun U) := [(42, journal_may.A), (50, drive_Drive_Clean.A), (44, journal_Journal_over.A)]
def Λ : List (Nat × LFun U) := []
def CT : List (Nat × LFun U) := []
def ro : List FuncId := []
def D : Nat → Lv × Lv := dtab []
def E : Env U := { E0 with Γ := Γ, Λ := Λ, C := CT, D := D, ro := ro }
theorem hk (R : Type) (l : TA) (K : AV U → Hp U → Option R) : funcA E Tryz.f29 [(0, [.to 5], .im 3)] R (pA.mkL l.1) (pH.mkH l.2) K = (tl l).runK fun y => K (v l y) (hh l y) := by kernel_rfl
theorem okF : SoundF Tryz.prog cc 29 (funcA E Tryz.f29 [(0, [.to 5], .im 3)]) :=
  funcA_ok (E := E) P_mixed (E0_ok.with Γ Λ CT D ro) (gam_of (all_cons ⟨journal_may.ok, journal_may.fo⟩ (all_cons ⟨drive_Drive_Clean.ok, drive_Drive_Clean.fo⟩ (all_cons ⟨journal_Journal_over.ok, journal_Journal_over.fo⟩ all_nil))) no_ro) Tryz.func29 (c := body) (by kernel_rfl)
    (just_by (by kernel_rfl) (by kernel_rfl) all_nil all_nil) [(0, [.to 5], .im 3)]
theorem ok : SoundF Tryz.prog cc 29 A :=
  mkA_ok (E := E) (p := pA) (q := pH) (t := tl) (spS_ok sp1_ok) hk okF
theorem fo : FnOK Tryz.prog 29 := ⟨Tryz.f29, Tryz.func29, by kernel_rfl, by kernel_rfl⟩
end journal_New

/-! (*instar/journal.Journal).said -/
namespace journal_Journal_said_v2
abbrev TA : Type := ((Unit × ((Int × (Int × ((List Int) × Unit))) × (Int × Unit))) × ((Unit × (Int × (Int × (Bool × (Int × ((List Int) × (Unit × Unit))))))) × ((Unit × (Int × (Int × (Int × (Int × (Int × (Int × Unit))))))) × ((Unit × (Int × (Unit × (Int × (Bool × (Int × (Unit × Unit))))))) × ((List Int) × ((List Int) × ((List Int) × ((List (List Int)) × Unit))))))))
abbrev XA : Type := (Int × ((List Int) × (List (List Int))))
def t (f_0 f_1 : Int) (f_2 : (List Int)) (n h0_1 h0_2 : Int) (h0_3 : Bool) (h0_4 : Int) (h0_5 : (List Int)) (h1_1 h1_2 h1_3 h1_4 h1_5 h1_6 h2_1 h2_3 : Int) (h2_4 : Bool) (h2_5 : Int) (h3 : (List Int)) (h4 : (List Int)) (h5 : (List Int)) (h6 : (List (List Int))) : Tw XA :=
 (.bb (f_0 == (1 : Int))
 (.ret ((w64 (h0_2 + n)), (f_2, ([] : List (List Int)))))
 (.dd ((((((List.length h6) + (List.length (f_2 :: ([] : List (List Int))))) * (24 : Nat)) ≤ (140737488355328 : Nat)) ∧ (((List.length h6) + (List.length (f_2 :: ([] : List (List Int))))) ≤ (140737488355328 : Nat)))) inferInstance
 (.ret ((w64 (h0_2 + n)), (h0_5, (h6 ++ (f_2 :: ([] : List (List Int)))))))
 .no))
def c (f_0 f_1 : Int) (f_2 : (List Int)) (n h0_1 h0_2 : Int) (h0_3 : Bool) (h0_4 : Int) (h0_5 : (List Int)) (h1_1 h1_2 h1_3 h1_4 h1_5 h1_6 h2_1 h2_3 : Int) (h2_4 : Bool) (h2_5 : Int) (h3 : (List Int)) (h4 : (List Int)) (h5 : (List Int)) (h6 : (List (List Int))) : Option XA := (t f_0 f_1 f_2 n h0_1 h0_2 h0_3 h0_4 h0_5 h1_1 h1_2 h1_3 h1_4 h1_5 h1_6 h2_1 h2_3 h2_4 h2_5 h3 h4 h5 h6).run
def tl (l : TA) : Tw XA := t l.1.2.1.1 l.1.2.1.2.1 l.1.2.1.2.2.1 l.1.2.2.1 l.2.1.2.1 l.2.1.2.2.1 l.2.1.2.2.2.1 l.2.1.2.2.2.2.1 l.2.1.2.2.2.2.2.1 l.2.2.1.2.1 l.2.2.1.2.2.1 l.2.2.1.2.2.2.1 l.2.2.1.2.2.2.2.1 l.2.2.1.2.2.2.2.2.1 l.2.2.1.2.2.2.2.2.2.1 l.2.2.2.1.2.1 l.2.2.2.1.2.2.2.1 l.2.2.2.1.2.2.2.2.1 l.2.2.2.1.2.2.2.2.2.1 l.2.2.2.2.1 l.2.2.2.2.2.1 l.2.2.2.2.2.2.1 l.2.2.2.2.2.2.2.1
def cl (l : TA) : Option XA := (tl l).run
def pA : Pt := (.cs (.ptr 0 0) (.cs (.agg (jC (jC (.cs (.sl 3) .nl)))) (jC .nl)))
def pH : Pt := (.cs (.var (.cs (.ptr 1 0) (jC (jC (.cs .bool (jC (.cs (.sl 3) (.cs (.own 6) .nl)))))))) (.cs (.var (.cs (.ptr 2 0) (jC (jC (jC (jC (jC (jC .nl)))))))) (.cs (.var (.cs (.own 3) (jC (.cs (.own 4) (jC (.cs .bool (jC (.cs (.own 5) .nl)))))))) (.cs (.row 3 true) (.cs (.row 1 true) (.cs (.row 3 true) (.cs (.row 12 true) .nl)))))))
def v (l : TA) (y : XA) : AV U := .tup []
def hh (l : TA) (y : XA) : Hp U := [.var [.ptr 1 0, jI l.2.1.2.1, jI y.1, jB l.2.1.2.2.2.1, jI l.1.2.1.2.1, .im (.slice 3 y.2.1), .own 7], .var [.ptr 2 0, jI l.2.2.1.2.1, jI l.2.2.1.2.2.1, jI l.2.2.1.2.2.2.1, jI l.2.2.1.2.2.2.2.1, jI l.2.2.1.2.2.2.2.2.1, jI l.2.2.1.2.2.2.2.2.2.1], .var [.own 3, jI l.2.2.2.1.2.1, .own 4, jI l.2.2.2.1.2.2.2.1, jB l.2.2.2.1.2.2.2.2.1, jI l.2.2.2.1.2.2.2.2.2.1, .own 5], .row 3 l.2.2.2.2.1 true, .row 1 l.2.2.2.2.2.1 true, .row 3 l.2.2.2.2.2.2.1 true, .dead, .row 12 y.2.2 true]
def A : AFun U := mkA (U := U) pA pH (X := XA) cl sp1 v hh
def body : Code := (Go.Func.body Tryz.f62).getD .skip
def Γ : List (FuncId × AFun U) := []
def Λ : List (Nat × LFun U) := []
def CT : List (Nat × LFun U) := []
def ro : List FuncId := []
def D : Nat → Lv × Lv := dtab []
def E : Env U := { E0 with Γ := Γ, Λ := Λ, C := CT, D := D, ro := ro, pre := [(0, [.to 6], .mv 12)], kill := [6] }
theorem hk (R : Type) (l : TA) (K : AV U → Hp U → Option R) : funcA E Tryz.f62 [] R (pA.mkL l.1) (pH.mkH l.2) K = (tl l).runK fun y => K (v l y) (hh l y) := by kernel_rfl
theorem okF : SoundF Tryz.prog cc 62 (funcA E Tryz.f62 []) :=
  funcA_ok (E := E) P_mixed ((E0_ok.with Γ Λ CT D ro).pre [(0, [.to 6], .mv 12)] [6] false) (gam_of all_nil all_nil) Tryz.func62 (c := body) (by kernel_rfl)
    (just_by (by kernel_rfl) (by kernel_rfl) all_nil all_nil) []
theorem ok : SoundF Tryz.prog cc 62 A :=
  mkA_ok (E := E) (p := pA) (q := pH) (t := tl) sp1_ok hk okF
theorem fo : FnOK Tryz.prog 62 := ⟨Tryz.f62, Tryz.func62, by kernel_rfl, by kernel_rfl⟩
end journal_Journal_said_v2

/-! (*instar/journal.Journal).over -/
namespace journal_Journal_over_v2
abbrev TA : Type := ((Unit × ((List Int) × (Int × Unit))) × ((Unit × (Int × (Int × (Bool × (Int × ((List Int) × (Unit × Unit))))))) × ((Unit × (Int × (Int × (Int × (Int × (Int × (Int × Unit))))))) × ((Unit × (Int × (Unit × (Int × (Bool × (Int × (Unit × Unit))))))) × ((List Int) × ((List Int) × ((List Int) × ((List (List Int)) × Unit))))))))
abbrev XA : Type := (Int × (Int × (Int × (Bool × (Int × ((List Int) × (Int × (Bool × (Int × ((List Int) × ((List Int) × (List (List Int)))))))))))))
def t (whole : (List Int)) (seq h0_1 h0_2 : Int) (h0_3 : Bool) (h0_4 : Int) (h0_5 : (List Int)) (h1_1 h1_2 h1_3 h1_4 h1_5 h1_6 h2_1 h2_3 : Int) (h2_4 : Bool) (h2_5 : Int) (h3 : (List Int)) (h4 : (List Int)) (h5 : (List Int)) (h6 : (List (List Int))) : Tw XA :=
 (.opt (slices_Clone__uint32uint32.c whole) fun z1 =>
 (.opt (frame_Lay.c (1 : Int) seq z1) fun z2 =>
 (.bb (z2.1 != (0 : Int))
 (.ret (z2.1, (h0_1, (h0_2, (h0_3, (h0_4, (h0_5, (h2_3, (h2_4, (h2_5, (h3, (h4, h6))))))))))))
 (.opt (drive_Drive_Fresh.c (w64 ((1 : Int) - h0_1)) z2.2 h1_1 h1_2 h1_3 h1_4 h1_5 h1_6 h2_1 h2_3 h2_4 h2_5 h3 h4 h5) fun z3 =>
 (.bb (z3.1 != (0 : Int))
 (.ret (z3.1, (h0_1, (h0_2, (h0_3, (h0_4, (h0_5, (z3.2.1, (z3.2.2.1, (z3.2.2.2.1, (z3.2.2.2.2.1, (z3.2.2.2.2.2, h6))))))))))))
 (.opt (journal_Journal_said_v2.c (1 : Int) seq z1 (((List.length z2.2) : Nat) : Int) (w64 ((1 : Int) - h0_1)) (0 : Int) false h0_4 h0_5 h1_1 h1_2 h1_3 h1_4 h1_5 h1_6 h2_1 z3.2.1 z3.2.2.1 z3.2.2.2.1 z3.2.2.2.2.1 z3.2.2.2.2.2 h5 h6) fun z4 =>
 (.ret ((0 : Int), ((w64 ((1 : Int) - h0_1)), (z4.1, (false, (seq, (z4.2.1, (z3.2.1, (z3.2.2.1, (z3.2.2.2.1, (z3.2.2.2.2.1, (z3.2.2.2.2.2, z4.2.2))))))))))))))))))
def c (whole : (List Int)) (seq h0_1 h0_2 : Int) (h0_3 : Bool) (h0_4 : Int) (h0_5 : (List Int)) (h1_1 h1_2 h1_3 h1_4 h1_5 h1_6 h2_1 h2_3 : Int) (h2_4 : Bool) (h2_5 : Int) (h3 : (List Int)) (h4 : (List Int)) (h5 : (List Int)) (h6 : (List (List Int))) : Option XA := (t whole seq h0_1 h0_2 h0_3 h0_4 h0_5 h1_1 h1_2 h1_3 h1_4 h1_5 h1_6 h2_1 h2_3 h2_4 h2_5 h3 h4 h5 h6).run
def tl (l : TA) : Tw XA := t l.1.2.1 l.1.2.2.1 l.2.1.2.1 l.2.1.2.2.1 l.2.1.2.2.2.1 l.2.1.2.2.2.2.1 l.2.1.2.2.2.2.2.1 l.2.2.1.2.1 l.2.2.1.2.2.1 l.2.2.1.2.2.2.1 l.2.2.1.2.2.2.2.1 l.2.2.1.2.2.2.2.2.1 l.2.2.1.2.2.2.2.2.2.1 l.2.2.2.1.2.1 l.2.2.2.1.2.2.2.1 l.2.2.2.1.2.2.2.2.1 l.2.2.2.1.2.2.2.2.2.1 l.2.2.2.2.1 l.2.2.2.2.2.1 l.2.2.2.2.2.2.1 l.2.2.2.2.2.2.2.1
def cl (l : TA) : Option XA := (tl l).run
def pA : Pt := (.cs (.ptr 0 0) (.cs (.sl 3) (jC .nl)))
def pH : Pt := (.cs (.var (.cs (.ptr 1 0) (jC (jC (.cs .bool (jC (.cs (.sl 3) (.cs (.own 6) .nl)))))))) (.cs (.var (.cs (.ptr 2 0) (jC (jC (jC (jC (jC (jC .nl)))))))) (.cs (.var (.cs (.own 3) (jC (.cs (.own 4) (jC (.cs .bool (jC (.cs (.own 5) .nl)))))))) (.cs (.row 3 true) (.cs (.row 1 true) (.cs (.row 3 true) (.cs (.row 12 true) .nl)))))))
def v (l : TA) (y : XA) : AV U := jI y.1
def hh (l : TA) (y : XA) : Hp U := [.var [.ptr 1 0, jI y.2.1, jI y.2.2.1, jB y.2.2.2.1, jI y.2.2.2.2.1, .im (.slice 3 y.2.2.2.2.2.1), .own 7], .var [.ptr 2 0, jI l.2.2.1.2.1, jI l.2.2.1.2.2.1, jI l.2.2.1.2.2.2.1, jI l.2.2.1.2.2.2.2.1, jI l.2.2.1.2.2.2.2.2.1, jI l.2.2.1.2.2.2.2.2.2.1], .var [.own 3, jI l.2.2.2.1.2.1, .own 4, jI y.2.2.2.2.2.2.1, jB y.2.2.2.2.2.2.2.1, jI y.2.2.2.2.2.2.2.2.1, .own 5], .row 3 y.2.2.2.2.2.2.2.2.2.1 true, .row 1 y.2.2.2.2.2.2.2.2.2.2.1 true, .row 3 l.2.2.2.2.2.2.1 true, .dead, .row 12 y.2.2.2.2.2.2.2.2.2.2.2 true]
def A : AFun U := mkA (U := U) pA pH (X := XA) cl sp1 v hh
def body : Code := (Go.Func.body Tryz.f44).getD .skip
def Γ : List (FuncId × AFun U) := [(39, slices_Clone__uint32uint32.A), (65, frame_Lay.A), (66, drive_Drive_Fresh.A), (62, journal_Journal_said_v2.A)]
def Λ : List (Nat × LFun U) := []
def CT : List (Nat × LFun U) := []
def ro : List FuncId := []
def D : Nat → Lv × Lv := dtab []
def E : Env U := { E0 with Γ := Γ, Λ := Λ, C := CT, D := D, ro := ro, pre := [(0, [.to 6], .mv 12)], kill := [6] }
theorem hk (R : Type) (l : TA) (K : AV U → Hp U → Option R) : funcA E Tryz.f44 [] R (pA.mkL l.1) (pH.mkH l.2) K = (tl l).runK fun y => K (v l y) (hh l y) := by kernel_rfl
theorem okF : SoundF Tryz.prog cc 44 (funcA E Tryz.f44 []) :=
  funcA_ok (E := E) P_mixed ((E0_ok.with Γ Λ CT D ro).pre [(0, [.to 6], .mv 12)] [6] false) (gam_of (all_cons ⟨slices_Clone__uint32uint32.ok, slices_Clone__uint32uint32.fo⟩ (all_cons ⟨frame_Lay.ok, frame_Lay.fo⟩ (all_cons ⟨drive_Drive_Fresh.ok, drive_Drive_Fresh.fo⟩ (all_cons ⟨journal_Journal_said_v2.ok, journal_Journal_said_v2.fo⟩ all_nil)))) no_ro) Tryz.func44 (c := body) (by kernel_rfl)
    (just_by (by kernel_rfl) (by kernel_rfl) all_nil all_nil) []
theorem ok : SoundF Tryz.prog cc 44 A :=
  mkA_ok (E := E) (p := pA) (q := pH) (t := tl) sp1_ok hk okF
theorem fo : FnOK Tryz.prog 44 := ⟨Tryz.f44, Tryz.func44, by kernel_rfl, by kernel_rfl⟩
end journal_Journal_over_v2

/-! (*instar/journal.Journal).Mend -/
namespace journal_Journal_Mend
abbrev TA : Type := ((Unit × ((List Int) × Unit)) × ((Unit × (Int × (Int × (Bool × (Int × ((List Int) × (Unit × Unit))))))) × ((Unit × (Int × (Int × (Int × (Int × (Int × (Int × Unit))))))) × ((Unit × (Int × (Unit × (Int × (Bool × (Int × (Unit × Unit))))))) × ((List Int) × ((List Int) × ((List Int) × ((List (List Int)) × Unit))))))))
abbrev XA : Type := (Int × (Int × (Int × (Bool × (Int × ((List Int) × (Int × (Bool × (Int × ((List Int) × ((List Int) × (List (List Int)))))))))))))
def t (whole : (List Int)) (h0_1 h0_2 : Int) (h0_3 : Bool) (h0_4 : Int) (h0_5 : (List Int)) (h1_1 h1_2 h1_3 h1_4 h1_5 h1_6 h2_1 h2_3 : Int) (h2_4 : Bool) (h2_5 : Int) (h3 : (List Int)) (h4 : (List Int)) (h5 : (List Int)) (h6 : (List (List Int))) : Tw XA :=
 (.opt (journal_may.c (whole :: ([] : List (List Int)))) fun z1 =>
 (.bb (!z1)
 (.ret ((2 : Int), (h0_1, (h0_2, (h0_3, (h0_4, (h0_5, (h2_3, (h2_4, (h2_5, (h3, (h4, h6))))))))))))
 (.bb (!h0_3)
 (.ret ((0 : Int), (h0_1, (h0_2, (h0_3, (h0_4, (h0_5, (h2_3, (h2_4, (h2_5, (h3, (h4, h6))))))))))))
 (.opt (drive_Drive_Geometry.c h1_1 h1_2 h1_3 h1_4 h1_5 h1_6 h2_1 h2_3 h2_4 h2_5 h3 h4 h5) fun z2 =>
 (.bb (decide (h0_4 ≥ h1_6))
 (.ret ((0 : Int), (h0_1, (h0_2, (h0_3, (h0_4, (h0_5, (h2_3, (h2_4, (h2_5, (h3, (h4, h6))))))))))))
 (.opt (journal_Journal_over_v2.c whole (w64 (h0_4 + (1 : Int))) h0_1 h0_2 h0_3 h0_4 h0_5 h1_1 h1_2 h1_3 h1_4 h1_5 h1_6 h2_1 h2_3 h2_4 h2_5 h3 h4 h5 h6) fun z3 =>
 (.ret (z3.1, (z3.2.1, (z3.2.2.1, (z3.2.2.2.1, (z3.2.2.2.2.1, (z3.2.2.2.2.2.1, (z3.2.2.2.2.2.2.1, (z3.2.2.2.2.2.2.2.1, (z3.2.2.2.2.2.2.2.2.1, (z3.2.2.2.2.2.2.2.2.2.1, (z3.2.2.2.2.2.2.2.2.2.2.1, z3.2.2.2.2.2.2.2.2.2.2.2))))))))))))))))))
def c (whole : (List Int)) (h0_1 h0_2 : Int) (h0_3 : Bool) (h0_4 : Int) (h0_5 : (List Int)) (h1_1 h1_2 h1_3 h1_4 h1_5 h1_6 h2_1 h2_3 : Int) (h2_4 : Bool) (h2_5 : Int) (h3 : (List Int)) (h4 : (List Int)) (h5 : (List Int)) (h6 : (List (List Int))) : Option XA := (t whole h0_1 h0_2 h0_3 h0_4 h0_5 h1_1 h1_2 h1_3 h1_4 h1_5 h1_6 h2_1 h2_3 h2_4 h2_5 h3 h4 h5 h6).run
def tl (l : TA) : Tw XA := t l.1.2.1 l.2.1.2.1 l.2.1.2.2.1 l.2.1.2.2.2.1 l.2.1.2.2.2.2.1 l.2.1.2.2.2.2.2.1 l.2.2.1.2.1 l.2.2.1.2.2.1 l.2.2.1.2.2.2.1 l.2.2.1.2.2.2.2.1 l.2.2.1.2.2.2.2.2.1 l.2.2.1.2.2.2.2.2.2.1 l.2.2.2.1.2.1 l.2.2.2.1.2.2.2.1 l.2.2.2.1.2.2.2.2.1 l.2.2.2.1.2.2.2.2.2.1 l.2.2.2.2.1 l.2.2.2.2.2.1 l.2.2.2.2.2.2.1 l.2.2.2.2.2.2.2.1
def cl (l : TA) : Option XA := (tl l).run
def pA : Pt := (.cs (.ptr 0 0) (.cs (.sl 3) .nl))
def pH : Pt := (.cs (.var (.cs (.ptr 1 0) (jC (jC (.cs .bool (jC (.cs (.sl 3) (.cs (.own 6) .nl)))))))) (.cs (.var (.cs (.ptr 2 0) (jC (jC (jC (jC (jC (jC .nl)))))))) (.cs (.var (.cs (.own 3) (jC (.cs (.own 4) (jC (.cs .bool (jC (.cs (.own 5) .nl)))))))) (.cs (.row 3 true) (.cs (.row 1 true) (.cs (.row 3 true) (.cs (.row 12 true) .nl)))))))
def v (l : TA) (y : XA) : AV U := jI y.1
def hh (l : TA) (y : XA) : Hp U := [.var [.ptr 1 0, jI y.2.1, jI y.2.2.1, jB y.2.2.2.1, jI y.2.2.2.2.1, .im (.slice 3 y.2.2.2.2.2.1), .own 7], .var [.ptr 2 0, jI l.2.2.1.2.1, jI l.2.2.1.2.2.1, jI l.2.2.1.2.2.2.1, jI l.2.2.1.2.2.2.2.1, jI l.2.2.1.2.2.2.2.2.1, jI l.2.2.1.2.2.2.2.2.2.1], .var [.own 3, jI l.2.2.2.1.2.1, .own 4, jI y.2.2.2.2.2.2.1, jB y.2.2.2.2.2.2.2.1, jI y.2.2.2.2.2.2.2.2.1, .own 5], .row 3 y.2.2.2.2.2.2.2.2.2.1 true, .row 1 y.2.2.2.2.2.2.2.2.2.2.1 true, .row 3 l.2.2.2.2.2.2.1 true, .dead, .row 12 y.2.2.2.2.2.2.2.2.2.2.2 true]
def A : AFun U := mkA (U := U) pA pH (X := XA) cl sp1 v hh
def body : Code := (Go.Func.body Tryz.f21).getD .skip
def Γ : List (FuncId × AFun U) := [(42, journal_may.A), (43, drive_Drive_Geometry.A), (44, journal_Journal_over_v2.A)]
def Λ : List (Nat × LFun U) := []
def CT : List (Nat × LFun U) := []
def ro : List FuncId := [43]
def D : Nat → Lv × Lv := dtab []
def E : Env U := { E0 with Γ := Γ, Λ := Λ, C := CT, D := D, ro := ro, pre := [(0, [.to 6], .mv 12)], kill := [6] }
theorem hk (R : Type) (l : TA) (K : AV U → Hp U → Option R) : funcA E Tryz.f21 [] R (pA.mkL l.1) (pH.mkH l.2) K = (tl l).runK fun y => K (v l y) (hh l y) := by kernel_rfl
theorem okF : SoundF Tryz.prog cc 21 (funcA E Tryz.f21 []) :=
  funcA_ok (E := E) P_mixed ((E0_ok.with Γ Λ CT D ro).pre [(0, [.to 6], .mv 12)] [6] false) (gam_of (all_cons ⟨journal_may.ok, journal_may.fo⟩ (all_cons ⟨drive_Drive_Geometry.ok, drive_Drive_Geometry.fo⟩ (all_cons ⟨journal_Journal_over_v2.ok, journal_Journal_over_v2.fo⟩ all_nil))) (all_cons (no_keep (by kernel_rfl)) (all_cons (fun _ => drive_Drive_Geometry.keep) (all_cons (no_keep (by kernel_rfl)) all_nil)))) Tryz.func21 (c := body) (by kernel_rfl)
    (just_by (by kernel_rfl) (by kernel_rfl) all_nil all_nil) []
theorem ok : SoundF Tryz.prog cc 21 A :=
  mkA_ok (E := E) (p := pA) (q := pH) (t := tl) sp1_ok hk okF
theorem fo : FnOK Tryz.prog 21 := ⟨Tryz.f21, Tryz.func21, by kernel_rfl, by kernel_rfl⟩
end journal_Journal_Mend

/-! (*instar/journal.Journal).put -/
namespace journal_Journal_put
abbrev TA : Type := ((Unit × (Int × ((List Int) × ((List Int) × Unit)))) × ((Unit × (Int × (Int × (Bool × (Int × ((List Int) × (Unit × Unit))))))) × ((Unit × (Int × (Int × (Int × (Int × (Int × (Int × Unit))))))) × ((Unit × (Int × (Unit × (Int × (Bool × (Int × (Unit × Unit))))))) × ((List Int) × ((List Int) × ((List Int) × ((List (List Int)) × Unit))))))))
abbrev XA : Type := (Int × (Int × (Int × (Bool × (Int × ((List Int) × (Int × (Bool × (Int × ((List Int) × ((List Int) × (List (List Int)))))))))))))
def t (kind : Int) (load : (List Int)) (whole : (List Int)) (h0_1 h0_2 : Int) (h0_3 : Bool) (h0_4 : Int) (h0_5 : (List Int)) (h1_1 h1_2 h1_3 h1_4 h1_5 h1_6 h2_1 h2_3 : Int) (h2_4 : Bool) (h2_5 : Int) (h3 : (List Int)) (h4 : (List Int)) (h5 : (List Int)) (h6 : (List (List Int))) : Tw XA :=
 (.opt (journal_may.c (load :: (whole :: ([] : List (List Int))))) fun z1 =>
 (.bb (!z1)
 (.ret ((2 : Int), (h0_1, (h0_2, (h0_3, (h0_4, (h0_5, (h2_3, (h2_4, (h2_5, (h3, (h4, h6))))))))))))
 (.opt (drive_Drive_Geometry.c h1_1 h1_2 h1_3 h1_4 h1_5 h1_6 h2_1 h2_3 h2_4 h2_5 h3 h4 h5) fun z2 =>
 (.bb (decide (h0_4 ≥ h1_6))
 (.ret ((13 : Int), (h0_1, (h0_2, (h0_3, (h0_4, (h0_5, (h2_3, (h2_4, (h2_5, (h3, (h4, h6))))))))))))
 (.bb h0_3
 (.opt (journal_Journal_over_v2.c whole (w64 (h0_4 + (1 : Int))) h0_1 h0_2 h0_3 h0_4 h0_5 h1_1 h1_2 h1_3 h1_4 h1_5 h1_6 h2_1 h2_3 h2_4 h2_5 h3 h4 h5 h6) fun z10 =>
 (.ret (z10.1, (z10.2.1, (z10.2.2.1, (z10.2.2.2.1, (z10.2.2.2.2.1, (z10.2.2.2.2.2.1, (z10.2.2.2.2.2.2.1, (z10.2.2.2.2.2.2.2.1, (z10.2.2.2.2.2.2.2.2.1, (z10.2.2.2.2.2.2.2.2.2.1, (z10.2.2.2.2.2.2.2.2.2.2.1, z10.2.2.2.2.2.2.2.2.2.2.2)))))))))))))
 (.opt (frame_Size.c (((List.length load) : Nat) : Int)) fun z3 =>
 (.opt (drive_Drive_Geometry.c h1_1 h1_2 h1_3 h1_4 h1_5 h1_6 h2_1 h2_3 h2_4 h2_5 h3 h4 h5) fun z4 =>
 (.bb (decide ((w64 (h0_2 + z3)) > h1_1))
 (.opt (journal_Journal_over_v2.c whole (w64 (h0_4 + (1 : Int))) h0_1 h0_2 h0_3 h0_4 h0_5 h1_1 h1_2 h1_3 h1_4 h1_5 h1_6 h2_1 h2_3 h2_4 h2_5 h3 h4 h5 h6) fun z9 =>
 (.ret (z9.1, (z9.2.1, (z9.2.2.1, (z9.2.2.2.1, (z9.2.2.2.2.1, (z9.2.2.2.2.2.1, (z9.2.2.2.2.2.2.1, (z9.2.2.2.2.2.2.2.1, (z9.2.2.2.2.2.2.2.2.1, (z9.2.2.2.2.2.2.2.2.2.1, (z9.2.2.2.2.2.2.2.2.2.2.1, z9.2.2.2.2.2.2.2.2.2.2.2)))))))))))))
 (.opt (slices_Clone__uint32uint32.c load) fun z5 =>
 (.opt (frame_Lay.c kind (w64 (h0_4 + (1 : Int))) z5) fun z6 =>
 (.bb (z6.1 != (0 : Int))
 (.ret (z6.1, (h0_1, (h0_2, (h0_3, (h0_4, (h0_5, (h2_3, (h2_4, (h2_5, (h3, (h4, h6))))))))))))
 (.opt (drive_Drive_Write.c h0_1 h0_2 z6.2 h1_1 h1_2 h1_3 h1_4 h1_5 h1_6 h2_1 h2_3 h2_4 h2_5 h3 h4 h5) fun z7 =>
 (.bb (z7.1 != (0 : Int))
 (.ret (z7.1, (h0_1, (h0_2, (h0_3, (h0_4, (h0_5, (z7.2.1, (z7.2.2.1, (z7.2.2.2.1, (z7.2.2.2.2, (h4, h6))))))))))))
 (.opt (journal_Journal_said_v2.c kind (w64 (h0_4 + (1 : Int))) z5 (((List.length z6.2) : Nat) : Int) h0_1 h0_2 h0_3 h0_4 h0_5 h1_1 h1_2 h1_3 h1_4 h1_5 h1_6 h2_1 z7.2.1 z7.2.2.1 z7.2.2.2.1 z7.2.2.2.2 h4 h5 h6) fun z8 =>
 (.ret ((0 : Int), (h0_1, (z8.1, (h0_3, ((w64 (h0_4 + (1 : Int))), (z8.2.1, (z7.2.1, (z7.2.2.1, (z7.2.2.2.1, (z7.2.2.2.2, (h4, z8.2.2))))))))))))))))))))))))))
def c (kind : Int) (load : (List Int)) (whole : (List Int)) (h0_1 h0_2 : Int) (h0_3 : Bool) (h0_4 : Int) (h0_5 : (List Int)) (h1_1 h1_2 h1_3 h1_4 h1_5 h1_6 h2_1 h2_3 : Int) (h2_4 : Bool) (h2_5 : Int) (h3 : (List Int)) (h4 : (List Int)) (h5 : (List Int)) (h6 : (List (List Int))) : Option XA := (t kind load whole h0_1 h0_2 h0_3 h0_4 h0_5 h1_1 h1_2 h1_3 h1_4 h1_5 h1_6 h2_1 h2_3 h2_4 h2_5 h3 h4 h5 h6).run
def tl (l : TA) : Tw XA := t l.1.2.1 l.1.2.2.1 l.1.2.2.2.1 l.2.1.2.1 l.2.1.2.2.1 l.2.1.2.2.2.1 l.2.1.2.2.2.2.1 l.2.1.2.2.2.2.2.1 l.2.2.1.2.1 l.2.2.1.2.2.1 l.2.2.1.2.2.2.1 l.2.2.1.2.2.2.2.1 l.2.2.1.2.2.2.2.2.1 l.2.2.1.2.2.2.2.2.2.1 l.2.2.2.1.2.1 l.2.2.2.1.2.2.2.1 l.2.2.2.1.2.2.2.2.1 l.2.2.2.1.2.2.2.2.2.1 l.2.2.2.2.1 l.2.2.2.2.2.1 l.2.2.2.2.2.2.1 l.2.2.2.2.2.2.2.1
def cl (l : TA) : Option XA := (tl l).run
def pA : Pt := (.cs (.ptr 0 0) (jC (.cs (.sl 3) (.cs (.sl 3) .nl))))
def pH : Pt := (.cs (.var (.cs (.ptr 1 0) (jC (jC (.cs .bool (jC (.cs (.sl 3) (.cs (.own 6) .nl)))))))) (.cs (.var (.cs (.ptr 2 0) (jC (jC (jC (jC (jC (jC .nl)))))))) (.cs (.var (.cs (.own 3) (jC (.cs (.own 4) (jC (.cs .bool (jC (.cs (.own 5) .nl)))))))) (.cs (.row 3 true) (.cs (.row 1 true) (.cs (.row 3 true) (.cs (.row 12 true) .nl)))))))
def v (l : TA) (y : XA) : AV U := jI y.1
def hh (l : TA) (y : XA) : Hp U := [.var [.ptr 1 0, jI y.2.1, jI y.2.2.1, jB y.2.2.2.1, jI y.2.2.2.2.1, .im (.slice 3 y.2.2.2.2.2.1), .own 7], .var [.ptr 2 0, jI l.2.2.1.2.1, jI l.2.2.1.2.2.1, jI l.2.2.1.2.2.2.1, jI l.2.2.1.2.2.2.2.1, jI l.2.2.1.2.2.2.2.2.1, jI l.2.2.1.2.2.2.2.2.2.1], .var [.own 3, jI l.2.2.2.1.2.1, .own 4, jI y.2.2.2.2.2.2.1, jB y.2.2.2.2.2.2.2.1, jI y.2.2.2.2.2.2.2.2.1, .own 5], .row 3 y.2.2.2.2.2.2.2.2.2.1 true, .row 1 y.2.2.2.2.2.2.2.2.2.2.1 true, .row 3 l.2.2.2.2.2.2.1 true, .dead, .row 12 y.2.2.2.2.2.2.2.2.2.2.2 true]
def A : AFun U := mkA (U := U) pA pH (X := XA) cl sp1 v hh
def body : Code := (Go.Func.body Tryz.f46).getD .skip
def Γ : List (FuncId × AFun U) := [(42, journal_may.A), (43, drive_Drive_Geometry.A), (64, frame_Size.A), (39, slices_Clone__uint32uint32.A), (65, frame_Lay.A), (67, drive_Drive_Write.A), (62, journal_Journal_said_v2.A), (44, journal_Journal_over_v2.A)]
def Λ : List (Nat × LFun U) := []
def CT : List (Nat × LFun U) := []
def ro : List FuncId := [43]
def D : Nat → Lv × Lv := dtab []
def E : Env U := { E0 with Γ := Γ, Λ := Λ, C := CT, D := D, ro := ro, pre := [(0, [.to 6], .mv 12)], kill := [6] }
theorem hk (R : Type) (l : TA) (K : AV U → Hp U → Option R) : funcA E Tryz.f46 [] R (pA.mkL l.1) (pH.mkH l.2) K = (tl l).runK fun y => K (v l y) (hh l y) := by kernel_rfl
theorem okF : SoundF Tryz.prog cc 46 (funcA E Tryz.f46 []) :=
  funcA_ok (E := E) P_mixed ((E0_ok.with Γ Λ CT D ro).pre [(0, [.to 6], .mv 12)] [6] false) (gam_of (all_cons ⟨journal_may.ok, journal_may.fo⟩ (all_cons ⟨drive_Drive_Geometry.ok, drive_Drive_Geometry.fo⟩ (all_cons ⟨frame_Size.ok, frame_Size.fo⟩ (all_cons ⟨slices_Clone__uint32uint32.ok, slices_Clone__uint32uint32.fo⟩ (all_cons ⟨frame_Lay.ok, frame_Lay.fo⟩ (all_cons ⟨drive_Drive_Write.ok, drive_Drive_Write.fo⟩ (all_cons ⟨journal_Journal_said_v2.ok, journal_Journal_said_v2.fo⟩ (all_cons ⟨journal_Journal_over_v2.ok, journal_Journal_over_v2.fo⟩ all_nil)))))))) (all_cons (no_keep (by kernel_rfl)) (all_cons (fun _ => drive_Drive_Geometry.keep) (all_cons (no_keep (by kernel_rfl)) (all_cons (no_keep (by kernel_rfl)) (all_cons (no_keep (by kernel_rfl)) (all_cons (no_keep (by kernel_rfl)) (all_cons (no_keep (by kernel_rfl)) (all_cons (no_keep (by kernel_rfl)) all_nil))))))))) Tryz.func46 (c := body) (by kernel_rfl)
    (just_by (by kernel_rfl) (by kernel_rfl) all_nil all_nil) []
theorem ok : SoundF Tryz.prog cc 46 A :=
  mkA_ok (E := E) (p := pA) (q := pH) (t := tl) sp1_ok hk okF
theorem fo : FnOK Tryz.prog 46 := ⟨Tryz.f46, Tryz.func46, by kernel_rfl, by kernel_rfl⟩
end journal_Journal_put

/-! (*instar/journal.Journal).Put -/
namespace journal_Journal_Put
abbrev TA : Type := ((Unit × ((List Int) × Unit)) × ((Unit × (Int × (Int × (Bool × (Int × ((List Int) × (Unit × Unit))))))) × ((Unit × (Int × (Int × (Int × (Int × (Int × (Int × Unit))))))) × ((Unit × (Int × (Unit × (Int × (Bool × (Int × (Unit × Unit))))))) × ((List Int) × ((List Int) × ((List Int) × ((List (List Int)) × Unit))))))))
abbrev XA : Type := (Int × (Int × (Int × (Bool × (Int × ((List Int) × (Int × (Bool × (Int × ((List Int) × ((List Int) × (List (List Int)))))))))))))
def t (whole : (List Int)) (h0_1 h0_2 : Int) (h0_3 : Bool) (h0_4 : Int) (h0_5 : (List Int)) (h1_1 h1_2 h1_3 h1_4 h1_5 h1_6 h2_1 h2_3 : Int) (h2_4 : Bool) (h2_5 : Int) (h3 : (List Int)) (h4 : (List Int)) (h5 : (List Int)) (h6 : (List (List Int))) : Tw XA :=
 (.opt (journal_Journal_put.c (1 : Int) whole whole h0_1 h0_2 h0_3 h0_4 h0_5 h1_1 h1_2 h1_3 h1_4 h1_5 h1_6 h2_1 h2_3 h2_4 h2_5 h3 h4 h5 h6) fun z1 =>
 (.ret (z1.1, (z1.2.1, (z1.2.2.1, (z1.2.2.2.1, (z1.2.2.2.2.1, (z1.2.2.2.2.2.1, (z1.2.2.2.2.2.2.1, (z1.2.2.2.2.2.2.2.1, (z1.2.2.2.2.2.2.2.2.1, (z1.2.2.2.2.2.2.2.2.2.1, (z1.2.2.2.2.2.2.2.2.2.2.1, z1.2.2.2.2.2.2.2.2.2.2.2)))))))))))))
def c (whole : (List Int)) (h0_1 h0_2 : Int) (h0_3 : Bool) (h0_4 : Int) (h0_5 : (List Int)) (h1_1 h1_2 h1_3 h1_4 h1_5 h1_6 h2_1 h2_3 : Int) (h2_4 : Bool) (h2_5 : Int) (h3 : (List Int)) (h4 : (List Int)) (h5 : (List Int)) (h6 : (List (List Int))) : Option XA := (t whole h0_1 h0_2 h0_3 h0_4 h0_5 h1_1 h1_2 h1_3 h1_4 h1_5 h1_6 h2_1 h2_3 h2_4 h2_5 h3 h4 h5 h6).run
def tl (l : TA) : Tw XA := t l.1.2.1 l.2.1.2.1 l.2.1.2.2.1 l.2.1.2.2.2.1 l.2.1.2.2.2.2.1 l.2.1.2.2.2.2.2.1 l.2.2.1.2.1 l.2.2.1.2.2.1 l.2.2.1.2.2.2.1 l.2.2.1.2.2.2.2.1 l.2.2.1.2.2.2.2.2.1 l.2.2.1.2.2.2.2.2.2.1 l.2.2.2.1.2.1 l.2.2.2.1.2.2.2.1 l.2.2.2.1.2.2.2.2.1 l.2.2.2.1.2.2.2.2.2.1 l.2.2.2.2.1 l.2.2.2.2.2.1 l.2.2.2.2.2.2.1 l.2.2.2.2.2.2.2.1
def cl (l : TA) : Option XA := (tl l).run
def pA : Pt := (.cs (.ptr 0 0) (.cs (.sl 3) .nl))
def pH : Pt := (.cs (.var (.cs (.ptr 1 0) (jC (jC (.cs .bool (jC (.cs (.sl 3) (.cs (.own 6) .nl)))))))) (.cs (.var (.cs (.ptr 2 0) (jC (jC (jC (jC (jC (jC .nl)))))))) (.cs (.var (.cs (.own 3) (jC (.cs (.own 4) (jC (.cs .bool (jC (.cs (.own 5) .nl)))))))) (.cs (.row 3 true) (.cs (.row 1 true) (.cs (.row 3 true) (.cs (.row 12 true) .nl)))))))
def v (l : TA) (y : XA) : AV U := jI y.1
def hh (l : TA) (y : XA) : Hp U := [.var [.ptr 1 0, jI y.2.1, jI y.2.2.1, jB y.2.2.2.1, jI y.2.2.2.2.1, .im (.slice 3 y.2.2.2.2.2.1), .own 7], .var [.ptr 2 0, jI l.2.2.1.2.1, jI l.2.2.1.2.2.1, jI l.2.2.1.2.2.2.1, jI l.2.2.1.2.2.2.2.1, jI l.2.2.1.2.2.2.2.2.1, jI l.2.2.1.2.2.2.2.2.2.1], .var [.own 3, jI l.2.2.2.1.2.1, .own 4, jI y.2.2.2.2.2.2.1, jB y.2.2.2.2.2.2.2.1, jI y.2.2.2.2.2.2.2.2.1, .own 5], .row 3 y.2.2.2.2.2.2.2.2.2.1 true, .row 1 y.2.2.2.2.2.2.2.2.2.2.1 true, .row 3 l.2.2.2.2.2.2.1 true, .dead, .row 12 y.2.2.2.2.2.2.2.2.2.2.2 true]
def A : AFun U := mkA (U := U) pA pH (X := XA) cl sp1 v hh
def body : Code := (Go.Func.body Tryz.f40).getD .skip
def Γ : List (FuncId × AFun U) := [(46, journal_Journal_put.A)]
def Λ : List (Nat × LFun U) := []
def CT : List (Nat × LFun U) := []
def ro : List FuncId := []
def D : Nat → Lv × Lv := dtab []
def E : Env U := { E0 with Γ := Γ, Λ := Λ, C := CT, D := D, ro := ro }
theorem hk (R : Type) (l : TA) (K : AV U → Hp U → Option R) : funcA E Tryz.f40 [] R (pA.mkL l.1) (pH.mkH l.2) K = (tl l).runK fun y => K (v l y) (hh l y) := by kernel_rfl
theorem okF : SoundF Tryz.prog cc 40 (funcA E Tryz.f40 []) :=
  funcA_ok (E := E) P_mixed (E0_ok.with Γ Λ CT D ro) (gam_of (all_cons ⟨journal_Journal_put.ok, journal_Journal_put.fo⟩ all_nil) no_ro) Tryz.func40 (c := body) (by kernel_rfl)
    (just_by (by kernel_rfl) (by kernel_rfl) all_nil all_nil) []
theorem ok : SoundF Tryz.prog cc 40 A :=
  mkA_ok (E := E) (p := pA) (q := pH) (t := tl) sp1_ok hk okF
theorem fo : FnOK Tryz.prog 40 := ⟨Tryz.f40, Tryz.func40, by kernel_rfl, by kernel_rfl⟩
end journal_Journal_Put

/-! (*instar/journal.Journal).Change -/
namespace journal_Journal_Change
abbrev TA : Type := ((Unit × ((List Int) × ((List Int) × Unit))) × ((Unit × (Int × (Int × (Bool × (Int × ((List Int) × (Unit × Unit))))))) × ((Unit × (Int × (Int × (Int × (Int × (Int × (Int × Unit))))))) × ((Unit × (Int × (Unit × (Int × (Bool × (Int × (Unit × Unit))))))) × ((List Int) × ((List Int) × ((List Int) × ((List (List Int)) × Unit))))))))
abbrev XA : Type := (Int × (Int × (Int × (Bool × (Int × ((List Int) × (Int × (Bool × (Int × ((List Int) × ((List Int) × (List (List Int)))))))))))))
def t (load : (List Int)) (whole : (List Int)) (h0_1 h0_2 : Int) (h0_3 : Bool) (h0_4 : Int) (h0_5 : (List Int)) (h1_1 h1_2 h1_3 h1_4 h1_5 h1_6 h2_1 h2_3 : Int) (h2_4 : Bool) (h2_5 : Int) (h3 : (List Int)) (h4 : (List Int)) (h5 : (List Int)) (h6 : (List (List Int))) : Tw XA :=
 (.opt (journal_Journal_put.c (2 : Int) load whole h0_1 h0_2 h0_3 h0_4 h0_5 h1_1 h1_2 h1_3 h1_4 h1_5 h1_6 h2_1 h2_3 h2_4 h2_5 h3 h4 h5 h6) fun z1 =>
 (.ret (z1.1, (z1.2.1, (z1.2.2.1, (z1.2.2.2.1, (z1.2.2.2.2.1, (z1.2.2.2.2.2.1, (z1.2.2.2.2.2.2.1, (z1.2.2.2.2.2.2.2.1, (z1.2.2.2.2.2.2.2.2.1, (z1.2.2.2.2.2.2.2.2.2.1, (z1.2.2.2.2.2.2.2.2.2.2.1, z1.2.2.2.2.2.2.2.2.2.2.2)))))))))))))
def c (load : (List Int)) (whole : (List Int)) (h0_1 h0_2 : Int) (h0_3 : Bool) (h0_4 : Int) (h0_5 : (List Int)) (h1_1 h1_2 h1_3 h1_4 h1_5 h1_6 h2_1 h2_3 : Int) (h2_4 : Bool) (h2_5 : Int) (h3 : (List Int)) (h4 : (List Int)) (h5 : (List Int)) (h6 : (List (List Int))) : Option XA := (t load whole h0_1 h0_2 h0_3 h0_4 h0_5 h1_1 h1_2 h1_3 h1_4 h1_5 h1_6 h2_1 h2_3 h2_4 h2_5 h3 h4 h5 h6).run
def tl (l : TA) : Tw XA := t l.1.2.1 l.1.2.2.1 l.2.1.2.1 l.2.1.2.2.1 l.2.1.2.2.2.1 l.2.1.2.2.2.2.1 l.2.1.2.2.2.2.2.1 l.2.2.1.2.1 l.2.2.1.2.2.1 l.2.2.1.2.2.2.1 l.2.2.1.2.2.2.2.1 l.2.2.1.2.2.2.2.2.1 l.2.2.1.2.2.2.2.2.2.1 l.2.2.2.1.2.1 l.2.2.2.1.2.2.2.1 l.2.2.2.1.2.2.2.2.1 l.2.2.2.1.2.2.2.2.2.1 l.2.2.2.2.1 l.2.2.2.2.2.1 l.2.2.2.2.2.2.1 l.2.2.2.2.2.2.2.1
def cl (l : TA) : Option XA := (tl l).run
def pA : Pt := (.cs (.ptr 0 0) (.cs (.sl 3) (.cs (.sl 3) .nl)))
def pH : Pt := (.cs (.var (.cs (.ptr 1 0) (jC (jC (.cs .bool (jC (.cs (.sl 3) (.cs (.own 6) .nl)))))))) (.cs (.var (.cs (.ptr 2 0) (jC (jC (jC (jC (jC (jC .nl)))))))) (.cs (.var (.cs (.own 3) (jC (.cs (.own 4) (jC (.cs .bool (jC (.cs (.own 5) .nl)))))))) (.cs (.row 3 true) (.cs (.row 1 true) (.cs (.row 3 true) (.cs (.row 12 true) .nl)))))))
def v (l : TA) (y : XA) : AV U := jI y.1
def hh (l : TA) (y : XA) : Hp U := [.var [.ptr 1 0, jI y.2.1, jI y.2.2.1, jB y.2.2.2.1, jI y.2.2.2.2.1, .im (.slice 3 y.2.2.2.2.2.1), .own 7], .var [.ptr 2 0, jI l.2.2.1.2.1, jI l.2.2.1.2.2.1, jI l.2.2.1.2.2.2.1, jI l.2.2.1.2.2.2.2.1, jI l.2.2.1.2.2.2.2.2.1, jI l.2.2.1.2.2.2.2.2.2.1], .var [.own 3, jI l.2.2.2.1.2.1, .own 4, jI y.2.2.2.2.2.2.1, jB y.2.2.2.2.2.2.2.1, jI y.2.2.2.2.2.2.2.2.1, .own 5], .row 3 y.2.2.2.2.2.2.2.2.2.1 true, .row 1 y.2.2.2.2.2.2.2.2.2.2.1 true, .row 3 l.2.2.2.2.2.2.1 true, .dead, .row 12 y.2.2.2.2.2.2.2.2.2.2.2 true]
def A : AFun U := mkA (U := U) pA pH (X := XA) cl sp1 v hh
def body : Code := (Go.Func.body Tryz.f26).getD .skip
def Γ : List (FuncId × AFun U) := [(46, journal_Journal_put.A)]
def Λ : List (Nat × LFun U) := []
def CT : List (Nat × LFun U) := []
def ro : List FuncId := []
def D : Nat → Lv × Lv := dtab []
def E : Env U := { E0 with Γ := Γ, Λ := Λ, C := CT, D := D, ro := ro }
theorem hk (R : Type) (l : TA) (K : AV U → Hp U → Option R) : funcA E Tryz.f26 [] R (pA.mkL l.1) (pH.mkH l.2) K = (tl l).runK fun y => K (v l y) (hh l y) := by kernel_rfl
theorem okF : SoundF Tryz.prog cc 26 (funcA E Tryz.f26 []) :=
  funcA_ok (E := E) P_mixed (E0_ok.with Γ Λ CT D ro) (gam_of (all_cons ⟨journal_Journal_put.ok, journal_Journal_put.fo⟩ all_nil) no_ro) Tryz.func26 (c := body) (by kernel_rfl)
    (just_by (by kernel_rfl) (by kernel_rfl) all_nil all_nil) []
theorem ok : SoundF Tryz.prog cc 26 A :=
  mkA_ok (E := E) (p := pA) (q := pH) (t := tl) sp1_ok hk okF
theorem fo : FnOK Tryz.prog 26 := ⟨Tryz.f26, Tryz.func26, by kernel_rfl, by kernel_rfl⟩
end journal_Journal_Change

/-! (*instar/journal.Journal).Place -/
namespace journal_Journal_Place
abbrev TA : Type := ((Unit × Unit) × ((Unit × (Int × (Int × (Bool × (Int × ((List Int) × (Unit × Unit))))))) × ((Unit × (Int × (Int × (Int × (Int × (Int × (Int × Unit))))))) × ((Unit × (Int × (Unit × (Int × (Bool × (Int × (Unit × Unit))))))) × ((List Int) × ((List Int) × ((List Int) × ((List (List Int)) × Unit))))))))
def t (h0_1 h0_2 : Int) (h0_3 : Bool) (h0_4 : Int) (h0_5 : (List Int)) (h1_1 h1_2 h1_3 h1_4 h1_5 h1_6 h2_1 h2_3 : Int) (h2_4 : Bool) (h2_5 : Int) (h3 : (List Int)) (h4 : (List Int)) (h5 : (List Int)) (h6 : (List (List Int))) : Tw Unit :=
 (.ret ())
def c (h0_1 h0_2 : Int) (h0_3 : Bool) (h0_4 : Int) (h0_5 : (List Int)) (h1_1 h1_2 h1_3 h1_4 h1_5 h1_6 h2_1 h2_3 : Int) (h2_4 : Bool) (h2_5 : Int) (h3 : (List Int)) (h4 : (List Int)) (h5 : (List Int)) (h6 : (List (List Int))) : Option Unit := (t h0_1 h0_2 h0_3 h0_4 h0_5 h1_1 h1_2 h1_3 h1_4 h1_5 h1_6 h2_1 h2_3 h2_4 h2_5 h3 h4 h5 h6).run
def tl (l : TA) : Tw Unit := t l.2.1.2.1 l.2.1.2.2.1 l.2.1.2.2.2.1 l.2.1.2.2.2.2.1 l.2.1.2.2.2.2.2.1 l.2.2.1.2.1 l.2.2.1.2.2.1 l.2.2.1.2.2.2.1 l.2.2.1.2.2.2.2.1 l.2.2.1.2.2.2.2.2.1 l.2.2.1.2.2.2.2.2.2.1 l.2.2.2.1.2.1 l.2.2.2.1.2.2.2.1 l.2.2.2.1.2.2.2.2.1 l.2.2.2.1.2.2.2.2.2.1 l.2.2.2.2.1 l.2.2.2.2.2.1 l.2.2.2.2.2.2.1 l.2.2.2.2.2.2.2.1
def cl (l : TA) : Option Unit := (tl l).run
def pA : Pt := (.cs (.ptr 0 0) .nl)
def pH : Pt := (.cs (.var (.cs (.ptr 1 0) (jC (jC (.cs .bool (jC (.cs (.sl 3) (.cs (.own 6) .nl)))))))) (.cs (.var (.cs (.ptr 2 0) (jC (jC (jC (jC (jC (jC .nl)))))))) (.cs (.var (.cs (.own 3) (jC (.cs (.own 4) (jC (.cs .bool (jC (.cs (.own 5) .nl)))))))) (.cs (.row 3 true) (.cs (.row 1 true) (.cs (.row 3 true) (.cs (.row 12 true) .nl)))))))
def v (l : TA) (y : Unit) : AV U := .tup [jI l.2.1.2.1, jI l.2.1.2.2.1]
def hh (l : TA) (y : Unit) : Hp U := [.var [.ptr 1 0, jI l.2.1.2.1, jI l.2.1.2.2.1, jB l.2.1.2.2.2.1, jI l.2.1.2.2.2.2.1, .im (.slice 3 l.2.1.2.2.2.2.2.1), .own 6], .var [.ptr 2 0, jI l.2.2.1.2.1, jI l.2.2.1.2.2.1, jI l.2.2.1.2.2.2.1, jI l.2.2.1.2.2.2.2.1, jI l.2.2.1.2.2.2.2.2.1, jI l.2.2.1.2.2.2.2.2.2.1], .var [.own 3, jI l.2.2.2.1.2.1, .own 4, jI l.2.2.2.1.2.2.2.1, jB l.2.2.2.1.2.2.2.2.1, jI l.2.2.2.1.2.2.2.2.2.1, .own 5], .row 3 l.2.2.2.2.1 true, .row 1 l.2.2.2.2.2.1 true, .row 3 l.2.2.2.2.2.2.1 true, .row 12 l.2.2.2.2.2.2.2.1 true]
def A : AFun U := mkA (U := U) pA pH (X := Unit) cl sp1 v hh
def body : Code := (Go.Func.body Tryz.f55).getD .skip
def Γ : List (FuncId × AFun U) := []
def Λ : List (Nat × LFun U) := []
def CT : List (Nat × LFun U) := []
def ro : List FuncId := []
def D : Nat → Lv × Lv := dtab []
def E : Env U := { E0 with Γ := Γ, Λ := Λ, C := CT, D := D, ro := ro }
theorem hk (R : Type) (l : TA) (K : AV U → Hp U → Option R) : funcA E Tryz.f55 [] R (pA.mkL l.1) (pH.mkH l.2) K = (tl l).runK fun y => K (v l y) (hh l y) := by kernel_rfl
theorem okF : SoundF Tryz.prog cc 55 (funcA E Tryz.f55 []) :=
  funcA_ok (E := E) P_mixed (E0_ok.with Γ Λ CT D ro) (gam_of all_nil all_nil) Tryz.func55 (c := body) (by kernel_rfl)
    (just_by (by kernel_rfl) (by kernel_rfl) all_nil all_nil) []
theorem ok : SoundF Tryz.prog cc 55 A :=
  mkA_ok (E := E) (p := pA) (q := pH) (t := tl) sp1_ok hk okF
theorem fo : FnOK Tryz.prog 55 := ⟨Tryz.f55, Tryz.func55, by kernel_rfl, by kernel_rfl⟩
theorem keep : KeepA A := mkA_keep (U := U) sp1_ok (fun (l : TA) y => ⟨(hh l y).drop 7, by kernel_rfl⟩)
end journal_Journal_Place

/-! (*instar/journal.Journal).Seq -/
namespace journal_Journal_Seq
abbrev TA : Type := ((Unit × Unit) × ((Unit × (Int × (Int × (Bool × (Int × ((List Int) × (Unit × Unit))))))) × ((Unit × (Int × (Int × (Int × (Int × (Int × (Int × Unit))))))) × ((Unit × (Int × (Unit × (Int × (Bool × (Int × (Unit × Unit))))))) × ((List Int) × ((List Int) × ((List Int) × ((List (List Int)) × Unit))))))))
def t (h0_1 h0_2 : Int) (h0_3 : Bool) (h0_4 : Int) (h0_5 : (List Int)) (h1_1 h1_2 h1_3 h1_4 h1_5 h1_6 h2_1 h2_3 : Int) (h2_4 : Bool) (h2_5 : Int) (h3 : (List Int)) (h4 : (List Int)) (h5 : (List Int)) (h6 : (List (List Int))) : Tw Unit :=
 (.ret ())
def c (h0_1 h0_2 : Int) (h0_3 : Bool) (h0_4 : Int) (h0_5 : (List Int)) (h1_1 h1_2 h1_3 h1_4 h1_5 h1_6 h2_1 h2_3 : Int) (h2_4 : Bool) (h2_5 : Int) (h3 : (List Int)) (h4 : (List Int)) (h5 : (List Int)) (h6 : (List (List Int))) : Option Unit := (t h0_1 h0_2 h0_3 h0_4 h0_5 h1_1 h1_2 h1_3 h1_4 h1_5 h1_6 h2_1 h2_3 h2_4 h2_5 h3 h4 h5 h6).run
def tl (l : TA) : Tw Unit := t l.2.1.2.1 l.2.1.2.2.1 l.2.1.2.2.2.1 l.2.1.2.2.2.2.1 l.2.1.2.2.2.2.2.1 l.2.2.1.2.1 l.2.2.1.2.2.1 l.2.2.1.2.2.2.1 l.2.2.1.2.2.2.2.1 l.2.2.1.2.2.2.2.2.1 l.2.2.1.2.2.2.2.2.2.1 l.2.2.2.1.2.1 l.2.2.2.1.2.2.2.1 l.2.2.2.1.2.2.2.2.1 l.2.2.2.1.2.2.2.2.2.1 l.2.2.2.2.1 l.2.2.2.2.2.1 l.2.2.2.2.2.2.1 l.2.2.2.2.2.2.2.1
def cl (l : TA) : Option Unit := (tl l).run
def pA : Pt := (.cs (.ptr 0 0) .nl)
def pH : Pt := (.cs (.var (.cs (.ptr 1 0) (jC (jC (.cs .bool (jC (.cs (.sl 3) (.cs (.own 6) .nl)))))))) (.cs (.var (.cs (.ptr 2 0) (jC (jC (jC (jC (jC (jC .nl)))))))) (.cs (.var (.cs (.own 3) (jC (.cs (.own 4) (jC (.cs .bool (jC (.cs (.own 5) .nl)))))))) (.cs (.row 3 true) (.cs (.row 1 true) (.cs (.row 3 true) (.cs (.row 12 true) .nl)))))))
def v (l : TA) (y : Unit) : AV U := jI l.2.1.2.2.2.2.1
def hh (l : TA) (y : Unit) : Hp U := [.var [.ptr 1 0, jI l.2.1.2.1, jI l.2.1.2.2.1, jB l.2.1.2.2.2.1, jI l.2.1.2.2.2.2.1, .im (.slice 3 l.2.1.2.2.2.2.2.1), .own 6], .var [.ptr 2 0, jI l.2.2.1.2.1, jI l.2.2.1.2.2.1, jI l.2.2.1.2.2.2.1, jI l.2.2.1.2.2.2.2.1, jI l.2.2.1.2.2.2.2.2.1, jI l.2.2.1.2.2.2.2.2.2.1], .var [.own 3, jI l.2.2.2.1.2.1, .own 4, jI l.2.2.2.1.2.2.2.1, jB l.2.2.2.1.2.2.2.2.1, jI l.2.2.2.1.2.2.2.2.2.1, .own 5], .row 3 l.2.2.2.2.1 true, .row 1 l.2.2.2.2.2.1 true, .row 3 l.2.2.2.2.2.2.1 true, .row 12 l.2.2.2.2.2.2.2.1 true]
def A : AFun U := mkA (U := U) pA pH (X := Unit) cl sp1 v hh
def body : Code := (Go.Func.body Tryz.f16).getD .skip
def Γ : List (FuncId × AFun U) := []
def Λ : List (Nat × LFun U) := []
def CT : List (Nat × LFun U) := []
def ro : List FuncId := []
def D : Nat → Lv × Lv := dtab []
def E : Env U := { E0 with Γ := Γ, Λ := Λ, C := CT, D := D, ro := ro }
theorem hk (R : Type) (l : TA) (K : AV U → Hp U → Option R) : funcA E Tryz.f16 [] R (pA.mkL l.1) (pH.mkH l.2) K = (tl l).runK fun y => K (v l y) (hh l y) := by kernel_rfl
theorem okF : SoundF Tryz.prog cc 16 (funcA E Tryz.f16 []) :=
  funcA_ok (E := E) P_mixed (E0_ok.with Γ Λ CT D ro) (gam_of all_nil all_nil) Tryz.func16 (c := body) (by kernel_rfl)
    (just_by (by kernel_rfl) (by kernel_rfl) all_nil all_nil) []
theorem ok : SoundF Tryz.prog cc 16 A :=
  mkA_ok (E := E) (p := pA) (q := pH) (t := tl) sp1_ok hk okF
theorem fo : FnOK Tryz.prog 16 := ⟨Tryz.f16, Tryz.func16, by kernel_rfl, by kernel_rfl⟩
theorem keep : KeepA A := mkA_keep (U := U) sp1_ok (fun (l : TA) y => ⟨(hh l y).drop 7, by kernel_rfl⟩)
end journal_Journal_Seq

/-! (*instar/journal.Journal).Whole -/
namespace journal_Journal_Whole
abbrev TA : Type := ((Unit × Unit) × ((Unit × (Int × (Int × (Bool × (Int × ((List Int) × (Unit × Unit))))))) × ((Unit × (Int × (Int × (Int × (Int × (Int × (Int × Unit))))))) × ((Unit × (Int × (Unit × (Int × (Bool × (Int × (Unit × Unit))))))) × ((List Int) × ((List Int) × ((List Int) × ((List (List Int)) × Unit))))))))
def t (h0_1 h0_2 : Int) (h0_3 : Bool) (h0_4 : Int) (h0_5 : (List Int)) (h1_1 h1_2 h1_3 h1_4 h1_5 h1_6 h2_1 h2_3 : Int) (h2_4 : Bool) (h2_5 : Int) (h3 : (List Int)) (h4 : (List Int)) (h5 : (List Int)) (h6 : (List (List Int))) : Tw (List Int) :=
 (.opt (slices_Clone__uint32uint32.c h0_5) fun z1 =>
 (.ret z1))
def c (h0_1 h0_2 : Int) (h0_3 : Bool) (h0_4 : Int) (h0_5 : (List Int)) (h1_1 h1_2 h1_3 h1_4 h1_5 h1_6 h2_1 h2_3 : Int) (h2_4 : Bool) (h2_5 : Int) (h3 : (List Int)) (h4 : (List Int)) (h5 : (List Int)) (h6 : (List (List Int))) : Option (List Int) := (t h0_1 h0_2 h0_3 h0_4 h0_5 h1_1 h1_2 h1_3 h1_4 h1_5 h1_6 h2_1 h2_3 h2_4 h2_5 h3 h4 h5 h6).run
def tl (l : TA) : Tw (List Int) := t l.2.1.2.1 l.2.1.2.2.1 l.2.1.2.2.2.1 l.2.1.2.2.2.2.1 l.2.1.2.2.2.2.2.1 l.2.2.1.2.1 l.2.2.1.2.2.1 l.2.2.1.2.2.2.1 l.2.2.1.2.2.2.2.1 l.2.2.1.2.2.2.2.2.1 l.2.2.1.2.2.2.2.2.2.1 l.2.2.2.1.2.1 l.2.2.2.1.2.2.2.1 l.2.2.2.1.2.2.2.2.1 l.2.2.2.1.2.2.2.2.2.1 l.2.2.2.2.1 l.2.2.2.2.2.1 l.2.2.2.2.2.2.1 l.2.2.2.2.2.2.2.1
def cl (l : TA) : Option (List Int) := (tl l).run
def pA : Pt := (.cs (.ptr 0 0) .nl)
def pH : Pt := (.cs (.var (.cs (.ptr 1 0) (jC (jC (.cs .bool (jC (.cs (.sl 3) (.cs (.own 6) .nl)))))))) (.cs (.var (.cs (.ptr 2 0) (jC (jC (jC (jC (jC (jC .nl)))))))) (.cs (.var (.cs (.own 3) (jC (.cs (.own 4) (jC (.cs .bool (jC (.cs (.own 5) .nl)))))))) (.cs (.row 3 true) (.cs (.row 1 true) (.cs (.row 3 true) (.cs (.row 12 true) .nl)))))))
def v (l : TA) (y : (List Int)) : AV U := .own 7
def hh (l : TA) (y : (List Int)) : Hp U := [.var [.ptr 1 0, jI l.2.1.2.1, jI l.2.1.2.2.1, jB l.2.1.2.2.2.1, jI l.2.1.2.2.2.2.1, .im (.slice 3 l.2.1.2.2.2.2.2.1), .own 6], .var [.ptr 2 0, jI l.2.2.1.2.1, jI l.2.2.1.2.2.1, jI l.2.2.1.2.2.2.1, jI l.2.2.1.2.2.2.2.1, jI l.2.2.1.2.2.2.2.2.1, jI l.2.2.1.2.2.2.2.2.2.1], .var [.own 3, jI l.2.2.2.1.2.1, .own 4, jI l.2.2.2.1.2.2.2.1, jB l.2.2.2.1.2.2.2.2.1, jI l.2.2.2.1.2.2.2.2.2.1, .own 5], .row 3 l.2.2.2.2.1 true, .row 1 l.2.2.2.2.2.1 true, .row 3 l.2.2.2.2.2.2.1 true, .row 12 l.2.2.2.2.2.2.2.1 true, .row 3 y true]
def A : AFun U := mkA (U := U) pA pH (X := (List Int)) cl sp1 v hh
def body : Code := (Go.Func.body Tryz.f18).getD .skip
def Γ : List (FuncId × AFun U) := [(39, slices_Clone__uint32uint32.A)]
def Λ : List (Nat × LFun U) := []
def CT : List (Nat × LFun U) := []
def ro : List FuncId := []
def D : Nat → Lv × Lv := dtab []
def E : Env U := { E0 with Γ := Γ, Λ := Λ, C := CT, D := D, ro := ro }
theorem hk (R : Type) (l : TA) (K : AV U → Hp U → Option R) : funcA E Tryz.f18 [] R (pA.mkL l.1) (pH.mkH l.2) K = (tl l).runK fun y => K (v l y) (hh l y) := by kernel_rfl
theorem okF : SoundF Tryz.prog cc 18 (funcA E Tryz.f18 []) :=
  funcA_ok (E := E) P_mixed (E0_ok.with Γ Λ CT D ro) (gam_of (all_cons ⟨slices_Clone__uint32uint32.ok, slices_Clone__uint32uint32.fo⟩ all_nil) no_ro) Tryz.func18 (c := body) (by kernel_rfl)
    (just_by (by kernel_rfl) (by kernel_rfl) all_nil all_nil) []
theorem ok : SoundF Tryz.prog cc 18 A :=
  mkA_ok (E := E) (p := pA) (q := pH) (t := tl) sp1_ok hk okF
theorem fo : FnOK Tryz.prog 18 := ⟨Tryz.f18, Tryz.func18, by kernel_rfl, by kernel_rfl⟩
theorem keep : KeepA A := mkA_keep (U := U) sp1_ok (fun (l : TA) y => ⟨(hh l y).drop 7, by kernel_rfl⟩)
end journal_Journal_Whole

/-! (*instar/journal.Journal).Changes -/
namespace journal_Journal_Changes
abbrev TA : Type := ((Unit × Unit) × ((Unit × (Int × (Int × (Bool × (Int × ((List Int) × (Unit × Unit))))))) × ((Unit × (Int × (Int × (Int × (Int × (Int × (Int × Unit))))))) × ((Unit × (Int × (Unit × (Int × (Bool × (Int × (Unit × Unit))))))) × ((List Int) × ((List Int) × ((List Int) × ((List (List Int)) × Unit))))))))
abbrev T5 : Type := ((Unit × (Unit × (Unit × (Unit × (Unit × (Int × (Int × (Unit × Unit)))))))) × ((Unit × (Int × (Int × (Bool × (Int × ((List Int) × (Unit × Unit))))))) × ((Unit × (Int × (Int × (Int × (Int × (Int × (Int × Unit))))))) × ((Unit × (Int × (Unit × (Int × (Bool × (Int × (Unit × Unit))))))) × ((List Int) × ((List Int) × ((List Int) × ((List (List Int)) × ((List (List Int)) × Unit)))))))))
abbrev S5 : Type := (Int × (List (List Int)))
def l5 (k12 h0_1 h0_2 : Int) (h0_3 : Bool) (h0_4 : Int) (h0_5 : (List Int)) (h1_1 h1_2 h1_3 h1_4 h1_5 h1_6 h2_1 h2_3 : Int) (h2_4 : Bool) (h2_5 : Int) (h3 : (List Int)) (h4 : (List Int)) (h5 : (List Int)) (h6 : (List (List Int))) (k13 : Int) (h7 : (List (List Int))) : Tw (S5 ⊕ (List (List Int))) :=
 (.bb (decide (k13 < k12))
 (.dd ((((0 : Int) ≤ k13) ∧ (k13 < (((List.length h6) : Nat) : Int)))) inferInstance
 (.opt (h6)[(Int.toNat k13)]? fun z1 =>
 (.opt (slices_Clone__uint32uint32.c z1) fun z2 =>
 (.dd ((((((List.length h7) + (List.length (z2 :: ([] : List (List Int))))) * (24 : Nat)) ≤ (140737488355328 : Nat)) ∧ (((List.length h7) + (List.length (z2 :: ([] : List (List Int))))) ≤ (140737488355328 : Nat)))) inferInstance
 (.ret (.inl ((w64 (k13 + (1 : Int))), (h7 ++ (z2 :: ([] : List (List Int)))))))
 .no)))
 .no)
 (.ret (.inr h7)))
def L5 (k12 k13 h0_1 h0_2 : Int) (h0_3 : Bool) (h0_4 : Int) (h0_5 : (List Int)) (h1_1 h1_2 h1_3 h1_4 h1_5 h1_6 h2_1 h2_3 : Int) (h2_4 : Bool) (h2_5 : Int) (h3 : (List Int)) (h4 : (List Int)) (h5 : (List Int)) (h6 : (List (List Int))) (h7 : (List (List Int))) : Option (List (List Int)) := Lp (fun s => (l5 k12 h0_1 h0_2 h0_3 h0_4 h0_5 h1_1 h1_2 h1_3 h1_4 h1_5 h1_6 h2_1 h2_3 h2_4 h2_5 h3 h4 h5 h6 s.1 s.2).run) (k13, h7)
def p5 : Pt := (.cs (.ptr 0 0) (.cs (.bots 2) (.cs (.own 7) (.cs (.bots 7) (.cs (.own 6) (jC (jC (.cs (.bots 10) .nl))))))))
def q5 : Pt := (.cs (.var (.cs (.ptr 1 0) (jC (jC (.cs .bool (jC (.cs (.sl 3) (.cs (.own 6) .nl)))))))) (.cs (.var (.cs (.ptr 2 0) (jC (jC (jC (jC (jC (jC .nl)))))))) (.cs (.var (.cs (.own 3) (jC (.cs (.own 4) (jC (.cs .bool (jC (.cs (.own 5) .nl)))))))) (.cs (.row 3 true) (.cs (.row 1 true) (.cs (.row 3 true) (.cs (.row 12 true) (.cs (.row 12 true) .nl))))))))
def ou5 (l : T5) (y : (List (List Int))) : Ex × St U := (.exit 0, stOf 24 [(0, .ptr 0 0), (3, .own 7)] [.var [.ptr 1 0, jI l.2.1.2.1, jI l.2.1.2.2.1, jB l.2.1.2.2.2.1, jI l.2.1.2.2.2.2.1, .im (.slice 3 l.2.1.2.2.2.2.2.1), .own 6], .var [.ptr 2 0, jI l.2.2.1.2.1, jI l.2.2.1.2.2.1, jI l.2.2.1.2.2.2.1, jI l.2.2.1.2.2.2.2.1, jI l.2.2.1.2.2.2.2.2.1, jI l.2.2.1.2.2.2.2.2.2.1], .var [.own 3, jI l.2.2.2.1.2.1, .own 4, jI l.2.2.2.1.2.2.2.1, jB l.2.2.2.1.2.2.2.2.1, jI l.2.2.2.1.2.2.2.2.2.1, .own 5], .row 3 l.2.2.2.2.1 true, .row 1 l.2.2.2.2.2.1 true, .row 3 l.2.2.2.2.2.2.1 true, .row 12 l.2.2.2.2.2.2.2.1 true, .row 12 y true] 7)
def Λ5 : LFun U := mkLp (U := U) p5 q5 7 (X := (List (List Int))) (fun (l : T5) => L5 l.1.2.2.2.2.2.1 l.1.2.2.2.2.2.2.1 l.2.1.2.1 l.2.1.2.2.1 l.2.1.2.2.2.1 l.2.1.2.2.2.2.1 l.2.1.2.2.2.2.2.1 l.2.2.1.2.1 l.2.2.1.2.2.1 l.2.2.1.2.2.2.1 l.2.2.1.2.2.2.2.1 l.2.2.1.2.2.2.2.2.1 l.2.2.1.2.2.2.2.2.2.1 l.2.2.2.1.2.1 l.2.2.2.1.2.2.2.1 l.2.2.2.1.2.2.2.2.1 l.2.2.2.1.2.2.2.2.2.1 l.2.2.2.2.1 l.2.2.2.2.2.1 l.2.2.2.2.2.2.1 l.2.2.2.2.2.2.2.1 l.2.2.2.2.2.2.2.2.1) sp1 ou5
def hd5 (l : T5) (s : S5) : T5 := (((), ((), ((), ((), ((), (l.1.2.2.2.2.2.1, (s.1, ((), ())))))))), (((), (l.2.1.2.1, (l.2.1.2.2.1, (l.2.1.2.2.2.1, (l.2.1.2.2.2.2.1, (l.2.1.2.2.2.2.2.1, ((), ()))))))), (((), (l.2.2.1.2.1, (l.2.2.1.2.2.1, (l.2.2.1.2.2.2.1, (l.2.2.1.2.2.2.2.1, (l.2.2.1.2.2.2.2.2.1, (l.2.2.1.2.2.2.2.2.2.1, ()))))))), (((), (l.2.2.2.1.2.1, ((), (l.2.2.2.1.2.2.2.1, (l.2.2.2.1.2.2.2.2.1, (l.2.2.2.1.2.2.2.2.2.1, ((), ()))))))), (l.2.2.2.2.1, (l.2.2.2.2.2.1, (l.2.2.2.2.2.2.1, (l.2.2.2.2.2.2.2.1, (s.2, ())))))))))
def fl5 (l : T5) (s : S5) : Tw (S5 ⊕ (List (List Int))) := l5 l.1.2.2.2.2.2.1 l.2.1.2.1 l.2.1.2.2.1 l.2.1.2.2.2.1 l.2.1.2.2.2.2.1 l.2.1.2.2.2.2.2.1 l.2.2.1.2.1 l.2.2.1.2.2.1 l.2.2.1.2.2.2.1 l.2.2.1.2.2.2.2.1 l.2.2.1.2.2.2.2.2.1 l.2.2.1.2.2.2.2.2.2.1 l.2.2.2.1.2.1 l.2.2.2.1.2.2.2.1 l.2.2.2.1.2.2.2.2.1 l.2.2.2.1.2.2.2.2.2.1 l.2.2.2.2.1 l.2.2.2.2.2.1 l.2.2.2.2.2.2.1 l.2.2.2.2.2.2.2.1 s.1 s.2
def t (h0_1 h0_2 : Int) (h0_3 : Bool) (h0_4 : Int) (h0_5 : (List Int)) (h1_1 h1_2 h1_3 h1_4 h1_5 h1_6 h2_1 h2_3 : Int) (h2_4 : Bool) (h2_5 : Int) (h3 : (List Int)) (h4 : (List Int)) (h5 : (List Int)) (h6 : (List (List Int))) : Tw (List (List Int)) :=
 (.opt (L5 (((List.length h6) : Nat) : Int) (0 : Int) h0_1 h0_2 h0_3 h0_4 h0_5 h1_1 h1_2 h1_3 h1_4 h1_5 h1_6 h2_1 h2_3 h2_4 h2_5 h3 h4 h5 h6 ([] : List (List Int))) fun z3 =>
 (.ret z3))
def c (h0_1 h0_2 : Int) (h0_3 : Bool) (h0_4 : Int) (h0_5 : (List Int)) (h1_1 h1_2 h1_3 h1_4 h1_5 h1_6 h2_1 h2_3 : Int) (h2_4 : Bool) (h2_5 : Int) (h3 : (List Int)) (h4 : (List Int)) (h5 : (List Int)) (h6 : (List (List Int))) : Option (List (List Int)) := (t h0_1 h0_2 h0_3 h0_4 h0_5 h1_1 h1_2 h1_3 h1_4 h1_5 h1_6 h2_1 h2_3 h2_4 h2_5 h3 h4 h5 h6).run
def tl (l : TA) : Tw (List (List Int)) := t l.2.1.2.1 l.2.1.2.2.1 l.2.1.2.2.2.1 l.2.1.2.2.2.2.1 l.2.1.2.2.2.2.2.1 l.2.2.1.2.1 l.2.2.1.2.2.1 l.2.2.1.2.2.2.1 l.2.2.1.2.2.2.2.1 l.2.2.1.2.2.2.2.2.1 l.2.2.1.2.2.2.2.2.2.1 l.2.2.2.1.2.1 l.2.2.2.1.2.2.2.1 l.2.2.2.1.2.2.2.2.1 l.2.2.2.1.2.2.2.2.2.1 l.2.2.2.2.1 l.2.2.2.2.2.1 l.2.2.2.2.2.2.1 l.2.2.2.2.2.2.2.1
def cl (l : TA) : Option (List (List Int)) := (tl l).run
def pA : Pt := (.cs (.ptr 0 0) .nl)
def pH : Pt := (.cs (.var (.cs (.ptr 1 0) (jC (jC (.cs .bool (jC (.cs (.sl 3) (.cs (.own 6) .nl)))))))) (.cs (.var (.cs (.ptr 2 0) (jC (jC (jC (jC (jC (jC .nl)))))))) (.cs (.var (.cs (.own 3) (jC (.cs (.own 4) (jC (.cs .bool (jC (.cs (.own 5) .nl)))))))) (.cs (.row 3 true) (.cs (.row 1 true) (.cs (.row 3 true) (.cs (.row 12 true) .nl)))))))
def v (l : TA) (y : (List (List Int))) : AV U := .own 7
def hh (l : TA) (y : (List (List Int))) : Hp U := [.var [.ptr 1 0, jI l.2.1.2.1, jI l.2.1.2.2.1, jB l.2.1.2.2.2.1, jI l.2.1.2.2.2.2.1, .im (.slice 3 l.2.1.2.2.2.2.2.1), .own 6], .var [.ptr 2 0, jI l.2.2.1.2.1, jI l.2.2.1.2.2.1, jI l.2.2.1.2.2.2.1, jI l.2.2.1.2.2.2.2.1, jI l.2.2.1.2.2.2.2.2.1, jI l.2.2.1.2.2.2.2.2.2.1], .var [.own 3, jI l.2.2.2.1.2.1, .own 4, jI l.2.2.2.1.2.2.2.1, jB l.2.2.2.1.2.2.2.2.1, jI l.2.2.2.1.2.2.2.2.2.1, .own 5], .row 3 l.2.2.2.2.1 true, .row 1 l.2.2.2.2.2.1 true, .row 3 l.2.2.2.2.2.2.1 true, .row 12 l.2.2.2.2.2.2.2.1 true, .row 12 y true]
def A : AFun U := mkA (U := U) pA pH (X := (List (List Int))) cl sp1 v hh
def body : Code := (Go.Func.body Tryz.f20).getD .skip
def Γ : List (FuncId × AFun U) := [(39, slices_Clone__uint32uint32.A)]
def Λ : List (Nat × LFun U) := [(5, Λ5)]
def CT : List (Nat × LFun U) := []
def ro : List FuncId := []
def D : Nat → Lv × Lv := dtab [(5, ⟨[13, 3, 11, 0, 12], [(3, [], .own 12)]⟩, ⟨[2, 0, 3], []⟩)]
def E : Env U := { E0 with Γ := Γ, Λ := Λ, C := CT, D := D, ro := ro }
theorem hf5 (R : Type) (l : T5) (s : S5) (K : Ex → St U → Option R) : codeA E (pick (loopsOf body) 5) ⟨p5.mkL (hd5 l s).1, q5.mkH (hd5 l s).2, 7⟩ (roundK E (pick (loopsOf body) 5) K) =
  (fl5 l s).runK (lpK K (fun s => ⟨p5.mkL (hd5 l s).1, q5.mkH (hd5 l s).2, 7⟩) sp1 (ou5 l)) := by kernel_rfl
theorem lk5 (R : Type) (st : St U) (K : Ex → St U → Option R) (r : R) (h : Λ5 R st K = some r) : ∃ n, loopA E (pick (loopsOf body) 5) n st K = some r :=
  lp_ok (U := U) (E := E) (b := pick (loopsOf body) 5) (m := 7) (sp := sp1) (p := p5) (q := q5) (X := (List (List Int))) (S := S5) (f := fl5) (hd := hd5) (s0 := fun (l : T5) => (l.1.2.2.2.2.2.2.1, l.2.2.2.2.2.2.2.2.1)) (ou := ou5)
    (fun l => rfl) (fun l x => by rfl) sp1_ok hf5 h
theorem hk (R : Type) (l : TA) (K : AV U → Hp U → Option R) : funcA E Tryz.f20 [] R (pA.mkL l.1) (pH.mkH l.2) K = (tl l).runK fun y => K (v l y) (hh l y) := by kernel_rfl
theorem okF : SoundF Tryz.prog cc 20 (funcA E Tryz.f20 []) :=
  funcA_ok (E := E) P_mixed (E0_ok.with Γ Λ CT D ro) (gam_of (all_cons ⟨slices_Clone__uint32uint32.ok, slices_Clone__uint32uint32.fo⟩ all_nil) no_ro) Tryz.func20 (c := body) (by kernel_rfl)
    (just_by (by kernel_rfl) (by kernel_rfl) (all_cons lk5 all_nil) all_nil) []
theorem ok : SoundF Tryz.prog cc 20 A :=
  mkA_ok (E := E) (p := pA) (q := pH) (t := tl) sp1_ok hk okF
theorem fo : FnOK Tryz.prog 20 := ⟨Tryz.f20, Tryz.func20, by kernel_rfl, by kernel_rfl⟩
theorem keep : KeepA A := mkA_keep (U := U) sp1_ok (fun (l : TA) y => ⟨(hh l y).drop 7, by kernel_rfl⟩)
end journal_Journal_Changes

/-! (*instar/journal.Journal).Torn -/
namespace journal_Journal_Torn
abbrev TA : Type := ((Unit × Unit) × ((Unit × (Int × (Int × (Bool × (Int × ((List Int) × (Unit × Unit))))))) × ((Unit × (Int × (Int × (Int × (Int × (Int × (Int × Unit))))))) × ((Unit × (Int × (Unit × (Int × (Bool × (Int × (Unit × Unit))))))) × ((List Int) × ((List Int) × ((List Int) × ((List (List Int)) × Unit))))))))
def t (h0_1 h0_2 : Int) (h0_3 : Bool) (h0_4 : Int) (h0_5 : (List Int)) (h1_1 h1_2 h1_3 h1_4 h1_5 h1_6 h2_1 h2_3 : Int) (h2_4 : Bool) (h2_5 : Int) (h3 : (List Int)) (h4 : (List Int)) (h5 : (List Int)) (h6 : (List (List Int))) : Tw Unit :=
 (.ret ())
def c (h0_1 h0_2 : Int) (h0_3 : Bool) (h0_4 : Int) (h0_5 : (List Int)) (h1_1 h1_2 h1_3 h1_4 h1_5 h1_6 h2_1 h2_3 : Int) (h2_4 : Bool) (h2_5 : Int) (h3 : (List Int)) (h4 : (List Int)) (h5 : (List Int)) (h6 : (List (List Int))) : Option Unit := (t h0_1 h0_2 h0_3 h0_4 h0_5 h1_1 h1_2 h1_3 h1_4 h1_5 h1_6 h2_1 h2_3 h2_4 h2_5 h3 h4 h5 h6).run
def tl (l : TA) : Tw Unit := t l.2.1.2.1 l.2.1.2.2.1 l.2.1.2.2.2.1 l.2.1.2.2.2.2.1 l.2.1.2.2.2.2.2.1 l.2.2.1.2.1 l.2.2.1.2.2.1 l.2.2.1.2.2.2.1 l.2.2.1.2.2.2.2.1 l.2.2.1.2.2.2.2.2.1 l.2.2.1.2.2.2.2.2.2.1 l.2.2.2.1.2.1 l.2.2.2.1.2.2.2.1 l.2.2.2.1.2.2.2.2.1 l.2.2.2.1.2.2.2.2.2.1 l.2.2.2.2.1 l.2.2.2.2.2.1 l.2.2.2.2.2.2.1 l.2.2.2.2.2.2.2.1
def cl (l : TA) : Option Unit := (tl l).run
def pA : Pt := (.cs (.ptr 0 0) .nl)
def pH : Pt := (.cs (.var (.cs (.ptr 1 0) (jC (jC (.cs .bool (jC (.cs (.sl 3) (.cs (.own 6) .nl)))))))) (.cs (.var (.cs (.ptr 2 0) (jC (jC (jC (jC (jC (jC .nl)))))))) (.cs (.var (.cs (.own 3) (jC (.cs (.own 4) (jC (.cs .bool (jC (.cs (.own 5) .nl)))))))) (.cs (.row 3 true) (.cs (.row 1 true) (.cs (.row 3 true) (.cs (.row 12 true) .nl)))))))
def v (l : TA) (y : Unit) : AV U := jB l.2.1.2.2.2.1
def hh (l : TA) (y : Unit) : Hp U := [.var [.ptr 1 0, jI l.2.1.2.1, jI l.2.1.2.2.1, jB l.2.1.2.2.2.1, jI l.2.1.2.2.2.2.1, .im (.slice 3 l.2.1.2.2.2.2.2.1), .own 6], .var [.ptr 2 0, jI l.2.2.1.2.1, jI l.2.2.1.2.2.1, jI l.2.2.1.2.2.2.1, jI l.2.2.1.2.2.2.2.1, jI l.2.2.1.2.2.2.2.2.1, jI l.2.2.1.2.2.2.2.2.2.1], .var [.own 3, jI l.2.2.2.1.2.1, .own 4, jI l.2.2.2.1.2.2.2.1, jB l.2.2.2.1.2.2.2.2.1, jI l.2.2.2.1.2.2.2.2.2.1, .own 5], .row 3 l.2.2.2.2.1 true, .row 1 l.2.2.2.2.2.1 true, .row 3 l.2.2.2.2.2.2.1 true, .row 12 l.2.2.2.2.2.2.2.1 true]
def A : AFun U := mkA (U := U) pA pH (X := Unit) cl sp1 v hh
def body : Code := (Go.Func.body Tryz.f22).getD .skip
def Γ : List (FuncId × AFun U) := []
def Λ : List (Nat × LFun U) := []
def CT : List (Nat × LFun U) := []
def ro : List FuncId := []
def D : Nat → Lv × Lv := dtab []
def E : Env U := { E0 with Γ := Γ, Λ := Λ, C := CT, D := D, ro := ro }
theorem hk (R : Type) (l : TA) (K : AV U → Hp U → Option R) : funcA E Tryz.f22 [] R (pA.mkL l.1) (pH.mkH l.2) K = (tl l).runK fun y => K (v l y) (hh l y) := by kernel_rfl
theorem okF : SoundF Tryz.prog cc 22 (funcA E Tryz.f22 []) :=
  funcA_ok (E := E) P_mixed (E0_ok.with Γ Λ CT D ro) (gam_of all_nil all_nil) Tryz.func22 (c := body) (by kernel_rfl)
    (just_by (by kernel_rfl) (by kernel_rfl) all_nil all_nil) []
theorem ok : SoundF Tryz.prog cc 22 A :=
  mkA_ok (E := E) (p := pA) (q := pH) (t := tl) sp1_ok hk okF
theorem fo : FnOK Tryz.prog 22 := ⟨Tryz.f22, Tryz.func22, by kernel_rfl, by kernel_rfl⟩
theorem keep : KeepA A := mkA_keep (U := U) sp1_ok (fun (l : TA) y => ⟨(hh l y).drop 7, by kernel_rfl⟩)
end journal_Journal_Torn

/-! instar/journal.read -/
namespace journal_read
abbrev TA : Type := ((Unit × (Int × Unit)) × ((Unit × (Int × (Int × (Int × (Int × (Int × (Int × Unit))))))) × ((Unit × (Int × (Unit × (Int × (Bool × (Int × (Unit × Unit))))))) × ((List Int) × ((List Int) × ((List Int) × Unit))))))
abbrev XA : Type := (Int × (Bool × (Int × ((List Int) × (Int × (List (List Int)))))))
abbrev T5 : Type := ((Unit × (Int × (Unit × (Unit × (Unit × (Unit × (Unit × (Unit × Unit)))))))) × ((Unit × (Int × (Int × (Int × (Int × (Int × (Int × Unit))))))) × ((Unit × (Int × (Unit × (Int × (Bool × (Int × (Unit × Unit))))))) × ((List Int) × ((List Int) × ((List Int) × ((Unit × (Int × (Int × (Bool × (Int × (Unit × (Unit × Unit))))))) × ((Unit × (Int × (Int × (Bool × (Int × ((List Int) × (Unit × Unit))))))) × ((List (List Int)) × ((List Int) × Unit))))))))))
abbrev S5 : Type := (Int × (Int × ((List Int) × (List (List Int)))))
abbrev X5 : Type := (Int × (Int × ((List Int) × (List (List Int)))))
def l5 (sector h0_1 h0_2 h0_3 h0_4 h0_5 h0_6 h1_1 h1_3 : Int) (h1_4 : Bool) (h1_5 : Int) (h2 : (List Int)) (h3 : (List Int)) (h4 : (List Int)) (h5_1 h5_2 : Int) (h5_3 : Bool) (h5_4 h6_1 : Int) (h6_3 : Bool) (h8 : (List Int)) (h6_2 h6_4 : Int) (h6_5 : (List Int)) (h7 : (List (List Int))) : Tw (S5 ⊕ X5) :=
 (.dd ((((0 : Int) ≤ h6_2) ∧ (h6_2 ≤ (((List.length h8) : Nat) : Int)))) inferInstance
 (.opt (frame_Read.c (List.take ((List.length h8) - (Int.toNat h6_2)) (List.drop (Int.toNat h6_2) h8))) fun z3 =>
 (.bb (!z3.2.2.2.1)
 (.ret (.inr (h6_2, (h6_4, (h6_5, h7)))))
 (.bb (h6_4 == (0 : Int))
 (.bb (z3.1 != (1 : Int))
 (.ret (.inr (h6_2, (h6_4, (h6_5, h7)))))
 (.bb (decide (h6_4 > (0 : Int)))
 (.bb (z3.2.1 != (w64 (h6_4 + (1 : Int))))
 (.ret (.inr (h6_2, (h6_4, (h6_5, h7)))))
 (.opt (journal_Journal_said_v2.c z3.1 z3.2.1 z3.2.2.2.2 z3.2.2.1 h6_1 h6_2 h6_3 h6_4 h6_5 h0_1 h0_2 h0_3 h0_4 h0_5 h0_6 h1_1 h1_3 h1_4 h1_5 h2 h3 h4 h7) fun z7 =>
 (.ret (.inl (z7.1, (z3.2.1, (z7.2.1, z7.2.2)))))))
 (.opt (journal_Journal_said_v2.c z3.1 z3.2.1 z3.2.2.2.2 z3.2.2.1 h6_1 h6_2 h6_3 h6_4 h6_5 h0_1 h0_2 h0_3 h0_4 h0_5 h0_6 h1_1 h1_3 h1_4 h1_5 h2 h3 h4 h7) fun z6 =>
 (.ret (.inl (z6.1, (z3.2.1, (z6.2.1, z6.2.2))))))))
 (.bb (decide (h6_4 > (0 : Int)))
 (.bb (z3.2.1 != (w64 (h6_4 + (1 : Int))))
 (.ret (.inr (h6_2, (h6_4, (h6_5, h7)))))
 (.opt (journal_Journal_said_v2.c z3.1 z3.2.1 z3.2.2.2.2 z3.2.2.1 h6_1 h6_2 h6_3 h6_4 h6_5 h0_1 h0_2 h0_3 h0_4 h0_5 h0_6 h1_1 h1_3 h1_4 h1_5 h2 h3 h4 h7) fun z5 =>
 (.ret (.inl (z5.1, (z3.2.1, (z5.2.1, z5.2.2)))))))
 (.opt (journal_Journal_said_v2.c z3.1 z3.2.1 z3.2.2.2.2 z3.2.2.1 h6_1 h6_2 h6_3 h6_4 h6_5 h0_1 h0_2 h0_3 h0_4 h0_5 h0_6 h1_1 h1_3 h1_4 h1_5 h2 h3 h4 h7) fun z4 =>
 (.ret (.inl (z4.1, (z3.2.1, (z4.2.1, z4.2.2))))))))))
 .no)
def L5 (sector h0_1 h0_2 h0_3 h0_4 h0_5 h0_6 h1_1 h1_3 : Int) (h1_4 : Bool) (h1_5 : Int) (h2 : (List Int)) (h3 : (List Int)) (h4 : (List Int)) (h5_1 h5_2 : Int) (h5_3 : Bool) (h5_4 h6_1 h6_2 : Int) (h6_3 : Bool) (h6_4 : Int) (h6_5 : (List Int)) (h7 : (List (List Int))) (h8 : (List Int)) : Option X5 := Lp (fun s => (l5 sector h0_1 h0_2 h0_3 h0_4 h0_5 h0_6 h1_1 h1_3 h1_4 h1_5 h2 h3 h4 h5_1 h5_2 h5_3 h5_4 h6_1 h6_3 h8 s.1 s.2.1 s.2.2.1 s.2.2.2).run) (h6_2, (h6_4, (h6_5, h7)))
def p5 : Pt := (.cs (.ptr 0 0) (jC (.cs (.bots 2) (.cs (.ptr 5 0) (.cs (.bots 1) (.cs (.ptr 6 0) (.cs (.own 8) (.cs (.bots 71) .nl))))))))
def q5 : Pt := (.cs (.var (.cs (.ptr 1 0) (jC (jC (jC (jC (jC (jC .nl)))))))) (.cs (.var (.cs (.own 2) (jC (.cs (.own 3) (jC (.cs .bool (jC (.cs (.own 4) .nl)))))))) (.cs (.row 3 true) (.cs (.row 1 true) (.cs (.row 3 true) (.cs (.var (.cs .nilp (jC (jC (.cs .bool (jC (.cs .nils (.cs .nils .nl)))))))) (.cs (.var (.cs (.ptr 0 0) (jC (jC (.cs .bool (jC (.cs (.sl 3) (.cs (.own 7) .nl)))))))) (.cs (.row 12 true) (.cs (.row 3 true) .nl)))))))))
def ou5 (l : T5) (y : X5) : Ex × St U := (.exit 0, stOf 79 [(0, .ptr 0 0), (1, jI l.1.2.1), (4, .ptr 5 0), (6, .ptr 6 0)] [.var [.ptr 1 0, jI l.2.1.2.1, jI l.2.1.2.2.1, jI l.2.1.2.2.2.1, jI l.2.1.2.2.2.2.1, jI l.2.1.2.2.2.2.2.1, jI l.2.1.2.2.2.2.2.2.1], .var [.own 2, jI l.2.2.1.2.1, .own 3, jI l.2.2.1.2.2.2.1, jB l.2.2.1.2.2.2.2.1, jI l.2.2.1.2.2.2.2.2.1, .own 4], .row 3 l.2.2.2.1 true, .row 1 l.2.2.2.2.1 true, .row 3 l.2.2.2.2.2.1 true, .var [.im .nilp, jI l.2.2.2.2.2.2.1.2.1, jI l.2.2.2.2.2.2.1.2.2.1, jB l.2.2.2.2.2.2.1.2.2.2.1, jI l.2.2.2.2.2.2.1.2.2.2.2.1, .im .nils, .im .nils], .var [.ptr 0 0, jI l.2.2.2.2.2.2.2.1.2.1, jI y.1, jB l.2.2.2.2.2.2.2.1.2.2.2.1, jI y.2.1, .im (.slice 3 y.2.2.1), .own 7], .row 12 y.2.2.2 true] 5)
def Λ5 : LFun U := mkLp (U := U) p5 q5 5 (X := X5) (fun (l : T5) => L5 l.1.2.1 l.2.1.2.1 l.2.1.2.2.1 l.2.1.2.2.2.1 l.2.1.2.2.2.2.1 l.2.1.2.2.2.2.2.1 l.2.1.2.2.2.2.2.2.1 l.2.2.1.2.1 l.2.2.1.2.2.2.1 l.2.2.1.2.2.2.2.1 l.2.2.1.2.2.2.2.2.1 l.2.2.2.1 l.2.2.2.2.1 l.2.2.2.2.2.1 l.2.2.2.2.2.2.1.2.1 l.2.2.2.2.2.2.1.2.2.1 l.2.2.2.2.2.2.1.2.2.2.1 l.2.2.2.2.2.2.1.2.2.2.2.1 l.2.2.2.2.2.2.2.1.2.1 l.2.2.2.2.2.2.2.1.2.2.1 l.2.2.2.2.2.2.2.1.2.2.2.1 l.2.2.2.2.2.2.2.1.2.2.2.2.1 l.2.2.2.2.2.2.2.1.2.2.2.2.2.1 l.2.2.2.2.2.2.2.2.1 l.2.2.2.2.2.2.2.2.2.1) sp1 ou5
def hd5 (l : T5) (s : S5) : T5 := (((), (l.1.2.1, ((), ((), ((), ((), ((), ((), ())))))))), (((), (l.2.1.2.1, (l.2.1.2.2.1, (l.2.1.2.2.2.1, (l.2.1.2.2.2.2.1, (l.2.1.2.2.2.2.2.1, (l.2.1.2.2.2.2.2.2.1, ()))))))), (((), (l.2.2.1.2.1, ((), (l.2.2.1.2.2.2.1, (l.2.2.1.2.2.2.2.1, (l.2.2.1.2.2.2.2.2.1, ((), ()))))))), (l.2.2.2.1, (l.2.2.2.2.1, (l.2.2.2.2.2.1, (((), (l.2.2.2.2.2.2.1.2.1, (l.2.2.2.2.2.2.1.2.2.1, (l.2.2.2.2.2.2.1.2.2.2.1, (l.2.2.2.2.2.2.1.2.2.2.2.1, ((), ((), ()))))))), (((), (l.2.2.2.2.2.2.2.1.2.1, (s.1, (l.2.2.2.2.2.2.2.1.2.2.2.1, (s.2.1, (s.2.2.1, ((), ()))))))), (s.2.2.2, (l.2.2.2.2.2.2.2.2.2.1, ()))))))))))
def fl5 (l : T5) (s : S5) : Tw (S5 ⊕ X5) := l5 l.1.2.1 l.2.1.2.1 l.2.1.2.2.1 l.2.1.2.2.2.1 l.2.1.2.2.2.2.1 l.2.1.2.2.2.2.2.1 l.2.1.2.2.2.2.2.2.1 l.2.2.1.2.1 l.2.2.1.2.2.2.1 l.2.2.1.2.2.2.2.1 l.2.2.1.2.2.2.2.2.1 l.2.2.2.1 l.2.2.2.2.1 l.2.2.2.2.2.1 l.2.2.2.2.2.2.1.2.1 l.2.2.2.2.2.2.1.2.2.1 l.2.2.2.2.2.2.1.2.2.2.1 l.2.2.2.2.2.2.1.2.2.2.2.1 l.2.2.2.2.2.2.2.1.2.1 l.2.2.2.2.2.2.2.1.2.2.2.1 l.2.2.2.2.2.2.2.2.2.1 s.1 s.2.1 s.2.2.1 s.2.2.2
def t (sector h0_1 h0_2 h0_3 h0_4 h0_5 h0_6 h1_1 h1_3 : Int) (h1_4 : Bool) (h1_5 : Int) (h2 : (List Int)) (h3 : (List Int)) (h4 : (List Int)) : Tw XA :=
 (.opt (drive_Drive_Geometry.c h0_1 h0_2 h0_3 h0_4 h0_5 h0_6 h1_1 h1_3 h1_4 h1_5 h2 h3 h4) fun z1 =>
 (.opt (drive_Drive_Read.c sector (0 : Int) h0_1 h0_1 h0_2 h0_3 h0_4 h0_5 h0_6 h1_1 h1_3 h1_4 h1_5 h2 h3 h4) fun z2 =>
 (.bb (z2.1 != (0 : Int))
 (.ret ((0 : Int), (false, ((0 : Int), (([] : List (Int)), (z2.1, ([] : List (List Int))))))))
 (.opt (L5 sector h0_1 h0_2 h0_3 h0_4 h0_5 h0_6 h1_1 h1_3 h1_4 h1_5 h2 h3 h4 (0 : Int) (0 : Int) false (0 : Int) sector (0 : Int) false (0 : Int) ([] : List (Int)) ([] : List (List Int)) z2.2) fun z8 =>
 (.opt (drive_Drive_Blank.c sector z8.1 h0_1 h0_2 h0_3 h0_4 h0_5 h0_6 h1_1 h1_3 h1_4 h1_5 h2 h3 h4) fun z9 =>
 (.ret (z8.1, ((!z9.1), (z8.2.1, (z8.2.2.1, (z9.2, z8.2.2.2)))))))))))
def c (sector h0_1 h0_2 h0_3 h0_4 h0_5 h0_6 h1_1 h1_3 : Int) (h1_4 : Bool) (h1_5 : Int) (h2 : (List Int)) (h3 : (List Int)) (h4 : (List Int)) : Option XA := (t sector h0_1 h0_2 h0_3 h0_4 h0_5 h0_6 h1_1 h1_3 h1_4 h1_5 h2 h3 h4).run
def tl (l : TA) : Tw XA := t l.1.2.1 l.2.1.2.1 l.2.1.2.2.1 l.2.1.2.2.2.1 l.2.1.2.2.2.2.1 l.2.1.2.2.2.2.2.1 l.2.1.2.2.2.2.2.2.1 l.2.2.1.2.1 l.2.2.1.2.2.2.1 l.2.2.1.2.2.2.2.1 l.2.2.1.2.2.2.2.2.1 l.2.2.2.1 l.2.2.2.2.1 l.2.2.2.2.2.1
def cl (l : TA) : Option XA := (tl l).run
def pA : Pt := (.cs (.ptr 0 0) (jC .nl))
def pH : Pt := (.cs (.var (.cs (.ptr 1 0) (jC (jC (jC (jC (jC (jC .nl)))))))) (.cs (.var (.cs (.own 2) (jC (.cs (.own 3) (jC (.cs .bool (jC (.cs (.own 4) .nl)))))))) (.cs (.row 3 true) (.cs (.row 1 true) (.cs (.row 3 true) .nl)))))
def v (l : TA) (y : XA) : AV U := .tup [.agg [.ptr 0 0, jI l.1.2.1, jI y.1, jB y.2.1, jI y.2.2.1, .im (.slice 3 y.2.2.2.1), .own 5], jI y.2.2.2.2.1]
def hh (l : TA) (y : XA) : Hp U := [.var [.ptr 1 0, jI l.2.1.2.1, jI l.2.1.2.2.1, jI l.2.1.2.2.2.1, jI l.2.1.2.2.2.2.1, jI l.2.1.2.2.2.2.2.1, jI l.2.1.2.2.2.2.2.2.1], .var [.own 2, jI l.2.2.1.2.1, .own 3, jI l.2.2.1.2.2.2.1, jB l.2.2.1.2.2.2.2.1, jI l.2.2.1.2.2.2.2.2.1, .own 4], .row 3 l.2.2.2.1 true, .row 1 l.2.2.2.2.1 true, .row 3 l.2.2.2.2.2.1 true, .row 12 y.2.2.2.2.2 true]
def A : AFun U := mkA (U := U) pA pH (X := XA) cl sp1 v hh
def body : Code := (Go.Func.body Tryz.f41).getD .skip
def Γ : List (FuncId × AFun U) := [(43, drive_Drive_Geometry.A), (60, drive_Drive_Read.A), (61, frame_Read.A), (62, journal_Journal_said_v2.A), (63, drive_Drive_Blank.A)]
def Λ : List (Nat × LFun U) := [(5, Λ5)]
def CT : List (Nat × LFun U) := []
def ro : List FuncId := [43, 60]
def D : Nat → Lv × Lv := dtab [(5, ⟨[4, 0, 6, 1, 7], [(6, [.to 6], .own 12), (6, [.to 5], .im 3)]⟩, ⟨[4, 5, 0, 6, 1], []⟩)]
def E : Env U := { E0 with Γ := Γ, Λ := Λ, C := CT, D := D, ro := ro }
theorem hf5 (R : Type) (l : T5) (s : S5) (K : Ex → St U → Option R) : codeA E (pick (loopsOf body) 5) ⟨p5.mkL (hd5 l s).1, q5.mkH (hd5 l s).2, 5⟩ (roundK E (pick (loopsOf body) 5) K) =
  (fl5 l s).runK (lpK K (fun s => ⟨p5.mkL (hd5 l s).1, q5.mkH (hd5 l s).2, 5⟩) sp1 (ou5 l)) := by kernel_rfl
theorem lk5 (R : Type) (st : St U) (K : Ex → St U → Option R) (r : R) (h : Λ5 R st K = some r) : ∃ n, loopA E (pick (loopsOf body) 5) n st K = some r :=
  lp_ok (U := U) (E := E) (b := pick (loopsOf body) 5) (m := 5) (sp := sp1) (p := p5) (q := q5) (X := X5) (S := S5) (f := fl5) (hd := hd5) (s0 := fun (l : T5) => (l.2.2.2.2.2.2.2.1.2.2.1, (l.2.2.2.2.2.2.2.1.2.2.2.2.1, (l.2.2.2.2.2.2.2.1.2.2.2.2.2.1, l.2.2.2.2.2.2.2.2.1)))) (ou := ou5)
    (fun l => rfl) (fun l x => by rfl) sp1_ok hf5 h
theorem hk (R : Type) (l : TA) (K : AV U → Hp U → Option R) : funcA E Tryz.f41 [(0, [.cell 5], .im 3), (0, [.cell 6], .own 12)] R (pA.mkL l.1) (pH.mkH l.2) K = (tl l).runK fun y => K (v l y) (hh l y) := by kernel_rfl
theorem okF : SoundF Tryz.prog cc 41 (funcA E Tryz.f41 [(0, [.cell 5], .im 3), (0, [.cell 6], .own 12)]) :=
  funcA_ok (E := E) P_mixed (E0_ok.with Γ Λ CT D ro) (gam_of (all_cons ⟨drive_Drive_Geometry.ok, drive_Drive_Geometry.fo⟩ (all_cons ⟨drive_Drive_Read.ok, drive_Drive_Read.fo⟩ (all_cons ⟨frame_Read.ok, frame_Read.fo⟩ (all_cons ⟨journal_Journal_said_v2.ok, journal_Journal_said_v2.fo⟩ (all_cons ⟨drive_Drive_Blank.ok, drive_Drive_Blank.fo⟩ all_nil))))) (all_cons (fun _ => drive_Drive_Geometry.keep) (all_cons (fun _ => drive_Drive_Read.keep) (all_cons (no_keep (by kernel_rfl)) (all_cons (no_keep (by kernel_rfl)) (all_cons (no_keep (by kernel_rfl)) all_nil)))))) Tryz.func41 (c := body) (by kernel_rfl)
    (just_by (by kernel_rfl) (by kernel_rfl) (all_cons lk5 all_nil) all_nil) [(0, [.cell 5], .im 3), (0, [.cell 6], .own 12)]
theorem ok : SoundF Tryz.prog cc 41 A :=
  mkA_ok (E := E) (p := pA) (q := pH) (t := tl) sp1_ok hk okF
theorem fo : FnOK Tryz.prog 41 := ⟨Tryz.f41, Tryz.func41, by kernel_rfl, by kernel_rfl⟩
theorem keep : KeepA A := mkA_keep (U := U) sp1_ok (fun (l : TA) y => ⟨(hh l y).drop 5, by kernel_rfl⟩)
end journal_read

/-! (*instar/journal.Journal).Seq -/
namespace journal_Journal_Seq_nil0
abbrev TA : Type := ((Unit × Unit) × Unit)
def t : Tw Int :=
 (.ret (0 : Int))
def c : Option Int := (t).run
def tl (l : TA) : Tw Int := t
def cl (l : TA) : Option Int := c
def pA : Pt := (.cs .nilp .nl)
def pH : Pt := .nl
def v (l : TA) (y : Int) : AV U := jI y
def hh (l : TA) (y : Int) : Hp U := []
def A : AFun U := mkA (U := U) pA pH (X := Int) cl sp1 v hh
def body : Code := (Go.Func.body Tryz.f16).getD .skip
def Γ : List (FuncId × AFun U) := []
def Λ : List (Nat × LFun U) := []
def CT : List (Nat × LFun U) := []
def ro : List FuncId := []
def D : Nat → Lv × Lv := dtab []
def E : Env U := { E0 with Γ := Γ, Λ := Λ, C := CT, D := D, ro := ro }
theorem hk (R : Type) (l : TA) (K : AV U → Hp U → Option R) : funcA E Tryz.f16 [] R (pA.mkL l.1) (pH.mkH l.2) K = (tl l).runK fun y => K (v l y) (hh l y) := by kernel_rfl
theorem okF : SoundF Tryz.prog cc 16 (funcA E Tryz.f16 []) :=
  funcA_ok (E := E) P_mixed (E0_ok.with Γ Λ CT D ro) (gam_of all_nil all_nil) Tryz.func16 (c := body) (by kernel_rfl)
    (just_by (by kernel_rfl) (by kernel_rfl) all_nil all_nil) []
theorem ok : SoundF Tryz.prog cc 16 A :=
  mkA_ok (E := E) (p := pA) (q := pH) (t := tl) sp1_ok hk okF
theorem fo : FnOK Tryz.prog 16 := ⟨Tryz.f16, Tryz.func16, by kernel_rfl, by kernel_rfl⟩
theorem keep : KeepA A := mkA_keep (U := U) sp1_ok (fun (l : TA) y => ⟨(hh l y).drop 0, by kernel_rfl⟩)
end journal_Journal_Seq_nil0

/-! instar/journal.Open -/
namespace journal_Open
abbrev TA : Type := ((Unit × Unit) × ((Unit × (Int × (Int × (Int × (Int × (Int × (Int × Unit))))))) × ((Unit × (Int × (Unit × (Int × (Bool × (Int × (Unit × Unit))))))) × ((List Int) × ((List Int) × ((List Int) × Unit))))))
abbrev XA : Type := (Int ⊕ (Int × (Int × (Int × (Bool × (Int × ((List Int) × (List (List Int)))))))))
abbrev T5v2 : Type := ((Unit × (Unit × (Unit × (Unit × (Int × (Unit × Unit)))))) × ((Unit × (Int × (Int × (Int × (Int × (Int × (Int × Unit))))))) × ((Unit × (Int × (Unit × (Int × (Bool × (Int × (Unit × Unit))))))) × ((List Int) × ((List Int) × ((List Int) × ((Unit × (Int × (Int × (Bool × (Int × ((List Int) × (Unit × Unit))))))) × ((List (List Int)) × Unit))))))))
abbrev S5v2 : Type := (Int × (Int × (Int × (Bool × (Int × ((List Int) × (List (List Int))))))))
abbrev X5v2 : Type := ((Int × (Int × (Bool × (Int × ((List Int) × (List (List Int))))))) ⊕ (Int × (Int × (Int × (Bool × (Int × ((List Int) × (List (List Int)))))))))
def l5v2 (h0_1 h0_2 h0_3 h0_4 h0_5 h0_6 h1_1 h1_3 : Int) (h1_4 : Bool) (h1_5 : Int) (h2 : (List Int)) (h3 : (List Int)) (h4 : (List Int)) (k10 h5_1 h5_2 : Int) (h5_3 : Bool) (h5_4 : Int) (h5_5 : (List Int)) (h6 : (List (List Int))) : Tw (S5v2 ⊕ X5v2) :=
 (.bb (decide (k10 < (2 : Int)))
 (.opt (journal_read.c k10 h0_1 h0_2 h0_3 h0_4 h0_5 h0_6 h1_1 h1_3 h1_4 h1_5 h2 h3 h4) fun z3 =>
 (.bb (z3.2.2.2.2.1 != (0 : Int))
 (.ret (.inr (.inr (z3.2.2.2.2.1, (h5_1, (h5_2, (h5_3, (h5_4, (h5_5, h6)))))))))
 (.opt (journal_Journal_Seq.c h5_1 h5_2 h5_3 h5_4 h5_5 h0_1 h0_2 h0_3 h0_4 h0_5 h0_6 h1_1 h1_3 h1_4 h1_5 h2 h3 h4 h6) fun z4 =>
 (.bb (decide (z3.2.2.1 > h5_4))
 (.ret (.inl ((w64 (k10 + (1 : Int))), (k10, (z3.1, (z3.2.1, (z3.2.2.1, (z3.2.2.2.1, z3.2.2.2.2.2))))))))
 (.ret (.inl ((w64 (k10 + (1 : Int))), (h5_1, (h5_2, (h5_3, (h5_4, (h5_5, h6))))))))))))
 (.ret (.inr (.inl (h5_1, (h5_2, (h5_3, (h5_4, (h5_5, h6)))))))))
def L5v2 (k10 h0_1 h0_2 h0_3 h0_4 h0_5 h0_6 h1_1 h1_3 : Int) (h1_4 : Bool) (h1_5 : Int) (h2 : (List Int)) (h3 : (List Int)) (h4 : (List Int)) (h5_1 h5_2 : Int) (h5_3 : Bool) (h5_4 : Int) (h5_5 : (List Int)) (h6 : (List (List Int))) : Option X5v2 := Lp (fun s => (l5v2 h0_1 h0_2 h0_3 h0_4 h0_5 h0_6 h1_1 h1_3 h1_4 h1_5 h2 h3 h4 s.1 s.2.1 s.2.2.1 s.2.2.2.1 s.2.2.2.2.1 s.2.2.2.2.2.1 s.2.2.2.2.2.2).run) (k10, (h5_1, (h5_2, (h5_3, (h5_4, (h5_5, h6))))))
def p5v2 : Pt := (.cs (.ptr 0 0) (.cs (.bots 3) (.cs (.ptr 5 0) (.cs (.bots 5) (jC (.cs (.bots 20) .nl))))))
def q5v2 : Pt := (.cs (.var (.cs (.ptr 1 0) (jC (jC (jC (jC (jC (jC .nl)))))))) (.cs (.var (.cs (.own 2) (jC (.cs (.own 3) (jC (.cs .bool (jC (.cs (.own 4) .nl)))))))) (.cs (.row 3 true) (.cs (.row 1 true) (.cs (.row 3 true) (.cs (.var (.cs (.ptr 0 0) (jC (jC (.cs .bool (jC (.cs (.sl 3) (.cs (.own 6) .nl)))))))) (.cs (.row 12 true) .nl)))))))
def ou5v2 (l : T5v2) (y : X5v2) : Ex × St U := (Sum.elim (fun a0 => (.exit 0, stOf 31 [(0, .ptr 0 0), (4, .ptr 5 0)] [.var [.ptr 1 0, jI l.2.1.2.1, jI l.2.1.2.2.1, jI l.2.1.2.2.2.1, jI l.2.1.2.2.2.2.1, jI l.2.1.2.2.2.2.2.1, jI l.2.1.2.2.2.2.2.2.1], .var [.own 2, jI l.2.2.1.2.1, .own 3, jI l.2.2.1.2.2.2.1, jB l.2.2.1.2.2.2.2.1, jI l.2.2.1.2.2.2.2.2.1, .own 4], .row 3 l.2.2.2.1 true, .row 1 l.2.2.2.2.1 true, .row 3 l.2.2.2.2.2.1 true, .var [.ptr 0 0, jI a0.1, jI a0.2.1, jB a0.2.2.1, jI a0.2.2.2.1, .im (.slice 3 a0.2.2.2.2.1), .own 6], .row 12 a0.2.2.2.2.2 true] 5)) (fun b0 => (.ret, stOf 31 [(0, .ptr 0 0), (2, .im .nilp), (3, jI b0.1), (4, .ptr 5 0)] [.var [.ptr 1 0, jI l.2.1.2.1, jI l.2.1.2.2.1, jI l.2.1.2.2.2.1, jI l.2.1.2.2.2.2.1, jI l.2.1.2.2.2.2.2.1, jI l.2.1.2.2.2.2.2.2.1], .var [.own 2, jI l.2.2.1.2.1, .own 3, jI l.2.2.1.2.2.2.1, jB l.2.2.1.2.2.2.2.1, jI l.2.2.1.2.2.2.2.2.1, .own 4], .row 3 l.2.2.2.1 true, .row 1 l.2.2.2.2.1 true, .row 3 l.2.2.2.2.2.1 true, .var [.ptr 0 0, jI b0.2.1, jI b0.2.2.1, jB b0.2.2.2.1, jI b0.2.2.2.2.1, .im (.slice 3 b0.2.2.2.2.2.1), .own 6], .row 12 b0.2.2.2.2.2.2 true] 5)) y)
def Λ5v2 : LFun U := mkLp (U := U) p5v2 q5v2 5 (X := X5v2) (fun (l : T5v2) => L5v2 l.1.2.2.2.2.1 l.2.1.2.1 l.2.1.2.2.1 l.2.1.2.2.2.1 l.2.1.2.2.2.2.1 l.2.1.2.2.2.2.2.1 l.2.1.2.2.2.2.2.2.1 l.2.2.1.2.1 l.2.2.1.2.2.2.1 l.2.2.1.2.2.2.2.1 l.2.2.1.2.2.2.2.2.1 l.2.2.2.1 l.2.2.2.2.1 l.2.2.2.2.2.1 l.2.2.2.2.2.2.1.2.1 l.2.2.2.2.2.2.1.2.2.1 l.2.2.2.2.2.2.1.2.2.2.1 l.2.2.2.2.2.2.1.2.2.2.2.1 l.2.2.2.2.2.2.1.2.2.2.2.2.1 l.2.2.2.2.2.2.2.1) (spS sp1) ou5v2
def hd5v2 (l : T5v2) (s : S5v2) : T5v2 := (((), ((), ((), ((), (s.1, ((), ())))))), (((), (l.2.1.2.1, (l.2.1.2.2.1, (l.2.1.2.2.2.1, (l.2.1.2.2.2.2.1, (l.2.1.2.2.2.2.2.1, (l.2.1.2.2.2.2.2.2.1, ()))))))), (((), (l.2.2.1.2.1, ((), (l.2.2.1.2.2.2.1, (l.2.2.1.2.2.2.2.1, (l.2.2.1.2.2.2.2.2.1, ((), ()))))))), (l.2.2.2.1, (l.2.2.2.2.1, (l.2.2.2.2.2.1, (((), (s.2.1, (s.2.2.1, (s.2.2.2.1, (s.2.2.2.2.1, (s.2.2.2.2.2.1, ((), ()))))))), (s.2.2.2.2.2.2, ()))))))))
def fl5v2 (l : T5v2) (s : S5v2) : Tw (S5v2 ⊕ X5v2) := l5v2 l.2.1.2.1 l.2.1.2.2.1 l.2.1.2.2.2.1 l.2.1.2.2.2.2.1 l.2.1.2.2.2.2.2.1 l.2.1.2.2.2.2.2.2.1 l.2.2.1.2.1 l.2.2.1.2.2.2.1 l.2.2.1.2.2.2.2.1 l.2.2.1.2.2.2.2.2.1 l.2.2.2.1 l.2.2.2.2.1 l.2.2.2.2.2.1 s.1 s.2.1 s.2.2.1 s.2.2.2.1 s.2.2.2.2.1 s.2.2.2.2.2.1 s.2.2.2.2.2.2
abbrev T5 : Type := ((Unit × (Unit × (Unit × (Unit × (Int × (Unit × Unit)))))) × ((Unit × (Int × (Int × (Int × (Int × (Int × (Int × Unit))))))) × ((Unit × (Int × (Unit × (Int × (Bool × (Int × (Unit × Unit))))))) × ((List Int) × ((List Int) × ((List Int) × Unit))))))
abbrev X5 : Type := (Unit ⊕ ((Int × (Int × (Int × (Bool × (Int × ((List Int) × (List (List Int)))))))) ⊕ Int))
def l5 (h0_1 h0_2 h0_3 h0_4 h0_5 h0_6 h1_1 h1_3 : Int) (h1_4 : Bool) (h1_5 : Int) (h2 : (List Int)) (h3 : (List Int)) (h4 : (List Int)) (k10 : Int) : Tw (Int ⊕ X5) :=
 (.bb (decide (k10 < (2 : Int)))
 (.opt (journal_read.c k10 h0_1 h0_2 h0_3 h0_4 h0_5 h0_6 h1_1 h1_3 h1_4 h1_5 h2 h3 h4) fun z1 =>
 (.bb (z1.2.2.2.2.1 != (0 : Int))
 (.ret (.inr (.inr (.inr z1.2.2.2.2.1))))
 (.opt (journal_Journal_Seq_nil0.c) fun z2 =>
 (.bb (decide (z1.2.2.1 > z2))
 (.ret (.inr (.inr (.inl ((w64 (k10 + (1 : Int))), (k10, (z1.1, (z1.2.1, (z1.2.2.1, (z1.2.2.2.1, z1.2.2.2.2.2))))))))))
 (.ret (.inl (w64 (k10 + (1 : Int)))))))))
 (.ret (.inr (.inl ()))))
def L5 (k10 h0_1 h0_2 h0_3 h0_4 h0_5 h0_6 h1_1 h1_3 : Int) (h1_4 : Bool) (h1_5 : Int) (h2 : (List Int)) (h3 : (List Int)) (h4 : (List Int)) : Option X5 := Lp (fun s => (l5 h0_1 h0_2 h0_3 h0_4 h0_5 h0_6 h1_1 h1_3 h1_4 h1_5 h2 h3 h4 s).run) k10
def p5 : Pt := (.cs (.ptr 0 0) (.cs (.bots 3) (.cs .nilp (.cs (.bots 5) (jC (.cs (.bots 20) .nl))))))
def q5 : Pt := (.cs (.var (.cs (.ptr 1 0) (jC (jC (jC (jC (jC (jC .nl)))))))) (.cs (.var (.cs (.own 2) (jC (.cs (.own 3) (jC (.cs .bool (jC (.cs (.own 4) .nl)))))))) (.cs (.row 3 true) (.cs (.row 1 true) (.cs (.row 3 true) .nl)))))
def ou5 (l : T5) (y : X5) : Ex × St U := (Sum.elim (fun a0 => (.exit 0, stOf 31 [(0, .ptr 0 0), (4, .im .nilp)] [.var [.ptr 1 0, jI l.2.1.2.1, jI l.2.1.2.2.1, jI l.2.1.2.2.2.1, jI l.2.1.2.2.2.2.1, jI l.2.1.2.2.2.2.2.1, jI l.2.1.2.2.2.2.2.2.1], .var [.own 2, jI l.2.2.1.2.1, .own 3, jI l.2.2.1.2.2.2.1, jB l.2.2.1.2.2.2.2.1, jI l.2.2.1.2.2.2.2.2.1, .own 4], .row 3 l.2.2.2.1 true, .row 1 l.2.2.2.2.1 true, .row 3 l.2.2.2.2.2.1 true] 5)) (fun b0 => (Sum.elim (fun a1 => (.normal, stOf 31 [(0, .ptr 0 0), (4, .ptr 5 0), (10, jI a1.1)] [.var [.ptr 1 0, jI l.2.1.2.1, jI l.2.1.2.2.1, jI l.2.1.2.2.2.1, jI l.2.1.2.2.2.2.1, jI l.2.1.2.2.2.2.2.1, jI l.2.1.2.2.2.2.2.2.1], .var [.own 2, jI l.2.2.1.2.1, .own 3, jI l.2.2.1.2.2.2.1, jB l.2.2.1.2.2.2.2.1, jI l.2.2.1.2.2.2.2.2.1, .own 4], .row 3 l.2.2.2.1 true, .row 1 l.2.2.2.2.1 true, .row 3 l.2.2.2.2.2.1 true, .var [.ptr 0 0, jI a1.2.1, jI a1.2.2.1, jB a1.2.2.2.1, jI a1.2.2.2.2.1, .im (.slice 3 a1.2.2.2.2.2.1), .own 6], .row 12 a1.2.2.2.2.2.2 true] 5)) (fun b1 => (.ret, stOf 31 [(0, .ptr 0 0), (2, .im .nilp), (3, jI b1), (4, .im .nilp)] [.var [.ptr 1 0, jI l.2.1.2.1, jI l.2.1.2.2.1, jI l.2.1.2.2.2.1, jI l.2.1.2.2.2.2.1, jI l.2.1.2.2.2.2.2.1, jI l.2.1.2.2.2.2.2.2.1], .var [.own 2, jI l.2.2.1.2.1, .own 3, jI l.2.2.1.2.2.2.1, jB l.2.2.1.2.2.2.2.1, jI l.2.2.1.2.2.2.2.2.1, .own 4], .row 3 l.2.2.2.1 true, .row 1 l.2.2.2.2.1 true, .row 3 l.2.2.2.2.2.1 true] 5)) b0)) y)
def Λ5 : LFun U := mkLq (U := U) p5 q5 5 (X := X5) (fun (l : T5) => L5 l.1.2.2.2.2.1 l.2.1.2.1 l.2.1.2.2.1 l.2.1.2.2.2.1 l.2.1.2.2.2.2.1 l.2.1.2.2.2.2.2.1 l.2.1.2.2.2.2.2.2.1 l.2.2.1.2.1 l.2.2.1.2.2.2.1 l.2.2.1.2.2.2.2.1 l.2.2.1.2.2.2.2.2.1 l.2.2.2.1 l.2.2.2.2.1 l.2.2.2.2.2.1) (spS (spS sp1)) ou5 Λ5v2
def hd5 (l : T5) (s : Int) : T5 := (((), ((), ((), ((), (s, ((), ())))))), (((), (l.2.1.2.1, (l.2.1.2.2.1, (l.2.1.2.2.2.1, (l.2.1.2.2.2.2.1, (l.2.1.2.2.2.2.2.1, (l.2.1.2.2.2.2.2.2.1, ()))))))), (((), (l.2.2.1.2.1, ((), (l.2.2.1.2.2.2.1, (l.2.2.1.2.2.2.2.1, (l.2.2.1.2.2.2.2.2.1, ((), ()))))))), (l.2.2.2.1, (l.2.2.2.2.1, (l.2.2.2.2.2.1, ()))))))
def fl5 (l : T5) (s : Int) : Tw (Int ⊕ X5) := l5 l.2.1.2.1 l.2.1.2.2.1 l.2.1.2.2.2.1 l.2.1.2.2.2.2.1 l.2.1.2.2.2.2.2.1 l.2.1.2.2.2.2.2.2.1 l.2.2.1.2.1 l.2.2.1.2.2.2.1 l.2.2.1.2.2.2.2.1 l.2.2.1.2.2.2.2.2.1 l.2.2.2.1 l.2.2.2.2.1 l.2.2.2.2.2.1 s
def t (h0_1 h0_2 h0_3 h0_4 h0_5 h0_6 h1_1 h1_3 : Int) (h1_4 : Bool) (h1_5 : Int) (h2 : (List Int)) (h3 : (List Int)) (h4 : (List Int)) : Tw XA :=
 (.opt (L5 (0 : Int) h0_1 h0_2 h0_3 h0_4 h0_5 h0_6 h1_1 h1_3 h1_4 h1_5 h2 h3 h4) fun z5 =>
 (.sm z5
 (fun z6 => (.ret (.inl (8 : Int))))
 (fun z7 => (.sm z7
 (fun z8 => (.opt (L5v2 z8.1 h0_1 h0_2 h0_3 h0_4 h0_5 h0_6 h1_1 h1_3 h1_4 h1_5 h2 h3 h4 z8.2.1 z8.2.2.1 z8.2.2.2.1 z8.2.2.2.2.1 z8.2.2.2.2.2.1 z8.2.2.2.2.2.2) fun z10 =>
 (.sm z10
 (fun z11 => (.ret (.inr ((0 : Int), (z11.1, (z11.2.1, (z11.2.2.1, (z11.2.2.2.1, (z11.2.2.2.2.1, z11.2.2.2.2.2)))))))))
 (fun z12 => (.ret (.inl z12.1))))))
 (fun z9 => (.ret (.inl z9)))))))
def c (h0_1 h0_2 h0_3 h0_4 h0_5 h0_6 h1_1 h1_3 : Int) (h1_4 : Bool) (h1_5 : Int) (h2 : (List Int)) (h3 : (List Int)) (h4 : (List Int)) : Option XA := (t h0_1 h0_2 h0_3 h0_4 h0_5 h0_6 h1_1 h1_3 h1_4 h1_5 h2 h3 h4).run
def tl (l : TA) : Tw XA := t l.2.1.2.1 l.2.1.2.2.1 l.2.1.2.2.2.1 l.2.1.2.2.2.2.1 l.2.1.2.2.2.2.2.1 l.2.1.2.2.2.2.2.2.1 l.2.2.1.2.1 l.2.2.1.2.2.2.1 l.2.2.1.2.2.2.2.1 l.2.2.1.2.2.2.2.2.1 l.2.2.2.1 l.2.2.2.2.1 l.2.2.2.2.2.1
def cl (l : TA) : Option XA := (tl l).run
def pA : Pt := (.cs (.ptr 0 0) .nl)
def pH : Pt := (.cs (.var (.cs (.ptr 1 0) (jC (jC (jC (jC (jC (jC .nl)))))))) (.cs (.var (.cs (.own 2) (jC (.cs (.own 3) (jC (.cs .bool (jC (.cs (.own 4) .nl)))))))) (.cs (.row 3 true) (.cs (.row 1 true) (.cs (.row 3 true) .nl)))))
def v (l : TA) (y : XA) : AV U := (Sum.elim (fun a0 => .tup [.im .nilp, jI a0]) (fun b0 => .tup [.ptr 5 0, jI b0.1]) y)
def hh (l : TA) (y : XA) : Hp U := (Sum.elim (fun a0 => [.var [.ptr 1 0, jI l.2.1.2.1, jI l.2.1.2.2.1, jI l.2.1.2.2.2.1, jI l.2.1.2.2.2.2.1, jI l.2.1.2.2.2.2.2.1, jI l.2.1.2.2.2.2.2.2.1], .var [.own 2, jI l.2.2.1.2.1, .own 3, jI l.2.2.1.2.2.2.1, jB l.2.2.1.2.2.2.2.1, jI l.2.2.1.2.2.2.2.2.1, .own 4], .row 3 l.2.2.2.1 true, .row 1 l.2.2.2.2.1 true, .row 3 l.2.2.2.2.2.1 true]) (fun b0 => [.var [.ptr 1 0, jI l.2.1.2.1, jI l.2.1.2.2.1, jI l.2.1.2.2.2.1, jI l.2.1.2.2.2.2.1, jI l.2.1.2.2.2.2.2.1, jI l.2.1.2.2.2.2.2.2.1], .var [.own 2, jI l.2.2.1.2.1, .own 3, jI l.2.2.1.2.2.2.1, jB l.2.2.1.2.2.2.2.1, jI l.2.2.1.2.2.2.2.2.1, .own 4], .row 3 l.2.2.2.1 true, .row 1 l.2.2.2.2.1 true, .row 3 l.2.2.2.2.2.1 true, .var [.ptr 0 0, jI b0.2.1, jI b0.2.2.1, jB b0.2.2.2.1, jI b0.2.2.2.2.1, .im (.slice 3 b0.2.2.2.2.2.1), .own 6], .row 12 b0.2.2.2.2.2.2 true]) y)
def A : AFun U := mkA (U := U) pA pH (X := XA) cl (spS sp1) v hh
def body : Code := (Go.Func.body Tryz.f15).getD .skip
def Γ : List (FuncId × AFun U) := [(41, journal_read.A), (16, (orA journal_Journal_Seq_nil0.pA journal_Journal_Seq_nil0.pH journal_Journal_Seq_nil0.A journal_Journal_Seq.A))]
def Λ : List (Nat × LFun U) := [(5, (orL p5v2 q5v2 Λ5v2 Λ5))]
def CT : List (Nat × LFun U) := []
def ro : List FuncId := [16]
def D : Nat → Lv × Lv := dtab [(5, ⟨[0, 10, 4], []⟩, ⟨[2, 3, 0, 4], []⟩)]
def E : Env U := { E0 with Γ := Γ, Λ := Λ, C := CT, D := D, ro := ro }
theorem hf5v2 (R : Type) (l : T5v2) (s : S5v2) (K : Ex → St U → Option R) : codeA E (pick (loopsOf body) 5) ⟨p5v2.mkL (hd5v2 l s).1, q5v2.mkH (hd5v2 l s).2, 5⟩ (roundK E (pick (loopsOf body) 5) K) =
  (fl5v2 l s).runK (lpK K (fun s => ⟨p5v2.mkL (hd5v2 l s).1, q5v2.mkH (hd5v2 l s).2, 5⟩) (spS sp1) (ou5v2 l)) := by kernel_rfl
theorem lk5v2 (R : Type) (st : St U) (K : Ex → St U → Option R) (r : R) (h : Λ5v2 R st K = some r) : ∃ n, loopA E (pick (loopsOf body) 5) n st K = some r :=
  lp_ok (U := U) (E := E) (b := pick (loopsOf body) 5) (m := 5) (sp := (spS sp1)) (p := p5v2) (q := q5v2) (X := X5v2) (S := S5v2) (f := fl5v2) (hd := hd5v2) (s0 := fun (l : T5v2) => (l.1.2.2.2.2.1, (l.2.2.2.2.2.2.1.2.1, (l.2.2.2.2.2.2.1.2.2.1, (l.2.2.2.2.2.2.1.2.2.2.1, (l.2.2.2.2.2.2.1.2.2.2.2.1, (l.2.2.2.2.2.2.1.2.2.2.2.2.1, l.2.2.2.2.2.2.2.1))))))) (ou := ou5v2)
    (fun l => rfl) (fun l x => by repeat' (first | rfl | (cases x with | inl => rfl | inr x => ?_))) (spS_ok sp1_ok) hf5v2 h
theorem hf5 (R : Type) (l : T5) (s : Int) (K : Ex → St U → Option R) : codeA E (pick (loopsOf body) 5) ⟨p5.mkL (hd5 l s).1, q5.mkH (hd5 l s).2, 5⟩ (roundK E (pick (loopsOf body) 5) K) =
  (fl5 l s).runK (lpK K (fun s => ⟨p5.mkL (hd5 l s).1, q5.mkH (hd5 l s).2, 5⟩) (spS (spS sp1)) (ou5 l)) := by kernel_rfl
theorem lk5 (R : Type) (st : St U) (K : Ex → St U → Option R) (r : R) (h : Λ5 R st K = some r) : ∃ n, loopA E (pick (loopsOf body) 5) n st K = some r :=
  lq_ok (U := U) (E := E) (b := pick (loopsOf body) 5) (m := 5) (sp := (spS (spS sp1))) (p := p5) (q := q5) (X := X5) (S := Int) (f := fl5) (hd := hd5) (s0 := fun (l : T5) => l.1.2.2.2.2.1) (ou := ou5)
    (fun l => rfl) (spS_ok (spS_ok sp1_ok)) hf5 lk5v2 h
theorem hk (R : Type) (l : TA) (K : AV U → Hp U → Option R) : funcA E Tryz.f15 [] R (pA.mkL l.1) (pH.mkH l.2) K = (tl l).runK fun y => K (v l y) (hh l y) := by kernel_rfl
theorem okF : SoundF Tryz.prog cc 15 (funcA E Tryz.f15 []) :=
  funcA_ok (E := E) P_mixed (E0_ok.with Γ Λ CT D ro) (gam_of (all_cons ⟨journal_read.ok, journal_read.fo⟩ (all_cons ⟨(orA_ok journal_Journal_Seq_nil0.ok journal_Journal_Seq.ok), journal_Journal_Seq_nil0.fo⟩ all_nil)) (all_cons (no_keep (by kernel_rfl)) (all_cons (fun _ => (orA_keep journal_Journal_Seq_nil0.keep journal_Journal_Seq.keep)) all_nil))) Tryz.func15 (c := body) (by kernel_rfl)
    (just_by (by kernel_rfl) (by kernel_rfl) (all_cons (orL_ok lk5v2 lk5) all_nil) all_nil) []
theorem ok : SoundF Tryz.prog cc 15 A :=
  mkA_ok (E := E) (p := pA) (q := pH) (t := tl) (spS_ok sp1_ok) hk okF
theorem fo : FnOK Tryz.prog 15 := ⟨Tryz.f15, Tryz.func15, by kernel_rfl, by kernel_rfl⟩
theorem keep : KeepA A := mkA_keep (U := U) (spS_ok sp1_ok) (fun (l : TA) y => ⟨(hh l y).drop 5, by (cases y with | inl y => kernel_rfl | inr y => kernel_rfl)⟩)
end journal_Open

end
end Go.Proofs.YtkoidgjgdhpdnaaGreat.Va
