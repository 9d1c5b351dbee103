/- The functions of package journal, as plain functions, and that the program computes them. Printed by a program of this work out of the evaluator. -/
import Derived.Test.YtkoidgjgdhpdnaaEn
import Derived.Tactics
import Derived.Test.YtkoidgjgdhpdnaaFdrive
import Derived.Test.YtkoidgjgdhpdnaaFframe
import Derived.Test.YtkoidgjgdhpdnaaFslices
set_option linter.unusedVariables false
namespace Go.Proofs.Ytkoidgjgdhpdnaa.Va
noncomputable section
open Go
set_option maxRecDepth 100000

/-! instar/journal.may -/
namespace journal_may
abbrev TA : Type := (((List (List Int)) × Unit) × Unit)
abbrev T2 : Type := ((Unit × ((List (List Int)) × (Int × (Int × (Unit × Unit))))) × Unit)
abbrev X2 : Type := (Unit ⊕ Bool)
def l2 (k5 : (List (List Int))) (k6 k7 : Int) : Tw (Int ⊕ X2) :=
 (.bb (decide (k7 < k6))
 (.dd (((0 : Int) ≤ k7)) inferInstance
 (.opt (k5)[(Int.toNat k7)]? fun z1 =>
 (.opt (frame_Size.c (((List.length z1) : Nat) : Int)) fun z2 =>
 (.bb (z2 == (0 : Int))
 (.ret (.inr (.inr false)))
 (.ret (.inl (w64 (k7 + (1 : Int))))))))
 .no)
 (.ret (.inr (.inl ()))))
def L2 (k5 : (List (List Int))) (k6 k7 : Int) : Option X2 := Lp (fun s => (l2 k5 k6 s).run) k7
def p2 : Pt := (.cs (.bots 5) (.cs (.sl 12) (jC (jC (.cs (.bots 8) .nl)))))
def q2 : Pt := .nl
def ou2 (l : T2) (y : X2) : Ex × St U := (Sum.elim (fun a0 => (.exit 0, stOf 16 [] [] 0)) (fun b0 => (.ret, stOf 16 [(2, jB b0)] [] 0)) y)
def Λ2 : LFun U := mkLp p2 q2 0 (X := X2) (fun (l : T2) => L2 l.1.2.1 l.1.2.2.1 l.1.2.2.2.1) (spS sp1) ou2
def hd2 (l : T2) (s : Int) : T2 := (((), (l.1.2.1, (l.1.2.2.1, (s, ((), ()))))), ())
def fl2 (l : T2) (s : Int) : Tw (Int ⊕ X2) := l2 l.1.2.1 l.1.2.2.1 s
def t (loads : (List (List Int))) : Tw Bool :=
 (.opt (L2 loads (((List.length loads) : Nat) : Int) (0 : Int)) fun z3 =>
 (.sm z3
 (fun z4 => (.ret true))
 (fun z5 => (.ret z5))))
def c (loads : (List (List Int))) : Option Bool := (t loads).run
def tl (l : TA) : Tw Bool := t l.1.1
def pA : Pt := (.cs (.sl 12) .nl)
def pH : Pt := .nl
def v (l : TA) (y : Bool) : AV U := jB y
def hh (l : TA) (y : Bool) : Hp U := []
def A : AFun U := mkA pA pH (X := Bool) (fun l => (tl l).run) sp1 v hh
def body := bodyOf Try.f34
def E : Env U := E0.mk5 [(58, frame_Size.A)] [(2, Λ2)] [] [(2, ⟨[7, 5, 6], []⟩, ⟨[2], []⟩)] []
theorem hf2 : HF E (pick (loopsOf body) 2) p2 q2 0 fl2 hd2 (spS sp1) ou2 := fun _ _ _ _ => by kernel_rfl
theorem lk2 : LK E (pick (loopsOf body) 2) Λ2 := fun R st K r h =>
  lp_ok (E := E) (b := pick (loopsOf body) 2) (m := 0) (sp := (spS sp1)) (p := p2) (q := q2) (X := X2) (S := Int) (f := fl2) (hd := hd2) (s0 := fun (l : T2) => l.1.2.2.2.1) (ou := ou2)
    (fun l => rfl) (fun l x => by repeat' (first | rfl | (cases x with | inl => rfl | inr x => ?_))) (spS_ok sp1_ok) hf2 h
theorem hk : HK E Try.f34 [] pA pH tl v hh := fun _ _ _ => by kernel_rfl
theorem og : SoundF Try.prog cc 34 A ∧ FnOK Try.prog 34 :=
 og_of (E := E) P_mixed (E0_ok.mk5 _ _ _ _ _) (gam_of (all_cons frame_Size.og all_nil) no_ro) Try.func34 (c := body) (by kernel_rfl)
    (just_by (by kernel_rfl) (by kernel_rfl) (all_cons lk2 all_nil) all_nil) [] sp1_ok hk (by kernel_rfl)
end journal_may

/-! (*instar/journal.Journal).said -/
namespace journal_Journal_said
abbrev TA : Type := ((Unit × ((Int × (Int × ((List Int) × Unit))) × (Int × Unit))) × ((Unit × (Int × (Int × (Bool × (Int × (Unit × (Unit × Unit))))))) × ((Unit × (Int × (Int × (Int × (Int × (Int × (Int × Unit))))))) × ((Unit × (Int × (Unit × (Int × (Bool × (Int × (Unit × Unit))))))) × ((List Int) × ((List Int) × ((List Int) × Unit)))))))
abbrev XA : Type := ((Int × (List (List Int))) ⊕ (Int × (List (List Int))))
def t (f_0 f_1 : Int) (f_2 : (List Int)) (n h0_1 h0_2 : Int) (h0_3 : Bool) (h0_4 h1_1 h1_2 h1_3 h1_4 h1_5 h1_6 h2_1 h2_3 : Int) (h2_4 : Bool) (h2_5 : Int) (h3 : (List Int)) (h4 : (List Int)) (h5 : (List Int)) : Tw XA :=
 (.bb (f_0 == (1 : Int))
 (.ret (.inr ((w64 (h0_2 + n)), ([] : List (List Int)))))
 (.ret (.inl ((w64 (h0_2 + n)), (f_2 :: ([] : List (List Int)))))))
def c (f_0 f_1 : Int) (f_2 : (List Int)) (n h0_1 h0_2 : Int) (h0_3 : Bool) (h0_4 h1_1 h1_2 h1_3 h1_4 h1_5 h1_6 h2_1 h2_3 : Int) (h2_4 : Bool) (h2_5 : Int) (h3 : (List Int)) (h4 : (List Int)) (h5 : (List Int)) : Option XA := (t f_0 f_1 f_2 n h0_1 h0_2 h0_3 h0_4 h1_1 h1_2 h1_3 h1_4 h1_5 h1_6 h2_1 h2_3 h2_4 h2_5 h3 h4 h5).run
def tl (l : TA) : Tw XA := t l.1.2.1.1 l.1.2.1.2.1 l.1.2.1.2.2.1 l.1.2.2.1 l.2.1.2.1 l.2.1.2.2.1 l.2.1.2.2.2.1 (d4 l.2.1).1 l.2.2.1.2.1 l.2.2.1.2.2.1 l.2.2.1.2.2.2.1 (d4 l.2.2.1).1 (d4 l.2.2.1).2.1 (d4 l.2.2.1).2.2.1 l.2.2.2.1.2.1 l.2.2.2.1.2.2.2.1 (d4 l.2.2.2.1).1 (d4 l.2.2.2.1).2.1 (d4 l).1 (d4 l).2.1 (d4 l).2.2.1
def pA : Pt := (.cs (.ptr 0 0) (.cs (.agg (jC (jC (.cs (.sl 3) .nl)))) (jC .nl)))
def pH : Pt := (.cs (.var (.cs (.ptr 1 0) (jC (jC (.cs .bool (jC (.cs .nils (.cs .nils .nl)))))))) (.cs (.var (.cs (.ptr 2 0) (jC (jC (jC (jC (jC (jC .nl)))))))) (.cs (.var (.cs (.own 3) (jC (.cs (.own 4) (jC (.cs .bool (jC (.cs (.own 5) .nl)))))))) (.cs (.row 3 true) (.cs (.row 1 true) (.cs (.row 3 true) .nl))))))
def v (l : TA) (y : XA) : AV U := (Sum.elim (fun a0 => .tup []) (fun b0 => .tup []) y)
def hh (l : TA) (y : XA) : Hp U := (Sum.elim (fun a0 => [.var [.ptr 1 0, jI l.2.1.2.1, jI a0.1, jB l.2.1.2.2.2.1, jI l.1.2.1.2.1, .im .nils, .own 6], .var [.ptr 2 0, jI l.2.2.1.2.1, jI l.2.2.1.2.2.1, jI l.2.2.1.2.2.2.1, jI (d4 l.2.2.1).1, jI (d4 l.2.2.1).2.1, jI (d4 l.2.2.1).2.2.1], .var [.own 3, jI l.2.2.2.1.2.1, .own 4, jI l.2.2.2.1.2.2.2.1, jB (d4 l.2.2.2.1).1, jI (d4 l.2.2.2.1).2.1, .own 5], .row 3 (d4 l).1 true, .row 1 (d4 l).2.1 true, .row 3 (d4 l).2.2.1 true, .row 12 a0.2 true]) (fun b0 => [.var [.ptr 1 0, jI l.2.1.2.1, jI b0.1, jB l.2.1.2.2.2.1, jI l.1.2.1.2.1, .im (.slice 3 l.1.2.1.2.2.1), .own 6], .var [.ptr 2 0, jI l.2.2.1.2.1, jI l.2.2.1.2.2.1, jI l.2.2.1.2.2.2.1, jI (d4 l.2.2.1).1, jI (d4 l.2.2.1).2.1, jI (d4 l.2.2.1).2.2.1], .var [.own 3, jI l.2.2.2.1.2.1, .own 4, jI l.2.2.2.1.2.2.2.1, jB (d4 l.2.2.2.1).1, jI (d4 l.2.2.2.1).2.1, .own 5], .row 3 (d4 l).1 true, .row 1 (d4 l).2.1 true, .row 3 (d4 l).2.2.1 true, .row 12 b0.2 true]) y)
def A : AFun U := mkA pA pH (X := XA) (fun l => (tl l).run) (spS sp1) v hh
def body := bodyOf Try.f61
def Γ : List (FuncId × AFun U) := []
def Λ : List (Nat × LFun U) := []
def CT : List (Nat × LFun U) := []
def ro : List FuncId := []
def D : Nat → Lv × Lv := dtab []
def E : Env U := { E0 with Γ := Γ, Λ := Λ, C := CT, D := D, ro := ro, pre := [(0, [.to 6], .mv 12)], kill := [], tr := false }
theorem hk : HK E Try.f61 [] pA pH tl v hh := fun _ _ _ => by kernel_rfl
theorem okF : SoundF Try.prog cc 61 (funcA E Try.f61 []) :=
  funcA_ok (E := E) P_mixed ((E0_ok.with Γ Λ CT D ro).pre [(0, [.to 6], .mv 12)] [] false) (gam_of all_nil all_nil) Try.func61 (c := body) (by kernel_rfl)
    (just_by (by kernel_rfl) (by kernel_rfl) all_nil all_nil) []
theorem ok : SoundF Try.prog cc 61 A :=
  mkA_ok (E := E) (p := pA) (q := pH) (t := tl) (spS_ok sp1_ok) hk okF
theorem fo : FnOK Try.prog 61 := ⟨Try.f61, Try.func61, by kernel_rfl, by kernel_rfl⟩
end journal_Journal_said

/-! (*instar/journal.Journal).over -/
namespace journal_Journal_over
abbrev TA : Type := ((Unit × ((List Int) × (Int × Unit))) × ((Unit × (Int × (Int × (Bool × (Int × (Unit × (Unit × Unit))))))) × ((Unit × (Int × (Int × (Int × (Int × (Int × (Int × Unit))))))) × ((Unit × (Int × (Unit × (Int × (Bool × (Int × (Unit × Unit))))))) × ((List Int) × ((List Int) × ((List Int) × Unit)))))))
abbrev XA : Type := ((Int × (Int × (Int × (Bool × (Int × (Int × (Bool × (Int × ((List Int) × ((List Int) × (List (List Int)))))))))))) ⊕ (Int × (Int × (Int × (Bool × ((List Int) × (Int × (Bool × (Int × ((List Int) × ((List Int) × (List (List Int)))))))))))))
def t (whole : (List Int)) (seq h0_1 h0_2 : Int) (h0_3 : Bool) (h0_4 h1_1 h1_2 h1_3 h1_4 h1_5 h1_6 h2_1 h2_3 : Int) (h2_4 : Bool) (h2_5 : Int) (h3 : (List Int)) (h4 : (List Int)) (h5 : (List Int)) : Tw XA :=
 (.opt (slices_Clone__uint32uint32.c whole) fun z1 =>
 (.opt (frame_Lay.c (1 : Int) seq z1) fun z2 =>
 (.bb (z2.1 != (0 : Int))
 (.ret (.inl (z2.1, (h0_1, (h0_2, (h0_3, (h0_4, (h2_3, (h2_4, (h2_5, (h3, (h4, ([] : List (List Int))))))))))))))
 (.opt (drive_Drive_Fresh.c (w64 ((1 : Int) - h0_1)) z2.2 h1_1 h1_2 h1_3 h1_4 h1_5 h1_6 h2_1 h2_3 h2_4 h2_5 h3 h4 h5) fun z3 =>
 (.bb (z3.1 != (0 : Int))
 (.ret (.inl (z3.1, (h0_1, (h0_2, (h0_3, (h0_4, (z3.2.1, (z3.2.2.1, (z3.2.2.2.1, ((d4 z3).1, ((d4 z3).2, ([] : List (List Int))))))))))))))
 (.opt (journal_Journal_said.c (1 : Int) seq z1 (((List.length z2.2) : Nat) : Int) (w64 ((1 : Int) - h0_1)) (0 : Int) false h0_4 h1_1 h1_2 h1_3 h1_4 h1_5 h1_6 h2_1 z3.2.1 z3.2.2.1 z3.2.2.2.1 (d4 z3).1 (d4 z3).2 h5) fun z4 =>
 (.sm z4
 (fun z5 => (.ret (.inl ((0 : Int), ((w64 ((1 : Int) - h0_1)), (z5.1, (false, (seq, (z3.2.1, (z3.2.2.1, (z3.2.2.2.1, ((d4 z3).1, ((d4 z3).2, z5.2)))))))))))))
 (fun z6 => (.ret (.inr ((0 : Int), ((w64 ((1 : Int) - h0_1)), (z6.1, (false, (z1, (z3.2.1, (z3.2.2.1, (z3.2.2.2.1, ((d4 z3).1, ((d4 z3).2, z6.2))))))))))))))))))))
def c (whole : (List Int)) (seq h0_1 h0_2 : Int) (h0_3 : Bool) (h0_4 h1_1 h1_2 h1_3 h1_4 h1_5 h1_6 h2_1 h2_3 : Int) (h2_4 : Bool) (h2_5 : Int) (h3 : (List Int)) (h4 : (List Int)) (h5 : (List Int)) : Option XA := (t whole seq h0_1 h0_2 h0_3 h0_4 h1_1 h1_2 h1_3 h1_4 h1_5 h1_6 h2_1 h2_3 h2_4 h2_5 h3 h4 h5).run
def tl (l : TA) : Tw XA := t l.1.2.1 l.1.2.2.1 l.2.1.2.1 l.2.1.2.2.1 l.2.1.2.2.2.1 (d4 l.2.1).1 l.2.2.1.2.1 l.2.2.1.2.2.1 l.2.2.1.2.2.2.1 (d4 l.2.2.1).1 (d4 l.2.2.1).2.1 (d4 l.2.2.1).2.2.1 l.2.2.2.1.2.1 l.2.2.2.1.2.2.2.1 (d4 l.2.2.2.1).1 (d4 l.2.2.2.1).2.1 (d4 l).1 (d4 l).2.1 (d4 l).2.2.1
def pA : Pt := (.cs (.ptr 0 0) (.cs (.sl 3) (jC .nl)))
def pH : Pt := (.cs (.var (.cs (.ptr 1 0) (jC (jC (.cs .bool (jC (.cs .nils (.cs .nils .nl)))))))) (.cs (.var (.cs (.ptr 2 0) (jC (jC (jC (jC (jC (jC .nl)))))))) (.cs (.var (.cs (.own 3) (jC (.cs (.own 4) (jC (.cs .bool (jC (.cs (.own 5) .nl)))))))) (.cs (.row 3 true) (.cs (.row 1 true) (.cs (.row 3 true) .nl))))))
def v (l : TA) (y : XA) : AV U := (Sum.elim (fun a0 => jI a0.1) (fun b0 => jI b0.1) y)
def hh (l : TA) (y : XA) : Hp U := (Sum.elim (fun a0 => [.var [.ptr 1 0, jI a0.2.1, jI a0.2.2.1, jB a0.2.2.2.1, jI (d4 a0).1, .im .nils, .own 6], .var [.ptr 2 0, jI l.2.2.1.2.1, jI l.2.2.1.2.2.1, jI l.2.2.1.2.2.2.1, jI (d4 l.2.2.1).1, jI (d4 l.2.2.1).2.1, jI (d4 l.2.2.1).2.2.1], .var [.own 3, jI l.2.2.2.1.2.1, .own 4, jI (d4 a0).2.1, jB (d4 a0).2.2.1, jI (d4 a0).2.2.2.1, .own 5], .row 3 (d8 a0).1 true, .row 1 (d8 a0).2.1 true, .row 3 (d4 l).2.2.1 true, .row 12 (d8 a0).2.2 true]) (fun b0 => [.var [.ptr 1 0, jI b0.2.1, jI b0.2.2.1, jB b0.2.2.2.1, jI l.1.2.2.1, .im (.slice 3 (d4 b0).1), .own 6], .var [.ptr 2 0, jI l.2.2.1.2.1, jI l.2.2.1.2.2.1, jI l.2.2.1.2.2.2.1, jI (d4 l.2.2.1).1, jI (d4 l.2.2.1).2.1, jI (d4 l.2.2.1).2.2.1], .var [.own 3, jI l.2.2.2.1.2.1, .own 4, jI (d4 b0).2.1, jB (d4 b0).2.2.1, jI (d4 b0).2.2.2.1, .own 5], .row 3 (d8 b0).1 true, .row 1 (d8 b0).2.1 true, .row 3 (d4 l).2.2.1 true, .row 12 (d8 b0).2.2 true]) y)
def A : AFun U := mkA pA pH (X := XA) (fun l => (tl l).run) (spS sp1) v hh
def body := bodyOf Try.f36
def Γ : List (FuncId × AFun U) := [(32, slices_Clone__uint32uint32.A), (59, frame_Lay.A), (62, drive_Drive_Fresh.A), (61, journal_Journal_said.A)]
def Λ : List (Nat × LFun U) := []
def CT : List (Nat × LFun U) := []
def ro : List FuncId := []
def D : Nat → Lv × Lv := dtab []
def E : Env U := { E0 with Γ := Γ, Λ := Λ, C := CT, D := D, ro := ro, pre := [(0, [.to 6], .mv 12)], kill := [], tr := false }
theorem hk : HK E Try.f36 [] pA pH tl v hh := fun _ _ _ => by kernel_rfl
theorem okF : SoundF Try.prog cc 36 (funcA E Try.f36 []) :=
  funcA_ok (E := E) P_mixed ((E0_ok.with Γ Λ CT D ro).pre [(0, [.to 6], .mv 12)] [] false) (gam_of (all_cons ⟨slices_Clone__uint32uint32.ok, slices_Clone__uint32uint32.fo⟩ (all_cons frame_Lay.og (all_cons drive_Drive_Fresh.og (all_cons ⟨journal_Journal_said.ok, journal_Journal_said.fo⟩ all_nil)))) no_ro) Try.func36 (c := body) (by kernel_rfl)
    (just_by (by kernel_rfl) (by kernel_rfl) all_nil all_nil) []
theorem ok : SoundF Try.prog cc 36 A :=
  mkA_ok (E := E) (p := pA) (q := pH) (t := tl) (spS_ok sp1_ok) hk okF
theorem fo : FnOK Try.prog 36 := ⟨Try.f36, Try.func36, by kernel_rfl, by kernel_rfl⟩
end journal_Journal_over

/-! instar/journal.New -/
namespace journal_New
abbrev TA : Type := ((Unit × ((List Int) × Unit)) × ((Unit × (Int × (Int × (Int × (Int × (Int × (Int × Unit))))))) × ((Unit × (Int × (Unit × (Int × (Bool × (Int × (Unit × Unit))))))) × ((List Int) × ((List Int) × ((List Int) × Unit))))))
abbrev XA : Type := ((Int × (Int × (Bool × (Int × ((List Int) × ((List Int) × (Int × (Int × (Bool × (Int × ((List Int) × (List (List Int))))))))))))) ⊕ (Int × (Int × (Bool × (Int × ((List Int) × (List Int)))))))
def t (whole : (List Int)) (h0_1 h0_2 h0_3 h0_4 h0_5 h0_6 h1_1 h1_3 : Int) (h1_4 : Bool) (h1_5 : Int) (h2 : (List Int)) (h3 : (List Int)) (h4 : (List Int)) : Tw XA :=
 (.opt (journal_may.c (whole :: ([] : List (List Int)))) fun z1 =>
 (.bb (!z1)
 (.ret (.inr ((2 : Int), (h1_3, (h1_4, (h1_5, (h2, h3)))))))
 (.opt (drive_Drive_Clean.c (1 : Int) h0_1 h0_2 h0_3 h0_4 h0_5 h0_6 h1_1 h1_3 h1_4 h1_5 h2 h3 h4) fun z2 =>
 (.bb (z2.1 != (0 : Int))
 (.ret (.inr (z2.1, (z2.2.1, (z2.2.2.1, (z2.2.2.2.1, ((d4 z2).1, (d4 z2).2)))))))
 (.opt (journal_Journal_over.c whole (1 : Int) (1 : Int) (0 : Int) false (0 : Int) h0_1 h0_2 h0_3 h0_4 h0_5 h0_6 h1_1 z2.2.1 z2.2.2.1 z2.2.2.2.1 (d4 z2).1 (d4 z2).2 h4) fun z3 =>
 (.sm z3
 (fun z4 => (.bb (z4.1 != (0 : Int))
 (.ret (.inr (z4.1, ((d4 z4).2.1, ((d4 z4).2.2.1, ((d4 z4).2.2.2.1, ((d8 z4).1, (d8 z4).2.1)))))))
 (.ret (.inl ((0 : Int), ((d4 z4).2.1, ((d4 z4).2.2.1, ((d4 z4).2.2.2.1, ((d8 z4).1, ((d8 z4).2.1, (z4.2.1, (z4.2.2.1, (z4.2.2.2.1, ((d4 z4).1, (([] : List (Int)), (d8 z4).2.2)))))))))))))))
 (fun z5 => (.bb (z5.1 != (0 : Int))
 (.ret (.inr (z5.1, ((d4 z5).2.1, ((d4 z5).2.2.1, ((d4 z5).2.2.2.1, ((d8 z5).1, (d8 z5).2.1)))))))
 (.ret (.inl ((0 : Int), ((d4 z5).2.1, ((d4 z5).2.2.1, ((d4 z5).2.2.2.1, ((d8 z5).1, ((d8 z5).2.1, (z5.2.1, (z5.2.2.1, (z5.2.2.2.1, ((1 : Int), ((d4 z5).1, (d8 z5).2.2)))))))))))))))))))))
def c (whole : (List Int)) (h0_1 h0_2 h0_3 h0_4 h0_5 h0_6 h1_1 h1_3 : Int) (h1_4 : Bool) (h1_5 : Int) (h2 : (List Int)) (h3 : (List Int)) (h4 : (List Int)) : Option XA := (t whole h0_1 h0_2 h0_3 h0_4 h0_5 h0_6 h1_1 h1_3 h1_4 h1_5 h2 h3 h4).run
def tl (l : TA) : Tw XA := t l.1.2.1 l.2.1.2.1 l.2.1.2.2.1 l.2.1.2.2.2.1 (d4 l.2.1).1 (d4 l.2.1).2.1 (d4 l.2.1).2.2.1 l.2.2.1.2.1 l.2.2.1.2.2.2.1 (d4 l.2.2.1).1 (d4 l.2.2.1).2.1 l.2.2.2.1 (d4 l).1 (d4 l).2.1
def pA : Pt := (.cs (.ptr 0 0) (.cs (.sl 3) .nl))
def pH : Pt := (.cs (.var (.cs (.ptr 1 0) (jC (jC (jC (jC (jC (jC .nl)))))))) (.cs (.var (.cs (.own 2) (jC (.cs (.own 3) (jC (.cs .bool (jC (.cs (.own 4) .nl)))))))) (.cs (.row 3 true) (.cs (.row 1 true) (.cs (.row 3 true) .nl)))))
def v (l : TA) (y : XA) : AV U := (Sum.elim (fun a0 => .tup [.ptr 5 0, jI a0.1]) (fun b0 => .tup [.im .nilp, jI b0.1]) y)
def hh (l : TA) (y : XA) : Hp U := (Sum.elim (fun a0 => [.var [.ptr 1 0, jI l.2.1.2.1, jI l.2.1.2.2.1, jI l.2.1.2.2.2.1, jI (d4 l.2.1).1, jI (d4 l.2.1).2.1, jI (d4 l.2.1).2.2.1], .var [.own 2, jI l.2.2.1.2.1, .own 3, jI a0.2.1, jB a0.2.2.1, jI a0.2.2.2.1, .own 4], .row 3 (d4 a0).1 true, .row 1 (d4 a0).2.1 true, .row 3 (d4 l).2.1 true, .var [.ptr 0 0, jI (d4 a0).2.2.1, jI (d4 a0).2.2.2.1, jB (d8 a0).1, jI (d8 a0).2.1, .im (.slice 3 (d8 a0).2.2.1), .own 6], .row 12 (d8 a0).2.2.2 true]) (fun b0 => [.var [.ptr 1 0, jI l.2.1.2.1, jI l.2.1.2.2.1, jI l.2.1.2.2.2.1, jI (d4 l.2.1).1, jI (d4 l.2.1).2.1, jI (d4 l.2.1).2.2.1], .var [.own 2, jI l.2.2.1.2.1, .own 3, jI b0.2.1, jB b0.2.2.1, jI b0.2.2.2.1, .own 4], .row 3 (d4 b0).1 true, .row 1 (d4 b0).2 true, .row 3 (d4 l).2.1 true]) y)
def A : AFun U := mkA pA pH (X := XA) (fun l => (tl l).run) (spS sp1) v hh
def body := bodyOf Try.f20
def E : Env U := E0.mk5 [(34, journal_may.A), (41, drive_Drive_Clean.A), (36, journal_Journal_over.A)] [] [] [] []
theorem hk : HK E Try.f20 [(0, [.to 5], .im 3)] pA pH tl v hh := fun _ _ _ => by kernel_rfl
theorem og : SoundF Try.prog cc 20 A ∧ FnOK Try.prog 20 :=
 og_of (E := E) P_mixed (E0_ok.mk5 _ _ _ _ _) (gam_of (all_cons journal_may.og (all_cons drive_Drive_Clean.og (all_cons ⟨journal_Journal_over.ok, journal_Journal_over.fo⟩ all_nil))) no_ro) Try.func20 (c := body) (by kernel_rfl)
    (just_by (by kernel_rfl) (by kernel_rfl) all_nil all_nil) [(0, [.to 5], .im 3)] (spS_ok sp1_ok) hk (by kernel_rfl)
end journal_New

/-! (*instar/journal.Journal).said -/
namespace journal_Journal_said_v2
abbrev TA : Type := ((Unit × ((Int × (Int × ((List Int) × Unit))) × (Int × Unit))) × ((Unit × (Int × (Int × (Bool × (Int × ((List Int) × (Unit × Unit))))))) × ((Unit × (Int × (Int × (Int × (Int × (Int × (Int × Unit))))))) × ((Unit × (Int × (Unit × (Int × (Bool × (Int × (Unit × Unit))))))) × ((List Int) × ((List Int) × ((List Int) × ((List (List Int)) × Unit))))))))
abbrev XA : Type := (Int × ((List Int) × (List (List Int))))
def t (f_0 f_1 : Int) (f_2 : (List Int)) (n h0_1 h0_2 : Int) (h0_3 : Bool) (h0_4 : Int) (h0_5 : (List Int)) (h1_1 h1_2 h1_3 h1_4 h1_5 h1_6 h2_1 h2_3 : Int) (h2_4 : Bool) (h2_5 : Int) (h3 : (List Int)) (h4 : (List Int)) (h5 : (List Int)) (h6 : (List (List Int))) : Tw XA :=
 (.bb (f_0 == (1 : Int))
 (.ret ((w64 (h0_2 + n)), (f_2, ([] : List (List Int)))))
 (.dd ((((((List.length h6) + (List.length (f_2 :: ([] : List (List Int))))) * (24 : Nat)) ≤ (140737488355328 : Nat)) ∧ (((List.length h6) + (List.length (f_2 :: ([] : List (List Int))))) ≤ (140737488355328 : Nat)))) inferInstance
 (.ret ((w64 (h0_2 + n)), (h0_5, (h6 ++ (f_2 :: ([] : List (List Int)))))))
 .no))
def c (f_0 f_1 : Int) (f_2 : (List Int)) (n h0_1 h0_2 : Int) (h0_3 : Bool) (h0_4 : Int) (h0_5 : (List Int)) (h1_1 h1_2 h1_3 h1_4 h1_5 h1_6 h2_1 h2_3 : Int) (h2_4 : Bool) (h2_5 : Int) (h3 : (List Int)) (h4 : (List Int)) (h5 : (List Int)) (h6 : (List (List Int))) : Option XA := (t f_0 f_1 f_2 n h0_1 h0_2 h0_3 h0_4 h0_5 h1_1 h1_2 h1_3 h1_4 h1_5 h1_6 h2_1 h2_3 h2_4 h2_5 h3 h4 h5 h6).run
def tl (l : TA) : Tw XA := t l.1.2.1.1 l.1.2.1.2.1 l.1.2.1.2.2.1 l.1.2.2.1 l.2.1.2.1 l.2.1.2.2.1 l.2.1.2.2.2.1 (d4 l.2.1).1 (d4 l.2.1).2.1 l.2.2.1.2.1 l.2.2.1.2.2.1 l.2.2.1.2.2.2.1 (d4 l.2.2.1).1 (d4 l.2.2.1).2.1 (d4 l.2.2.1).2.2.1 l.2.2.2.1.2.1 l.2.2.2.1.2.2.2.1 (d4 l.2.2.2.1).1 (d4 l.2.2.2.1).2.1 (d4 l).1 (d4 l).2.1 (d4 l).2.2.1 (d4 l).2.2.2.1
def pA : Pt := (.cs (.ptr 0 0) (.cs (.agg (jC (jC (.cs (.sl 3) .nl)))) (jC .nl)))
def pH : Pt := (.cs (.var (.cs (.ptr 1 0) (jC (jC (.cs .bool (jC (.cs (.sl 3) (.cs (.own 6) .nl)))))))) (.cs (.var (.cs (.ptr 2 0) (jC (jC (jC (jC (jC (jC .nl)))))))) (.cs (.var (.cs (.own 3) (jC (.cs (.own 4) (jC (.cs .bool (jC (.cs (.own 5) .nl)))))))) (.cs (.row 3 true) (.cs (.row 1 true) (.cs (.row 3 true) (.cs (.row 12 true) .nl)))))))
def v (l : TA) (y : XA) : AV U := .tup []
def hh (l : TA) (y : XA) : Hp U := [.var [.ptr 1 0, jI l.2.1.2.1, jI y.1, jB l.2.1.2.2.2.1, jI l.1.2.1.2.1, .im (.slice 3 y.2.1), .own 7], .var [.ptr 2 0, jI l.2.2.1.2.1, jI l.2.2.1.2.2.1, jI l.2.2.1.2.2.2.1, jI (d4 l.2.2.1).1, jI (d4 l.2.2.1).2.1, jI (d4 l.2.2.1).2.2.1], .var [.own 3, jI l.2.2.2.1.2.1, .own 4, jI l.2.2.2.1.2.2.2.1, jB (d4 l.2.2.2.1).1, jI (d4 l.2.2.2.1).2.1, .own 5], .row 3 (d4 l).1 true, .row 1 (d4 l).2.1 true, .row 3 (d4 l).2.2.1 true, .dead, .row 12 y.2.2 true]
def A : AFun U := mkA pA pH (X := XA) (fun l => (tl l).run) sp1 v hh
def body := bodyOf Try.f61
def Γ : List (FuncId × AFun U) := []
def Λ : List (Nat × LFun U) := []
def CT : List (Nat × LFun U) := []
def ro : List FuncId := []
def D : Nat → Lv × Lv := dtab []
def E : Env U := { E0 with Γ := Γ, Λ := Λ, C := CT, D := D, ro := ro, pre := [(0, [.to 6], .mv 12)], kill := [6], tr := false }
theorem hk : HK E Try.f61 [] pA pH tl v hh := fun _ _ _ => by kernel_rfl
theorem okF : SoundF Try.prog cc 61 (funcA E Try.f61 []) :=
  funcA_ok (E := E) P_mixed ((E0_ok.with Γ Λ CT D ro).pre [(0, [.to 6], .mv 12)] [6] false) (gam_of all_nil all_nil) Try.func61 (c := body) (by kernel_rfl)
    (just_by (by kernel_rfl) (by kernel_rfl) all_nil all_nil) []
theorem ok : SoundF Try.prog cc 61 A :=
  mkA_ok (E := E) (p := pA) (q := pH) (t := tl) sp1_ok hk okF
theorem fo : FnOK Try.prog 61 := ⟨Try.f61, Try.func61, by kernel_rfl, by kernel_rfl⟩
end journal_Journal_said_v2

/-! (*instar/journal.Journal).over -/
namespace journal_Journal_over_v2
abbrev TA : Type := ((Unit × ((List Int) × (Int × Unit))) × ((Unit × (Int × (Int × (Bool × (Int × ((List Int) × (Unit × Unit))))))) × ((Unit × (Int × (Int × (Int × (Int × (Int × (Int × Unit))))))) × ((Unit × (Int × (Unit × (Int × (Bool × (Int × (Unit × Unit))))))) × ((List Int) × ((List Int) × ((List Int) × ((List (List Int)) × Unit))))))))
abbrev XA : Type := (Int × (Int × (Int × (Bool × (Int × ((List Int) × (Int × (Bool × (Int × ((List Int) × ((List Int) × (List (List Int)))))))))))))
def t (whole : (List Int)) (seq h0_1 h0_2 : Int) (h0_3 : Bool) (h0_4 : Int) (h0_5 : (List Int)) (h1_1 h1_2 h1_3 h1_4 h1_5 h1_6 h2_1 h2_3 : Int) (h2_4 : Bool) (h2_5 : Int) (h3 : (List Int)) (h4 : (List Int)) (h5 : (List Int)) (h6 : (List (List Int))) : Tw XA :=
 (.opt (slices_Clone__uint32uint32.c whole) fun z1 =>
 (.opt (frame_Lay.c (1 : Int) seq z1) fun z2 =>
 (.bb (z2.1 != (0 : Int))
 (.ret (z2.1, (h0_1, (h0_2, (h0_3, (h0_4, (h0_5, (h2_3, (h2_4, (h2_5, (h3, (h4, h6))))))))))))
 (.opt (drive_Drive_Fresh.c (w64 ((1 : Int) - h0_1)) z2.2 h1_1 h1_2 h1_3 h1_4 h1_5 h1_6 h2_1 h2_3 h2_4 h2_5 h3 h4 h5) fun z3 =>
 (.bb (z3.1 != (0 : Int))
 (.ret (z3.1, (h0_1, (h0_2, (h0_3, (h0_4, (h0_5, (z3.2.1, (z3.2.2.1, (z3.2.2.2.1, ((d4 z3).1, ((d4 z3).2, h6))))))))))))
 (.opt (journal_Journal_said_v2.c (1 : Int) seq z1 (((List.length z2.2) : Nat) : Int) (w64 ((1 : Int) - h0_1)) (0 : Int) false h0_4 h0_5 h1_1 h1_2 h1_3 h1_4 h1_5 h1_6 h2_1 z3.2.1 z3.2.2.1 z3.2.2.2.1 (d4 z3).1 (d4 z3).2 h5 h6) fun z4 =>
 (.ret ((0 : Int), ((w64 ((1 : Int) - h0_1)), (z4.1, (false, (seq, (z4.2.1, (z3.2.1, (z3.2.2.1, (z3.2.2.2.1, ((d4 z3).1, ((d4 z3).2, z4.2.2))))))))))))))))))
def c (whole : (List Int)) (seq h0_1 h0_2 : Int) (h0_3 : Bool) (h0_4 : Int) (h0_5 : (List Int)) (h1_1 h1_2 h1_3 h1_4 h1_5 h1_6 h2_1 h2_3 : Int) (h2_4 : Bool) (h2_5 : Int) (h3 : (List Int)) (h4 : (List Int)) (h5 : (List Int)) (h6 : (List (List Int))) : Option XA := (t whole seq h0_1 h0_2 h0_3 h0_4 h0_5 h1_1 h1_2 h1_3 h1_4 h1_5 h1_6 h2_1 h2_3 h2_4 h2_5 h3 h4 h5 h6).run
def tl (l : TA) : Tw XA := t l.1.2.1 l.1.2.2.1 l.2.1.2.1 l.2.1.2.2.1 l.2.1.2.2.2.1 (d4 l.2.1).1 (d4 l.2.1).2.1 l.2.2.1.2.1 l.2.2.1.2.2.1 l.2.2.1.2.2.2.1 (d4 l.2.2.1).1 (d4 l.2.2.1).2.1 (d4 l.2.2.1).2.2.1 l.2.2.2.1.2.1 l.2.2.2.1.2.2.2.1 (d4 l.2.2.2.1).1 (d4 l.2.2.2.1).2.1 (d4 l).1 (d4 l).2.1 (d4 l).2.2.1 (d4 l).2.2.2.1
def pA : Pt := (.cs (.ptr 0 0) (.cs (.sl 3) (jC .nl)))
def pH : Pt := (.cs (.var (.cs (.ptr 1 0) (jC (jC (.cs .bool (jC (.cs (.sl 3) (.cs (.own 6) .nl)))))))) (.cs (.var (.cs (.ptr 2 0) (jC (jC (jC (jC (jC (jC .nl)))))))) (.cs (.var (.cs (.own 3) (jC (.cs (.own 4) (jC (.cs .bool (jC (.cs (.own 5) .nl)))))))) (.cs (.row 3 true) (.cs (.row 1 true) (.cs (.row 3 true) (.cs (.row 12 true) .nl)))))))
def v (l : TA) (y : XA) : AV U := jI y.1
def hh (l : TA) (y : XA) : Hp U := [.var [.ptr 1 0, jI y.2.1, jI y.2.2.1, jB y.2.2.2.1, jI (d4 y).1, .im (.slice 3 (d4 y).2.1), .own 7], .var [.ptr 2 0, jI l.2.2.1.2.1, jI l.2.2.1.2.2.1, jI l.2.2.1.2.2.2.1, jI (d4 l.2.2.1).1, jI (d4 l.2.2.1).2.1, jI (d4 l.2.2.1).2.2.1], .var [.own 3, jI l.2.2.2.1.2.1, .own 4, jI (d4 y).2.2.1, jB (d4 y).2.2.2.1, jI (d8 y).1, .own 5], .row 3 (d8 y).2.1 true, .row 1 (d8 y).2.2.1 true, .row 3 (d4 l).2.2.1 true, .dead, .row 12 (d8 y).2.2.2 true]
def A : AFun U := mkA pA pH (X := XA) (fun l => (tl l).run) sp1 v hh
def body := bodyOf Try.f36
def Γ : List (FuncId × AFun U) := [(32, slices_Clone__uint32uint32.A), (59, frame_Lay.A), (62, drive_Drive_Fresh.A), (61, journal_Journal_said_v2.A)]
def Λ : List (Nat × LFun U) := []
def CT : List (Nat × LFun U) := []
def ro : List FuncId := []
def D : Nat → Lv × Lv := dtab []
def E : Env U := { E0 with Γ := Γ, Λ := Λ, C := CT, D := D, ro := ro, pre := [(0, [.to 6], .mv 12)], kill := [6], tr := false }
theorem hk : HK E Try.f36 [] pA pH tl v hh := fun _ _ _ => by kernel_rfl
theorem okF : SoundF Try.prog cc 36 (funcA E Try.f36 []) :=
  funcA_ok (E := E) P_mixed ((E0_ok.with Γ Λ CT D ro).pre [(0, [.to 6], .mv 12)] [6] false) (gam_of (all_cons ⟨slices_Clone__uint32uint32.ok, slices_Clone__uint32uint32.fo⟩ (all_cons frame_Lay.og (all_cons drive_Drive_Fresh.og (all_cons ⟨journal_Journal_said_v2.ok, journal_Journal_said_v2.fo⟩ all_nil)))) no_ro) Try.func36 (c := body) (by kernel_rfl)
    (just_by (by kernel_rfl) (by kernel_rfl) all_nil all_nil) []
theorem ok : SoundF Try.prog cc 36 A :=
  mkA_ok (E := E) (p := pA) (q := pH) (t := tl) sp1_ok hk okF
theorem fo : FnOK Try.prog 36 := ⟨Try.f36, Try.func36, by kernel_rfl, by kernel_rfl⟩
end journal_Journal_over_v2

/-! (*instar/journal.Journal).put -/
namespace journal_Journal_put
abbrev TA : Type := ((Unit × (Int × ((List Int) × ((List Int) × Unit)))) × ((Unit × (Int × (Int × (Bool × (Int × ((List Int) × (Unit × Unit))))))) × ((Unit × (Int × (Int × (Int × (Int × (Int × (Int × Unit))))))) × ((Unit × (Int × (Unit × (Int × (Bool × (Int × (Unit × Unit))))))) × ((List Int) × ((List Int) × ((List Int) × ((List (List Int)) × Unit))))))))
abbrev XA : Type := (Int × (Int × (Int × (Bool × (Int × ((List Int) × (Int × (Bool × (Int × ((List Int) × ((List Int) × (List (List Int)))))))))))))
def t (kind : Int) (load : (List Int)) (whole : (List Int)) (h0_1 h0_2 : Int) (h0_3 : Bool) (h0_4 : Int) (h0_5 : (List Int)) (h1_1 h1_2 h1_3 h1_4 h1_5 h1_6 h2_1 h2_3 : Int) (h2_4 : Bool) (h2_5 : Int) (h3 : (List Int)) (h4 : (List Int)) (h5 : (List Int)) (h6 : (List (List Int))) : Tw XA :=
 (.opt (journal_may.c (load :: (whole :: ([] : List (List Int))))) fun z1 =>
 (.bb (!z1)
 (.ret ((2 : Int), (h0_1, (h0_2, (h0_3, (h0_4, (h0_5, (h2_3, (h2_4, (h2_5, (h3, (h4, h6))))))))))))
 (.opt (drive_Drive_Geometry.c h1_1 h1_2 h1_3 h1_4 h1_5 h1_6 h2_1 h2_3 h2_4 h2_5 h3 h4 h5) fun z2 =>
 (.bb (decide (h0_4 ≥ h1_6))
 (.ret ((13 : Int), (h0_1, (h0_2, (h0_3, (h0_4, (h0_5, (h2_3, (h2_4, (h2_5, (h3, (h4, h6))))))))))))
 (.bb h0_3
 (.opt (journal_Journal_over_v2.c whole (w64 (h0_4 + (1 : Int))) h0_1 h0_2 h0_3 h0_4 h0_5 h1_1 h1_2 h1_3 h1_4 h1_5 h1_6 h2_1 h2_3 h2_4 h2_5 h3 h4 h5 h6) fun z10 =>
 (.ret (z10.1, (z10.2.1, (z10.2.2.1, (z10.2.2.2.1, ((d4 z10).1, ((d4 z10).2.1, ((d4 z10).2.2.1, ((d4 z10).2.2.2.1, ((d8 z10).1, ((d8 z10).2.1, ((d8 z10).2.2.1, (d8 z10).2.2.2)))))))))))))
 (.opt (frame_Size.c (((List.length load) : Nat) : Int)) fun z3 =>
 (.opt (drive_Drive_Geometry.c h1_1 h1_2 h1_3 h1_4 h1_5 h1_6 h2_1 h2_3 h2_4 h2_5 h3 h4 h5) fun z4 =>
 (.bb (decide ((w64 (h0_2 + z3)) > h1_1))
 (.opt (journal_Journal_over_v2.c whole (w64 (h0_4 + (1 : Int))) h0_1 h0_2 h0_3 h0_4 h0_5 h1_1 h1_2 h1_3 h1_4 h1_5 h1_6 h2_1 h2_3 h2_4 h2_5 h3 h4 h5 h6) fun z9 =>
 (.ret (z9.1, (z9.2.1, (z9.2.2.1, (z9.2.2.2.1, ((d4 z9).1, ((d4 z9).2.1, ((d4 z9).2.2.1, ((d4 z9).2.2.2.1, ((d8 z9).1, ((d8 z9).2.1, ((d8 z9).2.2.1, (d8 z9).2.2.2)))))))))))))
 (.opt (slices_Clone__uint32uint32.c load) fun z5 =>
 (.opt (frame_Lay.c kind (w64 (h0_4 + (1 : Int))) z5) fun z6 =>
 (.bb (z6.1 != (0 : Int))
 (.ret (z6.1, (h0_1, (h0_2, (h0_3, (h0_4, (h0_5, (h2_3, (h2_4, (h2_5, (h3, (h4, h6))))))))))))
 (.opt (drive_Drive_Write.c h0_1 h0_2 z6.2 h1_1 h1_2 h1_3 h1_4 h1_5 h1_6 h2_1 h2_3 h2_4 h2_5 h3 h4 h5) fun z7 =>
 (.bb (z7.1 != (0 : Int))
 (.ret (z7.1, (h0_1, (h0_2, (h0_3, (h0_4, (h0_5, (z7.2.1, (z7.2.2.1, (z7.2.2.2.1, ((d4 z7), (h4, h6))))))))))))
 (.opt (journal_Journal_said_v2.c kind (w64 (h0_4 + (1 : Int))) z5 (((List.length z6.2) : Nat) : Int) h0_1 h0_2 h0_3 h0_4 h0_5 h1_1 h1_2 h1_3 h1_4 h1_5 h1_6 h2_1 z7.2.1 z7.2.2.1 z7.2.2.2.1 (d4 z7) h4 h5 h6) fun z8 =>
 (.ret ((0 : Int), (h0_1, (z8.1, (h0_3, ((w64 (h0_4 + (1 : Int))), (z8.2.1, (z7.2.1, (z7.2.2.1, (z7.2.2.2.1, ((d4 z7), (h4, z8.2.2))))))))))))))))))))))))))
def c (kind : Int) (load : (List Int)) (whole : (List Int)) (h0_1 h0_2 : Int) (h0_3 : Bool) (h0_4 : Int) (h0_5 : (List Int)) (h1_1 h1_2 h1_3 h1_4 h1_5 h1_6 h2_1 h2_3 : Int) (h2_4 : Bool) (h2_5 : Int) (h3 : (List Int)) (h4 : (List Int)) (h5 : (List Int)) (h6 : (List (List Int))) : Option XA := (t kind load whole h0_1 h0_2 h0_3 h0_4 h0_5 h1_1 h1_2 h1_3 h1_4 h1_5 h1_6 h2_1 h2_3 h2_4 h2_5 h3 h4 h5 h6).run
def tl (l : TA) : Tw XA := t l.1.2.1 l.1.2.2.1 l.1.2.2.2.1 l.2.1.2.1 l.2.1.2.2.1 l.2.1.2.2.2.1 (d4 l.2.1).1 (d4 l.2.1).2.1 l.2.2.1.2.1 l.2.2.1.2.2.1 l.2.2.1.2.2.2.1 (d4 l.2.2.1).1 (d4 l.2.2.1).2.1 (d4 l.2.2.1).2.2.1 l.2.2.2.1.2.1 l.2.2.2.1.2.2.2.1 (d4 l.2.2.2.1).1 (d4 l.2.2.2.1).2.1 (d4 l).1 (d4 l).2.1 (d4 l).2.2.1 (d4 l).2.2.2.1
def pA : Pt := (.cs (.ptr 0 0) (jC (.cs (.sl 3) (.cs (.sl 3) .nl))))
def pH : Pt := (.cs (.var (.cs (.ptr 1 0) (jC (jC (.cs .bool (jC (.cs (.sl 3) (.cs (.own 6) .nl)))))))) (.cs (.var (.cs (.ptr 2 0) (jC (jC (jC (jC (jC (jC .nl)))))))) (.cs (.var (.cs (.own 3) (jC (.cs (.own 4) (jC (.cs .bool (jC (.cs (.own 5) .nl)))))))) (.cs (.row 3 true) (.cs (.row 1 true) (.cs (.row 3 true) (.cs (.row 12 true) .nl)))))))
def v (l : TA) (y : XA) : AV U := jI y.1
def hh (l : TA) (y : XA) : Hp U := [.var [.ptr 1 0, jI y.2.1, jI y.2.2.1, jB y.2.2.2.1, jI (d4 y).1, .im (.slice 3 (d4 y).2.1), .own 7], .var [.ptr 2 0, jI l.2.2.1.2.1, jI l.2.2.1.2.2.1, jI l.2.2.1.2.2.2.1, jI (d4 l.2.2.1).1, jI (d4 l.2.2.1).2.1, jI (d4 l.2.2.1).2.2.1], .var [.own 3, jI l.2.2.2.1.2.1, .own 4, jI (d4 y).2.2.1, jB (d4 y).2.2.2.1, jI (d8 y).1, .own 5], .row 3 (d8 y).2.1 true, .row 1 (d8 y).2.2.1 true, .row 3 (d4 l).2.2.1 true, .dead, .row 12 (d8 y).2.2.2 true]
def A : AFun U := mkA pA pH (X := XA) (fun l => (tl l).run) sp1 v hh
def body := bodyOf Try.f33
def Γ : List (FuncId × AFun U) := [(34, journal_may.A), (35, drive_Drive_Geometry.A), (58, frame_Size.A), (32, slices_Clone__uint32uint32.A), (59, frame_Lay.A), (60, drive_Drive_Write.A), (61, journal_Journal_said_v2.A), (36, journal_Journal_over_v2.A)]
def Λ : List (Nat × LFun U) := []
def CT : List (Nat × LFun U) := []
def ro : List FuncId := [35]
def D : Nat → Lv × Lv := dtab []
def E : Env U := { E0 with Γ := Γ, Λ := Λ, C := CT, D := D, ro := ro, pre := [(0, [.to 6], .mv 12)], kill := [6], tr := false }
theorem hk : HK E Try.f33 [] pA pH tl v hh := fun _ _ _ => by kernel_rfl
theorem okF : SoundF Try.prog cc 33 (funcA E Try.f33 []) :=
  funcA_ok (E := E) P_mixed ((E0_ok.with Γ Λ CT D ro).pre [(0, [.to 6], .mv 12)] [6] false) (gam_of (all_cons journal_may.og (all_cons drive_Drive_Geometry.og (all_cons frame_Size.og (all_cons ⟨slices_Clone__uint32uint32.ok, slices_Clone__uint32uint32.fo⟩ (all_cons frame_Lay.og (all_cons drive_Drive_Write.og (all_cons ⟨journal_Journal_said_v2.ok, journal_Journal_said_v2.fo⟩ (all_cons ⟨journal_Journal_over_v2.ok, journal_Journal_over_v2.fo⟩ all_nil)))))))) (all_cons (no_keep (by kernel_rfl)) (all_cons (fun _ => drive_Drive_Geometry.keep) (all_cons (no_keep (by kernel_rfl)) (all_cons (no_keep (by kernel_rfl)) (all_cons (no_keep (by kernel_rfl)) (all_cons (no_keep (by kernel_rfl)) (all_cons (no_keep (by kernel_rfl)) (all_cons (no_keep (by kernel_rfl)) all_nil))))))))) Try.func33 (c := body) (by kernel_rfl)
    (just_by (by kernel_rfl) (by kernel_rfl) all_nil all_nil) []
theorem ok : SoundF Try.prog cc 33 A :=
  mkA_ok (E := E) (p := pA) (q := pH) (t := tl) sp1_ok hk okF
theorem fo : FnOK Try.prog 33 := ⟨Try.f33, Try.func33, by kernel_rfl, by kernel_rfl⟩
end journal_Journal_put

/-! (*instar/journal.Journal).Change -/
namespace journal_Journal_Change
abbrev TA : Type := ((Unit × ((List Int) × ((List Int) × Unit))) × ((Unit × (Int × (Int × (Bool × (Int × ((List Int) × (Unit × Unit))))))) × ((Unit × (Int × (Int × (Int × (Int × (Int × (Int × Unit))))))) × ((Unit × (Int × (Unit × (Int × (Bool × (Int × (Unit × Unit))))))) × ((List Int) × ((List Int) × ((List Int) × ((List (List Int)) × Unit))))))))
abbrev XA : Type := (Int × (Int × (Int × (Bool × (Int × ((List Int) × (Int × (Bool × (Int × ((List Int) × ((List Int) × (List (List Int)))))))))))))
def t (load : (List Int)) (whole : (List Int)) (h0_1 h0_2 : Int) (h0_3 : Bool) (h0_4 : Int) (h0_5 : (List Int)) (h1_1 h1_2 h1_3 h1_4 h1_5 h1_6 h2_1 h2_3 : Int) (h2_4 : Bool) (h2_5 : Int) (h3 : (List Int)) (h4 : (List Int)) (h5 : (List Int)) (h6 : (List (List Int))) : Tw XA :=
 (.opt (journal_Journal_put.c (2 : Int) load whole h0_1 h0_2 h0_3 h0_4 h0_5 h1_1 h1_2 h1_3 h1_4 h1_5 h1_6 h2_1 h2_3 h2_4 h2_5 h3 h4 h5 h6) fun z1 =>
 (.ret (z1.1, (z1.2.1, (z1.2.2.1, (z1.2.2.2.1, ((d4 z1).1, ((d4 z1).2.1, ((d4 z1).2.2.1, ((d4 z1).2.2.2.1, ((d8 z1).1, ((d8 z1).2.1, ((d8 z1).2.2.1, (d8 z1).2.2.2)))))))))))))
def c (load : (List Int)) (whole : (List Int)) (h0_1 h0_2 : Int) (h0_3 : Bool) (h0_4 : Int) (h0_5 : (List Int)) (h1_1 h1_2 h1_3 h1_4 h1_5 h1_6 h2_1 h2_3 : Int) (h2_4 : Bool) (h2_5 : Int) (h3 : (List Int)) (h4 : (List Int)) (h5 : (List Int)) (h6 : (List (List Int))) : Option XA := (t load whole h0_1 h0_2 h0_3 h0_4 h0_5 h1_1 h1_2 h1_3 h1_4 h1_5 h1_6 h2_1 h2_3 h2_4 h2_5 h3 h4 h5 h6).run
def tl (l : TA) : Tw XA := t l.1.2.1 l.1.2.2.1 l.2.1.2.1 l.2.1.2.2.1 l.2.1.2.2.2.1 (d4 l.2.1).1 (d4 l.2.1).2.1 l.2.2.1.2.1 l.2.2.1.2.2.1 l.2.2.1.2.2.2.1 (d4 l.2.2.1).1 (d4 l.2.2.1).2.1 (d4 l.2.2.1).2.2.1 l.2.2.2.1.2.1 l.2.2.2.1.2.2.2.1 (d4 l.2.2.2.1).1 (d4 l.2.2.2.1).2.1 (d4 l).1 (d4 l).2.1 (d4 l).2.2.1 (d4 l).2.2.2.1
def pA : Pt := (.cs (.ptr 0 0) (.cs (.sl 3) (.cs (.sl 3) .nl)))
def pH : Pt := (.cs (.var (.cs (.ptr 1 0) (jC (jC (.cs .bool (jC (.cs (.sl 3) (.cs (.own 6) .nl)))))))) (.cs (.var (.cs (.ptr 2 0) (jC (jC (jC (jC (jC (jC .nl)))))))) (.cs (.var (.cs (.own 3) (jC (.cs (.own 4) (jC (.cs .bool (jC (.cs (.own 5) .nl)))))))) (.cs (.row 3 true) (.cs (.row 1 true) (.cs (.row 3 true) (.cs (.row 12 true) .nl)))))))
def v (l : TA) (y : XA) : AV U := jI y.1
def hh (l : TA) (y : XA) : Hp U := [.var [.ptr 1 0, jI y.2.1, jI y.2.2.1, jB y.2.2.2.1, jI (d4 y).1, .im (.slice 3 (d4 y).2.1), .own 7], .var [.ptr 2 0, jI l.2.2.1.2.1, jI l.2.2.1.2.2.1, jI l.2.2.1.2.2.2.1, jI (d4 l.2.2.1).1, jI (d4 l.2.2.1).2.1, jI (d4 l.2.2.1).2.2.1], .var [.own 3, jI l.2.2.2.1.2.1, .own 4, jI (d4 y).2.2.1, jB (d4 y).2.2.2.1, jI (d8 y).1, .own 5], .row 3 (d8 y).2.1 true, .row 1 (d8 y).2.2.1 true, .row 3 (d4 l).2.2.1 true, .dead, .row 12 (d8 y).2.2.2 true]
def A : AFun U := mkA pA pH (X := XA) (fun l => (tl l).run) sp1 v hh
def body := bodyOf Try.f13
def E : Env U := E0.mk5 [(33, journal_Journal_put.A)] [] [] [] []
theorem hk : HK E Try.f13 [] pA pH tl v hh := fun _ _ _ => by kernel_rfl
theorem og : SoundF Try.prog cc 13 A ∧ FnOK Try.prog 13 :=
 og_of (E := E) P_mixed (E0_ok.mk5 _ _ _ _ _) (gam_of (all_cons ⟨journal_Journal_put.ok, journal_Journal_put.fo⟩ all_nil) no_ro) Try.func13 (c := body) (by kernel_rfl)
    (just_by (by kernel_rfl) (by kernel_rfl) all_nil all_nil) [] sp1_ok hk (by kernel_rfl)
end journal_Journal_Change

/-! (*instar/journal.Journal).Whole -/
namespace journal_Journal_Whole
abbrev TA : Type := ((Unit × Unit) × ((Unit × (Int × (Int × (Bool × (Int × ((List Int) × (Unit × Unit))))))) × ((Unit × (Int × (Int × (Int × (Int × (Int × (Int × Unit))))))) × ((Unit × (Int × (Unit × (Int × (Bool × (Int × (Unit × Unit))))))) × ((List Int) × ((List Int) × ((List Int) × ((List (List Int)) × Unit))))))))
def t (h0_1 h0_2 : Int) (h0_3 : Bool) (h0_4 : Int) (h0_5 : (List Int)) (h1_1 h1_2 h1_3 h1_4 h1_5 h1_6 h2_1 h2_3 : Int) (h2_4 : Bool) (h2_5 : Int) (h3 : (List Int)) (h4 : (List Int)) (h5 : (List Int)) (h6 : (List (List Int))) : Tw (List Int) :=
 (.opt (slices_Clone__uint32uint32.c h0_5) fun z1 =>
 (.ret z1))
def c (h0_1 h0_2 : Int) (h0_3 : Bool) (h0_4 : Int) (h0_5 : (List Int)) (h1_1 h1_2 h1_3 h1_4 h1_5 h1_6 h2_1 h2_3 : Int) (h2_4 : Bool) (h2_5 : Int) (h3 : (List Int)) (h4 : (List Int)) (h5 : (List Int)) (h6 : (List (List Int))) : Option (List Int) := (t h0_1 h0_2 h0_3 h0_4 h0_5 h1_1 h1_2 h1_3 h1_4 h1_5 h1_6 h2_1 h2_3 h2_4 h2_5 h3 h4 h5 h6).run
def tl (l : TA) : Tw (List Int) := t l.2.1.2.1 l.2.1.2.2.1 l.2.1.2.2.2.1 (d4 l.2.1).1 (d4 l.2.1).2.1 l.2.2.1.2.1 l.2.2.1.2.2.1 l.2.2.1.2.2.2.1 (d4 l.2.2.1).1 (d4 l.2.2.1).2.1 (d4 l.2.2.1).2.2.1 l.2.2.2.1.2.1 l.2.2.2.1.2.2.2.1 (d4 l.2.2.2.1).1 (d4 l.2.2.2.1).2.1 (d4 l).1 (d4 l).2.1 (d4 l).2.2.1 (d4 l).2.2.2.1
def pA : Pt := (.cs (.ptr 0 0) .nl)
def pH : Pt := (.cs (.var (.cs (.ptr 1 0) (jC (jC (.cs .bool (jC (.cs (.sl 3) (.cs (.own 6) .nl)))))))) (.cs (.var (.cs (.ptr 2 0) (jC (jC (jC (jC (jC (jC .nl)))))))) (.cs (.var (.cs (.own 3) (jC (.cs (.own 4) (jC (.cs .bool (jC (.cs (.own 5) .nl)))))))) (.cs (.row 3 true) (.cs (.row 1 true) (.cs (.row 3 true) (.cs (.row 12 true) .nl)))))))
def v (l : TA) (y : (List Int)) : AV U := .own 7
def hh (l : TA) (y : (List Int)) : Hp U := [.var [.ptr 1 0, jI l.2.1.2.1, jI l.2.1.2.2.1, jB l.2.1.2.2.2.1, jI (d4 l.2.1).1, .im (.slice 3 (d4 l.2.1).2.1), .own 6], .var [.ptr 2 0, jI l.2.2.1.2.1, jI l.2.2.1.2.2.1, jI l.2.2.1.2.2.2.1, jI (d4 l.2.2.1).1, jI (d4 l.2.2.1).2.1, jI (d4 l.2.2.1).2.2.1], .var [.own 3, jI l.2.2.2.1.2.1, .own 4, jI l.2.2.2.1.2.2.2.1, jB (d4 l.2.2.2.1).1, jI (d4 l.2.2.2.1).2.1, .own 5], .row 3 (d4 l).1 true, .row 1 (d4 l).2.1 true, .row 3 (d4 l).2.2.1 true, .row 12 (d4 l).2.2.2.1 true, .row 3 y true]
def A : AFun U := mkA pA pH (X := (List Int)) (fun l => (tl l).run) sp1 v hh
def body := bodyOf Try.f10
def E : Env U := E0.mk5 [(32, slices_Clone__uint32uint32.A)] [] [] [] []
theorem hk : HK E Try.f10 [] pA pH tl v hh := fun _ _ _ => by kernel_rfl
theorem og : SoundF Try.prog cc 10 A ∧ FnOK Try.prog 10 :=
 og_of (E := E) P_mixed (E0_ok.mk5 _ _ _ _ _) (gam_of (all_cons ⟨slices_Clone__uint32uint32.ok, slices_Clone__uint32uint32.fo⟩ all_nil) no_ro) Try.func10 (c := body) (by kernel_rfl)
    (just_by (by kernel_rfl) (by kernel_rfl) all_nil all_nil) [] sp1_ok hk (by kernel_rfl)
theorem keep : KeepA A := mkA_keep sp1_ok (fun (l : TA) y => ⟨(hh l y).drop 7, by kernel_rfl⟩)
end journal_Journal_Whole

/-! (*instar/journal.Journal).Changes -/
namespace journal_Journal_Changes
abbrev TA : Type := ((Unit × Unit) × ((Unit × (Int × (Int × (Bool × (Int × ((List Int) × (Unit × Unit))))))) × ((Unit × (Int × (Int × (Int × (Int × (Int × (Int × Unit))))))) × ((Unit × (Int × (Unit × (Int × (Bool × (Int × (Unit × Unit))))))) × ((List Int) × ((List Int) × ((List Int) × ((List (List Int)) × Unit))))))))
abbrev T5 : Type := ((Unit × (Unit × (Unit × (Unit × (Unit × (Int × (Int × (Unit × Unit)))))))) × ((Unit × (Int × (Int × (Bool × (Int × ((List Int) × (Unit × Unit))))))) × ((Unit × (Int × (Int × (Int × (Int × (Int × (Int × Unit))))))) × ((Unit × (Int × (Unit × (Int × (Bool × (Int × (Unit × Unit))))))) × ((List Int) × ((List Int) × ((List Int) × ((List (List Int)) × ((List (List Int)) × Unit)))))))))
abbrev S5 : Type := (Int × (List (List Int)))
def l5 (k12 h0_1 h0_2 : Int) (h0_3 : Bool) (h0_4 : Int) (h0_5 : (List Int)) (h1_1 h1_2 h1_3 h1_4 h1_5 h1_6 h2_1 h2_3 : Int) (h2_4 : Bool) (h2_5 : Int) (h3 : (List Int)) (h4 : (List Int)) (h5 : (List Int)) (h6 : (List (List Int))) (k13 : Int) (h7 : (List (List Int))) : Tw (S5 ⊕ (List (List Int))) :=
 (.bb (decide (k13 < k12))
 (.dd ((((0 : Int) ≤ k13) ∧ (k13 < (((List.length h6) : Nat) : Int)))) inferInstance
 (.opt (h6)[(Int.toNat k13)]? fun z1 =>
 (.opt (slices_Clone__uint32uint32.c z1) fun z2 =>
 (.dd ((((((List.length h7) + (List.length (z2 :: ([] : List (List Int))))) * (24 : Nat)) ≤ (140737488355328 : Nat)) ∧ (((List.length h7) + (List.length (z2 :: ([] : List (List Int))))) ≤ (140737488355328 : Nat)))) inferInstance
 (.ret (.inl ((w64 (k13 + (1 : Int))), (h7 ++ (z2 :: ([] : List (List Int)))))))
 .no)))
 .no)
 (.ret (.inr h7)))
def L5 (k12 k13 h0_1 h0_2 : Int) (h0_3 : Bool) (h0_4 : Int) (h0_5 : (List Int)) (h1_1 h1_2 h1_3 h1_4 h1_5 h1_6 h2_1 h2_3 : Int) (h2_4 : Bool) (h2_5 : Int) (h3 : (List Int)) (h4 : (List Int)) (h5 : (List Int)) (h6 : (List (List Int))) (h7 : (List (List Int))) : Option (List (List Int)) := Lp (fun s => (l5 k12 h0_1 h0_2 h0_3 h0_4 h0_5 h1_1 h1_2 h1_3 h1_4 h1_5 h1_6 h2_1 h2_3 h2_4 h2_5 h3 h4 h5 h6 s.1 s.2).run) (k13, h7)
def p5 : Pt := (.cs (.ptr 0 0) (.cs (.bots 2) (.cs (.own 7) (.cs (.bots 7) (.cs (.own 6) (jC (jC (.cs (.bots 10) .nl))))))))
def q5 : Pt := (.cs (.var (.cs (.ptr 1 0) (jC (jC (.cs .bool (jC (.cs (.sl 3) (.cs (.own 6) .nl)))))))) (.cs (.var (.cs (.ptr 2 0) (jC (jC (jC (jC (jC (jC .nl)))))))) (.cs (.var (.cs (.own 3) (jC (.cs (.own 4) (jC (.cs .bool (jC (.cs (.own 5) .nl)))))))) (.cs (.row 3 true) (.cs (.row 1 true) (.cs (.row 3 true) (.cs (.row 12 true) (.cs (.row 12 true) .nl))))))))
def ou5 (l : T5) (y : (List (List Int))) : Ex × St U := (.exit 0, stOf 24 [(0, .ptr 0 0), (3, .own 7)] [.var [.ptr 1 0, jI l.2.1.2.1, jI l.2.1.2.2.1, jB l.2.1.2.2.2.1, jI (d4 l.2.1).1, .im (.slice 3 (d4 l.2.1).2.1), .own 6], .var [.ptr 2 0, jI l.2.2.1.2.1, jI l.2.2.1.2.2.1, jI l.2.2.1.2.2.2.1, jI (d4 l.2.2.1).1, jI (d4 l.2.2.1).2.1, jI (d4 l.2.2.1).2.2.1], .var [.own 3, jI l.2.2.2.1.2.1, .own 4, jI l.2.2.2.1.2.2.2.1, jB (d4 l.2.2.2.1).1, jI (d4 l.2.2.2.1).2.1, .own 5], .row 3 (d4 l).1 true, .row 1 (d4 l).2.1 true, .row 3 (d4 l).2.2.1 true, .row 12 (d4 l).2.2.2.1 true, .row 12 y true] 7)
def Λ5 : LFun U := mkLp p5 q5 7 (X := (List (List Int))) (fun (l : T5) => L5 (d4 l.1).2.1 (d4 l.1).2.2.1 l.2.1.2.1 l.2.1.2.2.1 l.2.1.2.2.2.1 (d4 l.2.1).1 (d4 l.2.1).2.1 l.2.2.1.2.1 l.2.2.1.2.2.1 l.2.2.1.2.2.2.1 (d4 l.2.2.1).1 (d4 l.2.2.1).2.1 (d4 l.2.2.1).2.2.1 l.2.2.2.1.2.1 l.2.2.2.1.2.2.2.1 (d4 l.2.2.2.1).1 (d4 l.2.2.2.1).2.1 (d4 l).1 (d4 l).2.1 (d4 l).2.2.1 (d4 l).2.2.2.1 (d8 l).1) sp1 ou5
def hd5 (l : T5) (s : S5) : T5 := (((), ((), ((), ((), ((), ((d4 l.1).2.1, (s.1, ((), ())))))))), (((), (l.2.1.2.1, (l.2.1.2.2.1, (l.2.1.2.2.2.1, ((d4 l.2.1).1, ((d4 l.2.1).2.1, ((), ()))))))), (((), (l.2.2.1.2.1, (l.2.2.1.2.2.1, (l.2.2.1.2.2.2.1, ((d4 l.2.2.1).1, ((d4 l.2.2.1).2.1, ((d4 l.2.2.1).2.2.1, ()))))))), (((), (l.2.2.2.1.2.1, ((), (l.2.2.2.1.2.2.2.1, ((d4 l.2.2.2.1).1, ((d4 l.2.2.2.1).2.1, ((), ()))))))), ((d4 l).1, ((d4 l).2.1, ((d4 l).2.2.1, ((d4 l).2.2.2.1, (s.2, ())))))))))
def fl5 (l : T5) (s : S5) : Tw (S5 ⊕ (List (List Int))) := l5 (d4 l.1).2.1 l.2.1.2.1 l.2.1.2.2.1 l.2.1.2.2.2.1 (d4 l.2.1).1 (d4 l.2.1).2.1 l.2.2.1.2.1 l.2.2.1.2.2.1 l.2.2.1.2.2.2.1 (d4 l.2.2.1).1 (d4 l.2.2.1).2.1 (d4 l.2.2.1).2.2.1 l.2.2.2.1.2.1 l.2.2.2.1.2.2.2.1 (d4 l.2.2.2.1).1 (d4 l.2.2.2.1).2.1 (d4 l).1 (d4 l).2.1 (d4 l).2.2.1 (d4 l).2.2.2.1 s.1 s.2
def t (h0_1 h0_2 : Int) (h0_3 : Bool) (h0_4 : Int) (h0_5 : (List Int)) (h1_1 h1_2 h1_3 h1_4 h1_5 h1_6 h2_1 h2_3 : Int) (h2_4 : Bool) (h2_5 : Int) (h3 : (List Int)) (h4 : (List Int)) (h5 : (List Int)) (h6 : (List (List Int))) : Tw (List (List Int)) :=
 (.opt (L5 (((List.length h6) : Nat) : Int) (0 : Int) h0_1 h0_2 h0_3 h0_4 h0_5 h1_1 h1_2 h1_3 h1_4 h1_5 h1_6 h2_1 h2_3 h2_4 h2_5 h3 h4 h5 h6 ([] : List (List Int))) fun z3 =>
 (.ret z3))
def c (h0_1 h0_2 : Int) (h0_3 : Bool) (h0_4 : Int) (h0_5 : (List Int)) (h1_1 h1_2 h1_3 h1_4 h1_5 h1_6 h2_1 h2_3 : Int) (h2_4 : Bool) (h2_5 : Int) (h3 : (List Int)) (h4 : (List Int)) (h5 : (List Int)) (h6 : (List (List Int))) : Option (List (List Int)) := (t h0_1 h0_2 h0_3 h0_4 h0_5 h1_1 h1_2 h1_3 h1_4 h1_5 h1_6 h2_1 h2_3 h2_4 h2_5 h3 h4 h5 h6).run
def tl (l : TA) : Tw (List (List Int)) := t l.2.1.2.1 l.2.1.2.2.1 l.2.1.2.2.2.1 (d4 l.2.1).1 (d4 l.2.1).2.1 l.2.2.1.2.1 l.2.2.1.2.2.1 l.2.2.1.2.2.2.1 (d4 l.2.2.1).1 (d4 l.2.2.1).2.1 (d4 l.2.2.1).2.2.1 l.2.2.2.1.2.1 l.2.2.2.1.2.2.2.1 (d4 l.2.2.2.1).1 (d4 l.2.2.2.1).2.1 (d4 l).1 (d4 l).2.1 (d4 l).2.2.1 (d4 l).2.2.2.1
def pA : Pt := (.cs (.ptr 0 0) .nl)
def pH : Pt := (.cs (.var (.cs (.ptr 1 0) (jC (jC (.cs .bool (jC (.cs (.sl 3) (.cs (.own 6) .nl)))))))) (.cs (.var (.cs (.ptr 2 0) (jC (jC (jC (jC (jC (jC .nl)))))))) (.cs (.var (.cs (.own 3) (jC (.cs (.own 4) (jC (.cs .bool (jC (.cs (.own 5) .nl)))))))) (.cs (.row 3 true) (.cs (.row 1 true) (.cs (.row 3 true) (.cs (.row 12 true) .nl)))))))
def v (l : TA) (y : (List (List Int))) : AV U := .own 7
def hh (l : TA) (y : (List (List Int))) : Hp U := [.var [.ptr 1 0, jI l.2.1.2.1, jI l.2.1.2.2.1, jB l.2.1.2.2.2.1, jI (d4 l.2.1).1, .im (.slice 3 (d4 l.2.1).2.1), .own 6], .var [.ptr 2 0, jI l.2.2.1.2.1, jI l.2.2.1.2.2.1, jI l.2.2.1.2.2.2.1, jI (d4 l.2.2.1).1, jI (d4 l.2.2.1).2.1, jI (d4 l.2.2.1).2.2.1], .var [.own 3, jI l.2.2.2.1.2.1, .own 4, jI l.2.2.2.1.2.2.2.1, jB (d4 l.2.2.2.1).1, jI (d4 l.2.2.2.1).2.1, .own 5], .row 3 (d4 l).1 true, .row 1 (d4 l).2.1 true, .row 3 (d4 l).2.2.1 true, .row 12 (d4 l).2.2.2.1 true, .row 12 y true]
def A : AFun U := mkA pA pH (X := (List (List Int))) (fun l => (tl l).run) sp1 v hh
def body := bodyOf Try.f11
def E : Env U := E0.mk5 [(32, slices_Clone__uint32uint32.A)] [(5, Λ5)] [] [(5, ⟨[13, 3, 11, 0, 12], [(3, [], .own 12)]⟩, ⟨[2, 0, 3], []⟩)] []
theorem hf5 : HF E (pick (loopsOf body) 5) p5 q5 7 fl5 hd5 sp1 ou5 := fun _ _ _ _ => by kernel_rfl
theorem lk5 : LK E (pick (loopsOf body) 5) Λ5 := fun R st K r h =>
  lp_ok (E := E) (b := pick (loopsOf body) 5) (m := 7) (sp := sp1) (p := p5) (q := q5) (X := (List (List Int))) (S := S5) (f := fl5) (hd := hd5) (s0 := fun (l : T5) => ((d4 l.1).2.2.1, (d8 l).1)) (ou := ou5)
    (fun l => rfl) (fun l x => by rfl) sp1_ok hf5 h
theorem hk : HK E Try.f11 [] pA pH tl v hh := fun _ _ _ => by kernel_rfl
theorem og : SoundF Try.prog cc 11 A ∧ FnOK Try.prog 11 :=
 og_of (E := E) P_mixed (E0_ok.mk5 _ _ _ _ _) (gam_of (all_cons ⟨slices_Clone__uint32uint32.ok, slices_Clone__uint32uint32.fo⟩ all_nil) no_ro) Try.func11 (c := body) (by kernel_rfl)
    (just_by (by kernel_rfl) (by kernel_rfl) (all_cons lk5 all_nil) all_nil) [] sp1_ok hk (by kernel_rfl)
theorem keep : KeepA A := mkA_keep sp1_ok (fun (l : TA) y => ⟨(hh l y).drop 7, by kernel_rfl⟩)
end journal_Journal_Changes

/-! instar/journal.read -/
namespace journal_read
abbrev TA : Type := ((Unit × (Int × Unit)) × ((Unit × (Int × (Int × (Int × (Int × (Int × (Int × Unit))))))) × ((Unit × (Int × (Unit × (Int × (Bool × (Int × (Unit × Unit))))))) × ((List Int) × ((List Int) × ((List Int) × Unit))))))
abbrev XA : Type := (Int × (Bool × (Int × ((List Int) × (Int × (List (List Int)))))))
abbrev T5 : Type := ((Unit × (Int × (Unit × (Unit × (Unit × (Unit × (Unit × (Unit × Unit)))))))) × ((Unit × (Int × (Int × (Int × (Int × (Int × (Int × Unit))))))) × ((Unit × (Int × (Unit × (Int × (Bool × (Int × (Unit × Unit))))))) × ((List Int) × ((List Int) × ((List Int) × ((Unit × (Int × (Int × (Bool × (Int × (Unit × (Unit × Unit))))))) × ((Unit × (Int × (Int × (Bool × (Int × ((List Int) × (Unit × Unit))))))) × ((List (List Int)) × ((List Int) × Unit))))))))))
abbrev S5 : Type := (Int × (Int × ((List Int) × (List (List Int)))))
abbrev X5 : Type := (Int × (Int × ((List Int) × (List (List Int)))))
def l5 (sector h0_1 h0_2 h0_3 h0_4 h0_5 h0_6 h1_1 h1_3 : Int) (h1_4 : Bool) (h1_5 : Int) (h2 : (List Int)) (h3 : (List Int)) (h4 : (List Int)) (h5_1 h5_2 : Int) (h5_3 : Bool) (h5_4 h6_1 : Int) (h6_3 : Bool) (h8 : (List Int)) (h6_2 h6_4 : Int) (h6_5 : (List Int)) (h7 : (List (List Int))) : Tw (S5 ⊕ X5) :=
 (.dd ((((0 : Int) ≤ h6_2) ∧ (h6_2 ≤ (((List.length h8) : Nat) : Int)))) inferInstance
 (.opt (frame_Read.c (List.take ((List.length h8) - (Int.toNat h6_2)) (List.drop (Int.toNat h6_2) h8))) fun z3 =>
 (.bb (!z3.2.2.2.1)
 (.ret (.inr (h6_2, (h6_4, (h6_5, h7)))))
 (.bb (h6_4 == (0 : Int))
 (.bb (z3.1 != (1 : Int))
 (.ret (.inr (h6_2, (h6_4, (h6_5, h7)))))
 (.bb (decide (h6_4 > (0 : Int)))
 (.bb (z3.2.1 != (w64 (h6_4 + (1 : Int))))
 (.ret (.inr (h6_2, (h6_4, (h6_5, h7)))))
 (.opt (journal_Journal_said_v2.c z3.1 z3.2.1 (d4 z3) z3.2.2.1 h6_1 h6_2 h6_3 h6_4 h6_5 h0_1 h0_2 h0_3 h0_4 h0_5 h0_6 h1_1 h1_3 h1_4 h1_5 h2 h3 h4 h7) fun z7 =>
 (.ret (.inl (z7.1, (z3.2.1, (z7.2.1, z7.2.2)))))))
 (.opt (journal_Journal_said_v2.c z3.1 z3.2.1 (d4 z3) z3.2.2.1 h6_1 h6_2 h6_3 h6_4 h6_5 h0_1 h0_2 h0_3 h0_4 h0_5 h0_6 h1_1 h1_3 h1_4 h1_5 h2 h3 h4 h7) fun z6 =>
 (.ret (.inl (z6.1, (z3.2.1, (z6.2.1, z6.2.2))))))))
 (.bb (decide (h6_4 > (0 : Int)))
 (.bb (z3.2.1 != (w64 (h6_4 + (1 : Int))))
 (.ret (.inr (h6_2, (h6_4, (h6_5, h7)))))
 (.opt (journal_Journal_said_v2.c z3.1 z3.2.1 (d4 z3) z3.2.2.1 h6_1 h6_2 h6_3 h6_4 h6_5 h0_1 h0_2 h0_3 h0_4 h0_5 h0_6 h1_1 h1_3 h1_4 h1_5 h2 h3 h4 h7) fun z5 =>
 (.ret (.inl (z5.1, (z3.2.1, (z5.2.1, z5.2.2)))))))
 (.opt (journal_Journal_said_v2.c z3.1 z3.2.1 (d4 z3) z3.2.2.1 h6_1 h6_2 h6_3 h6_4 h6_5 h0_1 h0_2 h0_3 h0_4 h0_5 h0_6 h1_1 h1_3 h1_4 h1_5 h2 h3 h4 h7) fun z4 =>
 (.ret (.inl (z4.1, (z3.2.1, (z4.2.1, z4.2.2))))))))))
 .no)
def L5 (sector h0_1 h0_2 h0_3 h0_4 h0_5 h0_6 h1_1 h1_3 : Int) (h1_4 : Bool) (h1_5 : Int) (h2 : (List Int)) (h3 : (List Int)) (h4 : (List Int)) (h5_1 h5_2 : Int) (h5_3 : Bool) (h5_4 h6_1 h6_2 : Int) (h6_3 : Bool) (h6_4 : Int) (h6_5 : (List Int)) (h7 : (List (List Int))) (h8 : (List Int)) : Option X5 := Lp (fun s => (l5 sector h0_1 h0_2 h0_3 h0_4 h0_5 h0_6 h1_1 h1_3 h1_4 h1_5 h2 h3 h4 h5_1 h5_2 h5_3 h5_4 h6_1 h6_3 h8 s.1 s.2.1 s.2.2.1 s.2.2.2).run) (h6_2, (h6_4, (h6_5, h7)))
def p5 : Pt := (.cs (.ptr 0 0) (jC (.cs (.bots 2) (.cs (.ptr 5 0) (.cs (.bots 1) (.cs (.ptr 6 0) (.cs (.own 8) (.cs (.bots 71) .nl))))))))
def q5 : Pt := (.cs (.var (.cs (.ptr 1 0) (jC (jC (jC (jC (jC (jC .nl)))))))) (.cs (.var (.cs (.own 2) (jC (.cs (.own 3) (jC (.cs .bool (jC (.cs (.own 4) .nl)))))))) (.cs (.row 3 true) (.cs (.row 1 true) (.cs (.row 3 true) (.cs (.var (.cs .nilp (jC (jC (.cs .bool (jC (.cs .nils (.cs .nils .nl)))))))) (.cs (.var (.cs (.ptr 0 0) (jC (jC (.cs .bool (jC (.cs (.sl 3) (.cs (.own 7) .nl)))))))) (.cs (.row 12 true) (.cs (.row 3 true) .nl)))))))))
def ou5 (l : T5) (y : X5) : Ex × St U := (.exit 0, stOf 79 [(0, .ptr 0 0), (1, jI l.1.2.1), (4, .ptr 5 0), (6, .ptr 6 0)] [.var [.ptr 1 0, jI l.2.1.2.1, jI l.2.1.2.2.1, jI l.2.1.2.2.2.1, jI (d4 l.2.1).1, jI (d4 l.2.1).2.1, jI (d4 l.2.1).2.2.1], .var [.own 2, jI l.2.2.1.2.1, .own 3, jI l.2.2.1.2.2.2.1, jB (d4 l.2.2.1).1, jI (d4 l.2.2.1).2.1, .own 4], .row 3 l.2.2.2.1 true, .row 1 (d4 l).1 true, .row 3 (d4 l).2.1 true, .var [.im .nilp, jI l.2.2.2.2.2.2.1.2.1, jI l.2.2.2.2.2.2.1.2.2.1, jB l.2.2.2.2.2.2.1.2.2.2.1, jI (d4 l.2.2.2.2.2.2.1).1, .im .nils, .im .nils], .var [.ptr 0 0, jI l.2.2.2.2.2.2.2.1.2.1, jI y.1, jB l.2.2.2.2.2.2.2.1.2.2.2.1, jI y.2.1, .im (.slice 3 y.2.2.1), .own 7], .row 12 y.2.2.2 true] 5)
def Λ5 : LFun U := mkLp p5 q5 5 (X := X5) (fun (l : T5) => L5 l.1.2.1 l.2.1.2.1 l.2.1.2.2.1 l.2.1.2.2.2.1 (d4 l.2.1).1 (d4 l.2.1).2.1 (d4 l.2.1).2.2.1 l.2.2.1.2.1 l.2.2.1.2.2.2.1 (d4 l.2.2.1).1 (d4 l.2.2.1).2.1 l.2.2.2.1 (d4 l).1 (d4 l).2.1 l.2.2.2.2.2.2.1.2.1 l.2.2.2.2.2.2.1.2.2.1 l.2.2.2.2.2.2.1.2.2.2.1 (d4 l.2.2.2.2.2.2.1).1 l.2.2.2.2.2.2.2.1.2.1 l.2.2.2.2.2.2.2.1.2.2.1 l.2.2.2.2.2.2.2.1.2.2.2.1 (d4 l.2.2.2.2.2.2.2.1).1 (d4 l.2.2.2.2.2.2.2.1).2.1 (d8 l).1 (d8 l).2.1) sp1 ou5
def hd5 (l : T5) (s : S5) : T5 := (((), (l.1.2.1, ((), ((), ((), ((), ((), ((), ())))))))), (((), (l.2.1.2.1, (l.2.1.2.2.1, (l.2.1.2.2.2.1, ((d4 l.2.1).1, ((d4 l.2.1).2.1, ((d4 l.2.1).2.2.1, ()))))))), (((), (l.2.2.1.2.1, ((), (l.2.2.1.2.2.2.1, ((d4 l.2.2.1).1, ((d4 l.2.2.1).2.1, ((), ()))))))), (l.2.2.2.1, ((d4 l).1, ((d4 l).2.1, (((), (l.2.2.2.2.2.2.1.2.1, (l.2.2.2.2.2.2.1.2.2.1, (l.2.2.2.2.2.2.1.2.2.2.1, ((d4 l.2.2.2.2.2.2.1).1, ((), ((), ()))))))), (((), (l.2.2.2.2.2.2.2.1.2.1, (s.1, (l.2.2.2.2.2.2.2.1.2.2.2.1, (s.2.1, (s.2.2.1, ((), ()))))))), (s.2.2.2, ((d8 l).2.1, ()))))))))))
def fl5 (l : T5) (s : S5) : Tw (S5 ⊕ X5) := l5 l.1.2.1 l.2.1.2.1 l.2.1.2.2.1 l.2.1.2.2.2.1 (d4 l.2.1).1 (d4 l.2.1).2.1 (d4 l.2.1).2.2.1 l.2.2.1.2.1 l.2.2.1.2.2.2.1 (d4 l.2.2.1).1 (d4 l.2.2.1).2.1 l.2.2.2.1 (d4 l).1 (d4 l).2.1 l.2.2.2.2.2.2.1.2.1 l.2.2.2.2.2.2.1.2.2.1 l.2.2.2.2.2.2.1.2.2.2.1 (d4 l.2.2.2.2.2.2.1).1 l.2.2.2.2.2.2.2.1.2.1 l.2.2.2.2.2.2.2.1.2.2.2.1 (d8 l).2.1 s.1 s.2.1 s.2.2.1 s.2.2.2
def t (sector h0_1 h0_2 h0_3 h0_4 h0_5 h0_6 h1_1 h1_3 : Int) (h1_4 : Bool) (h1_5 : Int) (h2 : (List Int)) (h3 : (List Int)) (h4 : (List Int)) : Tw XA :=
 (.opt (drive_Drive_Geometry.c h0_1 h0_2 h0_3 h0_4 h0_5 h0_6 h1_1 h1_3 h1_4 h1_5 h2 h3 h4) fun z1 =>
 (.opt (drive_Drive_Read.c sector (0 : Int) h0_1 h0_1 h0_2 h0_3 h0_4 h0_5 h0_6 h1_1 h1_3 h1_4 h1_5 h2 h3 h4) fun z2 =>
 (.bb (z2.1 != (0 : Int))
 (.ret ((0 : Int), (false, ((0 : Int), (([] : List (Int)), (z2.1, ([] : List (List Int))))))))
 (.opt (L5 sector h0_1 h0_2 h0_3 h0_4 h0_5 h0_6 h1_1 h1_3 h1_4 h1_5 h2 h3 h4 (0 : Int) (0 : Int) false (0 : Int) sector (0 : Int) false (0 : Int) ([] : List (Int)) ([] : List (List Int)) z2.2) fun z8 =>
 (.opt (drive_Drive_Blank.c sector z8.1 h0_1 h0_2 h0_3 h0_4 h0_5 h0_6 h1_1 h1_3 h1_4 h1_5 h2 h3 h4) fun z9 =>
 (.ret (z8.1, ((!z9.1), (z8.2.1, (z8.2.2.1, (z9.2, z8.2.2.2)))))))))))
def c (sector h0_1 h0_2 h0_3 h0_4 h0_5 h0_6 h1_1 h1_3 : Int) (h1_4 : Bool) (h1_5 : Int) (h2 : (List Int)) (h3 : (List Int)) (h4 : (List Int)) : Option XA := (t sector h0_1 h0_2 h0_3 h0_4 h0_5 h0_6 h1_1 h1_3 h1_4 h1_5 h2 h3 h4).run
def tl (l : TA) : Tw XA := t l.1.2.1 l.2.1.2.1 l.2.1.2.2.1 l.2.1.2.2.2.1 (d4 l.2.1).1 (d4 l.2.1).2.1 (d4 l.2.1).2.2.1 l.2.2.1.2.1 l.2.2.1.2.2.2.1 (d4 l.2.2.1).1 (d4 l.2.2.1).2.1 l.2.2.2.1 (d4 l).1 (d4 l).2.1
def pA : Pt := (.cs (.ptr 0 0) (jC .nl))
def pH : Pt := (.cs (.var (.cs (.ptr 1 0) (jC (jC (jC (jC (jC (jC .nl)))))))) (.cs (.var (.cs (.own 2) (jC (.cs (.own 3) (jC (.cs .bool (jC (.cs (.own 4) .nl)))))))) (.cs (.row 3 true) (.cs (.row 1 true) (.cs (.row 3 true) .nl)))))
def v (l : TA) (y : XA) : AV U := .tup [.agg [.ptr 0 0, jI l.1.2.1, jI y.1, jB y.2.1, jI y.2.2.1, .im (.slice 3 y.2.2.2.1), .own 5], jI (d4 y).1]
def hh (l : TA) (y : XA) : Hp U := [.var [.ptr 1 0, jI l.2.1.2.1, jI l.2.1.2.2.1, jI l.2.1.2.2.2.1, jI (d4 l.2.1).1, jI (d4 l.2.1).2.1, jI (d4 l.2.1).2.2.1], .var [.own 2, jI l.2.2.1.2.1, .own 3, jI l.2.2.1.2.2.2.1, jB (d4 l.2.2.1).1, jI (d4 l.2.2.1).2.1, .own 4], .row 3 l.2.2.2.1 true, .row 1 (d4 l).1 true, .row 3 (d4 l).2.1 true, .row 12 (d4 y).2 true]
def A : AFun U := mkA pA pH (X := XA) (fun l => (tl l).run) sp1 v hh
def body := bodyOf Try.f40
def E : Env U := E0.mk5 [(35, drive_Drive_Geometry.A), (64, drive_Drive_Read.A), (65, frame_Read.A), (61, journal_Journal_said_v2.A), (66, drive_Drive_Blank.A)] [(5, Λ5)] [] [(5, ⟨[4, 0, 6, 1, 7], [(6, [.to 6], .own 12), (6, [.to 5], .im 3)]⟩, ⟨[4, 5, 0, 6, 1], []⟩)] [35, 64]
theorem hf5 : HF E (pick (loopsOf body) 5) p5 q5 5 fl5 hd5 sp1 ou5 := fun _ _ _ _ => by kernel_rfl
theorem lk5 : LK E (pick (loopsOf body) 5) Λ5 := fun R st K r h =>
  lp_ok (E := E) (b := pick (loopsOf body) 5) (m := 5) (sp := sp1) (p := p5) (q := q5) (X := X5) (S := S5) (f := fl5) (hd := hd5) (s0 := fun (l : T5) => (l.2.2.2.2.2.2.2.1.2.2.1, ((d4 l.2.2.2.2.2.2.2.1).1, ((d4 l.2.2.2.2.2.2.2.1).2.1, (d8 l).1)))) (ou := ou5)
    (fun l => rfl) (fun l x => by rfl) sp1_ok hf5 h
theorem hk : HK E Try.f40 [(0, [.cell 5], .im 3), (0, [.cell 6], .own 12)] pA pH tl v hh := fun _ _ _ => by kernel_rfl
theorem og : SoundF Try.prog cc 40 A ∧ FnOK Try.prog 40 :=
 og_of (E := E) P_mixed (E0_ok.mk5 _ _ _ _ _) (gam_of (all_cons drive_Drive_Geometry.og (all_cons drive_Drive_Read.og (all_cons frame_Read.og (all_cons ⟨journal_Journal_said_v2.ok, journal_Journal_said_v2.fo⟩ (all_cons drive_Drive_Blank.og all_nil))))) (all_cons (fun _ => drive_Drive_Geometry.keep) (all_cons (fun _ => drive_Drive_Read.keep) (all_cons (no_keep (by kernel_rfl)) (all_cons (no_keep (by kernel_rfl)) (all_cons (no_keep (by kernel_rfl)) all_nil)))))) Try.func40 (c := body) (by kernel_rfl)
    (just_by (by kernel_rfl) (by kernel_rfl) (all_cons lk5 all_nil) all_nil) [(0, [.cell 5], .im 3), (0, [.cell 6], .own 12)] sp1_ok hk (by kernel_rfl)
end journal_read

/-! (*instar/journal.Journal).Seq -/
namespace journal_Journal_Seq_nil0
abbrev TA : Type := ((Unit × Unit) × Unit)
def t : Tw Int :=
 (.ret (0 : Int))
def c : Option Int := (t).run
def tl (l : TA) : Tw Int := t
def cl (l : TA) : Option Int := c
def pA : Pt := (.cs .nilp .nl)
def pH : Pt := .nl
def v (l : TA) (y : Int) : AV U := jI y
def hh (l : TA) (y : Int) : Hp U := []
def A : AFun U := mkA pA pH (X := Int) cl sp1 v hh
def body := bodyOf Try.f9
def E : Env U := E0.mk5 [] [] [] [] []
theorem hk : HK E Try.f9 [] pA pH tl v hh := fun _ _ _ => by kernel_rfl
theorem okF : SoundF Try.prog cc 9 (funcA E Try.f9 []) :=
  funcA_ok (E := E) P_mixed (E0_ok.mk5 _ _ _ _ _) (gam_of all_nil all_nil) Try.func9 (c := body) (by kernel_rfl)
    (just_by (by kernel_rfl) (by kernel_rfl) all_nil all_nil) []
theorem ok : SoundF Try.prog cc 9 A :=
  mkA_ok (E := E) (p := pA) (q := pH) (t := tl) sp1_ok hk okF
theorem fo : FnOK Try.prog 9 := ⟨Try.f9, Try.func9, by kernel_rfl, by kernel_rfl⟩
theorem keep : KeepA A := mkA_keep sp1_ok (fun (l : TA) y => ⟨(hh l y).drop 0, by kernel_rfl⟩)
end journal_Journal_Seq_nil0

/-! (*instar/journal.Journal).Seq -/
namespace journal_Journal_Seq
abbrev TA : Type := ((Unit × Unit) × ((Unit × (Int × (Int × (Bool × (Int × ((List Int) × (Unit × Unit))))))) × ((Unit × (Int × (Int × (Int × (Int × (Int × (Int × Unit))))))) × ((Unit × (Int × (Unit × (Int × (Bool × (Int × (Unit × Unit))))))) × ((List Int) × ((List Int) × ((List Int) × ((List (List Int)) × Unit))))))))
def t (h0_1 h0_2 : Int) (h0_3 : Bool) (h0_4 : Int) (h0_5 : (List Int)) (h1_1 h1_2 h1_3 h1_4 h1_5 h1_6 h2_1 h2_3 : Int) (h2_4 : Bool) (h2_5 : Int) (h3 : (List Int)) (h4 : (List Int)) (h5 : (List Int)) (h6 : (List (List Int))) : Tw Unit :=
 (.ret ())
def c (h0_1 h0_2 : Int) (h0_3 : Bool) (h0_4 : Int) (h0_5 : (List Int)) (h1_1 h1_2 h1_3 h1_4 h1_5 h1_6 h2_1 h2_3 : Int) (h2_4 : Bool) (h2_5 : Int) (h3 : (List Int)) (h4 : (List Int)) (h5 : (List Int)) (h6 : (List (List Int))) : Option Unit := (t h0_1 h0_2 h0_3 h0_4 h0_5 h1_1 h1_2 h1_3 h1_4 h1_5 h1_6 h2_1 h2_3 h2_4 h2_5 h3 h4 h5 h6).run
def tl (l : TA) : Tw Unit := t l.2.1.2.1 l.2.1.2.2.1 l.2.1.2.2.2.1 (d4 l.2.1).1 (d4 l.2.1).2.1 l.2.2.1.2.1 l.2.2.1.2.2.1 l.2.2.1.2.2.2.1 (d4 l.2.2.1).1 (d4 l.2.2.1).2.1 (d4 l.2.2.1).2.2.1 l.2.2.2.1.2.1 l.2.2.2.1.2.2.2.1 (d4 l.2.2.2.1).1 (d4 l.2.2.2.1).2.1 (d4 l).1 (d4 l).2.1 (d4 l).2.2.1 (d4 l).2.2.2.1
def pA : Pt := (.cs (.ptr 0 0) .nl)
def pH : Pt := (.cs (.var (.cs (.ptr 1 0) (jC (jC (.cs .bool (jC (.cs (.sl 3) (.cs (.own 6) .nl)))))))) (.cs (.var (.cs (.ptr 2 0) (jC (jC (jC (jC (jC (jC .nl)))))))) (.cs (.var (.cs (.own 3) (jC (.cs (.own 4) (jC (.cs .bool (jC (.cs (.own 5) .nl)))))))) (.cs (.row 3 true) (.cs (.row 1 true) (.cs (.row 3 true) (.cs (.row 12 true) .nl)))))))
def v (l : TA) (y : Unit) : AV U := jI (d4 l.2.1).1
def hh (l : TA) (y : Unit) : Hp U := [.var [.ptr 1 0, jI l.2.1.2.1, jI l.2.1.2.2.1, jB l.2.1.2.2.2.1, jI (d4 l.2.1).1, .im (.slice 3 (d4 l.2.1).2.1), .own 6], .var [.ptr 2 0, jI l.2.2.1.2.1, jI l.2.2.1.2.2.1, jI l.2.2.1.2.2.2.1, jI (d4 l.2.2.1).1, jI (d4 l.2.2.1).2.1, jI (d4 l.2.2.1).2.2.1], .var [.own 3, jI l.2.2.2.1.2.1, .own 4, jI l.2.2.2.1.2.2.2.1, jB (d4 l.2.2.2.1).1, jI (d4 l.2.2.2.1).2.1, .own 5], .row 3 (d4 l).1 true, .row 1 (d4 l).2.1 true, .row 3 (d4 l).2.2.1 true, .row 12 (d4 l).2.2.2.1 true]
def A : AFun U := mkA pA pH (X := Unit) (fun l => (tl l).run) sp1 v hh
def body := bodyOf Try.f9
def E : Env U := E0.mk5 [] [] [] [] []
theorem hk : HK E Try.f9 [] pA pH tl v hh := fun _ _ _ => by kernel_rfl
theorem okF : SoundF Try.prog cc 9 (funcA E Try.f9 []) :=
  funcA_ok (E := E) P_mixed (E0_ok.mk5 _ _ _ _ _) (gam_of all_nil all_nil) Try.func9 (c := body) (by kernel_rfl)
    (just_by (by kernel_rfl) (by kernel_rfl) all_nil all_nil) []
theorem ok : SoundF Try.prog cc 9 A :=
  mkA_ok (E := E) (p := pA) (q := pH) (t := tl) sp1_ok hk okF
theorem fo : FnOK Try.prog 9 := ⟨Try.f9, Try.func9, by kernel_rfl, by kernel_rfl⟩
theorem keep : KeepA A := mkA_keep sp1_ok (fun (l : TA) y => ⟨(hh l y).drop 7, by kernel_rfl⟩)
end journal_Journal_Seq

/-! instar/journal.Open -/
namespace journal_Open
abbrev TA : Type := ((Unit × Unit) × ((Unit × (Int × (Int × (Int × (Int × (Int × (Int × Unit))))))) × ((Unit × (Int × (Unit × (Int × (Bool × (Int × (Unit × Unit))))))) × ((List Int) × ((List Int) × ((List Int) × Unit))))))
abbrev XA : Type := (Int ⊕ (Int × (Int × (Int × (Bool × (Int × ((List Int) × (List (List Int)))))))))
abbrev T5v2 : Type := ((Unit × (Unit × (Unit × (Unit × (Int × (Unit × Unit)))))) × ((Unit × (Int × (Int × (Int × (Int × (Int × (Int × Unit))))))) × ((Unit × (Int × (Unit × (Int × (Bool × (Int × (Unit × Unit))))))) × ((List Int) × ((List Int) × ((List Int) × ((Unit × (Int × (Int × (Bool × (Int × ((List Int) × (Unit × Unit))))))) × ((List (List Int)) × Unit))))))))
abbrev S5v2 : Type := (Int × (Int × (Int × (Bool × (Int × ((List Int) × (List (List Int))))))))
abbrev X5v2 : Type := ((Int × (Int × (Bool × (Int × ((List Int) × (List (List Int))))))) ⊕ (Int × (Int × (Int × (Bool × (Int × ((List Int) × (List (List Int)))))))))
def l5v2 (h0_1 h0_2 h0_3 h0_4 h0_5 h0_6 h1_1 h1_3 : Int) (h1_4 : Bool) (h1_5 : Int) (h2 : (List Int)) (h3 : (List Int)) (h4 : (List Int)) (k10 h5_1 h5_2 : Int) (h5_3 : Bool) (h5_4 : Int) (h5_5 : (List Int)) (h6 : (List (List Int))) : Tw (S5v2 ⊕ X5v2) :=
 (.bb (decide (k10 < (2 : Int)))
 (.opt (journal_read.c k10 h0_1 h0_2 h0_3 h0_4 h0_5 h0_6 h1_1 h1_3 h1_4 h1_5 h2 h3 h4) fun z3 =>
 (.bb ((d4 z3).1 != (0 : Int))
 (.ret (.inr (.inr ((d4 z3).1, (h5_1, (h5_2, (h5_3, (h5_4, (h5_5, h6)))))))))
 (.opt (journal_Journal_Seq.c h5_1 h5_2 h5_3 h5_4 h5_5 h0_1 h0_2 h0_3 h0_4 h0_5 h0_6 h1_1 h1_3 h1_4 h1_5 h2 h3 h4 h6) fun z4 =>
 (.bb (decide (z3.2.2.1 > h5_4))
 (.ret (.inl ((w64 (k10 + (1 : Int))), (k10, (z3.1, (z3.2.1, (z3.2.2.1, (z3.2.2.2.1, (d4 z3).2))))))))
 (.ret (.inl ((w64 (k10 + (1 : Int))), (h5_1, (h5_2, (h5_3, (h5_4, (h5_5, h6))))))))))))
 (.ret (.inr (.inl (h5_1, (h5_2, (h5_3, (h5_4, (h5_5, h6)))))))))
def L5v2 (k10 h0_1 h0_2 h0_3 h0_4 h0_5 h0_6 h1_1 h1_3 : Int) (h1_4 : Bool) (h1_5 : Int) (h2 : (List Int)) (h3 : (List Int)) (h4 : (List Int)) (h5_1 h5_2 : Int) (h5_3 : Bool) (h5_4 : Int) (h5_5 : (List Int)) (h6 : (List (List Int))) : Option X5v2 := Lp (fun s => (l5v2 h0_1 h0_2 h0_3 h0_4 h0_5 h0_6 h1_1 h1_3 h1_4 h1_5 h2 h3 h4 s.1 s.2.1 s.2.2.1 s.2.2.2.1 (d4 s).1 (d4 s).2.1 (d4 s).2.2).run) (k10, (h5_1, (h5_2, (h5_3, (h5_4, (h5_5, h6))))))
def p5v2 : Pt := (.cs (.ptr 0 0) (.cs (.bots 3) (.cs (.ptr 5 0) (.cs (.bots 5) (jC (.cs (.bots 20) .nl))))))
def q5v2 : Pt := (.cs (.var (.cs (.ptr 1 0) (jC (jC (jC (jC (jC (jC .nl)))))))) (.cs (.var (.cs (.own 2) (jC (.cs (.own 3) (jC (.cs .bool (jC (.cs (.own 4) .nl)))))))) (.cs (.row 3 true) (.cs (.row 1 true) (.cs (.row 3 true) (.cs (.var (.cs (.ptr 0 0) (jC (jC (.cs .bool (jC (.cs (.sl 3) (.cs (.own 6) .nl)))))))) (.cs (.row 12 true) .nl)))))))
def ou5v2 (l : T5v2) (y : X5v2) : Ex × St U := (Sum.elim (fun a0 => (.exit 0, stOf 31 [(0, .ptr 0 0), (4, .ptr 5 0)] [.var [.ptr 1 0, jI l.2.1.2.1, jI l.2.1.2.2.1, jI l.2.1.2.2.2.1, jI (d4 l.2.1).1, jI (d4 l.2.1).2.1, jI (d4 l.2.1).2.2.1], .var [.own 2, jI l.2.2.1.2.1, .own 3, jI l.2.2.1.2.2.2.1, jB (d4 l.2.2.1).1, jI (d4 l.2.2.1).2.1, .own 4], .row 3 l.2.2.2.1 true, .row 1 (d4 l).1 true, .row 3 (d4 l).2.1 true, .var [.ptr 0 0, jI a0.1, jI a0.2.1, jB a0.2.2.1, jI a0.2.2.2.1, .im (.slice 3 (d4 a0).1), .own 6], .row 12 (d4 a0).2 true] 5)) (fun b0 => (.ret, stOf 31 [(0, .ptr 0 0), (2, .im .nilp), (3, jI b0.1), (4, .ptr 5 0)] [.var [.ptr 1 0, jI l.2.1.2.1, jI l.2.1.2.2.1, jI l.2.1.2.2.2.1, jI (d4 l.2.1).1, jI (d4 l.2.1).2.1, jI (d4 l.2.1).2.2.1], .var [.own 2, jI l.2.2.1.2.1, .own 3, jI l.2.2.1.2.2.2.1, jB (d4 l.2.2.1).1, jI (d4 l.2.2.1).2.1, .own 4], .row 3 l.2.2.2.1 true, .row 1 (d4 l).1 true, .row 3 (d4 l).2.1 true, .var [.ptr 0 0, jI b0.2.1, jI b0.2.2.1, jB b0.2.2.2.1, jI (d4 b0).1, .im (.slice 3 (d4 b0).2.1), .own 6], .row 12 (d4 b0).2.2 true] 5)) y)
def Λ5v2 : LFun U := mkLp p5v2 q5v2 5 (X := X5v2) (fun (l : T5v2) => L5v2 (d4 l.1).1 l.2.1.2.1 l.2.1.2.2.1 l.2.1.2.2.2.1 (d4 l.2.1).1 (d4 l.2.1).2.1 (d4 l.2.1).2.2.1 l.2.2.1.2.1 l.2.2.1.2.2.2.1 (d4 l.2.2.1).1 (d4 l.2.2.1).2.1 l.2.2.2.1 (d4 l).1 (d4 l).2.1 l.2.2.2.2.2.2.1.2.1 l.2.2.2.2.2.2.1.2.2.1 l.2.2.2.2.2.2.1.2.2.2.1 (d4 l.2.2.2.2.2.2.1).1 (d4 l.2.2.2.2.2.2.1).2.1 (d4 l).2.2.2.1) (spS sp1) ou5v2
def hd5v2 (l : T5v2) (s : S5v2) : T5v2 := (((), ((), ((), ((), (s.1, ((), ())))))), (((), (l.2.1.2.1, (l.2.1.2.2.1, (l.2.1.2.2.2.1, ((d4 l.2.1).1, ((d4 l.2.1).2.1, ((d4 l.2.1).2.2.1, ()))))))), (((), (l.2.2.1.2.1, ((), (l.2.2.1.2.2.2.1, ((d4 l.2.2.1).1, ((d4 l.2.2.1).2.1, ((), ()))))))), (l.2.2.2.1, ((d4 l).1, ((d4 l).2.1, (((), (s.2.1, (s.2.2.1, (s.2.2.2.1, ((d4 s).1, ((d4 s).2.1, ((), ()))))))), ((d4 s).2.2, ()))))))))
def fl5v2 (l : T5v2) (s : S5v2) : Tw (S5v2 ⊕ X5v2) := l5v2 l.2.1.2.1 l.2.1.2.2.1 l.2.1.2.2.2.1 (d4 l.2.1).1 (d4 l.2.1).2.1 (d4 l.2.1).2.2.1 l.2.2.1.2.1 l.2.2.1.2.2.2.1 (d4 l.2.2.1).1 (d4 l.2.2.1).2.1 l.2.2.2.1 (d4 l).1 (d4 l).2.1 s.1 s.2.1 s.2.2.1 s.2.2.2.1 (d4 s).1 (d4 s).2.1 (d4 s).2.2
abbrev T5 : Type := ((Unit × (Unit × (Unit × (Unit × (Int × (Unit × Unit)))))) × ((Unit × (Int × (Int × (Int × (Int × (Int × (Int × Unit))))))) × ((Unit × (Int × (Unit × (Int × (Bool × (Int × (Unit × Unit))))))) × ((List Int) × ((List Int) × ((List Int) × Unit))))))
abbrev X5 : Type := (Unit ⊕ ((Int × (Int × (Int × (Bool × (Int × ((List Int) × (List (List Int)))))))) ⊕ Int))
def l5 (h0_1 h0_2 h0_3 h0_4 h0_5 h0_6 h1_1 h1_3 : Int) (h1_4 : Bool) (h1_5 : Int) (h2 : (List Int)) (h3 : (List Int)) (h4 : (List Int)) (k10 : Int) : Tw (Int ⊕ X5) :=
 (.bb (decide (k10 < (2 : Int)))
 (.opt (journal_read.c k10 h0_1 h0_2 h0_3 h0_4 h0_5 h0_6 h1_1 h1_3 h1_4 h1_5 h2 h3 h4) fun z1 =>
 (.bb ((d4 z1).1 != (0 : Int))
 (.ret (.inr (.inr (.inr (d4 z1).1))))
 (.opt (journal_Journal_Seq_nil0.c) fun z2 =>
 (.bb (decide (z1.2.2.1 > z2))
 (.ret (.inr (.inr (.inl ((w64 (k10 + (1 : Int))), (k10, (z1.1, (z1.2.1, (z1.2.2.1, (z1.2.2.2.1, (d4 z1).2))))))))))
 (.ret (.inl (w64 (k10 + (1 : Int)))))))))
 (.ret (.inr (.inl ()))))
def L5 (k10 h0_1 h0_2 h0_3 h0_4 h0_5 h0_6 h1_1 h1_3 : Int) (h1_4 : Bool) (h1_5 : Int) (h2 : (List Int)) (h3 : (List Int)) (h4 : (List Int)) : Option X5 := Lp (fun s => (l5 h0_1 h0_2 h0_3 h0_4 h0_5 h0_6 h1_1 h1_3 h1_4 h1_5 h2 h3 h4 s).run) k10
def p5 : Pt := (.cs (.ptr 0 0) (.cs (.bots 3) (.cs .nilp (.cs (.bots 5) (jC (.cs (.bots 20) .nl))))))
def q5 : Pt := (.cs (.var (.cs (.ptr 1 0) (jC (jC (jC (jC (jC (jC .nl)))))))) (.cs (.var (.cs (.own 2) (jC (.cs (.own 3) (jC (.cs .bool (jC (.cs (.own 4) .nl)))))))) (.cs (.row 3 true) (.cs (.row 1 true) (.cs (.row 3 true) .nl)))))
def ou5 (l : T5) (y : X5) : Ex × St U := (Sum.elim (fun a0 => (.exit 0, stOf 31 [(0, .ptr 0 0), (4, .im .nilp)] [.var [.ptr 1 0, jI l.2.1.2.1, jI l.2.1.2.2.1, jI l.2.1.2.2.2.1, jI (d4 l.2.1).1, jI (d4 l.2.1).2.1, jI (d4 l.2.1).2.2.1], .var [.own 2, jI l.2.2.1.2.1, .own 3, jI l.2.2.1.2.2.2.1, jB (d4 l.2.2.1).1, jI (d4 l.2.2.1).2.1, .own 4], .row 3 l.2.2.2.1 true, .row 1 (d4 l).1 true, .row 3 (d4 l).2.1 true] 5)) (fun b0 => (Sum.elim (fun a1 => (.normal, stOf 31 [(0, .ptr 0 0), (4, .ptr 5 0), (10, jI a1.1)] [.var [.ptr 1 0, jI l.2.1.2.1, jI l.2.1.2.2.1, jI l.2.1.2.2.2.1, jI (d4 l.2.1).1, jI (d4 l.2.1).2.1, jI (d4 l.2.1).2.2.1], .var [.own 2, jI l.2.2.1.2.1, .own 3, jI l.2.2.1.2.2.2.1, jB (d4 l.2.2.1).1, jI (d4 l.2.2.1).2.1, .own 4], .row 3 l.2.2.2.1 true, .row 1 (d4 l).1 true, .row 3 (d4 l).2.1 true, .var [.ptr 0 0, jI a1.2.1, jI a1.2.2.1, jB a1.2.2.2.1, jI (d4 a1).1, .im (.slice 3 (d4 a1).2.1), .own 6], .row 12 (d4 a1).2.2 true] 5)) (fun b1 => (.ret, stOf 31 [(0, .ptr 0 0), (2, .im .nilp), (3, jI b1), (4, .im .nilp)] [.var [.ptr 1 0, jI l.2.1.2.1, jI l.2.1.2.2.1, jI l.2.1.2.2.2.1, jI (d4 l.2.1).1, jI (d4 l.2.1).2.1, jI (d4 l.2.1).2.2.1], .var [.own 2, jI l.2.2.1.2.1, .own 3, jI l.2.2.1.2.2.2.1, jB (d4 l.2.2.1).1, jI (d4 l.2.2.1).2.1, .own 4], .row 3 l.2.2.2.1 true, .row 1 (d4 l).1 true, .row 3 (d4 l).2.1 true] 5)) b0)) y)
def Λ5 : LFun U := mkLq (U := U) p5 q5 5 (X := X5) (fun (l : T5) => L5 (d4 l.1).1 l.2.1.2.1 l.2.1.2.2.1 l.2.1.2.2.2.1 (d4 l.2.1).1 (d4 l.2.1).2.1 (d4 l.2.1).2.2.1 l.2.2.1.2.1 l.2.2.1.2.2.2.1 (d4 l.2.2.1).1 (d4 l.2.2.1).2.1 l.2.2.2.1 (d4 l).1 (d4 l).2.1) (spS (spS sp1)) ou5 Λ5v2
def hd5 (l : T5) (s : Int) : T5 := (((), ((), ((), ((), (s, ((), ())))))), (((), (l.2.1.2.1, (l.2.1.2.2.1, (l.2.1.2.2.2.1, ((d4 l.2.1).1, ((d4 l.2.1).2.1, ((d4 l.2.1).2.2.1, ()))))))), (((), (l.2.2.1.2.1, ((), (l.2.2.1.2.2.2.1, ((d4 l.2.2.1).1, ((d4 l.2.2.1).2.1, ((), ()))))))), (l.2.2.2.1, ((d4 l).1, ((d4 l).2.1, ()))))))
def fl5 (l : T5) (s : Int) : Tw (Int ⊕ X5) := l5 l.2.1.2.1 l.2.1.2.2.1 l.2.1.2.2.2.1 (d4 l.2.1).1 (d4 l.2.1).2.1 (d4 l.2.1).2.2.1 l.2.2.1.2.1 l.2.2.1.2.2.2.1 (d4 l.2.2.1).1 (d4 l.2.2.1).2.1 l.2.2.2.1 (d4 l).1 (d4 l).2.1 s
def t (h0_1 h0_2 h0_3 h0_4 h0_5 h0_6 h1_1 h1_3 : Int) (h1_4 : Bool) (h1_5 : Int) (h2 : (List Int)) (h3 : (List Int)) (h4 : (List Int)) : Tw XA :=
 (.opt (L5 (0 : Int) h0_1 h0_2 h0_3 h0_4 h0_5 h0_6 h1_1 h1_3 h1_4 h1_5 h2 h3 h4) fun z5 =>
 (.sm z5
 (fun z6 => (.ret (.inl (8 : Int))))
 (fun z7 => (.sm z7
 (fun z8 => (.opt (L5v2 z8.1 h0_1 h0_2 h0_3 h0_4 h0_5 h0_6 h1_1 h1_3 h1_4 h1_5 h2 h3 h4 z8.2.1 z8.2.2.1 z8.2.2.2.1 (d4 z8).1 (d4 z8).2.1 (d4 z8).2.2) fun z10 =>
 (.sm z10
 (fun z11 => (.ret (.inr ((0 : Int), (z11.1, (z11.2.1, (z11.2.2.1, (z11.2.2.2.1, ((d4 z11).1, (d4 z11).2)))))))))
 (fun z12 => (.ret (.inl z12.1))))))
 (fun z9 => (.ret (.inl z9)))))))
def c (h0_1 h0_2 h0_3 h0_4 h0_5 h0_6 h1_1 h1_3 : Int) (h1_4 : Bool) (h1_5 : Int) (h2 : (List Int)) (h3 : (List Int)) (h4 : (List Int)) : Option XA := (t h0_1 h0_2 h0_3 h0_4 h0_5 h0_6 h1_1 h1_3 h1_4 h1_5 h2 h3 h4).run
def tl (l : TA) : Tw XA := t l.2.1.2.1 l.2.1.2.2.1 l.2.1.2.2.2.1 (d4 l.2.1).1 (d4 l.2.1).2.1 (d4 l.2.1).2.2.1 l.2.2.1.2.1 l.2.2.1.2.2.2.1 (d4 l.2.2.1).1 (d4 l.2.2.1).2.1 l.2.2.2.1 (d4 l).1 (d4 l).2.1
def pA : Pt := (.cs (.ptr 0 0) .nl)
def pH : Pt := (.cs (.var (.cs (.ptr 1 0) (jC (jC (jC (jC (jC (jC .nl)))))))) (.cs (.var (.cs (.own 2) (jC (.cs (.own 3) (jC (.cs .bool (jC (.cs (.own 4) .nl)))))))) (.cs (.row 3 true) (.cs (.row 1 true) (.cs (.row 3 true) .nl)))))
def v (l : TA) (y : XA) : AV U := (Sum.elim (fun a0 => .tup [.im .nilp, jI a0]) (fun b0 => .tup [.ptr 5 0, jI b0.1]) y)
def hh (l : TA) (y : XA) : Hp U := (Sum.elim (fun a0 => [.var [.ptr 1 0, jI l.2.1.2.1, jI l.2.1.2.2.1, jI l.2.1.2.2.2.1, jI (d4 l.2.1).1, jI (d4 l.2.1).2.1, jI (d4 l.2.1).2.2.1], .var [.own 2, jI l.2.2.1.2.1, .own 3, jI l.2.2.1.2.2.2.1, jB (d4 l.2.2.1).1, jI (d4 l.2.2.1).2.1, .own 4], .row 3 l.2.2.2.1 true, .row 1 (d4 l).1 true, .row 3 (d4 l).2.1 true]) (fun b0 => [.var [.ptr 1 0, jI l.2.1.2.1, jI l.2.1.2.2.1, jI l.2.1.2.2.2.1, jI (d4 l.2.1).1, jI (d4 l.2.1).2.1, jI (d4 l.2.1).2.2.1], .var [.own 2, jI l.2.2.1.2.1, .own 3, jI l.2.2.1.2.2.2.1, jB (d4 l.2.2.1).1, jI (d4 l.2.2.1).2.1, .own 4], .row 3 l.2.2.2.1 true, .row 1 (d4 l).1 true, .row 3 (d4 l).2.1 true, .var [.ptr 0 0, jI b0.2.1, jI b0.2.2.1, jB b0.2.2.2.1, jI (d4 b0).1, .im (.slice 3 (d4 b0).2.1), .own 6], .row 12 (d4 b0).2.2 true]) y)
def A : AFun U := mkA pA pH (X := XA) (fun l => (tl l).run) (spS sp1) v hh
def body := bodyOf Try.f19
def E : Env U := E0.mk5 [(40, journal_read.A), (9, (orA journal_Journal_Seq_nil0.pA journal_Journal_Seq_nil0.pH journal_Journal_Seq_nil0.A journal_Journal_Seq.A))] [(5, (orL p5v2 q5v2 Λ5v2 Λ5))] [] [(5, ⟨[0, 10, 4], []⟩, ⟨[2, 3, 0, 4], []⟩)] [9]
theorem hf5v2 : HF E (pick (loopsOf body) 5) p5v2 q5v2 5 fl5v2 hd5v2 (spS sp1) ou5v2 := fun _ _ _ _ => by kernel_rfl
theorem lk5v2 : LK E (pick (loopsOf body) 5) Λ5v2 := fun R st K r h =>
  lp_ok (E := E) (b := pick (loopsOf body) 5) (m := 5) (sp := (spS sp1)) (p := p5v2) (q := q5v2) (X := X5v2) (S := S5v2) (f := fl5v2) (hd := hd5v2) (s0 := fun (l : T5v2) => ((d4 l.1).1, (l.2.2.2.2.2.2.1.2.1, (l.2.2.2.2.2.2.1.2.2.1, (l.2.2.2.2.2.2.1.2.2.2.1, ((d4 l.2.2.2.2.2.2.1).1, ((d4 l.2.2.2.2.2.2.1).2.1, (d4 l).2.2.2.1))))))) (ou := ou5v2)
    (fun l => rfl) (fun l x => by repeat' (first | rfl | (cases x with | inl => rfl | inr x => ?_))) (spS_ok sp1_ok) hf5v2 h
theorem hf5 : HF E (pick (loopsOf body) 5) p5 q5 5 fl5 hd5 (spS (spS sp1)) ou5 := fun _ _ _ _ => by kernel_rfl
theorem lk5 : LK E (pick (loopsOf body) 5) Λ5 := fun R st K r h =>
  lq_ok (U := U) (E := E) (b := pick (loopsOf body) 5) (m := 5) (sp := (spS (spS sp1))) (p := p5) (q := q5) (X := X5) (S := Int) (f := fl5) (hd := hd5) (s0 := fun (l : T5) => (d4 l.1).1) (ou := ou5)
    (fun l => rfl) (spS_ok (spS_ok sp1_ok)) hf5 lk5v2 h
theorem hk : HK E Try.f19 [] pA pH tl v hh := fun _ _ _ => by kernel_rfl
theorem og : SoundF Try.prog cc 19 A ∧ FnOK Try.prog 19 :=
 og_of (E := E) P_mixed (E0_ok.mk5 _ _ _ _ _) (gam_of (all_cons journal_read.og (all_cons ⟨(orA_ok journal_Journal_Seq_nil0.ok journal_Journal_Seq.ok), journal_Journal_Seq_nil0.fo⟩ all_nil)) (all_cons (no_keep (by kernel_rfl)) (all_cons (fun _ => (orA_keep journal_Journal_Seq_nil0.keep journal_Journal_Seq.keep)) all_nil))) Try.func19 (c := body) (by kernel_rfl)
    (just_by (by kernel_rfl) (by kernel_rfl) (all_cons (orL_ok lk5v2 lk5) all_nil) all_nil) [] (spS_ok sp1_ok) hk (by kernel_rfl)
end journal_Open

end
end Go.Proofs.Ytkoidgjgdhpdnaa.Va
