/- The functions of package ref14, as plain functions, and that the program computes them. Printed by a program of this work out of the evaluator. -/
import Derived.Test.YtmlbioapefgioaaEn
import Derived.Tactics
import Derived.Test.YtmlbioapefgioaaFref12
set_option linter.unusedVariables false
namespace Go.Proofs.Ytmlbioapefgioaa.Va
noncomputable section
open Go
set_option maxRecDepth 100000

/-! instar/instarref14.Same -/
namespace ref14_Same
abbrev TA : Type := (((Int × ((List ValueV) × Unit)) × ((Int × ((List ValueV) × Unit)) × Unit)) × Unit)
abbrev T4 : Type := ((Unit × (Unit × (Unit × (Unit × (Int × (Unit × Unit)))))) × ((Int × ((List ValueV) × Unit)) × ((Int × ((List ValueV) × Unit)) × Unit)))
abbrev X4 : Type := (Unit ⊕ Bool)
def l4 (h0_0 : Int) (h0_1 : (List ValueV)) (h1_0 : Int) (h1_1 : (List ValueV)) (i : Int) : Tw (Int ⊕ X4) :=
 (.bb (decide (i < (((List.length h0_1) : Nat) : Int)))
 (.dd (((0 : Int) ≤ i)) inferInstance
 (.opt (h0_1)[(Int.toNat i)]? fun z1 =>
 (.dd (((0 : Int) ≤ i)) inferInstance
 (.opt (h1_1)[(Int.toNat i)]? fun z2 =>
 (.bb (!((z1.n == z2.n) && (((ByteArray.toList z1.s) == (ByteArray.toList z2.s)) && true)))
 (.ret (.inr (.inr false)))
 (.ret (.inl (w64 (i + (1 : Int)))))))
 .no))
 .no)
 (.ret (.inr (.inl ()))))
def L4 (i h0_0 : Int) (h0_1 : (List ValueV)) (h1_0 : Int) (h1_1 : (List ValueV)) : Option X4 := Lp (fun s => (l4 h0_0 h0_1 h1_0 h1_1 s).run) i
def p4 : Pt := (.cs (.bots 2) (.cs (.ptr 0 0) (.cs (.ptr 1 0) (.cs (.bots 1) (jC (.cs (.bots 32) .nl))))))
def q4 : Pt := (.cs (.var (jC (.cs (.sl 24) .nl))) (.cs (.var (jC (.cs (.sl 24) .nl))) .nl))
def ou4 (l : T4) (y : X4) : Ex × St U := (Sum.elim (fun a0 => (.exit 0, stOf 38 [] [] 0)) (fun b0 => (.ret, stOf 38 [(4, jB b0)] [] 0)) y)
def Λ4 : LFun U := mkLp p4 q4 0 (X := X4) (fun (l : T4) => L4 (d4 l.1).1 l.2.1.1 l.2.1.2.1 l.2.2.1.1 l.2.2.1.2.1) (spS sp1) ou4
def hd4 (l : T4) (s : Int) : T4 := (((), ((), ((), ((), (s, ((), ())))))), ((l.2.1.1, (l.2.1.2.1, ())), ((l.2.2.1.1, (l.2.2.1.2.1, ())), ())))
def fl4 (l : T4) (s : Int) : Tw (Int ⊕ X4) := l4 l.2.1.1 l.2.1.2.1 l.2.2.1.1 l.2.2.1.2.1 s
def t (a_0 : Int) (a_1 : (List ValueV)) (b_0 : Int) (b_1 : (List ValueV)) : Tw Bool :=
 (.bb (a_0 != b_0)
 (.ret false)
 (.bb ((((List.length a_1) : Nat) : Int) != (((List.length b_1) : Nat) : Int))
 (.ret false)
 (.opt (L4 (0 : Int) a_0 a_1 b_0 b_1) fun z3 =>
 (.sm z3
 (fun z4 => (.ret true))
 (fun z5 => (.ret z5))))))
def c (a_0 : Int) (a_1 : (List ValueV)) (b_0 : Int) (b_1 : (List ValueV)) : Option Bool := (t a_0 a_1 b_0 b_1).run
def tl (l : TA) : Tw Bool := t l.1.1.1 l.1.1.2.1 l.1.2.1.1 l.1.2.1.2.1
def pA : Pt := (.cs (.agg (jC (.cs (.sl 24) .nl))) (.cs (.agg (jC (.cs (.sl 24) .nl))) .nl))
def pH : Pt := .nl
def v (l : TA) (y : Bool) : AV U := jB y
def hh (l : TA) (y : Bool) : Hp U := []
def A : AFun U := mkA pA pH (X := Bool) (fun l => (tl l).run) sp1 v hh
def body := bodyOf Try.f47
def E : Env U := E0.mk5 [] [(4, Λ4)] [] [(4, ⟨[5, 3, 2], []⟩, ⟨[4], []⟩)] []
theorem hf4 : HF E (pick (loopsOf body) 4) p4 q4 0 fl4 hd4 (spS sp1) ou4 := fun _ _ _ _ => by kernel_rfl
theorem lk4 : LK E (pick (loopsOf body) 4) Λ4 := fun R st K r h =>
  lp_ok (E := E) (b := pick (loopsOf body) 4) (m := 0) (sp := (spS sp1)) (p := p4) (q := q4) (X := X4) (S := Int) (f := fl4) (hd := hd4) (s0 := fun (l : T4) => (d4 l.1).1) (ou := ou4)
    (fun l => rfl) (fun l x => by repeat' (first | rfl | (cases x with | inl => rfl | inr x => ?_))) (spS_ok sp1_ok) hf4 h
theorem hk : HK E Try.f47 [] pA pH tl v hh := fun _ _ _ => by kernel_rfl
theorem og : SoundF Try.prog cc 47 A ∧ FnOK Try.prog 47 :=
 og_of (E := E) P_mixed (E0_ok.mk5 _ _ _ _ _) (gam_of all_nil all_nil) Try.func47 (c := body) (by kernel_rfl)
    (just_by (by kernel_rfl) (by kernel_rfl) (all_cons lk4 all_nil) all_nil) [] sp1_ok hk (by kernel_rfl)
end ref14_Same

/-! instar/instarref14.Take -/
namespace ref14_Take
abbrev TA : Type := (((Int × ((List FieldV) × Unit)) × ((List Int) × Unit)) × Unit)
abbrev XA : Type := (Int × (Int × (List ValueV)))
abbrev T3 : Type := ((Unit × ((List Int) × (Unit × (Unit × (Unit × (Unit × (Unit × (Int × (Unit × Unit))))))))) × ((Int × ((List FieldV) × Unit)) × ((Int × (Unit × Unit)) × ((Int × (Unit × Unit)) × ((List ValueV) × Unit)))))
abbrev S3 : Type := ((List Int) × (Int × (List ValueV)))
abbrev X3 : Type := (((List Int) × (List ValueV)) ⊕ ((List Int) × (Int × (Int × (List ValueV)))))
def l3 (h0_0 : Int) (h0_1 : (List FieldV)) (h1_0 h2_0 : Int) (b : (List Int)) (i : Int) (h3 : (List ValueV)) : Tw (S3 ⊕ X3) :=
 (.bb (decide (i < (((List.length h0_1) : Nat) : Int)))
 (.dd (((0 : Int) ≤ i)) inferInstance
 (.opt (h0_1)[(Int.toNat i)]? fun z1 =>
 (.opt (ref12_Take.c z1.id z1.kind z1.lo z1.hi z1.most b) fun z2 =>
 (.bb (z2.2.2.2 != (0 : Int))
 (.ret (.inr (.inr (b, (z2.2.2.2, ((0 : Int), h3))))))
 (.dd ((((((List.length h3) + (List.length ((Go.Proofs.Ytmlbioapefgioaa.Va.ValueV.mk z2.1 z2.2.1) :: ([] : List (ValueV))))) * (24 : Nat)) ≤ (140737488355328 : Nat)) ∧ (((List.length h3) + (List.length ((Go.Proofs.Ytmlbioapefgioaa.Va.ValueV.mk z2.1 z2.2.1) :: ([] : List (ValueV))))) ≤ (140737488355328 : Nat)))) inferInstance
 (.dd ((((0 : Int) ≤ z2.2.2.1) ∧ (z2.2.2.1 ≤ (((List.length b) : Nat) : Int)))) inferInstance
 (.ret (.inl ((List.drop (Int.toNat z2.2.2.1) b), ((w64 (i + (1 : Int))), (h3 ++ ((Go.Proofs.Ytmlbioapefgioaa.Va.ValueV.mk z2.1 z2.2.1) :: ([] : List (ValueV))))))))
 .no)
 .no))))
 .no)
 (.ret (.inr (.inl (b, h3)))))
def L3 (b : (List Int)) (i h0_0 : Int) (h0_1 : (List FieldV)) (h1_0 h2_0 : Int) (h3 : (List ValueV)) : Option X3 := Lp (fun s => (l3 h0_0 h0_1 h1_0 h2_0 s.1 s.2.1 s.2.2).run) (b, (i, h3))
def p3 : Pt := (.cs (.bots 1) (.cs (.sl 2) (.cs (.ptr 0 0) (.cs (.bots 1) (.cs (.ptr 1 0) (.cs (.bots 1) (.cs (.ptr 2 0) (jC (.cs (.bots 42) .nl)))))))))
def q3 : Pt := (.cs (.var (jC (.cs (.sl 23) .nl))) (.cs (.var (jC (.cs .nils .nl))) (.cs (.var (jC (.cs (.own 3) .nl))) (.cs (.row 24 true) .nl))))
def ou3 (l : T3) (y : X3) : Ex × St U := (Sum.elim (fun a0 => (.exit 0, stOf 50 [(1, .im (.slice 2 a0.1)), (4, .ptr 0 0), (6, .ptr 1 0)] [.var [jI l.2.2.1.1, .im .nils], .var [jI l.2.2.2.1.1, .own 2], .row 24 a0.2 true] 0)) (fun b0 => (.ret, stOf 50 [(1, .im (.slice 2 b0.1)), (4, .ptr 0 0), (5, jI b0.2.1), (6, .ptr 1 0)] [.var [jI b0.2.2.1, .im .nils], .var [jI l.2.2.2.1.1, .own 2], .row 24 b0.2.2.2 true] 0)) y)
def Λ3 : LFun U := mkLp p3 q3 0 (X := X3) (fun (l : T3) => L3 l.1.2.1 (d4 l.1).2.2.2.1 l.2.1.1 l.2.1.2.1 l.2.2.1.1 l.2.2.2.1.1 (d4 l).1) (spS sp1) ou3
def hd3 (l : T3) (s : S3) : T3 := (((), (s.1, ((), ((), ((), ((), ((), (s.2.1, ((), ()))))))))), ((l.2.1.1, (l.2.1.2.1, ())), ((l.2.2.1.1, ((), ())), ((l.2.2.2.1.1, ((), ())), (s.2.2, ())))))
def fl3 (l : T3) (s : S3) : Tw (S3 ⊕ X3) := l3 l.2.1.1 l.2.1.2.1 l.2.2.1.1 l.2.2.2.1.1 s.1 s.2.1 s.2.2
def t (f_0 : Int) (f_1 : (List FieldV)) (b : (List Int)) : Tw XA :=
 (.opt (L3 b (0 : Int) f_0 f_1 (0 : Int) f_0 ([] : List (ValueV))) fun z3 =>
 (.sm z3
 (fun z4 => (.bb (decide ((((List.length z4.1) : Nat) : Int) > (0 : Int)))
 (.ret ((0 : Int), ((6 : Int), ([] : List (ValueV)))))
 (.ret (f_0, ((0 : Int), z4.2)))))
 (fun z5 => (.ret (z5.2.2.1, (z5.2.1, ([] : List (ValueV))))))))
def c (f_0 : Int) (f_1 : (List FieldV)) (b : (List Int)) : Option XA := (t f_0 f_1 b).run
def tl (l : TA) : Tw XA := t l.1.1.1 l.1.1.2.1 l.1.2.1
def pA : Pt := (.cs (.agg (jC (.cs (.sl 23) .nl))) (.cs (.sl 2) .nl))
def pH : Pt := .nl
def v (l : TA) (y : XA) : AV U := .tup [.agg [jI y.1, .own 0], jI y.2.1]
def hh (l : TA) (y : XA) : Hp U := [.row 24 y.2.2 true]
def A : AFun U := mkA pA pH (X := XA) (fun l => (tl l).run) sp1 v hh
def body := bodyOf Try.f88
def E : Env U := E0.mk5 [(114, ref12_Take.A)] [(3, Λ3)] [] [(3, ⟨[4, 7, 1, 6, 2], [(6, [.to 1], .own 24)]⟩, ⟨[4, 5, 6, 1], []⟩)] []
theorem hf3 : HF E (pick (loopsOf body) 3) p3 q3 0 fl3 hd3 (spS sp1) ou3 := fun _ _ _ _ => by kernel_rfl
theorem lk3 : LK E (pick (loopsOf body) 3) Λ3 := fun R st K r h =>
  lp_ok (E := E) (b := pick (loopsOf body) 3) (m := 0) (sp := (spS sp1)) (p := p3) (q := q3) (X := X3) (S := S3) (f := fl3) (hd := hd3) (s0 := fun (l : T3) => (l.1.2.1, ((d4 l.1).2.2.2.1, (d4 l).1))) (ou := ou3)
    (fun l => rfl) (fun l x => by repeat' (first | rfl | (cases x with | inl => rfl | inr x => ?_))) (spS_ok sp1_ok) hf3 h
theorem hk : HK E Try.f88 [(0, [.cell 1], .own 24)] pA pH tl v hh := fun _ _ _ => by kernel_rfl
theorem og : SoundF Try.prog cc 88 A ∧ FnOK Try.prog 88 :=
 og_of (E := E) P_mixed (E0_ok.mk5 _ _ _ _ _) (gam_of (all_cons ref12_Take.og all_nil) no_ro) Try.func88 (c := body) (by kernel_rfl)
    (just_by (by kernel_rfl) (by kernel_rfl) (all_cons lk3 all_nil) all_nil) [(0, [.cell 1], .own 24)] sp1_ok hk (by kernel_rfl)
end ref14_Take

end
end Go.Proofs.Ytmlbioapefgioaa.Va
