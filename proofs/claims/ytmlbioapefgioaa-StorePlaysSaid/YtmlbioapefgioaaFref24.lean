/- The functions of package ref24, as plain functions, and that the program computes them. Printed by a program of this work out of the evaluator. -/
import Derived.Test.YtmlbioapefgioaaEn
import Derived.Tactics
import Derived.Test.YtmlbioapefgioaaFref18
import Derived.Test.YtmlbioapefgioaaFref23
set_option linter.unusedVariables false
namespace Go.Proofs.Ytmlbioapefgioaa.Va
noncomputable section
open Go
set_option maxRecDepth 100000

/-! instar/instarref24.Flat -/
namespace ref24_Flat
abbrev TA : Type := (((List (List ItemV)) × Unit) × Unit)
abbrev T3 : Type := (((List (List ItemV)) × (Unit × (Unit × (Int × (Unit × Unit))))) × ((List ItemV) × Unit))
abbrev S3 : Type := (Int × (List ItemV))
def l3 (l_ : (List (List ItemV))) (i : Int) (h0 : (List ItemV)) : Tw (S3 ⊕ (List ItemV)) :=
 (.bb (decide (i < (((List.length l_) : Nat) : Int)))
 (.dd (((0 : Int) ≤ i)) inferInstance
 (.opt (l_)[(Int.toNat i)]? fun z1 =>
 (.dd ((((((List.length h0) + (List.length z1)) * (24 : Nat)) ≤ (140737488355328 : Nat)) ∧ (((List.length h0) + (List.length z1)) ≤ (140737488355328 : Nat)))) inferInstance
 (.ret (.inl ((w64 (i + (1 : Int))), (h0 ++ z1))))
 .no))
 .no)
 (.ret (.inr h0)))
def L3 (l_ : (List (List ItemV))) (i : Int) (h0 : (List ItemV)) : Option (List ItemV) := Lp (fun s => (l3 l_ s.1 s.2).run) (i, h0)
def p3 : Pt := (.cs (.sl 11) (.cs (.bots 2) (.cs (.own 0) (jC (.cs (.bots 13) .nl)))))
def q3 : Pt := (.cs (.row 10 true) .nl)
def ou3 (l : T3) (y : (List ItemV)) : Ex × St U := (.exit 0, stOf 18 [(3, .own 0)] [.row 10 y true] 0)
def Λ3 : LFun U := mkLp p3 q3 0 (X := (List ItemV)) (fun (l : T3) => L3 l.1.1 l.1.2.2.2.1 l.2.1) sp1 ou3
def hd3 (l : T3) (s : S3) : T3 := ((l.1.1, ((), ((), (s.1, ((), ()))))), (s.2, ()))
def fl3 (l : T3) (s : S3) : Tw (S3 ⊕ (List ItemV)) := l3 l.1.1 s.1 s.2
def t (l_ : (List (List ItemV))) : Tw (List ItemV) :=
 (.opt (L3 l_ (0 : Int) ([] : List (ItemV))) fun z2 =>
 (.ret z2))
def c (l_ : (List (List ItemV))) : Option (List ItemV) := (t l_).run
def tl (l : TA) : Tw (List ItemV) := t l.1.1
def pA : Pt := (.cs (.sl 11) .nl)
def pH : Pt := .nl
def v (l : TA) (y : (List ItemV)) : AV U := .own 0
def hh (l : TA) (y : (List ItemV)) : Hp U := [.row 10 y true]
def A : AFun U := mkA pA pH (X := (List ItemV)) (fun l => (tl l).run) sp1 v hh
def body := bodyOf Try.f16
def E : Env U := E0.mk5 [] [(3, Λ3)] [] [(3, ⟨[4, 0, 3], [(3, [], .own 10)]⟩, ⟨[2, 3], []⟩)] []
theorem hf3 : HF E (pick (loopsOf body) 3) p3 q3 0 fl3 hd3 sp1 ou3 := fun _ _ _ _ => by kernel_rfl
theorem lk3 : LK E (pick (loopsOf body) 3) Λ3 := fun R st K r h =>
  lp_ok (E := E) (b := pick (loopsOf body) 3) (m := 0) (sp := sp1) (p := p3) (q := q3) (X := (List ItemV)) (S := S3) (f := fl3) (hd := hd3) (s0 := fun (l : T3) => (l.1.2.2.2.1, l.2.1)) (ou := ou3)
    (fun l => rfl) (fun l x => by rfl) sp1_ok hf3 h
theorem hk : HK E Try.f16 [] pA pH tl v hh := fun _ _ _ => by kernel_rfl
theorem og : SoundF Try.prog cc 16 A ∧ FnOK Try.prog 16 :=
 og_of (E := E) P_mixed (E0_ok.mk5 _ _ _ _ _) (gam_of all_nil all_nil) Try.func16 (c := body) (by kernel_rfl)
    (just_by (by kernel_rfl) (by kernel_rfl) (all_cons lk3 all_nil) all_nil) [] sp1_ok hk (by kernel_rfl)
end ref24_Flat

/-! instar/instarref24.Same -/
namespace ref24_Same
abbrev TA : Type := (((List (List ItemV)) × ((List (List ItemV)) × Unit)) × Unit)
abbrev T4 : Type := (((List (List ItemV)) × ((List (List ItemV)) × (Unit × (Int × (Unit × Unit))))) × Unit)
abbrev X4 : Type := (Unit ⊕ Bool)
def l4 (a : (List (List ItemV))) (b : (List (List ItemV))) (i : Int) : Tw (Int ⊕ X4) :=
 (.bb (decide (i < (((List.length a) : Nat) : Int)))
 (.dd (((0 : Int) ≤ i)) inferInstance
 (.opt (a)[(Int.toNat i)]? fun z1 =>
 (.dd (((0 : Int) ≤ i)) inferInstance
 (.opt (b)[(Int.toNat i)]? fun z2 =>
 (.opt (ref18_Same.c z1 z2) fun z3 =>
 (.bb (!z3)
 (.ret (.inr (.inr false)))
 (.ret (.inl (w64 (i + (1 : Int))))))))
 .no))
 .no)
 (.ret (.inr (.inl ()))))
def L4 (a : (List (List ItemV))) (b : (List (List ItemV))) (i : Int) : Option X4 := Lp (fun s => (l4 a b s).run) i
def p4 : Pt := (.cs (.sl 11) (.cs (.sl 11) (.cs (.bots 3) (jC (.cs (.bots 21) .nl)))))
def q4 : Pt := .nl
def ou4 (l : T4) (y : X4) : Ex × St U := (Sum.elim (fun a0 => (.exit 0, stOf 27 [] [] 0)) (fun b0 => (.ret, stOf 27 [(4, jB b0)] [] 0)) y)
def Λ4 : LFun U := mkLp p4 q4 0 (X := X4) (fun (l : T4) => L4 l.1.1 l.1.2.1 l.1.2.2.2.1) (spS sp1) ou4
def hd4 (l : T4) (s : Int) : T4 := ((l.1.1, (l.1.2.1, ((), (s, ((), ()))))), ())
def fl4 (l : T4) (s : Int) : Tw (Int ⊕ X4) := l4 l.1.1 l.1.2.1 s
def t (a : (List (List ItemV))) (b : (List (List ItemV))) : Tw Bool :=
 (.bb ((((List.length a) : Nat) : Int) != (((List.length b) : Nat) : Int))
 (.ret false)
 (.opt (L4 a b (0 : Int)) fun z4 =>
 (.sm z4
 (fun z5 => (.ret true))
 (fun z6 => (.ret z6)))))
def c (a : (List (List ItemV))) (b : (List (List ItemV))) : Option Bool := (t a b).run
def tl (l : TA) : Tw Bool := t l.1.1 l.1.2.1
def pA : Pt := (.cs (.sl 11) (.cs (.sl 11) .nl))
def pH : Pt := .nl
def v (l : TA) (y : Bool) : AV U := jB y
def hh (l : TA) (y : Bool) : Hp U := []
def A : AFun U := mkA pA pH (X := Bool) (fun l => (tl l).run) sp1 v hh
def body := bodyOf Try.f19
def E : Env U := E0.mk5 [(14, ref18_Same.A)] [(4, Λ4)] [] [(4, ⟨[5, 1, 0], []⟩, ⟨[4], []⟩)] []
theorem hf4 : HF E (pick (loopsOf body) 4) p4 q4 0 fl4 hd4 (spS sp1) ou4 := fun _ _ _ _ => by kernel_rfl
theorem lk4 : LK E (pick (loopsOf body) 4) Λ4 := fun R st K r h =>
  lp_ok (E := E) (b := pick (loopsOf body) 4) (m := 0) (sp := (spS sp1)) (p := p4) (q := q4) (X := X4) (S := Int) (f := fl4) (hd := hd4) (s0 := fun (l : T4) => l.1.2.2.2.1) (ou := ou4)
    (fun l => rfl) (fun l x => by repeat' (first | rfl | (cases x with | inl => rfl | inr x => ?_))) (spS_ok sp1_ok) hf4 h
theorem hk : HK E Try.f19 [] pA pH tl v hh := fun _ _ _ => by kernel_rfl
theorem og : SoundF Try.prog cc 19 A ∧ FnOK Try.prog 19 :=
 og_of (E := E) P_mixed (E0_ok.mk5 _ _ _ _ _) (gam_of (all_cons ref18_Same.og all_nil) no_ro) Try.func19 (c := body) (by kernel_rfl)
    (just_by (by kernel_rfl) (by kernel_rfl) (all_cons lk4 all_nil) all_nil) [] sp1_ok hk (by kernel_rfl)
end ref24_Same

/-! instar/instarref24.At -/
namespace ref24_At
abbrev TA : Type := (((List (List ItemV)) × (Int × Unit)) × Unit)
abbrev T2 : Type := (((List (List ItemV)) × (Int × (Unit × (Int × (Unit × Unit))))) × Unit)
abbrev X2 : Type := (Unit ⊕ Int)
def l2 (l_ : (List (List ItemV))) (key i : Int) : Tw (Int ⊕ X2) :=
 (.bb (decide (i > (0 : Int)))
 (.dd (((0 : Int) ≤ i)) inferInstance
 (.opt (l_)[(Int.toNat i)]? fun z1 =>
 (.opt (z1)[(Int.toNat (0 : Int))]? fun z2 =>
 (.bb (decide (z2.key ≤ key))
 (.ret (.inr (.inr i)))
 (.ret (.inl (w64 (i - (1 : Int))))))))
 .no)
 (.ret (.inr (.inl ()))))
def L2 (l_ : (List (List ItemV))) (key i : Int) : Option X2 := Lp (fun s => (l2 l_ key s).run) i
def p2 : Pt := (.cs (.sl 11) (.cs (.int .u32) (.cs (.bots 3) (jC (.cs (.bots 20) .nl)))))
def q2 : Pt := .nl
def ou2 (l : T2) (y : X2) : Ex × St U := (Sum.elim (fun a0 => (.exit 0, stOf 26 [(0, .im (.slice 11 l.1.1))] [] 0)) (fun b0 => (.ret, stOf 26 [(0, .im (.slice 11 l.1.1)), (4, jI b0)] [] 0)) y)
def Λ2 : LFun U := mkLp p2 q2 0 (X := X2) (fun (l : T2) => L2 l.1.1 l.1.2.1 l.1.2.2.2.1) (spS sp1) ou2
def hd2 (l : T2) (s : Int) : T2 := ((l.1.1, (l.1.2.1, ((), (s, ((), ()))))), ())
def fl2 (l : T2) (s : Int) : Tw (Int ⊕ X2) := l2 l.1.1 l.1.2.1 s
def t (l_ : (List (List ItemV))) (key : Int) : Tw Int :=
 (.opt (L2 l_ key (w64 ((((List.length l_) : Nat) : Int) - (1 : Int)))) fun z3 =>
 (.sm z3
 (fun z4 => (.bb ((((List.length l_) : Nat) : Int) == (0 : Int))
 (.ret (-(1 : Int)))
 (.ret (0 : Int))))
 (fun z5 => (.ret z5))))
def c (l_ : (List (List ItemV))) (key : Int) : Option Int := (t l_ key).run
def tl (l : TA) : Tw Int := t l.1.1 l.1.2.1
def pA : Pt := (.cs (.sl 11) (.cs (.int .u32) .nl))
def pH : Pt := .nl
def v (l : TA) (y : Int) : AV U := jI y
def hh (l : TA) (y : Int) : Hp U := []
def A : AFun U := mkA pA pH (X := Int) (fun l => (tl l).run) sp1 v hh
def body := bodyOf Try.f23
def E : Env U := E0.mk5 [] [(2, Λ2)] [] [(2, ⟨[5, 1, 0], []⟩, ⟨[4, 0], []⟩)] []
theorem hf2 : HF E (pick (loopsOf body) 2) p2 q2 0 fl2 hd2 (spS sp1) ou2 := fun _ _ _ _ => by kernel_rfl
theorem lk2 : LK E (pick (loopsOf body) 2) Λ2 := fun R st K r h =>
  lp_ok (E := E) (b := pick (loopsOf body) 2) (m := 0) (sp := (spS sp1)) (p := p2) (q := q2) (X := X2) (S := Int) (f := fl2) (hd := hd2) (s0 := fun (l : T2) => l.1.2.2.2.1) (ou := ou2)
    (fun l => rfl) (fun l x => by repeat' (first | rfl | (cases x with | inl => rfl | inr x => ?_))) (spS_ok sp1_ok) hf2 h
theorem hk : HK E Try.f23 [] pA pH tl v hh := fun _ _ _ => by kernel_rfl
theorem og : SoundF Try.prog cc 23 A ∧ FnOK Try.prog 23 :=
 og_of (E := E) P_mixed (E0_ok.mk5 _ _ _ _ _) (gam_of all_nil all_nil) Try.func23 (c := body) (by kernel_rfl)
    (just_by (by kernel_rfl) (by kernel_rfl) (all_cons lk2 all_nil) all_nil) [] sp1_ok hk (by kernel_rfl)
end ref24_At

/-! instar/instarref24.half -/
namespace ref24_half
abbrev TA : Type := (((List ItemV) × Unit) × Unit)
abbrev T2 : Type := (((List ItemV) × (Unit × (Int × (Unit × Unit)))) × Unit)
def l2 (l_ : (List ItemV)) (n : Int) : Tw (Int ⊕ Int) :=
 (.bb (decide (n < (((List.length l_) : Nat) : Int)))
 (.dd ((((0 : Int) ≤ (w64 (n + (1 : Int)))) ∧ ((w64 (n + (1 : Int))) ≤ (((List.length l_) : Nat) : Int)))) inferInstance
 (.opt (ref23_Total.c (List.take (Int.toNat (w64 (n + (1 : Int)))) l_)) fun z1 =>
 (.opt (ref23_Total.c l_) fun z2 =>
 (.bb (decide (z1 ≤ (w64 (Int.tdiv z2 (2 : Int)))))
 (.ret (.inl (w64 (n + (1 : Int)))))
 (.ret (.inr n)))))
 .no)
 (.ret (.inr n)))
def L2 (l_ : (List ItemV)) (n : Int) : Option Int := Lp (fun s => (l2 l_ s).run) n
def p2 : Pt := (.cs (.sl 10) (.cs (.bots 2) (jC (.cs (.bots 18) .nl))))
def q2 : Pt := .nl
def ou2 (l : T2) (y : Int) : Ex × St U := (.exit 0, stOf 22 [(3, jI y)] [] 0)
def Λ2 : LFun U := mkLp p2 q2 0 (X := Int) (fun (l : T2) => L2 l.1.1 l.1.2.2.1) sp1 ou2
def hd2 (l : T2) (s : Int) : T2 := ((l.1.1, ((), (s, ((), ())))), ())
def fl2 (l : T2) (s : Int) : Tw (Int ⊕ Int) := l2 l.1.1 s
def t (l_ : (List ItemV)) : Tw Int :=
 (.opt (L2 l_ (1 : Int)) fun z3 =>
 (.ret z3))
def c (l_ : (List ItemV)) : Option Int := (t l_).run
def tl (l : TA) : Tw Int := t l.1.1
def pA : Pt := (.cs (.sl 10) .nl)
def pH : Pt := .nl
def v (l : TA) (y : Int) : AV U := jI y
def hh (l : TA) (y : Int) : Hp U := []
def A : AFun U := mkA pA pH (X := Int) (fun l => (tl l).run) sp1 v hh
def body := bodyOf Try.f67
def E : Env U := E0.mk5 [(57, ref23_Total.A)] [(2, Λ2)] [] [(2, ⟨[3, 0], []⟩, ⟨[2, 3], []⟩)] []
theorem hf2 : HF E (pick (loopsOf body) 2) p2 q2 0 fl2 hd2 sp1 ou2 := fun _ _ _ _ => by kernel_rfl
theorem lk2 : LK E (pick (loopsOf body) 2) Λ2 := fun R st K r h =>
  lp_ok (E := E) (b := pick (loopsOf body) 2) (m := 0) (sp := sp1) (p := p2) (q := q2) (X := Int) (S := Int) (f := fl2) (hd := hd2) (s0 := fun (l : T2) => l.1.2.2.1) (ou := ou2)
    (fun l => rfl) (fun l x => by rfl) sp1_ok hf2 h
theorem hk : HK E Try.f67 [] pA pH tl v hh := fun _ _ _ => by kernel_rfl
theorem og : SoundF Try.prog cc 67 A ∧ FnOK Try.prog 67 :=
 og_of (E := E) P_mixed (E0_ok.mk5 _ _ _ _ _) (gam_of (all_cons ref23_Total.og all_nil) no_ro) Try.func67 (c := body) (by kernel_rfl)
    (just_by (by kernel_rfl) (by kernel_rfl) (all_cons lk2 all_nil) all_nil) [] sp1_ok hk (by kernel_rfl)
end ref24_half

/-! instar/instarref24.put -/
namespace ref24_put
abbrev TA : Type := (((List (List ItemV)) × (Int × (Int × ((List (List ItemV)) × Unit)))) × Unit)
def t (l_ : (List (List ItemV))) (from_ old : Int) (more : (List (List ItemV))) : Tw (List (List ItemV)) :=
 (.dd ((((0 : Int) ≤ from_) ∧ (from_ ≤ (((List.length l_) : Nat) : Int)))) inferInstance
 (.dd (((((List.length (List.take (Int.toNat from_) l_)) * (24 : Nat)) ≤ (140737488355328 : Nat)) ∧ ((List.length (List.take (Int.toNat from_) l_)) ≤ (140737488355328 : Nat)))) inferInstance
 (.dd ((((((List.length (List.take (Int.toNat from_) l_)) + (List.length more)) * (24 : Nat)) ≤ (140737488355328 : Nat)) ∧ (((List.length (List.take (Int.toNat from_) l_)) + (List.length more)) ≤ (140737488355328 : Nat)))) inferInstance
 (.dd ((((0 : Int) ≤ (w64 (from_ + old))) ∧ ((w64 (from_ + old)) ≤ (((List.length l_) : Nat) : Int)))) inferInstance
 (.dd ((((((List.length ((List.take (Int.toNat from_) l_) ++ more)) + (List.length (List.drop (Int.toNat (w64 (from_ + old))) l_))) * (24 : Nat)) ≤ (140737488355328 : Nat)) ∧ (((List.length ((List.take (Int.toNat from_) l_) ++ more)) + (List.length (List.drop (Int.toNat (w64 (from_ + old))) l_))) ≤ (140737488355328 : Nat)))) inferInstance
 (.ret (((List.take (Int.toNat from_) l_) ++ more) ++ (List.drop (Int.toNat (w64 (from_ + old))) l_)))
 .no)
 .no)
 .no)
 .no)
 .no)
def c (l_ : (List (List ItemV))) (from_ old : Int) (more : (List (List ItemV))) : Option (List (List ItemV)) := (t l_ from_ old more).run
def tl (l : TA) : Tw (List (List ItemV)) := t l.1.1 l.1.2.1 l.1.2.2.1 l.1.2.2.2.1
def pA : Pt := (.cs (.sl 11) (jC (jC (.cs (.sl 11) .nl))))
def pH : Pt := .nl
def v (l : TA) (y : (List (List ItemV))) : AV U := .own 0
def hh (l : TA) (y : (List (List ItemV))) : Hp U := [.row 11 y true]
def A : AFun U := mkA pA pH (X := (List (List ItemV))) (fun l => (tl l).run) sp1 v hh
def body := bodyOf Try.f65
def E : Env U := E0.mk5 [] [] [] [] []
theorem hk : HK E Try.f65 [] pA pH tl v hh := fun _ _ _ => by kernel_rfl
theorem okF : SoundF Try.prog cc 65 (funcA E Try.f65 []) :=
  funcA_ok (E := E) P_mixed (E0_ok.mk5 _ _ _ _ _) (gam_of all_nil all_nil) Try.func65 (c := body) (by kernel_rfl)
    (just_by (by kernel_rfl) (by kernel_rfl) all_nil all_nil) []
theorem ok : SoundF Try.prog cc 65 A :=
  mkA_ok (E := E) (p := pA) (q := pH) (t := tl) sp1_ok hk okF
theorem fo : FnOK Try.prog 65 := ⟨Try.f65, Try.func65, by kernel_rfl, by kernel_rfl⟩
end ref24_put

/-! instar/instarref24.Put -/
namespace ref24_Put
abbrev TA : Type := (((List (List ItemV)) × (Int × ((Int × (ByteArray × Unit)) × Unit))) × Unit)
abbrev XA : Type := (Int × (Int × (Int × (List (List ItemV)))))
def t (l_ : (List (List ItemV))) (room x_0 : Int) (x_1 : ByteArray) : Tw XA :=
 (.opt (ref24_At.c l_ x_0) fun z1 =>
 (.bb (decide (z1 < (0 : Int)))
 (.ret ((0 : Int), ((0 : Int), ((1 : Int), (((Go.Proofs.Ytmlbioapefgioaa.Va.ItemV.mk x_0 x_1) :: ([] : List (ItemV))) :: ([] : List (List ItemV)))))))
 (.dd (((0 : Int) ≤ z1)) inferInstance
 (.opt (l_)[(Int.toNat z1)]? fun z2 =>
 (.opt (ref18_Put.c z2 x_0 x_1) fun z3 =>
 (.opt (ref23_Total.c z3) fun z4 =>
 (.bb (decide (z4 ≤ room))
 (.opt (ref24_put.c l_ z1 (1 : Int) (z3 :: ([] : List (List ItemV)))) fun z7 =>
 (.ret (z1, ((1 : Int), ((1 : Int), z7)))))
 (.opt (ref24_half.c z3) fun z5 =>
 (.dd ((((0 : Int) ≤ z5) ∧ (z5 ≤ (((List.length z3) : Nat) : Int)))) inferInstance
 (.dd ((((0 : Int) ≤ z5) ∧ (z5 ≤ (((List.length z3) : Nat) : Int)))) inferInstance
 (.opt (ref24_put.c l_ z1 (1 : Int) ((List.take ((Int.toNat z5) - (0 : Nat)) (List.drop (0 : Nat) z3)) :: ((List.take ((List.length z3) - (Int.toNat z5)) (List.drop (Int.toNat z5) z3)) :: ([] : List (List ItemV))))) fun z6 =>
 (.ret (z1, ((1 : Int), ((2 : Int), z6)))))
 .no)
 .no))))))
 .no)))
def c (l_ : (List (List ItemV))) (room x_0 : Int) (x_1 : ByteArray) : Option XA := (t l_ room x_0 x_1).run
def tl (l : TA) : Tw XA := t l.1.1 l.1.2.1 l.1.2.2.1.1 l.1.2.2.1.2.1
def pA : Pt := (.cs (.sl 11) (jC (.cs (.agg (.cs (.int .u32) (.cs .str .nl))) .nl)))
def pH : Pt := .nl
def v (l : TA) (y : XA) : AV U := .tup [.own 0, .agg [jI y.1, jI y.2.1, jI y.2.2.1]]
def hh (l : TA) (y : XA) : Hp U := [.row 11 y.2.2.2 true]
def A : AFun U := mkA pA pH (X := XA) (fun l => (tl l).run) sp1 v hh
def body := bodyOf Try.f27
def E : Env U := E0.mk5 [(23, ref24_At.A), (28, ref18_Put.A), (57, ref23_Total.A), (67, ref24_half.A), (65, ref24_put.A)] [] [] [] []
theorem hk : HK E Try.f27 [] pA pH tl v hh := fun _ _ _ => by kernel_rfl
theorem og : SoundF Try.prog cc 27 A ∧ FnOK Try.prog 27 :=
 og_of (E := E) P_mixed (E0_ok.mk5 _ _ _ _ _) (gam_of (all_cons ref24_At.og (all_cons ref18_Put.og (all_cons ref23_Total.og (all_cons ref24_half.og (all_cons ⟨ref24_put.ok, ref24_put.fo⟩ all_nil))))) no_ro) Try.func27 (c := body) (by kernel_rfl)
    (just_by (by kernel_rfl) (by kernel_rfl) all_nil all_nil) [] sp1_ok hk (by kernel_rfl)
end ref24_Put

/-! instar/instarref24.put -/
namespace ref24_put_none3
abbrev TA : Type := (((List (List ItemV)) × (Int × (Int × (Unit × Unit)))) × Unit)
def t (l_ : (List (List ItemV))) (from_ old : Int) : Tw (List (List ItemV)) :=
 (.dd ((((0 : Int) ≤ from_) ∧ (from_ ≤ (((List.length l_) : Nat) : Int)))) inferInstance
 (.dd (((((List.length (List.take (Int.toNat from_) l_)) * (24 : Nat)) ≤ (140737488355328 : Nat)) ∧ ((List.length (List.take (Int.toNat from_) l_)) ≤ (140737488355328 : Nat)))) inferInstance
 (.dd ((((0 : Int) ≤ (w64 (from_ + old))) ∧ ((w64 (from_ + old)) ≤ (((List.length l_) : Nat) : Int)))) inferInstance
 (.dd ((((((List.length (List.take (Int.toNat from_) l_)) + (List.length (List.drop (Int.toNat (w64 (from_ + old))) l_))) * (24 : Nat)) ≤ (140737488355328 : Nat)) ∧ (((List.length (List.take (Int.toNat from_) l_)) + (List.length (List.drop (Int.toNat (w64 (from_ + old))) l_))) ≤ (140737488355328 : Nat)))) inferInstance
 (.ret ((List.take (Int.toNat from_) l_) ++ (List.drop (Int.toNat (w64 (from_ + old))) l_)))
 .no)
 .no)
 .no)
 .no)
def c (l_ : (List (List ItemV))) (from_ old : Int) : Option (List (List ItemV)) := (t l_ from_ old).run
def tl (l : TA) : Tw (List (List ItemV)) := t l.1.1 l.1.2.1 l.1.2.2.1
def pA : Pt := (.cs (.sl 11) (jC (jC (.cs .nils .nl))))
def pH : Pt := .nl
def v (l : TA) (y : (List (List ItemV))) : AV U := .own 0
def hh (l : TA) (y : (List (List ItemV))) : Hp U := [.row 11 y true]
def A : AFun U := mkA pA pH (X := (List (List ItemV))) (fun l => (tl l).run) sp1 v hh
def body := bodyOf Try.f65
def E : Env U := E0.mk5 [] [] [] [] []
theorem hk : HK E Try.f65 [] pA pH tl v hh := fun _ _ _ => by kernel_rfl
theorem okF : SoundF Try.prog cc 65 (funcA E Try.f65 []) :=
  funcA_ok (E := E) P_mixed (E0_ok.mk5 _ _ _ _ _) (gam_of all_nil all_nil) Try.func65 (c := body) (by kernel_rfl)
    (just_by (by kernel_rfl) (by kernel_rfl) all_nil all_nil) []
theorem ok : SoundF Try.prog cc 65 A :=
  mkA_ok (E := E) (p := pA) (q := pH) (t := tl) sp1_ok hk okF
theorem fo : FnOK Try.prog 65 := ⟨Try.f65, Try.func65, by kernel_rfl, by kernel_rfl⟩
end ref24_put_none3

/-! instar/instarref24.Cut -/
namespace ref24_Cut
abbrev TA : Type := (((List (List ItemV)) × (Int × (Int × Unit))) × Unit)
abbrev XA : Type := ((List (List ItemV)) × (Int × (Int × (Int × Bool))))
def t (l_ : (List (List ItemV))) (room key : Int) : Tw XA :=
 (.opt (ref24_At.c l_ key) fun z1 =>
 (.bb (decide (z1 < (0 : Int)))
 (.ret (([] : List (List ItemV)), ((0 : Int), ((0 : Int), ((0 : Int), false)))))
 (.dd (((0 : Int) ≤ z1)) inferInstance
 (.opt (l_)[(Int.toNat z1)]? fun z2 =>
 (.opt (ref18_Cut.c z2 key) fun z3 =>
 (.bb (!z3.1)
 (.ret (l_, ((0 : Int), ((0 : Int), ((0 : Int), false)))))
 (.opt (ref23_Total.c z3.2) fun z4 =>
 (.bb ((((List.length z3.2) : Nat) : Int) == (0 : Int))
 (.opt (ref24_put_none3.c l_ z1 (1 : Int)) fun z21 =>
 (.ret (z21, (z1, ((1 : Int), ((0 : Int), true))))))
 (.bb (decide ((w64 (z1 + (1 : Int))) < (((List.length l_) : Nat) : Int)))
 (.dd (((0 : Int) ≤ (w64 (z1 + (1 : Int))))) inferInstance
 (.opt (l_)[(Int.toNat (w64 (z1 + (1 : Int))))]? fun z11 =>
 (.opt (ref23_Total.c z11) fun z12 =>
 (.bb (decide ((w64 (z4 + z12)) ≤ (w64 (Int.tdiv room (2 : Int)))))
 (.dd (((((List.length z3.2) * (24 : Nat)) ≤ (140737488355328 : Nat)) ∧ ((List.length z3.2) ≤ (140737488355328 : Nat)))) inferInstance
 (.dd (((0 : Int) ≤ (w64 (z1 + (1 : Int))))) inferInstance
 (.opt (l_)[(Int.toNat (w64 (z1 + (1 : Int))))]? fun z19 =>
 (.dd ((((((List.length z3.2) + (List.length z19)) * (24 : Nat)) ≤ (140737488355328 : Nat)) ∧ (((List.length z3.2) + (List.length z19)) ≤ (140737488355328 : Nat)))) inferInstance
 (.opt (ref24_put.c l_ z1 (2 : Int) ((z3.2 ++ z19) :: ([] : List (List ItemV)))) fun z20 =>
 (.ret (z20, (z1, ((2 : Int), ((1 : Int), true))))))
 .no))
 .no)
 .no)
 (.bb (decide (z1 > (0 : Int)))
 (.dd (((0 : Int) ≤ (w64 (z1 - (1 : Int))))) inferInstance
 (.opt (l_)[(Int.toNat (w64 (z1 - (1 : Int))))]? fun z14 =>
 (.opt (ref23_Total.c z14) fun z15 =>
 (.bb (decide ((w64 (z4 + z15)) ≤ (w64 (Int.tdiv room (2 : Int)))))
 (.dd (((0 : Int) ≤ (w64 (z1 - (1 : Int))))) inferInstance
 (.opt (l_)[(Int.toNat (w64 (z1 - (1 : Int))))]? fun z17 =>
 (.dd (((((List.length z17) * (24 : Nat)) ≤ (140737488355328 : Nat)) ∧ ((List.length z17) ≤ (140737488355328 : Nat)))) inferInstance
 (.dd ((((((List.length z17) + (List.length z3.2)) * (24 : Nat)) ≤ (140737488355328 : Nat)) ∧ (((List.length z17) + (List.length z3.2)) ≤ (140737488355328 : Nat)))) inferInstance
 (.opt (ref24_put.c l_ (w64 (z1 - (1 : Int))) (2 : Int) ((z17 ++ z3.2) :: ([] : List (List ItemV)))) fun z18 =>
 (.ret (z18, ((w64 (z1 - (1 : Int))), ((2 : Int), ((1 : Int), true))))))
 .no)
 .no))
 .no)
 (.opt (ref24_put.c l_ z1 (1 : Int) (z3.2 :: ([] : List (List ItemV)))) fun z16 =>
 (.ret (z16, (z1, ((1 : Int), ((1 : Int), true)))))))))
 .no)
 (.opt (ref24_put.c l_ z1 (1 : Int) (z3.2 :: ([] : List (List ItemV)))) fun z13 =>
 (.ret (z13, (z1, ((1 : Int), ((1 : Int), true))))))))))
 .no)
 (.bb (decide (z1 > (0 : Int)))
 (.dd (((0 : Int) ≤ (w64 (z1 - (1 : Int))))) inferInstance
 (.opt (l_)[(Int.toNat (w64 (z1 - (1 : Int))))]? fun z6 =>
 (.opt (ref23_Total.c z6) fun z7 =>
 (.bb (decide ((w64 (z4 + z7)) ≤ (w64 (Int.tdiv room (2 : Int)))))
 (.dd (((0 : Int) ≤ (w64 (z1 - (1 : Int))))) inferInstance
 (.opt (l_)[(Int.toNat (w64 (z1 - (1 : Int))))]? fun z9 =>
 (.dd (((((List.length z9) * (24 : Nat)) ≤ (140737488355328 : Nat)) ∧ ((List.length z9) ≤ (140737488355328 : Nat)))) inferInstance
 (.dd ((((((List.length z9) + (List.length z3.2)) * (24 : Nat)) ≤ (140737488355328 : Nat)) ∧ (((List.length z9) + (List.length z3.2)) ≤ (140737488355328 : Nat)))) inferInstance
 (.opt (ref24_put.c l_ (w64 (z1 - (1 : Int))) (2 : Int) ((z9 ++ z3.2) :: ([] : List (List ItemV)))) fun z10 =>
 (.ret (z10, ((w64 (z1 - (1 : Int))), ((2 : Int), ((1 : Int), true))))))
 .no)
 .no))
 .no)
 (.opt (ref24_put.c l_ z1 (1 : Int) (z3.2 :: ([] : List (List ItemV)))) fun z8 =>
 (.ret (z8, (z1, ((1 : Int), ((1 : Int), true)))))))))
 .no)
 (.opt (ref24_put.c l_ z1 (1 : Int) (z3.2 :: ([] : List (List ItemV)))) fun z5 =>
 (.ret (z5, (z1, ((1 : Int), ((1 : Int), true)))))))))))))
 .no)))
def c (l_ : (List (List ItemV))) (room key : Int) : Option XA := (t l_ room key).run
def tl (l : TA) : Tw XA := t l.1.1 l.1.2.1 l.1.2.2.1
def pA : Pt := (.cs (.sl 11) (jC (.cs (.int .u32) .nl)))
def pH : Pt := .nl
def v (l : TA) (y : XA) : AV U := .tup [.im (.slice 11 y.1), .agg [jI y.2.1, jI y.2.2.1, jI y.2.2.2.1], jB (d4 y)]
def hh (l : TA) (y : XA) : Hp U := []
def A : AFun U := mkA pA pH (X := XA) (fun l => (tl l).run) sp1 v hh
def body := bodyOf Try.f25
def E : Env U := E0.mk5 [(23, ref24_At.A), (29, ref18_Cut.A), (57, ref23_Total.A), (65, (orA ref24_put.pA ref24_put.pH ref24_put.A ref24_put_none3.A))] [] [] [] []
theorem hk : HK E Try.f25 [(0, [], .im 11)] pA pH tl v hh := fun _ _ _ => by kernel_rfl
theorem og : SoundF Try.prog cc 25 A ∧ FnOK Try.prog 25 :=
 og_of (E := E) P_mixed (E0_ok.mk5 _ _ _ _ _) (gam_of (all_cons ref24_At.og (all_cons ref18_Cut.og (all_cons ref23_Total.og (all_cons ⟨(orA_ok ref24_put.ok ref24_put_none3.ok), ref24_put.fo⟩ all_nil)))) no_ro) Try.func25 (c := body) (by kernel_rfl)
    (just_by (by kernel_rfl) (by kernel_rfl) all_nil all_nil) [(0, [], .im 11)] sp1_ok hk (by kernel_rfl)
end ref24_Cut

end
end Go.Proofs.Ytmlbioapefgioaa.Va
