/- The functions of package field, as plain functions, and that the program computes them. Printed by a program of this work out of the evaluator. -/
import Derived.Test.YtmlbioapefgioaaEn
import Derived.Tactics
set_option linter.unusedVariables false
namespace Go.Proofs.Ytmlbioapefgioaa.Va
noncomputable section
open Go
set_option maxRecDepth 100000

/-! instar/field.Right -/
namespace field_Right
abbrev TA : Type := (((Int × (Int × (Int × (Int × (Int × Unit))))) × Unit) × Unit)
def t (f_0 f_1 f_2 f_3 f_4 : Int) : Tw Bool :=
 (.bb (decide (f_0 < (0 : Int)))
 (.ret false)
 (.bb (decide (f_0 > (255 : Int)))
 (.ret false)
 (.bb (f_2 == (0 : Int))
 (.bb (f_1 == (1 : Int))
 (.bb (decide (f_2 ≥ (-(1099511627776 : Int))))
 (.bb (decide (f_2 ≤ f_3))
 (.bb (decide (f_3 ≤ (1099511627776 : Int)))
 (.ret (f_4 == (0 : Int)))
 (.ret false))
 (.ret false))
 (.ret false))
 (.bb (f_1 == (2 : Int))
 (.bb (f_3 == (0 : Int))
 (.ret (f_4 == (0 : Int)))
 (.ret false))
 (.bb (f_1 == (3 : Int))
 (.bb (f_3 == (0 : Int))
 (.bb (decide (f_4 ≥ (1 : Int)))
 (.ret (decide (f_4 ≤ (1000 : Int))))
 (.ret false))
 (.ret false))
 (.bb (f_1 == (4 : Int))
 (.bb (f_3 == (0 : Int))
 (.bb (decide (f_4 ≥ (0 : Int)))
 (.ret (decide (f_4 ≤ (32 : Int))))
 (.ret false))
 (.ret false))
 (.ret false)))))
 (.bb (f_1 == (1 : Int))
 (.bb (decide (f_2 ≥ (-(1099511627776 : Int))))
 (.bb (decide (f_2 ≤ f_3))
 (.bb (decide (f_3 ≤ (1099511627776 : Int)))
 (.ret (f_4 == (0 : Int)))
 (.ret false))
 (.ret false))
 (.ret false))
 (.bb (f_1 == (2 : Int))
 (.ret false)
 (.bb (f_1 == (3 : Int))
 (.ret false)
 (.bb (f_1 == (4 : Int))
 (.ret false)
 (.ret false))))))))
def c (f_0 f_1 f_2 f_3 f_4 : Int) : Option Bool := (t f_0 f_1 f_2 f_3 f_4).run
def tl (l : TA) : Tw Bool := t l.1.1.1 l.1.1.2.1 l.1.1.2.2.1 l.1.1.2.2.2.1 (d4 l.1.1).1
def pA : Pt := (.cs (.agg (jC (jC (jC (jC (jC .nl)))))) .nl)
def pH : Pt := .nl
def v (l : TA) (y : Bool) : AV U := jB y
def hh (l : TA) (y : Bool) : Hp U := []
def A : AFun U := mkA pA pH (X := Bool) (fun l => (tl l).run) sp1 v hh
def body := bodyOf Try.f124
def E : Env U := E0.mk5 [] [] [] [] []
theorem hk : HK E Try.f124 [] pA pH tl v hh := fun _ _ _ => by kernel_rfl
theorem og : SoundF Try.prog cc 124 A ∧ FnOK Try.prog 124 :=
 og_of (E := E) P_mixed (E0_ok.mk5 _ _ _ _ _) (gam_of all_nil all_nil) Try.func124 (c := body) (by kernel_rfl)
    (just_by (by kernel_rfl) (by kernel_rfl) all_nil all_nil) [] sp1_ok hk (by kernel_rfl)
end field_Right

/-! instar/field.bounds -/
namespace field_bounds
abbrev TA : Type := (((Int × (Int × (Int × (Int × (Int × Unit))))) × Unit) × Unit)
abbrev XA : Type := (Int × Int)
def t (f_0 f_1 f_2 f_3 f_4 : Int) : Tw XA :=
 (.bb (f_1 == (1 : Int))
 (.ret (f_2, f_3))
 (.bb (f_1 == (2 : Int))
 (.ret ((0 : Int), (1 : Int)))
 (.bb (f_1 == (3 : Int))
 (.ret ((0 : Int), (w64 (f_4 - (1 : Int)))))
 (.ret ((0 : Int), (0 : Int))))))
def c (f_0 f_1 f_2 f_3 f_4 : Int) : Option XA := (t f_0 f_1 f_2 f_3 f_4).run
def tl (l : TA) : Tw XA := t l.1.1.1 l.1.1.2.1 l.1.1.2.2.1 l.1.1.2.2.2.1 (d4 l.1.1).1
def pA : Pt := (.cs (.agg (jC (jC (jC (jC (jC .nl)))))) .nl)
def pH : Pt := .nl
def v (l : TA) (y : XA) : AV U := .tup [jI y.1, jI y.2]
def hh (l : TA) (y : XA) : Hp U := []
def A : AFun U := mkA pA pH (X := XA) (fun l => (tl l).run) sp1 v hh
def body := bodyOf Try.f129
def E : Env U := E0.mk5 [] [] [] [] []
theorem hk : HK E Try.f129 [] pA pH tl v hh := fun _ _ _ => by kernel_rfl
theorem og : SoundF Try.prog cc 129 A ∧ FnOK Try.prog 129 :=
 og_of (E := E) P_mixed (E0_ok.mk5 _ _ _ _ _) (gam_of all_nil all_nil) Try.func129 (c := body) (by kernel_rfl)
    (just_by (by kernel_rfl) (by kernel_rfl) all_nil all_nil) [] sp1_ok hk (by kernel_rfl)
end field_bounds

/-! instar/field.width -/
namespace field_width
abbrev TA : Type := ((Int × Unit) × Unit)
abbrev T2 : Type := ((Int × (Unit × (Int × (Unit × Unit)))) × Unit)
abbrev S2 : Type := (Int × Int)
def l2 (n w : Int) : Tw (S2 ⊕ Int) :=
 (.bb (decide (n > (0 : Int)))
 (.ret (.inl ((bShr .i64 n (8 : Int)), (w64 (w + (1 : Int))))))
 (.ret (.inr w)))
def L2 (n w : Int) : Option Int := Lp (fun s => (l2 s.1 s.2).run) (n, w)
def p2 : Pt := (jC (.cs (.bots 2) (jC (.cs (.bots 7) .nl))))
def q2 : Pt := .nl
def ou2 (l : T2) (y : Int) : Ex × St U := (.exit 0, stOf 11 [(3, jI y)] [] 0)
def Λ2 : LFun U := mkLp p2 q2 0 (X := Int) (fun (l : T2) => L2 l.1.1 l.1.2.2.1) sp1 ou2
def hd2 (l : T2) (s : S2) : T2 := ((s.1, ((), (s.2, ((), ())))), ())
def fl2 (l : T2) (s : S2) : Tw (S2 ⊕ Int) := l2 s.1 s.2
def t (n : Int) : Tw Int :=
 (.opt (L2 n (0 : Int)) fun z1 =>
 (.ret z1))
def c (n : Int) : Option Int := (t n).run
def tl (l : TA) : Tw Int := t l.1.1
def pA : Pt := (jC .nl)
def pH : Pt := .nl
def v (l : TA) (y : Int) : AV U := jI y
def hh (l : TA) (y : Int) : Hp U := []
def A : AFun U := mkA pA pH (X := Int) (fun l => (tl l).run) sp1 v hh
def body := bodyOf Try.f135
def E : Env U := E0.mk5 [] [(2, Λ2)] [] [(2, ⟨[0, 3], []⟩, ⟨[2, 3], []⟩)] []
theorem hf2 : HF E (pick (loopsOf body) 2) p2 q2 0 fl2 hd2 sp1 ou2 := fun _ _ _ _ => by kernel_rfl
theorem lk2 : LK E (pick (loopsOf body) 2) Λ2 := fun R st K r h =>
  lp_ok (E := E) (b := pick (loopsOf body) 2) (m := 0) (sp := sp1) (p := p2) (q := q2) (X := Int) (S := S2) (f := fl2) (hd := hd2) (s0 := fun (l : T2) => (l.1.1, l.1.2.2.1)) (ou := ou2)
    (fun l => rfl) (fun l x => by rfl) sp1_ok hf2 h
theorem hk : HK E Try.f135 [] pA pH tl v hh := fun _ _ _ => by kernel_rfl
theorem og : SoundF Try.prog cc 135 A ∧ FnOK Try.prog 135 :=
 og_of (E := E) P_mixed (E0_ok.mk5 _ _ _ _ _) (gam_of all_nil all_nil) Try.func135 (c := body) (by kernel_rfl)
    (just_by (by kernel_rfl) (by kernel_rfl) (all_cons lk2 all_nil) all_nil) [] sp1_ok hk (by kernel_rfl)
end field_width

/-! instar/field.wide -/
namespace field_wide
abbrev TA : Type := (((Int × (Int × (Int × (Int × (Int × Unit))))) × Unit) × Unit)
def t (f_0 f_1 f_2 f_3 f_4 : Int) : Tw Int :=
 (.opt (field_bounds.c f_0 f_1 f_2 f_3 f_4) fun z1 =>
 (.opt (field_width.c (w64 (z1.2 - z1.1))) fun z2 =>
 (.ret z2)))
def c (f_0 f_1 f_2 f_3 f_4 : Int) : Option Int := (t f_0 f_1 f_2 f_3 f_4).run
def tl (l : TA) : Tw Int := t l.1.1.1 l.1.1.2.1 l.1.1.2.2.1 l.1.1.2.2.2.1 (d4 l.1.1).1
def pA : Pt := (.cs (.agg (jC (jC (jC (jC (jC .nl)))))) .nl)
def pH : Pt := .nl
def v (l : TA) (y : Int) : AV U := jI y
def hh (l : TA) (y : Int) : Hp U := []
def A : AFun U := mkA pA pH (X := Int) (fun l => (tl l).run) sp1 v hh
def body := bodyOf Try.f130
def E : Env U := E0.mk5 [(129, field_bounds.A), (135, field_width.A)] [] [] [] []
theorem hk : HK E Try.f130 [] pA pH tl v hh := fun _ _ _ => by kernel_rfl
theorem og : SoundF Try.prog cc 130 A ∧ FnOK Try.prog 130 :=
 og_of (E := E) P_mixed (E0_ok.mk5 _ _ _ _ _) (gam_of (all_cons field_bounds.og (all_cons field_width.og all_nil)) no_ro) Try.func130 (c := body) (by kernel_rfl)
    (just_by (by kernel_rfl) (by kernel_rfl) all_nil all_nil) [] sp1_ok hk (by kernel_rfl)
end field_wide

/-! instar/field.Size -/
namespace field_Size
abbrev TA : Type := (((Int × (Int × (Int × (Int × (Int × Unit))))) × Unit) × Unit)
def t (f_0 f_1 f_2 f_3 f_4 : Int) : Tw Int :=
 (.opt (field_Right.c f_0 f_1 f_2 f_3 f_4) fun z1 =>
 (.bb (!z1)
 (.ret (0 : Int))
 (.bb (f_1 == (4 : Int))
 (.ret (w64 (f_4 + (1 : Int))))
 (.bb (f_1 == (2 : Int))
 (.ret (w64 ((0 : Int) + (1 : Int))))
 (.opt (field_wide.c f_0 f_1 f_2 f_3 f_4) fun z2 =>
 (.ret z2))))))
def c (f_0 f_1 f_2 f_3 f_4 : Int) : Option Int := (t f_0 f_1 f_2 f_3 f_4).run
def tl (l : TA) : Tw Int := t l.1.1.1 l.1.1.2.1 l.1.1.2.2.1 l.1.1.2.2.2.1 (d4 l.1.1).1
def pA : Pt := (.cs (.agg (jC (jC (jC (jC (jC .nl)))))) .nl)
def pH : Pt := .nl
def v (l : TA) (y : Int) : AV U := jI y
def hh (l : TA) (y : Int) : Hp U := []
def A : AFun U := mkA pA pH (X := Int) (fun l => (tl l).run) sp1 v hh
def body := bodyOf Try.f128
def E : Env U := E0.mk5 [(124, field_Right.A), (130, field_wide.A)] [] [] [] []
theorem hk : HK E Try.f128 [] pA pH tl v hh := fun _ _ _ => by kernel_rfl
theorem og : SoundF Try.prog cc 128 A ∧ FnOK Try.prog 128 :=
 og_of (E := E) P_mixed (E0_ok.mk5 _ _ _ _ _) (gam_of (all_cons field_Right.og (all_cons field_wide.og all_nil)) no_ro) Try.func128 (c := body) (by kernel_rfl)
    (just_by (by kernel_rfl) (by kernel_rfl) all_nil all_nil) [] sp1_ok hk (by kernel_rfl)
end field_Size

/-! instar/field.Has -/
namespace field_Has
abbrev TA : Type := (((Int × (Int × (Int × (Int × (Int × Unit))))) × ((Int × (ByteArray × Unit)) × Unit)) × Unit)
def t (f_0 f_1 f_2 f_3 f_4 v__0 : Int) (v__1 : ByteArray) : Tw Bool :=
 (.opt (field_bounds.c f_0 f_1 f_2 f_3 f_4) fun z1 =>
 (.bb (f_1 == (4 : Int))
 (.opt (field_Right.c f_0 f_1 f_2 f_3 f_4) fun z3 =>
 (.bb z3
 (.bb (decide (v__0 ≥ z1.1))
 (.bb (decide (v__0 ≤ z1.2))
 (.ret (decide ((((ByteArray.size v__1) : Nat) : Int) ≤ f_4)))
 (.ret false))
 (.ret false))
 (.ret false)))
 (.opt (field_Right.c f_0 f_1 f_2 f_3 f_4) fun z2 =>
 (.bb z2
 (.bb (decide (v__0 ≥ z1.1))
 (.bb (decide (v__0 ≤ z1.2))
 (.ret (decide ((((ByteArray.size v__1) : Nat) : Int) ≤ (0 : Int))))
 (.ret false))
 (.ret false))
 (.ret false)))))
def c (f_0 f_1 f_2 f_3 f_4 v__0 : Int) (v__1 : ByteArray) : Option Bool := (t f_0 f_1 f_2 f_3 f_4 v__0 v__1).run
def tl (l : TA) : Tw Bool := t l.1.1.1 l.1.1.2.1 l.1.1.2.2.1 l.1.1.2.2.2.1 (d4 l.1.1).1 l.1.2.1.1 l.1.2.1.2.1
def pA : Pt := (.cs (.agg (jC (jC (jC (jC (jC .nl)))))) (.cs (.agg (jC (.cs .str .nl))) .nl))
def pH : Pt := .nl
def v (l : TA) (y : Bool) : AV U := jB y
def hh (l : TA) (y : Bool) : Hp U := []
def A : AFun U := mkA pA pH (X := Bool) (fun l => (tl l).run) sp1 v hh
def body := bodyOf Try.f127
def E : Env U := E0.mk5 [(129, field_bounds.A), (124, field_Right.A)] [] [] [] []
theorem hk : HK E Try.f127 [] pA pH tl v hh := fun _ _ _ => by kernel_rfl
theorem og : SoundF Try.prog cc 127 A ∧ FnOK Try.prog 127 :=
 og_of (E := E) P_mixed (E0_ok.mk5 _ _ _ _ _) (gam_of (all_cons field_bounds.og (all_cons field_Right.og all_nil)) no_ro) Try.func127 (c := body) (by kernel_rfl)
    (just_by (by kernel_rfl) (by kernel_rfl) all_nil all_nil) [] sp1_ok hk (by kernel_rfl)
end field_Has

/-! instar/field.Lay -/
namespace field_Lay
abbrev TA : Type := (((Int × (Int × (Int × (Int × (Int × Unit))))) × ((Int × (ByteArray × Unit)) × Unit)) × Unit)
abbrev XA : Type := (Int × (List Int))
abbrev T10 : Type := ((Unit × (Unit × (Int × (Int × (Unit × Unit))))) × ((List Int) × Unit))
abbrev S10 : Type := (Int × (Int × (List Int)))
def l10 (i n : Int) (h0 : (List Int)) : Tw (S10 ⊕ (List Int)) :=
 (.bb (decide (i ≥ (0 : Int)))
 (.dd ((((0 : Int) ≤ i) ∧ (i < (((List.length h0) : Nat) : Int)))) inferInstance
 (.opt (h0)[(Int.toNat i)]? fun z5 =>
 (.ret (.inl ((w64 (i - (1 : Int))), ((bShr .i64 n (8 : Int)), (List.set h0 (Int.toNat i) (w8 (bAnd .i64 n (255 : Int)))))))))
 .no)
 (.ret (.inr h0)))
def L10 (i n : Int) (h0 : (List Int)) : Option (List Int) := Lp (fun s => (l10 s.1 s.2.1 s.2.2).run) (i, (n, h0))
def p10 : Pt := (.cs (.bots 8) (.cs (.own 0) (jC (jC (.cs (.bots 49) .nl)))))
def q10 : Pt := (.cs (.row 2 true) .nl)
def ou10 (l : T10) (y : (List Int)) : Ex × St U := (.exit 1, stOf 60 [(8, .own 0)] [.row 2 y true] 0)
def Λ10 : LFun U := mkLp p10 q10 0 (X := (List Int)) (fun (l : T10) => L10 l.1.2.2.1 l.1.2.2.2.1 l.2.1) sp1 ou10
def hd10 (l : T10) (s : S10) : T10 := (((), ((), (s.1, (s.2.1, ((), ()))))), (s.2.2, ()))
def fl10 (l : T10) (s : S10) : Tw (S10 ⊕ (List Int)) := l10 s.1 s.2.1 s.2.2
def t (f_0 f_1 f_2 f_3 f_4 v__0 : Int) (v__1 : ByteArray) : Tw XA :=
 (.opt (field_Right.c f_0 f_1 f_2 f_3 f_4) fun z1 =>
 (.bb (!z1)
 (.ret ((2 : Int), ([] : List (Int))))
 (.opt (field_Has.c f_0 f_1 f_2 f_3 f_4 v__0 v__1) fun z2 =>
 (.bb (!z2)
 (.ret ((16 : Int), ([] : List (Int))))
 (.bb (f_1 == (4 : Int))
 (.dd ((((((List.length ((w8 (((ByteArray.size v__1) : Nat) : Int)) :: ([] : List (Int)))) + (List.length (Go.Proofs.Ytmlbioapefgioaa.Va.b2l v__1))) * (1 : Nat)) ≤ (140737488355328 : Nat)) ∧ (((List.length ((w8 (((ByteArray.size v__1) : Nat) : Int)) :: ([] : List (Int)))) + (List.length (Go.Proofs.Ytmlbioapefgioaa.Va.b2l v__1))) ≤ (140737488355328 : Nat)))) inferInstance
 (.ret ((0 : Int), (((w8 (((ByteArray.size v__1) : Nat) : Int)) :: ([] : List (Int))) ++ (Go.Proofs.Ytmlbioapefgioaa.Va.b2l v__1))))
 .no)
 (.opt (field_bounds.c f_0 f_1 f_2 f_3 f_4) fun z3 =>
 (.opt (field_wide.c f_0 f_1 f_2 f_3 f_4) fun z4 =>
 (.dd ((((0 : Int) ≤ z4) ∧ ((z4 ≤ z4) ∧ ((z4 ≤ (140737488355328 : Int)) ∧ ((z4 * (((1 : Nat) : Nat) : Int)) ≤ (140737488355328 : Int)))))) inferInstance
 (.opt (L10 (w64 ((((List.length (List.replicate (Int.toNat z4) (0 : Int))) : Nat) : Int) - (1 : Int))) (w64 (v__0 - z3.1)) (List.replicate (Int.toNat z4) (0 : Int))) fun z6 =>
 (.ret ((0 : Int), z6)))
 .no))))))))
def c (f_0 f_1 f_2 f_3 f_4 v__0 : Int) (v__1 : ByteArray) : Option XA := (t f_0 f_1 f_2 f_3 f_4 v__0 v__1).run
def tl (l : TA) : Tw XA := t l.1.1.1 l.1.1.2.1 l.1.1.2.2.1 l.1.1.2.2.2.1 (d4 l.1.1).1 l.1.2.1.1 l.1.2.1.2.1
def pA : Pt := (.cs (.agg (jC (jC (jC (jC (jC .nl)))))) (.cs (.agg (jC (.cs .str .nl))) .nl))
def pH : Pt := .nl
def v (l : TA) (y : XA) : AV U := .tup [.own 0, jI y.1]
def hh (l : TA) (y : XA) : Hp U := [.row 2 y.2 true]
def A : AFun U := mkA pA pH (X := XA) (fun l => (tl l).run) sp1 v hh
def body := bodyOf Try.f111
def E : Env U := E0.mk5 [(124, field_Right.A), (127, field_Has.A), (129, field_bounds.A), (130, field_wide.A)] [(10, Λ10)] [] [(10, ⟨[9, 10, 8], []⟩, ⟨[4, 5, 8], []⟩)] []
theorem hf10 : HF E (pick (loopsOf body) 10) p10 q10 0 fl10 hd10 sp1 ou10 := fun _ _ _ _ => by kernel_rfl
theorem lk10 : LK E (pick (loopsOf body) 10) Λ10 := fun R st K r h =>
  lp_ok (E := E) (b := pick (loopsOf body) 10) (m := 0) (sp := sp1) (p := p10) (q := q10) (X := (List Int)) (S := S10) (f := fl10) (hd := hd10) (s0 := fun (l : T10) => (l.1.2.2.1, (l.1.2.2.2.1, l.2.1))) (ou := ou10)
    (fun l => rfl) (fun l x => by rfl) sp1_ok hf10 h
theorem hk : HK E Try.f111 [(0, [], .own 2)] pA pH tl v hh := fun _ _ _ => by kernel_rfl
theorem og : SoundF Try.prog cc 111 A ∧ FnOK Try.prog 111 :=
 og_of (E := E) P_mixed (E0_ok.mk5 _ _ _ _ _) (gam_of (all_cons field_Right.og (all_cons field_Has.og (all_cons field_bounds.og (all_cons field_wide.og all_nil)))) no_ro) Try.func111 (c := body) (by kernel_rfl)
    (just_by (by kernel_rfl) (by kernel_rfl) (all_cons lk10 all_nil) all_nil) [(0, [], .own 2)] sp1_ok hk (by kernel_rfl)
end field_Lay

/-! instar/field.Take -/
namespace field_Take
abbrev TA : Type := (((Int × (Int × (Int × (Int × (Int × Unit))))) × ((List Int) × Unit)) × Unit)
abbrev XA : Type := (Int × (ByteArray × (Int × Int)))
abbrev T10 : Type := ((Unit × ((List Int) × (Unit × (Unit × (Unit × (Unit × (Int × (Bool × (Int × (Unit × ((List Int) × (Int × (Int × (Unit × Unit)))))))))))))) × ((Int × (Int × (Int × (Int × (Int × Unit))))) × ((Int × (ByteArray × Unit)) × Unit)))
abbrev S10 : Type := (Int × Int)
def l10 (b : (List Int)) (n : Int) (text : Bool) (k31 : (List Int)) (k32 h0_0 h0_1 h0_2 h0_3 h0_4 h1_0 : Int) (h1_1 : ByteArray) (u k33 : Int) : Tw (S10 ⊕ Int) :=
 (.bb (decide (k33 < k32))
 (.dd (((0 : Int) ≤ k33)) inferInstance
 (.opt (k31)[(Int.toNat k33)]? fun z3 =>
 (.ret (.inl ((bOr .i64 (bShl .i64 u (8 : Int)) (w64 z3)), (w64 (k33 + (1 : Int)))))))
 .no)
 (.ret (.inr u)))
def L10 (b : (List Int)) (n : Int) (text : Bool) (u : Int) (k31 : (List Int)) (k32 k33 h0_0 h0_1 h0_2 h0_3 h0_4 h1_0 : Int) (h1_1 : ByteArray) : Option Int := Lp (fun s => (l10 b n text k31 k32 h0_0 h0_1 h0_2 h0_3 h0_4 h1_0 h1_1 s.1 s.2).run) (u, k33)
def p10 : Pt := (.cs (.bots 1) (.cs (.sl 2) (.cs (.ptr 0 0) (.cs (.bots 1) (.cs (.ptr 1 0) (.cs (.bots 2) (jC (.cs .bool (jC (.cs (.bots 21) (.cs (.sl 2) (jC (jC (.cs (.bots 61) .nl))))))))))))))
def q10 : Pt := (.cs (.var (jC (jC (jC (jC (jC .nl)))))) (.cs (.var (jC (.cs .str .nl))) .nl))
def ou10 (l : T10) (y : Int) : Ex × St U := (.exit 0, stOf 95 [(1, .im (.slice 2 l.1.2.1)), (2, .ptr 0 0), (4, .ptr 1 0), (7, jI (d4 l.1).2.2.1), (8, jB (d4 l.1).2.2.2.1), (9, jI y)] [.var [jI l.2.1.1, jI l.2.1.2.1, jI l.2.1.2.2.1, jI l.2.1.2.2.2.1, jI (d4 l.2.1).1], .var [jI l.2.2.1.1, .im (.str l.2.2.1.2.1)]] 0)
def Λ10 : LFun U := mkLp p10 q10 0 (X := Int) (fun (l : T10) => L10 l.1.2.1 (d4 l.1).2.2.1 (d4 l.1).2.2.2.1 (d8 l.1).1 (d8 l.1).2.2.1 (d8 l.1).2.2.2.1 (d12 l.1).1 l.2.1.1 l.2.1.2.1 l.2.1.2.2.1 l.2.1.2.2.2.1 (d4 l.2.1).1 l.2.2.1.1 l.2.2.1.2.1) sp1 ou10
def hd10 (l : T10) (s : S10) : T10 := (((), (l.1.2.1, ((), ((), ((), ((), ((d4 l.1).2.2.1, ((d4 l.1).2.2.2.1, (s.1, ((), ((d8 l.1).2.2.1, ((d8 l.1).2.2.2.1, (s.2, ((), ())))))))))))))), ((l.2.1.1, (l.2.1.2.1, (l.2.1.2.2.1, (l.2.1.2.2.2.1, ((d4 l.2.1).1, ()))))), ((l.2.2.1.1, (l.2.2.1.2.1, ())), ())))
def fl10 (l : T10) (s : S10) : Tw (S10 ⊕ Int) := l10 l.1.2.1 (d4 l.1).2.2.1 (d4 l.1).2.2.2.1 (d8 l.1).2.2.1 (d8 l.1).2.2.2.1 l.2.1.1 l.2.1.2.1 l.2.1.2.2.1 l.2.1.2.2.2.1 (d4 l.2.1).1 l.2.2.1.1 l.2.2.1.2.1 s.1 s.2
def t (f_0 f_1 f_2 f_3 f_4 : Int) (b : (List Int)) : Tw XA :=
 (.opt (field_Right.c f_0 f_1 f_2 f_3 f_4) fun z1 =>
 (.bb (!z1)
 (.ret ((0 : Int), (ByteArray.empty, ((0 : Int), (2 : Int)))))
 (.opt (field_wide.c f_0 f_1 f_2 f_3 f_4) fun z2 =>
 (.bb (f_1 == (4 : Int))
 (.bb (decide ((((List.length b) : Nat) : Int) < (1 : Int)))
 (.ret ((0 : Int), (ByteArray.empty, ((0 : Int), (5 : Int)))))
 (.dd ((((0 : Int) ≤ (1 : Int)) ∧ ((1 : Int) ≤ (((List.length b) : Nat) : Int)))) inferInstance
 (.opt (L10 b (1 : Int) (f_1 == (4 : Int)) (0 : Int) (List.take (Int.toNat (1 : Int)) b) (((List.length (List.take (Int.toNat (1 : Int)) b)) : Nat) : Int) (0 : Int) f_0 f_1 f_2 f_3 f_4 (0 : Int) ByteArray.empty) fun z6 =>
 (.opt (field_bounds.c f_0 f_1 f_2 f_3 f_4) fun z7 =>
 (.bb (f_1 == (4 : Int))
 (.bb (decide (z6 > f_4))
 (.ret ((0 : Int), (ByteArray.empty, ((0 : Int), (16 : Int)))))
 (.bb (!(f_1 == (4 : Int)))
 (.bb (decide (z6 > (w64 (z7.2 - z7.1))))
 (.ret ((0 : Int), (ByteArray.empty, ((0 : Int), (16 : Int)))))
 (.bb (!(f_1 == (4 : Int)))
 (.ret ((w64 (z7.1 + z6)), (ByteArray.empty, ((1 : Int), (0 : Int)))))
 (.bb (decide ((w64 ((((List.length b) : Nat) : Int) - (1 : Int))) < z6))
 (.ret ((0 : Int), (ByteArray.empty, ((0 : Int), (5 : Int)))))
 (.dd ((((0 : Int) ≤ (1 : Int)) ∧ (((1 : Int) ≤ (w64 ((1 : Int) + z6))) ∧ ((w64 ((1 : Int) + z6)) ≤ (((List.length b) : Nat) : Int))))) inferInstance
 (.ret ((0 : Int), ((Go.Proofs.Ytmlbioapefgioaa.Va.l2b (List.drop (Int.toNat (1 : Int)) (List.take (Int.toNat (w64 ((1 : Int) + z6))) b))), ((w64 ((1 : Int) + z6)), (0 : Int)))))
 .no))))
 (.bb (!(f_1 == (4 : Int)))
 (.ret ((w64 (z7.1 + z6)), (ByteArray.empty, ((1 : Int), (0 : Int)))))
 (.bb (decide ((w64 ((((List.length b) : Nat) : Int) - (1 : Int))) < z6))
 (.ret ((0 : Int), (ByteArray.empty, ((0 : Int), (5 : Int)))))
 (.dd ((((0 : Int) ≤ (1 : Int)) ∧ (((1 : Int) ≤ (w64 ((1 : Int) + z6))) ∧ ((w64 ((1 : Int) + z6)) ≤ (((List.length b) : Nat) : Int))))) inferInstance
 (.ret ((0 : Int), ((Go.Proofs.Ytmlbioapefgioaa.Va.l2b (List.drop (Int.toNat (1 : Int)) (List.take (Int.toNat (w64 ((1 : Int) + z6))) b))), ((w64 ((1 : Int) + z6)), (0 : Int)))))
 .no)))))
 (.bb (!(f_1 == (4 : Int)))
 (.bb (decide (z6 > (w64 (z7.2 - z7.1))))
 (.ret ((0 : Int), (ByteArray.empty, ((0 : Int), (16 : Int)))))
 (.bb (!(f_1 == (4 : Int)))
 (.ret ((w64 (z7.1 + z6)), (ByteArray.empty, ((1 : Int), (0 : Int)))))
 (.bb (decide ((w64 ((((List.length b) : Nat) : Int) - (1 : Int))) < z6))
 (.ret ((0 : Int), (ByteArray.empty, ((0 : Int), (5 : Int)))))
 (.dd ((((0 : Int) ≤ (1 : Int)) ∧ (((1 : Int) ≤ (w64 ((1 : Int) + z6))) ∧ ((w64 ((1 : Int) + z6)) ≤ (((List.length b) : Nat) : Int))))) inferInstance
 (.ret ((0 : Int), ((Go.Proofs.Ytmlbioapefgioaa.Va.l2b (List.drop (Int.toNat (1 : Int)) (List.take (Int.toNat (w64 ((1 : Int) + z6))) b))), ((w64 ((1 : Int) + z6)), (0 : Int)))))
 .no))))
 (.bb (!(f_1 == (4 : Int)))
 (.ret ((w64 (z7.1 + z6)), (ByteArray.empty, ((1 : Int), (0 : Int)))))
 (.bb (decide ((w64 ((((List.length b) : Nat) : Int) - (1 : Int))) < z6))
 (.ret ((0 : Int), (ByteArray.empty, ((0 : Int), (5 : Int)))))
 (.dd ((((0 : Int) ≤ (1 : Int)) ∧ (((1 : Int) ≤ (w64 ((1 : Int) + z6))) ∧ ((w64 ((1 : Int) + z6)) ≤ (((List.length b) : Nat) : Int))))) inferInstance
 (.ret ((0 : Int), ((Go.Proofs.Ytmlbioapefgioaa.Va.l2b (List.drop (Int.toNat (1 : Int)) (List.take (Int.toNat (w64 ((1 : Int) + z6))) b))), ((w64 ((1 : Int) + z6)), (0 : Int)))))
 .no)))))))
 .no))
 (.bb (decide ((((List.length b) : Nat) : Int) < z2))
 (.ret ((0 : Int), (ByteArray.empty, ((0 : Int), (5 : Int)))))
 (.dd ((((0 : Int) ≤ z2) ∧ (z2 ≤ (((List.length b) : Nat) : Int)))) inferInstance
 (.opt (L10 b z2 (f_1 == (4 : Int)) (0 : Int) (List.take (Int.toNat z2) b) (((List.length (List.take (Int.toNat z2) b)) : Nat) : Int) (0 : Int) f_0 f_1 f_2 f_3 f_4 (0 : Int) ByteArray.empty) fun z4 =>
 (.opt (field_bounds.c f_0 f_1 f_2 f_3 f_4) fun z5 =>
 (.bb (f_1 == (4 : Int))
 (.bb (decide (z4 > f_4))
 (.ret ((0 : Int), (ByteArray.empty, ((0 : Int), (16 : Int)))))
 (.bb (!(f_1 == (4 : Int)))
 (.bb (decide (z4 > (w64 (z5.2 - z5.1))))
 (.ret ((0 : Int), (ByteArray.empty, ((0 : Int), (16 : Int)))))
 (.bb (!(f_1 == (4 : Int)))
 (.ret ((w64 (z5.1 + z4)), (ByteArray.empty, (z2, (0 : Int)))))
 (.bb (decide ((w64 ((((List.length b) : Nat) : Int) - z2)) < z4))
 (.ret ((0 : Int), (ByteArray.empty, ((0 : Int), (5 : Int)))))
 (.dd ((((0 : Int) ≤ z2) ∧ ((z2 ≤ (w64 (z2 + z4))) ∧ ((w64 (z2 + z4)) ≤ (((List.length b) : Nat) : Int))))) inferInstance
 (.ret ((0 : Int), ((Go.Proofs.Ytmlbioapefgioaa.Va.l2b (List.drop (Int.toNat z2) (List.take (Int.toNat (w64 (z2 + z4))) b))), ((w64 (z2 + z4)), (0 : Int)))))
 .no))))
 (.bb (!(f_1 == (4 : Int)))
 (.ret ((w64 (z5.1 + z4)), (ByteArray.empty, (z2, (0 : Int)))))
 (.bb (decide ((w64 ((((List.length b) : Nat) : Int) - z2)) < z4))
 (.ret ((0 : Int), (ByteArray.empty, ((0 : Int), (5 : Int)))))
 (.dd ((((0 : Int) ≤ z2) ∧ ((z2 ≤ (w64 (z2 + z4))) ∧ ((w64 (z2 + z4)) ≤ (((List.length b) : Nat) : Int))))) inferInstance
 (.ret ((0 : Int), ((Go.Proofs.Ytmlbioapefgioaa.Va.l2b (List.drop (Int.toNat z2) (List.take (Int.toNat (w64 (z2 + z4))) b))), ((w64 (z2 + z4)), (0 : Int)))))
 .no)))))
 (.bb (!(f_1 == (4 : Int)))
 (.bb (decide (z4 > (w64 (z5.2 - z5.1))))
 (.ret ((0 : Int), (ByteArray.empty, ((0 : Int), (16 : Int)))))
 (.bb (!(f_1 == (4 : Int)))
 (.ret ((w64 (z5.1 + z4)), (ByteArray.empty, (z2, (0 : Int)))))
 (.bb (decide ((w64 ((((List.length b) : Nat) : Int) - z2)) < z4))
 (.ret ((0 : Int), (ByteArray.empty, ((0 : Int), (5 : Int)))))
 (.dd ((((0 : Int) ≤ z2) ∧ ((z2 ≤ (w64 (z2 + z4))) ∧ ((w64 (z2 + z4)) ≤ (((List.length b) : Nat) : Int))))) inferInstance
 (.ret ((0 : Int), ((Go.Proofs.Ytmlbioapefgioaa.Va.l2b (List.drop (Int.toNat z2) (List.take (Int.toNat (w64 (z2 + z4))) b))), ((w64 (z2 + z4)), (0 : Int)))))
 .no))))
 (.bb (!(f_1 == (4 : Int)))
 (.ret ((w64 (z5.1 + z4)), (ByteArray.empty, (z2, (0 : Int)))))
 (.bb (decide ((w64 ((((List.length b) : Nat) : Int) - z2)) < z4))
 (.ret ((0 : Int), (ByteArray.empty, ((0 : Int), (5 : Int)))))
 (.dd ((((0 : Int) ≤ z2) ∧ ((z2 ≤ (w64 (z2 + z4))) ∧ ((w64 (z2 + z4)) ≤ (((List.length b) : Nat) : Int))))) inferInstance
 (.ret ((0 : Int), ((Go.Proofs.Ytmlbioapefgioaa.Va.l2b (List.drop (Int.toNat z2) (List.take (Int.toNat (w64 (z2 + z4))) b))), ((w64 (z2 + z4)), (0 : Int)))))
 .no)))))))
 .no))))))
def c (f_0 f_1 f_2 f_3 f_4 : Int) (b : (List Int)) : Option XA := (t f_0 f_1 f_2 f_3 f_4 b).run
def tl (l : TA) : Tw XA := t l.1.1.1 l.1.1.2.1 l.1.1.2.2.1 l.1.1.2.2.2.1 (d4 l.1.1).1 l.1.2.1
def pA : Pt := (.cs (.agg (jC (jC (jC (jC (jC .nl)))))) (.cs (.sl 2) .nl))
def pH : Pt := .nl
def v (l : TA) (y : XA) : AV U := .tup [.agg [jI y.1, .im (.str y.2.1)], jI y.2.2.1, jI y.2.2.2]
def hh (l : TA) (y : XA) : Hp U := []
def A : AFun U := mkA pA pH (X := XA) (fun l => (tl l).run) sp1 v hh
def body := bodyOf Try.f131
def E : Env U := E0.mk5 [(124, field_Right.A), (130, field_wide.A), (129, field_bounds.A)] [(10, Λ10)] [] [(10, ⟨[33, 9, 31, 4, 7, 1, 8, 2, 32], []⟩, ⟨[4, 5, 6, 7, 9, 1, 8, 2], []⟩)] []
theorem hf10 : HF E (pick (loopsOf body) 10) p10 q10 0 fl10 hd10 sp1 ou10 := fun _ _ _ _ => by kernel_rfl
theorem lk10 : LK E (pick (loopsOf body) 10) Λ10 := fun R st K r h =>
  lp_ok (E := E) (b := pick (loopsOf body) 10) (m := 0) (sp := sp1) (p := p10) (q := q10) (X := Int) (S := S10) (f := fl10) (hd := hd10) (s0 := fun (l : T10) => ((d8 l.1).1, (d12 l.1).1)) (ou := ou10)
    (fun l => rfl) (fun l x => by rfl) sp1_ok hf10 h
theorem hk : HK E Try.f131 [] pA pH tl v hh := fun _ _ _ => by kernel_rfl
theorem og : SoundF Try.prog cc 131 A ∧ FnOK Try.prog 131 :=
 og_of (E := E) P_mixed (E0_ok.mk5 _ _ _ _ _) (gam_of (all_cons field_Right.og (all_cons field_wide.og (all_cons field_bounds.og all_nil))) no_ro) Try.func131 (c := body) (by kernel_rfl)
    (just_by (by kernel_rfl) (by kernel_rfl) (all_cons lk10 all_nil) all_nil) [] sp1_ok hk (by kernel_rfl)
end field_Take

end
end Go.Proofs.Ytmlbioapefgioaa.Va
