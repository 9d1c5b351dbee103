/- The functions of package ref12, as plain functions, and that the program computes them. Printed by a program of this work out of the evaluator. -/
import Derived.Test.YtmlbioapefgioaaEn
import Derived.Tactics
set_option linter.unusedVariables false
namespace Go.Proofs.Ytmlbioapefgioaa.Va
noncomputable section
open Go
set_option maxRecDepth 100000

/-! instar/instarref12.Span -/
namespace ref12_Span
abbrev TA : Type := (((Int × (Int × (Int × (Int × (Int × Unit))))) × Unit) × Unit)
abbrev XA : Type := (Int × (Int × (Int × Bool)))
def t (f_0 f_1 f_2 f_3 f_4 : Int) : Tw XA :=
 (.bb (decide (f_0 ≥ (0 : Int)))
 (.bb (f_1 == (1 : Int))
 (.bb (decide (f_0 ≤ (255 : Int)))
 (.bb (decide (f_2 ≥ (-(1099511627776 : Int))))
 (.bb (decide (f_3 ≤ (1099511627776 : Int)))
 (.bb (decide (f_2 ≤ f_3))
 (.ret (f_2, (f_3, ((0 : Int), (f_4 == (0 : Int))))))
 (.ret (f_2, (f_3, ((0 : Int), false)))))
 (.ret (f_2, (f_3, ((0 : Int), false)))))
 (.ret (f_2, (f_3, ((0 : Int), false)))))
 (.ret (f_2, (f_3, ((0 : Int), false)))))
 (.bb (f_1 == (2 : Int))
 (.bb (decide (f_0 ≤ (255 : Int)))
 (.bb (f_2 == (0 : Int))
 (.bb (f_3 == (0 : Int))
 (.ret ((0 : Int), ((1 : Int), ((0 : Int), (f_4 == (0 : Int))))))
 (.ret ((0 : Int), ((1 : Int), ((0 : Int), false)))))
 (.ret ((0 : Int), ((1 : Int), ((0 : Int), false)))))
 (.ret ((0 : Int), ((1 : Int), ((0 : Int), false)))))
 (.bb (f_1 == (3 : Int))
 (.bb (decide (f_0 ≤ (255 : Int)))
 (.bb (f_2 == (0 : Int))
 (.bb (f_3 == (0 : Int))
 (.bb (decide (f_4 ≥ (1 : Int)))
 (.ret ((0 : Int), ((w64 (f_4 - (1 : Int))), ((0 : Int), (decide (f_4 ≤ (1000 : Int)))))))
 (.ret ((0 : Int), ((w64 (f_4 - (1 : Int))), ((0 : Int), false)))))
 (.ret ((0 : Int), ((w64 (f_4 - (1 : Int))), ((0 : Int), false)))))
 (.ret ((0 : Int), ((w64 (f_4 - (1 : Int))), ((0 : Int), false)))))
 (.ret ((0 : Int), ((w64 (f_4 - (1 : Int))), ((0 : Int), false)))))
 (.bb (f_1 == (4 : Int))
 (.bb (decide (f_0 ≤ (255 : Int)))
 (.bb (f_2 == (0 : Int))
 (.bb (f_3 == (0 : Int))
 (.bb (decide (f_4 ≥ (0 : Int)))
 (.ret ((0 : Int), ((0 : Int), (f_4, (decide (f_4 ≤ (32 : Int)))))))
 (.ret ((0 : Int), ((0 : Int), (f_4, false)))))
 (.ret ((0 : Int), ((0 : Int), (f_4, false)))))
 (.ret ((0 : Int), ((0 : Int), (f_4, false)))))
 (.ret ((0 : Int), ((0 : Int), (f_4, false)))))
 (.ret ((0 : Int), ((0 : Int), ((0 : Int), false))))))))
 (.bb (f_1 == (1 : Int))
 (.ret (f_2, (f_3, ((0 : Int), false))))
 (.bb (f_1 == (2 : Int))
 (.ret ((0 : Int), ((1 : Int), ((0 : Int), false))))
 (.bb (f_1 == (3 : Int))
 (.ret ((0 : Int), ((w64 (f_4 - (1 : Int))), ((0 : Int), false))))
 (.bb (f_1 == (4 : Int))
 (.ret ((0 : Int), ((0 : Int), (f_4, false))))
 (.ret ((0 : Int), ((0 : Int), ((0 : Int), false)))))))))
def c (f_0 f_1 f_2 f_3 f_4 : Int) : Option XA := (t f_0 f_1 f_2 f_3 f_4).run
def tl (l : TA) : Tw XA := t l.1.1.1 l.1.1.2.1 l.1.1.2.2.1 l.1.1.2.2.2.1 (d4 l.1.1).1
def pA : Pt := (.cs (.agg (jC (jC (jC (jC (jC .nl)))))) .nl)
def pH : Pt := .nl
def v (l : TA) (y : XA) : AV U := .tup [jI y.1, jI y.2.1, jI y.2.2.1, jB y.2.2.2]
def hh (l : TA) (y : XA) : Hp U := []
def A : AFun U := mkA pA pH (X := XA) (fun l => (tl l).run) sp1 v hh
def body := bodyOf Try.f132
def E : Env U := E0.mk5 [] [] [] [] []
theorem hk : HK E Try.f132 [] pA pH tl v hh := fun _ _ _ => by kernel_rfl
theorem og : SoundF Try.prog cc 132 A ∧ FnOK Try.prog 132 :=
 og_of (E := E) P_mixed (E0_ok.mk5 _ _ _ _ _) (gam_of all_nil all_nil) Try.func132 (c := body) (by kernel_rfl)
    (just_by (by kernel_rfl) (by kernel_rfl) all_nil all_nil) [] sp1_ok hk (by kernel_rfl)
end ref12_Span

/-! instar/instarref12.Right -/
namespace ref12_Right
abbrev TA : Type := (((Int × (Int × (Int × (Int × (Int × Unit))))) × Unit) × Unit)
def t (f_0 f_1 f_2 f_3 f_4 : Int) : Tw Bool :=
 (.opt (ref12_Span.c f_0 f_1 f_2 f_3 f_4) fun z1 =>
 (.ret z1.2.2.2))
def c (f_0 f_1 f_2 f_3 f_4 : Int) : Option Bool := (t f_0 f_1 f_2 f_3 f_4).run
def tl (l : TA) : Tw Bool := t l.1.1.1 l.1.1.2.1 l.1.1.2.2.1 l.1.1.2.2.2.1 (d4 l.1.1).1
def pA : Pt := (.cs (.agg (jC (jC (jC (jC (jC .nl)))))) .nl)
def pH : Pt := .nl
def v (l : TA) (y : Bool) : AV U := jB y
def hh (l : TA) (y : Bool) : Hp U := []
def A : AFun U := mkA pA pH (X := Bool) (fun l => (tl l).run) sp1 v hh
def body := bodyOf Try.f121
def E : Env U := E0.mk5 [(132, ref12_Span.A)] [] [] [] []
theorem hk : HK E Try.f121 [] pA pH tl v hh := fun _ _ _ => by kernel_rfl
theorem og : SoundF Try.prog cc 121 A ∧ FnOK Try.prog 121 :=
 og_of (E := E) P_mixed (E0_ok.mk5 _ _ _ _ _) (gam_of (all_cons ref12_Span.og all_nil) no_ro) Try.func121 (c := body) (by kernel_rfl)
    (just_by (by kernel_rfl) (by kernel_rfl) all_nil all_nil) [] sp1_ok hk (by kernel_rfl)
end ref12_Right

/-! instar/instarref12.wide -/
namespace ref12_wide
abbrev TA : Type := ((Int × Unit) × Unit)
abbrev T2 : Type := ((Int × (Unit × (Int × (Unit × Unit)))) × Unit)
abbrev S2 : Type := (Int × Int)
def l2 (n w : Int) : Tw (S2 ⊕ Int) :=
 (.bb (decide (n > (0 : Int)))
 (.ret (.inl ((w64 (Int.tdiv n (256 : Int))), (w64 (w + (1 : Int))))))
 (.ret (.inr w)))
def L2 (n w : Int) : Option Int := Lp (fun s => (l2 s.1 s.2).run) (n, w)
def p2 : Pt := (jC (.cs (.bots 2) (jC (.cs (.bots 7) .nl))))
def q2 : Pt := .nl
def ou2 (l : T2) (y : Int) : Ex × St U := (.exit 0, stOf 11 [(3, jI y)] [] 0)
def Λ2 : LFun U := mkLp p2 q2 0 (X := Int) (fun (l : T2) => L2 l.1.1 l.1.2.2.1) sp1 ou2
def hd2 (l : T2) (s : S2) : T2 := ((s.1, ((), (s.2, ((), ())))), ())
def fl2 (l : T2) (s : S2) : Tw (S2 ⊕ Int) := l2 s.1 s.2
def t (n : Int) : Tw Int :=
 (.opt (L2 n (0 : Int)) fun z1 =>
 (.ret z1))
def c (n : Int) : Option Int := (t n).run
def tl (l : TA) : Tw Int := t l.1.1
def pA : Pt := (jC .nl)
def pH : Pt := .nl
def v (l : TA) (y : Int) : AV U := jI y
def hh (l : TA) (y : Int) : Hp U := []
def A : AFun U := mkA pA pH (X := Int) (fun l => (tl l).run) sp1 v hh
def body := bodyOf Try.f136
def E : Env U := E0.mk5 [] [(2, Λ2)] [] [(2, ⟨[3, 0], []⟩, ⟨[2, 3], []⟩)] []
theorem hf2 : HF E (pick (loopsOf body) 2) p2 q2 0 fl2 hd2 sp1 ou2 := fun _ _ _ _ => by kernel_rfl
theorem lk2 : LK E (pick (loopsOf body) 2) Λ2 := fun R st K r h =>
  lp_ok (E := E) (b := pick (loopsOf body) 2) (m := 0) (sp := sp1) (p := p2) (q := q2) (X := Int) (S := S2) (f := fl2) (hd := hd2) (s0 := fun (l : T2) => (l.1.1, l.1.2.2.1)) (ou := ou2)
    (fun l => rfl) (fun l x => by rfl) sp1_ok hf2 h
theorem hk : HK E Try.f136 [] pA pH tl v hh := fun _ _ _ => by kernel_rfl
theorem og : SoundF Try.prog cc 136 A ∧ FnOK Try.prog 136 :=
 og_of (E := E) P_mixed (E0_ok.mk5 _ _ _ _ _) (gam_of all_nil all_nil) Try.func136 (c := body) (by kernel_rfl)
    (just_by (by kernel_rfl) (by kernel_rfl) (all_cons lk2 all_nil) all_nil) [] sp1_ok hk (by kernel_rfl)
end ref12_wide

/-! instar/instarref12.Size -/
namespace ref12_Size
abbrev TA : Type := (((Int × (Int × (Int × (Int × (Int × Unit))))) × Unit) × Unit)
def t (f_0 f_1 f_2 f_3 f_4 : Int) : Tw Int :=
 (.opt (ref12_Span.c f_0 f_1 f_2 f_3 f_4) fun z1 =>
 (.bb (!z1.2.2.2)
 (.ret (0 : Int))
 (.bb (f_1 == (4 : Int))
 (.ret (w64 ((1 : Int) + z1.2.2.1)))
 (.opt (ref12_wide.c (w64 (z1.2.1 - z1.1))) fun z2 =>
 (.ret z2)))))
def c (f_0 f_1 f_2 f_3 f_4 : Int) : Option Int := (t f_0 f_1 f_2 f_3 f_4).run
def tl (l : TA) : Tw Int := t l.1.1.1 l.1.1.2.1 l.1.1.2.2.1 l.1.1.2.2.2.1 (d4 l.1.1).1
def pA : Pt := (.cs (.agg (jC (jC (jC (jC (jC .nl)))))) .nl)
def pH : Pt := .nl
def v (l : TA) (y : Int) : AV U := jI y
def hh (l : TA) (y : Int) : Hp U := []
def A : AFun U := mkA pA pH (X := Int) (fun l => (tl l).run) sp1 v hh
def body := bodyOf Try.f133
def E : Env U := E0.mk5 [(132, ref12_Span.A), (136, ref12_wide.A)] [] [] [] []
theorem hk : HK E Try.f133 [] pA pH tl v hh := fun _ _ _ => by kernel_rfl
theorem og : SoundF Try.prog cc 133 A ∧ FnOK Try.prog 133 :=
 og_of (E := E) P_mixed (E0_ok.mk5 _ _ _ _ _) (gam_of (all_cons ref12_Span.og (all_cons ref12_wide.og all_nil)) no_ro) Try.func133 (c := body) (by kernel_rfl)
    (just_by (by kernel_rfl) (by kernel_rfl) all_nil all_nil) [] sp1_ok hk (by kernel_rfl)
end ref12_Size

/-! instar/instarref12.Take -/
namespace ref12_Take
abbrev TA : Type := (((Int × (Int × (Int × (Int × (Int × Unit))))) × ((List Int) × Unit)) × Unit)
abbrev XA : Type := (Int × (ByteArray × (Int × Int)))
abbrev T9 : Type := ((Unit × ((List Int) × (Unit × (Unit × (Unit × (Unit × (Int × (Int × (Int × (Unit × (Int × (Int × (Int × (Unit × Unit)))))))))))))) × ((Int × (Int × (Int × (Int × (Int × Unit))))) × ((Int × (ByteArray × Unit)) × Unit)))
abbrev S9 : Type := (Int × Int)
def l9 (b : (List Int)) (lo hi most n h0_0 h0_1 h0_2 h0_3 h0_4 h1_0 : Int) (h1_1 : ByteArray) (u i : Int) : Tw (S9 ⊕ Int) :=
 (.bb (decide (i < n))
 (.dd (((0 : Int) ≤ i)) inferInstance
 (.opt (b)[(Int.toNat i)]? fun z3 =>
 (.ret (.inl ((w64 ((w64 ((256 : Int) * u)) + (w64 z3))), (w64 (i + (1 : Int)))))))
 .no)
 (.ret (.inr u)))
def L9 (b : (List Int)) (lo hi most n u i h0_0 h0_1 h0_2 h0_3 h0_4 h1_0 : Int) (h1_1 : ByteArray) : Option Int := Lp (fun s => (l9 b lo hi most n h0_0 h0_1 h0_2 h0_3 h0_4 h1_0 h1_1 s.1 s.2).run) (u, i)
def p9 : Pt := (.cs (.bots 1) (.cs (.sl 2) (.cs (.ptr 0 0) (.cs (.bots 1) (.cs (.ptr 1 0) (.cs (.bots 2) (jC (jC (jC (.cs (.bots 1) (jC (jC (jC (.cs (.bots 62) .nl))))))))))))))
def q9 : Pt := (.cs (.var (jC (jC (jC (jC (jC .nl)))))) (.cs (.var (jC (.cs .str .nl))) .nl))
def ou9 (l : T9) (y : Int) : Ex × St U := (.exit 0, stOf 76 [(1, .im (.slice 2 l.1.2.1)), (2, .ptr 0 0), (4, .ptr 1 0), (7, jI (d4 l.1).2.2.1), (8, jI (d4 l.1).2.2.2.1), (9, jI (d8 l.1).1), (11, jI (d8 l.1).2.2.1), (12, jI y)] [.var [jI l.2.1.1, jI l.2.1.2.1, jI l.2.1.2.2.1, jI l.2.1.2.2.2.1, jI (d4 l.2.1).1], .var [jI l.2.2.1.1, .im (.str l.2.2.1.2.1)]] 0)
def Λ9 : LFun U := mkLp p9 q9 0 (X := Int) (fun (l : T9) => L9 l.1.2.1 (d4 l.1).2.2.1 (d4 l.1).2.2.2.1 (d8 l.1).1 (d8 l.1).2.2.1 (d8 l.1).2.2.2.1 (d12 l.1).1 l.2.1.1 l.2.1.2.1 l.2.1.2.2.1 l.2.1.2.2.2.1 (d4 l.2.1).1 l.2.2.1.1 l.2.2.1.2.1) sp1 ou9
def hd9 (l : T9) (s : S9) : T9 := (((), (l.1.2.1, ((), ((), ((), ((), ((d4 l.1).2.2.1, ((d4 l.1).2.2.2.1, ((d8 l.1).1, ((), ((d8 l.1).2.2.1, (s.1, (s.2, ((), ())))))))))))))), ((l.2.1.1, (l.2.1.2.1, (l.2.1.2.2.1, (l.2.1.2.2.2.1, ((d4 l.2.1).1, ()))))), ((l.2.2.1.1, (l.2.2.1.2.1, ())), ())))
def fl9 (l : T9) (s : S9) : Tw (S9 ⊕ Int) := l9 l.1.2.1 (d4 l.1).2.2.1 (d4 l.1).2.2.2.1 (d8 l.1).1 (d8 l.1).2.2.1 l.2.1.1 l.2.1.2.1 l.2.1.2.2.1 l.2.1.2.2.2.1 (d4 l.2.1).1 l.2.2.1.1 l.2.2.1.2.1 s.1 s.2
def t (f_0 f_1 f_2 f_3 f_4 : Int) (b : (List Int)) : Tw XA :=
 (.opt (ref12_Span.c f_0 f_1 f_2 f_3 f_4) fun z1 =>
 (.opt (ref12_Size.c f_0 f_1 f_2 f_3 f_4) fun z2 =>
 (.bb (f_1 == (4 : Int))
 (.bb (decide ((((List.length b) : Nat) : Int) < (1 : Int)))
 (.ret ((0 : Int), (ByteArray.empty, ((0 : Int), (5 : Int)))))
 (.opt (L9 b z1.1 z1.2.1 z1.2.2.1 (1 : Int) (0 : Int) (0 : Int) f_0 f_1 f_2 f_3 f_4 (0 : Int) ByteArray.empty) fun z5 =>
 (.bb (f_1 == (4 : Int))
 (.bb (decide (z5 > z1.2.2.1))
 (.ret ((0 : Int), (ByteArray.empty, ((0 : Int), (16 : Int)))))
 (.bb (decide ((((List.length b) : Nat) : Int) < (w64 ((1 : Int) + z5))))
 (.ret ((0 : Int), (ByteArray.empty, ((0 : Int), (5 : Int)))))
 (.dd ((((0 : Int) ≤ (1 : Int)) ∧ (((1 : Int) ≤ (w64 ((1 : Int) + z5))) ∧ ((w64 ((1 : Int) + z5)) ≤ (((List.length b) : Nat) : Int))))) inferInstance
 (.ret ((0 : Int), ((Go.Proofs.Ytmlbioapefgioaa.Va.l2b (List.drop (Int.toNat (1 : Int)) (List.take (Int.toNat (w64 ((1 : Int) + z5))) b))), ((w64 ((1 : Int) + z5)), (0 : Int)))))
 .no)))
 (.bb (decide (z5 > (w64 (z1.2.1 - z1.1))))
 (.ret ((0 : Int), (ByteArray.empty, ((0 : Int), (16 : Int)))))
 (.ret ((w64 (z1.1 + z5)), (ByteArray.empty, ((1 : Int), (0 : Int)))))))))
 (.bb (decide ((((List.length b) : Nat) : Int) < z2))
 (.ret ((0 : Int), (ByteArray.empty, ((0 : Int), (5 : Int)))))
 (.opt (L9 b z1.1 z1.2.1 z1.2.2.1 z2 (0 : Int) (0 : Int) f_0 f_1 f_2 f_3 f_4 (0 : Int) ByteArray.empty) fun z4 =>
 (.bb (f_1 == (4 : Int))
 (.bb (decide (z4 > z1.2.2.1))
 (.ret ((0 : Int), (ByteArray.empty, ((0 : Int), (16 : Int)))))
 (.bb (decide ((((List.length b) : Nat) : Int) < (w64 ((1 : Int) + z4))))
 (.ret ((0 : Int), (ByteArray.empty, ((0 : Int), (5 : Int)))))
 (.dd ((((0 : Int) ≤ (1 : Int)) ∧ (((1 : Int) ≤ (w64 ((1 : Int) + z4))) ∧ ((w64 ((1 : Int) + z4)) ≤ (((List.length b) : Nat) : Int))))) inferInstance
 (.ret ((0 : Int), ((Go.Proofs.Ytmlbioapefgioaa.Va.l2b (List.drop (Int.toNat (1 : Int)) (List.take (Int.toNat (w64 ((1 : Int) + z4))) b))), ((w64 ((1 : Int) + z4)), (0 : Int)))))
 .no)))
 (.bb (decide (z4 > (w64 (z1.2.1 - z1.1))))
 (.ret ((0 : Int), (ByteArray.empty, ((0 : Int), (16 : Int)))))
 (.ret ((w64 (z1.1 + z4)), (ByteArray.empty, (z2, (0 : Int))))))))))))
def c (f_0 f_1 f_2 f_3 f_4 : Int) (b : (List Int)) : Option XA := (t f_0 f_1 f_2 f_3 f_4 b).run
def tl (l : TA) : Tw XA := t l.1.1.1 l.1.1.2.1 l.1.1.2.2.1 l.1.1.2.2.2.1 (d4 l.1.1).1 l.1.2.1
def pA : Pt := (.cs (.agg (jC (jC (jC (jC (jC .nl)))))) (.cs (.sl 2) .nl))
def pH : Pt := .nl
def v (l : TA) (y : XA) : AV U := .tup [.agg [jI y.1, .im (.str y.2.1)], jI y.2.2.1, jI y.2.2.2]
def hh (l : TA) (y : XA) : Hp U := []
def A : AFun U := mkA pA pH (X := XA) (fun l => (tl l).run) sp1 v hh
def body := bodyOf Try.f114
def E : Env U := E0.mk5 [(132, ref12_Span.A), (133, ref12_Size.A)] [(9, Λ9)] [] [(9, ⟨[13, 1, 12, 4, 9, 11, 7, 8, 2], []⟩, ⟨[4, 5, 6, 12, 1, 9, 11, 7, 8, 2], []⟩)] []
theorem hf9 : HF E (pick (loopsOf body) 9) p9 q9 0 fl9 hd9 sp1 ou9 := fun _ _ _ _ => by kernel_rfl
theorem lk9 : LK E (pick (loopsOf body) 9) Λ9 := fun R st K r h =>
  lp_ok (E := E) (b := pick (loopsOf body) 9) (m := 0) (sp := sp1) (p := p9) (q := q9) (X := Int) (S := S9) (f := fl9) (hd := hd9) (s0 := fun (l : T9) => ((d8 l.1).2.2.2.1, (d12 l.1).1)) (ou := ou9)
    (fun l => rfl) (fun l x => by rfl) sp1_ok hf9 h
theorem hk : HK E Try.f114 [] pA pH tl v hh := fun _ _ _ => by kernel_rfl
theorem og : SoundF Try.prog cc 114 A ∧ FnOK Try.prog 114 :=
 og_of (E := E) P_mixed (E0_ok.mk5 _ _ _ _ _) (gam_of (all_cons ref12_Span.og (all_cons ref12_Size.og all_nil)) no_ro) Try.func114 (c := body) (by kernel_rfl)
    (just_by (by kernel_rfl) (by kernel_rfl) (all_cons lk9 all_nil) all_nil) [] sp1_ok hk (by kernel_rfl)
end ref12_Take

end
end Go.Proofs.Ytmlbioapefgioaa.Va
