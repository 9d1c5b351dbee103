/- The functions of package ref18, as plain functions, and that the program computes them. Printed by a program of this work out of the evaluator. -/
import Derived.Test.YtmlbioapefgioaaEn
import Derived.Tactics
set_option linter.unusedVariables false
namespace Go.Proofs.Ytmlbioapefgioaa.Va
noncomputable section
open Go
set_option maxRecDepth 100000

/-! instar/instarref18.Right -/
namespace ref18_Right
abbrev TA : Type := (((List ItemV) × Unit) × Unit)
abbrev T2 : Type := (((List ItemV) × (Unit × (Int × (Unit × Unit)))) × Unit)
abbrev X2 : Type := (Unit ⊕ Bool)
def l2 (l_ : (List ItemV)) (i : Int) : Tw (Int ⊕ X2) :=
 (.bb (decide (i < (((List.length l_) : Nat) : Int)))
 (.dd (((0 : Int) ≤ i)) inferInstance
 (.opt (l_)[(Int.toNat i)]? fun z1 =>
 (.bb (decide ((((ByteArray.size z1.data) : Nat) : Int) > (64 : Int)))
 (.ret (.inr (.inr false)))
 (.bb (decide (i > (0 : Int)))
 (.dd (((0 : Int) ≤ (w64 (i - (1 : Int))))) inferInstance
 (.opt (l_)[(Int.toNat (w64 (i - (1 : Int))))]? fun z2 =>
 (.dd (((0 : Int) ≤ i)) inferInstance
 (.opt (l_)[(Int.toNat i)]? fun z3 =>
 (.bb (decide (z2.key ≥ z3.key))
 (.ret (.inr (.inr false)))
 (.ret (.inl (w64 (i + (1 : Int)))))))
 .no))
 .no)
 (.ret (.inl (w64 (i + (1 : Int))))))))
 .no)
 (.ret (.inr (.inl ()))))
def L2 (l_ : (List ItemV)) (i : Int) : Option X2 := Lp (fun s => (l2 l_ s).run) i
def p2 : Pt := (.cs (.sl 10) (.cs (.bots 2) (jC (.cs (.bots 31) .nl))))
def q2 : Pt := .nl
def ou2 (l : T2) (y : X2) : Ex × St U := (Sum.elim (fun a0 => (.exit 0, stOf 35 [] [] 0)) (fun b0 => (.ret, stOf 35 [(2, jB b0)] [] 0)) y)
def Λ2 : LFun U := mkLp p2 q2 0 (X := X2) (fun (l : T2) => L2 l.1.1 l.1.2.2.1) (spS sp1) ou2
def hd2 (l : T2) (s : Int) : T2 := ((l.1.1, ((), (s, ((), ())))), ())
def fl2 (l : T2) (s : Int) : Tw (Int ⊕ X2) := l2 l.1.1 s
def t (l_ : (List ItemV)) : Tw Bool :=
 (.opt (L2 l_ (0 : Int)) fun z4 =>
 (.sm z4
 (fun z5 => (.ret true))
 (fun z6 => (.ret z6))))
def c (l_ : (List ItemV)) : Option Bool := (t l_).run
def tl (l : TA) : Tw Bool := t l.1.1
def pA : Pt := (.cs (.sl 10) .nl)
def pH : Pt := .nl
def v (l : TA) (y : Bool) : AV U := jB y
def hh (l : TA) (y : Bool) : Hp U := []
def A : AFun U := mkA pA pH (X := Bool) (fun l => (tl l).run) sp1 v hh
def body := bodyOf Try.f17
def E : Env U := E0.mk5 [] [(2, Λ2)] [] [(2, ⟨[3, 0], []⟩, ⟨[2], []⟩)] []
theorem hf2 : HF E (pick (loopsOf body) 2) p2 q2 0 fl2 hd2 (spS sp1) ou2 := fun _ _ _ _ => by kernel_rfl
theorem lk2 : LK E (pick (loopsOf body) 2) Λ2 := fun R st K r h =>
  lp_ok (E := E) (b := pick (loopsOf body) 2) (m := 0) (sp := (spS sp1)) (p := p2) (q := q2) (X := X2) (S := Int) (f := fl2) (hd := hd2) (s0 := fun (l : T2) => l.1.2.2.1) (ou := ou2)
    (fun l => rfl) (fun l x => by repeat' (first | rfl | (cases x with | inl => rfl | inr x => ?_))) (spS_ok sp1_ok) hf2 h
theorem hk : HK E Try.f17 [] pA pH tl v hh := fun _ _ _ => by kernel_rfl
theorem og : SoundF Try.prog cc 17 A ∧ FnOK Try.prog 17 :=
 og_of (E := E) P_mixed (E0_ok.mk5 _ _ _ _ _) (gam_of all_nil all_nil) Try.func17 (c := body) (by kernel_rfl)
    (just_by (by kernel_rfl) (by kernel_rfl) (all_cons lk2 all_nil) all_nil) [] sp1_ok hk (by kernel_rfl)
end ref18_Right

/-! instar/instarref18.Fits -/
namespace ref18_Fits
abbrev TA : Type := ((Int × (Int × Unit)) × Unit)
def t (form id : Int) : Tw Bool :=
 (.bb (decide (form ≥ (0 : Int)))
 (.bb (decide (form ≤ (200 : Int)))
 (.bb (decide (id ≥ (0 : Int)))
 (.ret (decide (id ≤ (65535 : Int))))
 (.ret false))
 (.ret false))
 (.ret false))
def c (form id : Int) : Option Bool := (t form id).run
def tl (l : TA) : Tw Bool := t l.1.1 l.1.2.1
def pA : Pt := (jC (jC .nl))
def pH : Pt := .nl
def v (l : TA) (y : Bool) : AV U := jB y
def hh (l : TA) (y : Bool) : Hp U := []
def A : AFun U := mkA pA pH (X := Bool) (fun l => (tl l).run) sp1 v hh
def body := bodyOf Try.f113
def E : Env U := E0.mk5 [] [] [] [] []
theorem hk : HK E Try.f113 [] pA pH tl v hh := fun _ _ _ => by kernel_rfl
theorem og : SoundF Try.prog cc 113 A ∧ FnOK Try.prog 113 :=
 og_of (E := E) P_mixed (E0_ok.mk5 _ _ _ _ _) (gam_of all_nil all_nil) Try.func113 (c := body) (by kernel_rfl)
    (just_by (by kernel_rfl) (by kernel_rfl) all_nil all_nil) [] sp1_ok hk (by kernel_rfl)
end ref18_Fits

/-! instar/instarref18.Main -/
namespace ref18_Main
abbrev TA : Type := ((Int × (Int × Unit)) × Unit)
def t (form id : Int) : Tw Int :=
 (.ret (w32 ((w32 ((w32 form) * (65536 : Int))) + (w32 id))))
def c (form id : Int) : Option Int := (t form id).run
def tl (l : TA) : Tw Int := t l.1.1 l.1.2.1
def pA : Pt := (jC (jC .nl))
def pH : Pt := .nl
def v (l : TA) (y : Int) : AV U := .im (.int .u32 y)
def hh (l : TA) (y : Int) : Hp U := []
def A : AFun U := mkA pA pH (X := Int) (fun l => (tl l).run) sp1 v hh
def body := bodyOf Try.f86
def E : Env U := E0.mk5 [] [] [] [] []
theorem hk : HK E Try.f86 [] pA pH tl v hh := fun _ _ _ => by kernel_rfl
theorem og : SoundF Try.prog cc 86 A ∧ FnOK Try.prog 86 :=
 og_of (E := E) P_mixed (E0_ok.mk5 _ _ _ _ _) (gam_of all_nil all_nil) Try.func86 (c := body) (by kernel_rfl)
    (just_by (by kernel_rfl) (by kernel_rfl) all_nil all_nil) [] sp1_ok hk (by kernel_rfl)
end ref18_Main

/-! instar/instarref18.Find -/
namespace ref18_Find
abbrev TA : Type := (((List ItemV) × (Int × Unit)) × Unit)
abbrev XA : Type := (ByteArray × Bool)
abbrev T2 : Type := (((List ItemV) × (Int × (Unit × (Int × (Unit × Unit))))) × Unit)
abbrev X2 : Type := (Unit ⊕ (ByteArray × Bool))
def l2 (l_ : (List ItemV)) (k i : Int) : Tw (Int ⊕ X2) :=
 (.bb (decide (i < (((List.length l_) : Nat) : Int)))
 (.dd (((0 : Int) ≤ i)) inferInstance
 (.opt (l_)[(Int.toNat i)]? fun z1 =>
 (.bb (z1.key == k)
 (.dd (((0 : Int) ≤ i)) inferInstance
 (.opt (l_)[(Int.toNat i)]? fun z2 =>
 (.ret (.inr (.inr (z2.data, true)))))
 .no)
 (.ret (.inl (w64 (i + (1 : Int)))))))
 .no)
 (.ret (.inr (.inl ()))))
def L2 (l_ : (List ItemV)) (k i : Int) : Option X2 := Lp (fun s => (l2 l_ k s).run) i
def p2 : Pt := (.cs (.sl 10) (.cs (.int .u32) (.cs (.bots 4) (jC (.cs (.bots 18) .nl)))))
def q2 : Pt := .nl
def ou2 (l : T2) (y : X2) : Ex × St U := (Sum.elim (fun a0 => (.exit 0, stOf 25 [] [] 0)) (fun b0 => (.ret, stOf 25 [(4, .im (.str b0.1)), (5, jB b0.2)] [] 0)) y)
def Λ2 : LFun U := mkLp p2 q2 0 (X := X2) (fun (l : T2) => L2 l.1.1 l.1.2.1 l.1.2.2.2.1) (spS sp1) ou2
def hd2 (l : T2) (s : Int) : T2 := ((l.1.1, (l.1.2.1, ((), (s, ((), ()))))), ())
def fl2 (l : T2) (s : Int) : Tw (Int ⊕ X2) := l2 l.1.1 l.1.2.1 s
def t (l_ : (List ItemV)) (k : Int) : Tw XA :=
 (.opt (L2 l_ k (0 : Int)) fun z3 =>
 (.sm z3
 (fun z4 => (.ret ((ByteArray.mk (List.toArray ([] : List (UInt8)))), false)))
 (fun z5 => (.ret (z5.1, z5.2)))))
def c (l_ : (List ItemV)) (k : Int) : Option XA := (t l_ k).run
def tl (l : TA) : Tw XA := t l.1.1 l.1.2.1
def pA : Pt := (.cs (.sl 10) (.cs (.int .u32) .nl))
def pH : Pt := .nl
def v (l : TA) (y : XA) : AV U := .tup [.im (.str y.1), jB y.2]
def hh (l : TA) (y : XA) : Hp U := []
def A : AFun U := mkA pA pH (X := XA) (fun l => (tl l).run) sp1 v hh
def body := bodyOf Try.f87
def E : Env U := E0.mk5 [] [(2, Λ2)] [] [(2, ⟨[6, 0, 1], []⟩, ⟨[4, 5], []⟩)] []
theorem hf2 : HF E (pick (loopsOf body) 2) p2 q2 0 fl2 hd2 (spS sp1) ou2 := fun _ _ _ _ => by kernel_rfl
theorem lk2 : LK E (pick (loopsOf body) 2) Λ2 := fun R st K r h =>
  lp_ok (E := E) (b := pick (loopsOf body) 2) (m := 0) (sp := (spS sp1)) (p := p2) (q := q2) (X := X2) (S := Int) (f := fl2) (hd := hd2) (s0 := fun (l : T2) => l.1.2.2.2.1) (ou := ou2)
    (fun l => rfl) (fun l x => by repeat' (first | rfl | (cases x with | inl => rfl | inr x => ?_))) (spS_ok sp1_ok) hf2 h
theorem hk : HK E Try.f87 [] pA pH tl v hh := fun _ _ _ => by kernel_rfl
theorem og : SoundF Try.prog cc 87 A ∧ FnOK Try.prog 87 :=
 og_of (E := E) P_mixed (E0_ok.mk5 _ _ _ _ _) (gam_of all_nil all_nil) Try.func87 (c := body) (by kernel_rfl)
    (just_by (by kernel_rfl) (by kernel_rfl) (all_cons lk2 all_nil) all_nil) [] sp1_ok hk (by kernel_rfl)
end ref18_Find

/-! instar/instarref18.Between -/
namespace ref18_Between
abbrev TA : Type := (((List ItemV) × (Int × (Int × Unit))) × Unit)
abbrev T3 : Type := (((List ItemV) × (Int × (Int × (Unit × (Unit × (Int × (Unit × Unit))))))) × ((List ItemV) × Unit))
abbrev S3 : Type := (Int × (List ItemV))
def l3 (l_ : (List ItemV)) (lo hi i : Int) (h0 : (List ItemV)) : Tw (S3 ⊕ (List ItemV)) :=
 (.bb (decide (i < (((List.length l_) : Nat) : Int)))
 (.dd (((0 : Int) ≤ i)) inferInstance
 (.opt (l_)[(Int.toNat i)]? fun z1 =>
 (.bb (decide (z1.key ≥ lo))
 (.dd (((0 : Int) ≤ i)) inferInstance
 (.opt (l_)[(Int.toNat i)]? fun z2 =>
 (.bb (decide (z2.key ≤ hi))
 (.dd (((0 : Int) ≤ i)) inferInstance
 (.opt (l_)[(Int.toNat i)]? fun z3 =>
 (.dd ((((((List.length h0) + (List.length ((Go.Proofs.Ytmlbioapefgioaa.Va.ItemV.mk z3.key z3.data) :: ([] : List (ItemV))))) * (24 : Nat)) ≤ (140737488355328 : Nat)) ∧ (((List.length h0) + (List.length ((Go.Proofs.Ytmlbioapefgioaa.Va.ItemV.mk z3.key z3.data) :: ([] : List (ItemV))))) ≤ (140737488355328 : Nat)))) inferInstance
 (.ret (.inl ((w64 (i + (1 : Int))), (h0 ++ ((Go.Proofs.Ytmlbioapefgioaa.Va.ItemV.mk z3.key z3.data) :: ([] : List (ItemV)))))))
 .no))
 .no)
 (.ret (.inl ((w64 (i + (1 : Int))), h0)))))
 .no)
 (.ret (.inl ((w64 (i + (1 : Int))), h0)))))
 .no)
 (.ret (.inr h0)))
def L3 (l_ : (List ItemV)) (lo hi i : Int) (h0 : (List ItemV)) : Option (List ItemV) := Lp (fun s => (l3 l_ lo hi s.1 s.2).run) (i, h0)
def p3 : Pt := (.cs (.sl 10) (.cs (.int .u32) (.cs (.int .u32) (.cs (.bots 4) (.cs (.own 0) (jC (.cs (.bots 30) .nl)))))))
def q3 : Pt := (.cs (.row 10 true) .nl)
def ou3 (l : T3) (y : (List ItemV)) : Ex × St U := (.exit 0, stOf 39 [(7, .own 0)] [.row 10 y true] 0)
def Λ3 : LFun U := mkLp p3 q3 0 (X := (List ItemV)) (fun (l : T3) => L3 l.1.1 l.1.2.1 l.1.2.2.1 (d4 l.1).2.1 l.2.1) sp1 ou3
def hd3 (l : T3) (s : S3) : T3 := ((l.1.1, (l.1.2.1, (l.1.2.2.1, ((), ((), (s.1, ((), ()))))))), (s.2, ()))
def fl3 (l : T3) (s : S3) : Tw (S3 ⊕ (List ItemV)) := l3 l.1.1 l.1.2.1 l.1.2.2.1 s.1 s.2
def t (l_ : (List ItemV)) (lo hi : Int) : Tw (List ItemV) :=
 (.opt (L3 l_ lo hi (0 : Int) ([] : List (ItemV))) fun z4 =>
 (.ret z4))
def c (l_ : (List ItemV)) (lo hi : Int) : Option (List ItemV) := (t l_ lo hi).run
def tl (l : TA) : Tw (List ItemV) := t l.1.1 l.1.2.1 l.1.2.2.1
def pA : Pt := (.cs (.sl 10) (.cs (.int .u32) (.cs (.int .u32) .nl)))
def pH : Pt := .nl
def v (l : TA) (y : (List ItemV)) : AV U := .own 0
def hh (l : TA) (y : (List ItemV)) : Hp U := [.row 10 y true]
def A : AFun U := mkA pA pH (X := (List ItemV)) (fun l => (tl l).run) sp1 v hh
def body := bodyOf Try.f68
def E : Env U := E0.mk5 [] [(3, Λ3)] [] [(3, ⟨[8, 0, 7, 2, 1], [(7, [], .own 10)]⟩, ⟨[6, 7], []⟩)] []
theorem hf3 : HF E (pick (loopsOf body) 3) p3 q3 0 fl3 hd3 sp1 ou3 := fun _ _ _ _ => by kernel_rfl
theorem lk3 : LK E (pick (loopsOf body) 3) Λ3 := fun R st K r h =>
  lp_ok (E := E) (b := pick (loopsOf body) 3) (m := 0) (sp := sp1) (p := p3) (q := q3) (X := (List ItemV)) (S := S3) (f := fl3) (hd := hd3) (s0 := fun (l : T3) => ((d4 l.1).2.1, l.2.1)) (ou := ou3)
    (fun l => rfl) (fun l x => by rfl) sp1_ok hf3 h
theorem hk : HK E Try.f68 [] pA pH tl v hh := fun _ _ _ => by kernel_rfl
theorem og : SoundF Try.prog cc 68 A ∧ FnOK Try.prog 68 :=
 og_of (E := E) P_mixed (E0_ok.mk5 _ _ _ _ _) (gam_of all_nil all_nil) Try.func68 (c := body) (by kernel_rfl)
    (just_by (by kernel_rfl) (by kernel_rfl) (all_cons lk3 all_nil) all_nil) [] sp1_ok hk (by kernel_rfl)
end ref18_Between

/-! instar/instarref18.Mains -/
namespace ref18_Mains
abbrev TA : Type := (((List ItemV) × Unit) × Unit)
def t (l_ : (List ItemV)) : Tw (List ItemV) :=
 (.opt (ref18_Between.c l_ (0 : Int) (16777215 : Int)) fun z1 =>
 (.ret z1))
def c (l_ : (List ItemV)) : Option (List ItemV) := (t l_).run
def tl (l : TA) : Tw (List ItemV) := t l.1.1
def pA : Pt := (.cs (.sl 10) .nl)
def pH : Pt := .nl
def v (l : TA) (y : (List ItemV)) : AV U := .own 0
def hh (l : TA) (y : (List ItemV)) : Hp U := [.row 10 y true]
def A : AFun U := mkA pA pH (X := (List ItemV)) (fun l => (tl l).run) sp1 v hh
def body := bodyOf Try.f53
def E : Env U := E0.mk5 [(68, ref18_Between.A)] [] [] [] []
theorem hk : HK E Try.f53 [] pA pH tl v hh := fun _ _ _ => by kernel_rfl
theorem og : SoundF Try.prog cc 53 A ∧ FnOK Try.prog 53 :=
 og_of (E := E) P_mixed (E0_ok.mk5 _ _ _ _ _) (gam_of (all_cons ref18_Between.og all_nil) no_ro) Try.func53 (c := body) (by kernel_rfl)
    (just_by (by kernel_rfl) (by kernel_rfl) all_nil all_nil) [] sp1_ok hk (by kernel_rfl)
end ref18_Mains

/-! instar/instarref18.Told -/
namespace ref18_Told
abbrev TA : Type := ((Int × Unit) × Unit)
abbrev XA : Type := (Int × (Int × Int))
def t (k : Int) : Tw XA :=
 (.ret ((w64 ((w64 (w32 (Int.tdiv k (16777216 : Int)))) - (1 : Int))), ((w64 (w32 (Int.tdiv (Int.tmod k (16777216 : Int)) (65536 : Int)))), (w64 (Int.tmod k (65536 : Int))))))
def c (k : Int) : Option XA := (t k).run
def tl (l : TA) : Tw XA := t l.1.1
def pA : Pt := (.cs (.int .u32) .nl)
def pH : Pt := .nl
def v (l : TA) (y : XA) : AV U := .tup [jI y.1, jI y.2.1, jI y.2.2]
def hh (l : TA) (y : XA) : Hp U := []
def A : AFun U := mkA pA pH (X := XA) (fun l => (tl l).run) sp1 v hh
def body := bodyOf Try.f95
def E : Env U := E0.mk5 [] [] [] [] []
theorem hk : HK E Try.f95 [] pA pH tl v hh := fun _ _ _ => by kernel_rfl
theorem og : SoundF Try.prog cc 95 A ∧ FnOK Try.prog 95 :=
 og_of (E := E) P_mixed (E0_ok.mk5 _ _ _ _ _) (gam_of all_nil all_nil) Try.func95 (c := body) (by kernel_rfl)
    (just_by (by kernel_rfl) (by kernel_rfl) all_nil all_nil) [] sp1_ok hk (by kernel_rfl)
end ref18_Told

end
end Go.Proofs.Ytmlbioapefgioaa.Va
