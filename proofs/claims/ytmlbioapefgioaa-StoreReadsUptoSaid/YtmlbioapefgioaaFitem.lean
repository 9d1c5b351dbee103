/- The functions of package item, as plain functions, and that the program computes them. Printed by a program of this work out of the evaluator. -/
import Derived.Test.YtmlbioapefgioaaEn
import Derived.Tactics
set_option linter.unusedVariables false
namespace Go.Proofs.Ytmlbioapefgioaa.Va
noncomputable section
open Go
set_option maxRecDepth 100000

/-! instar/item.Main -/
namespace item_Main
abbrev TA : Type := ((Int × (Int × Unit)) × Unit)
abbrev XA : Type := (Int × Int)
def t (form id : Int) : Tw XA :=
 (.bb (decide (form < (0 : Int)))
 (.ret ((0 : Int), (2 : Int)))
 (.bb (decide (form > (200 : Int)))
 (.ret ((0 : Int), (2 : Int)))
 (.bb (decide (id < (0 : Int)))
 (.ret ((0 : Int), (2 : Int)))
 (.bb (decide (id > (65535 : Int)))
 (.ret ((0 : Int), (2 : Int)))
 (.ret ((bOr .u32 (bShl .u32 (w32 form) (16 : Int)) (w32 id)), (0 : Int)))))))
def c (form id : Int) : Option XA := (t form id).run
def tl (l : TA) : Tw XA := t l.1.1 l.1.2.1
def pA : Pt := (jC (jC .nl))
def pH : Pt := .nl
def v (l : TA) (y : XA) : AV U := .tup [.im (.int .u32 y.1), jI y.2]
def hh (l : TA) (y : XA) : Hp U := []
def A : AFun U := mkA pA pH (X := XA) (fun l => (tl l).run) sp1 v hh
def body := bodyOf Try.f107
def E : Env U := E0.mk5 [] [] [] [] []
theorem hk : HK E Try.f107 [] pA pH tl v hh := fun _ _ _ => by kernel_rfl
theorem og : SoundF Try.prog cc 107 A ∧ FnOK Try.prog 107 :=
 og_of (E := E) P_mixed (E0_ok.mk5 _ _ _ _ _) (gam_of all_nil all_nil) Try.func107 (c := body) (by kernel_rfl)
    (just_by (by kernel_rfl) (by kernel_rfl) all_nil all_nil) [] sp1_ok hk (by kernel_rfl)
end item_Main

/-! instar/item.Cut$1 -/
namespace item_Cut_1
abbrev TA : Type := ((Int × (Unit × Unit)) × ((Int × Unit) × Unit))
def t (i h0_0 : Int) : Tw Bool :=
 (.ret (i != h0_0))
def c (i h0_0 : Int) : Option Bool := (t i h0_0).run
def tl (l : TA) : Tw Bool := t l.1.1 l.2.1.1
def pA : Pt := (.cs (.int .u32) (.cs (.ptr 0 0) .nl))
def pH : Pt := (.cs (.var (.cs (.int .u32) .nl)) .nl)
def v (l : TA) (y : Bool) : AV U := jB y
def hh (l : TA) (y : Bool) : Hp U := [.var [.im (.int .u32 l.2.1.1)]]
def A : AFun U := mkA pA pH (X := Bool) (fun l => (tl l).run) sp1 v hh
def body := bodyOf Try.f100
def E : Env U := E0.mk5 [] [] [] [] []
theorem hk : HK E Try.f100 [] pA pH tl v hh := fun _ _ _ => by kernel_rfl
theorem og : SoundF Try.prog cc 100 A ∧ FnOK Try.prog 100 :=
 og_of (E := E) P_mixed (E0_ok.mk5 _ _ _ _ _) (gam_of all_nil all_nil) Try.func100 (c := body) (by kernel_rfl)
    (just_by (by kernel_rfl) (by kernel_rfl) all_nil all_nil) [] sp1_ok hk (by kernel_rfl)
theorem keep : KeepA A := mkA_keep sp1_ok (fun (l : TA) y => ⟨(hh l y).drop 1, by kernel_rfl⟩)
end item_Cut_1

/-! instar/item.some -/
namespace item_some_of_item_Cut_1
abbrev TA : Type := (((List ItemV) × ((Unit × Unit) × Unit)) × ((Int × Unit) × Unit))
abbrev T3 : Type := ((Unit × ((Unit × Unit) × (Unit × (Unit × (Unit × ((List ItemV) × (Int × (Int × (Unit × Unit))))))))) × ((Int × Unit) × ((List ItemV) × Unit)))
abbrev S3 : Type := (Int × (List ItemV))
def l3 (k8 : (List ItemV)) (k9 h0_0 k10 : Int) (h1 : (List ItemV)) : Tw (S3 ⊕ (List ItemV)) :=
 (.bb (decide (k10 < k9))
 (.dd (((0 : Int) ≤ k10)) inferInstance
 (.opt (k8)[(Int.toNat k10)]? fun z1 =>
 (.opt (item_Cut_1.c z1.key h0_0) fun z2 =>
 (.bb z2
 (.dd ((((((List.length h1) + (List.length ((Go.Proofs.Ytmlbioapefgioaa.Va.ItemV.mk z1.key z1.data) :: ([] : List (ItemV))))) * (24 : Nat)) ≤ (140737488355328 : Nat)) ∧ (((List.length h1) + (List.length ((Go.Proofs.Ytmlbioapefgioaa.Va.ItemV.mk z1.key z1.data) :: ([] : List (ItemV))))) ≤ (140737488355328 : Nat)))) inferInstance
 (.ret (.inl ((w64 (k10 + (1 : Int))), (h1 ++ ((Go.Proofs.Ytmlbioapefgioaa.Va.ItemV.mk z1.key z1.data) :: ([] : List (ItemV)))))))
 .no)
 (.ret (.inl ((w64 (k10 + (1 : Int))), h1))))))
 .no)
 (.ret (.inr h1)))
def L3 (k8 : (List ItemV)) (k9 k10 h0_0 : Int) (h1 : (List ItemV)) : Option (List ItemV) := Lp (fun s => (l3 k8 k9 h0_0 s.1 s.2).run) (k10, h1)
def p3 : Pt := (.cs (.bots 1) (.cs (.clo 100 (.cs (.ptr 0 0) .nl)) (.cs (.bots 3) (.cs (.own 1) (.cs (.bots 2) (.cs (.sl 10) (jC (jC (.cs (.bots 13) .nl)))))))))
def q3 : Pt := (.cs (.var (.cs (.int .u32) .nl)) (.cs (.row 10 true) .nl))
def ou3 (l : T3) (y : (List ItemV)) : Ex × St U := (.exit 0, stOf 24 [(5, .own 1)] [.var [.im (.int .u32 l.2.1.1)], .row 10 y true] 1)
def Λ3 : LFun U := mkLp p3 q3 1 (X := (List ItemV)) (fun (l : T3) => L3 (d4 l.1).2.1 (d4 l.1).2.2.1 (d4 l.1).2.2.2.1 l.2.1.1 l.2.2.1) sp1 ou3
def hd3 (l : T3) (s : S3) : T3 := (((), (((), ()), ((), ((), ((), ((d4 l.1).2.1, ((d4 l.1).2.2.1, (s.1, ((), ()))))))))), ((l.2.1.1, ()), (s.2, ())))
def fl3 (l : T3) (s : S3) : Tw (S3 ⊕ (List ItemV)) := l3 (d4 l.1).2.1 (d4 l.1).2.2.1 l.2.1.1 s.1 s.2
def t (l_ : (List ItemV)) (h0_0 : Int) : Tw (List ItemV) :=
 (.opt (L3 l_ (((List.length l_) : Nat) : Int) (0 : Int) h0_0 ([] : List (ItemV))) fun z3 =>
 (.ret z3))
def c (l_ : (List ItemV)) (h0_0 : Int) : Option (List ItemV) := (t l_ h0_0).run
def tl (l : TA) : Tw (List ItemV) := t l.1.1 l.2.1.1
def pA : Pt := (.cs (.sl 10) (.cs (.clo 100 (.cs (.ptr 0 0) .nl)) .nl))
def pH : Pt := (.cs (.var (.cs (.int .u32) .nl)) .nl)
def v (l : TA) (y : (List ItemV)) : AV U := .own 1
def hh (l : TA) (y : (List ItemV)) : Hp U := [.var [.im (.int .u32 l.2.1.1)], .row 10 y true]
def A : AFun U := mkA pA pH (X := (List ItemV)) (fun l => (tl l).run) sp1 v hh
def body := bodyOf Try.f99
def E : Env U := E0.mk5 [(100, item_Cut_1.A)] [(3, Λ3)] [] [(3, ⟨[10, 5, 1, 8, 9], [(5, [], .own 10)]⟩, ⟨[4, 5], []⟩)] [100]
theorem hf3 : HF E (pick (loopsOf body) 3) p3 q3 1 fl3 hd3 sp1 ou3 := fun _ _ _ _ => by kernel_rfl
theorem lk3 : LK E (pick (loopsOf body) 3) Λ3 := fun R st K r h =>
  lp_ok (E := E) (b := pick (loopsOf body) 3) (m := 1) (sp := sp1) (p := p3) (q := q3) (X := (List ItemV)) (S := S3) (f := fl3) (hd := hd3) (s0 := fun (l : T3) => ((d4 l.1).2.2.2.1, l.2.2.1)) (ou := ou3)
    (fun l => rfl) (fun l x => by rfl) sp1_ok hf3 h
theorem hk : HK E Try.f99 [] pA pH tl v hh := fun _ _ _ => by kernel_rfl
theorem og : SoundF Try.prog cc 99 A ∧ FnOK Try.prog 99 :=
 og_of (E := E) P_mixed (E0_ok.mk5 _ _ _ _ _) (gam_of (all_cons item_Cut_1.og all_nil) (all_cons (fun _ => item_Cut_1.keep) all_nil)) Try.func99 (c := body) (by kernel_rfl)
    (just_by (by kernel_rfl) (by kernel_rfl) (all_cons lk3 all_nil) all_nil) [] sp1_ok hk (by kernel_rfl)
end item_some_of_item_Cut_1

/-! instar/item.Cut -/
namespace item_Cut
abbrev TA : Type := (((List ItemV) × (Int × Unit)) × Unit)
abbrev XA : Type := (Bool × (List ItemV))
def t (l_ : (List ItemV)) (k : Int) : Tw XA :=
 (.opt (item_some_of_item_Cut_1.c l_ k) fun z1 =>
 (.ret ((decide ((((List.length z1) : Nat) : Int) < (((List.length l_) : Nat) : Int))), z1)))
def c (l_ : (List ItemV)) (k : Int) : Option XA := (t l_ k).run
def tl (l : TA) : Tw XA := t l.1.1 l.1.2.1
def pA : Pt := (.cs (.sl 10) (.cs (.int .u32) .nl))
def pH : Pt := .nl
def v (l : TA) (y : XA) : AV U := .tup [.own 0, jB y.1]
def hh (l : TA) (y : XA) : Hp U := [.row 10 y.2 true]
def A : AFun U := mkA pA pH (X := XA) (fun l => (tl l).run) sp1 v hh
def body := bodyOf Try.f62
def E : Env U := E0.mk5 [(99, item_some_of_item_Cut_1.A)] [] [] [] []
theorem hk : HK E Try.f62 [] pA pH tl v hh := fun _ _ _ => by kernel_rfl
theorem og : SoundF Try.prog cc 62 A ∧ FnOK Try.prog 62 :=
 og_of (E := E) P_mixed (E0_ok.mk5 _ _ _ _ _) (gam_of (all_cons item_some_of_item_Cut_1.og all_nil) no_ro) Try.func62 (c := body) (by kernel_rfl)
    (just_by (by kernel_rfl) (by kernel_rfl) all_nil all_nil) [] sp1_ok hk (by kernel_rfl)
end item_Cut

/-! instar/item.Find -/
namespace item_Find
abbrev TA : Type := (((List ItemV) × (Int × Unit)) × Unit)
abbrev XA : Type := (ByteArray × Bool)
abbrev T2 : Type := ((Unit × (Int × (Unit × ((List ItemV) × (Int × (Int × (Unit × Unit))))))) × Unit)
abbrev X2 : Type := (Unit ⊕ (ByteArray × Bool))
def l2 (k : Int) (k8 : (List ItemV)) (k9 k10 : Int) : Tw (Int ⊕ X2) :=
 (.bb (decide (k10 < k9))
 (.dd (((0 : Int) ≤ k10)) inferInstance
 (.opt (k8)[(Int.toNat k10)]? fun z1 =>
 (.bb (z1.key == k)
 (.ret (.inr (.inr (z1.data, true))))
 (.ret (.inl (w64 (k10 + (1 : Int)))))))
 .no)
 (.ret (.inr (.inl ()))))
def L2 (k : Int) (k8 : (List ItemV)) (k9 k10 : Int) : Option X2 := Lp (fun s => (l2 k k8 k9 s).run) k10
def p2 : Pt := (.cs (.bots 1) (.cs (.int .u32) (.cs (.bots 6) (.cs (.sl 10) (jC (jC (.cs (.bots 10) .nl)))))))
def q2 : Pt := .nl
def ou2 (l : T2) (y : X2) : Ex × St U := (Sum.elim (fun a0 => (.exit 0, stOf 21 [] [] 0)) (fun b0 => (.ret, stOf 21 [(4, .im (.str b0.1)), (5, jB b0.2)] [] 0)) y)
def Λ2 : LFun U := mkLp p2 q2 0 (X := X2) (fun (l : T2) => L2 l.1.2.1 l.1.2.2.2.1 (d4 l.1).1 (d4 l.1).2.1) (spS sp1) ou2
def hd2 (l : T2) (s : Int) : T2 := (((), (l.1.2.1, ((), (l.1.2.2.2.1, ((d4 l.1).1, (s, ((), ()))))))), ())
def fl2 (l : T2) (s : Int) : Tw (Int ⊕ X2) := l2 l.1.2.1 l.1.2.2.2.1 (d4 l.1).1 s
def t (l_ : (List ItemV)) (k : Int) : Tw XA :=
 (.opt (L2 k l_ (((List.length l_) : Nat) : Int) (0 : Int)) fun z2 =>
 (.sm z2
 (fun z3 => (.ret ((ByteArray.mk (List.toArray ([] : List (UInt8)))), false)))
 (fun z4 => (.ret (z4.1, z4.2)))))
def c (l_ : (List ItemV)) (k : Int) : Option XA := (t l_ k).run
def tl (l : TA) : Tw XA := t l.1.1 l.1.2.1
def pA : Pt := (.cs (.sl 10) (.cs (.int .u32) .nl))
def pH : Pt := .nl
def v (l : TA) (y : XA) : AV U := .tup [.im (.str y.1), jB y.2]
def hh (l : TA) (y : XA) : Hp U := []
def A : AFun U := mkA pA pH (X := XA) (fun l => (tl l).run) sp1 v hh
def body := bodyOf Try.f83
def E : Env U := E0.mk5 [] [(2, Λ2)] [] [(2, ⟨[10, 1, 8, 9], []⟩, ⟨[4, 5], []⟩)] []
theorem hf2 : HF E (pick (loopsOf body) 2) p2 q2 0 fl2 hd2 (spS sp1) ou2 := fun _ _ _ _ => by kernel_rfl
theorem lk2 : LK E (pick (loopsOf body) 2) Λ2 := fun R st K r h =>
  lp_ok (E := E) (b := pick (loopsOf body) 2) (m := 0) (sp := (spS sp1)) (p := p2) (q := q2) (X := X2) (S := Int) (f := fl2) (hd := hd2) (s0 := fun (l : T2) => (d4 l.1).2.1) (ou := ou2)
    (fun l => rfl) (fun l x => by repeat' (first | rfl | (cases x with | inl => rfl | inr x => ?_))) (spS_ok sp1_ok) hf2 h
theorem hk : HK E Try.f83 [] pA pH tl v hh := fun _ _ _ => by kernel_rfl
theorem og : SoundF Try.prog cc 83 A ∧ FnOK Try.prog 83 :=
 og_of (E := E) P_mixed (E0_ok.mk5 _ _ _ _ _) (gam_of all_nil all_nil) Try.func83 (c := body) (by kernel_rfl)
    (just_by (by kernel_rfl) (by kernel_rfl) (all_cons lk2 all_nil) all_nil) [] sp1_ok hk (by kernel_rfl)
end item_Find

/-! instar/item.own -/
namespace item_own
abbrev TA : Type := ((Int × Unit) × Unit)
def t (k : Int) : Tw Bool :=
 (.ret ((bShr .u32 k (24 : Int)) == (0 : Int)))
def c (k : Int) : Option Bool := (t k).run
def tl (l : TA) : Tw Bool := t l.1.1
def pA : Pt := (.cs (.int .u32) .nl)
def pH : Pt := .nl
def v (l : TA) (y : Bool) : AV U := jB y
def hh (l : TA) (y : Bool) : Hp U := []
def A : AFun U := mkA pA pH (X := Bool) (fun l => (tl l).run) sp1 v hh
def body := bodyOf Try.f134
def E : Env U := E0.mk5 [] [] [] [] []
theorem hk : HK E Try.f134 [] pA pH tl v hh := fun _ _ _ => by kernel_rfl
theorem og : SoundF Try.prog cc 134 A ∧ FnOK Try.prog 134 :=
 og_of (E := E) P_mixed (E0_ok.mk5 _ _ _ _ _) (gam_of all_nil all_nil) Try.func134 (c := body) (by kernel_rfl)
    (just_by (by kernel_rfl) (by kernel_rfl) all_nil all_nil) [] sp1_ok hk (by kernel_rfl)
end item_own

/-! instar/item.some -/
namespace item_some_of_item_own
abbrev TA : Type := (((List ItemV) × (Unit × Unit)) × Unit)
abbrev T3 : Type := ((Unit × (Unit × (Unit × (Unit × (Unit × ((List ItemV) × (Int × (Int × (Unit × Unit))))))))) × ((List ItemV) × Unit))
abbrev S3 : Type := (Int × (List ItemV))
def l3 (k8 : (List ItemV)) (k9 k10 : Int) (h0 : (List ItemV)) : Tw (S3 ⊕ (List ItemV)) :=
 (.bb (decide (k10 < k9))
 (.dd (((0 : Int) ≤ k10)) inferInstance
 (.opt (k8)[(Int.toNat k10)]? fun z1 =>
 (.opt (item_own.c z1.key) fun z2 =>
 (.bb z2
 (.dd ((((((List.length h0) + (List.length ((Go.Proofs.Ytmlbioapefgioaa.Va.ItemV.mk z1.key z1.data) :: ([] : List (ItemV))))) * (24 : Nat)) ≤ (140737488355328 : Nat)) ∧ (((List.length h0) + (List.length ((Go.Proofs.Ytmlbioapefgioaa.Va.ItemV.mk z1.key z1.data) :: ([] : List (ItemV))))) ≤ (140737488355328 : Nat)))) inferInstance
 (.ret (.inl ((w64 (k10 + (1 : Int))), (h0 ++ ((Go.Proofs.Ytmlbioapefgioaa.Va.ItemV.mk z1.key z1.data) :: ([] : List (ItemV)))))))
 .no)
 (.ret (.inl ((w64 (k10 + (1 : Int))), h0))))))
 .no)
 (.ret (.inr h0)))
def L3 (k8 : (List ItemV)) (k9 k10 : Int) (h0 : (List ItemV)) : Option (List ItemV) := Lp (fun s => (l3 k8 k9 s.1 s.2).run) (k10, h0)
def p3 : Pt := (.cs (.bots 1) (.cs (.clo 134 .nl) (.cs (.bots 3) (.cs (.own 0) (.cs (.bots 2) (.cs (.sl 10) (jC (jC (.cs (.bots 13) .nl)))))))))
def q3 : Pt := (.cs (.row 10 true) .nl)
def ou3 (l : T3) (y : (List ItemV)) : Ex × St U := (.exit 0, stOf 24 [(5, .own 0)] [.row 10 y true] 0)
def Λ3 : LFun U := mkLp p3 q3 0 (X := (List ItemV)) (fun (l : T3) => L3 (d4 l.1).2.1 (d4 l.1).2.2.1 (d4 l.1).2.2.2.1 l.2.1) sp1 ou3
def hd3 (l : T3) (s : S3) : T3 := (((), ((), ((), ((), ((), ((d4 l.1).2.1, ((d4 l.1).2.2.1, (s.1, ((), ()))))))))), (s.2, ()))
def fl3 (l : T3) (s : S3) : Tw (S3 ⊕ (List ItemV)) := l3 (d4 l.1).2.1 (d4 l.1).2.2.1 s.1 s.2
def t (l_ : (List ItemV)) : Tw (List ItemV) :=
 (.opt (L3 l_ (((List.length l_) : Nat) : Int) (0 : Int) ([] : List (ItemV))) fun z3 =>
 (.ret z3))
def c (l_ : (List ItemV)) : Option (List ItemV) := (t l_).run
def tl (l : TA) : Tw (List ItemV) := t l.1.1
def pA : Pt := (.cs (.sl 10) (.cs (.clo 134 .nl) .nl))
def pH : Pt := .nl
def v (l : TA) (y : (List ItemV)) : AV U := .own 0
def hh (l : TA) (y : (List ItemV)) : Hp U := [.row 10 y true]
def A : AFun U := mkA pA pH (X := (List ItemV)) (fun l => (tl l).run) sp1 v hh
def body := bodyOf Try.f99
def E : Env U := E0.mk5 [(134, item_own.A)] [(3, Λ3)] [] [(3, ⟨[10, 5, 1, 8, 9], [(5, [], .own 10)]⟩, ⟨[4, 5], []⟩)] []
theorem hf3 : HF E (pick (loopsOf body) 3) p3 q3 0 fl3 hd3 sp1 ou3 := fun _ _ _ _ => by kernel_rfl
theorem lk3 : LK E (pick (loopsOf body) 3) Λ3 := fun R st K r h =>
  lp_ok (E := E) (b := pick (loopsOf body) 3) (m := 0) (sp := sp1) (p := p3) (q := q3) (X := (List ItemV)) (S := S3) (f := fl3) (hd := hd3) (s0 := fun (l : T3) => ((d4 l.1).2.2.2.1, l.2.1)) (ou := ou3)
    (fun l => rfl) (fun l x => by rfl) sp1_ok hf3 h
theorem hk : HK E Try.f99 [] pA pH tl v hh := fun _ _ _ => by kernel_rfl
theorem og : SoundF Try.prog cc 99 A ∧ FnOK Try.prog 99 :=
 og_of (E := E) P_mixed (E0_ok.mk5 _ _ _ _ _) (gam_of (all_cons item_own.og all_nil) no_ro) Try.func99 (c := body) (by kernel_rfl)
    (just_by (by kernel_rfl) (by kernel_rfl) (all_cons lk3 all_nil) all_nil) [] sp1_ok hk (by kernel_rfl)
end item_some_of_item_own

/-! instar/item.Mains -/
namespace item_Mains
abbrev TA : Type := (((List ItemV) × Unit) × Unit)
def t (l_ : (List ItemV)) : Tw (List ItemV) :=
 (.opt (item_some_of_item_own.c l_) fun z1 =>
 (.ret z1))
def c (l_ : (List ItemV)) : Option (List ItemV) := (t l_).run
def tl (l : TA) : Tw (List ItemV) := t l.1.1
def pA : Pt := (.cs (.sl 10) .nl)
def pH : Pt := .nl
def v (l : TA) (y : (List ItemV)) : AV U := .own 0
def hh (l : TA) (y : (List ItemV)) : Hp U := [.row 10 y true]
def A : AFun U := mkA pA pH (X := (List ItemV)) (fun l => (tl l).run) sp1 v hh
def body := bodyOf Try.f118
def E : Env U := E0.mk5 [(99, item_some_of_item_own.A)] [] [] [] []
theorem hk : HK E Try.f118 [] pA pH tl v hh := fun _ _ _ => by kernel_rfl
theorem og : SoundF Try.prog cc 118 A ∧ FnOK Try.prog 118 :=
 og_of (E := E) P_mixed (E0_ok.mk5 _ _ _ _ _) (gam_of (all_cons item_some_of_item_own.og all_nil) no_ro) Try.func118 (c := body) (by kernel_rfl)
    (just_by (by kernel_rfl) (by kernel_rfl) all_nil all_nil) [] sp1_ok hk (by kernel_rfl)
end item_Mains

/-! instar/item.Told -/
namespace item_Told
abbrev TA : Type := ((Int × Unit) × Unit)
abbrev XA : Type := (Int × (Int × Int))
def t (k : Int) : Tw XA :=
 (.ret ((w64 ((w64 (bShr .u32 k (24 : Int))) - (1 : Int))), ((w64 (bAnd .u32 (bShr .u32 k (16 : Int)) (255 : Int))), (w64 (bAnd .u32 k (65535 : Int))))))
def c (k : Int) : Option XA := (t k).run
def tl (l : TA) : Tw XA := t l.1.1
def pA : Pt := (.cs (.int .u32) .nl)
def pH : Pt := .nl
def v (l : TA) (y : XA) : AV U := .tup [jI y.1, jI y.2.1, jI y.2.2]
def hh (l : TA) (y : XA) : Hp U := []
def A : AFun U := mkA pA pH (X := XA) (fun l => (tl l).run) sp1 v hh
def body := bodyOf Try.f93
def E : Env U := E0.mk5 [] [] [] [] []
theorem hk : HK E Try.f93 [] pA pH tl v hh := fun _ _ _ => by kernel_rfl
theorem og : SoundF Try.prog cc 93 A ∧ FnOK Try.prog 93 :=
 og_of (E := E) P_mixed (E0_ok.mk5 _ _ _ _ _) (gam_of all_nil all_nil) Try.func93 (c := body) (by kernel_rfl)
    (just_by (by kernel_rfl) (by kernel_rfl) all_nil all_nil) [] sp1_ok hk (by kernel_rfl)
end item_Told

end
end Go.Proofs.Ytmlbioapefgioaa.Va
