/- The functions of package pack, as plain functions, and that the program computes them. Printed by a program of this work out of the evaluator. -/
import Derived.Test.YtmlbioapefgioaaEn
import Derived.Tactics
import Derived.Test.YtmlbioapefgioaaFitem
import Derived.Test.YtmlbioapefgioaaFleaf
import Derived.Test.YtmlbioapefgioaaFslices
set_option linter.unusedVariables false
namespace Go.Proofs.Ytmlbioapefgioaa.Va
noncomputable section
open Go
set_option maxRecDepth 100000

/-! instar/pack.At -/
namespace pack_At_none0
abbrev TA : Type := ((Unit × (Int × Unit)) × Unit)
abbrev T3 : Type := ((Unit × (Int × (Unit × (Int × (Unit × (Unit × (Int × (Int × (Unit × Unit))))))))) × Unit)
def l3 (key at_ k13 k14 : Int) : Tw (Unit ⊕ Unit) :=
 (.bb (decide (k14 < k13))
 .no
 (.ret (.inr ())))
def L3 (key at_ k13 k14 : Int) : Option Unit := Lp (fun s => (l3 key at_ k13 k14).run) ()
def p3 : Pt := (.cs (.bots 1) (.cs (.int .u32) (.cs (.bots 3) (jC (.cs (.bots 6) (.cs .nils (jC (jC (.cs (.bots 18) .nl)))))))))
def q3 : Pt := .nl
def ou3 (l : T3) (y : Unit) : Ex × St U := (.exit 0, stOf 33 [(5, jI l.1.2.2.2.1)] [] 0)
def Λ3 : LFun U := mkLp p3 q3 0 (X := Unit) (fun (l : T3) => L3 l.1.2.1 l.1.2.2.2.1 (d4 l.1).2.2.1 (d4 l.1).2.2.2.1) sp1 ou3
def hd3 (l : T3) (s : Unit) : T3 := (((), (l.1.2.1, ((), (l.1.2.2.2.1, ((), ((), ((d4 l.1).2.2.1, ((d4 l.1).2.2.2.1, ((), ()))))))))), ())
def fl3 (l : T3) (s : Unit) : Tw (Unit ⊕ Unit) := l3 l.1.2.1 l.1.2.2.2.1 (d4 l.1).2.2.1 (d4 l.1).2.2.2.1
def t (key : Int) : Tw Int :=
 (.opt (L3 key (w64 ((imin (0 : Int) (1 : Int)) - (1 : Int))) (0 : Int) (0 : Int)) fun z1 =>
 (.ret (w64 ((imin (0 : Int) (1 : Int)) - (1 : Int)))))
def c (key : Int) : Option Int := (t key).run
def tl (l : TA) : Tw Int := t l.1.2.1
def pA : Pt := (.cs .nils (.cs (.int .u32) .nl))
def pH : Pt := .nl
def v (l : TA) (y : Int) : AV U := jI y
def hh (l : TA) (y : Int) : Hp U := []
def A : AFun U := mkA pA pH (X := Int) (fun l => (tl l).run) sp1 v hh
def body := bodyOf Try.f22
def E : Env U := E0.mk5 [] [(3, Λ3)] [] [(3, ⟨[14, 1, 12, 5, 13], []⟩, ⟨[4, 5], []⟩)] []
theorem hf3 : HF E (pick (loopsOf body) 3) p3 q3 0 fl3 hd3 sp1 ou3 := fun _ _ _ _ => by kernel_rfl
theorem lk3 : LK E (pick (loopsOf body) 3) Λ3 := fun R st K r h =>
  lp_ok (E := E) (b := pick (loopsOf body) 3) (m := 0) (sp := sp1) (p := p3) (q := q3) (X := Unit) (S := Unit) (f := fl3) (hd := hd3) (s0 := fun (l : T3) => ()) (ou := ou3)
    (fun l => rfl) (fun l x => by rfl) sp1_ok hf3 h
theorem hk : HK E Try.f22 [] pA pH tl v hh := fun _ _ _ => by kernel_rfl
theorem og : SoundF Try.prog cc 22 A ∧ FnOK Try.prog 22 :=
 og_of (E := E) P_mixed (E0_ok.mk5 _ _ _ _ _) (gam_of all_nil all_nil) Try.func22 (c := body) (by kernel_rfl)
    (just_by (by kernel_rfl) (by kernel_rfl) (all_cons lk3 all_nil) all_nil) [] sp1_ok hk (by kernel_rfl)
end pack_At_none0

/-! instar/pack.with -/
namespace pack_with_none0
abbrev TA : Type := ((Unit × (Int × (Int × ((List (List ItemV)) × Unit)))) × Unit)
abbrev XA : Type := (Int × (List (List ItemV)))
abbrev T3 : Type := ((Unit × (Int × (Int × ((List (List ItemV)) × (Unit × (Unit × (Unit × (Unit × (Unit × (Int × (Int × (Unit × Unit)))))))))))) × ((Int × (Int × (Int × Unit))) × ((List (List ItemV)) × ((List (List ItemV)) × Unit))))
abbrev S3 : Type := (Int × (List (List ItemV)))
def l3 (from_ old : Int) (more : (List (List ItemV))) (k24 h0_0 h0_1 h0_2 : Int) (h2 : (List (List ItemV))) (k25 : Int) (h1 : (List (List ItemV))) : Tw (S3 ⊕ (List (List ItemV))) :=
 (.bb (decide (k25 < k24))
 (.dd ((((0 : Int) ≤ k25) ∧ (k25 < (((List.length h2) : Nat) : Int)))) inferInstance
 (.opt (h2)[(Int.toNat k25)]? fun z2 =>
 (.opt (slices_Clone__api_Itemapi_Item.c z2) fun z3 =>
 (.dd ((((((List.length h1) + (List.length (z3 :: ([] : List (List ItemV))))) * (24 : Nat)) ≤ (140737488355328 : Nat)) ∧ (((List.length h1) + (List.length (z3 :: ([] : List (List ItemV))))) ≤ (140737488355328 : Nat)))) inferInstance
 (.ret (.inl ((w64 (k25 + (1 : Int))), (h1 ++ (z3 :: ([] : List (List ItemV)))))))
 .no)))
 .no)
 (.ret (.inr h1)))
def L3 (from_ old : Int) (more : (List (List ItemV))) (k24 k25 h0_0 h0_1 h0_2 : Int) (h1 : (List (List ItemV))) (h2 : (List (List ItemV))) : Option (List (List ItemV)) := Lp (fun s => (l3 from_ old more k24 h0_0 h0_1 h0_2 h2 s.1 s.2).run) (k25, h1)
def p3 : Pt := (.cs (.bots 1) (jC (jC (.cs (.sl 11) (.cs (.bots 5) (.cs (.ptr 0 0) (.cs (.own 1) (.cs (.bots 12) (.cs (.own 2) (jC (jC (.cs (.bots 15) .nl))))))))))))
def q3 : Pt := (.cs (.var (jC (jC (jC .nl)))) (.cs (.row 11 true) (.cs (.row 11 true) .nl)))
def ou3 (l : T3) (y : (List (List ItemV))) : Ex × St U := (.exit 0, stOf 41 [(1, jI l.1.2.1), (2, jI l.1.2.2.1), (3, .im (.slice 11 l.1.2.2.2.1)), (9, .ptr 0 0), (10, .own 1)] [.var [jI l.2.1.1, jI l.2.1.2.1, jI l.2.1.2.2.1], .row 11 y true] 0)
def Λ3 : LFun U := mkLp p3 q3 0 (X := (List (List ItemV))) (fun (l : T3) => L3 l.1.2.1 l.1.2.2.1 l.1.2.2.2.1 (d8 l.1).2.1 (d8 l.1).2.2.1 l.2.1.1 l.2.1.2.1 l.2.1.2.2.1 l.2.2.1 l.2.2.2.1) sp1 ou3
def hd3 (l : T3) (s : S3) : T3 := (((), (l.1.2.1, (l.1.2.2.1, (l.1.2.2.2.1, ((), ((), ((), ((), ((), ((d8 l.1).2.1, (s.1, ((), ())))))))))))), ((l.2.1.1, (l.2.1.2.1, (l.2.1.2.2.1, ()))), (s.2, (l.2.2.2.1, ()))))
def fl3 (l : T3) (s : S3) : Tw (S3 ⊕ (List (List ItemV))) := l3 l.1.2.1 l.1.2.2.1 l.1.2.2.2.1 (d8 l.1).2.1 l.2.1.1 l.2.1.2.1 l.2.1.2.2.1 l.2.2.2.1 s.1 s.2
def t (from_ old : Int) (more : (List (List ItemV))) : Tw XA :=
 (.dd ((((0 : Int) ≤ from_) ∧ (from_ ≤ (((0 : Nat) : Nat) : Int)))) inferInstance
 (.dd ((((0 : Int) ≤ (w64 (from_ + old))) ∧ ((w64 (from_ + old)) ≤ (((0 : Nat) : Nat) : Int)))) inferInstance
 (.opt (slices_Concat___api_Item_api_Item.c (([] : List (List ItemV)) :: (more :: (([] : List (List ItemV)) :: ([] : List (List (List ItemV))))))) fun z1 =>
 (.opt (L3 from_ old more (((List.length z1) : Nat) : Int) (0 : Int) (0 : Int) (0 : Int) (0 : Int) ([] : List (List ItemV)) z1) fun z4 =>
 (.ret ((((List.length more) : Nat) : Int), z4))))
 .no)
 .no)
def c (from_ old : Int) (more : (List (List ItemV))) : Option XA := (t from_ old more).run
def tl (l : TA) : Tw XA := t l.1.2.1 l.1.2.2.1 l.1.2.2.2.1
def pA : Pt := (.cs .nils (jC (jC (.cs (.sl 11) .nl))))
def pH : Pt := .nl
def v (l : TA) (y : XA) : AV U := .tup [.own 0, .agg [jI l.1.2.1, jI l.1.2.2.1, jI y.1]]
def hh (l : TA) (y : XA) : Hp U := [.row 11 y.2 true]
def A : AFun U := mkA pA pH (X := XA) (fun l => (tl l).run) sp1 v hh
def body := bodyOf Try.f63
def E : Env U := E0.mk5 [(101, slices_Concat___api_Item_api_Item.A), (60, slices_Clone__api_Itemapi_Item.A)] [(3, Λ3)] [] [(3, ⟨[25, 10, 23, 9, 3, 2, 1, 24], [(10, [], .own 11)]⟩, ⟨[8, 9, 3, 2, 1, 10], []⟩)] []
theorem hf3 : HF E (pick (loopsOf body) 3) p3 q3 0 fl3 hd3 sp1 ou3 := fun _ _ _ _ => by kernel_rfl
theorem lk3 : LK E (pick (loopsOf body) 3) Λ3 := fun R st K r h =>
  lp_ok (E := E) (b := pick (loopsOf body) 3) (m := 0) (sp := sp1) (p := p3) (q := q3) (X := (List (List ItemV))) (S := S3) (f := fl3) (hd := hd3) (s0 := fun (l : T3) => ((d8 l.1).2.2.1, l.2.2.1)) (ou := ou3)
    (fun l => rfl) (fun l x => by rfl) sp1_ok hf3 h
theorem hk : HK E Try.f63 [] pA pH tl v hh := fun _ _ _ => by kernel_rfl
theorem og : SoundF Try.prog cc 63 A ∧ FnOK Try.prog 63 :=
 og_of (E := E) P_mixed (E0_ok.mk5 _ _ _ _ _) (gam_of (all_cons slices_Concat___api_Item_api_Item.og (all_cons ⟨slices_Clone__api_Itemapi_Item.ok, slices_Clone__api_Itemapi_Item.fo⟩ all_nil)) no_ro) Try.func63 (c := body) (by kernel_rfl)
    (just_by (by kernel_rfl) (by kernel_rfl) (all_cons lk3 all_nil) all_nil) [] sp1_ok hk (by kernel_rfl)
end pack_with_none0

/-! instar/pack.Put -/
namespace pack_Put_none0
abbrev TA : Type := ((Unit × (Int × ((Int × (ByteArray × Unit)) × Unit))) × Unit)
abbrev XA : Type := (Int × (Int × (Int × (List (List ItemV)))))
def t (room x_0 : Int) (x_1 : ByteArray) : Tw XA :=
 (.opt (pack_At_none0.c x_0) fun z1 =>
 (.bb (decide (z1 < (0 : Int)))
 (.opt (pack_with_none0.c (0 : Int) (0 : Int) (((Go.Proofs.Ytmlbioapefgioaa.Va.ItemV.mk x_0 x_1) :: ([] : List (ItemV))) :: ([] : List (List ItemV)))) fun z2 =>
 (.ret ((0 : Int), ((0 : Int), (z2.1, z2.2)))))
 .no))
def c (room x_0 : Int) (x_1 : ByteArray) : Option XA := (t room x_0 x_1).run
def tl (l : TA) : Tw XA := t l.1.2.1 l.1.2.2.1.1 l.1.2.2.1.2.1
def pA : Pt := (.cs .nils (jC (.cs (.agg (.cs (.int .u32) (.cs .str .nl))) .nl)))
def pH : Pt := .nl
def v (l : TA) (y : XA) : AV U := .tup [.own 0, .agg [jI y.1, jI y.2.1, jI y.2.2.1]]
def hh (l : TA) (y : XA) : Hp U := [.row 11 y.2.2.2 true]
def A : AFun U := mkA pA pH (X := XA) (fun l => (tl l).run) sp1 v hh
def body := bodyOf Try.f26
def E : Env U := E0.mk5 [(22, pack_At_none0.A), (63, pack_with_none0.A)] [] [] [] []
theorem hk : HK E Try.f26 [] pA pH tl v hh := fun _ _ _ => by kernel_rfl
theorem og : SoundF Try.prog cc 26 A ∧ FnOK Try.prog 26 :=
 og_of (E := E) P_mixed (E0_ok.mk5 _ _ _ _ _) (gam_of (all_cons pack_At_none0.og (all_cons pack_with_none0.og all_nil)) no_ro) Try.func26 (c := body) (by kernel_rfl)
    (just_by (by kernel_rfl) (by kernel_rfl) all_nil all_nil) [] sp1_ok hk (by kernel_rfl)
end pack_Put_none0

/-! instar/pack.At -/
namespace pack_At
abbrev TA : Type := (((List (List ItemV)) × (Int × Unit)) × Unit)
abbrev T3 : Type := ((Unit × (Int × (Unit × (Int × (Unit × ((List (List ItemV)) × (Int × (Int × (Unit × Unit))))))))) × Unit)
abbrev S3 : Type := (Int × Int)
def l3 (key : Int) (k12 : (List (List ItemV))) (k13 at_ k14 : Int) : Tw (S3 ⊕ Int) :=
 (.bb (decide (k14 < k13))
 (.dd (((0 : Int) ≤ k14)) inferInstance
 (.opt (k12)[(Int.toNat k14)]? fun z1 =>
 (.bb (decide ((((List.length z1) : Nat) : Int) > (0 : Int)))
 (.opt (z1)[(Int.toNat (0 : Int))]? fun z2 =>
 (.bb (decide (z2.key ≤ key))
 (.ret (.inl (k14, (w64 (k14 + (1 : Int))))))
 (.ret (.inl (at_, (w64 (k14 + (1 : Int))))))))
 (.ret (.inl (at_, (w64 (k14 + (1 : Int))))))))
 .no)
 (.ret (.inr at_)))
def L3 (key at_ : Int) (k12 : (List (List ItemV))) (k13 k14 : Int) : Option Int := Lp (fun s => (l3 key k12 k13 s.1 s.2).run) (at_, k14)
def p3 : Pt := (.cs (.bots 1) (.cs (.int .u32) (.cs (.bots 3) (jC (.cs (.bots 6) (.cs (.sl 11) (jC (jC (.cs (.bots 18) .nl)))))))))
def q3 : Pt := .nl
def ou3 (l : T3) (y : Int) : Ex × St U := (.exit 0, stOf 33 [(5, jI y)] [] 0)
def Λ3 : LFun U := mkLp p3 q3 0 (X := Int) (fun (l : T3) => L3 l.1.2.1 l.1.2.2.2.1 (d4 l.1).2.1 (d4 l.1).2.2.1 (d4 l.1).2.2.2.1) sp1 ou3
def hd3 (l : T3) (s : S3) : T3 := (((), (l.1.2.1, ((), (s.1, ((), ((d4 l.1).2.1, ((d4 l.1).2.2.1, (s.2, ((), ()))))))))), ())
def fl3 (l : T3) (s : S3) : Tw (S3 ⊕ Int) := l3 l.1.2.1 (d4 l.1).2.1 (d4 l.1).2.2.1 s.1 s.2
def t (l_ : (List (List ItemV))) (key : Int) : Tw Int :=
 (.opt (L3 key (w64 ((imin (((List.length l_) : Nat) : Int) (1 : Int)) - (1 : Int))) l_ (((List.length l_) : Nat) : Int) (0 : Int)) fun z3 =>
 (.ret z3))
def c (l_ : (List (List ItemV))) (key : Int) : Option Int := (t l_ key).run
def tl (l : TA) : Tw Int := t l.1.1 l.1.2.1
def pA : Pt := (.cs (.sl 11) (.cs (.int .u32) .nl))
def pH : Pt := .nl
def v (l : TA) (y : Int) : AV U := jI y
def hh (l : TA) (y : Int) : Hp U := []
def A : AFun U := mkA pA pH (X := Int) (fun l => (tl l).run) sp1 v hh
def body := bodyOf Try.f22
def E : Env U := E0.mk5 [] [(3, Λ3)] [] [(3, ⟨[14, 1, 12, 5, 13], []⟩, ⟨[4, 5], []⟩)] []
theorem hf3 : HF E (pick (loopsOf body) 3) p3 q3 0 fl3 hd3 sp1 ou3 := fun _ _ _ _ => by kernel_rfl
theorem lk3 : LK E (pick (loopsOf body) 3) Λ3 := fun R st K r h =>
  lp_ok (E := E) (b := pick (loopsOf body) 3) (m := 0) (sp := sp1) (p := p3) (q := q3) (X := Int) (S := S3) (f := fl3) (hd := hd3) (s0 := fun (l : T3) => (l.1.2.2.2.1, (d4 l.1).2.2.2.1)) (ou := ou3)
    (fun l => rfl) (fun l x => by rfl) sp1_ok hf3 h
theorem hk : HK E Try.f22 [] pA pH tl v hh := fun _ _ _ => by kernel_rfl
theorem og : SoundF Try.prog cc 22 A ∧ FnOK Try.prog 22 :=
 og_of (E := E) P_mixed (E0_ok.mk5 _ _ _ _ _) (gam_of all_nil all_nil) Try.func22 (c := body) (by kernel_rfl)
    (just_by (by kernel_rfl) (by kernel_rfl) (all_cons lk3 all_nil) all_nil) [] sp1_ok hk (by kernel_rfl)
end pack_At

/-! instar/pack.with -/
namespace pack_with
abbrev TA : Type := (((List (List ItemV)) × (Int × (Int × ((List (List ItemV)) × Unit)))) × Unit)
abbrev XA : Type := (Int × (List (List ItemV)))
abbrev T3 : Type := ((Unit × (Int × (Int × ((List (List ItemV)) × (Unit × (Unit × (Unit × (Unit × (Unit × (Int × (Int × (Unit × Unit)))))))))))) × ((Int × (Int × (Int × Unit))) × ((List (List ItemV)) × ((List (List ItemV)) × Unit))))
abbrev S3 : Type := (Int × (List (List ItemV)))
def l3 (from_ old : Int) (more : (List (List ItemV))) (k24 h0_0 h0_1 h0_2 : Int) (h2 : (List (List ItemV))) (k25 : Int) (h1 : (List (List ItemV))) : Tw (S3 ⊕ (List (List ItemV))) :=
 (.bb (decide (k25 < k24))
 (.dd ((((0 : Int) ≤ k25) ∧ (k25 < (((List.length h2) : Nat) : Int)))) inferInstance
 (.opt (h2)[(Int.toNat k25)]? fun z2 =>
 (.opt (slices_Clone__api_Itemapi_Item.c z2) fun z3 =>
 (.dd ((((((List.length h1) + (List.length (z3 :: ([] : List (List ItemV))))) * (24 : Nat)) ≤ (140737488355328 : Nat)) ∧ (((List.length h1) + (List.length (z3 :: ([] : List (List ItemV))))) ≤ (140737488355328 : Nat)))) inferInstance
 (.ret (.inl ((w64 (k25 + (1 : Int))), (h1 ++ (z3 :: ([] : List (List ItemV)))))))
 .no)))
 .no)
 (.ret (.inr h1)))
def L3 (from_ old : Int) (more : (List (List ItemV))) (k24 k25 h0_0 h0_1 h0_2 : Int) (h1 : (List (List ItemV))) (h2 : (List (List ItemV))) : Option (List (List ItemV)) := Lp (fun s => (l3 from_ old more k24 h0_0 h0_1 h0_2 h2 s.1 s.2).run) (k25, h1)
def p3 : Pt := (.cs (.bots 1) (jC (jC (.cs (.sl 11) (.cs (.bots 5) (.cs (.ptr 0 0) (.cs (.own 1) (.cs (.bots 12) (.cs (.own 2) (jC (jC (.cs (.bots 15) .nl))))))))))))
def q3 : Pt := (.cs (.var (jC (jC (jC .nl)))) (.cs (.row 11 true) (.cs (.row 11 true) .nl)))
def ou3 (l : T3) (y : (List (List ItemV))) : Ex × St U := (.exit 0, stOf 41 [(1, jI l.1.2.1), (2, jI l.1.2.2.1), (3, .im (.slice 11 l.1.2.2.2.1)), (9, .ptr 0 0), (10, .own 1)] [.var [jI l.2.1.1, jI l.2.1.2.1, jI l.2.1.2.2.1], .row 11 y true] 0)
def Λ3 : LFun U := mkLp p3 q3 0 (X := (List (List ItemV))) (fun (l : T3) => L3 l.1.2.1 l.1.2.2.1 l.1.2.2.2.1 (d8 l.1).2.1 (d8 l.1).2.2.1 l.2.1.1 l.2.1.2.1 l.2.1.2.2.1 l.2.2.1 l.2.2.2.1) sp1 ou3
def hd3 (l : T3) (s : S3) : T3 := (((), (l.1.2.1, (l.1.2.2.1, (l.1.2.2.2.1, ((), ((), ((), ((), ((), ((d8 l.1).2.1, (s.1, ((), ())))))))))))), ((l.2.1.1, (l.2.1.2.1, (l.2.1.2.2.1, ()))), (s.2, (l.2.2.2.1, ()))))
def fl3 (l : T3) (s : S3) : Tw (S3 ⊕ (List (List ItemV))) := l3 l.1.2.1 l.1.2.2.1 l.1.2.2.2.1 (d8 l.1).2.1 l.2.1.1 l.2.1.2.1 l.2.1.2.2.1 l.2.2.2.1 s.1 s.2
def t (l_ : (List (List ItemV))) (from_ old : Int) (more : (List (List ItemV))) : Tw XA :=
 (.dd ((((0 : Int) ≤ from_) ∧ (from_ ≤ (((List.length l_) : Nat) : Int)))) inferInstance
 (.dd ((((0 : Int) ≤ (w64 (from_ + old))) ∧ ((w64 (from_ + old)) ≤ (((List.length l_) : Nat) : Int)))) inferInstance
 (.opt (slices_Concat___api_Item_api_Item.c ((List.take (Int.toNat from_) l_) :: (more :: ((List.drop (Int.toNat (w64 (from_ + old))) l_) :: ([] : List (List (List ItemV))))))) fun z1 =>
 (.opt (L3 from_ old more (((List.length z1) : Nat) : Int) (0 : Int) (0 : Int) (0 : Int) (0 : Int) ([] : List (List ItemV)) z1) fun z4 =>
 (.ret ((((List.length more) : Nat) : Int), z4))))
 .no)
 .no)
def c (l_ : (List (List ItemV))) (from_ old : Int) (more : (List (List ItemV))) : Option XA := (t l_ from_ old more).run
def tl (l : TA) : Tw XA := t l.1.1 l.1.2.1 l.1.2.2.1 l.1.2.2.2.1
def pA : Pt := (.cs (.sl 11) (jC (jC (.cs (.sl 11) .nl))))
def pH : Pt := .nl
def v (l : TA) (y : XA) : AV U := .tup [.own 0, .agg [jI l.1.2.1, jI l.1.2.2.1, jI y.1]]
def hh (l : TA) (y : XA) : Hp U := [.row 11 y.2 true]
def A : AFun U := mkA pA pH (X := XA) (fun l => (tl l).run) sp1 v hh
def body := bodyOf Try.f63
def E : Env U := E0.mk5 [(101, slices_Concat___api_Item_api_Item.A), (60, slices_Clone__api_Itemapi_Item.A)] [(3, Λ3)] [] [(3, ⟨[25, 10, 23, 9, 3, 2, 1, 24], [(10, [], .own 11)]⟩, ⟨[8, 9, 3, 2, 1, 10], []⟩)] []
theorem hf3 : HF E (pick (loopsOf body) 3) p3 q3 0 fl3 hd3 sp1 ou3 := fun _ _ _ _ => by kernel_rfl
theorem lk3 : LK E (pick (loopsOf body) 3) Λ3 := fun R st K r h =>
  lp_ok (E := E) (b := pick (loopsOf body) 3) (m := 0) (sp := sp1) (p := p3) (q := q3) (X := (List (List ItemV))) (S := S3) (f := fl3) (hd := hd3) (s0 := fun (l : T3) => ((d8 l.1).2.2.1, l.2.2.1)) (ou := ou3)
    (fun l => rfl) (fun l x => by rfl) sp1_ok hf3 h
theorem hk : HK E Try.f63 [] pA pH tl v hh := fun _ _ _ => by kernel_rfl
theorem okF : SoundF Try.prog cc 63 (funcA E Try.f63 []) :=
  funcA_ok (E := E) P_mixed (E0_ok.mk5 _ _ _ _ _) (gam_of (all_cons slices_Concat___api_Item_api_Item.og (all_cons ⟨slices_Clone__api_Itemapi_Item.ok, slices_Clone__api_Itemapi_Item.fo⟩ all_nil)) no_ro) Try.func63 (c := body) (by kernel_rfl)
    (just_by (by kernel_rfl) (by kernel_rfl) (all_cons lk3 all_nil) all_nil) []
theorem ok : SoundF Try.prog cc 63 A :=
  mkA_ok (E := E) (p := pA) (q := pH) (t := tl) sp1_ok hk okF
theorem fo : FnOK Try.prog 63 := ⟨Try.f63, Try.func63, by kernel_rfl, by kernel_rfl⟩
end pack_with

/-! instar/pack.Cut$1 -/
namespace pack_Cut_1
abbrev TA : Type := ((Int × (Unit × (Unit × (Unit × Unit)))) × (((List (List ItemV)) × Unit) × ((Unit × Unit) × ((List ItemV) × ((Int × Unit) × Unit)))))
def t (i : Int) (h0_0 : (List (List ItemV))) (h2 : (List ItemV)) (h3_0 : Int) : Tw Bool :=
 (.bb (decide (i ≥ (0 : Int)))
 (.bb (decide (i < (((List.length h0_0) : Nat) : Int)))
 (.opt (leaf_Total.c h2) fun z1 =>
 (.dd (((0 : Int) ≤ i)) inferInstance
 (.opt (h0_0)[(Int.toNat i)]? fun z2 =>
 (.opt (leaf_Total.c z2) fun z3 =>
 (.ret (decide ((w64 (z1 + z3)) ≤ (w64 (Int.tdiv h3_0 (2 : Int))))))))
 .no))
 (.ret false))
 (.ret false))
def c (i : Int) (h0_0 : (List (List ItemV))) (h2 : (List ItemV)) (h3_0 : Int) : Option Bool := (t i h0_0 h2 h3_0).run
def tl (l : TA) : Tw Bool := t l.1.1 l.2.1.1 l.2.2.2.1 l.2.2.2.2.1.1
def pA : Pt := (jC (.cs (.ptr 0 0) (.cs (.ptr 1 0) (.cs (.ptr 3 0) .nl))))
def pH : Pt := (.cs (.var (.cs (.sl 11) .nl)) (.cs (.var (.cs (.own 2) .nl)) (.cs (.row 10 true) (.cs (.var (jC .nl)) .nl))))
def v (l : TA) (y : Bool) : AV U := jB y
def hh (l : TA) (y : Bool) : Hp U := [.var [.im (.slice 11 l.2.1.1)], .var [.own 2], .row 10 l.2.2.2.1 true, .var [jI l.2.2.2.2.1.1]]
def A : AFun U := mkA pA pH (X := Bool) (fun l => (tl l).run) sp1 v hh
def body := bodyOf Try.f64
def E : Env U := E0.mk5 [(55, leaf_Total.A)] [] [] [] []
theorem hk : HK E Try.f64 [] pA pH tl v hh := fun _ _ _ => by kernel_rfl
theorem og : SoundF Try.prog cc 64 A ∧ FnOK Try.prog 64 :=
 og_of (E := E) P_mixed (E0_ok.mk5 _ _ _ _ _) (gam_of (all_cons leaf_Total.og all_nil) no_ro) Try.func64 (c := body) (by kernel_rfl)
    (just_by (by kernel_rfl) (by kernel_rfl) all_nil all_nil) [] sp1_ok hk (by kernel_rfl)
theorem keep : KeepA A := mkA_keep sp1_ok (fun (l : TA) y => ⟨(hh l y).drop 4, by kernel_rfl⟩)
end pack_Cut_1

/-! instar/pack.with -/
namespace pack_with_none3
abbrev TA : Type := (((List (List ItemV)) × (Int × (Int × (Unit × Unit)))) × Unit)
abbrev XA : Type := (Int × (List (List ItemV)))
abbrev T3 : Type := ((Unit × (Int × (Int × (Unit × (Unit × (Unit × (Unit × (Unit × (Unit × (Int × (Int × (Unit × Unit)))))))))))) × ((Int × (Int × (Int × Unit))) × ((List (List ItemV)) × ((List (List ItemV)) × Unit))))
abbrev S3 : Type := (Int × (List (List ItemV)))
def l3 (from_ old k24 h0_0 h0_1 h0_2 : Int) (h2 : (List (List ItemV))) (k25 : Int) (h1 : (List (List ItemV))) : Tw (S3 ⊕ (List (List ItemV))) :=
 (.bb (decide (k25 < k24))
 (.dd ((((0 : Int) ≤ k25) ∧ (k25 < (((List.length h2) : Nat) : Int)))) inferInstance
 (.opt (h2)[(Int.toNat k25)]? fun z2 =>
 (.opt (slices_Clone__api_Itemapi_Item.c z2) fun z3 =>
 (.dd ((((((List.length h1) + (List.length (z3 :: ([] : List (List ItemV))))) * (24 : Nat)) ≤ (140737488355328 : Nat)) ∧ (((List.length h1) + (List.length (z3 :: ([] : List (List ItemV))))) ≤ (140737488355328 : Nat)))) inferInstance
 (.ret (.inl ((w64 (k25 + (1 : Int))), (h1 ++ (z3 :: ([] : List (List ItemV)))))))
 .no)))
 .no)
 (.ret (.inr h1)))
def L3 (from_ old k24 k25 h0_0 h0_1 h0_2 : Int) (h1 : (List (List ItemV))) (h2 : (List (List ItemV))) : Option (List (List ItemV)) := Lp (fun s => (l3 from_ old k24 h0_0 h0_1 h0_2 h2 s.1 s.2).run) (k25, h1)
def p3 : Pt := (.cs (.bots 1) (jC (jC (.cs .nils (.cs (.bots 5) (.cs (.ptr 0 0) (.cs (.own 1) (.cs (.bots 12) (.cs (.own 2) (jC (jC (.cs (.bots 15) .nl))))))))))))
def q3 : Pt := (.cs (.var (jC (jC (jC .nl)))) (.cs (.row 11 true) (.cs (.row 11 true) .nl)))
def ou3 (l : T3) (y : (List (List ItemV))) : Ex × St U := (.exit 0, stOf 41 [(1, jI l.1.2.1), (2, jI l.1.2.2.1), (3, .im .nils), (9, .ptr 0 0), (10, .own 1)] [.var [jI l.2.1.1, jI l.2.1.2.1, jI l.2.1.2.2.1], .row 11 y true] 0)
def Λ3 : LFun U := mkLp p3 q3 0 (X := (List (List ItemV))) (fun (l : T3) => L3 l.1.2.1 l.1.2.2.1 (d8 l.1).2.1 (d8 l.1).2.2.1 l.2.1.1 l.2.1.2.1 l.2.1.2.2.1 l.2.2.1 l.2.2.2.1) sp1 ou3
def hd3 (l : T3) (s : S3) : T3 := (((), (l.1.2.1, (l.1.2.2.1, ((), ((), ((), ((), ((), ((), ((d8 l.1).2.1, (s.1, ((), ())))))))))))), ((l.2.1.1, (l.2.1.2.1, (l.2.1.2.2.1, ()))), (s.2, (l.2.2.2.1, ()))))
def fl3 (l : T3) (s : S3) : Tw (S3 ⊕ (List (List ItemV))) := l3 l.1.2.1 l.1.2.2.1 (d8 l.1).2.1 l.2.1.1 l.2.1.2.1 l.2.1.2.2.1 l.2.2.2.1 s.1 s.2
def t (l_ : (List (List ItemV))) (from_ old : Int) : Tw XA :=
 (.dd ((((0 : Int) ≤ from_) ∧ (from_ ≤ (((List.length l_) : Nat) : Int)))) inferInstance
 (.dd ((((0 : Int) ≤ (w64 (from_ + old))) ∧ ((w64 (from_ + old)) ≤ (((List.length l_) : Nat) : Int)))) inferInstance
 (.opt (slices_Concat___api_Item_api_Item.c ((List.take (Int.toNat from_) l_) :: (([] : List (List ItemV)) :: ((List.drop (Int.toNat (w64 (from_ + old))) l_) :: ([] : List (List (List ItemV))))))) fun z1 =>
 (.opt (L3 from_ old (((List.length z1) : Nat) : Int) (0 : Int) (0 : Int) (0 : Int) (0 : Int) ([] : List (List ItemV)) z1) fun z4 =>
 (.ret ((0 : Int), z4))))
 .no)
 .no)
def c (l_ : (List (List ItemV))) (from_ old : Int) : Option XA := (t l_ from_ old).run
def tl (l : TA) : Tw XA := t l.1.1 l.1.2.1 l.1.2.2.1
def pA : Pt := (.cs (.sl 11) (jC (jC (.cs .nils .nl))))
def pH : Pt := .nl
def v (l : TA) (y : XA) : AV U := .tup [.own 0, .agg [jI l.1.2.1, jI l.1.2.2.1, jI y.1]]
def hh (l : TA) (y : XA) : Hp U := [.row 11 y.2 true]
def A : AFun U := mkA pA pH (X := XA) (fun l => (tl l).run) sp1 v hh
def body := bodyOf Try.f63
def E : Env U := E0.mk5 [(101, slices_Concat___api_Item_api_Item.A), (60, slices_Clone__api_Itemapi_Item.A)] [(3, Λ3)] [] [(3, ⟨[25, 10, 23, 9, 3, 2, 1, 24], [(10, [], .own 11)]⟩, ⟨[8, 9, 3, 2, 1, 10], []⟩)] []
theorem hf3 : HF E (pick (loopsOf body) 3) p3 q3 0 fl3 hd3 sp1 ou3 := fun _ _ _ _ => by kernel_rfl
theorem lk3 : LK E (pick (loopsOf body) 3) Λ3 := fun R st K r h =>
  lp_ok (E := E) (b := pick (loopsOf body) 3) (m := 0) (sp := sp1) (p := p3) (q := q3) (X := (List (List ItemV))) (S := S3) (f := fl3) (hd := hd3) (s0 := fun (l : T3) => ((d8 l.1).2.2.1, l.2.2.1)) (ou := ou3)
    (fun l => rfl) (fun l x => by rfl) sp1_ok hf3 h
theorem hk : HK E Try.f63 [] pA pH tl v hh := fun _ _ _ => by kernel_rfl
theorem okF : SoundF Try.prog cc 63 (funcA E Try.f63 []) :=
  funcA_ok (E := E) P_mixed (E0_ok.mk5 _ _ _ _ _) (gam_of (all_cons slices_Concat___api_Item_api_Item.og (all_cons ⟨slices_Clone__api_Itemapi_Item.ok, slices_Clone__api_Itemapi_Item.fo⟩ all_nil)) no_ro) Try.func63 (c := body) (by kernel_rfl)
    (just_by (by kernel_rfl) (by kernel_rfl) (all_cons lk3 all_nil) all_nil) []
theorem ok : SoundF Try.prog cc 63 A :=
  mkA_ok (E := E) (p := pA) (q := pH) (t := tl) sp1_ok hk okF
theorem fo : FnOK Try.prog 63 := ⟨Try.f63, Try.func63, by kernel_rfl, by kernel_rfl⟩
end pack_with_none3

/-! instar/pack.Cut -/
namespace pack_Cut
abbrev TA : Type := (((List (List ItemV)) × (Int × (Int × Unit))) × Unit)
abbrev XA : Type := (Int × (Int × (Int × (Bool × (List (List ItemV))))))
def t (l_ : (List (List ItemV))) (room key : Int) : Tw XA :=
 (.opt (pack_At.c l_ key) fun z1 =>
 (.bb (decide (z1 < (0 : Int)))
 (.ret ((0 : Int), ((0 : Int), ((0 : Int), (false, ([] : List (List ItemV)))))))
 (.dd (((0 : Int) ≤ z1)) inferInstance
 (.opt (l_)[(Int.toNat z1)]? fun z2 =>
 (.opt (item_Cut.c z2 key) fun z3 =>
 (.bb (!z3.1)
 (.opt (pack_with_none3.c l_ (0 : Int) (0 : Int)) fun z14 =>
 (.ret ((0 : Int), ((0 : Int), ((0 : Int), (false, z14.2))))))
 (.bb ((((List.length z3.2) : Nat) : Int) == (0 : Int))
 (.opt (pack_with_none3.c l_ z1 (1 : Int)) fun z13 =>
 (.ret (z1, ((1 : Int), (z13.1, (true, z13.2))))))
 (.opt (pack_Cut_1.c (w64 (z1 + (1 : Int))) l_ z3.2 room) fun z4 =>
 (.bb z4
 (.dd (((0 : Int) ≤ (w64 (z1 + (1 : Int))))) inferInstance
 (.opt (l_)[(Int.toNat (w64 (z1 + (1 : Int))))]? fun z10 =>
 (.opt (slices_Concat__api_Itemapi_Item.c (z3.2 :: (z10 :: ([] : List (List ItemV))))) fun z11 =>
 (.opt (pack_with.c l_ z1 (2 : Int) (z11 :: ([] : List (List ItemV)))) fun z12 =>
 (.ret (z1, ((2 : Int), (z12.1, (true, z12.2))))))))
 .no)
 (.opt (pack_Cut_1.c (w64 (z1 - (1 : Int))) l_ z3.2 room) fun z5 =>
 (.bb z5
 (.dd (((0 : Int) ≤ (w64 (z1 - (1 : Int))))) inferInstance
 (.opt (l_)[(Int.toNat (w64 (z1 - (1 : Int))))]? fun z7 =>
 (.opt (slices_Concat__api_Itemapi_Item.c (z7 :: (z3.2 :: ([] : List (List ItemV))))) fun z8 =>
 (.opt (pack_with.c l_ (w64 (z1 - (1 : Int))) (2 : Int) (z8 :: ([] : List (List ItemV)))) fun z9 =>
 (.ret ((w64 (z1 - (1 : Int))), ((2 : Int), (z9.1, (true, z9.2))))))))
 .no)
 (.opt (pack_with.c l_ z1 (1 : Int) (z3.2 :: ([] : List (List ItemV)))) fun z6 =>
 (.ret (z1, ((1 : Int), (z6.1, (true, z6.2))))))))))))))
 .no)))
def c (l_ : (List (List ItemV))) (room key : Int) : Option XA := (t l_ room key).run
def tl (l : TA) : Tw XA := t l.1.1 l.1.2.1 l.1.2.2.1
def pA : Pt := (.cs (.sl 11) (jC (.cs (.int .u32) .nl)))
def pH : Pt := .nl
def v (l : TA) (y : XA) : AV U := .tup [.own 0, .agg [jI y.1, jI y.2.1, jI y.2.2.1], jB y.2.2.2.1]
def hh (l : TA) (y : XA) : Hp U := [.row 11 (d4 y) true]
def A : AFun U := mkA pA pH (X := XA) (fun l => (tl l).run) sp1 v hh
def body := bodyOf Try.f24
def E : Env U := E0.mk5 [(22, pack_At.A), (62, item_Cut.A), (64, pack_Cut_1.A), (63, (orA pack_with.pA pack_with.pH pack_with.A pack_with_none3.A)), (58, slices_Concat__api_Itemapi_Item.A)] [] [] [] [64]
theorem hk : HK E Try.f24 [(0, [], .own 11)] pA pH tl v hh := fun _ _ _ => by kernel_rfl
theorem og : SoundF Try.prog cc 24 A ∧ FnOK Try.prog 24 :=
 og_of (E := E) P_mixed (E0_ok.mk5 _ _ _ _ _) (gam_of (all_cons pack_At.og (all_cons item_Cut.og (all_cons pack_Cut_1.og (all_cons ⟨(orA_ok pack_with.ok pack_with_none3.ok), pack_with.fo⟩ (all_cons slices_Concat__api_Itemapi_Item.og all_nil))))) (all_cons (no_keep (by kernel_rfl)) (all_cons (no_keep (by kernel_rfl)) (all_cons (fun _ => pack_Cut_1.keep) (all_cons (no_keep (by kernel_rfl)) (all_cons (no_keep (by kernel_rfl)) all_nil)))))) Try.func24 (c := body) (by kernel_rfl)
    (just_by (by kernel_rfl) (by kernel_rfl) all_nil all_nil) [(0, [], .own 11)] sp1_ok hk (by kernel_rfl)
end pack_Cut

/-! instar/pack.Flat -/
namespace pack_Flat
abbrev TA : Type := (((List (List ItemV)) × Unit) × Unit)
def t (l_ : (List (List ItemV))) : Tw (List ItemV) :=
 (.opt (slices_Concat__api_Itemapi_Item.c l_) fun z1 =>
 (.ret z1))
def c (l_ : (List (List ItemV))) : Option (List ItemV) := (t l_).run
def tl (l : TA) : Tw (List ItemV) := t l.1.1
def pA : Pt := (.cs (.sl 11) .nl)
def pH : Pt := .nl
def v (l : TA) (y : (List ItemV)) : AV U := .own 0
def hh (l : TA) (y : (List ItemV)) : Hp U := [.row 10 y true]
def A : AFun U := mkA pA pH (X := (List ItemV)) (fun l => (tl l).run) sp1 v hh
def body := bodyOf Try.f15
def E : Env U := E0.mk5 [(58, slices_Concat__api_Itemapi_Item.A)] [] [] [] []
theorem hk : HK E Try.f15 [] pA pH tl v hh := fun _ _ _ => by kernel_rfl
theorem og : SoundF Try.prog cc 15 A ∧ FnOK Try.prog 15 :=
 og_of (E := E) P_mixed (E0_ok.mk5 _ _ _ _ _) (gam_of (all_cons slices_Concat__api_Itemapi_Item.og all_nil) no_ro) Try.func15 (c := body) (by kernel_rfl)
    (just_by (by kernel_rfl) (by kernel_rfl) all_nil all_nil) [] sp1_ok hk (by kernel_rfl)
end pack_Flat

end
end Go.Proofs.Ytmlbioapefgioaa.Va
