/- The functions of package item, as plain functions, and that the program computes them. Printed by a program of this work out of the evaluator. -/
import Derived.Test.YtmlbioapefgioaaEn
import Derived.Tactics
namespace Go.Proofs.Ytmlbioapefgioaa.Va
open Go
set_option linter.unusedVariables false
set_option maxRecDepth 100000

/-! instar/item.Right -/
namespace item_Right
abbrev TA : Type := (((List ItemV) × Unit) × Unit)
abbrev T2 : Type := (((List ItemV) × (Unit × ((List ItemV) × (Int × (Int × (Unit × Unit)))))) × Unit)
abbrev X2 : Type := (Unit ⊕ Bool)
noncomputable def l2 (l_ : (List ItemV)) (k5 : (List ItemV)) (k6 k7 : Int) : Tw (Int ⊕ X2) :=
 (.bb (decide (k7 < k6))
  (.dd (((0 : Int) ≤ k7)) inferInstance
   (.opt (k5)[(Int.toNat k7)]? fun z1 =>
    (.bb (decide ((((ByteArray.size z1.data) : Nat) : Int) > (64 : Int)))
     (.ret (.inr (.inr false)))
     (.bb (decide (k7 > (0 : Int)))
      (.dd (((0 : Int) ≤ (w64 (k7 - (1 : Int))))) inferInstance
       (.opt (l_)[(Int.toNat (w64 (k7 - (1 : Int))))]? fun z2 =>
        (.bb (decide (z2.key ≥ z1.key))
         (.ret (.inr (.inr false)))
         (.ret (.inl (w64 (k7 + (1 : Int)))))))
       .no)
      (.ret (.inl (w64 (k7 + (1 : Int))))))))
   .no)
  (.ret (.inr (.inl ()))))
noncomputable def L2 (l_ : (List ItemV)) (k5 : (List ItemV)) (k6 k7 : Int) : Option X2 := Lp (fun s => (l2 l_ k5 k6 s).run) k7
def p2 : Pt := (.cs (.sl 10) (.cs (.bots 4) (.cs (.sl 10) (jC (jC (.cs (.bots 24) .nl))))))
def q2 : Pt := .nl
def ou2 (l : T2) (y : X2) : Ex × St U := (Sum.elim (fun a0 => (.exit 0, stOf 32 [] [] 0)) (fun b0 => (.ret, stOf 32 [(2, jB b0)] [] 0)) y)
noncomputable def Λ2 : LFun U := mkLp (U := U) p2 q2 0 (X := X2) (fun (l : T2) => L2 l.1.1 l.1.2.2.1 l.1.2.2.2.1 l.1.2.2.2.2.1) (spS sp1) ou2
def hd2 (l : T2) (s : Int) : T2 := ((l.1.1, ((), (l.1.2.2.1, (l.1.2.2.2.1, (s, ((), ())))))), ())
noncomputable def fl2 (l : T2) (s : Int) : Tw (Int ⊕ X2) := l2 l.1.1 l.1.2.2.1 l.1.2.2.2.1 s
noncomputable def t (l_ : (List ItemV)) : Tw Bool :=
 (.opt (L2 l_ l_ (((List.length l_) : Nat) : Int) (0 : Int)) fun z3 =>
  (.sm z3
   (fun z4 => (.ret true))
   (fun z5 => (.ret z5))))
noncomputable def c (l_ : (List ItemV)) : Option Bool := (t l_).run
noncomputable def tl (l : TA) : Tw Bool := t l.1.1
noncomputable def cl (l : TA) : Option Bool := c l.1.1
def pA : Pt := (.cs (.sl 10) .nl)
def pH : Pt := .nl
def v (l : TA) (y : Bool) : AV U := jB y
def hh (l : TA) (y : Bool) : Hp U := []
noncomputable def A : AFun U := mkA (U := U) pA pH (X := Bool) cl sp1 v hh
noncomputable def body : Code := (Go.Func.body Try.f56).getD .skip
noncomputable def Γ : List (FuncId × AFun U) := []
noncomputable def Λ : List (Nat × LFun U) := [(2, Λ2)]
noncomputable def CT : List (Nat × LFun U) := []
def ro : List FuncId := []
def D : Nat → Lv × Lv := dtab [(2, ⟨[7, 0, 5, 6], []⟩, ⟨[2], []⟩)]
noncomputable def E : Env U := { E0 with Γ := Γ, Λ := Λ, C := CT, D := D, ro := ro }
theorem hf2 (R : Type) (l : T2) (s : Int) (K : Ex → St U → Option R) : codeA E (pick (loopsOf body) 2) ⟨p2.mkL (hd2 l s).1, q2.mkH (hd2 l s).2, 0⟩ (roundK E (pick (loopsOf body) 2) K) =
  (fl2 l s).runK (lpK K (fun s => ⟨p2.mkL (hd2 l s).1, q2.mkH (hd2 l s).2, 0⟩) (spS sp1) (ou2 l)) := by kernel_rfl
theorem lk2 (R : Type) (st : St U) (K : Ex → St U → Option R) (r : R) (h : Λ2 R st K = some r) : ∃ n, loopA E (pick (loopsOf body) 2) n st K = some r :=
  lp_ok (U := U) (E := E) (b := pick (loopsOf body) 2) (m := 0) (sp := (spS sp1)) (p := p2) (q := q2) (X := X2) (S := Int) (f := fl2) (hd := hd2) (s0 := fun (l : T2) => l.1.2.2.2.2.1) (ou := ou2)
    (fun l => rfl) (fun l x => by repeat' (first | rfl | (cases x with | inl => rfl | inr x => ?_))) (spS_ok sp1_ok) hf2 h
theorem hk (R : Type) (l : TA) (K : AV U → Hp U → Option R) : funcA E Try.f56 [] R (pA.mkL l.1) (pH.mkH l.2) K = (tl l).runK fun y => K (v l y) (hh l y) := by kernel_rfl
theorem okF : SoundF Try.prog cc 56 (funcA E Try.f56 []) :=
  funcA_ok (E := E) P_mixed (E0_ok.with Γ Λ CT D ro) (gam_of all_nil all_nil) Try.func56 (c := body) (by kernel_rfl)
    (just_by (by kernel_rfl) (by kernel_rfl) (all_cons lk2 all_nil) all_nil) []
theorem ok : SoundF Try.prog cc 56 A :=
  mkA_ok (E := E) (p := pA) (q := pH) (t := tl) sp1_ok hk okF
theorem fo : FnOK Try.prog 56 := ⟨Try.f56, Try.func56, by kernel_rfl, by kernel_rfl⟩
theorem keep : KeepA A := mkA_keep (U := U) sp1_ok (fun (l : TA) y => ⟨(hh l y).drop 0, by kernel_rfl⟩)
end item_Right

/-! instar/item.Put$1 -/
namespace item_Put_1
abbrev TA : Type := ((Int × (Unit × Unit)) × ((Int × (ByteArray × Unit)) × Unit))
noncomputable def t (k h0_0 : Int) (h0_1 : ByteArray) : Tw Bool :=
 (.ret (decide (k < h0_0)))
noncomputable def c (k h0_0 : Int) (h0_1 : ByteArray) : Option Bool := (t k h0_0 h0_1).run
noncomputable def tl (l : TA) : Tw Bool := t l.1.1 l.2.1.1 l.2.1.2.1
noncomputable def cl (l : TA) : Option Bool := c l.1.1 l.2.1.1 l.2.1.2.1
def pA : Pt := (.cs (.int .u32) (.cs (.ptr 0 0) .nl))
def pH : Pt := (.cs (.var (.cs (.int .u32) (.cs .str .nl))) .nl)
def v (l : TA) (y : Bool) : AV U := jB y
def hh (l : TA) (y : Bool) : Hp U := [.var [.im (.int .u32 l.2.1.1), .im (.str l.2.1.2.1)]]
noncomputable def A : AFun U := mkA (U := U) pA pH (X := Bool) cl sp1 v hh
noncomputable def body : Code := (Go.Func.body Try.f102).getD .skip
noncomputable def Γ : List (FuncId × AFun U) := []
noncomputable def Λ : List (Nat × LFun U) := []
noncomputable def CT : List (Nat × LFun U) := []
def ro : List FuncId := []
def D : Nat → Lv × Lv := dtab []
noncomputable def E : Env U := { E0 with Γ := Γ, Λ := Λ, C := CT, D := D, ro := ro }
theorem hk (R : Type) (l : TA) (K : AV U → Hp U → Option R) : funcA E Try.f102 [] R (pA.mkL l.1) (pH.mkH l.2) K = (tl l).runK fun y => K (v l y) (hh l y) := by kernel_rfl
theorem okF : SoundF Try.prog cc 102 (funcA E Try.f102 []) :=
  funcA_ok (E := E) P_mixed (E0_ok.with Γ Λ CT D ro) (gam_of all_nil all_nil) Try.func102 (c := body) (by kernel_rfl)
    (just_by (by kernel_rfl) (by kernel_rfl) all_nil all_nil) []
theorem ok : SoundF Try.prog cc 102 A :=
  mkA_ok (E := E) (p := pA) (q := pH) (t := tl) sp1_ok hk okF
theorem fo : FnOK Try.prog 102 := ⟨Try.f102, Try.func102, by kernel_rfl, by kernel_rfl⟩
theorem keep : KeepA A := mkA_keep (U := U) sp1_ok (fun (l : TA) y => ⟨(hh l y).drop 1, by kernel_rfl⟩)
end item_Put_1

/-! instar/item.some -/
namespace item_some_of_item_Put_1
abbrev TA : Type := (((List ItemV) × ((Unit × Unit) × Unit)) × ((Int × (ByteArray × Unit)) × Unit))
abbrev T3 : Type := ((Unit × ((Unit × Unit) × (Unit × (Unit × (Unit × ((List ItemV) × (Int × (Int × (Unit × Unit))))))))) × ((Int × (ByteArray × Unit)) × ((List ItemV) × Unit)))
abbrev S3 : Type := (Int × (List ItemV))
noncomputable def l3 (k8 : (List ItemV)) (k9 h0_0 : Int) (h0_1 : ByteArray) (k10 : Int) (h1 : (List ItemV)) : Tw (S3 ⊕ (List ItemV)) :=
 (.bb (decide (k10 < k9))
  (.dd (((0 : Int) ≤ k10)) inferInstance
   (.opt (k8)[(Int.toNat k10)]? fun z1 =>
    (.opt (item_Put_1.c z1.key h0_0 h0_1) fun z2 =>
     (.bb z2
      (.dd ((((((List.length h1) + (List.length ((Go.Proofs.Ytmlbioapefgioaa.Va.ItemV.mk z1.key z1.data) :: ([] : List (ItemV))))) * (24 : Nat)) ≤ (140737488355328 : Nat)) ∧ (((List.length h1) + (List.length ((Go.Proofs.Ytmlbioapefgioaa.Va.ItemV.mk z1.key z1.data) :: ([] : List (ItemV))))) ≤ (140737488355328 : Nat)))) inferInstance
       (.ret (.inl ((w64 (k10 + (1 : Int))), (h1 ++ ((Go.Proofs.Ytmlbioapefgioaa.Va.ItemV.mk z1.key z1.data) :: ([] : List (ItemV)))))))
       .no)
      (.ret (.inl ((w64 (k10 + (1 : Int))), h1))))))
   .no)
  (.ret (.inr h1)))
noncomputable def L3 (k8 : (List ItemV)) (k9 k10 h0_0 : Int) (h0_1 : ByteArray) (h1 : (List ItemV)) : Option (List ItemV) := Lp (fun s => (l3 k8 k9 h0_0 h0_1 s.1 s.2).run) (k10, h1)
def p3 : Pt := (.cs (.bots 1) (.cs (.clo 102 (.cs (.ptr 0 0) .nl)) (.cs (.bots 3) (.cs (.own 1) (.cs (.bots 2) (.cs (.sl 10) (jC (jC (.cs (.bots 13) .nl)))))))))
def q3 : Pt := (.cs (.var (.cs (.int .u32) (.cs .str .nl))) (.cs (.row 10 true) .nl))
def ou3 (l : T3) (y : (List ItemV)) : Ex × St U := (.exit 0, stOf 24 [(5, .own 1)] [.var [.im (.int .u32 l.2.1.1), .im (.str l.2.1.2.1)], .row 10 y true] 1)
noncomputable def Λ3 : LFun U := mkLp (U := U) p3 q3 1 (X := (List ItemV)) (fun (l : T3) => L3 l.1.2.2.2.2.2.1 l.1.2.2.2.2.2.2.1 l.1.2.2.2.2.2.2.2.1 l.2.1.1 l.2.1.2.1 l.2.2.1) sp1 ou3
def hd3 (l : T3) (s : S3) : T3 := (((), (((), ()), ((), ((), ((), (l.1.2.2.2.2.2.1, (l.1.2.2.2.2.2.2.1, (s.1, ((), ()))))))))), ((l.2.1.1, (l.2.1.2.1, ())), (s.2, ())))
noncomputable def fl3 (l : T3) (s : S3) : Tw (S3 ⊕ (List ItemV)) := l3 l.1.2.2.2.2.2.1 l.1.2.2.2.2.2.2.1 l.2.1.1 l.2.1.2.1 s.1 s.2
noncomputable def t (l_ : (List ItemV)) (h0_0 : Int) (h0_1 : ByteArray) : Tw (List ItemV) :=
 (.opt (L3 l_ (((List.length l_) : Nat) : Int) (0 : Int) h0_0 h0_1 ([] : List (ItemV))) fun z3 =>
  (.ret z3))
noncomputable def c (l_ : (List ItemV)) (h0_0 : Int) (h0_1 : ByteArray) : Option (List ItemV) := (t l_ h0_0 h0_1).run
noncomputable def tl (l : TA) : Tw (List ItemV) := t l.1.1 l.2.1.1 l.2.1.2.1
noncomputable def cl (l : TA) : Option (List ItemV) := c l.1.1 l.2.1.1 l.2.1.2.1
def pA : Pt := (.cs (.sl 10) (.cs (.clo 102 (.cs (.ptr 0 0) .nl)) .nl))
def pH : Pt := (.cs (.var (.cs (.int .u32) (.cs .str .nl))) .nl)
def v (l : TA) (y : (List ItemV)) : AV U := .own 1
def hh (l : TA) (y : (List ItemV)) : Hp U := [.var [.im (.int .u32 l.2.1.1), .im (.str l.2.1.2.1)], .row 10 y true]
noncomputable def A : AFun U := mkA (U := U) pA pH (X := (List ItemV)) cl sp1 v hh
noncomputable def body : Code := (Go.Func.body Try.f99).getD .skip
noncomputable def Γ : List (FuncId × AFun U) := [(102, item_Put_1.A)]
noncomputable def Λ : List (Nat × LFun U) := [(3, Λ3)]
noncomputable def CT : List (Nat × LFun U) := []
def ro : List FuncId := [102]
def D : Nat → Lv × Lv := dtab [(3, ⟨[10, 5, 1, 8, 9], [(5, [], .own 10)]⟩, ⟨[4, 5], []⟩)]
noncomputable def E : Env U := { E0 with Γ := Γ, Λ := Λ, C := CT, D := D, ro := ro }
theorem hf3 (R : Type) (l : T3) (s : S3) (K : Ex → St U → Option R) : codeA E (pick (loopsOf body) 3) ⟨p3.mkL (hd3 l s).1, q3.mkH (hd3 l s).2, 1⟩ (roundK E (pick (loopsOf body) 3) K) =
  (fl3 l s).runK (lpK K (fun s => ⟨p3.mkL (hd3 l s).1, q3.mkH (hd3 l s).2, 1⟩) sp1 (ou3 l)) := by kernel_rfl
theorem lk3 (R : Type) (st : St U) (K : Ex → St U → Option R) (r : R) (h : Λ3 R st K = some r) : ∃ n, loopA E (pick (loopsOf body) 3) n st K = some r :=
  lp_ok (U := U) (E := E) (b := pick (loopsOf body) 3) (m := 1) (sp := sp1) (p := p3) (q := q3) (X := (List ItemV)) (S := S3) (f := fl3) (hd := hd3) (s0 := fun (l : T3) => (l.1.2.2.2.2.2.2.2.1, l.2.2.1)) (ou := ou3)
    (fun l => rfl) (fun l x => by rfl) sp1_ok hf3 h
theorem hk (R : Type) (l : TA) (K : AV U → Hp U → Option R) : funcA E Try.f99 [] R (pA.mkL l.1) (pH.mkH l.2) K = (tl l).runK fun y => K (v l y) (hh l y) := by kernel_rfl
theorem okF : SoundF Try.prog cc 99 (funcA E Try.f99 []) :=
  funcA_ok (E := E) P_mixed (E0_ok.with Γ Λ CT D ro) (gam_of (all_cons ⟨item_Put_1.ok, item_Put_1.fo⟩ all_nil) (all_cons (fun _ => item_Put_1.keep) all_nil)) Try.func99 (c := body) (by kernel_rfl)
    (just_by (by kernel_rfl) (by kernel_rfl) (all_cons lk3 all_nil) all_nil) []
theorem ok : SoundF Try.prog cc 99 A :=
  mkA_ok (E := E) (p := pA) (q := pH) (t := tl) sp1_ok hk okF
theorem fo : FnOK Try.prog 99 := ⟨Try.f99, Try.func99, by kernel_rfl, by kernel_rfl⟩
theorem keep : KeepA A := mkA_keep (U := U) sp1_ok (fun (l : TA) y => ⟨(hh l y).drop 1, by kernel_rfl⟩)
end item_some_of_item_Put_1

/-! instar/item.Put$2 -/
namespace item_Put_2
abbrev TA : Type := ((Int × (Unit × Unit)) × ((Int × (ByteArray × Unit)) × Unit))
noncomputable def t (k h0_0 : Int) (h0_1 : ByteArray) : Tw Bool :=
 (.ret (decide (k > h0_0)))
noncomputable def c (k h0_0 : Int) (h0_1 : ByteArray) : Option Bool := (t k h0_0 h0_1).run
noncomputable def tl (l : TA) : Tw Bool := t l.1.1 l.2.1.1 l.2.1.2.1
noncomputable def cl (l : TA) : Option Bool := c l.1.1 l.2.1.1 l.2.1.2.1
def pA : Pt := (.cs (.int .u32) (.cs (.ptr 0 0) .nl))
def pH : Pt := (.cs (.var (.cs (.int .u32) (.cs .str .nl))) .nl)
def v (l : TA) (y : Bool) : AV U := jB y
def hh (l : TA) (y : Bool) : Hp U := [.var [.im (.int .u32 l.2.1.1), .im (.str l.2.1.2.1)]]
noncomputable def A : AFun U := mkA (U := U) pA pH (X := Bool) cl sp1 v hh
noncomputable def body : Code := (Go.Func.body Try.f103).getD .skip
noncomputable def Γ : List (FuncId × AFun U) := []
noncomputable def Λ : List (Nat × LFun U) := []
noncomputable def CT : List (Nat × LFun U) := []
def ro : List FuncId := []
def D : Nat → Lv × Lv := dtab []
noncomputable def E : Env U := { E0 with Γ := Γ, Λ := Λ, C := CT, D := D, ro := ro }
theorem hk (R : Type) (l : TA) (K : AV U → Hp U → Option R) : funcA E Try.f103 [] R (pA.mkL l.1) (pH.mkH l.2) K = (tl l).runK fun y => K (v l y) (hh l y) := by kernel_rfl
theorem okF : SoundF Try.prog cc 103 (funcA E Try.f103 []) :=
  funcA_ok (E := E) P_mixed (E0_ok.with Γ Λ CT D ro) (gam_of all_nil all_nil) Try.func103 (c := body) (by kernel_rfl)
    (just_by (by kernel_rfl) (by kernel_rfl) all_nil all_nil) []
theorem ok : SoundF Try.prog cc 103 A :=
  mkA_ok (E := E) (p := pA) (q := pH) (t := tl) sp1_ok hk okF
theorem fo : FnOK Try.prog 103 := ⟨Try.f103, Try.func103, by kernel_rfl, by kernel_rfl⟩
theorem keep : KeepA A := mkA_keep (U := U) sp1_ok (fun (l : TA) y => ⟨(hh l y).drop 1, by kernel_rfl⟩)
end item_Put_2

/-! instar/item.some -/
namespace item_some_of_item_Put_2
abbrev TA : Type := (((List ItemV) × ((Unit × Unit) × Unit)) × ((Int × (ByteArray × Unit)) × Unit))
abbrev T3 : Type := ((Unit × ((Unit × Unit) × (Unit × (Unit × (Unit × ((List ItemV) × (Int × (Int × (Unit × Unit))))))))) × ((Int × (ByteArray × Unit)) × ((List ItemV) × Unit)))
abbrev S3 : Type := (Int × (List ItemV))
noncomputable def l3 (k8 : (List ItemV)) (k9 h0_0 : Int) (h0_1 : ByteArray) (k10 : Int) (h1 : (List ItemV)) : Tw (S3 ⊕ (List ItemV)) :=
 (.bb (decide (k10 < k9))
  (.dd (((0 : Int) ≤ k10)) inferInstance
   (.opt (k8)[(Int.toNat k10)]? fun z1 =>
    (.opt (item_Put_2.c z1.key h0_0 h0_1) fun z2 =>
     (.bb z2
      (.dd ((((((List.length h1) + (List.length ((Go.Proofs.Ytmlbioapefgioaa.Va.ItemV.mk z1.key z1.data) :: ([] : List (ItemV))))) * (24 : Nat)) ≤ (140737488355328 : Nat)) ∧ (((List.length h1) + (List.length ((Go.Proofs.Ytmlbioapefgioaa.Va.ItemV.mk z1.key z1.data) :: ([] : List (ItemV))))) ≤ (140737488355328 : Nat)))) inferInstance
       (.ret (.inl ((w64 (k10 + (1 : Int))), (h1 ++ ((Go.Proofs.Ytmlbioapefgioaa.Va.ItemV.mk z1.key z1.data) :: ([] : List (ItemV)))))))
       .no)
      (.ret (.inl ((w64 (k10 + (1 : Int))), h1))))))
   .no)
  (.ret (.inr h1)))
noncomputable def L3 (k8 : (List ItemV)) (k9 k10 h0_0 : Int) (h0_1 : ByteArray) (h1 : (List ItemV)) : Option (List ItemV) := Lp (fun s => (l3 k8 k9 h0_0 h0_1 s.1 s.2).run) (k10, h1)
def p3 : Pt := (.cs (.bots 1) (.cs (.clo 103 (.cs (.ptr 0 0) .nl)) (.cs (.bots 3) (.cs (.own 1) (.cs (.bots 2) (.cs (.sl 10) (jC (jC (.cs (.bots 13) .nl)))))))))
def q3 : Pt := (.cs (.var (.cs (.int .u32) (.cs .str .nl))) (.cs (.row 10 true) .nl))
def ou3 (l : T3) (y : (List ItemV)) : Ex × St U := (.exit 0, stOf 24 [(5, .own 1)] [.var [.im (.int .u32 l.2.1.1), .im (.str l.2.1.2.1)], .row 10 y true] 1)
noncomputable def Λ3 : LFun U := mkLp (U := U) p3 q3 1 (X := (List ItemV)) (fun (l : T3) => L3 l.1.2.2.2.2.2.1 l.1.2.2.2.2.2.2.1 l.1.2.2.2.2.2.2.2.1 l.2.1.1 l.2.1.2.1 l.2.2.1) sp1 ou3
def hd3 (l : T3) (s : S3) : T3 := (((), (((), ()), ((), ((), ((), (l.1.2.2.2.2.2.1, (l.1.2.2.2.2.2.2.1, (s.1, ((), ()))))))))), ((l.2.1.1, (l.2.1.2.1, ())), (s.2, ())))
noncomputable def fl3 (l : T3) (s : S3) : Tw (S3 ⊕ (List ItemV)) := l3 l.1.2.2.2.2.2.1 l.1.2.2.2.2.2.2.1 l.2.1.1 l.2.1.2.1 s.1 s.2
noncomputable def t (l_ : (List ItemV)) (h0_0 : Int) (h0_1 : ByteArray) : Tw (List ItemV) :=
 (.opt (L3 l_ (((List.length l_) : Nat) : Int) (0 : Int) h0_0 h0_1 ([] : List (ItemV))) fun z3 =>
  (.ret z3))
noncomputable def c (l_ : (List ItemV)) (h0_0 : Int) (h0_1 : ByteArray) : Option (List ItemV) := (t l_ h0_0 h0_1).run
noncomputable def tl (l : TA) : Tw (List ItemV) := t l.1.1 l.2.1.1 l.2.1.2.1
noncomputable def cl (l : TA) : Option (List ItemV) := c l.1.1 l.2.1.1 l.2.1.2.1
def pA : Pt := (.cs (.sl 10) (.cs (.clo 103 (.cs (.ptr 0 0) .nl)) .nl))
def pH : Pt := (.cs (.var (.cs (.int .u32) (.cs .str .nl))) .nl)
def v (l : TA) (y : (List ItemV)) : AV U := .own 1
def hh (l : TA) (y : (List ItemV)) : Hp U := [.var [.im (.int .u32 l.2.1.1), .im (.str l.2.1.2.1)], .row 10 y true]
noncomputable def A : AFun U := mkA (U := U) pA pH (X := (List ItemV)) cl sp1 v hh
noncomputable def body : Code := (Go.Func.body Try.f99).getD .skip
noncomputable def Γ : List (FuncId × AFun U) := [(103, item_Put_2.A)]
noncomputable def Λ : List (Nat × LFun U) := [(3, Λ3)]
noncomputable def CT : List (Nat × LFun U) := []
def ro : List FuncId := [103]
def D : Nat → Lv × Lv := dtab [(3, ⟨[10, 5, 1, 8, 9], [(5, [], .own 10)]⟩, ⟨[4, 5], []⟩)]
noncomputable def E : Env U := { E0 with Γ := Γ, Λ := Λ, C := CT, D := D, ro := ro }
theorem hf3 (R : Type) (l : T3) (s : S3) (K : Ex → St U → Option R) : codeA E (pick (loopsOf body) 3) ⟨p3.mkL (hd3 l s).1, q3.mkH (hd3 l s).2, 1⟩ (roundK E (pick (loopsOf body) 3) K) =
  (fl3 l s).runK (lpK K (fun s => ⟨p3.mkL (hd3 l s).1, q3.mkH (hd3 l s).2, 1⟩) sp1 (ou3 l)) := by kernel_rfl
theorem lk3 (R : Type) (st : St U) (K : Ex → St U → Option R) (r : R) (h : Λ3 R st K = some r) : ∃ n, loopA E (pick (loopsOf body) 3) n st K = some r :=
  lp_ok (U := U) (E := E) (b := pick (loopsOf body) 3) (m := 1) (sp := sp1) (p := p3) (q := q3) (X := (List ItemV)) (S := S3) (f := fl3) (hd := hd3) (s0 := fun (l : T3) => (l.1.2.2.2.2.2.2.2.1, l.2.2.1)) (ou := ou3)
    (fun l => rfl) (fun l x => by rfl) sp1_ok hf3 h
theorem hk (R : Type) (l : TA) (K : AV U → Hp U → Option R) : funcA E Try.f99 [] R (pA.mkL l.1) (pH.mkH l.2) K = (tl l).runK fun y => K (v l y) (hh l y) := by kernel_rfl
theorem okF : SoundF Try.prog cc 99 (funcA E Try.f99 []) :=
  funcA_ok (E := E) P_mixed (E0_ok.with Γ Λ CT D ro) (gam_of (all_cons ⟨item_Put_2.ok, item_Put_2.fo⟩ all_nil) (all_cons (fun _ => item_Put_2.keep) all_nil)) Try.func99 (c := body) (by kernel_rfl)
    (just_by (by kernel_rfl) (by kernel_rfl) (all_cons lk3 all_nil) all_nil) []
theorem ok : SoundF Try.prog cc 99 A :=
  mkA_ok (E := E) (p := pA) (q := pH) (t := tl) sp1_ok hk okF
theorem fo : FnOK Try.prog 99 := ⟨Try.f99, Try.func99, by kernel_rfl, by kernel_rfl⟩
theorem keep : KeepA A := mkA_keep (U := U) sp1_ok (fun (l : TA) y => ⟨(hh l y).drop 1, by kernel_rfl⟩)
end item_some_of_item_Put_2

/-! instar/item.Put -/
namespace item_Put
abbrev TA : Type := (((List ItemV) × ((Int × (ByteArray × Unit)) × Unit)) × Unit)
noncomputable def t (l_ : (List ItemV)) (x_0 : Int) (x_1 : ByteArray) : Tw (List ItemV) :=
 (.opt (item_some_of_item_Put_1.c l_ x_0 x_1) fun z1 =>
  (.opt (item_some_of_item_Put_2.c l_ x_0 x_1) fun z2 =>
   (.dd ((((((List.length z1) + (List.length ((Go.Proofs.Ytmlbioapefgioaa.Va.ItemV.mk x_0 x_1) :: ([] : List (ItemV))))) * (24 : Nat)) ≤ (140737488355328 : Nat)) ∧ (((List.length z1) + (List.length ((Go.Proofs.Ytmlbioapefgioaa.Va.ItemV.mk x_0 x_1) :: ([] : List (ItemV))))) ≤ (140737488355328 : Nat)))) inferInstance
    (.dd ((((((List.length (z1 ++ ((Go.Proofs.Ytmlbioapefgioaa.Va.ItemV.mk x_0 x_1) :: ([] : List (ItemV))))) + (List.length z2)) * (24 : Nat)) ≤ (140737488355328 : Nat)) ∧ (((List.length (z1 ++ ((Go.Proofs.Ytmlbioapefgioaa.Va.ItemV.mk x_0 x_1) :: ([] : List (ItemV))))) + (List.length z2)) ≤ (140737488355328 : Nat)))) inferInstance
     (.ret ((z1 ++ ((Go.Proofs.Ytmlbioapefgioaa.Va.ItemV.mk x_0 x_1) :: ([] : List (ItemV)))) ++ z2))
     .no)
    .no)))
noncomputable def c (l_ : (List ItemV)) (x_0 : Int) (x_1 : ByteArray) : Option (List ItemV) := (t l_ x_0 x_1).run
noncomputable def tl (l : TA) : Tw (List ItemV) := t l.1.1 l.1.2.1.1 l.1.2.1.2.1
noncomputable def cl (l : TA) : Option (List ItemV) := c l.1.1 l.1.2.1.1 l.1.2.1.2.1
def pA : Pt := (.cs (.sl 10) (.cs (.agg (.cs (.int .u32) (.cs .str .nl))) .nl))
def pH : Pt := .nl
def v (l : TA) (y : (List ItemV)) : AV U := .own 0
def hh (l : TA) (y : (List ItemV)) : Hp U := [.row 10 y true]
noncomputable def A : AFun U := mkA (U := U) pA pH (X := (List ItemV)) cl sp1 v hh
noncomputable def body : Code := (Go.Func.body Try.f66).getD .skip
noncomputable def Γ : List (FuncId × AFun U) := [(99, (orA item_some_of_item_Put_1.pA item_some_of_item_Put_1.pH item_some_of_item_Put_1.A item_some_of_item_Put_2.A))]
noncomputable def Λ : List (Nat × LFun U) := []
noncomputable def CT : List (Nat × LFun U) := []
def ro : List FuncId := []
def D : Nat → Lv × Lv := dtab []
noncomputable def E : Env U := { E0 with Γ := Γ, Λ := Λ, C := CT, D := D, ro := ro }
theorem hk (R : Type) (l : TA) (K : AV U → Hp U → Option R) : funcA E Try.f66 [] R (pA.mkL l.1) (pH.mkH l.2) K = (tl l).runK fun y => K (v l y) (hh l y) := by kernel_rfl
theorem okF : SoundF Try.prog cc 66 (funcA E Try.f66 []) :=
  funcA_ok (E := E) P_mixed (E0_ok.with Γ Λ CT D ro) (gam_of (all_cons ⟨(orA_ok item_some_of_item_Put_1.ok item_some_of_item_Put_2.ok), item_some_of_item_Put_1.fo⟩ all_nil) no_ro) Try.func66 (c := body) (by kernel_rfl)
    (just_by (by kernel_rfl) (by kernel_rfl) all_nil all_nil) []
theorem ok : SoundF Try.prog cc 66 A :=
  mkA_ok (E := E) (p := pA) (q := pH) (t := tl) sp1_ok hk okF
theorem fo : FnOK Try.prog 66 := ⟨Try.f66, Try.func66, by kernel_rfl, by kernel_rfl⟩
theorem keep : KeepA A := mkA_keep (U := U) sp1_ok (fun (l : TA) y => ⟨(hh l y).drop 0, by kernel_rfl⟩)
end item_Put

/-! instar/item.Cut$1 -/
namespace item_Cut_1
abbrev TA : Type := ((Int × (Unit × Unit)) × ((Int × Unit) × Unit))
noncomputable def t (i h0_0 : Int) : Tw Bool :=
 (.ret (i != h0_0))
noncomputable def c (i h0_0 : Int) : Option Bool := (t i h0_0).run
noncomputable def tl (l : TA) : Tw Bool := t l.1.1 l.2.1.1
noncomputable def cl (l : TA) : Option Bool := c l.1.1 l.2.1.1
def pA : Pt := (.cs (.int .u32) (.cs (.ptr 0 0) .nl))
def pH : Pt := (.cs (.var (.cs (.int .u32) .nl)) .nl)
def v (l : TA) (y : Bool) : AV U := jB y
def hh (l : TA) (y : Bool) : Hp U := [.var [.im (.int .u32 l.2.1.1)]]
noncomputable def A : AFun U := mkA (U := U) pA pH (X := Bool) cl sp1 v hh
noncomputable def body : Code := (Go.Func.body Try.f100).getD .skip
noncomputable def Γ : List (FuncId × AFun U) := []
noncomputable def Λ : List (Nat × LFun U) := []
noncomputable def CT : List (Nat × LFun U) := []
def ro : List FuncId := []
def D : Nat → Lv × Lv := dtab []
noncomputable def E : Env U := { E0 with Γ := Γ, Λ := Λ, C := CT, D := D, ro := ro }
theorem hk (R : Type) (l : TA) (K : AV U → Hp U → Option R) : funcA E Try.f100 [] R (pA.mkL l.1) (pH.mkH l.2) K = (tl l).runK fun y => K (v l y) (hh l y) := by kernel_rfl
theorem okF : SoundF Try.prog cc 100 (funcA E Try.f100 []) :=
  funcA_ok (E := E) P_mixed (E0_ok.with Γ Λ CT D ro) (gam_of all_nil all_nil) Try.func100 (c := body) (by kernel_rfl)
    (just_by (by kernel_rfl) (by kernel_rfl) all_nil all_nil) []
theorem ok : SoundF Try.prog cc 100 A :=
  mkA_ok (E := E) (p := pA) (q := pH) (t := tl) sp1_ok hk okF
theorem fo : FnOK Try.prog 100 := ⟨Try.f100, Try.func100, by kernel_rfl, by kernel_rfl⟩
theorem keep : KeepA A := mkA_keep (U := U) sp1_ok (fun (l : TA) y => ⟨(hh l y).drop 1, by kernel_rfl⟩)
end item_Cut_1

/-! instar/item.some -/
namespace item_some_of_item_Cut_1
abbrev TA : Type := (((List ItemV) × ((Unit × Unit) × Unit)) × ((Int × Unit) × Unit))
abbrev T3 : Type := ((Unit × ((Unit × Unit) × (Unit × (Unit × (Unit × ((List ItemV) × (Int × (Int × (Unit × Unit))))))))) × ((Int × Unit) × ((List ItemV) × Unit)))
abbrev S3 : Type := (Int × (List ItemV))
noncomputable def l3 (k8 : (List ItemV)) (k9 h0_0 k10 : Int) (h1 : (List ItemV)) : Tw (S3 ⊕ (List ItemV)) :=
 (.bb (decide (k10 < k9))
  (.dd (((0 : Int) ≤ k10)) inferInstance
   (.opt (k8)[(Int.toNat k10)]? fun z1 =>
    (.opt (item_Cut_1.c z1.key h0_0) fun z2 =>
     (.bb z2
      (.dd ((((((List.length h1) + (List.length ((Go.Proofs.Ytmlbioapefgioaa.Va.ItemV.mk z1.key z1.data) :: ([] : List (ItemV))))) * (24 : Nat)) ≤ (140737488355328 : Nat)) ∧ (((List.length h1) + (List.length ((Go.Proofs.Ytmlbioapefgioaa.Va.ItemV.mk z1.key z1.data) :: ([] : List (ItemV))))) ≤ (140737488355328 : Nat)))) inferInstance
       (.ret (.inl ((w64 (k10 + (1 : Int))), (h1 ++ ((Go.Proofs.Ytmlbioapefgioaa.Va.ItemV.mk z1.key z1.data) :: ([] : List (ItemV)))))))
       .no)
      (.ret (.inl ((w64 (k10 + (1 : Int))), h1))))))
   .no)
  (.ret (.inr h1)))
noncomputable def L3 (k8 : (List ItemV)) (k9 k10 h0_0 : Int) (h1 : (List ItemV)) : Option (List ItemV) := Lp (fun s => (l3 k8 k9 h0_0 s.1 s.2).run) (k10, h1)
def p3 : Pt := (.cs (.bots 1) (.cs (.clo 100 (.cs (.ptr 0 0) .nl)) (.cs (.bots 3) (.cs (.own 1) (.cs (.bots 2) (.cs (.sl 10) (jC (jC (.cs (.bots 13) .nl)))))))))
def q3 : Pt := (.cs (.var (.cs (.int .u32) .nl)) (.cs (.row 10 true) .nl))
def ou3 (l : T3) (y : (List ItemV)) : Ex × St U := (.exit 0, stOf 24 [(5, .own 1)] [.var [.im (.int .u32 l.2.1.1)], .row 10 y true] 1)
noncomputable def Λ3 : LFun U := mkLp (U := U) p3 q3 1 (X := (List ItemV)) (fun (l : T3) => L3 l.1.2.2.2.2.2.1 l.1.2.2.2.2.2.2.1 l.1.2.2.2.2.2.2.2.1 l.2.1.1 l.2.2.1) sp1 ou3
def hd3 (l : T3) (s : S3) : T3 := (((), (((), ()), ((), ((), ((), (l.1.2.2.2.2.2.1, (l.1.2.2.2.2.2.2.1, (s.1, ((), ()))))))))), ((l.2.1.1, ()), (s.2, ())))
noncomputable def fl3 (l : T3) (s : S3) : Tw (S3 ⊕ (List ItemV)) := l3 l.1.2.2.2.2.2.1 l.1.2.2.2.2.2.2.1 l.2.1.1 s.1 s.2
noncomputable def t (l_ : (List ItemV)) (h0_0 : Int) : Tw (List ItemV) :=
 (.opt (L3 l_ (((List.length l_) : Nat) : Int) (0 : Int) h0_0 ([] : List (ItemV))) fun z3 =>
  (.ret z3))
noncomputable def c (l_ : (List ItemV)) (h0_0 : Int) : Option (List ItemV) := (t l_ h0_0).run
noncomputable def tl (l : TA) : Tw (List ItemV) := t l.1.1 l.2.1.1
noncomputable def cl (l : TA) : Option (List ItemV) := c l.1.1 l.2.1.1
def pA : Pt := (.cs (.sl 10) (.cs (.clo 100 (.cs (.ptr 0 0) .nl)) .nl))
def pH : Pt := (.cs (.var (.cs (.int .u32) .nl)) .nl)
def v (l : TA) (y : (List ItemV)) : AV U := .own 1
def hh (l : TA) (y : (List ItemV)) : Hp U := [.var [.im (.int .u32 l.2.1.1)], .row 10 y true]
noncomputable def A : AFun U := mkA (U := U) pA pH (X := (List ItemV)) cl sp1 v hh
noncomputable def body : Code := (Go.Func.body Try.f99).getD .skip
noncomputable def Γ : List (FuncId × AFun U) := [(100, item_Cut_1.A)]
noncomputable def Λ : List (Nat × LFun U) := [(3, Λ3)]
noncomputable def CT : List (Nat × LFun U) := []
def ro : List FuncId := [100]
def D : Nat → Lv × Lv := dtab [(3, ⟨[10, 5, 1, 8, 9], [(5, [], .own 10)]⟩, ⟨[4, 5], []⟩)]
noncomputable def E : Env U := { E0 with Γ := Γ, Λ := Λ, C := CT, D := D, ro := ro }
theorem hf3 (R : Type) (l : T3) (s : S3) (K : Ex → St U → Option R) : codeA E (pick (loopsOf body) 3) ⟨p3.mkL (hd3 l s).1, q3.mkH (hd3 l s).2, 1⟩ (roundK E (pick (loopsOf body) 3) K) =
  (fl3 l s).runK (lpK K (fun s => ⟨p3.mkL (hd3 l s).1, q3.mkH (hd3 l s).2, 1⟩) sp1 (ou3 l)) := by kernel_rfl
theorem lk3 (R : Type) (st : St U) (K : Ex → St U → Option R) (r : R) (h : Λ3 R st K = some r) : ∃ n, loopA E (pick (loopsOf body) 3) n st K = some r :=
  lp_ok (U := U) (E := E) (b := pick (loopsOf body) 3) (m := 1) (sp := sp1) (p := p3) (q := q3) (X := (List ItemV)) (S := S3) (f := fl3) (hd := hd3) (s0 := fun (l : T3) => (l.1.2.2.2.2.2.2.2.1, l.2.2.1)) (ou := ou3)
    (fun l => rfl) (fun l x => by rfl) sp1_ok hf3 h
theorem hk (R : Type) (l : TA) (K : AV U → Hp U → Option R) : funcA E Try.f99 [] R (pA.mkL l.1) (pH.mkH l.2) K = (tl l).runK fun y => K (v l y) (hh l y) := by kernel_rfl
theorem okF : SoundF Try.prog cc 99 (funcA E Try.f99 []) :=
  funcA_ok (E := E) P_mixed (E0_ok.with Γ Λ CT D ro) (gam_of (all_cons ⟨item_Cut_1.ok, item_Cut_1.fo⟩ all_nil) (all_cons (fun _ => item_Cut_1.keep) all_nil)) Try.func99 (c := body) (by kernel_rfl)
    (just_by (by kernel_rfl) (by kernel_rfl) (all_cons lk3 all_nil) all_nil) []
theorem ok : SoundF Try.prog cc 99 A :=
  mkA_ok (E := E) (p := pA) (q := pH) (t := tl) sp1_ok hk okF
theorem fo : FnOK Try.prog 99 := ⟨Try.f99, Try.func99, by kernel_rfl, by kernel_rfl⟩
theorem keep : KeepA A := mkA_keep (U := U) sp1_ok (fun (l : TA) y => ⟨(hh l y).drop 1, by kernel_rfl⟩)
end item_some_of_item_Cut_1

/-! instar/item.Cut -/
namespace item_Cut
abbrev TA : Type := (((List ItemV) × (Int × Unit)) × Unit)
abbrev XA : Type := (Bool × (List ItemV))
noncomputable def t (l_ : (List ItemV)) (k : Int) : Tw XA :=
 (.opt (item_some_of_item_Cut_1.c l_ k) fun z1 =>
  (.ret ((decide ((((List.length z1) : Nat) : Int) < (((List.length l_) : Nat) : Int))), z1)))
noncomputable def c (l_ : (List ItemV)) (k : Int) : Option XA := (t l_ k).run
noncomputable def tl (l : TA) : Tw XA := t l.1.1 l.1.2.1
noncomputable def cl (l : TA) : Option XA := c l.1.1 l.1.2.1
def pA : Pt := (.cs (.sl 10) (.cs (.int .u32) .nl))
def pH : Pt := .nl
def v (l : TA) (y : XA) : AV U := .tup [.own 0, jB y.1]
def hh (l : TA) (y : XA) : Hp U := [.row 10 y.2 true]
noncomputable def A : AFun U := mkA (U := U) pA pH (X := XA) cl sp1 v hh
noncomputable def body : Code := (Go.Func.body Try.f62).getD .skip
noncomputable def Γ : List (FuncId × AFun U) := [(99, item_some_of_item_Cut_1.A)]
noncomputable def Λ : List (Nat × LFun U) := []
noncomputable def CT : List (Nat × LFun U) := []
def ro : List FuncId := []
def D : Nat → Lv × Lv := dtab []
noncomputable def E : Env U := { E0 with Γ := Γ, Λ := Λ, C := CT, D := D, ro := ro }
theorem hk (R : Type) (l : TA) (K : AV U → Hp U → Option R) : funcA E Try.f62 [] R (pA.mkL l.1) (pH.mkH l.2) K = (tl l).runK fun y => K (v l y) (hh l y) := by kernel_rfl
theorem okF : SoundF Try.prog cc 62 (funcA E Try.f62 []) :=
  funcA_ok (E := E) P_mixed (E0_ok.with Γ Λ CT D ro) (gam_of (all_cons ⟨item_some_of_item_Cut_1.ok, item_some_of_item_Cut_1.fo⟩ all_nil) no_ro) Try.func62 (c := body) (by kernel_rfl)
    (just_by (by kernel_rfl) (by kernel_rfl) all_nil all_nil) []
theorem ok : SoundF Try.prog cc 62 A :=
  mkA_ok (E := E) (p := pA) (q := pH) (t := tl) sp1_ok hk okF
theorem fo : FnOK Try.prog 62 := ⟨Try.f62, Try.func62, by kernel_rfl, by kernel_rfl⟩
theorem keep : KeepA A := mkA_keep (U := U) sp1_ok (fun (l : TA) y => ⟨(hh l y).drop 0, by kernel_rfl⟩)
end item_Cut

end Go.Proofs.Ytmlbioapefgioaa.Va
