/- The functions of package pack, as plain functions, and that the program computes them. Printed by a program of this work out of the evaluator. -/
import Derived.Test.YtmlbioapefgioaaEn
import Derived.Tactics
import Derived.Test.YtmlbioapefgioaaFitem
import Derived.Test.YtmlbioapefgioaaFleaf
import Derived.Test.YtmlbioapefgioaaFslices
namespace Go.Proofs.Ytmlbioapefgioaa.Va
open Go
set_option linter.unusedVariables false
set_option maxRecDepth 100000

/-! instar/pack.At -/
namespace pack_At_none0
abbrev TA : Type := ((Unit × (Int × Unit)) × Unit)
abbrev T3 : Type := ((Unit × (Int × (Unit × (Int × (Unit × (Unit × (Int × (Int × (Unit × Unit))))))))) × Unit)
noncomputable def l3 (key at_ k13 k14 : Int) : Tw (Unit ⊕ Unit) :=
 (.bb (decide (k14 < k13))
  .no
  (.ret (.inr ())))
noncomputable def L3 (key at_ k13 k14 : Int) : Option Unit := Lp (fun s => (l3 key at_ k13 k14).run) ()
def p3 : Pt := (.cs (.bots 1) (.cs (.int .u32) (.cs (.bots 3) (jC (.cs (.bots 6) (.cs .nils (jC (jC (.cs (.bots 18) .nl)))))))))
def q3 : Pt := .nl
def ou3 (l : T3) (y : Unit) : Ex × St U := (.exit 0, stOf 33 [(5, jI l.1.2.2.2.1)] [] 0)
noncomputable def Λ3 : LFun U := mkLp (U := U) p3 q3 0 (X := Unit) (fun (l : T3) => L3 l.1.2.1 l.1.2.2.2.1 l.1.2.2.2.2.2.2.1 l.1.2.2.2.2.2.2.2.1) sp1 ou3
def hd3 (l : T3) (s : Unit) : T3 := (((), (l.1.2.1, ((), (l.1.2.2.2.1, ((), ((), (l.1.2.2.2.2.2.2.1, (l.1.2.2.2.2.2.2.2.1, ((), ()))))))))), ())
noncomputable def fl3 (l : T3) (s : Unit) : Tw (Unit ⊕ Unit) := l3 l.1.2.1 l.1.2.2.2.1 l.1.2.2.2.2.2.2.1 l.1.2.2.2.2.2.2.2.1
noncomputable def t (key : Int) : Tw Int :=
 (.opt (L3 key (w64 ((imin (0 : Int) (1 : Int)) - (1 : Int))) (0 : Int) (0 : Int)) fun z1 =>
  (.ret (w64 ((imin (0 : Int) (1 : Int)) - (1 : Int)))))
noncomputable def c (key : Int) : Option Int := (t key).run
noncomputable def tl (l : TA) : Tw Int := t l.1.2.1
noncomputable def cl (l : TA) : Option Int := c l.1.2.1
def pA : Pt := (.cs .nils (.cs (.int .u32) .nl))
def pH : Pt := .nl
def v (l : TA) (y : Int) : AV U := jI y
def hh (l : TA) (y : Int) : Hp U := []
noncomputable def A : AFun U := mkA (U := U) pA pH (X := Int) cl sp1 v hh
noncomputable def body : Code := (Go.Func.body Try.f22).getD .skip
noncomputable def Γ : List (FuncId × AFun U) := []
noncomputable def Λ : List (Nat × LFun U) := [(3, Λ3)]
noncomputable def CT : List (Nat × LFun U) := []
def ro : List FuncId := []
def D : Nat → Lv × Lv := dtab [(3, ⟨[14, 1, 12, 5, 13], []⟩, ⟨[4, 5], []⟩)]
noncomputable def E : Env U := { E0 with Γ := Γ, Λ := Λ, C := CT, D := D, ro := ro }
theorem hf3 (R : Type) (l : T3) (s : Unit) (K : Ex → St U → Option R) : codeA E (pick (loopsOf body) 3) ⟨p3.mkL (hd3 l s).1, q3.mkH (hd3 l s).2, 0⟩ (roundK E (pick (loopsOf body) 3) K) =
  (fl3 l s).runK (lpK K (fun s => ⟨p3.mkL (hd3 l s).1, q3.mkH (hd3 l s).2, 0⟩) sp1 (ou3 l)) := by kernel_rfl
theorem lk3 (R : Type) (st : St U) (K : Ex → St U → Option R) (r : R) (h : Λ3 R st K = some r) : ∃ n, loopA E (pick (loopsOf body) 3) n st K = some r :=
  lp_ok (U := U) (E := E) (b := pick (loopsOf body) 3) (m := 0) (sp := sp1) (p := p3) (q := q3) (X := Unit) (S := Unit) (f := fl3) (hd := hd3) (s0 := fun (l : T3) => ()) (ou := ou3)
    (fun l => rfl) (fun l x => by rfl) sp1_ok hf3 h
theorem hk (R : Type) (l : TA) (K : AV U → Hp U → Option R) : funcA E Try.f22 [] R (pA.mkL l.1) (pH.mkH l.2) K = (tl l).runK fun y => K (v l y) (hh l y) := by kernel_rfl
theorem okF : SoundF Try.prog cc 22 (funcA E Try.f22 []) :=
  funcA_ok (E := E) P_mixed (E0_ok.with Γ Λ CT D ro) (gam_of all_nil all_nil) Try.func22 (c := body) (by kernel_rfl)
    (just_by (by kernel_rfl) (by kernel_rfl) (all_cons lk3 all_nil) all_nil) []
theorem ok : SoundF Try.prog cc 22 A :=
  mkA_ok (E := E) (p := pA) (q := pH) (t := tl) sp1_ok hk okF
theorem fo : FnOK Try.prog 22 := ⟨Try.f22, Try.func22, by kernel_rfl, by kernel_rfl⟩
theorem keep : KeepA A := mkA_keep (U := U) sp1_ok (fun (l : TA) y => ⟨(hh l y).drop 0, by kernel_rfl⟩)
end pack_At_none0

/-! instar/pack.Flat -/
namespace pack_Flat
abbrev TA : Type := (((List (List ItemV)) × Unit) × Unit)
noncomputable def t (l_ : (List (List ItemV))) : Tw (List ItemV) :=
 (.opt (slices_Concat__api_Itemapi_Item.c l_) fun z1 =>
  (.ret z1))
noncomputable def c (l_ : (List (List ItemV))) : Option (List ItemV) := (t l_).run
noncomputable def tl (l : TA) : Tw (List ItemV) := t l.1.1
noncomputable def cl (l : TA) : Option (List ItemV) := c l.1.1
def pA : Pt := (.cs (.sl 11) .nl)
def pH : Pt := .nl
def v (l : TA) (y : (List ItemV)) : AV U := .own 0
def hh (l : TA) (y : (List ItemV)) : Hp U := [.row 10 y true]
noncomputable def A : AFun U := mkA (U := U) pA pH (X := (List ItemV)) cl sp1 v hh
noncomputable def body : Code := (Go.Func.body Try.f15).getD .skip
noncomputable def Γ : List (FuncId × AFun U) := [(58, slices_Concat__api_Itemapi_Item.A)]
noncomputable def Λ : List (Nat × LFun U) := []
noncomputable def CT : List (Nat × LFun U) := []
def ro : List FuncId := []
def D : Nat → Lv × Lv := dtab []
noncomputable def E : Env U := { E0 with Γ := Γ, Λ := Λ, C := CT, D := D, ro := ro }
theorem hk (R : Type) (l : TA) (K : AV U → Hp U → Option R) : funcA E Try.f15 [] R (pA.mkL l.1) (pH.mkH l.2) K = (tl l).runK fun y => K (v l y) (hh l y) := by kernel_rfl
theorem okF : SoundF Try.prog cc 15 (funcA E Try.f15 []) :=
  funcA_ok (E := E) P_mixed (E0_ok.with Γ Λ CT D ro) (gam_of (all_cons ⟨slices_Concat__api_Itemapi_Item.ok, slices_Concat__api_Itemapi_Item.fo⟩ all_nil) no_ro) Try.func15 (c := body) (by kernel_rfl)
    (just_by (by kernel_rfl) (by kernel_rfl) all_nil all_nil) []
theorem ok : SoundF Try.prog cc 15 A :=
  mkA_ok (E := E) (p := pA) (q := pH) (t := tl) sp1_ok hk okF
theorem fo : FnOK Try.prog 15 := ⟨Try.f15, Try.func15, by kernel_rfl, by kernel_rfl⟩
theorem keep : KeepA A := mkA_keep (U := U) sp1_ok (fun (l : TA) y => ⟨(hh l y).drop 0, by kernel_rfl⟩)
end pack_Flat

/-! instar/pack.with -/
namespace pack_with_none0
abbrev TA : Type := ((Unit × (Int × (Int × ((List (List ItemV)) × Unit)))) × Unit)
abbrev XA : Type := (Int × (List (List ItemV)))
abbrev T3 : Type := ((Unit × (Int × (Int × ((List (List ItemV)) × (Unit × (Unit × (Unit × (Unit × (Unit × (Int × (Int × (Unit × Unit)))))))))))) × ((Int × (Int × (Int × Unit))) × ((List (List ItemV)) × ((List (List ItemV)) × Unit))))
abbrev S3 : Type := (Int × (List (List ItemV)))
noncomputable def l3 (from_ old : Int) (more : (List (List ItemV))) (k24 h0_0 h0_1 h0_2 : Int) (h2 : (List (List ItemV))) (k25 : Int) (h1 : (List (List ItemV))) : Tw (S3 ⊕ (List (List ItemV))) :=
 (.bb (decide (k25 < k24))
  (.dd ((((0 : Int) ≤ k25) ∧ (k25 < (((List.length h2) : Nat) : Int)))) inferInstance
   (.opt (h2)[(Int.toNat k25)]? fun z2 =>
    (.opt (slices_Clone__api_Itemapi_Item.c z2) fun z3 =>
     (.dd ((((((List.length h1) + (List.length (z3 :: ([] : List (List ItemV))))) * (24 : Nat)) ≤ (140737488355328 : Nat)) ∧ (((List.length h1) + (List.length (z3 :: ([] : List (List ItemV))))) ≤ (140737488355328 : Nat)))) inferInstance
      (.ret (.inl ((w64 (k25 + (1 : Int))), (h1 ++ (z3 :: ([] : List (List ItemV)))))))
      .no)))
   .no)
  (.ret (.inr h1)))
noncomputable def L3 (from_ old : Int) (more : (List (List ItemV))) (k24 k25 h0_0 h0_1 h0_2 : Int) (h1 : (List (List ItemV))) (h2 : (List (List ItemV))) : Option (List (List ItemV)) := Lp (fun s => (l3 from_ old more k24 h0_0 h0_1 h0_2 h2 s.1 s.2).run) (k25, h1)
def p3 : Pt := (.cs (.bots 1) (jC (jC (.cs (.sl 11) (.cs (.bots 5) (.cs (.ptr 0 0) (.cs (.own 1) (.cs (.bots 12) (.cs (.own 2) (jC (jC (.cs (.bots 15) .nl))))))))))))
def q3 : Pt := (.cs (.var (jC (jC (jC .nl)))) (.cs (.row 11 true) (.cs (.row 11 true) .nl)))
def ou3 (l : T3) (y : (List (List ItemV))) : Ex × St U := (.exit 0, stOf 41 [(1, jI l.1.2.1), (2, jI l.1.2.2.1), (3, .im (.slice 11 l.1.2.2.2.1)), (9, .ptr 0 0), (10, .own 1)] [.var [jI l.2.1.1, jI l.2.1.2.1, jI l.2.1.2.2.1], .row 11 y true] 0)
noncomputable def Λ3 : LFun U := mkLp (U := U) p3 q3 0 (X := (List (List ItemV))) (fun (l : T3) => L3 l.1.2.1 l.1.2.2.1 l.1.2.2.2.1 l.1.2.2.2.2.2.2.2.2.2.1 l.1.2.2.2.2.2.2.2.2.2.2.1 l.2.1.1 l.2.1.2.1 l.2.1.2.2.1 l.2.2.1 l.2.2.2.1) sp1 ou3
def hd3 (l : T3) (s : S3) : T3 := (((), (l.1.2.1, (l.1.2.2.1, (l.1.2.2.2.1, ((), ((), ((), ((), ((), (l.1.2.2.2.2.2.2.2.2.2.1, (s.1, ((), ())))))))))))), ((l.2.1.1, (l.2.1.2.1, (l.2.1.2.2.1, ()))), (s.2, (l.2.2.2.1, ()))))
noncomputable def fl3 (l : T3) (s : S3) : Tw (S3 ⊕ (List (List ItemV))) := l3 l.1.2.1 l.1.2.2.1 l.1.2.2.2.1 l.1.2.2.2.2.2.2.2.2.2.1 l.2.1.1 l.2.1.2.1 l.2.1.2.2.1 l.2.2.2.1 s.1 s.2
noncomputable def t (from_ old : Int) (more : (List (List ItemV))) : Tw XA :=
 (.dd ((((0 : Int) ≤ from_) ∧ (from_ ≤ (((0 : Nat) : Nat) : Int)))) inferInstance
  (.dd ((((0 : Int) ≤ (w64 (from_ + old))) ∧ ((w64 (from_ + old)) ≤ (((0 : Nat) : Nat) : Int)))) inferInstance
   (.opt (slices_Concat___api_Item_api_Item.c (([] : List (List ItemV)) :: (more :: (([] : List (List ItemV)) :: ([] : List (List (List ItemV))))))) fun z1 =>
    (.opt (L3 from_ old more (((List.length z1) : Nat) : Int) (0 : Int) (0 : Int) (0 : Int) (0 : Int) ([] : List (List ItemV)) z1) fun z4 =>
     (.ret ((((List.length more) : Nat) : Int), z4))))
   .no)
  .no)
noncomputable def c (from_ old : Int) (more : (List (List ItemV))) : Option XA := (t from_ old more).run
noncomputable def tl (l : TA) : Tw XA := t l.1.2.1 l.1.2.2.1 l.1.2.2.2.1
noncomputable def cl (l : TA) : Option XA := c l.1.2.1 l.1.2.2.1 l.1.2.2.2.1
def pA : Pt := (.cs .nils (jC (jC (.cs (.sl 11) .nl))))
def pH : Pt := .nl
def v (l : TA) (y : XA) : AV U := .tup [.own 0, .agg [jI l.1.2.1, jI l.1.2.2.1, jI y.1]]
def hh (l : TA) (y : XA) : Hp U := [.row 11 y.2 true]
noncomputable def A : AFun U := mkA (U := U) pA pH (X := XA) cl sp1 v hh
noncomputable def body : Code := (Go.Func.body Try.f63).getD .skip
noncomputable def Γ : List (FuncId × AFun U) := [(101, slices_Concat___api_Item_api_Item.A), (60, slices_Clone__api_Itemapi_Item.A)]
noncomputable def Λ : List (Nat × LFun U) := [(3, Λ3)]
noncomputable def CT : List (Nat × LFun U) := []
def ro : List FuncId := []
def D : Nat → Lv × Lv := dtab [(3, ⟨[25, 10, 23, 9, 3, 2, 1, 24], [(10, [], .own 11)]⟩, ⟨[8, 9, 3, 2, 1, 10], []⟩)]
noncomputable def E : Env U := { E0 with Γ := Γ, Λ := Λ, C := CT, D := D, ro := ro }
theorem hf3 (R : Type) (l : T3) (s : S3) (K : Ex → St U → Option R) : codeA E (pick (loopsOf body) 3) ⟨p3.mkL (hd3 l s).1, q3.mkH (hd3 l s).2, 0⟩ (roundK E (pick (loopsOf body) 3) K) =
  (fl3 l s).runK (lpK K (fun s => ⟨p3.mkL (hd3 l s).1, q3.mkH (hd3 l s).2, 0⟩) sp1 (ou3 l)) := by kernel_rfl
theorem lk3 (R : Type) (st : St U) (K : Ex → St U → Option R) (r : R) (h : Λ3 R st K = some r) : ∃ n, loopA E (pick (loopsOf body) 3) n st K = some r :=
  lp_ok (U := U) (E := E) (b := pick (loopsOf body) 3) (m := 0) (sp := sp1) (p := p3) (q := q3) (X := (List (List ItemV))) (S := S3) (f := fl3) (hd := hd3) (s0 := fun (l : T3) => (l.1.2.2.2.2.2.2.2.2.2.2.1, l.2.2.1)) (ou := ou3)
    (fun l => rfl) (fun l x => by rfl) sp1_ok hf3 h
theorem hk (R : Type) (l : TA) (K : AV U → Hp U → Option R) : funcA E Try.f63 [] R (pA.mkL l.1) (pH.mkH l.2) K = (tl l).runK fun y => K (v l y) (hh l y) := by kernel_rfl
theorem okF : SoundF Try.prog cc 63 (funcA E Try.f63 []) :=
  funcA_ok (E := E) P_mixed (E0_ok.with Γ Λ CT D ro) (gam_of (all_cons ⟨slices_Concat___api_Item_api_Item.ok, slices_Concat___api_Item_api_Item.fo⟩ (all_cons ⟨slices_Clone__api_Itemapi_Item.ok, slices_Clone__api_Itemapi_Item.fo⟩ all_nil)) no_ro) Try.func63 (c := body) (by kernel_rfl)
    (just_by (by kernel_rfl) (by kernel_rfl) (all_cons lk3 all_nil) all_nil) []
theorem ok : SoundF Try.prog cc 63 A :=
  mkA_ok (E := E) (p := pA) (q := pH) (t := tl) sp1_ok hk okF
theorem fo : FnOK Try.prog 63 := ⟨Try.f63, Try.func63, by kernel_rfl, by kernel_rfl⟩
theorem keep : KeepA A := mkA_keep (U := U) sp1_ok (fun (l : TA) y => ⟨(hh l y).drop 0, by kernel_rfl⟩)
end pack_with_none0

/-! instar/pack.Put -/
namespace pack_Put_none0
abbrev TA : Type := ((Unit × (Int × ((Int × (ByteArray × Unit)) × Unit))) × Unit)
abbrev XA : Type := (Int × (Int × (Int × (List (List ItemV)))))
noncomputable def t (room x_0 : Int) (x_1 : ByteArray) : Tw XA :=
 (.opt (pack_At_none0.c x_0) fun z1 =>
  (.bb (decide (z1 < (0 : Int)))
   (.opt (pack_with_none0.c (0 : Int) (0 : Int) (((Go.Proofs.Ytmlbioapefgioaa.Va.ItemV.mk x_0 x_1) :: ([] : List (ItemV))) :: ([] : List (List ItemV)))) fun z2 =>
    (.ret ((0 : Int), ((0 : Int), (z2.1, z2.2)))))
   .no))
noncomputable def c (room x_0 : Int) (x_1 : ByteArray) : Option XA := (t room x_0 x_1).run
noncomputable def tl (l : TA) : Tw XA := t l.1.2.1 l.1.2.2.1.1 l.1.2.2.1.2.1
noncomputable def cl (l : TA) : Option XA := c l.1.2.1 l.1.2.2.1.1 l.1.2.2.1.2.1
def pA : Pt := (.cs .nils (jC (.cs (.agg (.cs (.int .u32) (.cs .str .nl))) .nl)))
def pH : Pt := .nl
def v (l : TA) (y : XA) : AV U := .tup [.own 0, .agg [jI y.1, jI y.2.1, jI y.2.2.1]]
def hh (l : TA) (y : XA) : Hp U := [.row 11 y.2.2.2 true]
noncomputable def A : AFun U := mkA (U := U) pA pH (X := XA) cl sp1 v hh
noncomputable def body : Code := (Go.Func.body Try.f26).getD .skip
noncomputable def Γ : List (FuncId × AFun U) := [(22, pack_At_none0.A), (63, pack_with_none0.A)]
noncomputable def Λ : List (Nat × LFun U) := []
noncomputable def CT : List (Nat × LFun U) := []
def ro : List FuncId := []
def D : Nat → Lv × Lv := dtab []
noncomputable def E : Env U := { E0 with Γ := Γ, Λ := Λ, C := CT, D := D, ro := ro }
theorem hk (R : Type) (l : TA) (K : AV U → Hp U → Option R) : funcA E Try.f26 [] R (pA.mkL l.1) (pH.mkH l.2) K = (tl l).runK fun y => K (v l y) (hh l y) := by kernel_rfl
theorem okF : SoundF Try.prog cc 26 (funcA E Try.f26 []) :=
  funcA_ok (E := E) P_mixed (E0_ok.with Γ Λ CT D ro) (gam_of (all_cons ⟨pack_At_none0.ok, pack_At_none0.fo⟩ (all_cons ⟨pack_with_none0.ok, pack_with_none0.fo⟩ all_nil)) no_ro) Try.func26 (c := body) (by kernel_rfl)
    (just_by (by kernel_rfl) (by kernel_rfl) all_nil all_nil) []
theorem ok : SoundF Try.prog cc 26 A :=
  mkA_ok (E := E) (p := pA) (q := pH) (t := tl) sp1_ok hk okF
theorem fo : FnOK Try.prog 26 := ⟨Try.f26, Try.func26, by kernel_rfl, by kernel_rfl⟩
theorem keep : KeepA A := mkA_keep (U := U) sp1_ok (fun (l : TA) y => ⟨(hh l y).drop 0, by kernel_rfl⟩)
end pack_Put_none0

/-! instar/pack.Fits -/
namespace pack_Fits
abbrev TA : Type := (((List (List ItemV)) × (Int × Unit)) × Unit)
abbrev T2 : Type := (((List (List ItemV)) × (Int × (Unit × ((List (List ItemV)) × (Int × (Int × (Unit × Unit))))))) × Unit)
abbrev X2 : Type := (Unit ⊕ Bool)
noncomputable def l2 (l_ : (List (List ItemV))) (room : Int) (k7 : (List (List ItemV))) (k8 k9 : Int) : Tw (Int ⊕ X2) :=
 (.bb (decide (k9 < k8))
  (.dd (((0 : Int) ≤ k9)) inferInstance
   (.opt (k7)[(Int.toNat k9)]? fun z1 =>
    (.bb ((((List.length z1) : Nat) : Int) == (0 : Int))
     (.ret (.inr (.inr false)))
     (.opt (leaf_Total.c z1) fun z2 =>
      (.bb (decide (z2 > room))
       (.ret (.inr (.inr false)))
       (.ret (.inl (w64 (k9 + (1 : Int)))))))))
   .no)
  (.ret (.inr (.inl ()))))
noncomputable def L2 (l_ : (List (List ItemV))) (room : Int) (k7 : (List (List ItemV))) (k8 k9 : Int) : Option X2 := Lp (fun s => (l2 l_ room k7 k8 s).run) k9
def p2 : Pt := (.cs (.sl 11) (jC (.cs (.bots 5) (.cs (.sl 11) (jC (jC (.cs (.bots 16) .nl)))))))
def q2 : Pt := .nl
def ou2 (l : T2) (y : X2) : Ex × St U := (Sum.elim (fun a0 => (.exit 0, stOf 26 [(0, .im (.slice 11 l.1.1))] [] 0)) (fun b0 => (.ret, stOf 26 [(0, .im (.slice 11 l.1.1)), (4, jB b0)] [] 0)) y)
noncomputable def Λ2 : LFun U := mkLp (U := U) p2 q2 0 (X := X2) (fun (l : T2) => L2 l.1.1 l.1.2.1 l.1.2.2.2.1 l.1.2.2.2.2.1 l.1.2.2.2.2.2.1) (spS sp1) ou2
def hd2 (l : T2) (s : Int) : T2 := ((l.1.1, (l.1.2.1, ((), (l.1.2.2.2.1, (l.1.2.2.2.2.1, (s, ((), ()))))))), ())
noncomputable def fl2 (l : T2) (s : Int) : Tw (Int ⊕ X2) := l2 l.1.1 l.1.2.1 l.1.2.2.2.1 l.1.2.2.2.2.1 s
noncomputable def t (l_ : (List (List ItemV))) (room : Int) : Tw Bool :=
 (.opt (L2 l_ room l_ (((List.length l_) : Nat) : Int) (0 : Int)) fun z3 =>
  (.sm z3
   (fun z4 => (.opt (pack_Flat.c l_) fun z6 =>
     (.opt (item_Right.c z6) fun z7 =>
      (.ret z7))))
   (fun z5 => (.ret z5))))
noncomputable def c (l_ : (List (List ItemV))) (room : Int) : Option Bool := (t l_ room).run
noncomputable def tl (l : TA) : Tw Bool := t l.1.1 l.1.2.1
noncomputable def cl (l : TA) : Option Bool := c l.1.1 l.1.2.1
def pA : Pt := (.cs (.sl 11) (jC .nl))
def pH : Pt := .nl
def v (l : TA) (y : Bool) : AV U := jB y
def hh (l : TA) (y : Bool) : Hp U := []
noncomputable def A : AFun U := mkA (U := U) pA pH (X := Bool) cl sp1 v hh
noncomputable def body : Code := (Go.Func.body Try.f12).getD .skip
noncomputable def Γ : List (FuncId × AFun U) := [(55, leaf_Total.A), (15, pack_Flat.A), (56, item_Right.A)]
noncomputable def Λ : List (Nat × LFun U) := [(2, Λ2)]
noncomputable def CT : List (Nat × LFun U) := []
def ro : List FuncId := []
def D : Nat → Lv × Lv := dtab [(2, ⟨[9, 1, 7, 0, 8], []⟩, ⟨[4, 0], []⟩)]
noncomputable def E : Env U := { E0 with Γ := Γ, Λ := Λ, C := CT, D := D, ro := ro }
theorem hf2 (R : Type) (l : T2) (s : Int) (K : Ex → St U → Option R) : codeA E (pick (loopsOf body) 2) ⟨p2.mkL (hd2 l s).1, q2.mkH (hd2 l s).2, 0⟩ (roundK E (pick (loopsOf body) 2) K) =
  (fl2 l s).runK (lpK K (fun s => ⟨p2.mkL (hd2 l s).1, q2.mkH (hd2 l s).2, 0⟩) (spS sp1) (ou2 l)) := by kernel_rfl
theorem lk2 (R : Type) (st : St U) (K : Ex → St U → Option R) (r : R) (h : Λ2 R st K = some r) : ∃ n, loopA E (pick (loopsOf body) 2) n st K = some r :=
  lp_ok (U := U) (E := E) (b := pick (loopsOf body) 2) (m := 0) (sp := (spS sp1)) (p := p2) (q := q2) (X := X2) (S := Int) (f := fl2) (hd := hd2) (s0 := fun (l : T2) => l.1.2.2.2.2.2.1) (ou := ou2)
    (fun l => rfl) (fun l x => by repeat' (first | rfl | (cases x with | inl => rfl | inr x => ?_))) (spS_ok sp1_ok) hf2 h
theorem hk (R : Type) (l : TA) (K : AV U → Hp U → Option R) : funcA E Try.f12 [] R (pA.mkL l.1) (pH.mkH l.2) K = (tl l).runK fun y => K (v l y) (hh l y) := by kernel_rfl
theorem okF : SoundF Try.prog cc 12 (funcA E Try.f12 []) :=
  funcA_ok (E := E) P_mixed (E0_ok.with Γ Λ CT D ro) (gam_of (all_cons ⟨leaf_Total.ok, leaf_Total.fo⟩ (all_cons ⟨pack_Flat.ok, pack_Flat.fo⟩ (all_cons ⟨item_Right.ok, item_Right.fo⟩ all_nil))) no_ro) Try.func12 (c := body) (by kernel_rfl)
    (just_by (by kernel_rfl) (by kernel_rfl) (all_cons lk2 all_nil) all_nil) []
theorem ok : SoundF Try.prog cc 12 A :=
  mkA_ok (E := E) (p := pA) (q := pH) (t := tl) sp1_ok hk okF
theorem fo : FnOK Try.prog 12 := ⟨Try.f12, Try.func12, by kernel_rfl, by kernel_rfl⟩
theorem keep : KeepA A := mkA_keep (U := U) sp1_ok (fun (l : TA) y => ⟨(hh l y).drop 0, by kernel_rfl⟩)
end pack_Fits

/-! instar/pack.front -/
namespace pack_front
abbrev TA : Type := (((List ItemV) × (Int × Unit)) × Unit)
abbrev T2 : Type := (((List ItemV) × (Int × (Unit × (Int × (Int × (Unit × Unit)))))) × Unit)
abbrev S2 : Type := (Int × Int)
noncomputable def l2 (l_ : (List ItemV)) (most n sum : Int) : Tw (S2 ⊕ Int) :=
 (.bb (decide (n < (((List.length l_) : Nat) : Int)))
  (.dd (((0 : Int) ≤ n)) inferInstance
   (.opt (l_)[(Int.toNat n)]? fun z1 =>
    (.opt (leaf_Cost.c z1.key z1.data) fun z2 =>
     (.bb (decide (n > (0 : Int)))
      (.bb (decide ((w64 (sum + z2)) > most))
       (.ret (.inr n))
       (.ret (.inl ((w64 (n + (1 : Int))), (w64 (sum + z2))))))
      (.ret (.inl ((w64 (n + (1 : Int))), (w64 (sum + z2))))))))
   .no)
  (.ret (.inr n)))
noncomputable def L2 (l_ : (List ItemV)) (most n sum : Int) : Option Int := Lp (fun s => (l2 l_ most s.1 s.2).run) (n, sum)
def p2 : Pt := (.cs (.sl 10) (jC (.cs (.bots 3) (jC (jC (.cs (.bots 21) .nl))))))
def q2 : Pt := .nl
def ou2 (l : T2) (y : Int) : Ex × St U := (.exit 0, stOf 28 [(5, jI y)] [] 0)
noncomputable def Λ2 : LFun U := mkLp (U := U) p2 q2 0 (X := Int) (fun (l : T2) => L2 l.1.1 l.1.2.1 l.1.2.2.2.1 l.1.2.2.2.2.1) sp1 ou2
def hd2 (l : T2) (s : S2) : T2 := ((l.1.1, (l.1.2.1, ((), (s.1, (s.2, ((), ())))))), ())
noncomputable def fl2 (l : T2) (s : S2) : Tw (S2 ⊕ Int) := l2 l.1.1 l.1.2.1 s.1 s.2
noncomputable def t (l_ : (List ItemV)) (most : Int) : Tw Int :=
 (.opt (L2 l_ most (0 : Int) (0 : Int)) fun z3 =>
  (.ret z3))
noncomputable def c (l_ : (List ItemV)) (most : Int) : Option Int := (t l_ most).run
noncomputable def tl (l : TA) : Tw Int := t l.1.1 l.1.2.1
noncomputable def cl (l : TA) : Option Int := c l.1.1 l.1.2.1
def pA : Pt := (.cs (.sl 10) (jC .nl))
def pH : Pt := .nl
def v (l : TA) (y : Int) : AV U := jI y
def hh (l : TA) (y : Int) : Hp U := []
noncomputable def A : AFun U := mkA (U := U) pA pH (X := Int) cl sp1 v hh
noncomputable def body : Code := (Go.Func.body Try.f59).getD .skip
noncomputable def Γ : List (FuncId × AFun U) := [(96, leaf_Cost.A)]
noncomputable def Λ : List (Nat × LFun U) := [(2, Λ2)]
noncomputable def CT : List (Nat × LFun U) := []
def ro : List FuncId := []
def D : Nat → Lv × Lv := dtab [(2, ⟨[5, 1, 0, 6], []⟩, ⟨[4, 5], []⟩)]
noncomputable def E : Env U := { E0 with Γ := Γ, Λ := Λ, C := CT, D := D, ro := ro }
theorem hf2 (R : Type) (l : T2) (s : S2) (K : Ex → St U → Option R) : codeA E (pick (loopsOf body) 2) ⟨p2.mkL (hd2 l s).1, q2.mkH (hd2 l s).2, 0⟩ (roundK E (pick (loopsOf body) 2) K) =
  (fl2 l s).runK (lpK K (fun s => ⟨p2.mkL (hd2 l s).1, q2.mkH (hd2 l s).2, 0⟩) sp1 (ou2 l)) := by kernel_rfl
theorem lk2 (R : Type) (st : St U) (K : Ex → St U → Option R) (r : R) (h : Λ2 R st K = some r) : ∃ n, loopA E (pick (loopsOf body) 2) n st K = some r :=
  lp_ok (U := U) (E := E) (b := pick (loopsOf body) 2) (m := 0) (sp := sp1) (p := p2) (q := q2) (X := Int) (S := S2) (f := fl2) (hd := hd2) (s0 := fun (l : T2) => (l.1.2.2.2.1, l.1.2.2.2.2.1)) (ou := ou2)
    (fun l => rfl) (fun l x => by rfl) sp1_ok hf2 h
theorem hk (R : Type) (l : TA) (K : AV U → Hp U → Option R) : funcA E Try.f59 [] R (pA.mkL l.1) (pH.mkH l.2) K = (tl l).runK fun y => K (v l y) (hh l y) := by kernel_rfl
theorem okF : SoundF Try.prog cc 59 (funcA E Try.f59 []) :=
  funcA_ok (E := E) P_mixed (E0_ok.with Γ Λ CT D ro) (gam_of (all_cons ⟨leaf_Cost.ok, leaf_Cost.fo⟩ all_nil) no_ro) Try.func59 (c := body) (by kernel_rfl)
    (just_by (by kernel_rfl) (by kernel_rfl) (all_cons lk2 all_nil) all_nil) []
theorem ok : SoundF Try.prog cc 59 A :=
  mkA_ok (E := E) (p := pA) (q := pH) (t := tl) sp1_ok hk okF
theorem fo : FnOK Try.prog 59 := ⟨Try.f59, Try.func59, by kernel_rfl, by kernel_rfl⟩
theorem keep : KeepA A := mkA_keep (U := U) sp1_ok (fun (l : TA) y => ⟨(hh l y).drop 0, by kernel_rfl⟩)
end pack_front

/-! instar/pack.Greedy -/
namespace pack_Greedy
abbrev TA : Type := (((List ItemV) × (Int × Unit)) × Unit)
abbrev T3 : Type := ((Unit × (Int × (Unit × (Unit × ((List ItemV) × (Unit × Unit)))))) × ((List (List ItemV)) × Unit))
abbrev S3 : Type := ((List ItemV) × (List (List ItemV)))
noncomputable def l3 (room : Int) (rest : (List ItemV)) (h0 : (List (List ItemV))) : Tw (S3 ⊕ (List (List ItemV))) :=
 (.bb (decide ((((List.length rest) : Nat) : Int) > (0 : Int)))
  (.opt (pack_front.c rest room) fun z1 =>
   (.dd ((((0 : Int) ≤ z1) ∧ (z1 ≤ (((List.length rest) : Nat) : Int)))) inferInstance
    (.opt (slices_Clone__api_Itemapi_Item.c (List.take (Int.toNat z1) rest)) fun z2 =>
     (.dd ((((((List.length h0) + (List.length (z2 :: ([] : List (List ItemV))))) * (24 : Nat)) ≤ (140737488355328 : Nat)) ∧ (((List.length h0) + (List.length (z2 :: ([] : List (List ItemV))))) ≤ (140737488355328 : Nat)))) inferInstance
      (.dd ((((0 : Int) ≤ z1) ∧ (z1 ≤ (((List.length rest) : Nat) : Int)))) inferInstance
       (.ret (.inl ((List.drop (Int.toNat z1) rest), (h0 ++ (z2 :: ([] : List (List ItemV)))))))
       .no)
      .no))
    .no))
  (.ret (.inr h0)))
noncomputable def L3 (room : Int) (rest : (List ItemV)) (h0 : (List (List ItemV))) : Option (List (List ItemV)) := Lp (fun s => (l3 room s.1 s.2).run) (rest, h0)
def p3 : Pt := (.cs (.bots 1) (jC (.cs (.bots 3) (.cs (.own 0) (.cs (.sl 10) (.cs (.bots 19) .nl))))))
def q3 : Pt := (.cs (.row 11 true) .nl)
def ou3 (l : T3) (y : (List (List ItemV))) : Ex × St U := (.exit 0, stOf 26 [(5, .own 0)] [.row 11 y true] 0)
noncomputable def Λ3 : LFun U := mkLp (U := U) p3 q3 0 (X := (List (List ItemV))) (fun (l : T3) => L3 l.1.2.1 l.1.2.2.2.2.1 l.2.1) sp1 ou3
def hd3 (l : T3) (s : S3) : T3 := (((), (l.1.2.1, ((), ((), (s.1, ((), ())))))), (s.2, ()))
noncomputable def fl3 (l : T3) (s : S3) : Tw (S3 ⊕ (List (List ItemV))) := l3 l.1.2.1 s.1 s.2
noncomputable def t (items : (List ItemV)) (room : Int) : Tw (List (List ItemV)) :=
 (.opt (L3 room items ([] : List (List ItemV))) fun z3 =>
  (.ret z3))
noncomputable def c (items : (List ItemV)) (room : Int) : Option (List (List ItemV)) := (t items room).run
noncomputable def tl (l : TA) : Tw (List (List ItemV)) := t l.1.1 l.1.2.1
noncomputable def cl (l : TA) : Option (List (List ItemV)) := c l.1.1 l.1.2.1
def pA : Pt := (.cs (.sl 10) (jC .nl))
def pH : Pt := .nl
def v (l : TA) (y : (List (List ItemV))) : AV U := .own 0
def hh (l : TA) (y : (List (List ItemV))) : Hp U := [.row 11 y true]
noncomputable def A : AFun U := mkA (U := U) pA pH (X := (List (List ItemV))) cl sp1 v hh
noncomputable def body : Code := (Go.Func.body Try.f18).getD .skip
noncomputable def Γ : List (FuncId × AFun U) := [(59, pack_front.A), (60, slices_Clone__api_Itemapi_Item.A)]
noncomputable def Λ : List (Nat × LFun U) := [(3, Λ3)]
noncomputable def CT : List (Nat × LFun U) := []
def ro : List FuncId := []
def D : Nat → Lv × Lv := dtab [(3, ⟨[6, 5, 1], [(5, [], .own 11)]⟩, ⟨[4, 5], []⟩)]
noncomputable def E : Env U := { E0 with Γ := Γ, Λ := Λ, C := CT, D := D, ro := ro }
theorem hf3 (R : Type) (l : T3) (s : S3) (K : Ex → St U → Option R) : codeA E (pick (loopsOf body) 3) ⟨p3.mkL (hd3 l s).1, q3.mkH (hd3 l s).2, 0⟩ (roundK E (pick (loopsOf body) 3) K) =
  (fl3 l s).runK (lpK K (fun s => ⟨p3.mkL (hd3 l s).1, q3.mkH (hd3 l s).2, 0⟩) sp1 (ou3 l)) := by kernel_rfl
theorem lk3 (R : Type) (st : St U) (K : Ex → St U → Option R) (r : R) (h : Λ3 R st K = some r) : ∃ n, loopA E (pick (loopsOf body) 3) n st K = some r :=
  lp_ok (U := U) (E := E) (b := pick (loopsOf body) 3) (m := 0) (sp := sp1) (p := p3) (q := q3) (X := (List (List ItemV))) (S := S3) (f := fl3) (hd := hd3) (s0 := fun (l : T3) => (l.1.2.2.2.2.1, l.2.1)) (ou := ou3)
    (fun l => rfl) (fun l x => by rfl) sp1_ok hf3 h
theorem hk (R : Type) (l : TA) (K : AV U → Hp U → Option R) : funcA E Try.f18 [] R (pA.mkL l.1) (pH.mkH l.2) K = (tl l).runK fun y => K (v l y) (hh l y) := by kernel_rfl
theorem okF : SoundF Try.prog cc 18 (funcA E Try.f18 []) :=
  funcA_ok (E := E) P_mixed (E0_ok.with Γ Λ CT D ro) (gam_of (all_cons ⟨pack_front.ok, pack_front.fo⟩ (all_cons ⟨slices_Clone__api_Itemapi_Item.ok, slices_Clone__api_Itemapi_Item.fo⟩ all_nil)) no_ro) Try.func18 (c := body) (by kernel_rfl)
    (just_by (by kernel_rfl) (by kernel_rfl) (all_cons lk3 all_nil) all_nil) []
theorem ok : SoundF Try.prog cc 18 A :=
  mkA_ok (E := E) (p := pA) (q := pH) (t := tl) sp1_ok hk okF
theorem fo : FnOK Try.prog 18 := ⟨Try.f18, Try.func18, by kernel_rfl, by kernel_rfl⟩
theorem keep : KeepA A := mkA_keep (U := U) sp1_ok (fun (l : TA) y => ⟨(hh l y).drop 0, by kernel_rfl⟩)
end pack_Greedy

end Go.Proofs.Ytmlbioapefgioaa.Va
