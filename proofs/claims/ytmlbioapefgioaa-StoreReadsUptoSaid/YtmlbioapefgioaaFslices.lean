/- The functions of package slices, as plain functions, and that the program computes them. Printed by a program of this work out of the evaluator. -/
import Derived.Test.YtmlbioapefgioaaEn
import Derived.Tactics
set_option linter.unusedVariables false
namespace Go.Proofs.Ytmlbioapefgioaa.Va
noncomputable section
open Go
set_option maxRecDepth 100000

/-! slices.Grow[[][]instar/api.Item,[]instar/api.Item] -/
namespace slices_Grow___api_Item_api_Item_none0
abbrev TA : Type := ((Unit × (Int × Unit)) × Unit)
def t (n : Int) : Tw (List (List ItemV)) :=
 (.bb (decide (n < (0 : Int)))
 .no
 (.bb (decide ((w64 (n - (w64 ((0 : Int) - (0 : Int))))) > (0 : Int)))
 (.dd ((((0 : Int) < (w64 (n - (w64 ((0 : Int) - (0 : Int)))))) ∧ (((w64 (n - (w64 ((0 : Int) - (0 : Int))))) ≤ (140737488355328 : Int)) ∧ (((w64 (n - (w64 ((0 : Int) - (0 : Int))))) * (((24 : Nat) : Nat) : Int)) ≤ (140737488355328 : Int))))) inferInstance
 (.ret (List.take (Int.toNat (0 : Int)) (List.replicate (Int.toNat (w64 (n - (w64 ((0 : Int) - (0 : Int)))))) ([] : List (ItemV)))))
 .no)
 (.ret ([] : List (List ItemV)))))
def c (n : Int) : Option (List (List ItemV)) := (t n).run
def tl (l : TA) : Tw (List (List ItemV)) := t l.1.2.1
def pA : Pt := (.cs .nils (jC .nl))
def pH : Pt := .nl
def v (l : TA) (y : (List (List ItemV))) : AV U := .own 0
def hh (l : TA) (y : (List (List ItemV))) : Hp U := [.row 11 y true]
def A : AFun U := mkA pA pH (X := (List (List ItemV))) (fun l => (tl l).run) sp1 v hh
def body := bodyOf Try.f120
def Γ : List (FuncId × AFun U) := []
def Λ : List (Nat × LFun U) := []
def CT : List (Nat × LFun U) := []
def ro : List FuncId := []
def D : Nat → Lv × Lv := dtab []
def E : Env U := { E0 with Γ := Γ, Λ := Λ, C := CT, D := D, ro := ro, pre := [], kill := [], tr := true }
theorem hk : HK E Try.f120 [(0, [], .own 11)] pA pH tl v hh := fun _ _ _ => by kernel_rfl
theorem okF : SoundF Try.prog cc 120 (funcA E Try.f120 [(0, [], .own 11)]) :=
  funcA_ok (E := E) P_mixed ((E0_ok.with Γ Λ CT D ro).pre [] [] true) (gam_of all_nil all_nil) Try.func120 (c := body) (by kernel_rfl)
    (just_by (by kernel_rfl) (by kernel_rfl) all_nil all_nil) [(0, [], .own 11)]
theorem ok : SoundF Try.prog cc 120 A :=
  mkA_ok (E := E) (p := pA) (q := pH) (t := tl) sp1_ok hk okF
theorem fo : FnOK Try.prog 120 := ⟨Try.f120, Try.func120, by kernel_rfl, by kernel_rfl⟩
end slices_Grow___api_Item_api_Item_none0

/-! slices.Concat[[][]instar/api.Item,[]instar/api.Item] -/
namespace slices_Concat___api_Item_api_Item
abbrev TA : Type := (((List (List (List ItemV))) × Unit) × Unit)
abbrev T3 : Type := (((List (List (List ItemV))) × (Unit × (Int × (Unit × ((List (List (List ItemV))) × (Int × (Int × (Unit × Unit)))))))) × Unit)
abbrev S3 : Type := (Int × Int)
def l3 (slices : (List (List (List ItemV)))) (k9 : (List (List (List ItemV)))) (k10 size k11 : Int) : Tw (S3 ⊕ Int) :=
 (.bb (decide (k11 < k10))
 (.dd (((0 : Int) ≤ k11)) inferInstance
 (.opt (k9)[(Int.toNat k11)]? fun z1 =>
 (.bb (decide ((w64 (size + (((List.length z1) : Nat) : Int))) < (0 : Int)))
 .no
 (.ret (.inl ((w64 (size + (((List.length z1) : Nat) : Int))), (w64 (k11 + (1 : Int))))))))
 .no)
 (.ret (.inr size)))
def L3 (slices : (List (List (List ItemV)))) (size : Int) (k9 : (List (List (List ItemV)))) (k10 k11 : Int) : Option Int := Lp (fun s => (l3 slices k9 k10 s.1 s.2).run) (size, k11)
def p3 : Pt := (.cs (.sl 15) (.cs (.bots 2) (jC (.cs (.bots 5) (.cs (.sl 15) (jC (jC (.cs (.bots 24) .nl))))))))
def q3 : Pt := .nl
def ou3 (l : T3) (y : Int) : Ex × St U := (.exit 0, stOf 36 [(0, .im (.slice 15 l.1.1)), (3, jI y)] [] 0)
def Λ3 : LFun U := mkLp p3 q3 0 (X := Int) (fun (l : T3) => L3 l.1.1 l.1.2.2.1 (d4 l.1).1 (d4 l.1).2.1 (d4 l.1).2.2.1) sp1 ou3
def hd3 (l : T3) (s : S3) : T3 := ((l.1.1, ((), (s.1, ((), ((d4 l.1).1, ((d4 l.1).2.1, (s.2, ((), ())))))))), ())
def fl3 (l : T3) (s : S3) : Tw (S3 ⊕ Int) := l3 l.1.1 (d4 l.1).1 (d4 l.1).2.1 s.1 s.2
abbrev T11 : Type := ((Unit × (Unit × (Unit × ((List (List (List ItemV))) × (Int × (Int × (Unit × Unit))))))) × ((List (List ItemV)) × Unit))
abbrev S11 : Type := (Int × (List (List ItemV)))
def l11 (k25 : (List (List (List ItemV)))) (k26 k27 : Int) (h0 : (List (List ItemV))) : Tw (S11 ⊕ (List (List ItemV))) :=
 (.bb (decide (k27 < k26))
 (.dd (((0 : Int) ≤ k27)) inferInstance
 (.opt (k25)[(Int.toNat k27)]? fun z4 =>
 (.dd ((((((List.length h0) + (List.length z4)) * (24 : Nat)) ≤ (140737488355328 : Nat)) ∧ (((List.length h0) + (List.length z4)) ≤ (140737488355328 : Nat)))) inferInstance
 (.ret (.inl ((w64 (k27 + (1 : Int))), (h0 ++ z4))))
 .no))
 .no)
 (.ret (.inr h0)))
def L11 (k25 : (List (List (List ItemV)))) (k26 k27 : Int) (h0 : (List (List ItemV))) : Option (List (List ItemV)) := Lp (fun s => (l11 k25 k26 s.1 s.2).run) (k27, h0)
def p11 : Pt := (.cs (.bots 6) (.cs (.own 0) (.cs (.bots 18) (.cs (.sl 15) (jC (jC (.cs (.bots 8) .nl)))))))
def q11 : Pt := (.cs (.row 11 true) .nl)
def ou11 (l : T11) (y : (List (List ItemV))) : Ex × St U := (.exit 2, stOf 36 [(6, .own 0)] [.row 11 y true] 0)
def Λ11 : LFun U := mkLp p11 q11 0 (X := (List (List ItemV))) (fun (l : T11) => L11 l.1.2.2.2.1 (d4 l.1).1 (d4 l.1).2.1 l.2.1) sp1 ou11
def hd11 (l : T11) (s : S11) : T11 := (((), ((), ((), (l.1.2.2.2.1, ((d4 l.1).1, (s.1, ((), ()))))))), (s.2, ()))
def fl11 (l : T11) (s : S11) : Tw (S11 ⊕ (List (List ItemV))) := l11 l.1.2.2.2.1 (d4 l.1).1 s.1 s.2
def t (slices : (List (List (List ItemV)))) : Tw (List (List ItemV)) :=
 (.opt (L3 slices (0 : Int) slices (((List.length slices) : Nat) : Int) (0 : Int)) fun z2 =>
 (.opt (slices_Grow___api_Item_api_Item_none0.c z2) fun z3 =>
 (.opt (L11 slices (((List.length slices) : Nat) : Int) (0 : Int) z3) fun z5 =>
 (.ret z5))))
def c (slices : (List (List (List ItemV)))) : Option (List (List ItemV)) := (t slices).run
def tl (l : TA) : Tw (List (List ItemV)) := t l.1.1
def pA : Pt := (.cs (.sl 15) .nl)
def pH : Pt := .nl
def v (l : TA) (y : (List (List ItemV))) : AV U := .own 0
def hh (l : TA) (y : (List (List ItemV))) : Hp U := [.row 11 y true]
def A : AFun U := mkA pA pH (X := (List (List ItemV))) (fun l => (tl l).run) sp1 v hh
def body := bodyOf Try.f101
def E : Env U := E0.mk5 [(120, slices_Grow___api_Item_api_Item_none0.A)] [(3, Λ3), (11, Λ11)] [] [(3, ⟨[11, 3, 9, 0, 10], []⟩, ⟨[2, 0, 3], []⟩), (11, ⟨[27, 6, 25, 26], []⟩, ⟨[2, 6], []⟩)] []
theorem hf3 : HF E (pick (loopsOf body) 3) p3 q3 0 fl3 hd3 sp1 ou3 := fun _ _ _ _ => by kernel_rfl
theorem lk3 : LK E (pick (loopsOf body) 3) Λ3 := fun R st K r h =>
  lp_ok (E := E) (b := pick (loopsOf body) 3) (m := 0) (sp := sp1) (p := p3) (q := q3) (X := Int) (S := S3) (f := fl3) (hd := hd3) (s0 := fun (l : T3) => (l.1.2.2.1, (d4 l.1).2.2.1)) (ou := ou3)
    (fun l => rfl) (fun l x => by rfl) sp1_ok hf3 h
theorem hf11 : HF E (pick (loopsOf body) 11) p11 q11 0 fl11 hd11 sp1 ou11 := fun _ _ _ _ => by kernel_rfl
theorem lk11 : LK E (pick (loopsOf body) 11) Λ11 := fun R st K r h =>
  lp_ok (E := E) (b := pick (loopsOf body) 11) (m := 0) (sp := sp1) (p := p11) (q := q11) (X := (List (List ItemV))) (S := S11) (f := fl11) (hd := hd11) (s0 := fun (l : T11) => ((d4 l.1).2.1, l.2.1)) (ou := ou11)
    (fun l => rfl) (fun l x => by rfl) sp1_ok hf11 h
theorem hk : HK E Try.f101 [] pA pH tl v hh := fun _ _ _ => by kernel_rfl
theorem og : SoundF Try.prog cc 101 A ∧ FnOK Try.prog 101 :=
 og_of (E := E) P_mixed (E0_ok.mk5 _ _ _ _ _) (gam_of (all_cons ⟨slices_Grow___api_Item_api_Item_none0.ok, slices_Grow___api_Item_api_Item_none0.fo⟩ all_nil) no_ro) Try.func101 (c := body) (by kernel_rfl)
    (just_by (by kernel_rfl) (by kernel_rfl) (all_cons lk3 (all_cons lk11 all_nil)) all_nil) [] sp1_ok hk (by kernel_rfl)
end slices_Concat___api_Item_api_Item

/-! A copy of a slice: nil or not. -/
namespace slices_Clone__api_Itemapi_Item
abbrev TA : Type := ((List ItemV) × Unit) × Unit
def t (s_ : (List ItemV)) : Tw Unit :=
 (.dd ((((((List.length ([] : List (ItemV))) + (List.length s_)) * (24 : Nat)) ≤ (140737488355328 : Nat)) ∧ (((List.length ([] : List (ItemV))) + (List.length s_)) ≤ (140737488355328 : Nat)))) inferInstance
 (.ret ())
 .no)
def c (s_ : (List ItemV)) : Option (List ItemV) := (t s_).run.bind fun _ => some s_
def pA : Pt := (.cs (.sl 10) .nl)
def pH : Pt := .nl
def A : AFun U := mkA pA pH (X := (List ItemV)) (fun (l : TA) => (t l.1.1).run.bind fun _ => some l.1.1) sp1 (fun _ _ => .own 0) (fun l x => [.row 10 x true])
def body := bodyOf Try.f60
def E : Env U := { E0 with Γ := [], Λ := [], C := [], D := dtab [] }
theorem okF_nn : SoundF Try.prog cc 60 (funcA E Try.f60 []) :=
  funcA_ok (E := E) P_mixed (E0_ok.with [] [] [] (dtab []) []) (gam_of all_nil all_nil) Try.func60 (c := body) (by kernel_rfl)
    (just_by (by kernel_rfl) (by kernel_rfl) all_nil all_nil) []
theorem okF_ns : SoundF Try.prog cc 60 (funcA E Try.f60 [(0, [], .own 10)]) :=
  funcA_ok (E := E) P_mixed (E0_ok.with [] [] [] (dtab []) []) (gam_of all_nil all_nil) Try.func60 (c := body) (by kernel_rfl)
    (just_by (by kernel_rfl) (by kernel_rfl) all_nil all_nil) [(0, [], .own 10)]
theorem hn (R : Type) (l : (List ItemV)) (K : AV U → Hp U → Option R) : funcA E Try.f60 [] R [.nn 10 l] [] K = (t l).runK fun _ => K (.own 0) [.row 10 l true] := by kernel_rfl
theorem hs (R : Type) (K : AV U → Hp U → Option R) : funcA E Try.f60 [(0, [], .own 10)] R [.ns] [] K = K (.own 0) [.row 10 [] true] := by kernel_rfl
theorem ok : SoundF Try.prog cc 60 A := clone_ok (U := U) (P := Try.prog) (cc := cc) (f := 60) (T := 10) (A := funcA E Try.f60 []) (B := funcA E Try.f60 [(0, [], .own 10)]) (t := t) hn hs okF_nn okF_ns
theorem fo : FnOK Try.prog 60 := ⟨Try.f60, Try.func60, by kernel_rfl, by kernel_rfl⟩
end slices_Clone__api_Itemapi_Item

/-! slices.Grow[[]instar/api.Item,instar/api.Item] -/
namespace slices_Grow__api_Itemapi_Item_none0
abbrev TA : Type := ((Unit × (Int × Unit)) × Unit)
def t (n : Int) : Tw (List ItemV) :=
 (.bb (decide (n < (0 : Int)))
 .no
 (.bb (decide ((w64 (n - (w64 ((0 : Int) - (0 : Int))))) > (0 : Int)))
 (.dd ((((0 : Int) < (w64 (n - (w64 ((0 : Int) - (0 : Int)))))) ∧ (((w64 (n - (w64 ((0 : Int) - (0 : Int))))) ≤ (140737488355328 : Int)) ∧ (((w64 (n - (w64 ((0 : Int) - (0 : Int))))) * (((24 : Nat) : Nat) : Int)) ≤ (140737488355328 : Int))))) inferInstance
 (.ret (List.take (Int.toNat (0 : Int)) (List.replicate (Int.toNat (w64 (n - (w64 ((0 : Int) - (0 : Int)))))) (Go.Proofs.Ytmlbioapefgioaa.Va.ItemV.mk (0 : Int) ByteArray.empty))))
 .no)
 (.ret ([] : List (ItemV)))))
def c (n : Int) : Option (List ItemV) := (t n).run
def tl (l : TA) : Tw (List ItemV) := t l.1.2.1
def pA : Pt := (.cs .nils (jC .nl))
def pH : Pt := .nl
def v (l : TA) (y : (List ItemV)) : AV U := .own 0
def hh (l : TA) (y : (List ItemV)) : Hp U := [.row 10 y true]
def A : AFun U := mkA pA pH (X := (List ItemV)) (fun l => (tl l).run) sp1 v hh
def body := bodyOf Try.f97
def Γ : List (FuncId × AFun U) := []
def Λ : List (Nat × LFun U) := []
def CT : List (Nat × LFun U) := []
def ro : List FuncId := []
def D : Nat → Lv × Lv := dtab []
def E : Env U := { E0 with Γ := Γ, Λ := Λ, C := CT, D := D, ro := ro, pre := [], kill := [], tr := true }
theorem hk : HK E Try.f97 [(0, [], .own 10)] pA pH tl v hh := fun _ _ _ => by kernel_rfl
theorem okF : SoundF Try.prog cc 97 (funcA E Try.f97 [(0, [], .own 10)]) :=
  funcA_ok (E := E) P_mixed ((E0_ok.with Γ Λ CT D ro).pre [] [] true) (gam_of all_nil all_nil) Try.func97 (c := body) (by kernel_rfl)
    (just_by (by kernel_rfl) (by kernel_rfl) all_nil all_nil) [(0, [], .own 10)]
theorem ok : SoundF Try.prog cc 97 A :=
  mkA_ok (E := E) (p := pA) (q := pH) (t := tl) sp1_ok hk okF
theorem fo : FnOK Try.prog 97 := ⟨Try.f97, Try.func97, by kernel_rfl, by kernel_rfl⟩
end slices_Grow__api_Itemapi_Item_none0

/-! slices.Concat[[]instar/api.Item,instar/api.Item] -/
namespace slices_Concat__api_Itemapi_Item
abbrev TA : Type := (((List (List ItemV)) × Unit) × Unit)
abbrev T3 : Type := (((List (List ItemV)) × (Unit × (Int × (Unit × ((List (List ItemV)) × (Int × (Int × (Unit × Unit)))))))) × Unit)
abbrev S3 : Type := (Int × Int)
def l3 (slices : (List (List ItemV))) (k9 : (List (List ItemV))) (k10 size k11 : Int) : Tw (S3 ⊕ Int) :=
 (.bb (decide (k11 < k10))
 (.dd (((0 : Int) ≤ k11)) inferInstance
 (.opt (k9)[(Int.toNat k11)]? fun z1 =>
 (.bb (decide ((w64 (size + (((List.length z1) : Nat) : Int))) < (0 : Int)))
 .no
 (.ret (.inl ((w64 (size + (((List.length z1) : Nat) : Int))), (w64 (k11 + (1 : Int))))))))
 .no)
 (.ret (.inr size)))
def L3 (slices : (List (List ItemV))) (size : Int) (k9 : (List (List ItemV))) (k10 k11 : Int) : Option Int := Lp (fun s => (l3 slices k9 k10 s.1 s.2).run) (size, k11)
def p3 : Pt := (.cs (.sl 11) (.cs (.bots 2) (jC (.cs (.bots 5) (.cs (.sl 11) (jC (jC (.cs (.bots 24) .nl))))))))
def q3 : Pt := .nl
def ou3 (l : T3) (y : Int) : Ex × St U := (.exit 0, stOf 36 [(0, .im (.slice 11 l.1.1)), (3, jI y)] [] 0)
def Λ3 : LFun U := mkLp p3 q3 0 (X := Int) (fun (l : T3) => L3 l.1.1 l.1.2.2.1 (d4 l.1).1 (d4 l.1).2.1 (d4 l.1).2.2.1) sp1 ou3
def hd3 (l : T3) (s : S3) : T3 := ((l.1.1, ((), (s.1, ((), ((d4 l.1).1, ((d4 l.1).2.1, (s.2, ((), ())))))))), ())
def fl3 (l : T3) (s : S3) : Tw (S3 ⊕ Int) := l3 l.1.1 (d4 l.1).1 (d4 l.1).2.1 s.1 s.2
abbrev T11 : Type := ((Unit × (Unit × (Unit × ((List (List ItemV)) × (Int × (Int × (Unit × Unit))))))) × ((List ItemV) × Unit))
abbrev S11 : Type := (Int × (List ItemV))
def l11 (k25 : (List (List ItemV))) (k26 k27 : Int) (h0 : (List ItemV)) : Tw (S11 ⊕ (List ItemV)) :=
 (.bb (decide (k27 < k26))
 (.dd (((0 : Int) ≤ k27)) inferInstance
 (.opt (k25)[(Int.toNat k27)]? fun z4 =>
 (.dd ((((((List.length h0) + (List.length z4)) * (24 : Nat)) ≤ (140737488355328 : Nat)) ∧ (((List.length h0) + (List.length z4)) ≤ (140737488355328 : Nat)))) inferInstance
 (.ret (.inl ((w64 (k27 + (1 : Int))), (h0 ++ z4))))
 .no))
 .no)
 (.ret (.inr h0)))
def L11 (k25 : (List (List ItemV))) (k26 k27 : Int) (h0 : (List ItemV)) : Option (List ItemV) := Lp (fun s => (l11 k25 k26 s.1 s.2).run) (k27, h0)
def p11 : Pt := (.cs (.bots 6) (.cs (.own 0) (.cs (.bots 18) (.cs (.sl 11) (jC (jC (.cs (.bots 8) .nl)))))))
def q11 : Pt := (.cs (.row 10 true) .nl)
def ou11 (l : T11) (y : (List ItemV)) : Ex × St U := (.exit 2, stOf 36 [(6, .own 0)] [.row 10 y true] 0)
def Λ11 : LFun U := mkLp p11 q11 0 (X := (List ItemV)) (fun (l : T11) => L11 l.1.2.2.2.1 (d4 l.1).1 (d4 l.1).2.1 l.2.1) sp1 ou11
def hd11 (l : T11) (s : S11) : T11 := (((), ((), ((), (l.1.2.2.2.1, ((d4 l.1).1, (s.1, ((), ()))))))), (s.2, ()))
def fl11 (l : T11) (s : S11) : Tw (S11 ⊕ (List ItemV)) := l11 l.1.2.2.2.1 (d4 l.1).1 s.1 s.2
def t (slices : (List (List ItemV))) : Tw (List ItemV) :=
 (.opt (L3 slices (0 : Int) slices (((List.length slices) : Nat) : Int) (0 : Int)) fun z2 =>
 (.opt (slices_Grow__api_Itemapi_Item_none0.c z2) fun z3 =>
 (.opt (L11 slices (((List.length slices) : Nat) : Int) (0 : Int) z3) fun z5 =>
 (.ret z5))))
def c (slices : (List (List ItemV))) : Option (List ItemV) := (t slices).run
def tl (l : TA) : Tw (List ItemV) := t l.1.1
def pA : Pt := (.cs (.sl 11) .nl)
def pH : Pt := .nl
def v (l : TA) (y : (List ItemV)) : AV U := .own 0
def hh (l : TA) (y : (List ItemV)) : Hp U := [.row 10 y true]
def A : AFun U := mkA pA pH (X := (List ItemV)) (fun l => (tl l).run) sp1 v hh
def body := bodyOf Try.f58
def E : Env U := E0.mk5 [(97, slices_Grow__api_Itemapi_Item_none0.A)] [(3, Λ3), (11, Λ11)] [] [(3, ⟨[11, 3, 9, 0, 10], []⟩, ⟨[2, 0, 3], []⟩), (11, ⟨[27, 6, 25, 26], []⟩, ⟨[2, 6], []⟩)] []
theorem hf3 : HF E (pick (loopsOf body) 3) p3 q3 0 fl3 hd3 sp1 ou3 := fun _ _ _ _ => by kernel_rfl
theorem lk3 : LK E (pick (loopsOf body) 3) Λ3 := fun R st K r h =>
  lp_ok (E := E) (b := pick (loopsOf body) 3) (m := 0) (sp := sp1) (p := p3) (q := q3) (X := Int) (S := S3) (f := fl3) (hd := hd3) (s0 := fun (l : T3) => (l.1.2.2.1, (d4 l.1).2.2.1)) (ou := ou3)
    (fun l => rfl) (fun l x => by rfl) sp1_ok hf3 h
theorem hf11 : HF E (pick (loopsOf body) 11) p11 q11 0 fl11 hd11 sp1 ou11 := fun _ _ _ _ => by kernel_rfl
theorem lk11 : LK E (pick (loopsOf body) 11) Λ11 := fun R st K r h =>
  lp_ok (E := E) (b := pick (loopsOf body) 11) (m := 0) (sp := sp1) (p := p11) (q := q11) (X := (List ItemV)) (S := S11) (f := fl11) (hd := hd11) (s0 := fun (l : T11) => ((d4 l.1).2.1, l.2.1)) (ou := ou11)
    (fun l => rfl) (fun l x => by rfl) sp1_ok hf11 h
theorem hk : HK E Try.f58 [] pA pH tl v hh := fun _ _ _ => by kernel_rfl
theorem og : SoundF Try.prog cc 58 A ∧ FnOK Try.prog 58 :=
 og_of (E := E) P_mixed (E0_ok.mk5 _ _ _ _ _) (gam_of (all_cons ⟨slices_Grow__api_Itemapi_Item_none0.ok, slices_Grow__api_Itemapi_Item_none0.fo⟩ all_nil) no_ro) Try.func58 (c := body) (by kernel_rfl)
    (just_by (by kernel_rfl) (by kernel_rfl) (all_cons lk3 (all_cons lk11 all_nil)) all_nil) [] sp1_ok hk (by kernel_rfl)
end slices_Concat__api_Itemapi_Item

end
end Go.Proofs.Ytmlbioapefgioaa.Va
