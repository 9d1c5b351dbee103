/- The functions of package ref24, as plain functions, and that the program computes them. Printed by a program of this work out of the evaluator. -/
import Derived.Test.YtmlbioapefgioaaEn
import Derived.Tactics
import Derived.Test.YtmlbioapefgioaaFref18
import Derived.Test.YtmlbioapefgioaaFref23
namespace Go.Proofs.Ytmlbioapefgioaa.Va
open Go
set_option linter.unusedVariables false
set_option maxRecDepth 100000

/-! instar/instarref24.Flat -/
namespace ref24_Flat
abbrev TA : Type := (((List (List ItemV)) × Unit) × Unit)
abbrev T3 : Type := (((List (List ItemV)) × (Unit × (Unit × (Int × (Unit × Unit))))) × ((List ItemV) × Unit))
abbrev S3 : Type := (Int × (List ItemV))
noncomputable def l3 (l_ : (List (List ItemV))) (i : Int) (h0 : (List ItemV)) : Tw (S3 ⊕ (List ItemV)) :=
 (.bb (decide (i < (((List.length l_) : Nat) : Int)))
  (.dd (((0 : Int) ≤ i)) inferInstance
   (.opt (l_)[(Int.toNat i)]? fun z1 =>
    (.dd ((((((List.length h0) + (List.length z1)) * (24 : Nat)) ≤ (140737488355328 : Nat)) ∧ (((List.length h0) + (List.length z1)) ≤ (140737488355328 : Nat)))) inferInstance
     (.ret (.inl ((w64 (i + (1 : Int))), (h0 ++ z1))))
     .no))
   .no)
  (.ret (.inr h0)))
noncomputable def L3 (l_ : (List (List ItemV))) (i : Int) (h0 : (List ItemV)) : Option (List ItemV) := Lp (fun s => (l3 l_ s.1 s.2).run) (i, h0)
def p3 : Pt := (.cs (.sl 11) (.cs (.bots 2) (.cs (.own 0) (jC (.cs (.bots 13) .nl)))))
def q3 : Pt := (.cs (.row 10 true) .nl)
def ou3 (l : T3) (y : (List ItemV)) : Ex × St U := (.exit 0, stOf 18 [(3, .own 0)] [.row 10 y true] 0)
noncomputable def Λ3 : LFun U := mkLp (U := U) p3 q3 0 (X := (List ItemV)) (fun (l : T3) => L3 l.1.1 l.1.2.2.2.1 l.2.1) sp1 ou3
def hd3 (l : T3) (s : S3) : T3 := ((l.1.1, ((), ((), (s.1, ((), ()))))), (s.2, ()))
noncomputable def fl3 (l : T3) (s : S3) : Tw (S3 ⊕ (List ItemV)) := l3 l.1.1 s.1 s.2
noncomputable def t (l_ : (List (List ItemV))) : Tw (List ItemV) :=
 (.opt (L3 l_ (0 : Int) ([] : List (ItemV))) fun z2 =>
  (.ret z2))
noncomputable def c (l_ : (List (List ItemV))) : Option (List ItemV) := (t l_).run
noncomputable def tl (l : TA) : Tw (List ItemV) := t l.1.1
noncomputable def cl (l : TA) : Option (List ItemV) := c l.1.1
def pA : Pt := (.cs (.sl 11) .nl)
def pH : Pt := .nl
def v (l : TA) (y : (List ItemV)) : AV U := .own 0
def hh (l : TA) (y : (List ItemV)) : Hp U := [.row 10 y true]
noncomputable def A : AFun U := mkA (U := U) pA pH (X := (List ItemV)) cl sp1 v hh
noncomputable def body : Code := (Go.Func.body Try.f16).getD .skip
noncomputable def Γ : List (FuncId × AFun U) := []
noncomputable def Λ : List (Nat × LFun U) := [(3, Λ3)]
noncomputable def CT : List (Nat × LFun U) := []
def ro : List FuncId := []
def D : Nat → Lv × Lv := dtab [(3, ⟨[4, 0, 3], [(3, [], .own 10)]⟩, ⟨[2, 3], []⟩)]
noncomputable def E : Env U := { E0 with Γ := Γ, Λ := Λ, C := CT, D := D, ro := ro }
theorem hf3 (R : Type) (l : T3) (s : S3) (K : Ex → St U → Option R) : codeA E (pick (loopsOf body) 3) ⟨p3.mkL (hd3 l s).1, q3.mkH (hd3 l s).2, 0⟩ (roundK E (pick (loopsOf body) 3) K) =
  (fl3 l s).runK (lpK K (fun s => ⟨p3.mkL (hd3 l s).1, q3.mkH (hd3 l s).2, 0⟩) sp1 (ou3 l)) := by kernel_rfl
theorem lk3 (R : Type) (st : St U) (K : Ex → St U → Option R) (r : R) (h : Λ3 R st K = some r) : ∃ n, loopA E (pick (loopsOf body) 3) n st K = some r :=
  lp_ok (U := U) (E := E) (b := pick (loopsOf body) 3) (m := 0) (sp := sp1) (p := p3) (q := q3) (X := (List ItemV)) (S := S3) (f := fl3) (hd := hd3) (s0 := fun (l : T3) => (l.1.2.2.2.1, l.2.1)) (ou := ou3)
    (fun l => rfl) (fun l x => by rfl) sp1_ok hf3 h
theorem hk (R : Type) (l : TA) (K : AV U → Hp U → Option R) : funcA E Try.f16 [] R (pA.mkL l.1) (pH.mkH l.2) K = (tl l).runK fun y => K (v l y) (hh l y) := by kernel_rfl
theorem okF : SoundF Try.prog cc 16 (funcA E Try.f16 []) :=
  funcA_ok (E := E) P_mixed (E0_ok.with Γ Λ CT D ro) (gam_of all_nil all_nil) Try.func16 (c := body) (by kernel_rfl)
    (just_by (by kernel_rfl) (by kernel_rfl) (all_cons lk3 all_nil) all_nil) []
theorem ok : SoundF Try.prog cc 16 A :=
  mkA_ok (E := E) (p := pA) (q := pH) (t := tl) sp1_ok hk okF
theorem fo : FnOK Try.prog 16 := ⟨Try.f16, Try.func16, by kernel_rfl, by kernel_rfl⟩
theorem keep : KeepA A := mkA_keep (U := U) sp1_ok (fun (l : TA) y => ⟨(hh l y).drop 0, by kernel_rfl⟩)
end ref24_Flat

/-! instar/instarref24.Same -/
namespace ref24_Same
abbrev TA : Type := (((List (List ItemV)) × ((List (List ItemV)) × Unit)) × Unit)
abbrev T4 : Type := (((List (List ItemV)) × ((List (List ItemV)) × (Unit × (Int × (Unit × Unit))))) × Unit)
abbrev X4 : Type := (Unit ⊕ Bool)
noncomputable def l4 (a : (List (List ItemV))) (b : (List (List ItemV))) (i : Int) : Tw (Int ⊕ X4) :=
 (.bb (decide (i < (((List.length a) : Nat) : Int)))
  (.dd (((0 : Int) ≤ i)) inferInstance
   (.opt (a)[(Int.toNat i)]? fun z1 =>
    (.dd (((0 : Int) ≤ i)) inferInstance
     (.opt (b)[(Int.toNat i)]? fun z2 =>
      (.opt (ref18_Same.c z1 z2) fun z3 =>
       (.bb (!z3)
        (.ret (.inr (.inr false)))
        (.ret (.inl (w64 (i + (1 : Int))))))))
     .no))
   .no)
  (.ret (.inr (.inl ()))))
noncomputable def L4 (a : (List (List ItemV))) (b : (List (List ItemV))) (i : Int) : Option X4 := Lp (fun s => (l4 a b s).run) i
def p4 : Pt := (.cs (.sl 11) (.cs (.sl 11) (.cs (.bots 3) (jC (.cs (.bots 21) .nl)))))
def q4 : Pt := .nl
def ou4 (l : T4) (y : X4) : Ex × St U := (Sum.elim (fun a0 => (.exit 0, stOf 27 [] [] 0)) (fun b0 => (.ret, stOf 27 [(4, jB b0)] [] 0)) y)
noncomputable def Λ4 : LFun U := mkLp (U := U) p4 q4 0 (X := X4) (fun (l : T4) => L4 l.1.1 l.1.2.1 l.1.2.2.2.1) (spS sp1) ou4
def hd4 (l : T4) (s : Int) : T4 := ((l.1.1, (l.1.2.1, ((), (s, ((), ()))))), ())
noncomputable def fl4 (l : T4) (s : Int) : Tw (Int ⊕ X4) := l4 l.1.1 l.1.2.1 s
noncomputable def t (a : (List (List ItemV))) (b : (List (List ItemV))) : Tw Bool :=
 (.bb ((((List.length a) : Nat) : Int) != (((List.length b) : Nat) : Int))
  (.ret false)
  (.opt (L4 a b (0 : Int)) fun z4 =>
   (.sm z4
    (fun z5 => (.ret true))
    (fun z6 => (.ret z6)))))
noncomputable def c (a : (List (List ItemV))) (b : (List (List ItemV))) : Option Bool := (t a b).run
noncomputable def tl (l : TA) : Tw Bool := t l.1.1 l.1.2.1
noncomputable def cl (l : TA) : Option Bool := c l.1.1 l.1.2.1
def pA : Pt := (.cs (.sl 11) (.cs (.sl 11) .nl))
def pH : Pt := .nl
def v (l : TA) (y : Bool) : AV U := jB y
def hh (l : TA) (y : Bool) : Hp U := []
noncomputable def A : AFun U := mkA (U := U) pA pH (X := Bool) cl sp1 v hh
noncomputable def body : Code := (Go.Func.body Try.f19).getD .skip
noncomputable def Γ : List (FuncId × AFun U) := [(14, ref18_Same.A)]
noncomputable def Λ : List (Nat × LFun U) := [(4, Λ4)]
noncomputable def CT : List (Nat × LFun U) := []
def ro : List FuncId := []
def D : Nat → Lv × Lv := dtab [(4, ⟨[5, 1, 0], []⟩, ⟨[4], []⟩)]
noncomputable def E : Env U := { E0 with Γ := Γ, Λ := Λ, C := CT, D := D, ro := ro }
theorem hf4 (R : Type) (l : T4) (s : Int) (K : Ex → St U → Option R) : codeA E (pick (loopsOf body) 4) ⟨p4.mkL (hd4 l s).1, q4.mkH (hd4 l s).2, 0⟩ (roundK E (pick (loopsOf body) 4) K) =
  (fl4 l s).runK (lpK K (fun s => ⟨p4.mkL (hd4 l s).1, q4.mkH (hd4 l s).2, 0⟩) (spS sp1) (ou4 l)) := by kernel_rfl
theorem lk4 (R : Type) (st : St U) (K : Ex → St U → Option R) (r : R) (h : Λ4 R st K = some r) : ∃ n, loopA E (pick (loopsOf body) 4) n st K = some r :=
  lp_ok (U := U) (E := E) (b := pick (loopsOf body) 4) (m := 0) (sp := (spS sp1)) (p := p4) (q := q4) (X := X4) (S := Int) (f := fl4) (hd := hd4) (s0 := fun (l : T4) => l.1.2.2.2.1) (ou := ou4)
    (fun l => rfl) (fun l x => by repeat' (first | rfl | (cases x with | inl => rfl | inr x => ?_))) (spS_ok sp1_ok) hf4 h
theorem hk (R : Type) (l : TA) (K : AV U → Hp U → Option R) : funcA E Try.f19 [] R (pA.mkL l.1) (pH.mkH l.2) K = (tl l).runK fun y => K (v l y) (hh l y) := by kernel_rfl
theorem okF : SoundF Try.prog cc 19 (funcA E Try.f19 []) :=
  funcA_ok (E := E) P_mixed (E0_ok.with Γ Λ CT D ro) (gam_of (all_cons ⟨ref18_Same.ok, ref18_Same.fo⟩ all_nil) no_ro) Try.func19 (c := body) (by kernel_rfl)
    (just_by (by kernel_rfl) (by kernel_rfl) (all_cons lk4 all_nil) all_nil) []
theorem ok : SoundF Try.prog cc 19 A :=
  mkA_ok (E := E) (p := pA) (q := pH) (t := tl) sp1_ok hk okF
theorem fo : FnOK Try.prog 19 := ⟨Try.f19, Try.func19, by kernel_rfl, by kernel_rfl⟩
theorem keep : KeepA A := mkA_keep (U := U) sp1_ok (fun (l : TA) y => ⟨(hh l y).drop 0, by kernel_rfl⟩)
end ref24_Same

/-! instar/instarref24.Fits -/
namespace ref24_Fits
abbrev TA : Type := (((List (List ItemV)) × (Int × Unit)) × Unit)
abbrev T2 : Type := (((List (List ItemV)) × (Int × (Unit × (Int × (Unit × Unit))))) × Unit)
abbrev X2 : Type := (Unit ⊕ Bool)
noncomputable def l2 (l_ : (List (List ItemV))) (room i : Int) : Tw (Int ⊕ X2) :=
 (.bb (decide (i < (((List.length l_) : Nat) : Int)))
  (.dd (((0 : Int) ≤ i)) inferInstance
   (.opt (l_)[(Int.toNat i)]? fun z1 =>
    (.bb ((((List.length z1) : Nat) : Int) == (0 : Int))
     (.ret (.inr (.inr false)))
     (.dd (((0 : Int) ≤ i)) inferInstance
      (.opt (l_)[(Int.toNat i)]? fun z2 =>
       (.opt (ref23_Total.c z2) fun z3 =>
        (.bb (decide (z3 > room))
         (.ret (.inr (.inr false)))
         (.ret (.inl (w64 (i + (1 : Int))))))))
      .no)))
   .no)
  (.ret (.inr (.inl ()))))
noncomputable def L2 (l_ : (List (List ItemV))) (room i : Int) : Option X2 := Lp (fun s => (l2 l_ room s).run) i
def p2 : Pt := (.cs (.sl 11) (jC (.cs (.bots 3) (jC (.cs (.bots 24) .nl)))))
def q2 : Pt := .nl
def ou2 (l : T2) (y : X2) : Ex × St U := (Sum.elim (fun a0 => (.exit 0, stOf 30 [(0, .im (.slice 11 l.1.1))] [] 0)) (fun b0 => (.ret, stOf 30 [(0, .im (.slice 11 l.1.1)), (4, jB b0)] [] 0)) y)
noncomputable def Λ2 : LFun U := mkLp (U := U) p2 q2 0 (X := X2) (fun (l : T2) => L2 l.1.1 l.1.2.1 l.1.2.2.2.1) (spS sp1) ou2
def hd2 (l : T2) (s : Int) : T2 := ((l.1.1, (l.1.2.1, ((), (s, ((), ()))))), ())
noncomputable def fl2 (l : T2) (s : Int) : Tw (Int ⊕ X2) := l2 l.1.1 l.1.2.1 s
noncomputable def t (l_ : (List (List ItemV))) (room : Int) : Tw Bool :=
 (.opt (L2 l_ room (0 : Int)) fun z4 =>
  (.sm z4
   (fun z5 => (.opt (ref24_Flat.c l_) fun z7 =>
     (.opt (ref18_Right.c z7) fun z8 =>
      (.ret z8))))
   (fun z6 => (.ret z6))))
noncomputable def c (l_ : (List (List ItemV))) (room : Int) : Option Bool := (t l_ room).run
noncomputable def tl (l : TA) : Tw Bool := t l.1.1 l.1.2.1
noncomputable def cl (l : TA) : Option Bool := c l.1.1 l.1.2.1
def pA : Pt := (.cs (.sl 11) (jC .nl))
def pH : Pt := .nl
def v (l : TA) (y : Bool) : AV U := jB y
def hh (l : TA) (y : Bool) : Hp U := []
noncomputable def A : AFun U := mkA (U := U) pA pH (X := Bool) cl sp1 v hh
noncomputable def body : Code := (Go.Func.body Try.f13).getD .skip
noncomputable def Γ : List (FuncId × AFun U) := [(57, ref23_Total.A), (16, ref24_Flat.A), (17, ref18_Right.A)]
noncomputable def Λ : List (Nat × LFun U) := [(2, Λ2)]
noncomputable def CT : List (Nat × LFun U) := []
def ro : List FuncId := []
def D : Nat → Lv × Lv := dtab [(2, ⟨[5, 1, 0], []⟩, ⟨[4, 0], []⟩)]
noncomputable def E : Env U := { E0 with Γ := Γ, Λ := Λ, C := CT, D := D, ro := ro }
theorem hf2 (R : Type) (l : T2) (s : Int) (K : Ex → St U → Option R) : codeA E (pick (loopsOf body) 2) ⟨p2.mkL (hd2 l s).1, q2.mkH (hd2 l s).2, 0⟩ (roundK E (pick (loopsOf body) 2) K) =
  (fl2 l s).runK (lpK K (fun s => ⟨p2.mkL (hd2 l s).1, q2.mkH (hd2 l s).2, 0⟩) (spS sp1) (ou2 l)) := by kernel_rfl
theorem lk2 (R : Type) (st : St U) (K : Ex → St U → Option R) (r : R) (h : Λ2 R st K = some r) : ∃ n, loopA E (pick (loopsOf body) 2) n st K = some r :=
  lp_ok (U := U) (E := E) (b := pick (loopsOf body) 2) (m := 0) (sp := (spS sp1)) (p := p2) (q := q2) (X := X2) (S := Int) (f := fl2) (hd := hd2) (s0 := fun (l : T2) => l.1.2.2.2.1) (ou := ou2)
    (fun l => rfl) (fun l x => by repeat' (first | rfl | (cases x with | inl => rfl | inr x => ?_))) (spS_ok sp1_ok) hf2 h
theorem hk (R : Type) (l : TA) (K : AV U → Hp U → Option R) : funcA E Try.f13 [] R (pA.mkL l.1) (pH.mkH l.2) K = (tl l).runK fun y => K (v l y) (hh l y) := by kernel_rfl
theorem okF : SoundF Try.prog cc 13 (funcA E Try.f13 []) :=
  funcA_ok (E := E) P_mixed (E0_ok.with Γ Λ CT D ro) (gam_of (all_cons ⟨ref23_Total.ok, ref23_Total.fo⟩ (all_cons ⟨ref24_Flat.ok, ref24_Flat.fo⟩ (all_cons ⟨ref18_Right.ok, ref18_Right.fo⟩ all_nil))) no_ro) Try.func13 (c := body) (by kernel_rfl)
    (just_by (by kernel_rfl) (by kernel_rfl) (all_cons lk2 all_nil) all_nil) []
theorem ok : SoundF Try.prog cc 13 A :=
  mkA_ok (E := E) (p := pA) (q := pH) (t := tl) sp1_ok hk okF
theorem fo : FnOK Try.prog 13 := ⟨Try.f13, Try.func13, by kernel_rfl, by kernel_rfl⟩
theorem keep : KeepA A := mkA_keep (U := U) sp1_ok (fun (l : TA) y => ⟨(hh l y).drop 0, by kernel_rfl⟩)
end ref24_Fits

/-! instar/instarref24.Greedy -/
namespace ref24_Greedy
abbrev TA : Type := (((List ItemV) × (Int × Unit)) × Unit)
abbrev T4 : Type := (((List ItemV) × (Int × (Unit × (Unit × (Unit × (Int × (Unit × Unit))))))) × ((List (List ItemV)) × ((List ItemV) × Unit)))
abbrev S4 : Type := (Int × ((List (List ItemV)) × (List ItemV)))
abbrev X4 : Type := ((List (List ItemV)) × (List ItemV))
noncomputable def l4 (items : (List ItemV)) (room i : Int) (h0 : (List (List ItemV))) (h1 : (List ItemV)) : Tw (S4 ⊕ X4) :=
 (.bb (decide (i < (((List.length items) : Nat) : Int)))
  (.bb (decide ((((List.length h1) : Nat) : Int) > (0 : Int)))
   (.opt (ref23_Total.c h1) fun z2 =>
    (.dd (((0 : Int) ≤ i)) inferInstance
     (.opt (items)[(Int.toNat i)]? fun z3 =>
      (.opt (ref23_Cost.c z3.key z3.data) fun z4 =>
       (.bb (decide ((w64 (z2 + z4)) > room))
        (.dd ((((((List.length h0) + (List.length (h1 :: ([] : List (List ItemV))))) * (24 : Nat)) ≤ (140737488355328 : Nat)) ∧ (((List.length h0) + (List.length (h1 :: ([] : List (List ItemV))))) ≤ (140737488355328 : Nat)))) inferInstance
         (.dd (((0 : Int) ≤ i)) inferInstance
          (.opt (items)[(Int.toNat i)]? fun z6 =>
           (.ret (.inl ((w64 (i + (1 : Int))), ((h0 ++ (h1 :: ([] : List (List ItemV)))), ((Go.Proofs.Ytmlbioapefgioaa.Va.ItemV.mk z6.key z6.data) :: ([] : List (ItemV))))))))
          .no)
         .no)
        (.dd (((((List.length h1) * (24 : Nat)) ≤ (140737488355328 : Nat)) ∧ ((List.length h1) ≤ (140737488355328 : Nat)))) inferInstance
         (.dd (((0 : Int) ≤ i)) inferInstance
          (.opt (items)[(Int.toNat i)]? fun z5 =>
           (.dd ((((((List.length h1) + (List.length ((Go.Proofs.Ytmlbioapefgioaa.Va.ItemV.mk z5.key z5.data) :: ([] : List (ItemV))))) * (24 : Nat)) ≤ (140737488355328 : Nat)) ∧ (((List.length h1) + (List.length ((Go.Proofs.Ytmlbioapefgioaa.Va.ItemV.mk z5.key z5.data) :: ([] : List (ItemV))))) ≤ (140737488355328 : Nat)))) inferInstance
            (.ret (.inl ((w64 (i + (1 : Int))), (h0, (h1 ++ ((Go.Proofs.Ytmlbioapefgioaa.Va.ItemV.mk z5.key z5.data) :: ([] : List (ItemV))))))))
            .no))
          .no)
         .no))))
     .no))
   (.dd (((((List.length h1) * (24 : Nat)) ≤ (140737488355328 : Nat)) ∧ ((List.length h1) ≤ (140737488355328 : Nat)))) inferInstance
    (.dd (((0 : Int) ≤ i)) inferInstance
     (.opt (items)[(Int.toNat i)]? fun z1 =>
      (.dd ((((((List.length h1) + (List.length ((Go.Proofs.Ytmlbioapefgioaa.Va.ItemV.mk z1.key z1.data) :: ([] : List (ItemV))))) * (24 : Nat)) ≤ (140737488355328 : Nat)) ∧ (((List.length h1) + (List.length ((Go.Proofs.Ytmlbioapefgioaa.Va.ItemV.mk z1.key z1.data) :: ([] : List (ItemV))))) ≤ (140737488355328 : Nat)))) inferInstance
       (.ret (.inl ((w64 (i + (1 : Int))), (h0, (h1 ++ ((Go.Proofs.Ytmlbioapefgioaa.Va.ItemV.mk z1.key z1.data) :: ([] : List (ItemV))))))))
       .no))
     .no)
    .no))
  (.ret (.inr (h0, h1))))
noncomputable def L4 (items : (List ItemV)) (room i : Int) (h0 : (List (List ItemV))) (h1 : (List ItemV)) : Option X4 := Lp (fun s => (l4 items room s.1 s.2.1 s.2.2).run) (i, (h0, h1))
def p4 : Pt := (.cs (.sl 10) (jC (.cs (.bots 3) (.cs (.own 0) (.cs (.own 1) (jC (.cs (.bots 41) .nl)))))))
def q4 : Pt := (.cs (.row 11 true) (.cs (.row 10 true) .nl))
def ou4 (l : T4) (y : X4) : Ex × St U := (.exit 0, stOf 49 [(5, .own 0), (6, .own 1)] [.row 11 y.1 true, .row 10 y.2 true] 0)
noncomputable def Λ4 : LFun U := mkLp (U := U) p4 q4 0 (X := X4) (fun (l : T4) => L4 l.1.1 l.1.2.1 l.1.2.2.2.2.2.1 l.2.1 l.2.2.1) sp1 ou4
def hd4 (l : T4) (s : S4) : T4 := ((l.1.1, (l.1.2.1, ((), ((), ((), (s.1, ((), ()))))))), (s.2.1, (s.2.2, ())))
noncomputable def fl4 (l : T4) (s : S4) : Tw (S4 ⊕ X4) := l4 l.1.1 l.1.2.1 s.1 s.2.1 s.2.2
noncomputable def t (items : (List ItemV)) (room : Int) : Tw (List (List ItemV)) :=
 (.opt (L4 items room (0 : Int) ([] : List (List ItemV)) ([] : List (ItemV))) fun z7 =>
  (.bb (decide ((((List.length z7.2) : Nat) : Int) > (0 : Int)))
   (.dd ((((((List.length z7.1) + (List.length (z7.2 :: ([] : List (List ItemV))))) * (24 : Nat)) ≤ (140737488355328 : Nat)) ∧ (((List.length z7.1) + (List.length (z7.2 :: ([] : List (List ItemV))))) ≤ (140737488355328 : Nat)))) inferInstance
    (.ret (z7.1 ++ (z7.2 :: ([] : List (List ItemV)))))
    .no)
   (.ret z7.1)))
noncomputable def c (items : (List ItemV)) (room : Int) : Option (List (List ItemV)) := (t items room).run
noncomputable def tl (l : TA) : Tw (List (List ItemV)) := t l.1.1 l.1.2.1
noncomputable def cl (l : TA) : Option (List (List ItemV)) := c l.1.1 l.1.2.1
def pA : Pt := (.cs (.sl 10) (jC .nl))
def pH : Pt := .nl
def v (l : TA) (y : (List (List ItemV))) : AV U := .own 0
def hh (l : TA) (y : (List (List ItemV))) : Hp U := [.row 11 y true]
noncomputable def A : AFun U := mkA (U := U) pA pH (X := (List (List ItemV))) cl sp1 v hh
noncomputable def body : Code := (Go.Func.body Try.f20).getD .skip
noncomputable def Γ : List (FuncId × AFun U) := [(57, ref23_Total.A), (61, ref23_Cost.A)]
noncomputable def Λ : List (Nat × LFun U) := [(4, Λ4)]
noncomputable def CT : List (Nat × LFun U) := []
def ro : List FuncId := []
def D : Nat → Lv × Lv := dtab [(4, ⟨[7, 0, 6, 5, 1], [(6, [], .own 10), (5, [], .own 11)]⟩, ⟨[4, 6, 5], []⟩)]
noncomputable def E : Env U := { E0 with Γ := Γ, Λ := Λ, C := CT, D := D, ro := ro }
theorem hf4 (R : Type) (l : T4) (s : S4) (K : Ex → St U → Option R) : codeA E (pick (loopsOf body) 4) ⟨p4.mkL (hd4 l s).1, q4.mkH (hd4 l s).2, 0⟩ (roundK E (pick (loopsOf body) 4) K) =
  (fl4 l s).runK (lpK K (fun s => ⟨p4.mkL (hd4 l s).1, q4.mkH (hd4 l s).2, 0⟩) sp1 (ou4 l)) := by kernel_rfl
theorem lk4 (R : Type) (st : St U) (K : Ex → St U → Option R) (r : R) (h : Λ4 R st K = some r) : ∃ n, loopA E (pick (loopsOf body) 4) n st K = some r :=
  lp_ok (U := U) (E := E) (b := pick (loopsOf body) 4) (m := 0) (sp := sp1) (p := p4) (q := q4) (X := X4) (S := S4) (f := fl4) (hd := hd4) (s0 := fun (l : T4) => (l.1.2.2.2.2.2.1, (l.2.1, l.2.2.1))) (ou := ou4)
    (fun l => rfl) (fun l x => by rfl) sp1_ok hf4 h
theorem hk (R : Type) (l : TA) (K : AV U → Hp U → Option R) : funcA E Try.f20 [] R (pA.mkL l.1) (pH.mkH l.2) K = (tl l).runK fun y => K (v l y) (hh l y) := by kernel_rfl
theorem okF : SoundF Try.prog cc 20 (funcA E Try.f20 []) :=
  funcA_ok (E := E) P_mixed (E0_ok.with Γ Λ CT D ro) (gam_of (all_cons ⟨ref23_Total.ok, ref23_Total.fo⟩ (all_cons ⟨ref23_Cost.ok, ref23_Cost.fo⟩ all_nil)) no_ro) Try.func20 (c := body) (by kernel_rfl)
    (just_by (by kernel_rfl) (by kernel_rfl) (all_cons lk4 all_nil) all_nil) []
theorem ok : SoundF Try.prog cc 20 A :=
  mkA_ok (E := E) (p := pA) (q := pH) (t := tl) sp1_ok hk okF
theorem fo : FnOK Try.prog 20 := ⟨Try.f20, Try.func20, by kernel_rfl, by kernel_rfl⟩
theorem keep : KeepA A := mkA_keep (U := U) sp1_ok (fun (l : TA) y => ⟨(hh l y).drop 0, by kernel_rfl⟩)
end ref24_Greedy

end Go.Proofs.Ytmlbioapefgioaa.Va
