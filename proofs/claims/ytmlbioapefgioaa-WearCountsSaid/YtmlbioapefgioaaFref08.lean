/- The functions of package ref08, as plain functions, and that the program computes them. Printed by a program of this work out of the evaluator. -/
import Derived.Test.YtmlbioapefgioaaEn
import Derived.Tactics
namespace Go.Proofs.Ytmlbioapefgioaa.Va
open Go
set_option linter.unusedVariables false
set_option maxRecDepth 100000

/-! instar/instarref08.between -/
namespace ref08_between
abbrev TA : Type := ((Int × (Int × (Int × Unit))) × Unit)
noncomputable def t (n lo hi : Int) : Tw Bool :=
 (.bb (decide (n ≥ lo))
  (.ret (decide (n ≤ hi)))
  (.ret false))
noncomputable def c (n lo hi : Int) : Option Bool := (t n lo hi).run
noncomputable def tl (l : TA) : Tw Bool := t l.1.1 l.1.2.1 l.1.2.2.1
noncomputable def cl (l : TA) : Option Bool := c l.1.1 l.1.2.1 l.1.2.2.1
def pA : Pt := (jC (jC (jC .nl)))
def pH : Pt := .nl
def v (l : TA) (y : Bool) : AV U := jB y
def hh (l : TA) (y : Bool) : Hp U := []
noncomputable def A : AFun U := mkA (U := U) pA pH (X := Bool) cl sp1 v hh
noncomputable def body : Code := (Go.Func.body Try.f73).getD .skip
noncomputable def Γ : List (FuncId × AFun U) := []
noncomputable def Λ : List (Nat × LFun U) := []
noncomputable def CT : List (Nat × LFun U) := []
def ro : List FuncId := []
def D : Nat → Lv × Lv := dtab []
noncomputable def E : Env U := { E0 with Γ := Γ, Λ := Λ, C := CT, D := D, ro := ro }
theorem hk (R : Type) (l : TA) (K : AV U → Hp U → Option R) : funcA E Try.f73 [] R (pA.mkL l.1) (pH.mkH l.2) K = (tl l).runK fun y => K (v l y) (hh l y) := by kernel_rfl
theorem okF : SoundF Try.prog cc 73 (funcA E Try.f73 []) :=
  funcA_ok (E := E) P_mixed (E0_ok.with Γ Λ CT D ro) (gam_of all_nil all_nil) Try.func73 (c := body) (by kernel_rfl)
    (just_by (by kernel_rfl) (by kernel_rfl) all_nil all_nil) []
theorem ok : SoundF Try.prog cc 73 A :=
  mkA_ok (E := E) (p := pA) (q := pH) (t := tl) sp1_ok hk okF
theorem fo : FnOK Try.prog 73 := ⟨Try.f73, Try.func73, by kernel_rfl, by kernel_rfl⟩
theorem keep : KeepA A := mkA_keep (U := U) sp1_ok (fun (l : TA) y => ⟨(hh l y).drop 0, by kernel_rfl⟩)
end ref08_between

/-! instar/instarref08.Right -/
namespace ref08_Right
abbrev TA : Type := (((Int × (Int × (Int × (Int × (Int × (Int × Unit)))))) × Unit) × Unit)
noncomputable def t (g_0 g_1 g_2 g_3 g_4 g_5 : Int) : Tw Bool :=
 (.opt (ref08_between.c g_0 (64 : Int) (1024 : Int)) fun z1 =>
  (.bb (!z1)
   (.ret false)
   (.opt (ref08_between.c g_1 (2 : Int) (32 : Int)) fun z2 =>
    (.bb (!z2)
     (.ret false)
     (.opt (ref08_between.c g_3 (2 : Int) (w64 (g_0 - (8 : Int)))) fun z3 =>
      (.bb (!z3)
       (.ret false)
       (.opt (ref08_between.c g_2 (w64 (g_3 + (3 : Int))) (128 : Int)) fun z4 =>
        (.bb z4
         (.opt (ref08_between.c g_4 (1 : Int) (9 : Int)) fun z5 =>
          (.bb z5
           (.opt (ref08_between.c g_5 (1 : Int) (1073741823 : Int)) fun z6 =>
            (.ret z6))
           (.ret false)))
         (.ret false)))))))))
noncomputable def c (g_0 g_1 g_2 g_3 g_4 g_5 : Int) : Option Bool := (t g_0 g_1 g_2 g_3 g_4 g_5).run
noncomputable def tl (l : TA) : Tw Bool := t l.1.1.1 l.1.1.2.1 l.1.1.2.2.1 l.1.1.2.2.2.1 l.1.1.2.2.2.2.1 l.1.1.2.2.2.2.2.1
noncomputable def cl (l : TA) : Option Bool := c l.1.1.1 l.1.1.2.1 l.1.1.2.2.1 l.1.1.2.2.2.1 l.1.1.2.2.2.2.1 l.1.1.2.2.2.2.2.1
def pA : Pt := (.cs (.agg (jC (jC (jC (jC (jC (jC .nl))))))) .nl)
def pH : Pt := .nl
def v (l : TA) (y : Bool) : AV U := jB y
def hh (l : TA) (y : Bool) : Hp U := []
noncomputable def A : AFun U := mkA (U := U) pA pH (X := Bool) cl sp1 v hh
noncomputable def body : Code := (Go.Func.body Try.f34).getD .skip
noncomputable def Γ : List (FuncId × AFun U) := [(73, ref08_between.A)]
noncomputable def Λ : List (Nat × LFun U) := []
noncomputable def CT : List (Nat × LFun U) := []
def ro : List FuncId := []
def D : Nat → Lv × Lv := dtab []
noncomputable def E : Env U := { E0 with Γ := Γ, Λ := Λ, C := CT, D := D, ro := ro }
theorem hk (R : Type) (l : TA) (K : AV U → Hp U → Option R) : funcA E Try.f34 [] R (pA.mkL l.1) (pH.mkH l.2) K = (tl l).runK fun y => K (v l y) (hh l y) := by kernel_rfl
theorem okF : SoundF Try.prog cc 34 (funcA E Try.f34 []) :=
  funcA_ok (E := E) P_mixed (E0_ok.with Γ Λ CT D ro) (gam_of (all_cons ⟨ref08_between.ok, ref08_between.fo⟩ all_nil) no_ro) Try.func34 (c := body) (by kernel_rfl)
    (just_by (by kernel_rfl) (by kernel_rfl) all_nil all_nil) []
theorem ok : SoundF Try.prog cc 34 A :=
  mkA_ok (E := E) (p := pA) (q := pH) (t := tl) sp1_ok hk okF
theorem fo : FnOK Try.prog 34 := ⟨Try.f34, Try.func34, by kernel_rfl, by kernel_rfl⟩
theorem keep : KeepA A := mkA_keep (U := U) sp1_ok (fun (l : TA) y => ⟨(hh l y).drop 0, by kernel_rfl⟩)
end ref08_Right

/-! instar/instarref08.Map -/
namespace ref08_Map
abbrev TA : Type := (((Int × (Int × (Int × (Int × (Int × (Int × Unit)))))) × Unit) × Unit)
abbrev XA : Type := (List (Int × Int × Int))
abbrev T9 : Type := ((Unit × (Unit × (Unit × (Unit × (Int × (Int × (Unit × Unit))))))) × ((Int × (Int × (Int × (Int × (Int × (Int × Unit)))))) × ((List (Int × Int × Int)) × Unit)))
abbrev S9 : Type := (Int × (List (Int × Int × Int)))
abbrev X9 : Type := (List (Int × Int × Int))
noncomputable def l9 (s_ h0_0 h0_1 h0_2 h0_3 h0_4 h0_5 i : Int) (h1 : (List (Int × Int × Int))) : Tw (S9 ⊕ X9) :=
 (.bb (decide ((w64 (i + (1 : Int))) < h0_1))
  (.dd ((((((List.length h1) + (List.length ((Prod.mk (2 : Int) (Prod.mk s_ i)) :: ([] : List (Int × Int × Int))))) * (24 : Nat)) ≤ (140737488355328 : Nat)) ∧ (((List.length h1) + (List.length ((Prod.mk (2 : Int) (Prod.mk s_ i)) :: ([] : List (Int × Int × Int))))) ≤ (140737488355328 : Nat)))) inferInstance
   (.ret (.inl ((w64 (i + (1 : Int))), (h1 ++ ((Prod.mk (2 : Int) (Prod.mk s_ i)) :: ([] : List (Int × Int × Int)))))))
   .no)
  (.ret (.inr h1)))
noncomputable def L9 (s_ i h0_0 h0_1 h0_2 h0_3 h0_4 h0_5 : Int) (h1 : (List (Int × Int × Int))) : Option X9 := Lp (fun s => (l9 s_ h0_0 h0_1 h0_2 h0_3 h0_4 h0_5 s.1 s.2).run) (i, h1)
def p9 : Pt := (.cs (.bots 1) (.cs (.ptr 0 0) (.cs (.bots 1) (.cs (.own 1) (jC (jC (.cs (.bots 41) .nl)))))))
def q9 : Pt := (.cs (.var (jC (jC (jC (jC (jC (jC .nl))))))) (.cs (.row 14 true) .nl))
def ou9 (l : T9) (y : X9) : Ex × St U := (.exit 2, stOf 47 [(1, .ptr 0 0), (3, .own 1), (4, jI l.1.2.2.2.2.1)] [.var [jI l.2.1.1, jI l.2.1.2.1, jI l.2.1.2.2.1, jI l.2.1.2.2.2.1, jI l.2.1.2.2.2.2.1, jI l.2.1.2.2.2.2.2.1], .row 14 y true] 0)
noncomputable def Λ9 : LFun U := mkLp (U := U) p9 q9 0 (X := X9) (fun (l : T9) => L9 l.1.2.2.2.2.1 l.1.2.2.2.2.2.1 l.2.1.1 l.2.1.2.1 l.2.1.2.2.1 l.2.1.2.2.2.1 l.2.1.2.2.2.2.1 l.2.1.2.2.2.2.2.1 l.2.2.1) sp1 ou9
def hd9 (l : T9) (s : S9) : T9 := (((), ((), ((), ((), (l.1.2.2.2.2.1, (s.1, ((), ()))))))), ((l.2.1.1, (l.2.1.2.1, (l.2.1.2.2.1, (l.2.1.2.2.2.1, (l.2.1.2.2.2.2.1, (l.2.1.2.2.2.2.2.1, ())))))), (s.2, ())))
noncomputable def fl9 (l : T9) (s : S9) : Tw (S9 ⊕ X9) := l9 l.1.2.2.2.2.1 l.2.1.1 l.2.1.2.1 l.2.1.2.2.1 l.2.1.2.2.2.1 l.2.1.2.2.2.2.1 l.2.1.2.2.2.2.2.1 s.1 s.2
abbrev T5 : Type := ((Unit × (Unit × (Unit × (Unit × (Int × (Unit × Unit)))))) × ((Int × (Int × (Int × (Int × (Int × (Int × Unit)))))) × ((List (Int × Int × Int)) × Unit)))
abbrev S5 : Type := (Int × (List (Int × Int × Int)))
abbrev X5 : Type := (List (Int × Int × Int))
noncomputable def l5 (h0_0 h0_1 h0_2 h0_3 h0_4 h0_5 s_ : Int) (h1 : (List (Int × Int × Int))) : Tw (S5 ⊕ X5) :=
 (.bb (decide (s_ < (2 : Int)))
  (.dd ((((((List.length h1) + (List.length ((Prod.mk (1 : Int) (Prod.mk s_ (0 : Int))) :: ([] : List (Int × Int × Int))))) * (24 : Nat)) ≤ (140737488355328 : Nat)) ∧ (((List.length h1) + (List.length ((Prod.mk (1 : Int) (Prod.mk s_ (0 : Int))) :: ([] : List (Int × Int × Int))))) ≤ (140737488355328 : Nat)))) inferInstance
   (.opt (L9 s_ (0 : Int) h0_0 h0_1 h0_2 h0_3 h0_4 h0_5 (h1 ++ ((Prod.mk (1 : Int) (Prod.mk s_ (0 : Int))) :: ([] : List (Int × Int × Int))))) fun z2 =>
    (.ret (.inl ((w64 (s_ + (1 : Int))), z2))))
   .no)
  (.ret (.inr h1)))
noncomputable def L5 (s_ h0_0 h0_1 h0_2 h0_3 h0_4 h0_5 : Int) (h1 : (List (Int × Int × Int))) : Option X5 := Lp (fun s => (l5 h0_0 h0_1 h0_2 h0_3 h0_4 h0_5 s.1 s.2).run) (s_, h1)
def p5 : Pt := (.cs (.bots 1) (.cs (.ptr 0 0) (.cs (.bots 1) (.cs (.own 1) (jC (.cs (.bots 42) .nl))))))
def q5 : Pt := (.cs (.var (jC (jC (jC (jC (jC (jC .nl))))))) (.cs (.row 14 true) .nl))
def ou5 (l : T5) (y : X5) : Ex × St U := (.exit 0, stOf 47 [(1, .ptr 0 0), (3, .own 1)] [.var [jI l.2.1.1, jI l.2.1.2.1, jI l.2.1.2.2.1, jI l.2.1.2.2.2.1, jI l.2.1.2.2.2.2.1, jI l.2.1.2.2.2.2.2.1], .row 14 y true] 0)
noncomputable def Λ5 : LFun U := mkLp (U := U) p5 q5 0 (X := X5) (fun (l : T5) => L5 l.1.2.2.2.2.1 l.2.1.1 l.2.1.2.1 l.2.1.2.2.1 l.2.1.2.2.2.1 l.2.1.2.2.2.2.1 l.2.1.2.2.2.2.2.1 l.2.2.1) sp1 ou5
def hd5 (l : T5) (s : S5) : T5 := (((), ((), ((), ((), (s.1, ((), ())))))), ((l.2.1.1, (l.2.1.2.1, (l.2.1.2.2.1, (l.2.1.2.2.2.1, (l.2.1.2.2.2.2.1, (l.2.1.2.2.2.2.2.1, ())))))), (s.2, ())))
noncomputable def fl5 (l : T5) (s : S5) : Tw (S5 ⊕ X5) := l5 l.2.1.1 l.2.1.2.1 l.2.1.2.2.1 l.2.1.2.2.2.1 l.2.1.2.2.2.2.1 l.2.1.2.2.2.2.2.1 s.1 s.2
abbrev T13 : Type := ((Unit × (Unit × (Unit × (Unit × (Unit × (Int × (Unit × Unit))))))) × ((Int × (Int × (Int × (Int × (Int × (Int × Unit)))))) × ((List (Int × Int × Int)) × Unit)))
abbrev S13 : Type := (Int × (List (Int × Int × Int)))
abbrev X13 : Type := (List (Int × Int × Int))
noncomputable def l13 (h0_0 h0_1 h0_2 h0_3 h0_4 h0_5 p_ : Int) (h1 : (List (Int × Int × Int))) : Tw (S13 ⊕ X13) :=
 (.bb (decide (p_ < h0_2))
  (.dd ((((((List.length h1) + (List.length ((Prod.mk (3 : Int) (Prod.mk (0 : Int) p_)) :: ([] : List (Int × Int × Int))))) * (24 : Nat)) ≤ (140737488355328 : Nat)) ∧ (((List.length h1) + (List.length ((Prod.mk (3 : Int) (Prod.mk (0 : Int) p_)) :: ([] : List (Int × Int × Int))))) ≤ (140737488355328 : Nat)))) inferInstance
   (.ret (.inl ((w64 (p_ + (1 : Int))), (h1 ++ ((Prod.mk (3 : Int) (Prod.mk (0 : Int) p_)) :: ([] : List (Int × Int × Int)))))))
   .no)
  (.ret (.inr h1)))
noncomputable def L13 (p_ h0_0 h0_1 h0_2 h0_3 h0_4 h0_5 : Int) (h1 : (List (Int × Int × Int))) : Option X13 := Lp (fun s => (l13 h0_0 h0_1 h0_2 h0_3 h0_4 h0_5 s.1 s.2).run) (p_, h1)
def p13 : Pt := (.cs (.bots 1) (.cs (.ptr 0 0) (.cs (.bots 1) (.cs (.own 1) (.cs (.bots 2) (jC (.cs (.bots 40) .nl)))))))
def q13 : Pt := (.cs (.var (jC (jC (jC (jC (jC (jC .nl))))))) (.cs (.row 14 true) .nl))
def ou13 (l : T13) (y : X13) : Ex × St U := (.exit 4, stOf 47 [(3, .own 0)] [.row 14 y true] 0)
noncomputable def Λ13 : LFun U := mkLp (U := U) p13 q13 0 (X := X13) (fun (l : T13) => L13 l.1.2.2.2.2.2.1 l.2.1.1 l.2.1.2.1 l.2.1.2.2.1 l.2.1.2.2.2.1 l.2.1.2.2.2.2.1 l.2.1.2.2.2.2.2.1 l.2.2.1) sp1 ou13
def hd13 (l : T13) (s : S13) : T13 := (((), ((), ((), ((), ((), (s.1, ((), ()))))))), ((l.2.1.1, (l.2.1.2.1, (l.2.1.2.2.1, (l.2.1.2.2.2.1, (l.2.1.2.2.2.2.1, (l.2.1.2.2.2.2.2.1, ())))))), (s.2, ())))
noncomputable def fl13 (l : T13) (s : S13) : Tw (S13 ⊕ X13) := l13 l.2.1.1 l.2.1.2.1 l.2.1.2.2.1 l.2.1.2.2.2.1 l.2.1.2.2.2.2.1 l.2.1.2.2.2.2.2.1 s.1 s.2
noncomputable def t (g_0 g_1 g_2 g_3 g_4 g_5 : Int) : Tw XA :=
 (.opt (ref08_Right.c g_0 g_1 g_2 g_3 g_4 g_5) fun z1 =>
  (.bb (!z1)
   (.ret ([] : List (Int × Int × Int)))
   (.opt (L5 (0 : Int) g_0 g_1 g_2 g_3 g_4 g_5 ((Prod.mk (0 : Int) (Prod.mk (0 : Int) (0 : Int))) :: ((Prod.mk (0 : Int) (Prod.mk (0 : Int) (1 : Int))) :: ([] : List (Int × Int × Int))))) fun z3 =>
    (.opt (L13 (0 : Int) g_0 g_1 g_2 g_3 g_4 g_5 z3) fun z4 =>
     (.ret z4)))))
noncomputable def c (g_0 g_1 g_2 g_3 g_4 g_5 : Int) : Option XA := (t g_0 g_1 g_2 g_3 g_4 g_5).run
noncomputable def tl (l : TA) : Tw XA := t l.1.1.1 l.1.1.2.1 l.1.1.2.2.1 l.1.1.2.2.2.1 l.1.1.2.2.2.2.1 l.1.1.2.2.2.2.2.1
noncomputable def cl (l : TA) : Option XA := c l.1.1.1 l.1.1.2.1 l.1.1.2.2.1 l.1.1.2.2.2.1 l.1.1.2.2.2.2.1 l.1.1.2.2.2.2.2.1
def pA : Pt := (.cs (.agg (jC (jC (jC (jC (jC (jC .nl))))))) .nl)
def pH : Pt := .nl
def v (l : TA) (y : XA) : AV U := .own 0
def hh (l : TA) (y : XA) : Hp U := [.row 14 y true]
noncomputable def A : AFun U := mkA (U := U) pA pH (X := XA) cl sp1 v hh
noncomputable def body : Code := (Go.Func.body Try.f35).getD .skip
noncomputable def Γ : List (FuncId × AFun U) := [(34, ref08_Right.A)]
noncomputable def Λ : List (Nat × LFun U) := [(9, Λ9), (5, Λ5), (13, Λ13)]
noncomputable def CT : List (Nat × LFun U) := []
def ro : List FuncId := []
def D : Nat → Lv × Lv := dtab [(5, ⟨[4, 1, 3], []⟩, ⟨[2, 3, 1], []⟩), (9, ⟨[5, 4, 3, 1], []⟩, ⟨[2, 1, 3, 4], []⟩), (13, ⟨[6, 3, 1], []⟩, ⟨[2, 3], []⟩)]
noncomputable def E : Env U := { E0 with Γ := Γ, Λ := Λ, C := CT, D := D, ro := ro }
theorem hf9 (R : Type) (l : T9) (s : S9) (K : Ex → St U → Option R) : codeA E (pick (loopsOf body) 9) ⟨p9.mkL (hd9 l s).1, q9.mkH (hd9 l s).2, 0⟩ (roundK E (pick (loopsOf body) 9) K) =
  (fl9 l s).runK (lpK K (fun s => ⟨p9.mkL (hd9 l s).1, q9.mkH (hd9 l s).2, 0⟩) sp1 (ou9 l)) := by kernel_rfl
theorem lk9 (R : Type) (st : St U) (K : Ex → St U → Option R) (r : R) (h : Λ9 R st K = some r) : ∃ n, loopA E (pick (loopsOf body) 9) n st K = some r :=
  lp_ok (U := U) (E := E) (b := pick (loopsOf body) 9) (m := 0) (sp := sp1) (p := p9) (q := q9) (X := X9) (S := S9) (f := fl9) (hd := hd9) (s0 := fun (l : T9) => (l.1.2.2.2.2.2.1, l.2.2.1)) (ou := ou9)
    (fun l => rfl) (fun l x => by rfl) sp1_ok hf9 h
theorem hf5 (R : Type) (l : T5) (s : S5) (K : Ex → St U → Option R) : codeA E (pick (loopsOf body) 5) ⟨p5.mkL (hd5 l s).1, q5.mkH (hd5 l s).2, 0⟩ (roundK E (pick (loopsOf body) 5) K) =
  (fl5 l s).runK (lpK K (fun s => ⟨p5.mkL (hd5 l s).1, q5.mkH (hd5 l s).2, 0⟩) sp1 (ou5 l)) := by kernel_rfl
theorem lk5 (R : Type) (st : St U) (K : Ex → St U → Option R) (r : R) (h : Λ5 R st K = some r) : ∃ n, loopA E (pick (loopsOf body) 5) n st K = some r :=
  lp_ok (U := U) (E := E) (b := pick (loopsOf body) 5) (m := 0) (sp := sp1) (p := p5) (q := q5) (X := X5) (S := S5) (f := fl5) (hd := hd5) (s0 := fun (l : T5) => (l.1.2.2.2.2.1, l.2.2.1)) (ou := ou5)
    (fun l => rfl) (fun l x => by rfl) sp1_ok hf5 h
theorem hf13 (R : Type) (l : T13) (s : S13) (K : Ex → St U → Option R) : codeA E (pick (loopsOf body) 13) ⟨p13.mkL (hd13 l s).1, q13.mkH (hd13 l s).2, 0⟩ (roundK E (pick (loopsOf body) 13) K) =
  (fl13 l s).runK (lpK K (fun s => ⟨p13.mkL (hd13 l s).1, q13.mkH (hd13 l s).2, 0⟩) sp1 (ou13 l)) := by kernel_rfl
theorem lk13 (R : Type) (st : St U) (K : Ex → St U → Option R) (r : R) (h : Λ13 R st K = some r) : ∃ n, loopA E (pick (loopsOf body) 13) n st K = some r :=
  lp_ok (U := U) (E := E) (b := pick (loopsOf body) 13) (m := 0) (sp := sp1) (p := p13) (q := q13) (X := X13) (S := S13) (f := fl13) (hd := hd13) (s0 := fun (l : T13) => (l.1.2.2.2.2.2.1, l.2.2.1)) (ou := ou13)
    (fun l => rfl) (fun l x => by rfl) sp1_ok hf13 h
theorem hk (R : Type) (l : TA) (K : AV U → Hp U → Option R) : funcA E Try.f35 [(0, [], .own 14)] R (pA.mkL l.1) (pH.mkH l.2) K = (tl l).runK fun y => K (v l y) (hh l y) := by kernel_rfl
theorem okF : SoundF Try.prog cc 35 (funcA E Try.f35 [(0, [], .own 14)]) :=
  funcA_ok (E := E) P_mixed (E0_ok.with Γ Λ CT D ro) (gam_of (all_cons ⟨ref08_Right.ok, ref08_Right.fo⟩ all_nil) no_ro) Try.func35 (c := body) (by kernel_rfl)
    (just_by (by kernel_rfl) (by kernel_rfl) (all_cons lk9 (all_cons lk5 (all_cons lk13 all_nil))) all_nil) [(0, [], .own 14)]
theorem ok : SoundF Try.prog cc 35 A :=
  mkA_ok (E := E) (p := pA) (q := pH) (t := tl) sp1_ok hk okF
theorem fo : FnOK Try.prog 35 := ⟨Try.f35, Try.func35, by kernel_rfl, by kernel_rfl⟩
theorem keep : KeepA A := mkA_keep (U := U) sp1_ok (fun (l : TA) y => ⟨(hh l y).drop 0, by kernel_rfl⟩)
end ref08_Map

/-! instar/instarref08.Small -/
namespace ref08_Small
abbrev TA : Type := (((Int × (Int × (Int × (Int × (Int × (Int × Unit)))))) × Unit) × Unit)
noncomputable def t (g_0 g_1 g_2 g_3 g_4 g_5 : Int) : Tw Bool :=
 (.opt (ref08_Right.c g_0 g_1 g_2 g_3 g_4 g_5) fun z1 =>
  (.bb z1
   (.bb (decide (g_0 ≤ (128 : Int)))
    (.opt (ref08_Map.c g_0 g_1 g_2 g_3 g_4 g_5) fun z2 =>
     (.ret (decide ((((List.length z2) : Nat) : Int) ≤ (60 : Int)))))
    (.ret false))
   (.ret false)))
noncomputable def c (g_0 g_1 g_2 g_3 g_4 g_5 : Int) : Option Bool := (t g_0 g_1 g_2 g_3 g_4 g_5).run
noncomputable def tl (l : TA) : Tw Bool := t l.1.1.1 l.1.1.2.1 l.1.1.2.2.1 l.1.1.2.2.2.1 l.1.1.2.2.2.2.1 l.1.1.2.2.2.2.2.1
noncomputable def cl (l : TA) : Option Bool := c l.1.1.1 l.1.1.2.1 l.1.1.2.2.1 l.1.1.2.2.2.1 l.1.1.2.2.2.2.1 l.1.1.2.2.2.2.2.1
def pA : Pt := (.cs (.agg (jC (jC (jC (jC (jC (jC .nl))))))) .nl)
def pH : Pt := .nl
def v (l : TA) (y : Bool) : AV U := jB y
def hh (l : TA) (y : Bool) : Hp U := []
noncomputable def A : AFun U := mkA (U := U) pA pH (X := Bool) cl sp1 v hh
noncomputable def body : Code := (Go.Func.body Try.f40).getD .skip
noncomputable def Γ : List (FuncId × AFun U) := [(34, ref08_Right.A), (35, ref08_Map.A)]
noncomputable def Λ : List (Nat × LFun U) := []
noncomputable def CT : List (Nat × LFun U) := []
def ro : List FuncId := []
def D : Nat → Lv × Lv := dtab []
noncomputable def E : Env U := { E0 with Γ := Γ, Λ := Λ, C := CT, D := D, ro := ro }
theorem hk (R : Type) (l : TA) (K : AV U → Hp U → Option R) : funcA E Try.f40 [] R (pA.mkL l.1) (pH.mkH l.2) K = (tl l).runK fun y => K (v l y) (hh l y) := by kernel_rfl
theorem okF : SoundF Try.prog cc 40 (funcA E Try.f40 []) :=
  funcA_ok (E := E) P_mixed (E0_ok.with Γ Λ CT D ro) (gam_of (all_cons ⟨ref08_Right.ok, ref08_Right.fo⟩ (all_cons ⟨ref08_Map.ok, ref08_Map.fo⟩ all_nil)) no_ro) Try.func40 (c := body) (by kernel_rfl)
    (just_by (by kernel_rfl) (by kernel_rfl) all_nil all_nil) []
theorem ok : SoundF Try.prog cc 40 A :=
  mkA_ok (E := E) (p := pA) (q := pH) (t := tl) sp1_ok hk okF
theorem fo : FnOK Try.prog 40 := ⟨Try.f40, Try.func40, by kernel_rfl, by kernel_rfl⟩
theorem keep : KeepA A := mkA_keep (U := U) sp1_ok (fun (l : TA) y => ⟨(hh l y).drop 0, by kernel_rfl⟩)
end ref08_Small

end Go.Proofs.Ytmlbioapefgioaa.Va
