/- The functions of package ref08, as plain functions, and that the program computes them. Printed by a program of this work out of the evaluator. -/
import Derived.Test.YtkoidgjgdhpdnaaEn
import Derived.Tactics
set_option linter.unusedVariables false
namespace Go.Proofs.Ytkoidgjgdhpdnaa.Va
noncomputable section
open Go
set_option maxRecDepth 100000

/-! instar/instarref08.between -/
namespace ref08_between
abbrev TA : Type := ((Int × (Int × (Int × Unit))) × Unit)
def t (n lo hi : Int) : Tw Bool :=
 (.bb (decide (n ≥ lo))
 (.ret (decide (n ≤ hi)))
 (.ret false))
def c (n lo hi : Int) : Option Bool := (t n lo hi).run
def tl (l : TA) : Tw Bool := t l.1.1 l.1.2.1 l.1.2.2.1
def pA : Pt := (jC (jC (jC .nl)))
def pH : Pt := .nl
def v (l : TA) (y : Bool) : AV U := jB y
def hh (l : TA) (y : Bool) : Hp U := []
def A : AFun U := mkA pA pH (X := Bool) (fun l => (tl l).run) sp1 v hh
def body := bodyOf Try.f57
def E : Env U := E0.mk5 [] [] [] [] []
theorem hk : HK E Try.f57 [] pA pH tl v hh := fun _ _ _ => by kernel_rfl
theorem og : SoundF Try.prog cc 57 A ∧ FnOK Try.prog 57 :=
 og_of (E := E) P_mixed (E0_ok.mk5 _ _ _ _ _) (gam_of all_nil all_nil) Try.func57 (c := body) (by kernel_rfl)
    (just_by (by kernel_rfl) (by kernel_rfl) all_nil all_nil) [] sp1_ok hk (by kernel_rfl)
end ref08_between

/-! instar/instarref08.Right -/
namespace ref08_Right
abbrev TA : Type := (((Int × (Int × (Int × (Int × (Int × (Int × Unit)))))) × Unit) × Unit)
def t (g_0 g_1 g_2 g_3 g_4 g_5 : Int) : Tw Bool :=
 (.opt (ref08_between.c g_0 (64 : Int) (1024 : Int)) fun z1 =>
 (.bb (!z1)
 (.ret false)
 (.opt (ref08_between.c g_1 (2 : Int) (32 : Int)) fun z2 =>
 (.bb (!z2)
 (.ret false)
 (.opt (ref08_between.c g_3 (2 : Int) (w64 (g_0 - (8 : Int)))) fun z3 =>
 (.bb (!z3)
 (.ret false)
 (.opt (ref08_between.c g_2 (w64 (g_3 + (3 : Int))) (128 : Int)) fun z4 =>
 (.bb z4
 (.opt (ref08_between.c g_4 (1 : Int) (9 : Int)) fun z5 =>
 (.bb z5
 (.opt (ref08_between.c g_5 (1 : Int) (1073741823 : Int)) fun z6 =>
 (.ret z6))
 (.ret false)))
 (.ret false)))))))))
def c (g_0 g_1 g_2 g_3 g_4 g_5 : Int) : Option Bool := (t g_0 g_1 g_2 g_3 g_4 g_5).run
def tl (l : TA) : Tw Bool := t l.1.1.1 l.1.1.2.1 l.1.1.2.2.1 l.1.1.2.2.2.1 (d4 l.1.1).1 (d4 l.1.1).2.1
def pA : Pt := (.cs (.agg (jC (jC (jC (jC (jC (jC .nl))))))) .nl)
def pH : Pt := .nl
def v (l : TA) (y : Bool) : AV U := jB y
def hh (l : TA) (y : Bool) : Hp U := []
def A : AFun U := mkA pA pH (X := Bool) (fun l => (tl l).run) sp1 v hh
def body := bodyOf Try.f29
def E : Env U := E0.mk5 [(57, ref08_between.A)] [] [] [] []
theorem hk : HK E Try.f29 [] pA pH tl v hh := fun _ _ _ => by kernel_rfl
theorem og : SoundF Try.prog cc 29 A ∧ FnOK Try.prog 29 :=
 og_of (E := E) P_mixed (E0_ok.mk5 _ _ _ _ _) (gam_of (all_cons ref08_between.og all_nil) no_ro) Try.func29 (c := body) (by kernel_rfl)
    (just_by (by kernel_rfl) (by kernel_rfl) all_nil all_nil) [] sp1_ok hk (by kernel_rfl)
end ref08_Right

/-! instar/instarref08.Map -/
namespace ref08_Map
abbrev TA : Type := (((Int × (Int × (Int × (Int × (Int × (Int × Unit)))))) × Unit) × Unit)
abbrev XA : Type := (List (Int × Int × Int))
abbrev T9 : Type := ((Unit × (Unit × (Unit × (Unit × (Int × (Int × (Unit × Unit))))))) × ((Int × (Int × (Int × (Int × (Int × (Int × Unit)))))) × ((List (Int × Int × Int)) × Unit)))
abbrev S9 : Type := (Int × (List (Int × Int × Int)))
abbrev X9 : Type := (List (Int × Int × Int))
def l9 (s_ h0_0 h0_1 h0_2 h0_3 h0_4 h0_5 i : Int) (h1 : (List (Int × Int × Int))) : Tw (S9 ⊕ X9) :=
 (.bb (decide ((w64 (i + (1 : Int))) < h0_1))
 (.dd ((((((List.length h1) + (List.length ((Prod.mk (2 : Int) (Prod.mk s_ i)) :: ([] : List (Int × Int × Int))))) * (24 : Nat)) ≤ (140737488355328 : Nat)) ∧ (((List.length h1) + (List.length ((Prod.mk (2 : Int) (Prod.mk s_ i)) :: ([] : List (Int × Int × Int))))) ≤ (140737488355328 : Nat)))) inferInstance
 (.ret (.inl ((w64 (i + (1 : Int))), (h1 ++ ((Prod.mk (2 : Int) (Prod.mk s_ i)) :: ([] : List (Int × Int × Int)))))))
 .no)
 (.ret (.inr h1)))
def L9 (s_ i h0_0 h0_1 h0_2 h0_3 h0_4 h0_5 : Int) (h1 : (List (Int × Int × Int))) : Option X9 := Lp (fun s => (l9 s_ h0_0 h0_1 h0_2 h0_3 h0_4 h0_5 s.1 s.2).run) (i, h1)
def p9 : Pt := (.cs (.bots 1) (.cs (.ptr 0 0) (.cs (.bots 1) (.cs (.own 1) (jC (jC (.cs (.bots 41) .nl)))))))
def q9 : Pt := (.cs (.var (jC (jC (jC (jC (jC (jC .nl))))))) (.cs (.row 14 true) .nl))
def ou9 (l : T9) (y : X9) : Ex × St U := (.exit 2, stOf 47 [(1, .ptr 0 0), (3, .own 1), (4, jI (d4 l.1).1)] [.var [jI l.2.1.1, jI l.2.1.2.1, jI l.2.1.2.2.1, jI l.2.1.2.2.2.1, jI (d4 l.2.1).1, jI (d4 l.2.1).2.1], .row 14 y true] 0)
def Λ9 : LFun U := mkLp p9 q9 0 (X := X9) (fun (l : T9) => L9 (d4 l.1).1 (d4 l.1).2.1 l.2.1.1 l.2.1.2.1 l.2.1.2.2.1 l.2.1.2.2.2.1 (d4 l.2.1).1 (d4 l.2.1).2.1 l.2.2.1) sp1 ou9
def hd9 (l : T9) (s : S9) : T9 := (((), ((), ((), ((), ((d4 l.1).1, (s.1, ((), ()))))))), ((l.2.1.1, (l.2.1.2.1, (l.2.1.2.2.1, (l.2.1.2.2.2.1, ((d4 l.2.1).1, ((d4 l.2.1).2.1, ())))))), (s.2, ())))
def fl9 (l : T9) (s : S9) : Tw (S9 ⊕ X9) := l9 (d4 l.1).1 l.2.1.1 l.2.1.2.1 l.2.1.2.2.1 l.2.1.2.2.2.1 (d4 l.2.1).1 (d4 l.2.1).2.1 s.1 s.2
abbrev T5 : Type := ((Unit × (Unit × (Unit × (Unit × (Int × (Unit × Unit)))))) × ((Int × (Int × (Int × (Int × (Int × (Int × Unit)))))) × ((List (Int × Int × Int)) × Unit)))
abbrev S5 : Type := (Int × (List (Int × Int × Int)))
abbrev X5 : Type := (List (Int × Int × Int))
def l5 (h0_0 h0_1 h0_2 h0_3 h0_4 h0_5 s_ : Int) (h1 : (List (Int × Int × Int))) : Tw (S5 ⊕ X5) :=
 (.bb (decide (s_ < (2 : Int)))
 (.dd ((((((List.length h1) + (List.length ((Prod.mk (1 : Int) (Prod.mk s_ (0 : Int))) :: ([] : List (Int × Int × Int))))) * (24 : Nat)) ≤ (140737488355328 : Nat)) ∧ (((List.length h1) + (List.length ((Prod.mk (1 : Int) (Prod.mk s_ (0 : Int))) :: ([] : List (Int × Int × Int))))) ≤ (140737488355328 : Nat)))) inferInstance
 (.opt (L9 s_ (0 : Int) h0_0 h0_1 h0_2 h0_3 h0_4 h0_5 (h1 ++ ((Prod.mk (1 : Int) (Prod.mk s_ (0 : Int))) :: ([] : List (Int × Int × Int))))) fun z2 =>
 (.ret (.inl ((w64 (s_ + (1 : Int))), z2))))
 .no)
 (.ret (.inr h1)))
def L5 (s_ h0_0 h0_1 h0_2 h0_3 h0_4 h0_5 : Int) (h1 : (List (Int × Int × Int))) : Option X5 := Lp (fun s => (l5 h0_0 h0_1 h0_2 h0_3 h0_4 h0_5 s.1 s.2).run) (s_, h1)
def p5 : Pt := (.cs (.bots 1) (.cs (.ptr 0 0) (.cs (.bots 1) (.cs (.own 1) (jC (.cs (.bots 42) .nl))))))
def q5 : Pt := (.cs (.var (jC (jC (jC (jC (jC (jC .nl))))))) (.cs (.row 14 true) .nl))
def ou5 (l : T5) (y : X5) : Ex × St U := (.exit 0, stOf 47 [(1, .ptr 0 0), (3, .own 1)] [.var [jI l.2.1.1, jI l.2.1.2.1, jI l.2.1.2.2.1, jI l.2.1.2.2.2.1, jI (d4 l.2.1).1, jI (d4 l.2.1).2.1], .row 14 y true] 0)
def Λ5 : LFun U := mkLp p5 q5 0 (X := X5) (fun (l : T5) => L5 (d4 l.1).1 l.2.1.1 l.2.1.2.1 l.2.1.2.2.1 l.2.1.2.2.2.1 (d4 l.2.1).1 (d4 l.2.1).2.1 l.2.2.1) sp1 ou5
def hd5 (l : T5) (s : S5) : T5 := (((), ((), ((), ((), (s.1, ((), ())))))), ((l.2.1.1, (l.2.1.2.1, (l.2.1.2.2.1, (l.2.1.2.2.2.1, ((d4 l.2.1).1, ((d4 l.2.1).2.1, ())))))), (s.2, ())))
def fl5 (l : T5) (s : S5) : Tw (S5 ⊕ X5) := l5 l.2.1.1 l.2.1.2.1 l.2.1.2.2.1 l.2.1.2.2.2.1 (d4 l.2.1).1 (d4 l.2.1).2.1 s.1 s.2
abbrev T13 : Type := ((Unit × (Unit × (Unit × (Unit × (Unit × (Int × (Unit × Unit))))))) × ((Int × (Int × (Int × (Int × (Int × (Int × Unit)))))) × ((List (Int × Int × Int)) × Unit)))
abbrev S13 : Type := (Int × (List (Int × Int × Int)))
abbrev X13 : Type := (List (Int × Int × Int))
def l13 (h0_0 h0_1 h0_2 h0_3 h0_4 h0_5 p_ : Int) (h1 : (List (Int × Int × Int))) : Tw (S13 ⊕ X13) :=
 (.bb (decide (p_ < h0_2))
 (.dd ((((((List.length h1) + (List.length ((Prod.mk (3 : Int) (Prod.mk (0 : Int) p_)) :: ([] : List (Int × Int × Int))))) * (24 : Nat)) ≤ (140737488355328 : Nat)) ∧ (((List.length h1) + (List.length ((Prod.mk (3 : Int) (Prod.mk (0 : Int) p_)) :: ([] : List (Int × Int × Int))))) ≤ (140737488355328 : Nat)))) inferInstance
 (.ret (.inl ((w64 (p_ + (1 : Int))), (h1 ++ ((Prod.mk (3 : Int) (Prod.mk (0 : Int) p_)) :: ([] : List (Int × Int × Int)))))))
 .no)
 (.ret (.inr h1)))
def L13 (p_ h0_0 h0_1 h0_2 h0_3 h0_4 h0_5 : Int) (h1 : (List (Int × Int × Int))) : Option X13 := Lp (fun s => (l13 h0_0 h0_1 h0_2 h0_3 h0_4 h0_5 s.1 s.2).run) (p_, h1)
def p13 : Pt := (.cs (.bots 1) (.cs (.ptr 0 0) (.cs (.bots 1) (.cs (.own 1) (.cs (.bots 2) (jC (.cs (.bots 40) .nl)))))))
def q13 : Pt := (.cs (.var (jC (jC (jC (jC (jC (jC .nl))))))) (.cs (.row 14 true) .nl))
def ou13 (l : T13) (y : X13) : Ex × St U := (.exit 4, stOf 47 [(3, .own 0)] [.row 14 y true] 0)
def Λ13 : LFun U := mkLp p13 q13 0 (X := X13) (fun (l : T13) => L13 (d4 l.1).2.1 l.2.1.1 l.2.1.2.1 l.2.1.2.2.1 l.2.1.2.2.2.1 (d4 l.2.1).1 (d4 l.2.1).2.1 l.2.2.1) sp1 ou13
def hd13 (l : T13) (s : S13) : T13 := (((), ((), ((), ((), ((), (s.1, ((), ()))))))), ((l.2.1.1, (l.2.1.2.1, (l.2.1.2.2.1, (l.2.1.2.2.2.1, ((d4 l.2.1).1, ((d4 l.2.1).2.1, ())))))), (s.2, ())))
def fl13 (l : T13) (s : S13) : Tw (S13 ⊕ X13) := l13 l.2.1.1 l.2.1.2.1 l.2.1.2.2.1 l.2.1.2.2.2.1 (d4 l.2.1).1 (d4 l.2.1).2.1 s.1 s.2
def t (g_0 g_1 g_2 g_3 g_4 g_5 : Int) : Tw XA :=
 (.opt (ref08_Right.c g_0 g_1 g_2 g_3 g_4 g_5) fun z1 =>
 (.bb (!z1)
 (.ret ([] : List (Int × Int × Int)))
 (.opt (L5 (0 : Int) g_0 g_1 g_2 g_3 g_4 g_5 ((Prod.mk (0 : Int) (Prod.mk (0 : Int) (0 : Int))) :: ((Prod.mk (0 : Int) (Prod.mk (0 : Int) (1 : Int))) :: ([] : List (Int × Int × Int))))) fun z3 =>
 (.opt (L13 (0 : Int) g_0 g_1 g_2 g_3 g_4 g_5 z3) fun z4 =>
 (.ret z4)))))
def c (g_0 g_1 g_2 g_3 g_4 g_5 : Int) : Option XA := (t g_0 g_1 g_2 g_3 g_4 g_5).run
def tl (l : TA) : Tw XA := t l.1.1.1 l.1.1.2.1 l.1.1.2.2.1 l.1.1.2.2.2.1 (d4 l.1.1).1 (d4 l.1.1).2.1
def pA : Pt := (.cs (.agg (jC (jC (jC (jC (jC (jC .nl))))))) .nl)
def pH : Pt := .nl
def v (l : TA) (y : XA) : AV U := .own 0
def hh (l : TA) (y : XA) : Hp U := [.row 14 y true]
def A : AFun U := mkA pA pH (X := XA) (fun l => (tl l).run) sp1 v hh
def body := bodyOf Try.f17
def E : Env U := E0.mk5 [(29, ref08_Right.A)] [(9, Λ9), (5, Λ5), (13, Λ13)] [] [(5, ⟨[4, 1, 3], []⟩, ⟨[2, 3, 1], []⟩), (9, ⟨[5, 4, 3, 1], []⟩, ⟨[2, 1, 3, 4], []⟩), (13, ⟨[6, 3, 1], []⟩, ⟨[2, 3], []⟩)] []
theorem hf9 : HF E (pick (loopsOf body) 9) p9 q9 0 fl9 hd9 sp1 ou9 := fun _ _ _ _ => by kernel_rfl
theorem lk9 : LK E (pick (loopsOf body) 9) Λ9 := fun R st K r h =>
  lp_ok (E := E) (b := pick (loopsOf body) 9) (m := 0) (sp := sp1) (p := p9) (q := q9) (X := X9) (S := S9) (f := fl9) (hd := hd9) (s0 := fun (l : T9) => ((d4 l.1).2.1, l.2.2.1)) (ou := ou9)
    (fun l => rfl) (fun l x => by rfl) sp1_ok hf9 h
theorem hf5 : HF E (pick (loopsOf body) 5) p5 q5 0 fl5 hd5 sp1 ou5 := fun _ _ _ _ => by kernel_rfl
theorem lk5 : LK E (pick (loopsOf body) 5) Λ5 := fun R st K r h =>
  lp_ok (E := E) (b := pick (loopsOf body) 5) (m := 0) (sp := sp1) (p := p5) (q := q5) (X := X5) (S := S5) (f := fl5) (hd := hd5) (s0 := fun (l : T5) => ((d4 l.1).1, l.2.2.1)) (ou := ou5)
    (fun l => rfl) (fun l x => by rfl) sp1_ok hf5 h
theorem hf13 : HF E (pick (loopsOf body) 13) p13 q13 0 fl13 hd13 sp1 ou13 := fun _ _ _ _ => by kernel_rfl
theorem lk13 : LK E (pick (loopsOf body) 13) Λ13 := fun R st K r h =>
  lp_ok (E := E) (b := pick (loopsOf body) 13) (m := 0) (sp := sp1) (p := p13) (q := q13) (X := X13) (S := S13) (f := fl13) (hd := hd13) (s0 := fun (l : T13) => ((d4 l.1).2.1, l.2.2.1)) (ou := ou13)
    (fun l => rfl) (fun l x => by rfl) sp1_ok hf13 h
theorem hk : HK E Try.f17 [(0, [], .own 14)] pA pH tl v hh := fun _ _ _ => by kernel_rfl
theorem og : SoundF Try.prog cc 17 A ∧ FnOK Try.prog 17 :=
 og_of (E := E) P_mixed (E0_ok.mk5 _ _ _ _ _) (gam_of (all_cons ref08_Right.og all_nil) no_ro) Try.func17 (c := body) (by kernel_rfl)
    (just_by (by kernel_rfl) (by kernel_rfl) (all_cons lk9 (all_cons lk5 (all_cons lk13 all_nil))) all_nil) [(0, [], .own 14)] sp1_ok hk (by kernel_rfl)
end ref08_Map

end
end Go.Proofs.Ytkoidgjgdhpdnaa.Va
