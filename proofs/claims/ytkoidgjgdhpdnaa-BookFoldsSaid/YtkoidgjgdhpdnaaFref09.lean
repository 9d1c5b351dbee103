/- The functions of package ref09, as plain functions, and that the program computes them. Printed by a program of this work out of the evaluator. -/
import Derived.Test.YtkoidgjgdhpdnaaEn
import Derived.Tactics
import Derived.Test.YtkoidgjgdhpdnaaFref01
import Derived.Test.YtkoidgjgdhpdnaaFref07
import Derived.Test.YtkoidgjgdhpdnaaFref08
set_option linter.unusedVariables false
namespace Go.Proofs.Ytkoidgjgdhpdnaa.Va
noncomputable section
open Go
set_option maxRecDepth 100000

/-! instar/instarref09.New -/
namespace ref09_New
abbrev TA : Type := (((Int × (Int × (Int × (Int × (Int × (Int × Unit)))))) × Unit) × Unit)
abbrev XA : Type := ((Int × (Bool × (Int × ((List Int) × ((List Int) × (List Int)))))) ⊕ Unit)
def t (g_0 g_1 g_2 g_3 g_4 g_5 : Int) : Tw XA :=
 (.opt (ref08_Map.c g_0 g_1 g_2 g_3 g_4 g_5) fun z1 =>
 (.opt (ref07_New.c (((List.length z1) : Nat) : Int) g_0) fun z2 =>
 (.sm z2
 (fun z3 => (.ret (.inl (z3.1, (z3.2.1, (z3.2.2.1, (z3.2.2.2.1, ((d4 z3).1, (d4 z3).2))))))))
 (fun z4 => (.ret (.inr ()))))))
def c (g_0 g_1 g_2 g_3 g_4 g_5 : Int) : Option XA := (t g_0 g_1 g_2 g_3 g_4 g_5).run
def tl (l : TA) : Tw XA := t l.1.1.1 l.1.1.2.1 l.1.1.2.2.1 l.1.1.2.2.2.1 (d4 l.1.1).1 (d4 l.1.1).2.1
def pA : Pt := (.cs (.agg (jC (jC (jC (jC (jC (jC .nl))))))) .nl)
def pH : Pt := .nl
def v (l : TA) (y : XA) : AV U := (Sum.elim (fun a0 => .ptr 0 0) (fun b0 => .ptr 0 0) y)
def hh (l : TA) (y : XA) : Hp U := (Sum.elim (fun a0 => [.var [.ptr 1 0, jI l.1.1.1, jI l.1.1.2.1, jI l.1.1.2.2.1, jI l.1.1.2.2.2.1, jI (d4 l.1.1).1, jI (d4 l.1.1).2.1], .var [.own 2, jI l.1.1.1, .own 3, jI a0.1, jB a0.2.1, jI a0.2.2.1, .own 4], .row 3 a0.2.2.2.1 true, .row 1 (d4 a0).1 true, .row 3 (d4 a0).2 true]) (fun b0 => [.var [.im .nilp, jI l.1.1.1, jI l.1.1.2.1, jI l.1.1.2.2.1, jI l.1.1.2.2.2.1, jI (d4 l.1.1).1, jI (d4 l.1.1).2.1]]) y)
def A : AFun U := mkA pA pH (X := XA) (fun l => (tl l).run) (spS sp1) v hh
def body := bodyOf Try.f23
def E : Env U := E0.mk5 [(17, ref08_Map.A), (46, ref07_New.A)] [] [] [] []
theorem hk : HK E Try.f23 [] pA pH tl v hh := fun _ _ _ => by kernel_rfl
theorem og : SoundF Try.prog cc 23 A ∧ FnOK Try.prog 23 :=
 og_of (E := E) P_mixed (E0_ok.mk5 _ _ _ _ _) (gam_of (all_cons ref08_Map.og (all_cons ref07_New.og all_nil)) no_ro) Try.func23 (c := body) (by kernel_rfl)
    (just_by (by kernel_rfl) (by kernel_rfl) all_nil all_nil) [] (spS_ok sp1_ok) hk (by kernel_rfl)
end ref09_New

/-! (*instar/instarref09.Drive).bad -/
namespace ref09_Drive_bad
abbrev TA : Type := ((Unit × (Int × (Int × (Int × Unit)))) × ((Unit × (Int × (Int × (Int × (Int × (Int × (Int × Unit))))))) × ((Unit × (Int × (Unit × (Int × (Bool × (Int × (Unit × Unit))))))) × ((List Int) × ((List Int) × ((List Int) × Unit))))))
def t (s_ at_ n h0_1 h0_2 h0_3 h0_4 h0_5 h0_6 h1_1 h1_3 : Int) (h1_4 : Bool) (h1_5 : Int) (h2 : (List Int)) (h3 : (List Int)) (h4 : (List Int)) : Tw Int :=
 (.bb (decide (s_ < (0 : Int)))
 (.ret (3 : Int))
 (.opt (ref08_Map.c h0_1 h0_2 h0_3 h0_4 h0_5 h0_6) fun z1 =>
 (.bb (decide (s_ ≥ (((List.length z1) : Nat) : Int)))
 (.ret (3 : Int))
 (.bb (decide (at_ < (0 : Int)))
 (.ret (3 : Int))
 (.bb (decide (at_ > h0_1))
 (.ret (3 : Int))
 (.bb (decide (n < (0 : Int)))
 (.ret (3 : Int))
 (.bb (decide (n > (w64 (h0_1 - at_))))
 (.ret (3 : Int))
 (.bb h1_4
 (.ret (10 : Int))
 (.ret (0 : Int))))))))))
def c (s_ at_ n h0_1 h0_2 h0_3 h0_4 h0_5 h0_6 h1_1 h1_3 : Int) (h1_4 : Bool) (h1_5 : Int) (h2 : (List Int)) (h3 : (List Int)) (h4 : (List Int)) : Option Int := (t s_ at_ n h0_1 h0_2 h0_3 h0_4 h0_5 h0_6 h1_1 h1_3 h1_4 h1_5 h2 h3 h4).run
def tl (l : TA) : Tw Int := t l.1.2.1 l.1.2.2.1 l.1.2.2.2.1 l.2.1.2.1 l.2.1.2.2.1 l.2.1.2.2.2.1 (d4 l.2.1).1 (d4 l.2.1).2.1 (d4 l.2.1).2.2.1 l.2.2.1.2.1 l.2.2.1.2.2.2.1 (d4 l.2.2.1).1 (d4 l.2.2.1).2.1 l.2.2.2.1 (d4 l).1 (d4 l).2.1
def pA : Pt := (.cs (.ptr 0 0) (jC (jC (jC .nl))))
def pH : Pt := (.cs (.var (.cs (.ptr 1 0) (jC (jC (jC (jC (jC (jC .nl)))))))) (.cs (.var (.cs (.own 2) (jC (.cs (.own 3) (jC (.cs .bool (jC (.cs (.own 4) .nl)))))))) (.cs (.row 3 true) (.cs (.row 1 true) (.cs (.row 3 true) .nl)))))
def v (l : TA) (y : Int) : AV U := jI y
def hh (l : TA) (y : Int) : Hp U := [.var [.ptr 1 0, jI l.2.1.2.1, jI l.2.1.2.2.1, jI l.2.1.2.2.2.1, jI (d4 l.2.1).1, jI (d4 l.2.1).2.1, jI (d4 l.2.1).2.2.1], .var [.own 2, jI l.2.2.1.2.1, .own 3, jI l.2.2.1.2.2.2.1, jB (d4 l.2.2.1).1, jI (d4 l.2.2.1).2.1, .own 4], .row 3 l.2.2.2.1 true, .row 1 (d4 l).1 true, .row 3 (d4 l).2.1 true]
def A : AFun U := mkA pA pH (X := Int) (fun l => (tl l).run) sp1 v hh
def body := bodyOf Try.f78
def E : Env U := E0.mk5 [(17, ref08_Map.A)] [] [] [] []
theorem hk : HK E Try.f78 [] pA pH tl v hh := fun _ _ _ => by kernel_rfl
theorem og : SoundF Try.prog cc 78 A ∧ FnOK Try.prog 78 :=
 og_of (E := E) P_mixed (E0_ok.mk5 _ _ _ _ _) (gam_of (all_cons ref08_Map.og all_nil) no_ro) Try.func78 (c := body) (by kernel_rfl)
    (just_by (by kernel_rfl) (by kernel_rfl) all_nil all_nil) [] sp1_ok hk (by kernel_rfl)
theorem keep : KeepA A := mkA_keep sp1_ok (fun (l : TA) y => ⟨(hh l y).drop 5, by kernel_rfl⟩)
end ref09_Drive_bad

/-! (*instar/instarref09.Drive).Read -/
namespace ref09_Drive_Read
abbrev TA : Type := ((Unit × (Int × (Int × (Int × Unit)))) × ((Unit × (Int × (Int × (Int × (Int × (Int × (Int × Unit))))))) × ((Unit × (Int × (Unit × (Int × (Bool × (Int × (Unit × Unit))))))) × ((List Int) × ((List Int) × ((List Int) × Unit))))))
abbrev XA : Type := (Int × (List Int))
abbrev T6 : Type := ((Unit × (Int × (Int × (Int × (Unit × (Unit × (Int × (Unit × Unit)))))))) × ((Unit × (Int × (Int × (Int × (Int × (Int × (Int × Unit))))))) × ((Unit × (Int × (Unit × (Int × (Bool × (Int × (Unit × Unit))))))) × ((List Int) × ((List Int) × ((List Int) × ((List Int) × Unit)))))))
abbrev S6 : Type := (Int × (List Int))
def l6 (s_ at_ n h0_1 h0_2 h0_3 h0_4 h0_5 h0_6 h1_1 h1_3 : Int) (h1_4 : Bool) (h1_5 : Int) (h2 : (List Int)) (h3 : (List Int)) (h4 : (List Int)) (i : Int) (h5 : (List Int)) : Tw (S6 ⊕ (List Int)) :=
 (.bb (decide (i < n))
 (.dd ((((0 : Int) ≤ (w64 ((w64 ((w64 (s_ * h0_1)) + at_)) + i))) ∧ ((w64 ((w64 ((w64 (s_ * h0_1)) + at_)) + i)) < (((List.length h2) : Nat) : Int)))) inferInstance
 (.opt (h2)[(Int.toNat (w64 ((w64 ((w64 (s_ * h0_1)) + at_)) + i)))]? fun z2 =>
 (.dd ((((((List.length h5) + (List.length (z2 :: ([] : List (Int))))) * (4 : Nat)) ≤ (140737488355328 : Nat)) ∧ (((List.length h5) + (List.length (z2 :: ([] : List (Int))))) ≤ (140737488355328 : Nat)))) inferInstance
 (.ret (.inl ((w64 (i + (1 : Int))), (h5 ++ (z2 :: ([] : List (Int)))))))
 .no))
 .no)
 (.ret (.inr h5)))
def L6 (s_ at_ n i h0_1 h0_2 h0_3 h0_4 h0_5 h0_6 h1_1 h1_3 : Int) (h1_4 : Bool) (h1_5 : Int) (h2 : (List Int)) (h3 : (List Int)) (h4 : (List Int)) (h5 : (List Int)) : Option (List Int) := Lp (fun s => (l6 s_ at_ n h0_1 h0_2 h0_3 h0_4 h0_5 h0_6 h1_1 h1_3 h1_4 h1_5 h2 h3 h4 s.1 s.2).run) (i, h5)
def p6 : Pt := (.cs (.ptr 0 0) (jC (jC (jC (.cs (.bots 7) (.cs (.own 5) (jC (.cs (.bots 37) .nl))))))))
def q6 : Pt := (.cs (.var (.cs (.ptr 1 0) (jC (jC (jC (jC (jC (jC .nl)))))))) (.cs (.var (.cs (.own 2) (jC (.cs (.own 3) (jC (.cs .bool (jC (.cs (.own 4) .nl)))))))) (.cs (.row 3 true) (.cs (.row 1 true) (.cs (.row 3 true) (.cs (.row 3 true) .nl))))))
def ou6 (l : T6) (y : (List Int)) : Ex × St U := (.exit 0, stOf 50 [(0, .ptr 0 0), (11, .own 5)] [.var [.ptr 1 0, jI l.2.1.2.1, jI l.2.1.2.2.1, jI l.2.1.2.2.2.1, jI (d4 l.2.1).1, jI (d4 l.2.1).2.1, jI (d4 l.2.1).2.2.1], .var [.own 2, jI l.2.2.1.2.1, .own 3, jI l.2.2.1.2.2.2.1, jB (d4 l.2.2.1).1, jI (d4 l.2.2.1).2.1, .own 4], .row 3 l.2.2.2.1 true, .row 1 (d4 l).1 true, .row 3 (d4 l).2.1 true, .row 3 y true] 5)
def Λ6 : LFun U := mkLp p6 q6 5 (X := (List Int)) (fun (l : T6) => L6 l.1.2.1 l.1.2.2.1 l.1.2.2.2.1 (d4 l.1).2.2.1 l.2.1.2.1 l.2.1.2.2.1 l.2.1.2.2.2.1 (d4 l.2.1).1 (d4 l.2.1).2.1 (d4 l.2.1).2.2.1 l.2.2.1.2.1 l.2.2.1.2.2.2.1 (d4 l.2.2.1).1 (d4 l.2.2.1).2.1 l.2.2.2.1 (d4 l).1 (d4 l).2.1 (d4 l).2.2.1) sp1 ou6
def hd6 (l : T6) (s : S6) : T6 := (((), (l.1.2.1, (l.1.2.2.1, (l.1.2.2.2.1, ((), ((), (s.1, ((), ())))))))), (((), (l.2.1.2.1, (l.2.1.2.2.1, (l.2.1.2.2.2.1, ((d4 l.2.1).1, ((d4 l.2.1).2.1, ((d4 l.2.1).2.2.1, ()))))))), (((), (l.2.2.1.2.1, ((), (l.2.2.1.2.2.2.1, ((d4 l.2.2.1).1, ((d4 l.2.2.1).2.1, ((), ()))))))), (l.2.2.2.1, ((d4 l).1, ((d4 l).2.1, (s.2, ())))))))
def fl6 (l : T6) (s : S6) : Tw (S6 ⊕ (List Int)) := l6 l.1.2.1 l.1.2.2.1 l.1.2.2.2.1 l.2.1.2.1 l.2.1.2.2.1 l.2.1.2.2.2.1 (d4 l.2.1).1 (d4 l.2.1).2.1 (d4 l.2.1).2.2.1 l.2.2.1.2.1 l.2.2.1.2.2.2.1 (d4 l.2.2.1).1 (d4 l.2.2.1).2.1 l.2.2.2.1 (d4 l).1 (d4 l).2.1 s.1 s.2
def t (s_ at_ n h0_1 h0_2 h0_3 h0_4 h0_5 h0_6 h1_1 h1_3 : Int) (h1_4 : Bool) (h1_5 : Int) (h2 : (List Int)) (h3 : (List Int)) (h4 : (List Int)) : Tw XA :=
 (.opt (ref09_Drive_bad.c s_ at_ n h0_1 h0_2 h0_3 h0_4 h0_5 h0_6 h1_1 h1_3 h1_4 h1_5 h2 h3 h4) fun z1 =>
 (.bb (z1 != (0 : Int))
 (.ret (z1, ([] : List (Int))))
 (.opt (L6 s_ at_ n (0 : Int) h0_1 h0_2 h0_3 h0_4 h0_5 h0_6 h1_1 h1_3 h1_4 h1_5 h2 h3 h4 ([] : List (Int))) fun z3 =>
 (.ret ((0 : Int), z3)))))
def c (s_ at_ n h0_1 h0_2 h0_3 h0_4 h0_5 h0_6 h1_1 h1_3 : Int) (h1_4 : Bool) (h1_5 : Int) (h2 : (List Int)) (h3 : (List Int)) (h4 : (List Int)) : Option XA := (t s_ at_ n h0_1 h0_2 h0_3 h0_4 h0_5 h0_6 h1_1 h1_3 h1_4 h1_5 h2 h3 h4).run
def tl (l : TA) : Tw XA := t l.1.2.1 l.1.2.2.1 l.1.2.2.2.1 l.2.1.2.1 l.2.1.2.2.1 l.2.1.2.2.2.1 (d4 l.2.1).1 (d4 l.2.1).2.1 (d4 l.2.1).2.2.1 l.2.2.1.2.1 l.2.2.1.2.2.2.1 (d4 l.2.2.1).1 (d4 l.2.2.1).2.1 l.2.2.2.1 (d4 l).1 (d4 l).2.1
def pA : Pt := (.cs (.ptr 0 0) (jC (jC (jC .nl))))
def pH : Pt := (.cs (.var (.cs (.ptr 1 0) (jC (jC (jC (jC (jC (jC .nl)))))))) (.cs (.var (.cs (.own 2) (jC (.cs (.own 3) (jC (.cs .bool (jC (.cs (.own 4) .nl)))))))) (.cs (.row 3 true) (.cs (.row 1 true) (.cs (.row 3 true) .nl)))))
def v (l : TA) (y : XA) : AV U := .tup [.own 5, jI y.1]
def hh (l : TA) (y : XA) : Hp U := [.var [.ptr 1 0, jI l.2.1.2.1, jI l.2.1.2.2.1, jI l.2.1.2.2.2.1, jI (d4 l.2.1).1, jI (d4 l.2.1).2.1, jI (d4 l.2.1).2.2.1], .var [.own 2, jI l.2.2.1.2.1, .own 3, jI l.2.2.1.2.2.2.1, jB (d4 l.2.2.1).1, jI (d4 l.2.2.1).2.1, .own 4], .row 3 l.2.2.2.1 true, .row 1 (d4 l).1 true, .row 3 (d4 l).2.1 true, .row 3 y.2 true]
def A : AFun U := mkA pA pH (X := XA) (fun l => (tl l).run) sp1 v hh
def body := bodyOf Try.f97
def E : Env U := E0.mk5 [(78, ref09_Drive_bad.A)] [(6, Λ6)] [] [(6, ⟨[12, 2, 0, 1, 11, 3], [(11, [], .own 3)]⟩, ⟨[8, 9, 0, 11], []⟩)] [78]
theorem hf6 : HF E (pick (loopsOf body) 6) p6 q6 5 fl6 hd6 sp1 ou6 := fun _ _ _ _ => by kernel_rfl
theorem lk6 : LK E (pick (loopsOf body) 6) Λ6 := fun R st K r h =>
  lp_ok (E := E) (b := pick (loopsOf body) 6) (m := 5) (sp := sp1) (p := p6) (q := q6) (X := (List Int)) (S := S6) (f := fl6) (hd := hd6) (s0 := fun (l : T6) => ((d4 l.1).2.2.1, (d4 l).2.2.1)) (ou := ou6)
    (fun l => rfl) (fun l x => by rfl) sp1_ok hf6 h
theorem hk : HK E Try.f97 [(0, [], .own 3)] pA pH tl v hh := fun _ _ _ => by kernel_rfl
theorem og : SoundF Try.prog cc 97 A ∧ FnOK Try.prog 97 :=
 og_of (E := E) P_mixed (E0_ok.mk5 _ _ _ _ _) (gam_of (all_cons ref09_Drive_bad.og all_nil) (all_cons (fun _ => ref09_Drive_bad.keep) all_nil)) Try.func97 (c := body) (by kernel_rfl)
    (just_by (by kernel_rfl) (by kernel_rfl) (all_cons lk6 all_nil) all_nil) [(0, [], .own 3)] sp1_ok hk (by kernel_rfl)
theorem keep : KeepA A := mkA_keep sp1_ok (fun (l : TA) y => ⟨(hh l y).drop 5, by kernel_rfl⟩)
end ref09_Drive_Read

/-! (*instar/instarref09.Drive).Blank -/
namespace ref09_Drive_Blank
abbrev TA : Type := ((Unit × (Int × (Int × Unit))) × ((Unit × (Int × (Int × (Int × (Int × (Int × (Int × Unit))))))) × ((Unit × (Int × (Unit × (Int × (Bool × (Int × (Unit × Unit))))))) × ((List Int) × ((List Int) × ((List Int) × Unit))))))
abbrev XA : Type := (Bool × Int)
abbrev T5 : Type := ((Unit × (Unit × (Unit × (Int × (Int × (Unit × Unit)))))) × ((Unit × (Int × (Int × (Int × (Int × (Int × (Int × Unit))))))) × ((Unit × (Int × (Unit × (Int × (Bool × (Int × (Unit × Unit))))))) × ((List Int) × ((List Int) × ((List Int) × ((List Int) × Unit)))))))
abbrev X5 : Type := (Unit ⊕ Bool)
def l5 (e h0_1 h0_2 h0_3 h0_4 h0_5 h0_6 h1_1 h1_3 : Int) (h1_4 : Bool) (h1_5 : Int) (h2 : (List Int)) (h3 : (List Int)) (h4 : (List Int)) (h5 : (List Int)) (i : Int) : Tw (Int ⊕ X5) :=
 (.bb (decide (i < (((List.length h5) : Nat) : Int)))
 (.dd ((((0 : Int) ≤ i) ∧ (i < (((List.length h5) : Nat) : Int)))) inferInstance
 (.opt (h5)[(Int.toNat i)]? fun z2 =>
 (.bb (z2 != (4294967295 : Int))
 (.ret (.inr (.inr false)))
 (.ret (.inl (w64 (i + (1 : Int)))))))
 .no)
 (.ret (.inr (.inl ()))))
def L5 (e i h0_1 h0_2 h0_3 h0_4 h0_5 h0_6 h1_1 h1_3 : Int) (h1_4 : Bool) (h1_5 : Int) (h2 : (List Int)) (h3 : (List Int)) (h4 : (List Int)) (h5 : (List Int)) : Option X5 := Lp (fun s => (l5 e h0_1 h0_2 h0_3 h0_4 h0_5 h0_6 h1_1 h1_3 h1_4 h1_5 h2 h3 h4 h5 s).run) i
def p5 : Pt := (.cs (.ptr 0 0) (.cs (.bots 7) (.cs (.own 5) (jC (jC (.cs (.bots 40) .nl))))))
def q5 : Pt := (.cs (.var (.cs (.ptr 1 0) (jC (jC (jC (jC (jC (jC .nl)))))))) (.cs (.var (.cs (.own 2) (jC (.cs (.own 3) (jC (.cs .bool (jC (.cs (.own 4) .nl)))))))) (.cs (.row 3 true) (.cs (.row 1 true) (.cs (.row 3 true) (.cs (.row 3 true) .nl))))))
def ou5 (l : T5) (y : X5) : Ex × St U := (Sum.elim (fun a0 => (.exit 0, stOf 51 [(0, .ptr 0 0), (9, jI l.1.2.2.2.1)] [.var [.ptr 1 0, jI l.2.1.2.1, jI l.2.1.2.2.1, jI l.2.1.2.2.2.1, jI (d4 l.2.1).1, jI (d4 l.2.1).2.1, jI (d4 l.2.1).2.2.1], .var [.own 2, jI l.2.2.1.2.1, .own 3, jI l.2.2.1.2.2.2.1, jB (d4 l.2.2.1).1, jI (d4 l.2.2.1).2.1, .own 4], .row 3 l.2.2.2.1 true, .row 1 (d4 l).1 true, .row 3 (d4 l).2.1 true] 5)) (fun b0 => (.ret, stOf 51 [(0, .ptr 0 0), (6, jB b0), (7, jI l.1.2.2.2.1), (9, jI l.1.2.2.2.1)] [.var [.ptr 1 0, jI l.2.1.2.1, jI l.2.1.2.2.1, jI l.2.1.2.2.2.1, jI (d4 l.2.1).1, jI (d4 l.2.1).2.1, jI (d4 l.2.1).2.2.1], .var [.own 2, jI l.2.2.1.2.1, .own 3, jI l.2.2.1.2.2.2.1, jB (d4 l.2.2.1).1, jI (d4 l.2.2.1).2.1, .own 4], .row 3 l.2.2.2.1 true, .row 1 (d4 l).1 true, .row 3 (d4 l).2.1 true] 5)) y)
def Λ5 : LFun U := mkLp p5 q5 5 (X := X5) (fun (l : T5) => L5 l.1.2.2.2.1 (d4 l.1).1 l.2.1.2.1 l.2.1.2.2.1 l.2.1.2.2.2.1 (d4 l.2.1).1 (d4 l.2.1).2.1 (d4 l.2.1).2.2.1 l.2.2.1.2.1 l.2.2.1.2.2.2.1 (d4 l.2.2.1).1 (d4 l.2.2.1).2.1 l.2.2.2.1 (d4 l).1 (d4 l).2.1 (d4 l).2.2.1) (spS sp1) ou5
def hd5 (l : T5) (s : Int) : T5 := (((), ((), ((), (l.1.2.2.2.1, (s, ((), ())))))), (((), (l.2.1.2.1, (l.2.1.2.2.1, (l.2.1.2.2.2.1, ((d4 l.2.1).1, ((d4 l.2.1).2.1, ((d4 l.2.1).2.2.1, ()))))))), (((), (l.2.2.1.2.1, ((), (l.2.2.1.2.2.2.1, ((d4 l.2.2.1).1, ((d4 l.2.2.1).2.1, ((), ()))))))), (l.2.2.2.1, ((d4 l).1, ((d4 l).2.1, ((d4 l).2.2.1, ())))))))
def fl5 (l : T5) (s : Int) : Tw (Int ⊕ X5) := l5 l.1.2.2.2.1 l.2.1.2.1 l.2.1.2.2.1 l.2.1.2.2.2.1 (d4 l.2.1).1 (d4 l.2.1).2.1 (d4 l.2.1).2.2.1 l.2.2.1.2.1 l.2.2.1.2.2.2.1 (d4 l.2.2.1).1 (d4 l.2.2.1).2.1 l.2.2.2.1 (d4 l).1 (d4 l).2.1 (d4 l).2.2.1 s
def t (s_ at_ h0_1 h0_2 h0_3 h0_4 h0_5 h0_6 h1_1 h1_3 : Int) (h1_4 : Bool) (h1_5 : Int) (h2 : (List Int)) (h3 : (List Int)) (h4 : (List Int)) : Tw XA :=
 (.bb (decide (at_ < (0 : Int)))
 (.ret (false, (3 : Int)))
 (.bb (decide (at_ > h0_1))
 (.ret (false, (3 : Int)))
 (.opt (ref09_Drive_Read.c s_ at_ (w64 (h0_1 - at_)) h0_1 h0_2 h0_3 h0_4 h0_5 h0_6 h1_1 h1_3 h1_4 h1_5 h2 h3 h4) fun z1 =>
 (.opt (L5 z1.1 (0 : Int) h0_1 h0_2 h0_3 h0_4 h0_5 h0_6 h1_1 h1_3 h1_4 h1_5 h2 h3 h4 z1.2) fun z3 =>
 (.sm z3
 (fun z4 => (.ret ((z1.1 == (0 : Int)), z1.1)))
 (fun z5 => (.ret (z5, z1.1))))))))
def c (s_ at_ h0_1 h0_2 h0_3 h0_4 h0_5 h0_6 h1_1 h1_3 : Int) (h1_4 : Bool) (h1_5 : Int) (h2 : (List Int)) (h3 : (List Int)) (h4 : (List Int)) : Option XA := (t s_ at_ h0_1 h0_2 h0_3 h0_4 h0_5 h0_6 h1_1 h1_3 h1_4 h1_5 h2 h3 h4).run
def tl (l : TA) : Tw XA := t l.1.2.1 l.1.2.2.1 l.2.1.2.1 l.2.1.2.2.1 l.2.1.2.2.2.1 (d4 l.2.1).1 (d4 l.2.1).2.1 (d4 l.2.1).2.2.1 l.2.2.1.2.1 l.2.2.1.2.2.2.1 (d4 l.2.2.1).1 (d4 l.2.2.1).2.1 l.2.2.2.1 (d4 l).1 (d4 l).2.1
def pA : Pt := (.cs (.ptr 0 0) (jC (jC .nl)))
def pH : Pt := (.cs (.var (.cs (.ptr 1 0) (jC (jC (jC (jC (jC (jC .nl)))))))) (.cs (.var (.cs (.own 2) (jC (.cs (.own 3) (jC (.cs .bool (jC (.cs (.own 4) .nl)))))))) (.cs (.row 3 true) (.cs (.row 1 true) (.cs (.row 3 true) .nl)))))
def v (l : TA) (y : XA) : AV U := .tup [jB y.1, jI y.2]
def hh (l : TA) (y : XA) : Hp U := [.var [.ptr 1 0, jI l.2.1.2.1, jI l.2.1.2.2.1, jI l.2.1.2.2.2.1, jI (d4 l.2.1).1, jI (d4 l.2.1).2.1, jI (d4 l.2.1).2.2.1], .var [.own 2, jI l.2.2.1.2.1, .own 3, jI l.2.2.1.2.2.2.1, jB (d4 l.2.2.1).1, jI (d4 l.2.2.1).2.1, .own 4], .row 3 l.2.2.2.1 true, .row 1 (d4 l).1 true, .row 3 (d4 l).2.1 true]
def A : AFun U := mkA pA pH (X := XA) (fun l => (tl l).run) sp1 v hh
def body := bodyOf Try.f73
def E : Env U := E0.mk5 [(97, ref09_Drive_Read.A)] [(5, Λ5)] [] [(5, ⟨[0, 9, 10, 8], []⟩, ⟨[6, 7, 0, 9], []⟩)] [97]
theorem hf5 : HF E (pick (loopsOf body) 5) p5 q5 5 fl5 hd5 (spS sp1) ou5 := fun _ _ _ _ => by kernel_rfl
theorem lk5 : LK E (pick (loopsOf body) 5) Λ5 := fun R st K r h =>
  lp_ok (E := E) (b := pick (loopsOf body) 5) (m := 5) (sp := (spS sp1)) (p := p5) (q := q5) (X := X5) (S := Int) (f := fl5) (hd := hd5) (s0 := fun (l : T5) => (d4 l.1).1) (ou := ou5)
    (fun l => rfl) (fun l x => by repeat' (first | rfl | (cases x with | inl => rfl | inr x => ?_))) (spS_ok sp1_ok) hf5 h
theorem hk : HK E Try.f73 [] pA pH tl v hh := fun _ _ _ => by kernel_rfl
theorem og : SoundF Try.prog cc 73 A ∧ FnOK Try.prog 73 :=
 og_of (E := E) P_mixed (E0_ok.mk5 _ _ _ _ _) (gam_of (all_cons ref09_Drive_Read.og all_nil) (all_cons (fun _ => ref09_Drive_Read.keep) all_nil)) Try.func73 (c := body) (by kernel_rfl)
    (just_by (by kernel_rfl) (by kernel_rfl) (all_cons lk5 all_nil) all_nil) [] sp1_ok hk (by kernel_rfl)
theorem keep : KeepA A := mkA_keep sp1_ok (fun (l : TA) y => ⟨(hh l y).drop 5, by kernel_rfl⟩)
end ref09_Drive_Blank

/-! (*instar/instarref09.Drive).Clean -/
namespace ref09_Drive_Clean
abbrev TA : Type := ((Unit × (Int × Unit)) × ((Unit × (Int × (Int × (Int × (Int × (Int × (Int × Unit))))))) × ((Unit × (Int × (Unit × (Int × (Bool × (Int × (Unit × Unit))))))) × ((List Int) × ((List Int) × ((List Int) × Unit))))))
abbrev XA : Type := (Int × (Int × (Bool × (Int × ((List Int) × (List Int))))))
def t (s_ h0_1 h0_2 h0_3 h0_4 h0_5 h0_6 h1_1 h1_3 : Int) (h1_4 : Bool) (h1_5 : Int) (h2 : (List Int)) (h3 : (List Int)) (h4 : (List Int)) : Tw XA :=
 (.opt (ref09_Drive_Blank.c s_ (0 : Int) h0_1 h0_2 h0_3 h0_4 h0_5 h0_6 h1_1 h1_3 h1_4 h1_5 h2 h3 h4) fun z1 =>
 (.bb (z1.2 != (0 : Int))
 (.ret (z1.2, (h1_3, (h1_4, (h1_5, (h2, h3))))))
 (.bb z1.1
 (.ret (z1.2, (h1_3, (h1_4, (h1_5, (h2, h3))))))
 (.opt (ref07_Flash_Erase.c s_ h1_1 h1_3 h1_4 h1_5 h2 h3 h4) fun z2 =>
 (.ret (z2.1, (z2.2.1, (z2.2.2.1, (z2.2.2.2.1, ((d4 z2).1, (d4 z2).2))))))))))
def c (s_ h0_1 h0_2 h0_3 h0_4 h0_5 h0_6 h1_1 h1_3 : Int) (h1_4 : Bool) (h1_5 : Int) (h2 : (List Int)) (h3 : (List Int)) (h4 : (List Int)) : Option XA := (t s_ h0_1 h0_2 h0_3 h0_4 h0_5 h0_6 h1_1 h1_3 h1_4 h1_5 h2 h3 h4).run
def tl (l : TA) : Tw XA := t l.1.2.1 l.2.1.2.1 l.2.1.2.2.1 l.2.1.2.2.2.1 (d4 l.2.1).1 (d4 l.2.1).2.1 (d4 l.2.1).2.2.1 l.2.2.1.2.1 l.2.2.1.2.2.2.1 (d4 l.2.2.1).1 (d4 l.2.2.1).2.1 l.2.2.2.1 (d4 l).1 (d4 l).2.1
def pA : Pt := (.cs (.ptr 0 0) (jC .nl))
def pH : Pt := (.cs (.var (.cs (.ptr 1 0) (jC (jC (jC (jC (jC (jC .nl)))))))) (.cs (.var (.cs (.own 2) (jC (.cs (.own 3) (jC (.cs .bool (jC (.cs (.own 4) .nl)))))))) (.cs (.row 3 true) (.cs (.row 1 true) (.cs (.row 3 true) .nl)))))
def v (l : TA) (y : XA) : AV U := jI y.1
def hh (l : TA) (y : XA) : Hp U := [.var [.ptr 1 0, jI l.2.1.2.1, jI l.2.1.2.2.1, jI l.2.1.2.2.2.1, jI (d4 l.2.1).1, jI (d4 l.2.1).2.1, jI (d4 l.2.1).2.2.1], .var [.own 2, jI l.2.2.1.2.1, .own 3, jI y.2.1, jB y.2.2.1, jI y.2.2.2.1, .own 4], .row 3 (d4 y).1 true, .row 1 (d4 y).2 true, .row 3 (d4 l).2.1 true]
def A : AFun U := mkA pA pH (X := XA) (fun l => (tl l).run) sp1 v hh
def body := bodyOf Try.f48
def E : Env U := E0.mk5 [(73, ref09_Drive_Blank.A), (74, ref07_Flash_Erase.A)] [] [] [] [73]
theorem hk : HK E Try.f48 [] pA pH tl v hh := fun _ _ _ => by kernel_rfl
theorem og : SoundF Try.prog cc 48 A ∧ FnOK Try.prog 48 :=
 og_of (E := E) P_mixed (E0_ok.mk5 _ _ _ _ _) (gam_of (all_cons ref09_Drive_Blank.og (all_cons ref07_Flash_Erase.og all_nil)) (all_cons (fun _ => ref09_Drive_Blank.keep) (all_cons (no_keep (by kernel_rfl)) all_nil))) Try.func48 (c := body) (by kernel_rfl)
    (just_by (by kernel_rfl) (by kernel_rfl) all_nil all_nil) [] sp1_ok hk (by kernel_rfl)
end ref09_Drive_Clean

/-! (*instar/instarref09.Drive).Write -/
namespace ref09_Drive_Write
abbrev TA : Type := ((Unit × (Int × (Int × ((List Int) × Unit)))) × ((Unit × (Int × (Int × (Int × (Int × (Int × (Int × Unit))))))) × ((Unit × (Int × (Unit × (Int × (Bool × (Int × (Unit × Unit))))))) × ((List Int) × ((List Int) × ((List Int) × Unit))))))
abbrev XA : Type := (Int × (Int × (Bool × (Int × (List Int)))))
abbrev T6 : Type := ((Unit × (Unit × ((List Int) × (Unit × (Int × (Int × (Unit × Unit))))))) × ((Unit × (Int × (Int × (Int × (Int × (Int × (Int × Unit))))))) × ((Unit × (Int × (Unit × (Int × (Bool × (Int × (Unit × Unit))))))) × ((List Int) × ((List Int) × ((List Int) × Unit))))))
abbrev X6 : Type := (Unit ⊕ Int)
def l6 (w : (List Int)) (a h0_1 h0_2 h0_3 h0_4 h0_5 h0_6 h1_1 h1_3 : Int) (h1_4 : Bool) (h1_5 : Int) (h2 : (List Int)) (h3 : (List Int)) (h4 : (List Int)) (i : Int) : Tw (Int ⊕ X6) :=
 (.bb (decide (i < (((List.length w) : Nat) : Int)))
 (.dd (((0 : Int) ≤ i)) inferInstance
 (.opt (w)[(Int.toNat i)]? fun z2 =>
 (.dd ((((0 : Int) ≤ (w64 (a + i))) ∧ ((w64 (a + i)) < (((List.length h2) : Nat) : Int)))) inferInstance
 (.opt (h2)[(Int.toNat (w64 (a + i)))]? fun z3 =>
 (.opt (ref01_Bits.c z2 z3 (0 : Int) (0 : Int)) fun z4 =>
 (.bb (z4 != (0 : Int))
 (.ret (.inr (.inr (11 : Int))))
 (.ret (.inl (w64 (i + (1 : Int))))))))
 .no))
 .no)
 (.ret (.inr (.inl ()))))
def L6 (w : (List Int)) (a i h0_1 h0_2 h0_3 h0_4 h0_5 h0_6 h1_1 h1_3 : Int) (h1_4 : Bool) (h1_5 : Int) (h2 : (List Int)) (h3 : (List Int)) (h4 : (List Int)) : Option X6 := Lp (fun s => (l6 w a h0_1 h0_2 h0_3 h0_4 h0_5 h0_6 h1_1 h1_3 h1_4 h1_5 h2 h3 h4 s).run) i
def p6 : Pt := (.cs (.ptr 0 0) (.cs (.bots 2) (.cs (.sl 3) (.cs (.bots 6) (jC (jC (.cs (.bots 82) .nl)))))))
def q6 : Pt := (.cs (.var (.cs (.ptr 1 0) (jC (jC (jC (jC (jC (jC .nl)))))))) (.cs (.var (.cs (.own 2) (jC (.cs (.own 3) (jC (.cs .bool (jC (.cs (.own 4) .nl)))))))) (.cs (.row 3 true) (.cs (.row 1 true) (.cs (.row 3 true) .nl)))))
def ou6 (l : T6) (y : X6) : Ex × St U := (Sum.elim (fun a0 => (.exit 0, stOf 94 [(0, .ptr 0 0), (3, .im (.slice 3 l.1.2.2.1)), (10, jI (d4 l.1).1)] [.var [.ptr 1 0, jI l.2.1.2.1, jI l.2.1.2.2.1, jI l.2.1.2.2.2.1, jI (d4 l.2.1).1, jI (d4 l.2.1).2.1, jI (d4 l.2.1).2.2.1], .var [.own 2, jI l.2.2.1.2.1, .own 3, jI l.2.2.1.2.2.2.1, jB (d4 l.2.2.1).1, jI (d4 l.2.2.1).2.1, .own 4], .row 3 l.2.2.2.1 true, .row 1 (d4 l).1 true, .row 3 (d4 l).2.1 true] 5)) (fun b0 => (.ret, stOf 94 [(0, .ptr 0 0), (3, .im (.slice 3 l.1.2.2.1)), (8, jI b0), (10, jI (d4 l.1).1)] [.var [.ptr 1 0, jI l.2.1.2.1, jI l.2.1.2.2.1, jI l.2.1.2.2.2.1, jI (d4 l.2.1).1, jI (d4 l.2.1).2.1, jI (d4 l.2.1).2.2.1], .var [.own 2, jI l.2.2.1.2.1, .own 3, jI l.2.2.1.2.2.2.1, jB (d4 l.2.2.1).1, jI (d4 l.2.2.1).2.1, .own 4], .row 3 l.2.2.2.1 true, .row 1 (d4 l).1 true, .row 3 (d4 l).2.1 true] 5)) y)
def Λ6 : LFun U := mkLp p6 q6 5 (X := X6) (fun (l : T6) => L6 l.1.2.2.1 (d4 l.1).1 (d4 l.1).2.1 l.2.1.2.1 l.2.1.2.2.1 l.2.1.2.2.2.1 (d4 l.2.1).1 (d4 l.2.1).2.1 (d4 l.2.1).2.2.1 l.2.2.1.2.1 l.2.2.1.2.2.2.1 (d4 l.2.2.1).1 (d4 l.2.2.1).2.1 l.2.2.2.1 (d4 l).1 (d4 l).2.1) (spS sp1) ou6
def hd6 (l : T6) (s : Int) : T6 := (((), ((), (l.1.2.2.1, ((), ((d4 l.1).1, (s, ((), ()))))))), (((), (l.2.1.2.1, (l.2.1.2.2.1, (l.2.1.2.2.2.1, ((d4 l.2.1).1, ((d4 l.2.1).2.1, ((d4 l.2.1).2.2.1, ()))))))), (((), (l.2.2.1.2.1, ((), (l.2.2.1.2.2.2.1, ((d4 l.2.2.1).1, ((d4 l.2.2.1).2.1, ((), ()))))))), (l.2.2.2.1, ((d4 l).1, ((d4 l).2.1, ()))))))
def fl6 (l : T6) (s : Int) : Tw (Int ⊕ X6) := l6 l.1.2.2.1 (d4 l.1).1 l.2.1.2.1 l.2.1.2.2.1 l.2.1.2.2.2.1 (d4 l.2.1).1 (d4 l.2.1).2.1 (d4 l.2.1).2.2.1 l.2.2.1.2.1 l.2.2.1.2.2.2.1 (d4 l.2.2.1).1 (d4 l.2.2.1).2.1 l.2.2.2.1 (d4 l).1 (d4 l).2.1 s
abbrev T11 : Type := ((Unit × (Unit × ((List Int) × (Unit × (Int × (Unit × (Int × (Unit × Unit)))))))) × ((Unit × (Int × (Int × (Int × (Int × (Int × (Int × Unit))))))) × ((Unit × (Int × (Unit × (Int × (Bool × (Int × (Unit × Unit))))))) × ((List Int) × ((List Int) × ((List Int) × Unit))))))
abbrev S11 : Type := (Int × (Int × (Bool × (Int × (List Int)))))
abbrev X11 : Type := ((Int × (Bool × (Int × (List Int)))) ⊕ (Int × (Int × (Bool × (Int × (List Int))))))
def l11 (w : (List Int)) (a h0_1 h0_2 h0_3 h0_4 h0_5 h0_6 h1_1 : Int) (h3 : (List Int)) (h4 : (List Int)) (i h1_3 : Int) (h1_4 : Bool) (h1_5 : Int) (h2 : (List Int)) : Tw (S11 ⊕ X11) :=
 (.bb (decide (i < (((List.length w) : Nat) : Int)))
 (.dd ((((0 : Int) ≤ (w64 (a + i))) ∧ ((w64 (a + i)) < (((List.length h2) : Nat) : Int)))) inferInstance
 (.opt (h2)[(Int.toNat (w64 (a + i)))]? fun z8 =>
 (.dd (((0 : Int) ≤ i)) inferInstance
 (.opt (w)[(Int.toNat i)]? fun z9 =>
 (.bb (z8 != z9)
 (.dd (((0 : Int) ≤ i)) inferInstance
 (.opt (w)[(Int.toNat i)]? fun z10 =>
 (.opt (ref07_Flash_Program.c (w64 (a + i)) z10 h1_1 h1_3 h1_4 h1_5 h2 h3 h4) fun z11 =>
 (.bb (z11.1 != (0 : Int))
 (.ret (.inr (.inr (z11.1, (z11.2.1, (z11.2.2.1, (z11.2.2.2.1, (d4 z11))))))))
 (.ret (.inl ((w64 (i + (1 : Int))), (z11.2.1, (z11.2.2.1, (z11.2.2.2.1, (d4 z11))))))))))
 .no)
 (.ret (.inl ((w64 (i + (1 : Int))), (h1_3, (h1_4, (h1_5, h2))))))))
 .no))
 .no)
 (.ret (.inr (.inl (h1_3, (h1_4, (h1_5, h2)))))))
def L11 (w : (List Int)) (a i h0_1 h0_2 h0_3 h0_4 h0_5 h0_6 h1_1 h1_3 : Int) (h1_4 : Bool) (h1_5 : Int) (h2 : (List Int)) (h3 : (List Int)) (h4 : (List Int)) : Option X11 := Lp (fun s => (l11 w a h0_1 h0_2 h0_3 h0_4 h0_5 h0_6 h1_1 h3 h4 s.1 s.2.1 s.2.2.1 s.2.2.2.1 (d4 s)).run) (i, (h1_3, (h1_4, (h1_5, h2))))
def p11 : Pt := (.cs (.ptr 0 0) (.cs (.bots 2) (.cs (.sl 3) (.cs (.bots 6) (jC (.cs (.bots 1) (jC (.cs (.bots 81) .nl))))))))
def q11 : Pt := (.cs (.var (.cs (.ptr 1 0) (jC (jC (jC (jC (jC (jC .nl)))))))) (.cs (.var (.cs (.own 2) (jC (.cs (.own 3) (jC (.cs .bool (jC (.cs (.own 4) .nl)))))))) (.cs (.row 3 true) (.cs (.row 1 true) (.cs (.row 3 true) .nl)))))
def ou11 (l : T11) (y : X11) : Ex × St U := (Sum.elim (fun a0 => (.exit 2, stOf 94 [(0, .ptr 0 0)] [.var [.ptr 1 0, jI l.2.1.2.1, jI l.2.1.2.2.1, jI l.2.1.2.2.2.1, jI (d4 l.2.1).1, jI (d4 l.2.1).2.1, jI (d4 l.2.1).2.2.1], .var [.own 2, jI l.2.2.1.2.1, .own 3, jI a0.1, jB a0.2.1, jI a0.2.2.1, .own 4], .row 3 a0.2.2.2 true, .row 1 (d4 l).1 true, .row 3 (d4 l).2.1 true] 5)) (fun b0 => (.ret, stOf 94 [(0, .ptr 0 0), (8, jI b0.1)] [.var [.ptr 1 0, jI l.2.1.2.1, jI l.2.1.2.2.1, jI l.2.1.2.2.2.1, jI (d4 l.2.1).1, jI (d4 l.2.1).2.1, jI (d4 l.2.1).2.2.1], .var [.own 2, jI l.2.2.1.2.1, .own 3, jI b0.2.1, jB b0.2.2.1, jI b0.2.2.2.1, .own 4], .row 3 (d4 b0) true, .row 1 (d4 l).1 true, .row 3 (d4 l).2.1 true] 5)) y)
def Λ11 : LFun U := mkLp p11 q11 5 (X := X11) (fun (l : T11) => L11 l.1.2.2.1 (d4 l.1).1 (d4 l.1).2.2.1 l.2.1.2.1 l.2.1.2.2.1 l.2.1.2.2.2.1 (d4 l.2.1).1 (d4 l.2.1).2.1 (d4 l.2.1).2.2.1 l.2.2.1.2.1 l.2.2.1.2.2.2.1 (d4 l.2.2.1).1 (d4 l.2.2.1).2.1 l.2.2.2.1 (d4 l).1 (d4 l).2.1) (spS sp1) ou11
def hd11 (l : T11) (s : S11) : T11 := (((), ((), (l.1.2.2.1, ((), ((d4 l.1).1, ((), (s.1, ((), ())))))))), (((), (l.2.1.2.1, (l.2.1.2.2.1, (l.2.1.2.2.2.1, ((d4 l.2.1).1, ((d4 l.2.1).2.1, ((d4 l.2.1).2.2.1, ()))))))), (((), (l.2.2.1.2.1, ((), (s.2.1, (s.2.2.1, (s.2.2.2.1, ((), ()))))))), ((d4 s), ((d4 l).1, ((d4 l).2.1, ()))))))
def fl11 (l : T11) (s : S11) : Tw (S11 ⊕ X11) := l11 l.1.2.2.1 (d4 l.1).1 l.2.1.2.1 l.2.1.2.2.1 l.2.1.2.2.2.1 (d4 l.2.1).1 (d4 l.2.1).2.1 (d4 l.2.1).2.2.1 l.2.2.1.2.1 (d4 l).1 (d4 l).2.1 s.1 s.2.1 s.2.2.1 s.2.2.2.1 (d4 s)
def t (s_ at_ : Int) (w : (List Int)) (h0_1 h0_2 h0_3 h0_4 h0_5 h0_6 h1_1 h1_3 : Int) (h1_4 : Bool) (h1_5 : Int) (h2 : (List Int)) (h3 : (List Int)) (h4 : (List Int)) : Tw XA :=
 (.opt (ref09_Drive_bad.c s_ at_ (((List.length w) : Nat) : Int) h0_1 h0_2 h0_3 h0_4 h0_5 h0_6 h1_1 h1_3 h1_4 h1_5 h2 h3 h4) fun z1 =>
 (.bb (z1 != (0 : Int))
 (.ret (z1, (h1_3, (h1_4, (h1_5, h2)))))
 (.opt (L6 w (w64 ((w64 (s_ * h0_1)) + at_)) (0 : Int) h0_1 h0_2 h0_3 h0_4 h0_5 h0_6 h1_1 h1_3 h1_4 h1_5 h2 h3 h4) fun z5 =>
 (.sm z5
 (fun z6 => (.opt (L11 w (w64 ((w64 (s_ * h0_1)) + at_)) (0 : Int) h0_1 h0_2 h0_3 h0_4 h0_5 h0_6 h1_1 h1_3 h1_4 h1_5 h2 h3 h4) fun z12 =>
 (.sm z12
 (fun z13 => (.ret ((0 : Int), (z13.1, (z13.2.1, (z13.2.2.1, z13.2.2.2))))))
 (fun z14 => (.ret (z14.1, (z14.2.1, (z14.2.2.1, (z14.2.2.2.1, (d4 z14))))))))))
 (fun z7 => (.ret (z7, (h1_3, (h1_4, (h1_5, h2))))))))))
def c (s_ at_ : Int) (w : (List Int)) (h0_1 h0_2 h0_3 h0_4 h0_5 h0_6 h1_1 h1_3 : Int) (h1_4 : Bool) (h1_5 : Int) (h2 : (List Int)) (h3 : (List Int)) (h4 : (List Int)) : Option XA := (t s_ at_ w h0_1 h0_2 h0_3 h0_4 h0_5 h0_6 h1_1 h1_3 h1_4 h1_5 h2 h3 h4).run
def tl (l : TA) : Tw XA := t l.1.2.1 l.1.2.2.1 l.1.2.2.2.1 l.2.1.2.1 l.2.1.2.2.1 l.2.1.2.2.2.1 (d4 l.2.1).1 (d4 l.2.1).2.1 (d4 l.2.1).2.2.1 l.2.2.1.2.1 l.2.2.1.2.2.2.1 (d4 l.2.2.1).1 (d4 l.2.2.1).2.1 l.2.2.2.1 (d4 l).1 (d4 l).2.1
def pA : Pt := (.cs (.ptr 0 0) (jC (jC (.cs (.sl 3) .nl))))
def pH : Pt := (.cs (.var (.cs (.ptr 1 0) (jC (jC (jC (jC (jC (jC .nl)))))))) (.cs (.var (.cs (.own 2) (jC (.cs (.own 3) (jC (.cs .bool (jC (.cs (.own 4) .nl)))))))) (.cs (.row 3 true) (.cs (.row 1 true) (.cs (.row 3 true) .nl)))))
def v (l : TA) (y : XA) : AV U := jI y.1
def hh (l : TA) (y : XA) : Hp U := [.var [.ptr 1 0, jI l.2.1.2.1, jI l.2.1.2.2.1, jI l.2.1.2.2.2.1, jI (d4 l.2.1).1, jI (d4 l.2.1).2.1, jI (d4 l.2.1).2.2.1], .var [.own 2, jI l.2.2.1.2.1, .own 3, jI y.2.1, jB y.2.2.1, jI y.2.2.2.1, .own 4], .row 3 (d4 y) true, .row 1 (d4 l).1 true, .row 3 (d4 l).2.1 true]
def A : AFun U := mkA pA pH (X := XA) (fun l => (tl l).run) sp1 v hh
def body := bodyOf Try.f51
def E : Env U := E0.mk5 [(78, ref09_Drive_bad.A), (79, ref01_Bits.A), (80, ref07_Flash_Program.A)] [(6, Λ6), (11, Λ11)] [] [(6, ⟨[0, 11, 10, 3], []⟩, ⟨[8, 0, 3, 10], []⟩), (11, ⟨[0, 12, 3, 10], []⟩, ⟨[8, 0], []⟩)] [78]
theorem hf6 : HF E (pick (loopsOf body) 6) p6 q6 5 fl6 hd6 (spS sp1) ou6 := fun _ _ _ _ => by kernel_rfl
theorem lk6 : LK E (pick (loopsOf body) 6) Λ6 := fun R st K r h =>
  lp_ok (E := E) (b := pick (loopsOf body) 6) (m := 5) (sp := (spS sp1)) (p := p6) (q := q6) (X := X6) (S := Int) (f := fl6) (hd := hd6) (s0 := fun (l : T6) => (d4 l.1).2.1) (ou := ou6)
    (fun l => rfl) (fun l x => by repeat' (first | rfl | (cases x with | inl => rfl | inr x => ?_))) (spS_ok sp1_ok) hf6 h
theorem hf11 : HF E (pick (loopsOf body) 11) p11 q11 5 fl11 hd11 (spS sp1) ou11 := fun _ _ _ _ => by kernel_rfl
theorem lk11 : LK E (pick (loopsOf body) 11) Λ11 := fun R st K r h =>
  lp_ok (E := E) (b := pick (loopsOf body) 11) (m := 5) (sp := (spS sp1)) (p := p11) (q := q11) (X := X11) (S := S11) (f := fl11) (hd := hd11) (s0 := fun (l : T11) => ((d4 l.1).2.2.1, (l.2.2.1.2.2.2.1, ((d4 l.2.2.1).1, ((d4 l.2.2.1).2.1, l.2.2.2.1))))) (ou := ou11)
    (fun l => rfl) (fun l x => by repeat' (first | rfl | (cases x with | inl => rfl | inr x => ?_))) (spS_ok sp1_ok) hf11 h
theorem hk : HK E Try.f51 [] pA pH tl v hh := fun _ _ _ => by kernel_rfl
theorem og : SoundF Try.prog cc 51 A ∧ FnOK Try.prog 51 :=
 og_of (E := E) P_mixed (E0_ok.mk5 _ _ _ _ _) (gam_of (all_cons ref09_Drive_bad.og (all_cons ref01_Bits.og (all_cons ref07_Flash_Program.og all_nil))) (all_cons (fun _ => ref09_Drive_bad.keep) (all_cons (no_keep (by kernel_rfl)) (all_cons (no_keep (by kernel_rfl)) all_nil)))) Try.func51 (c := body) (by kernel_rfl)
    (just_by (by kernel_rfl) (by kernel_rfl) (all_cons lk6 (all_cons lk11 all_nil)) all_nil) [] sp1_ok hk (by kernel_rfl)
end ref09_Drive_Write

/-! (*instar/instarref09.Drive).Fresh -/
namespace ref09_Drive_Fresh
abbrev TA : Type := ((Unit × (Int × ((List Int) × Unit))) × ((Unit × (Int × (Int × (Int × (Int × (Int × (Int × Unit))))))) × ((Unit × (Int × (Unit × (Int × (Bool × (Int × (Unit × Unit))))))) × ((List Int) × ((List Int) × ((List Int) × Unit))))))
abbrev XA : Type := (Int × (Int × (Bool × (Int × ((List Int) × (List Int))))))
def t (s_ : Int) (w : (List Int)) (h0_1 h0_2 h0_3 h0_4 h0_5 h0_6 h1_1 h1_3 : Int) (h1_4 : Bool) (h1_5 : Int) (h2 : (List Int)) (h3 : (List Int)) (h4 : (List Int)) : Tw XA :=
 (.opt (ref09_Drive_bad.c s_ (0 : Int) (((List.length w) : Nat) : Int) h0_1 h0_2 h0_3 h0_4 h0_5 h0_6 h1_1 h1_3 h1_4 h1_5 h2 h3 h4) fun z1 =>
 (.bb (z1 != (0 : Int))
 (.ret (z1, (h1_3, (h1_4, (h1_5, (h2, h3))))))
 (.opt (ref09_Drive_Clean.c s_ h0_1 h0_2 h0_3 h0_4 h0_5 h0_6 h1_1 h1_3 h1_4 h1_5 h2 h3 h4) fun z2 =>
 (.bb (z2.1 != (0 : Int))
 (.ret (z2.1, (z2.2.1, (z2.2.2.1, (z2.2.2.2.1, ((d4 z2).1, (d4 z2).2))))))
 (.opt (ref09_Drive_Write.c s_ (0 : Int) w h0_1 h0_2 h0_3 h0_4 h0_5 h0_6 h1_1 z2.2.1 z2.2.2.1 z2.2.2.2.1 (d4 z2).1 (d4 z2).2 h4) fun z3 =>
 (.ret (z3.1, (z3.2.1, (z3.2.2.1, (z3.2.2.2.1, ((d4 z3), (d4 z2).2)))))))))))
def c (s_ : Int) (w : (List Int)) (h0_1 h0_2 h0_3 h0_4 h0_5 h0_6 h1_1 h1_3 : Int) (h1_4 : Bool) (h1_5 : Int) (h2 : (List Int)) (h3 : (List Int)) (h4 : (List Int)) : Option XA := (t s_ w h0_1 h0_2 h0_3 h0_4 h0_5 h0_6 h1_1 h1_3 h1_4 h1_5 h2 h3 h4).run
def tl (l : TA) : Tw XA := t l.1.2.1 l.1.2.2.1 l.2.1.2.1 l.2.1.2.2.1 l.2.1.2.2.2.1 (d4 l.2.1).1 (d4 l.2.1).2.1 (d4 l.2.1).2.2.1 l.2.2.1.2.1 l.2.2.1.2.2.2.1 (d4 l.2.2.1).1 (d4 l.2.2.1).2.1 l.2.2.2.1 (d4 l).1 (d4 l).2.1
def pA : Pt := (.cs (.ptr 0 0) (jC (.cs (.sl 3) .nl)))
def pH : Pt := (.cs (.var (.cs (.ptr 1 0) (jC (jC (jC (jC (jC (jC .nl)))))))) (.cs (.var (.cs (.own 2) (jC (.cs (.own 3) (jC (.cs .bool (jC (.cs (.own 4) .nl)))))))) (.cs (.row 3 true) (.cs (.row 1 true) (.cs (.row 3 true) .nl)))))
def v (l : TA) (y : XA) : AV U := jI y.1
def hh (l : TA) (y : XA) : Hp U := [.var [.ptr 1 0, jI l.2.1.2.1, jI l.2.1.2.2.1, jI l.2.1.2.2.2.1, jI (d4 l.2.1).1, jI (d4 l.2.1).2.1, jI (d4 l.2.1).2.2.1], .var [.own 2, jI l.2.2.1.2.1, .own 3, jI y.2.1, jB y.2.2.1, jI y.2.2.2.1, .own 4], .row 3 (d4 y).1 true, .row 1 (d4 y).2 true, .row 3 (d4 l).2.1 true]
def A : AFun U := mkA pA pH (X := XA) (fun l => (tl l).run) sp1 v hh
def body := bodyOf Try.f75
def E : Env U := E0.mk5 [(78, ref09_Drive_bad.A), (48, ref09_Drive_Clean.A), (51, ref09_Drive_Write.A)] [] [] [] [78]
theorem hk : HK E Try.f75 [] pA pH tl v hh := fun _ _ _ => by kernel_rfl
theorem og : SoundF Try.prog cc 75 A ∧ FnOK Try.prog 75 :=
 og_of (E := E) P_mixed (E0_ok.mk5 _ _ _ _ _) (gam_of (all_cons ref09_Drive_bad.og (all_cons ref09_Drive_Clean.og (all_cons ref09_Drive_Write.og all_nil))) (all_cons (fun _ => ref09_Drive_bad.keep) (all_cons (no_keep (by kernel_rfl)) (all_cons (no_keep (by kernel_rfl)) all_nil)))) Try.func75 (c := body) (by kernel_rfl)
    (just_by (by kernel_rfl) (by kernel_rfl) all_nil all_nil) [] sp1_ok hk (by kernel_rfl)
end ref09_Drive_Fresh

end
end Go.Proofs.Ytkoidgjgdhpdnaa.Va
