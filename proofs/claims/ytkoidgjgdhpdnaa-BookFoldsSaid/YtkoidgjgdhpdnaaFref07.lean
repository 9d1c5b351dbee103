/- The functions of package ref07, as plain functions, and that the program computes them. Printed by a program of this work out of the evaluator. -/
import Derived.Test.YtkoidgjgdhpdnaaEn
import Derived.Tactics
import Derived.Test.YtkoidgjgdhpdnaaFref01
set_option linter.unusedVariables false
namespace Go.Proofs.Ytkoidgjgdhpdnaa.Va
noncomputable section
open Go
set_option maxRecDepth 100000

/-! instar/instarref07.New -/
namespace ref07_New
abbrev TA : Type := ((Int × (Int × Unit)) × Unit)
abbrev XA : Type := ((Int × (Bool × (Int × ((List Int) × ((List Int) × (List Int)))))) ⊕ Unit)
abbrev T5 : Type := ((Int × (Int × (Unit × (Unit × (Int × (Unit × Unit)))))) × ((Unit × (Int × (Unit × (Int × (Bool × (Int × (Unit × Unit))))))) × ((List Int) × ((List Int) × Unit))))
abbrev S5 : Type := (Int × (List Int))
def l5 (sectors words h0_1 h0_3 : Int) (h0_4 : Bool) (h0_5 : Int) (h2 : (List Int)) (i : Int) (h1 : (List Int)) : Tw (S5 ⊕ (List Int)) :=
 (.bb (decide (i < (w64 (sectors * words))))
 (.dd ((((((List.length h1) + (List.length ((4294967295 : Int) :: ([] : List (Int))))) * (4 : Nat)) ≤ (140737488355328 : Nat)) ∧ (((List.length h1) + (List.length ((4294967295 : Int) :: ([] : List (Int))))) ≤ (140737488355328 : Nat)))) inferInstance
 (.ret (.inl ((w64 (i + (1 : Int))), (h1 ++ ((4294967295 : Int) :: ([] : List (Int)))))))
 .no)
 (.ret (.inr h1)))
def L5 (sectors words i h0_1 h0_3 : Int) (h0_4 : Bool) (h0_5 : Int) (h1 : (List Int)) (h2 : (List Int)) : Option (List Int) := Lp (fun s => (l5 sectors words h0_1 h0_3 h0_4 h0_5 h2 s.1 s.2).run) (i, h1)
def p5 : Pt := (jC (jC (.cs (.bots 3) (.cs (.ptr 0 0) (jC (.cs (.bots 36) .nl))))))
def q5 : Pt := (.cs (.var (.cs (.own 1) (jC (.cs (.own 2) (jC (.cs .bool (jC (.cs .nils .nl)))))))) (.cs (.row 3 true) (.cs (.row 1 true) .nl)))
def ou5 (l : T5) (y : (List Int)) : Ex × St U := (.exit 0, stOf 43 [(5, .ptr 0 0)] [.var [.own 1, jI l.2.1.2.1, .own 2, jI l.2.1.2.2.2.1, jB (d4 l.2.1).1, jI (d4 l.2.1).2.1, .im .nils], .row 3 y true, .row 1 l.2.2.2.1 true] 0)
def Λ5 : LFun U := mkLp p5 q5 0 (X := (List Int)) (fun (l : T5) => L5 l.1.1 l.1.2.1 (d4 l.1).1 l.2.1.2.1 l.2.1.2.2.2.1 (d4 l.2.1).1 (d4 l.2.1).2.1 l.2.2.1 l.2.2.2.1) sp1 ou5
def hd5 (l : T5) (s : S5) : T5 := ((l.1.1, (l.1.2.1, ((), ((), (s.1, ((), ())))))), (((), (l.2.1.2.1, ((), (l.2.1.2.2.2.1, ((d4 l.2.1).1, ((d4 l.2.1).2.1, ((), ()))))))), (s.2, (l.2.2.2.1, ()))))
def fl5 (l : T5) (s : S5) : Tw (S5 ⊕ (List Int)) := l5 l.1.1 l.1.2.1 l.2.1.2.1 l.2.1.2.2.2.1 (d4 l.2.1).1 (d4 l.2.1).2.1 l.2.2.2.1 s.1 s.2
def t (sectors words : Int) : Tw XA :=
 (.bb (decide (sectors < (1 : Int)))
 (.ret (.inr ()))
 (.bb (decide (sectors > (512 : Int)))
 (.ret (.inr ()))
 (.bb (decide (words < (1 : Int)))
 (.ret (.inr ()))
 (.bb (decide (words > (1024 : Int)))
 (.ret (.inr ()))
 (.dd ((((0 : Int) ≤ sectors) ∧ ((sectors ≤ sectors) ∧ ((sectors ≤ (140737488355328 : Int)) ∧ ((sectors * (((8 : Nat) : Nat) : Int)) ≤ (140737488355328 : Int)))))) inferInstance
 (.opt (L5 sectors words (0 : Int) words (0 : Int) false (-(1 : Int)) ([] : List (Int)) (List.replicate (Int.toNat sectors) (0 : Int))) fun z1 =>
 (.ret (.inl ((0 : Int), (false, ((-(1 : Int)), (z1, ((List.replicate (Int.toNat sectors) (0 : Int)), ([] : List (Int))))))))))
 .no)))))
def c (sectors words : Int) : Option XA := (t sectors words).run
def tl (l : TA) : Tw XA := t l.1.1 l.1.2.1
def pA : Pt := (jC (jC .nl))
def pH : Pt := .nl
def v (l : TA) (y : XA) : AV U := (Sum.elim (fun a0 => .ptr 0 0) (fun b0 => .im .nilp) y)
def hh (l : TA) (y : XA) : Hp U := (Sum.elim (fun a0 => [.var [.own 1, jI l.1.2.1, .own 2, jI a0.1, jB a0.2.1, jI a0.2.2.1, .own 3], .row 3 a0.2.2.2.1 true, .row 1 (d4 a0).1 true, .row 3 (d4 a0).2 true]) (fun b0 => []) y)
def A : AFun U := mkA pA pH (X := XA) (fun l => (tl l).run) (spS sp1) v hh
def body := bodyOf Try.f46
def E : Env U := E0.mk5 [] [(5, Λ5)] [] [(5, ⟨[6, 5, 1, 0], [(5, [.to 0], .own 3)]⟩, ⟨[4, 5], []⟩)] []
theorem hf5 : HF E (pick (loopsOf body) 5) p5 q5 0 fl5 hd5 sp1 ou5 := fun _ _ _ _ => by kernel_rfl
theorem lk5 : LK E (pick (loopsOf body) 5) Λ5 := fun R st K r h =>
  lp_ok (E := E) (b := pick (loopsOf body) 5) (m := 0) (sp := sp1) (p := p5) (q := q5) (X := (List Int)) (S := S5) (f := fl5) (hd := hd5) (s0 := fun (l : T5) => ((d4 l.1).1, l.2.2.1)) (ou := ou5)
    (fun l => rfl) (fun l x => by rfl) sp1_ok hf5 h
theorem hk : HK E Try.f46 [(0, [.to 6], .own 3)] pA pH tl v hh := fun _ _ _ => by kernel_rfl
theorem og : SoundF Try.prog cc 46 A ∧ FnOK Try.prog 46 :=
 og_of (E := E) P_mixed (E0_ok.mk5 _ _ _ _ _) (gam_of all_nil all_nil) Try.func46 (c := body) (by kernel_rfl)
    (just_by (by kernel_rfl) (by kernel_rfl) (all_cons lk5 all_nil) all_nil) [(0, [.to 6], .own 3)] (spS_ok sp1_ok) hk (by kernel_rfl)
end ref07_New

/-! (*instar/instarref07.Flash).torn -/
namespace ref07_Flash_torn
abbrev TA : Type := ((Unit × Unit) × ((Unit × (Int × (Unit × (Int × (Bool × (Int × (Unit × Unit))))))) × ((List Int) × ((List Int) × ((List Int) × Unit)))))
abbrev XA : Type := (Bool × (Int × (Bool × Int)))
def t (h0_1 h0_3 : Int) (h0_4 : Bool) (h0_5 : Int) (h1 : (List Int)) (h2 : (List Int)) (h3 : (List Int)) : Tw XA :=
 (.bb (h0_5 == (0 : Int))
 (.bb (decide (h0_5 ≥ (0 : Int)))
 (.ret (true, ((w64 (h0_3 + (1 : Int))), (true, (w64 (h0_5 - (1 : Int)))))))
 (.ret (true, ((w64 (h0_3 + (1 : Int))), (true, h0_5)))))
 (.bb (decide (h0_5 ≥ (0 : Int)))
 (.ret (h0_4, ((w64 (h0_3 + (1 : Int))), (h0_4, (w64 (h0_5 - (1 : Int)))))))
 (.ret (h0_4, ((w64 (h0_3 + (1 : Int))), (h0_4, h0_5))))))
def c (h0_1 h0_3 : Int) (h0_4 : Bool) (h0_5 : Int) (h1 : (List Int)) (h2 : (List Int)) (h3 : (List Int)) : Option XA := (t h0_1 h0_3 h0_4 h0_5 h1 h2 h3).run
def tl (l : TA) : Tw XA := t l.2.1.2.1 l.2.1.2.2.2.1 (d4 l.2.1).1 (d4 l.2.1).2.1 l.2.2.1 l.2.2.2.1 (d4 l).1
def pA : Pt := (.cs (.ptr 0 0) .nl)
def pH : Pt := (.cs (.var (.cs (.own 1) (jC (.cs (.own 2) (jC (.cs .bool (jC (.cs (.own 3) .nl)))))))) (.cs (.row 3 true) (.cs (.row 1 true) (.cs (.row 3 true) .nl))))
def v (l : TA) (y : XA) : AV U := jB y.1
def hh (l : TA) (y : XA) : Hp U := [.var [.own 1, jI l.2.1.2.1, .own 2, jI y.2.1, jB y.2.2.1, jI y.2.2.2, .own 3], .row 3 l.2.2.1 true, .row 1 l.2.2.2.1 true, .row 3 (d4 l).1 true]
def A : AFun U := mkA pA pH (X := XA) (fun l => (tl l).run) sp1 v hh
def body := bodyOf Try.f98
def E : Env U := E0.mk5 [] [] [] [] []
theorem hk : HK E Try.f98 [] pA pH tl v hh := fun _ _ _ => by kernel_rfl
theorem og : SoundF Try.prog cc 98 A ∧ FnOK Try.prog 98 :=
 og_of (E := E) P_mixed (E0_ok.mk5 _ _ _ _ _) (gam_of all_nil all_nil) Try.func98 (c := body) (by kernel_rfl)
    (just_by (by kernel_rfl) (by kernel_rfl) all_nil all_nil) [] sp1_ok hk (by kernel_rfl)
end ref07_Flash_torn

/-! (*instar/instarref07.Flash).mask -/
namespace ref07_Flash_mask
abbrev TA : Type := ((Unit × (Int × Unit)) × ((Unit × (Int × (Unit × (Int × (Bool × (Int × (Unit × Unit))))))) × ((List Int) × ((List Int) × ((List Int) × Unit)))))
def t (i h0_1 h0_3 : Int) (h0_4 : Bool) (h0_5 : Int) (h1 : (List Int)) (h2 : (List Int)) (h3 : (List Int)) : Tw Int :=
 (.bb ((((List.length h3) : Nat) : Int) == (0 : Int))
 (.ret (0 : Int))
 (.dd (((((List.length h3) : Nat) : Int) = (0 : Int))) inferInstance
 .no
 (.dd ((((0 : Int) ≤ (Int.tmod i (((List.length h3) : Nat) : Int))) ∧ ((Int.tmod i (((List.length h3) : Nat) : Int)) < (((List.length h3) : Nat) : Int)))) inferInstance
 (.opt (h3)[(Int.toNat (Int.tmod i (((List.length h3) : Nat) : Int)))]? fun z1 =>
 (.ret z1))
 .no)))
def c (i h0_1 h0_3 : Int) (h0_4 : Bool) (h0_5 : Int) (h1 : (List Int)) (h2 : (List Int)) (h3 : (List Int)) : Option Int := (t i h0_1 h0_3 h0_4 h0_5 h1 h2 h3).run
def tl (l : TA) : Tw Int := t l.1.2.1 l.2.1.2.1 l.2.1.2.2.2.1 (d4 l.2.1).1 (d4 l.2.1).2.1 l.2.2.1 l.2.2.2.1 (d4 l).1
def pA : Pt := (.cs (.ptr 0 0) (jC .nl))
def pH : Pt := (.cs (.var (.cs (.own 1) (jC (.cs (.own 2) (jC (.cs .bool (jC (.cs (.own 3) .nl)))))))) (.cs (.row 3 true) (.cs (.row 1 true) (.cs (.row 3 true) .nl))))
def v (l : TA) (y : Int) : AV U := .im (.int .u32 y)
def hh (l : TA) (y : Int) : Hp U := [.var [.own 1, jI l.2.1.2.1, .own 2, jI l.2.1.2.2.2.1, jB (d4 l.2.1).1, jI (d4 l.2.1).2.1, .own 3], .row 3 l.2.2.1 true, .row 1 l.2.2.2.1 true, .row 3 (d4 l).1 true]
def A : AFun U := mkA pA pH (X := Int) (fun l => (tl l).run) sp1 v hh
def body := bodyOf Try.f99
def E : Env U := E0.mk5 [] [] [] [] []
theorem hk : HK E Try.f99 [] pA pH tl v hh := fun _ _ _ => by kernel_rfl
theorem og : SoundF Try.prog cc 99 A ∧ FnOK Try.prog 99 :=
 og_of (E := E) P_mixed (E0_ok.mk5 _ _ _ _ _) (gam_of all_nil all_nil) Try.func99 (c := body) (by kernel_rfl)
    (just_by (by kernel_rfl) (by kernel_rfl) all_nil all_nil) [] sp1_ok hk (by kernel_rfl)
theorem keep : KeepA A := mkA_keep sp1_ok (fun (l : TA) y => ⟨(hh l y).drop 4, by kernel_rfl⟩)
end ref07_Flash_mask

/-! (*instar/instarref07.Flash).Erase -/
namespace ref07_Flash_Erase
abbrev TA : Type := ((Unit × (Int × Unit)) × ((Unit × (Int × (Unit × (Int × (Bool × (Int × (Unit × Unit))))))) × ((List Int) × ((List Int) × ((List Int) × Unit)))))
abbrev XA : Type := (Int × (Int × (Bool × (Int × ((List Int) × (List Int))))))
abbrev T8 : Type := ((Unit × (Int × (Unit × (Bool × (Int × (Unit × Unit)))))) × ((Unit × (Int × (Unit × (Int × (Bool × (Int × (Unit × Unit))))))) × ((List Int) × ((List Int) × ((List Int) × Unit)))))
abbrev S8 : Type := (Int × (List Int))
def l8 (s_ : Int) (t_ : Bool) (h0_1 h0_3 : Int) (h0_4 : Bool) (h0_5 : Int) (h2 : (List Int)) (h3 : (List Int)) (i : Int) (h1 : (List Int)) : Tw (S8 ⊕ (List Int)) :=
 (.bb (decide (i < h0_1))
 (.bb t_
 (.dd ((((0 : Int) ≤ (w64 ((w64 (s_ * h0_1)) + i))) ∧ ((w64 ((w64 (s_ * h0_1)) + i)) < (((List.length h1) : Nat) : Int)))) inferInstance
 (.opt (h1)[(Int.toNat (w64 ((w64 (s_ * h0_1)) + i)))]? fun z5 =>
 (.opt (ref07_Flash_mask.c i h0_1 h0_3 h0_4 h0_5 h1 h2 h3) fun z6 =>
 (.opt (ref01_Bits.c z5 (0 : Int) z6 (2 : Int)) fun z7 =>
 (.dd ((((0 : Int) ≤ (w64 ((w64 (s_ * h0_1)) + i))) ∧ ((w64 ((w64 (s_ * h0_1)) + i)) < (((List.length h1) : Nat) : Int)))) inferInstance
 (.opt (h1)[(Int.toNat (w64 ((w64 (s_ * h0_1)) + i)))]? fun z8 =>
 (.ret (.inl ((w64 (i + (1 : Int))), (List.set h1 (Int.toNat (w64 ((w64 (s_ * h0_1)) + i))) z7)))))
 .no))))
 .no)
 (.dd ((((0 : Int) ≤ (w64 ((w64 (s_ * h0_1)) + i))) ∧ ((w64 ((w64 (s_ * h0_1)) + i)) < (((List.length h1) : Nat) : Int)))) inferInstance
 (.opt (h1)[(Int.toNat (w64 ((w64 (s_ * h0_1)) + i)))]? fun z4 =>
 (.ret (.inl ((w64 (i + (1 : Int))), (List.set h1 (Int.toNat (w64 ((w64 (s_ * h0_1)) + i))) (4294967295 : Int))))))
 .no))
 (.ret (.inr h1)))
def L8 (s_ : Int) (t_ : Bool) (i h0_1 h0_3 : Int) (h0_4 : Bool) (h0_5 : Int) (h1 : (List Int)) (h2 : (List Int)) (h3 : (List Int)) : Option (List Int) := Lp (fun s => (l8 s_ t_ h0_1 h0_3 h0_4 h0_5 h2 h3 s.1 s.2).run) (i, h1)
def p8 : Pt := (.cs (.ptr 0 0) (jC (.cs (.bots 3) (.cs .bool (jC (.cs (.bots 68) .nl))))))
def q8 : Pt := (.cs (.var (.cs (.own 1) (jC (.cs (.own 2) (jC (.cs .bool (jC (.cs (.own 3) .nl)))))))) (.cs (.row 3 true) (.cs (.row 1 true) (.cs (.row 3 true) .nl))))
def ou8 (l : T8) (y : (List Int)) : Ex × St U := (.exit 0, stOf 75 [(0, .ptr 0 0), (5, jB l.1.2.2.2.1)] [.var [.own 1, jI l.2.1.2.1, .own 2, jI l.2.1.2.2.2.1, jB (d4 l.2.1).1, jI (d4 l.2.1).2.1, .own 3], .row 3 y true, .row 1 l.2.2.2.1 true, .row 3 (d4 l).1 true] 4)
def Λ8 : LFun U := mkLp p8 q8 4 (X := (List Int)) (fun (l : T8) => L8 l.1.2.1 l.1.2.2.2.1 (d4 l.1).1 l.2.1.2.1 l.2.1.2.2.2.1 (d4 l.2.1).1 (d4 l.2.1).2.1 l.2.2.1 l.2.2.2.1 (d4 l).1) sp1 ou8
def hd8 (l : T8) (s : S8) : T8 := (((), (l.1.2.1, ((), (l.1.2.2.2.1, (s.1, ((), ())))))), (((), (l.2.1.2.1, ((), (l.2.1.2.2.2.1, ((d4 l.2.1).1, ((d4 l.2.1).2.1, ((), ()))))))), (s.2, (l.2.2.2.1, ((d4 l).1, ())))))
def fl8 (l : T8) (s : S8) : Tw (S8 ⊕ (List Int)) := l8 l.1.2.1 l.1.2.2.2.1 l.2.1.2.1 l.2.1.2.2.2.1 (d4 l.2.1).1 (d4 l.2.1).2.1 l.2.2.2.1 (d4 l).1 s.1 s.2
def t (s_ h0_1 h0_3 : Int) (h0_4 : Bool) (h0_5 : Int) (h1 : (List Int)) (h2 : (List Int)) (h3 : (List Int)) : Tw XA :=
 (.bb h0_4
 (.ret ((10 : Int), (h0_3, (h0_4, (h0_5, (h1, h2))))))
 (.bb (decide (s_ < (0 : Int)))
 (.ret ((3 : Int), (h0_3, (h0_4, (h0_5, (h1, h2))))))
 (.bb (decide (s_ ≥ (((List.length h2) : Nat) : Int)))
 (.ret ((3 : Int), (h0_3, (h0_4, (h0_5, (h1, h2))))))
 (.dd ((((0 : Int) ≤ s_) ∧ (s_ < (((List.length h2) : Nat) : Int)))) inferInstance
 (.opt (h2)[(Int.toNat s_)]? fun z1 =>
 (.dd ((((0 : Int) ≤ s_) ∧ (s_ < (((List.length h2) : Nat) : Int)))) inferInstance
 (.opt (h2)[(Int.toNat s_)]? fun z2 =>
 (.opt (ref07_Flash_torn.c h0_1 h0_3 h0_4 h0_5 h1 (List.set h2 (Int.toNat s_) (w64 (z1 + (1 : Int)))) h3) fun z3 =>
 (.opt (L8 s_ z3.1 (0 : Int) h0_1 z3.2.1 z3.2.2.1 z3.2.2.2 h1 (List.set h2 (Int.toNat s_) (w64 (z1 + (1 : Int)))) h3) fun z9 =>
 (.bb z3.1
 (.ret ((10 : Int), (z3.2.1, (z3.2.2.1, (z3.2.2.2, (z9, (List.set h2 (Int.toNat s_) (w64 (z1 + (1 : Int))))))))))
 (.ret ((0 : Int), (z3.2.1, (z3.2.2.1, (z3.2.2.2, (z9, (List.set h2 (Int.toNat s_) (w64 (z1 + (1 : Int))))))))))))))
 .no))
 .no))))
def c (s_ h0_1 h0_3 : Int) (h0_4 : Bool) (h0_5 : Int) (h1 : (List Int)) (h2 : (List Int)) (h3 : (List Int)) : Option XA := (t s_ h0_1 h0_3 h0_4 h0_5 h1 h2 h3).run
def tl (l : TA) : Tw XA := t l.1.2.1 l.2.1.2.1 l.2.1.2.2.2.1 (d4 l.2.1).1 (d4 l.2.1).2.1 l.2.2.1 l.2.2.2.1 (d4 l).1
def pA : Pt := (.cs (.ptr 0 0) (jC .nl))
def pH : Pt := (.cs (.var (.cs (.own 1) (jC (.cs (.own 2) (jC (.cs .bool (jC (.cs (.own 3) .nl)))))))) (.cs (.row 3 true) (.cs (.row 1 true) (.cs (.row 3 true) .nl))))
def v (l : TA) (y : XA) : AV U := jI y.1
def hh (l : TA) (y : XA) : Hp U := [.var [.own 1, jI l.2.1.2.1, .own 2, jI y.2.1, jB y.2.2.1, jI y.2.2.2.1, .own 3], .row 3 (d4 y).1 true, .row 1 (d4 y).2 true, .row 3 (d4 l).1 true]
def A : AFun U := mkA pA pH (X := XA) (fun l => (tl l).run) sp1 v hh
def body := bodyOf Try.f74
def E : Env U := E0.mk5 [(98, ref07_Flash_torn.A), (99, ref07_Flash_mask.A), (79, ref01_Bits.A)] [(8, Λ8)] [] [(8, ⟨[6, 0, 5, 1], []⟩, ⟨[4, 0, 5], []⟩)] [99]
theorem hf8 : HF E (pick (loopsOf body) 8) p8 q8 4 fl8 hd8 sp1 ou8 := fun _ _ _ _ => by kernel_rfl
theorem lk8 : LK E (pick (loopsOf body) 8) Λ8 := fun R st K r h =>
  lp_ok (E := E) (b := pick (loopsOf body) 8) (m := 4) (sp := sp1) (p := p8) (q := q8) (X := (List Int)) (S := S8) (f := fl8) (hd := hd8) (s0 := fun (l : T8) => ((d4 l.1).1, l.2.2.1)) (ou := ou8)
    (fun l => rfl) (fun l x => by rfl) sp1_ok hf8 h
theorem hk : HK E Try.f74 [] pA pH tl v hh := fun _ _ _ => by kernel_rfl
theorem og : SoundF Try.prog cc 74 A ∧ FnOK Try.prog 74 :=
 og_of (E := E) P_mixed (E0_ok.mk5 _ _ _ _ _) (gam_of (all_cons ref07_Flash_torn.og (all_cons ref07_Flash_mask.og (all_cons ref01_Bits.og all_nil))) (all_cons (no_keep (by kernel_rfl)) (all_cons (fun _ => ref07_Flash_mask.keep) (all_cons (no_keep (by kernel_rfl)) all_nil)))) Try.func74 (c := body) (by kernel_rfl)
    (just_by (by kernel_rfl) (by kernel_rfl) (all_cons lk8 all_nil) all_nil) [] sp1_ok hk (by kernel_rfl)
end ref07_Flash_Erase

/-! (*instar/instarref07.Flash).Read -/
namespace ref07_Flash_Read
abbrev TA : Type := ((Unit × (Int × Unit)) × ((Unit × (Int × (Unit × (Int × (Bool × (Int × (Unit × Unit))))))) × ((List Int) × ((List Int) × ((List Int) × Unit)))))
abbrev XA : Type := (Int × Int)
def t (a h0_1 h0_3 : Int) (h0_4 : Bool) (h0_5 : Int) (h1 : (List Int)) (h2 : (List Int)) (h3 : (List Int)) : Tw XA :=
 (.bb h0_4
 (.ret ((0 : Int), (10 : Int)))
 (.bb (decide (a < (0 : Int)))
 (.ret ((0 : Int), (3 : Int)))
 (.bb (decide (a ≥ (((List.length h1) : Nat) : Int)))
 (.ret ((0 : Int), (3 : Int)))
 (.dd ((((0 : Int) ≤ a) ∧ (a < (((List.length h1) : Nat) : Int)))) inferInstance
 (.opt (h1)[(Int.toNat a)]? fun z1 =>
 (.ret (z1, (0 : Int))))
 .no))))
def c (a h0_1 h0_3 : Int) (h0_4 : Bool) (h0_5 : Int) (h1 : (List Int)) (h2 : (List Int)) (h3 : (List Int)) : Option XA := (t a h0_1 h0_3 h0_4 h0_5 h1 h2 h3).run
def tl (l : TA) : Tw XA := t l.1.2.1 l.2.1.2.1 l.2.1.2.2.2.1 (d4 l.2.1).1 (d4 l.2.1).2.1 l.2.2.1 l.2.2.2.1 (d4 l).1
def pA : Pt := (.cs (.ptr 0 0) (jC .nl))
def pH : Pt := (.cs (.var (.cs (.own 1) (jC (.cs (.own 2) (jC (.cs .bool (jC (.cs (.own 3) .nl)))))))) (.cs (.row 3 true) (.cs (.row 1 true) (.cs (.row 3 true) .nl))))
def v (l : TA) (y : XA) : AV U := .tup [.im (.int .u32 y.1), jI y.2]
def hh (l : TA) (y : XA) : Hp U := [.var [.own 1, jI l.2.1.2.1, .own 2, jI l.2.1.2.2.2.1, jB (d4 l.2.1).1, jI (d4 l.2.1).2.1, .own 3], .row 3 l.2.2.1 true, .row 1 l.2.2.2.1 true, .row 3 (d4 l).1 true]
def A : AFun U := mkA pA pH (X := XA) (fun l => (tl l).run) sp1 v hh
def body := bodyOf Try.f102
def E : Env U := E0.mk5 [] [] [] [] []
theorem hk : HK E Try.f102 [] pA pH tl v hh := fun _ _ _ => by kernel_rfl
theorem og : SoundF Try.prog cc 102 A ∧ FnOK Try.prog 102 :=
 og_of (E := E) P_mixed (E0_ok.mk5 _ _ _ _ _) (gam_of all_nil all_nil) Try.func102 (c := body) (by kernel_rfl)
    (just_by (by kernel_rfl) (by kernel_rfl) all_nil all_nil) [] sp1_ok hk (by kernel_rfl)
theorem keep : KeepA A := mkA_keep sp1_ok (fun (l : TA) y => ⟨(hh l y).drop 4, by kernel_rfl⟩)
end ref07_Flash_Read

/-! (*instar/instarref07.Flash).Program -/
namespace ref07_Flash_Program
abbrev TA : Type := ((Unit × (Int × (Int × Unit))) × ((Unit × (Int × (Unit × (Int × (Bool × (Int × (Unit × Unit))))))) × ((List Int) × ((List Int) × ((List Int) × Unit)))))
abbrev XA : Type := (Int × (Int × (Bool × (Int × (List Int)))))
def t (a x h0_1 h0_3 : Int) (h0_4 : Bool) (h0_5 : Int) (h1 : (List Int)) (h2 : (List Int)) (h3 : (List Int)) : Tw XA :=
 (.opt (ref07_Flash_Read.c a h0_1 h0_3 h0_4 h0_5 h1 h2 h3) fun z1 =>
 (.bb (z1.2 != (0 : Int))
 (.ret (z1.2, (h0_3, (h0_4, (h0_5, h1)))))
 (.opt (ref01_Bits.c x z1.1 (0 : Int) (0 : Int)) fun z2 =>
 (.bb (z2 != (0 : Int))
 (.ret ((11 : Int), (h0_3, (h0_4, (h0_5, h1)))))
 (.opt (ref07_Flash_torn.c h0_1 h0_3 h0_4 h0_5 h1 h2 h3) fun z3 =>
 (.bb z3.1
 (.opt (ref07_Flash_mask.c (0 : Int) h0_1 z3.2.1 z3.2.2.1 z3.2.2.2 h1 h2 h3) fun z5 =>
 (.opt (ref01_Bits.c z1.1 x z5 (1 : Int)) fun z6 =>
 (.dd ((((0 : Int) ≤ a) ∧ (a < (((List.length h1) : Nat) : Int)))) inferInstance
 (.opt (h1)[(Int.toNat a)]? fun z7 =>
 (.ret ((10 : Int), (z3.2.1, (z3.2.2.1, (z3.2.2.2, (List.set h1 (Int.toNat a) z6)))))))
 .no)))
 (.dd ((((0 : Int) ≤ a) ∧ (a < (((List.length h1) : Nat) : Int)))) inferInstance
 (.opt (h1)[(Int.toNat a)]? fun z4 =>
 (.ret ((0 : Int), (z3.2.1, (z3.2.2.1, (z3.2.2.2, (List.set h1 (Int.toNat a) x)))))))
 .no)))))))
def c (a x h0_1 h0_3 : Int) (h0_4 : Bool) (h0_5 : Int) (h1 : (List Int)) (h2 : (List Int)) (h3 : (List Int)) : Option XA := (t a x h0_1 h0_3 h0_4 h0_5 h1 h2 h3).run
def tl (l : TA) : Tw XA := t l.1.2.1 l.1.2.2.1 l.2.1.2.1 l.2.1.2.2.2.1 (d4 l.2.1).1 (d4 l.2.1).2.1 l.2.2.1 l.2.2.2.1 (d4 l).1
def pA : Pt := (.cs (.ptr 0 0) (jC (.cs (.int .u32) .nl)))
def pH : Pt := (.cs (.var (.cs (.own 1) (jC (.cs (.own 2) (jC (.cs .bool (jC (.cs (.own 3) .nl)))))))) (.cs (.row 3 true) (.cs (.row 1 true) (.cs (.row 3 true) .nl))))
def v (l : TA) (y : XA) : AV U := jI y.1
def hh (l : TA) (y : XA) : Hp U := [.var [.own 1, jI l.2.1.2.1, .own 2, jI y.2.1, jB y.2.2.1, jI y.2.2.2.1, .own 3], .row 3 (d4 y) true, .row 1 l.2.2.2.1 true, .row 3 (d4 l).1 true]
def A : AFun U := mkA pA pH (X := XA) (fun l => (tl l).run) sp1 v hh
def body := bodyOf Try.f80
def E : Env U := E0.mk5 [(102, ref07_Flash_Read.A), (79, ref01_Bits.A), (98, ref07_Flash_torn.A), (99, ref07_Flash_mask.A)] [] [] [] [102, 99]
theorem hk : HK E Try.f80 [] pA pH tl v hh := fun _ _ _ => by kernel_rfl
theorem og : SoundF Try.prog cc 80 A ∧ FnOK Try.prog 80 :=
 og_of (E := E) P_mixed (E0_ok.mk5 _ _ _ _ _) (gam_of (all_cons ref07_Flash_Read.og (all_cons ref01_Bits.og (all_cons ref07_Flash_torn.og (all_cons ref07_Flash_mask.og all_nil)))) (all_cons (fun _ => ref07_Flash_Read.keep) (all_cons (no_keep (by kernel_rfl)) (all_cons (no_keep (by kernel_rfl)) (all_cons (fun _ => ref07_Flash_mask.keep) all_nil))))) Try.func80 (c := body) (by kernel_rfl)
    (just_by (by kernel_rfl) (by kernel_rfl) all_nil all_nil) [] sp1_ok hk (by kernel_rfl)
end ref07_Flash_Program

end
end Go.Proofs.Ytkoidgjgdhpdnaa.Va
