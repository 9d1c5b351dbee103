/- The functions of package flash, as plain functions, and that the program computes them. Printed by a program of this work out of the evaluator. -/
import Derived.Test.YtkoidgjgdhpdnaaEn
import Derived.Tactics
import Derived.Test.YtkoidgjgdhpdnaaFword
set_option linter.unusedVariables false
namespace Go.Proofs.Ytkoidgjgdhpdnaa.Va
noncomputable section
open Go
set_option maxRecDepth 100000

/-! instar/flash.New -/
namespace flash_New
abbrev TA : Type := ((Int × (Int × Unit)) × Unit)
abbrev XA : Type := ((Int × (Int × (Bool × (Int × ((List Int) × ((List Int) × (List Int))))))) ⊕ Int)
abbrev T5 : Type := ((Unit × (Unit × (Unit × (Int × (Int × (Unit × Unit)))))) × ((Unit × (Int × (Unit × (Int × (Bool × (Int × (Unit × Unit))))))) × ((List Int) × ((List Int) × Unit))))
abbrev S5 : Type := (Int × (List Int))
def l5 (k36 h0_1 h0_3 : Int) (h0_4 : Bool) (h0_5 : Int) (h2 : (List Int)) (k37 : Int) (h1 : (List Int)) : Tw (S5 ⊕ (List Int)) :=
 (.bb (decide (k37 < k36))
 (.dd ((((0 : Int) ≤ k37) ∧ (k37 < (((List.length h1) : Nat) : Int)))) inferInstance
 (.opt (h1)[(Int.toNat k37)]? fun z1 =>
 (.ret (.inl ((w64 (k37 + (1 : Int))), (List.set h1 (Int.toNat k37) (4294967295 : Int))))))
 .no)
 (.ret (.inr h1)))
def L5 (k36 k37 h0_1 h0_3 : Int) (h0_4 : Bool) (h0_5 : Int) (h1 : (List Int)) (h2 : (List Int)) : Option (List Int) := Lp (fun s => (l5 k36 h0_1 h0_3 h0_4 h0_5 h2 s.1 s.2).run) (k37, h1)
def p5 : Pt := (.cs (.bots 6) (.cs (.ptr 0 0) (.cs (.bots 29) (jC (jC (.cs (.bots 10) .nl))))))
def q5 : Pt := (.cs (.var (.cs (.own 1) (jC (.cs (.own 2) (jC (.cs .bool (jC (.cs .nils .nl)))))))) (.cs (.row 3 true) (.cs (.row 1 true) .nl)))
def ou5 (l : T5) (y : (List Int)) : Ex × St U := (.exit 0, stOf 48 [(6, .ptr 0 0)] [.var [.own 1, jI l.2.1.2.1, .own 2, jI l.2.1.2.2.2.1, jB (d4 l.2.1).1, jI (d4 l.2.1).2.1, .im .nils], .row 3 y true, .row 1 l.2.2.2.1 true] 0)
def Λ5 : LFun U := mkLp p5 q5 0 (X := (List Int)) (fun (l : T5) => L5 l.1.2.2.2.1 (d4 l.1).1 l.2.1.2.1 l.2.1.2.2.2.1 (d4 l.2.1).1 (d4 l.2.1).2.1 l.2.2.1 l.2.2.2.1) sp1 ou5
def hd5 (l : T5) (s : S5) : T5 := (((), ((), ((), (l.1.2.2.2.1, (s.1, ((), ())))))), (((), (l.2.1.2.1, ((), (l.2.1.2.2.2.1, ((d4 l.2.1).1, ((d4 l.2.1).2.1, ((), ()))))))), (s.2, (l.2.2.2.1, ()))))
def fl5 (l : T5) (s : S5) : Tw (S5 ⊕ (List Int)) := l5 l.1.2.2.2.1 l.2.1.2.1 l.2.1.2.2.2.1 (d4 l.2.1).1 (d4 l.2.1).2.1 l.2.2.2.1 s.1 s.2
def t (sectors words : Int) : Tw XA :=
 (.bb (decide (sectors < (1 : Int)))
 (.ret (.inr (2 : Int)))
 (.bb (decide (sectors > (512 : Int)))
 (.ret (.inr (2 : Int)))
 (.bb (decide (words < (1 : Int)))
 (.ret (.inr (2 : Int)))
 (.bb (decide (words > (1024 : Int)))
 (.ret (.inr (2 : Int)))
 (.dd ((((0 : Int) ≤ (w64 (sectors * words))) ∧ (((w64 (sectors * words)) ≤ (w64 (sectors * words))) ∧ (((w64 (sectors * words)) ≤ (140737488355328 : Int)) ∧ (((w64 (sectors * words)) * (((4 : Nat) : Nat) : Int)) ≤ (140737488355328 : Int)))))) inferInstance
 (.dd ((((0 : Int) ≤ sectors) ∧ ((sectors ≤ sectors) ∧ ((sectors ≤ (140737488355328 : Int)) ∧ ((sectors * (((8 : Nat) : Nat) : Int)) ≤ (140737488355328 : Int)))))) inferInstance
 (.opt (L5 (((List.length (List.replicate (Int.toNat (w64 (sectors * words))) (0 : Int))) : Nat) : Int) (0 : Int) words (0 : Int) false (-(1 : Int)) (List.replicate (Int.toNat (w64 (sectors * words))) (0 : Int)) (List.replicate (Int.toNat sectors) (0 : Int))) fun z2 =>
 (.ret (.inl ((0 : Int), ((0 : Int), (false, ((-(1 : Int)), (z2, ((List.replicate (Int.toNat sectors) (0 : Int)), ([] : List (Int)))))))))))
 .no)
 .no)))))
def c (sectors words : Int) : Option XA := (t sectors words).run
def tl (l : TA) : Tw XA := t l.1.1 l.1.2.1
def pA : Pt := (jC (jC .nl))
def pH : Pt := .nl
def v (l : TA) (y : XA) : AV U := (Sum.elim (fun a0 => .tup [.ptr 0 0, jI a0.1]) (fun b0 => .tup [.im .nilp, jI b0]) y)
def hh (l : TA) (y : XA) : Hp U := (Sum.elim (fun a0 => [.var [.own 1, jI l.1.2.1, .own 2, jI a0.2.1, jB a0.2.2.1, jI a0.2.2.2.1, .own 3], .row 3 (d4 a0).1 true, .row 1 (d4 a0).2.1 true, .row 3 (d4 a0).2.2 true]) (fun b0 => []) y)
def A : AFun U := mkA pA pH (X := XA) (fun l => (tl l).run) (spS sp1) v hh
def body := bodyOf Try.f16
def E : Env U := E0.mk5 [] [(5, Λ5)] [] [(5, ⟨[37, 6, 36], []⟩, ⟨[4, 5, 6], []⟩)] []
theorem hf5 : HF E (pick (loopsOf body) 5) p5 q5 0 fl5 hd5 sp1 ou5 := fun _ _ _ _ => by kernel_rfl
theorem lk5 : LK E (pick (loopsOf body) 5) Λ5 := fun R st K r h =>
  lp_ok (E := E) (b := pick (loopsOf body) 5) (m := 0) (sp := sp1) (p := p5) (q := q5) (X := (List Int)) (S := S5) (f := fl5) (hd := hd5) (s0 := fun (l : T5) => ((d4 l.1).1, l.2.2.1)) (ou := ou5)
    (fun l => rfl) (fun l x => by rfl) sp1_ok hf5 h
theorem hk : HK E Try.f16 [(0, [.to 6], .own 3)] pA pH tl v hh := fun _ _ _ => by kernel_rfl
theorem og : SoundF Try.prog cc 16 A ∧ FnOK Try.prog 16 :=
 og_of (E := E) P_mixed (E0_ok.mk5 _ _ _ _ _) (gam_of all_nil all_nil) Try.func16 (c := body) (by kernel_rfl)
    (just_by (by kernel_rfl) (by kernel_rfl) (all_cons lk5 all_nil) all_nil) [(0, [.to 6], .own 3)] (spS_ok sp1_ok) hk (by kernel_rfl)
end flash_New

/-! (*instar/flash.Flash).Size -/
namespace flash_Flash_Size
abbrev TA : Type := ((Unit × Unit) × ((Unit × (Int × (Unit × (Int × (Bool × (Int × (Unit × Unit))))))) × ((List Int) × ((List Int) × ((List Int) × Unit)))))
def t (h0_1 h0_3 : Int) (h0_4 : Bool) (h0_5 : Int) (h1 : (List Int)) (h2 : (List Int)) (h3 : (List Int)) : Tw Int :=
 (.ret (((List.length h2) : Nat) : Int))
def c (h0_1 h0_3 : Int) (h0_4 : Bool) (h0_5 : Int) (h1 : (List Int)) (h2 : (List Int)) (h3 : (List Int)) : Option Int := (t h0_1 h0_3 h0_4 h0_5 h1 h2 h3).run
def tl (l : TA) : Tw Int := t l.2.1.2.1 l.2.1.2.2.2.1 (d4 l.2.1).1 (d4 l.2.1).2.1 l.2.2.1 l.2.2.2.1 (d4 l).1
def pA : Pt := (.cs (.ptr 0 0) .nl)
def pH : Pt := (.cs (.var (.cs (.own 1) (jC (.cs (.own 2) (jC (.cs .bool (jC (.cs (.own 3) .nl)))))))) (.cs (.row 3 true) (.cs (.row 1 true) (.cs (.row 3 true) .nl))))
def v (l : TA) (y : Int) : AV U := .tup [jI y, jI l.2.1.2.1]
def hh (l : TA) (y : Int) : Hp U := [.var [.own 1, jI l.2.1.2.1, .own 2, jI l.2.1.2.2.2.1, jB (d4 l.2.1).1, jI (d4 l.2.1).2.1, .own 3], .row 3 l.2.2.1 true, .row 1 l.2.2.2.1 true, .row 3 (d4 l).1 true]
def A : AFun U := mkA pA pH (X := Int) (fun l => (tl l).run) sp1 v hh
def body := bodyOf Try.f38
def E : Env U := E0.mk5 [] [] [] [] []
theorem hk : HK E Try.f38 [] pA pH tl v hh := fun _ _ _ => by kernel_rfl
theorem og : SoundF Try.prog cc 38 A ∧ FnOK Try.prog 38 :=
 og_of (E := E) P_mixed (E0_ok.mk5 _ _ _ _ _) (gam_of all_nil all_nil) Try.func38 (c := body) (by kernel_rfl)
    (just_by (by kernel_rfl) (by kernel_rfl) all_nil all_nil) [] sp1_ok hk (by kernel_rfl)
theorem keep : KeepA A := mkA_keep sp1_ok (fun (l : TA) y => ⟨(hh l y).drop 4, by kernel_rfl⟩)
end flash_Flash_Size

/-! (*instar/flash.Flash).Gone -/
namespace flash_Flash_Gone
abbrev TA : Type := ((Unit × Unit) × ((Unit × (Int × (Unit × (Int × (Bool × (Int × (Unit × Unit))))))) × ((List Int) × ((List Int) × ((List Int) × Unit)))))
def t (h0_1 h0_3 : Int) (h0_4 : Bool) (h0_5 : Int) (h1 : (List Int)) (h2 : (List Int)) (h3 : (List Int)) : Tw Unit :=
 (.ret ())
def c (h0_1 h0_3 : Int) (h0_4 : Bool) (h0_5 : Int) (h1 : (List Int)) (h2 : (List Int)) (h3 : (List Int)) : Option Unit := (t h0_1 h0_3 h0_4 h0_5 h1 h2 h3).run
def tl (l : TA) : Tw Unit := t l.2.1.2.1 l.2.1.2.2.2.1 (d4 l.2.1).1 (d4 l.2.1).2.1 l.2.2.1 l.2.2.2.1 (d4 l).1
def pA : Pt := (.cs (.ptr 0 0) .nl)
def pH : Pt := (.cs (.var (.cs (.own 1) (jC (.cs (.own 2) (jC (.cs .bool (jC (.cs (.own 3) .nl)))))))) (.cs (.row 3 true) (.cs (.row 1 true) (.cs (.row 3 true) .nl))))
def v (l : TA) (y : Unit) : AV U := jB (d4 l.2.1).1
def hh (l : TA) (y : Unit) : Hp U := [.var [.own 1, jI l.2.1.2.1, .own 2, jI l.2.1.2.2.2.1, jB (d4 l.2.1).1, jI (d4 l.2.1).2.1, .own 3], .row 3 l.2.2.1 true, .row 1 l.2.2.2.1 true, .row 3 (d4 l).1 true]
def A : AFun U := mkA pA pH (X := Unit) (fun l => (tl l).run) sp1 v hh
def body := bodyOf Try.f104
def E : Env U := E0.mk5 [] [] [] [] []
theorem hk : HK E Try.f104 [] pA pH tl v hh := fun _ _ _ => by kernel_rfl
theorem og : SoundF Try.prog cc 104 A ∧ FnOK Try.prog 104 :=
 og_of (E := E) P_mixed (E0_ok.mk5 _ _ _ _ _) (gam_of all_nil all_nil) Try.func104 (c := body) (by kernel_rfl)
    (just_by (by kernel_rfl) (by kernel_rfl) all_nil all_nil) [] sp1_ok hk (by kernel_rfl)
theorem keep : KeepA A := mkA_keep sp1_ok (fun (l : TA) y => ⟨(hh l y).drop 4, by kernel_rfl⟩)
end flash_Flash_Gone

/-! (*instar/flash.Flash).words -/
namespace flash_Flash_words
abbrev TA : Type := ((Unit × Unit) × ((Unit × (Int × (Unit × (Int × (Bool × (Int × (Unit × Unit))))))) × ((List Int) × ((List Int) × ((List Int) × Unit)))))
def t (h0_1 h0_3 : Int) (h0_4 : Bool) (h0_5 : Int) (h1 : (List Int)) (h2 : (List Int)) (h3 : (List Int)) : Tw Int :=
 (.opt (flash_Flash_Size.c h0_1 h0_3 h0_4 h0_5 h1 h2 h3) fun z1 =>
 (.ret (w64 (z1 * h0_1))))
def c (h0_1 h0_3 : Int) (h0_4 : Bool) (h0_5 : Int) (h1 : (List Int)) (h2 : (List Int)) (h3 : (List Int)) : Option Int := (t h0_1 h0_3 h0_4 h0_5 h1 h2 h3).run
def tl (l : TA) : Tw Int := t l.2.1.2.1 l.2.1.2.2.2.1 (d4 l.2.1).1 (d4 l.2.1).2.1 l.2.2.1 l.2.2.2.1 (d4 l).1
def pA : Pt := (.cs (.ptr 0 0) .nl)
def pH : Pt := (.cs (.var (.cs (.own 1) (jC (.cs (.own 2) (jC (.cs .bool (jC (.cs (.own 3) .nl)))))))) (.cs (.row 3 true) (.cs (.row 1 true) (.cs (.row 3 true) .nl))))
def v (l : TA) (y : Int) : AV U := jI y
def hh (l : TA) (y : Int) : Hp U := [.var [.own 1, jI l.2.1.2.1, .own 2, jI l.2.1.2.2.2.1, jB (d4 l.2.1).1, jI (d4 l.2.1).2.1, .own 3], .row 3 l.2.2.1 true, .row 1 l.2.2.2.1 true, .row 3 (d4 l).1 true]
def A : AFun U := mkA pA pH (X := Int) (fun l => (tl l).run) sp1 v hh
def body := bodyOf Try.f105
def E : Env U := E0.mk5 [(38, flash_Flash_Size.A)] [] [] [] [38]
theorem hk : HK E Try.f105 [] pA pH tl v hh := fun _ _ _ => by kernel_rfl
theorem og : SoundF Try.prog cc 105 A ∧ FnOK Try.prog 105 :=
 og_of (E := E) P_mixed (E0_ok.mk5 _ _ _ _ _) (gam_of (all_cons flash_Flash_Size.og all_nil) (all_cons (fun _ => flash_Flash_Size.keep) all_nil)) Try.func105 (c := body) (by kernel_rfl)
    (just_by (by kernel_rfl) (by kernel_rfl) all_nil all_nil) [] sp1_ok hk (by kernel_rfl)
theorem keep : KeepA A := mkA_keep sp1_ok (fun (l : TA) y => ⟨(hh l y).drop 4, by kernel_rfl⟩)
end flash_Flash_words

/-! (*instar/flash.Flash).may -/
namespace flash_Flash_may
abbrev TA : Type := ((Unit × (Int × (Int × Unit))) × ((Unit × (Int × (Unit × (Int × (Bool × (Int × (Unit × Unit))))))) × ((List Int) × ((List Int) × ((List Int) × Unit)))))
def t (i n h0_1 h0_3 : Int) (h0_4 : Bool) (h0_5 : Int) (h1 : (List Int)) (h2 : (List Int)) (h3 : (List Int)) : Tw Int :=
 (.bb h0_4
 (.ret (10 : Int))
 (.bb (decide (i < (0 : Int)))
 (.ret (3 : Int))
 (.bb (decide (i ≥ n))
 (.ret (3 : Int))
 (.ret (0 : Int)))))
def c (i n h0_1 h0_3 : Int) (h0_4 : Bool) (h0_5 : Int) (h1 : (List Int)) (h2 : (List Int)) (h3 : (List Int)) : Option Int := (t i n h0_1 h0_3 h0_4 h0_5 h1 h2 h3).run
def tl (l : TA) : Tw Int := t l.1.2.1 l.1.2.2.1 l.2.1.2.1 l.2.1.2.2.2.1 (d4 l.2.1).1 (d4 l.2.1).2.1 l.2.2.1 l.2.2.2.1 (d4 l).1
def pA : Pt := (.cs (.ptr 0 0) (jC (jC .nl)))
def pH : Pt := (.cs (.var (.cs (.own 1) (jC (.cs (.own 2) (jC (.cs .bool (jC (.cs (.own 3) .nl)))))))) (.cs (.row 3 true) (.cs (.row 1 true) (.cs (.row 3 true) .nl))))
def v (l : TA) (y : Int) : AV U := jI y
def hh (l : TA) (y : Int) : Hp U := [.var [.own 1, jI l.2.1.2.1, .own 2, jI l.2.1.2.2.2.1, jB (d4 l.2.1).1, jI (d4 l.2.1).2.1, .own 3], .row 3 l.2.2.1 true, .row 1 l.2.2.2.1 true, .row 3 (d4 l).1 true]
def A : AFun U := mkA pA pH (X := Int) (fun l => (tl l).run) sp1 v hh
def body := bodyOf Try.f93
def E : Env U := E0.mk5 [] [] [] [] []
theorem hk : HK E Try.f93 [] pA pH tl v hh := fun _ _ _ => by kernel_rfl
theorem og : SoundF Try.prog cc 93 A ∧ FnOK Try.prog 93 :=
 og_of (E := E) P_mixed (E0_ok.mk5 _ _ _ _ _) (gam_of all_nil all_nil) Try.func93 (c := body) (by kernel_rfl)
    (just_by (by kernel_rfl) (by kernel_rfl) all_nil all_nil) [] sp1_ok hk (by kernel_rfl)
theorem keep : KeepA A := mkA_keep sp1_ok (fun (l : TA) y => ⟨(hh l y).drop 4, by kernel_rfl⟩)
end flash_Flash_may

/-! (*instar/flash.Flash).Read -/
namespace flash_Flash_Read
abbrev TA : Type := ((Unit × (Int × Unit)) × ((Unit × (Int × (Unit × (Int × (Bool × (Int × (Unit × Unit))))))) × ((List Int) × ((List Int) × ((List Int) × Unit)))))
abbrev XA : Type := (Int × Int)
def t (a h0_1 h0_3 : Int) (h0_4 : Bool) (h0_5 : Int) (h1 : (List Int)) (h2 : (List Int)) (h3 : (List Int)) : Tw XA :=
 (.opt (flash_Flash_words.c h0_1 h0_3 h0_4 h0_5 h1 h2 h3) fun z1 =>
 (.opt (flash_Flash_may.c a z1 h0_1 h0_3 h0_4 h0_5 h1 h2 h3) fun z2 =>
 (.bb (z2 != (0 : Int))
 (.ret ((0 : Int), z2))
 (.dd ((((0 : Int) ≤ a) ∧ (a < (((List.length h1) : Nat) : Int)))) inferInstance
 (.opt (h1)[(Int.toNat a)]? fun z3 =>
 (.ret (z3, (0 : Int))))
 .no))))
def c (a h0_1 h0_3 : Int) (h0_4 : Bool) (h0_5 : Int) (h1 : (List Int)) (h2 : (List Int)) (h3 : (List Int)) : Option XA := (t a h0_1 h0_3 h0_4 h0_5 h1 h2 h3).run
def tl (l : TA) : Tw XA := t l.1.2.1 l.2.1.2.1 l.2.1.2.2.2.1 (d4 l.2.1).1 (d4 l.2.1).2.1 l.2.2.1 l.2.2.2.1 (d4 l).1
def pA : Pt := (.cs (.ptr 0 0) (jC .nl))
def pH : Pt := (.cs (.var (.cs (.own 1) (jC (.cs (.own 2) (jC (.cs .bool (jC (.cs (.own 3) .nl)))))))) (.cs (.row 3 true) (.cs (.row 1 true) (.cs (.row 3 true) .nl))))
def v (l : TA) (y : XA) : AV U := .tup [.im (.int .u32 y.1), jI y.2]
def hh (l : TA) (y : XA) : Hp U := [.var [.own 1, jI l.2.1.2.1, .own 2, jI l.2.1.2.2.2.1, jB (d4 l.2.1).1, jI (d4 l.2.1).2.1, .own 3], .row 3 l.2.2.1 true, .row 1 l.2.2.2.1 true, .row 3 (d4 l).1 true]
def A : AFun U := mkA pA pH (X := XA) (fun l => (tl l).run) sp1 v hh
def body := bodyOf Try.f87
def E : Env U := E0.mk5 [(105, flash_Flash_words.A), (93, flash_Flash_may.A)] [] [] [] [105, 93]
theorem hk : HK E Try.f87 [] pA pH tl v hh := fun _ _ _ => by kernel_rfl
theorem og : SoundF Try.prog cc 87 A ∧ FnOK Try.prog 87 :=
 og_of (E := E) P_mixed (E0_ok.mk5 _ _ _ _ _) (gam_of (all_cons flash_Flash_words.og (all_cons flash_Flash_may.og all_nil)) (all_cons (fun _ => flash_Flash_words.keep) (all_cons (fun _ => flash_Flash_may.keep) all_nil))) Try.func87 (c := body) (by kernel_rfl)
    (just_by (by kernel_rfl) (by kernel_rfl) all_nil all_nil) [] sp1_ok hk (by kernel_rfl)
theorem keep : KeepA A := mkA_keep sp1_ok (fun (l : TA) y => ⟨(hh l y).drop 4, by kernel_rfl⟩)
end flash_Flash_Read

/-! (*instar/flash.fuse).blows -/
namespace flash_fuse_blows
abbrev TA : Type := ((Unit × Unit) × ((Unit × (Int × (Unit × (Int × (Bool × (Int × (Unit × Unit))))))) × ((List Int) × ((List Int) × ((List Int) × Unit)))))
abbrev XA : Type := (Bool × Int)
def t (h0_1 h0_3 : Int) (h0_4 : Bool) (h0_5 : Int) (h1 : (List Int)) (h2 : (List Int)) (h3 : (List Int)) : Tw XA :=
 (.bb (decide (h0_5 < (0 : Int)))
 (.ret (false, h0_5))
 (.ret ((decide ((w64 (h0_5 - (1 : Int))) < (0 : Int))), (w64 (h0_5 - (1 : Int))))))
def c (h0_1 h0_3 : Int) (h0_4 : Bool) (h0_5 : Int) (h1 : (List Int)) (h2 : (List Int)) (h3 : (List Int)) : Option XA := (t h0_1 h0_3 h0_4 h0_5 h1 h2 h3).run
def tl (l : TA) : Tw XA := t l.2.1.2.1 l.2.1.2.2.2.1 (d4 l.2.1).1 (d4 l.2.1).2.1 l.2.2.1 l.2.2.2.1 (d4 l).1
def pA : Pt := (.cs (.ptr 0 5) .nl)
def pH : Pt := (.cs (.var (.cs (.own 1) (jC (.cs (.own 2) (jC (.cs .bool (jC (.cs (.own 3) .nl)))))))) (.cs (.row 3 true) (.cs (.row 1 true) (.cs (.row 3 true) .nl))))
def v (l : TA) (y : XA) : AV U := jB y.1
def hh (l : TA) (y : XA) : Hp U := [.var [.own 1, jI l.2.1.2.1, .own 2, jI l.2.1.2.2.2.1, jB (d4 l.2.1).1, jI y.2, .own 3], .row 3 l.2.2.1 true, .row 1 l.2.2.2.1 true, .row 3 (d4 l).1 true]
def A : AFun U := mkA pA pH (X := XA) (fun l => (tl l).run) sp1 v hh
def body := bodyOf Try.f108
def E : Env U := E0.mk5 [] [] [] [] []
theorem hk : HK E Try.f108 [] pA pH tl v hh := fun _ _ _ => by kernel_rfl
theorem og : SoundF Try.prog cc 108 A ∧ FnOK Try.prog 108 :=
 og_of (E := E) P_mixed (E0_ok.mk5 _ _ _ _ _) (gam_of all_nil all_nil) Try.func108 (c := body) (by kernel_rfl)
    (just_by (by kernel_rfl) (by kernel_rfl) all_nil all_nil) [] sp1_ok hk (by kernel_rfl)
end flash_fuse_blows

/-! (*instar/flash.Flash).write -/
namespace flash_Flash_write
abbrev TA : Type := ((Unit × Unit) × ((Unit × (Int × (Unit × (Int × (Bool × (Int × (Unit × Unit))))))) × ((List Int) × ((List Int) × ((List Int) × Unit)))))
abbrev XA : Type := (Bool × (Int × (Bool × Int)))
def t (h0_1 h0_3 : Int) (h0_4 : Bool) (h0_5 : Int) (h1 : (List Int)) (h2 : (List Int)) (h3 : (List Int)) : Tw XA :=
 (.opt (flash_fuse_blows.c h0_1 (w64 (h0_3 + (1 : Int))) h0_4 h0_5 h1 h2 h3) fun z1 =>
 (.ret (z1.1, ((w64 (h0_3 + (1 : Int))), (z1.1, z1.2)))))
def c (h0_1 h0_3 : Int) (h0_4 : Bool) (h0_5 : Int) (h1 : (List Int)) (h2 : (List Int)) (h3 : (List Int)) : Option XA := (t h0_1 h0_3 h0_4 h0_5 h1 h2 h3).run
def tl (l : TA) : Tw XA := t l.2.1.2.1 l.2.1.2.2.2.1 (d4 l.2.1).1 (d4 l.2.1).2.1 l.2.2.1 l.2.2.2.1 (d4 l).1
def pA : Pt := (.cs (.ptr 0 0) .nl)
def pH : Pt := (.cs (.var (.cs (.own 1) (jC (.cs (.own 2) (jC (.cs .bool (jC (.cs (.own 3) .nl)))))))) (.cs (.row 3 true) (.cs (.row 1 true) (.cs (.row 3 true) .nl))))
def v (l : TA) (y : XA) : AV U := jB y.1
def hh (l : TA) (y : XA) : Hp U := [.var [.own 1, jI l.2.1.2.1, .own 2, jI y.2.1, jB y.2.2.1, jI y.2.2.2, .own 3], .row 3 l.2.2.1 true, .row 1 l.2.2.2.1 true, .row 3 (d4 l).1 true]
def A : AFun U := mkA pA pH (X := XA) (fun l => (tl l).run) sp1 v hh
def body := bodyOf Try.f94
def E : Env U := E0.mk5 [(108, flash_fuse_blows.A)] [] [] [] []
theorem hk : HK E Try.f94 [] pA pH tl v hh := fun _ _ _ => by kernel_rfl
theorem og : SoundF Try.prog cc 94 A ∧ FnOK Try.prog 94 :=
 og_of (E := E) P_mixed (E0_ok.mk5 _ _ _ _ _) (gam_of (all_cons flash_fuse_blows.og all_nil) no_ro) Try.func94 (c := body) (by kernel_rfl)
    (just_by (by kernel_rfl) (by kernel_rfl) all_nil all_nil) [] sp1_ok hk (by kernel_rfl)
end flash_Flash_write

/-! (*instar/flash.fuse).mask -/
namespace flash_fuse_mask
abbrev TA : Type := ((Unit × (Int × Unit)) × ((Unit × (Int × (Unit × (Int × (Bool × (Int × (Unit × Unit))))))) × ((List Int) × ((List Int) × ((List Int) × Unit)))))
def t (i h0_1 h0_3 : Int) (h0_4 : Bool) (h0_5 : Int) (h1 : (List Int)) (h2 : (List Int)) (h3 : (List Int)) : Tw Int :=
 (.bb ((((List.length h3) : Nat) : Int) == (0 : Int))
 (.ret (0 : Int))
 (.dd (((((List.length h3) : Nat) : Int) = (0 : Int))) inferInstance
 .no
 (.dd ((((0 : Int) ≤ (Int.tmod i (((List.length h3) : Nat) : Int))) ∧ ((Int.tmod i (((List.length h3) : Nat) : Int)) < (((List.length h3) : Nat) : Int)))) inferInstance
 (.opt (h3)[(Int.toNat (Int.tmod i (((List.length h3) : Nat) : Int)))]? fun z1 =>
 (.ret z1))
 .no)))
def c (i h0_1 h0_3 : Int) (h0_4 : Bool) (h0_5 : Int) (h1 : (List Int)) (h2 : (List Int)) (h3 : (List Int)) : Option Int := (t i h0_1 h0_3 h0_4 h0_5 h1 h2 h3).run
def tl (l : TA) : Tw Int := t l.1.2.1 l.2.1.2.1 l.2.1.2.2.2.1 (d4 l.2.1).1 (d4 l.2.1).2.1 l.2.2.1 l.2.2.2.1 (d4 l).1
def pA : Pt := (.cs (.ptr 0 5) (jC .nl))
def pH : Pt := (.cs (.var (.cs (.own 1) (jC (.cs (.own 2) (jC (.cs .bool (jC (.cs (.own 3) .nl)))))))) (.cs (.row 3 true) (.cs (.row 1 true) (.cs (.row 3 true) .nl))))
def v (l : TA) (y : Int) : AV U := .im (.int .u32 y)
def hh (l : TA) (y : Int) : Hp U := [.var [.own 1, jI l.2.1.2.1, .own 2, jI l.2.1.2.2.2.1, jB (d4 l.2.1).1, jI (d4 l.2.1).2.1, .own 3], .row 3 l.2.2.1 true, .row 1 l.2.2.2.1 true, .row 3 (d4 l).1 true]
def A : AFun U := mkA pA pH (X := Int) (fun l => (tl l).run) sp1 v hh
def body := bodyOf Try.f95
def E : Env U := E0.mk5 [] [] [] [] []
theorem hk : HK E Try.f95 [] pA pH tl v hh := fun _ _ _ => by kernel_rfl
theorem og : SoundF Try.prog cc 95 A ∧ FnOK Try.prog 95 :=
 og_of (E := E) P_mixed (E0_ok.mk5 _ _ _ _ _) (gam_of all_nil all_nil) Try.func95 (c := body) (by kernel_rfl)
    (just_by (by kernel_rfl) (by kernel_rfl) all_nil all_nil) [] sp1_ok hk (by kernel_rfl)
theorem keep : KeepA A := mkA_keep sp1_ok (fun (l : TA) y => ⟨(hh l y).drop 4, by kernel_rfl⟩)
end flash_fuse_mask

/-! (*instar/flash.Flash).Erase -/
namespace flash_Flash_Erase
abbrev TA : Type := ((Unit × (Int × Unit)) × ((Unit × (Int × (Unit × (Int × (Bool × (Int × (Unit × Unit))))))) × ((List Int) × ((List Int) × ((List Int) × Unit)))))
abbrev XA : Type := (Int × (Int × (Bool × (Int × ((List Int) × (List Int))))))
abbrev T8 : Type := ((Unit × (Unit × (Bool × (Int × ((Nat × Nat) × (Unit × Unit)))))) × ((Unit × (Int × (Unit × (Int × (Bool × (Int × (Unit × Unit))))))) × ((List Int) × ((List Int) × ((List Int) × Unit)))))
abbrev S8 : Type := (Int × (List Int))
def l8 (torn : Bool) (sector_o : Nat) (sector_n : Nat) (h0_1 h0_3 : Int) (h0_4 : Bool) (h0_5 : Int) (h2 : (List Int)) (h3 : (List Int)) (i : Int) (h1 : (List Int)) : Tw (S8 ⊕ (List Int)) :=
 (.bb (decide (i < h0_1))
 (.bb torn
 (.opt (flash_fuse_mask.c i h0_1 h0_3 h0_4 h0_5 h1 h2 h3) fun z9 =>
 (.dd ((((0 : Int) ≤ i) ∧ (i < ((sector_n : Nat) : Int)))) inferInstance
 (.opt (h1)[(sector_o + (Int.toNat i))]? fun z10 =>
 (.opt (word_Raised.c z10 z9) fun z11 =>
 (.dd ((((0 : Int) ≤ i) ∧ (i < ((sector_n : Nat) : Int)))) inferInstance
 (.opt (h1)[(sector_o + (Int.toNat i))]? fun z12 =>
 (.ret (.inl ((w64 (i + (1 : Int))), (List.set h1 (sector_o + (Int.toNat i)) z11)))))
 .no)))
 .no))
 (.dd ((((0 : Int) ≤ i) ∧ (i < ((sector_n : Nat) : Int)))) inferInstance
 (.opt (h1)[(sector_o + (Int.toNat i))]? fun z6 =>
 (.opt (word_Raised.c z6 (4294967295 : Int)) fun z7 =>
 (.dd ((((0 : Int) ≤ i) ∧ (i < ((sector_n : Nat) : Int)))) inferInstance
 (.opt (h1)[(sector_o + (Int.toNat i))]? fun z8 =>
 (.ret (.inl ((w64 (i + (1 : Int))), (List.set h1 (sector_o + (Int.toNat i)) z7)))))
 .no)))
 .no))
 (.ret (.inr h1)))
def L8 (torn : Bool) (i : Int) (sector_o : Nat) (sector_n : Nat) (h0_1 h0_3 : Int) (h0_4 : Bool) (h0_5 : Int) (h1 : (List Int)) (h2 : (List Int)) (h3 : (List Int)) : Option (List Int) := Lp (fun s => (l8 torn sector_o sector_n h0_1 h0_3 h0_4 h0_5 h2 h3 s.1 s.2).run) (i, h1)
def p8 : Pt := (.cs (.ptr 0 0) (.cs (.bots 7) (.cs .bool (jC (.cs (.sub 1 1) (.cs (.bots 64) .nl))))))
def q8 : Pt := (.cs (.var (.cs (.own 1) (jC (.cs (.own 2) (jC (.cs .bool (jC (.cs (.own 3) .nl)))))))) (.cs (.row 3 true) (.cs (.row 1 true) (.cs (.row 3 true) .nl))))
def ou8 (l : T8) (y : (List Int)) : Ex × St U := (.exit 0, stOf 75 [(0, .ptr 0 0), (8, jB l.1.2.2.1)] [.var [.own 1, jI l.2.1.2.1, .own 2, jI l.2.1.2.2.2.1, jB (d4 l.2.1).1, jI (d4 l.2.1).2.1, .own 3], .row 3 y true, .row 1 l.2.2.2.1 true, .row 3 (d4 l).1 true] 4)
def Λ8 : LFun U := mkLp p8 q8 4 (X := (List Int)) (fun (l : T8) => L8 l.1.2.2.1 l.1.2.2.2.1 l.1.2.2.2.2.1.1 l.1.2.2.2.2.1.2 l.2.1.2.1 l.2.1.2.2.2.1 (d4 l.2.1).1 (d4 l.2.1).2.1 l.2.2.1 l.2.2.2.1 (d4 l).1) sp1 ou8
def hd8 (l : T8) (s : S8) : T8 := (((), ((), (l.1.2.2.1, (s.1, ((l.1.2.2.2.2.1.1, l.1.2.2.2.2.1.2), ((), ())))))), (((), (l.2.1.2.1, ((), (l.2.1.2.2.2.1, ((d4 l.2.1).1, ((d4 l.2.1).2.1, ((), ()))))))), (s.2, (l.2.2.2.1, ((d4 l).1, ())))))
def fl8 (l : T8) (s : S8) : Tw (S8 ⊕ (List Int)) := l8 l.1.2.2.1 l.1.2.2.2.2.1.1 l.1.2.2.2.2.1.2 l.2.1.2.1 l.2.1.2.2.2.1 (d4 l.2.1).1 (d4 l.2.1).2.1 l.2.2.2.1 (d4 l).1 s.1 s.2
def t (s_ h0_1 h0_3 : Int) (h0_4 : Bool) (h0_5 : Int) (h1 : (List Int)) (h2 : (List Int)) (h3 : (List Int)) : Tw XA :=
 (.opt (flash_Flash_Size.c h0_1 h0_3 h0_4 h0_5 h1 h2 h3) fun z1 =>
 (.opt (flash_Flash_may.c s_ z1 h0_1 h0_3 h0_4 h0_5 h1 h2 h3) fun z2 =>
 (.bb (z2 != (0 : Int))
 (.ret (z2, (h0_3, (h0_4, (h0_5, (h1, h2))))))
 (.dd ((((0 : Int) ≤ s_) ∧ (s_ < (((List.length h2) : Nat) : Int)))) inferInstance
 (.opt (h2)[(Int.toNat s_)]? fun z3 =>
 (.dd ((((0 : Int) ≤ s_) ∧ (s_ < (((List.length h2) : Nat) : Int)))) inferInstance
 (.opt (h2)[(Int.toNat s_)]? fun z4 =>
 (.opt (flash_Flash_write.c h0_1 h0_3 h0_4 h0_5 h1 (List.set h2 (Int.toNat s_) (w64 (z3 + (1 : Int)))) h3) fun z5 =>
 (.dd ((((0 : Int) ≤ (w64 (s_ * h0_1))) ∧ ((w64 (s_ * h0_1)) ≤ (((List.length h1) : Nat) : Int)))) inferInstance
 (.dd ((((0 : Int) ≤ h0_1) ∧ (h0_1 ≤ ((((List.length h1) - (Int.toNat (w64 (s_ * h0_1)))) : Nat) : Int)))) inferInstance
 (.opt (L8 z5.1 (0 : Int) ((Int.toNat (w64 (s_ * h0_1))) + (0 : Nat)) ((Int.toNat h0_1) - (0 : Nat)) h0_1 z5.2.1 z5.2.2.1 z5.2.2.2 h1 (List.set h2 (Int.toNat s_) (w64 (z3 + (1 : Int)))) h3) fun z13 =>
 (.bb z5.1
 (.ret ((10 : Int), (z5.2.1, (z5.2.2.1, (z5.2.2.2, (z13, (List.set h2 (Int.toNat s_) (w64 (z3 + (1 : Int))))))))))
 (.ret ((0 : Int), (z5.2.1, (z5.2.2.1, (z5.2.2.2, (z13, (List.set h2 (Int.toNat s_) (w64 (z3 + (1 : Int))))))))))))
 .no)
 .no)))
 .no))
 .no))))
def c (s_ h0_1 h0_3 : Int) (h0_4 : Bool) (h0_5 : Int) (h1 : (List Int)) (h2 : (List Int)) (h3 : (List Int)) : Option XA := (t s_ h0_1 h0_3 h0_4 h0_5 h1 h2 h3).run
def tl (l : TA) : Tw XA := t l.1.2.1 l.2.1.2.1 l.2.1.2.2.2.1 (d4 l.2.1).1 (d4 l.2.1).2.1 l.2.2.1 l.2.2.2.1 (d4 l).1
def pA : Pt := (.cs (.ptr 0 0) (jC .nl))
def pH : Pt := (.cs (.var (.cs (.own 1) (jC (.cs (.own 2) (jC (.cs .bool (jC (.cs (.own 3) .nl)))))))) (.cs (.row 3 true) (.cs (.row 1 true) (.cs (.row 3 true) .nl))))
def v (l : TA) (y : XA) : AV U := jI y.1
def hh (l : TA) (y : XA) : Hp U := [.var [.own 1, jI l.2.1.2.1, .own 2, jI y.2.1, jB y.2.2.1, jI y.2.2.2.1, .own 3], .row 3 (d4 y).1 true, .row 1 (d4 y).2 true, .row 3 (d4 l).1 true]
def A : AFun U := mkA pA pH (X := XA) (fun l => (tl l).run) sp1 v hh
def body := bodyOf Try.f67
def E : Env U := E0.mk5 [(38, flash_Flash_Size.A), (93, flash_Flash_may.A), (94, flash_Flash_write.A), (96, word_Raised.A), (95, flash_fuse_mask.A)] [(8, Λ8)] [] [(8, ⟨[9, 10, 0, 8], []⟩, ⟨[4, 0, 8], []⟩)] [38, 93, 95]
theorem hf8 : HF E (pick (loopsOf body) 8) p8 q8 4 fl8 hd8 sp1 ou8 := fun _ _ _ _ => by kernel_rfl
theorem lk8 : LK E (pick (loopsOf body) 8) Λ8 := fun R st K r h =>
  lp_ok (E := E) (b := pick (loopsOf body) 8) (m := 4) (sp := sp1) (p := p8) (q := q8) (X := (List Int)) (S := S8) (f := fl8) (hd := hd8) (s0 := fun (l : T8) => (l.1.2.2.2.1, l.2.2.1)) (ou := ou8)
    (fun l => rfl) (fun l x => by rfl) sp1_ok hf8 h
theorem hk : HK E Try.f67 [] pA pH tl v hh := fun _ _ _ => by kernel_rfl
theorem og : SoundF Try.prog cc 67 A ∧ FnOK Try.prog 67 :=
 og_of (E := E) P_mixed (E0_ok.mk5 _ _ _ _ _) (gam_of (all_cons flash_Flash_Size.og (all_cons flash_Flash_may.og (all_cons flash_Flash_write.og (all_cons word_Raised.og (all_cons flash_fuse_mask.og all_nil))))) (all_cons (fun _ => flash_Flash_Size.keep) (all_cons (fun _ => flash_Flash_may.keep) (all_cons (no_keep (by kernel_rfl)) (all_cons (no_keep (by kernel_rfl)) (all_cons (fun _ => flash_fuse_mask.keep) all_nil)))))) Try.func67 (c := body) (by kernel_rfl)
    (just_by (by kernel_rfl) (by kernel_rfl) (all_cons lk8 all_nil) all_nil) [] sp1_ok hk (by kernel_rfl)
end flash_Flash_Erase

/-! (*instar/flash.Flash).Program -/
namespace flash_Flash_Program
abbrev TA : Type := ((Unit × (Int × (Int × Unit))) × ((Unit × (Int × (Unit × (Int × (Bool × (Int × (Unit × Unit))))))) × ((List Int) × ((List Int) × ((List Int) × Unit)))))
abbrev XA : Type := (Int × (Int × (Bool × (Int × (List Int)))))
def t (a x h0_1 h0_3 : Int) (h0_4 : Bool) (h0_5 : Int) (h1 : (List Int)) (h2 : (List Int)) (h3 : (List Int)) : Tw XA :=
 (.opt (flash_Flash_words.c h0_1 h0_3 h0_4 h0_5 h1 h2 h3) fun z1 =>
 (.opt (flash_Flash_may.c a z1 h0_1 h0_3 h0_4 h0_5 h1 h2 h3) fun z2 =>
 (.bb (z2 != (0 : Int))
 (.ret (z2, (h0_3, (h0_4, (h0_5, h1)))))
 (.dd ((((0 : Int) ≤ a) ∧ (a < (((List.length h1) : Nat) : Int)))) inferInstance
 (.opt (h1)[(Int.toNat a)]? fun z3 =>
 (.opt (word_Within.c x z3) fun z4 =>
 (.bb (!z4)
 (.ret ((11 : Int), (h0_3, (h0_4, (h0_5, h1)))))
 (.opt (flash_Flash_write.c h0_1 h0_3 h0_4 h0_5 h1 h2 h3) fun z5 =>
 (.bb z5.1
 (.dd ((((0 : Int) ≤ a) ∧ (a < (((List.length h1) : Nat) : Int)))) inferInstance
 (.opt (h1)[(Int.toNat a)]? fun z7 =>
 (.opt (flash_fuse_mask.c (0 : Int) h0_1 z5.2.1 z5.2.2.1 z5.2.2.2 h1 h2 h3) fun z8 =>
 (.opt (word_Torn.c z7 x z8) fun z9 =>
 (.dd ((((0 : Int) ≤ a) ∧ (a < (((List.length h1) : Nat) : Int)))) inferInstance
 (.opt (h1)[(Int.toNat a)]? fun z10 =>
 (.ret ((10 : Int), (z5.2.1, (z5.2.2.1, (z5.2.2.2, (List.set h1 (Int.toNat a) z9)))))))
 .no))))
 .no)
 (.dd ((((0 : Int) ≤ a) ∧ (a < (((List.length h1) : Nat) : Int)))) inferInstance
 (.opt (h1)[(Int.toNat a)]? fun z6 =>
 (.ret ((0 : Int), (z5.2.1, (z5.2.2.1, (z5.2.2.2, (List.set h1 (Int.toNat a) x)))))))
 .no))))))
 .no))))
def c (a x h0_1 h0_3 : Int) (h0_4 : Bool) (h0_5 : Int) (h1 : (List Int)) (h2 : (List Int)) (h3 : (List Int)) : Option XA := (t a x h0_1 h0_3 h0_4 h0_5 h1 h2 h3).run
def tl (l : TA) : Tw XA := t l.1.2.1 l.1.2.2.1 l.2.1.2.1 l.2.1.2.2.2.1 (d4 l.2.1).1 (d4 l.2.1).2.1 l.2.2.1 l.2.2.2.1 (d4 l).1
def pA : Pt := (.cs (.ptr 0 0) (jC (.cs (.int .u32) .nl)))
def pH : Pt := (.cs (.var (.cs (.own 1) (jC (.cs (.own 2) (jC (.cs .bool (jC (.cs (.own 3) .nl)))))))) (.cs (.row 3 true) (.cs (.row 1 true) (.cs (.row 3 true) .nl))))
def v (l : TA) (y : XA) : AV U := jI y.1
def hh (l : TA) (y : XA) : Hp U := [.var [.own 1, jI l.2.1.2.1, .own 2, jI y.2.1, jB y.2.2.1, jI y.2.2.2.1, .own 3], .row 3 (d4 y) true, .row 1 l.2.2.2.1 true, .row 3 (d4 l).1 true]
def A : AFun U := mkA pA pH (X := XA) (fun l => (tl l).run) sp1 v hh
def body := bodyOf Try.f86
def E : Env U := E0.mk5 [(105, flash_Flash_words.A), (93, flash_Flash_may.A), (84, word_Within.A), (94, flash_Flash_write.A), (95, flash_fuse_mask.A), (106, word_Torn.A)] [] [] [] [105, 93, 95]
theorem hk : HK E Try.f86 [] pA pH tl v hh := fun _ _ _ => by kernel_rfl
theorem og : SoundF Try.prog cc 86 A ∧ FnOK Try.prog 86 :=
 og_of (E := E) P_mixed (E0_ok.mk5 _ _ _ _ _) (gam_of (all_cons flash_Flash_words.og (all_cons flash_Flash_may.og (all_cons word_Within.og (all_cons flash_Flash_write.og (all_cons flash_fuse_mask.og (all_cons word_Torn.og all_nil)))))) (all_cons (fun _ => flash_Flash_words.keep) (all_cons (fun _ => flash_Flash_may.keep) (all_cons (no_keep (by kernel_rfl)) (all_cons (no_keep (by kernel_rfl)) (all_cons (fun _ => flash_fuse_mask.keep) (all_cons (no_keep (by kernel_rfl)) all_nil))))))) Try.func86 (c := body) (by kernel_rfl)
    (just_by (by kernel_rfl) (by kernel_rfl) all_nil all_nil) [] sp1_ok hk (by kernel_rfl)
end flash_Flash_Program

end
end Go.Proofs.Ytkoidgjgdhpdnaa.Va
