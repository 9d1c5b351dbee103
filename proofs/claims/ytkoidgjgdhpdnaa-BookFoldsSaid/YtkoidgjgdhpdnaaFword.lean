/- The functions of package word, as plain functions, and that the program computes them. Printed by a program of this work out of the evaluator. -/
import Derived.Test.YtkoidgjgdhpdnaaEn
import Derived.Tactics
set_option linter.unusedVariables false
namespace Go.Proofs.Ytkoidgjgdhpdnaa.Va
noncomputable section
open Go
set_option maxRecDepth 100000

/-! instar/word.Raised -/
namespace word_Raised
abbrev TA : Type := ((Int × (Int × Unit)) × Unit)
def t (was mask : Int) : Tw Int :=
 (.ret (bOr .u32 was mask))
def c (was mask : Int) : Option Int := (t was mask).run
def tl (l : TA) : Tw Int := t l.1.1 l.1.2.1
def pA : Pt := (.cs (.int .u32) (.cs (.int .u32) .nl))
def pH : Pt := .nl
def v (l : TA) (y : Int) : AV U := .im (.int .u32 y)
def hh (l : TA) (y : Int) : Hp U := []
def A : AFun U := mkA pA pH (X := Int) (fun l => (tl l).run) sp1 v hh
def body := bodyOf Try.f96
def E : Env U := E0.mk5 [] [] [] [] []
theorem hk : HK E Try.f96 [] pA pH tl v hh := fun _ _ _ => by kernel_rfl
theorem og : SoundF Try.prog cc 96 A ∧ FnOK Try.prog 96 :=
 og_of (E := E) P_mixed (E0_ok.mk5 _ _ _ _ _) (gam_of all_nil all_nil) Try.func96 (c := body) (by kernel_rfl)
    (just_by (by kernel_rfl) (by kernel_rfl) all_nil all_nil) [] sp1_ok hk (by kernel_rfl)
end word_Raised

/-! instar/word.Ones -/
namespace word_Ones
abbrev TA : Type := ((Int × Unit) × Unit)
abbrev T2 : Type := ((Int × (Unit × (Int × (Unit × Unit)))) × Unit)
abbrev S2 : Type := (Int × Int)
def l2 (x n : Int) : Tw (S2 ⊕ Int) :=
 (.bb (x != (0 : Int))
 (.ret (.inl ((bAnd .u32 x (w32 (x - (1 : Int)))), (w64 (n + (1 : Int))))))
 (.ret (.inr n)))
def L2 (x n : Int) : Option Int := Lp (fun s => (l2 s.1 s.2).run) (x, n)
def p2 : Pt := (.cs (.int .u32) (.cs (.bots 2) (jC (.cs (.bots 9) .nl))))
def q2 : Pt := .nl
def ou2 (l : T2) (y : Int) : Ex × St U := (.exit 0, stOf 13 [(3, jI y)] [] 0)
def Λ2 : LFun U := mkLp p2 q2 0 (X := Int) (fun (l : T2) => L2 l.1.1 l.1.2.2.1) sp1 ou2
def hd2 (l : T2) (s : S2) : T2 := ((s.1, ((), (s.2, ((), ())))), ())
def fl2 (l : T2) (s : S2) : Tw (S2 ⊕ Int) := l2 s.1 s.2
def t (x : Int) : Tw Int :=
 (.opt (L2 x (0 : Int)) fun z1 =>
 (.ret z1))
def c (x : Int) : Option Int := (t x).run
def tl (l : TA) : Tw Int := t l.1.1
def pA : Pt := (.cs (.int .u32) .nl)
def pH : Pt := .nl
def v (l : TA) (y : Int) : AV U := jI y
def hh (l : TA) (y : Int) : Hp U := []
def A : AFun U := mkA pA pH (X := Int) (fun l => (tl l).run) sp1 v hh
def body := bodyOf Try.f110
def E : Env U := E0.mk5 [] [(2, Λ2)] [] [(2, ⟨[0, 3], []⟩, ⟨[2, 3], []⟩)] []
theorem hf2 : HF E (pick (loopsOf body) 2) p2 q2 0 fl2 hd2 sp1 ou2 := fun _ _ _ _ => by kernel_rfl
theorem lk2 : LK E (pick (loopsOf body) 2) Λ2 := fun R st K r h =>
  lp_ok (E := E) (b := pick (loopsOf body) 2) (m := 0) (sp := sp1) (p := p2) (q := q2) (X := Int) (S := S2) (f := fl2) (hd := hd2) (s0 := fun (l : T2) => (l.1.1, l.1.2.2.1)) (ou := ou2)
    (fun l => rfl) (fun l x => by rfl) sp1_ok hf2 h
theorem hk : HK E Try.f110 [] pA pH tl v hh := fun _ _ _ => by kernel_rfl
theorem og : SoundF Try.prog cc 110 A ∧ FnOK Try.prog 110 :=
 og_of (E := E) P_mixed (E0_ok.mk5 _ _ _ _ _) (gam_of all_nil all_nil) Try.func110 (c := body) (by kernel_rfl)
    (just_by (by kernel_rfl) (by kernel_rfl) (all_cons lk2 all_nil) all_nil) [] sp1_ok hk (by kernel_rfl)
end word_Ones

/-! instar/word.Within -/
namespace word_Within
abbrev TA : Type := ((Int × (Int × Unit)) × Unit)
def t (a b : Int) : Tw Bool :=
 (.ret ((bAndn .u32 a b) == (0 : Int)))
def c (a b : Int) : Option Bool := (t a b).run
def tl (l : TA) : Tw Bool := t l.1.1 l.1.2.1
def pA : Pt := (.cs (.int .u32) (.cs (.int .u32) .nl))
def pH : Pt := .nl
def v (l : TA) (y : Bool) : AV U := jB y
def hh (l : TA) (y : Bool) : Hp U := []
def A : AFun U := mkA pA pH (X := Bool) (fun l => (tl l).run) sp1 v hh
def body := bodyOf Try.f84
def E : Env U := E0.mk5 [] [] [] [] []
theorem hk : HK E Try.f84 [] pA pH tl v hh := fun _ _ _ => by kernel_rfl
theorem og : SoundF Try.prog cc 84 A ∧ FnOK Try.prog 84 :=
 og_of (E := E) P_mixed (E0_ok.mk5 _ _ _ _ _) (gam_of all_nil all_nil) Try.func84 (c := body) (by kernel_rfl)
    (just_by (by kernel_rfl) (by kernel_rfl) all_nil all_nil) [] sp1_ok hk (by kernel_rfl)
end word_Within

/-! instar/word.Torn -/
namespace word_Torn
abbrev TA : Type := ((Int × (Int × (Int × Unit))) × Unit)
def t (was x mask : Int) : Tw Int :=
 (.ret (bAndn .u32 was (bAndn .u32 mask x)))
def c (was x mask : Int) : Option Int := (t was x mask).run
def tl (l : TA) : Tw Int := t l.1.1 l.1.2.1 l.1.2.2.1
def pA : Pt := (.cs (.int .u32) (.cs (.int .u32) (.cs (.int .u32) .nl)))
def pH : Pt := .nl
def v (l : TA) (y : Int) : AV U := .im (.int .u32 y)
def hh (l : TA) (y : Int) : Hp U := []
def A : AFun U := mkA pA pH (X := Int) (fun l => (tl l).run) sp1 v hh
def body := bodyOf Try.f106
def E : Env U := E0.mk5 [] [] [] [] []
theorem hk : HK E Try.f106 [] pA pH tl v hh := fun _ _ _ => by kernel_rfl
theorem og : SoundF Try.prog cc 106 A ∧ FnOK Try.prog 106 :=
 og_of (E := E) P_mixed (E0_ok.mk5 _ _ _ _ _) (gam_of all_nil all_nil) Try.func106 (c := body) (by kernel_rfl)
    (just_by (by kernel_rfl) (by kernel_rfl) all_nil all_nil) [] sp1_ok hk (by kernel_rfl)
end word_Torn

end
end Go.Proofs.Ytkoidgjgdhpdnaa.Va
