/- The functions of package ref02, as plain functions, and that the program computes them. Printed by a program of this work out of the evaluator. -/
import Derived.Test.YtkoidgjgdhpdnaaEn
import Derived.Tactics
import Derived.Test.YtkoidgjgdhpdnaaFref01
set_option linter.unusedVariables false
namespace Go.Proofs.Ytkoidgjgdhpdnaa.Va
noncomputable section
open Go
set_option maxRecDepth 100000

/-! instar/instarref02.Twin -/
namespace ref02_Twin
abbrev TA : Type := ((Int × Unit) × Unit)
def t (n : Int) : Tw Int :=
 (.ret (w32 ((w32 ((w32 (w64 ((65535 : Int) - n))) * (65536 : Int))) + (w32 n))))
def c (n : Int) : Option Int := (t n).run
def tl (l : TA) : Tw Int := t l.1.1
def pA : Pt := (jC .nl)
def pH : Pt := .nl
def v (l : TA) (y : Int) : AV U := .im (.int .u32 y)
def hh (l : TA) (y : Int) : Hp U := []
def A : AFun U := mkA pA pH (X := Int) (fun l => (tl l).run) sp1 v hh
def body := bodyOf Try.f76
def E : Env U := E0.mk5 [] [] [] [] []
theorem hk : HK E Try.f76 [] pA pH tl v hh := fun _ _ _ => by kernel_rfl
theorem og : SoundF Try.prog cc 76 A ∧ FnOK Try.prog 76 :=
 og_of (E := E) P_mixed (E0_ok.mk5 _ _ _ _ _) (gam_of all_nil all_nil) Try.func76 (c := body) (by kernel_rfl)
    (just_by (by kernel_rfl) (by kernel_rfl) all_nil all_nil) [] sp1_ok hk (by kernel_rfl)
end ref02_Twin

/-! instar/instarref02.Sum -/
namespace ref02_Sum
abbrev TA : Type := (((List Int) × Unit) × Unit)
abbrev T3 : Type := (((List Int) × (Unit × (Int × (Int × (Unit × Unit))))) × Unit)
abbrev S3 : Type := (Int × Int)
def l3 (l_ : (List Int)) (n i : Int) : Tw (S3 ⊕ Int) :=
 (.bb (decide (i < (((List.length l_) : Nat) : Int)))
 (.dd (((0 : Int) ≤ i)) inferInstance
 (.opt (l_)[(Int.toNat i)]? fun z1 =>
 (.opt (ref01_Ones.c z1) fun z2 =>
 (.ret (.inl ((w32 ((w32 (n + (32 : Int))) - (w32 z2))), (w64 (i + (1 : Int))))))))
 .no)
 (.ret (.inr n)))
def L3 (l_ : (List Int)) (n i : Int) : Option Int := Lp (fun s => (l3 l_ s.1 s.2).run) (n, i)
def p3 : Pt := (.cs (.sl 3) (.cs (.bots 2) (.cs (.int .u32) (jC (.cs (.bots 16) .nl)))))
def q3 : Pt := .nl
def ou3 (l : T3) (y : Int) : Ex × St U := (.exit 0, stOf 21 [(3, .im (.int .u32 y))] [] 0)
def Λ3 : LFun U := mkLp p3 q3 0 (X := Int) (fun (l : T3) => L3 l.1.1 l.1.2.2.1 l.1.2.2.2.1) sp1 ou3
def hd3 (l : T3) (s : S3) : T3 := ((l.1.1, ((), (s.1, (s.2, ((), ()))))), ())
def fl3 (l : T3) (s : S3) : Tw (S3 ⊕ Int) := l3 l.1.1 s.1 s.2
def t (l_ : (List Int)) : Tw Int :=
 (.opt (L3 l_ (0 : Int) (0 : Int)) fun z3 =>
 (.ret z3))
def c (l_ : (List Int)) : Option Int := (t l_).run
def tl (l : TA) : Tw Int := t l.1.1
def pA : Pt := (.cs (.sl 3) .nl)
def pH : Pt := .nl
def v (l : TA) (y : Int) : AV U := .im (.int .u32 y)
def hh (l : TA) (y : Int) : Hp U := []
def A : AFun U := mkA pA pH (X := Int) (fun l => (tl l).run) sp1 v hh
def body := bodyOf Try.f100
def E : Env U := E0.mk5 [(109, ref01_Ones.A)] [(3, Λ3)] [] [(3, ⟨[4, 0, 3], []⟩, ⟨[2, 3], []⟩)] []
theorem hf3 : HF E (pick (loopsOf body) 3) p3 q3 0 fl3 hd3 sp1 ou3 := fun _ _ _ _ => by kernel_rfl
theorem lk3 : LK E (pick (loopsOf body) 3) Λ3 := fun R st K r h =>
  lp_ok (E := E) (b := pick (loopsOf body) 3) (m := 0) (sp := sp1) (p := p3) (q := q3) (X := Int) (S := S3) (f := fl3) (hd := hd3) (s0 := fun (l : T3) => (l.1.2.2.1, l.1.2.2.2.1)) (ou := ou3)
    (fun l => rfl) (fun l x => by rfl) sp1_ok hf3 h
theorem hk : HK E Try.f100 [] pA pH tl v hh := fun _ _ _ => by kernel_rfl
theorem og : SoundF Try.prog cc 100 A ∧ FnOK Try.prog 100 :=
 og_of (E := E) P_mixed (E0_ok.mk5 _ _ _ _ _) (gam_of (all_cons ref01_Ones.og all_nil) no_ro) Try.func100 (c := body) (by kernel_rfl)
    (just_by (by kernel_rfl) (by kernel_rfl) (all_cons lk3 all_nil) all_nil) [] sp1_ok hk (by kernel_rfl)
end ref02_Sum

/-! instar/instarref02.Seal -/
namespace ref02_Seal
abbrev TA : Type := (((List Int) × Unit) × Unit)
def t (l_ : (List Int)) : Tw (List Int) :=
 (.dd (((((List.length l_) * (4 : Nat)) ≤ (140737488355328 : Nat)) ∧ ((List.length l_) ≤ (140737488355328 : Nat)))) inferInstance
 (.opt (ref02_Sum.c l_) fun z1 =>
 (.dd ((((((List.length l_) + (List.length (z1 :: ([] : List (Int))))) * (4 : Nat)) ≤ (140737488355328 : Nat)) ∧ (((List.length l_) + (List.length (z1 :: ([] : List (Int))))) ≤ (140737488355328 : Nat)))) inferInstance
 (.ret (l_ ++ (z1 :: ([] : List (Int)))))
 .no))
 .no)
def c (l_ : (List Int)) : Option (List Int) := (t l_).run
def tl (l : TA) : Tw (List Int) := t l.1.1
def pA : Pt := (.cs (.sl 3) .nl)
def pH : Pt := .nl
def v (l : TA) (y : (List Int)) : AV U := .own 0
def hh (l : TA) (y : (List Int)) : Hp U := [.row 3 y true]
def A : AFun U := mkA pA pH (X := (List Int)) (fun l => (tl l).run) sp1 v hh
def body := bodyOf Try.f77
def E : Env U := E0.mk5 [(100, ref02_Sum.A)] [] [] [] []
theorem hk : HK E Try.f77 [] pA pH tl v hh := fun _ _ _ => by kernel_rfl
theorem og : SoundF Try.prog cc 77 A ∧ FnOK Try.prog 77 :=
 og_of (E := E) P_mixed (E0_ok.mk5 _ _ _ _ _) (gam_of (all_cons ref02_Sum.og all_nil) no_ro) Try.func77 (c := body) (by kernel_rfl)
    (just_by (by kernel_rfl) (by kernel_rfl) all_nil all_nil) [] sp1_ok hk (by kernel_rfl)
end ref02_Seal

end
end Go.Proofs.Ytkoidgjgdhpdnaa.Va
