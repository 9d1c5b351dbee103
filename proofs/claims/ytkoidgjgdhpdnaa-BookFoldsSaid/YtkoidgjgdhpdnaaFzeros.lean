/- The functions of package zeros, as plain functions, and that the program computes them. Printed by a program of this work out of the evaluator. -/
import Derived.Test.YtkoidgjgdhpdnaaEn
import Derived.Tactics
import Derived.Test.YtkoidgjgdhpdnaaFword
set_option linter.unusedVariables false
namespace Go.Proofs.Ytkoidgjgdhpdnaa.Va
noncomputable section
open Go
set_option maxRecDepth 100000

/-! instar/zeros.Twin -/
namespace zeros_Twin
abbrev TA : Type := ((Int × Unit) × Unit)
abbrev XA : Type := (Int × Int)
def t (n : Int) : Tw XA :=
 (.bb (decide (n < (0 : Int)))
 (.ret ((0 : Int), (2 : Int)))
 (.bb (decide (n > (65535 : Int)))
 (.ret ((0 : Int), (2 : Int)))
 (.ret ((bOr .u32 (w32 n) (bShl .u32 (w32 (w64 ((65535 : Int) - n))) (16 : Int))), (0 : Int)))))
def c (n : Int) : Option XA := (t n).run
def tl (l : TA) : Tw XA := t l.1.1
def pA : Pt := (jC .nl)
def pH : Pt := .nl
def v (l : TA) (y : XA) : AV U := .tup [.im (.int .u32 y.1), jI y.2]
def hh (l : TA) (y : XA) : Hp U := []
def A : AFun U := mkA pA pH (X := XA) (fun l => (tl l).run) sp1 v hh
def body := bodyOf Try.f82
def E : Env U := E0.mk5 [] [] [] [] []
theorem hk : HK E Try.f82 [] pA pH tl v hh := fun _ _ _ => by kernel_rfl
theorem og : SoundF Try.prog cc 82 A ∧ FnOK Try.prog 82 :=
 og_of (E := E) P_mixed (E0_ok.mk5 _ _ _ _ _) (gam_of all_nil all_nil) Try.func82 (c := body) (by kernel_rfl)
    (just_by (by kernel_rfl) (by kernel_rfl) all_nil all_nil) [] sp1_ok hk (by kernel_rfl)
end zeros_Twin

/-! instar/zeros.Sum -/
namespace zeros_Sum
abbrev TA : Type := (((List Int) × Unit) × Unit)
abbrev T3 : Type := ((Unit × (Int × (Unit × ((List Int) × (Int × (Int × (Unit × Unit))))))) × Unit)
abbrev S3 : Type := (Int × Int)
def l3 (k6 : (List Int)) (k7 n k8 : Int) : Tw (S3 ⊕ Int) :=
 (.bb (decide (k8 < k7))
 (.dd (((0 : Int) ≤ k8)) inferInstance
 (.opt (k6)[(Int.toNat k8)]? fun z1 =>
 (.opt (word_Ones.c z1) fun z2 =>
 (.ret (.inl ((w64 (n + (w64 ((32 : Int) - z2)))), (w64 (k8 + (1 : Int))))))))
 .no)
 (.ret (.inr n)))
def L3 (n : Int) (k6 : (List Int)) (k7 k8 : Int) : Option Int := Lp (fun s => (l3 k6 k7 s.1 s.2).run) (n, k8)
def p3 : Pt := (.cs (.bots 3) (jC (.cs (.bots 2) (.cs (.sl 3) (jC (jC (.cs (.bots 11) .nl)))))))
def q3 : Pt := .nl
def ou3 (l : T3) (y : Int) : Ex × St U := (.exit 0, stOf 20 [(3, jI y)] [] 0)
def Λ3 : LFun U := mkLp p3 q3 0 (X := Int) (fun (l : T3) => L3 l.1.2.1 l.1.2.2.2.1 (d4 l.1).1 (d4 l.1).2.1) sp1 ou3
def hd3 (l : T3) (s : S3) : T3 := (((), (s.1, ((), (l.1.2.2.2.1, ((d4 l.1).1, (s.2, ((), ()))))))), ())
def fl3 (l : T3) (s : S3) : Tw (S3 ⊕ Int) := l3 l.1.2.2.2.1 (d4 l.1).1 s.1 s.2
def t (l_ : (List Int)) : Tw Int :=
 (.opt (L3 (0 : Int) l_ (((List.length l_) : Nat) : Int) (0 : Int)) fun z3 =>
 (.ret (w32 z3)))
def c (l_ : (List Int)) : Option Int := (t l_).run
def tl (l : TA) : Tw Int := t l.1.1
def pA : Pt := (.cs (.sl 3) .nl)
def pH : Pt := .nl
def v (l : TA) (y : Int) : AV U := .im (.int .u32 y)
def hh (l : TA) (y : Int) : Hp U := []
def A : AFun U := mkA pA pH (X := Int) (fun l => (tl l).run) sp1 v hh
def body := bodyOf Try.f103
def E : Env U := E0.mk5 [(110, word_Ones.A)] [(3, Λ3)] [] [(3, ⟨[8, 3, 6, 7], []⟩, ⟨[2, 3], []⟩)] []
theorem hf3 : HF E (pick (loopsOf body) 3) p3 q3 0 fl3 hd3 sp1 ou3 := fun _ _ _ _ => by kernel_rfl
theorem lk3 : LK E (pick (loopsOf body) 3) Λ3 := fun R st K r h =>
  lp_ok (E := E) (b := pick (loopsOf body) 3) (m := 0) (sp := sp1) (p := p3) (q := q3) (X := Int) (S := S3) (f := fl3) (hd := hd3) (s0 := fun (l : T3) => (l.1.2.1, (d4 l.1).2.1)) (ou := ou3)
    (fun l => rfl) (fun l x => by rfl) sp1_ok hf3 h
theorem hk : HK E Try.f103 [] pA pH tl v hh := fun _ _ _ => by kernel_rfl
theorem og : SoundF Try.prog cc 103 A ∧ FnOK Try.prog 103 :=
 og_of (E := E) P_mixed (E0_ok.mk5 _ _ _ _ _) (gam_of (all_cons word_Ones.og all_nil) no_ro) Try.func103 (c := body) (by kernel_rfl)
    (just_by (by kernel_rfl) (by kernel_rfl) (all_cons lk3 all_nil) all_nil) [] sp1_ok hk (by kernel_rfl)
end zeros_Sum

/-! instar/zeros.Seal -/
namespace zeros_Seal
abbrev TA : Type := (((List Int) × Unit) × Unit)
def t (l_ : (List Int)) : Tw (List Int) :=
 (.dd ((((0 : Int) ≤ (w64 ((((List.length l_) : Nat) : Int) + (1 : Int)))) ∧ (((w64 ((((List.length l_) : Nat) : Int) + (1 : Int))) ≤ (w64 ((((List.length l_) : Nat) : Int) + (1 : Int)))) ∧ (((w64 ((((List.length l_) : Nat) : Int) + (1 : Int))) ≤ (140737488355328 : Int)) ∧ (((w64 ((((List.length l_) : Nat) : Int) + (1 : Int))) * (((4 : Nat) : Nat) : Int)) ≤ (140737488355328 : Int)))))) inferInstance
 (.opt (zeros_Sum.c l_) fun z1 =>
 (.dd ((((0 : Int) ≤ (((List.length l_) : Nat) : Int)) ∧ ((((List.length l_) : Nat) : Int) < (((List.length ((List.take (List.length (List.replicate (Int.toNat (w64 ((((List.length l_) : Nat) : Int) + (1 : Int)))) (0 : Int))) l_) ++ (List.drop (List.length l_) (List.replicate (Int.toNat (w64 ((((List.length l_) : Nat) : Int) + (1 : Int)))) (0 : Int))))) : Nat) : Int)))) inferInstance
 (.opt (((List.take (List.length (List.replicate (Int.toNat (w64 ((((List.length l_) : Nat) : Int) + (1 : Int)))) (0 : Int))) l_) ++ (List.drop (List.length l_) (List.replicate (Int.toNat (w64 ((((List.length l_) : Nat) : Int) + (1 : Int)))) (0 : Int)))))[(Int.toNat (((List.length l_) : Nat) : Int))]? fun z2 =>
 (.ret (List.set ((List.take (List.length (List.replicate (Int.toNat (w64 ((((List.length l_) : Nat) : Int) + (1 : Int)))) (0 : Int))) l_) ++ (List.drop (List.length l_) (List.replicate (Int.toNat (w64 ((((List.length l_) : Nat) : Int) + (1 : Int)))) (0 : Int)))) (Int.toNat (((List.length l_) : Nat) : Int)) z1)))
 .no))
 .no)
def c (l_ : (List Int)) : Option (List Int) := (t l_).run
def tl (l : TA) : Tw (List Int) := t l.1.1
def pA : Pt := (.cs (.sl 3) .nl)
def pH : Pt := .nl
def v (l : TA) (y : (List Int)) : AV U := .own 0
def hh (l : TA) (y : (List Int)) : Hp U := [.row 3 y true]
def A : AFun U := mkA pA pH (X := (List Int)) (fun l => (tl l).run) sp1 v hh
def body := bodyOf Try.f83
def E : Env U := E0.mk5 [(103, zeros_Sum.A)] [] [] [] []
theorem hk : HK E Try.f83 [] pA pH tl v hh := fun _ _ _ => by kernel_rfl
theorem og : SoundF Try.prog cc 83 A ∧ FnOK Try.prog 83 :=
 og_of (E := E) P_mixed (E0_ok.mk5 _ _ _ _ _) (gam_of (all_cons zeros_Sum.og all_nil) no_ro) Try.func83 (c := body) (by kernel_rfl)
    (just_by (by kernel_rfl) (by kernel_rfl) all_nil all_nil) [] sp1_ok hk (by kernel_rfl)
end zeros_Seal

/-! instar/zeros.Told -/
namespace zeros_Told
abbrev TA : Type := ((Int × Unit) × Unit)
abbrev XA : Type := (Int × Bool)
def t (x : Int) : Tw XA :=
 (.bb ((bShr .u32 x (16 : Int)) != (bAnd .u32 (bNot .u32 x) (65535 : Int)))
 (.ret ((0 : Int), false))
 (.ret ((w64 (bAnd .u32 x (65535 : Int))), true)))
def c (x : Int) : Option XA := (t x).run
def tl (l : TA) : Tw XA := t l.1.1
def pA : Pt := (.cs (.int .u32) .nl)
def pH : Pt := .nl
def v (l : TA) (y : XA) : AV U := .tup [jI y.1, jB y.2]
def hh (l : TA) (y : XA) : Hp U := []
def A : AFun U := mkA pA pH (X := XA) (fun l => (tl l).run) sp1 v hh
def body := bodyOf Try.f88
def E : Env U := E0.mk5 [] [] [] [] []
theorem hk : HK E Try.f88 [] pA pH tl v hh := fun _ _ _ => by kernel_rfl
theorem og : SoundF Try.prog cc 88 A ∧ FnOK Try.prog 88 :=
 og_of (E := E) P_mixed (E0_ok.mk5 _ _ _ _ _) (gam_of all_nil all_nil) Try.func88 (c := body) (by kernel_rfl)
    (just_by (by kernel_rfl) (by kernel_rfl) all_nil all_nil) [] sp1_ok hk (by kernel_rfl)
end zeros_Told

/-! instar/zeros.Right -/
namespace zeros_Right
abbrev TA : Type := (((List Int) × Unit) × Unit)
def t (l_ : (List Int)) : Tw Bool :=
 (.bb (decide ((w64 ((((List.length l_) : Nat) : Int) - (1 : Int))) ≥ (0 : Int)))
 (.dd (((0 : Int) ≤ (w64 ((((List.length l_) : Nat) : Int) - (1 : Int))))) inferInstance
 (.opt (l_)[(Int.toNat (w64 ((((List.length l_) : Nat) : Int) - (1 : Int))))]? fun z1 =>
 (.dd ((((0 : Int) ≤ (w64 ((((List.length l_) : Nat) : Int) - (1 : Int)))) ∧ ((w64 ((((List.length l_) : Nat) : Int) - (1 : Int))) ≤ (((List.length l_) : Nat) : Int)))) inferInstance
 (.opt (zeros_Sum.c (List.take (Int.toNat (w64 ((((List.length l_) : Nat) : Int) - (1 : Int)))) l_)) fun z2 =>
 (.ret (z1 == z2)))
 .no))
 .no)
 (.ret false))
def c (l_ : (List Int)) : Option Bool := (t l_).run
def tl (l : TA) : Tw Bool := t l.1.1
def pA : Pt := (.cs (.sl 3) .nl)
def pH : Pt := .nl
def v (l : TA) (y : Bool) : AV U := jB y
def hh (l : TA) (y : Bool) : Hp U := []
def A : AFun U := mkA pA pH (X := Bool) (fun l => (tl l).run) sp1 v hh
def body := bodyOf Try.f89
def E : Env U := E0.mk5 [(103, zeros_Sum.A)] [] [] [] []
theorem hk : HK E Try.f89 [] pA pH tl v hh := fun _ _ _ => by kernel_rfl
theorem og : SoundF Try.prog cc 89 A ∧ FnOK Try.prog 89 :=
 og_of (E := E) P_mixed (E0_ok.mk5 _ _ _ _ _) (gam_of (all_cons zeros_Sum.og all_nil) no_ro) Try.func89 (c := body) (by kernel_rfl)
    (just_by (by kernel_rfl) (by kernel_rfl) all_nil all_nil) [] sp1_ok hk (by kernel_rfl)
end zeros_Right

end
end Go.Proofs.Ytkoidgjgdhpdnaa.Va
