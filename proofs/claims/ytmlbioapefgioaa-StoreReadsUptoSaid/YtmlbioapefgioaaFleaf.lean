/- The functions of package leaf, as plain functions, and that the program computes them. Printed by a program of this work out of the evaluator. -/
import Derived.Test.YtmlbioapefgioaaEn
import Derived.Tactics
import Derived.Test.YtmlbioapefgioaaFword
set_option linter.unusedVariables false
namespace Go.Proofs.Ytmlbioapefgioaa.Va
noncomputable section
open Go
set_option maxRecDepth 100000

/-! instar/leaf.Cost -/
namespace leaf_Cost
abbrev TA : Type := (((Int × (ByteArray × Unit)) × Unit) × Unit)
def t (x_0 : Int) (x_1 : ByteArray) : Tw Int :=
 (.opt (word_Need.c (((ByteArray.size x_1) : Nat) : Int)) fun z1 =>
 (.ret (w64 ((2 : Int) + z1))))
def c (x_0 : Int) (x_1 : ByteArray) : Option Int := (t x_0 x_1).run
def tl (l : TA) : Tw Int := t l.1.1.1 l.1.1.2.1
def pA : Pt := (.cs (.agg (.cs (.int .u32) (.cs .str .nl))) .nl)
def pH : Pt := .nl
def v (l : TA) (y : Int) : AV U := jI y
def hh (l : TA) (y : Int) : Hp U := []
def A : AFun U := mkA pA pH (X := Int) (fun l => (tl l).run) sp1 v hh
def body := bodyOf Try.f96
def E : Env U := E0.mk5 [(119, word_Need.A)] [] [] [] []
theorem hk : HK E Try.f96 [] pA pH tl v hh := fun _ _ _ => by kernel_rfl
theorem og : SoundF Try.prog cc 96 A ∧ FnOK Try.prog 96 :=
 og_of (E := E) P_mixed (E0_ok.mk5 _ _ _ _ _) (gam_of (all_cons word_Need.og all_nil) no_ro) Try.func96 (c := body) (by kernel_rfl)
    (just_by (by kernel_rfl) (by kernel_rfl) all_nil all_nil) [] sp1_ok hk (by kernel_rfl)
end leaf_Cost

/-! instar/leaf.Total -/
namespace leaf_Total
abbrev TA : Type := (((List ItemV) × Unit) × Unit)
abbrev T3 : Type := ((Unit × (Int × (Unit × ((List ItemV) × (Int × (Int × (Unit × Unit))))))) × Unit)
abbrev S3 : Type := (Int × Int)
def l3 (k6 : (List ItemV)) (k7 n k8 : Int) : Tw (S3 ⊕ Int) :=
 (.bb (decide (k8 < k7))
 (.dd (((0 : Int) ≤ k8)) inferInstance
 (.opt (k6)[(Int.toNat k8)]? fun z1 =>
 (.opt (leaf_Cost.c z1.key z1.data) fun z2 =>
 (.ret (.inl ((w64 (n + z2)), (w64 (k8 + (1 : Int))))))))
 .no)
 (.ret (.inr n)))
def L3 (n : Int) (k6 : (List ItemV)) (k7 k8 : Int) : Option Int := Lp (fun s => (l3 k6 k7 s.1 s.2).run) (n, k8)
def p3 : Pt := (.cs (.bots 3) (jC (.cs (.bots 2) (.cs (.sl 10) (jC (jC (.cs (.bots 9) .nl)))))))
def q3 : Pt := .nl
def ou3 (l : T3) (y : Int) : Ex × St U := (.exit 0, stOf 18 [(3, jI y)] [] 0)
def Λ3 : LFun U := mkLp p3 q3 0 (X := Int) (fun (l : T3) => L3 l.1.2.1 l.1.2.2.2.1 (d4 l.1).1 (d4 l.1).2.1) sp1 ou3
def hd3 (l : T3) (s : S3) : T3 := (((), (s.1, ((), (l.1.2.2.2.1, ((d4 l.1).1, (s.2, ((), ()))))))), ())
def fl3 (l : T3) (s : S3) : Tw (S3 ⊕ Int) := l3 l.1.2.2.2.1 (d4 l.1).1 s.1 s.2
def t (l_ : (List ItemV)) : Tw Int :=
 (.opt (L3 (0 : Int) l_ (((List.length l_) : Nat) : Int) (0 : Int)) fun z3 =>
 (.ret z3))
def c (l_ : (List ItemV)) : Option Int := (t l_).run
def tl (l : TA) : Tw Int := t l.1.1
def pA : Pt := (.cs (.sl 10) .nl)
def pH : Pt := .nl
def v (l : TA) (y : Int) : AV U := jI y
def hh (l : TA) (y : Int) : Hp U := []
def A : AFun U := mkA pA pH (X := Int) (fun l => (tl l).run) sp1 v hh
def body := bodyOf Try.f55
def E : Env U := E0.mk5 [(96, leaf_Cost.A)] [(3, Λ3)] [] [(3, ⟨[8, 3, 6, 7], []⟩, ⟨[2, 3], []⟩)] []
theorem hf3 : HF E (pick (loopsOf body) 3) p3 q3 0 fl3 hd3 sp1 ou3 := fun _ _ _ _ => by kernel_rfl
theorem lk3 : LK E (pick (loopsOf body) 3) Λ3 := fun R st K r h =>
  lp_ok (E := E) (b := pick (loopsOf body) 3) (m := 0) (sp := sp1) (p := p3) (q := q3) (X := Int) (S := S3) (f := fl3) (hd := hd3) (s0 := fun (l : T3) => (l.1.2.1, (d4 l.1).2.1)) (ou := ou3)
    (fun l => rfl) (fun l x => by rfl) sp1_ok hf3 h
theorem hk : HK E Try.f55 [] pA pH tl v hh := fun _ _ _ => by kernel_rfl
theorem og : SoundF Try.prog cc 55 A ∧ FnOK Try.prog 55 :=
 og_of (E := E) P_mixed (E0_ok.mk5 _ _ _ _ _) (gam_of (all_cons leaf_Cost.og all_nil) no_ro) Try.func55 (c := body) (by kernel_rfl)
    (just_by (by kernel_rfl) (by kernel_rfl) (all_cons lk3 all_nil) all_nil) [] sp1_ok hk (by kernel_rfl)
end leaf_Total

end
end Go.Proofs.Ytmlbioapefgioaa.Va
