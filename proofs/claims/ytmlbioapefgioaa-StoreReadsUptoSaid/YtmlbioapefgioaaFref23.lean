/- The functions of package ref23, as plain functions, and that the program computes them. Printed by a program of this work out of the evaluator. -/
import Derived.Test.YtmlbioapefgioaaEn
import Derived.Tactics
import Derived.Test.YtmlbioapefgioaaFref01
set_option linter.unusedVariables false
namespace Go.Proofs.Ytmlbioapefgioaa.Va
noncomputable section
open Go
set_option maxRecDepth 100000

/-! instar/instarref23.Cost -/
namespace ref23_Cost
abbrev TA : Type := (((Int × (ByteArray × Unit)) × Unit) × Unit)
def t (x_0 : Int) (x_1 : ByteArray) : Tw Int :=
 (.opt (ref01_Need.c (((ByteArray.size x_1) : Nat) : Int)) fun z1 =>
 (.ret (w64 ((2 : Int) + z1))))
def c (x_0 : Int) (x_1 : ByteArray) : Option Int := (t x_0 x_1).run
def tl (l : TA) : Tw Int := t l.1.1.1 l.1.1.2.1
def pA : Pt := (.cs (.agg (.cs (.int .u32) (.cs .str .nl))) .nl)
def pH : Pt := .nl
def v (l : TA) (y : Int) : AV U := jI y
def hh (l : TA) (y : Int) : Hp U := []
def A : AFun U := mkA pA pH (X := Int) (fun l => (tl l).run) sp1 v hh
def body := bodyOf Try.f61
def E : Env U := E0.mk5 [(98, ref01_Need.A)] [] [] [] []
theorem hk : HK E Try.f61 [] pA pH tl v hh := fun _ _ _ => by kernel_rfl
theorem og : SoundF Try.prog cc 61 A ∧ FnOK Try.prog 61 :=
 og_of (E := E) P_mixed (E0_ok.mk5 _ _ _ _ _) (gam_of (all_cons ref01_Need.og all_nil) no_ro) Try.func61 (c := body) (by kernel_rfl)
    (just_by (by kernel_rfl) (by kernel_rfl) all_nil all_nil) [] sp1_ok hk (by kernel_rfl)
end ref23_Cost

/-! instar/instarref23.Total -/
namespace ref23_Total
abbrev TA : Type := (((List ItemV) × Unit) × Unit)
abbrev T3 : Type := (((List ItemV) × (Unit × (Int × (Int × (Unit × Unit))))) × Unit)
abbrev S3 : Type := (Int × Int)
def l3 (l_ : (List ItemV)) (n i : Int) : Tw (S3 ⊕ Int) :=
 (.bb (decide (i < (((List.length l_) : Nat) : Int)))
 (.dd (((0 : Int) ≤ i)) inferInstance
 (.opt (l_)[(Int.toNat i)]? fun z1 =>
 (.opt (ref23_Cost.c z1.key z1.data) fun z2 =>
 (.ret (.inl ((w64 (n + z2)), (w64 (i + (1 : Int))))))))
 .no)
 (.ret (.inr n)))
def L3 (l_ : (List ItemV)) (n i : Int) : Option Int := Lp (fun s => (l3 l_ s.1 s.2).run) (n, i)
def p3 : Pt := (.cs (.sl 10) (.cs (.bots 2) (jC (jC (.cs (.bots 14) .nl)))))
def q3 : Pt := .nl
def ou3 (l : T3) (y : Int) : Ex × St U := (.exit 0, stOf 19 [(3, jI y)] [] 0)
def Λ3 : LFun U := mkLp p3 q3 0 (X := Int) (fun (l : T3) => L3 l.1.1 l.1.2.2.1 l.1.2.2.2.1) sp1 ou3
def hd3 (l : T3) (s : S3) : T3 := ((l.1.1, ((), (s.1, (s.2, ((), ()))))), ())
def fl3 (l : T3) (s : S3) : Tw (S3 ⊕ Int) := l3 l.1.1 s.1 s.2
def t (l_ : (List ItemV)) : Tw Int :=
 (.opt (L3 l_ (0 : Int) (0 : Int)) fun z3 =>
 (.ret z3))
def c (l_ : (List ItemV)) : Option Int := (t l_).run
def tl (l : TA) : Tw Int := t l.1.1
def pA : Pt := (.cs (.sl 10) .nl)
def pH : Pt := .nl
def v (l : TA) (y : Int) : AV U := jI y
def hh (l : TA) (y : Int) : Hp U := []
def A : AFun U := mkA pA pH (X := Int) (fun l => (tl l).run) sp1 v hh
def body := bodyOf Try.f57
def E : Env U := E0.mk5 [(61, ref23_Cost.A)] [(3, Λ3)] [] [(3, ⟨[4, 0, 3], []⟩, ⟨[2, 3], []⟩)] []
theorem hf3 : HF E (pick (loopsOf body) 3) p3 q3 0 fl3 hd3 sp1 ou3 := fun _ _ _ _ => by kernel_rfl
theorem lk3 : LK E (pick (loopsOf body) 3) Λ3 := fun R st K r h =>
  lp_ok (E := E) (b := pick (loopsOf body) 3) (m := 0) (sp := sp1) (p := p3) (q := q3) (X := Int) (S := S3) (f := fl3) (hd := hd3) (s0 := fun (l : T3) => (l.1.2.2.1, l.1.2.2.2.1)) (ou := ou3)
    (fun l => rfl) (fun l x => by rfl) sp1_ok hf3 h
theorem hk : HK E Try.f57 [] pA pH tl v hh := fun _ _ _ => by kernel_rfl
theorem og : SoundF Try.prog cc 57 A ∧ FnOK Try.prog 57 :=
 og_of (E := E) P_mixed (E0_ok.mk5 _ _ _ _ _) (gam_of (all_cons ref23_Cost.og all_nil) no_ro) Try.func57 (c := body) (by kernel_rfl)
    (just_by (by kernel_rfl) (by kernel_rfl) (all_cons lk3 all_nil) all_nil) [] sp1_ok hk (by kernel_rfl)
end ref23_Total

end
end Go.Proofs.Ytmlbioapefgioaa.Va
