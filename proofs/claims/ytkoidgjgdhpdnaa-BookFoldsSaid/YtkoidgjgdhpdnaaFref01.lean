/- The functions of package ref01, as plain functions, and that the program computes them. Printed by a program of this work out of the evaluator. -/
import Derived.Test.YtkoidgjgdhpdnaaEn
import Derived.Tactics
set_option linter.unusedVariables false
namespace Go.Proofs.Ytkoidgjgdhpdnaa.Va
noncomputable section
open Go
set_option maxRecDepth 100000

/-! instar/instarref01.bit -/
namespace ref01_bit
abbrev TA : Type := ((Int × (Int × Unit)) × Unit)
abbrev T2 : Type := ((Int × (Int × (Unit × (Int × (Unit × Unit))))) × Unit)
abbrev S2 : Type := (Int × Int)
def l2 (i x k : Int) : Tw (S2 ⊕ Int) :=
 (.bb (decide (k < i))
 (.ret (.inl ((w32 (Int.tdiv x (2 : Int))), (w64 (k + (1 : Int))))))
 (.ret (.inr x)))
def L2 (x i k : Int) : Option Int := Lp (fun s => (l2 i s.1 s.2).run) (x, k)
def p2 : Pt := (.cs (.int .u32) (jC (.cs (.bots 3) (jC (.cs (.bots 9) .nl)))))
def q2 : Pt := .nl
def ou2 (l : T2) (y : Int) : Ex × St U := (.exit 0, stOf 15 [(0, .im (.int .u32 y))] [] 0)
def Λ2 : LFun U := mkLp p2 q2 0 (X := Int) (fun (l : T2) => L2 l.1.1 l.1.2.1 l.1.2.2.2.1) sp1 ou2
def hd2 (l : T2) (s : S2) : T2 := ((s.1, (l.1.2.1, ((), (s.2, ((), ()))))), ())
def fl2 (l : T2) (s : S2) : Tw (S2 ⊕ Int) := l2 l.1.2.1 s.1 s.2
def t (x i : Int) : Tw Int :=
 (.opt (L2 x i (0 : Int)) fun z1 =>
 (.ret (Int.tmod z1 (2 : Int))))
def c (x i : Int) : Option Int := (t x i).run
def tl (l : TA) : Tw Int := t l.1.1 l.1.2.1
def pA : Pt := (.cs (.int .u32) (jC .nl))
def pH : Pt := .nl
def v (l : TA) (y : Int) : AV U := .im (.int .u32 y)
def hh (l : TA) (y : Int) : Hp U := []
def A : AFun U := mkA pA pH (X := Int) (fun l => (tl l).run) sp1 v hh
def body := bodyOf Try.f101
def E : Env U := E0.mk5 [] [(2, Λ2)] [] [(2, ⟨[5, 0, 1], []⟩, ⟨[4, 0], []⟩)] []
theorem hf2 : HF E (pick (loopsOf body) 2) p2 q2 0 fl2 hd2 sp1 ou2 := fun _ _ _ _ => by kernel_rfl
theorem lk2 : LK E (pick (loopsOf body) 2) Λ2 := fun R st K r h =>
  lp_ok (E := E) (b := pick (loopsOf body) 2) (m := 0) (sp := sp1) (p := p2) (q := q2) (X := Int) (S := S2) (f := fl2) (hd := hd2) (s0 := fun (l : T2) => (l.1.1, l.1.2.2.2.1)) (ou := ou2)
    (fun l => rfl) (fun l x => by rfl) sp1_ok hf2 h
theorem hk : HK E Try.f101 [] pA pH tl v hh := fun _ _ _ => by kernel_rfl
theorem og : SoundF Try.prog cc 101 A ∧ FnOK Try.prog 101 :=
 og_of (E := E) P_mixed (E0_ok.mk5 _ _ _ _ _) (gam_of all_nil all_nil) Try.func101 (c := body) (by kernel_rfl)
    (just_by (by kernel_rfl) (by kernel_rfl) (all_cons lk2 all_nil) all_nil) [] sp1_ok hk (by kernel_rfl)
end ref01_bit

/-! instar/instarref01.Bits -/
namespace ref01_Bits
abbrev TA : Type := ((Int × (Int × (Int × (Int × Unit)))) × Unit)
abbrev T4 : Type := ((Int × (Int × (Int × (Int × (Unit × (Int × (Int × (Int × (Unit × Unit))))))))) × Unit)
abbrev S4 : Type := (Int × (Int × Int))
def l4 (was x mask kind out worth i : Int) : Tw (S4 ⊕ Int) :=
 (.bb (decide (i < (32 : Int)))
 (.opt (ref01_bit.c was i) fun z1 =>
 (.opt (ref01_bit.c x i) fun z2 =>
 (.opt (ref01_bit.c mask i) fun z3 =>
 (.bb (kind == (0 : Int))
 (.bb (z1 == (1 : Int))
 (.bb (z2 == (0 : Int))
 (.ret (.inl ((w32 (out + worth)), ((w32 (worth * (2 : Int))), (w64 (i + (1 : Int)))))))
 (.ret (.inl (out, ((w32 (worth * (2 : Int))), (w64 (i + (1 : Int))))))))
 (.ret (.inl (out, ((w32 (worth * (2 : Int))), (w64 (i + (1 : Int))))))))
 (.bb (kind == (1 : Int))
 (.bb (z1 == (1 : Int))
 (.bb (z2 == (0 : Int))
 (.bb (!(z3 == (1 : Int)))
 (.ret (.inl ((w32 (out + worth)), ((w32 (worth * (2 : Int))), (w64 (i + (1 : Int)))))))
 (.ret (.inl (out, ((w32 (worth * (2 : Int))), (w64 (i + (1 : Int))))))))
 (.ret (.inl ((w32 (out + worth)), ((w32 (worth * (2 : Int))), (w64 (i + (1 : Int))))))))
 (.ret (.inl (out, ((w32 (worth * (2 : Int))), (w64 (i + (1 : Int))))))))
 (.bb (kind == (2 : Int))
 (.bb (z1 == (1 : Int))
 (.ret (.inl ((w32 (out + worth)), ((w32 (worth * (2 : Int))), (w64 (i + (1 : Int)))))))
 (.bb (z3 == (1 : Int))
 (.ret (.inl ((w32 (out + worth)), ((w32 (worth * (2 : Int))), (w64 (i + (1 : Int)))))))
 (.ret (.inl (out, ((w32 (worth * (2 : Int))), (w64 (i + (1 : Int)))))))))
 (.ret (.inl (out, ((w32 (worth * (2 : Int))), (w64 (i + (1 : Int)))))))))))))
 (.ret (.inr out)))
def L4 (was x mask kind out worth i : Int) : Option Int := Lp (fun s => (l4 was x mask kind s.1 s.2.1 s.2.2).run) (out, (worth, i))
def p4 : Pt := (.cs (.int .u32) (.cs (.int .u32) (.cs (.int .u32) (jC (.cs (.bots 5) (.cs (.int .u32) (.cs (.int .u32) (jC (.cs (.bots 54) .nl)))))))))
def q4 : Pt := .nl
def ou4 (l : T4) (y : Int) : Ex × St U := (.exit 0, stOf 66 [(9, .im (.int .u32 y))] [] 0)
def Λ4 : LFun U := mkLp p4 q4 0 (X := Int) (fun (l : T4) => L4 l.1.1 l.1.2.1 l.1.2.2.1 l.1.2.2.2.1 (d4 l.1).2.1 (d4 l.1).2.2.1 (d4 l.1).2.2.2.1) sp1 ou4
def hd4 (l : T4) (s : S4) : T4 := ((l.1.1, (l.1.2.1, (l.1.2.2.1, (l.1.2.2.2.1, ((), (s.1, (s.2.1, (s.2.2, ((), ()))))))))), ())
def fl4 (l : T4) (s : S4) : Tw (S4 ⊕ Int) := l4 l.1.1 l.1.2.1 l.1.2.2.1 l.1.2.2.2.1 s.1 s.2.1 s.2.2
def t (was x mask kind : Int) : Tw Int :=
 (.opt (L4 was x mask kind (0 : Int) (1 : Int) (0 : Int)) fun z4 =>
 (.ret z4))
def c (was x mask kind : Int) : Option Int := (t was x mask kind).run
def tl (l : TA) : Tw Int := t l.1.1 l.1.2.1 l.1.2.2.1 l.1.2.2.2.1
def pA : Pt := (.cs (.int .u32) (.cs (.int .u32) (.cs (.int .u32) (jC .nl))))
def pH : Pt := .nl
def v (l : TA) (y : Int) : AV U := .im (.int .u32 y)
def hh (l : TA) (y : Int) : Hp U := []
def A : AFun U := mkA pA pH (X := Int) (fun l => (tl l).run) sp1 v hh
def body := bodyOf Try.f79
def E : Env U := E0.mk5 [(101, ref01_bit.A)] [(4, Λ4)] [] [(4, ⟨[11, 10, 9, 3, 2, 1, 0], []⟩, ⟨[8, 9], []⟩)] []
theorem hf4 : HF E (pick (loopsOf body) 4) p4 q4 0 fl4 hd4 sp1 ou4 := fun _ _ _ _ => by kernel_rfl
theorem lk4 : LK E (pick (loopsOf body) 4) Λ4 := fun R st K r h =>
  lp_ok (E := E) (b := pick (loopsOf body) 4) (m := 0) (sp := sp1) (p := p4) (q := q4) (X := Int) (S := S4) (f := fl4) (hd := hd4) (s0 := fun (l : T4) => ((d4 l.1).2.1, ((d4 l.1).2.2.1, (d4 l.1).2.2.2.1))) (ou := ou4)
    (fun l => rfl) (fun l x => by rfl) sp1_ok hf4 h
theorem hk : HK E Try.f79 [] pA pH tl v hh := fun _ _ _ => by kernel_rfl
theorem og : SoundF Try.prog cc 79 A ∧ FnOK Try.prog 79 :=
 og_of (E := E) P_mixed (E0_ok.mk5 _ _ _ _ _) (gam_of (all_cons ref01_bit.og all_nil) no_ro) Try.func79 (c := body) (by kernel_rfl)
    (just_by (by kernel_rfl) (by kernel_rfl) (all_cons lk4 all_nil) all_nil) [] sp1_ok hk (by kernel_rfl)
end ref01_Bits

/-! instar/instarref01.Ones -/
namespace ref01_Ones
abbrev TA : Type := ((Int × Unit) × Unit)
abbrev T3 : Type := ((Int × (Unit × (Int × (Int × (Unit × Unit))))) × Unit)
abbrev S3 : Type := (Int × Int)
def l3 (x n i : Int) : Tw (S3 ⊕ Int) :=
 (.bb (decide (i < (32 : Int)))
 (.opt (ref01_bit.c x i) fun z1 =>
 (.ret (.inl ((w64 (n + (w64 z1))), (w64 (i + (1 : Int)))))))
 (.ret (.inr n)))
def L3 (x n i : Int) : Option Int := Lp (fun s => (l3 x s.1 s.2).run) (n, i)
def p3 : Pt := (.cs (.int .u32) (.cs (.bots 2) (jC (jC (.cs (.bots 11) .nl)))))
def q3 : Pt := .nl
def ou3 (l : T3) (y : Int) : Ex × St U := (.exit 0, stOf 16 [(3, jI y)] [] 0)
def Λ3 : LFun U := mkLp p3 q3 0 (X := Int) (fun (l : T3) => L3 l.1.1 l.1.2.2.1 l.1.2.2.2.1) sp1 ou3
def hd3 (l : T3) (s : S3) : T3 := ((l.1.1, ((), (s.1, (s.2, ((), ()))))), ())
def fl3 (l : T3) (s : S3) : Tw (S3 ⊕ Int) := l3 l.1.1 s.1 s.2
def t (x : Int) : Tw Int :=
 (.opt (L3 x (0 : Int) (0 : Int)) fun z2 =>
 (.ret z2))
def c (x : Int) : Option Int := (t x).run
def tl (l : TA) : Tw Int := t l.1.1
def pA : Pt := (.cs (.int .u32) .nl)
def pH : Pt := .nl
def v (l : TA) (y : Int) : AV U := jI y
def hh (l : TA) (y : Int) : Hp U := []
def A : AFun U := mkA pA pH (X := Int) (fun l => (tl l).run) sp1 v hh
def body := bodyOf Try.f109
def E : Env U := E0.mk5 [(101, ref01_bit.A)] [(3, Λ3)] [] [(3, ⟨[4, 0, 3], []⟩, ⟨[2, 3], []⟩)] []
theorem hf3 : HF E (pick (loopsOf body) 3) p3 q3 0 fl3 hd3 sp1 ou3 := fun _ _ _ _ => by kernel_rfl
theorem lk3 : LK E (pick (loopsOf body) 3) Λ3 := fun R st K r h =>
  lp_ok (E := E) (b := pick (loopsOf body) 3) (m := 0) (sp := sp1) (p := p3) (q := q3) (X := Int) (S := S3) (f := fl3) (hd := hd3) (s0 := fun (l : T3) => (l.1.2.2.1, l.1.2.2.2.1)) (ou := ou3)
    (fun l => rfl) (fun l x => by rfl) sp1_ok hf3 h
theorem hk : HK E Try.f109 [] pA pH tl v hh := fun _ _ _ => by kernel_rfl
theorem og : SoundF Try.prog cc 109 A ∧ FnOK Try.prog 109 :=
 og_of (E := E) P_mixed (E0_ok.mk5 _ _ _ _ _) (gam_of (all_cons ref01_bit.og all_nil) no_ro) Try.func109 (c := body) (by kernel_rfl)
    (just_by (by kernel_rfl) (by kernel_rfl) (all_cons lk3 all_nil) all_nil) [] sp1_ok hk (by kernel_rfl)
end ref01_Ones

end
end Go.Proofs.Ytkoidgjgdhpdnaa.Va
