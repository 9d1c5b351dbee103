/- The functions of package ref01, as plain functions, and that the program computes them. Printed by a program of this work out of the evaluator. -/
import Derived.Test.YtkoidgjgdhpdnaaGreatEn
import Derived.Tactics
set_option linter.unusedVariables false
namespace Go.Proofs.YtkoidgjgdhpdnaaGreat.Va
noncomputable section
open Go
set_option maxRecDepth 100000

/-! instar/instarref01.bit -/
namespace ref01_bit
abbrev TA : Type := ((Int × (Int × Unit)) × Unit)
abbrev T2 : Type := ((Int × (Int × (Unit × (Int × (Unit × Unit))))) × Unit)
abbrev S2 : Type := (Int × Int)
def l2 (i x k : Int) : Tw (S2 ⊕ Int) :=
 (.bb (decide (k < i))
 (.ret (.inl ((w32 (Int.tdiv x (2 : Int))), (w64 (k + (1 : Int))))))
 (.ret (.inr x)))
def L2 (x i k : Int) : Option Int := Lp (fun s => (l2 i s.1 s.2).run) (x, k)
def p2 : Pt := (.cs (.int .u32) (jC (.cs (.bots 3) (jC (.cs (.bots 9) .nl)))))
def q2 : Pt := .nl
def ou2 (l : T2) (y : Int) : Ex × St U := (.exit 0, stOf 15 [(0, .im (.int .u32 y))] [] 0)
def Λ2 : LFun U := mkLp (U := U) p2 q2 0 (X := Int) (fun (l : T2) => L2 l.1.1 l.1.2.1 l.1.2.2.2.1) sp1 ou2
def hd2 (l : T2) (s : S2) : T2 := ((s.1, (l.1.2.1, ((), (s.2, ((), ()))))), ())
def fl2 (l : T2) (s : S2) : Tw (S2 ⊕ Int) := l2 l.1.2.1 s.1 s.2
def t (x i : Int) : Tw Int :=
 (.opt (L2 x i (0 : Int)) fun z1 =>
 (.ret (Int.tmod z1 (2 : Int))))
def c (x i : Int) : Option Int := (t x i).run
def tl (l : TA) : Tw Int := t l.1.1 l.1.2.1
def cl (l : TA) : Option Int := (tl l).run
def pA : Pt := (.cs (.int .u32) (jC .nl))
def pH : Pt := .nl
def v (l : TA) (y : Int) : AV U := .im (.int .u32 y)
def hh (l : TA) (y : Int) : Hp U := []
def A : AFun U := mkA (U := U) pA pH (X := Int) cl sp1 v hh
def body : Code := (Go.Func.body Tryz.f100).getD .skip
def Γ : List (FuncId × AFun U) := []
def Λ : List (Nat × LFun U) := [(2, Λ2)]
def CT : List (Nat × LFun U) := []
def ro : List FuncId := []
def D : Nat → Lv × Lv := dtab [(2, ⟨[5, 0, 1], []⟩, ⟨[4, 0], []⟩)]
def E : Env U := { E0 with Γ := Γ, Λ := Λ, C := CT, D := D, ro := ro }
theorem hf2 (R : Type) (l : T2) (s : S2) (K : Ex → St U → Option R) : codeA E (pick (loopsOf body) 2) ⟨p2.mkL (hd2 l s).1, q2.mkH (hd2 l s).2, 0⟩ (roundK E (pick (loopsOf body) 2) K) =
  (fl2 l s).runK (lpK K (fun s => ⟨p2.mkL (hd2 l s).1, q2.mkH (hd2 l s).2, 0⟩) sp1 (ou2 l)) := by kernel_rfl
theorem lk2 (R : Type) (st : St U) (K : Ex → St U → Option R) (r : R) (h : Λ2 R st K = some r) : ∃ n, loopA E (pick (loopsOf body) 2) n st K = some r :=
  lp_ok (U := U) (E := E) (b := pick (loopsOf body) 2) (m := 0) (sp := sp1) (p := p2) (q := q2) (X := Int) (S := S2) (f := fl2) (hd := hd2) (s0 := fun (l : T2) => (l.1.1, l.1.2.2.2.1)) (ou := ou2)
    (fun l => rfl) (fun l x => by rfl) sp1_ok hf2 h
theorem hk (R : Type) (l : TA) (K : AV U → Hp U → Option R) : funcA E Tryz.f100 [] R (pA.mkL l.1) (pH.mkH l.2) K = (tl l).runK fun y => K (v l y) (hh l y) := by kernel_rfl
theorem okF : SoundF Tryz.prog cc 100 (funcA E Tryz.f100 []) :=
  funcA_ok (E := E) P_mixed (E0_ok.with Γ Λ CT D ro) (gam_of all_nil all_nil) Tryz.func100 (c := body) (by kernel_rfl)
    (just_by (by kernel_rfl) (by kernel_rfl) (all_cons lk2 all_nil) all_nil) []
theorem ok : SoundF Tryz.prog cc 100 A :=
  mkA_ok (E := E) (p := pA) (q := pH) (t := tl) sp1_ok hk okF
theorem fo : FnOK Tryz.prog 100 := ⟨Tryz.f100, Tryz.func100, by kernel_rfl, by kernel_rfl⟩
theorem keep : KeepA A := mkA_keep (U := U) sp1_ok (fun (l : TA) y => ⟨(hh l y).drop 0, by kernel_rfl⟩)
end ref01_bit

/-! instar/instarref01.Bits -/
namespace ref01_Bits
abbrev TA : Type := ((Int × (Int × (Int × (Int × Unit)))) × Unit)
abbrev T4 : Type := ((Int × (Int × (Int × (Int × (Unit × (Int × (Int × (Int × (Unit × Unit))))))))) × Unit)
abbrev S4 : Type := (Int × (Int × Int))
def l4 (was x mask kind out worth i : Int) : Tw (S4 ⊕ Int) :=
 (.bb (decide (i < (32 : Int)))
 (.opt (ref01_bit.c was i) fun z1 =>
 (.opt (ref01_bit.c x i) fun z2 =>
 (.opt (ref01_bit.c mask i) fun z3 =>
 (.bb (kind == (0 : Int))
 (.bb (z1 == (1 : Int))
 (.bb (z2 == (0 : Int))
 (.ret (.inl ((w32 (out + worth)), ((w32 (worth * (2 : Int))), (w64 (i + (1 : Int)))))))
 (.ret (.inl (out, ((w32 (worth * (2 : Int))), (w64 (i + (1 : Int))))))))
 (.ret (.inl (out, ((w32 (worth * (2 : Int))), (w64 (i + (1 : Int))))))))
 (.bb (kind == (1 : Int))
 (.bb (z1 == (1 : Int))
 (.bb (z2 == (0 : Int))
 (.bb (!(z3 == (1 : Int)))
 (.ret (.inl ((w32 (out + worth)), ((w32 (worth * (2 : Int))), (w64 (i + (1 : Int)))))))
 (.ret (.inl (out, ((w32 (worth * (2 : Int))), (w64 (i + (1 : Int))))))))
 (.ret (.inl ((w32 (out + worth)), ((w32 (worth * (2 : Int))), (w64 (i + (1 : Int))))))))
 (.ret (.inl (out, ((w32 (worth * (2 : Int))), (w64 (i + (1 : Int))))))))
 (.bb (kind == (2 : Int))
 (.bb (z1 == (1 : Int))
 (.ret (.inl ((w32 (out + worth)), ((w32 (worth * (2 : Int))), (w64 (i + (1 : Int)))))))
 (.bb (z3 == (1 : Int))
 (.ret (.inl ((w32 (out + worth)), ((w32 (worth * (2 : Int))), (w64 (i + (1 : Int)))))))
 (.ret (.inl (out, ((w32 (worth * (2 : Int))), (w64 (i + (1 : Int)))))))))
 (.ret (.inl (out, ((w32 (worth * (2 : Int))), (w64 (i + (1 : Int)))))))))))))
 (.ret (.inr out)))
def L4 (was x mask kind out worth i : Int) : Option Int := Lp (fun s => (l4 was x mask kind s.1 s.2.1 s.2.2).run) (out, (worth, i))
def p4 : Pt := (.cs (.int .u32) (.cs (.int .u32) (.cs (.int .u32) (jC (.cs (.bots 5) (.cs (.int .u32) (.cs (.int .u32) (jC (.cs (.bots 54) .nl)))))))))
def q4 : Pt := .nl
def ou4 (l : T4) (y : Int) : Ex × St U := (.exit 0, stOf 66 [(9, .im (.int .u32 y))] [] 0)
def Λ4 : LFun U := mkLp (U := U) p4 q4 0 (X := Int) (fun (l : T4) => L4 l.1.1 l.1.2.1 l.1.2.2.1 l.1.2.2.2.1 l.1.2.2.2.2.2.1 l.1.2.2.2.2.2.2.1 l.1.2.2.2.2.2.2.2.1) sp1 ou4
def hd4 (l : T4) (s : S4) : T4 := ((l.1.1, (l.1.2.1, (l.1.2.2.1, (l.1.2.2.2.1, ((), (s.1, (s.2.1, (s.2.2, ((), ()))))))))), ())
def fl4 (l : T4) (s : S4) : Tw (S4 ⊕ Int) := l4 l.1.1 l.1.2.1 l.1.2.2.1 l.1.2.2.2.1 s.1 s.2.1 s.2.2
def t (was x mask kind : Int) : Tw Int :=
 (.opt (L4 was x mask kind (0 : Int) (1 : Int) (0 : Int)) fun z4 =>
 (.ret z4))
def c (was x mask kind : Int) : Option Int := (t was x mask kind).run
def tl (l : TA) : Tw Int := t l.1.1 l.1.2.1 l.1.2.2.1 l.1.2.2.2.1
def cl (l : TA) : Option Int := (tl l).run
def pA : Pt := (.cs (.int .u32) (.cs (.int .u32) (.cs (.int .u32) (jC .nl))))
def pH : Pt := .nl
def v (l : TA) (y : Int) : AV U := .im (.int .u32 y)
def hh (l : TA) (y : Int) : Hp U := []
def A : AFun U := mkA (U := U) pA pH (X := Int) cl sp1 v hh
def body : Code := (Go.Func.body Tryz.f78).getD .skip
def Γ : List (FuncId × AFun U) := [(100, ref01_bit.A)]
def Λ : List (Nat × LFun U) := [(4, Λ4)]
def CT : List (Nat × LFun U) := []
def ro : List FuncId := []
def D : Nat → Lv × Lv := dtab [(4, ⟨[11, 10, 9, 3, 2, 1, 0], []⟩, ⟨[8, 9], []⟩)]
def E : Env U := { E0 with Γ := Γ, Λ := Λ, C := CT, D := D, ro := ro }
theorem hf4 (R : Type) (l : T4) (s : S4) (K : Ex → St U → Option R) : codeA E (pick (loopsOf body) 4) ⟨p4.mkL (hd4 l s).1, q4.mkH (hd4 l s).2, 0⟩ (roundK E (pick (loopsOf body) 4) K) =
  (fl4 l s).runK (lpK K (fun s => ⟨p4.mkL (hd4 l s).1, q4.mkH (hd4 l s).2, 0⟩) sp1 (ou4 l)) := by kernel_rfl
theorem lk4 (R : Type) (st : St U) (K : Ex → St U → Option R) (r : R) (h : Λ4 R st K = some r) : ∃ n, loopA E (pick (loopsOf body) 4) n st K = some r :=
  lp_ok (U := U) (E := E) (b := pick (loopsOf body) 4) (m := 0) (sp := sp1) (p := p4) (q := q4) (X := Int) (S := S4) (f := fl4) (hd := hd4) (s0 := fun (l : T4) => (l.1.2.2.2.2.2.1, (l.1.2.2.2.2.2.2.1, l.1.2.2.2.2.2.2.2.1))) (ou := ou4)
    (fun l => rfl) (fun l x => by rfl) sp1_ok hf4 h
theorem hk (R : Type) (l : TA) (K : AV U → Hp U → Option R) : funcA E Tryz.f78 [] R (pA.mkL l.1) (pH.mkH l.2) K = (tl l).runK fun y => K (v l y) (hh l y) := by kernel_rfl
theorem okF : SoundF Tryz.prog cc 78 (funcA E Tryz.f78 []) :=
  funcA_ok (E := E) P_mixed (E0_ok.with Γ Λ CT D ro) (gam_of (all_cons ⟨ref01_bit.ok, ref01_bit.fo⟩ all_nil) no_ro) Tryz.func78 (c := body) (by kernel_rfl)
    (just_by (by kernel_rfl) (by kernel_rfl) (all_cons lk4 all_nil) all_nil) []
theorem ok : SoundF Tryz.prog cc 78 A :=
  mkA_ok (E := E) (p := pA) (q := pH) (t := tl) sp1_ok hk okF
theorem fo : FnOK Tryz.prog 78 := ⟨Tryz.f78, Tryz.func78, by kernel_rfl, by kernel_rfl⟩
theorem keep : KeepA A := mkA_keep (U := U) sp1_ok (fun (l : TA) y => ⟨(hh l y).drop 0, by kernel_rfl⟩)
end ref01_Bits

/-! instar/instarref01.Ones -/
namespace ref01_Ones
abbrev TA : Type := ((Int × Unit) × Unit)
abbrev T3 : Type := ((Int × (Unit × (Int × (Int × (Unit × Unit))))) × Unit)
abbrev S3 : Type := (Int × Int)
def l3 (x n i : Int) : Tw (S3 ⊕ Int) :=
 (.bb (decide (i < (32 : Int)))
 (.opt (ref01_bit.c x i) fun z1 =>
 (.ret (.inl ((w64 (n + (w64 z1))), (w64 (i + (1 : Int)))))))
 (.ret (.inr n)))
def L3 (x n i : Int) : Option Int := Lp (fun s => (l3 x s.1 s.2).run) (n, i)
def p3 : Pt := (.cs (.int .u32) (.cs (.bots 2) (jC (jC (.cs (.bots 11) .nl)))))
def q3 : Pt := .nl
def ou3 (l : T3) (y : Int) : Ex × St U := (.exit 0, stOf 16 [(3, jI y)] [] 0)
def Λ3 : LFun U := mkLp (U := U) p3 q3 0 (X := Int) (fun (l : T3) => L3 l.1.1 l.1.2.2.1 l.1.2.2.2.1) sp1 ou3
def hd3 (l : T3) (s : S3) : T3 := ((l.1.1, ((), (s.1, (s.2, ((), ()))))), ())
def fl3 (l : T3) (s : S3) : Tw (S3 ⊕ Int) := l3 l.1.1 s.1 s.2
def t (x : Int) : Tw Int :=
 (.opt (L3 x (0 : Int) (0 : Int)) fun z2 =>
 (.ret z2))
def c (x : Int) : Option Int := (t x).run
def tl (l : TA) : Tw Int := t l.1.1
def cl (l : TA) : Option Int := (tl l).run
def pA : Pt := (.cs (.int .u32) .nl)
def pH : Pt := .nl
def v (l : TA) (y : Int) : AV U := jI y
def hh (l : TA) (y : Int) : Hp U := []
def A : AFun U := mkA (U := U) pA pH (X := Int) cl sp1 v hh
def body : Code := (Go.Func.body Tryz.f108).getD .skip
def Γ : List (FuncId × AFun U) := [(100, ref01_bit.A)]
def Λ : List (Nat × LFun U) := [(3, Λ3)]
def CT : List (Nat × LFun U) := []
def ro : List FuncId := []
def D : Nat → Lv × Lv := dtab [(3, ⟨[4, 0, 3], []⟩, ⟨[2, 3], []⟩)]
def E : Env U := { E0 with Γ := Γ, Λ := Λ, C := CT, D := D, ro := ro }
theorem hf3 (R : Type) (l : T3) (s : S3) (K : Ex → St U → Option R) : codeA E (pick (loopsOf body) 3) ⟨p3.mkL (hd3 l s).1, q3.mkH (hd3 l s).2, 0⟩ (roundK E (pick (loopsOf body) 3) K) =
  (fl3 l s).runK (lpK K (fun s => ⟨p3.mkL (hd3 l s).1, q3.mkH (hd3 l s).2, 0⟩) sp1 (ou3 l)) := by kernel_rfl
theorem lk3 (R : Type) (st : St U) (K : Ex → St U → Option R) (r : R) (h : Λ3 R st K = some r) : ∃ n, loopA E (pick (loopsOf body) 3) n st K = some r :=
  lp_ok (U := U) (E := E) (b := pick (loopsOf body) 3) (m := 0) (sp := sp1) (p := p3) (q := q3) (X := Int) (S := S3) (f := fl3) (hd := hd3) (s0 := fun (l : T3) => (l.1.2.2.1, l.1.2.2.2.1)) (ou := ou3)
    (fun l => rfl) (fun l x => by rfl) sp1_ok hf3 h
theorem hk (R : Type) (l : TA) (K : AV U → Hp U → Option R) : funcA E Tryz.f108 [] R (pA.mkL l.1) (pH.mkH l.2) K = (tl l).runK fun y => K (v l y) (hh l y) := by kernel_rfl
theorem okF : SoundF Tryz.prog cc 108 (funcA E Tryz.f108 []) :=
  funcA_ok (E := E) P_mixed (E0_ok.with Γ Λ CT D ro) (gam_of (all_cons ⟨ref01_bit.ok, ref01_bit.fo⟩ all_nil) no_ro) Tryz.func108 (c := body) (by kernel_rfl)
    (just_by (by kernel_rfl) (by kernel_rfl) (all_cons lk3 all_nil) all_nil) []
theorem ok : SoundF Tryz.prog cc 108 A :=
  mkA_ok (E := E) (p := pA) (q := pH) (t := tl) sp1_ok hk okF
theorem fo : FnOK Tryz.prog 108 := ⟨Tryz.f108, Tryz.func108, by kernel_rfl, by kernel_rfl⟩
theorem keep : KeepA A := mkA_keep (U := U) sp1_ok (fun (l : TA) y => ⟨(hh l y).drop 0, by kernel_rfl⟩)
end ref01_Ones

/-! instar/instarref01.Same -/
namespace ref01_Same
abbrev TA : Type := (((List Int) × ((List Int) × Unit)) × Unit)
abbrev T4 : Type := (((List Int) × ((List Int) × (Unit × (Int × (Unit × Unit))))) × Unit)
abbrev X4 : Type := (Unit ⊕ Bool)
def l4 (a : (List Int)) (b : (List Int)) (i : Int) : Tw (Int ⊕ X4) :=
 (.bb (decide (i < (((List.length a) : Nat) : Int)))
 (.dd (((0 : Int) ≤ i)) inferInstance
 (.opt (a)[(Int.toNat i)]? fun z1 =>
 (.dd (((0 : Int) ≤ i)) inferInstance
 (.opt (b)[(Int.toNat i)]? fun z2 =>
 (.bb (z1 != z2)
 (.ret (.inr (.inr false)))
 (.ret (.inl (w64 (i + (1 : Int)))))))
 .no))
 .no)
 (.ret (.inr (.inl ()))))
def L4 (a : (List Int)) (b : (List Int)) (i : Int) : Option X4 := Lp (fun s => (l4 a b s).run) i
def p4 : Pt := (.cs (.sl 3) (.cs (.sl 3) (.cs (.bots 3) (jC (.cs (.bots 20) .nl)))))
def q4 : Pt := .nl
def ou4 (l : T4) (y : X4) : Ex × St U := (Sum.elim (fun a0 => (.exit 0, stOf 26 [] [] 0)) (fun b0 => (.ret, stOf 26 [(4, jB b0)] [] 0)) y)
def Λ4 : LFun U := mkLp (U := U) p4 q4 0 (X := X4) (fun (l : T4) => L4 l.1.1 l.1.2.1 l.1.2.2.2.1) (spS sp1) ou4
def hd4 (l : T4) (s : Int) : T4 := ((l.1.1, (l.1.2.1, ((), (s, ((), ()))))), ())
def fl4 (l : T4) (s : Int) : Tw (Int ⊕ X4) := l4 l.1.1 l.1.2.1 s
def t (a : (List Int)) (b : (List Int)) : Tw Bool :=
 (.bb ((((List.length a) : Nat) : Int) != (((List.length b) : Nat) : Int))
 (.ret false)
 (.opt (L4 a b (0 : Int)) fun z3 =>
 (.sm z3
 (fun z4 => (.ret true))
 (fun z5 => (.ret z5)))))
def c (a : (List Int)) (b : (List Int)) : Option Bool := (t a b).run
def tl (l : TA) : Tw Bool := t l.1.1 l.1.2.1
def cl (l : TA) : Option Bool := (tl l).run
def pA : Pt := (.cs (.sl 3) (.cs (.sl 3) .nl))
def pH : Pt := .nl
def v (l : TA) (y : Bool) : AV U := jB y
def hh (l : TA) (y : Bool) : Hp U := []
def A : AFun U := mkA (U := U) pA pH (X := Bool) cl sp1 v hh
def body : Code := (Go.Func.body Tryz.f17).getD .skip
def Γ : List (FuncId × AFun U) := []
def Λ : List (Nat × LFun U) := [(4, Λ4)]
def CT : List (Nat × LFun U) := []
def ro : List FuncId := []
def D : Nat → Lv × Lv := dtab [(4, ⟨[5, 1, 0], []⟩, ⟨[4], []⟩)]
def E : Env U := { E0 with Γ := Γ, Λ := Λ, C := CT, D := D, ro := ro }
theorem hf4 (R : Type) (l : T4) (s : Int) (K : Ex → St U → Option R) : codeA E (pick (loopsOf body) 4) ⟨p4.mkL (hd4 l s).1, q4.mkH (hd4 l s).2, 0⟩ (roundK E (pick (loopsOf body) 4) K) =
  (fl4 l s).runK (lpK K (fun s => ⟨p4.mkL (hd4 l s).1, q4.mkH (hd4 l s).2, 0⟩) (spS sp1) (ou4 l)) := by kernel_rfl
theorem lk4 (R : Type) (st : St U) (K : Ex → St U → Option R) (r : R) (h : Λ4 R st K = some r) : ∃ n, loopA E (pick (loopsOf body) 4) n st K = some r :=
  lp_ok (U := U) (E := E) (b := pick (loopsOf body) 4) (m := 0) (sp := (spS sp1)) (p := p4) (q := q4) (X := X4) (S := Int) (f := fl4) (hd := hd4) (s0 := fun (l : T4) => l.1.2.2.2.1) (ou := ou4)
    (fun l => rfl) (fun l x => by repeat' (first | rfl | (cases x with | inl => rfl | inr x => ?_))) (spS_ok sp1_ok) hf4 h
theorem hk (R : Type) (l : TA) (K : AV U → Hp U → Option R) : funcA E Tryz.f17 [] R (pA.mkL l.1) (pH.mkH l.2) K = (tl l).runK fun y => K (v l y) (hh l y) := by kernel_rfl
theorem okF : SoundF Tryz.prog cc 17 (funcA E Tryz.f17 []) :=
  funcA_ok (E := E) P_mixed (E0_ok.with Γ Λ CT D ro) (gam_of all_nil all_nil) Tryz.func17 (c := body) (by kernel_rfl)
    (just_by (by kernel_rfl) (by kernel_rfl) (all_cons lk4 all_nil) all_nil) []
theorem ok : SoundF Tryz.prog cc 17 A :=
  mkA_ok (E := E) (p := pA) (q := pH) (t := tl) sp1_ok hk okF
theorem fo : FnOK Tryz.prog 17 := ⟨Tryz.f17, Tryz.func17, by kernel_rfl, by kernel_rfl⟩
theorem keep : KeepA A := mkA_keep (U := U) sp1_ok (fun (l : TA) y => ⟨(hh l y).drop 0, by kernel_rfl⟩)
end ref01_Same

end
end Go.Proofs.YtkoidgjgdhpdnaaGreat.Va
