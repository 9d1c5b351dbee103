/- The functions of package law11, as plain functions, and that the program computes them. Printed by a program of this work out of the evaluator. -/
import Derived.Test.YtkoidgjgdhpdnaaGreatEn
import Derived.Tactics
import Derived.Test.YtkoidgjgdhpdnaaGreatFdrive
import Derived.Test.YtkoidgjgdhpdnaaGreatFflash
import Derived.Test.YtkoidgjgdhpdnaaGreatFjournal
import Derived.Test.YtkoidgjgdhpdnaaGreatFref01
import Derived.Test.YtkoidgjgdhpdnaaGreatFref07
import Derived.Test.YtkoidgjgdhpdnaaGreatFref08
import Derived.Test.YtkoidgjgdhpdnaaGreatFref09
import Derived.Test.YtkoidgjgdhpdnaaGreatFref11
set_option linter.unusedVariables false
namespace Go.Proofs.YtkoidgjgdhpdnaaGreat.Va
noncomputable section
open Go
set_option maxRecDepth 100000

/-! instar/instarlaw11.great -/
namespace law11_great
abbrev TA : Type := (((List Act11) × Unit) × Unit)
abbrev T2 : Type := (((List Act11) × (Unit × (Int × (Unit × Unit)))) × Unit)
abbrev X2 : Type := (Unit ⊕ Bool)
def l2 (l_ : (List Act11)) (i : Int) : Tw (Int ⊕ X2) :=
 (.bb (decide (i < (((List.length l_) : Nat) : Int)))
 (.bb (decide (i < (61 : Int)))
 (.dd (((0 : Int) ≤ i)) inferInstance
 (.opt (l_)[(Int.toNat i)]? fun z1 =>
 (.bb (decide ((((List.length z1.load) : Nat) : Int) > (100 : Int)))
 (.ret (.inr (.inr true)))
 (.dd (((0 : Int) ≤ i)) inferInstance
 (.opt (l_)[(Int.toNat i)]? fun z2 =>
 (.bb (decide ((((List.length z2.whole) : Nat) : Int) > (100 : Int)))
 (.ret (.inr (.inr true)))
 (.ret (.inl (w64 (i + (1 : Int)))))))
 .no)))
 .no)
 (.ret (.inr (.inl ()))))
 (.ret (.inr (.inl ()))))
def L2 (l_ : (List Act11)) (i : Int) : Option X2 := Lp (fun s => (l2 l_ s).run) i
def p2 : Pt := (.cs (.sl 27) (.cs (.bots 2) (jC (.cs (.bots 29) .nl))))
def q2 : Pt := .nl
def ou2 (l : T2) (y : X2) : Ex × St U := (Sum.elim (fun a0 => (.exit 0, stOf 33 [(0, .im (.slice 27 l.1.1))] [] 0)) (fun b0 => (.ret, stOf 33 [(0, .im (.slice 27 l.1.1)), (2, jB b0)] [] 0)) y)
def Λ2 : LFun U := mkLp (U := U) p2 q2 0 (X := X2) (fun (l : T2) => L2 l.1.1 l.1.2.2.1) (spS sp1) ou2
def hd2 (l : T2) (s : Int) : T2 := ((l.1.1, ((), (s, ((), ())))), ())
def fl2 (l : T2) (s : Int) : Tw (Int ⊕ X2) := l2 l.1.1 s
def t (l_ : (List Act11)) : Tw Bool :=
 (.opt (L2 l_ (0 : Int)) fun z3 =>
 (.sm z3
 (fun z4 => (.ret (decide ((((List.length l_) : Nat) : Int) > (60 : Int)))))
 (fun z5 => (.ret z5))))
def c (l_ : (List Act11)) : Option Bool := (t l_).run
def tl (l : TA) : Tw Bool := t l.1.1
def cl (l : TA) : Option Bool := (tl l).run
def pA : Pt := (.cs (.sl 27) .nl)
def pH : Pt := .nl
def v (l : TA) (y : Bool) : AV U := jB y
def hh (l : TA) (y : Bool) : Hp U := []
def A : AFun U := mkA (U := U) pA pH (X := Bool) cl sp1 v hh
def body : Code := (Go.Func.body Tryz.f6).getD .skip
def Γ : List (FuncId × AFun U) := []
def Λ : List (Nat × LFun U) := [(2, Λ2)]
def CT : List (Nat × LFun U) := []
def ro : List FuncId := []
def D : Nat → Lv × Lv := dtab [(2, ⟨[3, 0], []⟩, ⟨[2, 0], []⟩)]
def E : Env U := { E0 with Γ := Γ, Λ := Λ, C := CT, D := D, ro := ro }
theorem hf2 (R : Type) (l : T2) (s : Int) (K : Ex → St U → Option R) : codeA E (pick (loopsOf body) 2) ⟨p2.mkL (hd2 l s).1, q2.mkH (hd2 l s).2, 0⟩ (roundK E (pick (loopsOf body) 2) K) =
  (fl2 l s).runK (lpK K (fun s => ⟨p2.mkL (hd2 l s).1, q2.mkH (hd2 l s).2, 0⟩) (spS sp1) (ou2 l)) := by kernel_rfl
theorem lk2 (R : Type) (st : St U) (K : Ex → St U → Option R) (r : R) (h : Λ2 R st K = some r) : ∃ n, loopA E (pick (loopsOf body) 2) n st K = some r :=
  lp_ok (U := U) (E := E) (b := pick (loopsOf body) 2) (m := 0) (sp := (spS sp1)) (p := p2) (q := q2) (X := X2) (S := Int) (f := fl2) (hd := hd2) (s0 := fun (l : T2) => l.1.2.2.1) (ou := ou2)
    (fun l => rfl) (fun l x => by repeat' (first | rfl | (cases x with | inl => rfl | inr x => ?_))) (spS_ok sp1_ok) hf2 h
theorem hk (R : Type) (l : TA) (K : AV U → Hp U → Option R) : funcA E Tryz.f6 [] R (pA.mkL l.1) (pH.mkH l.2) K = (tl l).runK fun y => K (v l y) (hh l y) := by kernel_rfl
theorem okF : SoundF Tryz.prog cc 6 (funcA E Tryz.f6 []) :=
  funcA_ok (E := E) P_mixed (E0_ok.with Γ Λ CT D ro) (gam_of all_nil all_nil) Tryz.func6 (c := body) (by kernel_rfl)
    (just_by (by kernel_rfl) (by kernel_rfl) (all_cons lk2 all_nil) all_nil) []
theorem ok : SoundF Tryz.prog cc 6 A :=
  mkA_ok (E := E) (p := pA) (q := pH) (t := tl) sp1_ok hk okF
theorem fo : FnOK Tryz.prog 6 := ⟨Tryz.f6, Tryz.func6, by kernel_rfl, by kernel_rfl⟩
theorem keep : KeepA A := mkA_keep (U := U) sp1_ok (fun (l : TA) y => ⟨(hh l y).drop 0, by kernel_rfl⟩)
end law11_great

/-! instar/instarlaw11.begin -/
namespace law11_begin
abbrev TA : Type := (((Int × (Int × (Int × (Int × (Int × (Int × Unit)))))) × ((List Int) × Unit)) × Unit)
abbrev XA : Type := ((Bool × (Int × (Bool × (Int × ((List Int) × ((List Int) × ((List Int) × (Int × (Int × (Bool × (Int × ((List Int) × ((List (List Int)) × (Int × (Int × (Bool × (Int × ((List Int) × ((List (List Int)) × (Int × (Bool × (Int × ((List Int) × ((List Int) × (List Int))))))))))))))))))))))))) ⊕ ((Bool × (Int × (Bool × (Int × ((List Int) × ((List Int) × ((List Int) × (Int × (Int × (Bool × (Int × ((List Int) × (List (List Int)))))))))))))) ⊕ ((Bool × (Int × (Bool × (Int × ((List Int) × ((List Int) × ((List Int) × (Int × (Int × (Bool × (Int × ((List Int) × ((List (List Int)) × (Int × (Bool × (Int × ((List Int) × ((List Int) × (List Int))))))))))))))))))) ⊕ ((Bool × (Int × (Bool × (Int × ((List Int) × ((List Int) × (List Int))))))) ⊕ Bool))))
def t (g_0 g_1 g_2 g_3 g_4 g_5 : Int) (whole : (List Int)) : Tw XA :=
 (.opt (ref08_Map.c g_0 g_1 g_2 g_3 g_4 g_5) fun z1 =>
 (.opt (flash_New.c (((List.length z1) : Nat) : Int) g_0) fun z2 =>
 (.sm z2
 (fun z3 => (.opt (drive_New.c g_0 g_1 g_2 g_3 g_4 g_5 g_0 z3.2.1 z3.2.2.1 z3.2.2.2.1 z3.2.2.2.2.1 z3.2.2.2.2.2.1 z3.2.2.2.2.2.2) fun z5 =>
 (.sm z5
 (fun z6 => (.bb (z3.1 != (0 : Int))
 (.ret (.inr (.inr (.inr (.inr false)))))
 (.bb (z6 != (0 : Int))
 (.ret (.inr (.inr (.inr (.inr false)))))
 (.opt (journal_New.c whole g_0 g_1 g_2 g_3 g_4 g_5 g_0 z3.2.1 z3.2.2.1 z3.2.2.2.1 z3.2.2.2.2.1 z3.2.2.2.2.2.1 z3.2.2.2.2.2.2) fun z8 =>
 (.sm z8
 (fun z9 => (.opt (ref09_New.c g_0 g_1 g_2 g_3 g_4 g_5) fun z11 =>
 (.sm z11
 (fun z12 => (.opt (ref11_New.c whole g_0 g_1 g_2 g_3 g_4 g_5 g_0 z12.1 z12.2.1 z12.2.2.1 z12.2.2.2.1 z12.2.2.2.2.1 z12.2.2.2.2.2) fun z14 =>
 (.sm z14
 (fun z15 => (.bb (z9.1 == z15.1)
 (.ret (.inl ((false == false), (z9.2.1, (z9.2.2.1, (z9.2.2.2.1, (z9.2.2.2.2.1, (z9.2.2.2.2.2.1, (z3.2.2.2.2.2.2, (z9.2.2.2.2.2.2.1, (z9.2.2.2.2.2.2.2.1, (z9.2.2.2.2.2.2.2.2.1, (z9.2.2.2.2.2.2.2.2.2.1, (z9.2.2.2.2.2.2.2.2.2.2.1, (z9.2.2.2.2.2.2.2.2.2.2.2, (z15.2.2.2.2.2.2.1, (z15.2.2.2.2.2.2.2.1, (z15.2.2.2.2.2.2.2.2.1, (z15.2.2.2.2.2.2.2.2.2.1, (z15.2.2.2.2.2.2.2.2.2.2.1, (z15.2.2.2.2.2.2.2.2.2.2.2, (z15.2.1, (z15.2.2.1, (z15.2.2.2.1, (z15.2.2.2.2.1, (z15.2.2.2.2.2.1, z12.2.2.2.2.2))))))))))))))))))))))))))
 (.ret (.inl (false, (z9.2.1, (z9.2.2.1, (z9.2.2.2.1, (z9.2.2.2.2.1, (z9.2.2.2.2.2.1, (z3.2.2.2.2.2.2, (z9.2.2.2.2.2.2.1, (z9.2.2.2.2.2.2.2.1, (z9.2.2.2.2.2.2.2.2.1, (z9.2.2.2.2.2.2.2.2.2.1, (z9.2.2.2.2.2.2.2.2.2.2.1, (z9.2.2.2.2.2.2.2.2.2.2.2, (z15.2.2.2.2.2.2.1, (z15.2.2.2.2.2.2.2.1, (z15.2.2.2.2.2.2.2.2.1, (z15.2.2.2.2.2.2.2.2.2.1, (z15.2.2.2.2.2.2.2.2.2.2.1, (z15.2.2.2.2.2.2.2.2.2.2.2, (z15.2.1, (z15.2.2.1, (z15.2.2.2.1, (z15.2.2.2.2.1, (z15.2.2.2.2.2.1, z12.2.2.2.2.2))))))))))))))))))))))))))))
 (fun z16 => (.bb (z9.1 == z16.1)
 (.ret (.inr (.inl ((false == true), (z9.2.1, (z9.2.2.1, (z9.2.2.2.1, (z9.2.2.2.2.1, (z9.2.2.2.2.2.1, (z3.2.2.2.2.2.2, (z9.2.2.2.2.2.2.1, (z9.2.2.2.2.2.2.2.1, (z9.2.2.2.2.2.2.2.2.1, (z9.2.2.2.2.2.2.2.2.2.1, (z9.2.2.2.2.2.2.2.2.2.2.1, z9.2.2.2.2.2.2.2.2.2.2.2)))))))))))))))
 (.ret (.inr (.inl (false, (z9.2.1, (z9.2.2.1, (z9.2.2.2.1, (z9.2.2.2.2.1, (z9.2.2.2.2.2.1, (z3.2.2.2.2.2.2, (z9.2.2.2.2.2.2.1, (z9.2.2.2.2.2.2.2.1, (z9.2.2.2.2.2.2.2.2.1, (z9.2.2.2.2.2.2.2.2.2.1, (z9.2.2.2.2.2.2.2.2.2.2.1, z9.2.2.2.2.2.2.2.2.2.2.2))))))))))))))))))))
 (fun z13 => .no))))
 (fun z10 => (.opt (ref09_New.c g_0 g_1 g_2 g_3 g_4 g_5) fun z17 =>
 (.sm z17
 (fun z18 => (.opt (ref11_New.c whole g_0 g_1 g_2 g_3 g_4 g_5 g_0 z18.1 z18.2.1 z18.2.2.1 z18.2.2.2.1 z18.2.2.2.2.1 z18.2.2.2.2.2) fun z20 =>
 (.sm z20
 (fun z21 => (.bb (z10.1 == z21.1)
 (.ret (.inr (.inr (.inl ((true == false), (z10.2.1, (z10.2.2.1, (z10.2.2.2.1, (z10.2.2.2.2.1, (z10.2.2.2.2.2, (z3.2.2.2.2.2.2, (z21.2.2.2.2.2.2.1, (z21.2.2.2.2.2.2.2.1, (z21.2.2.2.2.2.2.2.2.1, (z21.2.2.2.2.2.2.2.2.2.1, (z21.2.2.2.2.2.2.2.2.2.2.1, (z21.2.2.2.2.2.2.2.2.2.2.2, (z21.2.1, (z21.2.2.1, (z21.2.2.2.1, (z21.2.2.2.2.1, (z21.2.2.2.2.2.1, z18.2.2.2.2.2))))))))))))))))))))))
 (.ret (.inr (.inr (.inl (false, (z10.2.1, (z10.2.2.1, (z10.2.2.2.1, (z10.2.2.2.2.1, (z10.2.2.2.2.2, (z3.2.2.2.2.2.2, (z21.2.2.2.2.2.2.1, (z21.2.2.2.2.2.2.2.1, (z21.2.2.2.2.2.2.2.2.1, (z21.2.2.2.2.2.2.2.2.2.1, (z21.2.2.2.2.2.2.2.2.2.2.1, (z21.2.2.2.2.2.2.2.2.2.2.2, (z21.2.1, (z21.2.2.1, (z21.2.2.2.1, (z21.2.2.2.2.1, (z21.2.2.2.2.2.1, z18.2.2.2.2.2))))))))))))))))))))))))
 (fun z22 => (.bb (z10.1 == z22.1)
 (.ret (.inr (.inr (.inr (.inl ((true == true), (z10.2.1, (z10.2.2.1, (z10.2.2.2.1, (z10.2.2.2.2.1, (z10.2.2.2.2.2, z3.2.2.2.2.2.2)))))))))))
 (.ret (.inr (.inr (.inr (.inl (false, (z10.2.1, (z10.2.2.1, (z10.2.2.2.1, (z10.2.2.2.2.1, (z10.2.2.2.2.2, z3.2.2.2.2.2.2))))))))))))))))
 (fun z19 => .no)))))))))
 (fun z7 => (.bb (z3.1 != (0 : Int))
 (.ret (.inr (.inr (.inr (.inr false)))))
 (.bb (z7 != (0 : Int))
 (.ret (.inr (.inr (.inr (.inr false)))))
 .no))))))
 (fun z4 => .no))))
def c (g_0 g_1 g_2 g_3 g_4 g_5 : Int) (whole : (List Int)) : Option XA := (t g_0 g_1 g_2 g_3 g_4 g_5 whole).run
def tl (l : TA) : Tw XA := t l.1.1.1 l.1.1.2.1 l.1.1.2.2.1 l.1.1.2.2.2.1 l.1.1.2.2.2.2.1 l.1.1.2.2.2.2.2.1 l.1.2.1
def cl (l : TA) : Option XA := (tl l).run
def pA : Pt := (.cs (.agg (jC (jC (jC (jC (jC (jC .nl))))))) (.cs (.sl 3) .nl))
def pH : Pt := .nl
def v (l : TA) (y : XA) : AV U := (Sum.elim (fun a0 => .tup [.agg [.ptr 0 0, .ptr 4 0, .ptr 5 0, .ptr 7 0], jB a0.1]) (fun b0 => (Sum.elim (fun a1 => .tup [.agg [.ptr 0 0, .ptr 4 0, .ptr 5 0, .im .nilp], jB a1.1]) (fun b1 => (Sum.elim (fun a2 => .tup [.agg [.ptr 0 0, .ptr 4 0, .im .nilp, .ptr 5 0], jB a2.1]) (fun b2 => (Sum.elim (fun a3 => .tup [.agg [.ptr 0 0, .ptr 4 0, .im .nilp, .im .nilp], jB a3.1]) (fun b3 => .tup [.agg [.im .nilp, .im .nilp, .im .nilp, .im .nilp], jB b3]) b2)) b1)) b0)) y)
def hh (l : TA) (y : XA) : Hp U := (Sum.elim (fun a0 => [.var [.own 1, jI l.1.1.1, .own 2, jI a0.2.1, jB a0.2.2.1, jI a0.2.2.2.1, .own 3], .row 3 a0.2.2.2.2.1 true, .row 1 a0.2.2.2.2.2.1 true, .row 3 a0.2.2.2.2.2.2.1 true, .var [.ptr 0 0, jI l.1.1.1, jI l.1.1.2.1, jI l.1.1.2.2.1, jI l.1.1.2.2.2.1, jI l.1.1.2.2.2.2.1, jI l.1.1.2.2.2.2.2.1], .var [.ptr 4 0, jI a0.2.2.2.2.2.2.2.1, jI a0.2.2.2.2.2.2.2.2.1, jB a0.2.2.2.2.2.2.2.2.2.1, jI a0.2.2.2.2.2.2.2.2.2.2.1, .im (.slice 3 a0.2.2.2.2.2.2.2.2.2.2.2.1), .own 6], .row 12 a0.2.2.2.2.2.2.2.2.2.2.2.2.1 true, .var [.ptr 8 0, jI a0.2.2.2.2.2.2.2.2.2.2.2.2.2.1, jI a0.2.2.2.2.2.2.2.2.2.2.2.2.2.2.1, jB a0.2.2.2.2.2.2.2.2.2.2.2.2.2.2.2.1, jI a0.2.2.2.2.2.2.2.2.2.2.2.2.2.2.2.2.1, .im (.slice 3 a0.2.2.2.2.2.2.2.2.2.2.2.2.2.2.2.2.2.1), .im (.slice 12 a0.2.2.2.2.2.2.2.2.2.2.2.2.2.2.2.2.2.2.1)], .var [.ptr 9 0, jI l.1.1.1, jI l.1.1.2.1, jI l.1.1.2.2.1, jI l.1.1.2.2.2.1, jI l.1.1.2.2.2.2.1, jI l.1.1.2.2.2.2.2.1], .var [.own 10, jI l.1.1.1, .own 11, jI a0.2.2.2.2.2.2.2.2.2.2.2.2.2.2.2.2.2.2.2.1, jB a0.2.2.2.2.2.2.2.2.2.2.2.2.2.2.2.2.2.2.2.2.1, jI a0.2.2.2.2.2.2.2.2.2.2.2.2.2.2.2.2.2.2.2.2.2.1, .own 12], .row 3 a0.2.2.2.2.2.2.2.2.2.2.2.2.2.2.2.2.2.2.2.2.2.2.1 true, .row 1 a0.2.2.2.2.2.2.2.2.2.2.2.2.2.2.2.2.2.2.2.2.2.2.2.1 true, .row 3 a0.2.2.2.2.2.2.2.2.2.2.2.2.2.2.2.2.2.2.2.2.2.2.2.2 true]) (fun b0 => (Sum.elim (fun a1 => [.var [.own 1, jI l.1.1.1, .own 2, jI a1.2.1, jB a1.2.2.1, jI a1.2.2.2.1, .own 3], .row 3 a1.2.2.2.2.1 true, .row 1 a1.2.2.2.2.2.1 true, .row 3 a1.2.2.2.2.2.2.1 true, .var [.ptr 0 0, jI l.1.1.1, jI l.1.1.2.1, jI l.1.1.2.2.1, jI l.1.1.2.2.2.1, jI l.1.1.2.2.2.2.1, jI l.1.1.2.2.2.2.2.1], .var [.ptr 4 0, jI a1.2.2.2.2.2.2.2.1, jI a1.2.2.2.2.2.2.2.2.1, jB a1.2.2.2.2.2.2.2.2.2.1, jI a1.2.2.2.2.2.2.2.2.2.2.1, .im (.slice 3 a1.2.2.2.2.2.2.2.2.2.2.2.1), .own 6], .row 12 a1.2.2.2.2.2.2.2.2.2.2.2.2 true]) (fun b1 => (Sum.elim (fun a2 => [.var [.own 1, jI l.1.1.1, .own 2, jI a2.2.1, jB a2.2.2.1, jI a2.2.2.2.1, .own 3], .row 3 a2.2.2.2.2.1 true, .row 1 a2.2.2.2.2.2.1 true, .row 3 a2.2.2.2.2.2.2.1 true, .var [.ptr 0 0, jI l.1.1.1, jI l.1.1.2.1, jI l.1.1.2.2.1, jI l.1.1.2.2.2.1, jI l.1.1.2.2.2.2.1, jI l.1.1.2.2.2.2.2.1], .var [.ptr 6 0, jI a2.2.2.2.2.2.2.2.1, jI a2.2.2.2.2.2.2.2.2.1, jB a2.2.2.2.2.2.2.2.2.2.1, jI a2.2.2.2.2.2.2.2.2.2.2.1, .im (.slice 3 a2.2.2.2.2.2.2.2.2.2.2.2.1), .im (.slice 12 a2.2.2.2.2.2.2.2.2.2.2.2.2.1)], .var [.ptr 7 0, jI l.1.1.1, jI l.1.1.2.1, jI l.1.1.2.2.1, jI l.1.1.2.2.2.1, jI l.1.1.2.2.2.2.1, jI l.1.1.2.2.2.2.2.1], .var [.own 8, jI l.1.1.1, .own 9, jI a2.2.2.2.2.2.2.2.2.2.2.2.2.2.1, jB a2.2.2.2.2.2.2.2.2.2.2.2.2.2.2.1, jI a2.2.2.2.2.2.2.2.2.2.2.2.2.2.2.2.1, .own 10], .row 3 a2.2.2.2.2.2.2.2.2.2.2.2.2.2.2.2.2.1 true, .row 1 a2.2.2.2.2.2.2.2.2.2.2.2.2.2.2.2.2.2.1 true, .row 3 a2.2.2.2.2.2.2.2.2.2.2.2.2.2.2.2.2.2.2 true]) (fun b2 => (Sum.elim (fun a3 => [.var [.own 1, jI l.1.1.1, .own 2, jI a3.2.1, jB a3.2.2.1, jI a3.2.2.2.1, .own 3], .row 3 a3.2.2.2.2.1 true, .row 1 a3.2.2.2.2.2.1 true, .row 3 a3.2.2.2.2.2.2 true, .var [.ptr 0 0, jI l.1.1.1, jI l.1.1.2.1, jI l.1.1.2.2.1, jI l.1.1.2.2.2.1, jI l.1.1.2.2.2.2.1, jI l.1.1.2.2.2.2.2.1]]) (fun b3 => []) b2)) b1)) b0)) y)
def A : AFun U := mkA (U := U) pA pH (X := XA) cl (spS (spS (spS (spS sp1)))) v hh
def body : Code := (Go.Func.body Tryz.f8).getD .skip
def Γ : List (FuncId × AFun U) := [(25, ref08_Map.A), (27, flash_New.A), (28, drive_New.A), (29, journal_New.A), (31, ref09_New.A), (30, ref11_New.A)]
def Λ : List (Nat × LFun U) := []
def CT : List (Nat × LFun U) := []
def ro : List FuncId := [28]
def D : Nat → Lv × Lv := dtab []
def E : Env U := { E0 with Γ := Γ, Λ := Λ, C := CT, D := D, ro := ro }
theorem hk (R : Type) (l : TA) (K : AV U → Hp U → Option R) : funcA E Tryz.f8 [] R (pA.mkL l.1) (pH.mkH l.2) K = (tl l).runK fun y => K (v l y) (hh l y) := by kernel_rfl
theorem okF : SoundF Tryz.prog cc 8 (funcA E Tryz.f8 []) :=
  funcA_ok (E := E) P_mixed (E0_ok.with Γ Λ CT D ro) (gam_of (all_cons ⟨ref08_Map.ok, ref08_Map.fo⟩ (all_cons ⟨flash_New.ok, flash_New.fo⟩ (all_cons ⟨drive_New.ok, drive_New.fo⟩ (all_cons ⟨journal_New.ok, journal_New.fo⟩ (all_cons ⟨ref09_New.ok, ref09_New.fo⟩ (all_cons ⟨ref11_New.ok, ref11_New.fo⟩ all_nil)))))) (all_cons (no_keep (by kernel_rfl)) (all_cons (no_keep (by kernel_rfl)) (all_cons (fun _ => drive_New.keep) (all_cons (no_keep (by kernel_rfl)) (all_cons (no_keep (by kernel_rfl)) (all_cons (no_keep (by kernel_rfl)) all_nil))))))) Tryz.func8 (c := body) (by kernel_rfl)
    (just_by (by kernel_rfl) (by kernel_rfl) all_nil all_nil) []
theorem ok : SoundF Tryz.prog cc 8 A :=
  mkA_ok (E := E) (p := pA) (q := pH) (t := tl) (spS_ok (spS_ok (spS_ok (spS_ok sp1_ok)))) hk okF
theorem fo : FnOK Tryz.prog 8 := ⟨Tryz.f8, Tryz.func8, by kernel_rfl, by kernel_rfl⟩
theorem keep : KeepA A := mkA_keep (U := U) (spS_ok (spS_ok (spS_ok (spS_ok sp1_ok)))) (fun (l : TA) y => ⟨(hh l y).drop 0, by (cases y with | inl y => kernel_rfl | inr y => (cases y with | inl y => kernel_rfl | inr y => (cases y with | inl y => kernel_rfl | inr y => (cases y with | inl y => kernel_rfl | inr y => kernel_rfl))))⟩)
end law11_begin

/-! instar/instarlaw11.do -/
namespace law11_do
abbrev TA : Type := ((Unit × ((Int × (Int × ((List Int) × ((List Int) × Unit)))) × Unit)) × ((Unit × (Int × (Int × (Bool × (Int × ((List Int) × (Unit × Unit))))))) × ((Unit × (Int × (Int × (Int × (Int × (Int × (Int × Unit))))))) × ((Unit × (Int × (Unit × (Int × (Bool × (Int × (Unit × Unit))))))) × ((List Int) × ((List Int) × ((List Int) × ((List (List Int)) × Unit))))))))
abbrev XA : Type := (Int × (Int × (Int × (Bool × (Int × ((List Int) × (Int × (Bool × (Int × ((List Int) × ((List Int) × (List (List Int)))))))))))))
def t (a_0 a_1 : Int) (a_2 : (List Int)) (a_3 : (List Int)) (h0_1 h0_2 : Int) (h0_3 : Bool) (h0_4 : Int) (h0_5 : (List Int)) (h1_1 h1_2 h1_3 h1_4 h1_5 h1_6 h2_1 h2_3 : Int) (h2_4 : Bool) (h2_5 : Int) (h3 : (List Int)) (h4 : (List Int)) (h5 : (List Int)) (h6 : (List (List Int))) : Tw XA :=
 (.bb (a_0 == (0 : Int))
 (.bb (a_0 == (0 : Int))
 (.opt (journal_Journal_Change.c a_2 a_3 h0_1 h0_2 h0_3 h0_4 h0_5 h1_1 h1_2 h1_3 h1_4 h1_5 h1_6 h2_1 h2_3 h2_4 h2_5 h3 h4 h5 h6) fun z6 =>
 (.ret (z6.1, (z6.2.1, (z6.2.2.1, (z6.2.2.2.1, (z6.2.2.2.2.1, (z6.2.2.2.2.2.1, (z6.2.2.2.2.2.2.1, (z6.2.2.2.2.2.2.2.1, (z6.2.2.2.2.2.2.2.2.1, (z6.2.2.2.2.2.2.2.2.2.1, (z6.2.2.2.2.2.2.2.2.2.2.1, z6.2.2.2.2.2.2.2.2.2.2.2)))))))))))))
 (.bb (a_0 == (2 : Int))
 (.opt (journal_Journal_Put.c a_3 h0_1 h0_2 h0_3 h0_4 h0_5 h1_1 h1_2 h1_3 h1_4 h1_5 h1_6 h2_1 h2_3 h2_4 h2_5 h3 h4 h5 h6) fun z5 =>
 (.ret (z5.1, (z5.2.1, (z5.2.2.1, (z5.2.2.2.1, (z5.2.2.2.2.1, (z5.2.2.2.2.2.1, (z5.2.2.2.2.2.2.1, (z5.2.2.2.2.2.2.2.1, (z5.2.2.2.2.2.2.2.2.1, (z5.2.2.2.2.2.2.2.2.2.1, (z5.2.2.2.2.2.2.2.2.2.2.1, z5.2.2.2.2.2.2.2.2.2.2.2)))))))))))))
 (.bb (a_0 == (3 : Int))
 (.opt (journal_Journal_Mend.c a_3 h0_1 h0_2 h0_3 h0_4 h0_5 h1_1 h1_2 h1_3 h1_4 h1_5 h1_6 h2_1 h2_3 h2_4 h2_5 h3 h4 h5 h6) fun z4 =>
 (.ret (z4.1, (z4.2.1, (z4.2.2.1, (z4.2.2.2.1, (z4.2.2.2.2.1, (z4.2.2.2.2.2.1, (z4.2.2.2.2.2.2.1, (z4.2.2.2.2.2.2.2.1, (z4.2.2.2.2.2.2.2.2.1, (z4.2.2.2.2.2.2.2.2.2.1, (z4.2.2.2.2.2.2.2.2.2.2.1, z4.2.2.2.2.2.2.2.2.2.2.2)))))))))))))
 (.ret ((0 : Int), (h0_1, (h0_2, (h0_3, (h0_4, (h0_5, (h2_3, (h2_4, (h2_5, (h3, (h4, h6)))))))))))))))
 (.bb (a_0 == (1 : Int))
 (.opt (journal_Journal_Change.c a_2 a_3 h0_1 h0_2 h0_3 h0_4 h0_5 h1_1 h1_2 h1_3 h1_4 h1_5 h1_6 h2_1 h2_3 h2_4 h2_5 h3 h4 h5 h6) fun z3 =>
 (.ret (z3.1, (z3.2.1, (z3.2.2.1, (z3.2.2.2.1, (z3.2.2.2.2.1, (z3.2.2.2.2.2.1, (z3.2.2.2.2.2.2.1, (z3.2.2.2.2.2.2.2.1, (z3.2.2.2.2.2.2.2.2.1, (z3.2.2.2.2.2.2.2.2.2.1, (z3.2.2.2.2.2.2.2.2.2.2.1, z3.2.2.2.2.2.2.2.2.2.2.2)))))))))))))
 (.bb (a_0 == (2 : Int))
 (.opt (journal_Journal_Put.c a_3 h0_1 h0_2 h0_3 h0_4 h0_5 h1_1 h1_2 h1_3 h1_4 h1_5 h1_6 h2_1 h2_3 h2_4 h2_5 h3 h4 h5 h6) fun z2 =>
 (.ret (z2.1, (z2.2.1, (z2.2.2.1, (z2.2.2.2.1, (z2.2.2.2.2.1, (z2.2.2.2.2.2.1, (z2.2.2.2.2.2.2.1, (z2.2.2.2.2.2.2.2.1, (z2.2.2.2.2.2.2.2.2.1, (z2.2.2.2.2.2.2.2.2.2.1, (z2.2.2.2.2.2.2.2.2.2.2.1, z2.2.2.2.2.2.2.2.2.2.2.2)))))))))))))
 (.bb (a_0 == (3 : Int))
 (.opt (journal_Journal_Mend.c a_3 h0_1 h0_2 h0_3 h0_4 h0_5 h1_1 h1_2 h1_3 h1_4 h1_5 h1_6 h2_1 h2_3 h2_4 h2_5 h3 h4 h5 h6) fun z1 =>
 (.ret (z1.1, (z1.2.1, (z1.2.2.1, (z1.2.2.2.1, (z1.2.2.2.2.1, (z1.2.2.2.2.2.1, (z1.2.2.2.2.2.2.1, (z1.2.2.2.2.2.2.2.1, (z1.2.2.2.2.2.2.2.2.1, (z1.2.2.2.2.2.2.2.2.2.1, (z1.2.2.2.2.2.2.2.2.2.2.1, z1.2.2.2.2.2.2.2.2.2.2.2)))))))))))))
 (.ret ((0 : Int), (h0_1, (h0_2, (h0_3, (h0_4, (h0_5, (h2_3, (h2_4, (h2_5, (h3, (h4, h6))))))))))))))))
def c (a_0 a_1 : Int) (a_2 : (List Int)) (a_3 : (List Int)) (h0_1 h0_2 : Int) (h0_3 : Bool) (h0_4 : Int) (h0_5 : (List Int)) (h1_1 h1_2 h1_3 h1_4 h1_5 h1_6 h2_1 h2_3 : Int) (h2_4 : Bool) (h2_5 : Int) (h3 : (List Int)) (h4 : (List Int)) (h5 : (List Int)) (h6 : (List (List Int))) : Option XA := (t a_0 a_1 a_2 a_3 h0_1 h0_2 h0_3 h0_4 h0_5 h1_1 h1_2 h1_3 h1_4 h1_5 h1_6 h2_1 h2_3 h2_4 h2_5 h3 h4 h5 h6).run
def tl (l : TA) : Tw XA := t l.1.2.1.1 l.1.2.1.2.1 l.1.2.1.2.2.1 l.1.2.1.2.2.2.1 l.2.1.2.1 l.2.1.2.2.1 l.2.1.2.2.2.1 l.2.1.2.2.2.2.1 l.2.1.2.2.2.2.2.1 l.2.2.1.2.1 l.2.2.1.2.2.1 l.2.2.1.2.2.2.1 l.2.2.1.2.2.2.2.1 l.2.2.1.2.2.2.2.2.1 l.2.2.1.2.2.2.2.2.2.1 l.2.2.2.1.2.1 l.2.2.2.1.2.2.2.1 l.2.2.2.1.2.2.2.2.1 l.2.2.2.1.2.2.2.2.2.1 l.2.2.2.2.1 l.2.2.2.2.2.1 l.2.2.2.2.2.2.1 l.2.2.2.2.2.2.2.1
def cl (l : TA) : Option XA := (tl l).run
def pA : Pt := (.cs (.ptr 0 0) (.cs (.agg (jC (jC (.cs (.sl 3) (.cs (.sl 3) .nl))))) .nl))
def pH : Pt := (.cs (.var (.cs (.ptr 1 0) (jC (jC (.cs .bool (jC (.cs (.sl 3) (.cs (.own 6) .nl)))))))) (.cs (.var (.cs (.ptr 2 0) (jC (jC (jC (jC (jC (jC .nl)))))))) (.cs (.var (.cs (.own 3) (jC (.cs (.own 4) (jC (.cs .bool (jC (.cs (.own 5) .nl)))))))) (.cs (.row 3 true) (.cs (.row 1 true) (.cs (.row 3 true) (.cs (.row 12 true) .nl)))))))
def v (l : TA) (y : XA) : AV U := jI y.1
def hh (l : TA) (y : XA) : Hp U := [.var [.ptr 1 0, jI y.2.1, jI y.2.2.1, jB y.2.2.2.1, jI y.2.2.2.2.1, .im (.slice 3 y.2.2.2.2.2.1), .own 7], .var [.ptr 2 0, jI l.2.2.1.2.1, jI l.2.2.1.2.2.1, jI l.2.2.1.2.2.2.1, jI l.2.2.1.2.2.2.2.1, jI l.2.2.1.2.2.2.2.2.1, jI l.2.2.1.2.2.2.2.2.2.1], .var [.own 3, jI l.2.2.2.1.2.1, .own 4, jI y.2.2.2.2.2.2.1, jB y.2.2.2.2.2.2.2.1, jI y.2.2.2.2.2.2.2.2.1, .own 5], .row 3 y.2.2.2.2.2.2.2.2.2.1 true, .row 1 y.2.2.2.2.2.2.2.2.2.2.1 true, .row 3 l.2.2.2.2.2.2.1 true, .dead, .row 12 y.2.2.2.2.2.2.2.2.2.2.2 true]
def A : AFun U := mkA (U := U) pA pH (X := XA) cl sp1 v hh
def body : Code := (Go.Func.body Tryz.f13).getD .skip
def Γ : List (FuncId × AFun U) := [(21, journal_Journal_Mend.A), (40, journal_Journal_Put.A), (26, journal_Journal_Change.A)]
def Λ : List (Nat × LFun U) := []
def CT : List (Nat × LFun U) := []
def ro : List FuncId := []
def D : Nat → Lv × Lv := dtab []
def E : Env U := { E0 with Γ := Γ, Λ := Λ, C := CT, D := D, ro := ro, pre := [(0, [.to 6], .mv 12)], kill := [6], tr := false }
theorem hk (R : Type) (l : TA) (K : AV U → Hp U → Option R) : funcA E Tryz.f13 [] R (pA.mkL l.1) (pH.mkH l.2) K = (tl l).runK fun y => K (v l y) (hh l y) := by kernel_rfl
theorem okF : SoundF Tryz.prog cc 13 (funcA E Tryz.f13 []) :=
  funcA_ok (E := E) P_mixed ((E0_ok.with Γ Λ CT D ro).pre [(0, [.to 6], .mv 12)] [6] false) (gam_of (all_cons ⟨journal_Journal_Mend.ok, journal_Journal_Mend.fo⟩ (all_cons ⟨journal_Journal_Put.ok, journal_Journal_Put.fo⟩ (all_cons ⟨journal_Journal_Change.ok, journal_Journal_Change.fo⟩ all_nil))) no_ro) Tryz.func13 (c := body) (by kernel_rfl)
    (just_by (by kernel_rfl) (by kernel_rfl) all_nil all_nil) []
theorem ok : SoundF Tryz.prog cc 13 A :=
  mkA_ok (E := E) (p := pA) (q := pH) (t := tl) sp1_ok hk okF
theorem fo : FnOK Tryz.prog 13 := ⟨Tryz.f13, Tryz.func13, by kernel_rfl, by kernel_rfl⟩
end law11_do

/-! instar/instarlaw11.told -/
namespace law11_told
abbrev TA : Type := ((Unit × ((Int × (Int × ((List Int) × ((List Int) × Unit)))) × Unit)) × ((Unit × (Int × (Int × (Bool × (Int × ((List Int) × ((List (List Int)) × Unit))))))) × ((Unit × (Int × (Int × (Int × (Int × (Int × (Int × Unit))))))) × ((Unit × (Int × (Unit × (Int × (Bool × (Int × (Unit × Unit))))))) × ((List Int) × ((List Int) × ((List Int) × Unit)))))))
abbrev XA : Type := (Int × (Int × (Int × (Bool × (Int × ((List Int) × ((List (List Int)) × (Int × (Bool × (Int × ((List Int) × (List Int))))))))))))
def t (a_0 a_1 : Int) (a_2 : (List Int)) (a_3 : (List Int)) (h0_1 h0_2 : Int) (h0_3 : Bool) (h0_4 : Int) (h0_5 : (List Int)) (h0_6 : (List (List Int))) (h1_1 h1_2 h1_3 h1_4 h1_5 h1_6 h2_1 h2_3 : Int) (h2_4 : Bool) (h2_5 : Int) (h3 : (List Int)) (h4 : (List Int)) (h5 : (List Int)) : Tw XA :=
 (.bb (a_0 == (0 : Int))
 (.bb (a_0 == (0 : Int))
 (.opt (ref11_Journal_Put.c (2 : Int) a_2 a_3 h0_1 h0_2 h0_3 h0_4 h0_5 h0_6 h1_1 h1_2 h1_3 h1_4 h1_5 h1_6 h2_1 h2_3 h2_4 h2_5 h3 h4 h5) fun z6 =>
 (.ret (z6.1, (z6.2.1, (z6.2.2.1, (z6.2.2.2.1, (z6.2.2.2.2.1, (z6.2.2.2.2.2.1, (z6.2.2.2.2.2.2.1, (z6.2.2.2.2.2.2.2.1, (z6.2.2.2.2.2.2.2.2.1, (z6.2.2.2.2.2.2.2.2.2.1, (z6.2.2.2.2.2.2.2.2.2.2.1, z6.2.2.2.2.2.2.2.2.2.2.2)))))))))))))
 (.bb (a_0 == (2 : Int))
 (.opt (ref11_Journal_Put.c (1 : Int) a_3 a_3 h0_1 h0_2 h0_3 h0_4 h0_5 h0_6 h1_1 h1_2 h1_3 h1_4 h1_5 h1_6 h2_1 h2_3 h2_4 h2_5 h3 h4 h5) fun z5 =>
 (.ret (z5.1, (z5.2.1, (z5.2.2.1, (z5.2.2.2.1, (z5.2.2.2.2.1, (z5.2.2.2.2.2.1, (z5.2.2.2.2.2.2.1, (z5.2.2.2.2.2.2.2.1, (z5.2.2.2.2.2.2.2.2.1, (z5.2.2.2.2.2.2.2.2.2.1, (z5.2.2.2.2.2.2.2.2.2.2.1, z5.2.2.2.2.2.2.2.2.2.2.2)))))))))))))
 (.bb (a_0 == (3 : Int))
 (.opt (ref11_Journal_Mend.c a_3 h0_1 h0_2 h0_3 h0_4 h0_5 h0_6 h1_1 h1_2 h1_3 h1_4 h1_5 h1_6 h2_1 h2_3 h2_4 h2_5 h3 h4 h5) fun z4 =>
 (.ret (z4.1, (z4.2.1, (z4.2.2.1, (z4.2.2.2.1, (z4.2.2.2.2.1, (z4.2.2.2.2.2.1, (z4.2.2.2.2.2.2.1, (z4.2.2.2.2.2.2.2.1, (z4.2.2.2.2.2.2.2.2.1, (z4.2.2.2.2.2.2.2.2.2.1, (z4.2.2.2.2.2.2.2.2.2.2.1, z4.2.2.2.2.2.2.2.2.2.2.2)))))))))))))
 (.ret ((0 : Int), (h0_1, (h0_2, (h0_3, (h0_4, (h0_5, (h0_6, (h2_3, (h2_4, (h2_5, (h3, h4)))))))))))))))
 (.bb (a_0 == (1 : Int))
 (.opt (ref11_Journal_Put.c (2 : Int) a_2 a_3 h0_1 h0_2 h0_3 h0_4 h0_5 h0_6 h1_1 h1_2 h1_3 h1_4 h1_5 h1_6 h2_1 h2_3 h2_4 h2_5 h3 h4 h5) fun z3 =>
 (.ret (z3.1, (z3.2.1, (z3.2.2.1, (z3.2.2.2.1, (z3.2.2.2.2.1, (z3.2.2.2.2.2.1, (z3.2.2.2.2.2.2.1, (z3.2.2.2.2.2.2.2.1, (z3.2.2.2.2.2.2.2.2.1, (z3.2.2.2.2.2.2.2.2.2.1, (z3.2.2.2.2.2.2.2.2.2.2.1, z3.2.2.2.2.2.2.2.2.2.2.2)))))))))))))
 (.bb (a_0 == (2 : Int))
 (.opt (ref11_Journal_Put.c (1 : Int) a_3 a_3 h0_1 h0_2 h0_3 h0_4 h0_5 h0_6 h1_1 h1_2 h1_3 h1_4 h1_5 h1_6 h2_1 h2_3 h2_4 h2_5 h3 h4 h5) fun z2 =>
 (.ret (z2.1, (z2.2.1, (z2.2.2.1, (z2.2.2.2.1, (z2.2.2.2.2.1, (z2.2.2.2.2.2.1, (z2.2.2.2.2.2.2.1, (z2.2.2.2.2.2.2.2.1, (z2.2.2.2.2.2.2.2.2.1, (z2.2.2.2.2.2.2.2.2.2.1, (z2.2.2.2.2.2.2.2.2.2.2.1, z2.2.2.2.2.2.2.2.2.2.2.2)))))))))))))
 (.bb (a_0 == (3 : Int))
 (.opt (ref11_Journal_Mend.c a_3 h0_1 h0_2 h0_3 h0_4 h0_5 h0_6 h1_1 h1_2 h1_3 h1_4 h1_5 h1_6 h2_1 h2_3 h2_4 h2_5 h3 h4 h5) fun z1 =>
 (.ret (z1.1, (z1.2.1, (z1.2.2.1, (z1.2.2.2.1, (z1.2.2.2.2.1, (z1.2.2.2.2.2.1, (z1.2.2.2.2.2.2.1, (z1.2.2.2.2.2.2.2.1, (z1.2.2.2.2.2.2.2.2.1, (z1.2.2.2.2.2.2.2.2.2.1, (z1.2.2.2.2.2.2.2.2.2.2.1, z1.2.2.2.2.2.2.2.2.2.2.2)))))))))))))
 (.ret ((0 : Int), (h0_1, (h0_2, (h0_3, (h0_4, (h0_5, (h0_6, (h2_3, (h2_4, (h2_5, (h3, h4))))))))))))))))
def c (a_0 a_1 : Int) (a_2 : (List Int)) (a_3 : (List Int)) (h0_1 h0_2 : Int) (h0_3 : Bool) (h0_4 : Int) (h0_5 : (List Int)) (h0_6 : (List (List Int))) (h1_1 h1_2 h1_3 h1_4 h1_5 h1_6 h2_1 h2_3 : Int) (h2_4 : Bool) (h2_5 : Int) (h3 : (List Int)) (h4 : (List Int)) (h5 : (List Int)) : Option XA := (t a_0 a_1 a_2 a_3 h0_1 h0_2 h0_3 h0_4 h0_5 h0_6 h1_1 h1_2 h1_3 h1_4 h1_5 h1_6 h2_1 h2_3 h2_4 h2_5 h3 h4 h5).run
def tl (l : TA) : Tw XA := t l.1.2.1.1 l.1.2.1.2.1 l.1.2.1.2.2.1 l.1.2.1.2.2.2.1 l.2.1.2.1 l.2.1.2.2.1 l.2.1.2.2.2.1 l.2.1.2.2.2.2.1 l.2.1.2.2.2.2.2.1 l.2.1.2.2.2.2.2.2.1 l.2.2.1.2.1 l.2.2.1.2.2.1 l.2.2.1.2.2.2.1 l.2.2.1.2.2.2.2.1 l.2.2.1.2.2.2.2.2.1 l.2.2.1.2.2.2.2.2.2.1 l.2.2.2.1.2.1 l.2.2.2.1.2.2.2.1 l.2.2.2.1.2.2.2.2.1 l.2.2.2.1.2.2.2.2.2.1 l.2.2.2.2.1 l.2.2.2.2.2.1 l.2.2.2.2.2.2.1
def cl (l : TA) : Option XA := (tl l).run
def pA : Pt := (.cs (.ptr 0 0) (.cs (.agg (jC (jC (.cs (.sl 3) (.cs (.sl 3) .nl))))) .nl))
def pH : Pt := (.cs (.var (.cs (.ptr 1 0) (jC (jC (.cs .bool (jC (.cs (.sl 3) (.cs (.sl 12) .nl)))))))) (.cs (.var (.cs (.ptr 2 0) (jC (jC (jC (jC (jC (jC .nl)))))))) (.cs (.var (.cs (.own 3) (jC (.cs (.own 4) (jC (.cs .bool (jC (.cs (.own 5) .nl)))))))) (.cs (.row 3 true) (.cs (.row 1 true) (.cs (.row 3 true) .nl))))))
def v (l : TA) (y : XA) : AV U := jI y.1
def hh (l : TA) (y : XA) : Hp U := [.var [.ptr 1 0, jI y.2.1, jI y.2.2.1, jB y.2.2.2.1, jI y.2.2.2.2.1, .im (.slice 3 y.2.2.2.2.2.1), .im (.slice 12 y.2.2.2.2.2.2.1)], .var [.ptr 2 0, jI l.2.2.1.2.1, jI l.2.2.1.2.2.1, jI l.2.2.1.2.2.2.1, jI l.2.2.1.2.2.2.2.1, jI l.2.2.1.2.2.2.2.2.1, jI l.2.2.1.2.2.2.2.2.2.1], .var [.own 3, jI l.2.2.2.1.2.1, .own 4, jI y.2.2.2.2.2.2.2.1, jB y.2.2.2.2.2.2.2.2.1, jI y.2.2.2.2.2.2.2.2.2.1, .own 5], .row 3 y.2.2.2.2.2.2.2.2.2.2.1 true, .row 1 y.2.2.2.2.2.2.2.2.2.2.2 true, .row 3 l.2.2.2.2.2.2.1 true]
def A : AFun U := mkA (U := U) pA pH (X := XA) cl sp1 v hh
def body : Code := (Go.Func.body Tryz.f11).getD .skip
def Γ : List (FuncId × AFun U) := [(38, ref11_Journal_Mend.A), (37, ref11_Journal_Put.A)]
def Λ : List (Nat × LFun U) := []
def CT : List (Nat × LFun U) := []
def ro : List FuncId := []
def D : Nat → Lv × Lv := dtab []
def E : Env U := { E0 with Γ := Γ, Λ := Λ, C := CT, D := D, ro := ro }
theorem hk (R : Type) (l : TA) (K : AV U → Hp U → Option R) : funcA E Tryz.f11 [] R (pA.mkL l.1) (pH.mkH l.2) K = (tl l).runK fun y => K (v l y) (hh l y) := by kernel_rfl
theorem okF : SoundF Tryz.prog cc 11 (funcA E Tryz.f11 []) :=
  funcA_ok (E := E) P_mixed (E0_ok.with Γ Λ CT D ro) (gam_of (all_cons ⟨ref11_Journal_Mend.ok, ref11_Journal_Mend.fo⟩ (all_cons ⟨ref11_Journal_Put.ok, ref11_Journal_Put.fo⟩ all_nil)) no_ro) Tryz.func11 (c := body) (by kernel_rfl)
    (just_by (by kernel_rfl) (by kernel_rfl) all_nil all_nil) []
theorem ok : SoundF Tryz.prog cc 11 A :=
  mkA_ok (E := E) (p := pA) (q := pH) (t := tl) sp1_ok hk okF
theorem fo : FnOK Tryz.prog 11 := ⟨Tryz.f11, Tryz.func11, by kernel_rfl, by kernel_rfl⟩
end law11_told

/-! instar/instarlaw11.same -/
namespace law11_same
abbrev TA : Type := ((Unit × (Unit × Unit)) × ((Unit × (Int × (Int × (Bool × (Int × ((List Int) × (Unit × Unit))))))) × ((Unit × (Int × (Int × (Int × (Int × (Int × (Int × Unit))))))) × ((Unit × (Int × (Unit × (Int × (Bool × (Int × (Unit × Unit))))))) × ((List Int) × ((List Int) × ((List Int) × ((List (List Int)) × ((Unit × (Int × (Int × (Bool × (Int × ((List Int) × ((List (List Int)) × Unit))))))) × ((Unit × (Int × (Int × (Int × (Int × (Int × (Int × Unit))))))) × ((Unit × (Int × (Unit × (Int × (Bool × (Int × (Unit × Unit))))))) × ((List Int) × ((List Int) × ((List Int) × Unit))))))))))))))
def t (h0_1 h0_2 : Int) (h0_3 : Bool) (h0_4 : Int) (h0_5 : (List Int)) (h1_1 h1_2 h1_3 h1_4 h1_5 h1_6 h2_1 h2_3 : Int) (h2_4 : Bool) (h2_5 : Int) (h3 : (List Int)) (h4 : (List Int)) (h5 : (List Int)) (h6 : (List (List Int))) (h7_1 h7_2 : Int) (h7_3 : Bool) (h7_4 : Int) (h7_5 : (List Int)) (h7_6 : (List (List Int))) (h8_1 h8_2 h8_3 h8_4 h8_5 h8_6 h9_1 h9_3 : Int) (h9_4 : Bool) (h9_5 : Int) (h10 : (List Int)) (h11 : (List Int)) (h12 : (List Int)) : Tw Bool :=
 (.opt (journal_Journal_Place.c h0_1 h0_2 h0_3 h0_4 h0_5 h1_1 h1_2 h1_3 h1_4 h1_5 h1_6 h2_1 h2_3 h2_4 h2_5 h3 h4 h5 h6) fun z1 =>
 (.opt (journal_Journal_Seq.c h0_1 h0_2 h0_3 h0_4 h0_5 h1_1 h1_2 h1_3 h1_4 h1_5 h1_6 h2_1 h2_3 h2_4 h2_5 h3 h4 h5 h6) fun z2 =>
 (.bb (h0_4 == h7_4)
 (.opt (journal_Journal_Whole.c h0_1 h0_2 h0_3 h0_4 h0_5 h1_1 h1_2 h1_3 h1_4 h1_5 h1_6 h2_1 h2_3 h2_4 h2_5 h3 h4 h5 h6) fun z3 =>
 (.opt (ref01_Same.c z3 h7_5) fun z4 =>
 (.bb z4
 (.opt (journal_Journal_Changes.c h0_1 h0_2 h0_3 h0_4 h0_5 h1_1 h1_2 h1_3 h1_4 h1_5 h1_6 h2_1 h2_3 h2_4 h2_5 h3 h4 h5 h6) fun z5 =>
 (.opt (ref11_SameLoads.c z5 h7_6) fun z6 =>
 (.bb z6
 (.opt (journal_Journal_Torn.c h0_1 h0_2 h0_3 h0_4 h0_5 h1_1 h1_2 h1_3 h1_4 h1_5 h1_6 h2_1 h2_3 h2_4 h2_5 h3 h4 h5 h6) fun z7 =>
 (.bb (h0_3 == h7_3)
 (.bb (h0_1 == h7_1)
 (.ret (h0_2 == h7_2))
 (.ret false))
 (.ret false)))
 (.ret false))))
 (.ret false))))
 (.ret false))))
def c (h0_1 h0_2 : Int) (h0_3 : Bool) (h0_4 : Int) (h0_5 : (List Int)) (h1_1 h1_2 h1_3 h1_4 h1_5 h1_6 h2_1 h2_3 : Int) (h2_4 : Bool) (h2_5 : Int) (h3 : (List Int)) (h4 : (List Int)) (h5 : (List Int)) (h6 : (List (List Int))) (h7_1 h7_2 : Int) (h7_3 : Bool) (h7_4 : Int) (h7_5 : (List Int)) (h7_6 : (List (List Int))) (h8_1 h8_2 h8_3 h8_4 h8_5 h8_6 h9_1 h9_3 : Int) (h9_4 : Bool) (h9_5 : Int) (h10 : (List Int)) (h11 : (List Int)) (h12 : (List Int)) : Option Bool := (t h0_1 h0_2 h0_3 h0_4 h0_5 h1_1 h1_2 h1_3 h1_4 h1_5 h1_6 h2_1 h2_3 h2_4 h2_5 h3 h4 h5 h6 h7_1 h7_2 h7_3 h7_4 h7_5 h7_6 h8_1 h8_2 h8_3 h8_4 h8_5 h8_6 h9_1 h9_3 h9_4 h9_5 h10 h11 h12).run
def tl (l : TA) : Tw Bool := t l.2.1.2.1 l.2.1.2.2.1 l.2.1.2.2.2.1 l.2.1.2.2.2.2.1 l.2.1.2.2.2.2.2.1 l.2.2.1.2.1 l.2.2.1.2.2.1 l.2.2.1.2.2.2.1 l.2.2.1.2.2.2.2.1 l.2.2.1.2.2.2.2.2.1 l.2.2.1.2.2.2.2.2.2.1 l.2.2.2.1.2.1 l.2.2.2.1.2.2.2.1 l.2.2.2.1.2.2.2.2.1 l.2.2.2.1.2.2.2.2.2.1 l.2.2.2.2.1 l.2.2.2.2.2.1 l.2.2.2.2.2.2.1 l.2.2.2.2.2.2.2.1 l.2.2.2.2.2.2.2.2.1.2.1 l.2.2.2.2.2.2.2.2.1.2.2.1 l.2.2.2.2.2.2.2.2.1.2.2.2.1 l.2.2.2.2.2.2.2.2.1.2.2.2.2.1 l.2.2.2.2.2.2.2.2.1.2.2.2.2.2.1 l.2.2.2.2.2.2.2.2.1.2.2.2.2.2.2.1 l.2.2.2.2.2.2.2.2.2.1.2.1 l.2.2.2.2.2.2.2.2.2.1.2.2.1 l.2.2.2.2.2.2.2.2.2.1.2.2.2.1 l.2.2.2.2.2.2.2.2.2.1.2.2.2.2.1 l.2.2.2.2.2.2.2.2.2.1.2.2.2.2.2.1 l.2.2.2.2.2.2.2.2.2.1.2.2.2.2.2.2.1 l.2.2.2.2.2.2.2.2.2.2.1.2.1 l.2.2.2.2.2.2.2.2.2.2.1.2.2.2.1 l.2.2.2.2.2.2.2.2.2.2.1.2.2.2.2.1 l.2.2.2.2.2.2.2.2.2.2.1.2.2.2.2.2.1 l.2.2.2.2.2.2.2.2.2.2.2.1 l.2.2.2.2.2.2.2.2.2.2.2.2.1 l.2.2.2.2.2.2.2.2.2.2.2.2.2.1
def cl (l : TA) : Option Bool := (tl l).run
def pA : Pt := (.cs (.ptr 0 0) (.cs (.ptr 7 0) .nl))
def pH : Pt := (.cs (.var (.cs (.ptr 1 0) (jC (jC (.cs .bool (jC (.cs (.sl 3) (.cs (.own 6) .nl)))))))) (.cs (.var (.cs (.ptr 2 0) (jC (jC (jC (jC (jC (jC .nl)))))))) (.cs (.var (.cs (.own 3) (jC (.cs (.own 4) (jC (.cs .bool (jC (.cs (.own 5) .nl)))))))) (.cs (.row 3 true) (.cs (.row 1 true) (.cs (.row 3 true) (.cs (.row 12 true) (.cs (.var (.cs (.ptr 8 0) (jC (jC (.cs .bool (jC (.cs (.sl 3) (.cs (.sl 12) .nl)))))))) (.cs (.var (.cs (.ptr 9 0) (jC (jC (jC (jC (jC (jC .nl)))))))) (.cs (.var (.cs (.own 10) (jC (.cs (.own 11) (jC (.cs .bool (jC (.cs (.own 12) .nl)))))))) (.cs (.row 3 true) (.cs (.row 1 true) (.cs (.row 3 true) .nl)))))))))))))
def v (l : TA) (y : Bool) : AV U := jB y
def hh (l : TA) (y : Bool) : Hp U := [.var [.ptr 1 0, jI l.2.1.2.1, jI l.2.1.2.2.1, jB l.2.1.2.2.2.1, jI l.2.1.2.2.2.2.1, .im (.slice 3 l.2.1.2.2.2.2.2.1), .own 6], .var [.ptr 2 0, jI l.2.2.1.2.1, jI l.2.2.1.2.2.1, jI l.2.2.1.2.2.2.1, jI l.2.2.1.2.2.2.2.1, jI l.2.2.1.2.2.2.2.2.1, jI l.2.2.1.2.2.2.2.2.2.1], .var [.own 3, jI l.2.2.2.1.2.1, .own 4, jI l.2.2.2.1.2.2.2.1, jB l.2.2.2.1.2.2.2.2.1, jI l.2.2.2.1.2.2.2.2.2.1, .own 5], .row 3 l.2.2.2.2.1 true, .row 1 l.2.2.2.2.2.1 true, .row 3 l.2.2.2.2.2.2.1 true, .row 12 l.2.2.2.2.2.2.2.1 true, .var [.ptr 8 0, jI l.2.2.2.2.2.2.2.2.1.2.1, jI l.2.2.2.2.2.2.2.2.1.2.2.1, jB l.2.2.2.2.2.2.2.2.1.2.2.2.1, jI l.2.2.2.2.2.2.2.2.1.2.2.2.2.1, .im (.slice 3 l.2.2.2.2.2.2.2.2.1.2.2.2.2.2.1), .im (.slice 12 l.2.2.2.2.2.2.2.2.1.2.2.2.2.2.2.1)], .var [.ptr 9 0, jI l.2.2.2.2.2.2.2.2.2.1.2.1, jI l.2.2.2.2.2.2.2.2.2.1.2.2.1, jI l.2.2.2.2.2.2.2.2.2.1.2.2.2.1, jI l.2.2.2.2.2.2.2.2.2.1.2.2.2.2.1, jI l.2.2.2.2.2.2.2.2.2.1.2.2.2.2.2.1, jI l.2.2.2.2.2.2.2.2.2.1.2.2.2.2.2.2.1], .var [.own 10, jI l.2.2.2.2.2.2.2.2.2.2.1.2.1, .own 11, jI l.2.2.2.2.2.2.2.2.2.2.1.2.2.2.1, jB l.2.2.2.2.2.2.2.2.2.2.1.2.2.2.2.1, jI l.2.2.2.2.2.2.2.2.2.2.1.2.2.2.2.2.1, .own 12], .row 3 l.2.2.2.2.2.2.2.2.2.2.2.1 true, .row 1 l.2.2.2.2.2.2.2.2.2.2.2.2.1 true, .row 3 l.2.2.2.2.2.2.2.2.2.2.2.2.2.1 true]
def A : AFun U := mkA (U := U) pA pH (X := Bool) cl sp1 v hh
def body : Code := (Go.Func.body Tryz.f34).getD .skip
def Γ : List (FuncId × AFun U) := [(55, journal_Journal_Place.A), (16, journal_Journal_Seq.A), (18, journal_Journal_Whole.A), (17, ref01_Same.A), (20, journal_Journal_Changes.A), (19, ref11_SameLoads.A), (22, journal_Journal_Torn.A)]
def Λ : List (Nat × LFun U) := []
def CT : List (Nat × LFun U) := []
def ro : List FuncId := [55, 16, 18, 20, 22]
def D : Nat → Lv × Lv := dtab []
def E : Env U := { E0 with Γ := Γ, Λ := Λ, C := CT, D := D, ro := ro }
theorem hk (R : Type) (l : TA) (K : AV U → Hp U → Option R) : funcA E Tryz.f34 [] R (pA.mkL l.1) (pH.mkH l.2) K = (tl l).runK fun y => K (v l y) (hh l y) := by kernel_rfl
theorem okF : SoundF Tryz.prog cc 34 (funcA E Tryz.f34 []) :=
  funcA_ok (E := E) P_mixed (E0_ok.with Γ Λ CT D ro) (gam_of (all_cons ⟨journal_Journal_Place.ok, journal_Journal_Place.fo⟩ (all_cons ⟨journal_Journal_Seq.ok, journal_Journal_Seq.fo⟩ (all_cons ⟨journal_Journal_Whole.ok, journal_Journal_Whole.fo⟩ (all_cons ⟨ref01_Same.ok, ref01_Same.fo⟩ (all_cons ⟨journal_Journal_Changes.ok, journal_Journal_Changes.fo⟩ (all_cons ⟨ref11_SameLoads.ok, ref11_SameLoads.fo⟩ (all_cons ⟨journal_Journal_Torn.ok, journal_Journal_Torn.fo⟩ all_nil))))))) (all_cons (fun _ => journal_Journal_Place.keep) (all_cons (fun _ => journal_Journal_Seq.keep) (all_cons (fun _ => journal_Journal_Whole.keep) (all_cons (no_keep (by kernel_rfl)) (all_cons (fun _ => journal_Journal_Changes.keep) (all_cons (no_keep (by kernel_rfl)) (all_cons (fun _ => journal_Journal_Torn.keep) all_nil)))))))) Tryz.func34 (c := body) (by kernel_rfl)
    (just_by (by kernel_rfl) (by kernel_rfl) all_nil all_nil) []
theorem ok : SoundF Tryz.prog cc 34 A :=
  mkA_ok (E := E) (p := pA) (q := pH) (t := tl) sp1_ok hk okF
theorem fo : FnOK Tryz.prog 34 := ⟨Tryz.f34, Tryz.func34, by kernel_rfl, by kernel_rfl⟩
theorem keep : KeepA A := mkA_keep (U := U) sp1_ok (fun (l : TA) y => ⟨(hh l y).drop 13, by kernel_rfl⟩)
end law11_same

/-! (instar/instarlaw11.pair).opened -/
namespace law11_pair_opened
abbrev TA : Type := (((Unit × (Unit × (Unit × (Unit × Unit)))) × Unit) × ((Unit × (Int × (Unit × (Int × (Bool × (Int × (Unit × Unit))))))) × ((List Int) × ((List Int) × ((List Int) × ((Unit × (Int × (Int × (Int × (Int × (Int × (Int × Unit))))))) × ((Unit × (Int × (Int × (Bool × (Int × ((List Int) × (Unit × Unit))))))) × ((List (List Int)) × ((Unit × (Int × (Int × (Bool × (Int × ((List Int) × ((List (List Int)) × Unit))))))) × ((Unit × (Int × (Int × (Int × (Int × (Int × (Int × Unit))))))) × ((Unit × (Int × (Unit × (Int × (Bool × (Int × (Unit × Unit))))))) × ((List Int) × ((List Int) × ((List Int) × Unit))))))))))))))
abbrev XA : Type := ((Bool × (Bool × (Int × (Bool × (Int × (List Int)))))) ⊕ (Bool × (Bool × (Int × (Bool × (Int × (Int × (Int × (Bool × (Int × ((List Int) × ((List (List Int)) × (Int × (Int × (Bool × (Int × ((List Int) × ((List (List Int)) × (List Int)))))))))))))))))))
def t (h0_1 h0_3 : Int) (h0_4 : Bool) (h0_5 : Int) (h1 : (List Int)) (h2 : (List Int)) (h3 : (List Int)) (h4_1 h4_2 h4_3 h4_4 h4_5 h4_6 h5_1 h5_2 : Int) (h5_3 : Bool) (h5_4 : Int) (h5_5 : (List Int)) (h6 : (List (List Int))) (h7_1 h7_2 : Int) (h7_3 : Bool) (h7_4 : Int) (h7_5 : (List Int)) (h7_6 : (List (List Int))) (h8_1 h8_2 h8_3 h8_4 h8_5 h8_6 h9_1 h9_3 : Int) (h9_4 : Bool) (h9_5 : Int) (h10 : (List Int)) (h11 : (List Int)) (h12 : (List Int)) : Tw XA :=
 (.opt (flash_Flash_Power.c h0_1 h0_3 h0_4 h0_5 h1 h2 h3) fun z1 =>
 (.opt (ref07_Flash_Power.c h9_1 h9_3 h9_4 h9_5 h10 h11 h12) fun z2 =>
 (.opt (journal_Open.c h4_1 h4_2 h4_3 h4_4 h4_5 h4_6 h0_1 h0_3 z1.1 z1.2.1 h1 h2 z1.2.2) fun z3 =>
 (.sm z3
 (fun z4 => (.opt (ref11_Open.c h8_1 h8_2 h8_3 h8_4 h8_5 h8_6 h9_1 h9_3 z2.1 z2.2 h10 h11 h12) fun z6 =>
 (.sm z6
 (fun z7 => (.bb (z4 != z7.1)
 (.ret (.inl (false, (z1.1, (z1.2.1, (z2.1, (z2.2, z1.2.2)))))))
 (.ret (.inl (false, (z1.1, (z1.2.1, (z2.1, (z2.2, z1.2.2)))))))))
 (fun z8 => (.bb (z4 != z8)
 (.ret (.inl (false, (z1.1, (z1.2.1, (z2.1, (z2.2, z1.2.2)))))))
 (.ret (.inl (false, (z1.1, (z1.2.1, (z2.1, (z2.2, z1.2.2))))))))))))
 (fun z5 => (.opt (ref11_Open.c h8_1 h8_2 h8_3 h8_4 h8_5 h8_6 h9_1 h9_3 z2.1 z2.2 h10 h11 h12) fun z9 =>
 (.sm z9
 (fun z10 => (.bb (z5.1 != z10.1)
 (.ret (.inl (false, (z1.1, (z1.2.1, (z2.1, (z2.2, z1.2.2)))))))
 (.opt (law11_same.c z5.2.1 z5.2.2.1 z5.2.2.2.1 z5.2.2.2.2.1 z5.2.2.2.2.2.1 h4_1 h4_2 h4_3 h4_4 h4_5 h4_6 h0_1 h0_3 z1.1 z1.2.1 h1 h2 z1.2.2 z5.2.2.2.2.2.2 z10.2.1 z10.2.2.1 z10.2.2.2.1 z10.2.2.2.2.1 z10.2.2.2.2.2.1 z10.2.2.2.2.2.2 h8_1 h8_2 h8_3 h8_4 h8_5 h8_6 h9_1 h9_3 z2.1 z2.2 h10 h11 h12) fun z12 =>
 (.ret (.inr (z12, (z1.1, (z1.2.1, (z2.1, (z2.2, (z5.2.1, (z5.2.2.1, (z5.2.2.2.1, (z5.2.2.2.2.1, (z5.2.2.2.2.2.1, (z5.2.2.2.2.2.2, (z10.2.1, (z10.2.2.1, (z10.2.2.2.1, (z10.2.2.2.2.1, (z10.2.2.2.2.2.1, (z10.2.2.2.2.2.2, z1.2.2))))))))))))))))))))))
 (fun z11 => (.bb (z5.1 != z11)
 (.ret (.inl (false, (z1.1, (z1.2.1, (z2.1, (z2.2, z1.2.2)))))))
 (.ret (.inl (false, (z1.1, (z1.2.1, (z2.1, (z2.2, z1.2.2))))))))))))))))
def c (h0_1 h0_3 : Int) (h0_4 : Bool) (h0_5 : Int) (h1 : (List Int)) (h2 : (List Int)) (h3 : (List Int)) (h4_1 h4_2 h4_3 h4_4 h4_5 h4_6 h5_1 h5_2 : Int) (h5_3 : Bool) (h5_4 : Int) (h5_5 : (List Int)) (h6 : (List (List Int))) (h7_1 h7_2 : Int) (h7_3 : Bool) (h7_4 : Int) (h7_5 : (List Int)) (h7_6 : (List (List Int))) (h8_1 h8_2 h8_3 h8_4 h8_5 h8_6 h9_1 h9_3 : Int) (h9_4 : Bool) (h9_5 : Int) (h10 : (List Int)) (h11 : (List Int)) (h12 : (List Int)) : Option XA := (t h0_1 h0_3 h0_4 h0_5 h1 h2 h3 h4_1 h4_2 h4_3 h4_4 h4_5 h4_6 h5_1 h5_2 h5_3 h5_4 h5_5 h6 h7_1 h7_2 h7_3 h7_4 h7_5 h7_6 h8_1 h8_2 h8_3 h8_4 h8_5 h8_6 h9_1 h9_3 h9_4 h9_5 h10 h11 h12).run
def tl (l : TA) : Tw XA := t l.2.1.2.1 l.2.1.2.2.2.1 l.2.1.2.2.2.2.1 l.2.1.2.2.2.2.2.1 l.2.2.1 l.2.2.2.1 l.2.2.2.2.1 l.2.2.2.2.2.1.2.1 l.2.2.2.2.2.1.2.2.1 l.2.2.2.2.2.1.2.2.2.1 l.2.2.2.2.2.1.2.2.2.2.1 l.2.2.2.2.2.1.2.2.2.2.2.1 l.2.2.2.2.2.1.2.2.2.2.2.2.1 l.2.2.2.2.2.2.1.2.1 l.2.2.2.2.2.2.1.2.2.1 l.2.2.2.2.2.2.1.2.2.2.1 l.2.2.2.2.2.2.1.2.2.2.2.1 l.2.2.2.2.2.2.1.2.2.2.2.2.1 l.2.2.2.2.2.2.2.1 l.2.2.2.2.2.2.2.2.1.2.1 l.2.2.2.2.2.2.2.2.1.2.2.1 l.2.2.2.2.2.2.2.2.1.2.2.2.1 l.2.2.2.2.2.2.2.2.1.2.2.2.2.1 l.2.2.2.2.2.2.2.2.1.2.2.2.2.2.1 l.2.2.2.2.2.2.2.2.1.2.2.2.2.2.2.1 l.2.2.2.2.2.2.2.2.2.1.2.1 l.2.2.2.2.2.2.2.2.2.1.2.2.1 l.2.2.2.2.2.2.2.2.2.1.2.2.2.1 l.2.2.2.2.2.2.2.2.2.1.2.2.2.2.1 l.2.2.2.2.2.2.2.2.2.1.2.2.2.2.2.1 l.2.2.2.2.2.2.2.2.2.1.2.2.2.2.2.2.1 l.2.2.2.2.2.2.2.2.2.2.1.2.1 l.2.2.2.2.2.2.2.2.2.2.1.2.2.2.1 l.2.2.2.2.2.2.2.2.2.2.1.2.2.2.2.1 l.2.2.2.2.2.2.2.2.2.2.1.2.2.2.2.2.1 l.2.2.2.2.2.2.2.2.2.2.2.1 l.2.2.2.2.2.2.2.2.2.2.2.2.1 l.2.2.2.2.2.2.2.2.2.2.2.2.2.1
def cl (l : TA) : Option XA := (tl l).run
def pA : Pt := (.cs (.agg (.cs (.ptr 0 0) (.cs (.ptr 4 0) (.cs (.ptr 5 0) (.cs (.ptr 7 0) .nl))))) .nl)
def pH : Pt := (.cs (.var (.cs (.own 1) (jC (.cs (.own 2) (jC (.cs .bool (jC (.cs (.own 3) .nl)))))))) (.cs (.row 3 true) (.cs (.row 1 true) (.cs (.row 3 true) (.cs (.var (.cs (.ptr 0 0) (jC (jC (jC (jC (jC (jC .nl)))))))) (.cs (.var (.cs (.ptr 4 0) (jC (jC (.cs .bool (jC (.cs (.sl 3) (.cs (.own 6) .nl)))))))) (.cs (.row 12 true) (.cs (.var (.cs (.ptr 8 0) (jC (jC (.cs .bool (jC (.cs (.sl 3) (.cs (.sl 12) .nl)))))))) (.cs (.var (.cs (.ptr 9 0) (jC (jC (jC (jC (jC (jC .nl)))))))) (.cs (.var (.cs (.own 10) (jC (.cs (.own 11) (jC (.cs .bool (jC (.cs (.own 12) .nl)))))))) (.cs (.row 3 true) (.cs (.row 1 true) (.cs (.row 3 true) .nl)))))))))))))
def v (l : TA) (y : XA) : AV U := (Sum.elim (fun a0 => .tup [.agg [.ptr 0 0, .ptr 4 0, .ptr 5 0, .ptr 7 0], jB a0.1]) (fun b0 => .tup [.agg [.ptr 0 0, .ptr 4 0, .ptr 13 0, .ptr 15 0], jB b0.1]) y)
def hh (l : TA) (y : XA) : Hp U := (Sum.elim (fun a0 => [.var [.own 1, jI l.2.1.2.1, .own 2, jI l.2.1.2.2.2.1, jB a0.2.1, jI a0.2.2.1, .own 13], .row 3 l.2.2.1 true, .row 1 l.2.2.2.1 true, .row 3 l.2.2.2.2.1 true, .var [.ptr 0 0, jI l.2.2.2.2.2.1.2.1, jI l.2.2.2.2.2.1.2.2.1, jI l.2.2.2.2.2.1.2.2.2.1, jI l.2.2.2.2.2.1.2.2.2.2.1, jI l.2.2.2.2.2.1.2.2.2.2.2.1, jI l.2.2.2.2.2.1.2.2.2.2.2.2.1], .var [.ptr 4 0, jI l.2.2.2.2.2.2.1.2.1, jI l.2.2.2.2.2.2.1.2.2.1, jB l.2.2.2.2.2.2.1.2.2.2.1, jI l.2.2.2.2.2.2.1.2.2.2.2.1, .im (.slice 3 l.2.2.2.2.2.2.1.2.2.2.2.2.1), .own 6], .row 12 l.2.2.2.2.2.2.2.1 true, .var [.ptr 8 0, jI l.2.2.2.2.2.2.2.2.1.2.1, jI l.2.2.2.2.2.2.2.2.1.2.2.1, jB l.2.2.2.2.2.2.2.2.1.2.2.2.1, jI l.2.2.2.2.2.2.2.2.1.2.2.2.2.1, .im (.slice 3 l.2.2.2.2.2.2.2.2.1.2.2.2.2.2.1), .im (.slice 12 l.2.2.2.2.2.2.2.2.1.2.2.2.2.2.2.1)], .var [.ptr 9 0, jI l.2.2.2.2.2.2.2.2.2.1.2.1, jI l.2.2.2.2.2.2.2.2.2.1.2.2.1, jI l.2.2.2.2.2.2.2.2.2.1.2.2.2.1, jI l.2.2.2.2.2.2.2.2.2.1.2.2.2.2.1, jI l.2.2.2.2.2.2.2.2.2.1.2.2.2.2.2.1, jI l.2.2.2.2.2.2.2.2.2.1.2.2.2.2.2.2.1], .var [.own 10, jI l.2.2.2.2.2.2.2.2.2.2.1.2.1, .own 11, jI l.2.2.2.2.2.2.2.2.2.2.1.2.2.2.1, jB a0.2.2.2.1, jI a0.2.2.2.2.1, .own 12], .row 3 l.2.2.2.2.2.2.2.2.2.2.2.1 true, .row 1 l.2.2.2.2.2.2.2.2.2.2.2.2.1 true, .row 3 l.2.2.2.2.2.2.2.2.2.2.2.2.2.1 true, .row 3 a0.2.2.2.2.2 true]) (fun b0 => [.var [.own 1, jI l.2.1.2.1, .own 2, jI l.2.1.2.2.2.1, jB b0.2.1, jI b0.2.2.1, .own 16], .row 3 l.2.2.1 true, .row 1 l.2.2.2.1 true, .row 3 l.2.2.2.2.1 true, .var [.ptr 0 0, jI l.2.2.2.2.2.1.2.1, jI l.2.2.2.2.2.1.2.2.1, jI l.2.2.2.2.2.1.2.2.2.1, jI l.2.2.2.2.2.1.2.2.2.2.1, jI l.2.2.2.2.2.1.2.2.2.2.2.1, jI l.2.2.2.2.2.1.2.2.2.2.2.2.1], .var [.ptr 4 0, jI l.2.2.2.2.2.2.1.2.1, jI l.2.2.2.2.2.2.1.2.2.1, jB l.2.2.2.2.2.2.1.2.2.2.1, jI l.2.2.2.2.2.2.1.2.2.2.2.1, .im (.slice 3 l.2.2.2.2.2.2.1.2.2.2.2.2.1), .own 6], .row 12 l.2.2.2.2.2.2.2.1 true, .var [.ptr 8 0, jI l.2.2.2.2.2.2.2.2.1.2.1, jI l.2.2.2.2.2.2.2.2.1.2.2.1, jB l.2.2.2.2.2.2.2.2.1.2.2.2.1, jI l.2.2.2.2.2.2.2.2.1.2.2.2.2.1, .im (.slice 3 l.2.2.2.2.2.2.2.2.1.2.2.2.2.2.1), .im (.slice 12 l.2.2.2.2.2.2.2.2.1.2.2.2.2.2.2.1)], .var [.ptr 9 0, jI l.2.2.2.2.2.2.2.2.2.1.2.1, jI l.2.2.2.2.2.2.2.2.2.1.2.2.1, jI l.2.2.2.2.2.2.2.2.2.1.2.2.2.1, jI l.2.2.2.2.2.2.2.2.2.1.2.2.2.2.1, jI l.2.2.2.2.2.2.2.2.2.1.2.2.2.2.2.1, jI l.2.2.2.2.2.2.2.2.2.1.2.2.2.2.2.2.1], .var [.own 10, jI l.2.2.2.2.2.2.2.2.2.2.1.2.1, .own 11, jI l.2.2.2.2.2.2.2.2.2.2.1.2.2.2.1, jB b0.2.2.2.1, jI b0.2.2.2.2.1, .own 12], .row 3 l.2.2.2.2.2.2.2.2.2.2.2.1 true, .row 1 l.2.2.2.2.2.2.2.2.2.2.2.2.1 true, .row 3 l.2.2.2.2.2.2.2.2.2.2.2.2.2.1 true, .var [.ptr 4 0, jI b0.2.2.2.2.2.1, jI b0.2.2.2.2.2.2.1, jB b0.2.2.2.2.2.2.2.1, jI b0.2.2.2.2.2.2.2.2.1, .im (.slice 3 b0.2.2.2.2.2.2.2.2.2.1), .own 14], .row 12 b0.2.2.2.2.2.2.2.2.2.2.1 true, .var [.ptr 8 0, jI b0.2.2.2.2.2.2.2.2.2.2.2.1, jI b0.2.2.2.2.2.2.2.2.2.2.2.2.1, jB b0.2.2.2.2.2.2.2.2.2.2.2.2.2.1, jI b0.2.2.2.2.2.2.2.2.2.2.2.2.2.2.1, .im (.slice 3 b0.2.2.2.2.2.2.2.2.2.2.2.2.2.2.2.1), .im (.slice 12 b0.2.2.2.2.2.2.2.2.2.2.2.2.2.2.2.2.1)], .row 3 b0.2.2.2.2.2.2.2.2.2.2.2.2.2.2.2.2.2 true]) y)
def A : AFun U := mkA (U := U) pA pH (X := XA) cl (spS sp1) v hh
def body : Code := (Go.Func.body Tryz.f10).getD .skip
def Γ : List (FuncId × AFun U) := [(14, flash_Flash_Power.A), (35, ref07_Flash_Power.A), (15, journal_Open.A), (36, ref11_Open.A), (34, law11_same.A)]
def Λ : List (Nat × LFun U) := []
def CT : List (Nat × LFun U) := []
def ro : List FuncId := [34]
def D : Nat → Lv × Lv := dtab []
def E : Env U := { E0 with Γ := Γ, Λ := Λ, C := CT, D := D, ro := ro }
theorem hk (R : Type) (l : TA) (K : AV U → Hp U → Option R) : funcA E Tryz.f10 [] R (pA.mkL l.1) (pH.mkH l.2) K = (tl l).runK fun y => K (v l y) (hh l y) := by kernel_rfl
theorem okF : SoundF Tryz.prog cc 10 (funcA E Tryz.f10 []) :=
  funcA_ok (E := E) P_mixed (E0_ok.with Γ Λ CT D ro) (gam_of (all_cons ⟨flash_Flash_Power.ok, flash_Flash_Power.fo⟩ (all_cons ⟨ref07_Flash_Power.ok, ref07_Flash_Power.fo⟩ (all_cons ⟨journal_Open.ok, journal_Open.fo⟩ (all_cons ⟨ref11_Open.ok, ref11_Open.fo⟩ (all_cons ⟨law11_same.ok, law11_same.fo⟩ all_nil))))) (all_cons (no_keep (by kernel_rfl)) (all_cons (no_keep (by kernel_rfl)) (all_cons (no_keep (by kernel_rfl)) (all_cons (no_keep (by kernel_rfl)) (all_cons (fun _ => law11_same.keep) all_nil)))))) Tryz.func10 (c := body) (by kernel_rfl)
    (just_by (by kernel_rfl) (by kernel_rfl) all_nil all_nil) []
theorem ok : SoundF Tryz.prog cc 10 A :=
  mkA_ok (E := E) (p := pA) (q := pH) (t := tl) (spS_ok sp1_ok) hk okF
theorem fo : FnOK Tryz.prog 10 := ⟨Tryz.f10, Tryz.func10, by kernel_rfl, by kernel_rfl⟩
end law11_pair_opened

/-! (instar/instarlaw11.pair).run -/
namespace law11_pair_run
abbrev TA : Type := (((Unit × (Unit × (Unit × (Unit × Unit)))) × ((List Act11) × Unit)) × ((Unit × (Int × (Unit × (Int × (Bool × (Int × (Unit × Unit))))))) × ((List Int) × ((List Int) × ((List Int) × ((Unit × (Int × (Int × (Int × (Int × (Int × (Int × Unit))))))) × ((Unit × (Int × (Int × (Bool × (Int × ((List Int) × (Unit × Unit))))))) × ((List (List Int)) × ((Unit × (Int × (Int × (Bool × (Int × ((List Int) × ((List (List Int)) × Unit))))))) × ((Unit × (Int × (Int × (Int × (Int × (Int × (Int × Unit))))))) × ((Unit × (Int × (Unit × (Int × (Bool × (Int × (Unit × Unit))))))) × ((List Int) × ((List Int) × ((List Int) × Unit))))))))))))))
abbrev XA : Type := (Bool × (Int × (Bool × (Int × ((List Int) × ((List Int) × (Int × (Bool × (Int × ((List Int) × ((List Int) × (Int × (Int × (Bool × (Int × ((List Int) × ((List (List Int)) × (Int × (Int × (Bool × (Int × ((List Int) × ((List (List Int)) × ((List Int) × (List Int)))))))))))))))))))))))))
abbrev T2 : Type := ((Unit × ((List Act11) × (Unit × (Unit × (Unit × (Unit × (Int × (Unit × Unit)))))))) × ((Unit × (Int × (Unit × (Int × (Bool × (Int × (Unit × Unit))))))) × ((List Int) × ((List Int) × (Unit × ((Unit × (Int × (Int × (Int × (Int × (Int × (Int × Unit))))))) × (Unit × (Unit × (Unit × ((Unit × (Int × (Int × (Int × (Int × (Int × (Int × Unit))))))) × ((Unit × (Int × (Unit × (Int × (Bool × (Int × (Unit × Unit))))))) × ((List Int) × ((List Int) × (Unit × ((Unit × (Unit × (Unit × (Unit × Unit)))) × ((Unit × (Int × (Int × (Bool × (Int × ((List Int) × (Unit × Unit))))))) × ((List (List Int)) × ((Unit × (Int × (Int × (Bool × (Int × ((List Int) × ((List (List Int)) × Unit))))))) × ((Unit × (Unit × (Unit × (Unit × Unit)))) × ((List Int) × ((List Int) × Unit)))))))))))))))))))))
abbrev S2 : Type := (Int × (Int × (Bool × (Int × ((List Int) × ((List Int) × (Int × (Bool × (Int × ((List Int) × ((List Int) × (Int × (Int × (Bool × (Int × ((List Int) × ((List (List Int)) × (Int × (Int × (Bool × (Int × ((List Int) × ((List (List Int)) × ((List Int) × (List Int)))))))))))))))))))))))))
abbrev X2 : Type := ((Int × (Bool × (Int × ((List Int) × ((List Int) × (Int × (Bool × (Int × ((List Int) × ((List Int) × (Int × (Int × (Bool × (Int × ((List Int) × ((List (List Int)) × (Int × (Int × (Bool × (Int × ((List Int) × ((List (List Int)) × ((List Int) × (List Int)))))))))))))))))))))))) ⊕ (Bool × (Int × (Bool × (Int × ((List Int) × ((List Int) × (Int × (Bool × (Int × ((List Int) × ((List Int) × (Int × (Int × (Bool × (Int × ((List Int) × ((List (List Int)) × (Int × (Int × (Bool × (Int × ((List Int) × ((List (List Int)) × ((List Int) × (List Int))))))))))))))))))))))))))
def l2 (l_ : (List Act11)) (h0_1 h4_1 h4_2 h4_3 h4_4 h4_5 h4_6 h8_1 h8_2 h8_3 h8_4 h8_5 h8_6 h9_1 i h0_3 : Int) (h0_4 : Bool) (h0_5 : Int) (h1 : (List Int)) (h2 : (List Int)) (h9_3 : Int) (h9_4 : Bool) (h9_5 : Int) (h10 : (List Int)) (h11 : (List Int)) (h14_1 h14_2 : Int) (h14_3 : Bool) (h14_4 : Int) (h14_5 : (List Int)) (h15 : (List (List Int))) (h16_1 h16_2 : Int) (h16_3 : Bool) (h16_4 : Int) (h16_5 : (List Int)) (h16_6 : (List (List Int))) (h18 : (List Int)) (h19 : (List Int)) : Tw (S2 ⊕ X2) :=
 (.bb (decide (i < (((List.length l_) : Nat) : Int)))
 (.dd (((0 : Int) ≤ i)) inferInstance
 (.opt (l_)[(Int.toNat i)]? fun z1 =>
 (.bb (z1.kind == (5 : Int))
 (.opt (flash_Flash_Arm.c z1.n z1.load h0_1 h0_3 h0_4 h0_5 h1 h2 h18) fun z19 =>
 (.opt (ref07_Flash_Arm.c z1.n z1.load h9_1 h9_3 h9_4 h9_5 h10 h11 h19) fun z20 =>
 (.opt (law11_do.c z1.kind z1.n z1.load z1.whole h14_1 h14_2 h14_3 h14_4 h14_5 h4_1 h4_2 h4_3 h4_4 h4_5 h4_6 h0_1 h0_3 h0_4 z19.1 h1 h2 z19.2 h15) fun z21 =>
 (.opt (law11_told.c z1.kind z1.n z1.load z1.whole h16_1 h16_2 h16_3 h16_4 h16_5 h16_6 h8_1 h8_2 h8_3 h8_4 h8_5 h8_6 h9_1 h9_3 h9_4 z20 h10 h11 z1.load) fun z22 =>
 (.bb (z21.1 != z22.1)
 (.ret (.inr (.inr (false, (z21.2.2.2.2.2.2.1, (z21.2.2.2.2.2.2.2.1, (z21.2.2.2.2.2.2.2.2.1, (z21.2.2.2.2.2.2.2.2.2.1, (z21.2.2.2.2.2.2.2.2.2.2.1, (z22.2.2.2.2.2.2.2.1, (z22.2.2.2.2.2.2.2.2.1, (z22.2.2.2.2.2.2.2.2.2.1, (z22.2.2.2.2.2.2.2.2.2.2.1, (z22.2.2.2.2.2.2.2.2.2.2.2, (z21.2.1, (z21.2.2.1, (z21.2.2.2.1, (z21.2.2.2.2.1, (z21.2.2.2.2.2.1, (z21.2.2.2.2.2.2.2.2.2.2.2, (z22.2.1, (z22.2.2.1, (z22.2.2.2.1, (z22.2.2.2.2.1, (z22.2.2.2.2.2.1, (z22.2.2.2.2.2.2.1, (z19.2, z1.load)))))))))))))))))))))))))))
 (.opt (flash_Flash_Words.c h0_1 z21.2.2.2.2.2.2.1 z21.2.2.2.2.2.2.2.1 z21.2.2.2.2.2.2.2.2.1 z21.2.2.2.2.2.2.2.2.2.1 z21.2.2.2.2.2.2.2.2.2.2.1 z19.2) fun z23 =>
 (.opt (ref01_Same.c z23 z22.2.2.2.2.2.2.2.2.2.2.1) fun z24 =>
 (.bb (!z24)
 (.ret (.inr (.inr (false, (z21.2.2.2.2.2.2.1, (z21.2.2.2.2.2.2.2.1, (z21.2.2.2.2.2.2.2.2.1, (z21.2.2.2.2.2.2.2.2.2.1, (z21.2.2.2.2.2.2.2.2.2.2.1, (z22.2.2.2.2.2.2.2.1, (z22.2.2.2.2.2.2.2.2.1, (z22.2.2.2.2.2.2.2.2.2.1, (z22.2.2.2.2.2.2.2.2.2.2.1, (z22.2.2.2.2.2.2.2.2.2.2.2, (z21.2.1, (z21.2.2.1, (z21.2.2.2.1, (z21.2.2.2.2.1, (z21.2.2.2.2.2.1, (z21.2.2.2.2.2.2.2.2.2.2.2, (z22.2.1, (z22.2.2.1, (z22.2.2.2.1, (z22.2.2.2.2.1, (z22.2.2.2.2.2.1, (z22.2.2.2.2.2.2.1, (z19.2, z1.load)))))))))))))))))))))))))))
 (.bb (z21.1 == (10 : Int))
 (.bb (z1.kind == (4 : Int))
 (.opt (law11_pair_opened.c h0_1 z21.2.2.2.2.2.2.1 z21.2.2.2.2.2.2.2.1 z21.2.2.2.2.2.2.2.2.1 z21.2.2.2.2.2.2.2.2.2.1 z21.2.2.2.2.2.2.2.2.2.2.1 z19.2 h4_1 h4_2 h4_3 h4_4 h4_5 h4_6 z21.2.1 z21.2.2.1 z21.2.2.2.1 z21.2.2.2.2.1 z21.2.2.2.2.2.1 z21.2.2.2.2.2.2.2.2.2.2.2 z22.2.1 z22.2.2.1 z22.2.2.2.1 z22.2.2.2.2.1 z22.2.2.2.2.2.1 z22.2.2.2.2.2.2.1 h8_1 h8_2 h8_3 h8_4 h8_5 h8_6 h9_1 z22.2.2.2.2.2.2.2.1 z22.2.2.2.2.2.2.2.2.1 z22.2.2.2.2.2.2.2.2.2.1 z22.2.2.2.2.2.2.2.2.2.2.1 z22.2.2.2.2.2.2.2.2.2.2.2 z1.load) fun z35 =>
 (.sm z35
 (fun z36 => (.bb (!z36.1)
 (.ret (.inr (.inr (false, (z21.2.2.2.2.2.2.1, (z36.2.1, (z36.2.2.1, (z21.2.2.2.2.2.2.2.2.2.1, (z21.2.2.2.2.2.2.2.2.2.2.1, (z22.2.2.2.2.2.2.2.1, (z36.2.2.2.1, (z36.2.2.2.2.1, (z22.2.2.2.2.2.2.2.2.2.2.1, (z22.2.2.2.2.2.2.2.2.2.2.2, (z21.2.1, (z21.2.2.1, (z21.2.2.2.1, (z21.2.2.2.2.1, (z21.2.2.2.2.2.1, (z21.2.2.2.2.2.2.2.2.2.2.2, (z22.2.1, (z22.2.2.1, (z22.2.2.2.1, (z22.2.2.2.2.1, (z22.2.2.2.2.2.1, (z22.2.2.2.2.2.2.1, (z36.2.2.2.2.2, z1.load)))))))))))))))))))))))))))
 (.ret (.inl ((w64 (i + (1 : Int))), (z21.2.2.2.2.2.2.1, (z36.2.1, (z36.2.2.1, (z21.2.2.2.2.2.2.2.2.2.1, (z21.2.2.2.2.2.2.2.2.2.2.1, (z22.2.2.2.2.2.2.2.1, (z36.2.2.2.1, (z36.2.2.2.2.1, (z22.2.2.2.2.2.2.2.2.2.2.1, (z22.2.2.2.2.2.2.2.2.2.2.2, (z21.2.1, (z21.2.2.1, (z21.2.2.2.1, (z21.2.2.2.2.1, (z21.2.2.2.2.2.1, (z21.2.2.2.2.2.2.2.2.2.2.2, (z22.2.1, (z22.2.2.1, (z22.2.2.2.1, (z22.2.2.2.2.1, (z22.2.2.2.2.2.1, (z22.2.2.2.2.2.2.1, (z36.2.2.2.2.2, z1.load))))))))))))))))))))))))))))
 (fun z37 => (.bb (!z37.1)
 (.ret (.inr (.inr (false, (z21.2.2.2.2.2.2.1, (z37.2.1, (z37.2.2.1, (z21.2.2.2.2.2.2.2.2.2.1, (z21.2.2.2.2.2.2.2.2.2.2.1, (z22.2.2.2.2.2.2.2.1, (z37.2.2.2.1, (z37.2.2.2.2.1, (z22.2.2.2.2.2.2.2.2.2.2.1, (z22.2.2.2.2.2.2.2.2.2.2.2, (z37.2.2.2.2.2.1, (z37.2.2.2.2.2.2.1, (z37.2.2.2.2.2.2.2.1, (z37.2.2.2.2.2.2.2.2.1, (z37.2.2.2.2.2.2.2.2.2.1, (z37.2.2.2.2.2.2.2.2.2.2.1, (z37.2.2.2.2.2.2.2.2.2.2.2.1, (z37.2.2.2.2.2.2.2.2.2.2.2.2.1, (z37.2.2.2.2.2.2.2.2.2.2.2.2.2.1, (z37.2.2.2.2.2.2.2.2.2.2.2.2.2.2.1, (z37.2.2.2.2.2.2.2.2.2.2.2.2.2.2.2.1, (z37.2.2.2.2.2.2.2.2.2.2.2.2.2.2.2.2.1, (z37.2.2.2.2.2.2.2.2.2.2.2.2.2.2.2.2.2, z1.load)))))))))))))))))))))))))))
 (.ret (.inl ((w64 (i + (1 : Int))), (z21.2.2.2.2.2.2.1, (z37.2.1, (z37.2.2.1, (z21.2.2.2.2.2.2.2.2.2.1, (z21.2.2.2.2.2.2.2.2.2.2.1, (z22.2.2.2.2.2.2.2.1, (z37.2.2.2.1, (z37.2.2.2.2.1, (z22.2.2.2.2.2.2.2.2.2.2.1, (z22.2.2.2.2.2.2.2.2.2.2.2, (z37.2.2.2.2.2.1, (z37.2.2.2.2.2.2.1, (z37.2.2.2.2.2.2.2.1, (z37.2.2.2.2.2.2.2.2.1, (z37.2.2.2.2.2.2.2.2.2.1, (z37.2.2.2.2.2.2.2.2.2.2.1, (z37.2.2.2.2.2.2.2.2.2.2.2.1, (z37.2.2.2.2.2.2.2.2.2.2.2.2.1, (z37.2.2.2.2.2.2.2.2.2.2.2.2.2.1, (z37.2.2.2.2.2.2.2.2.2.2.2.2.2.2.1, (z37.2.2.2.2.2.2.2.2.2.2.2.2.2.2.2.1, (z37.2.2.2.2.2.2.2.2.2.2.2.2.2.2.2.2.1, (z37.2.2.2.2.2.2.2.2.2.2.2.2.2.2.2.2.2, z1.load))))))))))))))))))))))))))))))
 (.bb (z21.1 == (10 : Int))
 (.opt (law11_pair_opened.c h0_1 z21.2.2.2.2.2.2.1 z21.2.2.2.2.2.2.2.1 z21.2.2.2.2.2.2.2.2.1 z21.2.2.2.2.2.2.2.2.2.1 z21.2.2.2.2.2.2.2.2.2.2.1 z19.2 h4_1 h4_2 h4_3 h4_4 h4_5 h4_6 z21.2.1 z21.2.2.1 z21.2.2.2.1 z21.2.2.2.2.1 z21.2.2.2.2.2.1 z21.2.2.2.2.2.2.2.2.2.2.2 z22.2.1 z22.2.2.1 z22.2.2.2.1 z22.2.2.2.2.1 z22.2.2.2.2.2.1 z22.2.2.2.2.2.2.1 h8_1 h8_2 h8_3 h8_4 h8_5 h8_6 h9_1 z22.2.2.2.2.2.2.2.1 z22.2.2.2.2.2.2.2.2.1 z22.2.2.2.2.2.2.2.2.2.1 z22.2.2.2.2.2.2.2.2.2.2.1 z22.2.2.2.2.2.2.2.2.2.2.2 z1.load) fun z32 =>
 (.sm z32
 (fun z33 => (.bb (!z33.1)
 (.ret (.inr (.inr (false, (z21.2.2.2.2.2.2.1, (z33.2.1, (z33.2.2.1, (z21.2.2.2.2.2.2.2.2.2.1, (z21.2.2.2.2.2.2.2.2.2.2.1, (z22.2.2.2.2.2.2.2.1, (z33.2.2.2.1, (z33.2.2.2.2.1, (z22.2.2.2.2.2.2.2.2.2.2.1, (z22.2.2.2.2.2.2.2.2.2.2.2, (z21.2.1, (z21.2.2.1, (z21.2.2.2.1, (z21.2.2.2.2.1, (z21.2.2.2.2.2.1, (z21.2.2.2.2.2.2.2.2.2.2.2, (z22.2.1, (z22.2.2.1, (z22.2.2.2.1, (z22.2.2.2.2.1, (z22.2.2.2.2.2.1, (z22.2.2.2.2.2.2.1, (z33.2.2.2.2.2, z1.load)))))))))))))))))))))))))))
 (.ret (.inl ((w64 (i + (1 : Int))), (z21.2.2.2.2.2.2.1, (z33.2.1, (z33.2.2.1, (z21.2.2.2.2.2.2.2.2.2.1, (z21.2.2.2.2.2.2.2.2.2.2.1, (z22.2.2.2.2.2.2.2.1, (z33.2.2.2.1, (z33.2.2.2.2.1, (z22.2.2.2.2.2.2.2.2.2.2.1, (z22.2.2.2.2.2.2.2.2.2.2.2, (z21.2.1, (z21.2.2.1, (z21.2.2.2.1, (z21.2.2.2.2.1, (z21.2.2.2.2.2.1, (z21.2.2.2.2.2.2.2.2.2.2.2, (z22.2.1, (z22.2.2.1, (z22.2.2.2.1, (z22.2.2.2.2.1, (z22.2.2.2.2.2.1, (z22.2.2.2.2.2.2.1, (z33.2.2.2.2.2, z1.load))))))))))))))))))))))))))))
 (fun z34 => (.bb (!z34.1)
 (.ret (.inr (.inr (false, (z21.2.2.2.2.2.2.1, (z34.2.1, (z34.2.2.1, (z21.2.2.2.2.2.2.2.2.2.1, (z21.2.2.2.2.2.2.2.2.2.2.1, (z22.2.2.2.2.2.2.2.1, (z34.2.2.2.1, (z34.2.2.2.2.1, (z22.2.2.2.2.2.2.2.2.2.2.1, (z22.2.2.2.2.2.2.2.2.2.2.2, (z34.2.2.2.2.2.1, (z34.2.2.2.2.2.2.1, (z34.2.2.2.2.2.2.2.1, (z34.2.2.2.2.2.2.2.2.1, (z34.2.2.2.2.2.2.2.2.2.1, (z34.2.2.2.2.2.2.2.2.2.2.1, (z34.2.2.2.2.2.2.2.2.2.2.2.1, (z34.2.2.2.2.2.2.2.2.2.2.2.2.1, (z34.2.2.2.2.2.2.2.2.2.2.2.2.2.1, (z34.2.2.2.2.2.2.2.2.2.2.2.2.2.2.1, (z34.2.2.2.2.2.2.2.2.2.2.2.2.2.2.2.1, (z34.2.2.2.2.2.2.2.2.2.2.2.2.2.2.2.2.1, (z34.2.2.2.2.2.2.2.2.2.2.2.2.2.2.2.2.2, z1.load)))))))))))))))))))))))))))
 (.ret (.inl ((w64 (i + (1 : Int))), (z21.2.2.2.2.2.2.1, (z34.2.1, (z34.2.2.1, (z21.2.2.2.2.2.2.2.2.2.1, (z21.2.2.2.2.2.2.2.2.2.2.1, (z22.2.2.2.2.2.2.2.1, (z34.2.2.2.1, (z34.2.2.2.2.1, (z22.2.2.2.2.2.2.2.2.2.2.1, (z22.2.2.2.2.2.2.2.2.2.2.2, (z34.2.2.2.2.2.1, (z34.2.2.2.2.2.2.1, (z34.2.2.2.2.2.2.2.1, (z34.2.2.2.2.2.2.2.2.1, (z34.2.2.2.2.2.2.2.2.2.1, (z34.2.2.2.2.2.2.2.2.2.2.1, (z34.2.2.2.2.2.2.2.2.2.2.2.1, (z34.2.2.2.2.2.2.2.2.2.2.2.2.1, (z34.2.2.2.2.2.2.2.2.2.2.2.2.2.1, (z34.2.2.2.2.2.2.2.2.2.2.2.2.2.2.1, (z34.2.2.2.2.2.2.2.2.2.2.2.2.2.2.2.1, (z34.2.2.2.2.2.2.2.2.2.2.2.2.2.2.2.2.1, (z34.2.2.2.2.2.2.2.2.2.2.2.2.2.2.2.2.2, z1.load))))))))))))))))))))))))))))))
 (.ret (.inl ((w64 (i + (1 : Int))), (z21.2.2.2.2.2.2.1, (z21.2.2.2.2.2.2.2.1, (z21.2.2.2.2.2.2.2.2.1, (z21.2.2.2.2.2.2.2.2.2.1, (z21.2.2.2.2.2.2.2.2.2.2.1, (z22.2.2.2.2.2.2.2.1, (z22.2.2.2.2.2.2.2.2.1, (z22.2.2.2.2.2.2.2.2.2.1, (z22.2.2.2.2.2.2.2.2.2.2.1, (z22.2.2.2.2.2.2.2.2.2.2.2, (z21.2.1, (z21.2.2.1, (z21.2.2.2.1, (z21.2.2.2.2.1, (z21.2.2.2.2.2.1, (z21.2.2.2.2.2.2.2.2.2.2.2, (z22.2.1, (z22.2.2.1, (z22.2.2.2.1, (z22.2.2.2.2.1, (z22.2.2.2.2.2.1, (z22.2.2.2.2.2.2.1, (z19.2, z1.load))))))))))))))))))))))))))))
 (.opt (law11_same.c z21.2.1 z21.2.2.1 z21.2.2.2.1 z21.2.2.2.2.1 z21.2.2.2.2.2.1 h4_1 h4_2 h4_3 h4_4 h4_5 h4_6 h0_1 z21.2.2.2.2.2.2.1 z21.2.2.2.2.2.2.2.1 z21.2.2.2.2.2.2.2.2.1 z21.2.2.2.2.2.2.2.2.2.1 z21.2.2.2.2.2.2.2.2.2.2.1 z19.2 z21.2.2.2.2.2.2.2.2.2.2.2 z22.2.1 z22.2.2.1 z22.2.2.2.1 z22.2.2.2.2.1 z22.2.2.2.2.2.1 z22.2.2.2.2.2.2.1 h8_1 h8_2 h8_3 h8_4 h8_5 h8_6 h9_1 z22.2.2.2.2.2.2.2.1 z22.2.2.2.2.2.2.2.2.1 z22.2.2.2.2.2.2.2.2.2.1 z22.2.2.2.2.2.2.2.2.2.2.1 z22.2.2.2.2.2.2.2.2.2.2.2 z1.load) fun z25 =>
 (.bb (z1.kind == (4 : Int))
 (.opt (law11_pair_opened.c h0_1 z21.2.2.2.2.2.2.1 z21.2.2.2.2.2.2.2.1 z21.2.2.2.2.2.2.2.2.1 z21.2.2.2.2.2.2.2.2.2.1 z21.2.2.2.2.2.2.2.2.2.2.1 z19.2 h4_1 h4_2 h4_3 h4_4 h4_5 h4_6 z21.2.1 z21.2.2.1 z21.2.2.2.1 z21.2.2.2.2.1 z21.2.2.2.2.2.1 z21.2.2.2.2.2.2.2.2.2.2.2 z22.2.1 z22.2.2.1 z22.2.2.2.1 z22.2.2.2.2.1 z22.2.2.2.2.2.1 z22.2.2.2.2.2.2.1 h8_1 h8_2 h8_3 h8_4 h8_5 h8_6 h9_1 z22.2.2.2.2.2.2.2.1 z22.2.2.2.2.2.2.2.2.1 z22.2.2.2.2.2.2.2.2.2.1 z22.2.2.2.2.2.2.2.2.2.2.1 z22.2.2.2.2.2.2.2.2.2.2.2 z1.load) fun z29 =>
 (.sm z29
 (fun z30 => (.bb (!z30.1)
 (.ret (.inr (.inr (false, (z21.2.2.2.2.2.2.1, (z30.2.1, (z30.2.2.1, (z21.2.2.2.2.2.2.2.2.2.1, (z21.2.2.2.2.2.2.2.2.2.2.1, (z22.2.2.2.2.2.2.2.1, (z30.2.2.2.1, (z30.2.2.2.2.1, (z22.2.2.2.2.2.2.2.2.2.2.1, (z22.2.2.2.2.2.2.2.2.2.2.2, (z21.2.1, (z21.2.2.1, (z21.2.2.2.1, (z21.2.2.2.2.1, (z21.2.2.2.2.2.1, (z21.2.2.2.2.2.2.2.2.2.2.2, (z22.2.1, (z22.2.2.1, (z22.2.2.2.1, (z22.2.2.2.2.1, (z22.2.2.2.2.2.1, (z22.2.2.2.2.2.2.1, (z30.2.2.2.2.2, z1.load)))))))))))))))))))))))))))
 (.ret (.inl ((w64 (i + (1 : Int))), (z21.2.2.2.2.2.2.1, (z30.2.1, (z30.2.2.1, (z21.2.2.2.2.2.2.2.2.2.1, (z21.2.2.2.2.2.2.2.2.2.2.1, (z22.2.2.2.2.2.2.2.1, (z30.2.2.2.1, (z30.2.2.2.2.1, (z22.2.2.2.2.2.2.2.2.2.2.1, (z22.2.2.2.2.2.2.2.2.2.2.2, (z21.2.1, (z21.2.2.1, (z21.2.2.2.1, (z21.2.2.2.2.1, (z21.2.2.2.2.2.1, (z21.2.2.2.2.2.2.2.2.2.2.2, (z22.2.1, (z22.2.2.1, (z22.2.2.2.1, (z22.2.2.2.2.1, (z22.2.2.2.2.2.1, (z22.2.2.2.2.2.2.1, (z30.2.2.2.2.2, z1.load))))))))))))))))))))))))))))
 (fun z31 => (.bb (!z31.1)
 (.ret (.inr (.inr (false, (z21.2.2.2.2.2.2.1, (z31.2.1, (z31.2.2.1, (z21.2.2.2.2.2.2.2.2.2.1, (z21.2.2.2.2.2.2.2.2.2.2.1, (z22.2.2.2.2.2.2.2.1, (z31.2.2.2.1, (z31.2.2.2.2.1, (z22.2.2.2.2.2.2.2.2.2.2.1, (z22.2.2.2.2.2.2.2.2.2.2.2, (z31.2.2.2.2.2.1, (z31.2.2.2.2.2.2.1, (z31.2.2.2.2.2.2.2.1, (z31.2.2.2.2.2.2.2.2.1, (z31.2.2.2.2.2.2.2.2.2.1, (z31.2.2.2.2.2.2.2.2.2.2.1, (z31.2.2.2.2.2.2.2.2.2.2.2.1, (z31.2.2.2.2.2.2.2.2.2.2.2.2.1, (z31.2.2.2.2.2.2.2.2.2.2.2.2.2.1, (z31.2.2.2.2.2.2.2.2.2.2.2.2.2.2.1, (z31.2.2.2.2.2.2.2.2.2.2.2.2.2.2.2.1, (z31.2.2.2.2.2.2.2.2.2.2.2.2.2.2.2.2.1, (z31.2.2.2.2.2.2.2.2.2.2.2.2.2.2.2.2.2, z1.load)))))))))))))))))))))))))))
 (.ret (.inl ((w64 (i + (1 : Int))), (z21.2.2.2.2.2.2.1, (z31.2.1, (z31.2.2.1, (z21.2.2.2.2.2.2.2.2.2.1, (z21.2.2.2.2.2.2.2.2.2.2.1, (z22.2.2.2.2.2.2.2.1, (z31.2.2.2.1, (z31.2.2.2.2.1, (z22.2.2.2.2.2.2.2.2.2.2.1, (z22.2.2.2.2.2.2.2.2.2.2.2, (z31.2.2.2.2.2.1, (z31.2.2.2.2.2.2.1, (z31.2.2.2.2.2.2.2.1, (z31.2.2.2.2.2.2.2.2.1, (z31.2.2.2.2.2.2.2.2.2.1, (z31.2.2.2.2.2.2.2.2.2.2.1, (z31.2.2.2.2.2.2.2.2.2.2.2.1, (z31.2.2.2.2.2.2.2.2.2.2.2.2.1, (z31.2.2.2.2.2.2.2.2.2.2.2.2.2.1, (z31.2.2.2.2.2.2.2.2.2.2.2.2.2.2.1, (z31.2.2.2.2.2.2.2.2.2.2.2.2.2.2.2.1, (z31.2.2.2.2.2.2.2.2.2.2.2.2.2.2.2.2.1, (z31.2.2.2.2.2.2.2.2.2.2.2.2.2.2.2.2.2, z1.load))))))))))))))))))))))))))))))
 (.bb (z21.1 == (10 : Int))
 (.opt (law11_pair_opened.c h0_1 z21.2.2.2.2.2.2.1 z21.2.2.2.2.2.2.2.1 z21.2.2.2.2.2.2.2.2.1 z21.2.2.2.2.2.2.2.2.2.1 z21.2.2.2.2.2.2.2.2.2.2.1 z19.2 h4_1 h4_2 h4_3 h4_4 h4_5 h4_6 z21.2.1 z21.2.2.1 z21.2.2.2.1 z21.2.2.2.2.1 z21.2.2.2.2.2.1 z21.2.2.2.2.2.2.2.2.2.2.2 z22.2.1 z22.2.2.1 z22.2.2.2.1 z22.2.2.2.2.1 z22.2.2.2.2.2.1 z22.2.2.2.2.2.2.1 h8_1 h8_2 h8_3 h8_4 h8_5 h8_6 h9_1 z22.2.2.2.2.2.2.2.1 z22.2.2.2.2.2.2.2.2.1 z22.2.2.2.2.2.2.2.2.2.1 z22.2.2.2.2.2.2.2.2.2.2.1 z22.2.2.2.2.2.2.2.2.2.2.2 z1.load) fun z26 =>
 (.sm z26
 (fun z27 => (.bb (!z27.1)
 (.ret (.inr (.inr (false, (z21.2.2.2.2.2.2.1, (z27.2.1, (z27.2.2.1, (z21.2.2.2.2.2.2.2.2.2.1, (z21.2.2.2.2.2.2.2.2.2.2.1, (z22.2.2.2.2.2.2.2.1, (z27.2.2.2.1, (z27.2.2.2.2.1, (z22.2.2.2.2.2.2.2.2.2.2.1, (z22.2.2.2.2.2.2.2.2.2.2.2, (z21.2.1, (z21.2.2.1, (z21.2.2.2.1, (z21.2.2.2.2.1, (z21.2.2.2.2.2.1, (z21.2.2.2.2.2.2.2.2.2.2.2, (z22.2.1, (z22.2.2.1, (z22.2.2.2.1, (z22.2.2.2.2.1, (z22.2.2.2.2.2.1, (z22.2.2.2.2.2.2.1, (z27.2.2.2.2.2, z1.load)))))))))))))))))))))))))))
 (.ret (.inl ((w64 (i + (1 : Int))), (z21.2.2.2.2.2.2.1, (z27.2.1, (z27.2.2.1, (z21.2.2.2.2.2.2.2.2.2.1, (z21.2.2.2.2.2.2.2.2.2.2.1, (z22.2.2.2.2.2.2.2.1, (z27.2.2.2.1, (z27.2.2.2.2.1, (z22.2.2.2.2.2.2.2.2.2.2.1, (z22.2.2.2.2.2.2.2.2.2.2.2, (z21.2.1, (z21.2.2.1, (z21.2.2.2.1, (z21.2.2.2.2.1, (z21.2.2.2.2.2.1, (z21.2.2.2.2.2.2.2.2.2.2.2, (z22.2.1, (z22.2.2.1, (z22.2.2.2.1, (z22.2.2.2.2.1, (z22.2.2.2.2.2.1, (z22.2.2.2.2.2.2.1, (z27.2.2.2.2.2, z1.load))))))))))))))))))))))))))))
 (fun z28 => (.bb (!z28.1)
 (.ret (.inr (.inr (false, (z21.2.2.2.2.2.2.1, (z28.2.1, (z28.2.2.1, (z21.2.2.2.2.2.2.2.2.2.1, (z21.2.2.2.2.2.2.2.2.2.2.1, (z22.2.2.2.2.2.2.2.1, (z28.2.2.2.1, (z28.2.2.2.2.1, (z22.2.2.2.2.2.2.2.2.2.2.1, (z22.2.2.2.2.2.2.2.2.2.2.2, (z28.2.2.2.2.2.1, (z28.2.2.2.2.2.2.1, (z28.2.2.2.2.2.2.2.1, (z28.2.2.2.2.2.2.2.2.1, (z28.2.2.2.2.2.2.2.2.2.1, (z28.2.2.2.2.2.2.2.2.2.2.1, (z28.2.2.2.2.2.2.2.2.2.2.2.1, (z28.2.2.2.2.2.2.2.2.2.2.2.2.1, (z28.2.2.2.2.2.2.2.2.2.2.2.2.2.1, (z28.2.2.2.2.2.2.2.2.2.2.2.2.2.2.1, (z28.2.2.2.2.2.2.2.2.2.2.2.2.2.2.2.1, (z28.2.2.2.2.2.2.2.2.2.2.2.2.2.2.2.2.1, (z28.2.2.2.2.2.2.2.2.2.2.2.2.2.2.2.2.2, z1.load)))))))))))))))))))))))))))
 (.ret (.inl ((w64 (i + (1 : Int))), (z21.2.2.2.2.2.2.1, (z28.2.1, (z28.2.2.1, (z21.2.2.2.2.2.2.2.2.2.1, (z21.2.2.2.2.2.2.2.2.2.2.1, (z22.2.2.2.2.2.2.2.1, (z28.2.2.2.1, (z28.2.2.2.2.1, (z22.2.2.2.2.2.2.2.2.2.2.1, (z22.2.2.2.2.2.2.2.2.2.2.2, (z28.2.2.2.2.2.1, (z28.2.2.2.2.2.2.1, (z28.2.2.2.2.2.2.2.1, (z28.2.2.2.2.2.2.2.2.1, (z28.2.2.2.2.2.2.2.2.2.1, (z28.2.2.2.2.2.2.2.2.2.2.1, (z28.2.2.2.2.2.2.2.2.2.2.2.1, (z28.2.2.2.2.2.2.2.2.2.2.2.2.1, (z28.2.2.2.2.2.2.2.2.2.2.2.2.2.1, (z28.2.2.2.2.2.2.2.2.2.2.2.2.2.2.1, (z28.2.2.2.2.2.2.2.2.2.2.2.2.2.2.2.1, (z28.2.2.2.2.2.2.2.2.2.2.2.2.2.2.2.2.1, (z28.2.2.2.2.2.2.2.2.2.2.2.2.2.2.2.2.2, z1.load))))))))))))))))))))))))))))))
 (.bb (!z25)
 (.ret (.inr (.inr (false, (z21.2.2.2.2.2.2.1, (z21.2.2.2.2.2.2.2.1, (z21.2.2.2.2.2.2.2.2.1, (z21.2.2.2.2.2.2.2.2.2.1, (z21.2.2.2.2.2.2.2.2.2.2.1, (z22.2.2.2.2.2.2.2.1, (z22.2.2.2.2.2.2.2.2.1, (z22.2.2.2.2.2.2.2.2.2.1, (z22.2.2.2.2.2.2.2.2.2.2.1, (z22.2.2.2.2.2.2.2.2.2.2.2, (z21.2.1, (z21.2.2.1, (z21.2.2.2.1, (z21.2.2.2.2.1, (z21.2.2.2.2.2.1, (z21.2.2.2.2.2.2.2.2.2.2.2, (z22.2.1, (z22.2.2.1, (z22.2.2.2.1, (z22.2.2.2.2.1, (z22.2.2.2.2.2.1, (z22.2.2.2.2.2.2.1, (z19.2, z1.load)))))))))))))))))))))))))))
 (.ret (.inl ((w64 (i + (1 : Int))), (z21.2.2.2.2.2.2.1, (z21.2.2.2.2.2.2.2.1, (z21.2.2.2.2.2.2.2.2.1, (z21.2.2.2.2.2.2.2.2.2.1, (z21.2.2.2.2.2.2.2.2.2.2.1, (z22.2.2.2.2.2.2.2.1, (z22.2.2.2.2.2.2.2.2.1, (z22.2.2.2.2.2.2.2.2.2.1, (z22.2.2.2.2.2.2.2.2.2.2.1, (z22.2.2.2.2.2.2.2.2.2.2.2, (z21.2.1, (z21.2.2.1, (z21.2.2.2.1, (z21.2.2.2.2.1, (z21.2.2.2.2.2.1, (z21.2.2.2.2.2.2.2.2.2.2.2, (z22.2.1, (z22.2.2.1, (z22.2.2.2.1, (z22.2.2.2.2.1, (z22.2.2.2.2.2.1, (z22.2.2.2.2.2.2.1, (z19.2, z1.load)))))))))))))))))))))))))))))))))))))))
 (.opt (law11_do.c z1.kind z1.n z1.load z1.whole h14_1 h14_2 h14_3 h14_4 h14_5 h4_1 h4_2 h4_3 h4_4 h4_5 h4_6 h0_1 h0_3 h0_4 h0_5 h1 h2 h18 h15) fun z2 =>
 (.opt (law11_told.c z1.kind z1.n z1.load z1.whole h16_1 h16_2 h16_3 h16_4 h16_5 h16_6 h8_1 h8_2 h8_3 h8_4 h8_5 h8_6 h9_1 h9_3 h9_4 h9_5 h10 h11 h19) fun z3 =>
 (.bb (z2.1 != z3.1)
 (.ret (.inr (.inr (false, (z2.2.2.2.2.2.2.1, (z2.2.2.2.2.2.2.2.1, (z2.2.2.2.2.2.2.2.2.1, (z2.2.2.2.2.2.2.2.2.2.1, (z2.2.2.2.2.2.2.2.2.2.2.1, (z3.2.2.2.2.2.2.2.1, (z3.2.2.2.2.2.2.2.2.1, (z3.2.2.2.2.2.2.2.2.2.1, (z3.2.2.2.2.2.2.2.2.2.2.1, (z3.2.2.2.2.2.2.2.2.2.2.2, (z2.2.1, (z2.2.2.1, (z2.2.2.2.1, (z2.2.2.2.2.1, (z2.2.2.2.2.2.1, (z2.2.2.2.2.2.2.2.2.2.2.2, (z3.2.1, (z3.2.2.1, (z3.2.2.2.1, (z3.2.2.2.2.1, (z3.2.2.2.2.2.1, (z3.2.2.2.2.2.2.1, (h18, h19)))))))))))))))))))))))))))
 (.opt (flash_Flash_Words.c h0_1 z2.2.2.2.2.2.2.1 z2.2.2.2.2.2.2.2.1 z2.2.2.2.2.2.2.2.2.1 z2.2.2.2.2.2.2.2.2.2.1 z2.2.2.2.2.2.2.2.2.2.2.1 h18) fun z4 =>
 (.opt (ref01_Same.c z4 z3.2.2.2.2.2.2.2.2.2.2.1) fun z5 =>
 (.bb (!z5)
 (.ret (.inr (.inr (false, (z2.2.2.2.2.2.2.1, (z2.2.2.2.2.2.2.2.1, (z2.2.2.2.2.2.2.2.2.1, (z2.2.2.2.2.2.2.2.2.2.1, (z2.2.2.2.2.2.2.2.2.2.2.1, (z3.2.2.2.2.2.2.2.1, (z3.2.2.2.2.2.2.2.2.1, (z3.2.2.2.2.2.2.2.2.2.1, (z3.2.2.2.2.2.2.2.2.2.2.1, (z3.2.2.2.2.2.2.2.2.2.2.2, (z2.2.1, (z2.2.2.1, (z2.2.2.2.1, (z2.2.2.2.2.1, (z2.2.2.2.2.2.1, (z2.2.2.2.2.2.2.2.2.2.2.2, (z3.2.1, (z3.2.2.1, (z3.2.2.2.1, (z3.2.2.2.2.1, (z3.2.2.2.2.2.1, (z3.2.2.2.2.2.2.1, (h18, h19)))))))))))))))))))))))))))
 (.bb (z2.1 == (10 : Int))
 (.bb (z1.kind == (4 : Int))
 (.opt (law11_pair_opened.c h0_1 z2.2.2.2.2.2.2.1 z2.2.2.2.2.2.2.2.1 z2.2.2.2.2.2.2.2.2.1 z2.2.2.2.2.2.2.2.2.2.1 z2.2.2.2.2.2.2.2.2.2.2.1 h18 h4_1 h4_2 h4_3 h4_4 h4_5 h4_6 z2.2.1 z2.2.2.1 z2.2.2.2.1 z2.2.2.2.2.1 z2.2.2.2.2.2.1 z2.2.2.2.2.2.2.2.2.2.2.2 z3.2.1 z3.2.2.1 z3.2.2.2.1 z3.2.2.2.2.1 z3.2.2.2.2.2.1 z3.2.2.2.2.2.2.1 h8_1 h8_2 h8_3 h8_4 h8_5 h8_6 h9_1 z3.2.2.2.2.2.2.2.1 z3.2.2.2.2.2.2.2.2.1 z3.2.2.2.2.2.2.2.2.2.1 z3.2.2.2.2.2.2.2.2.2.2.1 z3.2.2.2.2.2.2.2.2.2.2.2 h19) fun z16 =>
 (.sm z16
 (fun z17 => (.bb (!z17.1)
 (.ret (.inr (.inr (false, (z2.2.2.2.2.2.2.1, (z17.2.1, (z17.2.2.1, (z2.2.2.2.2.2.2.2.2.2.1, (z2.2.2.2.2.2.2.2.2.2.2.1, (z3.2.2.2.2.2.2.2.1, (z17.2.2.2.1, (z17.2.2.2.2.1, (z3.2.2.2.2.2.2.2.2.2.2.1, (z3.2.2.2.2.2.2.2.2.2.2.2, (z2.2.1, (z2.2.2.1, (z2.2.2.2.1, (z2.2.2.2.2.1, (z2.2.2.2.2.2.1, (z2.2.2.2.2.2.2.2.2.2.2.2, (z3.2.1, (z3.2.2.1, (z3.2.2.2.1, (z3.2.2.2.2.1, (z3.2.2.2.2.2.1, (z3.2.2.2.2.2.2.1, (z17.2.2.2.2.2, h19)))))))))))))))))))))))))))
 (.ret (.inl ((w64 (i + (1 : Int))), (z2.2.2.2.2.2.2.1, (z17.2.1, (z17.2.2.1, (z2.2.2.2.2.2.2.2.2.2.1, (z2.2.2.2.2.2.2.2.2.2.2.1, (z3.2.2.2.2.2.2.2.1, (z17.2.2.2.1, (z17.2.2.2.2.1, (z3.2.2.2.2.2.2.2.2.2.2.1, (z3.2.2.2.2.2.2.2.2.2.2.2, (z2.2.1, (z2.2.2.1, (z2.2.2.2.1, (z2.2.2.2.2.1, (z2.2.2.2.2.2.1, (z2.2.2.2.2.2.2.2.2.2.2.2, (z3.2.1, (z3.2.2.1, (z3.2.2.2.1, (z3.2.2.2.2.1, (z3.2.2.2.2.2.1, (z3.2.2.2.2.2.2.1, (z17.2.2.2.2.2, h19))))))))))))))))))))))))))))
 (fun z18 => (.bb (!z18.1)
 (.ret (.inr (.inr (false, (z2.2.2.2.2.2.2.1, (z18.2.1, (z18.2.2.1, (z2.2.2.2.2.2.2.2.2.2.1, (z2.2.2.2.2.2.2.2.2.2.2.1, (z3.2.2.2.2.2.2.2.1, (z18.2.2.2.1, (z18.2.2.2.2.1, (z3.2.2.2.2.2.2.2.2.2.2.1, (z3.2.2.2.2.2.2.2.2.2.2.2, (z18.2.2.2.2.2.1, (z18.2.2.2.2.2.2.1, (z18.2.2.2.2.2.2.2.1, (z18.2.2.2.2.2.2.2.2.1, (z18.2.2.2.2.2.2.2.2.2.1, (z18.2.2.2.2.2.2.2.2.2.2.1, (z18.2.2.2.2.2.2.2.2.2.2.2.1, (z18.2.2.2.2.2.2.2.2.2.2.2.2.1, (z18.2.2.2.2.2.2.2.2.2.2.2.2.2.1, (z18.2.2.2.2.2.2.2.2.2.2.2.2.2.2.1, (z18.2.2.2.2.2.2.2.2.2.2.2.2.2.2.2.1, (z18.2.2.2.2.2.2.2.2.2.2.2.2.2.2.2.2.1, (z18.2.2.2.2.2.2.2.2.2.2.2.2.2.2.2.2.2, h19)))))))))))))))))))))))))))
 (.ret (.inl ((w64 (i + (1 : Int))), (z2.2.2.2.2.2.2.1, (z18.2.1, (z18.2.2.1, (z2.2.2.2.2.2.2.2.2.2.1, (z2.2.2.2.2.2.2.2.2.2.2.1, (z3.2.2.2.2.2.2.2.1, (z18.2.2.2.1, (z18.2.2.2.2.1, (z3.2.2.2.2.2.2.2.2.2.2.1, (z3.2.2.2.2.2.2.2.2.2.2.2, (z18.2.2.2.2.2.1, (z18.2.2.2.2.2.2.1, (z18.2.2.2.2.2.2.2.1, (z18.2.2.2.2.2.2.2.2.1, (z18.2.2.2.2.2.2.2.2.2.1, (z18.2.2.2.2.2.2.2.2.2.2.1, (z18.2.2.2.2.2.2.2.2.2.2.2.1, (z18.2.2.2.2.2.2.2.2.2.2.2.2.1, (z18.2.2.2.2.2.2.2.2.2.2.2.2.2.1, (z18.2.2.2.2.2.2.2.2.2.2.2.2.2.2.1, (z18.2.2.2.2.2.2.2.2.2.2.2.2.2.2.2.1, (z18.2.2.2.2.2.2.2.2.2.2.2.2.2.2.2.2.1, (z18.2.2.2.2.2.2.2.2.2.2.2.2.2.2.2.2.2, h19))))))))))))))))))))))))))))))
 (.bb (z2.1 == (10 : Int))
 (.opt (law11_pair_opened.c h0_1 z2.2.2.2.2.2.2.1 z2.2.2.2.2.2.2.2.1 z2.2.2.2.2.2.2.2.2.1 z2.2.2.2.2.2.2.2.2.2.1 z2.2.2.2.2.2.2.2.2.2.2.1 h18 h4_1 h4_2 h4_3 h4_4 h4_5 h4_6 z2.2.1 z2.2.2.1 z2.2.2.2.1 z2.2.2.2.2.1 z2.2.2.2.2.2.1 z2.2.2.2.2.2.2.2.2.2.2.2 z3.2.1 z3.2.2.1 z3.2.2.2.1 z3.2.2.2.2.1 z3.2.2.2.2.2.1 z3.2.2.2.2.2.2.1 h8_1 h8_2 h8_3 h8_4 h8_5 h8_6 h9_1 z3.2.2.2.2.2.2.2.1 z3.2.2.2.2.2.2.2.2.1 z3.2.2.2.2.2.2.2.2.2.1 z3.2.2.2.2.2.2.2.2.2.2.1 z3.2.2.2.2.2.2.2.2.2.2.2 h19) fun z13 =>
 (.sm z13
 (fun z14 => (.bb (!z14.1)
 (.ret (.inr (.inr (false, (z2.2.2.2.2.2.2.1, (z14.2.1, (z14.2.2.1, (z2.2.2.2.2.2.2.2.2.2.1, (z2.2.2.2.2.2.2.2.2.2.2.1, (z3.2.2.2.2.2.2.2.1, (z14.2.2.2.1, (z14.2.2.2.2.1, (z3.2.2.2.2.2.2.2.2.2.2.1, (z3.2.2.2.2.2.2.2.2.2.2.2, (z2.2.1, (z2.2.2.1, (z2.2.2.2.1, (z2.2.2.2.2.1, (z2.2.2.2.2.2.1, (z2.2.2.2.2.2.2.2.2.2.2.2, (z3.2.1, (z3.2.2.1, (z3.2.2.2.1, (z3.2.2.2.2.1, (z3.2.2.2.2.2.1, (z3.2.2.2.2.2.2.1, (z14.2.2.2.2.2, h19)))))))))))))))))))))))))))
 (.ret (.inl ((w64 (i + (1 : Int))), (z2.2.2.2.2.2.2.1, (z14.2.1, (z14.2.2.1, (z2.2.2.2.2.2.2.2.2.2.1, (z2.2.2.2.2.2.2.2.2.2.2.1, (z3.2.2.2.2.2.2.2.1, (z14.2.2.2.1, (z14.2.2.2.2.1, (z3.2.2.2.2.2.2.2.2.2.2.1, (z3.2.2.2.2.2.2.2.2.2.2.2, (z2.2.1, (z2.2.2.1, (z2.2.2.2.1, (z2.2.2.2.2.1, (z2.2.2.2.2.2.1, (z2.2.2.2.2.2.2.2.2.2.2.2, (z3.2.1, (z3.2.2.1, (z3.2.2.2.1, (z3.2.2.2.2.1, (z3.2.2.2.2.2.1, (z3.2.2.2.2.2.2.1, (z14.2.2.2.2.2, h19))))))))))))))))))))))))))))
 (fun z15 => (.bb (!z15.1)
 (.ret (.inr (.inr (false, (z2.2.2.2.2.2.2.1, (z15.2.1, (z15.2.2.1, (z2.2.2.2.2.2.2.2.2.2.1, (z2.2.2.2.2.2.2.2.2.2.2.1, (z3.2.2.2.2.2.2.2.1, (z15.2.2.2.1, (z15.2.2.2.2.1, (z3.2.2.2.2.2.2.2.2.2.2.1, (z3.2.2.2.2.2.2.2.2.2.2.2, (z15.2.2.2.2.2.1, (z15.2.2.2.2.2.2.1, (z15.2.2.2.2.2.2.2.1, (z15.2.2.2.2.2.2.2.2.1, (z15.2.2.2.2.2.2.2.2.2.1, (z15.2.2.2.2.2.2.2.2.2.2.1, (z15.2.2.2.2.2.2.2.2.2.2.2.1, (z15.2.2.2.2.2.2.2.2.2.2.2.2.1, (z15.2.2.2.2.2.2.2.2.2.2.2.2.2.1, (z15.2.2.2.2.2.2.2.2.2.2.2.2.2.2.1, (z15.2.2.2.2.2.2.2.2.2.2.2.2.2.2.2.1, (z15.2.2.2.2.2.2.2.2.2.2.2.2.2.2.2.2.1, (z15.2.2.2.2.2.2.2.2.2.2.2.2.2.2.2.2.2, h19)))))))))))))))))))))))))))
 (.ret (.inl ((w64 (i + (1 : Int))), (z2.2.2.2.2.2.2.1, (z15.2.1, (z15.2.2.1, (z2.2.2.2.2.2.2.2.2.2.1, (z2.2.2.2.2.2.2.2.2.2.2.1, (z3.2.2.2.2.2.2.2.1, (z15.2.2.2.1, (z15.2.2.2.2.1, (z3.2.2.2.2.2.2.2.2.2.2.1, (z3.2.2.2.2.2.2.2.2.2.2.2, (z15.2.2.2.2.2.1, (z15.2.2.2.2.2.2.1, (z15.2.2.2.2.2.2.2.1, (z15.2.2.2.2.2.2.2.2.1, (z15.2.2.2.2.2.2.2.2.2.1, (z15.2.2.2.2.2.2.2.2.2.2.1, (z15.2.2.2.2.2.2.2.2.2.2.2.1, (z15.2.2.2.2.2.2.2.2.2.2.2.2.1, (z15.2.2.2.2.2.2.2.2.2.2.2.2.2.1, (z15.2.2.2.2.2.2.2.2.2.2.2.2.2.2.1, (z15.2.2.2.2.2.2.2.2.2.2.2.2.2.2.2.1, (z15.2.2.2.2.2.2.2.2.2.2.2.2.2.2.2.2.1, (z15.2.2.2.2.2.2.2.2.2.2.2.2.2.2.2.2.2, h19))))))))))))))))))))))))))))))
 (.ret (.inl ((w64 (i + (1 : Int))), (z2.2.2.2.2.2.2.1, (z2.2.2.2.2.2.2.2.1, (z2.2.2.2.2.2.2.2.2.1, (z2.2.2.2.2.2.2.2.2.2.1, (z2.2.2.2.2.2.2.2.2.2.2.1, (z3.2.2.2.2.2.2.2.1, (z3.2.2.2.2.2.2.2.2.1, (z3.2.2.2.2.2.2.2.2.2.1, (z3.2.2.2.2.2.2.2.2.2.2.1, (z3.2.2.2.2.2.2.2.2.2.2.2, (z2.2.1, (z2.2.2.1, (z2.2.2.2.1, (z2.2.2.2.2.1, (z2.2.2.2.2.2.1, (z2.2.2.2.2.2.2.2.2.2.2.2, (z3.2.1, (z3.2.2.1, (z3.2.2.2.1, (z3.2.2.2.2.1, (z3.2.2.2.2.2.1, (z3.2.2.2.2.2.2.1, (h18, h19))))))))))))))))))))))))))))
 (.opt (law11_same.c z2.2.1 z2.2.2.1 z2.2.2.2.1 z2.2.2.2.2.1 z2.2.2.2.2.2.1 h4_1 h4_2 h4_3 h4_4 h4_5 h4_6 h0_1 z2.2.2.2.2.2.2.1 z2.2.2.2.2.2.2.2.1 z2.2.2.2.2.2.2.2.2.1 z2.2.2.2.2.2.2.2.2.2.1 z2.2.2.2.2.2.2.2.2.2.2.1 h18 z2.2.2.2.2.2.2.2.2.2.2.2 z3.2.1 z3.2.2.1 z3.2.2.2.1 z3.2.2.2.2.1 z3.2.2.2.2.2.1 z3.2.2.2.2.2.2.1 h8_1 h8_2 h8_3 h8_4 h8_5 h8_6 h9_1 z3.2.2.2.2.2.2.2.1 z3.2.2.2.2.2.2.2.2.1 z3.2.2.2.2.2.2.2.2.2.1 z3.2.2.2.2.2.2.2.2.2.2.1 z3.2.2.2.2.2.2.2.2.2.2.2 h19) fun z6 =>
 (.bb (z1.kind == (4 : Int))
 (.opt (law11_pair_opened.c h0_1 z2.2.2.2.2.2.2.1 z2.2.2.2.2.2.2.2.1 z2.2.2.2.2.2.2.2.2.1 z2.2.2.2.2.2.2.2.2.2.1 z2.2.2.2.2.2.2.2.2.2.2.1 h18 h4_1 h4_2 h4_3 h4_4 h4_5 h4_6 z2.2.1 z2.2.2.1 z2.2.2.2.1 z2.2.2.2.2.1 z2.2.2.2.2.2.1 z2.2.2.2.2.2.2.2.2.2.2.2 z3.2.1 z3.2.2.1 z3.2.2.2.1 z3.2.2.2.2.1 z3.2.2.2.2.2.1 z3.2.2.2.2.2.2.1 h8_1 h8_2 h8_3 h8_4 h8_5 h8_6 h9_1 z3.2.2.2.2.2.2.2.1 z3.2.2.2.2.2.2.2.2.1 z3.2.2.2.2.2.2.2.2.2.1 z3.2.2.2.2.2.2.2.2.2.2.1 z3.2.2.2.2.2.2.2.2.2.2.2 h19) fun z10 =>
 (.sm z10
 (fun z11 => (.bb (!z11.1)
 (.ret (.inr (.inr (false, (z2.2.2.2.2.2.2.1, (z11.2.1, (z11.2.2.1, (z2.2.2.2.2.2.2.2.2.2.1, (z2.2.2.2.2.2.2.2.2.2.2.1, (z3.2.2.2.2.2.2.2.1, (z11.2.2.2.1, (z11.2.2.2.2.1, (z3.2.2.2.2.2.2.2.2.2.2.1, (z3.2.2.2.2.2.2.2.2.2.2.2, (z2.2.1, (z2.2.2.1, (z2.2.2.2.1, (z2.2.2.2.2.1, (z2.2.2.2.2.2.1, (z2.2.2.2.2.2.2.2.2.2.2.2, (z3.2.1, (z3.2.2.1, (z3.2.2.2.1, (z3.2.2.2.2.1, (z3.2.2.2.2.2.1, (z3.2.2.2.2.2.2.1, (z11.2.2.2.2.2, h19)))))))))))))))))))))))))))
 (.ret (.inl ((w64 (i + (1 : Int))), (z2.2.2.2.2.2.2.1, (z11.2.1, (z11.2.2.1, (z2.2.2.2.2.2.2.2.2.2.1, (z2.2.2.2.2.2.2.2.2.2.2.1, (z3.2.2.2.2.2.2.2.1, (z11.2.2.2.1, (z11.2.2.2.2.1, (z3.2.2.2.2.2.2.2.2.2.2.1, (z3.2.2.2.2.2.2.2.2.2.2.2, (z2.2.1, (z2.2.2.1, (z2.2.2.2.1, (z2.2.2.2.2.1, (z2.2.2.2.2.2.1, (z2.2.2.2.2.2.2.2.2.2.2.2, (z3.2.1, (z3.2.2.1, (z3.2.2.2.1, (z3.2.2.2.2.1, (z3.2.2.2.2.2.1, (z3.2.2.2.2.2.2.1, (z11.2.2.2.2.2, h19))))))))))))))))))))))))))))
 (fun z12 => (.bb (!z12.1)
 (.ret (.inr (.inr (false, (z2.2.2.2.2.2.2.1, (z12.2.1, (z12.2.2.1, (z2.2.2.2.2.2.2.2.2.2.1, (z2.2.2.2.2.2.2.2.2.2.2.1, (z3.2.2.2.2.2.2.2.1, (z12.2.2.2.1, (z12.2.2.2.2.1, (z3.2.2.2.2.2.2.2.2.2.2.1, (z3.2.2.2.2.2.2.2.2.2.2.2, (z12.2.2.2.2.2.1, (z12.2.2.2.2.2.2.1, (z12.2.2.2.2.2.2.2.1, (z12.2.2.2.2.2.2.2.2.1, (z12.2.2.2.2.2.2.2.2.2.1, (z12.2.2.2.2.2.2.2.2.2.2.1, (z12.2.2.2.2.2.2.2.2.2.2.2.1, (z12.2.2.2.2.2.2.2.2.2.2.2.2.1, (z12.2.2.2.2.2.2.2.2.2.2.2.2.2.1, (z12.2.2.2.2.2.2.2.2.2.2.2.2.2.2.1, (z12.2.2.2.2.2.2.2.2.2.2.2.2.2.2.2.1, (z12.2.2.2.2.2.2.2.2.2.2.2.2.2.2.2.2.1, (z12.2.2.2.2.2.2.2.2.2.2.2.2.2.2.2.2.2, h19)))))))))))))))))))))))))))
 (.ret (.inl ((w64 (i + (1 : Int))), (z2.2.2.2.2.2.2.1, (z12.2.1, (z12.2.2.1, (z2.2.2.2.2.2.2.2.2.2.1, (z2.2.2.2.2.2.2.2.2.2.2.1, (z3.2.2.2.2.2.2.2.1, (z12.2.2.2.1, (z12.2.2.2.2.1, (z3.2.2.2.2.2.2.2.2.2.2.1, (z3.2.2.2.2.2.2.2.2.2.2.2, (z12.2.2.2.2.2.1, (z12.2.2.2.2.2.2.1, (z12.2.2.2.2.2.2.2.1, (z12.2.2.2.2.2.2.2.2.1, (z12.2.2.2.2.2.2.2.2.2.1, (z12.2.2.2.2.2.2.2.2.2.2.1, (z12.2.2.2.2.2.2.2.2.2.2.2.1, (z12.2.2.2.2.2.2.2.2.2.2.2.2.1, (z12.2.2.2.2.2.2.2.2.2.2.2.2.2.1, (z12.2.2.2.2.2.2.2.2.2.2.2.2.2.2.1, (z12.2.2.2.2.2.2.2.2.2.2.2.2.2.2.2.1, (z12.2.2.2.2.2.2.2.2.2.2.2.2.2.2.2.2.1, (z12.2.2.2.2.2.2.2.2.2.2.2.2.2.2.2.2.2, h19))))))))))))))))))))))))))))))
 (.bb (z2.1 == (10 : Int))
 (.opt (law11_pair_opened.c h0_1 z2.2.2.2.2.2.2.1 z2.2.2.2.2.2.2.2.1 z2.2.2.2.2.2.2.2.2.1 z2.2.2.2.2.2.2.2.2.2.1 z2.2.2.2.2.2.2.2.2.2.2.1 h18 h4_1 h4_2 h4_3 h4_4 h4_5 h4_6 z2.2.1 z2.2.2.1 z2.2.2.2.1 z2.2.2.2.2.1 z2.2.2.2.2.2.1 z2.2.2.2.2.2.2.2.2.2.2.2 z3.2.1 z3.2.2.1 z3.2.2.2.1 z3.2.2.2.2.1 z3.2.2.2.2.2.1 z3.2.2.2.2.2.2.1 h8_1 h8_2 h8_3 h8_4 h8_5 h8_6 h9_1 z3.2.2.2.2.2.2.2.1 z3.2.2.2.2.2.2.2.2.1 z3.2.2.2.2.2.2.2.2.2.1 z3.2.2.2.2.2.2.2.2.2.2.1 z3.2.2.2.2.2.2.2.2.2.2.2 h19) fun z7 =>
 (.sm z7
 (fun z8 => (.bb (!z8.1)
 (.ret (.inr (.inr (false, (z2.2.2.2.2.2.2.1, (z8.2.1, (z8.2.2.1, (z2.2.2.2.2.2.2.2.2.2.1, (z2.2.2.2.2.2.2.2.2.2.2.1, (z3.2.2.2.2.2.2.2.1, (z8.2.2.2.1, (z8.2.2.2.2.1, (z3.2.2.2.2.2.2.2.2.2.2.1, (z3.2.2.2.2.2.2.2.2.2.2.2, (z2.2.1, (z2.2.2.1, (z2.2.2.2.1, (z2.2.2.2.2.1, (z2.2.2.2.2.2.1, (z2.2.2.2.2.2.2.2.2.2.2.2, (z3.2.1, (z3.2.2.1, (z3.2.2.2.1, (z3.2.2.2.2.1, (z3.2.2.2.2.2.1, (z3.2.2.2.2.2.2.1, (z8.2.2.2.2.2, h19)))))))))))))))))))))))))))
 (.ret (.inl ((w64 (i + (1 : Int))), (z2.2.2.2.2.2.2.1, (z8.2.1, (z8.2.2.1, (z2.2.2.2.2.2.2.2.2.2.1, (z2.2.2.2.2.2.2.2.2.2.2.1, (z3.2.2.2.2.2.2.2.1, (z8.2.2.2.1, (z8.2.2.2.2.1, (z3.2.2.2.2.2.2.2.2.2.2.1, (z3.2.2.2.2.2.2.2.2.2.2.2, (z2.2.1, (z2.2.2.1, (z2.2.2.2.1, (z2.2.2.2.2.1, (z2.2.2.2.2.2.1, (z2.2.2.2.2.2.2.2.2.2.2.2, (z3.2.1, (z3.2.2.1, (z3.2.2.2.1, (z3.2.2.2.2.1, (z3.2.2.2.2.2.1, (z3.2.2.2.2.2.2.1, (z8.2.2.2.2.2, h19))))))))))))))))))))))))))))
 (fun z9 => (.bb (!z9.1)
 (.ret (.inr (.inr (false, (z2.2.2.2.2.2.2.1, (z9.2.1, (z9.2.2.1, (z2.2.2.2.2.2.2.2.2.2.1, (z2.2.2.2.2.2.2.2.2.2.2.1, (z3.2.2.2.2.2.2.2.1, (z9.2.2.2.1, (z9.2.2.2.2.1, (z3.2.2.2.2.2.2.2.2.2.2.1, (z3.2.2.2.2.2.2.2.2.2.2.2, (z9.2.2.2.2.2.1, (z9.2.2.2.2.2.2.1, (z9.2.2.2.2.2.2.2.1, (z9.2.2.2.2.2.2.2.2.1, (z9.2.2.2.2.2.2.2.2.2.1, (z9.2.2.2.2.2.2.2.2.2.2.1, (z9.2.2.2.2.2.2.2.2.2.2.2.1, (z9.2.2.2.2.2.2.2.2.2.2.2.2.1, (z9.2.2.2.2.2.2.2.2.2.2.2.2.2.1, (z9.2.2.2.2.2.2.2.2.2.2.2.2.2.2.1, (z9.2.2.2.2.2.2.2.2.2.2.2.2.2.2.2.1, (z9.2.2.2.2.2.2.2.2.2.2.2.2.2.2.2.2.1, (z9.2.2.2.2.2.2.2.2.2.2.2.2.2.2.2.2.2, h19)))))))))))))))))))))))))))
 (.ret (.inl ((w64 (i + (1 : Int))), (z2.2.2.2.2.2.2.1, (z9.2.1, (z9.2.2.1, (z2.2.2.2.2.2.2.2.2.2.1, (z2.2.2.2.2.2.2.2.2.2.2.1, (z3.2.2.2.2.2.2.2.1, (z9.2.2.2.1, (z9.2.2.2.2.1, (z3.2.2.2.2.2.2.2.2.2.2.1, (z3.2.2.2.2.2.2.2.2.2.2.2, (z9.2.2.2.2.2.1, (z9.2.2.2.2.2.2.1, (z9.2.2.2.2.2.2.2.1, (z9.2.2.2.2.2.2.2.2.1, (z9.2.2.2.2.2.2.2.2.2.1, (z9.2.2.2.2.2.2.2.2.2.2.1, (z9.2.2.2.2.2.2.2.2.2.2.2.1, (z9.2.2.2.2.2.2.2.2.2.2.2.2.1, (z9.2.2.2.2.2.2.2.2.2.2.2.2.2.1, (z9.2.2.2.2.2.2.2.2.2.2.2.2.2.2.1, (z9.2.2.2.2.2.2.2.2.2.2.2.2.2.2.2.1, (z9.2.2.2.2.2.2.2.2.2.2.2.2.2.2.2.2.1, (z9.2.2.2.2.2.2.2.2.2.2.2.2.2.2.2.2.2, h19))))))))))))))))))))))))))))))
 (.bb (!z6)
 (.ret (.inr (.inr (false, (z2.2.2.2.2.2.2.1, (z2.2.2.2.2.2.2.2.1, (z2.2.2.2.2.2.2.2.2.1, (z2.2.2.2.2.2.2.2.2.2.1, (z2.2.2.2.2.2.2.2.2.2.2.1, (z3.2.2.2.2.2.2.2.1, (z3.2.2.2.2.2.2.2.2.1, (z3.2.2.2.2.2.2.2.2.2.1, (z3.2.2.2.2.2.2.2.2.2.2.1, (z3.2.2.2.2.2.2.2.2.2.2.2, (z2.2.1, (z2.2.2.1, (z2.2.2.2.1, (z2.2.2.2.2.1, (z2.2.2.2.2.2.1, (z2.2.2.2.2.2.2.2.2.2.2.2, (z3.2.1, (z3.2.2.1, (z3.2.2.2.1, (z3.2.2.2.2.1, (z3.2.2.2.2.2.1, (z3.2.2.2.2.2.2.1, (h18, h19)))))))))))))))))))))))))))
 (.ret (.inl ((w64 (i + (1 : Int))), (z2.2.2.2.2.2.2.1, (z2.2.2.2.2.2.2.2.1, (z2.2.2.2.2.2.2.2.2.1, (z2.2.2.2.2.2.2.2.2.2.1, (z2.2.2.2.2.2.2.2.2.2.2.1, (z3.2.2.2.2.2.2.2.1, (z3.2.2.2.2.2.2.2.2.1, (z3.2.2.2.2.2.2.2.2.2.1, (z3.2.2.2.2.2.2.2.2.2.2.1, (z3.2.2.2.2.2.2.2.2.2.2.2, (z2.2.1, (z2.2.2.1, (z2.2.2.2.1, (z2.2.2.2.2.1, (z2.2.2.2.2.2.1, (z2.2.2.2.2.2.2.2.2.2.2.2, (z3.2.1, (z3.2.2.1, (z3.2.2.2.1, (z3.2.2.2.2.1, (z3.2.2.2.2.2.1, (z3.2.2.2.2.2.2.1, (h18, h19)))))))))))))))))))))))))))))))))))))))
 .no)
 (.ret (.inr (.inl (h0_3, (h0_4, (h0_5, (h1, (h2, (h9_3, (h9_4, (h9_5, (h10, (h11, (h14_1, (h14_2, (h14_3, (h14_4, (h14_5, (h15, (h16_1, (h16_2, (h16_3, (h16_4, (h16_5, (h16_6, (h18, h19)))))))))))))))))))))))))))
def L2 (l_ : (List Act11)) (i h0_1 h0_3 : Int) (h0_4 : Bool) (h0_5 : Int) (h1 : (List Int)) (h2 : (List Int)) (h4_1 h4_2 h4_3 h4_4 h4_5 h4_6 h8_1 h8_2 h8_3 h8_4 h8_5 h8_6 h9_1 h9_3 : Int) (h9_4 : Bool) (h9_5 : Int) (h10 : (List Int)) (h11 : (List Int)) (h14_1 h14_2 : Int) (h14_3 : Bool) (h14_4 : Int) (h14_5 : (List Int)) (h15 : (List (List Int))) (h16_1 h16_2 : Int) (h16_3 : Bool) (h16_4 : Int) (h16_5 : (List Int)) (h16_6 : (List (List Int))) (h18 : (List Int)) (h19 : (List Int)) : Option X2 := Lp (fun s => (l2 l_ h0_1 h4_1 h4_2 h4_3 h4_4 h4_5 h4_6 h8_1 h8_2 h8_3 h8_4 h8_5 h8_6 h9_1 s.1 s.2.1 s.2.2.1 s.2.2.2.1 s.2.2.2.2.1 s.2.2.2.2.2.1 s.2.2.2.2.2.2.1 s.2.2.2.2.2.2.2.1 s.2.2.2.2.2.2.2.2.1 s.2.2.2.2.2.2.2.2.2.1 s.2.2.2.2.2.2.2.2.2.2.1 s.2.2.2.2.2.2.2.2.2.2.2.1 s.2.2.2.2.2.2.2.2.2.2.2.2.1 s.2.2.2.2.2.2.2.2.2.2.2.2.2.1 s.2.2.2.2.2.2.2.2.2.2.2.2.2.2.1 s.2.2.2.2.2.2.2.2.2.2.2.2.2.2.2.1 s.2.2.2.2.2.2.2.2.2.2.2.2.2.2.2.2.1 s.2.2.2.2.2.2.2.2.2.2.2.2.2.2.2.2.2.1 s.2.2.2.2.2.2.2.2.2.2.2.2.2.2.2.2.2.2.1 s.2.2.2.2.2.2.2.2.2.2.2.2.2.2.2.2.2.2.2.1 s.2.2.2.2.2.2.2.2.2.2.2.2.2.2.2.2.2.2.2.2.1 s.2.2.2.2.2.2.2.2.2.2.2.2.2.2.2.2.2.2.2.2.2.1 s.2.2.2.2.2.2.2.2.2.2.2.2.2.2.2.2.2.2.2.2.2.2.1 s.2.2.2.2.2.2.2.2.2.2.2.2.2.2.2.2.2.2.2.2.2.2.2.1 s.2.2.2.2.2.2.2.2.2.2.2.2.2.2.2.2.2.2.2.2.2.2.2.2).run) (i, (h0_3, (h0_4, (h0_5, (h1, (h2, (h9_3, (h9_4, (h9_5, (h10, (h11, (h14_1, (h14_2, (h14_3, (h14_4, (h14_5, (h15, (h16_1, (h16_2, (h16_3, (h16_4, (h16_5, (h16_6, (h18, h19))))))))))))))))))))))))
def p2 : Pt := (.cs (.bots 1) (.cs (.sl 27) (.cs (.ptr 13 0) (.cs (.bots 1) (.cs (.ptr 17 0) (.cs (.bots 1) (jC (.cs (.bots 92) .nl))))))))
def q2 : Pt := (.cs (.var (.cs (.own 1) (jC (.cs (.own 2) (jC (.cs .bool (jC (.cs (.own 18) .nl)))))))) (.cs (.row 3 true) (.cs (.row 1 true) (.cs .dead (.cs (.var (.cs (.ptr 0 0) (jC (jC (jC (jC (jC (jC .nl)))))))) (.cs .dead (.cs .dead (.cs .dead (.cs (.var (.cs (.ptr 9 0) (jC (jC (jC (jC (jC (jC .nl)))))))) (.cs (.var (.cs (.own 10) (jC (.cs (.own 11) (jC (.cs .bool (jC (.cs (.own 19) .nl)))))))) (.cs (.row 3 true) (.cs (.row 1 true) (.cs .dead (.cs (.var (.cs (.ptr 0 0) (.cs (.ptr 4 0) (.cs (.ptr 14 0) (.cs (.ptr 16 0) .nl))))) (.cs (.var (.cs (.ptr 4 0) (jC (jC (.cs .bool (jC (.cs (.sl 3) (.cs (.own 15) .nl)))))))) (.cs (.row 12 true) (.cs (.var (.cs (.ptr 8 0) (jC (jC (.cs .bool (jC (.cs (.sl 3) (.cs (.sl 12) .nl)))))))) (.cs (.var (.cs .nilp (.cs .nilp (.cs .nilp (.cs .nilp .nl))))) (.cs (.row 3 true) (.cs (.row 3 true) .nl))))))))))))))))))))
def ou2 (l : T2) (y : X2) : Ex × St U := (Sum.elim (fun a0 => (.exit 0, stOf 99 [(2, .ptr 13 0), (4, .ptr 17 0)] [.var [.own 1, jI l.2.1.2.1, .own 2, jI a0.1, jB a0.2.1, jI a0.2.2.1, .own 18], .row 3 a0.2.2.2.1 true, .row 1 a0.2.2.2.2.1 true, .dead, .var [.ptr 0 0, jI l.2.2.2.2.2.1.2.1, jI l.2.2.2.2.2.1.2.2.1, jI l.2.2.2.2.2.1.2.2.2.1, jI l.2.2.2.2.2.1.2.2.2.2.1, jI l.2.2.2.2.2.1.2.2.2.2.2.1, jI l.2.2.2.2.2.1.2.2.2.2.2.2.1], .dead, .dead, .dead, .var [.ptr 9 0, jI l.2.2.2.2.2.2.2.2.2.1.2.1, jI l.2.2.2.2.2.2.2.2.2.1.2.2.1, jI l.2.2.2.2.2.2.2.2.2.1.2.2.2.1, jI l.2.2.2.2.2.2.2.2.2.1.2.2.2.2.1, jI l.2.2.2.2.2.2.2.2.2.1.2.2.2.2.2.1, jI l.2.2.2.2.2.2.2.2.2.1.2.2.2.2.2.2.1], .var [.own 10, jI l.2.2.2.2.2.2.2.2.2.2.1.2.1, .own 11, jI a0.2.2.2.2.2.1, jB a0.2.2.2.2.2.2.1, jI a0.2.2.2.2.2.2.2.1, .own 19], .row 3 a0.2.2.2.2.2.2.2.2.1 true, .row 1 a0.2.2.2.2.2.2.2.2.2.1 true, .dead, .var [.ptr 0 0, .ptr 4 0, .ptr 14 0, .ptr 16 0], .var [.ptr 4 0, jI a0.2.2.2.2.2.2.2.2.2.2.1, jI a0.2.2.2.2.2.2.2.2.2.2.2.1, jB a0.2.2.2.2.2.2.2.2.2.2.2.2.1, jI a0.2.2.2.2.2.2.2.2.2.2.2.2.2.1, .im (.slice 3 a0.2.2.2.2.2.2.2.2.2.2.2.2.2.2.1), .own 15], .row 12 a0.2.2.2.2.2.2.2.2.2.2.2.2.2.2.2.1 true, .var [.ptr 8 0, jI a0.2.2.2.2.2.2.2.2.2.2.2.2.2.2.2.2.1, jI a0.2.2.2.2.2.2.2.2.2.2.2.2.2.2.2.2.2.1, jB a0.2.2.2.2.2.2.2.2.2.2.2.2.2.2.2.2.2.2.1, jI a0.2.2.2.2.2.2.2.2.2.2.2.2.2.2.2.2.2.2.2.1, .im (.slice 3 a0.2.2.2.2.2.2.2.2.2.2.2.2.2.2.2.2.2.2.2.2.1), .im (.slice 12 a0.2.2.2.2.2.2.2.2.2.2.2.2.2.2.2.2.2.2.2.2.2.1)], .var [.im .nilp, .im .nilp, .im .nilp, .im .nilp], .row 3 a0.2.2.2.2.2.2.2.2.2.2.2.2.2.2.2.2.2.2.2.2.2.2.1 true, .row 3 a0.2.2.2.2.2.2.2.2.2.2.2.2.2.2.2.2.2.2.2.2.2.2.2 true] 13)) (fun b0 => (.ret, stOf 99 [(2, .ptr 13 0), (4, .ptr 17 0), (5, jB b0.1)] [.var [.own 1, jI l.2.1.2.1, .own 2, jI b0.2.1, jB b0.2.2.1, jI b0.2.2.2.1, .own 18], .row 3 b0.2.2.2.2.1 true, .row 1 b0.2.2.2.2.2.1 true, .dead, .var [.ptr 0 0, jI l.2.2.2.2.2.1.2.1, jI l.2.2.2.2.2.1.2.2.1, jI l.2.2.2.2.2.1.2.2.2.1, jI l.2.2.2.2.2.1.2.2.2.2.1, jI l.2.2.2.2.2.1.2.2.2.2.2.1, jI l.2.2.2.2.2.1.2.2.2.2.2.2.1], .dead, .dead, .dead, .var [.ptr 9 0, jI l.2.2.2.2.2.2.2.2.2.1.2.1, jI l.2.2.2.2.2.2.2.2.2.1.2.2.1, jI l.2.2.2.2.2.2.2.2.2.1.2.2.2.1, jI l.2.2.2.2.2.2.2.2.2.1.2.2.2.2.1, jI l.2.2.2.2.2.2.2.2.2.1.2.2.2.2.2.1, jI l.2.2.2.2.2.2.2.2.2.1.2.2.2.2.2.2.1], .var [.own 10, jI l.2.2.2.2.2.2.2.2.2.2.1.2.1, .own 11, jI b0.2.2.2.2.2.2.1, jB b0.2.2.2.2.2.2.2.1, jI b0.2.2.2.2.2.2.2.2.1, .own 19], .row 3 b0.2.2.2.2.2.2.2.2.2.1 true, .row 1 b0.2.2.2.2.2.2.2.2.2.2.1 true, .dead, .var [.ptr 0 0, .ptr 4 0, .ptr 14 0, .ptr 16 0], .var [.ptr 4 0, jI b0.2.2.2.2.2.2.2.2.2.2.2.1, jI b0.2.2.2.2.2.2.2.2.2.2.2.2.1, jB b0.2.2.2.2.2.2.2.2.2.2.2.2.2.1, jI b0.2.2.2.2.2.2.2.2.2.2.2.2.2.2.1, .im (.slice 3 b0.2.2.2.2.2.2.2.2.2.2.2.2.2.2.2.1), .own 15], .row 12 b0.2.2.2.2.2.2.2.2.2.2.2.2.2.2.2.2.1 true, .var [.ptr 8 0, jI b0.2.2.2.2.2.2.2.2.2.2.2.2.2.2.2.2.2.1, jI b0.2.2.2.2.2.2.2.2.2.2.2.2.2.2.2.2.2.2.1, jB b0.2.2.2.2.2.2.2.2.2.2.2.2.2.2.2.2.2.2.2.1, jI b0.2.2.2.2.2.2.2.2.2.2.2.2.2.2.2.2.2.2.2.2.1, .im (.slice 3 b0.2.2.2.2.2.2.2.2.2.2.2.2.2.2.2.2.2.2.2.2.2.1), .im (.slice 12 b0.2.2.2.2.2.2.2.2.2.2.2.2.2.2.2.2.2.2.2.2.2.2.1)], .var [.ptr 0 0, .ptr 4 0, .ptr 14 0, .ptr 16 0], .row 3 b0.2.2.2.2.2.2.2.2.2.2.2.2.2.2.2.2.2.2.2.2.2.2.2.1 true, .row 3 b0.2.2.2.2.2.2.2.2.2.2.2.2.2.2.2.2.2.2.2.2.2.2.2.2 true] 13)) y)
def Λ2 : LFun U := mkLp (U := U) p2 q2 13 (X := X2) (fun (l : T2) => L2 l.1.2.1 l.1.2.2.2.2.2.2.1 l.2.1.2.1 l.2.1.2.2.2.1 l.2.1.2.2.2.2.1 l.2.1.2.2.2.2.2.1 l.2.2.1 l.2.2.2.1 l.2.2.2.2.2.1.2.1 l.2.2.2.2.2.1.2.2.1 l.2.2.2.2.2.1.2.2.2.1 l.2.2.2.2.2.1.2.2.2.2.1 l.2.2.2.2.2.1.2.2.2.2.2.1 l.2.2.2.2.2.1.2.2.2.2.2.2.1 l.2.2.2.2.2.2.2.2.2.1.2.1 l.2.2.2.2.2.2.2.2.2.1.2.2.1 l.2.2.2.2.2.2.2.2.2.1.2.2.2.1 l.2.2.2.2.2.2.2.2.2.1.2.2.2.2.1 l.2.2.2.2.2.2.2.2.2.1.2.2.2.2.2.1 l.2.2.2.2.2.2.2.2.2.1.2.2.2.2.2.2.1 l.2.2.2.2.2.2.2.2.2.2.1.2.1 l.2.2.2.2.2.2.2.2.2.2.1.2.2.2.1 l.2.2.2.2.2.2.2.2.2.2.1.2.2.2.2.1 l.2.2.2.2.2.2.2.2.2.2.1.2.2.2.2.2.1 l.2.2.2.2.2.2.2.2.2.2.2.1 l.2.2.2.2.2.2.2.2.2.2.2.2.1 l.2.2.2.2.2.2.2.2.2.2.2.2.2.2.2.1.2.1 l.2.2.2.2.2.2.2.2.2.2.2.2.2.2.2.1.2.2.1 l.2.2.2.2.2.2.2.2.2.2.2.2.2.2.2.1.2.2.2.1 l.2.2.2.2.2.2.2.2.2.2.2.2.2.2.2.1.2.2.2.2.1 l.2.2.2.2.2.2.2.2.2.2.2.2.2.2.2.1.2.2.2.2.2.1 l.2.2.2.2.2.2.2.2.2.2.2.2.2.2.2.2.1 l.2.2.2.2.2.2.2.2.2.2.2.2.2.2.2.2.2.1.2.1 l.2.2.2.2.2.2.2.2.2.2.2.2.2.2.2.2.2.1.2.2.1 l.2.2.2.2.2.2.2.2.2.2.2.2.2.2.2.2.2.1.2.2.2.1 l.2.2.2.2.2.2.2.2.2.2.2.2.2.2.2.2.2.1.2.2.2.2.1 l.2.2.2.2.2.2.2.2.2.2.2.2.2.2.2.2.2.1.2.2.2.2.2.1 l.2.2.2.2.2.2.2.2.2.2.2.2.2.2.2.2.2.1.2.2.2.2.2.2.1 l.2.2.2.2.2.2.2.2.2.2.2.2.2.2.2.2.2.2.2.1 l.2.2.2.2.2.2.2.2.2.2.2.2.2.2.2.2.2.2.2.2.1) (spS sp1) ou2
def hd2 (l : T2) (s : S2) : T2 := (((), (l.1.2.1, ((), ((), ((), ((), (s.1, ((), ())))))))), (((), (l.2.1.2.1, ((), (s.2.1, (s.2.2.1, (s.2.2.2.1, ((), ()))))))), (s.2.2.2.2.1, (s.2.2.2.2.2.1, ((), (((), (l.2.2.2.2.2.1.2.1, (l.2.2.2.2.2.1.2.2.1, (l.2.2.2.2.2.1.2.2.2.1, (l.2.2.2.2.2.1.2.2.2.2.1, (l.2.2.2.2.2.1.2.2.2.2.2.1, (l.2.2.2.2.2.1.2.2.2.2.2.2.1, ()))))))), ((), ((), ((), (((), (l.2.2.2.2.2.2.2.2.2.1.2.1, (l.2.2.2.2.2.2.2.2.2.1.2.2.1, (l.2.2.2.2.2.2.2.2.2.1.2.2.2.1, (l.2.2.2.2.2.2.2.2.2.1.2.2.2.2.1, (l.2.2.2.2.2.2.2.2.2.1.2.2.2.2.2.1, (l.2.2.2.2.2.2.2.2.2.1.2.2.2.2.2.2.1, ()))))))), (((), (l.2.2.2.2.2.2.2.2.2.2.1.2.1, ((), (s.2.2.2.2.2.2.1, (s.2.2.2.2.2.2.2.1, (s.2.2.2.2.2.2.2.2.1, ((), ()))))))), (s.2.2.2.2.2.2.2.2.2.1, (s.2.2.2.2.2.2.2.2.2.2.1, ((), (((), ((), ((), ((), ())))), (((), (s.2.2.2.2.2.2.2.2.2.2.2.1, (s.2.2.2.2.2.2.2.2.2.2.2.2.1, (s.2.2.2.2.2.2.2.2.2.2.2.2.2.1, (s.2.2.2.2.2.2.2.2.2.2.2.2.2.2.1, (s.2.2.2.2.2.2.2.2.2.2.2.2.2.2.2.1, ((), ()))))))), (s.2.2.2.2.2.2.2.2.2.2.2.2.2.2.2.2.1, (((), (s.2.2.2.2.2.2.2.2.2.2.2.2.2.2.2.2.2.1, (s.2.2.2.2.2.2.2.2.2.2.2.2.2.2.2.2.2.2.1, (s.2.2.2.2.2.2.2.2.2.2.2.2.2.2.2.2.2.2.2.1, (s.2.2.2.2.2.2.2.2.2.2.2.2.2.2.2.2.2.2.2.2.1, (s.2.2.2.2.2.2.2.2.2.2.2.2.2.2.2.2.2.2.2.2.2.1, (s.2.2.2.2.2.2.2.2.2.2.2.2.2.2.2.2.2.2.2.2.2.2.1, ()))))))), (((), ((), ((), ((), ())))), (s.2.2.2.2.2.2.2.2.2.2.2.2.2.2.2.2.2.2.2.2.2.2.2.1, (s.2.2.2.2.2.2.2.2.2.2.2.2.2.2.2.2.2.2.2.2.2.2.2.2, ())))))))))))))))))))))
def fl2 (l : T2) (s : S2) : Tw (S2 ⊕ X2) := l2 l.1.2.1 l.2.1.2.1 l.2.2.2.2.2.1.2.1 l.2.2.2.2.2.1.2.2.1 l.2.2.2.2.2.1.2.2.2.1 l.2.2.2.2.2.1.2.2.2.2.1 l.2.2.2.2.2.1.2.2.2.2.2.1 l.2.2.2.2.2.1.2.2.2.2.2.2.1 l.2.2.2.2.2.2.2.2.2.1.2.1 l.2.2.2.2.2.2.2.2.2.1.2.2.1 l.2.2.2.2.2.2.2.2.2.1.2.2.2.1 l.2.2.2.2.2.2.2.2.2.1.2.2.2.2.1 l.2.2.2.2.2.2.2.2.2.1.2.2.2.2.2.1 l.2.2.2.2.2.2.2.2.2.1.2.2.2.2.2.2.1 l.2.2.2.2.2.2.2.2.2.2.1.2.1 s.1 s.2.1 s.2.2.1 s.2.2.2.1 s.2.2.2.2.1 s.2.2.2.2.2.1 s.2.2.2.2.2.2.1 s.2.2.2.2.2.2.2.1 s.2.2.2.2.2.2.2.2.1 s.2.2.2.2.2.2.2.2.2.1 s.2.2.2.2.2.2.2.2.2.2.1 s.2.2.2.2.2.2.2.2.2.2.2.1 s.2.2.2.2.2.2.2.2.2.2.2.2.1 s.2.2.2.2.2.2.2.2.2.2.2.2.2.1 s.2.2.2.2.2.2.2.2.2.2.2.2.2.2.1 s.2.2.2.2.2.2.2.2.2.2.2.2.2.2.2.1 s.2.2.2.2.2.2.2.2.2.2.2.2.2.2.2.2.1 s.2.2.2.2.2.2.2.2.2.2.2.2.2.2.2.2.2.1 s.2.2.2.2.2.2.2.2.2.2.2.2.2.2.2.2.2.2.1 s.2.2.2.2.2.2.2.2.2.2.2.2.2.2.2.2.2.2.2.1 s.2.2.2.2.2.2.2.2.2.2.2.2.2.2.2.2.2.2.2.2.1 s.2.2.2.2.2.2.2.2.2.2.2.2.2.2.2.2.2.2.2.2.2.1 s.2.2.2.2.2.2.2.2.2.2.2.2.2.2.2.2.2.2.2.2.2.2.1 s.2.2.2.2.2.2.2.2.2.2.2.2.2.2.2.2.2.2.2.2.2.2.2.1 s.2.2.2.2.2.2.2.2.2.2.2.2.2.2.2.2.2.2.2.2.2.2.2.2
def t (l_ : (List Act11)) (h0_1 h0_3 : Int) (h0_4 : Bool) (h0_5 : Int) (h1 : (List Int)) (h2 : (List Int)) (h3 : (List Int)) (h4_1 h4_2 h4_3 h4_4 h4_5 h4_6 h5_1 h5_2 : Int) (h5_3 : Bool) (h5_4 : Int) (h5_5 : (List Int)) (h6 : (List (List Int))) (h7_1 h7_2 : Int) (h7_3 : Bool) (h7_4 : Int) (h7_5 : (List Int)) (h7_6 : (List (List Int))) (h8_1 h8_2 h8_3 h8_4 h8_5 h8_6 h9_1 h9_3 : Int) (h9_4 : Bool) (h9_5 : Int) (h10 : (List Int)) (h11 : (List Int)) (h12 : (List Int)) : Tw XA :=
 (.opt (L2 l_ (0 : Int) h0_1 h0_3 h0_4 h0_5 h1 h2 h4_1 h4_2 h4_3 h4_4 h4_5 h4_6 h8_1 h8_2 h8_3 h8_4 h8_5 h8_6 h9_1 h9_3 h9_4 h9_5 h10 h11 h5_1 h5_2 h5_3 h5_4 h5_5 h6 h7_1 h7_2 h7_3 h7_4 h7_5 h7_6 h3 h12) fun z38 =>
 (.sm z38
 (fun z39 => (.ret (true, (z39.1, (z39.2.1, (z39.2.2.1, (z39.2.2.2.1, (z39.2.2.2.2.1, (z39.2.2.2.2.2.1, (z39.2.2.2.2.2.2.1, (z39.2.2.2.2.2.2.2.1, (z39.2.2.2.2.2.2.2.2.1, (z39.2.2.2.2.2.2.2.2.2.1, (z39.2.2.2.2.2.2.2.2.2.2.1, (z39.2.2.2.2.2.2.2.2.2.2.2.1, (z39.2.2.2.2.2.2.2.2.2.2.2.2.1, (z39.2.2.2.2.2.2.2.2.2.2.2.2.2.1, (z39.2.2.2.2.2.2.2.2.2.2.2.2.2.2.1, (z39.2.2.2.2.2.2.2.2.2.2.2.2.2.2.2.1, (z39.2.2.2.2.2.2.2.2.2.2.2.2.2.2.2.2.1, (z39.2.2.2.2.2.2.2.2.2.2.2.2.2.2.2.2.2.1, (z39.2.2.2.2.2.2.2.2.2.2.2.2.2.2.2.2.2.2.1, (z39.2.2.2.2.2.2.2.2.2.2.2.2.2.2.2.2.2.2.2.1, (z39.2.2.2.2.2.2.2.2.2.2.2.2.2.2.2.2.2.2.2.2.1, (z39.2.2.2.2.2.2.2.2.2.2.2.2.2.2.2.2.2.2.2.2.2.1, (z39.2.2.2.2.2.2.2.2.2.2.2.2.2.2.2.2.2.2.2.2.2.2.1, z39.2.2.2.2.2.2.2.2.2.2.2.2.2.2.2.2.2.2.2.2.2.2.2))))))))))))))))))))))))))
 (fun z40 => (.ret (z40.1, (z40.2.1, (z40.2.2.1, (z40.2.2.2.1, (z40.2.2.2.2.1, (z40.2.2.2.2.2.1, (z40.2.2.2.2.2.2.1, (z40.2.2.2.2.2.2.2.1, (z40.2.2.2.2.2.2.2.2.1, (z40.2.2.2.2.2.2.2.2.2.1, (z40.2.2.2.2.2.2.2.2.2.2.1, (z40.2.2.2.2.2.2.2.2.2.2.2.1, (z40.2.2.2.2.2.2.2.2.2.2.2.2.1, (z40.2.2.2.2.2.2.2.2.2.2.2.2.2.1, (z40.2.2.2.2.2.2.2.2.2.2.2.2.2.2.1, (z40.2.2.2.2.2.2.2.2.2.2.2.2.2.2.2.1, (z40.2.2.2.2.2.2.2.2.2.2.2.2.2.2.2.2.1, (z40.2.2.2.2.2.2.2.2.2.2.2.2.2.2.2.2.2.1, (z40.2.2.2.2.2.2.2.2.2.2.2.2.2.2.2.2.2.2.1, (z40.2.2.2.2.2.2.2.2.2.2.2.2.2.2.2.2.2.2.2.1, (z40.2.2.2.2.2.2.2.2.2.2.2.2.2.2.2.2.2.2.2.2.1, (z40.2.2.2.2.2.2.2.2.2.2.2.2.2.2.2.2.2.2.2.2.2.1, (z40.2.2.2.2.2.2.2.2.2.2.2.2.2.2.2.2.2.2.2.2.2.2.1, (z40.2.2.2.2.2.2.2.2.2.2.2.2.2.2.2.2.2.2.2.2.2.2.2.1, z40.2.2.2.2.2.2.2.2.2.2.2.2.2.2.2.2.2.2.2.2.2.2.2.2))))))))))))))))))))))))))))
def c (l_ : (List Act11)) (h0_1 h0_3 : Int) (h0_4 : Bool) (h0_5 : Int) (h1 : (List Int)) (h2 : (List Int)) (h3 : (List Int)) (h4_1 h4_2 h4_3 h4_4 h4_5 h4_6 h5_1 h5_2 : Int) (h5_3 : Bool) (h5_4 : Int) (h5_5 : (List Int)) (h6 : (List (List Int))) (h7_1 h7_2 : Int) (h7_3 : Bool) (h7_4 : Int) (h7_5 : (List Int)) (h7_6 : (List (List Int))) (h8_1 h8_2 h8_3 h8_4 h8_5 h8_6 h9_1 h9_3 : Int) (h9_4 : Bool) (h9_5 : Int) (h10 : (List Int)) (h11 : (List Int)) (h12 : (List Int)) : Option XA := (t l_ h0_1 h0_3 h0_4 h0_5 h1 h2 h3 h4_1 h4_2 h4_3 h4_4 h4_5 h4_6 h5_1 h5_2 h5_3 h5_4 h5_5 h6 h7_1 h7_2 h7_3 h7_4 h7_5 h7_6 h8_1 h8_2 h8_3 h8_4 h8_5 h8_6 h9_1 h9_3 h9_4 h9_5 h10 h11 h12).run
def tl (l : TA) : Tw XA := t l.1.2.1 l.2.1.2.1 l.2.1.2.2.2.1 l.2.1.2.2.2.2.1 l.2.1.2.2.2.2.2.1 l.2.2.1 l.2.2.2.1 l.2.2.2.2.1 l.2.2.2.2.2.1.2.1 l.2.2.2.2.2.1.2.2.1 l.2.2.2.2.2.1.2.2.2.1 l.2.2.2.2.2.1.2.2.2.2.1 l.2.2.2.2.2.1.2.2.2.2.2.1 l.2.2.2.2.2.1.2.2.2.2.2.2.1 l.2.2.2.2.2.2.1.2.1 l.2.2.2.2.2.2.1.2.2.1 l.2.2.2.2.2.2.1.2.2.2.1 l.2.2.2.2.2.2.1.2.2.2.2.1 l.2.2.2.2.2.2.1.2.2.2.2.2.1 l.2.2.2.2.2.2.2.1 l.2.2.2.2.2.2.2.2.1.2.1 l.2.2.2.2.2.2.2.2.1.2.2.1 l.2.2.2.2.2.2.2.2.1.2.2.2.1 l.2.2.2.2.2.2.2.2.1.2.2.2.2.1 l.2.2.2.2.2.2.2.2.1.2.2.2.2.2.1 l.2.2.2.2.2.2.2.2.1.2.2.2.2.2.2.1 l.2.2.2.2.2.2.2.2.2.1.2.1 l.2.2.2.2.2.2.2.2.2.1.2.2.1 l.2.2.2.2.2.2.2.2.2.1.2.2.2.1 l.2.2.2.2.2.2.2.2.2.1.2.2.2.2.1 l.2.2.2.2.2.2.2.2.2.1.2.2.2.2.2.1 l.2.2.2.2.2.2.2.2.2.1.2.2.2.2.2.2.1 l.2.2.2.2.2.2.2.2.2.2.1.2.1 l.2.2.2.2.2.2.2.2.2.2.1.2.2.2.1 l.2.2.2.2.2.2.2.2.2.2.1.2.2.2.2.1 l.2.2.2.2.2.2.2.2.2.2.1.2.2.2.2.2.1 l.2.2.2.2.2.2.2.2.2.2.2.1 l.2.2.2.2.2.2.2.2.2.2.2.2.1 l.2.2.2.2.2.2.2.2.2.2.2.2.2.1
def cl (l : TA) : Option XA := (tl l).run
def pA : Pt := (.cs (.agg (.cs (.ptr 0 0) (.cs (.ptr 4 0) (.cs (.ptr 5 0) (.cs (.ptr 7 0) .nl))))) (.cs (.sl 27) .nl))
def pH : Pt := (.cs (.var (.cs (.own 1) (jC (.cs (.own 2) (jC (.cs .bool (jC (.cs (.own 3) .nl)))))))) (.cs (.row 3 true) (.cs (.row 1 true) (.cs (.row 3 true) (.cs (.var (.cs (.ptr 0 0) (jC (jC (jC (jC (jC (jC .nl)))))))) (.cs (.var (.cs (.ptr 4 0) (jC (jC (.cs .bool (jC (.cs (.sl 3) (.cs (.own 6) .nl)))))))) (.cs (.row 12 true) (.cs (.var (.cs (.ptr 8 0) (jC (jC (.cs .bool (jC (.cs (.sl 3) (.cs (.sl 12) .nl)))))))) (.cs (.var (.cs (.ptr 9 0) (jC (jC (jC (jC (jC (jC .nl)))))))) (.cs (.var (.cs (.own 10) (jC (.cs (.own 11) (jC (.cs .bool (jC (.cs (.own 12) .nl)))))))) (.cs (.row 3 true) (.cs (.row 1 true) (.cs (.row 3 true) .nl)))))))))))))
def v (l : TA) (y : XA) : AV U := .tup [.agg [.ptr 0 0, .ptr 4 0, .ptr 13 0, .ptr 15 0], jB y.1]
def hh (l : TA) (y : XA) : Hp U := [.var [.own 1, jI l.2.1.2.1, .own 2, jI y.2.1, jB y.2.2.1, jI y.2.2.2.1, .own 16], .row 3 y.2.2.2.2.1 true, .row 1 y.2.2.2.2.2.1 true, .dead, .var [.ptr 0 0, jI l.2.2.2.2.2.1.2.1, jI l.2.2.2.2.2.1.2.2.1, jI l.2.2.2.2.2.1.2.2.2.1, jI l.2.2.2.2.2.1.2.2.2.2.1, jI l.2.2.2.2.2.1.2.2.2.2.2.1, jI l.2.2.2.2.2.1.2.2.2.2.2.2.1], .dead, .dead, .dead, .var [.ptr 9 0, jI l.2.2.2.2.2.2.2.2.2.1.2.1, jI l.2.2.2.2.2.2.2.2.2.1.2.2.1, jI l.2.2.2.2.2.2.2.2.2.1.2.2.2.1, jI l.2.2.2.2.2.2.2.2.2.1.2.2.2.2.1, jI l.2.2.2.2.2.2.2.2.2.1.2.2.2.2.2.1, jI l.2.2.2.2.2.2.2.2.2.1.2.2.2.2.2.2.1], .var [.own 10, jI l.2.2.2.2.2.2.2.2.2.2.1.2.1, .own 11, jI y.2.2.2.2.2.2.1, jB y.2.2.2.2.2.2.2.1, jI y.2.2.2.2.2.2.2.2.1, .own 17], .row 3 y.2.2.2.2.2.2.2.2.2.1 true, .row 1 y.2.2.2.2.2.2.2.2.2.2.1 true, .dead, .var [.ptr 4 0, jI y.2.2.2.2.2.2.2.2.2.2.2.1, jI y.2.2.2.2.2.2.2.2.2.2.2.2.1, jB y.2.2.2.2.2.2.2.2.2.2.2.2.2.1, jI y.2.2.2.2.2.2.2.2.2.2.2.2.2.2.1, .im (.slice 3 y.2.2.2.2.2.2.2.2.2.2.2.2.2.2.2.1), .own 14], .row 12 y.2.2.2.2.2.2.2.2.2.2.2.2.2.2.2.2.1 true, .var [.ptr 8 0, jI y.2.2.2.2.2.2.2.2.2.2.2.2.2.2.2.2.2.1, jI y.2.2.2.2.2.2.2.2.2.2.2.2.2.2.2.2.2.2.1, jB y.2.2.2.2.2.2.2.2.2.2.2.2.2.2.2.2.2.2.2.1, jI y.2.2.2.2.2.2.2.2.2.2.2.2.2.2.2.2.2.2.2.2.1, .im (.slice 3 y.2.2.2.2.2.2.2.2.2.2.2.2.2.2.2.2.2.2.2.2.2.1), .im (.slice 12 y.2.2.2.2.2.2.2.2.2.2.2.2.2.2.2.2.2.2.2.2.2.2.1)], .row 3 y.2.2.2.2.2.2.2.2.2.2.2.2.2.2.2.2.2.2.2.2.2.2.2.1 true, .row 3 y.2.2.2.2.2.2.2.2.2.2.2.2.2.2.2.2.2.2.2.2.2.2.2.2 true]
def A : AFun U := mkA (U := U) pA pH (X := XA) cl sp1 v hh
def body : Code := (Go.Func.body Tryz.f9).getD .skip
def Γ : List (FuncId × AFun U) := [(13, law11_do.A), (11, law11_told.A), (33, flash_Flash_Words.A), (17, ref01_Same.A), (34, law11_same.A), (10, law11_pair_opened.A), (12, flash_Flash_Arm.A), (32, ref07_Flash_Arm.A)]
def Λ : List (Nat × LFun U) := [(2, Λ2)]
def CT : List (Nat × LFun U) := []
def ro : List FuncId := [33, 34]
def D : Nat → Lv × Lv := dtab [(2, ⟨[4, 2, 6, 1], [(2, [.to 2, .to 6], .mv 12), (2, [.to 0, .to 6], .mv 3), (2, [.to 2], .mv 0), (2, [.to 3], .mv 0), (2, [.to 3, .to 0, .to 0, .to 6], .mv 3)]⟩, ⟨[4, 5, 2], []⟩)]
def E : Env U := { E0 with Γ := Γ, Λ := Λ, C := CT, D := D, ro := ro }
theorem hf2 (R : Type) (l : T2) (s : S2) (K : Ex → St U → Option R) : codeA E (pick (loopsOf body) 2) ⟨p2.mkL (hd2 l s).1, q2.mkH (hd2 l s).2, 13⟩ (roundK E (pick (loopsOf body) 2) K) =
  (fl2 l s).runK (lpK K (fun s => ⟨p2.mkL (hd2 l s).1, q2.mkH (hd2 l s).2, 13⟩) (spS sp1) (ou2 l)) := by kernel_rfl
theorem lk2 (R : Type) (st : St U) (K : Ex → St U → Option R) (r : R) (h : Λ2 R st K = some r) : ∃ n, loopA E (pick (loopsOf body) 2) n st K = some r :=
  lp_ok (U := U) (E := E) (b := pick (loopsOf body) 2) (m := 13) (sp := (spS sp1)) (p := p2) (q := q2) (X := X2) (S := S2) (f := fl2) (hd := hd2) (s0 := fun (l : T2) => (l.1.2.2.2.2.2.2.1, (l.2.1.2.2.2.1, (l.2.1.2.2.2.2.1, (l.2.1.2.2.2.2.2.1, (l.2.2.1, (l.2.2.2.1, (l.2.2.2.2.2.2.2.2.2.2.1.2.2.2.1, (l.2.2.2.2.2.2.2.2.2.2.1.2.2.2.2.1, (l.2.2.2.2.2.2.2.2.2.2.1.2.2.2.2.2.1, (l.2.2.2.2.2.2.2.2.2.2.2.1, (l.2.2.2.2.2.2.2.2.2.2.2.2.1, (l.2.2.2.2.2.2.2.2.2.2.2.2.2.2.2.1.2.1, (l.2.2.2.2.2.2.2.2.2.2.2.2.2.2.2.1.2.2.1, (l.2.2.2.2.2.2.2.2.2.2.2.2.2.2.2.1.2.2.2.1, (l.2.2.2.2.2.2.2.2.2.2.2.2.2.2.2.1.2.2.2.2.1, (l.2.2.2.2.2.2.2.2.2.2.2.2.2.2.2.1.2.2.2.2.2.1, (l.2.2.2.2.2.2.2.2.2.2.2.2.2.2.2.2.1, (l.2.2.2.2.2.2.2.2.2.2.2.2.2.2.2.2.2.1.2.1, (l.2.2.2.2.2.2.2.2.2.2.2.2.2.2.2.2.2.1.2.2.1, (l.2.2.2.2.2.2.2.2.2.2.2.2.2.2.2.2.2.1.2.2.2.1, (l.2.2.2.2.2.2.2.2.2.2.2.2.2.2.2.2.2.1.2.2.2.2.1, (l.2.2.2.2.2.2.2.2.2.2.2.2.2.2.2.2.2.1.2.2.2.2.2.1, (l.2.2.2.2.2.2.2.2.2.2.2.2.2.2.2.2.2.1.2.2.2.2.2.2.1, (l.2.2.2.2.2.2.2.2.2.2.2.2.2.2.2.2.2.2.2.1, l.2.2.2.2.2.2.2.2.2.2.2.2.2.2.2.2.2.2.2.2.1))))))))))))))))))))))))) (ou := ou2)
    (fun l => rfl) (fun l x => by repeat' (first | rfl | (cases x with | inl => rfl | inr x => ?_))) (spS_ok sp1_ok) hf2 h
theorem hk (R : Type) (l : TA) (K : AV U → Hp U → Option R) : funcA E Tryz.f9 [] R (pA.mkL l.1) (pH.mkH l.2) K = (tl l).runK fun y => K (v l y) (hh l y) := by kernel_rfl
theorem okF : SoundF Tryz.prog cc 9 (funcA E Tryz.f9 []) :=
  funcA_ok (E := E) P_mixed (E0_ok.with Γ Λ CT D ro) (gam_of (all_cons ⟨law11_do.ok, law11_do.fo⟩ (all_cons ⟨law11_told.ok, law11_told.fo⟩ (all_cons ⟨flash_Flash_Words.ok, flash_Flash_Words.fo⟩ (all_cons ⟨ref01_Same.ok, ref01_Same.fo⟩ (all_cons ⟨law11_same.ok, law11_same.fo⟩ (all_cons ⟨law11_pair_opened.ok, law11_pair_opened.fo⟩ (all_cons ⟨flash_Flash_Arm.ok, flash_Flash_Arm.fo⟩ (all_cons ⟨ref07_Flash_Arm.ok, ref07_Flash_Arm.fo⟩ all_nil)))))))) (all_cons (no_keep (by kernel_rfl)) (all_cons (no_keep (by kernel_rfl)) (all_cons (fun _ => flash_Flash_Words.keep) (all_cons (no_keep (by kernel_rfl)) (all_cons (fun _ => law11_same.keep) (all_cons (no_keep (by kernel_rfl)) (all_cons (no_keep (by kernel_rfl)) (all_cons (no_keep (by kernel_rfl)) all_nil))))))))) Tryz.func9 (c := body) (by kernel_rfl)
    (just_by (by kernel_rfl) (by kernel_rfl) (all_cons lk2 all_nil) all_nil) []
theorem ok : SoundF Tryz.prog cc 9 A :=
  mkA_ok (E := E) (p := pA) (q := pH) (t := tl) sp1_ok hk okF
theorem fo : FnOK Tryz.prog 9 := ⟨Tryz.f9, Tryz.func9, by kernel_rfl, by kernel_rfl⟩
end law11_pair_run

/-! instar/instarlaw11.awake -/
namespace law11_awake
abbrev TA : Type := (Unit × Unit)
def t : Tw Bool :=
 (.opt (law11_begin.c (64 : Int) (2 : Int) (5 : Int) (2 : Int) (1 : Int) (9 : Int) ((5 : Int) :: ([] : List (Int)))) fun z1 =>
 (.sm z1
 (fun z2 => (.bb (!z2.1)
 (.ret false)
 (.opt (journal_Journal_Change.c ((7 : Int) :: ([] : List (Int))) ((6 : Int) :: ([] : List (Int))) z2.2.2.2.2.2.2.2.1 z2.2.2.2.2.2.2.2.2.1 z2.2.2.2.2.2.2.2.2.2.1 z2.2.2.2.2.2.2.2.2.2.2.1 z2.2.2.2.2.2.2.2.2.2.2.2.1 (64 : Int) (2 : Int) (5 : Int) (2 : Int) (1 : Int) (9 : Int) (64 : Int) z2.2.1 z2.2.2.1 z2.2.2.2.1 z2.2.2.2.2.1 z2.2.2.2.2.2.1 z2.2.2.2.2.2.2.1 z2.2.2.2.2.2.2.2.2.2.2.2.2.1) fun z4 =>
 (.opt (journal_Journal_Changes.c z4.2.1 z4.2.2.1 z4.2.2.2.1 z4.2.2.2.2.1 z4.2.2.2.2.2.1 (64 : Int) (2 : Int) (5 : Int) (2 : Int) (1 : Int) (9 : Int) (64 : Int) z4.2.2.2.2.2.2.1 z4.2.2.2.2.2.2.2.1 z4.2.2.2.2.2.2.2.2.1 z4.2.2.2.2.2.2.2.2.2.1 z4.2.2.2.2.2.2.2.2.2.2.1 z2.2.2.2.2.2.2.1 z4.2.2.2.2.2.2.2.2.2.2.2) fun z5 =>
 (.bb (z4.1 == (0 : Int))
 (.opt (journal_Journal_Seq.c z4.2.1 z4.2.2.1 z4.2.2.2.1 z4.2.2.2.2.1 z4.2.2.2.2.2.1 (64 : Int) (2 : Int) (5 : Int) (2 : Int) (1 : Int) (9 : Int) (64 : Int) z4.2.2.2.2.2.2.1 z4.2.2.2.2.2.2.2.1 z4.2.2.2.2.2.2.2.2.1 z4.2.2.2.2.2.2.2.2.2.1 z4.2.2.2.2.2.2.2.2.2.2.1 z2.2.2.2.2.2.2.1 z4.2.2.2.2.2.2.2.2.2.2.2) fun z6 =>
 (.bb (z4.2.2.2.2.1 == (2 : Int))
 (.opt (journal_Journal_Whole.c z4.2.1 z4.2.2.1 z4.2.2.2.1 z4.2.2.2.2.1 z4.2.2.2.2.2.1 (64 : Int) (2 : Int) (5 : Int) (2 : Int) (1 : Int) (9 : Int) (64 : Int) z4.2.2.2.2.2.2.1 z4.2.2.2.2.2.2.2.1 z4.2.2.2.2.2.2.2.2.1 z4.2.2.2.2.2.2.2.2.2.1 z4.2.2.2.2.2.2.2.2.2.2.1 z2.2.2.2.2.2.2.1 z4.2.2.2.2.2.2.2.2.2.2.2) fun z7 =>
 (.opt (ref01_Same.c z7 ((5 : Int) :: ([] : List (Int)))) fun z8 =>
 (.bb z8
 (.bb ((((List.length z5) : Nat) : Int) == (1 : Int))
 (.dd ((((0 : Int) ≤ (0 : Int)) ∧ ((0 : Int) < (((List.length z5) : Nat) : Int)))) inferInstance
 (.opt (z5)[(Int.toNat (0 : Int))]? fun z9 =>
 (.opt (ref01_Same.c z9 ((7 : Int) :: ([] : List (Int)))) fun z10 =>
 (.ret z10)))
 .no)
 (.ret false))
 (.ret false))))
 (.ret false)))
 (.ret false))))))
 (fun z3 => (.sm z3
 (fun z11 => (.bb (!z11.1)
 (.ret false)
 (.opt (journal_Journal_Change.c ((7 : Int) :: ([] : List (Int))) ((6 : Int) :: ([] : List (Int))) z11.2.2.2.2.2.2.2.1 z11.2.2.2.2.2.2.2.2.1 z11.2.2.2.2.2.2.2.2.2.1 z11.2.2.2.2.2.2.2.2.2.2.1 z11.2.2.2.2.2.2.2.2.2.2.2.1 (64 : Int) (2 : Int) (5 : Int) (2 : Int) (1 : Int) (9 : Int) (64 : Int) z11.2.1 z11.2.2.1 z11.2.2.2.1 z11.2.2.2.2.1 z11.2.2.2.2.2.1 z11.2.2.2.2.2.2.1 z11.2.2.2.2.2.2.2.2.2.2.2.2) fun z13 =>
 (.opt (journal_Journal_Changes.c z13.2.1 z13.2.2.1 z13.2.2.2.1 z13.2.2.2.2.1 z13.2.2.2.2.2.1 (64 : Int) (2 : Int) (5 : Int) (2 : Int) (1 : Int) (9 : Int) (64 : Int) z13.2.2.2.2.2.2.1 z13.2.2.2.2.2.2.2.1 z13.2.2.2.2.2.2.2.2.1 z13.2.2.2.2.2.2.2.2.2.1 z13.2.2.2.2.2.2.2.2.2.2.1 z11.2.2.2.2.2.2.1 z13.2.2.2.2.2.2.2.2.2.2.2) fun z14 =>
 (.bb (z13.1 == (0 : Int))
 (.opt (journal_Journal_Seq.c z13.2.1 z13.2.2.1 z13.2.2.2.1 z13.2.2.2.2.1 z13.2.2.2.2.2.1 (64 : Int) (2 : Int) (5 : Int) (2 : Int) (1 : Int) (9 : Int) (64 : Int) z13.2.2.2.2.2.2.1 z13.2.2.2.2.2.2.2.1 z13.2.2.2.2.2.2.2.2.1 z13.2.2.2.2.2.2.2.2.2.1 z13.2.2.2.2.2.2.2.2.2.2.1 z11.2.2.2.2.2.2.1 z13.2.2.2.2.2.2.2.2.2.2.2) fun z15 =>
 (.bb (z13.2.2.2.2.1 == (2 : Int))
 (.opt (journal_Journal_Whole.c z13.2.1 z13.2.2.1 z13.2.2.2.1 z13.2.2.2.2.1 z13.2.2.2.2.2.1 (64 : Int) (2 : Int) (5 : Int) (2 : Int) (1 : Int) (9 : Int) (64 : Int) z13.2.2.2.2.2.2.1 z13.2.2.2.2.2.2.2.1 z13.2.2.2.2.2.2.2.2.1 z13.2.2.2.2.2.2.2.2.2.1 z13.2.2.2.2.2.2.2.2.2.2.1 z11.2.2.2.2.2.2.1 z13.2.2.2.2.2.2.2.2.2.2.2) fun z16 =>
 (.opt (ref01_Same.c z16 ((5 : Int) :: ([] : List (Int)))) fun z17 =>
 (.bb z17
 (.bb ((((List.length z14) : Nat) : Int) == (1 : Int))
 (.dd ((((0 : Int) ≤ (0 : Int)) ∧ ((0 : Int) < (((List.length z14) : Nat) : Int)))) inferInstance
 (.opt (z14)[(Int.toNat (0 : Int))]? fun z18 =>
 (.opt (ref01_Same.c z18 ((7 : Int) :: ([] : List (Int)))) fun z19 =>
 (.ret z19)))
 .no)
 (.ret false))
 (.ret false))))
 (.ret false)))
 (.ret false))))))
 (fun z12 => (.sm z12
 (fun z20 => (.bb (!z20.1)
 (.ret false)
 (.ret false)))
 (fun z21 => (.sm z21
 (fun z22 => (.bb (!z22.1)
 (.ret false)
 (.ret false)))
 (fun z23 => (.bb (!z23)
 (.ret false)
 (.ret false)))))))))))
def c : Option Bool := (t).run
def tl (l : TA) : Tw Bool := t
def cl (l : TA) : Option Bool := c
def pA : Pt := .nl
def pH : Pt := .nl
def v (l : TA) (y : Bool) : AV U := jB y
def hh (l : TA) (y : Bool) : Hp U := []
def A : AFun U := mkA (U := U) pA pH (X := Bool) cl sp1 v hh
def body : Code := (Go.Func.body Tryz.f7).getD .skip
def Γ : List (FuncId × AFun U) := [(8, law11_begin.A), (26, journal_Journal_Change.A), (20, journal_Journal_Changes.A), (16, journal_Journal_Seq.A), (18, journal_Journal_Whole.A), (17, ref01_Same.A)]
def Λ : List (Nat × LFun U) := []
def CT : List (Nat × LFun U) := []
def ro : List FuncId := [20, 16, 18]
def D : Nat → Lv × Lv := dtab []
def E : Env U := { E0 with Γ := Γ, Λ := Λ, C := CT, D := D, ro := ro }
theorem hk (R : Type) (l : TA) (K : AV U → Hp U → Option R) : funcA E Tryz.f7 [] R (pA.mkL l.1) (pH.mkH l.2) K = (tl l).runK fun y => K (v l y) (hh l y) := by kernel_rfl
theorem okF : SoundF Tryz.prog cc 7 (funcA E Tryz.f7 []) :=
  funcA_ok (E := E) P_mixed (E0_ok.with Γ Λ CT D ro) (gam_of (all_cons ⟨law11_begin.ok, law11_begin.fo⟩ (all_cons ⟨journal_Journal_Change.ok, journal_Journal_Change.fo⟩ (all_cons ⟨journal_Journal_Changes.ok, journal_Journal_Changes.fo⟩ (all_cons ⟨journal_Journal_Seq.ok, journal_Journal_Seq.fo⟩ (all_cons ⟨journal_Journal_Whole.ok, journal_Journal_Whole.fo⟩ (all_cons ⟨ref01_Same.ok, ref01_Same.fo⟩ all_nil)))))) (all_cons (no_keep (by kernel_rfl)) (all_cons (no_keep (by kernel_rfl)) (all_cons (fun _ => journal_Journal_Changes.keep) (all_cons (fun _ => journal_Journal_Seq.keep) (all_cons (fun _ => journal_Journal_Whole.keep) (all_cons (no_keep (by kernel_rfl)) all_nil))))))) Tryz.func7 (c := body) (by kernel_rfl)
    (just_by (by kernel_rfl) (by kernel_rfl) all_nil all_nil) []
theorem ok : SoundF Tryz.prog cc 7 A :=
  mkA_ok (E := E) (p := pA) (q := pH) (t := tl) sp1_ok hk okF
theorem fo : FnOK Tryz.prog 7 := ⟨Tryz.f7, Tryz.func7, by kernel_rfl, by kernel_rfl⟩
theorem keep : KeepA A := mkA_keep (U := U) sp1_ok (fun (l : TA) y => ⟨(hh l y).drop 0, by kernel_rfl⟩)
end law11_awake

end
end Go.Proofs.YtkoidgjgdhpdnaaGreat.Va
