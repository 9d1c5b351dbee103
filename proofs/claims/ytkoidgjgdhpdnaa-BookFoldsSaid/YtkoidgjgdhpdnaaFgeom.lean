/- The functions of package geom, as plain functions, and that the program computes them. Printed by a program of this work out of the evaluator. -/
import Derived.Test.YtkoidgjgdhpdnaaEn
import Derived.Tactics
set_option linter.unusedVariables false
namespace Go.Proofs.Ytkoidgjgdhpdnaa.Va
noncomputable section
open Go
set_option maxRecDepth 100000

/-! instar/geom.Check -/
namespace geom_Check
abbrev TA : Type := (((Int × (Int × (Int × (Int × (Int × (Int × Unit)))))) × Unit) × Unit)
abbrev T2 : Type := ((Unit × (Unit × (Int × (Int × (Unit × Unit))))) × ((List (Int × Int × Int)) × Unit))
abbrev X2 : Type := (Unit ⊕ Int)
def l2 (k31 : Int) (h0 : (List (Int × Int × Int))) (k32 : Int) : Tw (Int ⊕ X2) :=
 (.bb (decide (k32 < k31))
 (.dd ((((0 : Int) ≤ k32) ∧ (k32 < (((List.length h0) : Nat) : Int)))) inferInstance
 (.opt (h0)[(Int.toNat k32)]? fun z1 =>
 (.bb (decide (z1.1 < z1.2.1))
 (.ret (.inr (.inr (2 : Int))))
 (.bb (decide (z1.1 > z1.2.2))
 (.ret (.inr (.inr (2 : Int))))
 (.ret (.inl (w64 (k32 + (1 : Int))))))))
 .no)
 (.ret (.inr (.inl ()))))
def L2 (k31 k32 : Int) (h0 : (List (Int × Int × Int))) : Option X2 := Lp (fun s => (l2 k31 h0 s).run) k32
def p2 : Pt := (.cs (.bots 30) (.cs (.own 0) (jC (jC (.cs (.bots 16) .nl)))))
def q2 : Pt := (.cs (.row 14 true) .nl)
def ou2 (l : T2) (y : X2) : Ex × St U := (Sum.elim (fun a0 => (.exit 0, stOf 49 [] [] 0)) (fun b0 => (.ret, stOf 49 [(2, jI b0)] [] 0)) y)
def Λ2 : LFun U := mkLp p2 q2 0 (X := X2) (fun (l : T2) => L2 l.1.2.2.1 l.1.2.2.2.1 l.2.1) (spS sp1) ou2
def hd2 (l : T2) (s : Int) : T2 := (((), ((), (l.1.2.2.1, (s, ((), ()))))), (l.2.1, ()))
def fl2 (l : T2) (s : Int) : Tw (Int ⊕ X2) := l2 l.1.2.2.1 l.2.1 s
def t (g_0 g_1 g_2 g_3 g_4 g_5 : Int) : Tw Int :=
 (.opt (L2 (((List.length ((Prod.mk g_0 (Prod.mk (64 : Int) (1024 : Int))) :: ((Prod.mk g_1 (Prod.mk (2 : Int) (32 : Int))) :: ((Prod.mk g_3 (Prod.mk (2 : Int) (w64 (g_0 - (8 : Int))))) :: ((Prod.mk g_2 (Prod.mk (w64 ((3 : Int) + (imin g_3 (128 : Int)))) (128 : Int))) :: ((Prod.mk g_4 (Prod.mk (1 : Int) (9 : Int))) :: ((Prod.mk g_5 (Prod.mk (1 : Int) (1073741823 : Int))) :: ([] : List (Int × Int × Int))))))))) : Nat) : Int) (0 : Int) ((Prod.mk g_0 (Prod.mk (64 : Int) (1024 : Int))) :: ((Prod.mk g_1 (Prod.mk (2 : Int) (32 : Int))) :: ((Prod.mk g_3 (Prod.mk (2 : Int) (w64 (g_0 - (8 : Int))))) :: ((Prod.mk g_2 (Prod.mk (w64 ((3 : Int) + (imin g_3 (128 : Int)))) (128 : Int))) :: ((Prod.mk g_4 (Prod.mk (1 : Int) (9 : Int))) :: ((Prod.mk g_5 (Prod.mk (1 : Int) (1073741823 : Int))) :: ([] : List (Int × Int × Int))))))))) fun z2 =>
 (.sm z2
 (fun z3 => (.ret (0 : Int)))
 (fun z4 => (.ret z4))))
def c (g_0 g_1 g_2 g_3 g_4 g_5 : Int) : Option Int := (t g_0 g_1 g_2 g_3 g_4 g_5).run
def tl (l : TA) : Tw Int := t l.1.1.1 l.1.1.2.1 l.1.1.2.2.1 l.1.1.2.2.2.1 (d4 l.1.1).1 (d4 l.1.1).2.1
def pA : Pt := (.cs (.agg (jC (jC (jC (jC (jC (jC .nl))))))) .nl)
def pH : Pt := .nl
def v (l : TA) (y : Int) : AV U := jI y
def hh (l : TA) (y : Int) : Hp U := []
def A : AFun U := mkA pA pH (X := Int) (fun l => (tl l).run) sp1 v hh
def body := bodyOf Try.f37
def E : Env U := E0.mk5 [] [(2, Λ2)] [] [(2, ⟨[32, 30, 31], []⟩, ⟨[2], []⟩)] []
theorem hf2 : HF E (pick (loopsOf body) 2) p2 q2 0 fl2 hd2 (spS sp1) ou2 := fun _ _ _ _ => by kernel_rfl
theorem lk2 : LK E (pick (loopsOf body) 2) Λ2 := fun R st K r h =>
  lp_ok (E := E) (b := pick (loopsOf body) 2) (m := 0) (sp := (spS sp1)) (p := p2) (q := q2) (X := X2) (S := Int) (f := fl2) (hd := hd2) (s0 := fun (l : T2) => l.1.2.2.2.1) (ou := ou2)
    (fun l => rfl) (fun l x => by repeat' (first | rfl | (cases x with | inl => rfl | inr x => ?_))) (spS_ok sp1_ok) hf2 h
theorem hk : HK E Try.f37 [] pA pH tl v hh := fun _ _ _ => by kernel_rfl
theorem og : SoundF Try.prog cc 37 A ∧ FnOK Try.prog 37 :=
 og_of (E := E) P_mixed (E0_ok.mk5 _ _ _ _ _) (gam_of all_nil all_nil) Try.func37 (c := body) (by kernel_rfl)
    (just_by (by kernel_rfl) (by kernel_rfl) (all_cons lk2 all_nil) all_nil) [] sp1_ok hk (by kernel_rfl)
end geom_Check

/-! instar/geom.fine -/
namespace geom_fine
abbrev TA : Type := (((Int × (Int × (Int × (Int × (Int × (Int × Unit)))))) × (Int × (Int × Unit))) × Unit)
def t (g_0 g_1 g_2 g_3 g_4 g_5 i n : Int) : Tw Bool :=
 (.opt (geom_Check.c g_0 g_1 g_2 g_3 g_4 g_5) fun z1 =>
 (.bb (z1 == (0 : Int))
 (.bb (decide (i ≥ (0 : Int)))
 (.ret (decide (i < n)))
 (.ret false))
 (.ret false)))
def c (g_0 g_1 g_2 g_3 g_4 g_5 i n : Int) : Option Bool := (t g_0 g_1 g_2 g_3 g_4 g_5 i n).run
def tl (l : TA) : Tw Bool := t l.1.1.1 l.1.1.2.1 l.1.1.2.2.1 l.1.1.2.2.2.1 (d4 l.1.1).1 (d4 l.1.1).2.1 l.1.2.1 l.1.2.2.1
def pA : Pt := (.cs (.agg (jC (jC (jC (jC (jC (jC .nl))))))) (jC (jC .nl)))
def pH : Pt := .nl
def v (l : TA) (y : Bool) : AV U := jB y
def hh (l : TA) (y : Bool) : Hp U := []
def A : AFun U := mkA pA pH (X := Bool) (fun l => (tl l).run) sp1 v hh
def body := bodyOf Try.f63
def E : Env U := E0.mk5 [(37, geom_Check.A)] [] [] [] []
theorem hk : HK E Try.f63 [] pA pH tl v hh := fun _ _ _ => by kernel_rfl
theorem og : SoundF Try.prog cc 63 A ∧ FnOK Try.prog 63 :=
 og_of (E := E) P_mixed (E0_ok.mk5 _ _ _ _ _) (gam_of (all_cons geom_Check.og all_nil) no_ro) Try.func63 (c := body) (by kernel_rfl)
    (just_by (by kernel_rfl) (by kernel_rfl) all_nil all_nil) [] sp1_ok hk (by kernel_rfl)
end geom_fine

/-! instar/geom.Sectors -/
namespace geom_Sectors
abbrev TA : Type := (((Int × (Int × (Int × (Int × (Int × (Int × Unit)))))) × Unit) × Unit)
def t (g_0 g_1 g_2 g_3 g_4 g_5 : Int) : Tw Int :=
 (.opt (geom_fine.c g_0 g_1 g_2 g_3 g_4 g_5 (0 : Int) (1 : Int)) fun z1 =>
 (.bb (!z1)
 (.ret (0 : Int))
 (.ret (w64 ((w64 ((2 : Int) + (w64 ((2 : Int) * g_1)))) + g_2)))))
def c (g_0 g_1 g_2 g_3 g_4 g_5 : Int) : Option Int := (t g_0 g_1 g_2 g_3 g_4 g_5).run
def tl (l : TA) : Tw Int := t l.1.1.1 l.1.1.2.1 l.1.1.2.2.1 l.1.1.2.2.2.1 (d4 l.1.1).1 (d4 l.1.1).2.1
def pA : Pt := (.cs (.agg (jC (jC (jC (jC (jC (jC .nl))))))) .nl)
def pH : Pt := .nl
def v (l : TA) (y : Int) : AV U := jI y
def hh (l : TA) (y : Int) : Hp U := []
def A : AFun U := mkA pA pH (X := Int) (fun l => (tl l).run) sp1 v hh
def body := bodyOf Try.f39
def E : Env U := E0.mk5 [(63, geom_fine.A)] [] [] [] []
theorem hk : HK E Try.f39 [] pA pH tl v hh := fun _ _ _ => by kernel_rfl
theorem og : SoundF Try.prog cc 39 A ∧ FnOK Try.prog 39 :=
 og_of (E := E) P_mixed (E0_ok.mk5 _ _ _ _ _) (gam_of (all_cons geom_fine.og all_nil) no_ro) Try.func39 (c := body) (by kernel_rfl)
    (just_by (by kernel_rfl) (by kernel_rfl) all_nil all_nil) [] sp1_ok hk (by kernel_rfl)
end geom_Sectors

end
end Go.Proofs.Ytkoidgjgdhpdnaa.Va
