/- The functions of package drive, as plain functions, and that the program computes them. Printed by a program of this work out of the evaluator. -/
import Derived.Test.YtkoidgjgdhpdnaaEn
import Derived.Tactics
import Derived.Test.YtkoidgjgdhpdnaaFflash
import Derived.Test.YtkoidgjgdhpdnaaFgeom
import Derived.Test.YtkoidgjgdhpdnaaFword
set_option linter.unusedVariables false
namespace Go.Proofs.Ytkoidgjgdhpdnaa.Va
noncomputable section
open Go
set_option maxRecDepth 100000

/-! instar/drive.New -/
namespace drive_New
abbrev TA : Type := ((Unit × ((Int × (Int × (Int × (Int × (Int × (Int × Unit)))))) × Unit)) × ((Unit × (Int × (Unit × (Int × (Bool × (Int × (Unit × Unit))))))) × ((List Int) × ((List Int) × ((List Int) × Unit)))))
abbrev XA : Type := (Int ⊕ Int)
def t (g_0 g_1 g_2 g_3 g_4 g_5 h0_1 h0_3 : Int) (h0_4 : Bool) (h0_5 : Int) (h1 : (List Int)) (h2 : (List Int)) (h3 : (List Int)) : Tw XA :=
 (.opt (geom_Check.c g_0 g_1 g_2 g_3 g_4 g_5) fun z1 =>
 (.bb (z1 != (0 : Int))
 (.ret (.inr z1))
 (.opt (flash_Flash_Size.c h0_1 h0_3 h0_4 h0_5 h1 h2 h3) fun z2 =>
 (.opt (geom_Sectors.c g_0 g_1 g_2 g_3 g_4 g_5) fun z3 =>
 (.bb (z2 != z3)
 (.ret (.inr (2 : Int)))
 (.bb (h0_1 != g_0)
 (.ret (.inr (2 : Int)))
 (.ret (.inl (0 : Int)))))))))
def c (g_0 g_1 g_2 g_3 g_4 g_5 h0_1 h0_3 : Int) (h0_4 : Bool) (h0_5 : Int) (h1 : (List Int)) (h2 : (List Int)) (h3 : (List Int)) : Option XA := (t g_0 g_1 g_2 g_3 g_4 g_5 h0_1 h0_3 h0_4 h0_5 h1 h2 h3).run
def tl (l : TA) : Tw XA := t l.1.2.1.1 l.1.2.1.2.1 l.1.2.1.2.2.1 l.1.2.1.2.2.2.1 (d4 l.1.2.1).1 (d4 l.1.2.1).2.1 l.2.1.2.1 l.2.1.2.2.2.1 (d4 l.2.1).1 (d4 l.2.1).2.1 l.2.2.1 l.2.2.2.1 (d4 l).1
def pA : Pt := (.cs (.ptr 0 0) (.cs (.agg (jC (jC (jC (jC (jC (jC .nl))))))) .nl))
def pH : Pt := (.cs (.var (.cs (.own 1) (jC (.cs (.own 2) (jC (.cs .bool (jC (.cs (.own 3) .nl)))))))) (.cs (.row 3 true) (.cs (.row 1 true) (.cs (.row 3 true) .nl))))
def v (l : TA) (y : XA) : AV U := (Sum.elim (fun a0 => .tup [.ptr 4 0, jI a0]) (fun b0 => .tup [.im .nilp, jI b0]) y)
def hh (l : TA) (y : XA) : Hp U := (Sum.elim (fun a0 => [.var [.own 1, jI l.2.1.2.1, .own 2, jI l.2.1.2.2.2.1, jB (d4 l.2.1).1, jI (d4 l.2.1).2.1, .own 3], .row 3 l.2.2.1 true, .row 1 l.2.2.2.1 true, .row 3 (d4 l).1 true, .var [.ptr 0 0, jI l.1.2.1.1, jI l.1.2.1.2.1, jI l.1.2.1.2.2.1, jI l.1.2.1.2.2.2.1, jI (d4 l.1.2.1).1, jI (d4 l.1.2.1).2.1]]) (fun b0 => [.var [.own 1, jI l.2.1.2.1, .own 2, jI l.2.1.2.2.2.1, jB (d4 l.2.1).1, jI (d4 l.2.1).2.1, .own 3], .row 3 l.2.2.1 true, .row 1 l.2.2.2.1 true, .row 3 (d4 l).1 true]) y)
def A : AFun U := mkA pA pH (X := XA) (fun l => (tl l).run) (spS sp1) v hh
def body := bodyOf Try.f18
def E : Env U := E0.mk5 [(37, geom_Check.A), (38, flash_Flash_Size.A), (39, geom_Sectors.A)] [] [] [] [38]
theorem hk : HK E Try.f18 [] pA pH tl v hh := fun _ _ _ => by kernel_rfl
theorem og : SoundF Try.prog cc 18 A ∧ FnOK Try.prog 18 :=
 og_of (E := E) P_mixed (E0_ok.mk5 _ _ _ _ _) (gam_of (all_cons geom_Check.og (all_cons flash_Flash_Size.og (all_cons geom_Sectors.og all_nil))) (all_cons (no_keep (by kernel_rfl)) (all_cons (fun _ => flash_Flash_Size.keep) (all_cons (no_keep (by kernel_rfl)) all_nil)))) Try.func18 (c := body) (by kernel_rfl)
    (just_by (by kernel_rfl) (by kernel_rfl) all_nil all_nil) [] (spS_ok sp1_ok) hk (by kernel_rfl)
theorem keep : KeepA A := mkA_keep (spS_ok sp1_ok) (fun (l : TA) y => ⟨(hh l y).drop 4, by (cases y with | inl y => kernel_rfl | inr y => kernel_rfl)⟩)
end drive_New

/-! (*instar/drive.Drive).Geometry -/
namespace drive_Drive_Geometry
abbrev TA : Type := ((Unit × Unit) × ((Unit × (Int × (Int × (Int × (Int × (Int × (Int × Unit))))))) × ((Unit × (Int × (Unit × (Int × (Bool × (Int × (Unit × Unit))))))) × ((List Int) × ((List Int) × ((List Int) × Unit))))))
def t (h0_1 h0_2 h0_3 h0_4 h0_5 h0_6 h1_1 h1_3 : Int) (h1_4 : Bool) (h1_5 : Int) (h2 : (List Int)) (h3 : (List Int)) (h4 : (List Int)) : Tw Unit :=
 (.ret ())
def c (h0_1 h0_2 h0_3 h0_4 h0_5 h0_6 h1_1 h1_3 : Int) (h1_4 : Bool) (h1_5 : Int) (h2 : (List Int)) (h3 : (List Int)) (h4 : (List Int)) : Option Unit := (t h0_1 h0_2 h0_3 h0_4 h0_5 h0_6 h1_1 h1_3 h1_4 h1_5 h2 h3 h4).run
def tl (l : TA) : Tw Unit := t l.2.1.2.1 l.2.1.2.2.1 l.2.1.2.2.2.1 (d4 l.2.1).1 (d4 l.2.1).2.1 (d4 l.2.1).2.2.1 l.2.2.1.2.1 l.2.2.1.2.2.2.1 (d4 l.2.2.1).1 (d4 l.2.2.1).2.1 l.2.2.2.1 (d4 l).1 (d4 l).2.1
def pA : Pt := (.cs (.ptr 0 0) .nl)
def pH : Pt := (.cs (.var (.cs (.ptr 1 0) (jC (jC (jC (jC (jC (jC .nl)))))))) (.cs (.var (.cs (.own 2) (jC (.cs (.own 3) (jC (.cs .bool (jC (.cs (.own 4) .nl)))))))) (.cs (.row 3 true) (.cs (.row 1 true) (.cs (.row 3 true) .nl)))))
def v (l : TA) (y : Unit) : AV U := .agg [jI l.2.1.2.1, jI l.2.1.2.2.1, jI l.2.1.2.2.2.1, jI (d4 l.2.1).1, jI (d4 l.2.1).2.1, jI (d4 l.2.1).2.2.1]
def hh (l : TA) (y : Unit) : Hp U := [.var [.ptr 1 0, jI l.2.1.2.1, jI l.2.1.2.2.1, jI l.2.1.2.2.2.1, jI (d4 l.2.1).1, jI (d4 l.2.1).2.1, jI (d4 l.2.1).2.2.1], .var [.own 2, jI l.2.2.1.2.1, .own 3, jI l.2.2.1.2.2.2.1, jB (d4 l.2.2.1).1, jI (d4 l.2.2.1).2.1, .own 4], .row 3 l.2.2.2.1 true, .row 1 (d4 l).1 true, .row 3 (d4 l).2.1 true]
def A : AFun U := mkA pA pH (X := Unit) (fun l => (tl l).run) sp1 v hh
def body := bodyOf Try.f35
def E : Env U := E0.mk5 [] [] [] [] []
theorem hk : HK E Try.f35 [] pA pH tl v hh := fun _ _ _ => by kernel_rfl
theorem og : SoundF Try.prog cc 35 A ∧ FnOK Try.prog 35 :=
 og_of (E := E) P_mixed (E0_ok.mk5 _ _ _ _ _) (gam_of all_nil all_nil) Try.func35 (c := body) (by kernel_rfl)
    (just_by (by kernel_rfl) (by kernel_rfl) all_nil all_nil) [] sp1_ok hk (by kernel_rfl)
theorem keep : KeepA A := mkA_keep sp1_ok (fun (l : TA) y => ⟨(hh l y).drop 5, by kernel_rfl⟩)
end drive_Drive_Geometry

/-! (*instar/drive.Drive).long -/
namespace drive_Drive_long
abbrev TA : Type := ((Unit × Unit) × ((Unit × (Int × (Int × (Int × (Int × (Int × (Int × Unit))))))) × ((Unit × (Int × (Unit × (Int × (Bool × (Int × (Unit × Unit))))))) × ((List Int) × ((List Int) × ((List Int) × Unit))))))
def t (h0_1 h0_2 h0_3 h0_4 h0_5 h0_6 h1_1 h1_3 : Int) (h1_4 : Bool) (h1_5 : Int) (h2 : (List Int)) (h3 : (List Int)) (h4 : (List Int)) : Tw Unit :=
 (.opt (drive_Drive_Geometry.c h0_1 h0_2 h0_3 h0_4 h0_5 h0_6 h1_1 h1_3 h1_4 h1_5 h2 h3 h4) fun z1 =>
 (.ret ()))
def c (h0_1 h0_2 h0_3 h0_4 h0_5 h0_6 h1_1 h1_3 : Int) (h1_4 : Bool) (h1_5 : Int) (h2 : (List Int)) (h3 : (List Int)) (h4 : (List Int)) : Option Unit := (t h0_1 h0_2 h0_3 h0_4 h0_5 h0_6 h1_1 h1_3 h1_4 h1_5 h2 h3 h4).run
def tl (l : TA) : Tw Unit := t l.2.1.2.1 l.2.1.2.2.1 l.2.1.2.2.2.1 (d4 l.2.1).1 (d4 l.2.1).2.1 (d4 l.2.1).2.2.1 l.2.2.1.2.1 l.2.2.1.2.2.2.1 (d4 l.2.2.1).1 (d4 l.2.2.1).2.1 l.2.2.2.1 (d4 l).1 (d4 l).2.1
def pA : Pt := (.cs (.ptr 0 0) .nl)
def pH : Pt := (.cs (.var (.cs (.ptr 1 0) (jC (jC (jC (jC (jC (jC .nl)))))))) (.cs (.var (.cs (.own 2) (jC (.cs (.own 3) (jC (.cs .bool (jC (.cs (.own 4) .nl)))))))) (.cs (.row 3 true) (.cs (.row 1 true) (.cs (.row 3 true) .nl)))))
def v (l : TA) (y : Unit) : AV U := jI l.2.1.2.1
def hh (l : TA) (y : Unit) : Hp U := [.var [.ptr 1 0, jI l.2.1.2.1, jI l.2.1.2.2.1, jI l.2.1.2.2.2.1, jI (d4 l.2.1).1, jI (d4 l.2.1).2.1, jI (d4 l.2.1).2.2.1], .var [.own 2, jI l.2.2.1.2.1, .own 3, jI l.2.2.1.2.2.2.1, jB (d4 l.2.2.1).1, jI (d4 l.2.2.1).2.1, .own 4], .row 3 l.2.2.2.1 true, .row 1 (d4 l).1 true, .row 3 (d4 l).2.1 true]
def A : AFun U := mkA pA pH (X := Unit) (fun l => (tl l).run) sp1 v hh
def body := bodyOf Try.f90
def E : Env U := E0.mk5 [(35, drive_Drive_Geometry.A)] [] [] [] [35]
theorem hk : HK E Try.f90 [] pA pH tl v hh := fun _ _ _ => by kernel_rfl
theorem og : SoundF Try.prog cc 90 A ∧ FnOK Try.prog 90 :=
 og_of (E := E) P_mixed (E0_ok.mk5 _ _ _ _ _) (gam_of (all_cons drive_Drive_Geometry.og all_nil) (all_cons (fun _ => drive_Drive_Geometry.keep) all_nil)) Try.func90 (c := body) (by kernel_rfl)
    (just_by (by kernel_rfl) (by kernel_rfl) all_nil all_nil) [] sp1_ok hk (by kernel_rfl)
theorem keep : KeepA A := mkA_keep sp1_ok (fun (l : TA) y => ⟨(hh l y).drop 5, by kernel_rfl⟩)
end drive_Drive_long

/-! (*instar/drive.Drive).first -/
namespace drive_Drive_first
abbrev TA : Type := ((Unit × (Int × (Int × (Int × Unit)))) × ((Unit × (Int × (Int × (Int × (Int × (Int × (Int × Unit))))))) × ((Unit × (Int × (Unit × (Int × (Bool × (Int × (Unit × Unit))))))) × ((List Int) × ((List Int) × ((List Int) × Unit))))))
abbrev XA : Type := (Int × Int)
def t (s_ at_ n h0_1 h0_2 h0_3 h0_4 h0_5 h0_6 h1_1 h1_3 : Int) (h1_4 : Bool) (h1_5 : Int) (h2 : (List Int)) (h3 : (List Int)) (h4 : (List Int)) : Tw XA :=
 (.bb (decide (s_ < (0 : Int)))
 (.ret ((0 : Int), (3 : Int)))
 (.opt (geom_Sectors.c h0_1 h0_2 h0_3 h0_4 h0_5 h0_6) fun z1 =>
 (.bb (decide (s_ ≥ z1))
 (.ret ((0 : Int), (3 : Int)))
 (.bb (decide (at_ < (0 : Int)))
 (.ret ((0 : Int), (3 : Int)))
 (.bb (decide (n < (0 : Int)))
 (.ret ((0 : Int), (3 : Int)))
 (.bb (decide (at_ > h0_1))
 (.ret ((0 : Int), (3 : Int)))
 (.bb (decide (n > (w64 (h0_1 - at_))))
 (.ret ((0 : Int), (3 : Int)))
 (.opt (flash_Flash_Gone.c h1_1 h1_3 h1_4 h1_5 h2 h3 h4) fun z2 =>
 (.bb h1_4
 (.ret ((0 : Int), (10 : Int)))
 (.ret ((w64 ((w64 (s_ * h0_1)) + at_)), (0 : Int))))))))))))
def c (s_ at_ n h0_1 h0_2 h0_3 h0_4 h0_5 h0_6 h1_1 h1_3 : Int) (h1_4 : Bool) (h1_5 : Int) (h2 : (List Int)) (h3 : (List Int)) (h4 : (List Int)) : Option XA := (t s_ at_ n h0_1 h0_2 h0_3 h0_4 h0_5 h0_6 h1_1 h1_3 h1_4 h1_5 h2 h3 h4).run
def tl (l : TA) : Tw XA := t l.1.2.1 l.1.2.2.1 l.1.2.2.2.1 l.2.1.2.1 l.2.1.2.2.1 l.2.1.2.2.2.1 (d4 l.2.1).1 (d4 l.2.1).2.1 (d4 l.2.1).2.2.1 l.2.2.1.2.1 l.2.2.1.2.2.2.1 (d4 l.2.2.1).1 (d4 l.2.2.1).2.1 l.2.2.2.1 (d4 l).1 (d4 l).2.1
def pA : Pt := (.cs (.ptr 0 0) (jC (jC (jC .nl))))
def pH : Pt := (.cs (.var (.cs (.ptr 1 0) (jC (jC (jC (jC (jC (jC .nl)))))))) (.cs (.var (.cs (.own 2) (jC (.cs (.own 3) (jC (.cs .bool (jC (.cs (.own 4) .nl)))))))) (.cs (.row 3 true) (.cs (.row 1 true) (.cs (.row 3 true) .nl)))))
def v (l : TA) (y : XA) : AV U := .tup [jI y.1, jI y.2]
def hh (l : TA) (y : XA) : Hp U := [.var [.ptr 1 0, jI l.2.1.2.1, jI l.2.1.2.2.1, jI l.2.1.2.2.2.1, jI (d4 l.2.1).1, jI (d4 l.2.1).2.1, jI (d4 l.2.1).2.2.1], .var [.own 2, jI l.2.2.1.2.1, .own 3, jI l.2.2.1.2.2.2.1, jB (d4 l.2.2.1).1, jI (d4 l.2.2.1).2.1, .own 4], .row 3 l.2.2.2.1 true, .row 1 (d4 l).1 true, .row 3 (d4 l).2.1 true]
def A : AFun U := mkA pA pH (X := XA) (fun l => (tl l).run) sp1 v hh
def body := bodyOf Try.f85
def E : Env U := E0.mk5 [(39, geom_Sectors.A), (104, flash_Flash_Gone.A)] [] [] [] [104]
theorem hk : HK E Try.f85 [] pA pH tl v hh := fun _ _ _ => by kernel_rfl
theorem og : SoundF Try.prog cc 85 A ∧ FnOK Try.prog 85 :=
 og_of (E := E) P_mixed (E0_ok.mk5 _ _ _ _ _) (gam_of (all_cons geom_Sectors.og (all_cons flash_Flash_Gone.og all_nil)) (all_cons (no_keep (by kernel_rfl)) (all_cons (fun _ => flash_Flash_Gone.keep) all_nil))) Try.func85 (c := body) (by kernel_rfl)
    (just_by (by kernel_rfl) (by kernel_rfl) all_nil all_nil) [] sp1_ok hk (by kernel_rfl)
theorem keep : KeepA A := mkA_keep sp1_ok (fun (l : TA) y => ⟨(hh l y).drop 5, by kernel_rfl⟩)
end drive_Drive_first

/-! (*instar/drive.Drive).Read -/
namespace drive_Drive_Read
abbrev TA : Type := ((Unit × (Int × (Int × (Int × Unit)))) × ((Unit × (Int × (Int × (Int × (Int × (Int × (Int × Unit))))))) × ((Unit × (Int × (Unit × (Int × (Bool × (Int × (Unit × Unit))))))) × ((List Int) × ((List Int) × ((List Int) × Unit))))))
abbrev XA : Type := (Int × (List Int))
abbrev T6 : Type := ((Unit × (Unit × (Int × (Unit × (Unit × (Unit × (Int × (Int × (Unit × Unit))))))))) × ((Unit × (Int × (Int × (Int × (Int × (Int × (Int × Unit))))))) × ((Unit × (Int × (Unit × (Int × (Bool × (Int × (Unit × Unit))))))) × ((List Int) × ((List Int) × ((List Int) × ((List Int) × Unit)))))))
abbrev S6 : Type := (Int × (List Int))
def l6 (a k28 h0_1 h0_2 h0_3 h0_4 h0_5 h0_6 h1_1 h1_3 : Int) (h1_4 : Bool) (h1_5 : Int) (h2 : (List Int)) (h3 : (List Int)) (h4 : (List Int)) (k29 : Int) (h5 : (List Int)) : Tw (S6 ⊕ (List Int)) :=
 (.bb (decide (k29 < k28))
 (.opt (flash_Flash_Read.c (w64 (a + k29)) h1_1 h1_3 h1_4 h1_5 h2 h3 h4) fun z2 =>
 (.dd ((((0 : Int) ≤ k29) ∧ (k29 < (((List.length h5) : Nat) : Int)))) inferInstance
 (.opt (h5)[(Int.toNat k29)]? fun z3 =>
 (.ret (.inl ((w64 (k29 + (1 : Int))), (List.set h5 (Int.toNat k29) z2.1)))))
 .no))
 (.ret (.inr h5)))
def L6 (a k28 k29 h0_1 h0_2 h0_3 h0_4 h0_5 h0_6 h1_1 h1_3 : Int) (h1_4 : Bool) (h1_5 : Int) (h2 : (List Int)) (h3 : (List Int)) (h4 : (List Int)) (h5 : (List Int)) : Option (List Int) := Lp (fun s => (l6 a k28 h0_1 h0_2 h0_3 h0_4 h0_5 h0_6 h1_1 h1_3 h1_4 h1_5 h2 h3 h4 s.1 s.2).run) (k29, h5)
def p6 : Pt := (.cs (.ptr 0 0) (.cs (.bots 9) (jC (.cs (.bots 1) (.cs (.own 5) (.cs (.bots 15) (jC (jC (.cs (.bots 18) .nl)))))))))
def q6 : Pt := (.cs (.var (.cs (.ptr 1 0) (jC (jC (jC (jC (jC (jC .nl)))))))) (.cs (.var (.cs (.own 2) (jC (.cs (.own 3) (jC (.cs .bool (jC (.cs (.own 4) .nl)))))))) (.cs (.row 3 true) (.cs (.row 1 true) (.cs (.row 3 true) (.cs (.row 3 true) .nl))))))
def ou6 (l : T6) (y : (List Int)) : Ex × St U := (.exit 0, stOf 48 [(0, .ptr 0 0), (12, .own 5)] [.var [.ptr 1 0, jI l.2.1.2.1, jI l.2.1.2.2.1, jI l.2.1.2.2.2.1, jI (d4 l.2.1).1, jI (d4 l.2.1).2.1, jI (d4 l.2.1).2.2.1], .var [.own 2, jI l.2.2.1.2.1, .own 3, jI l.2.2.1.2.2.2.1, jB (d4 l.2.2.1).1, jI (d4 l.2.2.1).2.1, .own 4], .row 3 l.2.2.2.1 true, .row 1 (d4 l).1 true, .row 3 (d4 l).2.1 true, .row 3 y true] 5)
def Λ6 : LFun U := mkLp p6 q6 5 (X := (List Int)) (fun (l : T6) => L6 l.1.2.2.1 (d4 l.1).2.2.1 (d4 l.1).2.2.2.1 l.2.1.2.1 l.2.1.2.2.1 l.2.1.2.2.2.1 (d4 l.2.1).1 (d4 l.2.1).2.1 (d4 l.2.1).2.2.1 l.2.2.1.2.1 l.2.2.1.2.2.2.1 (d4 l.2.2.1).1 (d4 l.2.2.1).2.1 l.2.2.2.1 (d4 l).1 (d4 l).2.1 (d4 l).2.2.1) sp1 ou6
def hd6 (l : T6) (s : S6) : T6 := (((), ((), (l.1.2.2.1, ((), ((), ((), ((d4 l.1).2.2.1, (s.1, ((), ()))))))))), (((), (l.2.1.2.1, (l.2.1.2.2.1, (l.2.1.2.2.2.1, ((d4 l.2.1).1, ((d4 l.2.1).2.1, ((d4 l.2.1).2.2.1, ()))))))), (((), (l.2.2.1.2.1, ((), (l.2.2.1.2.2.2.1, ((d4 l.2.2.1).1, ((d4 l.2.2.1).2.1, ((), ()))))))), (l.2.2.2.1, ((d4 l).1, ((d4 l).2.1, (s.2, ())))))))
def fl6 (l : T6) (s : S6) : Tw (S6 ⊕ (List Int)) := l6 l.1.2.2.1 (d4 l.1).2.2.1 l.2.1.2.1 l.2.1.2.2.1 l.2.1.2.2.2.1 (d4 l.2.1).1 (d4 l.2.1).2.1 (d4 l.2.1).2.2.1 l.2.2.1.2.1 l.2.2.1.2.2.2.1 (d4 l.2.2.1).1 (d4 l.2.2.1).2.1 l.2.2.2.1 (d4 l).1 (d4 l).2.1 s.1 s.2
def t (s_ at_ n h0_1 h0_2 h0_3 h0_4 h0_5 h0_6 h1_1 h1_3 : Int) (h1_4 : Bool) (h1_5 : Int) (h2 : (List Int)) (h3 : (List Int)) (h4 : (List Int)) : Tw XA :=
 (.opt (drive_Drive_first.c s_ at_ n h0_1 h0_2 h0_3 h0_4 h0_5 h0_6 h1_1 h1_3 h1_4 h1_5 h2 h3 h4) fun z1 =>
 (.bb (z1.2 != (0 : Int))
 (.ret (z1.2, ([] : List (Int))))
 (.dd ((((0 : Int) ≤ n) ∧ ((n ≤ n) ∧ ((n ≤ (140737488355328 : Int)) ∧ ((n * (((4 : Nat) : Nat) : Int)) ≤ (140737488355328 : Int)))))) inferInstance
 (.opt (L6 z1.1 (((List.length (List.replicate (Int.toNat n) (0 : Int))) : Nat) : Int) (0 : Int) h0_1 h0_2 h0_3 h0_4 h0_5 h0_6 h1_1 h1_3 h1_4 h1_5 h2 h3 h4 (List.replicate (Int.toNat n) (0 : Int))) fun z4 =>
 (.ret ((0 : Int), z4)))
 .no)))
def c (s_ at_ n h0_1 h0_2 h0_3 h0_4 h0_5 h0_6 h1_1 h1_3 : Int) (h1_4 : Bool) (h1_5 : Int) (h2 : (List Int)) (h3 : (List Int)) (h4 : (List Int)) : Option XA := (t s_ at_ n h0_1 h0_2 h0_3 h0_4 h0_5 h0_6 h1_1 h1_3 h1_4 h1_5 h2 h3 h4).run
def tl (l : TA) : Tw XA := t l.1.2.1 l.1.2.2.1 l.1.2.2.2.1 l.2.1.2.1 l.2.1.2.2.1 l.2.1.2.2.2.1 (d4 l.2.1).1 (d4 l.2.1).2.1 (d4 l.2.1).2.2.1 l.2.2.1.2.1 l.2.2.1.2.2.2.1 (d4 l.2.2.1).1 (d4 l.2.2.1).2.1 l.2.2.2.1 (d4 l).1 (d4 l).2.1
def pA : Pt := (.cs (.ptr 0 0) (jC (jC (jC .nl))))
def pH : Pt := (.cs (.var (.cs (.ptr 1 0) (jC (jC (jC (jC (jC (jC .nl)))))))) (.cs (.var (.cs (.own 2) (jC (.cs (.own 3) (jC (.cs .bool (jC (.cs (.own 4) .nl)))))))) (.cs (.row 3 true) (.cs (.row 1 true) (.cs (.row 3 true) .nl)))))
def v (l : TA) (y : XA) : AV U := .tup [.own 5, jI y.1]
def hh (l : TA) (y : XA) : Hp U := [.var [.ptr 1 0, jI l.2.1.2.1, jI l.2.1.2.2.1, jI l.2.1.2.2.2.1, jI (d4 l.2.1).1, jI (d4 l.2.1).2.1, jI (d4 l.2.1).2.2.1], .var [.own 2, jI l.2.2.1.2.1, .own 3, jI l.2.2.1.2.2.2.1, jB (d4 l.2.2.1).1, jI (d4 l.2.2.1).2.1, .own 4], .row 3 l.2.2.2.1 true, .row 1 (d4 l).1 true, .row 3 (d4 l).2.1 true, .row 3 y.2 true]
def A : AFun U := mkA pA pH (X := XA) (fun l => (tl l).run) sp1 v hh
def body := bodyOf Try.f64
def E : Env U := E0.mk5 [(85, drive_Drive_first.A), (87, flash_Flash_Read.A)] [(6, Λ6)] [] [(6, ⟨[29, 10, 0, 12, 28], []⟩, ⟨[8, 9, 0, 12], []⟩)] [85, 87]
theorem hf6 : HF E (pick (loopsOf body) 6) p6 q6 5 fl6 hd6 sp1 ou6 := fun _ _ _ _ => by kernel_rfl
theorem lk6 : LK E (pick (loopsOf body) 6) Λ6 := fun R st K r h =>
  lp_ok (E := E) (b := pick (loopsOf body) 6) (m := 5) (sp := sp1) (p := p6) (q := q6) (X := (List Int)) (S := S6) (f := fl6) (hd := hd6) (s0 := fun (l : T6) => ((d4 l.1).2.2.2.1, (d4 l).2.2.1)) (ou := ou6)
    (fun l => rfl) (fun l x => by rfl) sp1_ok hf6 h
theorem hk : HK E Try.f64 [(0, [], .own 3)] pA pH tl v hh := fun _ _ _ => by kernel_rfl
theorem og : SoundF Try.prog cc 64 A ∧ FnOK Try.prog 64 :=
 og_of (E := E) P_mixed (E0_ok.mk5 _ _ _ _ _) (gam_of (all_cons drive_Drive_first.og (all_cons flash_Flash_Read.og all_nil)) (all_cons (fun _ => drive_Drive_first.keep) (all_cons (fun _ => flash_Flash_Read.keep) all_nil))) Try.func64 (c := body) (by kernel_rfl)
    (just_by (by kernel_rfl) (by kernel_rfl) (all_cons lk6 all_nil) all_nil) [(0, [], .own 3)] sp1_ok hk (by kernel_rfl)
theorem keep : KeepA A := mkA_keep sp1_ok (fun (l : TA) y => ⟨(hh l y).drop 5, by kernel_rfl⟩)
end drive_Drive_Read

/-! (*instar/drive.Drive).Blank$1 -/
namespace drive_Drive_Blank_1
abbrev TA : Type := ((Int × Unit) × Unit)
def t (x : Int) : Tw Bool :=
 (.ret (x != (4294967295 : Int)))
def c (x : Int) : Option Bool := (t x).run
def tl (l : TA) : Tw Bool := t l.1.1
def pA : Pt := (.cs (.int .u32) .nl)
def pH : Pt := .nl
def v (l : TA) (y : Bool) : AV U := jB y
def hh (l : TA) (y : Bool) : Hp U := []
def A : AFun U := mkA pA pH (X := Bool) (fun l => (tl l).run) sp1 v hh
def body := bodyOf Try.f92
def E : Env U := E0.mk5 [] [] [] [] []
theorem hk : HK E Try.f92 [] pA pH tl v hh := fun _ _ _ => by kernel_rfl
theorem og : SoundF Try.prog cc 92 A ∧ FnOK Try.prog 92 :=
 og_of (E := E) P_mixed (E0_ok.mk5 _ _ _ _ _) (gam_of all_nil all_nil) Try.func92 (c := body) (by kernel_rfl)
    (just_by (by kernel_rfl) (by kernel_rfl) all_nil all_nil) [] sp1_ok hk (by kernel_rfl)
end drive_Drive_Blank_1

/-! slices.IndexFunc[[]uint32,uint32] -/
namespace slices_IndexFunc__uint32uint32_of_drive_Drive_Blank_1
abbrev TA : Type := (((List Int) × (Unit × Unit)) × Unit)
abbrev T2 : Type := (((List Int) × (Unit × (Unit × (Int × (Int × (Unit × Unit)))))) × Unit)
abbrev X2 : Type := (Unit ⊕ Int)
def l2 (s_ : (List Int)) (k7 k8 : Int) : Tw (Int ⊕ X2) :=
 (.bb (decide (k8 < k7))
 (.dd (((0 : Int) ≤ k8)) inferInstance
 (.opt (s_)[(Int.toNat k8)]? fun z1 =>
 (.opt (drive_Drive_Blank_1.c z1) fun z2 =>
 (.bb z2
 (.ret (.inr (.inr k8)))
 (.ret (.inl (w64 (k8 + (1 : Int))))))))
 .no)
 (.ret (.inr (.inl ()))))
def L2 (s_ : (List Int)) (k7 k8 : Int) : Option X2 := Lp (fun s => (l2 s_ k7 s).run) k8
def p2 : Pt := (.cs (.sl 3) (.cs (.clo 92 .nl) (.cs (.bots 5) (jC (jC (.cs (.bots 10) .nl))))))
def q2 : Pt := .nl
def ou2 (l : T2) (y : X2) : Ex × St U := (Sum.elim (fun a0 => (.exit 0, stOf 19 [] [] 0)) (fun b0 => (.ret, stOf 19 [(4, jI b0)] [] 0)) y)
def Λ2 : LFun U := mkLp p2 q2 0 (X := X2) (fun (l : T2) => L2 l.1.1 l.1.2.2.2.1 (d4 l.1).1) (spS sp1) ou2
def hd2 (l : T2) (s : Int) : T2 := ((l.1.1, ((), ((), (l.1.2.2.2.1, (s, ((), ())))))), ())
def fl2 (l : T2) (s : Int) : Tw (Int ⊕ X2) := l2 l.1.1 l.1.2.2.2.1 s
def t (s_ : (List Int)) : Tw Int :=
 (.opt (L2 s_ (((List.length s_) : Nat) : Int) (0 : Int)) fun z3 =>
 (.sm z3
 (fun z4 => (.ret (-(1 : Int))))
 (fun z5 => (.ret z5))))
def c (s_ : (List Int)) : Option Int := (t s_).run
def tl (l : TA) : Tw Int := t l.1.1
def pA : Pt := (.cs (.sl 3) (.cs (.clo 92 .nl) .nl))
def pH : Pt := .nl
def v (l : TA) (y : Int) : AV U := jI y
def hh (l : TA) (y : Int) : Hp U := []
def A : AFun U := mkA pA pH (X := Int) (fun l => (tl l).run) sp1 v hh
def body := bodyOf Try.f107
def E : Env U := E0.mk5 [(92, drive_Drive_Blank_1.A)] [(2, Λ2)] [] [(2, ⟨[8, 0, 1, 7], []⟩, ⟨[4], []⟩)] []
theorem hf2 : HF E (pick (loopsOf body) 2) p2 q2 0 fl2 hd2 (spS sp1) ou2 := fun _ _ _ _ => by kernel_rfl
theorem lk2 : LK E (pick (loopsOf body) 2) Λ2 := fun R st K r h =>
  lp_ok (E := E) (b := pick (loopsOf body) 2) (m := 0) (sp := (spS sp1)) (p := p2) (q := q2) (X := X2) (S := Int) (f := fl2) (hd := hd2) (s0 := fun (l : T2) => (d4 l.1).1) (ou := ou2)
    (fun l => rfl) (fun l x => by repeat' (first | rfl | (cases x with | inl => rfl | inr x => ?_))) (spS_ok sp1_ok) hf2 h
theorem hk : HK E Try.f107 [] pA pH tl v hh := fun _ _ _ => by kernel_rfl
theorem og : SoundF Try.prog cc 107 A ∧ FnOK Try.prog 107 :=
 og_of (E := E) P_mixed (E0_ok.mk5 _ _ _ _ _) (gam_of (all_cons drive_Drive_Blank_1.og all_nil) no_ro) Try.func107 (c := body) (by kernel_rfl)
    (just_by (by kernel_rfl) (by kernel_rfl) (all_cons lk2 all_nil) all_nil) [] sp1_ok hk (by kernel_rfl)
end slices_IndexFunc__uint32uint32_of_drive_Drive_Blank_1

/-! slices.ContainsFunc[[]uint32,uint32] -/
namespace slices_ContainsFunc__uint32uint32_of_drive_Drive_Blank_1
abbrev TA : Type := (((List Int) × (Unit × Unit)) × Unit)
def t (s_ : (List Int)) : Tw Bool :=
 (.opt (slices_IndexFunc__uint32uint32_of_drive_Drive_Blank_1.c s_) fun z1 =>
 (.ret (decide (z1 ≥ (0 : Int)))))
def c (s_ : (List Int)) : Option Bool := (t s_).run
def tl (l : TA) : Tw Bool := t l.1.1
def pA : Pt := (.cs (.sl 3) (.cs (.clo 92 .nl) .nl))
def pH : Pt := .nl
def v (l : TA) (y : Bool) : AV U := jB y
def hh (l : TA) (y : Bool) : Hp U := []
def A : AFun U := mkA pA pH (X := Bool) (fun l => (tl l).run) sp1 v hh
def body := bodyOf Try.f91
def E : Env U := E0.mk5 [(107, slices_IndexFunc__uint32uint32_of_drive_Drive_Blank_1.A)] [] [] [] []
theorem hk : HK E Try.f91 [] pA pH tl v hh := fun _ _ _ => by kernel_rfl
theorem og : SoundF Try.prog cc 91 A ∧ FnOK Try.prog 91 :=
 og_of (E := E) P_mixed (E0_ok.mk5 _ _ _ _ _) (gam_of (all_cons slices_IndexFunc__uint32uint32_of_drive_Drive_Blank_1.og all_nil) no_ro) Try.func91 (c := body) (by kernel_rfl)
    (just_by (by kernel_rfl) (by kernel_rfl) all_nil all_nil) [] sp1_ok hk (by kernel_rfl)
end slices_ContainsFunc__uint32uint32_of_drive_Drive_Blank_1

/-! (*instar/drive.Drive).Blank -/
namespace drive_Drive_Blank
abbrev TA : Type := ((Unit × (Int × (Int × Unit))) × ((Unit × (Int × (Int × (Int × (Int × (Int × (Int × Unit))))))) × ((Unit × (Int × (Unit × (Int × (Bool × (Int × (Unit × Unit))))))) × ((List Int) × ((List Int) × ((List Int) × Unit))))))
abbrev XA : Type := (Bool × Int)
def t (s_ at_ h0_1 h0_2 h0_3 h0_4 h0_5 h0_6 h1_1 h1_3 : Int) (h1_4 : Bool) (h1_5 : Int) (h2 : (List Int)) (h3 : (List Int)) (h4 : (List Int)) : Tw XA :=
 (.opt (drive_Drive_long.c h0_1 h0_2 h0_3 h0_4 h0_5 h0_6 h1_1 h1_3 h1_4 h1_5 h2 h3 h4) fun z1 =>
 (.opt (drive_Drive_Read.c s_ at_ (imax (w64 (h0_1 - (imax at_ (0 : Int)))) (0 : Int)) h0_1 h0_2 h0_3 h0_4 h0_5 h0_6 h1_1 h1_3 h1_4 h1_5 h2 h3 h4) fun z2 =>
 (.bb (z2.1 != (0 : Int))
 (.ret (false, z2.1))
 (.opt (slices_ContainsFunc__uint32uint32_of_drive_Drive_Blank_1.c z2.2) fun z3 =>
 (.ret ((!z3), (0 : Int)))))))
def c (s_ at_ h0_1 h0_2 h0_3 h0_4 h0_5 h0_6 h1_1 h1_3 : Int) (h1_4 : Bool) (h1_5 : Int) (h2 : (List Int)) (h3 : (List Int)) (h4 : (List Int)) : Option XA := (t s_ at_ h0_1 h0_2 h0_3 h0_4 h0_5 h0_6 h1_1 h1_3 h1_4 h1_5 h2 h3 h4).run
def tl (l : TA) : Tw XA := t l.1.2.1 l.1.2.2.1 l.2.1.2.1 l.2.1.2.2.1 l.2.1.2.2.2.1 (d4 l.2.1).1 (d4 l.2.1).2.1 (d4 l.2.1).2.2.1 l.2.2.1.2.1 l.2.2.1.2.2.2.1 (d4 l.2.2.1).1 (d4 l.2.2.1).2.1 l.2.2.2.1 (d4 l).1 (d4 l).2.1
def pA : Pt := (.cs (.ptr 0 0) (jC (jC .nl)))
def pH : Pt := (.cs (.var (.cs (.ptr 1 0) (jC (jC (jC (jC (jC (jC .nl)))))))) (.cs (.var (.cs (.own 2) (jC (.cs (.own 3) (jC (.cs .bool (jC (.cs (.own 4) .nl)))))))) (.cs (.row 3 true) (.cs (.row 1 true) (.cs (.row 3 true) .nl)))))
def v (l : TA) (y : XA) : AV U := .tup [jB y.1, jI y.2]
def hh (l : TA) (y : XA) : Hp U := [.var [.ptr 1 0, jI l.2.1.2.1, jI l.2.1.2.2.1, jI l.2.1.2.2.2.1, jI (d4 l.2.1).1, jI (d4 l.2.1).2.1, jI (d4 l.2.1).2.2.1], .var [.own 2, jI l.2.2.1.2.1, .own 3, jI l.2.2.1.2.2.2.1, jB (d4 l.2.2.1).1, jI (d4 l.2.2.1).2.1, .own 4], .row 3 l.2.2.2.1 true, .row 1 (d4 l).1 true, .row 3 (d4 l).2.1 true]
def A : AFun U := mkA pA pH (X := XA) (fun l => (tl l).run) sp1 v hh
def body := bodyOf Try.f66
def E : Env U := E0.mk5 [(90, drive_Drive_long.A), (64, drive_Drive_Read.A), (91, slices_ContainsFunc__uint32uint32_of_drive_Drive_Blank_1.A)] [] [] [] [90, 64]
theorem hk : HK E Try.f66 [] pA pH tl v hh := fun _ _ _ => by kernel_rfl
theorem og : SoundF Try.prog cc 66 A ∧ FnOK Try.prog 66 :=
 og_of (E := E) P_mixed (E0_ok.mk5 _ _ _ _ _) (gam_of (all_cons drive_Drive_long.og (all_cons drive_Drive_Read.og (all_cons slices_ContainsFunc__uint32uint32_of_drive_Drive_Blank_1.og all_nil))) (all_cons (fun _ => drive_Drive_long.keep) (all_cons (fun _ => drive_Drive_Read.keep) (all_cons (no_keep (by kernel_rfl)) all_nil)))) Try.func66 (c := body) (by kernel_rfl)
    (just_by (by kernel_rfl) (by kernel_rfl) all_nil all_nil) [] sp1_ok hk (by kernel_rfl)
end drive_Drive_Blank

/-! (*instar/drive.Drive).Clean -/
namespace drive_Drive_Clean
abbrev TA : Type := ((Unit × (Int × Unit)) × ((Unit × (Int × (Int × (Int × (Int × (Int × (Int × Unit))))))) × ((Unit × (Int × (Unit × (Int × (Bool × (Int × (Unit × Unit))))))) × ((List Int) × ((List Int) × ((List Int) × Unit))))))
abbrev XA : Type := (Int × (Int × (Bool × (Int × ((List Int) × (List Int))))))
def t (s_ h0_1 h0_2 h0_3 h0_4 h0_5 h0_6 h1_1 h1_3 : Int) (h1_4 : Bool) (h1_5 : Int) (h2 : (List Int)) (h3 : (List Int)) (h4 : (List Int)) : Tw XA :=
 (.opt (drive_Drive_Blank.c s_ (0 : Int) h0_1 h0_2 h0_3 h0_4 h0_5 h0_6 h1_1 h1_3 h1_4 h1_5 h2 h3 h4) fun z1 =>
 (.bb (z1.2 != (0 : Int))
 (.ret (z1.2, (h1_3, (h1_4, (h1_5, (h2, h3))))))
 (.bb z1.1
 (.ret (z1.2, (h1_3, (h1_4, (h1_5, (h2, h3))))))
 (.opt (flash_Flash_Erase.c s_ h1_1 h1_3 h1_4 h1_5 h2 h3 h4) fun z2 =>
 (.ret (z2.1, (z2.2.1, (z2.2.2.1, (z2.2.2.2.1, ((d4 z2).1, (d4 z2).2))))))))))
def c (s_ h0_1 h0_2 h0_3 h0_4 h0_5 h0_6 h1_1 h1_3 : Int) (h1_4 : Bool) (h1_5 : Int) (h2 : (List Int)) (h3 : (List Int)) (h4 : (List Int)) : Option XA := (t s_ h0_1 h0_2 h0_3 h0_4 h0_5 h0_6 h1_1 h1_3 h1_4 h1_5 h2 h3 h4).run
def tl (l : TA) : Tw XA := t l.1.2.1 l.2.1.2.1 l.2.1.2.2.1 l.2.1.2.2.2.1 (d4 l.2.1).1 (d4 l.2.1).2.1 (d4 l.2.1).2.2.1 l.2.2.1.2.1 l.2.2.1.2.2.2.1 (d4 l.2.2.1).1 (d4 l.2.2.1).2.1 l.2.2.2.1 (d4 l).1 (d4 l).2.1
def pA : Pt := (.cs (.ptr 0 0) (jC .nl))
def pH : Pt := (.cs (.var (.cs (.ptr 1 0) (jC (jC (jC (jC (jC (jC .nl)))))))) (.cs (.var (.cs (.own 2) (jC (.cs (.own 3) (jC (.cs .bool (jC (.cs (.own 4) .nl)))))))) (.cs (.row 3 true) (.cs (.row 1 true) (.cs (.row 3 true) .nl)))))
def v (l : TA) (y : XA) : AV U := jI y.1
def hh (l : TA) (y : XA) : Hp U := [.var [.ptr 1 0, jI l.2.1.2.1, jI l.2.1.2.2.1, jI l.2.1.2.2.2.1, jI (d4 l.2.1).1, jI (d4 l.2.1).2.1, jI (d4 l.2.1).2.2.1], .var [.own 2, jI l.2.2.1.2.1, .own 3, jI y.2.1, jB y.2.2.1, jI y.2.2.2.1, .own 4], .row 3 (d4 y).1 true, .row 1 (d4 y).2 true, .row 3 (d4 l).2.1 true]
def A : AFun U := mkA pA pH (X := XA) (fun l => (tl l).run) sp1 v hh
def body := bodyOf Try.f41
def E : Env U := E0.mk5 [(66, drive_Drive_Blank.A), (67, flash_Flash_Erase.A)] [] [] [] []
theorem hk : HK E Try.f41 [] pA pH tl v hh := fun _ _ _ => by kernel_rfl
theorem og : SoundF Try.prog cc 41 A ∧ FnOK Try.prog 41 :=
 og_of (E := E) P_mixed (E0_ok.mk5 _ _ _ _ _) (gam_of (all_cons drive_Drive_Blank.og (all_cons flash_Flash_Erase.og all_nil)) no_ro) Try.func41 (c := body) (by kernel_rfl)
    (just_by (by kernel_rfl) (by kernel_rfl) all_nil all_nil) [] sp1_ok hk (by kernel_rfl)
end drive_Drive_Clean

/-! (*instar/drive.Drive).Write -/
namespace drive_Drive_Write
abbrev TA : Type := ((Unit × (Int × (Int × ((List Int) × Unit)))) × ((Unit × (Int × (Int × (Int × (Int × (Int × (Int × Unit))))))) × ((Unit × (Int × (Unit × (Int × (Bool × (Int × (Unit × Unit))))))) × ((List Int) × ((List Int) × ((List Int) × Unit))))))
abbrev XA : Type := (Int × (Int × (Bool × (Int × (List Int)))))
abbrev T5 : Type := ((Unit × (Int × (Int × ((List Int) × (Unit × (Unit × (Unit × ((List Int) × (Int × (Int × (Unit × Unit))))))))))) × ((Unit × (Int × (Int × (Int × (Int × (Int × (Int × Unit))))))) × ((Unit × (Int × (Unit × (Int × (Bool × (Int × (Unit × Unit))))))) × ((List Int) × ((List Int) × ((List Int) × ((List Int) × Unit)))))))
abbrev X5 : Type := (Unit ⊕ Int)
def l5 (s_ at_ : Int) (w : (List Int)) (k30 : (List Int)) (k31 h0_1 h0_2 h0_3 h0_4 h0_5 h0_6 h1_1 h1_3 : Int) (h1_4 : Bool) (h1_5 : Int) (h2 : (List Int)) (h3 : (List Int)) (h4 : (List Int)) (h5 : (List Int)) (k32 : Int) : Tw (Int ⊕ X5) :=
 (.bb (decide (k32 < k31))
 (.dd (((0 : Int) ≤ k32)) inferInstance
 (.opt (k30)[(Int.toNat k32)]? fun z2 =>
 (.dd ((((0 : Int) ≤ k32) ∧ (k32 < (((List.length h5) : Nat) : Int)))) inferInstance
 (.opt (h5)[(Int.toNat k32)]? fun z3 =>
 (.opt (word_Within.c z2 z3) fun z4 =>
 (.bb (!z4)
 (.ret (.inr (.inr (11 : Int))))
 (.ret (.inl (w64 (k32 + (1 : Int))))))))
 .no))
 .no)
 (.ret (.inr (.inl ()))))
def L5 (s_ at_ : Int) (w : (List Int)) (k30 : (List Int)) (k31 k32 h0_1 h0_2 h0_3 h0_4 h0_5 h0_6 h1_1 h1_3 : Int) (h1_4 : Bool) (h1_5 : Int) (h2 : (List Int)) (h3 : (List Int)) (h4 : (List Int)) (h5 : (List Int)) : Option X5 := Lp (fun s => (l5 s_ at_ w k30 k31 h0_1 h0_2 h0_3 h0_4 h0_5 h0_6 h1_1 h1_3 h1_4 h1_5 h2 h3 h4 h5 s).run) k32
def p5 : Pt := (.cs (.ptr 0 0) (jC (jC (.cs (.sl 3) (.cs (.bots 5) (.cs (.own 5) (.cs (.bots 20) (.cs (.sl 3) (jC (jC (.cs (.bots 45) .nl)))))))))))
def q5 : Pt := (.cs (.var (.cs (.ptr 1 0) (jC (jC (jC (jC (jC (jC .nl)))))))) (.cs (.var (.cs (.own 2) (jC (.cs (.own 3) (jC (.cs .bool (jC (.cs (.own 4) .nl)))))))) (.cs (.row 3 true) (.cs (.row 1 true) (.cs (.row 3 true) (.cs (.row 3 true) .nl))))))
def ou5 (l : T5) (y : X5) : Ex × St U := (Sum.elim (fun a0 => (.exit 0, stOf 78 [(0, .ptr 0 0), (1, jI l.1.2.1), (2, jI l.1.2.2.1), (3, .im (.slice 3 l.1.2.2.2.1)), (9, .own 5)] [.var [.ptr 1 0, jI l.2.1.2.1, jI l.2.1.2.2.1, jI l.2.1.2.2.2.1, jI (d4 l.2.1).1, jI (d4 l.2.1).2.1, jI (d4 l.2.1).2.2.1], .var [.own 2, jI l.2.2.1.2.1, .own 3, jI l.2.2.1.2.2.2.1, jB (d4 l.2.2.1).1, jI (d4 l.2.2.1).2.1, .own 4], .row 3 l.2.2.2.1 true, .row 1 (d4 l).1 true, .row 3 (d4 l).2.1 true, .row 3 (d4 l).2.2.1 true] 5)) (fun b0 => (.ret, stOf 78 [(0, .ptr 0 0), (1, jI l.1.2.1), (2, jI l.1.2.2.1), (3, .im (.slice 3 l.1.2.2.2.1)), (8, jI b0), (9, .own 5)] [.var [.ptr 1 0, jI l.2.1.2.1, jI l.2.1.2.2.1, jI l.2.1.2.2.2.1, jI (d4 l.2.1).1, jI (d4 l.2.1).2.1, jI (d4 l.2.1).2.2.1], .var [.own 2, jI l.2.2.1.2.1, .own 3, jI l.2.2.1.2.2.2.1, jB (d4 l.2.2.1).1, jI (d4 l.2.2.1).2.1, .own 4], .row 3 l.2.2.2.1 true, .row 1 (d4 l).1 true, .row 3 (d4 l).2.1 true, .row 3 (d4 l).2.2.1 true] 5)) y)
def Λ5 : LFun U := mkLp p5 q5 5 (X := X5) (fun (l : T5) => L5 l.1.2.1 l.1.2.2.1 l.1.2.2.2.1 (d4 l.1).2.2.2.1 (d8 l.1).1 (d8 l.1).2.1 l.2.1.2.1 l.2.1.2.2.1 l.2.1.2.2.2.1 (d4 l.2.1).1 (d4 l.2.1).2.1 (d4 l.2.1).2.2.1 l.2.2.1.2.1 l.2.2.1.2.2.2.1 (d4 l.2.2.1).1 (d4 l.2.2.1).2.1 l.2.2.2.1 (d4 l).1 (d4 l).2.1 (d4 l).2.2.1) (spS sp1) ou5
def hd5 (l : T5) (s : Int) : T5 := (((), (l.1.2.1, (l.1.2.2.1, (l.1.2.2.2.1, ((), ((), ((), ((d4 l.1).2.2.2.1, ((d8 l.1).1, (s, ((), ()))))))))))), (((), (l.2.1.2.1, (l.2.1.2.2.1, (l.2.1.2.2.2.1, ((d4 l.2.1).1, ((d4 l.2.1).2.1, ((d4 l.2.1).2.2.1, ()))))))), (((), (l.2.2.1.2.1, ((), (l.2.2.1.2.2.2.1, ((d4 l.2.2.1).1, ((d4 l.2.2.1).2.1, ((), ()))))))), (l.2.2.2.1, ((d4 l).1, ((d4 l).2.1, ((d4 l).2.2.1, ())))))))
def fl5 (l : T5) (s : Int) : Tw (Int ⊕ X5) := l5 l.1.2.1 l.1.2.2.1 l.1.2.2.2.1 (d4 l.1).2.2.2.1 (d8 l.1).1 l.2.1.2.1 l.2.1.2.2.1 l.2.1.2.2.2.1 (d4 l.2.1).1 (d4 l.2.1).2.1 (d4 l.2.1).2.2.1 l.2.2.1.2.1 l.2.2.1.2.2.2.1 (d4 l.2.2.1).1 (d4 l.2.2.1).2.1 l.2.2.2.1 (d4 l).1 (d4 l).2.1 (d4 l).2.2.1 s
abbrev T12 : Type := ((Unit × (Unit × (Unit × (Unit × (Int × (Unit × ((List Int) × (Int × (Int × (Unit × Unit)))))))))) × ((Unit × (Int × (Int × (Int × (Int × (Int × (Int × Unit))))))) × ((Unit × (Int × (Unit × (Int × (Bool × (Int × (Unit × Unit))))))) × ((List Int) × ((List Int) × ((List Int) × ((List Int) × Unit)))))))
abbrev S12 : Type := (Int × (Int × (Bool × (Int × (List Int)))))
abbrev X12 : Type := ((Int × (Bool × (Int × (List Int)))) ⊕ (Int × (Int × (Bool × (Int × (List Int))))))
def l12 (a : Int) (k52 : (List Int)) (k53 h0_1 h0_2 h0_3 h0_4 h0_5 h0_6 h1_1 : Int) (h3 : (List Int)) (h4 : (List Int)) (h5 : (List Int)) (k54 h1_3 : Int) (h1_4 : Bool) (h1_5 : Int) (h2 : (List Int)) : Tw (S12 ⊕ X12) :=
 (.bb (decide (k54 < k53))
 (.dd (((0 : Int) ≤ k54)) inferInstance
 (.opt (k52)[(Int.toNat k54)]? fun z9 =>
 (.dd ((((0 : Int) ≤ k54) ∧ (k54 < (((List.length h5) : Nat) : Int)))) inferInstance
 (.opt (h5)[(Int.toNat k54)]? fun z10 =>
 (.bb (z9 == z10)
 (.ret (.inl ((w64 (k54 + (1 : Int))), (h1_3, (h1_4, (h1_5, h2))))))
 (.opt (flash_Flash_Program.c (w64 (a + k54)) z9 h1_1 h1_3 h1_4 h1_5 h2 h3 h4) fun z11 =>
 (.bb (z11.1 != (0 : Int))
 (.ret (.inr (.inr (z11.1, (z11.2.1, (z11.2.2.1, (z11.2.2.2.1, (d4 z11))))))))
 (.ret (.inl ((w64 (k54 + (1 : Int))), (z11.2.1, (z11.2.2.1, (z11.2.2.2.1, (d4 z11)))))))))))
 .no))
 .no)
 (.ret (.inr (.inl (h1_3, (h1_4, (h1_5, h2)))))))
def L12 (a : Int) (k52 : (List Int)) (k53 k54 h0_1 h0_2 h0_3 h0_4 h0_5 h0_6 h1_1 h1_3 : Int) (h1_4 : Bool) (h1_5 : Int) (h2 : (List Int)) (h3 : (List Int)) (h4 : (List Int)) (h5 : (List Int)) : Option X12 := Lp (fun s => (l12 a k52 k53 h0_1 h0_2 h0_3 h0_4 h0_5 h0_6 h1_1 h3 h4 h5 s.1 s.2.1 s.2.2.1 s.2.2.2.1 (d4 s)).run) (k54, (h1_3, (h1_4, (h1_5, h2))))
def p12 : Pt := (.cs (.ptr 0 0) (.cs (.bots 8) (.cs (.own 5) (.cs (.bots 3) (jC (.cs (.bots 38) (.cs (.sl 3) (jC (jC (.cs (.bots 23) .nl))))))))))
def q12 : Pt := (.cs (.var (.cs (.ptr 1 0) (jC (jC (jC (jC (jC (jC .nl)))))))) (.cs (.var (.cs (.own 2) (jC (.cs (.own 3) (jC (.cs .bool (jC (.cs (.own 4) .nl)))))))) (.cs (.row 3 true) (.cs (.row 1 true) (.cs (.row 3 true) (.cs (.row 3 true) .nl))))))
def ou12 (l : T12) (y : X12) : Ex × St U := (Sum.elim (fun a0 => (.exit 2, stOf 78 [(0, .ptr 0 0)] [.var [.ptr 1 0, jI l.2.1.2.1, jI l.2.1.2.2.1, jI l.2.1.2.2.2.1, jI (d4 l.2.1).1, jI (d4 l.2.1).2.1, jI (d4 l.2.1).2.2.1], .var [.own 2, jI l.2.2.1.2.1, .own 3, jI a0.1, jB a0.2.1, jI a0.2.2.1, .own 4], .row 3 a0.2.2.2 true, .row 1 (d4 l).1 true, .row 3 (d4 l).2.1 true] 5)) (fun b0 => (.ret, stOf 78 [(0, .ptr 0 0), (8, jI b0.1)] [.var [.ptr 1 0, jI l.2.1.2.1, jI l.2.1.2.2.1, jI l.2.1.2.2.2.1, jI (d4 l.2.1).1, jI (d4 l.2.1).2.1, jI (d4 l.2.1).2.2.1], .var [.own 2, jI l.2.2.1.2.1, .own 3, jI b0.2.1, jB b0.2.2.1, jI b0.2.2.2.1, .own 4], .row 3 (d4 b0) true, .row 1 (d4 l).1 true, .row 3 (d4 l).2.1 true] 5)) y)
def Λ12 : LFun U := mkLp p12 q12 5 (X := X12) (fun (l : T12) => L12 (d4 l.1).1 (d4 l.1).2.2.1 (d4 l.1).2.2.2.1 (d8 l.1).1 l.2.1.2.1 l.2.1.2.2.1 l.2.1.2.2.2.1 (d4 l.2.1).1 (d4 l.2.1).2.1 (d4 l.2.1).2.2.1 l.2.2.1.2.1 l.2.2.1.2.2.2.1 (d4 l.2.2.1).1 (d4 l.2.2.1).2.1 l.2.2.2.1 (d4 l).1 (d4 l).2.1 (d4 l).2.2.1) (spS sp1) ou12
def hd12 (l : T12) (s : S12) : T12 := (((), ((), ((), ((), ((d4 l.1).1, ((), ((d4 l.1).2.2.1, ((d4 l.1).2.2.2.1, (s.1, ((), ())))))))))), (((), (l.2.1.2.1, (l.2.1.2.2.1, (l.2.1.2.2.2.1, ((d4 l.2.1).1, ((d4 l.2.1).2.1, ((d4 l.2.1).2.2.1, ()))))))), (((), (l.2.2.1.2.1, ((), (s.2.1, (s.2.2.1, (s.2.2.2.1, ((), ()))))))), ((d4 s), ((d4 l).1, ((d4 l).2.1, ((d4 l).2.2.1, ())))))))
def fl12 (l : T12) (s : S12) : Tw (S12 ⊕ X12) := l12 (d4 l.1).1 (d4 l.1).2.2.1 (d4 l.1).2.2.2.1 l.2.1.2.1 l.2.1.2.2.1 l.2.1.2.2.2.1 (d4 l.2.1).1 (d4 l.2.1).2.1 (d4 l.2.1).2.2.1 l.2.2.1.2.1 (d4 l).1 (d4 l).2.1 (d4 l).2.2.1 s.1 s.2.1 s.2.2.1 s.2.2.2.1 (d4 s)
def t (s_ at_ : Int) (w : (List Int)) (h0_1 h0_2 h0_3 h0_4 h0_5 h0_6 h1_1 h1_3 : Int) (h1_4 : Bool) (h1_5 : Int) (h2 : (List Int)) (h3 : (List Int)) (h4 : (List Int)) : Tw XA :=
 (.opt (drive_Drive_Read.c s_ at_ (((List.length w) : Nat) : Int) h0_1 h0_2 h0_3 h0_4 h0_5 h0_6 h1_1 h1_3 h1_4 h1_5 h2 h3 h4) fun z1 =>
 (.bb (z1.1 != (0 : Int))
 (.ret (z1.1, (h1_3, (h1_4, (h1_5, h2)))))
 (.opt (L5 s_ at_ w w (((List.length w) : Nat) : Int) (0 : Int) h0_1 h0_2 h0_3 h0_4 h0_5 h0_6 h1_1 h1_3 h1_4 h1_5 h2 h3 h4 z1.2) fun z5 =>
 (.sm z5
 (fun z6 => (.opt (drive_Drive_first.c s_ at_ (0 : Int) h0_1 h0_2 h0_3 h0_4 h0_5 h0_6 h1_1 h1_3 h1_4 h1_5 h2 h3 h4) fun z8 =>
 (.opt (L12 z8.1 w (((List.length w) : Nat) : Int) (0 : Int) h0_1 h0_2 h0_3 h0_4 h0_5 h0_6 h1_1 h1_3 h1_4 h1_5 h2 h3 h4 z1.2) fun z12 =>
 (.sm z12
 (fun z13 => (.ret ((0 : Int), (z13.1, (z13.2.1, (z13.2.2.1, z13.2.2.2))))))
 (fun z14 => (.ret (z14.1, (z14.2.1, (z14.2.2.1, (z14.2.2.2.1, (d4 z14)))))))))))
 (fun z7 => (.ret (z7, (h1_3, (h1_4, (h1_5, h2))))))))))
def c (s_ at_ : Int) (w : (List Int)) (h0_1 h0_2 h0_3 h0_4 h0_5 h0_6 h1_1 h1_3 : Int) (h1_4 : Bool) (h1_5 : Int) (h2 : (List Int)) (h3 : (List Int)) (h4 : (List Int)) : Option XA := (t s_ at_ w h0_1 h0_2 h0_3 h0_4 h0_5 h0_6 h1_1 h1_3 h1_4 h1_5 h2 h3 h4).run
def tl (l : TA) : Tw XA := t l.1.2.1 l.1.2.2.1 l.1.2.2.2.1 l.2.1.2.1 l.2.1.2.2.1 l.2.1.2.2.2.1 (d4 l.2.1).1 (d4 l.2.1).2.1 (d4 l.2.1).2.2.1 l.2.2.1.2.1 l.2.2.1.2.2.2.1 (d4 l.2.2.1).1 (d4 l.2.2.1).2.1 l.2.2.2.1 (d4 l).1 (d4 l).2.1
def pA : Pt := (.cs (.ptr 0 0) (jC (jC (.cs (.sl 3) .nl))))
def pH : Pt := (.cs (.var (.cs (.ptr 1 0) (jC (jC (jC (jC (jC (jC .nl)))))))) (.cs (.var (.cs (.own 2) (jC (.cs (.own 3) (jC (.cs .bool (jC (.cs (.own 4) .nl)))))))) (.cs (.row 3 true) (.cs (.row 1 true) (.cs (.row 3 true) .nl)))))
def v (l : TA) (y : XA) : AV U := jI y.1
def hh (l : TA) (y : XA) : Hp U := [.var [.ptr 1 0, jI l.2.1.2.1, jI l.2.1.2.2.1, jI l.2.1.2.2.2.1, jI (d4 l.2.1).1, jI (d4 l.2.1).2.1, jI (d4 l.2.1).2.2.1], .var [.own 2, jI l.2.2.1.2.1, .own 3, jI y.2.1, jB y.2.2.1, jI y.2.2.2.1, .own 4], .row 3 (d4 y) true, .row 1 (d4 l).1 true, .row 3 (d4 l).2.1 true]
def A : AFun U := mkA pA pH (X := XA) (fun l => (tl l).run) sp1 v hh
def body := bodyOf Try.f60
def E : Env U := E0.mk5 [(64, drive_Drive_Read.A), (84, word_Within.A), (85, drive_Drive_first.A), (86, flash_Flash_Program.A)] [(5, Λ5), (12, Λ12)] [] [(5, ⟨[0, 32, 9, 30, 3, 2, 1, 31], []⟩, ⟨[8, 0, 9, 3, 2, 1], []⟩), (12, ⟨[54, 0, 13, 9, 52, 53], []⟩, ⟨[8, 0], []⟩)] [64, 85]
theorem hf5 : HF E (pick (loopsOf body) 5) p5 q5 5 fl5 hd5 (spS sp1) ou5 := fun _ _ _ _ => by kernel_rfl
theorem lk5 : LK E (pick (loopsOf body) 5) Λ5 := fun R st K r h =>
  lp_ok (E := E) (b := pick (loopsOf body) 5) (m := 5) (sp := (spS sp1)) (p := p5) (q := q5) (X := X5) (S := Int) (f := fl5) (hd := hd5) (s0 := fun (l : T5) => (d8 l.1).2.1) (ou := ou5)
    (fun l => rfl) (fun l x => by repeat' (first | rfl | (cases x with | inl => rfl | inr x => ?_))) (spS_ok sp1_ok) hf5 h
theorem hf12 : HF E (pick (loopsOf body) 12) p12 q12 5 fl12 hd12 (spS sp1) ou12 := fun _ _ _ _ => by kernel_rfl
theorem lk12 : LK E (pick (loopsOf body) 12) Λ12 := fun R st K r h =>
  lp_ok (E := E) (b := pick (loopsOf body) 12) (m := 5) (sp := (spS sp1)) (p := p12) (q := q12) (X := X12) (S := S12) (f := fl12) (hd := hd12) (s0 := fun (l : T12) => ((d8 l.1).1, (l.2.2.1.2.2.2.1, ((d4 l.2.2.1).1, ((d4 l.2.2.1).2.1, l.2.2.2.1))))) (ou := ou12)
    (fun l => rfl) (fun l x => by repeat' (first | rfl | (cases x with | inl => rfl | inr x => ?_))) (spS_ok sp1_ok) hf12 h
theorem hk : HK E Try.f60 [] pA pH tl v hh := fun _ _ _ => by kernel_rfl
theorem og : SoundF Try.prog cc 60 A ∧ FnOK Try.prog 60 :=
 og_of (E := E) P_mixed (E0_ok.mk5 _ _ _ _ _) (gam_of (all_cons drive_Drive_Read.og (all_cons word_Within.og (all_cons drive_Drive_first.og (all_cons flash_Flash_Program.og all_nil)))) (all_cons (fun _ => drive_Drive_Read.keep) (all_cons (no_keep (by kernel_rfl)) (all_cons (fun _ => drive_Drive_first.keep) (all_cons (no_keep (by kernel_rfl)) all_nil))))) Try.func60 (c := body) (by kernel_rfl)
    (just_by (by kernel_rfl) (by kernel_rfl) (all_cons lk5 (all_cons lk12 all_nil)) all_nil) [] sp1_ok hk (by kernel_rfl)
end drive_Drive_Write

/-! (*instar/drive.Drive).Fresh -/
namespace drive_Drive_Fresh
abbrev TA : Type := ((Unit × (Int × ((List Int) × Unit))) × ((Unit × (Int × (Int × (Int × (Int × (Int × (Int × Unit))))))) × ((Unit × (Int × (Unit × (Int × (Bool × (Int × (Unit × Unit))))))) × ((List Int) × ((List Int) × ((List Int) × Unit))))))
abbrev XA : Type := (Int × (Int × (Bool × (Int × ((List Int) × (List Int))))))
def t (s_ : Int) (w : (List Int)) (h0_1 h0_2 h0_3 h0_4 h0_5 h0_6 h1_1 h1_3 : Int) (h1_4 : Bool) (h1_5 : Int) (h2 : (List Int)) (h3 : (List Int)) (h4 : (List Int)) : Tw XA :=
 (.opt (drive_Drive_first.c s_ (0 : Int) (((List.length w) : Nat) : Int) h0_1 h0_2 h0_3 h0_4 h0_5 h0_6 h1_1 h1_3 h1_4 h1_5 h2 h3 h4) fun z1 =>
 (.bb (z1.2 != (0 : Int))
 (.ret (z1.2, (h1_3, (h1_4, (h1_5, (h2, h3))))))
 (.opt (drive_Drive_Clean.c s_ h0_1 h0_2 h0_3 h0_4 h0_5 h0_6 h1_1 h1_3 h1_4 h1_5 h2 h3 h4) fun z2 =>
 (.bb (z2.1 != (0 : Int))
 (.ret (z2.1, (z2.2.1, (z2.2.2.1, (z2.2.2.2.1, ((d4 z2).1, (d4 z2).2))))))
 (.opt (drive_Drive_Write.c s_ (0 : Int) w h0_1 h0_2 h0_3 h0_4 h0_5 h0_6 h1_1 z2.2.1 z2.2.2.1 z2.2.2.2.1 (d4 z2).1 (d4 z2).2 h4) fun z3 =>
 (.ret (z3.1, (z3.2.1, (z3.2.2.1, (z3.2.2.2.1, ((d4 z3), (d4 z2).2)))))))))))
def c (s_ : Int) (w : (List Int)) (h0_1 h0_2 h0_3 h0_4 h0_5 h0_6 h1_1 h1_3 : Int) (h1_4 : Bool) (h1_5 : Int) (h2 : (List Int)) (h3 : (List Int)) (h4 : (List Int)) : Option XA := (t s_ w h0_1 h0_2 h0_3 h0_4 h0_5 h0_6 h1_1 h1_3 h1_4 h1_5 h2 h3 h4).run
def tl (l : TA) : Tw XA := t l.1.2.1 l.1.2.2.1 l.2.1.2.1 l.2.1.2.2.1 l.2.1.2.2.2.1 (d4 l.2.1).1 (d4 l.2.1).2.1 (d4 l.2.1).2.2.1 l.2.2.1.2.1 l.2.2.1.2.2.2.1 (d4 l.2.2.1).1 (d4 l.2.2.1).2.1 l.2.2.2.1 (d4 l).1 (d4 l).2.1
def pA : Pt := (.cs (.ptr 0 0) (jC (.cs (.sl 3) .nl)))
def pH : Pt := (.cs (.var (.cs (.ptr 1 0) (jC (jC (jC (jC (jC (jC .nl)))))))) (.cs (.var (.cs (.own 2) (jC (.cs (.own 3) (jC (.cs .bool (jC (.cs (.own 4) .nl)))))))) (.cs (.row 3 true) (.cs (.row 1 true) (.cs (.row 3 true) .nl)))))
def v (l : TA) (y : XA) : AV U := jI y.1
def hh (l : TA) (y : XA) : Hp U := [.var [.ptr 1 0, jI l.2.1.2.1, jI l.2.1.2.2.1, jI l.2.1.2.2.2.1, jI (d4 l.2.1).1, jI (d4 l.2.1).2.1, jI (d4 l.2.1).2.2.1], .var [.own 2, jI l.2.2.1.2.1, .own 3, jI y.2.1, jB y.2.2.1, jI y.2.2.2.1, .own 4], .row 3 (d4 y).1 true, .row 1 (d4 y).2 true, .row 3 (d4 l).2.1 true]
def A : AFun U := mkA pA pH (X := XA) (fun l => (tl l).run) sp1 v hh
def body := bodyOf Try.f62
def E : Env U := E0.mk5 [(85, drive_Drive_first.A), (41, drive_Drive_Clean.A), (60, drive_Drive_Write.A)] [] [] [] [85]
theorem hk : HK E Try.f62 [] pA pH tl v hh := fun _ _ _ => by kernel_rfl
theorem og : SoundF Try.prog cc 62 A ∧ FnOK Try.prog 62 :=
 og_of (E := E) P_mixed (E0_ok.mk5 _ _ _ _ _) (gam_of (all_cons drive_Drive_first.og (all_cons drive_Drive_Clean.og (all_cons drive_Drive_Write.og all_nil))) (all_cons (fun _ => drive_Drive_first.keep) (all_cons (no_keep (by kernel_rfl)) (all_cons (no_keep (by kernel_rfl)) all_nil)))) Try.func62 (c := body) (by kernel_rfl)
    (just_by (by kernel_rfl) (by kernel_rfl) all_nil all_nil) [] sp1_ok hk (by kernel_rfl)
end drive_Drive_Fresh

end
end Go.Proofs.Ytkoidgjgdhpdnaa.Va
