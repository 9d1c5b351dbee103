/- The functions of package drive, as plain functions, and that the program computes them. Printed by a program of this work out of the evaluator. -/
import Derived.Test.YtkoidgjgdhpdnaaGreatEn
import Derived.Tactics
import Derived.Test.YtkoidgjgdhpdnaaGreatFflash
import Derived.Test.YtkoidgjgdhpdnaaGreatFgeom
import Derived.Test.YtkoidgjgdhpdnaaGreatFword
set_option linter.unusedVariables false
namespace Go.Proofs.YtkoidgjgdhpdnaaGreat.Va
noncomputable section
open Go
set_option maxRecDepth 100000

/-! instar/drive.New -/
namespace drive_New
abbrev TA : Type := ((Unit × ((Int × (Int × (Int × (Int × (Int × (Int × Unit)))))) × Unit)) × ((Unit × (Int × (Unit × (Int × (Bool × (Int × (Unit × Unit))))))) × ((List Int) × ((List Int) × ((List Int) × Unit)))))
abbrev XA : Type := (Int ⊕ Int)
def t (g_0 g_1 g_2 g_3 g_4 g_5 h0_1 h0_3 : Int) (h0_4 : Bool) (h0_5 : Int) (h1 : (List Int)) (h2 : (List Int)) (h3 : (List Int)) : Tw XA :=
 (.opt (geom_Check.c g_0 g_1 g_2 g_3 g_4 g_5) fun z1 =>
 (.bb (z1 != (0 : Int))
 (.ret (.inr z1))
 (.opt (flash_Flash_Size.c h0_1 h0_3 h0_4 h0_5 h1 h2 h3) fun z2 =>
 (.opt (geom_Sectors.c g_0 g_1 g_2 g_3 g_4 g_5) fun z3 =>
 (.bb (z2 != z3)
 (.ret (.inr (2 : Int)))
 (.bb (h0_1 != g_0)
 (.ret (.inr (2 : Int)))
 (.ret (.inl (0 : Int)))))))))
def c (g_0 g_1 g_2 g_3 g_4 g_5 h0_1 h0_3 : Int) (h0_4 : Bool) (h0_5 : Int) (h1 : (List Int)) (h2 : (List Int)) (h3 : (List Int)) : Option XA := (t g_0 g_1 g_2 g_3 g_4 g_5 h0_1 h0_3 h0_4 h0_5 h1 h2 h3).run
def tl (l : TA) : Tw XA := t l.1.2.1.1 l.1.2.1.2.1 l.1.2.1.2.2.1 l.1.2.1.2.2.2.1 l.1.2.1.2.2.2.2.1 l.1.2.1.2.2.2.2.2.1 l.2.1.2.1 l.2.1.2.2.2.1 l.2.1.2.2.2.2.1 l.2.1.2.2.2.2.2.1 l.2.2.1 l.2.2.2.1 l.2.2.2.2.1
def cl (l : TA) : Option XA := (tl l).run
def pA : Pt := (.cs (.ptr 0 0) (.cs (.agg (jC (jC (jC (jC (jC (jC .nl))))))) .nl))
def pH : Pt := (.cs (.var (.cs (.own 1) (jC (.cs (.own 2) (jC (.cs .bool (jC (.cs (.own 3) .nl)))))))) (.cs (.row 3 true) (.cs (.row 1 true) (.cs (.row 3 true) .nl))))
def v (l : TA) (y : XA) : AV U := (Sum.elim (fun a0 => .tup [.ptr 4 0, jI a0]) (fun b0 => .tup [.im .nilp, jI b0]) y)
def hh (l : TA) (y : XA) : Hp U := (Sum.elim (fun a0 => [.var [.own 1, jI l.2.1.2.1, .own 2, jI l.2.1.2.2.2.1, jB l.2.1.2.2.2.2.1, jI l.2.1.2.2.2.2.2.1, .own 3], .row 3 l.2.2.1 true, .row 1 l.2.2.2.1 true, .row 3 l.2.2.2.2.1 true, .var [.ptr 0 0, jI l.1.2.1.1, jI l.1.2.1.2.1, jI l.1.2.1.2.2.1, jI l.1.2.1.2.2.2.1, jI l.1.2.1.2.2.2.2.1, jI l.1.2.1.2.2.2.2.2.1]]) (fun b0 => [.var [.own 1, jI l.2.1.2.1, .own 2, jI l.2.1.2.2.2.1, jB l.2.1.2.2.2.2.1, jI l.2.1.2.2.2.2.2.1, .own 3], .row 3 l.2.2.1 true, .row 1 l.2.2.2.1 true, .row 3 l.2.2.2.2.1 true]) y)
def A : AFun U := mkA (U := U) pA pH (X := XA) cl (spS sp1) v hh
def body : Code := (Go.Func.body Tryz.f28).getD .skip
def Γ : List (FuncId × AFun U) := [(47, geom_Check.A), (48, flash_Flash_Size.A), (49, geom_Sectors.A)]
def Λ : List (Nat × LFun U) := []
def CT : List (Nat × LFun U) := []
def ro : List FuncId := [48]
def D : Nat → Lv × Lv := dtab []
def E : Env U := { E0 with Γ := Γ, Λ := Λ, C := CT, D := D, ro := ro }
theorem hk (R : Type) (l : TA) (K : AV U → Hp U → Option R) : funcA E Tryz.f28 [] R (pA.mkL l.1) (pH.mkH l.2) K = (tl l).runK fun y => K (v l y) (hh l y) := by kernel_rfl
theorem okF : SoundF Tryz.prog cc 28 (funcA E Tryz.f28 []) :=
  funcA_ok (E := E) P_mixed (E0_ok.with Γ Λ CT D ro) (gam_of (all_cons ⟨geom_Check.ok, geom_Check.fo⟩ (all_cons ⟨flash_Flash_Size.ok, flash_Flash_Size.fo⟩ (all_cons ⟨geom_Sectors.ok, geom_Sectors.fo⟩ all_nil))) (all_cons (no_keep (by kernel_rfl)) (all_cons (fun _ => flash_Flash_Size.keep) (all_cons (no_keep (by kernel_rfl)) all_nil)))) Tryz.func28 (c := body) (by kernel_rfl)
    (just_by (by kernel_rfl) (by kernel_rfl) all_nil all_nil) []
theorem ok : SoundF Tryz.prog cc 28 A :=
  mkA_ok (E := E) (p := pA) (q := pH) (t := tl) (spS_ok sp1_ok) hk okF
theorem fo : FnOK Tryz.prog 28 := ⟨Tryz.f28, Tryz.func28, by kernel_rfl, by kernel_rfl⟩
theorem keep : KeepA A := mkA_keep (U := U) (spS_ok sp1_ok) (fun (l : TA) y => ⟨(hh l y).drop 4, by (cases y with | inl y => kernel_rfl | inr y => kernel_rfl)⟩)
end drive_New

/-! (*instar/drive.Drive).Geometry -/
namespace drive_Drive_Geometry
abbrev TA : Type := ((Unit × Unit) × ((Unit × (Int × (Int × (Int × (Int × (Int × (Int × Unit))))))) × ((Unit × (Int × (Unit × (Int × (Bool × (Int × (Unit × Unit))))))) × ((List Int) × ((List Int) × ((List Int) × Unit))))))
def t (h0_1 h0_2 h0_3 h0_4 h0_5 h0_6 h1_1 h1_3 : Int) (h1_4 : Bool) (h1_5 : Int) (h2 : (List Int)) (h3 : (List Int)) (h4 : (List Int)) : Tw Unit :=
 (.ret ())
def c (h0_1 h0_2 h0_3 h0_4 h0_5 h0_6 h1_1 h1_3 : Int) (h1_4 : Bool) (h1_5 : Int) (h2 : (List Int)) (h3 : (List Int)) (h4 : (List Int)) : Option Unit := (t h0_1 h0_2 h0_3 h0_4 h0_5 h0_6 h1_1 h1_3 h1_4 h1_5 h2 h3 h4).run
def tl (l : TA) : Tw Unit := t l.2.1.2.1 l.2.1.2.2.1 l.2.1.2.2.2.1 l.2.1.2.2.2.2.1 l.2.1.2.2.2.2.2.1 l.2.1.2.2.2.2.2.2.1 l.2.2.1.2.1 l.2.2.1.2.2.2.1 l.2.2.1.2.2.2.2.1 l.2.2.1.2.2.2.2.2.1 l.2.2.2.1 l.2.2.2.2.1 l.2.2.2.2.2.1
def cl (l : TA) : Option Unit := (tl l).run
def pA : Pt := (.cs (.ptr 0 0) .nl)
def pH : Pt := (.cs (.var (.cs (.ptr 1 0) (jC (jC (jC (jC (jC (jC .nl)))))))) (.cs (.var (.cs (.own 2) (jC (.cs (.own 3) (jC (.cs .bool (jC (.cs (.own 4) .nl)))))))) (.cs (.row 3 true) (.cs (.row 1 true) (.cs (.row 3 true) .nl)))))
def v (l : TA) (y : Unit) : AV U := .agg [jI l.2.1.2.1, jI l.2.1.2.2.1, jI l.2.1.2.2.2.1, jI l.2.1.2.2.2.2.1, jI l.2.1.2.2.2.2.2.1, jI l.2.1.2.2.2.2.2.2.1]
def hh (l : TA) (y : Unit) : Hp U := [.var [.ptr 1 0, jI l.2.1.2.1, jI l.2.1.2.2.1, jI l.2.1.2.2.2.1, jI l.2.1.2.2.2.2.1, jI l.2.1.2.2.2.2.2.1, jI l.2.1.2.2.2.2.2.2.1], .var [.own 2, jI l.2.2.1.2.1, .own 3, jI l.2.2.1.2.2.2.1, jB l.2.2.1.2.2.2.2.1, jI l.2.2.1.2.2.2.2.2.1, .own 4], .row 3 l.2.2.2.1 true, .row 1 l.2.2.2.2.1 true, .row 3 l.2.2.2.2.2.1 true]
def A : AFun U := mkA (U := U) pA pH (X := Unit) cl sp1 v hh
def body : Code := (Go.Func.body Tryz.f43).getD .skip
def Γ : List (FuncId × AFun U) := []
def Λ : List (Nat × LFun U) := []
def CT : List (Nat × LFun U) := []
def ro : List FuncId := []
def D : Nat → Lv × Lv := dtab []
def E : Env U := { E0 with Γ := Γ, Λ := Λ, C := CT, D := D, ro := ro }
theorem hk (R : Type) (l : TA) (K : AV U → Hp U → Option R) : funcA E Tryz.f43 [] R (pA.mkL l.1) (pH.mkH l.2) K = (tl l).runK fun y => K (v l y) (hh l y) := by kernel_rfl
theorem okF : SoundF Tryz.prog cc 43 (funcA E Tryz.f43 []) :=
  funcA_ok (E := E) P_mixed (E0_ok.with Γ Λ CT D ro) (gam_of all_nil all_nil) Tryz.func43 (c := body) (by kernel_rfl)
    (just_by (by kernel_rfl) (by kernel_rfl) all_nil all_nil) []
theorem ok : SoundF Tryz.prog cc 43 A :=
  mkA_ok (E := E) (p := pA) (q := pH) (t := tl) sp1_ok hk okF
theorem fo : FnOK Tryz.prog 43 := ⟨Tryz.f43, Tryz.func43, by kernel_rfl, by kernel_rfl⟩
theorem keep : KeepA A := mkA_keep (U := U) sp1_ok (fun (l : TA) y => ⟨(hh l y).drop 5, by kernel_rfl⟩)
end drive_Drive_Geometry

/-! (*instar/drive.Drive).long -/
namespace drive_Drive_long
abbrev TA : Type := ((Unit × Unit) × ((Unit × (Int × (Int × (Int × (Int × (Int × (Int × Unit))))))) × ((Unit × (Int × (Unit × (Int × (Bool × (Int × (Unit × Unit))))))) × ((List Int) × ((List Int) × ((List Int) × Unit))))))
def t (h0_1 h0_2 h0_3 h0_4 h0_5 h0_6 h1_1 h1_3 : Int) (h1_4 : Bool) (h1_5 : Int) (h2 : (List Int)) (h3 : (List Int)) (h4 : (List Int)) : Tw Unit :=
 (.opt (drive_Drive_Geometry.c h0_1 h0_2 h0_3 h0_4 h0_5 h0_6 h1_1 h1_3 h1_4 h1_5 h2 h3 h4) fun z1 =>
 (.ret ()))
def c (h0_1 h0_2 h0_3 h0_4 h0_5 h0_6 h1_1 h1_3 : Int) (h1_4 : Bool) (h1_5 : Int) (h2 : (List Int)) (h3 : (List Int)) (h4 : (List Int)) : Option Unit := (t h0_1 h0_2 h0_3 h0_4 h0_5 h0_6 h1_1 h1_3 h1_4 h1_5 h2 h3 h4).run
def tl (l : TA) : Tw Unit := t l.2.1.2.1 l.2.1.2.2.1 l.2.1.2.2.2.1 l.2.1.2.2.2.2.1 l.2.1.2.2.2.2.2.1 l.2.1.2.2.2.2.2.2.1 l.2.2.1.2.1 l.2.2.1.2.2.2.1 l.2.2.1.2.2.2.2.1 l.2.2.1.2.2.2.2.2.1 l.2.2.2.1 l.2.2.2.2.1 l.2.2.2.2.2.1
def cl (l : TA) : Option Unit := (tl l).run
def pA : Pt := (.cs (.ptr 0 0) .nl)
def pH : Pt := (.cs (.var (.cs (.ptr 1 0) (jC (jC (jC (jC (jC (jC .nl)))))))) (.cs (.var (.cs (.own 2) (jC (.cs (.own 3) (jC (.cs .bool (jC (.cs (.own 4) .nl)))))))) (.cs (.row 3 true) (.cs (.row 1 true) (.cs (.row 3 true) .nl)))))
def v (l : TA) (y : Unit) : AV U := jI l.2.1.2.1
def hh (l : TA) (y : Unit) : Hp U := [.var [.ptr 1 0, jI l.2.1.2.1, jI l.2.1.2.2.1, jI l.2.1.2.2.2.1, jI l.2.1.2.2.2.2.1, jI l.2.1.2.2.2.2.2.1, jI l.2.1.2.2.2.2.2.2.1], .var [.own 2, jI l.2.2.1.2.1, .own 3, jI l.2.2.1.2.2.2.1, jB l.2.2.1.2.2.2.2.1, jI l.2.2.1.2.2.2.2.2.1, .own 4], .row 3 l.2.2.2.1 true, .row 1 l.2.2.2.2.1 true, .row 3 l.2.2.2.2.2.1 true]
def A : AFun U := mkA (U := U) pA pH (X := Unit) cl sp1 v hh
def body : Code := (Go.Func.body Tryz.f84).getD .skip
def Γ : List (FuncId × AFun U) := [(43, drive_Drive_Geometry.A)]
def Λ : List (Nat × LFun U) := []
def CT : List (Nat × LFun U) := []
def ro : List FuncId := [43]
def D : Nat → Lv × Lv := dtab []
def E : Env U := { E0 with Γ := Γ, Λ := Λ, C := CT, D := D, ro := ro }
theorem hk (R : Type) (l : TA) (K : AV U → Hp U → Option R) : funcA E Tryz.f84 [] R (pA.mkL l.1) (pH.mkH l.2) K = (tl l).runK fun y => K (v l y) (hh l y) := by kernel_rfl
theorem okF : SoundF Tryz.prog cc 84 (funcA E Tryz.f84 []) :=
  funcA_ok (E := E) P_mixed (E0_ok.with Γ Λ CT D ro) (gam_of (all_cons ⟨drive_Drive_Geometry.ok, drive_Drive_Geometry.fo⟩ all_nil) (all_cons (fun _ => drive_Drive_Geometry.keep) all_nil)) Tryz.func84 (c := body) (by kernel_rfl)
    (just_by (by kernel_rfl) (by kernel_rfl) all_nil all_nil) []
theorem ok : SoundF Tryz.prog cc 84 A :=
  mkA_ok (E := E) (p := pA) (q := pH) (t := tl) sp1_ok hk okF
theorem fo : FnOK Tryz.prog 84 := ⟨Tryz.f84, Tryz.func84, by kernel_rfl, by kernel_rfl⟩
theorem keep : KeepA A := mkA_keep (U := U) sp1_ok (fun (l : TA) y => ⟨(hh l y).drop 5, by kernel_rfl⟩)
end drive_Drive_long

/-! (*instar/drive.Drive).first -/
namespace drive_Drive_first
abbrev TA : Type := ((Unit × (Int × (Int × (Int × Unit)))) × ((Unit × (Int × (Int × (Int × (Int × (Int × (Int × Unit))))))) × ((Unit × (Int × (Unit × (Int × (Bool × (Int × (Unit × Unit))))))) × ((List Int) × ((List Int) × ((List Int) × Unit))))))
abbrev XA : Type := (Int × Int)
def t (s_ at_ n h0_1 h0_2 h0_3 h0_4 h0_5 h0_6 h1_1 h1_3 : Int) (h1_4 : Bool) (h1_5 : Int) (h2 : (List Int)) (h3 : (List Int)) (h4 : (List Int)) : Tw XA :=
 (.bb (decide (s_ < (0 : Int)))
 (.ret ((0 : Int), (3 : Int)))
 (.opt (geom_Sectors.c h0_1 h0_2 h0_3 h0_4 h0_5 h0_6) fun z1 =>
 (.bb (decide (s_ ≥ z1))
 (.ret ((0 : Int), (3 : Int)))
 (.bb (decide (at_ < (0 : Int)))
 (.ret ((0 : Int), (3 : Int)))
 (.bb (decide (n < (0 : Int)))
 (.ret ((0 : Int), (3 : Int)))
 (.bb (decide (at_ > h0_1))
 (.ret ((0 : Int), (3 : Int)))
 (.bb (decide (n > (w64 (h0_1 - at_))))
 (.ret ((0 : Int), (3 : Int)))
 (.opt (flash_Flash_Gone.c h1_1 h1_3 h1_4 h1_5 h2 h3 h4) fun z2 =>
 (.bb h1_4
 (.ret ((0 : Int), (10 : Int)))
 (.ret ((w64 ((w64 (s_ * h0_1)) + at_)), (0 : Int))))))))))))
def c (s_ at_ n h0_1 h0_2 h0_3 h0_4 h0_5 h0_6 h1_1 h1_3 : Int) (h1_4 : Bool) (h1_5 : Int) (h2 : (List Int)) (h3 : (List Int)) (h4 : (List Int)) : Option XA := (t s_ at_ n h0_1 h0_2 h0_3 h0_4 h0_5 h0_6 h1_1 h1_3 h1_4 h1_5 h2 h3 h4).run
def tl (l : TA) : Tw XA := t l.1.2.1 l.1.2.2.1 l.1.2.2.2.1 l.2.1.2.1 l.2.1.2.2.1 l.2.1.2.2.2.1 l.2.1.2.2.2.2.1 l.2.1.2.2.2.2.2.1 l.2.1.2.2.2.2.2.2.1 l.2.2.1.2.1 l.2.2.1.2.2.2.1 l.2.2.1.2.2.2.2.1 l.2.2.1.2.2.2.2.2.1 l.2.2.2.1 l.2.2.2.2.1 l.2.2.2.2.2.1
def cl (l : TA) : Option XA := (tl l).run
def pA : Pt := (.cs (.ptr 0 0) (jC (jC (jC .nl))))
def pH : Pt := (.cs (.var (.cs (.ptr 1 0) (jC (jC (jC (jC (jC (jC .nl)))))))) (.cs (.var (.cs (.own 2) (jC (.cs (.own 3) (jC (.cs .bool (jC (.cs (.own 4) .nl)))))))) (.cs (.row 3 true) (.cs (.row 1 true) (.cs (.row 3 true) .nl)))))
def v (l : TA) (y : XA) : AV U := .tup [jI y.1, jI y.2]
def hh (l : TA) (y : XA) : Hp U := [.var [.ptr 1 0, jI l.2.1.2.1, jI l.2.1.2.2.1, jI l.2.1.2.2.2.1, jI l.2.1.2.2.2.2.1, jI l.2.1.2.2.2.2.2.1, jI l.2.1.2.2.2.2.2.2.1], .var [.own 2, jI l.2.2.1.2.1, .own 3, jI l.2.2.1.2.2.2.1, jB l.2.2.1.2.2.2.2.1, jI l.2.2.1.2.2.2.2.2.1, .own 4], .row 3 l.2.2.2.1 true, .row 1 l.2.2.2.2.1 true, .row 3 l.2.2.2.2.2.1 true]
def A : AFun U := mkA (U := U) pA pH (X := XA) cl sp1 v hh
def body : Code := (Go.Func.body Tryz.f80).getD .skip
def Γ : List (FuncId × AFun U) := [(49, geom_Sectors.A), (102, flash_Flash_Gone.A)]
def Λ : List (Nat × LFun U) := []
def CT : List (Nat × LFun U) := []
def ro : List FuncId := [102]
def D : Nat → Lv × Lv := dtab []
def E : Env U := { E0 with Γ := Γ, Λ := Λ, C := CT, D := D, ro := ro }
theorem hk (R : Type) (l : TA) (K : AV U → Hp U → Option R) : funcA E Tryz.f80 [] R (pA.mkL l.1) (pH.mkH l.2) K = (tl l).runK fun y => K (v l y) (hh l y) := by kernel_rfl
theorem okF : SoundF Tryz.prog cc 80 (funcA E Tryz.f80 []) :=
  funcA_ok (E := E) P_mixed (E0_ok.with Γ Λ CT D ro) (gam_of (all_cons ⟨geom_Sectors.ok, geom_Sectors.fo⟩ (all_cons ⟨flash_Flash_Gone.ok, flash_Flash_Gone.fo⟩ all_nil)) (all_cons (no_keep (by kernel_rfl)) (all_cons (fun _ => flash_Flash_Gone.keep) all_nil))) Tryz.func80 (c := body) (by kernel_rfl)
    (just_by (by kernel_rfl) (by kernel_rfl) all_nil all_nil) []
theorem ok : SoundF Tryz.prog cc 80 A :=
  mkA_ok (E := E) (p := pA) (q := pH) (t := tl) sp1_ok hk okF
theorem fo : FnOK Tryz.prog 80 := ⟨Tryz.f80, Tryz.func80, by kernel_rfl, by kernel_rfl⟩
theorem keep : KeepA A := mkA_keep (U := U) sp1_ok (fun (l : TA) y => ⟨(hh l y).drop 5, by kernel_rfl⟩)
end drive_Drive_first

/-! (*instar/drive.Drive).Read -/
namespace drive_Drive_Read
abbrev TA : Type := ((Unit × (Int × (Int × (Int × Unit)))) × ((Unit × (Int × (Int × (Int × (Int × (Int × (Int × Unit))))))) × ((Unit × (Int × (Unit × (Int × (Bool × (Int × (Unit × Unit))))))) × ((List Int) × ((List Int) × ((List Int) × Unit))))))
abbrev XA : Type := (Int × (List Int))
abbrev T6 : Type := ((Unit × (Unit × (Int × (Unit × (Unit × (Unit × (Int × (Int × (Unit × Unit))))))))) × ((Unit × (Int × (Int × (Int × (Int × (Int × (Int × Unit))))))) × ((Unit × (Int × (Unit × (Int × (Bool × (Int × (Unit × Unit))))))) × ((List Int) × ((List Int) × ((List Int) × ((List Int) × Unit)))))))
abbrev S6 : Type := (Int × (List Int))
def l6 (a k28 h0_1 h0_2 h0_3 h0_4 h0_5 h0_6 h1_1 h1_3 : Int) (h1_4 : Bool) (h1_5 : Int) (h2 : (List Int)) (h3 : (List Int)) (h4 : (List Int)) (k29 : Int) (h5 : (List Int)) : Tw (S6 ⊕ (List Int)) :=
 (.bb (decide (k29 < k28))
 (.opt (flash_Flash_Read.c (w64 (a + k29)) h1_1 h1_3 h1_4 h1_5 h2 h3 h4) fun z2 =>
 (.dd ((((0 : Int) ≤ k29) ∧ (k29 < (((List.length h5) : Nat) : Int)))) inferInstance
 (.opt (h5)[(Int.toNat k29)]? fun z3 =>
 (.ret (.inl ((w64 (k29 + (1 : Int))), (List.set h5 (Int.toNat k29) z2.1)))))
 .no))
 (.ret (.inr h5)))
def L6 (a k28 k29 h0_1 h0_2 h0_3 h0_4 h0_5 h0_6 h1_1 h1_3 : Int) (h1_4 : Bool) (h1_5 : Int) (h2 : (List Int)) (h3 : (List Int)) (h4 : (List Int)) (h5 : (List Int)) : Option (List Int) := Lp (fun s => (l6 a k28 h0_1 h0_2 h0_3 h0_4 h0_5 h0_6 h1_1 h1_3 h1_4 h1_5 h2 h3 h4 s.1 s.2).run) (k29, h5)
def p6 : Pt := (.cs (.ptr 0 0) (.cs (.bots 9) (jC (.cs (.bots 1) (.cs (.own 5) (.cs (.bots 15) (jC (jC (.cs (.bots 18) .nl)))))))))
def q6 : Pt := (.cs (.var (.cs (.ptr 1 0) (jC (jC (jC (jC (jC (jC .nl)))))))) (.cs (.var (.cs (.own 2) (jC (.cs (.own 3) (jC (.cs .bool (jC (.cs (.own 4) .nl)))))))) (.cs (.row 3 true) (.cs (.row 1 true) (.cs (.row 3 true) (.cs (.row 3 true) .nl))))))
def ou6 (l : T6) (y : (List Int)) : Ex × St U := (.exit 0, stOf 48 [(0, .ptr 0 0), (12, .own 5)] [.var [.ptr 1 0, jI l.2.1.2.1, jI l.2.1.2.2.1, jI l.2.1.2.2.2.1, jI l.2.1.2.2.2.2.1, jI l.2.1.2.2.2.2.2.1, jI l.2.1.2.2.2.2.2.2.1], .var [.own 2, jI l.2.2.1.2.1, .own 3, jI l.2.2.1.2.2.2.1, jB l.2.2.1.2.2.2.2.1, jI l.2.2.1.2.2.2.2.2.1, .own 4], .row 3 l.2.2.2.1 true, .row 1 l.2.2.2.2.1 true, .row 3 l.2.2.2.2.2.1 true, .row 3 y true] 5)
def Λ6 : LFun U := mkLp (U := U) p6 q6 5 (X := (List Int)) (fun (l : T6) => L6 l.1.2.2.1 l.1.2.2.2.2.2.2.1 l.1.2.2.2.2.2.2.2.1 l.2.1.2.1 l.2.1.2.2.1 l.2.1.2.2.2.1 l.2.1.2.2.2.2.1 l.2.1.2.2.2.2.2.1 l.2.1.2.2.2.2.2.2.1 l.2.2.1.2.1 l.2.2.1.2.2.2.1 l.2.2.1.2.2.2.2.1 l.2.2.1.2.2.2.2.2.1 l.2.2.2.1 l.2.2.2.2.1 l.2.2.2.2.2.1 l.2.2.2.2.2.2.1) sp1 ou6
def hd6 (l : T6) (s : S6) : T6 := (((), ((), (l.1.2.2.1, ((), ((), ((), (l.1.2.2.2.2.2.2.1, (s.1, ((), ()))))))))), (((), (l.2.1.2.1, (l.2.1.2.2.1, (l.2.1.2.2.2.1, (l.2.1.2.2.2.2.1, (l.2.1.2.2.2.2.2.1, (l.2.1.2.2.2.2.2.2.1, ()))))))), (((), (l.2.2.1.2.1, ((), (l.2.2.1.2.2.2.1, (l.2.2.1.2.2.2.2.1, (l.2.2.1.2.2.2.2.2.1, ((), ()))))))), (l.2.2.2.1, (l.2.2.2.2.1, (l.2.2.2.2.2.1, (s.2, ())))))))
def fl6 (l : T6) (s : S6) : Tw (S6 ⊕ (List Int)) := l6 l.1.2.2.1 l.1.2.2.2.2.2.2.1 l.2.1.2.1 l.2.1.2.2.1 l.2.1.2.2.2.1 l.2.1.2.2.2.2.1 l.2.1.2.2.2.2.2.1 l.2.1.2.2.2.2.2.2.1 l.2.2.1.2.1 l.2.2.1.2.2.2.1 l.2.2.1.2.2.2.2.1 l.2.2.1.2.2.2.2.2.1 l.2.2.2.1 l.2.2.2.2.1 l.2.2.2.2.2.1 s.1 s.2
def t (s_ at_ n h0_1 h0_2 h0_3 h0_4 h0_5 h0_6 h1_1 h1_3 : Int) (h1_4 : Bool) (h1_5 : Int) (h2 : (List Int)) (h3 : (List Int)) (h4 : (List Int)) : Tw XA :=
 (.opt (drive_Drive_first.c s_ at_ n h0_1 h0_2 h0_3 h0_4 h0_5 h0_6 h1_1 h1_3 h1_4 h1_5 h2 h3 h4) fun z1 =>
 (.bb (z1.2 != (0 : Int))
 (.ret (z1.2, ([] : List (Int))))
 (.dd ((((0 : Int) ≤ n) ∧ ((n ≤ n) ∧ ((n ≤ (140737488355328 : Int)) ∧ ((n * (((4 : Nat) : Nat) : Int)) ≤ (140737488355328 : Int)))))) inferInstance
 (.opt (L6 z1.1 (((List.length (List.replicate (Int.toNat n) (0 : Int))) : Nat) : Int) (0 : Int) h0_1 h0_2 h0_3 h0_4 h0_5 h0_6 h1_1 h1_3 h1_4 h1_5 h2 h3 h4 (List.replicate (Int.toNat n) (0 : Int))) fun z4 =>
 (.ret ((0 : Int), z4)))
 .no)))
def c (s_ at_ n h0_1 h0_2 h0_3 h0_4 h0_5 h0_6 h1_1 h1_3 : Int) (h1_4 : Bool) (h1_5 : Int) (h2 : (List Int)) (h3 : (List Int)) (h4 : (List Int)) : Option XA := (t s_ at_ n h0_1 h0_2 h0_3 h0_4 h0_5 h0_6 h1_1 h1_3 h1_4 h1_5 h2 h3 h4).run
def tl (l : TA) : Tw XA := t l.1.2.1 l.1.2.2.1 l.1.2.2.2.1 l.2.1.2.1 l.2.1.2.2.1 l.2.1.2.2.2.1 l.2.1.2.2.2.2.1 l.2.1.2.2.2.2.2.1 l.2.1.2.2.2.2.2.2.1 l.2.2.1.2.1 l.2.2.1.2.2.2.1 l.2.2.1.2.2.2.2.1 l.2.2.1.2.2.2.2.2.1 l.2.2.2.1 l.2.2.2.2.1 l.2.2.2.2.2.1
def cl (l : TA) : Option XA := (tl l).run
def pA : Pt := (.cs (.ptr 0 0) (jC (jC (jC .nl))))
def pH : Pt := (.cs (.var (.cs (.ptr 1 0) (jC (jC (jC (jC (jC (jC .nl)))))))) (.cs (.var (.cs (.own 2) (jC (.cs (.own 3) (jC (.cs .bool (jC (.cs (.own 4) .nl)))))))) (.cs (.row 3 true) (.cs (.row 1 true) (.cs (.row 3 true) .nl)))))
def v (l : TA) (y : XA) : AV U := .tup [.own 5, jI y.1]
def hh (l : TA) (y : XA) : Hp U := [.var [.ptr 1 0, jI l.2.1.2.1, jI l.2.1.2.2.1, jI l.2.1.2.2.2.1, jI l.2.1.2.2.2.2.1, jI l.2.1.2.2.2.2.2.1, jI l.2.1.2.2.2.2.2.2.1], .var [.own 2, jI l.2.2.1.2.1, .own 3, jI l.2.2.1.2.2.2.1, jB l.2.2.1.2.2.2.2.1, jI l.2.2.1.2.2.2.2.2.1, .own 4], .row 3 l.2.2.2.1 true, .row 1 l.2.2.2.2.1 true, .row 3 l.2.2.2.2.2.1 true, .row 3 y.2 true]
def A : AFun U := mkA (U := U) pA pH (X := XA) cl sp1 v hh
def body : Code := (Go.Func.body Tryz.f60).getD .skip
def Γ : List (FuncId × AFun U) := [(80, drive_Drive_first.A), (81, flash_Flash_Read.A)]
def Λ : List (Nat × LFun U) := [(6, Λ6)]
def CT : List (Nat × LFun U) := []
def ro : List FuncId := [80, 81]
def D : Nat → Lv × Lv := dtab [(6, ⟨[29, 10, 0, 12, 28], []⟩, ⟨[8, 9, 0, 12], []⟩)]
def E : Env U := { E0 with Γ := Γ, Λ := Λ, C := CT, D := D, ro := ro }
theorem hf6 (R : Type) (l : T6) (s : S6) (K : Ex → St U → Option R) : codeA E (pick (loopsOf body) 6) ⟨p6.mkL (hd6 l s).1, q6.mkH (hd6 l s).2, 5⟩ (roundK E (pick (loopsOf body) 6) K) =
  (fl6 l s).runK (lpK K (fun s => ⟨p6.mkL (hd6 l s).1, q6.mkH (hd6 l s).2, 5⟩) sp1 (ou6 l)) := by kernel_rfl
theorem lk6 (R : Type) (st : St U) (K : Ex → St U → Option R) (r : R) (h : Λ6 R st K = some r) : ∃ n, loopA E (pick (loopsOf body) 6) n st K = some r :=
  lp_ok (U := U) (E := E) (b := pick (loopsOf body) 6) (m := 5) (sp := sp1) (p := p6) (q := q6) (X := (List Int)) (S := S6) (f := fl6) (hd := hd6) (s0 := fun (l : T6) => (l.1.2.2.2.2.2.2.2.1, l.2.2.2.2.2.2.1)) (ou := ou6)
    (fun l => rfl) (fun l x => by rfl) sp1_ok hf6 h
theorem hk (R : Type) (l : TA) (K : AV U → Hp U → Option R) : funcA E Tryz.f60 [(0, [], .own 3)] R (pA.mkL l.1) (pH.mkH l.2) K = (tl l).runK fun y => K (v l y) (hh l y) := by kernel_rfl
theorem okF : SoundF Tryz.prog cc 60 (funcA E Tryz.f60 [(0, [], .own 3)]) :=
  funcA_ok (E := E) P_mixed (E0_ok.with Γ Λ CT D ro) (gam_of (all_cons ⟨drive_Drive_first.ok, drive_Drive_first.fo⟩ (all_cons ⟨flash_Flash_Read.ok, flash_Flash_Read.fo⟩ all_nil)) (all_cons (fun _ => drive_Drive_first.keep) (all_cons (fun _ => flash_Flash_Read.keep) all_nil))) Tryz.func60 (c := body) (by kernel_rfl)
    (just_by (by kernel_rfl) (by kernel_rfl) (all_cons lk6 all_nil) all_nil) [(0, [], .own 3)]
theorem ok : SoundF Tryz.prog cc 60 A :=
  mkA_ok (E := E) (p := pA) (q := pH) (t := tl) sp1_ok hk okF
theorem fo : FnOK Tryz.prog 60 := ⟨Tryz.f60, Tryz.func60, by kernel_rfl, by kernel_rfl⟩
theorem keep : KeepA A := mkA_keep (U := U) sp1_ok (fun (l : TA) y => ⟨(hh l y).drop 5, by kernel_rfl⟩)
end drive_Drive_Read

/-! (*instar/drive.Drive).Blank$1 -/
namespace drive_Drive_Blank_1
abbrev TA : Type := ((Int × Unit) × Unit)
def t (x : Int) : Tw Bool :=
 (.ret (x != (4294967295 : Int)))
def c (x : Int) : Option Bool := (t x).run
def tl (l : TA) : Tw Bool := t l.1.1
def cl (l : TA) : Option Bool := (tl l).run
def pA : Pt := (.cs (.int .u32) .nl)
def pH : Pt := .nl
def v (l : TA) (y : Bool) : AV U := jB y
def hh (l : TA) (y : Bool) : Hp U := []
def A : AFun U := mkA (U := U) pA pH (X := Bool) cl sp1 v hh
def body : Code := (Go.Func.body Tryz.f86).getD .skip
def Γ : List (FuncId × AFun U) := []
def Λ : List (Nat × LFun U) := []
def CT : List (Nat × LFun U) := []
def ro : List FuncId := []
def D : Nat → Lv × Lv := dtab []
def E : Env U := { E0 with Γ := Γ, Λ := Λ, C := CT, D := D, ro := ro }
theorem hk (R : Type) (l : TA) (K : AV U → Hp U → Option R) : funcA E Tryz.f86 [] R (pA.mkL l.1) (pH.mkH l.2) K = (tl l).runK fun y => K (v l y) (hh l y) := by kernel_rfl
theorem okF : SoundF Tryz.prog cc 86 (funcA E Tryz.f86 []) :=
  funcA_ok (E := E) P_mixed (E0_ok.with Γ Λ CT D ro) (gam_of all_nil all_nil) Tryz.func86 (c := body) (by kernel_rfl)
    (just_by (by kernel_rfl) (by kernel_rfl) all_nil all_nil) []
theorem ok : SoundF Tryz.prog cc 86 A :=
  mkA_ok (E := E) (p := pA) (q := pH) (t := tl) sp1_ok hk okF
theorem fo : FnOK Tryz.prog 86 := ⟨Tryz.f86, Tryz.func86, by kernel_rfl, by kernel_rfl⟩
theorem keep : KeepA A := mkA_keep (U := U) sp1_ok (fun (l : TA) y => ⟨(hh l y).drop 0, by kernel_rfl⟩)
end drive_Drive_Blank_1

/-! slices.IndexFunc[[]uint32,uint32] -/
namespace slices_IndexFunc__uint32uint32_of_drive_Drive_Blank_1
abbrev TA : Type := (((List Int) × (Unit × Unit)) × Unit)
abbrev T2 : Type := (((List Int) × (Unit × (Unit × (Int × (Int × (Unit × Unit)))))) × Unit)
abbrev X2 : Type := (Unit ⊕ Int)
def l2 (s_ : (List Int)) (k7 k8 : Int) : Tw (Int ⊕ X2) :=
 (.bb (decide (k8 < k7))
 (.dd (((0 : Int) ≤ k8)) inferInstance
 (.opt (s_)[(Int.toNat k8)]? fun z1 =>
 (.opt (drive_Drive_Blank_1.c z1) fun z2 =>
 (.bb z2
 (.ret (.inr (.inr k8)))
 (.ret (.inl (w64 (k8 + (1 : Int))))))))
 .no)
 (.ret (.inr (.inl ()))))
def L2 (s_ : (List Int)) (k7 k8 : Int) : Option X2 := Lp (fun s => (l2 s_ k7 s).run) k8
def p2 : Pt := (.cs (.sl 3) (.cs (.clo 86 .nl) (.cs (.bots 5) (jC (jC (.cs (.bots 10) .nl))))))
def q2 : Pt := .nl
def ou2 (l : T2) (y : X2) : Ex × St U := (Sum.elim (fun a0 => (.exit 0, stOf 19 [] [] 0)) (fun b0 => (.ret, stOf 19 [(4, jI b0)] [] 0)) y)
def Λ2 : LFun U := mkLp (U := U) p2 q2 0 (X := X2) (fun (l : T2) => L2 l.1.1 l.1.2.2.2.1 l.1.2.2.2.2.1) (spS sp1) ou2
def hd2 (l : T2) (s : Int) : T2 := ((l.1.1, ((), ((), (l.1.2.2.2.1, (s, ((), ())))))), ())
def fl2 (l : T2) (s : Int) : Tw (Int ⊕ X2) := l2 l.1.1 l.1.2.2.2.1 s
def t (s_ : (List Int)) : Tw Int :=
 (.opt (L2 s_ (((List.length s_) : Nat) : Int) (0 : Int)) fun z3 =>
 (.sm z3
 (fun z4 => (.ret (-(1 : Int))))
 (fun z5 => (.ret z5))))
def c (s_ : (List Int)) : Option Int := (t s_).run
def tl (l : TA) : Tw Int := t l.1.1
def cl (l : TA) : Option Int := (tl l).run
def pA : Pt := (.cs (.sl 3) (.cs (.clo 86 .nl) .nl))
def pH : Pt := .nl
def v (l : TA) (y : Int) : AV U := jI y
def hh (l : TA) (y : Int) : Hp U := []
def A : AFun U := mkA (U := U) pA pH (X := Int) cl sp1 v hh
def body : Code := (Go.Func.body Tryz.f105).getD .skip
def Γ : List (FuncId × AFun U) := [(86, drive_Drive_Blank_1.A)]
def Λ : List (Nat × LFun U) := [(2, Λ2)]
def CT : List (Nat × LFun U) := []
def ro : List FuncId := []
def D : Nat → Lv × Lv := dtab [(2, ⟨[8, 0, 1, 7], []⟩, ⟨[4], []⟩)]
def E : Env U := { E0 with Γ := Γ, Λ := Λ, C := CT, D := D, ro := ro }
theorem hf2 (R : Type) (l : T2) (s : Int) (K : Ex → St U → Option R) : codeA E (pick (loopsOf body) 2) ⟨p2.mkL (hd2 l s).1, q2.mkH (hd2 l s).2, 0⟩ (roundK E (pick (loopsOf body) 2) K) =
  (fl2 l s).runK (lpK K (fun s => ⟨p2.mkL (hd2 l s).1, q2.mkH (hd2 l s).2, 0⟩) (spS sp1) (ou2 l)) := by kernel_rfl
theorem lk2 (R : Type) (st : St U) (K : Ex → St U → Option R) (r : R) (h : Λ2 R st K = some r) : ∃ n, loopA E (pick (loopsOf body) 2) n st K = some r :=
  lp_ok (U := U) (E := E) (b := pick (loopsOf body) 2) (m := 0) (sp := (spS sp1)) (p := p2) (q := q2) (X := X2) (S := Int) (f := fl2) (hd := hd2) (s0 := fun (l : T2) => l.1.2.2.2.2.1) (ou := ou2)
    (fun l => rfl) (fun l x => by repeat' (first | rfl | (cases x with | inl => rfl | inr x => ?_))) (spS_ok sp1_ok) hf2 h
theorem hk (R : Type) (l : TA) (K : AV U → Hp U → Option R) : funcA E Tryz.f105 [] R (pA.mkL l.1) (pH.mkH l.2) K = (tl l).runK fun y => K (v l y) (hh l y) := by kernel_rfl
theorem okF : SoundF Tryz.prog cc 105 (funcA E Tryz.f105 []) :=
  funcA_ok (E := E) P_mixed (E0_ok.with Γ Λ CT D ro) (gam_of (all_cons ⟨drive_Drive_Blank_1.ok, drive_Drive_Blank_1.fo⟩ all_nil) no_ro) Tryz.func105 (c := body) (by kernel_rfl)
    (just_by (by kernel_rfl) (by kernel_rfl) (all_cons lk2 all_nil) all_nil) []
theorem ok : SoundF Tryz.prog cc 105 A :=
  mkA_ok (E := E) (p := pA) (q := pH) (t := tl) sp1_ok hk okF
theorem fo : FnOK Tryz.prog 105 := ⟨Tryz.f105, Tryz.func105, by kernel_rfl, by kernel_rfl⟩
theorem keep : KeepA A := mkA_keep (U := U) sp1_ok (fun (l : TA) y => ⟨(hh l y).drop 0, by kernel_rfl⟩)
end slices_IndexFunc__uint32uint32_of_drive_Drive_Blank_1

/-! slices.ContainsFunc[[]uint32,uint32] -/
namespace slices_ContainsFunc__uint32uint32_of_drive_Drive_Blank_1
abbrev TA : Type := (((List Int) × (Unit × Unit)) × Unit)
def t (s_ : (List Int)) : Tw Bool :=
 (.opt (slices_IndexFunc__uint32uint32_of_drive_Drive_Blank_1.c s_) fun z1 =>
 (.ret (decide (z1 ≥ (0 : Int)))))
def c (s_ : (List Int)) : Option Bool := (t s_).run
def tl (l : TA) : Tw Bool := t l.1.1
def cl (l : TA) : Option Bool := (tl l).run
def pA : Pt := (.cs (.sl 3) (.cs (.clo 86 .nl) .nl))
def pH : Pt := .nl
def v (l : TA) (y : Bool) : AV U := jB y
def hh (l : TA) (y : Bool) : Hp U := []
def A : AFun U := mkA (U := U) pA pH (X := Bool) cl sp1 v hh
def body : Code := (Go.Func.body Tryz.f85).getD .skip
def Γ : List (FuncId × AFun U) := [(105, slices_IndexFunc__uint32uint32_of_drive_Drive_Blank_1.A)]
def Λ : List (Nat × LFun U) := []
def CT : List (Nat × LFun U) := []
def ro : List FuncId := []
def D : Nat → Lv × Lv := dtab []
def E : Env U := { E0 with Γ := Γ, Λ := Λ, C := CT, D := D, ro := ro }
theorem hk (R : Type) (l : TA) (K : AV U → Hp U → Option R) : funcA E Tryz.f85 [] R (pA.mkL l.1) (pH.mkH l.2) K = (tl l).runK fun y => K (v l y) (hh l y) := by kernel_rfl
theorem okF : SoundF Tryz.prog cc 85 (funcA E Tryz.f85 []) :=
  funcA_ok (E := E) P_mixed (E0_ok.with Γ Λ CT D ro) (gam_of (all_cons ⟨slices_IndexFunc__uint32uint32_of_drive_Drive_Blank_1.ok, slices_IndexFunc__uint32uint32_of_drive_Drive_Blank_1.fo⟩ all_nil) no_ro) Tryz.func85 (c := body) (by kernel_rfl)
    (just_by (by kernel_rfl) (by kernel_rfl) all_nil all_nil) []
theorem ok : SoundF Tryz.prog cc 85 A :=
  mkA_ok (E := E) (p := pA) (q := pH) (t := tl) sp1_ok hk okF
theorem fo : FnOK Tryz.prog 85 := ⟨Tryz.f85, Tryz.func85, by kernel_rfl, by kernel_rfl⟩
theorem keep : KeepA A := mkA_keep (U := U) sp1_ok (fun (l : TA) y => ⟨(hh l y).drop 0, by kernel_rfl⟩)
end slices_ContainsFunc__uint32uint32_of_drive_Drive_Blank_1

/-! (*instar/drive.Drive).Blank -/
namespace drive_Drive_Blank
abbrev TA : Type := ((Unit × (Int × (Int × Unit))) × ((Unit × (Int × (Int × (Int × (Int × (Int × (Int × Unit))))))) × ((Unit × (Int × (Unit × (Int × (Bool × (Int × (Unit × Unit))))))) × ((List Int) × ((List Int) × ((List Int) × Unit))))))
abbrev XA : Type := (Bool × Int)
def t (s_ at_ h0_1 h0_2 h0_3 h0_4 h0_5 h0_6 h1_1 h1_3 : Int) (h1_4 : Bool) (h1_5 : Int) (h2 : (List Int)) (h3 : (List Int)) (h4 : (List Int)) : Tw XA :=
 (.opt (drive_Drive_long.c h0_1 h0_2 h0_3 h0_4 h0_5 h0_6 h1_1 h1_3 h1_4 h1_5 h2 h3 h4) fun z1 =>
 (.opt (drive_Drive_Read.c s_ at_ (imax (w64 (h0_1 - (imax at_ (0 : Int)))) (0 : Int)) h0_1 h0_2 h0_3 h0_4 h0_5 h0_6 h1_1 h1_3 h1_4 h1_5 h2 h3 h4) fun z2 =>
 (.bb (z2.1 != (0 : Int))
 (.ret (false, z2.1))
 (.opt (slices_ContainsFunc__uint32uint32_of_drive_Drive_Blank_1.c z2.2) fun z3 =>
 (.ret ((!z3), (0 : Int)))))))
def c (s_ at_ h0_1 h0_2 h0_3 h0_4 h0_5 h0_6 h1_1 h1_3 : Int) (h1_4 : Bool) (h1_5 : Int) (h2 : (List Int)) (h3 : (List Int)) (h4 : (List Int)) : Option XA := (t s_ at_ h0_1 h0_2 h0_3 h0_4 h0_5 h0_6 h1_1 h1_3 h1_4 h1_5 h2 h3 h4).run
def tl (l : TA) : Tw XA := t l.1.2.1 l.1.2.2.1 l.2.1.2.1 l.2.1.2.2.1 l.2.1.2.2.2.1 l.2.1.2.2.2.2.1 l.2.1.2.2.2.2.2.1 l.2.1.2.2.2.2.2.2.1 l.2.2.1.2.1 l.2.2.1.2.2.2.1 l.2.2.1.2.2.2.2.1 l.2.2.1.2.2.2.2.2.1 l.2.2.2.1 l.2.2.2.2.1 l.2.2.2.2.2.1
def cl (l : TA) : Option XA := (tl l).run
def pA : Pt := (.cs (.ptr 0 0) (jC (jC .nl)))
def pH : Pt := (.cs (.var (.cs (.ptr 1 0) (jC (jC (jC (jC (jC (jC .nl)))))))) (.cs (.var (.cs (.own 2) (jC (.cs (.own 3) (jC (.cs .bool (jC (.cs (.own 4) .nl)))))))) (.cs (.row 3 true) (.cs (.row 1 true) (.cs (.row 3 true) .nl)))))
def v (l : TA) (y : XA) : AV U := .tup [jB y.1, jI y.2]
def hh (l : TA) (y : XA) : Hp U := [.var [.ptr 1 0, jI l.2.1.2.1, jI l.2.1.2.2.1, jI l.2.1.2.2.2.1, jI l.2.1.2.2.2.2.1, jI l.2.1.2.2.2.2.2.1, jI l.2.1.2.2.2.2.2.2.1], .var [.own 2, jI l.2.2.1.2.1, .own 3, jI l.2.2.1.2.2.2.1, jB l.2.2.1.2.2.2.2.1, jI l.2.2.1.2.2.2.2.2.1, .own 4], .row 3 l.2.2.2.1 true, .row 1 l.2.2.2.2.1 true, .row 3 l.2.2.2.2.2.1 true]
def A : AFun U := mkA (U := U) pA pH (X := XA) cl sp1 v hh
def body : Code := (Go.Func.body Tryz.f63).getD .skip
def Γ : List (FuncId × AFun U) := [(84, drive_Drive_long.A), (60, drive_Drive_Read.A), (85, slices_ContainsFunc__uint32uint32_of_drive_Drive_Blank_1.A)]
def Λ : List (Nat × LFun U) := []
def CT : List (Nat × LFun U) := []
def ro : List FuncId := [84, 60]
def D : Nat → Lv × Lv := dtab []
def E : Env U := { E0 with Γ := Γ, Λ := Λ, C := CT, D := D, ro := ro }
theorem hk (R : Type) (l : TA) (K : AV U → Hp U → Option R) : funcA E Tryz.f63 [] R (pA.mkL l.1) (pH.mkH l.2) K = (tl l).runK fun y => K (v l y) (hh l y) := by kernel_rfl
theorem okF : SoundF Tryz.prog cc 63 (funcA E Tryz.f63 []) :=
  funcA_ok (E := E) P_mixed (E0_ok.with Γ Λ CT D ro) (gam_of (all_cons ⟨drive_Drive_long.ok, drive_Drive_long.fo⟩ (all_cons ⟨drive_Drive_Read.ok, drive_Drive_Read.fo⟩ (all_cons ⟨slices_ContainsFunc__uint32uint32_of_drive_Drive_Blank_1.ok, slices_ContainsFunc__uint32uint32_of_drive_Drive_Blank_1.fo⟩ all_nil))) (all_cons (fun _ => drive_Drive_long.keep) (all_cons (fun _ => drive_Drive_Read.keep) (all_cons (no_keep (by kernel_rfl)) all_nil)))) Tryz.func63 (c := body) (by kernel_rfl)
    (just_by (by kernel_rfl) (by kernel_rfl) all_nil all_nil) []
theorem ok : SoundF Tryz.prog cc 63 A :=
  mkA_ok (E := E) (p := pA) (q := pH) (t := tl) sp1_ok hk okF
theorem fo : FnOK Tryz.prog 63 := ⟨Tryz.f63, Tryz.func63, by kernel_rfl, by kernel_rfl⟩
theorem keep : KeepA A := mkA_keep (U := U) sp1_ok (fun (l : TA) y => ⟨(hh l y).drop 5, by kernel_rfl⟩)
end drive_Drive_Blank

/-! (*instar/drive.Drive).Clean -/
namespace drive_Drive_Clean
abbrev TA : Type := ((Unit × (Int × Unit)) × ((Unit × (Int × (Int × (Int × (Int × (Int × (Int × Unit))))))) × ((Unit × (Int × (Unit × (Int × (Bool × (Int × (Unit × Unit))))))) × ((List Int) × ((List Int) × ((List Int) × Unit))))))
abbrev XA : Type := (Int × (Int × (Bool × (Int × ((List Int) × (List Int))))))
def t (s_ h0_1 h0_2 h0_3 h0_4 h0_5 h0_6 h1_1 h1_3 : Int) (h1_4 : Bool) (h1_5 : Int) (h2 : (List Int)) (h3 : (List Int)) (h4 : (List Int)) : Tw XA :=
 (.opt (drive_Drive_Blank.c s_ (0 : Int) h0_1 h0_2 h0_3 h0_4 h0_5 h0_6 h1_1 h1_3 h1_4 h1_5 h2 h3 h4) fun z1 =>
 (.bb (z1.2 != (0 : Int))
 (.ret (z1.2, (h1_3, (h1_4, (h1_5, (h2, h3))))))
 (.bb z1.1
 (.ret (z1.2, (h1_3, (h1_4, (h1_5, (h2, h3))))))
 (.opt (flash_Flash_Erase.c s_ h1_1 h1_3 h1_4 h1_5 h2 h3 h4) fun z2 =>
 (.ret (z2.1, (z2.2.1, (z2.2.2.1, (z2.2.2.2.1, (z2.2.2.2.2.1, z2.2.2.2.2.2))))))))))
def c (s_ h0_1 h0_2 h0_3 h0_4 h0_5 h0_6 h1_1 h1_3 : Int) (h1_4 : Bool) (h1_5 : Int) (h2 : (List Int)) (h3 : (List Int)) (h4 : (List Int)) : Option XA := (t s_ h0_1 h0_2 h0_3 h0_4 h0_5 h0_6 h1_1 h1_3 h1_4 h1_5 h2 h3 h4).run
def tl (l : TA) : Tw XA := t l.1.2.1 l.2.1.2.1 l.2.1.2.2.1 l.2.1.2.2.2.1 l.2.1.2.2.2.2.1 l.2.1.2.2.2.2.2.1 l.2.1.2.2.2.2.2.2.1 l.2.2.1.2.1 l.2.2.1.2.2.2.1 l.2.2.1.2.2.2.2.1 l.2.2.1.2.2.2.2.2.1 l.2.2.2.1 l.2.2.2.2.1 l.2.2.2.2.2.1
def cl (l : TA) : Option XA := (tl l).run
def pA : Pt := (.cs (.ptr 0 0) (jC .nl))
def pH : Pt := (.cs (.var (.cs (.ptr 1 0) (jC (jC (jC (jC (jC (jC .nl)))))))) (.cs (.var (.cs (.own 2) (jC (.cs (.own 3) (jC (.cs .bool (jC (.cs (.own 4) .nl)))))))) (.cs (.row 3 true) (.cs (.row 1 true) (.cs (.row 3 true) .nl)))))
def v (l : TA) (y : XA) : AV U := jI y.1
def hh (l : TA) (y : XA) : Hp U := [.var [.ptr 1 0, jI l.2.1.2.1, jI l.2.1.2.2.1, jI l.2.1.2.2.2.1, jI l.2.1.2.2.2.2.1, jI l.2.1.2.2.2.2.2.1, jI l.2.1.2.2.2.2.2.2.1], .var [.own 2, jI l.2.2.1.2.1, .own 3, jI y.2.1, jB y.2.2.1, jI y.2.2.2.1, .own 4], .row 3 y.2.2.2.2.1 true, .row 1 y.2.2.2.2.2 true, .row 3 l.2.2.2.2.2.1 true]
def A : AFun U := mkA (U := U) pA pH (X := XA) cl sp1 v hh
def body : Code := (Go.Func.body Tryz.f50).getD .skip
def Γ : List (FuncId × AFun U) := [(63, drive_Drive_Blank.A), (69, flash_Flash_Erase.A)]
def Λ : List (Nat × LFun U) := []
def CT : List (Nat × LFun U) := []
def ro : List FuncId := []
def D : Nat → Lv × Lv := dtab []
def E : Env U := { E0 with Γ := Γ, Λ := Λ, C := CT, D := D, ro := ro }
theorem hk (R : Type) (l : TA) (K : AV U → Hp U → Option R) : funcA E Tryz.f50 [] R (pA.mkL l.1) (pH.mkH l.2) K = (tl l).runK fun y => K (v l y) (hh l y) := by kernel_rfl
theorem okF : SoundF Tryz.prog cc 50 (funcA E Tryz.f50 []) :=
  funcA_ok (E := E) P_mixed (E0_ok.with Γ Λ CT D ro) (gam_of (all_cons ⟨drive_Drive_Blank.ok, drive_Drive_Blank.fo⟩ (all_cons ⟨flash_Flash_Erase.ok, flash_Flash_Erase.fo⟩ all_nil)) no_ro) Tryz.func50 (c := body) (by kernel_rfl)
    (just_by (by kernel_rfl) (by kernel_rfl) all_nil all_nil) []
theorem ok : SoundF Tryz.prog cc 50 A :=
  mkA_ok (E := E) (p := pA) (q := pH) (t := tl) sp1_ok hk okF
theorem fo : FnOK Tryz.prog 50 := ⟨Tryz.f50, Tryz.func50, by kernel_rfl, by kernel_rfl⟩
end drive_Drive_Clean

/-! (*instar/drive.Drive).Write -/
namespace drive_Drive_Write
abbrev TA : Type := ((Unit × (Int × (Int × ((List Int) × Unit)))) × ((Unit × (Int × (Int × (Int × (Int × (Int × (Int × Unit))))))) × ((Unit × (Int × (Unit × (Int × (Bool × (Int × (Unit × Unit))))))) × ((List Int) × ((List Int) × ((List Int) × Unit))))))
abbrev XA : Type := (Int × (Int × (Bool × (Int × (List Int)))))
abbrev T5 : Type := ((Unit × (Int × (Int × ((List Int) × (Unit × (Unit × (Unit × ((List Int) × (Int × (Int × (Unit × Unit))))))))))) × ((Unit × (Int × (Int × (Int × (Int × (Int × (Int × Unit))))))) × ((Unit × (Int × (Unit × (Int × (Bool × (Int × (Unit × Unit))))))) × ((List Int) × ((List Int) × ((List Int) × ((List Int) × Unit)))))))
abbrev X5 : Type := (Unit ⊕ Int)
def l5 (s_ at_ : Int) (w : (List Int)) (k30 : (List Int)) (k31 h0_1 h0_2 h0_3 h0_4 h0_5 h0_6 h1_1 h1_3 : Int) (h1_4 : Bool) (h1_5 : Int) (h2 : (List Int)) (h3 : (List Int)) (h4 : (List Int)) (h5 : (List Int)) (k32 : Int) : Tw (Int ⊕ X5) :=
 (.bb (decide (k32 < k31))
 (.dd (((0 : Int) ≤ k32)) inferInstance
 (.opt (k30)[(Int.toNat k32)]? fun z2 =>
 (.dd ((((0 : Int) ≤ k32) ∧ (k32 < (((List.length h5) : Nat) : Int)))) inferInstance
 (.opt (h5)[(Int.toNat k32)]? fun z3 =>
 (.opt (word_Within.c z2 z3) fun z4 =>
 (.bb (!z4)
 (.ret (.inr (.inr (11 : Int))))
 (.ret (.inl (w64 (k32 + (1 : Int))))))))
 .no))
 .no)
 (.ret (.inr (.inl ()))))
def L5 (s_ at_ : Int) (w : (List Int)) (k30 : (List Int)) (k31 k32 h0_1 h0_2 h0_3 h0_4 h0_5 h0_6 h1_1 h1_3 : Int) (h1_4 : Bool) (h1_5 : Int) (h2 : (List Int)) (h3 : (List Int)) (h4 : (List Int)) (h5 : (List Int)) : Option X5 := Lp (fun s => (l5 s_ at_ w k30 k31 h0_1 h0_2 h0_3 h0_4 h0_5 h0_6 h1_1 h1_3 h1_4 h1_5 h2 h3 h4 h5 s).run) k32
def p5 : Pt := (.cs (.ptr 0 0) (jC (jC (.cs (.sl 3) (.cs (.bots 5) (.cs (.own 5) (.cs (.bots 20) (.cs (.sl 3) (jC (jC (.cs (.bots 45) .nl)))))))))))
def q5 : Pt := (.cs (.var (.cs (.ptr 1 0) (jC (jC (jC (jC (jC (jC .nl)))))))) (.cs (.var (.cs (.own 2) (jC (.cs (.own 3) (jC (.cs .bool (jC (.cs (.own 4) .nl)))))))) (.cs (.row 3 true) (.cs (.row 1 true) (.cs (.row 3 true) (.cs (.row 3 true) .nl))))))
def ou5 (l : T5) (y : X5) : Ex × St U := (Sum.elim (fun a0 => (.exit 0, stOf 78 [(0, .ptr 0 0), (1, jI l.1.2.1), (2, jI l.1.2.2.1), (3, .im (.slice 3 l.1.2.2.2.1)), (9, .own 5)] [.var [.ptr 1 0, jI l.2.1.2.1, jI l.2.1.2.2.1, jI l.2.1.2.2.2.1, jI l.2.1.2.2.2.2.1, jI l.2.1.2.2.2.2.2.1, jI l.2.1.2.2.2.2.2.2.1], .var [.own 2, jI l.2.2.1.2.1, .own 3, jI l.2.2.1.2.2.2.1, jB l.2.2.1.2.2.2.2.1, jI l.2.2.1.2.2.2.2.2.1, .own 4], .row 3 l.2.2.2.1 true, .row 1 l.2.2.2.2.1 true, .row 3 l.2.2.2.2.2.1 true, .row 3 l.2.2.2.2.2.2.1 true] 5)) (fun b0 => (.ret, stOf 78 [(0, .ptr 0 0), (1, jI l.1.2.1), (2, jI l.1.2.2.1), (3, .im (.slice 3 l.1.2.2.2.1)), (8, jI b0), (9, .own 5)] [.var [.ptr 1 0, jI l.2.1.2.1, jI l.2.1.2.2.1, jI l.2.1.2.2.2.1, jI l.2.1.2.2.2.2.1, jI l.2.1.2.2.2.2.2.1, jI l.2.1.2.2.2.2.2.2.1], .var [.own 2, jI l.2.2.1.2.1, .own 3, jI l.2.2.1.2.2.2.1, jB l.2.2.1.2.2.2.2.1, jI l.2.2.1.2.2.2.2.2.1, .own 4], .row 3 l.2.2.2.1 true, .row 1 l.2.2.2.2.1 true, .row 3 l.2.2.2.2.2.1 true, .row 3 l.2.2.2.2.2.2.1 true] 5)) y)
def Λ5 : LFun U := mkLp (U := U) p5 q5 5 (X := X5) (fun (l : T5) => L5 l.1.2.1 l.1.2.2.1 l.1.2.2.2.1 l.1.2.2.2.2.2.2.2.1 l.1.2.2.2.2.2.2.2.2.1 l.1.2.2.2.2.2.2.2.2.2.1 l.2.1.2.1 l.2.1.2.2.1 l.2.1.2.2.2.1 l.2.1.2.2.2.2.1 l.2.1.2.2.2.2.2.1 l.2.1.2.2.2.2.2.2.1 l.2.2.1.2.1 l.2.2.1.2.2.2.1 l.2.2.1.2.2.2.2.1 l.2.2.1.2.2.2.2.2.1 l.2.2.2.1 l.2.2.2.2.1 l.2.2.2.2.2.1 l.2.2.2.2.2.2.1) (spS sp1) ou5
def hd5 (l : T5) (s : Int) : T5 := (((), (l.1.2.1, (l.1.2.2.1, (l.1.2.2.2.1, ((), ((), ((), (l.1.2.2.2.2.2.2.2.1, (l.1.2.2.2.2.2.2.2.2.1, (s, ((), ()))))))))))), (((), (l.2.1.2.1, (l.2.1.2.2.1, (l.2.1.2.2.2.1, (l.2.1.2.2.2.2.1, (l.2.1.2.2.2.2.2.1, (l.2.1.2.2.2.2.2.2.1, ()))))))), (((), (l.2.2.1.2.1, ((), (l.2.2.1.2.2.2.1, (l.2.2.1.2.2.2.2.1, (l.2.2.1.2.2.2.2.2.1, ((), ()))))))), (l.2.2.2.1, (l.2.2.2.2.1, (l.2.2.2.2.2.1, (l.2.2.2.2.2.2.1, ())))))))
def fl5 (l : T5) (s : Int) : Tw (Int ⊕ X5) := l5 l.1.2.1 l.1.2.2.1 l.1.2.2.2.1 l.1.2.2.2.2.2.2.2.1 l.1.2.2.2.2.2.2.2.2.1 l.2.1.2.1 l.2.1.2.2.1 l.2.1.2.2.2.1 l.2.1.2.2.2.2.1 l.2.1.2.2.2.2.2.1 l.2.1.2.2.2.2.2.2.1 l.2.2.1.2.1 l.2.2.1.2.2.2.1 l.2.2.1.2.2.2.2.1 l.2.2.1.2.2.2.2.2.1 l.2.2.2.1 l.2.2.2.2.1 l.2.2.2.2.2.1 l.2.2.2.2.2.2.1 s
abbrev T12 : Type := ((Unit × (Unit × (Unit × (Unit × (Int × (Unit × ((List Int) × (Int × (Int × (Unit × Unit)))))))))) × ((Unit × (Int × (Int × (Int × (Int × (Int × (Int × Unit))))))) × ((Unit × (Int × (Unit × (Int × (Bool × (Int × (Unit × Unit))))))) × ((List Int) × ((List Int) × ((List Int) × ((List Int) × Unit)))))))
abbrev S12 : Type := (Int × (Int × (Bool × (Int × (List Int)))))
abbrev X12 : Type := ((Int × (Bool × (Int × (List Int)))) ⊕ (Int × (Int × (Bool × (Int × (List Int))))))
def l12 (a : Int) (k52 : (List Int)) (k53 h0_1 h0_2 h0_3 h0_4 h0_5 h0_6 h1_1 : Int) (h3 : (List Int)) (h4 : (List Int)) (h5 : (List Int)) (k54 h1_3 : Int) (h1_4 : Bool) (h1_5 : Int) (h2 : (List Int)) : Tw (S12 ⊕ X12) :=
 (.bb (decide (k54 < k53))
 (.dd (((0 : Int) ≤ k54)) inferInstance
 (.opt (k52)[(Int.toNat k54)]? fun z9 =>
 (.dd ((((0 : Int) ≤ k54) ∧ (k54 < (((List.length h5) : Nat) : Int)))) inferInstance
 (.opt (h5)[(Int.toNat k54)]? fun z10 =>
 (.bb (z9 == z10)
 (.ret (.inl ((w64 (k54 + (1 : Int))), (h1_3, (h1_4, (h1_5, h2))))))
 (.opt (flash_Flash_Program.c (w64 (a + k54)) z9 h1_1 h1_3 h1_4 h1_5 h2 h3 h4) fun z11 =>
 (.bb (z11.1 != (0 : Int))
 (.ret (.inr (.inr (z11.1, (z11.2.1, (z11.2.2.1, (z11.2.2.2.1, z11.2.2.2.2)))))))
 (.ret (.inl ((w64 (k54 + (1 : Int))), (z11.2.1, (z11.2.2.1, (z11.2.2.2.1, z11.2.2.2.2))))))))))
 .no))
 .no)
 (.ret (.inr (.inl (h1_3, (h1_4, (h1_5, h2)))))))
def L12 (a : Int) (k52 : (List Int)) (k53 k54 h0_1 h0_2 h0_3 h0_4 h0_5 h0_6 h1_1 h1_3 : Int) (h1_4 : Bool) (h1_5 : Int) (h2 : (List Int)) (h3 : (List Int)) (h4 : (List Int)) (h5 : (List Int)) : Option X12 := Lp (fun s => (l12 a k52 k53 h0_1 h0_2 h0_3 h0_4 h0_5 h0_6 h1_1 h3 h4 h5 s.1 s.2.1 s.2.2.1 s.2.2.2.1 s.2.2.2.2).run) (k54, (h1_3, (h1_4, (h1_5, h2))))
def p12 : Pt := (.cs (.ptr 0 0) (.cs (.bots 8) (.cs (.own 5) (.cs (.bots 3) (jC (.cs (.bots 38) (.cs (.sl 3) (jC (jC (.cs (.bots 23) .nl))))))))))
def q12 : Pt := (.cs (.var (.cs (.ptr 1 0) (jC (jC (jC (jC (jC (jC .nl)))))))) (.cs (.var (.cs (.own 2) (jC (.cs (.own 3) (jC (.cs .bool (jC (.cs (.own 4) .nl)))))))) (.cs (.row 3 true) (.cs (.row 1 true) (.cs (.row 3 true) (.cs (.row 3 true) .nl))))))
def ou12 (l : T12) (y : X12) : Ex × St U := (Sum.elim (fun a0 => (.exit 2, stOf 78 [(0, .ptr 0 0)] [.var [.ptr 1 0, jI l.2.1.2.1, jI l.2.1.2.2.1, jI l.2.1.2.2.2.1, jI l.2.1.2.2.2.2.1, jI l.2.1.2.2.2.2.2.1, jI l.2.1.2.2.2.2.2.2.1], .var [.own 2, jI l.2.2.1.2.1, .own 3, jI a0.1, jB a0.2.1, jI a0.2.2.1, .own 4], .row 3 a0.2.2.2 true, .row 1 l.2.2.2.2.1 true, .row 3 l.2.2.2.2.2.1 true] 5)) (fun b0 => (.ret, stOf 78 [(0, .ptr 0 0), (8, jI b0.1)] [.var [.ptr 1 0, jI l.2.1.2.1, jI l.2.1.2.2.1, jI l.2.1.2.2.2.1, jI l.2.1.2.2.2.2.1, jI l.2.1.2.2.2.2.2.1, jI l.2.1.2.2.2.2.2.2.1], .var [.own 2, jI l.2.2.1.2.1, .own 3, jI b0.2.1, jB b0.2.2.1, jI b0.2.2.2.1, .own 4], .row 3 b0.2.2.2.2 true, .row 1 l.2.2.2.2.1 true, .row 3 l.2.2.2.2.2.1 true] 5)) y)
def Λ12 : LFun U := mkLp (U := U) p12 q12 5 (X := X12) (fun (l : T12) => L12 l.1.2.2.2.2.1 l.1.2.2.2.2.2.2.1 l.1.2.2.2.2.2.2.2.1 l.1.2.2.2.2.2.2.2.2.1 l.2.1.2.1 l.2.1.2.2.1 l.2.1.2.2.2.1 l.2.1.2.2.2.2.1 l.2.1.2.2.2.2.2.1 l.2.1.2.2.2.2.2.2.1 l.2.2.1.2.1 l.2.2.1.2.2.2.1 l.2.2.1.2.2.2.2.1 l.2.2.1.2.2.2.2.2.1 l.2.2.2.1 l.2.2.2.2.1 l.2.2.2.2.2.1 l.2.2.2.2.2.2.1) (spS sp1) ou12
def hd12 (l : T12) (s : S12) : T12 := (((), ((), ((), ((), (l.1.2.2.2.2.1, ((), (l.1.2.2.2.2.2.2.1, (l.1.2.2.2.2.2.2.2.1, (s.1, ((), ())))))))))), (((), (l.2.1.2.1, (l.2.1.2.2.1, (l.2.1.2.2.2.1, (l.2.1.2.2.2.2.1, (l.2.1.2.2.2.2.2.1, (l.2.1.2.2.2.2.2.2.1, ()))))))), (((), (l.2.2.1.2.1, ((), (s.2.1, (s.2.2.1, (s.2.2.2.1, ((), ()))))))), (s.2.2.2.2, (l.2.2.2.2.1, (l.2.2.2.2.2.1, (l.2.2.2.2.2.2.1, ())))))))
def fl12 (l : T12) (s : S12) : Tw (S12 ⊕ X12) := l12 l.1.2.2.2.2.1 l.1.2.2.2.2.2.2.1 l.1.2.2.2.2.2.2.2.1 l.2.1.2.1 l.2.1.2.2.1 l.2.1.2.2.2.1 l.2.1.2.2.2.2.1 l.2.1.2.2.2.2.2.1 l.2.1.2.2.2.2.2.2.1 l.2.2.1.2.1 l.2.2.2.2.1 l.2.2.2.2.2.1 l.2.2.2.2.2.2.1 s.1 s.2.1 s.2.2.1 s.2.2.2.1 s.2.2.2.2
def t (s_ at_ : Int) (w : (List Int)) (h0_1 h0_2 h0_3 h0_4 h0_5 h0_6 h1_1 h1_3 : Int) (h1_4 : Bool) (h1_5 : Int) (h2 : (List Int)) (h3 : (List Int)) (h4 : (List Int)) : Tw XA :=
 (.opt (drive_Drive_Read.c s_ at_ (((List.length w) : Nat) : Int) h0_1 h0_2 h0_3 h0_4 h0_5 h0_6 h1_1 h1_3 h1_4 h1_5 h2 h3 h4) fun z1 =>
 (.bb (z1.1 != (0 : Int))
 (.ret (z1.1, (h1_3, (h1_4, (h1_5, h2)))))
 (.opt (L5 s_ at_ w w (((List.length w) : Nat) : Int) (0 : Int) h0_1 h0_2 h0_3 h0_4 h0_5 h0_6 h1_1 h1_3 h1_4 h1_5 h2 h3 h4 z1.2) fun z5 =>
 (.sm z5
 (fun z6 => (.opt (drive_Drive_first.c s_ at_ (0 : Int) h0_1 h0_2 h0_3 h0_4 h0_5 h0_6 h1_1 h1_3 h1_4 h1_5 h2 h3 h4) fun z8 =>
 (.opt (L12 z8.1 w (((List.length w) : Nat) : Int) (0 : Int) h0_1 h0_2 h0_3 h0_4 h0_5 h0_6 h1_1 h1_3 h1_4 h1_5 h2 h3 h4 z1.2) fun z12 =>
 (.sm z12
 (fun z13 => (.ret ((0 : Int), (z13.1, (z13.2.1, (z13.2.2.1, z13.2.2.2))))))
 (fun z14 => (.ret (z14.1, (z14.2.1, (z14.2.2.1, (z14.2.2.2.1, z14.2.2.2.2))))))))))
 (fun z7 => (.ret (z7, (h1_3, (h1_4, (h1_5, h2))))))))))
def c (s_ at_ : Int) (w : (List Int)) (h0_1 h0_2 h0_3 h0_4 h0_5 h0_6 h1_1 h1_3 : Int) (h1_4 : Bool) (h1_5 : Int) (h2 : (List Int)) (h3 : (List Int)) (h4 : (List Int)) : Option XA := (t s_ at_ w h0_1 h0_2 h0_3 h0_4 h0_5 h0_6 h1_1 h1_3 h1_4 h1_5 h2 h3 h4).run
def tl (l : TA) : Tw XA := t l.1.2.1 l.1.2.2.1 l.1.2.2.2.1 l.2.1.2.1 l.2.1.2.2.1 l.2.1.2.2.2.1 l.2.1.2.2.2.2.1 l.2.1.2.2.2.2.2.1 l.2.1.2.2.2.2.2.2.1 l.2.2.1.2.1 l.2.2.1.2.2.2.1 l.2.2.1.2.2.2.2.1 l.2.2.1.2.2.2.2.2.1 l.2.2.2.1 l.2.2.2.2.1 l.2.2.2.2.2.1
def cl (l : TA) : Option XA := (tl l).run
def pA : Pt := (.cs (.ptr 0 0) (jC (jC (.cs (.sl 3) .nl))))
def pH : Pt := (.cs (.var (.cs (.ptr 1 0) (jC (jC (jC (jC (jC (jC .nl)))))))) (.cs (.var (.cs (.own 2) (jC (.cs (.own 3) (jC (.cs .bool (jC (.cs (.own 4) .nl)))))))) (.cs (.row 3 true) (.cs (.row 1 true) (.cs (.row 3 true) .nl)))))
def v (l : TA) (y : XA) : AV U := jI y.1
def hh (l : TA) (y : XA) : Hp U := [.var [.ptr 1 0, jI l.2.1.2.1, jI l.2.1.2.2.1, jI l.2.1.2.2.2.1, jI l.2.1.2.2.2.2.1, jI l.2.1.2.2.2.2.2.1, jI l.2.1.2.2.2.2.2.2.1], .var [.own 2, jI l.2.2.1.2.1, .own 3, jI y.2.1, jB y.2.2.1, jI y.2.2.2.1, .own 4], .row 3 y.2.2.2.2 true, .row 1 l.2.2.2.2.1 true, .row 3 l.2.2.2.2.2.1 true]
def A : AFun U := mkA (U := U) pA pH (X := XA) cl sp1 v hh
def body : Code := (Go.Func.body Tryz.f67).getD .skip
def Γ : List (FuncId × AFun U) := [(60, drive_Drive_Read.A), (89, word_Within.A), (80, drive_Drive_first.A), (90, flash_Flash_Program.A)]
def Λ : List (Nat × LFun U) := [(5, Λ5), (12, Λ12)]
def CT : List (Nat × LFun U) := []
def ro : List FuncId := [60, 80]
def D : Nat → Lv × Lv := dtab [(5, ⟨[0, 32, 9, 30, 3, 2, 1, 31], []⟩, ⟨[8, 0, 9, 3, 2, 1], []⟩), (12, ⟨[54, 0, 13, 9, 52, 53], []⟩, ⟨[8, 0], []⟩)]
def E : Env U := { E0 with Γ := Γ, Λ := Λ, C := CT, D := D, ro := ro }
theorem hf5 (R : Type) (l : T5) (s : Int) (K : Ex → St U → Option R) : codeA E (pick (loopsOf body) 5) ⟨p5.mkL (hd5 l s).1, q5.mkH (hd5 l s).2, 5⟩ (roundK E (pick (loopsOf body) 5) K) =
  (fl5 l s).runK (lpK K (fun s => ⟨p5.mkL (hd5 l s).1, q5.mkH (hd5 l s).2, 5⟩) (spS sp1) (ou5 l)) := by kernel_rfl
theorem lk5 (R : Type) (st : St U) (K : Ex → St U → Option R) (r : R) (h : Λ5 R st K = some r) : ∃ n, loopA E (pick (loopsOf body) 5) n st K = some r :=
  lp_ok (U := U) (E := E) (b := pick (loopsOf body) 5) (m := 5) (sp := (spS sp1)) (p := p5) (q := q5) (X := X5) (S := Int) (f := fl5) (hd := hd5) (s0 := fun (l : T5) => l.1.2.2.2.2.2.2.2.2.2.1) (ou := ou5)
    (fun l => rfl) (fun l x => by repeat' (first | rfl | (cases x with | inl => rfl | inr x => ?_))) (spS_ok sp1_ok) hf5 h
theorem hf12 (R : Type) (l : T12) (s : S12) (K : Ex → St U → Option R) : codeA E (pick (loopsOf body) 12) ⟨p12.mkL (hd12 l s).1, q12.mkH (hd12 l s).2, 5⟩ (roundK E (pick (loopsOf body) 12) K) =
  (fl12 l s).runK (lpK K (fun s => ⟨p12.mkL (hd12 l s).1, q12.mkH (hd12 l s).2, 5⟩) (spS sp1) (ou12 l)) := by kernel_rfl
theorem lk12 (R : Type) (st : St U) (K : Ex → St U → Option R) (r : R) (h : Λ12 R st K = some r) : ∃ n, loopA E (pick (loopsOf body) 12) n st K = some r :=
  lp_ok (U := U) (E := E) (b := pick (loopsOf body) 12) (m := 5) (sp := (spS sp1)) (p := p12) (q := q12) (X := X12) (S := S12) (f := fl12) (hd := hd12) (s0 := fun (l : T12) => (l.1.2.2.2.2.2.2.2.2.1, (l.2.2.1.2.2.2.1, (l.2.2.1.2.2.2.2.1, (l.2.2.1.2.2.2.2.2.1, l.2.2.2.1))))) (ou := ou12)
    (fun l => rfl) (fun l x => by repeat' (first | rfl | (cases x with | inl => rfl | inr x => ?_))) (spS_ok sp1_ok) hf12 h
theorem hk (R : Type) (l : TA) (K : AV U → Hp U → Option R) : funcA E Tryz.f67 [] R (pA.mkL l.1) (pH.mkH l.2) K = (tl l).runK fun y => K (v l y) (hh l y) := by kernel_rfl
theorem okF : SoundF Tryz.prog cc 67 (funcA E Tryz.f67 []) :=
  funcA_ok (E := E) P_mixed (E0_ok.with Γ Λ CT D ro) (gam_of (all_cons ⟨drive_Drive_Read.ok, drive_Drive_Read.fo⟩ (all_cons ⟨word_Within.ok, word_Within.fo⟩ (all_cons ⟨drive_Drive_first.ok, drive_Drive_first.fo⟩ (all_cons ⟨flash_Flash_Program.ok, flash_Flash_Program.fo⟩ all_nil)))) (all_cons (fun _ => drive_Drive_Read.keep) (all_cons (no_keep (by kernel_rfl)) (all_cons (fun _ => drive_Drive_first.keep) (all_cons (no_keep (by kernel_rfl)) all_nil))))) Tryz.func67 (c := body) (by kernel_rfl)
    (just_by (by kernel_rfl) (by kernel_rfl) (all_cons lk5 (all_cons lk12 all_nil)) all_nil) []
theorem ok : SoundF Tryz.prog cc 67 A :=
  mkA_ok (E := E) (p := pA) (q := pH) (t := tl) sp1_ok hk okF
theorem fo : FnOK Tryz.prog 67 := ⟨Tryz.f67, Tryz.func67, by kernel_rfl, by kernel_rfl⟩
end drive_Drive_Write

/-! (*instar/drive.Drive).Fresh -/
namespace drive_Drive_Fresh
abbrev TA : Type := ((Unit × (Int × ((List Int) × Unit))) × ((Unit × (Int × (Int × (Int × (Int × (Int × (Int × Unit))))))) × ((Unit × (Int × (Unit × (Int × (Bool × (Int × (Unit × Unit))))))) × ((List Int) × ((List Int) × ((List Int) × Unit))))))
abbrev XA : Type := (Int × (Int × (Bool × (Int × ((List Int) × (List Int))))))
def t (s_ : Int) (w : (List Int)) (h0_1 h0_2 h0_3 h0_4 h0_5 h0_6 h1_1 h1_3 : Int) (h1_4 : Bool) (h1_5 : Int) (h2 : (List Int)) (h3 : (List Int)) (h4 : (List Int)) : Tw XA :=
 (.opt (drive_Drive_first.c s_ (0 : Int) (((List.length w) : Nat) : Int) h0_1 h0_2 h0_3 h0_4 h0_5 h0_6 h1_1 h1_3 h1_4 h1_5 h2 h3 h4) fun z1 =>
 (.bb (z1.2 != (0 : Int))
 (.ret (z1.2, (h1_3, (h1_4, (h1_5, (h2, h3))))))
 (.opt (drive_Drive_Clean.c s_ h0_1 h0_2 h0_3 h0_4 h0_5 h0_6 h1_1 h1_3 h1_4 h1_5 h2 h3 h4) fun z2 =>
 (.bb (z2.1 != (0 : Int))
 (.ret (z2.1, (z2.2.1, (z2.2.2.1, (z2.2.2.2.1, (z2.2.2.2.2.1, z2.2.2.2.2.2))))))
 (.opt (drive_Drive_Write.c s_ (0 : Int) w h0_1 h0_2 h0_3 h0_4 h0_5 h0_6 h1_1 z2.2.1 z2.2.2.1 z2.2.2.2.1 z2.2.2.2.2.1 z2.2.2.2.2.2 h4) fun z3 =>
 (.ret (z3.1, (z3.2.1, (z3.2.2.1, (z3.2.2.2.1, (z3.2.2.2.2, z2.2.2.2.2.2)))))))))))
def c (s_ : Int) (w : (List Int)) (h0_1 h0_2 h0_3 h0_4 h0_5 h0_6 h1_1 h1_3 : Int) (h1_4 : Bool) (h1_5 : Int) (h2 : (List Int)) (h3 : (List Int)) (h4 : (List Int)) : Option XA := (t s_ w h0_1 h0_2 h0_3 h0_4 h0_5 h0_6 h1_1 h1_3 h1_4 h1_5 h2 h3 h4).run
def tl (l : TA) : Tw XA := t l.1.2.1 l.1.2.2.1 l.2.1.2.1 l.2.1.2.2.1 l.2.1.2.2.2.1 l.2.1.2.2.2.2.1 l.2.1.2.2.2.2.2.1 l.2.1.2.2.2.2.2.2.1 l.2.2.1.2.1 l.2.2.1.2.2.2.1 l.2.2.1.2.2.2.2.1 l.2.2.1.2.2.2.2.2.1 l.2.2.2.1 l.2.2.2.2.1 l.2.2.2.2.2.1
def cl (l : TA) : Option XA := (tl l).run
def pA : Pt := (.cs (.ptr 0 0) (jC (.cs (.sl 3) .nl)))
def pH : Pt := (.cs (.var (.cs (.ptr 1 0) (jC (jC (jC (jC (jC (jC .nl)))))))) (.cs (.var (.cs (.own 2) (jC (.cs (.own 3) (jC (.cs .bool (jC (.cs (.own 4) .nl)))))))) (.cs (.row 3 true) (.cs (.row 1 true) (.cs (.row 3 true) .nl)))))
def v (l : TA) (y : XA) : AV U := jI y.1
def hh (l : TA) (y : XA) : Hp U := [.var [.ptr 1 0, jI l.2.1.2.1, jI l.2.1.2.2.1, jI l.2.1.2.2.2.1, jI l.2.1.2.2.2.2.1, jI l.2.1.2.2.2.2.2.1, jI l.2.1.2.2.2.2.2.2.1], .var [.own 2, jI l.2.2.1.2.1, .own 3, jI y.2.1, jB y.2.2.1, jI y.2.2.2.1, .own 4], .row 3 y.2.2.2.2.1 true, .row 1 y.2.2.2.2.2 true, .row 3 l.2.2.2.2.2.1 true]
def A : AFun U := mkA (U := U) pA pH (X := XA) cl sp1 v hh
def body : Code := (Go.Func.body Tryz.f66).getD .skip
def Γ : List (FuncId × AFun U) := [(80, drive_Drive_first.A), (50, drive_Drive_Clean.A), (67, drive_Drive_Write.A)]
def Λ : List (Nat × LFun U) := []
def CT : List (Nat × LFun U) := []
def ro : List FuncId := [80]
def D : Nat → Lv × Lv := dtab []
def E : Env U := { E0 with Γ := Γ, Λ := Λ, C := CT, D := D, ro := ro }
theorem hk (R : Type) (l : TA) (K : AV U → Hp U → Option R) : funcA E Tryz.f66 [] R (pA.mkL l.1) (pH.mkH l.2) K = (tl l).runK fun y => K (v l y) (hh l y) := by kernel_rfl
theorem okF : SoundF Tryz.prog cc 66 (funcA E Tryz.f66 []) :=
  funcA_ok (E := E) P_mixed (E0_ok.with Γ Λ CT D ro) (gam_of (all_cons ⟨drive_Drive_first.ok, drive_Drive_first.fo⟩ (all_cons ⟨drive_Drive_Clean.ok, drive_Drive_Clean.fo⟩ (all_cons ⟨drive_Drive_Write.ok, drive_Drive_Write.fo⟩ all_nil))) (all_cons (fun _ => drive_Drive_first.keep) (all_cons (no_keep (by kernel_rfl)) (all_cons (no_keep (by kernel_rfl)) all_nil)))) Tryz.func66 (c := body) (by kernel_rfl)
    (just_by (by kernel_rfl) (by kernel_rfl) all_nil all_nil) []
theorem ok : SoundF Tryz.prog cc 66 A :=
  mkA_ok (E := E) (p := pA) (q := pH) (t := tl) sp1_ok hk okF
theorem fo : FnOK Tryz.prog 66 := ⟨Tryz.f66, Tryz.func66, by kernel_rfl, by kernel_rfl⟩
end drive_Drive_Fresh

end
end Go.Proofs.YtkoidgjgdhpdnaaGreat.Va
