/- The functions of package flash, as plain functions, and that the program computes them. Printed by a program of this work out of the evaluator. -/
import Derived.Test.YtkoidgjgdhpdnaaEn
import Derived.Tactics
import Derived.Test.YtkoidgjgdhpdnaaFword
namespace Go.Proofs.Ytkoidgjgdhpdnaa.Va
open Go
set_option linter.unusedVariables false
set_option maxRecDepth 100000

/-! (*instar/flash.Flash).Gone -/
namespace flash_Flash_Gone
abbrev TA : Type := ((Unit × Unit) × ((Unit × (Int × (Unit × (Int × (Bool × (Int × (Unit × Unit))))))) × ((List Int) × ((List Int) × Unit))))
noncomputable def t (h0_1 h0_3 : Int) (h0_4 : Bool) (h0_5 : Int) (h1 : (List Int)) (h2 : (List Int)) : Tw Unit :=
 (.ret ())
noncomputable def c (h0_1 h0_3 : Int) (h0_4 : Bool) (h0_5 : Int) (h1 : (List Int)) (h2 : (List Int)) : Option Unit := (t h0_1 h0_3 h0_4 h0_5 h1 h2).run
def pA : Pt := (.cs (.ptr 0 0) .nl)
def pH : Pt := (.cs (.var (.cs (.own 1) (.cs (.int .i64) (.cs (.own 2) (.cs (.int .i64) (.cs .bool (.cs (.int .i64) (.cs .nils .nl)))))))) (.cs (.row 3 true) (.cs (.row 1 true) .nl)))
def v (l : TA) (y : Unit) : AV U := .im (.bool l.2.1.2.2.2.2.1)
def hh (l : TA) (y : Unit) : Hp U := [.var [.own 1, .im (.int .i64 l.2.1.2.1), .own 2, .im (.int .i64 l.2.1.2.2.2.1), .im (.bool l.2.1.2.2.2.2.1), .im (.int .i64 l.2.1.2.2.2.2.2.1), .im .nils], .row 3 l.2.2.1 true, .row 1 l.2.2.2.1 true]
noncomputable def A : AFun U := mkA (U := U) pA pH (X := Unit) (fun (l : TA) => c l.2.1.2.1 l.2.1.2.2.2.1 l.2.1.2.2.2.2.1 l.2.1.2.2.2.2.2.1 l.2.2.1 l.2.2.2.1) sp1 v hh
noncomputable def body : Code := (Go.Func.body Try.f104).getD .skip
noncomputable def Γ : List (FuncId × AFun U) := []
noncomputable def Λ : List (Nat × LFun U) := []
noncomputable def CT : List (Nat × LFun U) := []
def ro : List FuncId := []
def D : Nat → Lv × Lv := dtab []
noncomputable def E : Env U := { E0 with Γ := Γ, Λ := Λ, C := CT, D := D, ro := ro }
theorem hk (R : Type) (l : TA) (K : AV U → Hp U → Option R) : funcA E Try.f104 [] R (pA.mkL l.1) (pH.mkH l.2) K = (t l.2.1.2.1 l.2.1.2.2.2.1 l.2.1.2.2.2.2.1 l.2.1.2.2.2.2.2.1 l.2.2.1 l.2.2.2.1).runK fun y => K (v l y) (hh l y) := by kernel_rfl
theorem okF : SoundF Try.prog cc 104 (funcA E Try.f104 []) :=
  funcA_ok (E := E) P_mixed (E0_ok.with Γ Λ CT D ro) (gam_of all_nil all_nil) Try.func104 (c := body) (by kernel_rfl)
    (just_by (by kernel_rfl) (by kernel_rfl) all_nil all_nil) []
theorem ok : SoundF Try.prog cc 104 A :=
  mkA_ok (E := E) (p := pA) (q := pH) (t := fun (l : TA) => t l.2.1.2.1 l.2.1.2.2.2.1 l.2.1.2.2.2.2.1 l.2.1.2.2.2.2.2.1 l.2.2.1 l.2.2.2.1) sp1_ok hk okF
theorem keep : KeepA A := mkA_keep (U := U) sp1_ok (fun (l : TA) y => ⟨(hh l y).drop 3, by kernel_rfl⟩)
end flash_Flash_Gone

/-! (*instar/flash.Flash).Size -/
namespace flash_Flash_Size
abbrev TA : Type := ((Unit × Unit) × ((Unit × (Int × (Unit × (Int × (Bool × (Int × (Unit × Unit))))))) × ((List Int) × ((List Int) × Unit))))
noncomputable def t (h0_1 h0_3 : Int) (h0_4 : Bool) (h0_5 : Int) (h1 : (List Int)) (h2 : (List Int)) : Tw Int :=
 (.ret (((List.length h2) : Nat) : Int))
noncomputable def c (h0_1 h0_3 : Int) (h0_4 : Bool) (h0_5 : Int) (h1 : (List Int)) (h2 : (List Int)) : Option Int := (t h0_1 h0_3 h0_4 h0_5 h1 h2).run
def pA : Pt := (.cs (.ptr 0 0) .nl)
def pH : Pt := (.cs (.var (.cs (.own 1) (.cs (.int .i64) (.cs (.own 2) (.cs (.int .i64) (.cs .bool (.cs (.int .i64) (.cs .nils .nl)))))))) (.cs (.row 3 true) (.cs (.row 1 true) .nl)))
def v (l : TA) (y : Int) : AV U := .tup [.im (.int .i64 y), .im (.int .i64 l.2.1.2.1)]
def hh (l : TA) (y : Int) : Hp U := [.var [.own 1, .im (.int .i64 l.2.1.2.1), .own 2, .im (.int .i64 l.2.1.2.2.2.1), .im (.bool l.2.1.2.2.2.2.1), .im (.int .i64 l.2.1.2.2.2.2.2.1), .im .nils], .row 3 l.2.2.1 true, .row 1 l.2.2.2.1 true]
noncomputable def A : AFun U := mkA (U := U) pA pH (X := Int) (fun (l : TA) => c l.2.1.2.1 l.2.1.2.2.2.1 l.2.1.2.2.2.2.1 l.2.1.2.2.2.2.2.1 l.2.2.1 l.2.2.2.1) sp1 v hh
noncomputable def body : Code := (Go.Func.body Try.f38).getD .skip
noncomputable def Γ : List (FuncId × AFun U) := []
noncomputable def Λ : List (Nat × LFun U) := []
noncomputable def CT : List (Nat × LFun U) := []
def ro : List FuncId := []
def D : Nat → Lv × Lv := dtab []
noncomputable def E : Env U := { E0 with Γ := Γ, Λ := Λ, C := CT, D := D, ro := ro }
theorem hk (R : Type) (l : TA) (K : AV U → Hp U → Option R) : funcA E Try.f38 [] R (pA.mkL l.1) (pH.mkH l.2) K = (t l.2.1.2.1 l.2.1.2.2.2.1 l.2.1.2.2.2.2.1 l.2.1.2.2.2.2.2.1 l.2.2.1 l.2.2.2.1).runK fun y => K (v l y) (hh l y) := by kernel_rfl
theorem okF : SoundF Try.prog cc 38 (funcA E Try.f38 []) :=
  funcA_ok (E := E) P_mixed (E0_ok.with Γ Λ CT D ro) (gam_of all_nil all_nil) Try.func38 (c := body) (by kernel_rfl)
    (just_by (by kernel_rfl) (by kernel_rfl) all_nil all_nil) []
theorem ok : SoundF Try.prog cc 38 A :=
  mkA_ok (E := E) (p := pA) (q := pH) (t := fun (l : TA) => t l.2.1.2.1 l.2.1.2.2.2.1 l.2.1.2.2.2.2.1 l.2.1.2.2.2.2.2.1 l.2.2.1 l.2.2.2.1) sp1_ok hk okF
theorem keep : KeepA A := mkA_keep (U := U) sp1_ok (fun (l : TA) y => ⟨(hh l y).drop 3, by kernel_rfl⟩)
end flash_Flash_Size

/-! (*instar/flash.Flash).words -/
namespace flash_Flash_words
abbrev TA : Type := ((Unit × Unit) × ((Unit × (Int × (Unit × (Int × (Bool × (Int × (Unit × Unit))))))) × ((List Int) × ((List Int) × Unit))))
noncomputable def t (h0_1 h0_3 : Int) (h0_4 : Bool) (h0_5 : Int) (h1 : (List Int)) (h2 : (List Int)) : Tw Int :=
 (.opt (flash_Flash_Size.c h0_1 h0_3 h0_4 h0_5 h1 h2) fun z1 =>
  (.ret (w64 (z1 * h0_1))))
noncomputable def c (h0_1 h0_3 : Int) (h0_4 : Bool) (h0_5 : Int) (h1 : (List Int)) (h2 : (List Int)) : Option Int := (t h0_1 h0_3 h0_4 h0_5 h1 h2).run
def pA : Pt := (.cs (.ptr 0 0) .nl)
def pH : Pt := (.cs (.var (.cs (.own 1) (.cs (.int .i64) (.cs (.own 2) (.cs (.int .i64) (.cs .bool (.cs (.int .i64) (.cs .nils .nl)))))))) (.cs (.row 3 true) (.cs (.row 1 true) .nl)))
def v (l : TA) (y : Int) : AV U := .im (.int .i64 y)
def hh (l : TA) (y : Int) : Hp U := [.var [.own 1, .im (.int .i64 l.2.1.2.1), .own 2, .im (.int .i64 l.2.1.2.2.2.1), .im (.bool l.2.1.2.2.2.2.1), .im (.int .i64 l.2.1.2.2.2.2.2.1), .im .nils], .row 3 l.2.2.1 true, .row 1 l.2.2.2.1 true]
noncomputable def A : AFun U := mkA (U := U) pA pH (X := Int) (fun (l : TA) => c l.2.1.2.1 l.2.1.2.2.2.1 l.2.1.2.2.2.2.1 l.2.1.2.2.2.2.2.1 l.2.2.1 l.2.2.2.1) sp1 v hh
noncomputable def body : Code := (Go.Func.body Try.f105).getD .skip
noncomputable def Γ : List (FuncId × AFun U) := [(38, flash_Flash_Size.A)]
noncomputable def Λ : List (Nat × LFun U) := []
noncomputable def CT : List (Nat × LFun U) := []
def ro : List FuncId := [38]
def D : Nat → Lv × Lv := dtab []
noncomputable def E : Env U := { E0 with Γ := Γ, Λ := Λ, C := CT, D := D, ro := ro }
theorem hk (R : Type) (l : TA) (K : AV U → Hp U → Option R) : funcA E Try.f105 [] R (pA.mkL l.1) (pH.mkH l.2) K = (t l.2.1.2.1 l.2.1.2.2.2.1 l.2.1.2.2.2.2.1 l.2.1.2.2.2.2.2.1 l.2.2.1 l.2.2.2.1).runK fun y => K (v l y) (hh l y) := by kernel_rfl
theorem okF : SoundF Try.prog cc 105 (funcA E Try.f105 []) :=
  funcA_ok (E := E) P_mixed (E0_ok.with Γ Λ CT D ro) (gam_of (all_cons ⟨flash_Flash_Size.ok, ⟨Try.f38, Try.func38, by kernel_rfl, by kernel_rfl⟩⟩ all_nil) (all_cons (fun _ => flash_Flash_Size.keep) all_nil)) Try.func105 (c := body) (by kernel_rfl)
    (just_by (by kernel_rfl) (by kernel_rfl) all_nil all_nil) []
theorem ok : SoundF Try.prog cc 105 A :=
  mkA_ok (E := E) (p := pA) (q := pH) (t := fun (l : TA) => t l.2.1.2.1 l.2.1.2.2.2.1 l.2.1.2.2.2.2.1 l.2.1.2.2.2.2.2.1 l.2.2.1 l.2.2.2.1) sp1_ok hk okF
theorem keep : KeepA A := mkA_keep (U := U) sp1_ok (fun (l : TA) y => ⟨(hh l y).drop 3, by kernel_rfl⟩)
end flash_Flash_words

/-! (*instar/flash.Flash).may -/
namespace flash_Flash_may
abbrev TA : Type := ((Unit × (Int × (Int × Unit))) × ((Unit × (Int × (Unit × (Int × (Bool × (Int × (Unit × Unit))))))) × ((List Int) × ((List Int) × Unit))))
noncomputable def t (i n h0_1 h0_3 : Int) (h0_4 : Bool) (h0_5 : Int) (h1 : (List Int)) (h2 : (List Int)) : Tw Int :=
 (.bb h0_4
  (.ret (10 : Int))
  (.bb (decide (i < (0 : Int)))
   (.ret (3 : Int))
   (.bb (decide (i ≥ n))
    (.ret (3 : Int))
    (.ret (0 : Int)))))
noncomputable def c (i n h0_1 h0_3 : Int) (h0_4 : Bool) (h0_5 : Int) (h1 : (List Int)) (h2 : (List Int)) : Option Int := (t i n h0_1 h0_3 h0_4 h0_5 h1 h2).run
def pA : Pt := (.cs (.ptr 0 0) (.cs (.int .i64) (.cs (.int .i64) .nl)))
def pH : Pt := (.cs (.var (.cs (.own 1) (.cs (.int .i64) (.cs (.own 2) (.cs (.int .i64) (.cs .bool (.cs (.int .i64) (.cs .nils .nl)))))))) (.cs (.row 3 true) (.cs (.row 1 true) .nl)))
def v (l : TA) (y : Int) : AV U := .im (.int .i64 y)
def hh (l : TA) (y : Int) : Hp U := [.var [.own 1, .im (.int .i64 l.2.1.2.1), .own 2, .im (.int .i64 l.2.1.2.2.2.1), .im (.bool l.2.1.2.2.2.2.1), .im (.int .i64 l.2.1.2.2.2.2.2.1), .im .nils], .row 3 l.2.2.1 true, .row 1 l.2.2.2.1 true]
noncomputable def A : AFun U := mkA (U := U) pA pH (X := Int) (fun (l : TA) => c l.1.2.1 l.1.2.2.1 l.2.1.2.1 l.2.1.2.2.2.1 l.2.1.2.2.2.2.1 l.2.1.2.2.2.2.2.1 l.2.2.1 l.2.2.2.1) sp1 v hh
noncomputable def body : Code := (Go.Func.body Try.f93).getD .skip
noncomputable def Γ : List (FuncId × AFun U) := []
noncomputable def Λ : List (Nat × LFun U) := []
noncomputable def CT : List (Nat × LFun U) := []
def ro : List FuncId := []
def D : Nat → Lv × Lv := dtab []
noncomputable def E : Env U := { E0 with Γ := Γ, Λ := Λ, C := CT, D := D, ro := ro }
theorem hk (R : Type) (l : TA) (K : AV U → Hp U → Option R) : funcA E Try.f93 [] R (pA.mkL l.1) (pH.mkH l.2) K = (t l.1.2.1 l.1.2.2.1 l.2.1.2.1 l.2.1.2.2.2.1 l.2.1.2.2.2.2.1 l.2.1.2.2.2.2.2.1 l.2.2.1 l.2.2.2.1).runK fun y => K (v l y) (hh l y) := by kernel_rfl
theorem okF : SoundF Try.prog cc 93 (funcA E Try.f93 []) :=
  funcA_ok (E := E) P_mixed (E0_ok.with Γ Λ CT D ro) (gam_of all_nil all_nil) Try.func93 (c := body) (by kernel_rfl)
    (just_by (by kernel_rfl) (by kernel_rfl) all_nil all_nil) []
theorem ok : SoundF Try.prog cc 93 A :=
  mkA_ok (E := E) (p := pA) (q := pH) (t := fun (l : TA) => t l.1.2.1 l.1.2.2.1 l.2.1.2.1 l.2.1.2.2.2.1 l.2.1.2.2.2.2.1 l.2.1.2.2.2.2.2.1 l.2.2.1 l.2.2.2.1) sp1_ok hk okF
theorem keep : KeepA A := mkA_keep (U := U) sp1_ok (fun (l : TA) y => ⟨(hh l y).drop 3, by kernel_rfl⟩)
end flash_Flash_may

/-! (*instar/flash.Flash).Read -/
namespace flash_Flash_Read
abbrev TA : Type := ((Unit × (Int × Unit)) × ((Unit × (Int × (Unit × (Int × (Bool × (Int × (Unit × Unit))))))) × ((List Int) × ((List Int) × Unit))))
noncomputable def t (a h0_1 h0_3 : Int) (h0_4 : Bool) (h0_5 : Int) (h1 : (List Int)) (h2 : (List Int)) : Tw (Int × Int) :=
 (.opt (flash_Flash_words.c h0_1 h0_3 h0_4 h0_5 h1 h2) fun z1 =>
  (.opt (flash_Flash_may.c a z1 h0_1 h0_3 h0_4 h0_5 h1 h2) fun z2 =>
   (.bb (z2 != (0 : Int))
    (.ret ((0 : Int), z2))
    (.dd ((((0 : Int) ≤ a) ∧ (a < (((List.length h1) : Nat) : Int)))) inferInstance
     (.opt (h1)[(Int.toNat a)]? fun z3 =>
      (.ret (z3, (0 : Int))))
     .no))))
noncomputable def c (a h0_1 h0_3 : Int) (h0_4 : Bool) (h0_5 : Int) (h1 : (List Int)) (h2 : (List Int)) : Option (Int × Int) := (t a h0_1 h0_3 h0_4 h0_5 h1 h2).run
def pA : Pt := (.cs (.ptr 0 0) (.cs (.int .i64) .nl))
def pH : Pt := (.cs (.var (.cs (.own 1) (.cs (.int .i64) (.cs (.own 2) (.cs (.int .i64) (.cs .bool (.cs (.int .i64) (.cs .nils .nl)))))))) (.cs (.row 3 true) (.cs (.row 1 true) .nl)))
def v (l : TA) (y : (Int × Int)) : AV U := .tup [.im (.int .u32 y.1), .im (.int .i64 y.2)]
def hh (l : TA) (y : (Int × Int)) : Hp U := [.var [.own 1, .im (.int .i64 l.2.1.2.1), .own 2, .im (.int .i64 l.2.1.2.2.2.1), .im (.bool l.2.1.2.2.2.2.1), .im (.int .i64 l.2.1.2.2.2.2.2.1), .im .nils], .row 3 l.2.2.1 true, .row 1 l.2.2.2.1 true]
noncomputable def A : AFun U := mkA (U := U) pA pH (X := (Int × Int)) (fun (l : TA) => c l.1.2.1 l.2.1.2.1 l.2.1.2.2.2.1 l.2.1.2.2.2.2.1 l.2.1.2.2.2.2.2.1 l.2.2.1 l.2.2.2.1) sp1 v hh
noncomputable def body : Code := (Go.Func.body Try.f87).getD .skip
noncomputable def Γ : List (FuncId × AFun U) := [(105, flash_Flash_words.A), (93, flash_Flash_may.A)]
noncomputable def Λ : List (Nat × LFun U) := []
noncomputable def CT : List (Nat × LFun U) := []
def ro : List FuncId := [105, 93]
def D : Nat → Lv × Lv := dtab []
noncomputable def E : Env U := { E0 with Γ := Γ, Λ := Λ, C := CT, D := D, ro := ro }
theorem hk (R : Type) (l : TA) (K : AV U → Hp U → Option R) : funcA E Try.f87 [] R (pA.mkL l.1) (pH.mkH l.2) K = (t l.1.2.1 l.2.1.2.1 l.2.1.2.2.2.1 l.2.1.2.2.2.2.1 l.2.1.2.2.2.2.2.1 l.2.2.1 l.2.2.2.1).runK fun y => K (v l y) (hh l y) := by kernel_rfl
theorem okF : SoundF Try.prog cc 87 (funcA E Try.f87 []) :=
  funcA_ok (E := E) P_mixed (E0_ok.with Γ Λ CT D ro) (gam_of (all_cons ⟨flash_Flash_words.ok, ⟨Try.f105, Try.func105, by kernel_rfl, by kernel_rfl⟩⟩ (all_cons ⟨flash_Flash_may.ok, ⟨Try.f93, Try.func93, by kernel_rfl, by kernel_rfl⟩⟩ all_nil)) (all_cons (fun _ => flash_Flash_words.keep) (all_cons (fun _ => flash_Flash_may.keep) all_nil))) Try.func87 (c := body) (by kernel_rfl)
    (just_by (by kernel_rfl) (by kernel_rfl) all_nil all_nil) []
theorem ok : SoundF Try.prog cc 87 A :=
  mkA_ok (E := E) (p := pA) (q := pH) (t := fun (l : TA) => t l.1.2.1 l.2.1.2.1 l.2.1.2.2.2.1 l.2.1.2.2.2.2.1 l.2.1.2.2.2.2.2.1 l.2.2.1 l.2.2.2.1) sp1_ok hk okF
theorem keep : KeepA A := mkA_keep (U := U) sp1_ok (fun (l : TA) y => ⟨(hh l y).drop 3, by kernel_rfl⟩)
end flash_Flash_Read

/-! (*instar/flash.fuse).blows -/
namespace flash_fuse_blows
abbrev TA : Type := ((Unit × Unit) × ((Unit × (Int × (Unit × (Int × (Bool × (Int × (Unit × Unit))))))) × ((List Int) × ((List Int) × Unit))))
noncomputable def t (h0_1 h0_3 : Int) (h0_4 : Bool) (h0_5 : Int) (h1 : (List Int)) (h2 : (List Int)) : Tw (Bool × Int) :=
 (.bb (decide (h0_5 < (0 : Int)))
  (.ret (false, h0_5))
  (.ret ((decide ((w64 (h0_5 - (1 : Int))) < (0 : Int))), (w64 (h0_5 - (1 : Int))))))
noncomputable def c (h0_1 h0_3 : Int) (h0_4 : Bool) (h0_5 : Int) (h1 : (List Int)) (h2 : (List Int)) : Option (Bool × Int) := (t h0_1 h0_3 h0_4 h0_5 h1 h2).run
def pA : Pt := (.cs (.ptr 0 5) .nl)
def pH : Pt := (.cs (.var (.cs (.own 1) (.cs (.int .i64) (.cs (.own 2) (.cs (.int .i64) (.cs .bool (.cs (.int .i64) (.cs .nils .nl)))))))) (.cs (.row 3 true) (.cs (.row 1 true) .nl)))
def v (l : TA) (y : (Bool × Int)) : AV U := .im (.bool y.1)
def hh (l : TA) (y : (Bool × Int)) : Hp U := [.var [.own 1, .im (.int .i64 l.2.1.2.1), .own 2, .im (.int .i64 l.2.1.2.2.2.1), .im (.bool l.2.1.2.2.2.2.1), .im (.int .i64 y.2), .im .nils], .row 3 l.2.2.1 true, .row 1 l.2.2.2.1 true]
noncomputable def A : AFun U := mkA (U := U) pA pH (X := (Bool × Int)) (fun (l : TA) => c l.2.1.2.1 l.2.1.2.2.2.1 l.2.1.2.2.2.2.1 l.2.1.2.2.2.2.2.1 l.2.2.1 l.2.2.2.1) sp1 v hh
noncomputable def body : Code := (Go.Func.body Try.f108).getD .skip
noncomputable def Γ : List (FuncId × AFun U) := []
noncomputable def Λ : List (Nat × LFun U) := []
noncomputable def CT : List (Nat × LFun U) := []
def ro : List FuncId := []
def D : Nat → Lv × Lv := dtab []
noncomputable def E : Env U := { E0 with Γ := Γ, Λ := Λ, C := CT, D := D, ro := ro }
theorem hk (R : Type) (l : TA) (K : AV U → Hp U → Option R) : funcA E Try.f108 [] R (pA.mkL l.1) (pH.mkH l.2) K = (t l.2.1.2.1 l.2.1.2.2.2.1 l.2.1.2.2.2.2.1 l.2.1.2.2.2.2.2.1 l.2.2.1 l.2.2.2.1).runK fun y => K (v l y) (hh l y) := by kernel_rfl
theorem okF : SoundF Try.prog cc 108 (funcA E Try.f108 []) :=
  funcA_ok (E := E) P_mixed (E0_ok.with Γ Λ CT D ro) (gam_of all_nil all_nil) Try.func108 (c := body) (by kernel_rfl)
    (just_by (by kernel_rfl) (by kernel_rfl) all_nil all_nil) []
theorem ok : SoundF Try.prog cc 108 A :=
  mkA_ok (E := E) (p := pA) (q := pH) (t := fun (l : TA) => t l.2.1.2.1 l.2.1.2.2.2.1 l.2.1.2.2.2.2.1 l.2.1.2.2.2.2.2.1 l.2.2.1 l.2.2.2.1) sp1_ok hk okF
end flash_fuse_blows

/-! (*instar/flash.Flash).write -/
namespace flash_Flash_write
abbrev TA : Type := ((Unit × Unit) × ((Unit × (Int × (Unit × (Int × (Bool × (Int × (Unit × Unit))))))) × ((List Int) × ((List Int) × Unit))))
noncomputable def t (h0_1 h0_3 : Int) (h0_4 : Bool) (h0_5 : Int) (h1 : (List Int)) (h2 : (List Int)) : Tw (Bool × (Int × (Bool × Int))) :=
 (.opt (flash_fuse_blows.c h0_1 (w64 (h0_3 + (1 : Int))) h0_4 h0_5 h1 h2) fun z1 =>
  (.ret (z1.1, ((w64 (h0_3 + (1 : Int))), (z1.1, z1.2)))))
noncomputable def c (h0_1 h0_3 : Int) (h0_4 : Bool) (h0_5 : Int) (h1 : (List Int)) (h2 : (List Int)) : Option (Bool × (Int × (Bool × Int))) := (t h0_1 h0_3 h0_4 h0_5 h1 h2).run
def pA : Pt := (.cs (.ptr 0 0) .nl)
def pH : Pt := (.cs (.var (.cs (.own 1) (.cs (.int .i64) (.cs (.own 2) (.cs (.int .i64) (.cs .bool (.cs (.int .i64) (.cs .nils .nl)))))))) (.cs (.row 3 true) (.cs (.row 1 true) .nl)))
def v (l : TA) (y : (Bool × (Int × (Bool × Int)))) : AV U := .im (.bool y.1)
def hh (l : TA) (y : (Bool × (Int × (Bool × Int)))) : Hp U := [.var [.own 1, .im (.int .i64 l.2.1.2.1), .own 2, .im (.int .i64 y.2.1), .im (.bool y.2.2.1), .im (.int .i64 y.2.2.2), .im .nils], .row 3 l.2.2.1 true, .row 1 l.2.2.2.1 true]
noncomputable def A : AFun U := mkA (U := U) pA pH (X := (Bool × (Int × (Bool × Int)))) (fun (l : TA) => c l.2.1.2.1 l.2.1.2.2.2.1 l.2.1.2.2.2.2.1 l.2.1.2.2.2.2.2.1 l.2.2.1 l.2.2.2.1) sp1 v hh
noncomputable def body : Code := (Go.Func.body Try.f94).getD .skip
noncomputable def Γ : List (FuncId × AFun U) := [(108, flash_fuse_blows.A)]
noncomputable def Λ : List (Nat × LFun U) := []
noncomputable def CT : List (Nat × LFun U) := []
def ro : List FuncId := []
def D : Nat → Lv × Lv := dtab []
noncomputable def E : Env U := { E0 with Γ := Γ, Λ := Λ, C := CT, D := D, ro := ro }
theorem hk (R : Type) (l : TA) (K : AV U → Hp U → Option R) : funcA E Try.f94 [] R (pA.mkL l.1) (pH.mkH l.2) K = (t l.2.1.2.1 l.2.1.2.2.2.1 l.2.1.2.2.2.2.1 l.2.1.2.2.2.2.2.1 l.2.2.1 l.2.2.2.1).runK fun y => K (v l y) (hh l y) := by kernel_rfl
theorem okF : SoundF Try.prog cc 94 (funcA E Try.f94 []) :=
  funcA_ok (E := E) P_mixed (E0_ok.with Γ Λ CT D ro) (gam_of (all_cons ⟨flash_fuse_blows.ok, ⟨Try.f108, Try.func108, by kernel_rfl, by kernel_rfl⟩⟩ all_nil) (all_cons (no_keep (by kernel_rfl)) all_nil)) Try.func94 (c := body) (by kernel_rfl)
    (just_by (by kernel_rfl) (by kernel_rfl) all_nil all_nil) []
theorem ok : SoundF Try.prog cc 94 A :=
  mkA_ok (E := E) (p := pA) (q := pH) (t := fun (l : TA) => t l.2.1.2.1 l.2.1.2.2.2.1 l.2.1.2.2.2.2.1 l.2.1.2.2.2.2.2.1 l.2.2.1 l.2.2.2.1) sp1_ok hk okF
end flash_Flash_write

/-! (*instar/flash.fuse).mask -/
namespace flash_fuse_mask
abbrev TA : Type := ((Unit × (Int × Unit)) × ((Unit × (Int × (Unit × (Int × (Bool × (Int × (Unit × Unit))))))) × ((List Int) × ((List Int) × Unit))))
noncomputable def t (i h0_1 h0_3 : Int) (h0_4 : Bool) (h0_5 : Int) (h1 : (List Int)) (h2 : (List Int)) : Tw Int :=
 (.ret (0 : Int))
noncomputable def c (i h0_1 h0_3 : Int) (h0_4 : Bool) (h0_5 : Int) (h1 : (List Int)) (h2 : (List Int)) : Option Int := (t i h0_1 h0_3 h0_4 h0_5 h1 h2).run
def pA : Pt := (.cs (.ptr 0 5) (.cs (.int .i64) .nl))
def pH : Pt := (.cs (.var (.cs (.own 1) (.cs (.int .i64) (.cs (.own 2) (.cs (.int .i64) (.cs .bool (.cs (.int .i64) (.cs .nils .nl)))))))) (.cs (.row 3 true) (.cs (.row 1 true) .nl)))
def v (l : TA) (y : Int) : AV U := .im (.int .u32 y)
def hh (l : TA) (y : Int) : Hp U := [.var [.own 1, .im (.int .i64 l.2.1.2.1), .own 2, .im (.int .i64 l.2.1.2.2.2.1), .im (.bool l.2.1.2.2.2.2.1), .im (.int .i64 l.2.1.2.2.2.2.2.1), .im .nils], .row 3 l.2.2.1 true, .row 1 l.2.2.2.1 true]
noncomputable def A : AFun U := mkA (U := U) pA pH (X := Int) (fun (l : TA) => c l.1.2.1 l.2.1.2.1 l.2.1.2.2.2.1 l.2.1.2.2.2.2.1 l.2.1.2.2.2.2.2.1 l.2.2.1 l.2.2.2.1) sp1 v hh
noncomputable def body : Code := (Go.Func.body Try.f95).getD .skip
noncomputable def Γ : List (FuncId × AFun U) := []
noncomputable def Λ : List (Nat × LFun U) := []
noncomputable def CT : List (Nat × LFun U) := []
def ro : List FuncId := []
def D : Nat → Lv × Lv := dtab []
noncomputable def E : Env U := { E0 with Γ := Γ, Λ := Λ, C := CT, D := D, ro := ro }
theorem hk (R : Type) (l : TA) (K : AV U → Hp U → Option R) : funcA E Try.f95 [] R (pA.mkL l.1) (pH.mkH l.2) K = (t l.1.2.1 l.2.1.2.1 l.2.1.2.2.2.1 l.2.1.2.2.2.2.1 l.2.1.2.2.2.2.2.1 l.2.2.1 l.2.2.2.1).runK fun y => K (v l y) (hh l y) := by kernel_rfl
theorem okF : SoundF Try.prog cc 95 (funcA E Try.f95 []) :=
  funcA_ok (E := E) P_mixed (E0_ok.with Γ Λ CT D ro) (gam_of all_nil all_nil) Try.func95 (c := body) (by kernel_rfl)
    (just_by (by kernel_rfl) (by kernel_rfl) all_nil all_nil) []
theorem ok : SoundF Try.prog cc 95 A :=
  mkA_ok (E := E) (p := pA) (q := pH) (t := fun (l : TA) => t l.1.2.1 l.2.1.2.1 l.2.1.2.2.2.1 l.2.1.2.2.2.2.1 l.2.1.2.2.2.2.2.1 l.2.2.1 l.2.2.2.1) sp1_ok hk okF
theorem keep : KeepA A := mkA_keep (U := U) sp1_ok (fun (l : TA) y => ⟨(hh l y).drop 3, by kernel_rfl⟩)
end flash_fuse_mask

/-! (*instar/flash.Flash).Erase -/
namespace flash_Flash_Erase
abbrev TA : Type := ((Unit × (Int × Unit)) × ((Unit × (Int × (Unit × (Int × (Bool × (Int × (Unit × Unit))))))) × ((List Int) × ((List Int) × Unit))))
abbrev T8 : Type := ((Unit × (Unit × (Bool × (Int × ((Nat × Nat) × (Unit × Unit)))))) × ((Unit × (Int × (Unit × (Int × (Bool × (Int × (Unit × Unit))))))) × ((List Int) × ((List Int) × Unit))))
noncomputable def l8 (torn : Bool) (sector_o : Nat) (sector_n : Nat) (h0_1 h0_3 : Int) (h0_4 : Bool) (h0_5 : Int) (h2 : (List Int)) (i : Int) (h1 : (List Int)) : Tw ((Int × (List Int)) ⊕ (List Int)) :=
 (.bb (decide (i < h0_1))
  (.bb torn
   (.opt (flash_fuse_mask.c i h0_1 h0_3 h0_4 h0_5 h1 h2) fun z9 =>
    (.dd ((((0 : Int) ≤ i) ∧ (i < ((sector_n : Nat) : Int)))) inferInstance
     (.opt (h1)[(sector_o + (Int.toNat i))]? fun z10 =>
      (.opt (word_Raised.c z10 z9) fun z11 =>
       (.dd ((((0 : Int) ≤ i) ∧ (i < ((sector_n : Nat) : Int)))) inferInstance
        (.opt (h1)[(sector_o + (Int.toNat i))]? fun z12 =>
         (.ret (.inl ((w64 (i + (1 : Int))), (List.set h1 (sector_o + (Int.toNat i)) z11)))))
        .no)))
     .no))
   (.dd ((((0 : Int) ≤ i) ∧ (i < ((sector_n : Nat) : Int)))) inferInstance
    (.opt (h1)[(sector_o + (Int.toNat i))]? fun z6 =>
     (.opt (word_Raised.c z6 (4294967295 : Int)) fun z7 =>
      (.dd ((((0 : Int) ≤ i) ∧ (i < ((sector_n : Nat) : Int)))) inferInstance
       (.opt (h1)[(sector_o + (Int.toNat i))]? fun z8 =>
        (.ret (.inl ((w64 (i + (1 : Int))), (List.set h1 (sector_o + (Int.toNat i)) z7)))))
       .no)))
    .no))
  (.ret (.inr h1)))
noncomputable def L8 (torn : Bool) (i : Int) (sector_o : Nat) (sector_n : Nat) (h0_1 h0_3 : Int) (h0_4 : Bool) (h0_5 : Int) (h1 : (List Int)) (h2 : (List Int)) : Option (List Int) := Lp (fun s => (l8 torn sector_o sector_n h0_1 h0_3 h0_4 h0_5 h2 s.1 s.2).run) (i, h1)
def p8 : Pt := (.cs (.ptr 0 0) (.cs (.bots 7) (.cs .bool (.cs (.int .i64) (.cs (.sub 1 1) (.cs (.bots 64) .nl))))))
def q8 : Pt := (.cs (.var (.cs (.own 1) (.cs (.int .i64) (.cs (.own 2) (.cs (.int .i64) (.cs .bool (.cs (.int .i64) (.cs .nils .nl)))))))) (.cs (.row 3 true) (.cs (.row 1 true) .nl)))
def ou8 (l : T8) (y : (List Int)) : Ex × St U := (.exit 0, stOf 75 [(8, .im (.bool l.1.2.2.1))] [.var [.own 1, .im (.int .i64 l.2.1.2.1), .own 2, .im (.int .i64 l.2.1.2.2.2.1), .im (.bool l.2.1.2.2.2.2.1), .im (.int .i64 l.2.1.2.2.2.2.2.1), .im .nils], .row 3 y true, .row 1 l.2.2.2.1 true] 3)
noncomputable def Λ8 : LFun U := mkLp (U := U) p8 q8 3 (X := (List Int)) (fun (l : T8) => L8 l.1.2.2.1 l.1.2.2.2.1 l.1.2.2.2.2.1.1 l.1.2.2.2.2.1.2 l.2.1.2.1 l.2.1.2.2.2.1 l.2.1.2.2.2.2.1 l.2.1.2.2.2.2.2.1 l.2.2.1 l.2.2.2.1) sp1 ou8
noncomputable def t (s_ h0_1 h0_3 : Int) (h0_4 : Bool) (h0_5 : Int) (h1 : (List Int)) (h2 : (List Int)) : Tw (Int × (Int × (Bool × (Int × ((List Int) × (List Int)))))) :=
 (.opt (flash_Flash_Size.c h0_1 h0_3 h0_4 h0_5 h1 h2) fun z1 =>
  (.opt (flash_Flash_may.c s_ z1 h0_1 h0_3 h0_4 h0_5 h1 h2) fun z2 =>
   (.bb (z2 != (0 : Int))
    (.ret (z2, (h0_3, (h0_4, (h0_5, (h1, h2))))))
    (.dd ((((0 : Int) ≤ s_) ∧ (s_ < (((List.length h2) : Nat) : Int)))) inferInstance
     (.opt (h2)[(Int.toNat s_)]? fun z3 =>
      (.dd ((((0 : Int) ≤ s_) ∧ (s_ < (((List.length h2) : Nat) : Int)))) inferInstance
       (.opt (h2)[(Int.toNat s_)]? fun z4 =>
        (.opt (flash_Flash_write.c h0_1 h0_3 h0_4 h0_5 h1 (List.set h2 (Int.toNat s_) (w64 (z3 + (1 : Int))))) fun z5 =>
         (.dd ((((0 : Int) ≤ (w64 (s_ * h0_1))) ∧ ((w64 (s_ * h0_1)) ≤ (((List.length h1) : Nat) : Int)))) inferInstance
          (.dd ((((0 : Int) ≤ h0_1) ∧ (h0_1 ≤ ((((List.length h1) - (Int.toNat (w64 (s_ * h0_1)))) : Nat) : Int)))) inferInstance
           (.opt (L8 z5.1 (0 : Int) ((Int.toNat (w64 (s_ * h0_1))) + (0 : Nat)) ((Int.toNat h0_1) - (0 : Nat)) h0_1 z5.2.1 z5.2.2.1 z5.2.2.2 h1 (List.set h2 (Int.toNat s_) (w64 (z3 + (1 : Int))))) fun z13 =>
            (.bb z5.1
             (.ret ((10 : Int), (z5.2.1, (z5.2.2.1, (z5.2.2.2, (z13, (List.set h2 (Int.toNat s_) (w64 (z3 + (1 : Int))))))))))
             (.ret ((0 : Int), (z5.2.1, (z5.2.2.1, (z5.2.2.2, (z13, (List.set h2 (Int.toNat s_) (w64 (z3 + (1 : Int))))))))))))
           .no)
          .no)))
       .no))
     .no))))
noncomputable def c (s_ h0_1 h0_3 : Int) (h0_4 : Bool) (h0_5 : Int) (h1 : (List Int)) (h2 : (List Int)) : Option (Int × (Int × (Bool × (Int × ((List Int) × (List Int)))))) := (t s_ h0_1 h0_3 h0_4 h0_5 h1 h2).run
def pA : Pt := (.cs (.ptr 0 0) (.cs (.int .i64) .nl))
def pH : Pt := (.cs (.var (.cs (.own 1) (.cs (.int .i64) (.cs (.own 2) (.cs (.int .i64) (.cs .bool (.cs (.int .i64) (.cs .nils .nl)))))))) (.cs (.row 3 true) (.cs (.row 1 true) .nl)))
def v (l : TA) (y : (Int × (Int × (Bool × (Int × ((List Int) × (List Int))))))) : AV U := .im (.int .i64 y.1)
def hh (l : TA) (y : (Int × (Int × (Bool × (Int × ((List Int) × (List Int))))))) : Hp U := [.var [.own 1, .im (.int .i64 l.2.1.2.1), .own 2, .im (.int .i64 y.2.1), .im (.bool y.2.2.1), .im (.int .i64 y.2.2.2.1), .im .nils], .row 3 y.2.2.2.2.1 true, .row 1 y.2.2.2.2.2 true]
noncomputable def A : AFun U := mkA (U := U) pA pH (X := (Int × (Int × (Bool × (Int × ((List Int) × (List Int))))))) (fun (l : TA) => c l.1.2.1 l.2.1.2.1 l.2.1.2.2.2.1 l.2.1.2.2.2.2.1 l.2.1.2.2.2.2.2.1 l.2.2.1 l.2.2.2.1) sp1 v hh
noncomputable def body : Code := (Go.Func.body Try.f67).getD .skip
noncomputable def Γ : List (FuncId × AFun U) := [(38, flash_Flash_Size.A), (93, flash_Flash_may.A), (94, flash_Flash_write.A), (96, word_Raised.A), (95, flash_fuse_mask.A)]
noncomputable def Λ : List (Nat × LFun U) := [(8, Λ8)]
noncomputable def CT : List (Nat × LFun U) := []
def ro : List FuncId := [38, 93, 95]
def D : Nat → Lv × Lv := dtab [(8, ⟨[9, 10, 0, 8], []⟩, ⟨[4, 8], []⟩)]
noncomputable def E : Env U := { E0 with Γ := Γ, Λ := Λ, C := CT, D := D, ro := ro }
theorem hf8 (R : Type) (l : T8) (s : (Int × (List Int))) (K : Ex → St U → Option R) : codeA E (pick (loopsOf body) 8) ⟨p8.mkL ((((), ((), (l.1.2.2.1, (s.1, ((l.1.2.2.2.2.1.1, l.1.2.2.2.2.1.2), ((), ())))))), (((), (l.2.1.2.1, ((), (l.2.1.2.2.2.1, (l.2.1.2.2.2.2.1, (l.2.1.2.2.2.2.2.1, ((), ()))))))), (s.2, (l.2.2.2.1, ())))) : T8).1, q8.mkH ((((), ((), (l.1.2.2.1, (s.1, ((l.1.2.2.2.2.1.1, l.1.2.2.2.2.1.2), ((), ())))))), (((), (l.2.1.2.1, ((), (l.2.1.2.2.2.1, (l.2.1.2.2.2.2.1, (l.2.1.2.2.2.2.2.1, ((), ()))))))), (s.2, (l.2.2.2.1, ())))) : T8).2, 3⟩ (roundK E (pick (loopsOf body) 8) K) =
  (l8 l.1.2.2.1 l.1.2.2.2.2.1.1 l.1.2.2.2.2.1.2 l.2.1.2.1 l.2.1.2.2.2.1 l.2.1.2.2.2.2.1 l.2.1.2.2.2.2.2.1 l.2.2.2.1 s.1 s.2).runK (lpK K (fun s => ⟨p8.mkL ((((), ((), (l.1.2.2.1, (s.1, ((l.1.2.2.2.2.1.1, l.1.2.2.2.2.1.2), ((), ())))))), (((), (l.2.1.2.1, ((), (l.2.1.2.2.2.1, (l.2.1.2.2.2.2.1, (l.2.1.2.2.2.2.2.1, ((), ()))))))), (s.2, (l.2.2.2.1, ())))) : T8).1, q8.mkH ((((), ((), (l.1.2.2.1, (s.1, ((l.1.2.2.2.2.1.1, l.1.2.2.2.2.1.2), ((), ())))))), (((), (l.2.1.2.1, ((), (l.2.1.2.2.2.1, (l.2.1.2.2.2.2.1, (l.2.1.2.2.2.2.2.1, ((), ()))))))), (s.2, (l.2.2.2.1, ())))) : T8).2, 3⟩) sp1 (ou8 l)) := by kernel_rfl
theorem lk8 (R : Type) (st : St U) (K : Ex → St U → Option R) (r : R) (h : Λ8 R st K = some r) : ∃ n, loopA E (pick (loopsOf body) 8) n st K = some r :=
  lp_ok (U := U) (E := E) (b := pick (loopsOf body) 8) (m := 3) (sp := sp1) (p := p8) (q := q8) (X := (List Int)) (S := (Int × (List Int))) (f := fun (l : T8) s => l8 l.1.2.2.1 l.1.2.2.2.2.1.1 l.1.2.2.2.2.1.2 l.2.1.2.1 l.2.1.2.2.2.1 l.2.1.2.2.2.2.1 l.2.1.2.2.2.2.2.1 l.2.2.2.1 s.1 s.2) (hd := fun (l : T8) s => (((), ((), (l.1.2.2.1, (s.1, ((l.1.2.2.2.2.1.1, l.1.2.2.2.2.1.2), ((), ())))))), (((), (l.2.1.2.1, ((), (l.2.1.2.2.2.1, (l.2.1.2.2.2.2.1, (l.2.1.2.2.2.2.2.1, ((), ()))))))), (s.2, (l.2.2.2.1, ()))))) (s0 := fun (l : T8) => (l.1.2.2.2.1, l.2.2.1)) (ou := ou8)
    (fun l => rfl) (fun l x => by rfl) sp1_ok hf8 h
theorem hk (R : Type) (l : TA) (K : AV U → Hp U → Option R) : funcA E Try.f67 [] R (pA.mkL l.1) (pH.mkH l.2) K = (t l.1.2.1 l.2.1.2.1 l.2.1.2.2.2.1 l.2.1.2.2.2.2.1 l.2.1.2.2.2.2.2.1 l.2.2.1 l.2.2.2.1).runK fun y => K (v l y) (hh l y) := by kernel_rfl
theorem okF : SoundF Try.prog cc 67 (funcA E Try.f67 []) :=
  funcA_ok (E := E) P_mixed (E0_ok.with Γ Λ CT D ro) (gam_of (all_cons ⟨flash_Flash_Size.ok, ⟨Try.f38, Try.func38, by kernel_rfl, by kernel_rfl⟩⟩ (all_cons ⟨flash_Flash_may.ok, ⟨Try.f93, Try.func93, by kernel_rfl, by kernel_rfl⟩⟩ (all_cons ⟨flash_Flash_write.ok, ⟨Try.f94, Try.func94, by kernel_rfl, by kernel_rfl⟩⟩ (all_cons ⟨word_Raised.ok, ⟨Try.f96, Try.func96, by kernel_rfl, by kernel_rfl⟩⟩ (all_cons ⟨flash_fuse_mask.ok, ⟨Try.f95, Try.func95, by kernel_rfl, by kernel_rfl⟩⟩ all_nil))))) (all_cons (fun _ => flash_Flash_Size.keep) (all_cons (fun _ => flash_Flash_may.keep) (all_cons (no_keep (by kernel_rfl)) (all_cons (no_keep (by kernel_rfl)) (all_cons (fun _ => flash_fuse_mask.keep) all_nil)))))) Try.func67 (c := body) (by kernel_rfl)
    (just_by (by kernel_rfl) (by kernel_rfl) (all_cons lk8 all_nil) all_nil) []
theorem ok : SoundF Try.prog cc 67 A :=
  mkA_ok (E := E) (p := pA) (q := pH) (t := fun (l : TA) => t l.1.2.1 l.2.1.2.1 l.2.1.2.2.2.1 l.2.1.2.2.2.2.1 l.2.1.2.2.2.2.2.1 l.2.2.1 l.2.2.2.1) sp1_ok hk okF
end flash_Flash_Erase

/-! (*instar/flash.Flash).Program -/
namespace flash_Flash_Program
abbrev TA : Type := ((Unit × (Int × (Int × Unit))) × ((Unit × (Int × (Unit × (Int × (Bool × (Int × (Unit × Unit))))))) × ((List Int) × ((List Int) × Unit))))
noncomputable def t (a x h0_1 h0_3 : Int) (h0_4 : Bool) (h0_5 : Int) (h1 : (List Int)) (h2 : (List Int)) : Tw (Int × (Int × (Bool × (Int × (List Int))))) :=
 (.opt (flash_Flash_words.c h0_1 h0_3 h0_4 h0_5 h1 h2) fun z1 =>
  (.opt (flash_Flash_may.c a z1 h0_1 h0_3 h0_4 h0_5 h1 h2) fun z2 =>
   (.bb (z2 != (0 : Int))
    (.ret (z2, (h0_3, (h0_4, (h0_5, h1)))))
    (.dd ((((0 : Int) ≤ a) ∧ (a < (((List.length h1) : Nat) : Int)))) inferInstance
     (.opt (h1)[(Int.toNat a)]? fun z3 =>
      (.opt (word_Within.c x z3) fun z4 =>
       (.bb (!z4)
        (.ret ((11 : Int), (h0_3, (h0_4, (h0_5, h1)))))
        (.opt (flash_Flash_write.c h0_1 h0_3 h0_4 h0_5 h1 h2) fun z5 =>
         (.bb z5.1
          (.dd ((((0 : Int) ≤ a) ∧ (a < (((List.length h1) : Nat) : Int)))) inferInstance
           (.opt (h1)[(Int.toNat a)]? fun z7 =>
            (.opt (flash_fuse_mask.c (0 : Int) h0_1 z5.2.1 z5.2.2.1 z5.2.2.2 h1 h2) fun z8 =>
             (.opt (word_Torn.c z7 x z8) fun z9 =>
              (.dd ((((0 : Int) ≤ a) ∧ (a < (((List.length h1) : Nat) : Int)))) inferInstance
               (.opt (h1)[(Int.toNat a)]? fun z10 =>
                (.ret ((10 : Int), (z5.2.1, (z5.2.2.1, (z5.2.2.2, (List.set h1 (Int.toNat a) z9)))))))
               .no))))
           .no)
          (.dd ((((0 : Int) ≤ a) ∧ (a < (((List.length h1) : Nat) : Int)))) inferInstance
           (.opt (h1)[(Int.toNat a)]? fun z6 =>
            (.ret ((0 : Int), (z5.2.1, (z5.2.2.1, (z5.2.2.2, (List.set h1 (Int.toNat a) x)))))))
           .no))))))
     .no))))
noncomputable def c (a x h0_1 h0_3 : Int) (h0_4 : Bool) (h0_5 : Int) (h1 : (List Int)) (h2 : (List Int)) : Option (Int × (Int × (Bool × (Int × (List Int))))) := (t a x h0_1 h0_3 h0_4 h0_5 h1 h2).run
def pA : Pt := (.cs (.ptr 0 0) (.cs (.int .i64) (.cs (.int .u32) .nl)))
def pH : Pt := (.cs (.var (.cs (.own 1) (.cs (.int .i64) (.cs (.own 2) (.cs (.int .i64) (.cs .bool (.cs (.int .i64) (.cs .nils .nl)))))))) (.cs (.row 3 true) (.cs (.row 1 true) .nl)))
def v (l : TA) (y : (Int × (Int × (Bool × (Int × (List Int)))))) : AV U := .im (.int .i64 y.1)
def hh (l : TA) (y : (Int × (Int × (Bool × (Int × (List Int)))))) : Hp U := [.var [.own 1, .im (.int .i64 l.2.1.2.1), .own 2, .im (.int .i64 y.2.1), .im (.bool y.2.2.1), .im (.int .i64 y.2.2.2.1), .im .nils], .row 3 y.2.2.2.2 true, .row 1 l.2.2.2.1 true]
noncomputable def A : AFun U := mkA (U := U) pA pH (X := (Int × (Int × (Bool × (Int × (List Int)))))) (fun (l : TA) => c l.1.2.1 l.1.2.2.1 l.2.1.2.1 l.2.1.2.2.2.1 l.2.1.2.2.2.2.1 l.2.1.2.2.2.2.2.1 l.2.2.1 l.2.2.2.1) sp1 v hh
noncomputable def body : Code := (Go.Func.body Try.f86).getD .skip
noncomputable def Γ : List (FuncId × AFun U) := [(105, flash_Flash_words.A), (93, flash_Flash_may.A), (84, word_Within.A), (94, flash_Flash_write.A), (95, flash_fuse_mask.A), (106, word_Torn.A)]
noncomputable def Λ : List (Nat × LFun U) := []
noncomputable def CT : List (Nat × LFun U) := []
def ro : List FuncId := [105, 93, 95]
def D : Nat → Lv × Lv := dtab []
noncomputable def E : Env U := { E0 with Γ := Γ, Λ := Λ, C := CT, D := D, ro := ro }
theorem hk (R : Type) (l : TA) (K : AV U → Hp U → Option R) : funcA E Try.f86 [] R (pA.mkL l.1) (pH.mkH l.2) K = (t l.1.2.1 l.1.2.2.1 l.2.1.2.1 l.2.1.2.2.2.1 l.2.1.2.2.2.2.1 l.2.1.2.2.2.2.2.1 l.2.2.1 l.2.2.2.1).runK fun y => K (v l y) (hh l y) := by kernel_rfl
theorem okF : SoundF Try.prog cc 86 (funcA E Try.f86 []) :=
  funcA_ok (E := E) P_mixed (E0_ok.with Γ Λ CT D ro) (gam_of (all_cons ⟨flash_Flash_words.ok, ⟨Try.f105, Try.func105, by kernel_rfl, by kernel_rfl⟩⟩ (all_cons ⟨flash_Flash_may.ok, ⟨Try.f93, Try.func93, by kernel_rfl, by kernel_rfl⟩⟩ (all_cons ⟨word_Within.ok, ⟨Try.f84, Try.func84, by kernel_rfl, by kernel_rfl⟩⟩ (all_cons ⟨flash_Flash_write.ok, ⟨Try.f94, Try.func94, by kernel_rfl, by kernel_rfl⟩⟩ (all_cons ⟨flash_fuse_mask.ok, ⟨Try.f95, Try.func95, by kernel_rfl, by kernel_rfl⟩⟩ (all_cons ⟨word_Torn.ok, ⟨Try.f106, Try.func106, by kernel_rfl, by kernel_rfl⟩⟩ all_nil)))))) (all_cons (fun _ => flash_Flash_words.keep) (all_cons (fun _ => flash_Flash_may.keep) (all_cons (no_keep (by kernel_rfl)) (all_cons (no_keep (by kernel_rfl)) (all_cons (fun _ => flash_fuse_mask.keep) (all_cons (no_keep (by kernel_rfl)) all_nil))))))) Try.func86 (c := body) (by kernel_rfl)
    (just_by (by kernel_rfl) (by kernel_rfl) all_nil all_nil) []
theorem ok : SoundF Try.prog cc 86 A :=
  mkA_ok (E := E) (p := pA) (q := pH) (t := fun (l : TA) => t l.1.2.1 l.1.2.2.1 l.2.1.2.1 l.2.1.2.2.2.1 l.2.1.2.2.2.2.1 l.2.1.2.2.2.2.2.1 l.2.2.1 l.2.2.2.1) sp1_ok hk okF
end flash_Flash_Program

/-! (*instar/flash.Flash).Gone -/
namespace flash_Flash_Gone_v2
abbrev TA : Type := ((Unit × Unit) × ((Unit × (Int × (Unit × (Int × (Bool × (Int × (Unit × Unit))))))) × ((List Int) × ((List Int) × ((List Int) × Unit)))))
noncomputable def t (h0_1 h0_3 : Int) (h0_4 : Bool) (h0_5 : Int) (h1 : (List Int)) (h2 : (List Int)) (h3 : (List Int)) : Tw Unit :=
 (.ret ())
noncomputable def c (h0_1 h0_3 : Int) (h0_4 : Bool) (h0_5 : Int) (h1 : (List Int)) (h2 : (List Int)) (h3 : (List Int)) : Option Unit := (t h0_1 h0_3 h0_4 h0_5 h1 h2 h3).run
def pA : Pt := (.cs (.ptr 0 0) .nl)
def pH : Pt := (.cs (.var (.cs (.own 1) (.cs (.int .i64) (.cs (.own 2) (.cs (.int .i64) (.cs .bool (.cs (.int .i64) (.cs (.own 3) .nl)))))))) (.cs (.row 3 true) (.cs (.row 1 true) (.cs (.row 3 true) .nl))))
def v (l : TA) (y : Unit) : AV U := .im (.bool l.2.1.2.2.2.2.1)
def hh (l : TA) (y : Unit) : Hp U := [.var [.own 1, .im (.int .i64 l.2.1.2.1), .own 2, .im (.int .i64 l.2.1.2.2.2.1), .im (.bool l.2.1.2.2.2.2.1), .im (.int .i64 l.2.1.2.2.2.2.2.1), .own 3], .row 3 l.2.2.1 true, .row 1 l.2.2.2.1 true, .row 3 l.2.2.2.2.1 true]
noncomputable def A : AFun U := mkA (U := U) pA pH (X := Unit) (fun (l : TA) => c l.2.1.2.1 l.2.1.2.2.2.1 l.2.1.2.2.2.2.1 l.2.1.2.2.2.2.2.1 l.2.2.1 l.2.2.2.1 l.2.2.2.2.1) sp1 v hh
noncomputable def body : Code := (Go.Func.body Try.f104).getD .skip
noncomputable def Γ : List (FuncId × AFun U) := []
noncomputable def Λ : List (Nat × LFun U) := []
noncomputable def CT : List (Nat × LFun U) := []
def ro : List FuncId := []
def D : Nat → Lv × Lv := dtab []
noncomputable def E : Env U := { E0 with Γ := Γ, Λ := Λ, C := CT, D := D, ro := ro }
theorem hk (R : Type) (l : TA) (K : AV U → Hp U → Option R) : funcA E Try.f104 [] R (pA.mkL l.1) (pH.mkH l.2) K = (t l.2.1.2.1 l.2.1.2.2.2.1 l.2.1.2.2.2.2.1 l.2.1.2.2.2.2.2.1 l.2.2.1 l.2.2.2.1 l.2.2.2.2.1).runK fun y => K (v l y) (hh l y) := by kernel_rfl
theorem okF : SoundF Try.prog cc 104 (funcA E Try.f104 []) :=
  funcA_ok (E := E) P_mixed (E0_ok.with Γ Λ CT D ro) (gam_of all_nil all_nil) Try.func104 (c := body) (by kernel_rfl)
    (just_by (by kernel_rfl) (by kernel_rfl) all_nil all_nil) []
theorem ok : SoundF Try.prog cc 104 A :=
  mkA_ok (E := E) (p := pA) (q := pH) (t := fun (l : TA) => t l.2.1.2.1 l.2.1.2.2.2.1 l.2.1.2.2.2.2.1 l.2.1.2.2.2.2.2.1 l.2.2.1 l.2.2.2.1 l.2.2.2.2.1) sp1_ok hk okF
theorem keep : KeepA A := mkA_keep (U := U) sp1_ok (fun (l : TA) y => ⟨(hh l y).drop 4, by kernel_rfl⟩)
end flash_Flash_Gone_v2

/-! (*instar/flash.Flash).Size -/
namespace flash_Flash_Size_v2
abbrev TA : Type := ((Unit × Unit) × ((Unit × (Int × (Unit × (Int × (Bool × (Int × (Unit × Unit))))))) × ((List Int) × ((List Int) × ((List Int) × Unit)))))
noncomputable def t (h0_1 h0_3 : Int) (h0_4 : Bool) (h0_5 : Int) (h1 : (List Int)) (h2 : (List Int)) (h3 : (List Int)) : Tw Int :=
 (.ret (((List.length h2) : Nat) : Int))
noncomputable def c (h0_1 h0_3 : Int) (h0_4 : Bool) (h0_5 : Int) (h1 : (List Int)) (h2 : (List Int)) (h3 : (List Int)) : Option Int := (t h0_1 h0_3 h0_4 h0_5 h1 h2 h3).run
def pA : Pt := (.cs (.ptr 0 0) .nl)
def pH : Pt := (.cs (.var (.cs (.own 1) (.cs (.int .i64) (.cs (.own 2) (.cs (.int .i64) (.cs .bool (.cs (.int .i64) (.cs (.own 3) .nl)))))))) (.cs (.row 3 true) (.cs (.row 1 true) (.cs (.row 3 true) .nl))))
def v (l : TA) (y : Int) : AV U := .tup [.im (.int .i64 y), .im (.int .i64 l.2.1.2.1)]
def hh (l : TA) (y : Int) : Hp U := [.var [.own 1, .im (.int .i64 l.2.1.2.1), .own 2, .im (.int .i64 l.2.1.2.2.2.1), .im (.bool l.2.1.2.2.2.2.1), .im (.int .i64 l.2.1.2.2.2.2.2.1), .own 3], .row 3 l.2.2.1 true, .row 1 l.2.2.2.1 true, .row 3 l.2.2.2.2.1 true]
noncomputable def A : AFun U := mkA (U := U) pA pH (X := Int) (fun (l : TA) => c l.2.1.2.1 l.2.1.2.2.2.1 l.2.1.2.2.2.2.1 l.2.1.2.2.2.2.2.1 l.2.2.1 l.2.2.2.1 l.2.2.2.2.1) sp1 v hh
noncomputable def body : Code := (Go.Func.body Try.f38).getD .skip
noncomputable def Γ : List (FuncId × AFun U) := []
noncomputable def Λ : List (Nat × LFun U) := []
noncomputable def CT : List (Nat × LFun U) := []
def ro : List FuncId := []
def D : Nat → Lv × Lv := dtab []
noncomputable def E : Env U := { E0 with Γ := Γ, Λ := Λ, C := CT, D := D, ro := ro }
theorem hk (R : Type) (l : TA) (K : AV U → Hp U → Option R) : funcA E Try.f38 [] R (pA.mkL l.1) (pH.mkH l.2) K = (t l.2.1.2.1 l.2.1.2.2.2.1 l.2.1.2.2.2.2.1 l.2.1.2.2.2.2.2.1 l.2.2.1 l.2.2.2.1 l.2.2.2.2.1).runK fun y => K (v l y) (hh l y) := by kernel_rfl
theorem okF : SoundF Try.prog cc 38 (funcA E Try.f38 []) :=
  funcA_ok (E := E) P_mixed (E0_ok.with Γ Λ CT D ro) (gam_of all_nil all_nil) Try.func38 (c := body) (by kernel_rfl)
    (just_by (by kernel_rfl) (by kernel_rfl) all_nil all_nil) []
theorem ok : SoundF Try.prog cc 38 A :=
  mkA_ok (E := E) (p := pA) (q := pH) (t := fun (l : TA) => t l.2.1.2.1 l.2.1.2.2.2.1 l.2.1.2.2.2.2.1 l.2.1.2.2.2.2.2.1 l.2.2.1 l.2.2.2.1 l.2.2.2.2.1) sp1_ok hk okF
theorem keep : KeepA A := mkA_keep (U := U) sp1_ok (fun (l : TA) y => ⟨(hh l y).drop 4, by kernel_rfl⟩)
end flash_Flash_Size_v2

/-! (*instar/flash.Flash).words -/
namespace flash_Flash_words_v2
abbrev TA : Type := ((Unit × Unit) × ((Unit × (Int × (Unit × (Int × (Bool × (Int × (Unit × Unit))))))) × ((List Int) × ((List Int) × ((List Int) × Unit)))))
noncomputable def t (h0_1 h0_3 : Int) (h0_4 : Bool) (h0_5 : Int) (h1 : (List Int)) (h2 : (List Int)) (h3 : (List Int)) : Tw Int :=
 (.opt (flash_Flash_Size_v2.c h0_1 h0_3 h0_4 h0_5 h1 h2 h3) fun z1 =>
  (.ret (w64 (z1 * h0_1))))
noncomputable def c (h0_1 h0_3 : Int) (h0_4 : Bool) (h0_5 : Int) (h1 : (List Int)) (h2 : (List Int)) (h3 : (List Int)) : Option Int := (t h0_1 h0_3 h0_4 h0_5 h1 h2 h3).run
def pA : Pt := (.cs (.ptr 0 0) .nl)
def pH : Pt := (.cs (.var (.cs (.own 1) (.cs (.int .i64) (.cs (.own 2) (.cs (.int .i64) (.cs .bool (.cs (.int .i64) (.cs (.own 3) .nl)))))))) (.cs (.row 3 true) (.cs (.row 1 true) (.cs (.row 3 true) .nl))))
def v (l : TA) (y : Int) : AV U := .im (.int .i64 y)
def hh (l : TA) (y : Int) : Hp U := [.var [.own 1, .im (.int .i64 l.2.1.2.1), .own 2, .im (.int .i64 l.2.1.2.2.2.1), .im (.bool l.2.1.2.2.2.2.1), .im (.int .i64 l.2.1.2.2.2.2.2.1), .own 3], .row 3 l.2.2.1 true, .row 1 l.2.2.2.1 true, .row 3 l.2.2.2.2.1 true]
noncomputable def A : AFun U := mkA (U := U) pA pH (X := Int) (fun (l : TA) => c l.2.1.2.1 l.2.1.2.2.2.1 l.2.1.2.2.2.2.1 l.2.1.2.2.2.2.2.1 l.2.2.1 l.2.2.2.1 l.2.2.2.2.1) sp1 v hh
noncomputable def body : Code := (Go.Func.body Try.f105).getD .skip
noncomputable def Γ : List (FuncId × AFun U) := [(38, flash_Flash_Size_v2.A)]
noncomputable def Λ : List (Nat × LFun U) := []
noncomputable def CT : List (Nat × LFun U) := []
def ro : List FuncId := [38]
def D : Nat → Lv × Lv := dtab []
noncomputable def E : Env U := { E0 with Γ := Γ, Λ := Λ, C := CT, D := D, ro := ro }
theorem hk (R : Type) (l : TA) (K : AV U → Hp U → Option R) : funcA E Try.f105 [] R (pA.mkL l.1) (pH.mkH l.2) K = (t l.2.1.2.1 l.2.1.2.2.2.1 l.2.1.2.2.2.2.1 l.2.1.2.2.2.2.2.1 l.2.2.1 l.2.2.2.1 l.2.2.2.2.1).runK fun y => K (v l y) (hh l y) := by kernel_rfl
theorem okF : SoundF Try.prog cc 105 (funcA E Try.f105 []) :=
  funcA_ok (E := E) P_mixed (E0_ok.with Γ Λ CT D ro) (gam_of (all_cons ⟨flash_Flash_Size_v2.ok, ⟨Try.f38, Try.func38, by kernel_rfl, by kernel_rfl⟩⟩ all_nil) (all_cons (fun _ => flash_Flash_Size_v2.keep) all_nil)) Try.func105 (c := body) (by kernel_rfl)
    (just_by (by kernel_rfl) (by kernel_rfl) all_nil all_nil) []
theorem ok : SoundF Try.prog cc 105 A :=
  mkA_ok (E := E) (p := pA) (q := pH) (t := fun (l : TA) => t l.2.1.2.1 l.2.1.2.2.2.1 l.2.1.2.2.2.2.1 l.2.1.2.2.2.2.2.1 l.2.2.1 l.2.2.2.1 l.2.2.2.2.1) sp1_ok hk okF
theorem keep : KeepA A := mkA_keep (U := U) sp1_ok (fun (l : TA) y => ⟨(hh l y).drop 4, by kernel_rfl⟩)
end flash_Flash_words_v2

/-! (*instar/flash.Flash).may -/
namespace flash_Flash_may_v2
abbrev TA : Type := ((Unit × (Int × (Int × Unit))) × ((Unit × (Int × (Unit × (Int × (Bool × (Int × (Unit × Unit))))))) × ((List Int) × ((List Int) × ((List Int) × Unit)))))
noncomputable def t (i n h0_1 h0_3 : Int) (h0_4 : Bool) (h0_5 : Int) (h1 : (List Int)) (h2 : (List Int)) (h3 : (List Int)) : Tw Int :=
 (.bb h0_4
  (.ret (10 : Int))
  (.bb (decide (i < (0 : Int)))
   (.ret (3 : Int))
   (.bb (decide (i ≥ n))
    (.ret (3 : Int))
    (.ret (0 : Int)))))
noncomputable def c (i n h0_1 h0_3 : Int) (h0_4 : Bool) (h0_5 : Int) (h1 : (List Int)) (h2 : (List Int)) (h3 : (List Int)) : Option Int := (t i n h0_1 h0_3 h0_4 h0_5 h1 h2 h3).run
def pA : Pt := (.cs (.ptr 0 0) (.cs (.int .i64) (.cs (.int .i64) .nl)))
def pH : Pt := (.cs (.var (.cs (.own 1) (.cs (.int .i64) (.cs (.own 2) (.cs (.int .i64) (.cs .bool (.cs (.int .i64) (.cs (.own 3) .nl)))))))) (.cs (.row 3 true) (.cs (.row 1 true) (.cs (.row 3 true) .nl))))
def v (l : TA) (y : Int) : AV U := .im (.int .i64 y)
def hh (l : TA) (y : Int) : Hp U := [.var [.own 1, .im (.int .i64 l.2.1.2.1), .own 2, .im (.int .i64 l.2.1.2.2.2.1), .im (.bool l.2.1.2.2.2.2.1), .im (.int .i64 l.2.1.2.2.2.2.2.1), .own 3], .row 3 l.2.2.1 true, .row 1 l.2.2.2.1 true, .row 3 l.2.2.2.2.1 true]
noncomputable def A : AFun U := mkA (U := U) pA pH (X := Int) (fun (l : TA) => c l.1.2.1 l.1.2.2.1 l.2.1.2.1 l.2.1.2.2.2.1 l.2.1.2.2.2.2.1 l.2.1.2.2.2.2.2.1 l.2.2.1 l.2.2.2.1 l.2.2.2.2.1) sp1 v hh
noncomputable def body : Code := (Go.Func.body Try.f93).getD .skip
noncomputable def Γ : List (FuncId × AFun U) := []
noncomputable def Λ : List (Nat × LFun U) := []
noncomputable def CT : List (Nat × LFun U) := []
def ro : List FuncId := []
def D : Nat → Lv × Lv := dtab []
noncomputable def E : Env U := { E0 with Γ := Γ, Λ := Λ, C := CT, D := D, ro := ro }
theorem hk (R : Type) (l : TA) (K : AV U → Hp U → Option R) : funcA E Try.f93 [] R (pA.mkL l.1) (pH.mkH l.2) K = (t l.1.2.1 l.1.2.2.1 l.2.1.2.1 l.2.1.2.2.2.1 l.2.1.2.2.2.2.1 l.2.1.2.2.2.2.2.1 l.2.2.1 l.2.2.2.1 l.2.2.2.2.1).runK fun y => K (v l y) (hh l y) := by kernel_rfl
theorem okF : SoundF Try.prog cc 93 (funcA E Try.f93 []) :=
  funcA_ok (E := E) P_mixed (E0_ok.with Γ Λ CT D ro) (gam_of all_nil all_nil) Try.func93 (c := body) (by kernel_rfl)
    (just_by (by kernel_rfl) (by kernel_rfl) all_nil all_nil) []
theorem ok : SoundF Try.prog cc 93 A :=
  mkA_ok (E := E) (p := pA) (q := pH) (t := fun (l : TA) => t l.1.2.1 l.1.2.2.1 l.2.1.2.1 l.2.1.2.2.2.1 l.2.1.2.2.2.2.1 l.2.1.2.2.2.2.2.1 l.2.2.1 l.2.2.2.1 l.2.2.2.2.1) sp1_ok hk okF
theorem keep : KeepA A := mkA_keep (U := U) sp1_ok (fun (l : TA) y => ⟨(hh l y).drop 4, by kernel_rfl⟩)
end flash_Flash_may_v2

/-! (*instar/flash.Flash).Read -/
namespace flash_Flash_Read_v2
abbrev TA : Type := ((Unit × (Int × Unit)) × ((Unit × (Int × (Unit × (Int × (Bool × (Int × (Unit × Unit))))))) × ((List Int) × ((List Int) × ((List Int) × Unit)))))
noncomputable def t (a h0_1 h0_3 : Int) (h0_4 : Bool) (h0_5 : Int) (h1 : (List Int)) (h2 : (List Int)) (h3 : (List Int)) : Tw (Int × Int) :=
 (.opt (flash_Flash_words_v2.c h0_1 h0_3 h0_4 h0_5 h1 h2 h3) fun z1 =>
  (.opt (flash_Flash_may_v2.c a z1 h0_1 h0_3 h0_4 h0_5 h1 h2 h3) fun z2 =>
   (.bb (z2 != (0 : Int))
    (.ret ((0 : Int), z2))
    (.dd ((((0 : Int) ≤ a) ∧ (a < (((List.length h1) : Nat) : Int)))) inferInstance
     (.opt (h1)[(Int.toNat a)]? fun z3 =>
      (.ret (z3, (0 : Int))))
     .no))))
noncomputable def c (a h0_1 h0_3 : Int) (h0_4 : Bool) (h0_5 : Int) (h1 : (List Int)) (h2 : (List Int)) (h3 : (List Int)) : Option (Int × Int) := (t a h0_1 h0_3 h0_4 h0_5 h1 h2 h3).run
def pA : Pt := (.cs (.ptr 0 0) (.cs (.int .i64) .nl))
def pH : Pt := (.cs (.var (.cs (.own 1) (.cs (.int .i64) (.cs (.own 2) (.cs (.int .i64) (.cs .bool (.cs (.int .i64) (.cs (.own 3) .nl)))))))) (.cs (.row 3 true) (.cs (.row 1 true) (.cs (.row 3 true) .nl))))
def v (l : TA) (y : (Int × Int)) : AV U := .tup [.im (.int .u32 y.1), .im (.int .i64 y.2)]
def hh (l : TA) (y : (Int × Int)) : Hp U := [.var [.own 1, .im (.int .i64 l.2.1.2.1), .own 2, .im (.int .i64 l.2.1.2.2.2.1), .im (.bool l.2.1.2.2.2.2.1), .im (.int .i64 l.2.1.2.2.2.2.2.1), .own 3], .row 3 l.2.2.1 true, .row 1 l.2.2.2.1 true, .row 3 l.2.2.2.2.1 true]
noncomputable def A : AFun U := mkA (U := U) pA pH (X := (Int × Int)) (fun (l : TA) => c l.1.2.1 l.2.1.2.1 l.2.1.2.2.2.1 l.2.1.2.2.2.2.1 l.2.1.2.2.2.2.2.1 l.2.2.1 l.2.2.2.1 l.2.2.2.2.1) sp1 v hh
noncomputable def body : Code := (Go.Func.body Try.f87).getD .skip
noncomputable def Γ : List (FuncId × AFun U) := [(105, flash_Flash_words_v2.A), (93, flash_Flash_may_v2.A)]
noncomputable def Λ : List (Nat × LFun U) := []
noncomputable def CT : List (Nat × LFun U) := []
def ro : List FuncId := [105, 93]
def D : Nat → Lv × Lv := dtab []
noncomputable def E : Env U := { E0 with Γ := Γ, Λ := Λ, C := CT, D := D, ro := ro }
theorem hk (R : Type) (l : TA) (K : AV U → Hp U → Option R) : funcA E Try.f87 [] R (pA.mkL l.1) (pH.mkH l.2) K = (t l.1.2.1 l.2.1.2.1 l.2.1.2.2.2.1 l.2.1.2.2.2.2.1 l.2.1.2.2.2.2.2.1 l.2.2.1 l.2.2.2.1 l.2.2.2.2.1).runK fun y => K (v l y) (hh l y) := by kernel_rfl
theorem okF : SoundF Try.prog cc 87 (funcA E Try.f87 []) :=
  funcA_ok (E := E) P_mixed (E0_ok.with Γ Λ CT D ro) (gam_of (all_cons ⟨flash_Flash_words_v2.ok, ⟨Try.f105, Try.func105, by kernel_rfl, by kernel_rfl⟩⟩ (all_cons ⟨flash_Flash_may_v2.ok, ⟨Try.f93, Try.func93, by kernel_rfl, by kernel_rfl⟩⟩ all_nil)) (all_cons (fun _ => flash_Flash_words_v2.keep) (all_cons (fun _ => flash_Flash_may_v2.keep) all_nil))) Try.func87 (c := body) (by kernel_rfl)
    (just_by (by kernel_rfl) (by kernel_rfl) all_nil all_nil) []
theorem ok : SoundF Try.prog cc 87 A :=
  mkA_ok (E := E) (p := pA) (q := pH) (t := fun (l : TA) => t l.1.2.1 l.2.1.2.1 l.2.1.2.2.2.1 l.2.1.2.2.2.2.1 l.2.1.2.2.2.2.2.1 l.2.2.1 l.2.2.2.1 l.2.2.2.2.1) sp1_ok hk okF
theorem keep : KeepA A := mkA_keep (U := U) sp1_ok (fun (l : TA) y => ⟨(hh l y).drop 4, by kernel_rfl⟩)
end flash_Flash_Read_v2

/-! (*instar/flash.fuse).blows -/
namespace flash_fuse_blows_v2
abbrev TA : Type := ((Unit × Unit) × ((Unit × (Int × (Unit × (Int × (Bool × (Int × (Unit × Unit))))))) × ((List Int) × ((List Int) × ((List Int) × Unit)))))
noncomputable def t (h0_1 h0_3 : Int) (h0_4 : Bool) (h0_5 : Int) (h1 : (List Int)) (h2 : (List Int)) (h3 : (List Int)) : Tw (Bool × Int) :=
 (.bb (decide (h0_5 < (0 : Int)))
  (.ret (false, h0_5))
  (.ret ((decide ((w64 (h0_5 - (1 : Int))) < (0 : Int))), (w64 (h0_5 - (1 : Int))))))
noncomputable def c (h0_1 h0_3 : Int) (h0_4 : Bool) (h0_5 : Int) (h1 : (List Int)) (h2 : (List Int)) (h3 : (List Int)) : Option (Bool × Int) := (t h0_1 h0_3 h0_4 h0_5 h1 h2 h3).run
def pA : Pt := (.cs (.ptr 0 5) .nl)
def pH : Pt := (.cs (.var (.cs (.own 1) (.cs (.int .i64) (.cs (.own 2) (.cs (.int .i64) (.cs .bool (.cs (.int .i64) (.cs (.own 3) .nl)))))))) (.cs (.row 3 true) (.cs (.row 1 true) (.cs (.row 3 true) .nl))))
def v (l : TA) (y : (Bool × Int)) : AV U := .im (.bool y.1)
def hh (l : TA) (y : (Bool × Int)) : Hp U := [.var [.own 1, .im (.int .i64 l.2.1.2.1), .own 2, .im (.int .i64 l.2.1.2.2.2.1), .im (.bool l.2.1.2.2.2.2.1), .im (.int .i64 y.2), .own 3], .row 3 l.2.2.1 true, .row 1 l.2.2.2.1 true, .row 3 l.2.2.2.2.1 true]
noncomputable def A : AFun U := mkA (U := U) pA pH (X := (Bool × Int)) (fun (l : TA) => c l.2.1.2.1 l.2.1.2.2.2.1 l.2.1.2.2.2.2.1 l.2.1.2.2.2.2.2.1 l.2.2.1 l.2.2.2.1 l.2.2.2.2.1) sp1 v hh
noncomputable def body : Code := (Go.Func.body Try.f108).getD .skip
noncomputable def Γ : List (FuncId × AFun U) := []
noncomputable def Λ : List (Nat × LFun U) := []
noncomputable def CT : List (Nat × LFun U) := []
def ro : List FuncId := []
def D : Nat → Lv × Lv := dtab []
noncomputable def E : Env U := { E0 with Γ := Γ, Λ := Λ, C := CT, D := D, ro := ro }
theorem hk (R : Type) (l : TA) (K : AV U → Hp U → Option R) : funcA E Try.f108 [] R (pA.mkL l.1) (pH.mkH l.2) K = (t l.2.1.2.1 l.2.1.2.2.2.1 l.2.1.2.2.2.2.1 l.2.1.2.2.2.2.2.1 l.2.2.1 l.2.2.2.1 l.2.2.2.2.1).runK fun y => K (v l y) (hh l y) := by kernel_rfl
theorem okF : SoundF Try.prog cc 108 (funcA E Try.f108 []) :=
  funcA_ok (E := E) P_mixed (E0_ok.with Γ Λ CT D ro) (gam_of all_nil all_nil) Try.func108 (c := body) (by kernel_rfl)
    (just_by (by kernel_rfl) (by kernel_rfl) all_nil all_nil) []
theorem ok : SoundF Try.prog cc 108 A :=
  mkA_ok (E := E) (p := pA) (q := pH) (t := fun (l : TA) => t l.2.1.2.1 l.2.1.2.2.2.1 l.2.1.2.2.2.2.1 l.2.1.2.2.2.2.2.1 l.2.2.1 l.2.2.2.1 l.2.2.2.2.1) sp1_ok hk okF
end flash_fuse_blows_v2

/-! (*instar/flash.Flash).write -/
namespace flash_Flash_write_v2
abbrev TA : Type := ((Unit × Unit) × ((Unit × (Int × (Unit × (Int × (Bool × (Int × (Unit × Unit))))))) × ((List Int) × ((List Int) × ((List Int) × Unit)))))
noncomputable def t (h0_1 h0_3 : Int) (h0_4 : Bool) (h0_5 : Int) (h1 : (List Int)) (h2 : (List Int)) (h3 : (List Int)) : Tw (Bool × (Int × (Bool × Int))) :=
 (.opt (flash_fuse_blows_v2.c h0_1 (w64 (h0_3 + (1 : Int))) h0_4 h0_5 h1 h2 h3) fun z1 =>
  (.ret (z1.1, ((w64 (h0_3 + (1 : Int))), (z1.1, z1.2)))))
noncomputable def c (h0_1 h0_3 : Int) (h0_4 : Bool) (h0_5 : Int) (h1 : (List Int)) (h2 : (List Int)) (h3 : (List Int)) : Option (Bool × (Int × (Bool × Int))) := (t h0_1 h0_3 h0_4 h0_5 h1 h2 h3).run
def pA : Pt := (.cs (.ptr 0 0) .nl)
def pH : Pt := (.cs (.var (.cs (.own 1) (.cs (.int .i64) (.cs (.own 2) (.cs (.int .i64) (.cs .bool (.cs (.int .i64) (.cs (.own 3) .nl)))))))) (.cs (.row 3 true) (.cs (.row 1 true) (.cs (.row 3 true) .nl))))
def v (l : TA) (y : (Bool × (Int × (Bool × Int)))) : AV U := .im (.bool y.1)
def hh (l : TA) (y : (Bool × (Int × (Bool × Int)))) : Hp U := [.var [.own 1, .im (.int .i64 l.2.1.2.1), .own 2, .im (.int .i64 y.2.1), .im (.bool y.2.2.1), .im (.int .i64 y.2.2.2), .own 3], .row 3 l.2.2.1 true, .row 1 l.2.2.2.1 true, .row 3 l.2.2.2.2.1 true]
noncomputable def A : AFun U := mkA (U := U) pA pH (X := (Bool × (Int × (Bool × Int)))) (fun (l : TA) => c l.2.1.2.1 l.2.1.2.2.2.1 l.2.1.2.2.2.2.1 l.2.1.2.2.2.2.2.1 l.2.2.1 l.2.2.2.1 l.2.2.2.2.1) sp1 v hh
noncomputable def body : Code := (Go.Func.body Try.f94).getD .skip
noncomputable def Γ : List (FuncId × AFun U) := [(108, flash_fuse_blows_v2.A)]
noncomputable def Λ : List (Nat × LFun U) := []
noncomputable def CT : List (Nat × LFun U) := []
def ro : List FuncId := []
def D : Nat → Lv × Lv := dtab []
noncomputable def E : Env U := { E0 with Γ := Γ, Λ := Λ, C := CT, D := D, ro := ro }
theorem hk (R : Type) (l : TA) (K : AV U → Hp U → Option R) : funcA E Try.f94 [] R (pA.mkL l.1) (pH.mkH l.2) K = (t l.2.1.2.1 l.2.1.2.2.2.1 l.2.1.2.2.2.2.1 l.2.1.2.2.2.2.2.1 l.2.2.1 l.2.2.2.1 l.2.2.2.2.1).runK fun y => K (v l y) (hh l y) := by kernel_rfl
theorem okF : SoundF Try.prog cc 94 (funcA E Try.f94 []) :=
  funcA_ok (E := E) P_mixed (E0_ok.with Γ Λ CT D ro) (gam_of (all_cons ⟨flash_fuse_blows_v2.ok, ⟨Try.f108, Try.func108, by kernel_rfl, by kernel_rfl⟩⟩ all_nil) (all_cons (no_keep (by kernel_rfl)) all_nil)) Try.func94 (c := body) (by kernel_rfl)
    (just_by (by kernel_rfl) (by kernel_rfl) all_nil all_nil) []
theorem ok : SoundF Try.prog cc 94 A :=
  mkA_ok (E := E) (p := pA) (q := pH) (t := fun (l : TA) => t l.2.1.2.1 l.2.1.2.2.2.1 l.2.1.2.2.2.2.1 l.2.1.2.2.2.2.2.1 l.2.2.1 l.2.2.2.1 l.2.2.2.2.1) sp1_ok hk okF
end flash_Flash_write_v2

/-! (*instar/flash.fuse).mask -/
namespace flash_fuse_mask_v2
abbrev TA : Type := ((Unit × (Int × Unit)) × ((Unit × (Int × (Unit × (Int × (Bool × (Int × (Unit × Unit))))))) × ((List Int) × ((List Int) × ((List Int) × Unit)))))
noncomputable def t (i h0_1 h0_3 : Int) (h0_4 : Bool) (h0_5 : Int) (h1 : (List Int)) (h2 : (List Int)) (h3 : (List Int)) : Tw Int :=
 (.bb ((((List.length h3) : Nat) : Int) == (0 : Int))
  (.ret (0 : Int))
  (.dd (((((List.length h3) : Nat) : Int) = (0 : Int))) inferInstance
   .no
   (.dd ((((0 : Int) ≤ (Int.tmod i (((List.length h3) : Nat) : Int))) ∧ ((Int.tmod i (((List.length h3) : Nat) : Int)) < (((List.length h3) : Nat) : Int)))) inferInstance
    (.opt (h3)[(Int.toNat (Int.tmod i (((List.length h3) : Nat) : Int)))]? fun z1 =>
     (.ret z1))
    .no)))
noncomputable def c (i h0_1 h0_3 : Int) (h0_4 : Bool) (h0_5 : Int) (h1 : (List Int)) (h2 : (List Int)) (h3 : (List Int)) : Option Int := (t i h0_1 h0_3 h0_4 h0_5 h1 h2 h3).run
def pA : Pt := (.cs (.ptr 0 5) (.cs (.int .i64) .nl))
def pH : Pt := (.cs (.var (.cs (.own 1) (.cs (.int .i64) (.cs (.own 2) (.cs (.int .i64) (.cs .bool (.cs (.int .i64) (.cs (.own 3) .nl)))))))) (.cs (.row 3 true) (.cs (.row 1 true) (.cs (.row 3 true) .nl))))
def v (l : TA) (y : Int) : AV U := .im (.int .u32 y)
def hh (l : TA) (y : Int) : Hp U := [.var [.own 1, .im (.int .i64 l.2.1.2.1), .own 2, .im (.int .i64 l.2.1.2.2.2.1), .im (.bool l.2.1.2.2.2.2.1), .im (.int .i64 l.2.1.2.2.2.2.2.1), .own 3], .row 3 l.2.2.1 true, .row 1 l.2.2.2.1 true, .row 3 l.2.2.2.2.1 true]
noncomputable def A : AFun U := mkA (U := U) pA pH (X := Int) (fun (l : TA) => c l.1.2.1 l.2.1.2.1 l.2.1.2.2.2.1 l.2.1.2.2.2.2.1 l.2.1.2.2.2.2.2.1 l.2.2.1 l.2.2.2.1 l.2.2.2.2.1) sp1 v hh
noncomputable def body : Code := (Go.Func.body Try.f95).getD .skip
noncomputable def Γ : List (FuncId × AFun U) := []
noncomputable def Λ : List (Nat × LFun U) := []
noncomputable def CT : List (Nat × LFun U) := []
def ro : List FuncId := []
def D : Nat → Lv × Lv := dtab []
noncomputable def E : Env U := { E0 with Γ := Γ, Λ := Λ, C := CT, D := D, ro := ro }
theorem hk (R : Type) (l : TA) (K : AV U → Hp U → Option R) : funcA E Try.f95 [] R (pA.mkL l.1) (pH.mkH l.2) K = (t l.1.2.1 l.2.1.2.1 l.2.1.2.2.2.1 l.2.1.2.2.2.2.1 l.2.1.2.2.2.2.2.1 l.2.2.1 l.2.2.2.1 l.2.2.2.2.1).runK fun y => K (v l y) (hh l y) := by kernel_rfl
theorem okF : SoundF Try.prog cc 95 (funcA E Try.f95 []) :=
  funcA_ok (E := E) P_mixed (E0_ok.with Γ Λ CT D ro) (gam_of all_nil all_nil) Try.func95 (c := body) (by kernel_rfl)
    (just_by (by kernel_rfl) (by kernel_rfl) all_nil all_nil) []
theorem ok : SoundF Try.prog cc 95 A :=
  mkA_ok (E := E) (p := pA) (q := pH) (t := fun (l : TA) => t l.1.2.1 l.2.1.2.1 l.2.1.2.2.2.1 l.2.1.2.2.2.2.1 l.2.1.2.2.2.2.2.1 l.2.2.1 l.2.2.2.1 l.2.2.2.2.1) sp1_ok hk okF
theorem keep : KeepA A := mkA_keep (U := U) sp1_ok (fun (l : TA) y => ⟨(hh l y).drop 4, by kernel_rfl⟩)
end flash_fuse_mask_v2

/-! (*instar/flash.Flash).Erase -/
namespace flash_Flash_Erase_v2
abbrev TA : Type := ((Unit × (Int × Unit)) × ((Unit × (Int × (Unit × (Int × (Bool × (Int × (Unit × Unit))))))) × ((List Int) × ((List Int) × ((List Int) × Unit)))))
abbrev T8 : Type := ((Unit × (Unit × (Bool × (Int × ((Nat × Nat) × (Unit × Unit)))))) × ((Unit × (Int × (Unit × (Int × (Bool × (Int × (Unit × Unit))))))) × ((List Int) × ((List Int) × ((List Int) × Unit)))))
noncomputable def l8 (torn : Bool) (sector_o : Nat) (sector_n : Nat) (h0_1 h0_3 : Int) (h0_4 : Bool) (h0_5 : Int) (h2 : (List Int)) (h3 : (List Int)) (i : Int) (h1 : (List Int)) : Tw ((Int × (List Int)) ⊕ (List Int)) :=
 (.bb (decide (i < h0_1))
  (.bb torn
   (.opt (flash_fuse_mask_v2.c i h0_1 h0_3 h0_4 h0_5 h1 h2 h3) fun z9 =>
    (.dd ((((0 : Int) ≤ i) ∧ (i < ((sector_n : Nat) : Int)))) inferInstance
     (.opt (h1)[(sector_o + (Int.toNat i))]? fun z10 =>
      (.opt (word_Raised.c z10 z9) fun z11 =>
       (.dd ((((0 : Int) ≤ i) ∧ (i < ((sector_n : Nat) : Int)))) inferInstance
        (.opt (h1)[(sector_o + (Int.toNat i))]? fun z12 =>
         (.ret (.inl ((w64 (i + (1 : Int))), (List.set h1 (sector_o + (Int.toNat i)) z11)))))
        .no)))
     .no))
   (.dd ((((0 : Int) ≤ i) ∧ (i < ((sector_n : Nat) : Int)))) inferInstance
    (.opt (h1)[(sector_o + (Int.toNat i))]? fun z6 =>
     (.opt (word_Raised.c z6 (4294967295 : Int)) fun z7 =>
      (.dd ((((0 : Int) ≤ i) ∧ (i < ((sector_n : Nat) : Int)))) inferInstance
       (.opt (h1)[(sector_o + (Int.toNat i))]? fun z8 =>
        (.ret (.inl ((w64 (i + (1 : Int))), (List.set h1 (sector_o + (Int.toNat i)) z7)))))
       .no)))
    .no))
  (.ret (.inr h1)))
noncomputable def L8 (torn : Bool) (i : Int) (sector_o : Nat) (sector_n : Nat) (h0_1 h0_3 : Int) (h0_4 : Bool) (h0_5 : Int) (h1 : (List Int)) (h2 : (List Int)) (h3 : (List Int)) : Option (List Int) := Lp (fun s => (l8 torn sector_o sector_n h0_1 h0_3 h0_4 h0_5 h2 h3 s.1 s.2).run) (i, h1)
def p8 : Pt := (.cs (.ptr 0 0) (.cs (.bots 7) (.cs .bool (.cs (.int .i64) (.cs (.sub 1 1) (.cs (.bots 64) .nl))))))
def q8 : Pt := (.cs (.var (.cs (.own 1) (.cs (.int .i64) (.cs (.own 2) (.cs (.int .i64) (.cs .bool (.cs (.int .i64) (.cs (.own 3) .nl)))))))) (.cs (.row 3 true) (.cs (.row 1 true) (.cs (.row 3 true) .nl))))
def ou8 (l : T8) (y : (List Int)) : Ex × St U := (.exit 0, stOf 75 [(8, .im (.bool l.1.2.2.1))] [.var [.own 1, .im (.int .i64 l.2.1.2.1), .own 2, .im (.int .i64 l.2.1.2.2.2.1), .im (.bool l.2.1.2.2.2.2.1), .im (.int .i64 l.2.1.2.2.2.2.2.1), .own 3], .row 3 y true, .row 1 l.2.2.2.1 true, .row 3 l.2.2.2.2.1 true] 4)
noncomputable def Λ8 : LFun U := mkLp (U := U) p8 q8 4 (X := (List Int)) (fun (l : T8) => L8 l.1.2.2.1 l.1.2.2.2.1 l.1.2.2.2.2.1.1 l.1.2.2.2.2.1.2 l.2.1.2.1 l.2.1.2.2.2.1 l.2.1.2.2.2.2.1 l.2.1.2.2.2.2.2.1 l.2.2.1 l.2.2.2.1 l.2.2.2.2.1) sp1 ou8
noncomputable def t (s_ h0_1 h0_3 : Int) (h0_4 : Bool) (h0_5 : Int) (h1 : (List Int)) (h2 : (List Int)) (h3 : (List Int)) : Tw (Int × (Int × (Bool × (Int × ((List Int) × (List Int)))))) :=
 (.opt (flash_Flash_Size_v2.c h0_1 h0_3 h0_4 h0_5 h1 h2 h3) fun z1 =>
  (.opt (flash_Flash_may_v2.c s_ z1 h0_1 h0_3 h0_4 h0_5 h1 h2 h3) fun z2 =>
   (.bb (z2 != (0 : Int))
    (.ret (z2, (h0_3, (h0_4, (h0_5, (h1, h2))))))
    (.dd ((((0 : Int) ≤ s_) ∧ (s_ < (((List.length h2) : Nat) : Int)))) inferInstance
     (.opt (h2)[(Int.toNat s_)]? fun z3 =>
      (.dd ((((0 : Int) ≤ s_) ∧ (s_ < (((List.length h2) : Nat) : Int)))) inferInstance
       (.opt (h2)[(Int.toNat s_)]? fun z4 =>
        (.opt (flash_Flash_write_v2.c h0_1 h0_3 h0_4 h0_5 h1 (List.set h2 (Int.toNat s_) (w64 (z3 + (1 : Int)))) h3) fun z5 =>
         (.dd ((((0 : Int) ≤ (w64 (s_ * h0_1))) ∧ ((w64 (s_ * h0_1)) ≤ (((List.length h1) : Nat) : Int)))) inferInstance
          (.dd ((((0 : Int) ≤ h0_1) ∧ (h0_1 ≤ ((((List.length h1) - (Int.toNat (w64 (s_ * h0_1)))) : Nat) : Int)))) inferInstance
           (.opt (L8 z5.1 (0 : Int) ((Int.toNat (w64 (s_ * h0_1))) + (0 : Nat)) ((Int.toNat h0_1) - (0 : Nat)) h0_1 z5.2.1 z5.2.2.1 z5.2.2.2 h1 (List.set h2 (Int.toNat s_) (w64 (z3 + (1 : Int)))) h3) fun z13 =>
            (.bb z5.1
             (.ret ((10 : Int), (z5.2.1, (z5.2.2.1, (z5.2.2.2, (z13, (List.set h2 (Int.toNat s_) (w64 (z3 + (1 : Int))))))))))
             (.ret ((0 : Int), (z5.2.1, (z5.2.2.1, (z5.2.2.2, (z13, (List.set h2 (Int.toNat s_) (w64 (z3 + (1 : Int))))))))))))
           .no)
          .no)))
       .no))
     .no))))
noncomputable def c (s_ h0_1 h0_3 : Int) (h0_4 : Bool) (h0_5 : Int) (h1 : (List Int)) (h2 : (List Int)) (h3 : (List Int)) : Option (Int × (Int × (Bool × (Int × ((List Int) × (List Int)))))) := (t s_ h0_1 h0_3 h0_4 h0_5 h1 h2 h3).run
def pA : Pt := (.cs (.ptr 0 0) (.cs (.int .i64) .nl))
def pH : Pt := (.cs (.var (.cs (.own 1) (.cs (.int .i64) (.cs (.own 2) (.cs (.int .i64) (.cs .bool (.cs (.int .i64) (.cs (.own 3) .nl)))))))) (.cs (.row 3 true) (.cs (.row 1 true) (.cs (.row 3 true) .nl))))
def v (l : TA) (y : (Int × (Int × (Bool × (Int × ((List Int) × (List Int))))))) : AV U := .im (.int .i64 y.1)
def hh (l : TA) (y : (Int × (Int × (Bool × (Int × ((List Int) × (List Int))))))) : Hp U := [.var [.own 1, .im (.int .i64 l.2.1.2.1), .own 2, .im (.int .i64 y.2.1), .im (.bool y.2.2.1), .im (.int .i64 y.2.2.2.1), .own 3], .row 3 y.2.2.2.2.1 true, .row 1 y.2.2.2.2.2 true, .row 3 l.2.2.2.2.1 true]
noncomputable def A : AFun U := mkA (U := U) pA pH (X := (Int × (Int × (Bool × (Int × ((List Int) × (List Int))))))) (fun (l : TA) => c l.1.2.1 l.2.1.2.1 l.2.1.2.2.2.1 l.2.1.2.2.2.2.1 l.2.1.2.2.2.2.2.1 l.2.2.1 l.2.2.2.1 l.2.2.2.2.1) sp1 v hh
noncomputable def body : Code := (Go.Func.body Try.f67).getD .skip
noncomputable def Γ : List (FuncId × AFun U) := [(38, flash_Flash_Size_v2.A), (93, flash_Flash_may_v2.A), (94, flash_Flash_write_v2.A), (96, word_Raised.A), (95, flash_fuse_mask_v2.A)]
noncomputable def Λ : List (Nat × LFun U) := [(8, Λ8)]
noncomputable def CT : List (Nat × LFun U) := []
def ro : List FuncId := [38, 93, 95]
def D : Nat → Lv × Lv := dtab [(8, ⟨[9, 10, 0, 8], []⟩, ⟨[4, 8], []⟩)]
noncomputable def E : Env U := { E0 with Γ := Γ, Λ := Λ, C := CT, D := D, ro := ro }
theorem hf8 (R : Type) (l : T8) (s : (Int × (List Int))) (K : Ex → St U → Option R) : codeA E (pick (loopsOf body) 8) ⟨p8.mkL ((((), ((), (l.1.2.2.1, (s.1, ((l.1.2.2.2.2.1.1, l.1.2.2.2.2.1.2), ((), ())))))), (((), (l.2.1.2.1, ((), (l.2.1.2.2.2.1, (l.2.1.2.2.2.2.1, (l.2.1.2.2.2.2.2.1, ((), ()))))))), (s.2, (l.2.2.2.1, (l.2.2.2.2.1, ()))))) : T8).1, q8.mkH ((((), ((), (l.1.2.2.1, (s.1, ((l.1.2.2.2.2.1.1, l.1.2.2.2.2.1.2), ((), ())))))), (((), (l.2.1.2.1, ((), (l.2.1.2.2.2.1, (l.2.1.2.2.2.2.1, (l.2.1.2.2.2.2.2.1, ((), ()))))))), (s.2, (l.2.2.2.1, (l.2.2.2.2.1, ()))))) : T8).2, 4⟩ (roundK E (pick (loopsOf body) 8) K) =
  (l8 l.1.2.2.1 l.1.2.2.2.2.1.1 l.1.2.2.2.2.1.2 l.2.1.2.1 l.2.1.2.2.2.1 l.2.1.2.2.2.2.1 l.2.1.2.2.2.2.2.1 l.2.2.2.1 l.2.2.2.2.1 s.1 s.2).runK (lpK K (fun s => ⟨p8.mkL ((((), ((), (l.1.2.2.1, (s.1, ((l.1.2.2.2.2.1.1, l.1.2.2.2.2.1.2), ((), ())))))), (((), (l.2.1.2.1, ((), (l.2.1.2.2.2.1, (l.2.1.2.2.2.2.1, (l.2.1.2.2.2.2.2.1, ((), ()))))))), (s.2, (l.2.2.2.1, (l.2.2.2.2.1, ()))))) : T8).1, q8.mkH ((((), ((), (l.1.2.2.1, (s.1, ((l.1.2.2.2.2.1.1, l.1.2.2.2.2.1.2), ((), ())))))), (((), (l.2.1.2.1, ((), (l.2.1.2.2.2.1, (l.2.1.2.2.2.2.1, (l.2.1.2.2.2.2.2.1, ((), ()))))))), (s.2, (l.2.2.2.1, (l.2.2.2.2.1, ()))))) : T8).2, 4⟩) sp1 (ou8 l)) := by kernel_rfl
theorem lk8 (R : Type) (st : St U) (K : Ex → St U → Option R) (r : R) (h : Λ8 R st K = some r) : ∃ n, loopA E (pick (loopsOf body) 8) n st K = some r :=
  lp_ok (U := U) (E := E) (b := pick (loopsOf body) 8) (m := 4) (sp := sp1) (p := p8) (q := q8) (X := (List Int)) (S := (Int × (List Int))) (f := fun (l : T8) s => l8 l.1.2.2.1 l.1.2.2.2.2.1.1 l.1.2.2.2.2.1.2 l.2.1.2.1 l.2.1.2.2.2.1 l.2.1.2.2.2.2.1 l.2.1.2.2.2.2.2.1 l.2.2.2.1 l.2.2.2.2.1 s.1 s.2) (hd := fun (l : T8) s => (((), ((), (l.1.2.2.1, (s.1, ((l.1.2.2.2.2.1.1, l.1.2.2.2.2.1.2), ((), ())))))), (((), (l.2.1.2.1, ((), (l.2.1.2.2.2.1, (l.2.1.2.2.2.2.1, (l.2.1.2.2.2.2.2.1, ((), ()))))))), (s.2, (l.2.2.2.1, (l.2.2.2.2.1, ())))))) (s0 := fun (l : T8) => (l.1.2.2.2.1, l.2.2.1)) (ou := ou8)
    (fun l => rfl) (fun l x => by rfl) sp1_ok hf8 h
theorem hk (R : Type) (l : TA) (K : AV U → Hp U → Option R) : funcA E Try.f67 [] R (pA.mkL l.1) (pH.mkH l.2) K = (t l.1.2.1 l.2.1.2.1 l.2.1.2.2.2.1 l.2.1.2.2.2.2.1 l.2.1.2.2.2.2.2.1 l.2.2.1 l.2.2.2.1 l.2.2.2.2.1).runK fun y => K (v l y) (hh l y) := by kernel_rfl
theorem okF : SoundF Try.prog cc 67 (funcA E Try.f67 []) :=
  funcA_ok (E := E) P_mixed (E0_ok.with Γ Λ CT D ro) (gam_of (all_cons ⟨flash_Flash_Size_v2.ok, ⟨Try.f38, Try.func38, by kernel_rfl, by kernel_rfl⟩⟩ (all_cons ⟨flash_Flash_may_v2.ok, ⟨Try.f93, Try.func93, by kernel_rfl, by kernel_rfl⟩⟩ (all_cons ⟨flash_Flash_write_v2.ok, ⟨Try.f94, Try.func94, by kernel_rfl, by kernel_rfl⟩⟩ (all_cons ⟨word_Raised.ok, ⟨Try.f96, Try.func96, by kernel_rfl, by kernel_rfl⟩⟩ (all_cons ⟨flash_fuse_mask_v2.ok, ⟨Try.f95, Try.func95, by kernel_rfl, by kernel_rfl⟩⟩ all_nil))))) (all_cons (fun _ => flash_Flash_Size_v2.keep) (all_cons (fun _ => flash_Flash_may_v2.keep) (all_cons (no_keep (by kernel_rfl)) (all_cons (no_keep (by kernel_rfl)) (all_cons (fun _ => flash_fuse_mask_v2.keep) all_nil)))))) Try.func67 (c := body) (by kernel_rfl)
    (just_by (by kernel_rfl) (by kernel_rfl) (all_cons lk8 all_nil) all_nil) []
theorem ok : SoundF Try.prog cc 67 A :=
  mkA_ok (E := E) (p := pA) (q := pH) (t := fun (l : TA) => t l.1.2.1 l.2.1.2.1 l.2.1.2.2.2.1 l.2.1.2.2.2.2.1 l.2.1.2.2.2.2.2.1 l.2.2.1 l.2.2.2.1 l.2.2.2.2.1) sp1_ok hk okF
end flash_Flash_Erase_v2

/-! (*instar/flash.Flash).Program -/
namespace flash_Flash_Program_v2
abbrev TA : Type := ((Unit × (Int × (Int × Unit))) × ((Unit × (Int × (Unit × (Int × (Bool × (Int × (Unit × Unit))))))) × ((List Int) × ((List Int) × ((List Int) × Unit)))))
noncomputable def t (a x h0_1 h0_3 : Int) (h0_4 : Bool) (h0_5 : Int) (h1 : (List Int)) (h2 : (List Int)) (h3 : (List Int)) : Tw (Int × (Int × (Bool × (Int × (List Int))))) :=
 (.opt (flash_Flash_words_v2.c h0_1 h0_3 h0_4 h0_5 h1 h2 h3) fun z1 =>
  (.opt (flash_Flash_may_v2.c a z1 h0_1 h0_3 h0_4 h0_5 h1 h2 h3) fun z2 =>
   (.bb (z2 != (0 : Int))
    (.ret (z2, (h0_3, (h0_4, (h0_5, h1)))))
    (.dd ((((0 : Int) ≤ a) ∧ (a < (((List.length h1) : Nat) : Int)))) inferInstance
     (.opt (h1)[(Int.toNat a)]? fun z3 =>
      (.opt (word_Within.c x z3) fun z4 =>
       (.bb (!z4)
        (.ret ((11 : Int), (h0_3, (h0_4, (h0_5, h1)))))
        (.opt (flash_Flash_write_v2.c h0_1 h0_3 h0_4 h0_5 h1 h2 h3) fun z5 =>
         (.bb z5.1
          (.dd ((((0 : Int) ≤ a) ∧ (a < (((List.length h1) : Nat) : Int)))) inferInstance
           (.opt (h1)[(Int.toNat a)]? fun z7 =>
            (.opt (flash_fuse_mask_v2.c (0 : Int) h0_1 z5.2.1 z5.2.2.1 z5.2.2.2 h1 h2 h3) fun z8 =>
             (.opt (word_Torn.c z7 x z8) fun z9 =>
              (.dd ((((0 : Int) ≤ a) ∧ (a < (((List.length h1) : Nat) : Int)))) inferInstance
               (.opt (h1)[(Int.toNat a)]? fun z10 =>
                (.ret ((10 : Int), (z5.2.1, (z5.2.2.1, (z5.2.2.2, (List.set h1 (Int.toNat a) z9)))))))
               .no))))
           .no)
          (.dd ((((0 : Int) ≤ a) ∧ (a < (((List.length h1) : Nat) : Int)))) inferInstance
           (.opt (h1)[(Int.toNat a)]? fun z6 =>
            (.ret ((0 : Int), (z5.2.1, (z5.2.2.1, (z5.2.2.2, (List.set h1 (Int.toNat a) x)))))))
           .no))))))
     .no))))
noncomputable def c (a x h0_1 h0_3 : Int) (h0_4 : Bool) (h0_5 : Int) (h1 : (List Int)) (h2 : (List Int)) (h3 : (List Int)) : Option (Int × (Int × (Bool × (Int × (List Int))))) := (t a x h0_1 h0_3 h0_4 h0_5 h1 h2 h3).run
def pA : Pt := (.cs (.ptr 0 0) (.cs (.int .i64) (.cs (.int .u32) .nl)))
def pH : Pt := (.cs (.var (.cs (.own 1) (.cs (.int .i64) (.cs (.own 2) (.cs (.int .i64) (.cs .bool (.cs (.int .i64) (.cs (.own 3) .nl)))))))) (.cs (.row 3 true) (.cs (.row 1 true) (.cs (.row 3 true) .nl))))
def v (l : TA) (y : (Int × (Int × (Bool × (Int × (List Int)))))) : AV U := .im (.int .i64 y.1)
def hh (l : TA) (y : (Int × (Int × (Bool × (Int × (List Int)))))) : Hp U := [.var [.own 1, .im (.int .i64 l.2.1.2.1), .own 2, .im (.int .i64 y.2.1), .im (.bool y.2.2.1), .im (.int .i64 y.2.2.2.1), .own 3], .row 3 y.2.2.2.2 true, .row 1 l.2.2.2.1 true, .row 3 l.2.2.2.2.1 true]
noncomputable def A : AFun U := mkA (U := U) pA pH (X := (Int × (Int × (Bool × (Int × (List Int)))))) (fun (l : TA) => c l.1.2.1 l.1.2.2.1 l.2.1.2.1 l.2.1.2.2.2.1 l.2.1.2.2.2.2.1 l.2.1.2.2.2.2.2.1 l.2.2.1 l.2.2.2.1 l.2.2.2.2.1) sp1 v hh
noncomputable def body : Code := (Go.Func.body Try.f86).getD .skip
noncomputable def Γ : List (FuncId × AFun U) := [(105, flash_Flash_words_v2.A), (93, flash_Flash_may_v2.A), (84, word_Within.A), (94, flash_Flash_write_v2.A), (95, flash_fuse_mask_v2.A), (106, word_Torn.A)]
noncomputable def Λ : List (Nat × LFun U) := []
noncomputable def CT : List (Nat × LFun U) := []
def ro : List FuncId := [105, 93, 95]
def D : Nat → Lv × Lv := dtab []
noncomputable def E : Env U := { E0 with Γ := Γ, Λ := Λ, C := CT, D := D, ro := ro }
theorem hk (R : Type) (l : TA) (K : AV U → Hp U → Option R) : funcA E Try.f86 [] R (pA.mkL l.1) (pH.mkH l.2) K = (t l.1.2.1 l.1.2.2.1 l.2.1.2.1 l.2.1.2.2.2.1 l.2.1.2.2.2.2.1 l.2.1.2.2.2.2.2.1 l.2.2.1 l.2.2.2.1 l.2.2.2.2.1).runK fun y => K (v l y) (hh l y) := by kernel_rfl
theorem okF : SoundF Try.prog cc 86 (funcA E Try.f86 []) :=
  funcA_ok (E := E) P_mixed (E0_ok.with Γ Λ CT D ro) (gam_of (all_cons ⟨flash_Flash_words_v2.ok, ⟨Try.f105, Try.func105, by kernel_rfl, by kernel_rfl⟩⟩ (all_cons ⟨flash_Flash_may_v2.ok, ⟨Try.f93, Try.func93, by kernel_rfl, by kernel_rfl⟩⟩ (all_cons ⟨word_Within.ok, ⟨Try.f84, Try.func84, by kernel_rfl, by kernel_rfl⟩⟩ (all_cons ⟨flash_Flash_write_v2.ok, ⟨Try.f94, Try.func94, by kernel_rfl, by kernel_rfl⟩⟩ (all_cons ⟨flash_fuse_mask_v2.ok, ⟨Try.f95, Try.func95, by kernel_rfl, by kernel_rfl⟩⟩ (all_cons ⟨word_Torn.ok, ⟨Try.f106, Try.func106, by kernel_rfl, by kernel_rfl⟩⟩ all_nil)))))) (all_cons (fun _ => flash_Flash_words_v2.keep) (all_cons (fun _ => flash_Flash_may_v2.keep) (all_cons (no_keep (by kernel_rfl)) (all_cons (no_keep (by kernel_rfl)) (all_cons (fun _ => flash_fuse_mask_v2.keep) (all_cons (no_keep (by kernel_rfl)) all_nil))))))) Try.func86 (c := body) (by kernel_rfl)
    (just_by (by kernel_rfl) (by kernel_rfl) all_nil all_nil) []
theorem ok : SoundF Try.prog cc 86 A :=
  mkA_ok (E := E) (p := pA) (q := pH) (t := fun (l : TA) => t l.1.2.1 l.1.2.2.1 l.2.1.2.1 l.2.1.2.2.2.1 l.2.1.2.2.2.2.1 l.2.1.2.2.2.2.2.1 l.2.2.1 l.2.2.2.1 l.2.2.2.2.1) sp1_ok hk okF
end flash_Flash_Program_v2

/-! instar/flash.New -/
namespace flash_New
abbrev TA : Type := ((Int × (Int × Unit)) × Unit)
abbrev T5 : Type := ((Unit × (Unit × (Unit × (Int × (Int × (Unit × Unit)))))) × ((Unit × (Int × (Unit × (Int × (Bool × (Int × (Unit × Unit))))))) × ((List Int) × ((List Int) × Unit))))
noncomputable def l5 (k36 h0_1 h0_3 : Int) (h0_4 : Bool) (h0_5 : Int) (h2 : (List Int)) (k37 : Int) (h1 : (List Int)) : Tw ((Int × (List Int)) ⊕ (List Int)) :=
 (.bb (decide (k37 < k36))
  (.dd ((((0 : Int) ≤ k37) ∧ (k37 < (((List.length h1) : Nat) : Int)))) inferInstance
   (.opt (h1)[(Int.toNat k37)]? fun z1 =>
    (.ret (.inl ((w64 (k37 + (1 : Int))), (List.set h1 (Int.toNat k37) (4294967295 : Int))))))
   .no)
  (.ret (.inr h1)))
noncomputable def L5 (k36 k37 h0_1 h0_3 : Int) (h0_4 : Bool) (h0_5 : Int) (h1 : (List Int)) (h2 : (List Int)) : Option (List Int) := Lp (fun s => (l5 k36 h0_1 h0_3 h0_4 h0_5 h2 s.1 s.2).run) (k37, h1)
def p5 : Pt := (.cs (.bots 6) (.cs (.ptr 0 0) (.cs (.bots 29) (.cs (.int .i64) (.cs (.int .i64) (.cs (.bots 10) .nl))))))
def q5 : Pt := (.cs (.var (.cs (.own 1) (.cs (.int .i64) (.cs (.own 2) (.cs (.int .i64) (.cs .bool (.cs (.int .i64) (.cs .nils .nl)))))))) (.cs (.row 3 true) (.cs (.row 1 true) .nl)))
def ou5 (l : T5) (y : (List Int)) : Ex × St U := (.exit 0, stOf 48 [(6, .ptr 0 0)] [.var [.own 1, .im (.int .i64 l.2.1.2.1), .own 2, .im (.int .i64 l.2.1.2.2.2.1), .im (.bool l.2.1.2.2.2.2.1), .im (.int .i64 l.2.1.2.2.2.2.2.1), .im .nils], .row 3 y true, .row 1 l.2.2.2.1 true] 0)
noncomputable def Λ5 : LFun U := mkLp (U := U) p5 q5 0 (X := (List Int)) (fun (l : T5) => L5 l.1.2.2.2.1 l.1.2.2.2.2.1 l.2.1.2.1 l.2.1.2.2.2.1 l.2.1.2.2.2.2.1 l.2.1.2.2.2.2.2.1 l.2.2.1 l.2.2.2.1) sp1 ou5
noncomputable def t (sectors words : Int) : Tw ((Int × (Int × (Bool × (Int × ((List Int) × (List Int)))))) ⊕ Int) :=
 (.bb (decide (sectors < (1 : Int)))
  (.ret (.inr (2 : Int)))
  (.bb (decide (sectors > (512 : Int)))
   (.ret (.inr (2 : Int)))
   (.bb (decide (words < (1 : Int)))
    (.ret (.inr (2 : Int)))
    (.bb (decide (words > (1024 : Int)))
     (.ret (.inr (2 : Int)))
     (.dd ((((0 : Int) ≤ (w64 (sectors * words))) ∧ (((w64 (sectors * words)) ≤ (w64 (sectors * words))) ∧ (((w64 (sectors * words)) ≤ (140737488355328 : Int)) ∧ (((w64 (sectors * words)) * (((4 : Nat) : Nat) : Int)) ≤ (140737488355328 : Int)))))) inferInstance
      (.dd ((((0 : Int) ≤ sectors) ∧ ((sectors ≤ sectors) ∧ ((sectors ≤ (140737488355328 : Int)) ∧ ((sectors * (((8 : Nat) : Nat) : Int)) ≤ (140737488355328 : Int)))))) inferInstance
       (.opt (L5 (((List.length (List.replicate (Int.toNat (w64 (sectors * words))) (0 : Int))) : Nat) : Int) (0 : Int) words (0 : Int) false (-(1 : Int)) (List.replicate (Int.toNat (w64 (sectors * words))) (0 : Int)) (List.replicate (Int.toNat sectors) (0 : Int))) fun z2 =>
        (.ret (.inl ((0 : Int), ((0 : Int), (false, ((-(1 : Int)), (z2, (List.replicate (Int.toNat sectors) (0 : Int))))))))))
       .no)
      .no)))))
noncomputable def c (sectors words : Int) : Option ((Int × (Int × (Bool × (Int × ((List Int) × (List Int)))))) ⊕ Int) := (t sectors words).run
def pA : Pt := (.cs (.int .i64) (.cs (.int .i64) .nl))
def pH : Pt := .nl
def v (l : TA) (y : ((Int × (Int × (Bool × (Int × ((List Int) × (List Int)))))) ⊕ Int)) : AV U := (Sum.elim (fun a0 => .tup [.ptr 0 0, .im (.int .i64 a0.1)]) (fun b0 => .tup [.im .nilp, .im (.int .i64 b0)]) y)
def hh (l : TA) (y : ((Int × (Int × (Bool × (Int × ((List Int) × (List Int)))))) ⊕ Int)) : Hp U := (Sum.elim (fun a0 => [.var [.own 1, .im (.int .i64 l.1.2.1), .own 2, .im (.int .i64 a0.2.1), .im (.bool a0.2.2.1), .im (.int .i64 a0.2.2.2.1), .im .nils], .row 3 a0.2.2.2.2.1 true, .row 1 a0.2.2.2.2.2 true]) (fun b0 => []) y)
noncomputable def A : AFun U := mkA (U := U) pA pH (X := ((Int × (Int × (Bool × (Int × ((List Int) × (List Int)))))) ⊕ Int)) (fun (l : TA) => c l.1.1 l.1.2.1) (spS sp1) v hh
noncomputable def body : Code := (Go.Func.body Try.f16).getD .skip
noncomputable def Γ : List (FuncId × AFun U) := []
noncomputable def Λ : List (Nat × LFun U) := [(5, Λ5)]
noncomputable def CT : List (Nat × LFun U) := []
def ro : List FuncId := []
def D : Nat → Lv × Lv := dtab [(5, ⟨[37, 6, 36], []⟩, ⟨[4, 5, 6], []⟩)]
noncomputable def E : Env U := { E0 with Γ := Γ, Λ := Λ, C := CT, D := D, ro := ro }
theorem hf5 (R : Type) (l : T5) (s : (Int × (List Int))) (K : Ex → St U → Option R) : codeA E (pick (loopsOf body) 5) ⟨p5.mkL ((((), ((), ((), (l.1.2.2.2.1, (s.1, ((), ())))))), (((), (l.2.1.2.1, ((), (l.2.1.2.2.2.1, (l.2.1.2.2.2.2.1, (l.2.1.2.2.2.2.2.1, ((), ()))))))), (s.2, (l.2.2.2.1, ())))) : T5).1, q5.mkH ((((), ((), ((), (l.1.2.2.2.1, (s.1, ((), ())))))), (((), (l.2.1.2.1, ((), (l.2.1.2.2.2.1, (l.2.1.2.2.2.2.1, (l.2.1.2.2.2.2.2.1, ((), ()))))))), (s.2, (l.2.2.2.1, ())))) : T5).2, 0⟩ (roundK E (pick (loopsOf body) 5) K) =
  (l5 l.1.2.2.2.1 l.2.1.2.1 l.2.1.2.2.2.1 l.2.1.2.2.2.2.1 l.2.1.2.2.2.2.2.1 l.2.2.2.1 s.1 s.2).runK (lpK K (fun s => ⟨p5.mkL ((((), ((), ((), (l.1.2.2.2.1, (s.1, ((), ())))))), (((), (l.2.1.2.1, ((), (l.2.1.2.2.2.1, (l.2.1.2.2.2.2.1, (l.2.1.2.2.2.2.2.1, ((), ()))))))), (s.2, (l.2.2.2.1, ())))) : T5).1, q5.mkH ((((), ((), ((), (l.1.2.2.2.1, (s.1, ((), ())))))), (((), (l.2.1.2.1, ((), (l.2.1.2.2.2.1, (l.2.1.2.2.2.2.1, (l.2.1.2.2.2.2.2.1, ((), ()))))))), (s.2, (l.2.2.2.1, ())))) : T5).2, 0⟩) sp1 (ou5 l)) := by kernel_rfl
theorem lk5 (R : Type) (st : St U) (K : Ex → St U → Option R) (r : R) (h : Λ5 R st K = some r) : ∃ n, loopA E (pick (loopsOf body) 5) n st K = some r :=
  lp_ok (U := U) (E := E) (b := pick (loopsOf body) 5) (m := 0) (sp := sp1) (p := p5) (q := q5) (X := (List Int)) (S := (Int × (List Int))) (f := fun (l : T5) s => l5 l.1.2.2.2.1 l.2.1.2.1 l.2.1.2.2.2.1 l.2.1.2.2.2.2.1 l.2.1.2.2.2.2.2.1 l.2.2.2.1 s.1 s.2) (hd := fun (l : T5) s => (((), ((), ((), (l.1.2.2.2.1, (s.1, ((), ())))))), (((), (l.2.1.2.1, ((), (l.2.1.2.2.2.1, (l.2.1.2.2.2.2.1, (l.2.1.2.2.2.2.2.1, ((), ()))))))), (s.2, (l.2.2.2.1, ()))))) (s0 := fun (l : T5) => (l.1.2.2.2.2.1, l.2.2.1)) (ou := ou5)
    (fun l => rfl) (fun l x => by rfl) sp1_ok hf5 h
theorem hk (R : Type) (l : TA) (K : AV U → Hp U → Option R) : funcA E Try.f16 [] R (pA.mkL l.1) (pH.mkH l.2) K = (t l.1.1 l.1.2.1).runK fun y => K (v l y) (hh l y) := by kernel_rfl
theorem okF : SoundF Try.prog cc 16 (funcA E Try.f16 []) :=
  funcA_ok (E := E) P_mixed (E0_ok.with Γ Λ CT D ro) (gam_of all_nil all_nil) Try.func16 (c := body) (by kernel_rfl)
    (just_by (by kernel_rfl) (by kernel_rfl) (all_cons lk5 all_nil) all_nil) []
theorem ok : SoundF Try.prog cc 16 A :=
  mkA_ok (E := E) (p := pA) (q := pH) (t := fun (l : TA) => t l.1.1 l.1.2.1) (spS_ok sp1_ok) hk okF
theorem keep : KeepA A := mkA_keep (U := U) (spS_ok sp1_ok) (fun (l : TA) y => ⟨(hh l y).drop 0, by (cases y with | inl y => kernel_rfl | inr y => kernel_rfl)⟩)
end flash_New

end Go.Proofs.Ytkoidgjgdhpdnaa.Va
