/- The functions of package journal, as plain functions, and that the program computes them. Printed by a program of this work out of the evaluator. -/
import Derived.Test.YtkoidgjgdhpdnaaEn
import Derived.Tactics
import Derived.Test.YtkoidgjgdhpdnaaFdrive
import Derived.Test.YtkoidgjgdhpdnaaFframe
import Derived.Test.YtkoidgjgdhpdnaaFslices
namespace Go.Proofs.Ytkoidgjgdhpdnaa.Va
open Go
set_option linter.unusedVariables false
set_option maxRecDepth 100000

/-! (*instar/journal.Journal).Place -/
namespace journal_Journal_Place_nil0
abbrev TA : Type := ((Unit × Unit) × Unit)
noncomputable def t : Tw (Int × Int) :=
 (.ret ((0 : Int), (0 : Int)))
noncomputable def c : Option (Int × Int) := (t).run
def pA : Pt := (.cs .nilp .nl)
def pH : Pt := .nl
def v (l : TA) (y : (Int × Int)) : AV U := .tup [.im (.int .i64 y.1), .im (.int .i64 y.2)]
def hh (l : TA) (y : (Int × Int)) : Hp U := []
noncomputable def A : AFun U := mkA (U := U) pA pH (X := (Int × Int)) (fun (l : TA) => c) sp1 v hh
noncomputable def body : Code := (Go.Func.body Try.f8).getD .skip
noncomputable def Γ : List (FuncId × AFun U) := []
noncomputable def Λ : List (Nat × LFun U) := []
noncomputable def CT : List (Nat × LFun U) := []
def ro : List FuncId := []
def D : Nat → Lv × Lv := dtab []
noncomputable def E : Env U := { E0 with Γ := Γ, Λ := Λ, C := CT, D := D, ro := ro }
theorem hk (R : Type) (l : TA) (K : AV U → Hp U → Option R) : funcA E Try.f8 [] R (pA.mkL l.1) (pH.mkH l.2) K = (t).runK fun y => K (v l y) (hh l y) := by kernel_rfl
theorem okF : SoundF Try.prog cc 8 (funcA E Try.f8 []) :=
  funcA_ok (E := E) P_mixed (E0_ok.with Γ Λ CT D ro) (gam_of all_nil all_nil) Try.func8 (c := body) (by kernel_rfl)
    (just_by (by kernel_rfl) (by kernel_rfl) all_nil all_nil) []
theorem ok : SoundF Try.prog cc 8 A :=
  mkA_ok (E := E) (p := pA) (q := pH) (t := fun (l : TA) => t) sp1_ok hk okF
theorem keep : KeepA A := mkA_keep (U := U) sp1_ok (fun (l : TA) y => ⟨(hh l y).drop 0, by kernel_rfl⟩)
end journal_Journal_Place_nil0

/-! (*instar/journal.Journal).Seq -/
namespace journal_Journal_Seq_nil0
abbrev TA : Type := ((Unit × Unit) × Unit)
noncomputable def t : Tw Int :=
 (.ret (0 : Int))
noncomputable def c : Option Int := (t).run
def pA : Pt := (.cs .nilp .nl)
def pH : Pt := .nl
def v (l : TA) (y : Int) : AV U := .im (.int .i64 y)
def hh (l : TA) (y : Int) : Hp U := []
noncomputable def A : AFun U := mkA (U := U) pA pH (X := Int) (fun (l : TA) => c) sp1 v hh
noncomputable def body : Code := (Go.Func.body Try.f9).getD .skip
noncomputable def Γ : List (FuncId × AFun U) := []
noncomputable def Λ : List (Nat × LFun U) := []
noncomputable def CT : List (Nat × LFun U) := []
def ro : List FuncId := []
def D : Nat → Lv × Lv := dtab []
noncomputable def E : Env U := { E0 with Γ := Γ, Λ := Λ, C := CT, D := D, ro := ro }
theorem hk (R : Type) (l : TA) (K : AV U → Hp U → Option R) : funcA E Try.f9 [] R (pA.mkL l.1) (pH.mkH l.2) K = (t).runK fun y => K (v l y) (hh l y) := by kernel_rfl
theorem okF : SoundF Try.prog cc 9 (funcA E Try.f9 []) :=
  funcA_ok (E := E) P_mixed (E0_ok.with Γ Λ CT D ro) (gam_of all_nil all_nil) Try.func9 (c := body) (by kernel_rfl)
    (just_by (by kernel_rfl) (by kernel_rfl) all_nil all_nil) []
theorem ok : SoundF Try.prog cc 9 A :=
  mkA_ok (E := E) (p := pA) (q := pH) (t := fun (l : TA) => t) sp1_ok hk okF
theorem keep : KeepA A := mkA_keep (U := U) sp1_ok (fun (l : TA) y => ⟨(hh l y).drop 0, by kernel_rfl⟩)
end journal_Journal_Seq_nil0

/-! (*instar/journal.Journal).Whole -/
namespace journal_Journal_Whole_nil0
abbrev TA : Type := ((Unit × Unit) × Unit)
noncomputable def t : Tw Unit :=
 (.ret ())
noncomputable def c : Option Unit := (t).run
def pA : Pt := (.cs .nilp .nl)
def pH : Pt := .nl
def v (l : TA) (y : Unit) : AV U := .im .nils
def hh (l : TA) (y : Unit) : Hp U := []
noncomputable def A : AFun U := mkA (U := U) pA pH (X := Unit) (fun (l : TA) => c) sp1 v hh
noncomputable def body : Code := (Go.Func.body Try.f10).getD .skip
noncomputable def Γ : List (FuncId × AFun U) := []
noncomputable def Λ : List (Nat × LFun U) := []
noncomputable def CT : List (Nat × LFun U) := []
def ro : List FuncId := []
def D : Nat → Lv × Lv := dtab []
noncomputable def E : Env U := { E0 with Γ := Γ, Λ := Λ, C := CT, D := D, ro := ro }
theorem hk (R : Type) (l : TA) (K : AV U → Hp U → Option R) : funcA E Try.f10 [] R (pA.mkL l.1) (pH.mkH l.2) K = (t).runK fun y => K (v l y) (hh l y) := by kernel_rfl
theorem okF : SoundF Try.prog cc 10 (funcA E Try.f10 []) :=
  funcA_ok (E := E) P_mixed (E0_ok.with Γ Λ CT D ro) (gam_of all_nil all_nil) Try.func10 (c := body) (by kernel_rfl)
    (just_by (by kernel_rfl) (by kernel_rfl) all_nil all_nil) []
theorem ok : SoundF Try.prog cc 10 A :=
  mkA_ok (E := E) (p := pA) (q := pH) (t := fun (l : TA) => t) sp1_ok hk okF
theorem keep : KeepA A := mkA_keep (U := U) sp1_ok (fun (l : TA) y => ⟨(hh l y).drop 0, by kernel_rfl⟩)
end journal_Journal_Whole_nil0

/-! (*instar/journal.Journal).Changes -/
namespace journal_Journal_Changes_nil0
abbrev TA : Type := ((Unit × Unit) × Unit)
noncomputable def t : Tw Unit :=
 (.ret ())
noncomputable def c : Option Unit := (t).run
def pA : Pt := (.cs .nilp .nl)
def pH : Pt := .nl
def v (l : TA) (y : Unit) : AV U := .im .nils
def hh (l : TA) (y : Unit) : Hp U := []
noncomputable def A : AFun U := mkA (U := U) pA pH (X := Unit) (fun (l : TA) => c) sp1 v hh
noncomputable def body : Code := (Go.Func.body Try.f11).getD .skip
noncomputable def Γ : List (FuncId × AFun U) := []
noncomputable def Λ : List (Nat × LFun U) := []
noncomputable def CT : List (Nat × LFun U) := []
def ro : List FuncId := []
def D : Nat → Lv × Lv := dtab []
noncomputable def E : Env U := { E0 with Γ := Γ, Λ := Λ, C := CT, D := D, ro := ro }
theorem hk (R : Type) (l : TA) (K : AV U → Hp U → Option R) : funcA E Try.f11 [] R (pA.mkL l.1) (pH.mkH l.2) K = (t).runK fun y => K (v l y) (hh l y) := by kernel_rfl
theorem okF : SoundF Try.prog cc 11 (funcA E Try.f11 []) :=
  funcA_ok (E := E) P_mixed (E0_ok.with Γ Λ CT D ro) (gam_of all_nil all_nil) Try.func11 (c := body) (by kernel_rfl)
    (just_by (by kernel_rfl) (by kernel_rfl) all_nil all_nil) []
theorem ok : SoundF Try.prog cc 11 A :=
  mkA_ok (E := E) (p := pA) (q := pH) (t := fun (l : TA) => t) sp1_ok hk okF
theorem keep : KeepA A := mkA_keep (U := U) sp1_ok (fun (l : TA) y => ⟨(hh l y).drop 0, by kernel_rfl⟩)
end journal_Journal_Changes_nil0

/-! (*instar/journal.Journal).Torn -/
namespace journal_Journal_Torn_nil0
abbrev TA : Type := ((Unit × Unit) × Unit)
noncomputable def t : Tw Bool :=
 (.ret false)
noncomputable def c : Option Bool := (t).run
def pA : Pt := (.cs .nilp .nl)
def pH : Pt := .nl
def v (l : TA) (y : Bool) : AV U := .im (.bool y)
def hh (l : TA) (y : Bool) : Hp U := []
noncomputable def A : AFun U := mkA (U := U) pA pH (X := Bool) (fun (l : TA) => c) sp1 v hh
noncomputable def body : Code := (Go.Func.body Try.f12).getD .skip
noncomputable def Γ : List (FuncId × AFun U) := []
noncomputable def Λ : List (Nat × LFun U) := []
noncomputable def CT : List (Nat × LFun U) := []
def ro : List FuncId := []
def D : Nat → Lv × Lv := dtab []
noncomputable def E : Env U := { E0 with Γ := Γ, Λ := Λ, C := CT, D := D, ro := ro }
theorem hk (R : Type) (l : TA) (K : AV U → Hp U → Option R) : funcA E Try.f12 [] R (pA.mkL l.1) (pH.mkH l.2) K = (t).runK fun y => K (v l y) (hh l y) := by kernel_rfl
theorem okF : SoundF Try.prog cc 12 (funcA E Try.f12 []) :=
  funcA_ok (E := E) P_mixed (E0_ok.with Γ Λ CT D ro) (gam_of all_nil all_nil) Try.func12 (c := body) (by kernel_rfl)
    (just_by (by kernel_rfl) (by kernel_rfl) all_nil all_nil) []
theorem ok : SoundF Try.prog cc 12 A :=
  mkA_ok (E := E) (p := pA) (q := pH) (t := fun (l : TA) => t) sp1_ok hk okF
theorem keep : KeepA A := mkA_keep (U := U) sp1_ok (fun (l : TA) y => ⟨(hh l y).drop 0, by kernel_rfl⟩)
end journal_Journal_Torn_nil0

/-! (*instar/journal.Journal).put -/
namespace journal_Journal_put_nil0
abbrev TA : Type := ((Unit × (Int × ((List Int) × ((List Int) × Unit)))) × Unit)
noncomputable def t (kind : Int) (load : (List Int)) (whole : (List Int)) : Tw Int :=
 (.ret (1 : Int))
noncomputable def c (kind : Int) (load : (List Int)) (whole : (List Int)) : Option Int := (t kind load whole).run
def pA : Pt := (.cs .nilp (.cs (.int .i64) (.cs (.sl 3) (.cs (.sl 3) .nl))))
def pH : Pt := .nl
def v (l : TA) (y : Int) : AV U := .im (.int .i64 y)
def hh (l : TA) (y : Int) : Hp U := []
noncomputable def A : AFun U := mkA (U := U) pA pH (X := Int) (fun (l : TA) => c l.1.2.1 l.1.2.2.1 l.1.2.2.2.1) sp1 v hh
noncomputable def body : Code := (Go.Func.body Try.f33).getD .skip
noncomputable def Γ : List (FuncId × AFun U) := []
noncomputable def Λ : List (Nat × LFun U) := []
noncomputable def CT : List (Nat × LFun U) := []
def ro : List FuncId := []
def D : Nat → Lv × Lv := dtab []
noncomputable def E : Env U := { E0 with Γ := Γ, Λ := Λ, C := CT, D := D, ro := ro }
theorem hk (R : Type) (l : TA) (K : AV U → Hp U → Option R) : funcA E Try.f33 [] R (pA.mkL l.1) (pH.mkH l.2) K = (t l.1.2.1 l.1.2.2.1 l.1.2.2.2.1).runK fun y => K (v l y) (hh l y) := by kernel_rfl
theorem okF : SoundF Try.prog cc 33 (funcA E Try.f33 []) :=
  funcA_ok (E := E) P_mixed (E0_ok.with Γ Λ CT D ro) (gam_of all_nil all_nil) Try.func33 (c := body) (by kernel_rfl)
    (just_by (by kernel_rfl) (by kernel_rfl) all_nil all_nil) []
theorem ok : SoundF Try.prog cc 33 A :=
  mkA_ok (E := E) (p := pA) (q := pH) (t := fun (l : TA) => t l.1.2.1 l.1.2.2.1 l.1.2.2.2.1) sp1_ok hk okF
theorem keep : KeepA A := mkA_keep (U := U) sp1_ok (fun (l : TA) y => ⟨(hh l y).drop 0, by kernel_rfl⟩)
end journal_Journal_put_nil0

/-! (*instar/journal.Journal).Change -/
namespace journal_Journal_Change_nil0
abbrev TA : Type := ((Unit × ((List Int) × ((List Int) × Unit))) × Unit)
noncomputable def t (load : (List Int)) (whole : (List Int)) : Tw Int :=
 (.opt (journal_Journal_put_nil0.c (2 : Int) load whole) fun z1 =>
  (.ret z1))
noncomputable def c (load : (List Int)) (whole : (List Int)) : Option Int := (t load whole).run
def pA : Pt := (.cs .nilp (.cs (.sl 3) (.cs (.sl 3) .nl)))
def pH : Pt := .nl
def v (l : TA) (y : Int) : AV U := .im (.int .i64 y)
def hh (l : TA) (y : Int) : Hp U := []
noncomputable def A : AFun U := mkA (U := U) pA pH (X := Int) (fun (l : TA) => c l.1.2.1 l.1.2.2.1) sp1 v hh
noncomputable def body : Code := (Go.Func.body Try.f13).getD .skip
noncomputable def Γ : List (FuncId × AFun U) := [(33, journal_Journal_put_nil0.A)]
noncomputable def Λ : List (Nat × LFun U) := []
noncomputable def CT : List (Nat × LFun U) := []
def ro : List FuncId := []
def D : Nat → Lv × Lv := dtab []
noncomputable def E : Env U := { E0 with Γ := Γ, Λ := Λ, C := CT, D := D, ro := ro }
theorem hk (R : Type) (l : TA) (K : AV U → Hp U → Option R) : funcA E Try.f13 [] R (pA.mkL l.1) (pH.mkH l.2) K = (t l.1.2.1 l.1.2.2.1).runK fun y => K (v l y) (hh l y) := by kernel_rfl
theorem okF : SoundF Try.prog cc 13 (funcA E Try.f13 []) :=
  funcA_ok (E := E) P_mixed (E0_ok.with Γ Λ CT D ro) (gam_of (all_cons ⟨journal_Journal_put_nil0.ok, ⟨Try.f33, Try.func33, by kernel_rfl, by kernel_rfl⟩⟩ all_nil) (all_cons (no_keep (by kernel_rfl)) all_nil)) Try.func13 (c := body) (by kernel_rfl)
    (just_by (by kernel_rfl) (by kernel_rfl) all_nil all_nil) []
theorem ok : SoundF Try.prog cc 13 A :=
  mkA_ok (E := E) (p := pA) (q := pH) (t := fun (l : TA) => t l.1.2.1 l.1.2.2.1) sp1_ok hk okF
theorem keep : KeepA A := mkA_keep (U := U) sp1_ok (fun (l : TA) y => ⟨(hh l y).drop 0, by kernel_rfl⟩)
end journal_Journal_Change_nil0

/-! (*instar/journal.Journal).Put -/
namespace journal_Journal_Put_nil0
abbrev TA : Type := ((Unit × ((List Int) × Unit)) × Unit)
noncomputable def t (whole : (List Int)) : Tw Int :=
 (.opt (journal_Journal_put_nil0.c (1 : Int) whole whole) fun z1 =>
  (.ret z1))
noncomputable def c (whole : (List Int)) : Option Int := (t whole).run
def pA : Pt := (.cs .nilp (.cs (.sl 3) .nl))
def pH : Pt := .nl
def v (l : TA) (y : Int) : AV U := .im (.int .i64 y)
def hh (l : TA) (y : Int) : Hp U := []
noncomputable def A : AFun U := mkA (U := U) pA pH (X := Int) (fun (l : TA) => c l.1.2.1) sp1 v hh
noncomputable def body : Code := (Go.Func.body Try.f14).getD .skip
noncomputable def Γ : List (FuncId × AFun U) := [(33, journal_Journal_put_nil0.A)]
noncomputable def Λ : List (Nat × LFun U) := []
noncomputable def CT : List (Nat × LFun U) := []
def ro : List FuncId := []
def D : Nat → Lv × Lv := dtab []
noncomputable def E : Env U := { E0 with Γ := Γ, Λ := Λ, C := CT, D := D, ro := ro }
theorem hk (R : Type) (l : TA) (K : AV U → Hp U → Option R) : funcA E Try.f14 [] R (pA.mkL l.1) (pH.mkH l.2) K = (t l.1.2.1).runK fun y => K (v l y) (hh l y) := by kernel_rfl
theorem okF : SoundF Try.prog cc 14 (funcA E Try.f14 []) :=
  funcA_ok (E := E) P_mixed (E0_ok.with Γ Λ CT D ro) (gam_of (all_cons ⟨journal_Journal_put_nil0.ok, ⟨Try.f33, Try.func33, by kernel_rfl, by kernel_rfl⟩⟩ all_nil) (all_cons (no_keep (by kernel_rfl)) all_nil)) Try.func14 (c := body) (by kernel_rfl)
    (just_by (by kernel_rfl) (by kernel_rfl) all_nil all_nil) []
theorem ok : SoundF Try.prog cc 14 A :=
  mkA_ok (E := E) (p := pA) (q := pH) (t := fun (l : TA) => t l.1.2.1) sp1_ok hk okF
theorem keep : KeepA A := mkA_keep (U := U) sp1_ok (fun (l : TA) y => ⟨(hh l y).drop 0, by kernel_rfl⟩)
end journal_Journal_Put_nil0

/-! (*instar/journal.Journal).Mend -/
namespace journal_Journal_Mend_nil0
abbrev TA : Type := ((Unit × ((List Int) × Unit)) × Unit)
noncomputable def t (whole : (List Int)) : Tw Int :=
 (.ret (1 : Int))
noncomputable def c (whole : (List Int)) : Option Int := (t whole).run
def pA : Pt := (.cs .nilp (.cs (.sl 3) .nl))
def pH : Pt := .nl
def v (l : TA) (y : Int) : AV U := .im (.int .i64 y)
def hh (l : TA) (y : Int) : Hp U := []
noncomputable def A : AFun U := mkA (U := U) pA pH (X := Int) (fun (l : TA) => c l.1.2.1) sp1 v hh
noncomputable def body : Code := (Go.Func.body Try.f15).getD .skip
noncomputable def Γ : List (FuncId × AFun U) := []
noncomputable def Λ : List (Nat × LFun U) := []
noncomputable def CT : List (Nat × LFun U) := []
def ro : List FuncId := []
def D : Nat → Lv × Lv := dtab []
noncomputable def E : Env U := { E0 with Γ := Γ, Λ := Λ, C := CT, D := D, ro := ro }
theorem hk (R : Type) (l : TA) (K : AV U → Hp U → Option R) : funcA E Try.f15 [] R (pA.mkL l.1) (pH.mkH l.2) K = (t l.1.2.1).runK fun y => K (v l y) (hh l y) := by kernel_rfl
theorem okF : SoundF Try.prog cc 15 (funcA E Try.f15 []) :=
  funcA_ok (E := E) P_mixed (E0_ok.with Γ Λ CT D ro) (gam_of all_nil all_nil) Try.func15 (c := body) (by kernel_rfl)
    (just_by (by kernel_rfl) (by kernel_rfl) all_nil all_nil) []
theorem ok : SoundF Try.prog cc 15 A :=
  mkA_ok (E := E) (p := pA) (q := pH) (t := fun (l : TA) => t l.1.2.1) sp1_ok hk okF
theorem keep : KeepA A := mkA_keep (U := U) sp1_ok (fun (l : TA) y => ⟨(hh l y).drop 0, by kernel_rfl⟩)
end journal_Journal_Mend_nil0

/-! (*instar/journal.Journal).said -/
namespace journal_Journal_said
abbrev TA : Type := ((Unit × ((Int × (Int × ((List Int) × Unit))) × (Int × Unit))) × ((Unit × (Int × (Int × (Bool × (Int × (Unit × (Unit × Unit))))))) × ((Unit × (Int × (Int × (Int × (Int × (Int × (Int × Unit))))))) × ((Unit × (Int × (Unit × (Int × (Bool × (Int × (Unit × Unit))))))) × ((List Int) × ((List Int) × Unit))))))
noncomputable def t (f_0 f_1 : Int) (f_2 : (List Int)) (n h0_1 h0_2 : Int) (h0_3 : Bool) (h0_4 h1_1 h1_2 h1_3 h1_4 h1_5 h1_6 h2_1 h2_3 : Int) (h2_4 : Bool) (h2_5 : Int) (h3 : (List Int)) (h4 : (List Int)) : Tw ((Int × (List (List Int))) ⊕ Int) :=
 (.bb (f_0 == (1 : Int))
  (.ret (.inr (w64 (h0_2 + n))))
  (.ret (.inl ((w64 (h0_2 + n)), (f_2 :: ([] : List (List Int)))))))
noncomputable def c (f_0 f_1 : Int) (f_2 : (List Int)) (n h0_1 h0_2 : Int) (h0_3 : Bool) (h0_4 h1_1 h1_2 h1_3 h1_4 h1_5 h1_6 h2_1 h2_3 : Int) (h2_4 : Bool) (h2_5 : Int) (h3 : (List Int)) (h4 : (List Int)) : Option ((Int × (List (List Int))) ⊕ Int) := (t f_0 f_1 f_2 n h0_1 h0_2 h0_3 h0_4 h1_1 h1_2 h1_3 h1_4 h1_5 h1_6 h2_1 h2_3 h2_4 h2_5 h3 h4).run
def pA : Pt := (.cs (.ptr 0 0) (.cs (.agg (.cs (.int .i64) (.cs (.int .i64) (.cs (.sl 3) .nl)))) (.cs (.int .i64) .nl)))
def pH : Pt := (.cs (.var (.cs (.ptr 1 0) (.cs (.int .i64) (.cs (.int .i64) (.cs .bool (.cs (.int .i64) (.cs .nils (.cs .nils .nl)))))))) (.cs (.var (.cs (.ptr 2 0) (.cs (.int .i64) (.cs (.int .i64) (.cs (.int .i64) (.cs (.int .i64) (.cs (.int .i64) (.cs (.int .i64) .nl)))))))) (.cs (.var (.cs (.own 3) (.cs (.int .i64) (.cs (.own 4) (.cs (.int .i64) (.cs .bool (.cs (.int .i64) (.cs .nils .nl)))))))) (.cs (.row 3 true) (.cs (.row 1 true) .nl)))))
def v (l : TA) (y : ((Int × (List (List Int))) ⊕ Int)) : AV U := (Sum.elim (fun a0 => .tup []) (fun b0 => .tup []) y)
def hh (l : TA) (y : ((Int × (List (List Int))) ⊕ Int)) : Hp U := (Sum.elim (fun a0 => [.var [.ptr 1 0, .im (.int .i64 l.2.1.2.1), .im (.int .i64 a0.1), .im (.bool l.2.1.2.2.2.1), .im (.int .i64 l.1.2.1.2.1), .im .nils, .own 5], .var [.ptr 2 0, .im (.int .i64 l.2.2.1.2.1), .im (.int .i64 l.2.2.1.2.2.1), .im (.int .i64 l.2.2.1.2.2.2.1), .im (.int .i64 l.2.2.1.2.2.2.2.1), .im (.int .i64 l.2.2.1.2.2.2.2.2.1), .im (.int .i64 l.2.2.1.2.2.2.2.2.2.1)], .var [.own 3, .im (.int .i64 l.2.2.2.1.2.1), .own 4, .im (.int .i64 l.2.2.2.1.2.2.2.1), .im (.bool l.2.2.2.1.2.2.2.2.1), .im (.int .i64 l.2.2.2.1.2.2.2.2.2.1), .im .nils], .row 3 l.2.2.2.2.1 true, .row 1 l.2.2.2.2.2.1 true, .row 12 a0.2 true]) (fun b0 => [.var [.ptr 1 0, .im (.int .i64 l.2.1.2.1), .im (.int .i64 b0), .im (.bool l.2.1.2.2.2.1), .im (.int .i64 l.1.2.1.2.1), .im (.slice 3 l.1.2.1.2.2.1), .im .nils], .var [.ptr 2 0, .im (.int .i64 l.2.2.1.2.1), .im (.int .i64 l.2.2.1.2.2.1), .im (.int .i64 l.2.2.1.2.2.2.1), .im (.int .i64 l.2.2.1.2.2.2.2.1), .im (.int .i64 l.2.2.1.2.2.2.2.2.1), .im (.int .i64 l.2.2.1.2.2.2.2.2.2.1)], .var [.own 3, .im (.int .i64 l.2.2.2.1.2.1), .own 4, .im (.int .i64 l.2.2.2.1.2.2.2.1), .im (.bool l.2.2.2.1.2.2.2.2.1), .im (.int .i64 l.2.2.2.1.2.2.2.2.2.1), .im .nils], .row 3 l.2.2.2.2.1 true, .row 1 l.2.2.2.2.2.1 true]) y)
noncomputable def A : AFun U := mkA (U := U) pA pH (X := ((Int × (List (List Int))) ⊕ Int)) (fun (l : TA) => c l.1.2.1.1 l.1.2.1.2.1 l.1.2.1.2.2.1 l.1.2.2.1 l.2.1.2.1 l.2.1.2.2.1 l.2.1.2.2.2.1 l.2.1.2.2.2.2.1 l.2.2.1.2.1 l.2.2.1.2.2.1 l.2.2.1.2.2.2.1 l.2.2.1.2.2.2.2.1 l.2.2.1.2.2.2.2.2.1 l.2.2.1.2.2.2.2.2.2.1 l.2.2.2.1.2.1 l.2.2.2.1.2.2.2.1 l.2.2.2.1.2.2.2.2.1 l.2.2.2.1.2.2.2.2.2.1 l.2.2.2.2.1 l.2.2.2.2.2.1) (spS sp1) v hh
noncomputable def body : Code := (Go.Func.body Try.f61).getD .skip
noncomputable def Γ : List (FuncId × AFun U) := []
noncomputable def Λ : List (Nat × LFun U) := []
noncomputable def CT : List (Nat × LFun U) := []
def ro : List FuncId := []
def D : Nat → Lv × Lv := dtab []
noncomputable def E : Env U := { E0 with Γ := Γ, Λ := Λ, C := CT, D := D, ro := ro }
theorem hk (R : Type) (l : TA) (K : AV U → Hp U → Option R) : funcA E Try.f61 [] R (pA.mkL l.1) (pH.mkH l.2) K = (t l.1.2.1.1 l.1.2.1.2.1 l.1.2.1.2.2.1 l.1.2.2.1 l.2.1.2.1 l.2.1.2.2.1 l.2.1.2.2.2.1 l.2.1.2.2.2.2.1 l.2.2.1.2.1 l.2.2.1.2.2.1 l.2.2.1.2.2.2.1 l.2.2.1.2.2.2.2.1 l.2.2.1.2.2.2.2.2.1 l.2.2.1.2.2.2.2.2.2.1 l.2.2.2.1.2.1 l.2.2.2.1.2.2.2.1 l.2.2.2.1.2.2.2.2.1 l.2.2.2.1.2.2.2.2.2.1 l.2.2.2.2.1 l.2.2.2.2.2.1).runK fun y => K (v l y) (hh l y) := by kernel_rfl
theorem okF : SoundF Try.prog cc 61 (funcA E Try.f61 []) :=
  funcA_ok (E := E) P_mixed (E0_ok.with Γ Λ CT D ro) (gam_of all_nil all_nil) Try.func61 (c := body) (by kernel_rfl)
    (just_by (by kernel_rfl) (by kernel_rfl) all_nil all_nil) []
theorem ok : SoundF Try.prog cc 61 A :=
  mkA_ok (E := E) (p := pA) (q := pH) (t := fun (l : TA) => t l.1.2.1.1 l.1.2.1.2.1 l.1.2.1.2.2.1 l.1.2.2.1 l.2.1.2.1 l.2.1.2.2.1 l.2.1.2.2.2.1 l.2.1.2.2.2.2.1 l.2.2.1.2.1 l.2.2.1.2.2.1 l.2.2.1.2.2.2.1 l.2.2.1.2.2.2.2.1 l.2.2.1.2.2.2.2.2.1 l.2.2.1.2.2.2.2.2.2.1 l.2.2.2.1.2.1 l.2.2.2.1.2.2.2.1 l.2.2.2.1.2.2.2.2.1 l.2.2.2.1.2.2.2.2.2.1 l.2.2.2.2.1 l.2.2.2.2.2.1) (spS_ok sp1_ok) hk okF
end journal_Journal_said

/-! (*instar/journal.Journal).said -/
namespace journal_Journal_said_v3
abbrev TA : Type := ((Unit × ((Int × (Int × ((List Int) × Unit))) × (Int × Unit))) × ((Unit × (Int × (Int × (Bool × (Int × ((List Int) × (Unit × Unit))))))) × ((Unit × (Int × (Int × (Int × (Int × (Int × (Int × Unit))))))) × ((Unit × (Int × (Unit × (Int × (Bool × (Int × (Unit × Unit))))))) × ((List Int) × ((List Int) × ((List (List Int)) × Unit)))))))
noncomputable def t (f_0 f_1 : Int) (f_2 : (List Int)) (n h0_1 h0_2 : Int) (h0_3 : Bool) (h0_4 : Int) (h0_5 : (List Int)) (h1_1 h1_2 h1_3 h1_4 h1_5 h1_6 h2_1 h2_3 : Int) (h2_4 : Bool) (h2_5 : Int) (h3 : (List Int)) (h4 : (List Int)) (h5 : (List (List Int))) : Tw ((Int × (List (List Int))) ⊕ Int) :=
 (.bb (f_0 == (1 : Int))
  (.ret (.inr (w64 (h0_2 + n))))
  (.dd ((((((List.length h5) + (List.length (f_2 :: ([] : List (List Int))))) * (24 : Nat)) ≤ (140737488355328 : Nat)) ∧ (((List.length h5) + (List.length (f_2 :: ([] : List (List Int))))) ≤ (140737488355328 : Nat)))) inferInstance
   (.ret (.inl ((w64 (h0_2 + n)), (h5 ++ (f_2 :: ([] : List (List Int)))))))
   .no))
noncomputable def c (f_0 f_1 : Int) (f_2 : (List Int)) (n h0_1 h0_2 : Int) (h0_3 : Bool) (h0_4 : Int) (h0_5 : (List Int)) (h1_1 h1_2 h1_3 h1_4 h1_5 h1_6 h2_1 h2_3 : Int) (h2_4 : Bool) (h2_5 : Int) (h3 : (List Int)) (h4 : (List Int)) (h5 : (List (List Int))) : Option ((Int × (List (List Int))) ⊕ Int) := (t f_0 f_1 f_2 n h0_1 h0_2 h0_3 h0_4 h0_5 h1_1 h1_2 h1_3 h1_4 h1_5 h1_6 h2_1 h2_3 h2_4 h2_5 h3 h4 h5).run
def pA : Pt := (.cs (.ptr 0 0) (.cs (.agg (.cs (.int .i64) (.cs (.int .i64) (.cs (.sl 3) .nl)))) (.cs (.int .i64) .nl)))
def pH : Pt := (.cs (.var (.cs (.ptr 1 0) (.cs (.int .i64) (.cs (.int .i64) (.cs .bool (.cs (.int .i64) (.cs (.sl 3) (.cs (.own 5) .nl)))))))) (.cs (.var (.cs (.ptr 2 0) (.cs (.int .i64) (.cs (.int .i64) (.cs (.int .i64) (.cs (.int .i64) (.cs (.int .i64) (.cs (.int .i64) .nl)))))))) (.cs (.var (.cs (.own 3) (.cs (.int .i64) (.cs (.own 4) (.cs (.int .i64) (.cs .bool (.cs (.int .i64) (.cs .nils .nl)))))))) (.cs (.row 3 true) (.cs (.row 1 true) (.cs (.row 12 true) .nl))))))
def v (l : TA) (y : ((Int × (List (List Int))) ⊕ Int)) : AV U := (Sum.elim (fun a0 => .tup []) (fun b0 => .tup []) y)
def hh (l : TA) (y : ((Int × (List (List Int))) ⊕ Int)) : Hp U := (Sum.elim (fun a0 => [.var [.ptr 1 0, .im (.int .i64 l.2.1.2.1), .im (.int .i64 a0.1), .im (.bool l.2.1.2.2.2.1), .im (.int .i64 l.1.2.1.2.1), .im (.slice 3 l.2.1.2.2.2.2.2.1), .own 6], .var [.ptr 2 0, .im (.int .i64 l.2.2.1.2.1), .im (.int .i64 l.2.2.1.2.2.1), .im (.int .i64 l.2.2.1.2.2.2.1), .im (.int .i64 l.2.2.1.2.2.2.2.1), .im (.int .i64 l.2.2.1.2.2.2.2.2.1), .im (.int .i64 l.2.2.1.2.2.2.2.2.2.1)], .var [.own 3, .im (.int .i64 l.2.2.2.1.2.1), .own 4, .im (.int .i64 l.2.2.2.1.2.2.2.1), .im (.bool l.2.2.2.1.2.2.2.2.1), .im (.int .i64 l.2.2.2.1.2.2.2.2.2.1), .im .nils], .row 3 l.2.2.2.2.1 true, .row 1 l.2.2.2.2.2.1 true, .dead, .row 12 a0.2 true]) (fun b0 => [.var [.ptr 1 0, .im (.int .i64 l.2.1.2.1), .im (.int .i64 b0), .im (.bool l.2.1.2.2.2.1), .im (.int .i64 l.1.2.1.2.1), .im (.slice 3 l.1.2.1.2.2.1), .im .nils], .var [.ptr 2 0, .im (.int .i64 l.2.2.1.2.1), .im (.int .i64 l.2.2.1.2.2.1), .im (.int .i64 l.2.2.1.2.2.2.1), .im (.int .i64 l.2.2.1.2.2.2.2.1), .im (.int .i64 l.2.2.1.2.2.2.2.2.1), .im (.int .i64 l.2.2.1.2.2.2.2.2.2.1)], .var [.own 3, .im (.int .i64 l.2.2.2.1.2.1), .own 4, .im (.int .i64 l.2.2.2.1.2.2.2.1), .im (.bool l.2.2.2.1.2.2.2.2.1), .im (.int .i64 l.2.2.2.1.2.2.2.2.2.1), .im .nils], .row 3 l.2.2.2.2.1 true, .row 1 l.2.2.2.2.2.1 true, .row 12 l.2.2.2.2.2.2.1 true]) y)
noncomputable def A : AFun U := mkA (U := U) pA pH (X := ((Int × (List (List Int))) ⊕ Int)) (fun (l : TA) => c l.1.2.1.1 l.1.2.1.2.1 l.1.2.1.2.2.1 l.1.2.2.1 l.2.1.2.1 l.2.1.2.2.1 l.2.1.2.2.2.1 l.2.1.2.2.2.2.1 l.2.1.2.2.2.2.2.1 l.2.2.1.2.1 l.2.2.1.2.2.1 l.2.2.1.2.2.2.1 l.2.2.1.2.2.2.2.1 l.2.2.1.2.2.2.2.2.1 l.2.2.1.2.2.2.2.2.2.1 l.2.2.2.1.2.1 l.2.2.2.1.2.2.2.1 l.2.2.2.1.2.2.2.2.1 l.2.2.2.1.2.2.2.2.2.1 l.2.2.2.2.1 l.2.2.2.2.2.1 l.2.2.2.2.2.2.1) (spS sp1) v hh
noncomputable def body : Code := (Go.Func.body Try.f61).getD .skip
noncomputable def Γ : List (FuncId × AFun U) := []
noncomputable def Λ : List (Nat × LFun U) := []
noncomputable def CT : List (Nat × LFun U) := []
def ro : List FuncId := []
def D : Nat → Lv × Lv := dtab []
noncomputable def E : Env U := { E0 with Γ := Γ, Λ := Λ, C := CT, D := D, ro := ro }
theorem hk (R : Type) (l : TA) (K : AV U → Hp U → Option R) : funcA E Try.f61 [] R (pA.mkL l.1) (pH.mkH l.2) K = (t l.1.2.1.1 l.1.2.1.2.1 l.1.2.1.2.2.1 l.1.2.2.1 l.2.1.2.1 l.2.1.2.2.1 l.2.1.2.2.2.1 l.2.1.2.2.2.2.1 l.2.1.2.2.2.2.2.1 l.2.2.1.2.1 l.2.2.1.2.2.1 l.2.2.1.2.2.2.1 l.2.2.1.2.2.2.2.1 l.2.2.1.2.2.2.2.2.1 l.2.2.1.2.2.2.2.2.2.1 l.2.2.2.1.2.1 l.2.2.2.1.2.2.2.1 l.2.2.2.1.2.2.2.2.1 l.2.2.2.1.2.2.2.2.2.1 l.2.2.2.2.1 l.2.2.2.2.2.1 l.2.2.2.2.2.2.1).runK fun y => K (v l y) (hh l y) := by kernel_rfl
theorem okF : SoundF Try.prog cc 61 (funcA E Try.f61 []) :=
  funcA_ok (E := E) P_mixed (E0_ok.with Γ Λ CT D ro) (gam_of all_nil all_nil) Try.func61 (c := body) (by kernel_rfl)
    (just_by (by kernel_rfl) (by kernel_rfl) all_nil all_nil) []
theorem ok : SoundF Try.prog cc 61 A :=
  mkA_ok (E := E) (p := pA) (q := pH) (t := fun (l : TA) => t l.1.2.1.1 l.1.2.1.2.1 l.1.2.1.2.2.1 l.1.2.2.1 l.2.1.2.1 l.2.1.2.2.1 l.2.1.2.2.2.1 l.2.1.2.2.2.2.1 l.2.1.2.2.2.2.2.1 l.2.2.1.2.1 l.2.2.1.2.2.1 l.2.2.1.2.2.2.1 l.2.2.1.2.2.2.2.1 l.2.2.1.2.2.2.2.2.1 l.2.2.1.2.2.2.2.2.2.1 l.2.2.2.1.2.1 l.2.2.2.1.2.2.2.1 l.2.2.2.1.2.2.2.2.1 l.2.2.2.1.2.2.2.2.2.1 l.2.2.2.2.1 l.2.2.2.2.2.1 l.2.2.2.2.2.2.1) (spS_ok sp1_ok) hk okF
end journal_Journal_said_v3

/-! instar/journal.read -/
namespace journal_read
abbrev TA : Type := ((Unit × (Int × Unit)) × ((Unit × (Int × (Int × (Int × (Int × (Int × (Int × Unit))))))) × ((Unit × (Int × (Unit × (Int × (Bool × (Int × (Unit × Unit))))))) × ((List Int) × ((List Int) × Unit)))))
abbrev T5 : Type := ((Unit × (Int × (Unit × (Unit × (Unit × (Unit × (Unit × (Unit × Unit)))))))) × ((Unit × (Int × (Int × (Int × (Int × (Int × (Int × Unit))))))) × ((Unit × (Int × (Unit × (Int × (Bool × (Int × (Unit × Unit))))))) × ((List Int) × ((List Int) × ((Unit × (Int × (Int × (Bool × (Int × (Unit × (Unit × Unit))))))) × ((Unit × (Int × (Int × (Bool × (Int × ((List Int) × (Unit × Unit))))))) × ((List (List Int)) × ((List Int) × Unit)))))))))
noncomputable def l5 (sector h0_1 h0_2 h0_3 h0_4 h0_5 h0_6 h1_1 h1_3 : Int) (h1_4 : Bool) (h1_5 : Int) (h2 : (List Int)) (h3 : (List Int)) (h4_1 h4_2 : Int) (h4_3 : Bool) (h4_4 h5_1 : Int) (h5_3 : Bool) (h7 : (List Int)) (h5_2 h5_4 : Int) (h5_5 : (List Int)) (h6 : (List (List Int))) : Tw ((Int × (Int × ((List Int) × (List (List Int))))) ⊕ (Int × (Int × ((List Int) × (List (List Int)))))) :=
 (.dd ((((0 : Int) ≤ h5_2) ∧ (h5_2 ≤ (((List.length h7) : Nat) : Int)))) inferInstance
  (.opt (frame_Read.c (List.take ((List.length h7) - (Int.toNat h5_2)) (List.drop (Int.toNat h5_2) h7))) fun z3 =>
   (.bb (!z3.2.2.2.1)
    (.ret (.inr (h5_2, (h5_4, (h5_5, h6)))))
    (.bb (h5_4 == (0 : Int))
     (.bb (z3.1 != (1 : Int))
      (.ret (.inr (h5_2, (h5_4, (h5_5, h6)))))
      (.bb (decide (h5_4 > (0 : Int)))
       (.bb (z3.2.1 != (w64 (h5_4 + (1 : Int))))
        (.ret (.inr (h5_2, (h5_4, (h5_5, h6)))))
        (.opt (journal_Journal_said_v3.c z3.1 z3.2.1 z3.2.2.2.2 z3.2.2.1 h5_1 h5_2 h5_3 h5_4 h5_5 h0_1 h0_2 h0_3 h0_4 h0_5 h0_6 h1_1 h1_3 h1_4 h1_5 h2 h3 h6) fun z13 =>
         (.sm z13
          (fun z14 => (.ret (.inl (z14.1, (z3.2.1, (h5_5, z14.2))))))
          (fun z15 => (.ret (.inl (z15, (z3.2.1, (z3.2.2.2.2, ([] : List (List Int)))))))))))
       (.opt (journal_Journal_said_v3.c z3.1 z3.2.1 z3.2.2.2.2 z3.2.2.1 h5_1 h5_2 h5_3 h5_4 h5_5 h0_1 h0_2 h0_3 h0_4 h0_5 h0_6 h1_1 h1_3 h1_4 h1_5 h2 h3 h6) fun z10 =>
        (.sm z10
         (fun z11 => (.ret (.inl (z11.1, (z3.2.1, (h5_5, z11.2))))))
         (fun z12 => (.ret (.inl (z12, (z3.2.1, (z3.2.2.2.2, ([] : List (List Int))))))))))))
     (.bb (decide (h5_4 > (0 : Int)))
      (.bb (z3.2.1 != (w64 (h5_4 + (1 : Int))))
       (.ret (.inr (h5_2, (h5_4, (h5_5, h6)))))
       (.opt (journal_Journal_said_v3.c z3.1 z3.2.1 z3.2.2.2.2 z3.2.2.1 h5_1 h5_2 h5_3 h5_4 h5_5 h0_1 h0_2 h0_3 h0_4 h0_5 h0_6 h1_1 h1_3 h1_4 h1_5 h2 h3 h6) fun z7 =>
        (.sm z7
         (fun z8 => (.ret (.inl (z8.1, (z3.2.1, (h5_5, z8.2))))))
         (fun z9 => (.ret (.inl (z9, (z3.2.1, (z3.2.2.2.2, ([] : List (List Int)))))))))))
      (.opt (journal_Journal_said_v3.c z3.1 z3.2.1 z3.2.2.2.2 z3.2.2.1 h5_1 h5_2 h5_3 h5_4 h5_5 h0_1 h0_2 h0_3 h0_4 h0_5 h0_6 h1_1 h1_3 h1_4 h1_5 h2 h3 h6) fun z4 =>
       (.sm z4
        (fun z5 => (.ret (.inl (z5.1, (z3.2.1, (h5_5, z5.2))))))
        (fun z6 => (.ret (.inl (z6, (z3.2.1, (z3.2.2.2.2, ([] : List (List Int))))))))))))))
  .no)
noncomputable def L5 (sector h0_1 h0_2 h0_3 h0_4 h0_5 h0_6 h1_1 h1_3 : Int) (h1_4 : Bool) (h1_5 : Int) (h2 : (List Int)) (h3 : (List Int)) (h4_1 h4_2 : Int) (h4_3 : Bool) (h4_4 h5_1 h5_2 : Int) (h5_3 : Bool) (h5_4 : Int) (h5_5 : (List Int)) (h6 : (List (List Int))) (h7 : (List Int)) : Option (Int × (Int × ((List Int) × (List (List Int))))) := Lp (fun s => (l5 sector h0_1 h0_2 h0_3 h0_4 h0_5 h0_6 h1_1 h1_3 h1_4 h1_5 h2 h3 h4_1 h4_2 h4_3 h4_4 h5_1 h5_3 h7 s.1 s.2.1 s.2.2.1 s.2.2.2).run) (h5_2, (h5_4, (h5_5, h6)))
def p5 : Pt := (.cs (.ptr 0 0) (.cs (.int .i64) (.cs (.bots 2) (.cs (.ptr 4 0) (.cs (.bots 1) (.cs (.ptr 5 0) (.cs (.own 7) (.cs (.bots 71) .nl))))))))
def q5 : Pt := (.cs (.var (.cs (.ptr 1 0) (.cs (.int .i64) (.cs (.int .i64) (.cs (.int .i64) (.cs (.int .i64) (.cs (.int .i64) (.cs (.int .i64) .nl)))))))) (.cs (.var (.cs (.own 2) (.cs (.int .i64) (.cs (.own 3) (.cs (.int .i64) (.cs .bool (.cs (.int .i64) (.cs .nils .nl)))))))) (.cs (.row 3 true) (.cs (.row 1 true) (.cs (.var (.cs .nilp (.cs (.int .i64) (.cs (.int .i64) (.cs .bool (.cs (.int .i64) (.cs .nils (.cs .nils .nl)))))))) (.cs (.var (.cs (.ptr 0 0) (.cs (.int .i64) (.cs (.int .i64) (.cs .bool (.cs (.int .i64) (.cs (.sl 3) (.cs (.own 6) .nl)))))))) (.cs (.row 12 true) (.cs (.row 3 true) .nl))))))))
def ou5 (l : T5) (y : (Int × (Int × ((List Int) × (List (List Int)))))) : Ex × St U := (.exit 0, stOf 79 [(0, .ptr 0 0), (1, .im (.int .i64 l.1.2.1)), (4, .ptr 4 0), (6, .ptr 5 0)] [.var [.ptr 1 0, .im (.int .i64 l.2.1.2.1), .im (.int .i64 l.2.1.2.2.1), .im (.int .i64 l.2.1.2.2.2.1), .im (.int .i64 l.2.1.2.2.2.2.1), .im (.int .i64 l.2.1.2.2.2.2.2.1), .im (.int .i64 l.2.1.2.2.2.2.2.2.1)], .var [.own 2, .im (.int .i64 l.2.2.1.2.1), .own 3, .im (.int .i64 l.2.2.1.2.2.2.1), .im (.bool l.2.2.1.2.2.2.2.1), .im (.int .i64 l.2.2.1.2.2.2.2.2.1), .im .nils], .row 3 l.2.2.2.1 true, .row 1 l.2.2.2.2.1 true, .var [.im .nilp, .im (.int .i64 l.2.2.2.2.2.1.2.1), .im (.int .i64 l.2.2.2.2.2.1.2.2.1), .im (.bool l.2.2.2.2.2.1.2.2.2.1), .im (.int .i64 l.2.2.2.2.2.1.2.2.2.2.1), .im .nils, .im .nils], .var [.ptr 0 0, .im (.int .i64 l.2.2.2.2.2.2.1.2.1), .im (.int .i64 y.1), .im (.bool l.2.2.2.2.2.2.1.2.2.2.1), .im (.int .i64 y.2.1), .im (.slice 3 y.2.2.1), .own 6], .row 12 y.2.2.2 true] 4)
noncomputable def Λ5 : LFun U := mkLp (U := U) p5 q5 4 (X := (Int × (Int × ((List Int) × (List (List Int)))))) (fun (l : T5) => L5 l.1.2.1 l.2.1.2.1 l.2.1.2.2.1 l.2.1.2.2.2.1 l.2.1.2.2.2.2.1 l.2.1.2.2.2.2.2.1 l.2.1.2.2.2.2.2.2.1 l.2.2.1.2.1 l.2.2.1.2.2.2.1 l.2.2.1.2.2.2.2.1 l.2.2.1.2.2.2.2.2.1 l.2.2.2.1 l.2.2.2.2.1 l.2.2.2.2.2.1.2.1 l.2.2.2.2.2.1.2.2.1 l.2.2.2.2.2.1.2.2.2.1 l.2.2.2.2.2.1.2.2.2.2.1 l.2.2.2.2.2.2.1.2.1 l.2.2.2.2.2.2.1.2.2.1 l.2.2.2.2.2.2.1.2.2.2.1 l.2.2.2.2.2.2.1.2.2.2.2.1 l.2.2.2.2.2.2.1.2.2.2.2.2.1 l.2.2.2.2.2.2.2.1 l.2.2.2.2.2.2.2.2.1) sp1 ou5
noncomputable def t (sector h0_1 h0_2 h0_3 h0_4 h0_5 h0_6 h1_1 h1_3 : Int) (h1_4 : Bool) (h1_5 : Int) (h2 : (List Int)) (h3 : (List Int)) : Tw (Int × (Bool × (Int × ((List Int) × (Int × (List (List Int))))))) :=
 (.opt (drive_Drive_Geometry.c h0_1 h0_2 h0_3 h0_4 h0_5 h0_6 h1_1 h1_3 h1_4 h1_5 h2 h3) fun z1 =>
  (.opt (drive_Drive_Read.c sector (0 : Int) h0_1 h0_1 h0_2 h0_3 h0_4 h0_5 h0_6 h1_1 h1_3 h1_4 h1_5 h2 h3) fun z2 =>
   (.bb (z2.1 != (0 : Int))
    (.ret ((0 : Int), (false, ((0 : Int), (([] : List (Int)), (z2.1, ([] : List (List Int))))))))
    (.opt (L5 sector h0_1 h0_2 h0_3 h0_4 h0_5 h0_6 h1_1 h1_3 h1_4 h1_5 h2 h3 (0 : Int) (0 : Int) false (0 : Int) sector (0 : Int) false (0 : Int) ([] : List (Int)) ([] : List (List Int)) z2.2) fun z16 =>
     (.opt (drive_Drive_Blank.c sector z16.1 h0_1 h0_2 h0_3 h0_4 h0_5 h0_6 h1_1 h1_3 h1_4 h1_5 h2 h3) fun z17 =>
      (.ret (z16.1, ((!z17.1), (z16.2.1, (z16.2.2.1, (z17.2, z16.2.2.2)))))))))))
noncomputable def c (sector h0_1 h0_2 h0_3 h0_4 h0_5 h0_6 h1_1 h1_3 : Int) (h1_4 : Bool) (h1_5 : Int) (h2 : (List Int)) (h3 : (List Int)) : Option (Int × (Bool × (Int × ((List Int) × (Int × (List (List Int))))))) := (t sector h0_1 h0_2 h0_3 h0_4 h0_5 h0_6 h1_1 h1_3 h1_4 h1_5 h2 h3).run
def pA : Pt := (.cs (.ptr 0 0) (.cs (.int .i64) .nl))
def pH : Pt := (.cs (.var (.cs (.ptr 1 0) (.cs (.int .i64) (.cs (.int .i64) (.cs (.int .i64) (.cs (.int .i64) (.cs (.int .i64) (.cs (.int .i64) .nl)))))))) (.cs (.var (.cs (.own 2) (.cs (.int .i64) (.cs (.own 3) (.cs (.int .i64) (.cs .bool (.cs (.int .i64) (.cs .nils .nl)))))))) (.cs (.row 3 true) (.cs (.row 1 true) .nl))))
def v (l : TA) (y : (Int × (Bool × (Int × ((List Int) × (Int × (List (List Int)))))))) : AV U := .tup [.agg [.ptr 0 0, .im (.int .i64 l.1.2.1), .im (.int .i64 y.1), .im (.bool y.2.1), .im (.int .i64 y.2.2.1), .im (.slice 3 y.2.2.2.1), .own 4], .im (.int .i64 y.2.2.2.2.1)]
def hh (l : TA) (y : (Int × (Bool × (Int × ((List Int) × (Int × (List (List Int)))))))) : Hp U := [.var [.ptr 1 0, .im (.int .i64 l.2.1.2.1), .im (.int .i64 l.2.1.2.2.1), .im (.int .i64 l.2.1.2.2.2.1), .im (.int .i64 l.2.1.2.2.2.2.1), .im (.int .i64 l.2.1.2.2.2.2.2.1), .im (.int .i64 l.2.1.2.2.2.2.2.2.1)], .var [.own 2, .im (.int .i64 l.2.2.1.2.1), .own 3, .im (.int .i64 l.2.2.1.2.2.2.1), .im (.bool l.2.2.1.2.2.2.2.1), .im (.int .i64 l.2.2.1.2.2.2.2.2.1), .im .nils], .row 3 l.2.2.2.1 true, .row 1 l.2.2.2.2.1 true, .row 12 y.2.2.2.2.2 true]
noncomputable def A : AFun U := mkA (U := U) pA pH (X := (Int × (Bool × (Int × ((List Int) × (Int × (List (List Int)))))))) (fun (l : TA) => c l.1.2.1 l.2.1.2.1 l.2.1.2.2.1 l.2.1.2.2.2.1 l.2.1.2.2.2.2.1 l.2.1.2.2.2.2.2.1 l.2.1.2.2.2.2.2.2.1 l.2.2.1.2.1 l.2.2.1.2.2.2.1 l.2.2.1.2.2.2.2.1 l.2.2.1.2.2.2.2.2.1 l.2.2.2.1 l.2.2.2.2.1) sp1 v hh
noncomputable def body : Code := (Go.Func.body Try.f40).getD .skip
noncomputable def Γ : List (FuncId × AFun U) := [(35, drive_Drive_Geometry.A), (64, drive_Drive_Read.A), (65, frame_Read.A), (61, journal_Journal_said_v3.A), (66, drive_Drive_Blank.A)]
noncomputable def Λ : List (Nat × LFun U) := [(5, Λ5)]
noncomputable def CT : List (Nat × LFun U) := []
def ro : List FuncId := [35, 64]
def D : Nat → Lv × Lv := dtab [(5, ⟨[4, 6, 1, 0, 7], [(6, [.to 6], .own 12), (6, [.to 5], .im 3)]⟩, ⟨[4, 5, 6, 1, 0], []⟩)]
noncomputable def E : Env U := { E0 with Γ := Γ, Λ := Λ, C := CT, D := D, ro := ro }
theorem hf5 (R : Type) (l : T5) (s : (Int × (Int × ((List Int) × (List (List Int)))))) (K : Ex → St U → Option R) : codeA E (pick (loopsOf body) 5) ⟨p5.mkL ((((), (l.1.2.1, ((), ((), ((), ((), ((), ((), ())))))))), (((), (l.2.1.2.1, (l.2.1.2.2.1, (l.2.1.2.2.2.1, (l.2.1.2.2.2.2.1, (l.2.1.2.2.2.2.2.1, (l.2.1.2.2.2.2.2.2.1, ()))))))), (((), (l.2.2.1.2.1, ((), (l.2.2.1.2.2.2.1, (l.2.2.1.2.2.2.2.1, (l.2.2.1.2.2.2.2.2.1, ((), ()))))))), (l.2.2.2.1, (l.2.2.2.2.1, (((), (l.2.2.2.2.2.1.2.1, (l.2.2.2.2.2.1.2.2.1, (l.2.2.2.2.2.1.2.2.2.1, (l.2.2.2.2.2.1.2.2.2.2.1, ((), ((), ()))))))), (((), (l.2.2.2.2.2.2.1.2.1, (s.1, (l.2.2.2.2.2.2.1.2.2.2.1, (s.2.1, (s.2.2.1, ((), ()))))))), (s.2.2.2, (l.2.2.2.2.2.2.2.2.1, ()))))))))) : T5).1, q5.mkH ((((), (l.1.2.1, ((), ((), ((), ((), ((), ((), ())))))))), (((), (l.2.1.2.1, (l.2.1.2.2.1, (l.2.1.2.2.2.1, (l.2.1.2.2.2.2.1, (l.2.1.2.2.2.2.2.1, (l.2.1.2.2.2.2.2.2.1, ()))))))), (((), (l.2.2.1.2.1, ((), (l.2.2.1.2.2.2.1, (l.2.2.1.2.2.2.2.1, (l.2.2.1.2.2.2.2.2.1, ((), ()))))))), (l.2.2.2.1, (l.2.2.2.2.1, (((), (l.2.2.2.2.2.1.2.1, (l.2.2.2.2.2.1.2.2.1, (l.2.2.2.2.2.1.2.2.2.1, (l.2.2.2.2.2.1.2.2.2.2.1, ((), ((), ()))))))), (((), (l.2.2.2.2.2.2.1.2.1, (s.1, (l.2.2.2.2.2.2.1.2.2.2.1, (s.2.1, (s.2.2.1, ((), ()))))))), (s.2.2.2, (l.2.2.2.2.2.2.2.2.1, ()))))))))) : T5).2, 4⟩ (roundK E (pick (loopsOf body) 5) K) =
  (l5 l.1.2.1 l.2.1.2.1 l.2.1.2.2.1 l.2.1.2.2.2.1 l.2.1.2.2.2.2.1 l.2.1.2.2.2.2.2.1 l.2.1.2.2.2.2.2.2.1 l.2.2.1.2.1 l.2.2.1.2.2.2.1 l.2.2.1.2.2.2.2.1 l.2.2.1.2.2.2.2.2.1 l.2.2.2.1 l.2.2.2.2.1 l.2.2.2.2.2.1.2.1 l.2.2.2.2.2.1.2.2.1 l.2.2.2.2.2.1.2.2.2.1 l.2.2.2.2.2.1.2.2.2.2.1 l.2.2.2.2.2.2.1.2.1 l.2.2.2.2.2.2.1.2.2.2.1 l.2.2.2.2.2.2.2.2.1 s.1 s.2.1 s.2.2.1 s.2.2.2).runK (lpK K (fun s => ⟨p5.mkL ((((), (l.1.2.1, ((), ((), ((), ((), ((), ((), ())))))))), (((), (l.2.1.2.1, (l.2.1.2.2.1, (l.2.1.2.2.2.1, (l.2.1.2.2.2.2.1, (l.2.1.2.2.2.2.2.1, (l.2.1.2.2.2.2.2.2.1, ()))))))), (((), (l.2.2.1.2.1, ((), (l.2.2.1.2.2.2.1, (l.2.2.1.2.2.2.2.1, (l.2.2.1.2.2.2.2.2.1, ((), ()))))))), (l.2.2.2.1, (l.2.2.2.2.1, (((), (l.2.2.2.2.2.1.2.1, (l.2.2.2.2.2.1.2.2.1, (l.2.2.2.2.2.1.2.2.2.1, (l.2.2.2.2.2.1.2.2.2.2.1, ((), ((), ()))))))), (((), (l.2.2.2.2.2.2.1.2.1, (s.1, (l.2.2.2.2.2.2.1.2.2.2.1, (s.2.1, (s.2.2.1, ((), ()))))))), (s.2.2.2, (l.2.2.2.2.2.2.2.2.1, ()))))))))) : T5).1, q5.mkH ((((), (l.1.2.1, ((), ((), ((), ((), ((), ((), ())))))))), (((), (l.2.1.2.1, (l.2.1.2.2.1, (l.2.1.2.2.2.1, (l.2.1.2.2.2.2.1, (l.2.1.2.2.2.2.2.1, (l.2.1.2.2.2.2.2.2.1, ()))))))), (((), (l.2.2.1.2.1, ((), (l.2.2.1.2.2.2.1, (l.2.2.1.2.2.2.2.1, (l.2.2.1.2.2.2.2.2.1, ((), ()))))))), (l.2.2.2.1, (l.2.2.2.2.1, (((), (l.2.2.2.2.2.1.2.1, (l.2.2.2.2.2.1.2.2.1, (l.2.2.2.2.2.1.2.2.2.1, (l.2.2.2.2.2.1.2.2.2.2.1, ((), ((), ()))))))), (((), (l.2.2.2.2.2.2.1.2.1, (s.1, (l.2.2.2.2.2.2.1.2.2.2.1, (s.2.1, (s.2.2.1, ((), ()))))))), (s.2.2.2, (l.2.2.2.2.2.2.2.2.1, ()))))))))) : T5).2, 4⟩) sp1 (ou5 l)) := by kernel_rfl
theorem lk5 (R : Type) (st : St U) (K : Ex → St U → Option R) (r : R) (h : Λ5 R st K = some r) : ∃ n, loopA E (pick (loopsOf body) 5) n st K = some r :=
  lp_ok (U := U) (E := E) (b := pick (loopsOf body) 5) (m := 4) (sp := sp1) (p := p5) (q := q5) (X := (Int × (Int × ((List Int) × (List (List Int)))))) (S := (Int × (Int × ((List Int) × (List (List Int)))))) (f := fun (l : T5) s => l5 l.1.2.1 l.2.1.2.1 l.2.1.2.2.1 l.2.1.2.2.2.1 l.2.1.2.2.2.2.1 l.2.1.2.2.2.2.2.1 l.2.1.2.2.2.2.2.2.1 l.2.2.1.2.1 l.2.2.1.2.2.2.1 l.2.2.1.2.2.2.2.1 l.2.2.1.2.2.2.2.2.1 l.2.2.2.1 l.2.2.2.2.1 l.2.2.2.2.2.1.2.1 l.2.2.2.2.2.1.2.2.1 l.2.2.2.2.2.1.2.2.2.1 l.2.2.2.2.2.1.2.2.2.2.1 l.2.2.2.2.2.2.1.2.1 l.2.2.2.2.2.2.1.2.2.2.1 l.2.2.2.2.2.2.2.2.1 s.1 s.2.1 s.2.2.1 s.2.2.2) (hd := fun (l : T5) s => (((), (l.1.2.1, ((), ((), ((), ((), ((), ((), ())))))))), (((), (l.2.1.2.1, (l.2.1.2.2.1, (l.2.1.2.2.2.1, (l.2.1.2.2.2.2.1, (l.2.1.2.2.2.2.2.1, (l.2.1.2.2.2.2.2.2.1, ()))))))), (((), (l.2.2.1.2.1, ((), (l.2.2.1.2.2.2.1, (l.2.2.1.2.2.2.2.1, (l.2.2.1.2.2.2.2.2.1, ((), ()))))))), (l.2.2.2.1, (l.2.2.2.2.1, (((), (l.2.2.2.2.2.1.2.1, (l.2.2.2.2.2.1.2.2.1, (l.2.2.2.2.2.1.2.2.2.1, (l.2.2.2.2.2.1.2.2.2.2.1, ((), ((), ()))))))), (((), (l.2.2.2.2.2.2.1.2.1, (s.1, (l.2.2.2.2.2.2.1.2.2.2.1, (s.2.1, (s.2.2.1, ((), ()))))))), (s.2.2.2, (l.2.2.2.2.2.2.2.2.1, ())))))))))) (s0 := fun (l : T5) => (l.2.2.2.2.2.2.1.2.2.1, (l.2.2.2.2.2.2.1.2.2.2.2.1, (l.2.2.2.2.2.2.1.2.2.2.2.2.1, l.2.2.2.2.2.2.2.1)))) (ou := ou5)
    (fun l => rfl) (fun l x => by rfl) sp1_ok hf5 h
theorem hk (R : Type) (l : TA) (K : AV U → Hp U → Option R) : funcA E Try.f40 [(0, [.cell 5], .im 3), (0, [.cell 6], .own 12)] R (pA.mkL l.1) (pH.mkH l.2) K = (t l.1.2.1 l.2.1.2.1 l.2.1.2.2.1 l.2.1.2.2.2.1 l.2.1.2.2.2.2.1 l.2.1.2.2.2.2.2.1 l.2.1.2.2.2.2.2.2.1 l.2.2.1.2.1 l.2.2.1.2.2.2.1 l.2.2.1.2.2.2.2.1 l.2.2.1.2.2.2.2.2.1 l.2.2.2.1 l.2.2.2.2.1).runK fun y => K (v l y) (hh l y) := by kernel_rfl
theorem okF : SoundF Try.prog cc 40 (funcA E Try.f40 [(0, [.cell 5], .im 3), (0, [.cell 6], .own 12)]) :=
  funcA_ok (E := E) P_mixed (E0_ok.with Γ Λ CT D ro) (gam_of (all_cons ⟨drive_Drive_Geometry.ok, ⟨Try.f35, Try.func35, by kernel_rfl, by kernel_rfl⟩⟩ (all_cons ⟨drive_Drive_Read.ok, ⟨Try.f64, Try.func64, by kernel_rfl, by kernel_rfl⟩⟩ (all_cons ⟨frame_Read.ok, ⟨Try.f65, Try.func65, by kernel_rfl, by kernel_rfl⟩⟩ (all_cons ⟨journal_Journal_said_v3.ok, ⟨Try.f61, Try.func61, by kernel_rfl, by kernel_rfl⟩⟩ (all_cons ⟨drive_Drive_Blank.ok, ⟨Try.f66, Try.func66, by kernel_rfl, by kernel_rfl⟩⟩ all_nil))))) (all_cons (fun _ => drive_Drive_Geometry.keep) (all_cons (fun _ => drive_Drive_Read.keep) (all_cons (no_keep (by kernel_rfl)) (all_cons (no_keep (by kernel_rfl)) (all_cons (no_keep (by kernel_rfl)) all_nil)))))) Try.func40 (c := body) (by kernel_rfl)
    (just_by (by kernel_rfl) (by kernel_rfl) (all_cons lk5 all_nil) all_nil) [(0, [.cell 5], .im 3), (0, [.cell 6], .own 12)]
theorem ok : SoundF Try.prog cc 40 A :=
  mkA_ok (E := E) (p := pA) (q := pH) (t := fun (l : TA) => t l.1.2.1 l.2.1.2.1 l.2.1.2.2.1 l.2.1.2.2.2.1 l.2.1.2.2.2.2.1 l.2.1.2.2.2.2.2.1 l.2.1.2.2.2.2.2.2.1 l.2.2.1.2.1 l.2.2.1.2.2.2.1 l.2.2.1.2.2.2.2.1 l.2.2.1.2.2.2.2.2.1 l.2.2.2.1 l.2.2.2.2.1) sp1_ok hk okF
theorem keep : KeepA A := mkA_keep (U := U) sp1_ok (fun (l : TA) y => ⟨(hh l y).drop 4, by kernel_rfl⟩)
end journal_read

/-! (*instar/journal.Journal).Seq -/
namespace journal_Journal_Seq
abbrev TA : Type := ((Unit × Unit) × ((Unit × (Int × (Int × (Bool × (Int × ((List Int) × (Unit × Unit))))))) × ((Unit × (Int × (Int × (Int × (Int × (Int × (Int × Unit))))))) × ((Unit × (Int × (Unit × (Int × (Bool × (Int × (Unit × Unit))))))) × ((List Int) × ((List Int) × ((List (List Int)) × Unit)))))))
noncomputable def t (h0_1 h0_2 : Int) (h0_3 : Bool) (h0_4 : Int) (h0_5 : (List Int)) (h1_1 h1_2 h1_3 h1_4 h1_5 h1_6 h2_1 h2_3 : Int) (h2_4 : Bool) (h2_5 : Int) (h3 : (List Int)) (h4 : (List Int)) (h5 : (List (List Int))) : Tw Unit :=
 (.ret ())
noncomputable def c (h0_1 h0_2 : Int) (h0_3 : Bool) (h0_4 : Int) (h0_5 : (List Int)) (h1_1 h1_2 h1_3 h1_4 h1_5 h1_6 h2_1 h2_3 : Int) (h2_4 : Bool) (h2_5 : Int) (h3 : (List Int)) (h4 : (List Int)) (h5 : (List (List Int))) : Option Unit := (t h0_1 h0_2 h0_3 h0_4 h0_5 h1_1 h1_2 h1_3 h1_4 h1_5 h1_6 h2_1 h2_3 h2_4 h2_5 h3 h4 h5).run
def pA : Pt := (.cs (.ptr 0 0) .nl)
def pH : Pt := (.cs (.var (.cs (.ptr 1 0) (.cs (.int .i64) (.cs (.int .i64) (.cs .bool (.cs (.int .i64) (.cs (.sl 3) (.cs (.own 5) .nl)))))))) (.cs (.var (.cs (.ptr 2 0) (.cs (.int .i64) (.cs (.int .i64) (.cs (.int .i64) (.cs (.int .i64) (.cs (.int .i64) (.cs (.int .i64) .nl)))))))) (.cs (.var (.cs (.own 3) (.cs (.int .i64) (.cs (.own 4) (.cs (.int .i64) (.cs .bool (.cs (.int .i64) (.cs .nils .nl)))))))) (.cs (.row 3 true) (.cs (.row 1 true) (.cs (.row 12 true) .nl))))))
def v (l : TA) (y : Unit) : AV U := .im (.int .i64 l.2.1.2.2.2.2.1)
def hh (l : TA) (y : Unit) : Hp U := [.var [.ptr 1 0, .im (.int .i64 l.2.1.2.1), .im (.int .i64 l.2.1.2.2.1), .im (.bool l.2.1.2.2.2.1), .im (.int .i64 l.2.1.2.2.2.2.1), .im (.slice 3 l.2.1.2.2.2.2.2.1), .own 5], .var [.ptr 2 0, .im (.int .i64 l.2.2.1.2.1), .im (.int .i64 l.2.2.1.2.2.1), .im (.int .i64 l.2.2.1.2.2.2.1), .im (.int .i64 l.2.2.1.2.2.2.2.1), .im (.int .i64 l.2.2.1.2.2.2.2.2.1), .im (.int .i64 l.2.2.1.2.2.2.2.2.2.1)], .var [.own 3, .im (.int .i64 l.2.2.2.1.2.1), .own 4, .im (.int .i64 l.2.2.2.1.2.2.2.1), .im (.bool l.2.2.2.1.2.2.2.2.1), .im (.int .i64 l.2.2.2.1.2.2.2.2.2.1), .im .nils], .row 3 l.2.2.2.2.1 true, .row 1 l.2.2.2.2.2.1 true, .row 12 l.2.2.2.2.2.2.1 true]
noncomputable def A : AFun U := mkA (U := U) pA pH (X := Unit) (fun (l : TA) => c l.2.1.2.1 l.2.1.2.2.1 l.2.1.2.2.2.1 l.2.1.2.2.2.2.1 l.2.1.2.2.2.2.2.1 l.2.2.1.2.1 l.2.2.1.2.2.1 l.2.2.1.2.2.2.1 l.2.2.1.2.2.2.2.1 l.2.2.1.2.2.2.2.2.1 l.2.2.1.2.2.2.2.2.2.1 l.2.2.2.1.2.1 l.2.2.2.1.2.2.2.1 l.2.2.2.1.2.2.2.2.1 l.2.2.2.1.2.2.2.2.2.1 l.2.2.2.2.1 l.2.2.2.2.2.1 l.2.2.2.2.2.2.1) sp1 v hh
noncomputable def body : Code := (Go.Func.body Try.f9).getD .skip
noncomputable def Γ : List (FuncId × AFun U) := []
noncomputable def Λ : List (Nat × LFun U) := []
noncomputable def CT : List (Nat × LFun U) := []
def ro : List FuncId := []
def D : Nat → Lv × Lv := dtab []
noncomputable def E : Env U := { E0 with Γ := Γ, Λ := Λ, C := CT, D := D, ro := ro }
theorem hk (R : Type) (l : TA) (K : AV U → Hp U → Option R) : funcA E Try.f9 [] R (pA.mkL l.1) (pH.mkH l.2) K = (t l.2.1.2.1 l.2.1.2.2.1 l.2.1.2.2.2.1 l.2.1.2.2.2.2.1 l.2.1.2.2.2.2.2.1 l.2.2.1.2.1 l.2.2.1.2.2.1 l.2.2.1.2.2.2.1 l.2.2.1.2.2.2.2.1 l.2.2.1.2.2.2.2.2.1 l.2.2.1.2.2.2.2.2.2.1 l.2.2.2.1.2.1 l.2.2.2.1.2.2.2.1 l.2.2.2.1.2.2.2.2.1 l.2.2.2.1.2.2.2.2.2.1 l.2.2.2.2.1 l.2.2.2.2.2.1 l.2.2.2.2.2.2.1).runK fun y => K (v l y) (hh l y) := by kernel_rfl
theorem okF : SoundF Try.prog cc 9 (funcA E Try.f9 []) :=
  funcA_ok (E := E) P_mixed (E0_ok.with Γ Λ CT D ro) (gam_of all_nil all_nil) Try.func9 (c := body) (by kernel_rfl)
    (just_by (by kernel_rfl) (by kernel_rfl) all_nil all_nil) []
theorem ok : SoundF Try.prog cc 9 A :=
  mkA_ok (E := E) (p := pA) (q := pH) (t := fun (l : TA) => t l.2.1.2.1 l.2.1.2.2.1 l.2.1.2.2.2.1 l.2.1.2.2.2.2.1 l.2.1.2.2.2.2.2.1 l.2.2.1.2.1 l.2.2.1.2.2.1 l.2.2.1.2.2.2.1 l.2.2.1.2.2.2.2.1 l.2.2.1.2.2.2.2.2.1 l.2.2.1.2.2.2.2.2.2.1 l.2.2.2.1.2.1 l.2.2.2.1.2.2.2.1 l.2.2.2.1.2.2.2.2.1 l.2.2.2.1.2.2.2.2.2.1 l.2.2.2.2.1 l.2.2.2.2.2.1 l.2.2.2.2.2.2.1) sp1_ok hk okF
theorem keep : KeepA A := mkA_keep (U := U) sp1_ok (fun (l : TA) y => ⟨(hh l y).drop 6, by kernel_rfl⟩)
end journal_Journal_Seq

/-! instar/journal.Open -/
namespace journal_Open
abbrev TA : Type := ((Unit × Unit) × ((Unit × (Int × (Int × (Int × (Int × (Int × (Int × Unit))))))) × ((Unit × (Int × (Unit × (Int × (Bool × (Int × (Unit × Unit))))))) × ((List Int) × ((List Int) × Unit)))))
abbrev T5v2 : Type := ((Unit × (Unit × (Unit × (Unit × (Int × (Unit × Unit)))))) × ((Unit × (Int × (Int × (Int × (Int × (Int × (Int × Unit))))))) × ((Unit × (Int × (Unit × (Int × (Bool × (Int × (Unit × Unit))))))) × ((List Int) × ((List Int) × ((Unit × (Int × (Int × (Bool × (Int × ((List Int) × (Unit × Unit))))))) × ((List (List Int)) × Unit)))))))
noncomputable def l5v2 (h0_1 h0_2 h0_3 h0_4 h0_5 h0_6 h1_1 h1_3 : Int) (h1_4 : Bool) (h1_5 : Int) (h2 : (List Int)) (h3 : (List Int)) (k10 h4_1 h4_2 : Int) (h4_3 : Bool) (h4_4 : Int) (h4_5 : (List Int)) (h5 : (List (List Int))) : Tw ((Int × (Int × (Int × (Bool × (Int × ((List Int) × (List (List Int)))))))) ⊕ ((Int × (Int × (Bool × (Int × ((List Int) × (List (List Int))))))) ⊕ (Int × (Int × (Int × (Bool × (Int × ((List Int) × (List (List Int)))))))))) :=
 (.bb (decide (k10 < (2 : Int)))
  (.opt (journal_read.c k10 h0_1 h0_2 h0_3 h0_4 h0_5 h0_6 h1_1 h1_3 h1_4 h1_5 h2 h3) fun z3 =>
   (.bb (z3.2.2.2.2.1 != (0 : Int))
    (.ret (.inr (.inr (z3.2.2.2.2.1, (h4_1, (h4_2, (h4_3, (h4_4, (h4_5, h5)))))))))
    (.opt (journal_Journal_Seq.c h4_1 h4_2 h4_3 h4_4 h4_5 h0_1 h0_2 h0_3 h0_4 h0_5 h0_6 h1_1 h1_3 h1_4 h1_5 h2 h3 h5) fun z4 =>
     (.bb (decide (z3.2.2.1 > h4_4))
      (.ret (.inl ((w64 (k10 + (1 : Int))), (k10, (z3.1, (z3.2.1, (z3.2.2.1, (z3.2.2.2.1, z3.2.2.2.2.2))))))))
      (.ret (.inl ((w64 (k10 + (1 : Int))), (h4_1, (h4_2, (h4_3, (h4_4, (h4_5, h5))))))))))))
  (.ret (.inr (.inl (h4_1, (h4_2, (h4_3, (h4_4, (h4_5, h5)))))))))
noncomputable def L5v2 (k10 h0_1 h0_2 h0_3 h0_4 h0_5 h0_6 h1_1 h1_3 : Int) (h1_4 : Bool) (h1_5 : Int) (h2 : (List Int)) (h3 : (List Int)) (h4_1 h4_2 : Int) (h4_3 : Bool) (h4_4 : Int) (h4_5 : (List Int)) (h5 : (List (List Int))) : Option ((Int × (Int × (Bool × (Int × ((List Int) × (List (List Int))))))) ⊕ (Int × (Int × (Int × (Bool × (Int × ((List Int) × (List (List Int))))))))) := Lp (fun s => (l5v2 h0_1 h0_2 h0_3 h0_4 h0_5 h0_6 h1_1 h1_3 h1_4 h1_5 h2 h3 s.1 s.2.1 s.2.2.1 s.2.2.2.1 s.2.2.2.2.1 s.2.2.2.2.2.1 s.2.2.2.2.2.2).run) (k10, (h4_1, (h4_2, (h4_3, (h4_4, (h4_5, h5))))))
def p5v2 : Pt := (.cs (.ptr 0 0) (.cs (.bots 3) (.cs (.ptr 4 0) (.cs (.bots 5) (.cs (.int .i64) (.cs (.bots 20) .nl))))))
def q5v2 : Pt := (.cs (.var (.cs (.ptr 1 0) (.cs (.int .i64) (.cs (.int .i64) (.cs (.int .i64) (.cs (.int .i64) (.cs (.int .i64) (.cs (.int .i64) .nl)))))))) (.cs (.var (.cs (.own 2) (.cs (.int .i64) (.cs (.own 3) (.cs (.int .i64) (.cs .bool (.cs (.int .i64) (.cs .nils .nl)))))))) (.cs (.row 3 true) (.cs (.row 1 true) (.cs (.var (.cs (.ptr 0 0) (.cs (.int .i64) (.cs (.int .i64) (.cs .bool (.cs (.int .i64) (.cs (.sl 3) (.cs (.own 5) .nl)))))))) (.cs (.row 12 true) .nl))))))
def ou5v2 (l : T5v2) (y : ((Int × (Int × (Bool × (Int × ((List Int) × (List (List Int))))))) ⊕ (Int × (Int × (Int × (Bool × (Int × ((List Int) × (List (List Int)))))))))) : Ex × St U := (Sum.elim (fun a0 => (.exit 0, stOf 31 [(4, .ptr 4 0)] [.var [.ptr 1 0, .im (.int .i64 l.2.1.2.1), .im (.int .i64 l.2.1.2.2.1), .im (.int .i64 l.2.1.2.2.2.1), .im (.int .i64 l.2.1.2.2.2.2.1), .im (.int .i64 l.2.1.2.2.2.2.2.1), .im (.int .i64 l.2.1.2.2.2.2.2.2.1)], .var [.own 2, .im (.int .i64 l.2.2.1.2.1), .own 3, .im (.int .i64 l.2.2.1.2.2.2.1), .im (.bool l.2.2.1.2.2.2.2.1), .im (.int .i64 l.2.2.1.2.2.2.2.2.1), .im .nils], .row 3 l.2.2.2.1 true, .row 1 l.2.2.2.2.1 true, .var [.ptr 0 0, .im (.int .i64 a0.1), .im (.int .i64 a0.2.1), .im (.bool a0.2.2.1), .im (.int .i64 a0.2.2.2.1), .im (.slice 3 a0.2.2.2.2.1), .own 5], .row 12 a0.2.2.2.2.2 true] 4)) (fun b0 => (.ret, stOf 31 [(2, .im .nilp), (3, .im (.int .i64 b0.1)), (4, .ptr 4 0)] [.var [.ptr 1 0, .im (.int .i64 l.2.1.2.1), .im (.int .i64 l.2.1.2.2.1), .im (.int .i64 l.2.1.2.2.2.1), .im (.int .i64 l.2.1.2.2.2.2.1), .im (.int .i64 l.2.1.2.2.2.2.2.1), .im (.int .i64 l.2.1.2.2.2.2.2.2.1)], .var [.own 2, .im (.int .i64 l.2.2.1.2.1), .own 3, .im (.int .i64 l.2.2.1.2.2.2.1), .im (.bool l.2.2.1.2.2.2.2.1), .im (.int .i64 l.2.2.1.2.2.2.2.2.1), .im .nils], .row 3 l.2.2.2.1 true, .row 1 l.2.2.2.2.1 true, .var [.ptr 0 0, .im (.int .i64 b0.2.1), .im (.int .i64 b0.2.2.1), .im (.bool b0.2.2.2.1), .im (.int .i64 b0.2.2.2.2.1), .im (.slice 3 b0.2.2.2.2.2.1), .own 5], .row 12 b0.2.2.2.2.2.2 true] 4)) y)
noncomputable def Λ5v2 : LFun U := mkLp (U := U) p5v2 q5v2 4 (X := ((Int × (Int × (Bool × (Int × ((List Int) × (List (List Int))))))) ⊕ (Int × (Int × (Int × (Bool × (Int × ((List Int) × (List (List Int)))))))))) (fun (l : T5v2) => L5v2 l.1.2.2.2.2.1 l.2.1.2.1 l.2.1.2.2.1 l.2.1.2.2.2.1 l.2.1.2.2.2.2.1 l.2.1.2.2.2.2.2.1 l.2.1.2.2.2.2.2.2.1 l.2.2.1.2.1 l.2.2.1.2.2.2.1 l.2.2.1.2.2.2.2.1 l.2.2.1.2.2.2.2.2.1 l.2.2.2.1 l.2.2.2.2.1 l.2.2.2.2.2.1.2.1 l.2.2.2.2.2.1.2.2.1 l.2.2.2.2.2.1.2.2.2.1 l.2.2.2.2.2.1.2.2.2.2.1 l.2.2.2.2.2.1.2.2.2.2.2.1 l.2.2.2.2.2.2.1) (spS sp1) ou5v2
abbrev T5 : Type := ((Unit × (Unit × (Unit × (Unit × (Int × (Unit × Unit)))))) × ((Unit × (Int × (Int × (Int × (Int × (Int × (Int × Unit))))))) × ((Unit × (Int × (Unit × (Int × (Bool × (Int × (Unit × Unit))))))) × ((List Int) × ((List Int) × Unit)))))
noncomputable def l5 (h0_1 h0_2 h0_3 h0_4 h0_5 h0_6 h1_1 h1_3 : Int) (h1_4 : Bool) (h1_5 : Int) (h2 : (List Int)) (h3 : (List Int)) (k10 : Int) : Tw (Int ⊕ (Unit ⊕ ((Int × (Int × (Int × (Bool × (Int × ((List Int) × (List (List Int)))))))) ⊕ Int))) :=
 (.bb (decide (k10 < (2 : Int)))
  (.opt (journal_read.c k10 h0_1 h0_2 h0_3 h0_4 h0_5 h0_6 h1_1 h1_3 h1_4 h1_5 h2 h3) fun z1 =>
   (.bb (z1.2.2.2.2.1 != (0 : Int))
    (.ret (.inr (.inr (.inr z1.2.2.2.2.1))))
    (.opt (journal_Journal_Seq_nil0.c) fun z2 =>
     (.bb (decide (z1.2.2.1 > z2))
      (.ret (.inr (.inr (.inl ((w64 (k10 + (1 : Int))), (k10, (z1.1, (z1.2.1, (z1.2.2.1, (z1.2.2.2.1, z1.2.2.2.2.2))))))))))
      (.ret (.inl (w64 (k10 + (1 : Int)))))))))
  (.ret (.inr (.inl ()))))
noncomputable def L5 (k10 h0_1 h0_2 h0_3 h0_4 h0_5 h0_6 h1_1 h1_3 : Int) (h1_4 : Bool) (h1_5 : Int) (h2 : (List Int)) (h3 : (List Int)) : Option (Unit ⊕ ((Int × (Int × (Int × (Bool × (Int × ((List Int) × (List (List Int)))))))) ⊕ Int)) := Lp (fun s => (l5 h0_1 h0_2 h0_3 h0_4 h0_5 h0_6 h1_1 h1_3 h1_4 h1_5 h2 h3 s).run) k10
def p5 : Pt := (.cs (.ptr 0 0) (.cs (.bots 3) (.cs .nilp (.cs (.bots 5) (.cs (.int .i64) (.cs (.bots 20) .nl))))))
def q5 : Pt := (.cs (.var (.cs (.ptr 1 0) (.cs (.int .i64) (.cs (.int .i64) (.cs (.int .i64) (.cs (.int .i64) (.cs (.int .i64) (.cs (.int .i64) .nl)))))))) (.cs (.var (.cs (.own 2) (.cs (.int .i64) (.cs (.own 3) (.cs (.int .i64) (.cs .bool (.cs (.int .i64) (.cs .nils .nl)))))))) (.cs (.row 3 true) (.cs (.row 1 true) .nl))))
def ou5 (l : T5) (y : (Unit ⊕ ((Int × (Int × (Int × (Bool × (Int × ((List Int) × (List (List Int)))))))) ⊕ Int))) : Ex × St U := (Sum.elim (fun a0 => (.exit 0, stOf 31 [(4, .im .nilp)] [.var [.ptr 1 0, .im (.int .i64 l.2.1.2.1), .im (.int .i64 l.2.1.2.2.1), .im (.int .i64 l.2.1.2.2.2.1), .im (.int .i64 l.2.1.2.2.2.2.1), .im (.int .i64 l.2.1.2.2.2.2.2.1), .im (.int .i64 l.2.1.2.2.2.2.2.2.1)], .var [.own 2, .im (.int .i64 l.2.2.1.2.1), .own 3, .im (.int .i64 l.2.2.1.2.2.2.1), .im (.bool l.2.2.1.2.2.2.2.1), .im (.int .i64 l.2.2.1.2.2.2.2.2.1), .im .nils], .row 3 l.2.2.2.1 true, .row 1 l.2.2.2.2.1 true] 4)) (fun b0 => (Sum.elim (fun a1 => (.normal, stOf 31 [(0, .ptr 0 0), (4, .ptr 4 0), (10, .im (.int .i64 a1.1))] [.var [.ptr 1 0, .im (.int .i64 l.2.1.2.1), .im (.int .i64 l.2.1.2.2.1), .im (.int .i64 l.2.1.2.2.2.1), .im (.int .i64 l.2.1.2.2.2.2.1), .im (.int .i64 l.2.1.2.2.2.2.2.1), .im (.int .i64 l.2.1.2.2.2.2.2.2.1)], .var [.own 2, .im (.int .i64 l.2.2.1.2.1), .own 3, .im (.int .i64 l.2.2.1.2.2.2.1), .im (.bool l.2.2.1.2.2.2.2.1), .im (.int .i64 l.2.2.1.2.2.2.2.2.1), .im .nils], .row 3 l.2.2.2.1 true, .row 1 l.2.2.2.2.1 true, .var [.ptr 0 0, .im (.int .i64 a1.2.1), .im (.int .i64 a1.2.2.1), .im (.bool a1.2.2.2.1), .im (.int .i64 a1.2.2.2.2.1), .im (.slice 3 a1.2.2.2.2.2.1), .own 5], .row 12 a1.2.2.2.2.2.2 true] 4)) (fun b1 => (.ret, stOf 31 [(2, .im .nilp), (3, .im (.int .i64 b1)), (4, .im .nilp)] [.var [.ptr 1 0, .im (.int .i64 l.2.1.2.1), .im (.int .i64 l.2.1.2.2.1), .im (.int .i64 l.2.1.2.2.2.1), .im (.int .i64 l.2.1.2.2.2.2.1), .im (.int .i64 l.2.1.2.2.2.2.2.1), .im (.int .i64 l.2.1.2.2.2.2.2.2.1)], .var [.own 2, .im (.int .i64 l.2.2.1.2.1), .own 3, .im (.int .i64 l.2.2.1.2.2.2.1), .im (.bool l.2.2.1.2.2.2.2.1), .im (.int .i64 l.2.2.1.2.2.2.2.2.1), .im .nils], .row 3 l.2.2.2.1 true, .row 1 l.2.2.2.2.1 true] 4)) b0)) y)
noncomputable def Λ5 : LFun U := mkLq (U := U) p5 q5 4 (X := (Unit ⊕ ((Int × (Int × (Int × (Bool × (Int × ((List Int) × (List (List Int)))))))) ⊕ Int))) (fun (l : T5) => L5 l.1.2.2.2.2.1 l.2.1.2.1 l.2.1.2.2.1 l.2.1.2.2.2.1 l.2.1.2.2.2.2.1 l.2.1.2.2.2.2.2.1 l.2.1.2.2.2.2.2.2.1 l.2.2.1.2.1 l.2.2.1.2.2.2.1 l.2.2.1.2.2.2.2.1 l.2.2.1.2.2.2.2.2.1 l.2.2.2.1 l.2.2.2.2.1) (spS (spS sp1)) ou5 Λ5v2
noncomputable def t (h0_1 h0_2 h0_3 h0_4 h0_5 h0_6 h1_1 h1_3 : Int) (h1_4 : Bool) (h1_5 : Int) (h2 : (List Int)) (h3 : (List Int)) : Tw (Int ⊕ (Int × (Int × (Int × (Bool × (Int × ((List Int) × (List (List Int))))))))) :=
 (.opt (L5 (0 : Int) h0_1 h0_2 h0_3 h0_4 h0_5 h0_6 h1_1 h1_3 h1_4 h1_5 h2 h3) fun z5 =>
  (.sm z5
   (fun z6 => (.ret (.inl (8 : Int))))
   (fun z7 => (.sm z7
     (fun z8 => (.opt (L5v2 z8.1 h0_1 h0_2 h0_3 h0_4 h0_5 h0_6 h1_1 h1_3 h1_4 h1_5 h2 h3 z8.2.1 z8.2.2.1 z8.2.2.2.1 z8.2.2.2.2.1 z8.2.2.2.2.2.1 z8.2.2.2.2.2.2) fun z10 =>
       (.sm z10
        (fun z11 => (.ret (.inr ((0 : Int), (z11.1, (z11.2.1, (z11.2.2.1, (z11.2.2.2.1, (z11.2.2.2.2.1, z11.2.2.2.2.2)))))))))
        (fun z12 => (.ret (.inl z12.1))))))
     (fun z9 => (.ret (.inl z9)))))))
noncomputable def c (h0_1 h0_2 h0_3 h0_4 h0_5 h0_6 h1_1 h1_3 : Int) (h1_4 : Bool) (h1_5 : Int) (h2 : (List Int)) (h3 : (List Int)) : Option (Int ⊕ (Int × (Int × (Int × (Bool × (Int × ((List Int) × (List (List Int))))))))) := (t h0_1 h0_2 h0_3 h0_4 h0_5 h0_6 h1_1 h1_3 h1_4 h1_5 h2 h3).run
def pA : Pt := (.cs (.ptr 0 0) .nl)
def pH : Pt := (.cs (.var (.cs (.ptr 1 0) (.cs (.int .i64) (.cs (.int .i64) (.cs (.int .i64) (.cs (.int .i64) (.cs (.int .i64) (.cs (.int .i64) .nl)))))))) (.cs (.var (.cs (.own 2) (.cs (.int .i64) (.cs (.own 3) (.cs (.int .i64) (.cs .bool (.cs (.int .i64) (.cs .nils .nl)))))))) (.cs (.row 3 true) (.cs (.row 1 true) .nl))))
def v (l : TA) (y : (Int ⊕ (Int × (Int × (Int × (Bool × (Int × ((List Int) × (List (List Int)))))))))) : AV U := (Sum.elim (fun a0 => .tup [.im .nilp, .im (.int .i64 a0)]) (fun b0 => .tup [.ptr 4 0, .im (.int .i64 b0.1)]) y)
def hh (l : TA) (y : (Int ⊕ (Int × (Int × (Int × (Bool × (Int × ((List Int) × (List (List Int)))))))))) : Hp U := (Sum.elim (fun a0 => [.var [.ptr 1 0, .im (.int .i64 l.2.1.2.1), .im (.int .i64 l.2.1.2.2.1), .im (.int .i64 l.2.1.2.2.2.1), .im (.int .i64 l.2.1.2.2.2.2.1), .im (.int .i64 l.2.1.2.2.2.2.2.1), .im (.int .i64 l.2.1.2.2.2.2.2.2.1)], .var [.own 2, .im (.int .i64 l.2.2.1.2.1), .own 3, .im (.int .i64 l.2.2.1.2.2.2.1), .im (.bool l.2.2.1.2.2.2.2.1), .im (.int .i64 l.2.2.1.2.2.2.2.2.1), .im .nils], .row 3 l.2.2.2.1 true, .row 1 l.2.2.2.2.1 true]) (fun b0 => [.var [.ptr 1 0, .im (.int .i64 l.2.1.2.1), .im (.int .i64 l.2.1.2.2.1), .im (.int .i64 l.2.1.2.2.2.1), .im (.int .i64 l.2.1.2.2.2.2.1), .im (.int .i64 l.2.1.2.2.2.2.2.1), .im (.int .i64 l.2.1.2.2.2.2.2.2.1)], .var [.own 2, .im (.int .i64 l.2.2.1.2.1), .own 3, .im (.int .i64 l.2.2.1.2.2.2.1), .im (.bool l.2.2.1.2.2.2.2.1), .im (.int .i64 l.2.2.1.2.2.2.2.2.1), .im .nils], .row 3 l.2.2.2.1 true, .row 1 l.2.2.2.2.1 true, .var [.ptr 0 0, .im (.int .i64 b0.2.1), .im (.int .i64 b0.2.2.1), .im (.bool b0.2.2.2.1), .im (.int .i64 b0.2.2.2.2.1), .im (.slice 3 b0.2.2.2.2.2.1), .own 5], .row 12 b0.2.2.2.2.2.2 true]) y)
noncomputable def A : AFun U := mkA (U := U) pA pH (X := (Int ⊕ (Int × (Int × (Int × (Bool × (Int × ((List Int) × (List (List Int)))))))))) (fun (l : TA) => c l.2.1.2.1 l.2.1.2.2.1 l.2.1.2.2.2.1 l.2.1.2.2.2.2.1 l.2.1.2.2.2.2.2.1 l.2.1.2.2.2.2.2.2.1 l.2.2.1.2.1 l.2.2.1.2.2.2.1 l.2.2.1.2.2.2.2.1 l.2.2.1.2.2.2.2.2.1 l.2.2.2.1 l.2.2.2.2.1) (spS sp1) v hh
noncomputable def body : Code := (Go.Func.body Try.f19).getD .skip
noncomputable def Γ : List (FuncId × AFun U) := [(40, journal_read.A), (9, (orA journal_Journal_Seq_nil0.pA journal_Journal_Seq_nil0.pH journal_Journal_Seq_nil0.A journal_Journal_Seq.A))]
noncomputable def Λ : List (Nat × LFun U) := [(5, (orL p5v2 q5v2 Λ5v2 Λ5))]
noncomputable def CT : List (Nat × LFun U) := []
def ro : List FuncId := [9]
def D : Nat → Lv × Lv := dtab [(5, ⟨[10, 4, 0], []⟩, ⟨[2, 3, 4], []⟩)]
noncomputable def E : Env U := { E0 with Γ := Γ, Λ := Λ, C := CT, D := D, ro := ro }
theorem hf5v2 (R : Type) (l : T5v2) (s : (Int × (Int × (Int × (Bool × (Int × ((List Int) × (List (List Int))))))))) (K : Ex → St U → Option R) : codeA E (pick (loopsOf body) 5) ⟨p5v2.mkL ((((), ((), ((), ((), (s.1, ((), ())))))), (((), (l.2.1.2.1, (l.2.1.2.2.1, (l.2.1.2.2.2.1, (l.2.1.2.2.2.2.1, (l.2.1.2.2.2.2.2.1, (l.2.1.2.2.2.2.2.2.1, ()))))))), (((), (l.2.2.1.2.1, ((), (l.2.2.1.2.2.2.1, (l.2.2.1.2.2.2.2.1, (l.2.2.1.2.2.2.2.2.1, ((), ()))))))), (l.2.2.2.1, (l.2.2.2.2.1, (((), (s.2.1, (s.2.2.1, (s.2.2.2.1, (s.2.2.2.2.1, (s.2.2.2.2.2.1, ((), ()))))))), (s.2.2.2.2.2.2, ()))))))) : T5v2).1, q5v2.mkH ((((), ((), ((), ((), (s.1, ((), ())))))), (((), (l.2.1.2.1, (l.2.1.2.2.1, (l.2.1.2.2.2.1, (l.2.1.2.2.2.2.1, (l.2.1.2.2.2.2.2.1, (l.2.1.2.2.2.2.2.2.1, ()))))))), (((), (l.2.2.1.2.1, ((), (l.2.2.1.2.2.2.1, (l.2.2.1.2.2.2.2.1, (l.2.2.1.2.2.2.2.2.1, ((), ()))))))), (l.2.2.2.1, (l.2.2.2.2.1, (((), (s.2.1, (s.2.2.1, (s.2.2.2.1, (s.2.2.2.2.1, (s.2.2.2.2.2.1, ((), ()))))))), (s.2.2.2.2.2.2, ()))))))) : T5v2).2, 4⟩ (roundK E (pick (loopsOf body) 5) K) =
  (l5v2 l.2.1.2.1 l.2.1.2.2.1 l.2.1.2.2.2.1 l.2.1.2.2.2.2.1 l.2.1.2.2.2.2.2.1 l.2.1.2.2.2.2.2.2.1 l.2.2.1.2.1 l.2.2.1.2.2.2.1 l.2.2.1.2.2.2.2.1 l.2.2.1.2.2.2.2.2.1 l.2.2.2.1 l.2.2.2.2.1 s.1 s.2.1 s.2.2.1 s.2.2.2.1 s.2.2.2.2.1 s.2.2.2.2.2.1 s.2.2.2.2.2.2).runK (lpK K (fun s => ⟨p5v2.mkL ((((), ((), ((), ((), (s.1, ((), ())))))), (((), (l.2.1.2.1, (l.2.1.2.2.1, (l.2.1.2.2.2.1, (l.2.1.2.2.2.2.1, (l.2.1.2.2.2.2.2.1, (l.2.1.2.2.2.2.2.2.1, ()))))))), (((), (l.2.2.1.2.1, ((), (l.2.2.1.2.2.2.1, (l.2.2.1.2.2.2.2.1, (l.2.2.1.2.2.2.2.2.1, ((), ()))))))), (l.2.2.2.1, (l.2.2.2.2.1, (((), (s.2.1, (s.2.2.1, (s.2.2.2.1, (s.2.2.2.2.1, (s.2.2.2.2.2.1, ((), ()))))))), (s.2.2.2.2.2.2, ()))))))) : T5v2).1, q5v2.mkH ((((), ((), ((), ((), (s.1, ((), ())))))), (((), (l.2.1.2.1, (l.2.1.2.2.1, (l.2.1.2.2.2.1, (l.2.1.2.2.2.2.1, (l.2.1.2.2.2.2.2.1, (l.2.1.2.2.2.2.2.2.1, ()))))))), (((), (l.2.2.1.2.1, ((), (l.2.2.1.2.2.2.1, (l.2.2.1.2.2.2.2.1, (l.2.2.1.2.2.2.2.2.1, ((), ()))))))), (l.2.2.2.1, (l.2.2.2.2.1, (((), (s.2.1, (s.2.2.1, (s.2.2.2.1, (s.2.2.2.2.1, (s.2.2.2.2.2.1, ((), ()))))))), (s.2.2.2.2.2.2, ()))))))) : T5v2).2, 4⟩) (spS sp1) (ou5v2 l)) := by kernel_rfl
theorem lk5v2 (R : Type) (st : St U) (K : Ex → St U → Option R) (r : R) (h : Λ5v2 R st K = some r) : ∃ n, loopA E (pick (loopsOf body) 5) n st K = some r :=
  lp_ok (U := U) (E := E) (b := pick (loopsOf body) 5) (m := 4) (sp := (spS sp1)) (p := p5v2) (q := q5v2) (X := ((Int × (Int × (Bool × (Int × ((List Int) × (List (List Int))))))) ⊕ (Int × (Int × (Int × (Bool × (Int × ((List Int) × (List (List Int)))))))))) (S := (Int × (Int × (Int × (Bool × (Int × ((List Int) × (List (List Int))))))))) (f := fun (l : T5v2) s => l5v2 l.2.1.2.1 l.2.1.2.2.1 l.2.1.2.2.2.1 l.2.1.2.2.2.2.1 l.2.1.2.2.2.2.2.1 l.2.1.2.2.2.2.2.2.1 l.2.2.1.2.1 l.2.2.1.2.2.2.1 l.2.2.1.2.2.2.2.1 l.2.2.1.2.2.2.2.2.1 l.2.2.2.1 l.2.2.2.2.1 s.1 s.2.1 s.2.2.1 s.2.2.2.1 s.2.2.2.2.1 s.2.2.2.2.2.1 s.2.2.2.2.2.2) (hd := fun (l : T5v2) s => (((), ((), ((), ((), (s.1, ((), ())))))), (((), (l.2.1.2.1, (l.2.1.2.2.1, (l.2.1.2.2.2.1, (l.2.1.2.2.2.2.1, (l.2.1.2.2.2.2.2.1, (l.2.1.2.2.2.2.2.2.1, ()))))))), (((), (l.2.2.1.2.1, ((), (l.2.2.1.2.2.2.1, (l.2.2.1.2.2.2.2.1, (l.2.2.1.2.2.2.2.2.1, ((), ()))))))), (l.2.2.2.1, (l.2.2.2.2.1, (((), (s.2.1, (s.2.2.1, (s.2.2.2.1, (s.2.2.2.2.1, (s.2.2.2.2.2.1, ((), ()))))))), (s.2.2.2.2.2.2, ())))))))) (s0 := fun (l : T5v2) => (l.1.2.2.2.2.1, (l.2.2.2.2.2.1.2.1, (l.2.2.2.2.2.1.2.2.1, (l.2.2.2.2.2.1.2.2.2.1, (l.2.2.2.2.2.1.2.2.2.2.1, (l.2.2.2.2.2.1.2.2.2.2.2.1, l.2.2.2.2.2.2.1))))))) (ou := ou5v2)
    (fun l => rfl) (fun l x => by repeat' (first | rfl | (cases x with | inl => rfl | inr x => ?_))) (spS_ok sp1_ok) hf5v2 h
theorem hf5 (R : Type) (l : T5) (s : Int) (K : Ex → St U → Option R) : codeA E (pick (loopsOf body) 5) ⟨p5.mkL ((((), ((), ((), ((), (s, ((), ())))))), (((), (l.2.1.2.1, (l.2.1.2.2.1, (l.2.1.2.2.2.1, (l.2.1.2.2.2.2.1, (l.2.1.2.2.2.2.2.1, (l.2.1.2.2.2.2.2.2.1, ()))))))), (((), (l.2.2.1.2.1, ((), (l.2.2.1.2.2.2.1, (l.2.2.1.2.2.2.2.1, (l.2.2.1.2.2.2.2.2.1, ((), ()))))))), (l.2.2.2.1, (l.2.2.2.2.1, ()))))) : T5).1, q5.mkH ((((), ((), ((), ((), (s, ((), ())))))), (((), (l.2.1.2.1, (l.2.1.2.2.1, (l.2.1.2.2.2.1, (l.2.1.2.2.2.2.1, (l.2.1.2.2.2.2.2.1, (l.2.1.2.2.2.2.2.2.1, ()))))))), (((), (l.2.2.1.2.1, ((), (l.2.2.1.2.2.2.1, (l.2.2.1.2.2.2.2.1, (l.2.2.1.2.2.2.2.2.1, ((), ()))))))), (l.2.2.2.1, (l.2.2.2.2.1, ()))))) : T5).2, 4⟩ (roundK E (pick (loopsOf body) 5) K) =
  (l5 l.2.1.2.1 l.2.1.2.2.1 l.2.1.2.2.2.1 l.2.1.2.2.2.2.1 l.2.1.2.2.2.2.2.1 l.2.1.2.2.2.2.2.2.1 l.2.2.1.2.1 l.2.2.1.2.2.2.1 l.2.2.1.2.2.2.2.1 l.2.2.1.2.2.2.2.2.1 l.2.2.2.1 l.2.2.2.2.1 s).runK (lpK K (fun s => ⟨p5.mkL ((((), ((), ((), ((), (s, ((), ())))))), (((), (l.2.1.2.1, (l.2.1.2.2.1, (l.2.1.2.2.2.1, (l.2.1.2.2.2.2.1, (l.2.1.2.2.2.2.2.1, (l.2.1.2.2.2.2.2.2.1, ()))))))), (((), (l.2.2.1.2.1, ((), (l.2.2.1.2.2.2.1, (l.2.2.1.2.2.2.2.1, (l.2.2.1.2.2.2.2.2.1, ((), ()))))))), (l.2.2.2.1, (l.2.2.2.2.1, ()))))) : T5).1, q5.mkH ((((), ((), ((), ((), (s, ((), ())))))), (((), (l.2.1.2.1, (l.2.1.2.2.1, (l.2.1.2.2.2.1, (l.2.1.2.2.2.2.1, (l.2.1.2.2.2.2.2.1, (l.2.1.2.2.2.2.2.2.1, ()))))))), (((), (l.2.2.1.2.1, ((), (l.2.2.1.2.2.2.1, (l.2.2.1.2.2.2.2.1, (l.2.2.1.2.2.2.2.2.1, ((), ()))))))), (l.2.2.2.1, (l.2.2.2.2.1, ()))))) : T5).2, 4⟩) (spS (spS sp1)) (ou5 l)) := by kernel_rfl
theorem lk5 (R : Type) (st : St U) (K : Ex → St U → Option R) (r : R) (h : Λ5 R st K = some r) : ∃ n, loopA E (pick (loopsOf body) 5) n st K = some r :=
  lq_ok (U := U) (E := E) (b := pick (loopsOf body) 5) (m := 4) (sp := (spS (spS sp1))) (p := p5) (q := q5) (X := (Unit ⊕ ((Int × (Int × (Int × (Bool × (Int × ((List Int) × (List (List Int)))))))) ⊕ Int))) (S := Int) (f := fun (l : T5) s => l5 l.2.1.2.1 l.2.1.2.2.1 l.2.1.2.2.2.1 l.2.1.2.2.2.2.1 l.2.1.2.2.2.2.2.1 l.2.1.2.2.2.2.2.2.1 l.2.2.1.2.1 l.2.2.1.2.2.2.1 l.2.2.1.2.2.2.2.1 l.2.2.1.2.2.2.2.2.1 l.2.2.2.1 l.2.2.2.2.1 s) (hd := fun (l : T5) s => (((), ((), ((), ((), (s, ((), ())))))), (((), (l.2.1.2.1, (l.2.1.2.2.1, (l.2.1.2.2.2.1, (l.2.1.2.2.2.2.1, (l.2.1.2.2.2.2.2.1, (l.2.1.2.2.2.2.2.2.1, ()))))))), (((), (l.2.2.1.2.1, ((), (l.2.2.1.2.2.2.1, (l.2.2.1.2.2.2.2.1, (l.2.2.1.2.2.2.2.2.1, ((), ()))))))), (l.2.2.2.1, (l.2.2.2.2.1, ())))))) (s0 := fun (l : T5) => l.1.2.2.2.2.1) (ou := ou5)
    (fun l => rfl) (spS_ok (spS_ok sp1_ok)) hf5 lk5v2 h
theorem hk (R : Type) (l : TA) (K : AV U → Hp U → Option R) : funcA E Try.f19 [] R (pA.mkL l.1) (pH.mkH l.2) K = (t l.2.1.2.1 l.2.1.2.2.1 l.2.1.2.2.2.1 l.2.1.2.2.2.2.1 l.2.1.2.2.2.2.2.1 l.2.1.2.2.2.2.2.2.1 l.2.2.1.2.1 l.2.2.1.2.2.2.1 l.2.2.1.2.2.2.2.1 l.2.2.1.2.2.2.2.2.1 l.2.2.2.1 l.2.2.2.2.1).runK fun y => K (v l y) (hh l y) := by kernel_rfl
theorem okF : SoundF Try.prog cc 19 (funcA E Try.f19 []) :=
  funcA_ok (E := E) P_mixed (E0_ok.with Γ Λ CT D ro) (gam_of (all_cons ⟨journal_read.ok, ⟨Try.f40, Try.func40, by kernel_rfl, by kernel_rfl⟩⟩ (all_cons ⟨(orA_ok journal_Journal_Seq_nil0.ok journal_Journal_Seq.ok), ⟨Try.f9, Try.func9, by kernel_rfl, by kernel_rfl⟩⟩ all_nil)) (all_cons (no_keep (by kernel_rfl)) (all_cons (fun _ => (orA_keep journal_Journal_Seq_nil0.keep journal_Journal_Seq.keep)) all_nil))) Try.func19 (c := body) (by kernel_rfl)
    (just_by (by kernel_rfl) (by kernel_rfl) (all_cons (orL_ok lk5v2 lk5) all_nil) all_nil) []
theorem ok : SoundF Try.prog cc 19 A :=
  mkA_ok (E := E) (p := pA) (q := pH) (t := fun (l : TA) => t l.2.1.2.1 l.2.1.2.2.1 l.2.1.2.2.2.1 l.2.1.2.2.2.2.1 l.2.1.2.2.2.2.2.1 l.2.1.2.2.2.2.2.2.1 l.2.2.1.2.1 l.2.2.1.2.2.2.1 l.2.2.1.2.2.2.2.1 l.2.2.1.2.2.2.2.2.1 l.2.2.2.1 l.2.2.2.2.1) (spS_ok sp1_ok) hk okF
theorem keep : KeepA A := mkA_keep (U := U) (spS_ok sp1_ok) (fun (l : TA) y => ⟨(hh l y).drop 4, by (cases y with | inl y => kernel_rfl | inr y => kernel_rfl)⟩)
end journal_Open

/-! instar/journal.New -/
namespace journal_New_nil0
abbrev TA : Type := ((Unit × ((List Int) × Unit)) × Unit)
noncomputable def t (whole : (List Int)) : Tw Int :=
 (.ret (1 : Int))
noncomputable def c (whole : (List Int)) : Option Int := (t whole).run
def pA : Pt := (.cs .nilp (.cs (.sl 3) .nl))
def pH : Pt := .nl
def v (l : TA) (y : Int) : AV U := .tup [.im .nilp, .im (.int .i64 y)]
def hh (l : TA) (y : Int) : Hp U := []
noncomputable def A : AFun U := mkA (U := U) pA pH (X := Int) (fun (l : TA) => c l.1.2.1) sp1 v hh
noncomputable def body : Code := (Go.Func.body Try.f20).getD .skip
noncomputable def Γ : List (FuncId × AFun U) := []
noncomputable def Λ : List (Nat × LFun U) := []
noncomputable def CT : List (Nat × LFun U) := []
def ro : List FuncId := []
def D : Nat → Lv × Lv := dtab []
noncomputable def E : Env U := { E0 with Γ := Γ, Λ := Λ, C := CT, D := D, ro := ro }
theorem hk (R : Type) (l : TA) (K : AV U → Hp U → Option R) : funcA E Try.f20 [] R (pA.mkL l.1) (pH.mkH l.2) K = (t l.1.2.1).runK fun y => K (v l y) (hh l y) := by kernel_rfl
theorem okF : SoundF Try.prog cc 20 (funcA E Try.f20 []) :=
  funcA_ok (E := E) P_mixed (E0_ok.with Γ Λ CT D ro) (gam_of all_nil all_nil) Try.func20 (c := body) (by kernel_rfl)
    (just_by (by kernel_rfl) (by kernel_rfl) all_nil all_nil) []
theorem ok : SoundF Try.prog cc 20 A :=
  mkA_ok (E := E) (p := pA) (q := pH) (t := fun (l : TA) => t l.1.2.1) sp1_ok hk okF
theorem keep : KeepA A := mkA_keep (U := U) sp1_ok (fun (l : TA) y => ⟨(hh l y).drop 0, by kernel_rfl⟩)
end journal_New_nil0

/-! instar/journal.Open -/
namespace journal_Open_nil0
abbrev TA : Type := ((Unit × Unit) × Unit)
noncomputable def t : Tw Int :=
 (.ret (1 : Int))
noncomputable def c : Option Int := (t).run
def pA : Pt := (.cs .nilp .nl)
def pH : Pt := .nl
def v (l : TA) (y : Int) : AV U := .tup [.im .nilp, .im (.int .i64 y)]
def hh (l : TA) (y : Int) : Hp U := []
noncomputable def A : AFun U := mkA (U := U) pA pH (X := Int) (fun (l : TA) => c) sp1 v hh
noncomputable def body : Code := (Go.Func.body Try.f19).getD .skip
noncomputable def Γ : List (FuncId × AFun U) := []
noncomputable def Λ : List (Nat × LFun U) := []
noncomputable def CT : List (Nat × LFun U) := []
def ro : List FuncId := []
def D : Nat → Lv × Lv := dtab []
noncomputable def E : Env U := { E0 with Γ := Γ, Λ := Λ, C := CT, D := D, ro := ro }
theorem hk (R : Type) (l : TA) (K : AV U → Hp U → Option R) : funcA E Try.f19 [] R (pA.mkL l.1) (pH.mkH l.2) K = (t).runK fun y => K (v l y) (hh l y) := by kernel_rfl
theorem okF : SoundF Try.prog cc 19 (funcA E Try.f19 []) :=
  funcA_ok (E := E) P_mixed (E0_ok.with Γ Λ CT D ro) (gam_of all_nil all_nil) Try.func19 (c := body) (by kernel_rfl)
    (just_by (by kernel_rfl) (by kernel_rfl) all_nil all_nil) []
theorem ok : SoundF Try.prog cc 19 A :=
  mkA_ok (E := E) (p := pA) (q := pH) (t := fun (l : TA) => t) sp1_ok hk okF
theorem keep : KeepA A := mkA_keep (U := U) sp1_ok (fun (l : TA) y => ⟨(hh l y).drop 0, by kernel_rfl⟩)
end journal_Open_nil0

/-! instar/journal.may -/
namespace journal_may
abbrev TA : Type := (((List (List Int)) × Unit) × Unit)
abbrev T2 : Type := ((Unit × ((List (List Int)) × (Int × (Int × (Unit × Unit))))) × Unit)
noncomputable def l2 (k5 : (List (List Int))) (k6 k7 : Int) : Tw (Int ⊕ (Unit ⊕ Bool)) :=
 (.bb (decide (k7 < k6))
  (.dd (((0 : Int) ≤ k7)) inferInstance
   (.opt (k5)[(Int.toNat k7)]? fun z1 =>
    (.opt (frame_Size.c (((List.length z1) : Nat) : Int)) fun z2 =>
     (.bb (z2 == (0 : Int))
      (.ret (.inr (.inr false)))
      (.ret (.inl (w64 (k7 + (1 : Int))))))))
   .no)
  (.ret (.inr (.inl ()))))
noncomputable def L2 (k5 : (List (List Int))) (k6 k7 : Int) : Option (Unit ⊕ Bool) := Lp (fun s => (l2 k5 k6 s).run) k7
def p2 : Pt := (.cs (.bots 5) (.cs (.sl 12) (.cs (.int .i64) (.cs (.int .i64) (.cs (.bots 8) .nl)))))
def q2 : Pt := .nl
def ou2 (l : T2) (y : (Unit ⊕ Bool)) : Ex × St U := (Sum.elim (fun a0 => (.exit 0, stOf 16 [] [] 0)) (fun b0 => (.ret, stOf 16 [(2, .im (.bool b0))] [] 0)) y)
noncomputable def Λ2 : LFun U := mkLp (U := U) p2 q2 0 (X := (Unit ⊕ Bool)) (fun (l : T2) => L2 l.1.2.1 l.1.2.2.1 l.1.2.2.2.1) (spS sp1) ou2
noncomputable def t (loads : (List (List Int))) : Tw Bool :=
 (.opt (L2 loads (((List.length loads) : Nat) : Int) (0 : Int)) fun z3 =>
  (.sm z3
   (fun z4 => (.ret true))
   (fun z5 => (.ret z5))))
noncomputable def c (loads : (List (List Int))) : Option Bool := (t loads).run
def pA : Pt := (.cs (.sl 12) .nl)
def pH : Pt := .nl
def v (l : TA) (y : Bool) : AV U := .im (.bool y)
def hh (l : TA) (y : Bool) : Hp U := []
noncomputable def A : AFun U := mkA (U := U) pA pH (X := Bool) (fun (l : TA) => c l.1.1) sp1 v hh
noncomputable def body : Code := (Go.Func.body Try.f34).getD .skip
noncomputable def Γ : List (FuncId × AFun U) := [(58, frame_Size.A)]
noncomputable def Λ : List (Nat × LFun U) := [(2, Λ2)]
noncomputable def CT : List (Nat × LFun U) := []
def ro : List FuncId := []
def D : Nat → Lv × Lv := dtab [(2, ⟨[7, 5, 6], []⟩, ⟨[2], []⟩)]
noncomputable def E : Env U := { E0 with Γ := Γ, Λ := Λ, C := CT, D := D, ro := ro }
theorem hf2 (R : Type) (l : T2) (s : Int) (K : Ex → St U → Option R) : codeA E (pick (loopsOf body) 2) ⟨p2.mkL ((((), (l.1.2.1, (l.1.2.2.1, (s, ((), ()))))), ()) : T2).1, q2.mkH ((((), (l.1.2.1, (l.1.2.2.1, (s, ((), ()))))), ()) : T2).2, 0⟩ (roundK E (pick (loopsOf body) 2) K) =
  (l2 l.1.2.1 l.1.2.2.1 s).runK (lpK K (fun s => ⟨p2.mkL ((((), (l.1.2.1, (l.1.2.2.1, (s, ((), ()))))), ()) : T2).1, q2.mkH ((((), (l.1.2.1, (l.1.2.2.1, (s, ((), ()))))), ()) : T2).2, 0⟩) (spS sp1) (ou2 l)) := by kernel_rfl
theorem lk2 (R : Type) (st : St U) (K : Ex → St U → Option R) (r : R) (h : Λ2 R st K = some r) : ∃ n, loopA E (pick (loopsOf body) 2) n st K = some r :=
  lp_ok (U := U) (E := E) (b := pick (loopsOf body) 2) (m := 0) (sp := (spS sp1)) (p := p2) (q := q2) (X := (Unit ⊕ Bool)) (S := Int) (f := fun (l : T2) s => l2 l.1.2.1 l.1.2.2.1 s) (hd := fun (l : T2) s => (((), (l.1.2.1, (l.1.2.2.1, (s, ((), ()))))), ())) (s0 := fun (l : T2) => l.1.2.2.2.1) (ou := ou2)
    (fun l => rfl) (fun l x => by repeat' (first | rfl | (cases x with | inl => rfl | inr x => ?_))) (spS_ok sp1_ok) hf2 h
theorem hk (R : Type) (l : TA) (K : AV U → Hp U → Option R) : funcA E Try.f34 [] R (pA.mkL l.1) (pH.mkH l.2) K = (t l.1.1).runK fun y => K (v l y) (hh l y) := by kernel_rfl
theorem okF : SoundF Try.prog cc 34 (funcA E Try.f34 []) :=
  funcA_ok (E := E) P_mixed (E0_ok.with Γ Λ CT D ro) (gam_of (all_cons ⟨frame_Size.ok, ⟨Try.f58, Try.func58, by kernel_rfl, by kernel_rfl⟩⟩ all_nil) (all_cons (no_keep (by kernel_rfl)) all_nil)) Try.func34 (c := body) (by kernel_rfl)
    (just_by (by kernel_rfl) (by kernel_rfl) (all_cons lk2 all_nil) all_nil) []
theorem ok : SoundF Try.prog cc 34 A :=
  mkA_ok (E := E) (p := pA) (q := pH) (t := fun (l : TA) => t l.1.1) sp1_ok hk okF
theorem keep : KeepA A := mkA_keep (U := U) sp1_ok (fun (l : TA) y => ⟨(hh l y).drop 0, by kernel_rfl⟩)
end journal_may

/-! (*instar/journal.Journal).over -/
namespace journal_Journal_over
abbrev TA : Type := ((Unit × ((List Int) × (Int × Unit))) × ((Unit × (Int × (Int × (Bool × (Int × (Unit × (Unit × Unit))))))) × ((Unit × (Int × (Int × (Int × (Int × (Int × (Int × Unit))))))) × ((Unit × (Int × (Unit × (Int × (Bool × (Int × (Unit × Unit))))))) × ((List Int) × ((List Int) × Unit))))))
noncomputable def t (whole : (List Int)) (seq h0_1 h0_2 : Int) (h0_3 : Bool) (h0_4 h1_1 h1_2 h1_3 h1_4 h1_5 h1_6 h2_1 h2_3 : Int) (h2_4 : Bool) (h2_5 : Int) (h3 : (List Int)) (h4 : (List Int)) : Tw ((Int × (Int × (Int × (Bool × (Int × (Bool × (Int × ((List Int) × ((List Int) × (List (List Int))))))))))) ⊕ ((Int × (Int × (Int × (Bool × ((List Int) × (Int × (Bool × (Int × ((List Int) × (List Int)))))))))) ⊕ (Int × (Int × (Bool × (Int × ((List Int) × (List Int)))))))) :=
 (.opt (slices_Clone__uint32uint32.c whole) fun z1 =>
  (.opt (frame_Lay.c (1 : Int) seq z1) fun z2 =>
   (.bb (z2.1 != (0 : Int))
    (.ret (.inr (.inr (z2.1, (h2_3, (h2_4, (h2_5, (h3, h4))))))))
    (.opt (drive_Drive_Fresh.c (w64 ((1 : Int) - h0_1)) z2.2 h1_1 h1_2 h1_3 h1_4 h1_5 h1_6 h2_1 h2_3 h2_4 h2_5 h3 h4) fun z3 =>
     (.bb (z3.1 != (0 : Int))
      (.ret (.inr (.inr (z3.1, (z3.2.1, (z3.2.2.1, (z3.2.2.2.1, (z3.2.2.2.2.1, z3.2.2.2.2.2))))))))
      (.opt (journal_Journal_said.c (1 : Int) seq z1 (((List.length z2.2) : Nat) : Int) (w64 ((1 : Int) - h0_1)) (0 : Int) false h0_4 h1_1 h1_2 h1_3 h1_4 h1_5 h1_6 h2_1 z3.2.1 z3.2.2.1 z3.2.2.2.1 z3.2.2.2.2.1 z3.2.2.2.2.2) fun z4 =>
       (.sm z4
        (fun z5 => (.ret (.inl ((0 : Int), ((w64 ((1 : Int) - h0_1)), (z5.1, (false, (z3.2.1, (z3.2.2.1, (z3.2.2.2.1, (z3.2.2.2.2.1, (z3.2.2.2.2.2, z5.2))))))))))))
        (fun z6 => (.ret (.inr (.inl ((0 : Int), ((w64 ((1 : Int) - h0_1)), (z6, (false, (z1, (z3.2.1, (z3.2.2.1, (z3.2.2.2.1, (z3.2.2.2.2.1, z3.2.2.2.2.2))))))))))))))))))))
noncomputable def c (whole : (List Int)) (seq h0_1 h0_2 : Int) (h0_3 : Bool) (h0_4 h1_1 h1_2 h1_3 h1_4 h1_5 h1_6 h2_1 h2_3 : Int) (h2_4 : Bool) (h2_5 : Int) (h3 : (List Int)) (h4 : (List Int)) : Option ((Int × (Int × (Int × (Bool × (Int × (Bool × (Int × ((List Int) × ((List Int) × (List (List Int))))))))))) ⊕ ((Int × (Int × (Int × (Bool × ((List Int) × (Int × (Bool × (Int × ((List Int) × (List Int)))))))))) ⊕ (Int × (Int × (Bool × (Int × ((List Int) × (List Int)))))))) := (t whole seq h0_1 h0_2 h0_3 h0_4 h1_1 h1_2 h1_3 h1_4 h1_5 h1_6 h2_1 h2_3 h2_4 h2_5 h3 h4).run
def pA : Pt := (.cs (.ptr 0 0) (.cs (.sl 3) (.cs (.int .i64) .nl)))
def pH : Pt := (.cs (.var (.cs (.ptr 1 0) (.cs (.int .i64) (.cs (.int .i64) (.cs .bool (.cs (.int .i64) (.cs .nils (.cs .nils .nl)))))))) (.cs (.var (.cs (.ptr 2 0) (.cs (.int .i64) (.cs (.int .i64) (.cs (.int .i64) (.cs (.int .i64) (.cs (.int .i64) (.cs (.int .i64) .nl)))))))) (.cs (.var (.cs (.own 3) (.cs (.int .i64) (.cs (.own 4) (.cs (.int .i64) (.cs .bool (.cs (.int .i64) (.cs .nils .nl)))))))) (.cs (.row 3 true) (.cs (.row 1 true) .nl)))))
def v (l : TA) (y : ((Int × (Int × (Int × (Bool × (Int × (Bool × (Int × ((List Int) × ((List Int) × (List (List Int))))))))))) ⊕ ((Int × (Int × (Int × (Bool × ((List Int) × (Int × (Bool × (Int × ((List Int) × (List Int)))))))))) ⊕ (Int × (Int × (Bool × (Int × ((List Int) × (List Int))))))))) : AV U := (Sum.elim (fun a0 => .im (.int .i64 a0.1)) (fun b0 => (Sum.elim (fun a1 => .im (.int .i64 a1.1)) (fun b1 => .im (.int .i64 b1.1)) b0)) y)
def hh (l : TA) (y : ((Int × (Int × (Int × (Bool × (Int × (Bool × (Int × ((List Int) × ((List Int) × (List (List Int))))))))))) ⊕ ((Int × (Int × (Int × (Bool × ((List Int) × (Int × (Bool × (Int × ((List Int) × (List Int)))))))))) ⊕ (Int × (Int × (Bool × (Int × ((List Int) × (List Int))))))))) : Hp U := (Sum.elim (fun a0 => [.var [.ptr 1 0, .im (.int .i64 a0.2.1), .im (.int .i64 a0.2.2.1), .im (.bool a0.2.2.2.1), .im (.int .i64 l.1.2.2.1), .im .nils, .own 5], .var [.ptr 2 0, .im (.int .i64 l.2.2.1.2.1), .im (.int .i64 l.2.2.1.2.2.1), .im (.int .i64 l.2.2.1.2.2.2.1), .im (.int .i64 l.2.2.1.2.2.2.2.1), .im (.int .i64 l.2.2.1.2.2.2.2.2.1), .im (.int .i64 l.2.2.1.2.2.2.2.2.2.1)], .var [.own 3, .im (.int .i64 l.2.2.2.1.2.1), .own 4, .im (.int .i64 a0.2.2.2.2.1), .im (.bool a0.2.2.2.2.2.1), .im (.int .i64 a0.2.2.2.2.2.2.1), .im .nils], .row 3 a0.2.2.2.2.2.2.2.1 true, .row 1 a0.2.2.2.2.2.2.2.2.1 true, .row 12 a0.2.2.2.2.2.2.2.2.2 true]) (fun b0 => (Sum.elim (fun a1 => [.var [.ptr 1 0, .im (.int .i64 a1.2.1), .im (.int .i64 a1.2.2.1), .im (.bool a1.2.2.2.1), .im (.int .i64 l.1.2.2.1), .im (.slice 3 a1.2.2.2.2.1), .im .nils], .var [.ptr 2 0, .im (.int .i64 l.2.2.1.2.1), .im (.int .i64 l.2.2.1.2.2.1), .im (.int .i64 l.2.2.1.2.2.2.1), .im (.int .i64 l.2.2.1.2.2.2.2.1), .im (.int .i64 l.2.2.1.2.2.2.2.2.1), .im (.int .i64 l.2.2.1.2.2.2.2.2.2.1)], .var [.own 3, .im (.int .i64 l.2.2.2.1.2.1), .own 4, .im (.int .i64 a1.2.2.2.2.2.1), .im (.bool a1.2.2.2.2.2.2.1), .im (.int .i64 a1.2.2.2.2.2.2.2.1), .im .nils], .row 3 a1.2.2.2.2.2.2.2.2.1 true, .row 1 a1.2.2.2.2.2.2.2.2.2 true]) (fun b1 => [.var [.ptr 1 0, .im (.int .i64 l.2.1.2.1), .im (.int .i64 l.2.1.2.2.1), .im (.bool l.2.1.2.2.2.1), .im (.int .i64 l.2.1.2.2.2.2.1), .im .nils, .im .nils], .var [.ptr 2 0, .im (.int .i64 l.2.2.1.2.1), .im (.int .i64 l.2.2.1.2.2.1), .im (.int .i64 l.2.2.1.2.2.2.1), .im (.int .i64 l.2.2.1.2.2.2.2.1), .im (.int .i64 l.2.2.1.2.2.2.2.2.1), .im (.int .i64 l.2.2.1.2.2.2.2.2.2.1)], .var [.own 3, .im (.int .i64 l.2.2.2.1.2.1), .own 4, .im (.int .i64 b1.2.1), .im (.bool b1.2.2.1), .im (.int .i64 b1.2.2.2.1), .im .nils], .row 3 b1.2.2.2.2.1 true, .row 1 b1.2.2.2.2.2 true]) b0)) y)
noncomputable def A : AFun U := mkA (U := U) pA pH (X := ((Int × (Int × (Int × (Bool × (Int × (Bool × (Int × ((List Int) × ((List Int) × (List (List Int))))))))))) ⊕ ((Int × (Int × (Int × (Bool × ((List Int) × (Int × (Bool × (Int × ((List Int) × (List Int)))))))))) ⊕ (Int × (Int × (Bool × (Int × ((List Int) × (List Int))))))))) (fun (l : TA) => c l.1.2.1 l.1.2.2.1 l.2.1.2.1 l.2.1.2.2.1 l.2.1.2.2.2.1 l.2.1.2.2.2.2.1 l.2.2.1.2.1 l.2.2.1.2.2.1 l.2.2.1.2.2.2.1 l.2.2.1.2.2.2.2.1 l.2.2.1.2.2.2.2.2.1 l.2.2.1.2.2.2.2.2.2.1 l.2.2.2.1.2.1 l.2.2.2.1.2.2.2.1 l.2.2.2.1.2.2.2.2.1 l.2.2.2.1.2.2.2.2.2.1 l.2.2.2.2.1 l.2.2.2.2.2.1) (spS (spS sp1)) v hh
noncomputable def body : Code := (Go.Func.body Try.f36).getD .skip
noncomputable def Γ : List (FuncId × AFun U) := [(32, slices_Clone__uint32uint32.A), (59, frame_Lay.A), (62, drive_Drive_Fresh.A), (61, journal_Journal_said.A)]
noncomputable def Λ : List (Nat × LFun U) := []
noncomputable def CT : List (Nat × LFun U) := []
def ro : List FuncId := []
def D : Nat → Lv × Lv := dtab []
noncomputable def E : Env U := { E0 with Γ := Γ, Λ := Λ, C := CT, D := D, ro := ro }
theorem hk (R : Type) (l : TA) (K : AV U → Hp U → Option R) : funcA E Try.f36 [] R (pA.mkL l.1) (pH.mkH l.2) K = (t l.1.2.1 l.1.2.2.1 l.2.1.2.1 l.2.1.2.2.1 l.2.1.2.2.2.1 l.2.1.2.2.2.2.1 l.2.2.1.2.1 l.2.2.1.2.2.1 l.2.2.1.2.2.2.1 l.2.2.1.2.2.2.2.1 l.2.2.1.2.2.2.2.2.1 l.2.2.1.2.2.2.2.2.2.1 l.2.2.2.1.2.1 l.2.2.2.1.2.2.2.1 l.2.2.2.1.2.2.2.2.1 l.2.2.2.1.2.2.2.2.2.1 l.2.2.2.2.1 l.2.2.2.2.2.1).runK fun y => K (v l y) (hh l y) := by kernel_rfl
theorem okF : SoundF Try.prog cc 36 (funcA E Try.f36 []) :=
  funcA_ok (E := E) P_mixed (E0_ok.with Γ Λ CT D ro) (gam_of (all_cons ⟨slices_Clone__uint32uint32.ok, ⟨Try.f32, Try.func32, by kernel_rfl, by kernel_rfl⟩⟩ (all_cons ⟨frame_Lay.ok, ⟨Try.f59, Try.func59, by kernel_rfl, by kernel_rfl⟩⟩ (all_cons ⟨drive_Drive_Fresh.ok, ⟨Try.f62, Try.func62, by kernel_rfl, by kernel_rfl⟩⟩ (all_cons ⟨journal_Journal_said.ok, ⟨Try.f61, Try.func61, by kernel_rfl, by kernel_rfl⟩⟩ all_nil)))) (all_cons (no_keep (by kernel_rfl)) (all_cons (no_keep (by kernel_rfl)) (all_cons (no_keep (by kernel_rfl)) (all_cons (no_keep (by kernel_rfl)) all_nil))))) Try.func36 (c := body) (by kernel_rfl)
    (just_by (by kernel_rfl) (by kernel_rfl) all_nil all_nil) []
theorem ok : SoundF Try.prog cc 36 A :=
  mkA_ok (E := E) (p := pA) (q := pH) (t := fun (l : TA) => t l.1.2.1 l.1.2.2.1 l.2.1.2.1 l.2.1.2.2.1 l.2.1.2.2.2.1 l.2.1.2.2.2.2.1 l.2.2.1.2.1 l.2.2.1.2.2.1 l.2.2.1.2.2.2.1 l.2.2.1.2.2.2.2.1 l.2.2.1.2.2.2.2.2.1 l.2.2.1.2.2.2.2.2.2.1 l.2.2.2.1.2.1 l.2.2.2.1.2.2.2.1 l.2.2.2.1.2.2.2.2.1 l.2.2.2.1.2.2.2.2.2.1 l.2.2.2.2.1 l.2.2.2.2.2.1) (spS_ok (spS_ok sp1_ok)) hk okF
end journal_Journal_over

/-! instar/journal.New -/
namespace journal_New
abbrev TA : Type := ((Unit × ((List Int) × Unit)) × ((Unit × (Int × (Int × (Int × (Int × (Int × (Int × Unit))))))) × ((Unit × (Int × (Unit × (Int × (Bool × (Int × (Unit × Unit))))))) × ((List Int) × ((List Int) × Unit)))))
noncomputable def t (whole : (List Int)) (h0_1 h0_2 h0_3 h0_4 h0_5 h0_6 h1_1 h1_3 : Int) (h1_4 : Bool) (h1_5 : Int) (h2 : (List Int)) (h3 : (List Int)) : Tw ((Int × (Int × (Bool × (Int × ((List Int) × ((List Int) × (Int × (Int × (Bool × (Int × ((List Int) × (List (List Int))))))))))))) ⊕ (Int × (Int × (Bool × (Int × ((List Int) × (List Int))))))) :=
 (.opt (journal_may.c (whole :: ([] : List (List Int)))) fun z1 =>
  (.bb (!z1)
   (.ret (.inr ((2 : Int), (h1_3, (h1_4, (h1_5, (h2, h3)))))))
   (.opt (drive_Drive_Clean.c (1 : Int) h0_1 h0_2 h0_3 h0_4 h0_5 h0_6 h1_1 h1_3 h1_4 h1_5 h2 h3) fun z2 =>
    (.bb (z2.1 != (0 : Int))
     (.ret (.inr (z2.1, (z2.2.1, (z2.2.2.1, (z2.2.2.2.1, (z2.2.2.2.2.1, z2.2.2.2.2.2)))))))
     (.opt (journal_Journal_over.c whole (1 : Int) (1 : Int) (0 : Int) false (0 : Int) h0_1 h0_2 h0_3 h0_4 h0_5 h0_6 h1_1 z2.2.1 z2.2.2.1 z2.2.2.2.1 z2.2.2.2.2.1 z2.2.2.2.2.2) fun z3 =>
      (.sm z3
       (fun z4 => (.bb (z4.1 != (0 : Int))
         (.ret (.inr (z4.1, (z4.2.2.2.2.1, (z4.2.2.2.2.2.1, (z4.2.2.2.2.2.2.1, (z4.2.2.2.2.2.2.2.1, z4.2.2.2.2.2.2.2.2.1)))))))
         (.ret (.inl ((0 : Int), (z4.2.2.2.2.1, (z4.2.2.2.2.2.1, (z4.2.2.2.2.2.2.1, (z4.2.2.2.2.2.2.2.1, (z4.2.2.2.2.2.2.2.2.1, (z4.2.1, (z4.2.2.1, (z4.2.2.2.1, ((1 : Int), (([] : List (Int)), z4.2.2.2.2.2.2.2.2.2)))))))))))))))
       (fun z5 => (.sm z5
         (fun z6 => (.bb (z6.1 != (0 : Int))
           (.ret (.inr (z6.1, (z6.2.2.2.2.2.1, (z6.2.2.2.2.2.2.1, (z6.2.2.2.2.2.2.2.1, (z6.2.2.2.2.2.2.2.2.1, z6.2.2.2.2.2.2.2.2.2)))))))
           (.ret (.inl ((0 : Int), (z6.2.2.2.2.2.1, (z6.2.2.2.2.2.2.1, (z6.2.2.2.2.2.2.2.1, (z6.2.2.2.2.2.2.2.2.1, (z6.2.2.2.2.2.2.2.2.2, (z6.2.1, (z6.2.2.1, (z6.2.2.2.1, ((1 : Int), (z6.2.2.2.2.1, ([] : List (List Int)))))))))))))))))
         (fun z7 => (.bb (z7.1 != (0 : Int))
           (.ret (.inr (z7.1, (z7.2.1, (z7.2.2.1, (z7.2.2.2.1, (z7.2.2.2.2.1, z7.2.2.2.2.2)))))))
           (.ret (.inl ((0 : Int), (z7.2.1, (z7.2.2.1, (z7.2.2.2.1, (z7.2.2.2.2.1, (z7.2.2.2.2.2, ((1 : Int), ((0 : Int), (false, ((0 : Int), (([] : List (Int)), ([] : List (List Int)))))))))))))))))))))))))
noncomputable def c (whole : (List Int)) (h0_1 h0_2 h0_3 h0_4 h0_5 h0_6 h1_1 h1_3 : Int) (h1_4 : Bool) (h1_5 : Int) (h2 : (List Int)) (h3 : (List Int)) : Option ((Int × (Int × (Bool × (Int × ((List Int) × ((List Int) × (Int × (Int × (Bool × (Int × ((List Int) × (List (List Int))))))))))))) ⊕ (Int × (Int × (Bool × (Int × ((List Int) × (List Int))))))) := (t whole h0_1 h0_2 h0_3 h0_4 h0_5 h0_6 h1_1 h1_3 h1_4 h1_5 h2 h3).run
def pA : Pt := (.cs (.ptr 0 0) (.cs (.sl 3) .nl))
def pH : Pt := (.cs (.var (.cs (.ptr 1 0) (.cs (.int .i64) (.cs (.int .i64) (.cs (.int .i64) (.cs (.int .i64) (.cs (.int .i64) (.cs (.int .i64) .nl)))))))) (.cs (.var (.cs (.own 2) (.cs (.int .i64) (.cs (.own 3) (.cs (.int .i64) (.cs .bool (.cs (.int .i64) (.cs .nils .nl)))))))) (.cs (.row 3 true) (.cs (.row 1 true) .nl))))
def v (l : TA) (y : ((Int × (Int × (Bool × (Int × ((List Int) × ((List Int) × (Int × (Int × (Bool × (Int × ((List Int) × (List (List Int))))))))))))) ⊕ (Int × (Int × (Bool × (Int × ((List Int) × (List Int)))))))) : AV U := (Sum.elim (fun a0 => .tup [.ptr 4 0, .im (.int .i64 a0.1)]) (fun b0 => .tup [.im .nilp, .im (.int .i64 b0.1)]) y)
def hh (l : TA) (y : ((Int × (Int × (Bool × (Int × ((List Int) × ((List Int) × (Int × (Int × (Bool × (Int × ((List Int) × (List (List Int))))))))))))) ⊕ (Int × (Int × (Bool × (Int × ((List Int) × (List Int)))))))) : Hp U := (Sum.elim (fun a0 => [.var [.ptr 1 0, .im (.int .i64 l.2.1.2.1), .im (.int .i64 l.2.1.2.2.1), .im (.int .i64 l.2.1.2.2.2.1), .im (.int .i64 l.2.1.2.2.2.2.1), .im (.int .i64 l.2.1.2.2.2.2.2.1), .im (.int .i64 l.2.1.2.2.2.2.2.2.1)], .var [.own 2, .im (.int .i64 l.2.2.1.2.1), .own 3, .im (.int .i64 a0.2.1), .im (.bool a0.2.2.1), .im (.int .i64 a0.2.2.2.1), .im .nils], .row 3 a0.2.2.2.2.1 true, .row 1 a0.2.2.2.2.2.1 true, .var [.ptr 0 0, .im (.int .i64 a0.2.2.2.2.2.2.1), .im (.int .i64 a0.2.2.2.2.2.2.2.1), .im (.bool a0.2.2.2.2.2.2.2.2.1), .im (.int .i64 a0.2.2.2.2.2.2.2.2.2.1), .im (.slice 3 a0.2.2.2.2.2.2.2.2.2.2.1), .own 5], .row 12 a0.2.2.2.2.2.2.2.2.2.2.2 true]) (fun b0 => [.var [.ptr 1 0, .im (.int .i64 l.2.1.2.1), .im (.int .i64 l.2.1.2.2.1), .im (.int .i64 l.2.1.2.2.2.1), .im (.int .i64 l.2.1.2.2.2.2.1), .im (.int .i64 l.2.1.2.2.2.2.2.1), .im (.int .i64 l.2.1.2.2.2.2.2.2.1)], .var [.own 2, .im (.int .i64 l.2.2.1.2.1), .own 3, .im (.int .i64 b0.2.1), .im (.bool b0.2.2.1), .im (.int .i64 b0.2.2.2.1), .im .nils], .row 3 b0.2.2.2.2.1 true, .row 1 b0.2.2.2.2.2 true]) y)
noncomputable def A : AFun U := mkA (U := U) pA pH (X := ((Int × (Int × (Bool × (Int × ((List Int) × ((List Int) × (Int × (Int × (Bool × (Int × ((List Int) × (List (List Int))))))))))))) ⊕ (Int × (Int × (Bool × (Int × ((List Int) × (List Int)))))))) (fun (l : TA) => c l.1.2.1 l.2.1.2.1 l.2.1.2.2.1 l.2.1.2.2.2.1 l.2.1.2.2.2.2.1 l.2.1.2.2.2.2.2.1 l.2.1.2.2.2.2.2.2.1 l.2.2.1.2.1 l.2.2.1.2.2.2.1 l.2.2.1.2.2.2.2.1 l.2.2.1.2.2.2.2.2.1 l.2.2.2.1 l.2.2.2.2.1) (spS sp1) v hh
noncomputable def body : Code := (Go.Func.body Try.f20).getD .skip
noncomputable def Γ : List (FuncId × AFun U) := [(34, journal_may.A), (41, drive_Drive_Clean.A), (36, journal_Journal_over.A)]
noncomputable def Λ : List (Nat × LFun U) := []
noncomputable def CT : List (Nat × LFun U) := []
def ro : List FuncId := []
def D : Nat → Lv × Lv := dtab []
noncomputable def E : Env U := { E0 with Γ := Γ, Λ := Λ, C := CT, D := D, ro := ro }
theorem hk (R : Type) (l : TA) (K : AV U → Hp U → Option R) : funcA E Try.f20 [(0, [.to 5], .im 3), (0, [.to 6], .own 12)] R (pA.mkL l.1) (pH.mkH l.2) K = (t l.1.2.1 l.2.1.2.1 l.2.1.2.2.1 l.2.1.2.2.2.1 l.2.1.2.2.2.2.1 l.2.1.2.2.2.2.2.1 l.2.1.2.2.2.2.2.2.1 l.2.2.1.2.1 l.2.2.1.2.2.2.1 l.2.2.1.2.2.2.2.1 l.2.2.1.2.2.2.2.2.1 l.2.2.2.1 l.2.2.2.2.1).runK fun y => K (v l y) (hh l y) := by kernel_rfl
theorem okF : SoundF Try.prog cc 20 (funcA E Try.f20 [(0, [.to 5], .im 3), (0, [.to 6], .own 12)]) :=
  funcA_ok (E := E) P_mixed (E0_ok.with Γ Λ CT D ro) (gam_of (all_cons ⟨journal_may.ok, ⟨Try.f34, Try.func34, by kernel_rfl, by kernel_rfl⟩⟩ (all_cons ⟨drive_Drive_Clean.ok, ⟨Try.f41, Try.func41, by kernel_rfl, by kernel_rfl⟩⟩ (all_cons ⟨journal_Journal_over.ok, ⟨Try.f36, Try.func36, by kernel_rfl, by kernel_rfl⟩⟩ all_nil))) (all_cons (no_keep (by kernel_rfl)) (all_cons (no_keep (by kernel_rfl)) (all_cons (no_keep (by kernel_rfl)) all_nil)))) Try.func20 (c := body) (by kernel_rfl)
    (just_by (by kernel_rfl) (by kernel_rfl) all_nil all_nil) [(0, [.to 5], .im 3), (0, [.to 6], .own 12)]
theorem ok : SoundF Try.prog cc 20 A :=
  mkA_ok (E := E) (p := pA) (q := pH) (t := fun (l : TA) => t l.1.2.1 l.2.1.2.1 l.2.1.2.2.1 l.2.1.2.2.2.1 l.2.1.2.2.2.2.1 l.2.1.2.2.2.2.2.1 l.2.1.2.2.2.2.2.2.1 l.2.2.1.2.1 l.2.2.1.2.2.2.1 l.2.2.1.2.2.2.2.1 l.2.2.1.2.2.2.2.2.1 l.2.2.2.1 l.2.2.2.2.1) (spS_ok sp1_ok) hk okF
end journal_New

/-! (*instar/journal.Journal).over -/
namespace journal_Journal_over_v2
abbrev TA : Type := ((Unit × ((List Int) × (Int × Unit))) × ((Unit × (Int × (Int × (Bool × (Int × ((List Int) × (Unit × Unit))))))) × ((Unit × (Int × (Int × (Int × (Int × (Int × (Int × Unit))))))) × ((Unit × (Int × (Unit × (Int × (Bool × (Int × (Unit × Unit))))))) × ((List Int) × ((List Int) × ((List (List Int)) × Unit)))))))
noncomputable def t (whole : (List Int)) (seq h0_1 h0_2 : Int) (h0_3 : Bool) (h0_4 : Int) (h0_5 : (List Int)) (h1_1 h1_2 h1_3 h1_4 h1_5 h1_6 h2_1 h2_3 : Int) (h2_4 : Bool) (h2_5 : Int) (h3 : (List Int)) (h4 : (List Int)) (h5 : (List (List Int))) : Tw ((Int × (Int × (Int × (Bool × (Int × (Bool × (Int × ((List Int) × ((List Int) × (List (List Int))))))))))) ⊕ ((Int × (Int × (Int × (Bool × ((List Int) × (Int × (Bool × (Int × ((List Int) × (List Int)))))))))) ⊕ (Int × (Int × (Bool × (Int × ((List Int) × (List Int)))))))) :=
 (.opt (slices_Clone__uint32uint32.c whole) fun z1 =>
  (.opt (frame_Lay.c (1 : Int) seq z1) fun z2 =>
   (.bb (z2.1 != (0 : Int))
    (.ret (.inr (.inr (z2.1, (h2_3, (h2_4, (h2_5, (h3, h4))))))))
    (.opt (drive_Drive_Fresh.c (w64 ((1 : Int) - h0_1)) z2.2 h1_1 h1_2 h1_3 h1_4 h1_5 h1_6 h2_1 h2_3 h2_4 h2_5 h3 h4) fun z3 =>
     (.bb (z3.1 != (0 : Int))
      (.ret (.inr (.inr (z3.1, (z3.2.1, (z3.2.2.1, (z3.2.2.2.1, (z3.2.2.2.2.1, z3.2.2.2.2.2))))))))
      (.opt (journal_Journal_said_v3.c (1 : Int) seq z1 (((List.length z2.2) : Nat) : Int) (w64 ((1 : Int) - h0_1)) (0 : Int) false h0_4 h0_5 h1_1 h1_2 h1_3 h1_4 h1_5 h1_6 h2_1 z3.2.1 z3.2.2.1 z3.2.2.2.1 z3.2.2.2.2.1 z3.2.2.2.2.2 h5) fun z4 =>
       (.sm z4
        (fun z5 => (.ret (.inl ((0 : Int), ((w64 ((1 : Int) - h0_1)), (z5.1, (false, (z3.2.1, (z3.2.2.1, (z3.2.2.2.1, (z3.2.2.2.2.1, (z3.2.2.2.2.2, z5.2))))))))))))
        (fun z6 => (.ret (.inr (.inl ((0 : Int), ((w64 ((1 : Int) - h0_1)), (z6, (false, (z1, (z3.2.1, (z3.2.2.1, (z3.2.2.2.1, (z3.2.2.2.2.1, z3.2.2.2.2.2))))))))))))))))))))
noncomputable def c (whole : (List Int)) (seq h0_1 h0_2 : Int) (h0_3 : Bool) (h0_4 : Int) (h0_5 : (List Int)) (h1_1 h1_2 h1_3 h1_4 h1_5 h1_6 h2_1 h2_3 : Int) (h2_4 : Bool) (h2_5 : Int) (h3 : (List Int)) (h4 : (List Int)) (h5 : (List (List Int))) : Option ((Int × (Int × (Int × (Bool × (Int × (Bool × (Int × ((List Int) × ((List Int) × (List (List Int))))))))))) ⊕ ((Int × (Int × (Int × (Bool × ((List Int) × (Int × (Bool × (Int × ((List Int) × (List Int)))))))))) ⊕ (Int × (Int × (Bool × (Int × ((List Int) × (List Int)))))))) := (t whole seq h0_1 h0_2 h0_3 h0_4 h0_5 h1_1 h1_2 h1_3 h1_4 h1_5 h1_6 h2_1 h2_3 h2_4 h2_5 h3 h4 h5).run
def pA : Pt := (.cs (.ptr 0 0) (.cs (.sl 3) (.cs (.int .i64) .nl)))
def pH : Pt := (.cs (.var (.cs (.ptr 1 0) (.cs (.int .i64) (.cs (.int .i64) (.cs .bool (.cs (.int .i64) (.cs (.sl 3) (.cs (.own 5) .nl)))))))) (.cs (.var (.cs (.ptr 2 0) (.cs (.int .i64) (.cs (.int .i64) (.cs (.int .i64) (.cs (.int .i64) (.cs (.int .i64) (.cs (.int .i64) .nl)))))))) (.cs (.var (.cs (.own 3) (.cs (.int .i64) (.cs (.own 4) (.cs (.int .i64) (.cs .bool (.cs (.int .i64) (.cs .nils .nl)))))))) (.cs (.row 3 true) (.cs (.row 1 true) (.cs (.row 12 true) .nl))))))
def v (l : TA) (y : ((Int × (Int × (Int × (Bool × (Int × (Bool × (Int × ((List Int) × ((List Int) × (List (List Int))))))))))) ⊕ ((Int × (Int × (Int × (Bool × ((List Int) × (Int × (Bool × (Int × ((List Int) × (List Int)))))))))) ⊕ (Int × (Int × (Bool × (Int × ((List Int) × (List Int))))))))) : AV U := (Sum.elim (fun a0 => .im (.int .i64 a0.1)) (fun b0 => (Sum.elim (fun a1 => .im (.int .i64 a1.1)) (fun b1 => .im (.int .i64 b1.1)) b0)) y)
def hh (l : TA) (y : ((Int × (Int × (Int × (Bool × (Int × (Bool × (Int × ((List Int) × ((List Int) × (List (List Int))))))))))) ⊕ ((Int × (Int × (Int × (Bool × ((List Int) × (Int × (Bool × (Int × ((List Int) × (List Int)))))))))) ⊕ (Int × (Int × (Bool × (Int × ((List Int) × (List Int))))))))) : Hp U := (Sum.elim (fun a0 => [.var [.ptr 1 0, .im (.int .i64 a0.2.1), .im (.int .i64 a0.2.2.1), .im (.bool a0.2.2.2.1), .im (.int .i64 l.1.2.2.1), .im (.slice 3 l.2.1.2.2.2.2.2.1), .own 6], .var [.ptr 2 0, .im (.int .i64 l.2.2.1.2.1), .im (.int .i64 l.2.2.1.2.2.1), .im (.int .i64 l.2.2.1.2.2.2.1), .im (.int .i64 l.2.2.1.2.2.2.2.1), .im (.int .i64 l.2.2.1.2.2.2.2.2.1), .im (.int .i64 l.2.2.1.2.2.2.2.2.2.1)], .var [.own 3, .im (.int .i64 l.2.2.2.1.2.1), .own 4, .im (.int .i64 a0.2.2.2.2.1), .im (.bool a0.2.2.2.2.2.1), .im (.int .i64 a0.2.2.2.2.2.2.1), .im .nils], .row 3 a0.2.2.2.2.2.2.2.1 true, .row 1 a0.2.2.2.2.2.2.2.2.1 true, .dead, .row 12 a0.2.2.2.2.2.2.2.2.2 true]) (fun b0 => (Sum.elim (fun a1 => [.var [.ptr 1 0, .im (.int .i64 a1.2.1), .im (.int .i64 a1.2.2.1), .im (.bool a1.2.2.2.1), .im (.int .i64 l.1.2.2.1), .im (.slice 3 a1.2.2.2.2.1), .im .nils], .var [.ptr 2 0, .im (.int .i64 l.2.2.1.2.1), .im (.int .i64 l.2.2.1.2.2.1), .im (.int .i64 l.2.2.1.2.2.2.1), .im (.int .i64 l.2.2.1.2.2.2.2.1), .im (.int .i64 l.2.2.1.2.2.2.2.2.1), .im (.int .i64 l.2.2.1.2.2.2.2.2.2.1)], .var [.own 3, .im (.int .i64 l.2.2.2.1.2.1), .own 4, .im (.int .i64 a1.2.2.2.2.2.1), .im (.bool a1.2.2.2.2.2.2.1), .im (.int .i64 a1.2.2.2.2.2.2.2.1), .im .nils], .row 3 a1.2.2.2.2.2.2.2.2.1 true, .row 1 a1.2.2.2.2.2.2.2.2.2 true, .row 12 l.2.2.2.2.2.2.1 true]) (fun b1 => [.var [.ptr 1 0, .im (.int .i64 l.2.1.2.1), .im (.int .i64 l.2.1.2.2.1), .im (.bool l.2.1.2.2.2.1), .im (.int .i64 l.2.1.2.2.2.2.1), .im (.slice 3 l.2.1.2.2.2.2.2.1), .own 5], .var [.ptr 2 0, .im (.int .i64 l.2.2.1.2.1), .im (.int .i64 l.2.2.1.2.2.1), .im (.int .i64 l.2.2.1.2.2.2.1), .im (.int .i64 l.2.2.1.2.2.2.2.1), .im (.int .i64 l.2.2.1.2.2.2.2.2.1), .im (.int .i64 l.2.2.1.2.2.2.2.2.2.1)], .var [.own 3, .im (.int .i64 l.2.2.2.1.2.1), .own 4, .im (.int .i64 b1.2.1), .im (.bool b1.2.2.1), .im (.int .i64 b1.2.2.2.1), .im .nils], .row 3 b1.2.2.2.2.1 true, .row 1 b1.2.2.2.2.2 true, .row 12 l.2.2.2.2.2.2.1 true]) b0)) y)
noncomputable def A : AFun U := mkA (U := U) pA pH (X := ((Int × (Int × (Int × (Bool × (Int × (Bool × (Int × ((List Int) × ((List Int) × (List (List Int))))))))))) ⊕ ((Int × (Int × (Int × (Bool × ((List Int) × (Int × (Bool × (Int × ((List Int) × (List Int)))))))))) ⊕ (Int × (Int × (Bool × (Int × ((List Int) × (List Int))))))))) (fun (l : TA) => c l.1.2.1 l.1.2.2.1 l.2.1.2.1 l.2.1.2.2.1 l.2.1.2.2.2.1 l.2.1.2.2.2.2.1 l.2.1.2.2.2.2.2.1 l.2.2.1.2.1 l.2.2.1.2.2.1 l.2.2.1.2.2.2.1 l.2.2.1.2.2.2.2.1 l.2.2.1.2.2.2.2.2.1 l.2.2.1.2.2.2.2.2.2.1 l.2.2.2.1.2.1 l.2.2.2.1.2.2.2.1 l.2.2.2.1.2.2.2.2.1 l.2.2.2.1.2.2.2.2.2.1 l.2.2.2.2.1 l.2.2.2.2.2.1 l.2.2.2.2.2.2.1) (spS (spS sp1)) v hh
noncomputable def body : Code := (Go.Func.body Try.f36).getD .skip
noncomputable def Γ : List (FuncId × AFun U) := [(32, slices_Clone__uint32uint32.A), (59, frame_Lay.A), (62, drive_Drive_Fresh.A), (61, journal_Journal_said_v3.A)]
noncomputable def Λ : List (Nat × LFun U) := []
noncomputable def CT : List (Nat × LFun U) := []
def ro : List FuncId := []
def D : Nat → Lv × Lv := dtab []
noncomputable def E : Env U := { E0 with Γ := Γ, Λ := Λ, C := CT, D := D, ro := ro }
theorem hk (R : Type) (l : TA) (K : AV U → Hp U → Option R) : funcA E Try.f36 [] R (pA.mkL l.1) (pH.mkH l.2) K = (t l.1.2.1 l.1.2.2.1 l.2.1.2.1 l.2.1.2.2.1 l.2.1.2.2.2.1 l.2.1.2.2.2.2.1 l.2.1.2.2.2.2.2.1 l.2.2.1.2.1 l.2.2.1.2.2.1 l.2.2.1.2.2.2.1 l.2.2.1.2.2.2.2.1 l.2.2.1.2.2.2.2.2.1 l.2.2.1.2.2.2.2.2.2.1 l.2.2.2.1.2.1 l.2.2.2.1.2.2.2.1 l.2.2.2.1.2.2.2.2.1 l.2.2.2.1.2.2.2.2.2.1 l.2.2.2.2.1 l.2.2.2.2.2.1 l.2.2.2.2.2.2.1).runK fun y => K (v l y) (hh l y) := by kernel_rfl
theorem okF : SoundF Try.prog cc 36 (funcA E Try.f36 []) :=
  funcA_ok (E := E) P_mixed (E0_ok.with Γ Λ CT D ro) (gam_of (all_cons ⟨slices_Clone__uint32uint32.ok, ⟨Try.f32, Try.func32, by kernel_rfl, by kernel_rfl⟩⟩ (all_cons ⟨frame_Lay.ok, ⟨Try.f59, Try.func59, by kernel_rfl, by kernel_rfl⟩⟩ (all_cons ⟨drive_Drive_Fresh.ok, ⟨Try.f62, Try.func62, by kernel_rfl, by kernel_rfl⟩⟩ (all_cons ⟨journal_Journal_said_v3.ok, ⟨Try.f61, Try.func61, by kernel_rfl, by kernel_rfl⟩⟩ all_nil)))) (all_cons (no_keep (by kernel_rfl)) (all_cons (no_keep (by kernel_rfl)) (all_cons (no_keep (by kernel_rfl)) (all_cons (no_keep (by kernel_rfl)) all_nil))))) Try.func36 (c := body) (by kernel_rfl)
    (just_by (by kernel_rfl) (by kernel_rfl) all_nil all_nil) []
theorem ok : SoundF Try.prog cc 36 A :=
  mkA_ok (E := E) (p := pA) (q := pH) (t := fun (l : TA) => t l.1.2.1 l.1.2.2.1 l.2.1.2.1 l.2.1.2.2.1 l.2.1.2.2.2.1 l.2.1.2.2.2.2.1 l.2.1.2.2.2.2.2.1 l.2.2.1.2.1 l.2.2.1.2.2.1 l.2.2.1.2.2.2.1 l.2.2.1.2.2.2.2.1 l.2.2.1.2.2.2.2.2.1 l.2.2.1.2.2.2.2.2.2.1 l.2.2.2.1.2.1 l.2.2.2.1.2.2.2.1 l.2.2.2.1.2.2.2.2.1 l.2.2.2.1.2.2.2.2.2.1 l.2.2.2.2.1 l.2.2.2.2.2.1 l.2.2.2.2.2.2.1) (spS_ok (spS_ok sp1_ok)) hk okF
end journal_Journal_over_v2

/-! (*instar/journal.Journal).put -/
namespace journal_Journal_put
abbrev TA : Type := ((Unit × (Int × ((List Int) × ((List Int) × Unit)))) × ((Unit × (Int × (Int × (Bool × (Int × ((List Int) × (Unit × Unit))))))) × ((Unit × (Int × (Int × (Int × (Int × (Int × (Int × Unit))))))) × ((Unit × (Int × (Unit × (Int × (Bool × (Int × (Unit × Unit))))))) × ((List Int) × ((List Int) × ((List (List Int)) × Unit)))))))
noncomputable def t (kind : Int) (load : (List Int)) (whole : (List Int)) (h0_1 h0_2 : Int) (h0_3 : Bool) (h0_4 : Int) (h0_5 : (List Int)) (h1_1 h1_2 h1_3 h1_4 h1_5 h1_6 h2_1 h2_3 : Int) (h2_4 : Bool) (h2_5 : Int) (h3 : (List Int)) (h4 : (List Int)) (h5 : (List (List Int))) : Tw ((Int × (Int × (Int × (Bool × (Int × (Int × (Bool × (Int × ((List Int) × ((List Int) × (List (List Int)))))))))))) ⊕ ((Int × (Int × (Int × (Bool × (Int × ((List Int) × (Int × (Bool × (Int × ((List Int) × (List Int))))))))))) ⊕ (Int × (Int × (Bool × (Int × ((List Int) × (List Int)))))))) :=
 (.opt (journal_may.c (load :: (whole :: ([] : List (List Int))))) fun z1 =>
  (.bb (!z1)
   (.ret (.inr (.inr ((2 : Int), (h2_3, (h2_4, (h2_5, (h3, h4))))))))
   (.opt (drive_Drive_Geometry.c h1_1 h1_2 h1_3 h1_4 h1_5 h1_6 h2_1 h2_3 h2_4 h2_5 h3 h4) fun z2 =>
    (.bb (decide (h0_4 ≥ h1_6))
     (.ret (.inr (.inr ((13 : Int), (h2_3, (h2_4, (h2_5, (h3, h4))))))))
     (.bb h0_3
      (.opt (journal_Journal_over_v2.c whole (w64 (h0_4 + (1 : Int))) h0_1 h0_2 h0_3 h0_4 h0_5 h1_1 h1_2 h1_3 h1_4 h1_5 h1_6 h2_1 h2_3 h2_4 h2_5 h3 h4 h5) fun z16 =>
       (.sm z16
        (fun z17 => (.ret (.inl (z17.1, (z17.2.1, (z17.2.2.1, (z17.2.2.2.1, ((w64 (h0_4 + (1 : Int))), (z17.2.2.2.2.1, (z17.2.2.2.2.2.1, (z17.2.2.2.2.2.2.1, (z17.2.2.2.2.2.2.2.1, (z17.2.2.2.2.2.2.2.2.1, z17.2.2.2.2.2.2.2.2.2)))))))))))))
        (fun z18 => (.sm z18
          (fun z19 => (.ret (.inr (.inl (z19.1, (z19.2.1, (z19.2.2.1, (z19.2.2.2.1, ((w64 (h0_4 + (1 : Int))), (z19.2.2.2.2.1, (z19.2.2.2.2.2.1, (z19.2.2.2.2.2.2.1, (z19.2.2.2.2.2.2.2.1, (z19.2.2.2.2.2.2.2.2.1, z19.2.2.2.2.2.2.2.2.2))))))))))))))
          (fun z20 => (.ret (.inr (.inr (z20.1, (z20.2.1, (z20.2.2.1, (z20.2.2.2.1, (z20.2.2.2.2.1, z20.2.2.2.2.2)))))))))))))
      (.opt (frame_Size.c (((List.length load) : Nat) : Int)) fun z3 =>
       (.opt (drive_Drive_Geometry.c h1_1 h1_2 h1_3 h1_4 h1_5 h1_6 h2_1 h2_3 h2_4 h2_5 h3 h4) fun z4 =>
        (.bb (decide ((w64 (h0_2 + z3)) > h1_1))
         (.opt (journal_Journal_over_v2.c whole (w64 (h0_4 + (1 : Int))) h0_1 h0_2 h0_3 h0_4 h0_5 h1_1 h1_2 h1_3 h1_4 h1_5 h1_6 h2_1 h2_3 h2_4 h2_5 h3 h4 h5) fun z11 =>
          (.sm z11
           (fun z12 => (.ret (.inl (z12.1, (z12.2.1, (z12.2.2.1, (z12.2.2.2.1, ((w64 (h0_4 + (1 : Int))), (z12.2.2.2.2.1, (z12.2.2.2.2.2.1, (z12.2.2.2.2.2.2.1, (z12.2.2.2.2.2.2.2.1, (z12.2.2.2.2.2.2.2.2.1, z12.2.2.2.2.2.2.2.2.2)))))))))))))
           (fun z13 => (.sm z13
             (fun z14 => (.ret (.inr (.inl (z14.1, (z14.2.1, (z14.2.2.1, (z14.2.2.2.1, ((w64 (h0_4 + (1 : Int))), (z14.2.2.2.2.1, (z14.2.2.2.2.2.1, (z14.2.2.2.2.2.2.1, (z14.2.2.2.2.2.2.2.1, (z14.2.2.2.2.2.2.2.2.1, z14.2.2.2.2.2.2.2.2.2))))))))))))))
             (fun z15 => (.ret (.inr (.inr (z15.1, (z15.2.1, (z15.2.2.1, (z15.2.2.2.1, (z15.2.2.2.2.1, z15.2.2.2.2.2)))))))))))))
         (.opt (slices_Clone__uint32uint32.c load) fun z5 =>
          (.opt (frame_Lay.c kind (w64 (h0_4 + (1 : Int))) z5) fun z6 =>
           (.bb (z6.1 != (0 : Int))
            (.ret (.inr (.inr (z6.1, (h2_3, (h2_4, (h2_5, (h3, h4))))))))
            (.opt (drive_Drive_Write.c h0_1 h0_2 z6.2 h1_1 h1_2 h1_3 h1_4 h1_5 h1_6 h2_1 h2_3 h2_4 h2_5 h3 h4) fun z7 =>
             (.bb (z7.1 != (0 : Int))
              (.ret (.inr (.inr (z7.1, (z7.2.1, (z7.2.2.1, (z7.2.2.2.1, (z7.2.2.2.2, h4))))))))
              (.opt (journal_Journal_said_v3.c kind (w64 (h0_4 + (1 : Int))) z5 (((List.length z6.2) : Nat) : Int) h0_1 h0_2 h0_3 h0_4 h0_5 h1_1 h1_2 h1_3 h1_4 h1_5 h1_6 h2_1 z7.2.1 z7.2.2.1 z7.2.2.2.1 z7.2.2.2.2 h4 h5) fun z8 =>
               (.sm z8
                (fun z9 => (.ret (.inl ((0 : Int), (h0_1, (z9.1, (h0_3, ((w64 (h0_4 + (1 : Int))), (z7.2.1, (z7.2.2.1, (z7.2.2.2.1, (z7.2.2.2.2, (h4, z9.2)))))))))))))
                (fun z10 => (.ret (.inr (.inl ((0 : Int), (h0_1, (z10, (h0_3, ((w64 (h0_4 + (1 : Int))), (z5, (z7.2.1, (z7.2.2.1, (z7.2.2.2.1, (z7.2.2.2.2, h4)))))))))))))))))))))))))))))
noncomputable def c (kind : Int) (load : (List Int)) (whole : (List Int)) (h0_1 h0_2 : Int) (h0_3 : Bool) (h0_4 : Int) (h0_5 : (List Int)) (h1_1 h1_2 h1_3 h1_4 h1_5 h1_6 h2_1 h2_3 : Int) (h2_4 : Bool) (h2_5 : Int) (h3 : (List Int)) (h4 : (List Int)) (h5 : (List (List Int))) : Option ((Int × (Int × (Int × (Bool × (Int × (Int × (Bool × (Int × ((List Int) × ((List Int) × (List (List Int)))))))))))) ⊕ ((Int × (Int × (Int × (Bool × (Int × ((List Int) × (Int × (Bool × (Int × ((List Int) × (List Int))))))))))) ⊕ (Int × (Int × (Bool × (Int × ((List Int) × (List Int)))))))) := (t kind load whole h0_1 h0_2 h0_3 h0_4 h0_5 h1_1 h1_2 h1_3 h1_4 h1_5 h1_6 h2_1 h2_3 h2_4 h2_5 h3 h4 h5).run
def pA : Pt := (.cs (.ptr 0 0) (.cs (.int .i64) (.cs (.sl 3) (.cs (.sl 3) .nl))))
def pH : Pt := (.cs (.var (.cs (.ptr 1 0) (.cs (.int .i64) (.cs (.int .i64) (.cs .bool (.cs (.int .i64) (.cs (.sl 3) (.cs (.own 5) .nl)))))))) (.cs (.var (.cs (.ptr 2 0) (.cs (.int .i64) (.cs (.int .i64) (.cs (.int .i64) (.cs (.int .i64) (.cs (.int .i64) (.cs (.int .i64) .nl)))))))) (.cs (.var (.cs (.own 3) (.cs (.int .i64) (.cs (.own 4) (.cs (.int .i64) (.cs .bool (.cs (.int .i64) (.cs .nils .nl)))))))) (.cs (.row 3 true) (.cs (.row 1 true) (.cs (.row 12 true) .nl))))))
def v (l : TA) (y : ((Int × (Int × (Int × (Bool × (Int × (Int × (Bool × (Int × ((List Int) × ((List Int) × (List (List Int)))))))))))) ⊕ ((Int × (Int × (Int × (Bool × (Int × ((List Int) × (Int × (Bool × (Int × ((List Int) × (List Int))))))))))) ⊕ (Int × (Int × (Bool × (Int × ((List Int) × (List Int))))))))) : AV U := (Sum.elim (fun a0 => .im (.int .i64 a0.1)) (fun b0 => (Sum.elim (fun a1 => .im (.int .i64 a1.1)) (fun b1 => .im (.int .i64 b1.1)) b0)) y)
def hh (l : TA) (y : ((Int × (Int × (Int × (Bool × (Int × (Int × (Bool × (Int × ((List Int) × ((List Int) × (List (List Int)))))))))))) ⊕ ((Int × (Int × (Int × (Bool × (Int × ((List Int) × (Int × (Bool × (Int × ((List Int) × (List Int))))))))))) ⊕ (Int × (Int × (Bool × (Int × ((List Int) × (List Int))))))))) : Hp U := (Sum.elim (fun a0 => [.var [.ptr 1 0, .im (.int .i64 a0.2.1), .im (.int .i64 a0.2.2.1), .im (.bool a0.2.2.2.1), .im (.int .i64 a0.2.2.2.2.1), .im (.slice 3 l.2.1.2.2.2.2.2.1), .own 6], .var [.ptr 2 0, .im (.int .i64 l.2.2.1.2.1), .im (.int .i64 l.2.2.1.2.2.1), .im (.int .i64 l.2.2.1.2.2.2.1), .im (.int .i64 l.2.2.1.2.2.2.2.1), .im (.int .i64 l.2.2.1.2.2.2.2.2.1), .im (.int .i64 l.2.2.1.2.2.2.2.2.2.1)], .var [.own 3, .im (.int .i64 l.2.2.2.1.2.1), .own 4, .im (.int .i64 a0.2.2.2.2.2.1), .im (.bool a0.2.2.2.2.2.2.1), .im (.int .i64 a0.2.2.2.2.2.2.2.1), .im .nils], .row 3 a0.2.2.2.2.2.2.2.2.1 true, .row 1 a0.2.2.2.2.2.2.2.2.2.1 true, .dead, .row 12 a0.2.2.2.2.2.2.2.2.2.2 true]) (fun b0 => (Sum.elim (fun a1 => [.var [.ptr 1 0, .im (.int .i64 a1.2.1), .im (.int .i64 a1.2.2.1), .im (.bool a1.2.2.2.1), .im (.int .i64 a1.2.2.2.2.1), .im (.slice 3 a1.2.2.2.2.2.1), .im .nils], .var [.ptr 2 0, .im (.int .i64 l.2.2.1.2.1), .im (.int .i64 l.2.2.1.2.2.1), .im (.int .i64 l.2.2.1.2.2.2.1), .im (.int .i64 l.2.2.1.2.2.2.2.1), .im (.int .i64 l.2.2.1.2.2.2.2.2.1), .im (.int .i64 l.2.2.1.2.2.2.2.2.2.1)], .var [.own 3, .im (.int .i64 l.2.2.2.1.2.1), .own 4, .im (.int .i64 a1.2.2.2.2.2.2.1), .im (.bool a1.2.2.2.2.2.2.2.1), .im (.int .i64 a1.2.2.2.2.2.2.2.2.1), .im .nils], .row 3 a1.2.2.2.2.2.2.2.2.2.1 true, .row 1 a1.2.2.2.2.2.2.2.2.2.2 true, .row 12 l.2.2.2.2.2.2.1 true]) (fun b1 => [.var [.ptr 1 0, .im (.int .i64 l.2.1.2.1), .im (.int .i64 l.2.1.2.2.1), .im (.bool l.2.1.2.2.2.1), .im (.int .i64 l.2.1.2.2.2.2.1), .im (.slice 3 l.2.1.2.2.2.2.2.1), .own 5], .var [.ptr 2 0, .im (.int .i64 l.2.2.1.2.1), .im (.int .i64 l.2.2.1.2.2.1), .im (.int .i64 l.2.2.1.2.2.2.1), .im (.int .i64 l.2.2.1.2.2.2.2.1), .im (.int .i64 l.2.2.1.2.2.2.2.2.1), .im (.int .i64 l.2.2.1.2.2.2.2.2.2.1)], .var [.own 3, .im (.int .i64 l.2.2.2.1.2.1), .own 4, .im (.int .i64 b1.2.1), .im (.bool b1.2.2.1), .im (.int .i64 b1.2.2.2.1), .im .nils], .row 3 b1.2.2.2.2.1 true, .row 1 b1.2.2.2.2.2 true, .row 12 l.2.2.2.2.2.2.1 true]) b0)) y)
noncomputable def A : AFun U := mkA (U := U) pA pH (X := ((Int × (Int × (Int × (Bool × (Int × (Int × (Bool × (Int × ((List Int) × ((List Int) × (List (List Int)))))))))))) ⊕ ((Int × (Int × (Int × (Bool × (Int × ((List Int) × (Int × (Bool × (Int × ((List Int) × (List Int))))))))))) ⊕ (Int × (Int × (Bool × (Int × ((List Int) × (List Int))))))))) (fun (l : TA) => c l.1.2.1 l.1.2.2.1 l.1.2.2.2.1 l.2.1.2.1 l.2.1.2.2.1 l.2.1.2.2.2.1 l.2.1.2.2.2.2.1 l.2.1.2.2.2.2.2.1 l.2.2.1.2.1 l.2.2.1.2.2.1 l.2.2.1.2.2.2.1 l.2.2.1.2.2.2.2.1 l.2.2.1.2.2.2.2.2.1 l.2.2.1.2.2.2.2.2.2.1 l.2.2.2.1.2.1 l.2.2.2.1.2.2.2.1 l.2.2.2.1.2.2.2.2.1 l.2.2.2.1.2.2.2.2.2.1 l.2.2.2.2.1 l.2.2.2.2.2.1 l.2.2.2.2.2.2.1) (spS (spS sp1)) v hh
noncomputable def body : Code := (Go.Func.body Try.f33).getD .skip
noncomputable def Γ : List (FuncId × AFun U) := [(34, journal_may.A), (35, drive_Drive_Geometry.A), (58, frame_Size.A), (32, slices_Clone__uint32uint32.A), (59, frame_Lay.A), (60, drive_Drive_Write.A), (61, journal_Journal_said_v3.A), (36, journal_Journal_over_v2.A)]
noncomputable def Λ : List (Nat × LFun U) := []
noncomputable def CT : List (Nat × LFun U) := []
def ro : List FuncId := [35]
def D : Nat → Lv × Lv := dtab []
noncomputable def E : Env U := { E0 with Γ := Γ, Λ := Λ, C := CT, D := D, ro := ro }
theorem hk (R : Type) (l : TA) (K : AV U → Hp U → Option R) : funcA E Try.f33 [] R (pA.mkL l.1) (pH.mkH l.2) K = (t l.1.2.1 l.1.2.2.1 l.1.2.2.2.1 l.2.1.2.1 l.2.1.2.2.1 l.2.1.2.2.2.1 l.2.1.2.2.2.2.1 l.2.1.2.2.2.2.2.1 l.2.2.1.2.1 l.2.2.1.2.2.1 l.2.2.1.2.2.2.1 l.2.2.1.2.2.2.2.1 l.2.2.1.2.2.2.2.2.1 l.2.2.1.2.2.2.2.2.2.1 l.2.2.2.1.2.1 l.2.2.2.1.2.2.2.1 l.2.2.2.1.2.2.2.2.1 l.2.2.2.1.2.2.2.2.2.1 l.2.2.2.2.1 l.2.2.2.2.2.1 l.2.2.2.2.2.2.1).runK fun y => K (v l y) (hh l y) := by kernel_rfl
theorem okF : SoundF Try.prog cc 33 (funcA E Try.f33 []) :=
  funcA_ok (E := E) P_mixed (E0_ok.with Γ Λ CT D ro) (gam_of (all_cons ⟨journal_may.ok, ⟨Try.f34, Try.func34, by kernel_rfl, by kernel_rfl⟩⟩ (all_cons ⟨drive_Drive_Geometry.ok, ⟨Try.f35, Try.func35, by kernel_rfl, by kernel_rfl⟩⟩ (all_cons ⟨frame_Size.ok, ⟨Try.f58, Try.func58, by kernel_rfl, by kernel_rfl⟩⟩ (all_cons ⟨slices_Clone__uint32uint32.ok, ⟨Try.f32, Try.func32, by kernel_rfl, by kernel_rfl⟩⟩ (all_cons ⟨frame_Lay.ok, ⟨Try.f59, Try.func59, by kernel_rfl, by kernel_rfl⟩⟩ (all_cons ⟨drive_Drive_Write.ok, ⟨Try.f60, Try.func60, by kernel_rfl, by kernel_rfl⟩⟩ (all_cons ⟨journal_Journal_said_v3.ok, ⟨Try.f61, Try.func61, by kernel_rfl, by kernel_rfl⟩⟩ (all_cons ⟨journal_Journal_over_v2.ok, ⟨Try.f36, Try.func36, by kernel_rfl, by kernel_rfl⟩⟩ all_nil)))))))) (all_cons (no_keep (by kernel_rfl)) (all_cons (fun _ => drive_Drive_Geometry.keep) (all_cons (no_keep (by kernel_rfl)) (all_cons (no_keep (by kernel_rfl)) (all_cons (no_keep (by kernel_rfl)) (all_cons (no_keep (by kernel_rfl)) (all_cons (no_keep (by kernel_rfl)) (all_cons (no_keep (by kernel_rfl)) all_nil))))))))) Try.func33 (c := body) (by kernel_rfl)
    (just_by (by kernel_rfl) (by kernel_rfl) all_nil all_nil) []
theorem ok : SoundF Try.prog cc 33 A :=
  mkA_ok (E := E) (p := pA) (q := pH) (t := fun (l : TA) => t l.1.2.1 l.1.2.2.1 l.1.2.2.2.1 l.2.1.2.1 l.2.1.2.2.1 l.2.1.2.2.2.1 l.2.1.2.2.2.2.1 l.2.1.2.2.2.2.2.1 l.2.2.1.2.1 l.2.2.1.2.2.1 l.2.2.1.2.2.2.1 l.2.2.1.2.2.2.2.1 l.2.2.1.2.2.2.2.2.1 l.2.2.1.2.2.2.2.2.2.1 l.2.2.2.1.2.1 l.2.2.2.1.2.2.2.1 l.2.2.2.1.2.2.2.2.1 l.2.2.2.1.2.2.2.2.2.1 l.2.2.2.2.1 l.2.2.2.2.2.1 l.2.2.2.2.2.2.1) (spS_ok (spS_ok sp1_ok)) hk okF
end journal_Journal_put

/-! (*instar/journal.Journal).Change -/
namespace journal_Journal_Change
abbrev TA : Type := ((Unit × ((List Int) × ((List Int) × Unit))) × ((Unit × (Int × (Int × (Bool × (Int × ((List Int) × (Unit × Unit))))))) × ((Unit × (Int × (Int × (Int × (Int × (Int × (Int × Unit))))))) × ((Unit × (Int × (Unit × (Int × (Bool × (Int × (Unit × Unit))))))) × ((List Int) × ((List Int) × ((List (List Int)) × Unit)))))))
noncomputable def t (load : (List Int)) (whole : (List Int)) (h0_1 h0_2 : Int) (h0_3 : Bool) (h0_4 : Int) (h0_5 : (List Int)) (h1_1 h1_2 h1_3 h1_4 h1_5 h1_6 h2_1 h2_3 : Int) (h2_4 : Bool) (h2_5 : Int) (h3 : (List Int)) (h4 : (List Int)) (h5 : (List (List Int))) : Tw ((Int × (Int × (Int × (Bool × (Int × (Int × (Bool × (Int × ((List Int) × ((List Int) × (List (List Int)))))))))))) ⊕ ((Int × (Int × (Int × (Bool × (Int × ((List Int) × (Int × (Bool × (Int × ((List Int) × (List Int))))))))))) ⊕ (Int × (Int × (Bool × (Int × ((List Int) × (List Int)))))))) :=
 (.opt (journal_Journal_put.c (2 : Int) load whole h0_1 h0_2 h0_3 h0_4 h0_5 h1_1 h1_2 h1_3 h1_4 h1_5 h1_6 h2_1 h2_3 h2_4 h2_5 h3 h4 h5) fun z1 =>
  (.sm z1
   (fun z2 => (.ret (.inl (z2.1, (z2.2.1, (z2.2.2.1, (z2.2.2.2.1, (z2.2.2.2.2.1, (z2.2.2.2.2.2.1, (z2.2.2.2.2.2.2.1, (z2.2.2.2.2.2.2.2.1, (z2.2.2.2.2.2.2.2.2.1, (z2.2.2.2.2.2.2.2.2.2.1, z2.2.2.2.2.2.2.2.2.2.2)))))))))))))
   (fun z3 => (.sm z3
     (fun z4 => (.ret (.inr (.inl (z4.1, (z4.2.1, (z4.2.2.1, (z4.2.2.2.1, (z4.2.2.2.2.1, (z4.2.2.2.2.2.1, (z4.2.2.2.2.2.2.1, (z4.2.2.2.2.2.2.2.1, (z4.2.2.2.2.2.2.2.2.1, (z4.2.2.2.2.2.2.2.2.2.1, z4.2.2.2.2.2.2.2.2.2.2))))))))))))))
     (fun z5 => (.ret (.inr (.inr (z5.1, (z5.2.1, (z5.2.2.1, (z5.2.2.2.1, (z5.2.2.2.2.1, z5.2.2.2.2.2)))))))))))))
noncomputable def c (load : (List Int)) (whole : (List Int)) (h0_1 h0_2 : Int) (h0_3 : Bool) (h0_4 : Int) (h0_5 : (List Int)) (h1_1 h1_2 h1_3 h1_4 h1_5 h1_6 h2_1 h2_3 : Int) (h2_4 : Bool) (h2_5 : Int) (h3 : (List Int)) (h4 : (List Int)) (h5 : (List (List Int))) : Option ((Int × (Int × (Int × (Bool × (Int × (Int × (Bool × (Int × ((List Int) × ((List Int) × (List (List Int)))))))))))) ⊕ ((Int × (Int × (Int × (Bool × (Int × ((List Int) × (Int × (Bool × (Int × ((List Int) × (List Int))))))))))) ⊕ (Int × (Int × (Bool × (Int × ((List Int) × (List Int)))))))) := (t load whole h0_1 h0_2 h0_3 h0_4 h0_5 h1_1 h1_2 h1_3 h1_4 h1_5 h1_6 h2_1 h2_3 h2_4 h2_5 h3 h4 h5).run
def pA : Pt := (.cs (.ptr 0 0) (.cs (.sl 3) (.cs (.sl 3) .nl)))
def pH : Pt := (.cs (.var (.cs (.ptr 1 0) (.cs (.int .i64) (.cs (.int .i64) (.cs .bool (.cs (.int .i64) (.cs (.sl 3) (.cs (.own 5) .nl)))))))) (.cs (.var (.cs (.ptr 2 0) (.cs (.int .i64) (.cs (.int .i64) (.cs (.int .i64) (.cs (.int .i64) (.cs (.int .i64) (.cs (.int .i64) .nl)))))))) (.cs (.var (.cs (.own 3) (.cs (.int .i64) (.cs (.own 4) (.cs (.int .i64) (.cs .bool (.cs (.int .i64) (.cs .nils .nl)))))))) (.cs (.row 3 true) (.cs (.row 1 true) (.cs (.row 12 true) .nl))))))
def v (l : TA) (y : ((Int × (Int × (Int × (Bool × (Int × (Int × (Bool × (Int × ((List Int) × ((List Int) × (List (List Int)))))))))))) ⊕ ((Int × (Int × (Int × (Bool × (Int × ((List Int) × (Int × (Bool × (Int × ((List Int) × (List Int))))))))))) ⊕ (Int × (Int × (Bool × (Int × ((List Int) × (List Int))))))))) : AV U := (Sum.elim (fun a0 => .im (.int .i64 a0.1)) (fun b0 => (Sum.elim (fun a1 => .im (.int .i64 a1.1)) (fun b1 => .im (.int .i64 b1.1)) b0)) y)
def hh (l : TA) (y : ((Int × (Int × (Int × (Bool × (Int × (Int × (Bool × (Int × ((List Int) × ((List Int) × (List (List Int)))))))))))) ⊕ ((Int × (Int × (Int × (Bool × (Int × ((List Int) × (Int × (Bool × (Int × ((List Int) × (List Int))))))))))) ⊕ (Int × (Int × (Bool × (Int × ((List Int) × (List Int))))))))) : Hp U := (Sum.elim (fun a0 => [.var [.ptr 1 0, .im (.int .i64 a0.2.1), .im (.int .i64 a0.2.2.1), .im (.bool a0.2.2.2.1), .im (.int .i64 a0.2.2.2.2.1), .im (.slice 3 l.2.1.2.2.2.2.2.1), .own 6], .var [.ptr 2 0, .im (.int .i64 l.2.2.1.2.1), .im (.int .i64 l.2.2.1.2.2.1), .im (.int .i64 l.2.2.1.2.2.2.1), .im (.int .i64 l.2.2.1.2.2.2.2.1), .im (.int .i64 l.2.2.1.2.2.2.2.2.1), .im (.int .i64 l.2.2.1.2.2.2.2.2.2.1)], .var [.own 3, .im (.int .i64 l.2.2.2.1.2.1), .own 4, .im (.int .i64 a0.2.2.2.2.2.1), .im (.bool a0.2.2.2.2.2.2.1), .im (.int .i64 a0.2.2.2.2.2.2.2.1), .im .nils], .row 3 a0.2.2.2.2.2.2.2.2.1 true, .row 1 a0.2.2.2.2.2.2.2.2.2.1 true, .dead, .row 12 a0.2.2.2.2.2.2.2.2.2.2 true]) (fun b0 => (Sum.elim (fun a1 => [.var [.ptr 1 0, .im (.int .i64 a1.2.1), .im (.int .i64 a1.2.2.1), .im (.bool a1.2.2.2.1), .im (.int .i64 a1.2.2.2.2.1), .im (.slice 3 a1.2.2.2.2.2.1), .im .nils], .var [.ptr 2 0, .im (.int .i64 l.2.2.1.2.1), .im (.int .i64 l.2.2.1.2.2.1), .im (.int .i64 l.2.2.1.2.2.2.1), .im (.int .i64 l.2.2.1.2.2.2.2.1), .im (.int .i64 l.2.2.1.2.2.2.2.2.1), .im (.int .i64 l.2.2.1.2.2.2.2.2.2.1)], .var [.own 3, .im (.int .i64 l.2.2.2.1.2.1), .own 4, .im (.int .i64 a1.2.2.2.2.2.2.1), .im (.bool a1.2.2.2.2.2.2.2.1), .im (.int .i64 a1.2.2.2.2.2.2.2.2.1), .im .nils], .row 3 a1.2.2.2.2.2.2.2.2.2.1 true, .row 1 a1.2.2.2.2.2.2.2.2.2.2 true, .row 12 l.2.2.2.2.2.2.1 true]) (fun b1 => [.var [.ptr 1 0, .im (.int .i64 l.2.1.2.1), .im (.int .i64 l.2.1.2.2.1), .im (.bool l.2.1.2.2.2.1), .im (.int .i64 l.2.1.2.2.2.2.1), .im (.slice 3 l.2.1.2.2.2.2.2.1), .own 5], .var [.ptr 2 0, .im (.int .i64 l.2.2.1.2.1), .im (.int .i64 l.2.2.1.2.2.1), .im (.int .i64 l.2.2.1.2.2.2.1), .im (.int .i64 l.2.2.1.2.2.2.2.1), .im (.int .i64 l.2.2.1.2.2.2.2.2.1), .im (.int .i64 l.2.2.1.2.2.2.2.2.2.1)], .var [.own 3, .im (.int .i64 l.2.2.2.1.2.1), .own 4, .im (.int .i64 b1.2.1), .im (.bool b1.2.2.1), .im (.int .i64 b1.2.2.2.1), .im .nils], .row 3 b1.2.2.2.2.1 true, .row 1 b1.2.2.2.2.2 true, .row 12 l.2.2.2.2.2.2.1 true]) b0)) y)
noncomputable def A : AFun U := mkA (U := U) pA pH (X := ((Int × (Int × (Int × (Bool × (Int × (Int × (Bool × (Int × ((List Int) × ((List Int) × (List (List Int)))))))))))) ⊕ ((Int × (Int × (Int × (Bool × (Int × ((List Int) × (Int × (Bool × (Int × ((List Int) × (List Int))))))))))) ⊕ (Int × (Int × (Bool × (Int × ((List Int) × (List Int))))))))) (fun (l : TA) => c l.1.2.1 l.1.2.2.1 l.2.1.2.1 l.2.1.2.2.1 l.2.1.2.2.2.1 l.2.1.2.2.2.2.1 l.2.1.2.2.2.2.2.1 l.2.2.1.2.1 l.2.2.1.2.2.1 l.2.2.1.2.2.2.1 l.2.2.1.2.2.2.2.1 l.2.2.1.2.2.2.2.2.1 l.2.2.1.2.2.2.2.2.2.1 l.2.2.2.1.2.1 l.2.2.2.1.2.2.2.1 l.2.2.2.1.2.2.2.2.1 l.2.2.2.1.2.2.2.2.2.1 l.2.2.2.2.1 l.2.2.2.2.2.1 l.2.2.2.2.2.2.1) (spS (spS sp1)) v hh
noncomputable def body : Code := (Go.Func.body Try.f13).getD .skip
noncomputable def Γ : List (FuncId × AFun U) := [(33, journal_Journal_put.A)]
noncomputable def Λ : List (Nat × LFun U) := []
noncomputable def CT : List (Nat × LFun U) := []
def ro : List FuncId := []
def D : Nat → Lv × Lv := dtab []
noncomputable def E : Env U := { E0 with Γ := Γ, Λ := Λ, C := CT, D := D, ro := ro }
theorem hk (R : Type) (l : TA) (K : AV U → Hp U → Option R) : funcA E Try.f13 [] R (pA.mkL l.1) (pH.mkH l.2) K = (t l.1.2.1 l.1.2.2.1 l.2.1.2.1 l.2.1.2.2.1 l.2.1.2.2.2.1 l.2.1.2.2.2.2.1 l.2.1.2.2.2.2.2.1 l.2.2.1.2.1 l.2.2.1.2.2.1 l.2.2.1.2.2.2.1 l.2.2.1.2.2.2.2.1 l.2.2.1.2.2.2.2.2.1 l.2.2.1.2.2.2.2.2.2.1 l.2.2.2.1.2.1 l.2.2.2.1.2.2.2.1 l.2.2.2.1.2.2.2.2.1 l.2.2.2.1.2.2.2.2.2.1 l.2.2.2.2.1 l.2.2.2.2.2.1 l.2.2.2.2.2.2.1).runK fun y => K (v l y) (hh l y) := by kernel_rfl
theorem okF : SoundF Try.prog cc 13 (funcA E Try.f13 []) :=
  funcA_ok (E := E) P_mixed (E0_ok.with Γ Λ CT D ro) (gam_of (all_cons ⟨journal_Journal_put.ok, ⟨Try.f33, Try.func33, by kernel_rfl, by kernel_rfl⟩⟩ all_nil) (all_cons (no_keep (by kernel_rfl)) all_nil)) Try.func13 (c := body) (by kernel_rfl)
    (just_by (by kernel_rfl) (by kernel_rfl) all_nil all_nil) []
theorem ok : SoundF Try.prog cc 13 A :=
  mkA_ok (E := E) (p := pA) (q := pH) (t := fun (l : TA) => t l.1.2.1 l.1.2.2.1 l.2.1.2.1 l.2.1.2.2.1 l.2.1.2.2.2.1 l.2.1.2.2.2.2.1 l.2.1.2.2.2.2.2.1 l.2.2.1.2.1 l.2.2.1.2.2.1 l.2.2.1.2.2.2.1 l.2.2.1.2.2.2.2.1 l.2.2.1.2.2.2.2.2.1 l.2.2.1.2.2.2.2.2.2.1 l.2.2.2.1.2.1 l.2.2.2.1.2.2.2.1 l.2.2.2.1.2.2.2.2.1 l.2.2.2.1.2.2.2.2.2.1 l.2.2.2.2.1 l.2.2.2.2.2.1 l.2.2.2.2.2.2.1) (spS_ok (spS_ok sp1_ok)) hk okF
end journal_Journal_Change

/-! (*instar/journal.Journal).Changes -/
namespace journal_Journal_Changes
abbrev TA : Type := ((Unit × Unit) × ((Unit × (Int × (Int × (Bool × (Int × ((List Int) × (Unit × Unit))))))) × ((Unit × (Int × (Int × (Int × (Int × (Int × (Int × Unit))))))) × ((Unit × (Int × (Unit × (Int × (Bool × (Int × (Unit × Unit))))))) × ((List Int) × ((List Int) × ((List (List Int)) × Unit)))))))
abbrev T5 : Type := ((Unit × (Unit × (Unit × (Unit × (Int × (Int × (Unit × Unit))))))) × ((Unit × (Int × (Int × (Bool × (Int × ((List Int) × (Unit × Unit))))))) × ((Unit × (Int × (Int × (Int × (Int × (Int × (Int × Unit))))))) × ((Unit × (Int × (Unit × (Int × (Bool × (Int × (Unit × Unit))))))) × ((List Int) × ((List Int) × ((List (List Int)) × ((List (List Int)) × Unit))))))))
noncomputable def l5 (k12 h0_1 h0_2 : Int) (h0_3 : Bool) (h0_4 : Int) (h0_5 : (List Int)) (h1_1 h1_2 h1_3 h1_4 h1_5 h1_6 h2_1 h2_3 : Int) (h2_4 : Bool) (h2_5 : Int) (h3 : (List Int)) (h4 : (List Int)) (h5 : (List (List Int))) (k13 : Int) (h6 : (List (List Int))) : Tw ((Int × (List (List Int))) ⊕ (List (List Int))) :=
 (.bb (decide (k13 < k12))
  (.dd ((((0 : Int) ≤ k13) ∧ (k13 < (((List.length h5) : Nat) : Int)))) inferInstance
   (.opt (h5)[(Int.toNat k13)]? fun z1 =>
    (.opt (slices_Clone__uint32uint32.c z1) fun z2 =>
     (.dd ((((((List.length h6) + (List.length (z2 :: ([] : List (List Int))))) * (24 : Nat)) ≤ (140737488355328 : Nat)) ∧ (((List.length h6) + (List.length (z2 :: ([] : List (List Int))))) ≤ (140737488355328 : Nat)))) inferInstance
      (.ret (.inl ((w64 (k13 + (1 : Int))), (h6 ++ (z2 :: ([] : List (List Int)))))))
      .no)))
   .no)
  (.ret (.inr h6)))
noncomputable def L5 (k12 k13 h0_1 h0_2 : Int) (h0_3 : Bool) (h0_4 : Int) (h0_5 : (List Int)) (h1_1 h1_2 h1_3 h1_4 h1_5 h1_6 h2_1 h2_3 : Int) (h2_4 : Bool) (h2_5 : Int) (h3 : (List Int)) (h4 : (List Int)) (h5 : (List (List Int))) (h6 : (List (List Int))) : Option (List (List Int)) := Lp (fun s => (l5 k12 h0_1 h0_2 h0_3 h0_4 h0_5 h1_1 h1_2 h1_3 h1_4 h1_5 h1_6 h2_1 h2_3 h2_4 h2_5 h3 h4 h5 s.1 s.2).run) (k13, h6)
def p5 : Pt := (.cs (.bots 3) (.cs (.own 6) (.cs (.bots 7) (.cs (.own 5) (.cs (.int .i64) (.cs (.int .i64) (.cs (.bots 10) .nl)))))))
def q5 : Pt := (.cs (.var (.cs (.ptr 1 0) (.cs (.int .i64) (.cs (.int .i64) (.cs .bool (.cs (.int .i64) (.cs (.sl 3) (.cs (.own 5) .nl)))))))) (.cs (.var (.cs (.ptr 2 0) (.cs (.int .i64) (.cs (.int .i64) (.cs (.int .i64) (.cs (.int .i64) (.cs (.int .i64) (.cs (.int .i64) .nl)))))))) (.cs (.var (.cs (.own 3) (.cs (.int .i64) (.cs (.own 4) (.cs (.int .i64) (.cs .bool (.cs (.int .i64) (.cs .nils .nl)))))))) (.cs (.row 3 true) (.cs (.row 1 true) (.cs (.row 12 true) (.cs (.row 12 true) .nl)))))))
def ou5 (l : T5) (y : (List (List Int))) : Ex × St U := (.exit 0, stOf 24 [(3, .own 6)] [.var [.ptr 1 0, .im (.int .i64 l.2.1.2.1), .im (.int .i64 l.2.1.2.2.1), .im (.bool l.2.1.2.2.2.1), .im (.int .i64 l.2.1.2.2.2.2.1), .im (.slice 3 l.2.1.2.2.2.2.2.1), .own 5], .var [.ptr 2 0, .im (.int .i64 l.2.2.1.2.1), .im (.int .i64 l.2.2.1.2.2.1), .im (.int .i64 l.2.2.1.2.2.2.1), .im (.int .i64 l.2.2.1.2.2.2.2.1), .im (.int .i64 l.2.2.1.2.2.2.2.2.1), .im (.int .i64 l.2.2.1.2.2.2.2.2.2.1)], .var [.own 3, .im (.int .i64 l.2.2.2.1.2.1), .own 4, .im (.int .i64 l.2.2.2.1.2.2.2.1), .im (.bool l.2.2.2.1.2.2.2.2.1), .im (.int .i64 l.2.2.2.1.2.2.2.2.2.1), .im .nils], .row 3 l.2.2.2.2.1 true, .row 1 l.2.2.2.2.2.1 true, .row 12 l.2.2.2.2.2.2.1 true, .row 12 y true] 6)
noncomputable def Λ5 : LFun U := mkLp (U := U) p5 q5 6 (X := (List (List Int))) (fun (l : T5) => L5 l.1.2.2.2.2.1 l.1.2.2.2.2.2.1 l.2.1.2.1 l.2.1.2.2.1 l.2.1.2.2.2.1 l.2.1.2.2.2.2.1 l.2.1.2.2.2.2.2.1 l.2.2.1.2.1 l.2.2.1.2.2.1 l.2.2.1.2.2.2.1 l.2.2.1.2.2.2.2.1 l.2.2.1.2.2.2.2.2.1 l.2.2.1.2.2.2.2.2.2.1 l.2.2.2.1.2.1 l.2.2.2.1.2.2.2.1 l.2.2.2.1.2.2.2.2.1 l.2.2.2.1.2.2.2.2.2.1 l.2.2.2.2.1 l.2.2.2.2.2.1 l.2.2.2.2.2.2.1 l.2.2.2.2.2.2.2.1) sp1 ou5
noncomputable def t (h0_1 h0_2 : Int) (h0_3 : Bool) (h0_4 : Int) (h0_5 : (List Int)) (h1_1 h1_2 h1_3 h1_4 h1_5 h1_6 h2_1 h2_3 : Int) (h2_4 : Bool) (h2_5 : Int) (h3 : (List Int)) (h4 : (List Int)) (h5 : (List (List Int))) : Tw (List (List Int)) :=
 (.opt (L5 (((List.length h5) : Nat) : Int) (0 : Int) h0_1 h0_2 h0_3 h0_4 h0_5 h1_1 h1_2 h1_3 h1_4 h1_5 h1_6 h2_1 h2_3 h2_4 h2_5 h3 h4 h5 ([] : List (List Int))) fun z3 =>
  (.ret z3))
noncomputable def c (h0_1 h0_2 : Int) (h0_3 : Bool) (h0_4 : Int) (h0_5 : (List Int)) (h1_1 h1_2 h1_3 h1_4 h1_5 h1_6 h2_1 h2_3 : Int) (h2_4 : Bool) (h2_5 : Int) (h3 : (List Int)) (h4 : (List Int)) (h5 : (List (List Int))) : Option (List (List Int)) := (t h0_1 h0_2 h0_3 h0_4 h0_5 h1_1 h1_2 h1_3 h1_4 h1_5 h1_6 h2_1 h2_3 h2_4 h2_5 h3 h4 h5).run
def pA : Pt := (.cs (.ptr 0 0) .nl)
def pH : Pt := (.cs (.var (.cs (.ptr 1 0) (.cs (.int .i64) (.cs (.int .i64) (.cs .bool (.cs (.int .i64) (.cs (.sl 3) (.cs (.own 5) .nl)))))))) (.cs (.var (.cs (.ptr 2 0) (.cs (.int .i64) (.cs (.int .i64) (.cs (.int .i64) (.cs (.int .i64) (.cs (.int .i64) (.cs (.int .i64) .nl)))))))) (.cs (.var (.cs (.own 3) (.cs (.int .i64) (.cs (.own 4) (.cs (.int .i64) (.cs .bool (.cs (.int .i64) (.cs .nils .nl)))))))) (.cs (.row 3 true) (.cs (.row 1 true) (.cs (.row 12 true) .nl))))))
def v (l : TA) (y : (List (List Int))) : AV U := .own 6
def hh (l : TA) (y : (List (List Int))) : Hp U := [.var [.ptr 1 0, .im (.int .i64 l.2.1.2.1), .im (.int .i64 l.2.1.2.2.1), .im (.bool l.2.1.2.2.2.1), .im (.int .i64 l.2.1.2.2.2.2.1), .im (.slice 3 l.2.1.2.2.2.2.2.1), .own 5], .var [.ptr 2 0, .im (.int .i64 l.2.2.1.2.1), .im (.int .i64 l.2.2.1.2.2.1), .im (.int .i64 l.2.2.1.2.2.2.1), .im (.int .i64 l.2.2.1.2.2.2.2.1), .im (.int .i64 l.2.2.1.2.2.2.2.2.1), .im (.int .i64 l.2.2.1.2.2.2.2.2.2.1)], .var [.own 3, .im (.int .i64 l.2.2.2.1.2.1), .own 4, .im (.int .i64 l.2.2.2.1.2.2.2.1), .im (.bool l.2.2.2.1.2.2.2.2.1), .im (.int .i64 l.2.2.2.1.2.2.2.2.2.1), .im .nils], .row 3 l.2.2.2.2.1 true, .row 1 l.2.2.2.2.2.1 true, .row 12 l.2.2.2.2.2.2.1 true, .row 12 y true]
noncomputable def A : AFun U := mkA (U := U) pA pH (X := (List (List Int))) (fun (l : TA) => c l.2.1.2.1 l.2.1.2.2.1 l.2.1.2.2.2.1 l.2.1.2.2.2.2.1 l.2.1.2.2.2.2.2.1 l.2.2.1.2.1 l.2.2.1.2.2.1 l.2.2.1.2.2.2.1 l.2.2.1.2.2.2.2.1 l.2.2.1.2.2.2.2.2.1 l.2.2.1.2.2.2.2.2.2.1 l.2.2.2.1.2.1 l.2.2.2.1.2.2.2.1 l.2.2.2.1.2.2.2.2.1 l.2.2.2.1.2.2.2.2.2.1 l.2.2.2.2.1 l.2.2.2.2.2.1 l.2.2.2.2.2.2.1) sp1 v hh
noncomputable def body : Code := (Go.Func.body Try.f11).getD .skip
noncomputable def Γ : List (FuncId × AFun U) := [(32, slices_Clone__uint32uint32.A)]
noncomputable def Λ : List (Nat × LFun U) := [(5, Λ5)]
noncomputable def CT : List (Nat × LFun U) := []
def ro : List FuncId := []
def D : Nat → Lv × Lv := dtab [(5, ⟨[13, 3, 11, 12], [(3, [], .own 12)]⟩, ⟨[2, 3], []⟩)]
noncomputable def E : Env U := { E0 with Γ := Γ, Λ := Λ, C := CT, D := D, ro := ro }
theorem hf5 (R : Type) (l : T5) (s : (Int × (List (List Int)))) (K : Ex → St U → Option R) : codeA E (pick (loopsOf body) 5) ⟨p5.mkL ((((), ((), ((), ((), (l.1.2.2.2.2.1, (s.1, ((), ()))))))), (((), (l.2.1.2.1, (l.2.1.2.2.1, (l.2.1.2.2.2.1, (l.2.1.2.2.2.2.1, (l.2.1.2.2.2.2.2.1, ((), ()))))))), (((), (l.2.2.1.2.1, (l.2.2.1.2.2.1, (l.2.2.1.2.2.2.1, (l.2.2.1.2.2.2.2.1, (l.2.2.1.2.2.2.2.2.1, (l.2.2.1.2.2.2.2.2.2.1, ()))))))), (((), (l.2.2.2.1.2.1, ((), (l.2.2.2.1.2.2.2.1, (l.2.2.2.1.2.2.2.2.1, (l.2.2.2.1.2.2.2.2.2.1, ((), ()))))))), (l.2.2.2.2.1, (l.2.2.2.2.2.1, (l.2.2.2.2.2.2.1, (s.2, ())))))))) : T5).1, q5.mkH ((((), ((), ((), ((), (l.1.2.2.2.2.1, (s.1, ((), ()))))))), (((), (l.2.1.2.1, (l.2.1.2.2.1, (l.2.1.2.2.2.1, (l.2.1.2.2.2.2.1, (l.2.1.2.2.2.2.2.1, ((), ()))))))), (((), (l.2.2.1.2.1, (l.2.2.1.2.2.1, (l.2.2.1.2.2.2.1, (l.2.2.1.2.2.2.2.1, (l.2.2.1.2.2.2.2.2.1, (l.2.2.1.2.2.2.2.2.2.1, ()))))))), (((), (l.2.2.2.1.2.1, ((), (l.2.2.2.1.2.2.2.1, (l.2.2.2.1.2.2.2.2.1, (l.2.2.2.1.2.2.2.2.2.1, ((), ()))))))), (l.2.2.2.2.1, (l.2.2.2.2.2.1, (l.2.2.2.2.2.2.1, (s.2, ())))))))) : T5).2, 6⟩ (roundK E (pick (loopsOf body) 5) K) =
  (l5 l.1.2.2.2.2.1 l.2.1.2.1 l.2.1.2.2.1 l.2.1.2.2.2.1 l.2.1.2.2.2.2.1 l.2.1.2.2.2.2.2.1 l.2.2.1.2.1 l.2.2.1.2.2.1 l.2.2.1.2.2.2.1 l.2.2.1.2.2.2.2.1 l.2.2.1.2.2.2.2.2.1 l.2.2.1.2.2.2.2.2.2.1 l.2.2.2.1.2.1 l.2.2.2.1.2.2.2.1 l.2.2.2.1.2.2.2.2.1 l.2.2.2.1.2.2.2.2.2.1 l.2.2.2.2.1 l.2.2.2.2.2.1 l.2.2.2.2.2.2.1 s.1 s.2).runK (lpK K (fun s => ⟨p5.mkL ((((), ((), ((), ((), (l.1.2.2.2.2.1, (s.1, ((), ()))))))), (((), (l.2.1.2.1, (l.2.1.2.2.1, (l.2.1.2.2.2.1, (l.2.1.2.2.2.2.1, (l.2.1.2.2.2.2.2.1, ((), ()))))))), (((), (l.2.2.1.2.1, (l.2.2.1.2.2.1, (l.2.2.1.2.2.2.1, (l.2.2.1.2.2.2.2.1, (l.2.2.1.2.2.2.2.2.1, (l.2.2.1.2.2.2.2.2.2.1, ()))))))), (((), (l.2.2.2.1.2.1, ((), (l.2.2.2.1.2.2.2.1, (l.2.2.2.1.2.2.2.2.1, (l.2.2.2.1.2.2.2.2.2.1, ((), ()))))))), (l.2.2.2.2.1, (l.2.2.2.2.2.1, (l.2.2.2.2.2.2.1, (s.2, ())))))))) : T5).1, q5.mkH ((((), ((), ((), ((), (l.1.2.2.2.2.1, (s.1, ((), ()))))))), (((), (l.2.1.2.1, (l.2.1.2.2.1, (l.2.1.2.2.2.1, (l.2.1.2.2.2.2.1, (l.2.1.2.2.2.2.2.1, ((), ()))))))), (((), (l.2.2.1.2.1, (l.2.2.1.2.2.1, (l.2.2.1.2.2.2.1, (l.2.2.1.2.2.2.2.1, (l.2.2.1.2.2.2.2.2.1, (l.2.2.1.2.2.2.2.2.2.1, ()))))))), (((), (l.2.2.2.1.2.1, ((), (l.2.2.2.1.2.2.2.1, (l.2.2.2.1.2.2.2.2.1, (l.2.2.2.1.2.2.2.2.2.1, ((), ()))))))), (l.2.2.2.2.1, (l.2.2.2.2.2.1, (l.2.2.2.2.2.2.1, (s.2, ())))))))) : T5).2, 6⟩) sp1 (ou5 l)) := by kernel_rfl
theorem lk5 (R : Type) (st : St U) (K : Ex → St U → Option R) (r : R) (h : Λ5 R st K = some r) : ∃ n, loopA E (pick (loopsOf body) 5) n st K = some r :=
  lp_ok (U := U) (E := E) (b := pick (loopsOf body) 5) (m := 6) (sp := sp1) (p := p5) (q := q5) (X := (List (List Int))) (S := (Int × (List (List Int)))) (f := fun (l : T5) s => l5 l.1.2.2.2.2.1 l.2.1.2.1 l.2.1.2.2.1 l.2.1.2.2.2.1 l.2.1.2.2.2.2.1 l.2.1.2.2.2.2.2.1 l.2.2.1.2.1 l.2.2.1.2.2.1 l.2.2.1.2.2.2.1 l.2.2.1.2.2.2.2.1 l.2.2.1.2.2.2.2.2.1 l.2.2.1.2.2.2.2.2.2.1 l.2.2.2.1.2.1 l.2.2.2.1.2.2.2.1 l.2.2.2.1.2.2.2.2.1 l.2.2.2.1.2.2.2.2.2.1 l.2.2.2.2.1 l.2.2.2.2.2.1 l.2.2.2.2.2.2.1 s.1 s.2) (hd := fun (l : T5) s => (((), ((), ((), ((), (l.1.2.2.2.2.1, (s.1, ((), ()))))))), (((), (l.2.1.2.1, (l.2.1.2.2.1, (l.2.1.2.2.2.1, (l.2.1.2.2.2.2.1, (l.2.1.2.2.2.2.2.1, ((), ()))))))), (((), (l.2.2.1.2.1, (l.2.2.1.2.2.1, (l.2.2.1.2.2.2.1, (l.2.2.1.2.2.2.2.1, (l.2.2.1.2.2.2.2.2.1, (l.2.2.1.2.2.2.2.2.2.1, ()))))))), (((), (l.2.2.2.1.2.1, ((), (l.2.2.2.1.2.2.2.1, (l.2.2.2.1.2.2.2.2.1, (l.2.2.2.1.2.2.2.2.2.1, ((), ()))))))), (l.2.2.2.2.1, (l.2.2.2.2.2.1, (l.2.2.2.2.2.2.1, (s.2, ()))))))))) (s0 := fun (l : T5) => (l.1.2.2.2.2.2.1, l.2.2.2.2.2.2.2.1)) (ou := ou5)
    (fun l => rfl) (fun l x => by rfl) sp1_ok hf5 h
theorem hk (R : Type) (l : TA) (K : AV U → Hp U → Option R) : funcA E Try.f11 [] R (pA.mkL l.1) (pH.mkH l.2) K = (t l.2.1.2.1 l.2.1.2.2.1 l.2.1.2.2.2.1 l.2.1.2.2.2.2.1 l.2.1.2.2.2.2.2.1 l.2.2.1.2.1 l.2.2.1.2.2.1 l.2.2.1.2.2.2.1 l.2.2.1.2.2.2.2.1 l.2.2.1.2.2.2.2.2.1 l.2.2.1.2.2.2.2.2.2.1 l.2.2.2.1.2.1 l.2.2.2.1.2.2.2.1 l.2.2.2.1.2.2.2.2.1 l.2.2.2.1.2.2.2.2.2.1 l.2.2.2.2.1 l.2.2.2.2.2.1 l.2.2.2.2.2.2.1).runK fun y => K (v l y) (hh l y) := by kernel_rfl
theorem okF : SoundF Try.prog cc 11 (funcA E Try.f11 []) :=
  funcA_ok (E := E) P_mixed (E0_ok.with Γ Λ CT D ro) (gam_of (all_cons ⟨slices_Clone__uint32uint32.ok, ⟨Try.f32, Try.func32, by kernel_rfl, by kernel_rfl⟩⟩ all_nil) (all_cons (no_keep (by kernel_rfl)) all_nil)) Try.func11 (c := body) (by kernel_rfl)
    (just_by (by kernel_rfl) (by kernel_rfl) (all_cons lk5 all_nil) all_nil) []
theorem ok : SoundF Try.prog cc 11 A :=
  mkA_ok (E := E) (p := pA) (q := pH) (t := fun (l : TA) => t l.2.1.2.1 l.2.1.2.2.1 l.2.1.2.2.2.1 l.2.1.2.2.2.2.1 l.2.1.2.2.2.2.2.1 l.2.2.1.2.1 l.2.2.1.2.2.1 l.2.2.1.2.2.2.1 l.2.2.1.2.2.2.2.1 l.2.2.1.2.2.2.2.2.1 l.2.2.1.2.2.2.2.2.2.1 l.2.2.2.1.2.1 l.2.2.2.1.2.2.2.1 l.2.2.2.1.2.2.2.2.1 l.2.2.2.1.2.2.2.2.2.1 l.2.2.2.2.1 l.2.2.2.2.2.1 l.2.2.2.2.2.2.1) sp1_ok hk okF
theorem keep : KeepA A := mkA_keep (U := U) sp1_ok (fun (l : TA) y => ⟨(hh l y).drop 6, by kernel_rfl⟩)
end journal_Journal_Changes

/-! (*instar/journal.Journal).Whole -/
namespace journal_Journal_Whole
abbrev TA : Type := ((Unit × Unit) × ((Unit × (Int × (Int × (Bool × (Int × ((List Int) × (Unit × Unit))))))) × ((Unit × (Int × (Int × (Int × (Int × (Int × (Int × Unit))))))) × ((Unit × (Int × (Unit × (Int × (Bool × (Int × (Unit × Unit))))))) × ((List Int) × ((List Int) × ((List (List Int)) × Unit)))))))
noncomputable def t (h0_1 h0_2 : Int) (h0_3 : Bool) (h0_4 : Int) (h0_5 : (List Int)) (h1_1 h1_2 h1_3 h1_4 h1_5 h1_6 h2_1 h2_3 : Int) (h2_4 : Bool) (h2_5 : Int) (h3 : (List Int)) (h4 : (List Int)) (h5 : (List (List Int))) : Tw (List Int) :=
 (.opt (slices_Clone__uint32uint32.c h0_5) fun z1 =>
  (.ret z1))
noncomputable def c (h0_1 h0_2 : Int) (h0_3 : Bool) (h0_4 : Int) (h0_5 : (List Int)) (h1_1 h1_2 h1_3 h1_4 h1_5 h1_6 h2_1 h2_3 : Int) (h2_4 : Bool) (h2_5 : Int) (h3 : (List Int)) (h4 : (List Int)) (h5 : (List (List Int))) : Option (List Int) := (t h0_1 h0_2 h0_3 h0_4 h0_5 h1_1 h1_2 h1_3 h1_4 h1_5 h1_6 h2_1 h2_3 h2_4 h2_5 h3 h4 h5).run
def pA : Pt := (.cs (.ptr 0 0) .nl)
def pH : Pt := (.cs (.var (.cs (.ptr 1 0) (.cs (.int .i64) (.cs (.int .i64) (.cs .bool (.cs (.int .i64) (.cs (.sl 3) (.cs (.own 5) .nl)))))))) (.cs (.var (.cs (.ptr 2 0) (.cs (.int .i64) (.cs (.int .i64) (.cs (.int .i64) (.cs (.int .i64) (.cs (.int .i64) (.cs (.int .i64) .nl)))))))) (.cs (.var (.cs (.own 3) (.cs (.int .i64) (.cs (.own 4) (.cs (.int .i64) (.cs .bool (.cs (.int .i64) (.cs .nils .nl)))))))) (.cs (.row 3 true) (.cs (.row 1 true) (.cs (.row 12 true) .nl))))))
def v (l : TA) (y : (List Int)) : AV U := .own 6
def hh (l : TA) (y : (List Int)) : Hp U := [.var [.ptr 1 0, .im (.int .i64 l.2.1.2.1), .im (.int .i64 l.2.1.2.2.1), .im (.bool l.2.1.2.2.2.1), .im (.int .i64 l.2.1.2.2.2.2.1), .im (.slice 3 l.2.1.2.2.2.2.2.1), .own 5], .var [.ptr 2 0, .im (.int .i64 l.2.2.1.2.1), .im (.int .i64 l.2.2.1.2.2.1), .im (.int .i64 l.2.2.1.2.2.2.1), .im (.int .i64 l.2.2.1.2.2.2.2.1), .im (.int .i64 l.2.2.1.2.2.2.2.2.1), .im (.int .i64 l.2.2.1.2.2.2.2.2.2.1)], .var [.own 3, .im (.int .i64 l.2.2.2.1.2.1), .own 4, .im (.int .i64 l.2.2.2.1.2.2.2.1), .im (.bool l.2.2.2.1.2.2.2.2.1), .im (.int .i64 l.2.2.2.1.2.2.2.2.2.1), .im .nils], .row 3 l.2.2.2.2.1 true, .row 1 l.2.2.2.2.2.1 true, .row 12 l.2.2.2.2.2.2.1 true, .row 3 y true]
noncomputable def A : AFun U := mkA (U := U) pA pH (X := (List Int)) (fun (l : TA) => c l.2.1.2.1 l.2.1.2.2.1 l.2.1.2.2.2.1 l.2.1.2.2.2.2.1 l.2.1.2.2.2.2.2.1 l.2.2.1.2.1 l.2.2.1.2.2.1 l.2.2.1.2.2.2.1 l.2.2.1.2.2.2.2.1 l.2.2.1.2.2.2.2.2.1 l.2.2.1.2.2.2.2.2.2.1 l.2.2.2.1.2.1 l.2.2.2.1.2.2.2.1 l.2.2.2.1.2.2.2.2.1 l.2.2.2.1.2.2.2.2.2.1 l.2.2.2.2.1 l.2.2.2.2.2.1 l.2.2.2.2.2.2.1) sp1 v hh
noncomputable def body : Code := (Go.Func.body Try.f10).getD .skip
noncomputable def Γ : List (FuncId × AFun U) := [(32, slices_Clone__uint32uint32.A)]
noncomputable def Λ : List (Nat × LFun U) := []
noncomputable def CT : List (Nat × LFun U) := []
def ro : List FuncId := []
def D : Nat → Lv × Lv := dtab []
noncomputable def E : Env U := { E0 with Γ := Γ, Λ := Λ, C := CT, D := D, ro := ro }
theorem hk (R : Type) (l : TA) (K : AV U → Hp U → Option R) : funcA E Try.f10 [] R (pA.mkL l.1) (pH.mkH l.2) K = (t l.2.1.2.1 l.2.1.2.2.1 l.2.1.2.2.2.1 l.2.1.2.2.2.2.1 l.2.1.2.2.2.2.2.1 l.2.2.1.2.1 l.2.2.1.2.2.1 l.2.2.1.2.2.2.1 l.2.2.1.2.2.2.2.1 l.2.2.1.2.2.2.2.2.1 l.2.2.1.2.2.2.2.2.2.1 l.2.2.2.1.2.1 l.2.2.2.1.2.2.2.1 l.2.2.2.1.2.2.2.2.1 l.2.2.2.1.2.2.2.2.2.1 l.2.2.2.2.1 l.2.2.2.2.2.1 l.2.2.2.2.2.2.1).runK fun y => K (v l y) (hh l y) := by kernel_rfl
theorem okF : SoundF Try.prog cc 10 (funcA E Try.f10 []) :=
  funcA_ok (E := E) P_mixed (E0_ok.with Γ Λ CT D ro) (gam_of (all_cons ⟨slices_Clone__uint32uint32.ok, ⟨Try.f32, Try.func32, by kernel_rfl, by kernel_rfl⟩⟩ all_nil) (all_cons (no_keep (by kernel_rfl)) all_nil)) Try.func10 (c := body) (by kernel_rfl)
    (just_by (by kernel_rfl) (by kernel_rfl) all_nil all_nil) []
theorem ok : SoundF Try.prog cc 10 A :=
  mkA_ok (E := E) (p := pA) (q := pH) (t := fun (l : TA) => t l.2.1.2.1 l.2.1.2.2.1 l.2.1.2.2.2.1 l.2.1.2.2.2.2.1 l.2.1.2.2.2.2.2.1 l.2.2.1.2.1 l.2.2.1.2.2.1 l.2.2.1.2.2.2.1 l.2.2.1.2.2.2.2.1 l.2.2.1.2.2.2.2.2.1 l.2.2.1.2.2.2.2.2.2.1 l.2.2.2.1.2.1 l.2.2.2.1.2.2.2.1 l.2.2.2.1.2.2.2.2.1 l.2.2.2.1.2.2.2.2.2.1 l.2.2.2.2.1 l.2.2.2.2.2.1 l.2.2.2.2.2.2.1) sp1_ok hk okF
theorem keep : KeepA A := mkA_keep (U := U) sp1_ok (fun (l : TA) y => ⟨(hh l y).drop 6, by kernel_rfl⟩)
end journal_Journal_Whole

/-! (*instar/journal.Journal).Changes -/
namespace journal_Journal_Changes_v2
abbrev TA : Type := ((Unit × Unit) × ((Unit × (Int × (Int × (Bool × (Int × ((List Int) × (Unit × Unit))))))) × ((Unit × (Int × (Int × (Int × (Int × (Int × (Int × Unit))))))) × ((Unit × (Int × (Unit × (Int × (Bool × (Int × (Unit × Unit))))))) × ((List Int) × ((List Int) × Unit))))))
abbrev T5 : Type := ((Unit × (Unit × (Unit × (Unit × (Int × (Int × (Unit × Unit))))))) × ((Unit × (Int × (Int × (Bool × (Int × ((List Int) × (Unit × Unit))))))) × ((Unit × (Int × (Int × (Int × (Int × (Int × (Int × Unit))))))) × ((Unit × (Int × (Unit × (Int × (Bool × (Int × (Unit × Unit))))))) × ((List Int) × ((List Int) × Unit))))))
noncomputable def l5 (k12 k13 h0_1 h0_2 : Int) (h0_3 : Bool) (h0_4 : Int) (h0_5 : (List Int)) (h1_1 h1_2 h1_3 h1_4 h1_5 h1_6 h2_1 h2_3 : Int) (h2_4 : Bool) (h2_5 : Int) (h3 : (List Int)) (h4 : (List Int)) : Tw (Unit ⊕ Unit) :=
 (.bb (decide (k13 < k12))
  .no
  (.ret (.inr ())))
noncomputable def L5 (k12 k13 h0_1 h0_2 : Int) (h0_3 : Bool) (h0_4 : Int) (h0_5 : (List Int)) (h1_1 h1_2 h1_3 h1_4 h1_5 h1_6 h2_1 h2_3 : Int) (h2_4 : Bool) (h2_5 : Int) (h3 : (List Int)) (h4 : (List Int)) : Option Unit := Lp (fun s => (l5 k12 k13 h0_1 h0_2 h0_3 h0_4 h0_5 h1_1 h1_2 h1_3 h1_4 h1_5 h1_6 h2_1 h2_3 h2_4 h2_5 h3 h4).run) ()
def p5 : Pt := (.cs (.bots 3) (.cs .nils (.cs (.bots 7) (.cs .nils (.cs (.int .i64) (.cs (.int .i64) (.cs (.bots 10) .nl)))))))
def q5 : Pt := (.cs (.var (.cs (.ptr 1 0) (.cs (.int .i64) (.cs (.int .i64) (.cs .bool (.cs (.int .i64) (.cs (.sl 3) (.cs .nils .nl)))))))) (.cs (.var (.cs (.ptr 2 0) (.cs (.int .i64) (.cs (.int .i64) (.cs (.int .i64) (.cs (.int .i64) (.cs (.int .i64) (.cs (.int .i64) .nl)))))))) (.cs (.var (.cs (.own 3) (.cs (.int .i64) (.cs (.own 4) (.cs (.int .i64) (.cs .bool (.cs (.int .i64) (.cs .nils .nl)))))))) (.cs (.row 3 true) (.cs (.row 1 true) .nl)))))
def ou5 (l : T5) (y : Unit) : Ex × St U := (.exit 0, stOf 24 [(3, .im .nils)] [.var [.ptr 1 0, .im (.int .i64 l.2.1.2.1), .im (.int .i64 l.2.1.2.2.1), .im (.bool l.2.1.2.2.2.1), .im (.int .i64 l.2.1.2.2.2.2.1), .im (.slice 3 l.2.1.2.2.2.2.2.1), .im .nils], .var [.ptr 2 0, .im (.int .i64 l.2.2.1.2.1), .im (.int .i64 l.2.2.1.2.2.1), .im (.int .i64 l.2.2.1.2.2.2.1), .im (.int .i64 l.2.2.1.2.2.2.2.1), .im (.int .i64 l.2.2.1.2.2.2.2.2.1), .im (.int .i64 l.2.2.1.2.2.2.2.2.2.1)], .var [.own 3, .im (.int .i64 l.2.2.2.1.2.1), .own 4, .im (.int .i64 l.2.2.2.1.2.2.2.1), .im (.bool l.2.2.2.1.2.2.2.2.1), .im (.int .i64 l.2.2.2.1.2.2.2.2.2.1), .im .nils], .row 3 l.2.2.2.2.1 true, .row 1 l.2.2.2.2.2.1 true] 5)
noncomputable def Λ5 : LFun U := mkLp (U := U) p5 q5 5 (X := Unit) (fun (l : T5) => L5 l.1.2.2.2.2.1 l.1.2.2.2.2.2.1 l.2.1.2.1 l.2.1.2.2.1 l.2.1.2.2.2.1 l.2.1.2.2.2.2.1 l.2.1.2.2.2.2.2.1 l.2.2.1.2.1 l.2.2.1.2.2.1 l.2.2.1.2.2.2.1 l.2.2.1.2.2.2.2.1 l.2.2.1.2.2.2.2.2.1 l.2.2.1.2.2.2.2.2.2.1 l.2.2.2.1.2.1 l.2.2.2.1.2.2.2.1 l.2.2.2.1.2.2.2.2.1 l.2.2.2.1.2.2.2.2.2.1 l.2.2.2.2.1 l.2.2.2.2.2.1) sp1 ou5
noncomputable def t (h0_1 h0_2 : Int) (h0_3 : Bool) (h0_4 : Int) (h0_5 : (List Int)) (h1_1 h1_2 h1_3 h1_4 h1_5 h1_6 h2_1 h2_3 : Int) (h2_4 : Bool) (h2_5 : Int) (h3 : (List Int)) (h4 : (List Int)) : Tw Unit :=
 (.opt (L5 (0 : Int) (0 : Int) h0_1 h0_2 h0_3 h0_4 h0_5 h1_1 h1_2 h1_3 h1_4 h1_5 h1_6 h2_1 h2_3 h2_4 h2_5 h3 h4) fun z1 =>
  (.ret ()))
noncomputable def c (h0_1 h0_2 : Int) (h0_3 : Bool) (h0_4 : Int) (h0_5 : (List Int)) (h1_1 h1_2 h1_3 h1_4 h1_5 h1_6 h2_1 h2_3 : Int) (h2_4 : Bool) (h2_5 : Int) (h3 : (List Int)) (h4 : (List Int)) : Option Unit := (t h0_1 h0_2 h0_3 h0_4 h0_5 h1_1 h1_2 h1_3 h1_4 h1_5 h1_6 h2_1 h2_3 h2_4 h2_5 h3 h4).run
def pA : Pt := (.cs (.ptr 0 0) .nl)
def pH : Pt := (.cs (.var (.cs (.ptr 1 0) (.cs (.int .i64) (.cs (.int .i64) (.cs .bool (.cs (.int .i64) (.cs (.sl 3) (.cs .nils .nl)))))))) (.cs (.var (.cs (.ptr 2 0) (.cs (.int .i64) (.cs (.int .i64) (.cs (.int .i64) (.cs (.int .i64) (.cs (.int .i64) (.cs (.int .i64) .nl)))))))) (.cs (.var (.cs (.own 3) (.cs (.int .i64) (.cs (.own 4) (.cs (.int .i64) (.cs .bool (.cs (.int .i64) (.cs .nils .nl)))))))) (.cs (.row 3 true) (.cs (.row 1 true) .nl)))))
def v (l : TA) (y : Unit) : AV U := .im .nils
def hh (l : TA) (y : Unit) : Hp U := [.var [.ptr 1 0, .im (.int .i64 l.2.1.2.1), .im (.int .i64 l.2.1.2.2.1), .im (.bool l.2.1.2.2.2.1), .im (.int .i64 l.2.1.2.2.2.2.1), .im (.slice 3 l.2.1.2.2.2.2.2.1), .im .nils], .var [.ptr 2 0, .im (.int .i64 l.2.2.1.2.1), .im (.int .i64 l.2.2.1.2.2.1), .im (.int .i64 l.2.2.1.2.2.2.1), .im (.int .i64 l.2.2.1.2.2.2.2.1), .im (.int .i64 l.2.2.1.2.2.2.2.2.1), .im (.int .i64 l.2.2.1.2.2.2.2.2.2.1)], .var [.own 3, .im (.int .i64 l.2.2.2.1.2.1), .own 4, .im (.int .i64 l.2.2.2.1.2.2.2.1), .im (.bool l.2.2.2.1.2.2.2.2.1), .im (.int .i64 l.2.2.2.1.2.2.2.2.2.1), .im .nils], .row 3 l.2.2.2.2.1 true, .row 1 l.2.2.2.2.2.1 true]
noncomputable def A : AFun U := mkA (U := U) pA pH (X := Unit) (fun (l : TA) => c l.2.1.2.1 l.2.1.2.2.1 l.2.1.2.2.2.1 l.2.1.2.2.2.2.1 l.2.1.2.2.2.2.2.1 l.2.2.1.2.1 l.2.2.1.2.2.1 l.2.2.1.2.2.2.1 l.2.2.1.2.2.2.2.1 l.2.2.1.2.2.2.2.2.1 l.2.2.1.2.2.2.2.2.2.1 l.2.2.2.1.2.1 l.2.2.2.1.2.2.2.1 l.2.2.2.1.2.2.2.2.1 l.2.2.2.1.2.2.2.2.2.1 l.2.2.2.2.1 l.2.2.2.2.2.1) sp1 v hh
noncomputable def body : Code := (Go.Func.body Try.f11).getD .skip
noncomputable def Γ : List (FuncId × AFun U) := []
noncomputable def Λ : List (Nat × LFun U) := [(5, Λ5)]
noncomputable def CT : List (Nat × LFun U) := []
def ro : List FuncId := []
def D : Nat → Lv × Lv := dtab [(5, ⟨[13, 3, 11, 12], []⟩, ⟨[2, 3], []⟩)]
noncomputable def E : Env U := { E0 with Γ := Γ, Λ := Λ, C := CT, D := D, ro := ro }
theorem hf5 (R : Type) (l : T5) (s : Unit) (K : Ex → St U → Option R) : codeA E (pick (loopsOf body) 5) ⟨p5.mkL ((((), ((), ((), ((), (l.1.2.2.2.2.1, (l.1.2.2.2.2.2.1, ((), ()))))))), (((), (l.2.1.2.1, (l.2.1.2.2.1, (l.2.1.2.2.2.1, (l.2.1.2.2.2.2.1, (l.2.1.2.2.2.2.2.1, ((), ()))))))), (((), (l.2.2.1.2.1, (l.2.2.1.2.2.1, (l.2.2.1.2.2.2.1, (l.2.2.1.2.2.2.2.1, (l.2.2.1.2.2.2.2.2.1, (l.2.2.1.2.2.2.2.2.2.1, ()))))))), (((), (l.2.2.2.1.2.1, ((), (l.2.2.2.1.2.2.2.1, (l.2.2.2.1.2.2.2.2.1, (l.2.2.2.1.2.2.2.2.2.1, ((), ()))))))), (l.2.2.2.2.1, (l.2.2.2.2.2.1, ())))))) : T5).1, q5.mkH ((((), ((), ((), ((), (l.1.2.2.2.2.1, (l.1.2.2.2.2.2.1, ((), ()))))))), (((), (l.2.1.2.1, (l.2.1.2.2.1, (l.2.1.2.2.2.1, (l.2.1.2.2.2.2.1, (l.2.1.2.2.2.2.2.1, ((), ()))))))), (((), (l.2.2.1.2.1, (l.2.2.1.2.2.1, (l.2.2.1.2.2.2.1, (l.2.2.1.2.2.2.2.1, (l.2.2.1.2.2.2.2.2.1, (l.2.2.1.2.2.2.2.2.2.1, ()))))))), (((), (l.2.2.2.1.2.1, ((), (l.2.2.2.1.2.2.2.1, (l.2.2.2.1.2.2.2.2.1, (l.2.2.2.1.2.2.2.2.2.1, ((), ()))))))), (l.2.2.2.2.1, (l.2.2.2.2.2.1, ())))))) : T5).2, 5⟩ (roundK E (pick (loopsOf body) 5) K) =
  (l5 l.1.2.2.2.2.1 l.1.2.2.2.2.2.1 l.2.1.2.1 l.2.1.2.2.1 l.2.1.2.2.2.1 l.2.1.2.2.2.2.1 l.2.1.2.2.2.2.2.1 l.2.2.1.2.1 l.2.2.1.2.2.1 l.2.2.1.2.2.2.1 l.2.2.1.2.2.2.2.1 l.2.2.1.2.2.2.2.2.1 l.2.2.1.2.2.2.2.2.2.1 l.2.2.2.1.2.1 l.2.2.2.1.2.2.2.1 l.2.2.2.1.2.2.2.2.1 l.2.2.2.1.2.2.2.2.2.1 l.2.2.2.2.1 l.2.2.2.2.2.1).runK (lpK K (fun s => ⟨p5.mkL ((((), ((), ((), ((), (l.1.2.2.2.2.1, (l.1.2.2.2.2.2.1, ((), ()))))))), (((), (l.2.1.2.1, (l.2.1.2.2.1, (l.2.1.2.2.2.1, (l.2.1.2.2.2.2.1, (l.2.1.2.2.2.2.2.1, ((), ()))))))), (((), (l.2.2.1.2.1, (l.2.2.1.2.2.1, (l.2.2.1.2.2.2.1, (l.2.2.1.2.2.2.2.1, (l.2.2.1.2.2.2.2.2.1, (l.2.2.1.2.2.2.2.2.2.1, ()))))))), (((), (l.2.2.2.1.2.1, ((), (l.2.2.2.1.2.2.2.1, (l.2.2.2.1.2.2.2.2.1, (l.2.2.2.1.2.2.2.2.2.1, ((), ()))))))), (l.2.2.2.2.1, (l.2.2.2.2.2.1, ())))))) : T5).1, q5.mkH ((((), ((), ((), ((), (l.1.2.2.2.2.1, (l.1.2.2.2.2.2.1, ((), ()))))))), (((), (l.2.1.2.1, (l.2.1.2.2.1, (l.2.1.2.2.2.1, (l.2.1.2.2.2.2.1, (l.2.1.2.2.2.2.2.1, ((), ()))))))), (((), (l.2.2.1.2.1, (l.2.2.1.2.2.1, (l.2.2.1.2.2.2.1, (l.2.2.1.2.2.2.2.1, (l.2.2.1.2.2.2.2.2.1, (l.2.2.1.2.2.2.2.2.2.1, ()))))))), (((), (l.2.2.2.1.2.1, ((), (l.2.2.2.1.2.2.2.1, (l.2.2.2.1.2.2.2.2.1, (l.2.2.2.1.2.2.2.2.2.1, ((), ()))))))), (l.2.2.2.2.1, (l.2.2.2.2.2.1, ())))))) : T5).2, 5⟩) sp1 (ou5 l)) := by kernel_rfl
theorem lk5 (R : Type) (st : St U) (K : Ex → St U → Option R) (r : R) (h : Λ5 R st K = some r) : ∃ n, loopA E (pick (loopsOf body) 5) n st K = some r :=
  lp_ok (U := U) (E := E) (b := pick (loopsOf body) 5) (m := 5) (sp := sp1) (p := p5) (q := q5) (X := Unit) (S := Unit) (f := fun (l : T5) s => l5 l.1.2.2.2.2.1 l.1.2.2.2.2.2.1 l.2.1.2.1 l.2.1.2.2.1 l.2.1.2.2.2.1 l.2.1.2.2.2.2.1 l.2.1.2.2.2.2.2.1 l.2.2.1.2.1 l.2.2.1.2.2.1 l.2.2.1.2.2.2.1 l.2.2.1.2.2.2.2.1 l.2.2.1.2.2.2.2.2.1 l.2.2.1.2.2.2.2.2.2.1 l.2.2.2.1.2.1 l.2.2.2.1.2.2.2.1 l.2.2.2.1.2.2.2.2.1 l.2.2.2.1.2.2.2.2.2.1 l.2.2.2.2.1 l.2.2.2.2.2.1) (hd := fun (l : T5) s => (((), ((), ((), ((), (l.1.2.2.2.2.1, (l.1.2.2.2.2.2.1, ((), ()))))))), (((), (l.2.1.2.1, (l.2.1.2.2.1, (l.2.1.2.2.2.1, (l.2.1.2.2.2.2.1, (l.2.1.2.2.2.2.2.1, ((), ()))))))), (((), (l.2.2.1.2.1, (l.2.2.1.2.2.1, (l.2.2.1.2.2.2.1, (l.2.2.1.2.2.2.2.1, (l.2.2.1.2.2.2.2.2.1, (l.2.2.1.2.2.2.2.2.2.1, ()))))))), (((), (l.2.2.2.1.2.1, ((), (l.2.2.2.1.2.2.2.1, (l.2.2.2.1.2.2.2.2.1, (l.2.2.2.1.2.2.2.2.2.1, ((), ()))))))), (l.2.2.2.2.1, (l.2.2.2.2.2.1, ()))))))) (s0 := fun (l : T5) => ()) (ou := ou5)
    (fun l => rfl) (fun l x => by rfl) sp1_ok hf5 h
theorem hk (R : Type) (l : TA) (K : AV U → Hp U → Option R) : funcA E Try.f11 [] R (pA.mkL l.1) (pH.mkH l.2) K = (t l.2.1.2.1 l.2.1.2.2.1 l.2.1.2.2.2.1 l.2.1.2.2.2.2.1 l.2.1.2.2.2.2.2.1 l.2.2.1.2.1 l.2.2.1.2.2.1 l.2.2.1.2.2.2.1 l.2.2.1.2.2.2.2.1 l.2.2.1.2.2.2.2.2.1 l.2.2.1.2.2.2.2.2.2.1 l.2.2.2.1.2.1 l.2.2.2.1.2.2.2.1 l.2.2.2.1.2.2.2.2.1 l.2.2.2.1.2.2.2.2.2.1 l.2.2.2.2.1 l.2.2.2.2.2.1).runK fun y => K (v l y) (hh l y) := by kernel_rfl
theorem okF : SoundF Try.prog cc 11 (funcA E Try.f11 []) :=
  funcA_ok (E := E) P_mixed (E0_ok.with Γ Λ CT D ro) (gam_of all_nil all_nil) Try.func11 (c := body) (by kernel_rfl)
    (just_by (by kernel_rfl) (by kernel_rfl) (all_cons lk5 all_nil) all_nil) []
theorem ok : SoundF Try.prog cc 11 A :=
  mkA_ok (E := E) (p := pA) (q := pH) (t := fun (l : TA) => t l.2.1.2.1 l.2.1.2.2.1 l.2.1.2.2.2.1 l.2.1.2.2.2.2.1 l.2.1.2.2.2.2.2.1 l.2.2.1.2.1 l.2.2.1.2.2.1 l.2.2.1.2.2.2.1 l.2.2.1.2.2.2.2.1 l.2.2.1.2.2.2.2.2.1 l.2.2.1.2.2.2.2.2.2.1 l.2.2.2.1.2.1 l.2.2.2.1.2.2.2.1 l.2.2.2.1.2.2.2.2.1 l.2.2.2.1.2.2.2.2.2.1 l.2.2.2.2.1 l.2.2.2.2.2.1) sp1_ok hk okF
theorem keep : KeepA A := mkA_keep (U := U) sp1_ok (fun (l : TA) y => ⟨(hh l y).drop 5, by kernel_rfl⟩)
end journal_Journal_Changes_v2

/-! (*instar/journal.Journal).Seq -/
namespace journal_Journal_Seq_v2
abbrev TA : Type := ((Unit × Unit) × ((Unit × (Int × (Int × (Bool × (Int × ((List Int) × (Unit × Unit))))))) × ((Unit × (Int × (Int × (Int × (Int × (Int × (Int × Unit))))))) × ((Unit × (Int × (Unit × (Int × (Bool × (Int × (Unit × Unit))))))) × ((List Int) × ((List Int) × Unit))))))
noncomputable def t (h0_1 h0_2 : Int) (h0_3 : Bool) (h0_4 : Int) (h0_5 : (List Int)) (h1_1 h1_2 h1_3 h1_4 h1_5 h1_6 h2_1 h2_3 : Int) (h2_4 : Bool) (h2_5 : Int) (h3 : (List Int)) (h4 : (List Int)) : Tw Unit :=
 (.ret ())
noncomputable def c (h0_1 h0_2 : Int) (h0_3 : Bool) (h0_4 : Int) (h0_5 : (List Int)) (h1_1 h1_2 h1_3 h1_4 h1_5 h1_6 h2_1 h2_3 : Int) (h2_4 : Bool) (h2_5 : Int) (h3 : (List Int)) (h4 : (List Int)) : Option Unit := (t h0_1 h0_2 h0_3 h0_4 h0_5 h1_1 h1_2 h1_3 h1_4 h1_5 h1_6 h2_1 h2_3 h2_4 h2_5 h3 h4).run
def pA : Pt := (.cs (.ptr 0 0) .nl)
def pH : Pt := (.cs (.var (.cs (.ptr 1 0) (.cs (.int .i64) (.cs (.int .i64) (.cs .bool (.cs (.int .i64) (.cs (.sl 3) (.cs .nils .nl)))))))) (.cs (.var (.cs (.ptr 2 0) (.cs (.int .i64) (.cs (.int .i64) (.cs (.int .i64) (.cs (.int .i64) (.cs (.int .i64) (.cs (.int .i64) .nl)))))))) (.cs (.var (.cs (.own 3) (.cs (.int .i64) (.cs (.own 4) (.cs (.int .i64) (.cs .bool (.cs (.int .i64) (.cs .nils .nl)))))))) (.cs (.row 3 true) (.cs (.row 1 true) .nl)))))
def v (l : TA) (y : Unit) : AV U := .im (.int .i64 l.2.1.2.2.2.2.1)
def hh (l : TA) (y : Unit) : Hp U := [.var [.ptr 1 0, .im (.int .i64 l.2.1.2.1), .im (.int .i64 l.2.1.2.2.1), .im (.bool l.2.1.2.2.2.1), .im (.int .i64 l.2.1.2.2.2.2.1), .im (.slice 3 l.2.1.2.2.2.2.2.1), .im .nils], .var [.ptr 2 0, .im (.int .i64 l.2.2.1.2.1), .im (.int .i64 l.2.2.1.2.2.1), .im (.int .i64 l.2.2.1.2.2.2.1), .im (.int .i64 l.2.2.1.2.2.2.2.1), .im (.int .i64 l.2.2.1.2.2.2.2.2.1), .im (.int .i64 l.2.2.1.2.2.2.2.2.2.1)], .var [.own 3, .im (.int .i64 l.2.2.2.1.2.1), .own 4, .im (.int .i64 l.2.2.2.1.2.2.2.1), .im (.bool l.2.2.2.1.2.2.2.2.1), .im (.int .i64 l.2.2.2.1.2.2.2.2.2.1), .im .nils], .row 3 l.2.2.2.2.1 true, .row 1 l.2.2.2.2.2.1 true]
noncomputable def A : AFun U := mkA (U := U) pA pH (X := Unit) (fun (l : TA) => c l.2.1.2.1 l.2.1.2.2.1 l.2.1.2.2.2.1 l.2.1.2.2.2.2.1 l.2.1.2.2.2.2.2.1 l.2.2.1.2.1 l.2.2.1.2.2.1 l.2.2.1.2.2.2.1 l.2.2.1.2.2.2.2.1 l.2.2.1.2.2.2.2.2.1 l.2.2.1.2.2.2.2.2.2.1 l.2.2.2.1.2.1 l.2.2.2.1.2.2.2.1 l.2.2.2.1.2.2.2.2.1 l.2.2.2.1.2.2.2.2.2.1 l.2.2.2.2.1 l.2.2.2.2.2.1) sp1 v hh
noncomputable def body : Code := (Go.Func.body Try.f9).getD .skip
noncomputable def Γ : List (FuncId × AFun U) := []
noncomputable def Λ : List (Nat × LFun U) := []
noncomputable def CT : List (Nat × LFun U) := []
def ro : List FuncId := []
def D : Nat → Lv × Lv := dtab []
noncomputable def E : Env U := { E0 with Γ := Γ, Λ := Λ, C := CT, D := D, ro := ro }
theorem hk (R : Type) (l : TA) (K : AV U → Hp U → Option R) : funcA E Try.f9 [] R (pA.mkL l.1) (pH.mkH l.2) K = (t l.2.1.2.1 l.2.1.2.2.1 l.2.1.2.2.2.1 l.2.1.2.2.2.2.1 l.2.1.2.2.2.2.2.1 l.2.2.1.2.1 l.2.2.1.2.2.1 l.2.2.1.2.2.2.1 l.2.2.1.2.2.2.2.1 l.2.2.1.2.2.2.2.2.1 l.2.2.1.2.2.2.2.2.2.1 l.2.2.2.1.2.1 l.2.2.2.1.2.2.2.1 l.2.2.2.1.2.2.2.2.1 l.2.2.2.1.2.2.2.2.2.1 l.2.2.2.2.1 l.2.2.2.2.2.1).runK fun y => K (v l y) (hh l y) := by kernel_rfl
theorem okF : SoundF Try.prog cc 9 (funcA E Try.f9 []) :=
  funcA_ok (E := E) P_mixed (E0_ok.with Γ Λ CT D ro) (gam_of all_nil all_nil) Try.func9 (c := body) (by kernel_rfl)
    (just_by (by kernel_rfl) (by kernel_rfl) all_nil all_nil) []
theorem ok : SoundF Try.prog cc 9 A :=
  mkA_ok (E := E) (p := pA) (q := pH) (t := fun (l : TA) => t l.2.1.2.1 l.2.1.2.2.1 l.2.1.2.2.2.1 l.2.1.2.2.2.2.1 l.2.1.2.2.2.2.2.1 l.2.2.1.2.1 l.2.2.1.2.2.1 l.2.2.1.2.2.2.1 l.2.2.1.2.2.2.2.1 l.2.2.1.2.2.2.2.2.1 l.2.2.1.2.2.2.2.2.2.1 l.2.2.2.1.2.1 l.2.2.2.1.2.2.2.1 l.2.2.2.1.2.2.2.2.1 l.2.2.2.1.2.2.2.2.2.1 l.2.2.2.2.1 l.2.2.2.2.2.1) sp1_ok hk okF
theorem keep : KeepA A := mkA_keep (U := U) sp1_ok (fun (l : TA) y => ⟨(hh l y).drop 5, by kernel_rfl⟩)
end journal_Journal_Seq_v2

/-! (*instar/journal.Journal).Whole -/
namespace journal_Journal_Whole_v2
abbrev TA : Type := ((Unit × Unit) × ((Unit × (Int × (Int × (Bool × (Int × ((List Int) × (Unit × Unit))))))) × ((Unit × (Int × (Int × (Int × (Int × (Int × (Int × Unit))))))) × ((Unit × (Int × (Unit × (Int × (Bool × (Int × (Unit × Unit))))))) × ((List Int) × ((List Int) × Unit))))))
noncomputable def t (h0_1 h0_2 : Int) (h0_3 : Bool) (h0_4 : Int) (h0_5 : (List Int)) (h1_1 h1_2 h1_3 h1_4 h1_5 h1_6 h2_1 h2_3 : Int) (h2_4 : Bool) (h2_5 : Int) (h3 : (List Int)) (h4 : (List Int)) : Tw (List Int) :=
 (.opt (slices_Clone__uint32uint32.c h0_5) fun z1 =>
  (.ret z1))
noncomputable def c (h0_1 h0_2 : Int) (h0_3 : Bool) (h0_4 : Int) (h0_5 : (List Int)) (h1_1 h1_2 h1_3 h1_4 h1_5 h1_6 h2_1 h2_3 : Int) (h2_4 : Bool) (h2_5 : Int) (h3 : (List Int)) (h4 : (List Int)) : Option (List Int) := (t h0_1 h0_2 h0_3 h0_4 h0_5 h1_1 h1_2 h1_3 h1_4 h1_5 h1_6 h2_1 h2_3 h2_4 h2_5 h3 h4).run
def pA : Pt := (.cs (.ptr 0 0) .nl)
def pH : Pt := (.cs (.var (.cs (.ptr 1 0) (.cs (.int .i64) (.cs (.int .i64) (.cs .bool (.cs (.int .i64) (.cs (.sl 3) (.cs .nils .nl)))))))) (.cs (.var (.cs (.ptr 2 0) (.cs (.int .i64) (.cs (.int .i64) (.cs (.int .i64) (.cs (.int .i64) (.cs (.int .i64) (.cs (.int .i64) .nl)))))))) (.cs (.var (.cs (.own 3) (.cs (.int .i64) (.cs (.own 4) (.cs (.int .i64) (.cs .bool (.cs (.int .i64) (.cs .nils .nl)))))))) (.cs (.row 3 true) (.cs (.row 1 true) .nl)))))
def v (l : TA) (y : (List Int)) : AV U := .own 5
def hh (l : TA) (y : (List Int)) : Hp U := [.var [.ptr 1 0, .im (.int .i64 l.2.1.2.1), .im (.int .i64 l.2.1.2.2.1), .im (.bool l.2.1.2.2.2.1), .im (.int .i64 l.2.1.2.2.2.2.1), .im (.slice 3 l.2.1.2.2.2.2.2.1), .im .nils], .var [.ptr 2 0, .im (.int .i64 l.2.2.1.2.1), .im (.int .i64 l.2.2.1.2.2.1), .im (.int .i64 l.2.2.1.2.2.2.1), .im (.int .i64 l.2.2.1.2.2.2.2.1), .im (.int .i64 l.2.2.1.2.2.2.2.2.1), .im (.int .i64 l.2.2.1.2.2.2.2.2.2.1)], .var [.own 3, .im (.int .i64 l.2.2.2.1.2.1), .own 4, .im (.int .i64 l.2.2.2.1.2.2.2.1), .im (.bool l.2.2.2.1.2.2.2.2.1), .im (.int .i64 l.2.2.2.1.2.2.2.2.2.1), .im .nils], .row 3 l.2.2.2.2.1 true, .row 1 l.2.2.2.2.2.1 true, .row 3 y true]
noncomputable def A : AFun U := mkA (U := U) pA pH (X := (List Int)) (fun (l : TA) => c l.2.1.2.1 l.2.1.2.2.1 l.2.1.2.2.2.1 l.2.1.2.2.2.2.1 l.2.1.2.2.2.2.2.1 l.2.2.1.2.1 l.2.2.1.2.2.1 l.2.2.1.2.2.2.1 l.2.2.1.2.2.2.2.1 l.2.2.1.2.2.2.2.2.1 l.2.2.1.2.2.2.2.2.2.1 l.2.2.2.1.2.1 l.2.2.2.1.2.2.2.1 l.2.2.2.1.2.2.2.2.1 l.2.2.2.1.2.2.2.2.2.1 l.2.2.2.2.1 l.2.2.2.2.2.1) sp1 v hh
noncomputable def body : Code := (Go.Func.body Try.f10).getD .skip
noncomputable def Γ : List (FuncId × AFun U) := [(32, slices_Clone__uint32uint32.A)]
noncomputable def Λ : List (Nat × LFun U) := []
noncomputable def CT : List (Nat × LFun U) := []
def ro : List FuncId := []
def D : Nat → Lv × Lv := dtab []
noncomputable def E : Env U := { E0 with Γ := Γ, Λ := Λ, C := CT, D := D, ro := ro }
theorem hk (R : Type) (l : TA) (K : AV U → Hp U → Option R) : funcA E Try.f10 [] R (pA.mkL l.1) (pH.mkH l.2) K = (t l.2.1.2.1 l.2.1.2.2.1 l.2.1.2.2.2.1 l.2.1.2.2.2.2.1 l.2.1.2.2.2.2.2.1 l.2.2.1.2.1 l.2.2.1.2.2.1 l.2.2.1.2.2.2.1 l.2.2.1.2.2.2.2.1 l.2.2.1.2.2.2.2.2.1 l.2.2.1.2.2.2.2.2.2.1 l.2.2.2.1.2.1 l.2.2.2.1.2.2.2.1 l.2.2.2.1.2.2.2.2.1 l.2.2.2.1.2.2.2.2.2.1 l.2.2.2.2.1 l.2.2.2.2.2.1).runK fun y => K (v l y) (hh l y) := by kernel_rfl
theorem okF : SoundF Try.prog cc 10 (funcA E Try.f10 []) :=
  funcA_ok (E := E) P_mixed (E0_ok.with Γ Λ CT D ro) (gam_of (all_cons ⟨slices_Clone__uint32uint32.ok, ⟨Try.f32, Try.func32, by kernel_rfl, by kernel_rfl⟩⟩ all_nil) (all_cons (no_keep (by kernel_rfl)) all_nil)) Try.func10 (c := body) (by kernel_rfl)
    (just_by (by kernel_rfl) (by kernel_rfl) all_nil all_nil) []
theorem ok : SoundF Try.prog cc 10 A :=
  mkA_ok (E := E) (p := pA) (q := pH) (t := fun (l : TA) => t l.2.1.2.1 l.2.1.2.2.1 l.2.1.2.2.2.1 l.2.1.2.2.2.2.1 l.2.1.2.2.2.2.2.1 l.2.2.1.2.1 l.2.2.1.2.2.1 l.2.2.1.2.2.2.1 l.2.2.1.2.2.2.2.1 l.2.2.1.2.2.2.2.2.1 l.2.2.1.2.2.2.2.2.2.1 l.2.2.2.1.2.1 l.2.2.2.1.2.2.2.1 l.2.2.2.1.2.2.2.2.1 l.2.2.2.1.2.2.2.2.2.1 l.2.2.2.2.1 l.2.2.2.2.2.1) sp1_ok hk okF
theorem keep : KeepA A := mkA_keep (U := U) sp1_ok (fun (l : TA) y => ⟨(hh l y).drop 5, by kernel_rfl⟩)
end journal_Journal_Whole_v2

end Go.Proofs.Ytkoidgjgdhpdnaa.Va
