/- The functions of package book, as plain functions, and that the program computes them. Printed by a program of this work out of the evaluator. -/
import Derived.Test.YtcnomgpbkimmeaaEn
import Derived.Tactics
import Derived.Test.YtcnomgpbkimmeaaFslices
namespace Go.Proofs.Ytcnomgpbkimmeaa.Va
open Go
set_option linter.unusedVariables false
set_option maxRecDepth 100000

/-! instar/book.in -/
namespace book_in
abbrev TA : Type := ((Int × (Int × (Int × Unit))) × Unit)
noncomputable def t (n lo hi : Int) : Tw Bool :=
 (.bb (decide (n ≥ lo))
  (.ret (decide (n ≤ hi)))
  (.ret false))
noncomputable def c (n lo hi : Int) : Option Bool := (t n lo hi).run
def pA : Pt := (.cs (.int .i64) (.cs (.int .i64) (.cs (.int .i64) .nl)))
def pH : Pt := .nl
def v (l : TA) (y : Bool) : AV U := .im (.bool y)
def hh (l : TA) (y : Bool) : Hp U := []
noncomputable def A : AFun U := mkA (U := U) pA pH (X := Bool) (fun (l : TA) => c l.1.1 l.1.2.1 l.1.2.2.1) sp1 v hh
noncomputable def body : Code := (Go.Func.body Try.f107).getD .skip
noncomputable def Γ : List (FuncId × AFun U) := []
noncomputable def Λ : List (Nat × LFun U) := []
noncomputable def CT : List (Nat × LFun U) := []
def ro : List FuncId := []
def D : Nat → Lv × Lv := dtab []
noncomputable def E : Env U := { E0 with Γ := Γ, Λ := Λ, C := CT, D := D, ro := ro }
theorem hk (R : Type) (l : TA) (K : AV U → Hp U → Option R) : funcA E Try.f107 [] R (pA.mkL l.1) (pH.mkH l.2) K = (t l.1.1 l.1.2.1 l.1.2.2.1).runK fun y => K (v l y) (hh l y) := by kernel_rfl
theorem okF : SoundF Try.prog cc 107 (funcA E Try.f107 []) :=
  funcA_ok (E := E) P_mixed (E0_ok.with Γ Λ CT D ro) (gam_of all_nil all_nil) Try.func107 (c := body) (by kernel_rfl)
    (just_by (by kernel_rfl) (by kernel_rfl) all_nil all_nil) []
theorem ok : SoundF Try.prog cc 107 A :=
  mkA_ok (E := E) (p := pA) (q := pH) (t := fun (l : TA) => t l.1.1 l.1.2.1 l.1.2.2.1) sp1_ok hk okF
theorem keep : KeepA A := mkA_keep (U := U) sp1_ok (fun (l : TA) y => ⟨(hh l y).drop 0, by kernel_rfl⟩)
end book_in

/-! instar/book.there -/
namespace book_there
abbrev TA : Type := (((Int × (Int × (Int × (Int × (Int × (Int × (Int × (Int × (Int × (Int × (Int × Unit))))))))))) × Unit) × Unit)
noncomputable def t (c__0 c__1 c__2 c__3 c__4 c__5 c__6 c__7 c__8 c__9 c__10 : Int) : Tw Bool :=
 (.opt (book_in.c c__0 (1 : Int) (65535 : Int)) fun z1 =>
  (.bb z1
   (.opt (book_in.c c__1 (1 : Int) (65535 : Int)) fun z2 =>
    (.bb z2
     (.opt (book_in.c c__2 (1 : Int) (131072 : Int)) fun z3 =>
      (.ret z3))
     (.ret false)))
   (.ret false)))
noncomputable def c (c__0 c__1 c__2 c__3 c__4 c__5 c__6 c__7 c__8 c__9 c__10 : Int) : Option Bool := (t c__0 c__1 c__2 c__3 c__4 c__5 c__6 c__7 c__8 c__9 c__10).run
def pA : Pt := (.cs (.agg (.cs (.int .i64) (.cs (.int .i64) (.cs (.int .i64) (.cs (.int .u32) (.cs (.int .u32) (.cs (.int .u32) (.cs (.int .u32) (.cs (.int .u32) (.cs (.int .u32) (.cs (.int .u32) (.cs (.int .u32) .nl)))))))))))) .nl)
def pH : Pt := .nl
def v (l : TA) (y : Bool) : AV U := .im (.bool y)
def hh (l : TA) (y : Bool) : Hp U := []
noncomputable def A : AFun U := mkA (U := U) pA pH (X := Bool) (fun (l : TA) => c l.1.1.1 l.1.1.2.1 l.1.1.2.2.1 l.1.1.2.2.2.1 l.1.1.2.2.2.2.1 l.1.1.2.2.2.2.2.1 l.1.1.2.2.2.2.2.2.1 l.1.1.2.2.2.2.2.2.2.1 l.1.1.2.2.2.2.2.2.2.2.1 l.1.1.2.2.2.2.2.2.2.2.2.1 l.1.1.2.2.2.2.2.2.2.2.2.2.1) sp1 v hh
noncomputable def body : Code := (Go.Func.body Try.f108).getD .skip
noncomputable def Γ : List (FuncId × AFun U) := [(107, book_in.A)]
noncomputable def Λ : List (Nat × LFun U) := []
noncomputable def CT : List (Nat × LFun U) := []
def ro : List FuncId := []
def D : Nat → Lv × Lv := dtab []
noncomputable def E : Env U := { E0 with Γ := Γ, Λ := Λ, C := CT, D := D, ro := ro }
theorem hk (R : Type) (l : TA) (K : AV U → Hp U → Option R) : funcA E Try.f108 [] R (pA.mkL l.1) (pH.mkH l.2) K = (t l.1.1.1 l.1.1.2.1 l.1.1.2.2.1 l.1.1.2.2.2.1 l.1.1.2.2.2.2.1 l.1.1.2.2.2.2.2.1 l.1.1.2.2.2.2.2.2.1 l.1.1.2.2.2.2.2.2.2.1 l.1.1.2.2.2.2.2.2.2.2.1 l.1.1.2.2.2.2.2.2.2.2.2.1 l.1.1.2.2.2.2.2.2.2.2.2.2.1).runK fun y => K (v l y) (hh l y) := by kernel_rfl
theorem okF : SoundF Try.prog cc 108 (funcA E Try.f108 []) :=
  funcA_ok (E := E) P_mixed (E0_ok.with Γ Λ CT D ro) (gam_of (all_cons ⟨book_in.ok, ⟨Try.f107, Try.func107, by kernel_rfl, by kernel_rfl⟩⟩ all_nil) (all_cons (no_keep (by kernel_rfl)) all_nil)) Try.func108 (c := body) (by kernel_rfl)
    (just_by (by kernel_rfl) (by kernel_rfl) all_nil all_nil) []
theorem ok : SoundF Try.prog cc 108 A :=
  mkA_ok (E := E) (p := pA) (q := pH) (t := fun (l : TA) => t l.1.1.1 l.1.1.2.1 l.1.1.2.2.1 l.1.1.2.2.2.1 l.1.1.2.2.2.2.1 l.1.1.2.2.2.2.2.1 l.1.1.2.2.2.2.2.2.1 l.1.1.2.2.2.2.2.2.2.1 l.1.1.2.2.2.2.2.2.2.2.1 l.1.1.2.2.2.2.2.2.2.2.2.1 l.1.1.2.2.2.2.2.2.2.2.2.2.1) sp1_ok hk okF
theorem keep : KeepA A := mkA_keep (U := U) sp1_ok (fun (l : TA) y => ⟨(hh l y).drop 0, by kernel_rfl⟩)
end book_there

/-! instar/book.both -/
namespace book_both
abbrev TA : Type := (((Int × (Int × (Int × (Bool × (Int × (Int × (Int × (Int × (Int × (Int × (Int × (Int × (Int × (Int × (Int × (Int × (Int × (Int × (Int × (Int × (Int × (Int × (Int × (Int × (Int × (Int × (Int × (Int × (Int × (Int × (Int × Unit))))))))))))))))))))))))))))))) × Unit) × Unit)
noncomputable def t (s__0 s__1 s__2 : Int) (s__3 : Bool) (s__4 s__5 s__6 s__7 s__8 s__9 s__10 s__11 s__12 s__13 s__14 s__15 s__16 s__17 s__18 s__19 s__20 s__21 s__22 s__23 s__24 s__25 s__26 s__27 s__28 s__29 s__30 : Int) : Tw Bool :=
 (.opt (book_in.c s__29 (0 : Int) (127 : Int)) fun z1 =>
  (.bb z1
   (.opt (book_in.c s__30 (1 : Int) (1073741823 : Int)) fun z2 =>
    (.bb z2
     (.ret (s__29 != s__27))
     (.ret false)))
   (.ret false)))
noncomputable def c (s__0 s__1 s__2 : Int) (s__3 : Bool) (s__4 s__5 s__6 s__7 s__8 s__9 s__10 s__11 s__12 s__13 s__14 s__15 s__16 s__17 s__18 s__19 s__20 s__21 s__22 s__23 s__24 s__25 s__26 s__27 s__28 s__29 s__30 : Int) : Option Bool := (t s__0 s__1 s__2 s__3 s__4 s__5 s__6 s__7 s__8 s__9 s__10 s__11 s__12 s__13 s__14 s__15 s__16 s__17 s__18 s__19 s__20 s__21 s__22 s__23 s__24 s__25 s__26 s__27 s__28 s__29 s__30).run
def pA : Pt := (.cs (.agg (.cs (.int .i64) (.cs (.int .i64) (.cs (.int .i64) (.cs .bool (.cs (.int .i64) (.cs (.int .i64) (.cs (.int .i64) (.cs (.int .i64) (.cs (.int .u32) (.cs (.int .u32) (.cs (.int .u32) (.cs (.int .u32) (.cs (.int .u32) (.cs (.int .u32) (.cs (.int .u32) (.cs (.int .u32) (.cs (.int .i64) (.cs (.int .i64) (.cs (.int .i64) (.cs (.int .u32) (.cs (.int .u32) (.cs (.int .u32) (.cs (.int .u32) (.cs (.int .u32) (.cs (.int .u32) (.cs (.int .u32) (.cs (.int .u32) (.cs (.int .i64) (.cs (.int .i64) (.cs (.int .i64) (.cs (.int .i64) .nl)))))))))))))))))))))))))))))))) .nl)
def pH : Pt := .nl
def v (l : TA) (y : Bool) : AV U := .im (.bool y)
def hh (l : TA) (y : Bool) : Hp U := []
noncomputable def A : AFun U := mkA (U := U) pA pH (X := Bool) (fun (l : TA) => c l.1.1.1 l.1.1.2.1 l.1.1.2.2.1 l.1.1.2.2.2.1 l.1.1.2.2.2.2.1 l.1.1.2.2.2.2.2.1 l.1.1.2.2.2.2.2.2.1 l.1.1.2.2.2.2.2.2.2.1 l.1.1.2.2.2.2.2.2.2.2.1 l.1.1.2.2.2.2.2.2.2.2.2.1 l.1.1.2.2.2.2.2.2.2.2.2.2.1 l.1.1.2.2.2.2.2.2.2.2.2.2.2.1 l.1.1.2.2.2.2.2.2.2.2.2.2.2.2.1 l.1.1.2.2.2.2.2.2.2.2.2.2.2.2.2.1 l.1.1.2.2.2.2.2.2.2.2.2.2.2.2.2.2.1 l.1.1.2.2.2.2.2.2.2.2.2.2.2.2.2.2.2.1 l.1.1.2.2.2.2.2.2.2.2.2.2.2.2.2.2.2.2.1 l.1.1.2.2.2.2.2.2.2.2.2.2.2.2.2.2.2.2.2.1 l.1.1.2.2.2.2.2.2.2.2.2.2.2.2.2.2.2.2.2.2.1 l.1.1.2.2.2.2.2.2.2.2.2.2.2.2.2.2.2.2.2.2.2.1 l.1.1.2.2.2.2.2.2.2.2.2.2.2.2.2.2.2.2.2.2.2.2.1 l.1.1.2.2.2.2.2.2.2.2.2.2.2.2.2.2.2.2.2.2.2.2.2.1 l.1.1.2.2.2.2.2.2.2.2.2.2.2.2.2.2.2.2.2.2.2.2.2.2.1 l.1.1.2.2.2.2.2.2.2.2.2.2.2.2.2.2.2.2.2.2.2.2.2.2.2.1 l.1.1.2.2.2.2.2.2.2.2.2.2.2.2.2.2.2.2.2.2.2.2.2.2.2.2.1 l.1.1.2.2.2.2.2.2.2.2.2.2.2.2.2.2.2.2.2.2.2.2.2.2.2.2.2.1 l.1.1.2.2.2.2.2.2.2.2.2.2.2.2.2.2.2.2.2.2.2.2.2.2.2.2.2.2.1 l.1.1.2.2.2.2.2.2.2.2.2.2.2.2.2.2.2.2.2.2.2.2.2.2.2.2.2.2.2.1 l.1.1.2.2.2.2.2.2.2.2.2.2.2.2.2.2.2.2.2.2.2.2.2.2.2.2.2.2.2.2.1 l.1.1.2.2.2.2.2.2.2.2.2.2.2.2.2.2.2.2.2.2.2.2.2.2.2.2.2.2.2.2.2.1 l.1.1.2.2.2.2.2.2.2.2.2.2.2.2.2.2.2.2.2.2.2.2.2.2.2.2.2.2.2.2.2.2.1) sp1 v hh
noncomputable def body : Code := (Go.Func.body Try.f111).getD .skip
noncomputable def Γ : List (FuncId × AFun U) := [(107, book_in.A)]
noncomputable def Λ : List (Nat × LFun U) := []
noncomputable def CT : List (Nat × LFun U) := []
def ro : List FuncId := []
def D : Nat → Lv × Lv := dtab []
noncomputable def E : Env U := { E0 with Γ := Γ, Λ := Λ, C := CT, D := D, ro := ro }
theorem hk (R : Type) (l : TA) (K : AV U → Hp U → Option R) : funcA E Try.f111 [] R (pA.mkL l.1) (pH.mkH l.2) K = (t l.1.1.1 l.1.1.2.1 l.1.1.2.2.1 l.1.1.2.2.2.1 l.1.1.2.2.2.2.1 l.1.1.2.2.2.2.2.1 l.1.1.2.2.2.2.2.2.1 l.1.1.2.2.2.2.2.2.2.1 l.1.1.2.2.2.2.2.2.2.2.1 l.1.1.2.2.2.2.2.2.2.2.2.1 l.1.1.2.2.2.2.2.2.2.2.2.2.1 l.1.1.2.2.2.2.2.2.2.2.2.2.2.1 l.1.1.2.2.2.2.2.2.2.2.2.2.2.2.1 l.1.1.2.2.2.2.2.2.2.2.2.2.2.2.2.1 l.1.1.2.2.2.2.2.2.2.2.2.2.2.2.2.2.1 l.1.1.2.2.2.2.2.2.2.2.2.2.2.2.2.2.2.1 l.1.1.2.2.2.2.2.2.2.2.2.2.2.2.2.2.2.2.1 l.1.1.2.2.2.2.2.2.2.2.2.2.2.2.2.2.2.2.2.1 l.1.1.2.2.2.2.2.2.2.2.2.2.2.2.2.2.2.2.2.2.1 l.1.1.2.2.2.2.2.2.2.2.2.2.2.2.2.2.2.2.2.2.2.1 l.1.1.2.2.2.2.2.2.2.2.2.2.2.2.2.2.2.2.2.2.2.2.1 l.1.1.2.2.2.2.2.2.2.2.2.2.2.2.2.2.2.2.2.2.2.2.2.1 l.1.1.2.2.2.2.2.2.2.2.2.2.2.2.2.2.2.2.2.2.2.2.2.2.1 l.1.1.2.2.2.2.2.2.2.2.2.2.2.2.2.2.2.2.2.2.2.2.2.2.2.1 l.1.1.2.2.2.2.2.2.2.2.2.2.2.2.2.2.2.2.2.2.2.2.2.2.2.2.1 l.1.1.2.2.2.2.2.2.2.2.2.2.2.2.2.2.2.2.2.2.2.2.2.2.2.2.2.1 l.1.1.2.2.2.2.2.2.2.2.2.2.2.2.2.2.2.2.2.2.2.2.2.2.2.2.2.2.1 l.1.1.2.2.2.2.2.2.2.2.2.2.2.2.2.2.2.2.2.2.2.2.2.2.2.2.2.2.2.1 l.1.1.2.2.2.2.2.2.2.2.2.2.2.2.2.2.2.2.2.2.2.2.2.2.2.2.2.2.2.2.1 l.1.1.2.2.2.2.2.2.2.2.2.2.2.2.2.2.2.2.2.2.2.2.2.2.2.2.2.2.2.2.2.1 l.1.1.2.2.2.2.2.2.2.2.2.2.2.2.2.2.2.2.2.2.2.2.2.2.2.2.2.2.2.2.2.2.1).runK fun y => K (v l y) (hh l y) := by kernel_rfl
theorem okF : SoundF Try.prog cc 111 (funcA E Try.f111 []) :=
  funcA_ok (E := E) P_mixed (E0_ok.with Γ Λ CT D ro) (gam_of (all_cons ⟨book_in.ok, ⟨Try.f107, Try.func107, by kernel_rfl, by kernel_rfl⟩⟩ all_nil) (all_cons (no_keep (by kernel_rfl)) all_nil)) Try.func111 (c := body) (by kernel_rfl)
    (just_by (by kernel_rfl) (by kernel_rfl) all_nil all_nil) []
theorem ok : SoundF Try.prog cc 111 A :=
  mkA_ok (E := E) (p := pA) (q := pH) (t := fun (l : TA) => t l.1.1.1 l.1.1.2.1 l.1.1.2.2.1 l.1.1.2.2.2.1 l.1.1.2.2.2.2.1 l.1.1.2.2.2.2.2.1 l.1.1.2.2.2.2.2.2.1 l.1.1.2.2.2.2.2.2.2.1 l.1.1.2.2.2.2.2.2.2.2.1 l.1.1.2.2.2.2.2.2.2.2.2.1 l.1.1.2.2.2.2.2.2.2.2.2.2.1 l.1.1.2.2.2.2.2.2.2.2.2.2.2.1 l.1.1.2.2.2.2.2.2.2.2.2.2.2.2.1 l.1.1.2.2.2.2.2.2.2.2.2.2.2.2.2.1 l.1.1.2.2.2.2.2.2.2.2.2.2.2.2.2.2.1 l.1.1.2.2.2.2.2.2.2.2.2.2.2.2.2.2.2.1 l.1.1.2.2.2.2.2.2.2.2.2.2.2.2.2.2.2.2.1 l.1.1.2.2.2.2.2.2.2.2.2.2.2.2.2.2.2.2.2.1 l.1.1.2.2.2.2.2.2.2.2.2.2.2.2.2.2.2.2.2.2.1 l.1.1.2.2.2.2.2.2.2.2.2.2.2.2.2.2.2.2.2.2.2.1 l.1.1.2.2.2.2.2.2.2.2.2.2.2.2.2.2.2.2.2.2.2.2.1 l.1.1.2.2.2.2.2.2.2.2.2.2.2.2.2.2.2.2.2.2.2.2.2.1 l.1.1.2.2.2.2.2.2.2.2.2.2.2.2.2.2.2.2.2.2.2.2.2.2.1 l.1.1.2.2.2.2.2.2.2.2.2.2.2.2.2.2.2.2.2.2.2.2.2.2.2.1 l.1.1.2.2.2.2.2.2.2.2.2.2.2.2.2.2.2.2.2.2.2.2.2.2.2.2.1 l.1.1.2.2.2.2.2.2.2.2.2.2.2.2.2.2.2.2.2.2.2.2.2.2.2.2.2.1 l.1.1.2.2.2.2.2.2.2.2.2.2.2.2.2.2.2.2.2.2.2.2.2.2.2.2.2.2.1 l.1.1.2.2.2.2.2.2.2.2.2.2.2.2.2.2.2.2.2.2.2.2.2.2.2.2.2.2.2.1 l.1.1.2.2.2.2.2.2.2.2.2.2.2.2.2.2.2.2.2.2.2.2.2.2.2.2.2.2.2.2.1 l.1.1.2.2.2.2.2.2.2.2.2.2.2.2.2.2.2.2.2.2.2.2.2.2.2.2.2.2.2.2.2.1 l.1.1.2.2.2.2.2.2.2.2.2.2.2.2.2.2.2.2.2.2.2.2.2.2.2.2.2.2.2.2.2.2.1) sp1_ok hk okF
theorem keep : KeepA A := mkA_keep (U := U) sp1_ok (fun (l : TA) y => ⟨(hh l y).drop 0, by kernel_rfl⟩)
end book_both

/-! instar/book.none -/
namespace book_none
abbrev TA : Type := (((Int × (Int × (Int × (Int × (Int × (Int × (Int × (Int × (Int × (Int × (Int × Unit))))))))))) × Unit) × Unit)
noncomputable def t (c__0 c__1 c__2 c__3 c__4 c__5 c__6 c__7 c__8 c__9 c__10 : Int) : Tw Bool :=
 (.ret ((c__0 == (0 : Int)) && ((c__1 == (0 : Int)) && ((c__2 == (0 : Int)) && ((c__3 == (0 : Int)) && ((c__4 == (0 : Int)) && ((c__5 == (0 : Int)) && ((c__6 == (0 : Int)) && ((c__7 == (0 : Int)) && ((c__8 == (0 : Int)) && ((c__9 == (0 : Int)) && ((c__10 == (0 : Int)) && true))))))))))))
noncomputable def c (c__0 c__1 c__2 c__3 c__4 c__5 c__6 c__7 c__8 c__9 c__10 : Int) : Option Bool := (t c__0 c__1 c__2 c__3 c__4 c__5 c__6 c__7 c__8 c__9 c__10).run
def pA : Pt := (.cs (.agg (.cs (.int .i64) (.cs (.int .i64) (.cs (.int .i64) (.cs (.int .u32) (.cs (.int .u32) (.cs (.int .u32) (.cs (.int .u32) (.cs (.int .u32) (.cs (.int .u32) (.cs (.int .u32) (.cs (.int .u32) .nl)))))))))))) .nl)
def pH : Pt := .nl
def v (l : TA) (y : Bool) : AV U := .im (.bool y)
def hh (l : TA) (y : Bool) : Hp U := []
noncomputable def A : AFun U := mkA (U := U) pA pH (X := Bool) (fun (l : TA) => c l.1.1.1 l.1.1.2.1 l.1.1.2.2.1 l.1.1.2.2.2.1 l.1.1.2.2.2.2.1 l.1.1.2.2.2.2.2.1 l.1.1.2.2.2.2.2.2.1 l.1.1.2.2.2.2.2.2.2.1 l.1.1.2.2.2.2.2.2.2.2.1 l.1.1.2.2.2.2.2.2.2.2.2.1 l.1.1.2.2.2.2.2.2.2.2.2.2.1) sp1 v hh
noncomputable def body : Code := (Go.Func.body Try.f110).getD .skip
noncomputable def Γ : List (FuncId × AFun U) := []
noncomputable def Λ : List (Nat × LFun U) := []
noncomputable def CT : List (Nat × LFun U) := []
def ro : List FuncId := []
def D : Nat → Lv × Lv := dtab []
noncomputable def E : Env U := { E0 with Γ := Γ, Λ := Λ, C := CT, D := D, ro := ro }
theorem hk (R : Type) (l : TA) (K : AV U → Hp U → Option R) : funcA E Try.f110 [] R (pA.mkL l.1) (pH.mkH l.2) K = (t l.1.1.1 l.1.1.2.1 l.1.1.2.2.1 l.1.1.2.2.2.1 l.1.1.2.2.2.2.1 l.1.1.2.2.2.2.2.1 l.1.1.2.2.2.2.2.2.1 l.1.1.2.2.2.2.2.2.2.1 l.1.1.2.2.2.2.2.2.2.2.1 l.1.1.2.2.2.2.2.2.2.2.2.1 l.1.1.2.2.2.2.2.2.2.2.2.2.1).runK fun y => K (v l y) (hh l y) := by kernel_rfl
theorem okF : SoundF Try.prog cc 110 (funcA E Try.f110 []) :=
  funcA_ok (E := E) P_mixed (E0_ok.with Γ Λ CT D ro) (gam_of all_nil all_nil) Try.func110 (c := body) (by kernel_rfl)
    (just_by (by kernel_rfl) (by kernel_rfl) all_nil all_nil) []
theorem ok : SoundF Try.prog cc 110 A :=
  mkA_ok (E := E) (p := pA) (q := pH) (t := fun (l : TA) => t l.1.1.1 l.1.1.2.1 l.1.1.2.2.1 l.1.1.2.2.2.1 l.1.1.2.2.2.2.1 l.1.1.2.2.2.2.2.1 l.1.1.2.2.2.2.2.2.1 l.1.1.2.2.2.2.2.2.2.1 l.1.1.2.2.2.2.2.2.2.2.1 l.1.1.2.2.2.2.2.2.2.2.2.1 l.1.1.2.2.2.2.2.2.2.2.2.2.1) sp1_ok hk okF
theorem keep : KeepA A := mkA_keep (U := U) sp1_ok (fun (l : TA) y => ⟨(hh l y).drop 0, by kernel_rfl⟩)
end book_none

/-! instar/book.lone -/
namespace book_lone
abbrev TA : Type := (((Int × (Int × (Int × (Bool × (Int × (Int × (Int × (Int × (Int × (Int × (Int × (Int × (Int × (Int × (Int × (Int × (Int × (Int × (Int × (Int × (Int × (Int × (Int × (Int × (Int × (Int × (Int × (Int × (Int × (Int × (Int × Unit))))))))))))))))))))))))))))))) × Unit) × Unit)
noncomputable def t (s__0 s__1 s__2 : Int) (s__3 : Bool) (s__4 s__5 s__6 s__7 s__8 s__9 s__10 s__11 s__12 s__13 s__14 s__15 s__16 s__17 s__18 s__19 s__20 s__21 s__22 s__23 s__24 s__25 s__26 s__27 s__28 s__29 s__30 : Int) : Tw Bool :=
 (.bb (s__29 == (-(1 : Int)))
  (.ret (s__30 == (0 : Int)))
  (.ret false))
noncomputable def c (s__0 s__1 s__2 : Int) (s__3 : Bool) (s__4 s__5 s__6 s__7 s__8 s__9 s__10 s__11 s__12 s__13 s__14 s__15 s__16 s__17 s__18 s__19 s__20 s__21 s__22 s__23 s__24 s__25 s__26 s__27 s__28 s__29 s__30 : Int) : Option Bool := (t s__0 s__1 s__2 s__3 s__4 s__5 s__6 s__7 s__8 s__9 s__10 s__11 s__12 s__13 s__14 s__15 s__16 s__17 s__18 s__19 s__20 s__21 s__22 s__23 s__24 s__25 s__26 s__27 s__28 s__29 s__30).run
def pA : Pt := (.cs (.agg (.cs (.int .i64) (.cs (.int .i64) (.cs (.int .i64) (.cs .bool (.cs (.int .i64) (.cs (.int .i64) (.cs (.int .i64) (.cs (.int .i64) (.cs (.int .u32) (.cs (.int .u32) (.cs (.int .u32) (.cs (.int .u32) (.cs (.int .u32) (.cs (.int .u32) (.cs (.int .u32) (.cs (.int .u32) (.cs (.int .i64) (.cs (.int .i64) (.cs (.int .i64) (.cs (.int .u32) (.cs (.int .u32) (.cs (.int .u32) (.cs (.int .u32) (.cs (.int .u32) (.cs (.int .u32) (.cs (.int .u32) (.cs (.int .u32) (.cs (.int .i64) (.cs (.int .i64) (.cs (.int .i64) (.cs (.int .i64) .nl)))))))))))))))))))))))))))))))) .nl)
def pH : Pt := .nl
def v (l : TA) (y : Bool) : AV U := .im (.bool y)
def hh (l : TA) (y : Bool) : Hp U := []
noncomputable def A : AFun U := mkA (U := U) pA pH (X := Bool) (fun (l : TA) => c l.1.1.1 l.1.1.2.1 l.1.1.2.2.1 l.1.1.2.2.2.1 l.1.1.2.2.2.2.1 l.1.1.2.2.2.2.2.1 l.1.1.2.2.2.2.2.2.1 l.1.1.2.2.2.2.2.2.2.1 l.1.1.2.2.2.2.2.2.2.2.1 l.1.1.2.2.2.2.2.2.2.2.2.1 l.1.1.2.2.2.2.2.2.2.2.2.2.1 l.1.1.2.2.2.2.2.2.2.2.2.2.2.1 l.1.1.2.2.2.2.2.2.2.2.2.2.2.2.1 l.1.1.2.2.2.2.2.2.2.2.2.2.2.2.2.1 l.1.1.2.2.2.2.2.2.2.2.2.2.2.2.2.2.1 l.1.1.2.2.2.2.2.2.2.2.2.2.2.2.2.2.2.1 l.1.1.2.2.2.2.2.2.2.2.2.2.2.2.2.2.2.2.1 l.1.1.2.2.2.2.2.2.2.2.2.2.2.2.2.2.2.2.2.1 l.1.1.2.2.2.2.2.2.2.2.2.2.2.2.2.2.2.2.2.2.1 l.1.1.2.2.2.2.2.2.2.2.2.2.2.2.2.2.2.2.2.2.2.1 l.1.1.2.2.2.2.2.2.2.2.2.2.2.2.2.2.2.2.2.2.2.2.1 l.1.1.2.2.2.2.2.2.2.2.2.2.2.2.2.2.2.2.2.2.2.2.2.1 l.1.1.2.2.2.2.2.2.2.2.2.2.2.2.2.2.2.2.2.2.2.2.2.2.1 l.1.1.2.2.2.2.2.2.2.2.2.2.2.2.2.2.2.2.2.2.2.2.2.2.2.1 l.1.1.2.2.2.2.2.2.2.2.2.2.2.2.2.2.2.2.2.2.2.2.2.2.2.2.1 l.1.1.2.2.2.2.2.2.2.2.2.2.2.2.2.2.2.2.2.2.2.2.2.2.2.2.2.1 l.1.1.2.2.2.2.2.2.2.2.2.2.2.2.2.2.2.2.2.2.2.2.2.2.2.2.2.2.1 l.1.1.2.2.2.2.2.2.2.2.2.2.2.2.2.2.2.2.2.2.2.2.2.2.2.2.2.2.2.1 l.1.1.2.2.2.2.2.2.2.2.2.2.2.2.2.2.2.2.2.2.2.2.2.2.2.2.2.2.2.2.1 l.1.1.2.2.2.2.2.2.2.2.2.2.2.2.2.2.2.2.2.2.2.2.2.2.2.2.2.2.2.2.2.1 l.1.1.2.2.2.2.2.2.2.2.2.2.2.2.2.2.2.2.2.2.2.2.2.2.2.2.2.2.2.2.2.2.1) sp1 v hh
noncomputable def body : Code := (Go.Func.body Try.f109).getD .skip
noncomputable def Γ : List (FuncId × AFun U) := []
noncomputable def Λ : List (Nat × LFun U) := []
noncomputable def CT : List (Nat × LFun U) := []
def ro : List FuncId := []
def D : Nat → Lv × Lv := dtab []
noncomputable def E : Env U := { E0 with Γ := Γ, Λ := Λ, C := CT, D := D, ro := ro }
theorem hk (R : Type) (l : TA) (K : AV U → Hp U → Option R) : funcA E Try.f109 [] R (pA.mkL l.1) (pH.mkH l.2) K = (t l.1.1.1 l.1.1.2.1 l.1.1.2.2.1 l.1.1.2.2.2.1 l.1.1.2.2.2.2.1 l.1.1.2.2.2.2.2.1 l.1.1.2.2.2.2.2.2.1 l.1.1.2.2.2.2.2.2.2.1 l.1.1.2.2.2.2.2.2.2.2.1 l.1.1.2.2.2.2.2.2.2.2.2.1 l.1.1.2.2.2.2.2.2.2.2.2.2.1 l.1.1.2.2.2.2.2.2.2.2.2.2.2.1 l.1.1.2.2.2.2.2.2.2.2.2.2.2.2.1 l.1.1.2.2.2.2.2.2.2.2.2.2.2.2.2.1 l.1.1.2.2.2.2.2.2.2.2.2.2.2.2.2.2.1 l.1.1.2.2.2.2.2.2.2.2.2.2.2.2.2.2.2.1 l.1.1.2.2.2.2.2.2.2.2.2.2.2.2.2.2.2.2.1 l.1.1.2.2.2.2.2.2.2.2.2.2.2.2.2.2.2.2.2.1 l.1.1.2.2.2.2.2.2.2.2.2.2.2.2.2.2.2.2.2.2.1 l.1.1.2.2.2.2.2.2.2.2.2.2.2.2.2.2.2.2.2.2.2.1 l.1.1.2.2.2.2.2.2.2.2.2.2.2.2.2.2.2.2.2.2.2.2.1 l.1.1.2.2.2.2.2.2.2.2.2.2.2.2.2.2.2.2.2.2.2.2.2.1 l.1.1.2.2.2.2.2.2.2.2.2.2.2.2.2.2.2.2.2.2.2.2.2.2.1 l.1.1.2.2.2.2.2.2.2.2.2.2.2.2.2.2.2.2.2.2.2.2.2.2.2.1 l.1.1.2.2.2.2.2.2.2.2.2.2.2.2.2.2.2.2.2.2.2.2.2.2.2.2.1 l.1.1.2.2.2.2.2.2.2.2.2.2.2.2.2.2.2.2.2.2.2.2.2.2.2.2.2.1 l.1.1.2.2.2.2.2.2.2.2.2.2.2.2.2.2.2.2.2.2.2.2.2.2.2.2.2.2.1 l.1.1.2.2.2.2.2.2.2.2.2.2.2.2.2.2.2.2.2.2.2.2.2.2.2.2.2.2.2.1 l.1.1.2.2.2.2.2.2.2.2.2.2.2.2.2.2.2.2.2.2.2.2.2.2.2.2.2.2.2.2.1 l.1.1.2.2.2.2.2.2.2.2.2.2.2.2.2.2.2.2.2.2.2.2.2.2.2.2.2.2.2.2.2.1 l.1.1.2.2.2.2.2.2.2.2.2.2.2.2.2.2.2.2.2.2.2.2.2.2.2.2.2.2.2.2.2.2.1).runK fun y => K (v l y) (hh l y) := by kernel_rfl
theorem okF : SoundF Try.prog cc 109 (funcA E Try.f109 []) :=
  funcA_ok (E := E) P_mixed (E0_ok.with Γ Λ CT D ro) (gam_of all_nil all_nil) Try.func109 (c := body) (by kernel_rfl)
    (just_by (by kernel_rfl) (by kernel_rfl) all_nil all_nil) []
theorem ok : SoundF Try.prog cc 109 A :=
  mkA_ok (E := E) (p := pA) (q := pH) (t := fun (l : TA) => t l.1.1.1 l.1.1.2.1 l.1.1.2.2.1 l.1.1.2.2.2.1 l.1.1.2.2.2.2.1 l.1.1.2.2.2.2.2.1 l.1.1.2.2.2.2.2.2.1 l.1.1.2.2.2.2.2.2.2.1 l.1.1.2.2.2.2.2.2.2.2.1 l.1.1.2.2.2.2.2.2.2.2.2.1 l.1.1.2.2.2.2.2.2.2.2.2.2.1 l.1.1.2.2.2.2.2.2.2.2.2.2.2.1 l.1.1.2.2.2.2.2.2.2.2.2.2.2.2.1 l.1.1.2.2.2.2.2.2.2.2.2.2.2.2.2.1 l.1.1.2.2.2.2.2.2.2.2.2.2.2.2.2.2.1 l.1.1.2.2.2.2.2.2.2.2.2.2.2.2.2.2.2.1 l.1.1.2.2.2.2.2.2.2.2.2.2.2.2.2.2.2.2.1 l.1.1.2.2.2.2.2.2.2.2.2.2.2.2.2.2.2.2.2.1 l.1.1.2.2.2.2.2.2.2.2.2.2.2.2.2.2.2.2.2.2.1 l.1.1.2.2.2.2.2.2.2.2.2.2.2.2.2.2.2.2.2.2.2.1 l.1.1.2.2.2.2.2.2.2.2.2.2.2.2.2.2.2.2.2.2.2.2.1 l.1.1.2.2.2.2.2.2.2.2.2.2.2.2.2.2.2.2.2.2.2.2.2.1 l.1.1.2.2.2.2.2.2.2.2.2.2.2.2.2.2.2.2.2.2.2.2.2.2.1 l.1.1.2.2.2.2.2.2.2.2.2.2.2.2.2.2.2.2.2.2.2.2.2.2.2.1 l.1.1.2.2.2.2.2.2.2.2.2.2.2.2.2.2.2.2.2.2.2.2.2.2.2.2.1 l.1.1.2.2.2.2.2.2.2.2.2.2.2.2.2.2.2.2.2.2.2.2.2.2.2.2.2.1 l.1.1.2.2.2.2.2.2.2.2.2.2.2.2.2.2.2.2.2.2.2.2.2.2.2.2.2.2.1 l.1.1.2.2.2.2.2.2.2.2.2.2.2.2.2.2.2.2.2.2.2.2.2.2.2.2.2.2.2.1 l.1.1.2.2.2.2.2.2.2.2.2.2.2.2.2.2.2.2.2.2.2.2.2.2.2.2.2.2.2.2.1 l.1.1.2.2.2.2.2.2.2.2.2.2.2.2.2.2.2.2.2.2.2.2.2.2.2.2.2.2.2.2.2.1 l.1.1.2.2.2.2.2.2.2.2.2.2.2.2.2.2.2.2.2.2.2.2.2.2.2.2.2.2.2.2.2.2.1) sp1_ok hk okF
theorem keep : KeepA A := mkA_keep (U := U) sp1_ok (fun (l : TA) y => ⟨(hh l y).drop 0, by kernel_rfl⟩)
end book_lone

/-! instar/book.Right -/
namespace book_Right
abbrev TA : Type := (((Int × (Int × (Int × (Bool × (Int × (Int × (Int × (Int × (Int × (Int × (Int × (Int × (Int × (Int × (Int × (Int × (Int × (Int × (Int × (Int × (Int × (Int × (Int × (Int × (Int × (Int × (Int × (Int × (Int × (Int × (Int × Unit))))))))))))))))))))))))))))))) × Unit) × Unit)
abbrev TC3 : Type := ((Unit × (Unit × (Unit × Unit))) × ((Int × (Int × (Int × (Bool × (Int × (Int × (Int × (Int × (Int × (Int × (Int × (Int × (Int × (Int × (Int × (Int × (Int × (Int × (Int × (Int × (Int × (Int × (Int × (Int × (Int × (Int × (Int × (Int × (Int × (Int × (Int × Unit))))))))))))))))))))))))))))))) × Unit))
noncomputable def c3 (h0_0 h0_1 h0_2 : Int) (h0_3 : Bool) (h0_4 h0_5 h0_6 h0_7 h0_8 h0_9 h0_10 h0_11 h0_12 h0_13 h0_14 h0_15 h0_16 h0_17 h0_18 h0_19 h0_20 h0_21 h0_22 h0_23 h0_24 h0_25 h0_26 h0_27 h0_28 h0_29 h0_30 : Int) : Tw Bool :=
 (.dd (((w64 ((1 : Int) - h0_1)) = (((1 : Nat) : Nat) : Int))) inferInstance
  (.bb (h0_2 == (0 : Int))
   (.bb (h0_0 == (0 : Int))
    (.bb (h0_4 == (0 : Int))
     (.opt (book_lone.c h0_0 h0_1 h0_2 h0_3 h0_4 h0_5 h0_6 h0_7 h0_8 h0_9 h0_10 h0_11 h0_12 h0_13 h0_14 h0_15 h0_16 h0_17 h0_18 h0_19 h0_20 h0_21 h0_22 h0_23 h0_24 h0_25 h0_26 h0_27 h0_28 h0_29 h0_30) fun z41 =>
      (.bb z41
       (.bb h0_3
        (.opt (book_there.c h0_16 h0_17 h0_18 h0_19 h0_20 h0_21 h0_22 h0_23 h0_24 h0_25 h0_26) fun z43 =>
         (.bb z43
          (.ret true)
          (.bb (!h0_3)
           (.opt (book_none.c h0_16 h0_17 h0_18 h0_19 h0_20 h0_21 h0_22 h0_23 h0_24 h0_25 h0_26) fun z44 =>
            (.ret z44))
           (.ret false))))
        (.bb (!h0_3)
         (.opt (book_none.c h0_16 h0_17 h0_18 h0_19 h0_20 h0_21 h0_22 h0_23 h0_24 h0_25 h0_26) fun z42 =>
          (.ret z42))
         (.ret false)))
       (.ret false)))
     (.ret false))
    (.bb (h0_0 == (1 : Int))
     (.bb (h0_2 == (0 : Int))
      (.bb (!h0_3)
       (.opt (book_in.c h0_4 (1 : Int) (131072 : Int)) fun z38 =>
        (.bb z38
         (.opt (book_none.c h0_16 h0_17 h0_18 h0_19 h0_20 h0_21 h0_22 h0_23 h0_24 h0_25 h0_26) fun z39 =>
          (.bb z39
           (.opt (book_lone.c h0_0 h0_1 h0_2 h0_3 h0_4 h0_5 h0_6 h0_7 h0_8 h0_9 h0_10 h0_11 h0_12 h0_13 h0_14 h0_15 h0_16 h0_17 h0_18 h0_19 h0_20 h0_21 h0_22 h0_23 h0_24 h0_25 h0_26 h0_27 h0_28 h0_29 h0_30) fun z40 =>
            (.ret z40))
           (.ret false)))
         (.ret false)))
       (.ret false))
      (.ret false))
     (.bb (h0_0 == (2 : Int))
      (.bb (h0_4 == (0 : Int))
       (.bb (!h0_3)
        (.opt (book_there.c h0_16 h0_17 h0_18 h0_19 h0_20 h0_21 h0_22 h0_23 h0_24 h0_25 h0_26) fun z36 =>
         (.bb z36
          (.opt (book_lone.c h0_0 h0_1 h0_2 h0_3 h0_4 h0_5 h0_6 h0_7 h0_8 h0_9 h0_10 h0_11 h0_12 h0_13 h0_14 h0_15 h0_16 h0_17 h0_18 h0_19 h0_20 h0_21 h0_22 h0_23 h0_24 h0_25 h0_26 h0_27 h0_28 h0_29 h0_30) fun z37 =>
           (.ret z37))
          (.ret false)))
        (.ret false))
       (.ret false))
      (.bb (h0_0 == (3 : Int))
       (.bb (h0_4 == (0 : Int))
        (.bb (!h0_3)
         (.opt (book_there.c h0_16 h0_17 h0_18 h0_19 h0_20 h0_21 h0_22 h0_23 h0_24 h0_25 h0_26) fun z34 =>
          (.bb z34
           (.opt (book_both.c h0_0 h0_1 h0_2 h0_3 h0_4 h0_5 h0_6 h0_7 h0_8 h0_9 h0_10 h0_11 h0_12 h0_13 h0_14 h0_15 h0_16 h0_17 h0_18 h0_19 h0_20 h0_21 h0_22 h0_23 h0_24 h0_25 h0_26 h0_27 h0_28 h0_29 h0_30) fun z35 =>
            (.ret z35))
           (.ret false)))
         (.ret false))
        (.ret false))
       (.bb (h0_0 == (4 : Int))
        (.opt (book_in.c h0_2 (0 : Int) (9 : Int)) fun z31 =>
         (.bb z31
          (.bb (!h0_3)
           (.bb (h0_4 == (0 : Int))
            (.opt (book_there.c h0_16 h0_17 h0_18 h0_19 h0_20 h0_21 h0_22 h0_23 h0_24 h0_25 h0_26) fun z32 =>
             (.bb z32
              (.opt (book_both.c h0_0 h0_1 h0_2 h0_3 h0_4 h0_5 h0_6 h0_7 h0_8 h0_9 h0_10 h0_11 h0_12 h0_13 h0_14 h0_15 h0_16 h0_17 h0_18 h0_19 h0_20 h0_21 h0_22 h0_23 h0_24 h0_25 h0_26 h0_27 h0_28 h0_29 h0_30) fun z33 =>
               (.ret z33))
              (.ret false)))
            (.ret false))
           (.ret false))
          (.ret false)))
        (.ret false))))))
   (.bb (h0_0 == (0 : Int))
    (.ret false)
    (.bb (h0_0 == (1 : Int))
     (.bb (h0_2 == (0 : Int))
      (.bb (!h0_3)
       (.opt (book_in.c h0_4 (1 : Int) (131072 : Int)) fun z28 =>
        (.bb z28
         (.opt (book_none.c h0_16 h0_17 h0_18 h0_19 h0_20 h0_21 h0_22 h0_23 h0_24 h0_25 h0_26) fun z29 =>
          (.bb z29
           (.opt (book_lone.c h0_0 h0_1 h0_2 h0_3 h0_4 h0_5 h0_6 h0_7 h0_8 h0_9 h0_10 h0_11 h0_12 h0_13 h0_14 h0_15 h0_16 h0_17 h0_18 h0_19 h0_20 h0_21 h0_22 h0_23 h0_24 h0_25 h0_26 h0_27 h0_28 h0_29 h0_30) fun z30 =>
            (.ret z30))
           (.ret false)))
         (.ret false)))
       (.ret false))
      (.ret false))
     (.bb (h0_0 == (2 : Int))
      (.ret false)
      (.bb (h0_0 == (3 : Int))
       (.ret false)
       (.bb (h0_0 == (4 : Int))
        (.opt (book_in.c h0_2 (0 : Int) (9 : Int)) fun z25 =>
         (.bb z25
          (.bb (!h0_3)
           (.bb (h0_4 == (0 : Int))
            (.opt (book_there.c h0_16 h0_17 h0_18 h0_19 h0_20 h0_21 h0_22 h0_23 h0_24 h0_25 h0_26) fun z26 =>
             (.bb z26
              (.opt (book_both.c h0_0 h0_1 h0_2 h0_3 h0_4 h0_5 h0_6 h0_7 h0_8 h0_9 h0_10 h0_11 h0_12 h0_13 h0_14 h0_15 h0_16 h0_17 h0_18 h0_19 h0_20 h0_21 h0_22 h0_23 h0_24 h0_25 h0_26 h0_27 h0_28 h0_29 h0_30) fun z27 =>
               (.ret z27))
              (.ret false)))
            (.ret false))
           (.ret false))
          (.ret false)))
        (.ret false)))))))
  (.dd (((w64 ((1 : Int) - h0_1)) = (((0 : Nat) : Nat) : Int))) inferInstance
   (.bb (h0_2 == (0 : Int))
    (.bb (h0_0 == (0 : Int))
     (.bb (h0_4 == (0 : Int))
      (.opt (book_lone.c h0_0 h0_1 h0_2 h0_3 h0_4 h0_5 h0_6 h0_7 h0_8 h0_9 h0_10 h0_11 h0_12 h0_13 h0_14 h0_15 h0_16 h0_17 h0_18 h0_19 h0_20 h0_21 h0_22 h0_23 h0_24 h0_25 h0_26 h0_27 h0_28 h0_29 h0_30) fun z21 =>
       (.bb z21
        (.bb h0_3
         (.opt (book_there.c h0_5 h0_6 h0_7 h0_8 h0_9 h0_10 h0_11 h0_12 h0_13 h0_14 h0_15) fun z23 =>
          (.bb z23
           (.ret true)
           (.bb (!h0_3)
            (.opt (book_none.c h0_5 h0_6 h0_7 h0_8 h0_9 h0_10 h0_11 h0_12 h0_13 h0_14 h0_15) fun z24 =>
             (.ret z24))
            (.ret false))))
         (.bb (!h0_3)
          (.opt (book_none.c h0_5 h0_6 h0_7 h0_8 h0_9 h0_10 h0_11 h0_12 h0_13 h0_14 h0_15) fun z22 =>
           (.ret z22))
          (.ret false)))
        (.ret false)))
      (.ret false))
     (.bb (h0_0 == (1 : Int))
      (.bb (h0_2 == (0 : Int))
       (.bb (!h0_3)
        (.opt (book_in.c h0_4 (1 : Int) (131072 : Int)) fun z18 =>
         (.bb z18
          (.opt (book_none.c h0_5 h0_6 h0_7 h0_8 h0_9 h0_10 h0_11 h0_12 h0_13 h0_14 h0_15) fun z19 =>
           (.bb z19
            (.opt (book_lone.c h0_0 h0_1 h0_2 h0_3 h0_4 h0_5 h0_6 h0_7 h0_8 h0_9 h0_10 h0_11 h0_12 h0_13 h0_14 h0_15 h0_16 h0_17 h0_18 h0_19 h0_20 h0_21 h0_22 h0_23 h0_24 h0_25 h0_26 h0_27 h0_28 h0_29 h0_30) fun z20 =>
             (.ret z20))
            (.ret false)))
          (.ret false)))
        (.ret false))
       (.ret false))
      (.bb (h0_0 == (2 : Int))
       (.bb (h0_4 == (0 : Int))
        (.bb (!h0_3)
         (.opt (book_there.c h0_5 h0_6 h0_7 h0_8 h0_9 h0_10 h0_11 h0_12 h0_13 h0_14 h0_15) fun z16 =>
          (.bb z16
           (.opt (book_lone.c h0_0 h0_1 h0_2 h0_3 h0_4 h0_5 h0_6 h0_7 h0_8 h0_9 h0_10 h0_11 h0_12 h0_13 h0_14 h0_15 h0_16 h0_17 h0_18 h0_19 h0_20 h0_21 h0_22 h0_23 h0_24 h0_25 h0_26 h0_27 h0_28 h0_29 h0_30) fun z17 =>
            (.ret z17))
           (.ret false)))
         (.ret false))
        (.ret false))
       (.bb (h0_0 == (3 : Int))
        (.bb (h0_4 == (0 : Int))
         (.bb (!h0_3)
          (.opt (book_there.c h0_5 h0_6 h0_7 h0_8 h0_9 h0_10 h0_11 h0_12 h0_13 h0_14 h0_15) fun z14 =>
           (.bb z14
            (.opt (book_both.c h0_0 h0_1 h0_2 h0_3 h0_4 h0_5 h0_6 h0_7 h0_8 h0_9 h0_10 h0_11 h0_12 h0_13 h0_14 h0_15 h0_16 h0_17 h0_18 h0_19 h0_20 h0_21 h0_22 h0_23 h0_24 h0_25 h0_26 h0_27 h0_28 h0_29 h0_30) fun z15 =>
             (.ret z15))
            (.ret false)))
          (.ret false))
         (.ret false))
        (.bb (h0_0 == (4 : Int))
         (.opt (book_in.c h0_2 (0 : Int) (9 : Int)) fun z11 =>
          (.bb z11
           (.bb (!h0_3)
            (.bb (h0_4 == (0 : Int))
             (.opt (book_there.c h0_5 h0_6 h0_7 h0_8 h0_9 h0_10 h0_11 h0_12 h0_13 h0_14 h0_15) fun z12 =>
              (.bb z12
               (.opt (book_both.c h0_0 h0_1 h0_2 h0_3 h0_4 h0_5 h0_6 h0_7 h0_8 h0_9 h0_10 h0_11 h0_12 h0_13 h0_14 h0_15 h0_16 h0_17 h0_18 h0_19 h0_20 h0_21 h0_22 h0_23 h0_24 h0_25 h0_26 h0_27 h0_28 h0_29 h0_30) fun z13 =>
                (.ret z13))
               (.ret false)))
             (.ret false))
            (.ret false))
           (.ret false)))
         (.ret false))))))
    (.bb (h0_0 == (0 : Int))
     (.ret false)
     (.bb (h0_0 == (1 : Int))
      (.bb (h0_2 == (0 : Int))
       (.bb (!h0_3)
        (.opt (book_in.c h0_4 (1 : Int) (131072 : Int)) fun z8 =>
         (.bb z8
          (.opt (book_none.c h0_5 h0_6 h0_7 h0_8 h0_9 h0_10 h0_11 h0_12 h0_13 h0_14 h0_15) fun z9 =>
           (.bb z9
            (.opt (book_lone.c h0_0 h0_1 h0_2 h0_3 h0_4 h0_5 h0_6 h0_7 h0_8 h0_9 h0_10 h0_11 h0_12 h0_13 h0_14 h0_15 h0_16 h0_17 h0_18 h0_19 h0_20 h0_21 h0_22 h0_23 h0_24 h0_25 h0_26 h0_27 h0_28 h0_29 h0_30) fun z10 =>
             (.ret z10))
            (.ret false)))
          (.ret false)))
        (.ret false))
       (.ret false))
      (.bb (h0_0 == (2 : Int))
       (.ret false)
       (.bb (h0_0 == (3 : Int))
        (.ret false)
        (.bb (h0_0 == (4 : Int))
         (.opt (book_in.c h0_2 (0 : Int) (9 : Int)) fun z5 =>
          (.bb z5
           (.bb (!h0_3)
            (.bb (h0_4 == (0 : Int))
             (.opt (book_there.c h0_5 h0_6 h0_7 h0_8 h0_9 h0_10 h0_11 h0_12 h0_13 h0_14 h0_15) fun z6 =>
              (.bb z6
               (.opt (book_both.c h0_0 h0_1 h0_2 h0_3 h0_4 h0_5 h0_6 h0_7 h0_8 h0_9 h0_10 h0_11 h0_12 h0_13 h0_14 h0_15 h0_16 h0_17 h0_18 h0_19 h0_20 h0_21 h0_22 h0_23 h0_24 h0_25 h0_26 h0_27 h0_28 h0_29 h0_30) fun z7 =>
                (.ret z7))
               (.ret false)))
             (.ret false))
            (.ret false))
           (.ret false)))
         (.ret false)))))))
   .no))
noncomputable def C3 (h0_0 h0_1 h0_2 : Int) (h0_3 : Bool) (h0_4 h0_5 h0_6 h0_7 h0_8 h0_9 h0_10 h0_11 h0_12 h0_13 h0_14 h0_15 h0_16 h0_17 h0_18 h0_19 h0_20 h0_21 h0_22 h0_23 h0_24 h0_25 h0_26 h0_27 h0_28 h0_29 h0_30 : Int) : Option Bool := (c3 h0_0 h0_1 h0_2 h0_3 h0_4 h0_5 h0_6 h0_7 h0_8 h0_9 h0_10 h0_11 h0_12 h0_13 h0_14 h0_15 h0_16 h0_17 h0_18 h0_19 h0_20 h0_21 h0_22 h0_23 h0_24 h0_25 h0_26 h0_27 h0_28 h0_29 h0_30).run
def pC3 : Pt := (.cs (.bots 1) (.cs (.ptr 0 0) (.cs (.bots 146) .nl)))
def qC3 : Pt := (.cs (.var (.cs (.int .i64) (.cs (.int .i64) (.cs (.int .i64) (.cs .bool (.cs (.int .i64) (.cs (.int .i64) (.cs (.int .i64) (.cs (.int .i64) (.cs (.int .u32) (.cs (.int .u32) (.cs (.int .u32) (.cs (.int .u32) (.cs (.int .u32) (.cs (.int .u32) (.cs (.int .u32) (.cs (.int .u32) (.cs (.int .i64) (.cs (.int .i64) (.cs (.int .i64) (.cs (.int .u32) (.cs (.int .u32) (.cs (.int .u32) (.cs (.int .u32) (.cs (.int .u32) (.cs (.int .u32) (.cs (.int .u32) (.cs (.int .u32) (.cs (.int .i64) (.cs (.int .i64) (.cs (.int .i64) (.cs (.int .i64) .nl)))))))))))))))))))))))))))))))) .nl)
def ouC3 (l : TC3) (y : Bool) : Ex × St U := (.ret, stOf 148 [(2, .im (.bool y))] [] 0)
noncomputable def ΛC3 : LFun U := mkLp (U := U) pC3 qC3 0 (X := Bool) (fun (l : TC3) => C3 l.2.1.1 l.2.1.2.1 l.2.1.2.2.1 l.2.1.2.2.2.1 l.2.1.2.2.2.2.1 l.2.1.2.2.2.2.2.1 l.2.1.2.2.2.2.2.2.1 l.2.1.2.2.2.2.2.2.2.1 l.2.1.2.2.2.2.2.2.2.2.1 l.2.1.2.2.2.2.2.2.2.2.2.1 l.2.1.2.2.2.2.2.2.2.2.2.2.1 l.2.1.2.2.2.2.2.2.2.2.2.2.2.1 l.2.1.2.2.2.2.2.2.2.2.2.2.2.2.1 l.2.1.2.2.2.2.2.2.2.2.2.2.2.2.2.1 l.2.1.2.2.2.2.2.2.2.2.2.2.2.2.2.2.1 l.2.1.2.2.2.2.2.2.2.2.2.2.2.2.2.2.2.1 l.2.1.2.2.2.2.2.2.2.2.2.2.2.2.2.2.2.2.1 l.2.1.2.2.2.2.2.2.2.2.2.2.2.2.2.2.2.2.2.1 l.2.1.2.2.2.2.2.2.2.2.2.2.2.2.2.2.2.2.2.2.1 l.2.1.2.2.2.2.2.2.2.2.2.2.2.2.2.2.2.2.2.2.2.1 l.2.1.2.2.2.2.2.2.2.2.2.2.2.2.2.2.2.2.2.2.2.2.1 l.2.1.2.2.2.2.2.2.2.2.2.2.2.2.2.2.2.2.2.2.2.2.2.1 l.2.1.2.2.2.2.2.2.2.2.2.2.2.2.2.2.2.2.2.2.2.2.2.2.1 l.2.1.2.2.2.2.2.2.2.2.2.2.2.2.2.2.2.2.2.2.2.2.2.2.2.1 l.2.1.2.2.2.2.2.2.2.2.2.2.2.2.2.2.2.2.2.2.2.2.2.2.2.2.1 l.2.1.2.2.2.2.2.2.2.2.2.2.2.2.2.2.2.2.2.2.2.2.2.2.2.2.2.1 l.2.1.2.2.2.2.2.2.2.2.2.2.2.2.2.2.2.2.2.2.2.2.2.2.2.2.2.2.1 l.2.1.2.2.2.2.2.2.2.2.2.2.2.2.2.2.2.2.2.2.2.2.2.2.2.2.2.2.2.1 l.2.1.2.2.2.2.2.2.2.2.2.2.2.2.2.2.2.2.2.2.2.2.2.2.2.2.2.2.2.2.1 l.2.1.2.2.2.2.2.2.2.2.2.2.2.2.2.2.2.2.2.2.2.2.2.2.2.2.2.2.2.2.2.1 l.2.1.2.2.2.2.2.2.2.2.2.2.2.2.2.2.2.2.2.2.2.2.2.2.2.2.2.2.2.2.2.2.1) sp1 ouC3
noncomputable def t (s__0 s__1 s__2 : Int) (s__3 : Bool) (s__4 s__5 s__6 s__7 s__8 s__9 s__10 s__11 s__12 s__13 s__14 s__15 s__16 s__17 s__18 s__19 s__20 s__21 s__22 s__23 s__24 s__25 s__26 s__27 s__28 s__29 s__30 : Int) : Tw Bool :=
 (.opt (book_in.c s__1 (0 : Int) (1 : Int)) fun z1 =>
  (.bb (!z1)
   (.ret false)
   (.dd ((s__1 = (((1 : Nat) : Nat) : Int))) inferInstance
    (.opt (book_there.c s__16 s__17 s__18 s__19 s__20 s__21 s__22 s__23 s__24 s__25 s__26) fun z46 =>
     (.bb (!z46)
      (.ret false)
      (.opt (book_in.c s__27 (0 : Int) (127 : Int)) fun z47 =>
       (.bb (!z47)
        (.ret false)
        (.opt (book_in.c s__28 (1 : Int) (1073741823 : Int)) fun z48 =>
         (.bb (!z48)
          (.ret false)
          (.opt (C3 s__0 s__1 s__2 s__3 s__4 s__5 s__6 s__7 s__8 s__9 s__10 s__11 s__12 s__13 s__14 s__15 s__16 s__17 s__18 s__19 s__20 s__21 s__22 s__23 s__24 s__25 s__26 s__27 s__28 s__29 s__30) fun z49 =>
           (.ret z49))))))))
    (.dd ((s__1 = (((0 : Nat) : Nat) : Int))) inferInstance
     (.opt (book_there.c s__5 s__6 s__7 s__8 s__9 s__10 s__11 s__12 s__13 s__14 s__15) fun z2 =>
      (.bb (!z2)
       (.ret false)
       (.opt (book_in.c s__27 (0 : Int) (127 : Int)) fun z3 =>
        (.bb (!z3)
         (.ret false)
         (.opt (book_in.c s__28 (1 : Int) (1073741823 : Int)) fun z4 =>
          (.bb (!z4)
           (.ret false)
           (.opt (C3 s__0 s__1 s__2 s__3 s__4 s__5 s__6 s__7 s__8 s__9 s__10 s__11 s__12 s__13 s__14 s__15 s__16 s__17 s__18 s__19 s__20 s__21 s__22 s__23 s__24 s__25 s__26 s__27 s__28 s__29 s__30) fun z45 =>
            (.ret z45))))))))
     .no))))
noncomputable def c (s__0 s__1 s__2 : Int) (s__3 : Bool) (s__4 s__5 s__6 s__7 s__8 s__9 s__10 s__11 s__12 s__13 s__14 s__15 s__16 s__17 s__18 s__19 s__20 s__21 s__22 s__23 s__24 s__25 s__26 s__27 s__28 s__29 s__30 : Int) : Option Bool := (t s__0 s__1 s__2 s__3 s__4 s__5 s__6 s__7 s__8 s__9 s__10 s__11 s__12 s__13 s__14 s__15 s__16 s__17 s__18 s__19 s__20 s__21 s__22 s__23 s__24 s__25 s__26 s__27 s__28 s__29 s__30).run
def pA : Pt := (.cs (.agg (.cs (.int .i64) (.cs (.int .i64) (.cs (.int .i64) (.cs .bool (.cs (.int .i64) (.cs (.int .i64) (.cs (.int .i64) (.cs (.int .i64) (.cs (.int .u32) (.cs (.int .u32) (.cs (.int .u32) (.cs (.int .u32) (.cs (.int .u32) (.cs (.int .u32) (.cs (.int .u32) (.cs (.int .u32) (.cs (.int .i64) (.cs (.int .i64) (.cs (.int .i64) (.cs (.int .u32) (.cs (.int .u32) (.cs (.int .u32) (.cs (.int .u32) (.cs (.int .u32) (.cs (.int .u32) (.cs (.int .u32) (.cs (.int .u32) (.cs (.int .i64) (.cs (.int .i64) (.cs (.int .i64) (.cs (.int .i64) .nl)))))))))))))))))))))))))))))))) .nl)
def pH : Pt := .nl
def v (l : TA) (y : Bool) : AV U := .im (.bool y)
def hh (l : TA) (y : Bool) : Hp U := []
noncomputable def A : AFun U := mkA (U := U) pA pH (X := Bool) (fun (l : TA) => c l.1.1.1 l.1.1.2.1 l.1.1.2.2.1 l.1.1.2.2.2.1 l.1.1.2.2.2.2.1 l.1.1.2.2.2.2.2.1 l.1.1.2.2.2.2.2.2.1 l.1.1.2.2.2.2.2.2.2.1 l.1.1.2.2.2.2.2.2.2.2.1 l.1.1.2.2.2.2.2.2.2.2.2.1 l.1.1.2.2.2.2.2.2.2.2.2.2.1 l.1.1.2.2.2.2.2.2.2.2.2.2.2.1 l.1.1.2.2.2.2.2.2.2.2.2.2.2.2.1 l.1.1.2.2.2.2.2.2.2.2.2.2.2.2.2.1 l.1.1.2.2.2.2.2.2.2.2.2.2.2.2.2.2.1 l.1.1.2.2.2.2.2.2.2.2.2.2.2.2.2.2.2.1 l.1.1.2.2.2.2.2.2.2.2.2.2.2.2.2.2.2.2.1 l.1.1.2.2.2.2.2.2.2.2.2.2.2.2.2.2.2.2.2.1 l.1.1.2.2.2.2.2.2.2.2.2.2.2.2.2.2.2.2.2.2.1 l.1.1.2.2.2.2.2.2.2.2.2.2.2.2.2.2.2.2.2.2.2.1 l.1.1.2.2.2.2.2.2.2.2.2.2.2.2.2.2.2.2.2.2.2.2.1 l.1.1.2.2.2.2.2.2.2.2.2.2.2.2.2.2.2.2.2.2.2.2.2.1 l.1.1.2.2.2.2.2.2.2.2.2.2.2.2.2.2.2.2.2.2.2.2.2.2.1 l.1.1.2.2.2.2.2.2.2.2.2.2.2.2.2.2.2.2.2.2.2.2.2.2.2.1 l.1.1.2.2.2.2.2.2.2.2.2.2.2.2.2.2.2.2.2.2.2.2.2.2.2.2.1 l.1.1.2.2.2.2.2.2.2.2.2.2.2.2.2.2.2.2.2.2.2.2.2.2.2.2.2.1 l.1.1.2.2.2.2.2.2.2.2.2.2.2.2.2.2.2.2.2.2.2.2.2.2.2.2.2.2.1 l.1.1.2.2.2.2.2.2.2.2.2.2.2.2.2.2.2.2.2.2.2.2.2.2.2.2.2.2.2.1 l.1.1.2.2.2.2.2.2.2.2.2.2.2.2.2.2.2.2.2.2.2.2.2.2.2.2.2.2.2.2.1 l.1.1.2.2.2.2.2.2.2.2.2.2.2.2.2.2.2.2.2.2.2.2.2.2.2.2.2.2.2.2.2.1 l.1.1.2.2.2.2.2.2.2.2.2.2.2.2.2.2.2.2.2.2.2.2.2.2.2.2.2.2.2.2.2.2.1) sp1 v hh
noncomputable def body : Code := (Go.Func.body Try.f44).getD .skip
noncomputable def Γ : List (FuncId × AFun U) := [(107, book_in.A), (108, book_there.A), (111, book_both.A), (110, book_none.A), (109, book_lone.A)]
noncomputable def Λ : List (Nat × LFun U) := []
noncomputable def CT : List (Nat × LFun U) := [(3, ΛC3)]
def ro : List FuncId := []
def D : Nat → Lv × Lv := dtab [(3, ⟨[1], []⟩, ⟨[2], []⟩)]
noncomputable def E : Env U := { E0 with Γ := Γ, Λ := Λ, C := CT, D := D, ro := ro }
theorem hc3 (R : Type) (l : TC3) (K : Ex → St U → Option R) : codeA E (pick (seqsOf body) 3) ⟨pC3.mkL l.1, qC3.mkH l.2, 0⟩ (outK E 3 K) =
  (c3 l.2.1.1 l.2.1.2.1 l.2.1.2.2.1 l.2.1.2.2.2.1 l.2.1.2.2.2.2.1 l.2.1.2.2.2.2.2.1 l.2.1.2.2.2.2.2.2.1 l.2.1.2.2.2.2.2.2.2.1 l.2.1.2.2.2.2.2.2.2.2.1 l.2.1.2.2.2.2.2.2.2.2.2.1 l.2.1.2.2.2.2.2.2.2.2.2.2.1 l.2.1.2.2.2.2.2.2.2.2.2.2.2.1 l.2.1.2.2.2.2.2.2.2.2.2.2.2.2.1 l.2.1.2.2.2.2.2.2.2.2.2.2.2.2.2.1 l.2.1.2.2.2.2.2.2.2.2.2.2.2.2.2.2.1 l.2.1.2.2.2.2.2.2.2.2.2.2.2.2.2.2.2.1 l.2.1.2.2.2.2.2.2.2.2.2.2.2.2.2.2.2.2.1 l.2.1.2.2.2.2.2.2.2.2.2.2.2.2.2.2.2.2.2.1 l.2.1.2.2.2.2.2.2.2.2.2.2.2.2.2.2.2.2.2.2.1 l.2.1.2.2.2.2.2.2.2.2.2.2.2.2.2.2.2.2.2.2.2.1 l.2.1.2.2.2.2.2.2.2.2.2.2.2.2.2.2.2.2.2.2.2.2.1 l.2.1.2.2.2.2.2.2.2.2.2.2.2.2.2.2.2.2.2.2.2.2.2.1 l.2.1.2.2.2.2.2.2.2.2.2.2.2.2.2.2.2.2.2.2.2.2.2.2.1 l.2.1.2.2.2.2.2.2.2.2.2.2.2.2.2.2.2.2.2.2.2.2.2.2.2.1 l.2.1.2.2.2.2.2.2.2.2.2.2.2.2.2.2.2.2.2.2.2.2.2.2.2.2.1 l.2.1.2.2.2.2.2.2.2.2.2.2.2.2.2.2.2.2.2.2.2.2.2.2.2.2.2.1 l.2.1.2.2.2.2.2.2.2.2.2.2.2.2.2.2.2.2.2.2.2.2.2.2.2.2.2.2.1 l.2.1.2.2.2.2.2.2.2.2.2.2.2.2.2.2.2.2.2.2.2.2.2.2.2.2.2.2.2.1 l.2.1.2.2.2.2.2.2.2.2.2.2.2.2.2.2.2.2.2.2.2.2.2.2.2.2.2.2.2.2.1 l.2.1.2.2.2.2.2.2.2.2.2.2.2.2.2.2.2.2.2.2.2.2.2.2.2.2.2.2.2.2.2.1 l.2.1.2.2.2.2.2.2.2.2.2.2.2.2.2.2.2.2.2.2.2.2.2.2.2.2.2.2.2.2.2.2.1).runK fun y => K (ouC3 l y).1 (ouC3 l y).2 := by kernel_rfl
theorem ck3 (R : Type) (st : St U) (K : Ex → St U → Option R) (r : R) (h : ΛC3 R st K = some r) : codeA E (pick (seqsOf body) 3) st (outK E 3 K) = some r :=
  cut_ok (U := U) (E := E) (b := pick (seqsOf body) 3) (k := 3) (m := 0) (sp := sp1) (p := pC3) (q := qC3) (X := Bool) (t := fun (l : TC3) => c3 l.2.1.1 l.2.1.2.1 l.2.1.2.2.1 l.2.1.2.2.2.1 l.2.1.2.2.2.2.1 l.2.1.2.2.2.2.2.1 l.2.1.2.2.2.2.2.2.1 l.2.1.2.2.2.2.2.2.2.1 l.2.1.2.2.2.2.2.2.2.2.1 l.2.1.2.2.2.2.2.2.2.2.2.1 l.2.1.2.2.2.2.2.2.2.2.2.2.1 l.2.1.2.2.2.2.2.2.2.2.2.2.2.1 l.2.1.2.2.2.2.2.2.2.2.2.2.2.2.1 l.2.1.2.2.2.2.2.2.2.2.2.2.2.2.2.1 l.2.1.2.2.2.2.2.2.2.2.2.2.2.2.2.2.1 l.2.1.2.2.2.2.2.2.2.2.2.2.2.2.2.2.2.1 l.2.1.2.2.2.2.2.2.2.2.2.2.2.2.2.2.2.2.1 l.2.1.2.2.2.2.2.2.2.2.2.2.2.2.2.2.2.2.2.1 l.2.1.2.2.2.2.2.2.2.2.2.2.2.2.2.2.2.2.2.2.1 l.2.1.2.2.2.2.2.2.2.2.2.2.2.2.2.2.2.2.2.2.2.1 l.2.1.2.2.2.2.2.2.2.2.2.2.2.2.2.2.2.2.2.2.2.2.1 l.2.1.2.2.2.2.2.2.2.2.2.2.2.2.2.2.2.2.2.2.2.2.2.1 l.2.1.2.2.2.2.2.2.2.2.2.2.2.2.2.2.2.2.2.2.2.2.2.2.1 l.2.1.2.2.2.2.2.2.2.2.2.2.2.2.2.2.2.2.2.2.2.2.2.2.2.1 l.2.1.2.2.2.2.2.2.2.2.2.2.2.2.2.2.2.2.2.2.2.2.2.2.2.2.1 l.2.1.2.2.2.2.2.2.2.2.2.2.2.2.2.2.2.2.2.2.2.2.2.2.2.2.2.1 l.2.1.2.2.2.2.2.2.2.2.2.2.2.2.2.2.2.2.2.2.2.2.2.2.2.2.2.2.1 l.2.1.2.2.2.2.2.2.2.2.2.2.2.2.2.2.2.2.2.2.2.2.2.2.2.2.2.2.2.1 l.2.1.2.2.2.2.2.2.2.2.2.2.2.2.2.2.2.2.2.2.2.2.2.2.2.2.2.2.2.2.1 l.2.1.2.2.2.2.2.2.2.2.2.2.2.2.2.2.2.2.2.2.2.2.2.2.2.2.2.2.2.2.2.1 l.2.1.2.2.2.2.2.2.2.2.2.2.2.2.2.2.2.2.2.2.2.2.2.2.2.2.2.2.2.2.2.2.1) (ou := ouC3) sp1_ok hc3 h
theorem hk (R : Type) (l : TA) (K : AV U → Hp U → Option R) : funcA E Try.f44 [] R (pA.mkL l.1) (pH.mkH l.2) K = (t l.1.1.1 l.1.1.2.1 l.1.1.2.2.1 l.1.1.2.2.2.1 l.1.1.2.2.2.2.1 l.1.1.2.2.2.2.2.1 l.1.1.2.2.2.2.2.2.1 l.1.1.2.2.2.2.2.2.2.1 l.1.1.2.2.2.2.2.2.2.2.1 l.1.1.2.2.2.2.2.2.2.2.2.1 l.1.1.2.2.2.2.2.2.2.2.2.2.1 l.1.1.2.2.2.2.2.2.2.2.2.2.2.1 l.1.1.2.2.2.2.2.2.2.2.2.2.2.2.1 l.1.1.2.2.2.2.2.2.2.2.2.2.2.2.2.1 l.1.1.2.2.2.2.2.2.2.2.2.2.2.2.2.2.1 l.1.1.2.2.2.2.2.2.2.2.2.2.2.2.2.2.2.1 l.1.1.2.2.2.2.2.2.2.2.2.2.2.2.2.2.2.2.1 l.1.1.2.2.2.2.2.2.2.2.2.2.2.2.2.2.2.2.2.1 l.1.1.2.2.2.2.2.2.2.2.2.2.2.2.2.2.2.2.2.2.1 l.1.1.2.2.2.2.2.2.2.2.2.2.2.2.2.2.2.2.2.2.2.1 l.1.1.2.2.2.2.2.2.2.2.2.2.2.2.2.2.2.2.2.2.2.2.1 l.1.1.2.2.2.2.2.2.2.2.2.2.2.2.2.2.2.2.2.2.2.2.2.1 l.1.1.2.2.2.2.2.2.2.2.2.2.2.2.2.2.2.2.2.2.2.2.2.2.1 l.1.1.2.2.2.2.2.2.2.2.2.2.2.2.2.2.2.2.2.2.2.2.2.2.2.1 l.1.1.2.2.2.2.2.2.2.2.2.2.2.2.2.2.2.2.2.2.2.2.2.2.2.2.1 l.1.1.2.2.2.2.2.2.2.2.2.2.2.2.2.2.2.2.2.2.2.2.2.2.2.2.2.1 l.1.1.2.2.2.2.2.2.2.2.2.2.2.2.2.2.2.2.2.2.2.2.2.2.2.2.2.2.1 l.1.1.2.2.2.2.2.2.2.2.2.2.2.2.2.2.2.2.2.2.2.2.2.2.2.2.2.2.2.1 l.1.1.2.2.2.2.2.2.2.2.2.2.2.2.2.2.2.2.2.2.2.2.2.2.2.2.2.2.2.2.1 l.1.1.2.2.2.2.2.2.2.2.2.2.2.2.2.2.2.2.2.2.2.2.2.2.2.2.2.2.2.2.2.1 l.1.1.2.2.2.2.2.2.2.2.2.2.2.2.2.2.2.2.2.2.2.2.2.2.2.2.2.2.2.2.2.2.1).runK fun y => K (v l y) (hh l y) := by kernel_rfl
theorem okF : SoundF Try.prog cc 44 (funcA E Try.f44 []) :=
  funcA_ok (E := E) P_mixed (E0_ok.with Γ Λ CT D ro) (gam_of (all_cons ⟨book_in.ok, ⟨Try.f107, Try.func107, by kernel_rfl, by kernel_rfl⟩⟩ (all_cons ⟨book_there.ok, ⟨Try.f108, Try.func108, by kernel_rfl, by kernel_rfl⟩⟩ (all_cons ⟨book_both.ok, ⟨Try.f111, Try.func111, by kernel_rfl, by kernel_rfl⟩⟩ (all_cons ⟨book_none.ok, ⟨Try.f110, Try.func110, by kernel_rfl, by kernel_rfl⟩⟩ (all_cons ⟨book_lone.ok, ⟨Try.f109, Try.func109, by kernel_rfl, by kernel_rfl⟩⟩ all_nil))))) (all_cons (no_keep (by kernel_rfl)) (all_cons (no_keep (by kernel_rfl)) (all_cons (no_keep (by kernel_rfl)) (all_cons (no_keep (by kernel_rfl)) (all_cons (no_keep (by kernel_rfl)) all_nil)))))) Try.func44 (c := body) (by kernel_rfl)
    (just_by (by kernel_rfl) (by kernel_rfl) all_nil (all_cons ck3 all_nil)) []
theorem ok : SoundF Try.prog cc 44 A :=
  mkA_ok (E := E) (p := pA) (q := pH) (t := fun (l : TA) => t l.1.1.1 l.1.1.2.1 l.1.1.2.2.1 l.1.1.2.2.2.1 l.1.1.2.2.2.2.1 l.1.1.2.2.2.2.2.1 l.1.1.2.2.2.2.2.2.1 l.1.1.2.2.2.2.2.2.2.1 l.1.1.2.2.2.2.2.2.2.2.1 l.1.1.2.2.2.2.2.2.2.2.2.1 l.1.1.2.2.2.2.2.2.2.2.2.2.1 l.1.1.2.2.2.2.2.2.2.2.2.2.2.1 l.1.1.2.2.2.2.2.2.2.2.2.2.2.2.1 l.1.1.2.2.2.2.2.2.2.2.2.2.2.2.2.1 l.1.1.2.2.2.2.2.2.2.2.2.2.2.2.2.2.1 l.1.1.2.2.2.2.2.2.2.2.2.2.2.2.2.2.2.1 l.1.1.2.2.2.2.2.2.2.2.2.2.2.2.2.2.2.2.1 l.1.1.2.2.2.2.2.2.2.2.2.2.2.2.2.2.2.2.2.1 l.1.1.2.2.2.2.2.2.2.2.2.2.2.2.2.2.2.2.2.2.1 l.1.1.2.2.2.2.2.2.2.2.2.2.2.2.2.2.2.2.2.2.2.1 l.1.1.2.2.2.2.2.2.2.2.2.2.2.2.2.2.2.2.2.2.2.2.1 l.1.1.2.2.2.2.2.2.2.2.2.2.2.2.2.2.2.2.2.2.2.2.2.1 l.1.1.2.2.2.2.2.2.2.2.2.2.2.2.2.2.2.2.2.2.2.2.2.2.1 l.1.1.2.2.2.2.2.2.2.2.2.2.2.2.2.2.2.2.2.2.2.2.2.2.2.1 l.1.1.2.2.2.2.2.2.2.2.2.2.2.2.2.2.2.2.2.2.2.2.2.2.2.2.1 l.1.1.2.2.2.2.2.2.2.2.2.2.2.2.2.2.2.2.2.2.2.2.2.2.2.2.2.1 l.1.1.2.2.2.2.2.2.2.2.2.2.2.2.2.2.2.2.2.2.2.2.2.2.2.2.2.2.1 l.1.1.2.2.2.2.2.2.2.2.2.2.2.2.2.2.2.2.2.2.2.2.2.2.2.2.2.2.2.1 l.1.1.2.2.2.2.2.2.2.2.2.2.2.2.2.2.2.2.2.2.2.2.2.2.2.2.2.2.2.2.1 l.1.1.2.2.2.2.2.2.2.2.2.2.2.2.2.2.2.2.2.2.2.2.2.2.2.2.2.2.2.2.2.1 l.1.1.2.2.2.2.2.2.2.2.2.2.2.2.2.2.2.2.2.2.2.2.2.2.2.2.2.2.2.2.2.2.1) sp1_ok hk okF
theorem keep : KeepA A := mkA_keep (U := U) sp1_ok (fun (l : TA) y => ⟨(hh l y).drop 0, by kernel_rfl⟩)
end book_Right

/-! instar/book.Lay -/
namespace book_Lay
abbrev TA : Type := (((Int × (Int × (Int × (Bool × (Int × (Int × (Int × (Int × (Int × (Int × (Int × (Int × (Int × (Int × (Int × (Int × (Int × (Int × (Int × (Int × (Int × (Int × (Int × (Int × (Int × (Int × (Int × (Int × (Int × (Int × (Int × Unit))))))))))))))))))))))))))))))) × Unit) × Unit)
abbrev T10 : Type := ((Unit × (Unit × (Unit × ((Int × (Int × (Int × (Int × (Int × (Int × (Int × (Int × (Int × (Int × (Int × (Int × (Int × (Int × (Int × (Int × (Int × (Int × (Int × (Int × (Int × (Int × Unit)))))))))))))))))))))) × (Int × (Unit × Unit)))))) × ((List Int) × Unit))
noncomputable def l10 (k59_0 k59_1 k59_2 k59_3 k59_4 k59_5 k59_6 k59_7 k59_8 k59_9 k59_10 k59_11 k59_12 k59_13 k59_14 k59_15 k59_16 k59_17 k59_18 k59_19 k59_20 k59_21 k60 : Int) (h0 : (List Int)) : Tw ((Int × (List Int)) ⊕ (List Int)) :=
 (.bb (decide (k60 < (2 : Int)))
  (.dd ((k60 = (((1 : Nat) : Nat) : Int))) inferInstance
   (.dd ((((0 : Int) ≤ (w64 ((6 : Int) + (w64 ((10 : Int) * k60))))) ∧ ((w64 ((6 : Int) + (w64 ((10 : Int) * k60)))) ≤ (((List.length h0) : Nat) : Int)))) inferInstance
    (.dd ((((0 : Int) ≤ (10 : Int)) ∧ ((10 : Int) ≤ ((((List.length h0) - (Int.toNat (w64 ((6 : Int) + (w64 ((10 : Int) * k60)))))) : Nat) : Int)))) inferInstance
     (.opt (h0)[(((Int.toNat (w64 ((6 : Int) + (w64 ((10 : Int) * k60))))) + (0 : Nat)) + (Int.toNat (0 : Int)))]? fun z4 =>
      (.opt ((List.set h0 (((Int.toNat (w64 ((6 : Int) + (w64 ((10 : Int) * k60))))) + (0 : Nat)) + (Int.toNat (0 : Int))) (w32 (bOr .i64 k59_11 (bShl .i64 k59_12 (16 : Int))))))[(((Int.toNat (w64 ((6 : Int) + (w64 ((10 : Int) * k60))))) + (0 : Nat)) + (Int.toNat (1 : Int)))]? fun z5 =>
       (.dd ((((3 : Nat) = (3 : Nat)) ∧ (((1 : Nat) = (1 : Nat)) ∧ (((((Int.toNat (w64 ((6 : Int) + (w64 ((10 : Int) * k60))))) + (0 : Nat)) + (Int.toNat (2 : Int))) + (((Int.toNat (10 : Int)) - (0 : Nat)) - (Int.toNat (2 : Int)))) ≤ (List.length (List.set (List.set h0 (((Int.toNat (w64 ((6 : Int) + (w64 ((10 : Int) * k60))))) + (0 : Nat)) + (Int.toNat (0 : Int))) (w32 (bOr .i64 k59_11 (bShl .i64 k59_12 (16 : Int))))) (((Int.toNat (w64 ((6 : Int) + (w64 ((10 : Int) * k60))))) + (0 : Nat)) + (Int.toNat (1 : Int))) (w32 k59_13))))))) inferInstance
        (.ret (.inl ((w64 (k60 + (1 : Int))), ((List.take (((Int.toNat (w64 ((6 : Int) + (w64 ((10 : Int) * k60))))) + (0 : Nat)) + (Int.toNat (2 : Int))) (List.set (List.set h0 (((Int.toNat (w64 ((6 : Int) + (w64 ((10 : Int) * k60))))) + (0 : Nat)) + (Int.toNat (0 : Int))) (w32 (bOr .i64 k59_11 (bShl .i64 k59_12 (16 : Int))))) (((Int.toNat (w64 ((6 : Int) + (w64 ((10 : Int) * k60))))) + (0 : Nat)) + (Int.toNat (1 : Int))) (w32 k59_13))) ++ ((List.take (((Int.toNat (10 : Int)) - (0 : Nat)) - (Int.toNat (2 : Int))) (k59_14 :: (k59_15 :: (k59_16 :: (k59_17 :: (k59_18 :: (k59_19 :: (k59_20 :: (k59_21 :: ([] : List (Int))))))))))) ++ (List.drop ((((Int.toNat (w64 ((6 : Int) + (w64 ((10 : Int) * k60))))) + (0 : Nat)) + (Int.toNat (2 : Int))) + (min (List.length (k59_14 :: (k59_15 :: (k59_16 :: (k59_17 :: (k59_18 :: (k59_19 :: (k59_20 :: (k59_21 :: ([] : List (Int))))))))))) (((Int.toNat (10 : Int)) - (0 : Nat)) - (Int.toNat (2 : Int))))) (List.set (List.set h0 (((Int.toNat (w64 ((6 : Int) + (w64 ((10 : Int) * k60))))) + (0 : Nat)) + (Int.toNat (0 : Int))) (w32 (bOr .i64 k59_11 (bShl .i64 k59_12 (16 : Int))))) (((Int.toNat (w64 ((6 : Int) + (w64 ((10 : Int) * k60))))) + (0 : Nat)) + (Int.toNat (1 : Int))) (w32 k59_13))))))))
        .no)))
     .no)
    .no)
   (.dd ((k60 = (((0 : Nat) : Nat) : Int))) inferInstance
    (.dd ((((0 : Int) ≤ (w64 ((6 : Int) + (w64 ((10 : Int) * k60))))) ∧ ((w64 ((6 : Int) + (w64 ((10 : Int) * k60)))) ≤ (((List.length h0) : Nat) : Int)))) inferInstance
     (.dd ((((0 : Int) ≤ (10 : Int)) ∧ ((10 : Int) ≤ ((((List.length h0) - (Int.toNat (w64 ((6 : Int) + (w64 ((10 : Int) * k60)))))) : Nat) : Int)))) inferInstance
      (.opt (h0)[(((Int.toNat (w64 ((6 : Int) + (w64 ((10 : Int) * k60))))) + (0 : Nat)) + (Int.toNat (0 : Int)))]? fun z2 =>
       (.opt ((List.set h0 (((Int.toNat (w64 ((6 : Int) + (w64 ((10 : Int) * k60))))) + (0 : Nat)) + (Int.toNat (0 : Int))) (w32 (bOr .i64 k59_0 (bShl .i64 k59_1 (16 : Int))))))[(((Int.toNat (w64 ((6 : Int) + (w64 ((10 : Int) * k60))))) + (0 : Nat)) + (Int.toNat (1 : Int)))]? fun z3 =>
        (.dd ((((3 : Nat) = (3 : Nat)) ∧ (((1 : Nat) = (1 : Nat)) ∧ (((((Int.toNat (w64 ((6 : Int) + (w64 ((10 : Int) * k60))))) + (0 : Nat)) + (Int.toNat (2 : Int))) + (((Int.toNat (10 : Int)) - (0 : Nat)) - (Int.toNat (2 : Int)))) ≤ (List.length (List.set (List.set h0 (((Int.toNat (w64 ((6 : Int) + (w64 ((10 : Int) * k60))))) + (0 : Nat)) + (Int.toNat (0 : Int))) (w32 (bOr .i64 k59_0 (bShl .i64 k59_1 (16 : Int))))) (((Int.toNat (w64 ((6 : Int) + (w64 ((10 : Int) * k60))))) + (0 : Nat)) + (Int.toNat (1 : Int))) (w32 k59_2))))))) inferInstance
         (.ret (.inl ((w64 (k60 + (1 : Int))), ((List.take (((Int.toNat (w64 ((6 : Int) + (w64 ((10 : Int) * k60))))) + (0 : Nat)) + (Int.toNat (2 : Int))) (List.set (List.set h0 (((Int.toNat (w64 ((6 : Int) + (w64 ((10 : Int) * k60))))) + (0 : Nat)) + (Int.toNat (0 : Int))) (w32 (bOr .i64 k59_0 (bShl .i64 k59_1 (16 : Int))))) (((Int.toNat (w64 ((6 : Int) + (w64 ((10 : Int) * k60))))) + (0 : Nat)) + (Int.toNat (1 : Int))) (w32 k59_2))) ++ ((List.take (((Int.toNat (10 : Int)) - (0 : Nat)) - (Int.toNat (2 : Int))) (k59_3 :: (k59_4 :: (k59_5 :: (k59_6 :: (k59_7 :: (k59_8 :: (k59_9 :: (k59_10 :: ([] : List (Int))))))))))) ++ (List.drop ((((Int.toNat (w64 ((6 : Int) + (w64 ((10 : Int) * k60))))) + (0 : Nat)) + (Int.toNat (2 : Int))) + (min (List.length (k59_3 :: (k59_4 :: (k59_5 :: (k59_6 :: (k59_7 :: (k59_8 :: (k59_9 :: (k59_10 :: ([] : List (Int))))))))))) (((Int.toNat (10 : Int)) - (0 : Nat)) - (Int.toNat (2 : Int))))) (List.set (List.set h0 (((Int.toNat (w64 ((6 : Int) + (w64 ((10 : Int) * k60))))) + (0 : Nat)) + (Int.toNat (0 : Int))) (w32 (bOr .i64 k59_0 (bShl .i64 k59_1 (16 : Int))))) (((Int.toNat (w64 ((6 : Int) + (w64 ((10 : Int) * k60))))) + (0 : Nat)) + (Int.toNat (1 : Int))) (w32 k59_2))))))))
         .no)))
      .no)
     .no)
    .no))
  (.ret (.inr h0)))
noncomputable def L10 (k59_0 k59_1 k59_2 k59_3 k59_4 k59_5 k59_6 k59_7 k59_8 k59_9 k59_10 k59_11 k59_12 k59_13 k59_14 k59_15 k59_16 k59_17 k59_18 k59_19 k59_20 k59_21 k60 : Int) (h0 : (List Int)) : Option (List Int) := Lp (fun s => (l10 k59_0 k59_1 k59_2 k59_3 k59_4 k59_5 k59_6 k59_7 k59_8 k59_9 k59_10 k59_11 k59_12 k59_13 k59_14 k59_15 k59_16 k59_17 k59_18 k59_19 k59_20 k59_21 s.1 s.2).run) (k60, h0)
def p10 : Pt := (.cs (.bots 4) (.cs (.own 0) (.cs (.bots 54) (.cs (.agg (.cs (.int .i64) (.cs (.int .i64) (.cs (.int .i64) (.cs (.int .u32) (.cs (.int .u32) (.cs (.int .u32) (.cs (.int .u32) (.cs (.int .u32) (.cs (.int .u32) (.cs (.int .u32) (.cs (.int .u32) (.cs (.int .i64) (.cs (.int .i64) (.cs (.int .i64) (.cs (.int .u32) (.cs (.int .u32) (.cs (.int .u32) (.cs (.int .u32) (.cs (.int .u32) (.cs (.int .u32) (.cs (.int .u32) (.cs (.int .u32) .nl))))))))))))))))))))))) (.cs (.int .i64) (.cs (.bots 30) .nl))))))
def q10 : Pt := (.cs (.row 3 true) .nl)
def ou10 (l : T10) (y : (List Int)) : Ex × St U := (.exit 0, stOf 91 [(4, .own 0)] [.row 3 y true] 0)
noncomputable def Λ10 : LFun U := mkLp (U := U) p10 q10 0 (X := (List Int)) (fun (l : T10) => L10 l.1.2.2.2.1.1 l.1.2.2.2.1.2.1 l.1.2.2.2.1.2.2.1 l.1.2.2.2.1.2.2.2.1 l.1.2.2.2.1.2.2.2.2.1 l.1.2.2.2.1.2.2.2.2.2.1 l.1.2.2.2.1.2.2.2.2.2.2.1 l.1.2.2.2.1.2.2.2.2.2.2.2.1 l.1.2.2.2.1.2.2.2.2.2.2.2.2.1 l.1.2.2.2.1.2.2.2.2.2.2.2.2.2.1 l.1.2.2.2.1.2.2.2.2.2.2.2.2.2.2.1 l.1.2.2.2.1.2.2.2.2.2.2.2.2.2.2.2.1 l.1.2.2.2.1.2.2.2.2.2.2.2.2.2.2.2.2.1 l.1.2.2.2.1.2.2.2.2.2.2.2.2.2.2.2.2.2.1 l.1.2.2.2.1.2.2.2.2.2.2.2.2.2.2.2.2.2.2.1 l.1.2.2.2.1.2.2.2.2.2.2.2.2.2.2.2.2.2.2.2.1 l.1.2.2.2.1.2.2.2.2.2.2.2.2.2.2.2.2.2.2.2.2.1 l.1.2.2.2.1.2.2.2.2.2.2.2.2.2.2.2.2.2.2.2.2.2.1 l.1.2.2.2.1.2.2.2.2.2.2.2.2.2.2.2.2.2.2.2.2.2.2.1 l.1.2.2.2.1.2.2.2.2.2.2.2.2.2.2.2.2.2.2.2.2.2.2.2.1 l.1.2.2.2.1.2.2.2.2.2.2.2.2.2.2.2.2.2.2.2.2.2.2.2.2.1 l.1.2.2.2.1.2.2.2.2.2.2.2.2.2.2.2.2.2.2.2.2.2.2.2.2.2.1 l.1.2.2.2.2.1 l.2.1) sp1 ou10
noncomputable def t (s__0 s__1 s__2 : Int) (s__3 : Bool) (s__4 s__5 s__6 s__7 s__8 s__9 s__10 s__11 s__12 s__13 s__14 s__15 s__16 s__17 s__18 s__19 s__20 s__21 s__22 s__23 s__24 s__25 s__26 s__27 s__28 s__29 s__30 : Int) : Tw (Int × (List Int)) :=
 (.opt (book_Right.c s__0 s__1 s__2 s__3 s__4 s__5 s__6 s__7 s__8 s__9 s__10 s__11 s__12 s__13 s__14 s__15 s__16 s__17 s__18 s__19 s__20 s__21 s__22 s__23 s__24 s__25 s__26 s__27 s__28 s__29 s__30) fun z1 =>
  (.bb (!z1)
   (.ret ((2 : Int), ([] : List (Int))))
   (.bb s__3
    (.opt (L10 s__5 s__6 s__7 s__8 s__9 s__10 s__11 s__12 s__13 s__14 s__15 s__16 s__17 s__18 s__19 s__20 s__21 s__22 s__23 s__24 s__25 s__26 (0 : Int) (List.set (List.set (List.set (List.set (List.set (List.set (List.set (List.replicate (Int.toNat (26 : Int)) (0 : Int)) (Int.toNat (0 : Int)) (w32 (bOr .i64 (bOr .i64 s__0 (bShl .i64 s__1 (8 : Int))) (bShl .i64 s__2 (16 : Int))))) (Int.toNat (0 : Int)) (bOr .u32 (w32 (bOr .i64 (bOr .i64 s__0 (bShl .i64 s__1 (8 : Int))) (bShl .i64 s__2 (16 : Int)))) (16777216 : Int))) (Int.toNat (1 : Int)) (w32 s__4)) (Int.toNat (2 : Int)) (w32 s__27)) (Int.toNat (3 : Int)) (w32 s__28)) (Int.toNat (4 : Int)) (w32 (w64 (s__29 + (1 : Int))))) (Int.toNat (5 : Int)) (w32 s__30))) fun z7 =>
     (.ret ((0 : Int), z7)))
    (.opt (L10 s__5 s__6 s__7 s__8 s__9 s__10 s__11 s__12 s__13 s__14 s__15 s__16 s__17 s__18 s__19 s__20 s__21 s__22 s__23 s__24 s__25 s__26 (0 : Int) (List.set (List.set (List.set (List.set (List.set (List.set (List.replicate (Int.toNat (26 : Int)) (0 : Int)) (Int.toNat (0 : Int)) (w32 (bOr .i64 (bOr .i64 s__0 (bShl .i64 s__1 (8 : Int))) (bShl .i64 s__2 (16 : Int))))) (Int.toNat (1 : Int)) (w32 s__4)) (Int.toNat (2 : Int)) (w32 s__27)) (Int.toNat (3 : Int)) (w32 s__28)) (Int.toNat (4 : Int)) (w32 (w64 (s__29 + (1 : Int))))) (Int.toNat (5 : Int)) (w32 s__30))) fun z6 =>
     (.ret ((0 : Int), z6))))))
noncomputable def c (s__0 s__1 s__2 : Int) (s__3 : Bool) (s__4 s__5 s__6 s__7 s__8 s__9 s__10 s__11 s__12 s__13 s__14 s__15 s__16 s__17 s__18 s__19 s__20 s__21 s__22 s__23 s__24 s__25 s__26 s__27 s__28 s__29 s__30 : Int) : Option (Int × (List Int)) := (t s__0 s__1 s__2 s__3 s__4 s__5 s__6 s__7 s__8 s__9 s__10 s__11 s__12 s__13 s__14 s__15 s__16 s__17 s__18 s__19 s__20 s__21 s__22 s__23 s__24 s__25 s__26 s__27 s__28 s__29 s__30).run
def pA : Pt := (.cs (.agg (.cs (.int .i64) (.cs (.int .i64) (.cs (.int .i64) (.cs .bool (.cs (.int .i64) (.cs (.int .i64) (.cs (.int .i64) (.cs (.int .i64) (.cs (.int .u32) (.cs (.int .u32) (.cs (.int .u32) (.cs (.int .u32) (.cs (.int .u32) (.cs (.int .u32) (.cs (.int .u32) (.cs (.int .u32) (.cs (.int .i64) (.cs (.int .i64) (.cs (.int .i64) (.cs (.int .u32) (.cs (.int .u32) (.cs (.int .u32) (.cs (.int .u32) (.cs (.int .u32) (.cs (.int .u32) (.cs (.int .u32) (.cs (.int .u32) (.cs (.int .i64) (.cs (.int .i64) (.cs (.int .i64) (.cs (.int .i64) .nl)))))))))))))))))))))))))))))))) .nl)
def pH : Pt := .nl
def v (l : TA) (y : (Int × (List Int))) : AV U := .tup [.own 0, .im (.int .i64 y.1)]
def hh (l : TA) (y : (Int × (List Int))) : Hp U := [.row 3 y.2 true]
noncomputable def A : AFun U := mkA (U := U) pA pH (X := (Int × (List Int))) (fun (l : TA) => c l.1.1.1 l.1.1.2.1 l.1.1.2.2.1 l.1.1.2.2.2.1 l.1.1.2.2.2.2.1 l.1.1.2.2.2.2.2.1 l.1.1.2.2.2.2.2.2.1 l.1.1.2.2.2.2.2.2.2.1 l.1.1.2.2.2.2.2.2.2.2.1 l.1.1.2.2.2.2.2.2.2.2.2.1 l.1.1.2.2.2.2.2.2.2.2.2.2.1 l.1.1.2.2.2.2.2.2.2.2.2.2.2.1 l.1.1.2.2.2.2.2.2.2.2.2.2.2.2.1 l.1.1.2.2.2.2.2.2.2.2.2.2.2.2.2.1 l.1.1.2.2.2.2.2.2.2.2.2.2.2.2.2.2.1 l.1.1.2.2.2.2.2.2.2.2.2.2.2.2.2.2.2.1 l.1.1.2.2.2.2.2.2.2.2.2.2.2.2.2.2.2.2.1 l.1.1.2.2.2.2.2.2.2.2.2.2.2.2.2.2.2.2.2.1 l.1.1.2.2.2.2.2.2.2.2.2.2.2.2.2.2.2.2.2.2.1 l.1.1.2.2.2.2.2.2.2.2.2.2.2.2.2.2.2.2.2.2.2.1 l.1.1.2.2.2.2.2.2.2.2.2.2.2.2.2.2.2.2.2.2.2.2.1 l.1.1.2.2.2.2.2.2.2.2.2.2.2.2.2.2.2.2.2.2.2.2.2.1 l.1.1.2.2.2.2.2.2.2.2.2.2.2.2.2.2.2.2.2.2.2.2.2.2.1 l.1.1.2.2.2.2.2.2.2.2.2.2.2.2.2.2.2.2.2.2.2.2.2.2.2.1 l.1.1.2.2.2.2.2.2.2.2.2.2.2.2.2.2.2.2.2.2.2.2.2.2.2.2.1 l.1.1.2.2.2.2.2.2.2.2.2.2.2.2.2.2.2.2.2.2.2.2.2.2.2.2.2.1 l.1.1.2.2.2.2.2.2.2.2.2.2.2.2.2.2.2.2.2.2.2.2.2.2.2.2.2.2.1 l.1.1.2.2.2.2.2.2.2.2.2.2.2.2.2.2.2.2.2.2.2.2.2.2.2.2.2.2.2.1 l.1.1.2.2.2.2.2.2.2.2.2.2.2.2.2.2.2.2.2.2.2.2.2.2.2.2.2.2.2.2.1 l.1.1.2.2.2.2.2.2.2.2.2.2.2.2.2.2.2.2.2.2.2.2.2.2.2.2.2.2.2.2.2.1 l.1.1.2.2.2.2.2.2.2.2.2.2.2.2.2.2.2.2.2.2.2.2.2.2.2.2.2.2.2.2.2.2.1) sp1 v hh
noncomputable def body : Code := (Go.Func.body Try.f40).getD .skip
noncomputable def Γ : List (FuncId × AFun U) := [(44, book_Right.A)]
noncomputable def Λ : List (Nat × LFun U) := [(10, Λ10)]
noncomputable def CT : List (Nat × LFun U) := []
def ro : List FuncId := []
def D : Nat → Lv × Lv := dtab [(10, ⟨[60, 4, 59], []⟩, ⟨[2, 3, 4], []⟩)]
noncomputable def E : Env U := { E0 with Γ := Γ, Λ := Λ, C := CT, D := D, ro := ro }
theorem hf10 (R : Type) (l : T10) (s : (Int × (List Int))) (K : Ex → St U → Option R) : codeA E (pick (loopsOf body) 10) ⟨p10.mkL ((((), ((), ((), ((l.1.2.2.2.1.1, (l.1.2.2.2.1.2.1, (l.1.2.2.2.1.2.2.1, (l.1.2.2.2.1.2.2.2.1, (l.1.2.2.2.1.2.2.2.2.1, (l.1.2.2.2.1.2.2.2.2.2.1, (l.1.2.2.2.1.2.2.2.2.2.2.1, (l.1.2.2.2.1.2.2.2.2.2.2.2.1, (l.1.2.2.2.1.2.2.2.2.2.2.2.2.1, (l.1.2.2.2.1.2.2.2.2.2.2.2.2.2.1, (l.1.2.2.2.1.2.2.2.2.2.2.2.2.2.2.1, (l.1.2.2.2.1.2.2.2.2.2.2.2.2.2.2.2.1, (l.1.2.2.2.1.2.2.2.2.2.2.2.2.2.2.2.2.1, (l.1.2.2.2.1.2.2.2.2.2.2.2.2.2.2.2.2.2.1, (l.1.2.2.2.1.2.2.2.2.2.2.2.2.2.2.2.2.2.2.1, (l.1.2.2.2.1.2.2.2.2.2.2.2.2.2.2.2.2.2.2.2.1, (l.1.2.2.2.1.2.2.2.2.2.2.2.2.2.2.2.2.2.2.2.2.1, (l.1.2.2.2.1.2.2.2.2.2.2.2.2.2.2.2.2.2.2.2.2.2.1, (l.1.2.2.2.1.2.2.2.2.2.2.2.2.2.2.2.2.2.2.2.2.2.2.1, (l.1.2.2.2.1.2.2.2.2.2.2.2.2.2.2.2.2.2.2.2.2.2.2.2.1, (l.1.2.2.2.1.2.2.2.2.2.2.2.2.2.2.2.2.2.2.2.2.2.2.2.2.1, (l.1.2.2.2.1.2.2.2.2.2.2.2.2.2.2.2.2.2.2.2.2.2.2.2.2.2.1, ())))))))))))))))))))))), (s.1, ((), ())))))), (s.2, ())) : T10).1, q10.mkH ((((), ((), ((), ((l.1.2.2.2.1.1, (l.1.2.2.2.1.2.1, (l.1.2.2.2.1.2.2.1, (l.1.2.2.2.1.2.2.2.1, (l.1.2.2.2.1.2.2.2.2.1, (l.1.2.2.2.1.2.2.2.2.2.1, (l.1.2.2.2.1.2.2.2.2.2.2.1, (l.1.2.2.2.1.2.2.2.2.2.2.2.1, (l.1.2.2.2.1.2.2.2.2.2.2.2.2.1, (l.1.2.2.2.1.2.2.2.2.2.2.2.2.2.1, (l.1.2.2.2.1.2.2.2.2.2.2.2.2.2.2.1, (l.1.2.2.2.1.2.2.2.2.2.2.2.2.2.2.2.1, (l.1.2.2.2.1.2.2.2.2.2.2.2.2.2.2.2.2.1, (l.1.2.2.2.1.2.2.2.2.2.2.2.2.2.2.2.2.2.1, (l.1.2.2.2.1.2.2.2.2.2.2.2.2.2.2.2.2.2.2.1, (l.1.2.2.2.1.2.2.2.2.2.2.2.2.2.2.2.2.2.2.2.1, (l.1.2.2.2.1.2.2.2.2.2.2.2.2.2.2.2.2.2.2.2.2.1, (l.1.2.2.2.1.2.2.2.2.2.2.2.2.2.2.2.2.2.2.2.2.2.1, (l.1.2.2.2.1.2.2.2.2.2.2.2.2.2.2.2.2.2.2.2.2.2.2.1, (l.1.2.2.2.1.2.2.2.2.2.2.2.2.2.2.2.2.2.2.2.2.2.2.2.1, (l.1.2.2.2.1.2.2.2.2.2.2.2.2.2.2.2.2.2.2.2.2.2.2.2.2.1, (l.1.2.2.2.1.2.2.2.2.2.2.2.2.2.2.2.2.2.2.2.2.2.2.2.2.2.1, ())))))))))))))))))))))), (s.1, ((), ())))))), (s.2, ())) : T10).2, 0⟩ (roundK E (pick (loopsOf body) 10) K) =
  (l10 l.1.2.2.2.1.1 l.1.2.2.2.1.2.1 l.1.2.2.2.1.2.2.1 l.1.2.2.2.1.2.2.2.1 l.1.2.2.2.1.2.2.2.2.1 l.1.2.2.2.1.2.2.2.2.2.1 l.1.2.2.2.1.2.2.2.2.2.2.1 l.1.2.2.2.1.2.2.2.2.2.2.2.1 l.1.2.2.2.1.2.2.2.2.2.2.2.2.1 l.1.2.2.2.1.2.2.2.2.2.2.2.2.2.1 l.1.2.2.2.1.2.2.2.2.2.2.2.2.2.2.1 l.1.2.2.2.1.2.2.2.2.2.2.2.2.2.2.2.1 l.1.2.2.2.1.2.2.2.2.2.2.2.2.2.2.2.2.1 l.1.2.2.2.1.2.2.2.2.2.2.2.2.2.2.2.2.2.1 l.1.2.2.2.1.2.2.2.2.2.2.2.2.2.2.2.2.2.2.1 l.1.2.2.2.1.2.2.2.2.2.2.2.2.2.2.2.2.2.2.2.1 l.1.2.2.2.1.2.2.2.2.2.2.2.2.2.2.2.2.2.2.2.2.1 l.1.2.2.2.1.2.2.2.2.2.2.2.2.2.2.2.2.2.2.2.2.2.1 l.1.2.2.2.1.2.2.2.2.2.2.2.2.2.2.2.2.2.2.2.2.2.2.1 l.1.2.2.2.1.2.2.2.2.2.2.2.2.2.2.2.2.2.2.2.2.2.2.2.1 l.1.2.2.2.1.2.2.2.2.2.2.2.2.2.2.2.2.2.2.2.2.2.2.2.2.1 l.1.2.2.2.1.2.2.2.2.2.2.2.2.2.2.2.2.2.2.2.2.2.2.2.2.2.1 s.1 s.2).runK (lpK K (fun s => ⟨p10.mkL ((((), ((), ((), ((l.1.2.2.2.1.1, (l.1.2.2.2.1.2.1, (l.1.2.2.2.1.2.2.1, (l.1.2.2.2.1.2.2.2.1, (l.1.2.2.2.1.2.2.2.2.1, (l.1.2.2.2.1.2.2.2.2.2.1, (l.1.2.2.2.1.2.2.2.2.2.2.1, (l.1.2.2.2.1.2.2.2.2.2.2.2.1, (l.1.2.2.2.1.2.2.2.2.2.2.2.2.1, (l.1.2.2.2.1.2.2.2.2.2.2.2.2.2.1, (l.1.2.2.2.1.2.2.2.2.2.2.2.2.2.2.1, (l.1.2.2.2.1.2.2.2.2.2.2.2.2.2.2.2.1, (l.1.2.2.2.1.2.2.2.2.2.2.2.2.2.2.2.2.1, (l.1.2.2.2.1.2.2.2.2.2.2.2.2.2.2.2.2.2.1, (l.1.2.2.2.1.2.2.2.2.2.2.2.2.2.2.2.2.2.2.1, (l.1.2.2.2.1.2.2.2.2.2.2.2.2.2.2.2.2.2.2.2.1, (l.1.2.2.2.1.2.2.2.2.2.2.2.2.2.2.2.2.2.2.2.2.1, (l.1.2.2.2.1.2.2.2.2.2.2.2.2.2.2.2.2.2.2.2.2.2.1, (l.1.2.2.2.1.2.2.2.2.2.2.2.2.2.2.2.2.2.2.2.2.2.2.1, (l.1.2.2.2.1.2.2.2.2.2.2.2.2.2.2.2.2.2.2.2.2.2.2.2.1, (l.1.2.2.2.1.2.2.2.2.2.2.2.2.2.2.2.2.2.2.2.2.2.2.2.2.1, (l.1.2.2.2.1.2.2.2.2.2.2.2.2.2.2.2.2.2.2.2.2.2.2.2.2.2.1, ())))))))))))))))))))))), (s.1, ((), ())))))), (s.2, ())) : T10).1, q10.mkH ((((), ((), ((), ((l.1.2.2.2.1.1, (l.1.2.2.2.1.2.1, (l.1.2.2.2.1.2.2.1, (l.1.2.2.2.1.2.2.2.1, (l.1.2.2.2.1.2.2.2.2.1, (l.1.2.2.2.1.2.2.2.2.2.1, (l.1.2.2.2.1.2.2.2.2.2.2.1, (l.1.2.2.2.1.2.2.2.2.2.2.2.1, (l.1.2.2.2.1.2.2.2.2.2.2.2.2.1, (l.1.2.2.2.1.2.2.2.2.2.2.2.2.2.1, (l.1.2.2.2.1.2.2.2.2.2.2.2.2.2.2.1, (l.1.2.2.2.1.2.2.2.2.2.2.2.2.2.2.2.1, (l.1.2.2.2.1.2.2.2.2.2.2.2.2.2.2.2.2.1, (l.1.2.2.2.1.2.2.2.2.2.2.2.2.2.2.2.2.2.1, (l.1.2.2.2.1.2.2.2.2.2.2.2.2.2.2.2.2.2.2.1, (l.1.2.2.2.1.2.2.2.2.2.2.2.2.2.2.2.2.2.2.2.1, (l.1.2.2.2.1.2.2.2.2.2.2.2.2.2.2.2.2.2.2.2.2.1, (l.1.2.2.2.1.2.2.2.2.2.2.2.2.2.2.2.2.2.2.2.2.2.1, (l.1.2.2.2.1.2.2.2.2.2.2.2.2.2.2.2.2.2.2.2.2.2.2.1, (l.1.2.2.2.1.2.2.2.2.2.2.2.2.2.2.2.2.2.2.2.2.2.2.2.1, (l.1.2.2.2.1.2.2.2.2.2.2.2.2.2.2.2.2.2.2.2.2.2.2.2.2.1, (l.1.2.2.2.1.2.2.2.2.2.2.2.2.2.2.2.2.2.2.2.2.2.2.2.2.2.1, ())))))))))))))))))))))), (s.1, ((), ())))))), (s.2, ())) : T10).2, 0⟩) sp1 (ou10 l)) := by kernel_rfl
theorem lk10 (R : Type) (st : St U) (K : Ex → St U → Option R) (r : R) (h : Λ10 R st K = some r) : ∃ n, loopA E (pick (loopsOf body) 10) n st K = some r :=
  lp_ok (U := U) (E := E) (b := pick (loopsOf body) 10) (m := 0) (sp := sp1) (p := p10) (q := q10) (X := (List Int)) (S := (Int × (List Int))) (f := fun (l : T10) s => l10 l.1.2.2.2.1.1 l.1.2.2.2.1.2.1 l.1.2.2.2.1.2.2.1 l.1.2.2.2.1.2.2.2.1 l.1.2.2.2.1.2.2.2.2.1 l.1.2.2.2.1.2.2.2.2.2.1 l.1.2.2.2.1.2.2.2.2.2.2.1 l.1.2.2.2.1.2.2.2.2.2.2.2.1 l.1.2.2.2.1.2.2.2.2.2.2.2.2.1 l.1.2.2.2.1.2.2.2.2.2.2.2.2.2.1 l.1.2.2.2.1.2.2.2.2.2.2.2.2.2.2.1 l.1.2.2.2.1.2.2.2.2.2.2.2.2.2.2.2.1 l.1.2.2.2.1.2.2.2.2.2.2.2.2.2.2.2.2.1 l.1.2.2.2.1.2.2.2.2.2.2.2.2.2.2.2.2.2.1 l.1.2.2.2.1.2.2.2.2.2.2.2.2.2.2.2.2.2.2.1 l.1.2.2.2.1.2.2.2.2.2.2.2.2.2.2.2.2.2.2.2.1 l.1.2.2.2.1.2.2.2.2.2.2.2.2.2.2.2.2.2.2.2.2.1 l.1.2.2.2.1.2.2.2.2.2.2.2.2.2.2.2.2.2.2.2.2.2.1 l.1.2.2.2.1.2.2.2.2.2.2.2.2.2.2.2.2.2.2.2.2.2.2.1 l.1.2.2.2.1.2.2.2.2.2.2.2.2.2.2.2.2.2.2.2.2.2.2.2.1 l.1.2.2.2.1.2.2.2.2.2.2.2.2.2.2.2.2.2.2.2.2.2.2.2.2.1 l.1.2.2.2.1.2.2.2.2.2.2.2.2.2.2.2.2.2.2.2.2.2.2.2.2.2.1 s.1 s.2) (hd := fun (l : T10) s => (((), ((), ((), ((l.1.2.2.2.1.1, (l.1.2.2.2.1.2.1, (l.1.2.2.2.1.2.2.1, (l.1.2.2.2.1.2.2.2.1, (l.1.2.2.2.1.2.2.2.2.1, (l.1.2.2.2.1.2.2.2.2.2.1, (l.1.2.2.2.1.2.2.2.2.2.2.1, (l.1.2.2.2.1.2.2.2.2.2.2.2.1, (l.1.2.2.2.1.2.2.2.2.2.2.2.2.1, (l.1.2.2.2.1.2.2.2.2.2.2.2.2.2.1, (l.1.2.2.2.1.2.2.2.2.2.2.2.2.2.2.1, (l.1.2.2.2.1.2.2.2.2.2.2.2.2.2.2.2.1, (l.1.2.2.2.1.2.2.2.2.2.2.2.2.2.2.2.2.1, (l.1.2.2.2.1.2.2.2.2.2.2.2.2.2.2.2.2.2.1, (l.1.2.2.2.1.2.2.2.2.2.2.2.2.2.2.2.2.2.2.1, (l.1.2.2.2.1.2.2.2.2.2.2.2.2.2.2.2.2.2.2.2.1, (l.1.2.2.2.1.2.2.2.2.2.2.2.2.2.2.2.2.2.2.2.2.1, (l.1.2.2.2.1.2.2.2.2.2.2.2.2.2.2.2.2.2.2.2.2.2.1, (l.1.2.2.2.1.2.2.2.2.2.2.2.2.2.2.2.2.2.2.2.2.2.2.1, (l.1.2.2.2.1.2.2.2.2.2.2.2.2.2.2.2.2.2.2.2.2.2.2.2.1, (l.1.2.2.2.1.2.2.2.2.2.2.2.2.2.2.2.2.2.2.2.2.2.2.2.2.1, (l.1.2.2.2.1.2.2.2.2.2.2.2.2.2.2.2.2.2.2.2.2.2.2.2.2.2.1, ())))))))))))))))))))))), (s.1, ((), ())))))), (s.2, ()))) (s0 := fun (l : T10) => (l.1.2.2.2.2.1, l.2.1)) (ou := ou10)
    (fun l => rfl) (fun l x => by rfl) sp1_ok hf10 h
theorem hk (R : Type) (l : TA) (K : AV U → Hp U → Option R) : funcA E Try.f40 [(0, [], .own 3)] R (pA.mkL l.1) (pH.mkH l.2) K = (t l.1.1.1 l.1.1.2.1 l.1.1.2.2.1 l.1.1.2.2.2.1 l.1.1.2.2.2.2.1 l.1.1.2.2.2.2.2.1 l.1.1.2.2.2.2.2.2.1 l.1.1.2.2.2.2.2.2.2.1 l.1.1.2.2.2.2.2.2.2.2.1 l.1.1.2.2.2.2.2.2.2.2.2.1 l.1.1.2.2.2.2.2.2.2.2.2.2.1 l.1.1.2.2.2.2.2.2.2.2.2.2.2.1 l.1.1.2.2.2.2.2.2.2.2.2.2.2.2.1 l.1.1.2.2.2.2.2.2.2.2.2.2.2.2.2.1 l.1.1.2.2.2.2.2.2.2.2.2.2.2.2.2.2.1 l.1.1.2.2.2.2.2.2.2.2.2.2.2.2.2.2.2.1 l.1.1.2.2.2.2.2.2.2.2.2.2.2.2.2.2.2.2.1 l.1.1.2.2.2.2.2.2.2.2.2.2.2.2.2.2.2.2.2.1 l.1.1.2.2.2.2.2.2.2.2.2.2.2.2.2.2.2.2.2.2.1 l.1.1.2.2.2.2.2.2.2.2.2.2.2.2.2.2.2.2.2.2.2.1 l.1.1.2.2.2.2.2.2.2.2.2.2.2.2.2.2.2.2.2.2.2.2.1 l.1.1.2.2.2.2.2.2.2.2.2.2.2.2.2.2.2.2.2.2.2.2.2.1 l.1.1.2.2.2.2.2.2.2.2.2.2.2.2.2.2.2.2.2.2.2.2.2.2.1 l.1.1.2.2.2.2.2.2.2.2.2.2.2.2.2.2.2.2.2.2.2.2.2.2.2.1 l.1.1.2.2.2.2.2.2.2.2.2.2.2.2.2.2.2.2.2.2.2.2.2.2.2.2.1 l.1.1.2.2.2.2.2.2.2.2.2.2.2.2.2.2.2.2.2.2.2.2.2.2.2.2.2.1 l.1.1.2.2.2.2.2.2.2.2.2.2.2.2.2.2.2.2.2.2.2.2.2.2.2.2.2.2.1 l.1.1.2.2.2.2.2.2.2.2.2.2.2.2.2.2.2.2.2.2.2.2.2.2.2.2.2.2.2.1 l.1.1.2.2.2.2.2.2.2.2.2.2.2.2.2.2.2.2.2.2.2.2.2.2.2.2.2.2.2.2.1 l.1.1.2.2.2.2.2.2.2.2.2.2.2.2.2.2.2.2.2.2.2.2.2.2.2.2.2.2.2.2.2.1 l.1.1.2.2.2.2.2.2.2.2.2.2.2.2.2.2.2.2.2.2.2.2.2.2.2.2.2.2.2.2.2.2.1).runK fun y => K (v l y) (hh l y) := by kernel_rfl
theorem okF : SoundF Try.prog cc 40 (funcA E Try.f40 [(0, [], .own 3)]) :=
  funcA_ok (E := E) P_mixed (E0_ok.with Γ Λ CT D ro) (gam_of (all_cons ⟨book_Right.ok, ⟨Try.f44, Try.func44, by kernel_rfl, by kernel_rfl⟩⟩ all_nil) (all_cons (no_keep (by kernel_rfl)) all_nil)) Try.func40 (c := body) (by kernel_rfl)
    (just_by (by kernel_rfl) (by kernel_rfl) (all_cons lk10 all_nil) all_nil) [(0, [], .own 3)]
theorem ok : SoundF Try.prog cc 40 A :=
  mkA_ok (E := E) (p := pA) (q := pH) (t := fun (l : TA) => t l.1.1.1 l.1.1.2.1 l.1.1.2.2.1 l.1.1.2.2.2.1 l.1.1.2.2.2.2.1 l.1.1.2.2.2.2.2.1 l.1.1.2.2.2.2.2.2.1 l.1.1.2.2.2.2.2.2.2.1 l.1.1.2.2.2.2.2.2.2.2.1 l.1.1.2.2.2.2.2.2.2.2.2.1 l.1.1.2.2.2.2.2.2.2.2.2.2.1 l.1.1.2.2.2.2.2.2.2.2.2.2.2.1 l.1.1.2.2.2.2.2.2.2.2.2.2.2.2.1 l.1.1.2.2.2.2.2.2.2.2.2.2.2.2.2.1 l.1.1.2.2.2.2.2.2.2.2.2.2.2.2.2.2.1 l.1.1.2.2.2.2.2.2.2.2.2.2.2.2.2.2.2.1 l.1.1.2.2.2.2.2.2.2.2.2.2.2.2.2.2.2.2.1 l.1.1.2.2.2.2.2.2.2.2.2.2.2.2.2.2.2.2.2.1 l.1.1.2.2.2.2.2.2.2.2.2.2.2.2.2.2.2.2.2.2.1 l.1.1.2.2.2.2.2.2.2.2.2.2.2.2.2.2.2.2.2.2.2.1 l.1.1.2.2.2.2.2.2.2.2.2.2.2.2.2.2.2.2.2.2.2.2.1 l.1.1.2.2.2.2.2.2.2.2.2.2.2.2.2.2.2.2.2.2.2.2.2.1 l.1.1.2.2.2.2.2.2.2.2.2.2.2.2.2.2.2.2.2.2.2.2.2.2.1 l.1.1.2.2.2.2.2.2.2.2.2.2.2.2.2.2.2.2.2.2.2.2.2.2.2.1 l.1.1.2.2.2.2.2.2.2.2.2.2.2.2.2.2.2.2.2.2.2.2.2.2.2.2.1 l.1.1.2.2.2.2.2.2.2.2.2.2.2.2.2.2.2.2.2.2.2.2.2.2.2.2.2.1 l.1.1.2.2.2.2.2.2.2.2.2.2.2.2.2.2.2.2.2.2.2.2.2.2.2.2.2.2.1 l.1.1.2.2.2.2.2.2.2.2.2.2.2.2.2.2.2.2.2.2.2.2.2.2.2.2.2.2.2.1 l.1.1.2.2.2.2.2.2.2.2.2.2.2.2.2.2.2.2.2.2.2.2.2.2.2.2.2.2.2.2.1 l.1.1.2.2.2.2.2.2.2.2.2.2.2.2.2.2.2.2.2.2.2.2.2.2.2.2.2.2.2.2.2.1 l.1.1.2.2.2.2.2.2.2.2.2.2.2.2.2.2.2.2.2.2.2.2.2.2.2.2.2.2.2.2.2.2.1) sp1_ok hk okF
theorem keep : KeepA A := mkA_keep (U := U) sp1_ok (fun (l : TA) y => ⟨(hh l y).drop 0, by kernel_rfl⟩)
end book_Lay

/-! instar/book.Take -/
namespace book_Take
abbrev TA : Type := (((List Int) × Unit) × Unit)
abbrev T7 : Type := (((List Int) × (Unit × (Unit × (Unit × (Unit × (Unit × (Int × (Unit × Unit)))))))) × ((Int × (Int × (Int × (Bool × (Int × (Int × (Int × (Int × (Int × (Int × (Int × (Int × (Int × (Int × (Int × (Int × (Int × (Int × (Int × (Int × (Int × (Int × (Int × (Int × (Int × (Int × (Int × (Int × (Int × (Int × (Int × Unit))))))))))))))))))))))))))))))) × ((Int × (Int × (Int × (Bool × (Int × (Int × (Int × (Int × (Int × (Int × (Int × (Int × (Int × (Int × (Int × (Int × (Int × (Int × (Int × (Int × (Int × (Int × (Int × (Int × (Int × (Int × (Int × (Int × (Int × (Int × (Int × Unit))))))))))))))))))))))))))))))) × Unit)))
noncomputable def l7 (w : (List Int)) (h0_0 h0_1 h0_2 : Int) (h0_3 : Bool) (h0_4 h0_5 h0_6 h0_7 h0_8 h0_9 h0_10 h0_11 h0_12 h0_13 h0_14 h0_15 h0_16 h0_17 h0_18 h0_19 h0_20 h0_21 h0_22 h0_23 h0_24 h0_25 h0_26 h0_27 h0_28 h0_29 h0_30 h1_0 h1_1 h1_2 : Int) (h1_3 : Bool) (h1_4 h1_27 h1_28 h1_29 h1_30 k55 h1_5 h1_6 h1_7 h1_8 h1_9 h1_10 h1_11 h1_12 h1_13 h1_14 h1_15 h1_16 h1_17 h1_18 h1_19 h1_20 h1_21 h1_22 h1_23 h1_24 h1_25 h1_26 : Int) : Tw ((Int × (Int × (Int × (Int × (Int × (Int × (Int × (Int × (Int × (Int × (Int × (Int × (Int × (Int × (Int × (Int × (Int × (Int × (Int × (Int × (Int × (Int × Int)))))))))))))))))))))) ⊕ (Int × (Int × (Int × (Int × (Int × (Int × (Int × (Int × (Int × (Int × (Int × (Int × (Int × (Int × (Int × (Int × (Int × (Int × (Int × (Int × (Int × Int)))))))))))))))))))))) :=
 (.bb (decide (k55 < (2 : Int)))
  (.dd ((((0 : Int) ≤ (w64 ((6 : Int) + (w64 ((10 : Int) * k55))))) ∧ ((w64 ((6 : Int) + (w64 ((10 : Int) * k55)))) ≤ (((List.length w) : Nat) : Int)))) inferInstance
   (.dd ((((0 : Int) ≤ (10 : Int)) ∧ ((10 : Int) ≤ (((List.length (List.drop (Int.toNat (w64 ((6 : Int) + (w64 ((10 : Int) * k55))))) w)) : Nat) : Int)))) inferInstance
    (.opt ((List.take (Int.toNat (10 : Int)) (List.drop (Int.toNat (w64 ((6 : Int) + (w64 ((10 : Int) * k55))))) w)))[(Int.toNat (0 : Int))]? fun z7 =>
     (.opt ((List.take (Int.toNat (10 : Int)) (List.drop (Int.toNat (w64 ((6 : Int) + (w64 ((10 : Int) * k55))))) w)))[(Int.toNat (0 : Int))]? fun z8 =>
      (.opt ((List.take (Int.toNat (10 : Int)) (List.drop (Int.toNat (w64 ((6 : Int) + (w64 ((10 : Int) * k55))))) w)))[(Int.toNat (1 : Int))]? fun z9 =>
       (.dd ((k55 = (((1 : Nat) : Nat) : Int))) inferInstance
        (.dd ((k55 = (((1 : Nat) : Nat) : Int))) inferInstance
         (.dd ((((0 : Int) ≤ (2 : Int)) ∧ ((2 : Int) ≤ (((List.length (List.take (Int.toNat (10 : Int)) (List.drop (Int.toNat (w64 ((6 : Int) + (w64 ((10 : Int) * k55))))) w))) : Nat) : Int)))) inferInstance
          (.ret (.inl ((w64 (k55 + (1 : Int))), (h1_5, (h1_6, (h1_7, (h1_8, (h1_9, (h1_10, (h1_11, (h1_12, (h1_13, (h1_14, (h1_15, ((w64 (bAnd .u32 z7 (65535 : Int))), ((w64 (bShr .u32 z8 (16 : Int))), ((w64 z9), ((List.getD (List.drop (Int.toNat (2 : Int)) (List.take (Int.toNat (10 : Int)) (List.drop (Int.toNat (w64 ((6 : Int) + (w64 ((10 : Int) * k55))))) w))) (0 : Nat) (0 : Int)), ((List.getD (List.drop (Int.toNat (2 : Int)) (List.take (Int.toNat (10 : Int)) (List.drop (Int.toNat (w64 ((6 : Int) + (w64 ((10 : Int) * k55))))) w))) ((0 : Nat) + (1 : Nat)) (0 : Int)), ((List.getD (List.drop (Int.toNat (2 : Int)) (List.take (Int.toNat (10 : Int)) (List.drop (Int.toNat (w64 ((6 : Int) + (w64 ((10 : Int) * k55))))) w))) (((0 : Nat) + (1 : Nat)) + (1 : Nat)) (0 : Int)), ((List.getD (List.drop (Int.toNat (2 : Int)) (List.take (Int.toNat (10 : Int)) (List.drop (Int.toNat (w64 ((6 : Int) + (w64 ((10 : Int) * k55))))) w))) ((((0 : Nat) + (1 : Nat)) + (1 : Nat)) + (1 : Nat)) (0 : Int)), ((List.getD (List.drop (Int.toNat (2 : Int)) (List.take (Int.toNat (10 : Int)) (List.drop (Int.toNat (w64 ((6 : Int) + (w64 ((10 : Int) * k55))))) w))) (((((0 : Nat) + (1 : Nat)) + (1 : Nat)) + (1 : Nat)) + (1 : Nat)) (0 : Int)), ((List.getD (List.drop (Int.toNat (2 : Int)) (List.take (Int.toNat (10 : Int)) (List.drop (Int.toNat (w64 ((6 : Int) + (w64 ((10 : Int) * k55))))) w))) ((((((0 : Nat) + (1 : Nat)) + (1 : Nat)) + (1 : Nat)) + (1 : Nat)) + (1 : Nat)) (0 : Int)), ((List.getD (List.drop (Int.toNat (2 : Int)) (List.take (Int.toNat (10 : Int)) (List.drop (Int.toNat (w64 ((6 : Int) + (w64 ((10 : Int) * k55))))) w))) (((((((0 : Nat) + (1 : Nat)) + (1 : Nat)) + (1 : Nat)) + (1 : Nat)) + (1 : Nat)) + (1 : Nat)) (0 : Int)), (List.getD (List.drop (Int.toNat (2 : Int)) (List.take (Int.toNat (10 : Int)) (List.drop (Int.toNat (w64 ((6 : Int) + (w64 ((10 : Int) * k55))))) w))) ((((((((0 : Nat) + (1 : Nat)) + (1 : Nat)) + (1 : Nat)) + (1 : Nat)) + (1 : Nat)) + (1 : Nat)) + (1 : Nat)) (0 : Int))))))))))))))))))))))))))
          .no)
         (.dd ((k55 = (((0 : Nat) : Nat) : Int))) inferInstance
          (.dd ((((0 : Int) ≤ (2 : Int)) ∧ ((2 : Int) ≤ (((List.length (List.take (Int.toNat (10 : Int)) (List.drop (Int.toNat (w64 ((6 : Int) + (w64 ((10 : Int) * k55))))) w))) : Nat) : Int)))) inferInstance
           (.ret (.inl ((w64 (k55 + (1 : Int))), (h1_5, (h1_6, (h1_7, ((List.getD (List.drop (Int.toNat (2 : Int)) (List.take (Int.toNat (10 : Int)) (List.drop (Int.toNat (w64 ((6 : Int) + (w64 ((10 : Int) * k55))))) w))) (0 : Nat) h1_8), ((List.getD (List.drop (Int.toNat (2 : Int)) (List.take (Int.toNat (10 : Int)) (List.drop (Int.toNat (w64 ((6 : Int) + (w64 ((10 : Int) * k55))))) w))) ((0 : Nat) + (1 : Nat)) h1_9), ((List.getD (List.drop (Int.toNat (2 : Int)) (List.take (Int.toNat (10 : Int)) (List.drop (Int.toNat (w64 ((6 : Int) + (w64 ((10 : Int) * k55))))) w))) (((0 : Nat) + (1 : Nat)) + (1 : Nat)) h1_10), ((List.getD (List.drop (Int.toNat (2 : Int)) (List.take (Int.toNat (10 : Int)) (List.drop (Int.toNat (w64 ((6 : Int) + (w64 ((10 : Int) * k55))))) w))) ((((0 : Nat) + (1 : Nat)) + (1 : Nat)) + (1 : Nat)) h1_11), ((List.getD (List.drop (Int.toNat (2 : Int)) (List.take (Int.toNat (10 : Int)) (List.drop (Int.toNat (w64 ((6 : Int) + (w64 ((10 : Int) * k55))))) w))) (((((0 : Nat) + (1 : Nat)) + (1 : Nat)) + (1 : Nat)) + (1 : Nat)) h1_12), ((List.getD (List.drop (Int.toNat (2 : Int)) (List.take (Int.toNat (10 : Int)) (List.drop (Int.toNat (w64 ((6 : Int) + (w64 ((10 : Int) * k55))))) w))) ((((((0 : Nat) + (1 : Nat)) + (1 : Nat)) + (1 : Nat)) + (1 : Nat)) + (1 : Nat)) h1_13), ((List.getD (List.drop (Int.toNat (2 : Int)) (List.take (Int.toNat (10 : Int)) (List.drop (Int.toNat (w64 ((6 : Int) + (w64 ((10 : Int) * k55))))) w))) (((((((0 : Nat) + (1 : Nat)) + (1 : Nat)) + (1 : Nat)) + (1 : Nat)) + (1 : Nat)) + (1 : Nat)) h1_14), ((List.getD (List.drop (Int.toNat (2 : Int)) (List.take (Int.toNat (10 : Int)) (List.drop (Int.toNat (w64 ((6 : Int) + (w64 ((10 : Int) * k55))))) w))) ((((((((0 : Nat) + (1 : Nat)) + (1 : Nat)) + (1 : Nat)) + (1 : Nat)) + (1 : Nat)) + (1 : Nat)) + (1 : Nat)) h1_15), ((w64 (bAnd .u32 z7 (65535 : Int))), ((w64 (bShr .u32 z8 (16 : Int))), ((w64 z9), ((0 : Int), ((0 : Int), ((0 : Int), ((0 : Int), ((0 : Int), ((0 : Int), ((0 : Int), (0 : Int)))))))))))))))))))))))))
           .no)
          .no))
        (.dd ((k55 = (((0 : Nat) : Nat) : Int))) inferInstance
         (.dd ((k55 = (((1 : Nat) : Nat) : Int))) inferInstance
          (.dd ((((0 : Int) ≤ (2 : Int)) ∧ ((2 : Int) ≤ (((List.length (List.take (Int.toNat (10 : Int)) (List.drop (Int.toNat (w64 ((6 : Int) + (w64 ((10 : Int) * k55))))) w))) : Nat) : Int)))) inferInstance
           (.ret (.inl ((w64 (k55 + (1 : Int))), ((w64 (bAnd .u32 z7 (65535 : Int))), ((w64 (bShr .u32 z8 (16 : Int))), ((w64 z9), ((0 : Int), ((0 : Int), ((0 : Int), ((0 : Int), ((0 : Int), ((0 : Int), ((0 : Int), ((0 : Int), (h1_16, (h1_17, (h1_18, ((List.getD (List.drop (Int.toNat (2 : Int)) (List.take (Int.toNat (10 : Int)) (List.drop (Int.toNat (w64 ((6 : Int) + (w64 ((10 : Int) * k55))))) w))) (0 : Nat) h1_19), ((List.getD (List.drop (Int.toNat (2 : Int)) (List.take (Int.toNat (10 : Int)) (List.drop (Int.toNat (w64 ((6 : Int) + (w64 ((10 : Int) * k55))))) w))) ((0 : Nat) + (1 : Nat)) h1_20), ((List.getD (List.drop (Int.toNat (2 : Int)) (List.take (Int.toNat (10 : Int)) (List.drop (Int.toNat (w64 ((6 : Int) + (w64 ((10 : Int) * k55))))) w))) (((0 : Nat) + (1 : Nat)) + (1 : Nat)) h1_21), ((List.getD (List.drop (Int.toNat (2 : Int)) (List.take (Int.toNat (10 : Int)) (List.drop (Int.toNat (w64 ((6 : Int) + (w64 ((10 : Int) * k55))))) w))) ((((0 : Nat) + (1 : Nat)) + (1 : Nat)) + (1 : Nat)) h1_22), ((List.getD (List.drop (Int.toNat (2 : Int)) (List.take (Int.toNat (10 : Int)) (List.drop (Int.toNat (w64 ((6 : Int) + (w64 ((10 : Int) * k55))))) w))) (((((0 : Nat) + (1 : Nat)) + (1 : Nat)) + (1 : Nat)) + (1 : Nat)) h1_23), ((List.getD (List.drop (Int.toNat (2 : Int)) (List.take (Int.toNat (10 : Int)) (List.drop (Int.toNat (w64 ((6 : Int) + (w64 ((10 : Int) * k55))))) w))) ((((((0 : Nat) + (1 : Nat)) + (1 : Nat)) + (1 : Nat)) + (1 : Nat)) + (1 : Nat)) h1_24), ((List.getD (List.drop (Int.toNat (2 : Int)) (List.take (Int.toNat (10 : Int)) (List.drop (Int.toNat (w64 ((6 : Int) + (w64 ((10 : Int) * k55))))) w))) (((((((0 : Nat) + (1 : Nat)) + (1 : Nat)) + (1 : Nat)) + (1 : Nat)) + (1 : Nat)) + (1 : Nat)) h1_25), (List.getD (List.drop (Int.toNat (2 : Int)) (List.take (Int.toNat (10 : Int)) (List.drop (Int.toNat (w64 ((6 : Int) + (w64 ((10 : Int) * k55))))) w))) ((((((((0 : Nat) + (1 : Nat)) + (1 : Nat)) + (1 : Nat)) + (1 : Nat)) + (1 : Nat)) + (1 : Nat)) + (1 : Nat)) h1_26)))))))))))))))))))))))))
           .no)
          (.dd ((k55 = (((0 : Nat) : Nat) : Int))) inferInstance
           (.dd ((((0 : Int) ≤ (2 : Int)) ∧ ((2 : Int) ≤ (((List.length (List.take (Int.toNat (10 : Int)) (List.drop (Int.toNat (w64 ((6 : Int) + (w64 ((10 : Int) * k55))))) w))) : Nat) : Int)))) inferInstance
            (.ret (.inl ((w64 (k55 + (1 : Int))), ((w64 (bAnd .u32 z7 (65535 : Int))), ((w64 (bShr .u32 z8 (16 : Int))), ((w64 z9), ((List.getD (List.drop (Int.toNat (2 : Int)) (List.take (Int.toNat (10 : Int)) (List.drop (Int.toNat (w64 ((6 : Int) + (w64 ((10 : Int) * k55))))) w))) (0 : Nat) (0 : Int)), ((List.getD (List.drop (Int.toNat (2 : Int)) (List.take (Int.toNat (10 : Int)) (List.drop (Int.toNat (w64 ((6 : Int) + (w64 ((10 : Int) * k55))))) w))) ((0 : Nat) + (1 : Nat)) (0 : Int)), ((List.getD (List.drop (Int.toNat (2 : Int)) (List.take (Int.toNat (10 : Int)) (List.drop (Int.toNat (w64 ((6 : Int) + (w64 ((10 : Int) * k55))))) w))) (((0 : Nat) + (1 : Nat)) + (1 : Nat)) (0 : Int)), ((List.getD (List.drop (Int.toNat (2 : Int)) (List.take (Int.toNat (10 : Int)) (List.drop (Int.toNat (w64 ((6 : Int) + (w64 ((10 : Int) * k55))))) w))) ((((0 : Nat) + (1 : Nat)) + (1 : Nat)) + (1 : Nat)) (0 : Int)), ((List.getD (List.drop (Int.toNat (2 : Int)) (List.take (Int.toNat (10 : Int)) (List.drop (Int.toNat (w64 ((6 : Int) + (w64 ((10 : Int) * k55))))) w))) (((((0 : Nat) + (1 : Nat)) + (1 : Nat)) + (1 : Nat)) + (1 : Nat)) (0 : Int)), ((List.getD (List.drop (Int.toNat (2 : Int)) (List.take (Int.toNat (10 : Int)) (List.drop (Int.toNat (w64 ((6 : Int) + (w64 ((10 : Int) * k55))))) w))) ((((((0 : Nat) + (1 : Nat)) + (1 : Nat)) + (1 : Nat)) + (1 : Nat)) + (1 : Nat)) (0 : Int)), ((List.getD (List.drop (Int.toNat (2 : Int)) (List.take (Int.toNat (10 : Int)) (List.drop (Int.toNat (w64 ((6 : Int) + (w64 ((10 : Int) * k55))))) w))) (((((((0 : Nat) + (1 : Nat)) + (1 : Nat)) + (1 : Nat)) + (1 : Nat)) + (1 : Nat)) + (1 : Nat)) (0 : Int)), ((List.getD (List.drop (Int.toNat (2 : Int)) (List.take (Int.toNat (10 : Int)) (List.drop (Int.toNat (w64 ((6 : Int) + (w64 ((10 : Int) * k55))))) w))) ((((((((0 : Nat) + (1 : Nat)) + (1 : Nat)) + (1 : Nat)) + (1 : Nat)) + (1 : Nat)) + (1 : Nat)) + (1 : Nat)) (0 : Int)), (h1_16, (h1_17, (h1_18, (h1_19, (h1_20, (h1_21, (h1_22, (h1_23, (h1_24, (h1_25, h1_26))))))))))))))))))))))))
            .no)
           .no))
         .no)))))
    .no)
   .no)
  (.ret (.inr (h1_5, (h1_6, (h1_7, (h1_8, (h1_9, (h1_10, (h1_11, (h1_12, (h1_13, (h1_14, (h1_15, (h1_16, (h1_17, (h1_18, (h1_19, (h1_20, (h1_21, (h1_22, (h1_23, (h1_24, (h1_25, h1_26))))))))))))))))))))))))
noncomputable def L7 (w : (List Int)) (k55 h0_0 h0_1 h0_2 : Int) (h0_3 : Bool) (h0_4 h0_5 h0_6 h0_7 h0_8 h0_9 h0_10 h0_11 h0_12 h0_13 h0_14 h0_15 h0_16 h0_17 h0_18 h0_19 h0_20 h0_21 h0_22 h0_23 h0_24 h0_25 h0_26 h0_27 h0_28 h0_29 h0_30 h1_0 h1_1 h1_2 : Int) (h1_3 : Bool) (h1_4 h1_5 h1_6 h1_7 h1_8 h1_9 h1_10 h1_11 h1_12 h1_13 h1_14 h1_15 h1_16 h1_17 h1_18 h1_19 h1_20 h1_21 h1_22 h1_23 h1_24 h1_25 h1_26 h1_27 h1_28 h1_29 h1_30 : Int) : Option (Int × (Int × (Int × (Int × (Int × (Int × (Int × (Int × (Int × (Int × (Int × (Int × (Int × (Int × (Int × (Int × (Int × (Int × (Int × (Int × (Int × Int))))))))))))))))))))) := Lp (fun s => (l7 w h0_0 h0_1 h0_2 h0_3 h0_4 h0_5 h0_6 h0_7 h0_8 h0_9 h0_10 h0_11 h0_12 h0_13 h0_14 h0_15 h0_16 h0_17 h0_18 h0_19 h0_20 h0_21 h0_22 h0_23 h0_24 h0_25 h0_26 h0_27 h0_28 h0_29 h0_30 h1_0 h1_1 h1_2 h1_3 h1_4 h1_27 h1_28 h1_29 h1_30 s.1 s.2.1 s.2.2.1 s.2.2.2.1 s.2.2.2.2.1 s.2.2.2.2.2.1 s.2.2.2.2.2.2.1 s.2.2.2.2.2.2.2.1 s.2.2.2.2.2.2.2.2.1 s.2.2.2.2.2.2.2.2.2.1 s.2.2.2.2.2.2.2.2.2.2.1 s.2.2.2.2.2.2.2.2.2.2.2.1 s.2.2.2.2.2.2.2.2.2.2.2.2.1 s.2.2.2.2.2.2.2.2.2.2.2.2.2.1 s.2.2.2.2.2.2.2.2.2.2.2.2.2.2.1 s.2.2.2.2.2.2.2.2.2.2.2.2.2.2.2.1 s.2.2.2.2.2.2.2.2.2.2.2.2.2.2.2.2.1 s.2.2.2.2.2.2.2.2.2.2.2.2.2.2.2.2.2.1 s.2.2.2.2.2.2.2.2.2.2.2.2.2.2.2.2.2.2.1 s.2.2.2.2.2.2.2.2.2.2.2.2.2.2.2.2.2.2.2.1 s.2.2.2.2.2.2.2.2.2.2.2.2.2.2.2.2.2.2.2.2.1 s.2.2.2.2.2.2.2.2.2.2.2.2.2.2.2.2.2.2.2.2.2.1 s.2.2.2.2.2.2.2.2.2.2.2.2.2.2.2.2.2.2.2.2.2.2).run) (k55, (h1_5, (h1_6, (h1_7, (h1_8, (h1_9, (h1_10, (h1_11, (h1_12, (h1_13, (h1_14, (h1_15, (h1_16, (h1_17, (h1_18, (h1_19, (h1_20, (h1_21, (h1_22, (h1_23, (h1_24, (h1_25, h1_26))))))))))))))))))))))
def p7 : Pt := (.cs (.sl 3) (.cs (.bots 1) (.cs (.ptr 0 0) (.cs (.bots 2) (.cs (.ptr 1 0) (.cs (.bots 49) (.cs (.int .i64) (.cs (.bots 50) .nl))))))))
def q7 : Pt := (.cs (.var (.cs (.int .i64) (.cs (.int .i64) (.cs (.int .i64) (.cs .bool (.cs (.int .i64) (.cs (.int .i64) (.cs (.int .i64) (.cs (.int .i64) (.cs (.int .u32) (.cs (.int .u32) (.cs (.int .u32) (.cs (.int .u32) (.cs (.int .u32) (.cs (.int .u32) (.cs (.int .u32) (.cs (.int .u32) (.cs (.int .i64) (.cs (.int .i64) (.cs (.int .i64) (.cs (.int .u32) (.cs (.int .u32) (.cs (.int .u32) (.cs (.int .u32) (.cs (.int .u32) (.cs (.int .u32) (.cs (.int .u32) (.cs (.int .u32) (.cs (.int .i64) (.cs (.int .i64) (.cs (.int .i64) (.cs (.int .i64) .nl)))))))))))))))))))))))))))))))) (.cs (.var (.cs (.int .i64) (.cs (.int .i64) (.cs (.int .i64) (.cs .bool (.cs (.int .i64) (.cs (.int .i64) (.cs (.int .i64) (.cs (.int .i64) (.cs (.int .u32) (.cs (.int .u32) (.cs (.int .u32) (.cs (.int .u32) (.cs (.int .u32) (.cs (.int .u32) (.cs (.int .u32) (.cs (.int .u32) (.cs (.int .i64) (.cs (.int .i64) (.cs (.int .i64) (.cs (.int .u32) (.cs (.int .u32) (.cs (.int .u32) (.cs (.int .u32) (.cs (.int .u32) (.cs (.int .u32) (.cs (.int .u32) (.cs (.int .u32) (.cs (.int .i64) (.cs (.int .i64) (.cs (.int .i64) (.cs (.int .i64) .nl)))))))))))))))))))))))))))))))) .nl))
def ou7 (l : T7) (y : (Int × (Int × (Int × (Int × (Int × (Int × (Int × (Int × (Int × (Int × (Int × (Int × (Int × (Int × (Int × (Int × (Int × (Int × (Int × (Int × (Int × Int)))))))))))))))))))))) : Ex × St U := (.exit 0, stOf 106 [(0, .im (.slice 3 l.1.1)), (2, .ptr 0 0), (5, .ptr 1 0)] [.var [.im (.int .i64 l.2.1.1), .im (.int .i64 l.2.1.2.1), .im (.int .i64 l.2.1.2.2.1), .im (.bool l.2.1.2.2.2.1), .im (.int .i64 l.2.1.2.2.2.2.1), .im (.int .i64 l.2.1.2.2.2.2.2.1), .im (.int .i64 l.2.1.2.2.2.2.2.2.1), .im (.int .i64 l.2.1.2.2.2.2.2.2.2.1), .im (.int .u32 l.2.1.2.2.2.2.2.2.2.2.1), .im (.int .u32 l.2.1.2.2.2.2.2.2.2.2.2.1), .im (.int .u32 l.2.1.2.2.2.2.2.2.2.2.2.2.1), .im (.int .u32 l.2.1.2.2.2.2.2.2.2.2.2.2.2.1), .im (.int .u32 l.2.1.2.2.2.2.2.2.2.2.2.2.2.2.1), .im (.int .u32 l.2.1.2.2.2.2.2.2.2.2.2.2.2.2.2.1), .im (.int .u32 l.2.1.2.2.2.2.2.2.2.2.2.2.2.2.2.2.1), .im (.int .u32 l.2.1.2.2.2.2.2.2.2.2.2.2.2.2.2.2.2.1), .im (.int .i64 l.2.1.2.2.2.2.2.2.2.2.2.2.2.2.2.2.2.2.1), .im (.int .i64 l.2.1.2.2.2.2.2.2.2.2.2.2.2.2.2.2.2.2.2.1), .im (.int .i64 l.2.1.2.2.2.2.2.2.2.2.2.2.2.2.2.2.2.2.2.2.1), .im (.int .u32 l.2.1.2.2.2.2.2.2.2.2.2.2.2.2.2.2.2.2.2.2.2.1), .im (.int .u32 l.2.1.2.2.2.2.2.2.2.2.2.2.2.2.2.2.2.2.2.2.2.2.1), .im (.int .u32 l.2.1.2.2.2.2.2.2.2.2.2.2.2.2.2.2.2.2.2.2.2.2.2.1), .im (.int .u32 l.2.1.2.2.2.2.2.2.2.2.2.2.2.2.2.2.2.2.2.2.2.2.2.2.1), .im (.int .u32 l.2.1.2.2.2.2.2.2.2.2.2.2.2.2.2.2.2.2.2.2.2.2.2.2.2.1), .im (.int .u32 l.2.1.2.2.2.2.2.2.2.2.2.2.2.2.2.2.2.2.2.2.2.2.2.2.2.2.1), .im (.int .u32 l.2.1.2.2.2.2.2.2.2.2.2.2.2.2.2.2.2.2.2.2.2.2.2.2.2.2.2.1), .im (.int .u32 l.2.1.2.2.2.2.2.2.2.2.2.2.2.2.2.2.2.2.2.2.2.2.2.2.2.2.2.2.1), .im (.int .i64 l.2.1.2.2.2.2.2.2.2.2.2.2.2.2.2.2.2.2.2.2.2.2.2.2.2.2.2.2.2.1), .im (.int .i64 l.2.1.2.2.2.2.2.2.2.2.2.2.2.2.2.2.2.2.2.2.2.2.2.2.2.2.2.2.2.2.1), .im (.int .i64 l.2.1.2.2.2.2.2.2.2.2.2.2.2.2.2.2.2.2.2.2.2.2.2.2.2.2.2.2.2.2.2.1), .im (.int .i64 l.2.1.2.2.2.2.2.2.2.2.2.2.2.2.2.2.2.2.2.2.2.2.2.2.2.2.2.2.2.2.2.2.1)], .var [.im (.int .i64 l.2.2.1.1), .im (.int .i64 l.2.2.1.2.1), .im (.int .i64 l.2.2.1.2.2.1), .im (.bool l.2.2.1.2.2.2.1), .im (.int .i64 l.2.2.1.2.2.2.2.1), .im (.int .i64 y.1), .im (.int .i64 y.2.1), .im (.int .i64 y.2.2.1), .im (.int .u32 y.2.2.2.1), .im (.int .u32 y.2.2.2.2.1), .im (.int .u32 y.2.2.2.2.2.1), .im (.int .u32 y.2.2.2.2.2.2.1), .im (.int .u32 y.2.2.2.2.2.2.2.1), .im (.int .u32 y.2.2.2.2.2.2.2.2.1), .im (.int .u32 y.2.2.2.2.2.2.2.2.2.1), .im (.int .u32 y.2.2.2.2.2.2.2.2.2.2.1), .im (.int .i64 y.2.2.2.2.2.2.2.2.2.2.2.1), .im (.int .i64 y.2.2.2.2.2.2.2.2.2.2.2.2.1), .im (.int .i64 y.2.2.2.2.2.2.2.2.2.2.2.2.2.1), .im (.int .u32 y.2.2.2.2.2.2.2.2.2.2.2.2.2.2.1), .im (.int .u32 y.2.2.2.2.2.2.2.2.2.2.2.2.2.2.2.1), .im (.int .u32 y.2.2.2.2.2.2.2.2.2.2.2.2.2.2.2.2.1), .im (.int .u32 y.2.2.2.2.2.2.2.2.2.2.2.2.2.2.2.2.2.1), .im (.int .u32 y.2.2.2.2.2.2.2.2.2.2.2.2.2.2.2.2.2.2.1), .im (.int .u32 y.2.2.2.2.2.2.2.2.2.2.2.2.2.2.2.2.2.2.2.1), .im (.int .u32 y.2.2.2.2.2.2.2.2.2.2.2.2.2.2.2.2.2.2.2.2.1), .im (.int .u32 y.2.2.2.2.2.2.2.2.2.2.2.2.2.2.2.2.2.2.2.2.2), .im (.int .i64 l.2.2.1.2.2.2.2.2.2.2.2.2.2.2.2.2.2.2.2.2.2.2.2.2.2.2.2.2.2.2.1), .im (.int .i64 l.2.2.1.2.2.2.2.2.2.2.2.2.2.2.2.2.2.2.2.2.2.2.2.2.2.2.2.2.2.2.2.1), .im (.int .i64 l.2.2.1.2.2.2.2.2.2.2.2.2.2.2.2.2.2.2.2.2.2.2.2.2.2.2.2.2.2.2.2.2.1), .im (.int .i64 l.2.2.1.2.2.2.2.2.2.2.2.2.2.2.2.2.2.2.2.2.2.2.2.2.2.2.2.2.2.2.2.2.2.1)]] 0)
noncomputable def Λ7 : LFun U := mkLp (U := U) p7 q7 0 (X := (Int × (Int × (Int × (Int × (Int × (Int × (Int × (Int × (Int × (Int × (Int × (Int × (Int × (Int × (Int × (Int × (Int × (Int × (Int × (Int × (Int × Int)))))))))))))))))))))) (fun (l : T7) => L7 l.1.1 l.1.2.2.2.2.2.2.1 l.2.1.1 l.2.1.2.1 l.2.1.2.2.1 l.2.1.2.2.2.1 l.2.1.2.2.2.2.1 l.2.1.2.2.2.2.2.1 l.2.1.2.2.2.2.2.2.1 l.2.1.2.2.2.2.2.2.2.1 l.2.1.2.2.2.2.2.2.2.2.1 l.2.1.2.2.2.2.2.2.2.2.2.1 l.2.1.2.2.2.2.2.2.2.2.2.2.1 l.2.1.2.2.2.2.2.2.2.2.2.2.2.1 l.2.1.2.2.2.2.2.2.2.2.2.2.2.2.1 l.2.1.2.2.2.2.2.2.2.2.2.2.2.2.2.1 l.2.1.2.2.2.2.2.2.2.2.2.2.2.2.2.2.1 l.2.1.2.2.2.2.2.2.2.2.2.2.2.2.2.2.2.1 l.2.1.2.2.2.2.2.2.2.2.2.2.2.2.2.2.2.2.1 l.2.1.2.2.2.2.2.2.2.2.2.2.2.2.2.2.2.2.2.1 l.2.1.2.2.2.2.2.2.2.2.2.2.2.2.2.2.2.2.2.2.1 l.2.1.2.2.2.2.2.2.2.2.2.2.2.2.2.2.2.2.2.2.2.1 l.2.1.2.2.2.2.2.2.2.2.2.2.2.2.2.2.2.2.2.2.2.2.1 l.2.1.2.2.2.2.2.2.2.2.2.2.2.2.2.2.2.2.2.2.2.2.2.1 l.2.1.2.2.2.2.2.2.2.2.2.2.2.2.2.2.2.2.2.2.2.2.2.2.1 l.2.1.2.2.2.2.2.2.2.2.2.2.2.2.2.2.2.2.2.2.2.2.2.2.2.1 l.2.1.2.2.2.2.2.2.2.2.2.2.2.2.2.2.2.2.2.2.2.2.2.2.2.2.1 l.2.1.2.2.2.2.2.2.2.2.2.2.2.2.2.2.2.2.2.2.2.2.2.2.2.2.2.1 l.2.1.2.2.2.2.2.2.2.2.2.2.2.2.2.2.2.2.2.2.2.2.2.2.2.2.2.2.1 l.2.1.2.2.2.2.2.2.2.2.2.2.2.2.2.2.2.2.2.2.2.2.2.2.2.2.2.2.2.1 l.2.1.2.2.2.2.2.2.2.2.2.2.2.2.2.2.2.2.2.2.2.2.2.2.2.2.2.2.2.2.1 l.2.1.2.2.2.2.2.2.2.2.2.2.2.2.2.2.2.2.2.2.2.2.2.2.2.2.2.2.2.2.2.1 l.2.1.2.2.2.2.2.2.2.2.2.2.2.2.2.2.2.2.2.2.2.2.2.2.2.2.2.2.2.2.2.2.1 l.2.2.1.1 l.2.2.1.2.1 l.2.2.1.2.2.1 l.2.2.1.2.2.2.1 l.2.2.1.2.2.2.2.1 l.2.2.1.2.2.2.2.2.1 l.2.2.1.2.2.2.2.2.2.1 l.2.2.1.2.2.2.2.2.2.2.1 l.2.2.1.2.2.2.2.2.2.2.2.1 l.2.2.1.2.2.2.2.2.2.2.2.2.1 l.2.2.1.2.2.2.2.2.2.2.2.2.2.1 l.2.2.1.2.2.2.2.2.2.2.2.2.2.2.1 l.2.2.1.2.2.2.2.2.2.2.2.2.2.2.2.1 l.2.2.1.2.2.2.2.2.2.2.2.2.2.2.2.2.1 l.2.2.1.2.2.2.2.2.2.2.2.2.2.2.2.2.2.1 l.2.2.1.2.2.2.2.2.2.2.2.2.2.2.2.2.2.2.1 l.2.2.1.2.2.2.2.2.2.2.2.2.2.2.2.2.2.2.2.1 l.2.2.1.2.2.2.2.2.2.2.2.2.2.2.2.2.2.2.2.2.1 l.2.2.1.2.2.2.2.2.2.2.2.2.2.2.2.2.2.2.2.2.2.1 l.2.2.1.2.2.2.2.2.2.2.2.2.2.2.2.2.2.2.2.2.2.2.1 l.2.2.1.2.2.2.2.2.2.2.2.2.2.2.2.2.2.2.2.2.2.2.2.1 l.2.2.1.2.2.2.2.2.2.2.2.2.2.2.2.2.2.2.2.2.2.2.2.2.1 l.2.2.1.2.2.2.2.2.2.2.2.2.2.2.2.2.2.2.2.2.2.2.2.2.2.1 l.2.2.1.2.2.2.2.2.2.2.2.2.2.2.2.2.2.2.2.2.2.2.2.2.2.2.1 l.2.2.1.2.2.2.2.2.2.2.2.2.2.2.2.2.2.2.2.2.2.2.2.2.2.2.2.1 l.2.2.1.2.2.2.2.2.2.2.2.2.2.2.2.2.2.2.2.2.2.2.2.2.2.2.2.2.1 l.2.2.1.2.2.2.2.2.2.2.2.2.2.2.2.2.2.2.2.2.2.2.2.2.2.2.2.2.2.1 l.2.2.1.2.2.2.2.2.2.2.2.2.2.2.2.2.2.2.2.2.2.2.2.2.2.2.2.2.2.2.1 l.2.2.1.2.2.2.2.2.2.2.2.2.2.2.2.2.2.2.2.2.2.2.2.2.2.2.2.2.2.2.2.1 l.2.2.1.2.2.2.2.2.2.2.2.2.2.2.2.2.2.2.2.2.2.2.2.2.2.2.2.2.2.2.2.2.1 l.2.2.1.2.2.2.2.2.2.2.2.2.2.2.2.2.2.2.2.2.2.2.2.2.2.2.2.2.2.2.2.2.2.1) sp1 ou7
noncomputable def t (w : (List Int)) : Tw (Int × (Int × (Int × (Bool × (Int × (Int × (Int × (Int × (Int × (Int × (Int × (Int × (Int × (Int × (Int × (Int × (Int × (Int × (Int × (Int × (Int × (Int × (Int × (Int × (Int × (Int × (Int × (Int × (Int × (Int × (Int × Int))))))))))))))))))))))))))))))) :=
 (.bb ((((List.length w) : Nat) : Int) != (26 : Int))
  (.ret ((0 : Int), ((0 : Int), ((0 : Int), (false, ((0 : Int), ((0 : Int), ((0 : Int), ((0 : Int), ((0 : Int), ((0 : Int), ((0 : Int), ((0 : Int), ((0 : Int), ((0 : Int), ((0 : Int), ((0 : Int), ((0 : Int), ((0 : Int), ((0 : Int), ((0 : Int), ((0 : Int), ((0 : Int), ((0 : Int), ((0 : Int), ((0 : Int), ((0 : Int), ((0 : Int), ((0 : Int), ((0 : Int), ((0 : Int), ((0 : Int), (4 : Int)))))))))))))))))))))))))))))))))
  (.opt (w)[(Int.toNat (0 : Int))]? fun z1 =>
   (.opt (w)[(Int.toNat (1 : Int))]? fun z2 =>
    (.opt (w)[(Int.toNat (2 : Int))]? fun z3 =>
     (.opt (w)[(Int.toNat (3 : Int))]? fun z4 =>
      (.opt (w)[(Int.toNat (4 : Int))]? fun z5 =>
       (.opt (w)[(Int.toNat (5 : Int))]? fun z6 =>
        (.opt (L7 w (0 : Int) (0 : Int) (0 : Int) (0 : Int) false (0 : Int) (0 : Int) (0 : Int) (0 : Int) (0 : Int) (0 : Int) (0 : Int) (0 : Int) (0 : Int) (0 : Int) (0 : Int) (0 : Int) (0 : Int) (0 : Int) (0 : Int) (0 : Int) (0 : Int) (0 : Int) (0 : Int) (0 : Int) (0 : Int) (0 : Int) (0 : Int) (0 : Int) (0 : Int) (0 : Int) (0 : Int) (bAnd .i64 (w64 z1) (255 : Int)) (bAnd .i64 (bShr .i64 (w64 z1) (8 : Int)) (255 : Int)) (bAnd .i64 (bShr .i64 (w64 z1) (16 : Int)) (255 : Int)) ((bShr .i64 (w64 z1) (24 : Int)) == (1 : Int)) (w64 z2) (0 : Int) (0 : Int) (0 : Int) (0 : Int) (0 : Int) (0 : Int) (0 : Int) (0 : Int) (0 : Int) (0 : Int) (0 : Int) (0 : Int) (0 : Int) (0 : Int) (0 : Int) (0 : Int) (0 : Int) (0 : Int) (0 : Int) (0 : Int) (0 : Int) (0 : Int) (w64 z3) (w64 z4) (w64 ((w64 z5) - (1 : Int))) (w64 z6)) fun z10 =>
         (.opt (book_Lay.c (bAnd .i64 (w64 z1) (255 : Int)) (bAnd .i64 (bShr .i64 (w64 z1) (8 : Int)) (255 : Int)) (bAnd .i64 (bShr .i64 (w64 z1) (16 : Int)) (255 : Int)) ((bShr .i64 (w64 z1) (24 : Int)) == (1 : Int)) (w64 z2) z10.1 z10.2.1 z10.2.2.1 z10.2.2.2.1 z10.2.2.2.2.1 z10.2.2.2.2.2.1 z10.2.2.2.2.2.2.1 z10.2.2.2.2.2.2.2.1 z10.2.2.2.2.2.2.2.2.1 z10.2.2.2.2.2.2.2.2.2.1 z10.2.2.2.2.2.2.2.2.2.2.1 z10.2.2.2.2.2.2.2.2.2.2.2.1 z10.2.2.2.2.2.2.2.2.2.2.2.2.1 z10.2.2.2.2.2.2.2.2.2.2.2.2.2.1 z10.2.2.2.2.2.2.2.2.2.2.2.2.2.2.1 z10.2.2.2.2.2.2.2.2.2.2.2.2.2.2.2.1 z10.2.2.2.2.2.2.2.2.2.2.2.2.2.2.2.2.1 z10.2.2.2.2.2.2.2.2.2.2.2.2.2.2.2.2.2.1 z10.2.2.2.2.2.2.2.2.2.2.2.2.2.2.2.2.2.2.1 z10.2.2.2.2.2.2.2.2.2.2.2.2.2.2.2.2.2.2.2.1 z10.2.2.2.2.2.2.2.2.2.2.2.2.2.2.2.2.2.2.2.2.1 z10.2.2.2.2.2.2.2.2.2.2.2.2.2.2.2.2.2.2.2.2.2 (w64 z3) (w64 z4) (w64 ((w64 z5) - (1 : Int))) (w64 z6)) fun z11 =>
          (.bb (z11.1 != (0 : Int))
           (.ret ((0 : Int), ((0 : Int), ((0 : Int), (false, ((0 : Int), ((0 : Int), ((0 : Int), ((0 : Int), ((0 : Int), ((0 : Int), ((0 : Int), ((0 : Int), ((0 : Int), ((0 : Int), ((0 : Int), ((0 : Int), ((0 : Int), ((0 : Int), ((0 : Int), ((0 : Int), ((0 : Int), ((0 : Int), ((0 : Int), ((0 : Int), ((0 : Int), ((0 : Int), ((0 : Int), ((0 : Int), ((0 : Int), ((0 : Int), ((0 : Int), (4 : Int)))))))))))))))))))))))))))))))))
           (.opt (slices_Equal__uint32uint32.c z11.2 w) fun z12 =>
            (.bb (!z12)
             (.ret ((0 : Int), ((0 : Int), ((0 : Int), (false, ((0 : Int), ((0 : Int), ((0 : Int), ((0 : Int), ((0 : Int), ((0 : Int), ((0 : Int), ((0 : Int), ((0 : Int), ((0 : Int), ((0 : Int), ((0 : Int), ((0 : Int), ((0 : Int), ((0 : Int), ((0 : Int), ((0 : Int), ((0 : Int), ((0 : Int), ((0 : Int), ((0 : Int), ((0 : Int), ((0 : Int), ((0 : Int), ((0 : Int), ((0 : Int), ((0 : Int), (4 : Int)))))))))))))))))))))))))))))))))
             (.ret ((bAnd .i64 (w64 z1) (255 : Int)), ((bAnd .i64 (bShr .i64 (w64 z1) (8 : Int)) (255 : Int)), ((bAnd .i64 (bShr .i64 (w64 z1) (16 : Int)) (255 : Int)), (((bShr .i64 (w64 z1) (24 : Int)) == (1 : Int)), ((w64 z2), (z10.1, (z10.2.1, (z10.2.2.1, (z10.2.2.2.1, (z10.2.2.2.2.1, (z10.2.2.2.2.2.1, (z10.2.2.2.2.2.2.1, (z10.2.2.2.2.2.2.2.1, (z10.2.2.2.2.2.2.2.2.1, (z10.2.2.2.2.2.2.2.2.2.1, (z10.2.2.2.2.2.2.2.2.2.2.1, (z10.2.2.2.2.2.2.2.2.2.2.2.1, (z10.2.2.2.2.2.2.2.2.2.2.2.2.1, (z10.2.2.2.2.2.2.2.2.2.2.2.2.2.1, (z10.2.2.2.2.2.2.2.2.2.2.2.2.2.2.1, (z10.2.2.2.2.2.2.2.2.2.2.2.2.2.2.2.1, (z10.2.2.2.2.2.2.2.2.2.2.2.2.2.2.2.2.1, (z10.2.2.2.2.2.2.2.2.2.2.2.2.2.2.2.2.2.1, (z10.2.2.2.2.2.2.2.2.2.2.2.2.2.2.2.2.2.2.1, (z10.2.2.2.2.2.2.2.2.2.2.2.2.2.2.2.2.2.2.2.1, (z10.2.2.2.2.2.2.2.2.2.2.2.2.2.2.2.2.2.2.2.2.1, (z10.2.2.2.2.2.2.2.2.2.2.2.2.2.2.2.2.2.2.2.2.2, ((w64 z3), ((w64 z4), ((w64 ((w64 z5) - (1 : Int))), ((w64 z6), (0 : Int)))))))))))))))))))))))))))))))))))))))))))))
noncomputable def c (w : (List Int)) : Option (Int × (Int × (Int × (Bool × (Int × (Int × (Int × (Int × (Int × (Int × (Int × (Int × (Int × (Int × (Int × (Int × (Int × (Int × (Int × (Int × (Int × (Int × (Int × (Int × (Int × (Int × (Int × (Int × (Int × (Int × (Int × Int))))))))))))))))))))))))))))))) := (t w).run
def pA : Pt := (.cs (.sl 3) .nl)
def pH : Pt := .nl
def v (l : TA) (y : (Int × (Int × (Int × (Bool × (Int × (Int × (Int × (Int × (Int × (Int × (Int × (Int × (Int × (Int × (Int × (Int × (Int × (Int × (Int × (Int × (Int × (Int × (Int × (Int × (Int × (Int × (Int × (Int × (Int × (Int × (Int × Int)))))))))))))))))))))))))))))))) : AV U := .tup [.agg [.im (.int .i64 y.1), .im (.int .i64 y.2.1), .im (.int .i64 y.2.2.1), .im (.bool y.2.2.2.1), .im (.int .i64 y.2.2.2.2.1), .im (.int .i64 y.2.2.2.2.2.1), .im (.int .i64 y.2.2.2.2.2.2.1), .im (.int .i64 y.2.2.2.2.2.2.2.1), .im (.int .u32 y.2.2.2.2.2.2.2.2.1), .im (.int .u32 y.2.2.2.2.2.2.2.2.2.1), .im (.int .u32 y.2.2.2.2.2.2.2.2.2.2.1), .im (.int .u32 y.2.2.2.2.2.2.2.2.2.2.2.1), .im (.int .u32 y.2.2.2.2.2.2.2.2.2.2.2.2.1), .im (.int .u32 y.2.2.2.2.2.2.2.2.2.2.2.2.2.1), .im (.int .u32 y.2.2.2.2.2.2.2.2.2.2.2.2.2.2.1), .im (.int .u32 y.2.2.2.2.2.2.2.2.2.2.2.2.2.2.2.1), .im (.int .i64 y.2.2.2.2.2.2.2.2.2.2.2.2.2.2.2.2.1), .im (.int .i64 y.2.2.2.2.2.2.2.2.2.2.2.2.2.2.2.2.2.1), .im (.int .i64 y.2.2.2.2.2.2.2.2.2.2.2.2.2.2.2.2.2.2.1), .im (.int .u32 y.2.2.2.2.2.2.2.2.2.2.2.2.2.2.2.2.2.2.2.1), .im (.int .u32 y.2.2.2.2.2.2.2.2.2.2.2.2.2.2.2.2.2.2.2.2.1), .im (.int .u32 y.2.2.2.2.2.2.2.2.2.2.2.2.2.2.2.2.2.2.2.2.2.1), .im (.int .u32 y.2.2.2.2.2.2.2.2.2.2.2.2.2.2.2.2.2.2.2.2.2.2.1), .im (.int .u32 y.2.2.2.2.2.2.2.2.2.2.2.2.2.2.2.2.2.2.2.2.2.2.2.1), .im (.int .u32 y.2.2.2.2.2.2.2.2.2.2.2.2.2.2.2.2.2.2.2.2.2.2.2.2.1), .im (.int .u32 y.2.2.2.2.2.2.2.2.2.2.2.2.2.2.2.2.2.2.2.2.2.2.2.2.2.1), .im (.int .u32 y.2.2.2.2.2.2.2.2.2.2.2.2.2.2.2.2.2.2.2.2.2.2.2.2.2.2.1), .im (.int .i64 y.2.2.2.2.2.2.2.2.2.2.2.2.2.2.2.2.2.2.2.2.2.2.2.2.2.2.2.1), .im (.int .i64 y.2.2.2.2.2.2.2.2.2.2.2.2.2.2.2.2.2.2.2.2.2.2.2.2.2.2.2.2.1), .im (.int .i64 y.2.2.2.2.2.2.2.2.2.2.2.2.2.2.2.2.2.2.2.2.2.2.2.2.2.2.2.2.2.1), .im (.int .i64 y.2.2.2.2.2.2.2.2.2.2.2.2.2.2.2.2.2.2.2.2.2.2.2.2.2.2.2.2.2.2.1)], .im (.int .i64 y.2.2.2.2.2.2.2.2.2.2.2.2.2.2.2.2.2.2.2.2.2.2.2.2.2.2.2.2.2.2.2)]
def hh (l : TA) (y : (Int × (Int × (Int × (Bool × (Int × (Int × (Int × (Int × (Int × (Int × (Int × (Int × (Int × (Int × (Int × (Int × (Int × (Int × (Int × (Int × (Int × (Int × (Int × (Int × (Int × (Int × (Int × (Int × (Int × (Int × (Int × Int)))))))))))))))))))))))))))))))) : Hp U := []
noncomputable def A : AFun U := mkA (U := U) pA pH (X := (Int × (Int × (Int × (Bool × (Int × (Int × (Int × (Int × (Int × (Int × (Int × (Int × (Int × (Int × (Int × (Int × (Int × (Int × (Int × (Int × (Int × (Int × (Int × (Int × (Int × (Int × (Int × (Int × (Int × (Int × (Int × Int)))))))))))))))))))))))))))))))) (fun (l : TA) => c l.1.1) sp1 v hh
noncomputable def body : Code := (Go.Func.body Try.f42).getD .skip
noncomputable def Γ : List (FuncId × AFun U) := [(40, book_Lay.A), (106, slices_Equal__uint32uint32.A)]
noncomputable def Λ : List (Nat × LFun U) := [(7, Λ7)]
noncomputable def CT : List (Nat × LFun U) := []
def ro : List FuncId := []
def D : Nat → Lv × Lv := dtab [(7, ⟨[55, 5, 0, 2], []⟩, ⟨[2, 3, 5, 0], []⟩)]
noncomputable def E : Env U := { E0 with Γ := Γ, Λ := Λ, C := CT, D := D, ro := ro }
theorem hf7 (R : Type) (l : T7) (s : (Int × (Int × (Int × (Int × (Int × (Int × (Int × (Int × (Int × (Int × (Int × (Int × (Int × (Int × (Int × (Int × (Int × (Int × (Int × (Int × (Int × (Int × Int))))))))))))))))))))))) (K : Ex → St U → Option R) : codeA E (pick (loopsOf body) 7) ⟨p7.mkL (((l.1.1, ((), ((), ((), ((), ((), (s.1, ((), ())))))))), ((l.2.1.1, (l.2.1.2.1, (l.2.1.2.2.1, (l.2.1.2.2.2.1, (l.2.1.2.2.2.2.1, (l.2.1.2.2.2.2.2.1, (l.2.1.2.2.2.2.2.2.1, (l.2.1.2.2.2.2.2.2.2.1, (l.2.1.2.2.2.2.2.2.2.2.1, (l.2.1.2.2.2.2.2.2.2.2.2.1, (l.2.1.2.2.2.2.2.2.2.2.2.2.1, (l.2.1.2.2.2.2.2.2.2.2.2.2.2.1, (l.2.1.2.2.2.2.2.2.2.2.2.2.2.2.1, (l.2.1.2.2.2.2.2.2.2.2.2.2.2.2.2.1, (l.2.1.2.2.2.2.2.2.2.2.2.2.2.2.2.2.1, (l.2.1.2.2.2.2.2.2.2.2.2.2.2.2.2.2.2.1, (l.2.1.2.2.2.2.2.2.2.2.2.2.2.2.2.2.2.2.1, (l.2.1.2.2.2.2.2.2.2.2.2.2.2.2.2.2.2.2.2.1, (l.2.1.2.2.2.2.2.2.2.2.2.2.2.2.2.2.2.2.2.2.1, (l.2.1.2.2.2.2.2.2.2.2.2.2.2.2.2.2.2.2.2.2.2.1, (l.2.1.2.2.2.2.2.2.2.2.2.2.2.2.2.2.2.2.2.2.2.2.1, (l.2.1.2.2.2.2.2.2.2.2.2.2.2.2.2.2.2.2.2.2.2.2.2.1, (l.2.1.2.2.2.2.2.2.2.2.2.2.2.2.2.2.2.2.2.2.2.2.2.2.1, (l.2.1.2.2.2.2.2.2.2.2.2.2.2.2.2.2.2.2.2.2.2.2.2.2.2.1, (l.2.1.2.2.2.2.2.2.2.2.2.2.2.2.2.2.2.2.2.2.2.2.2.2.2.2.1, (l.2.1.2.2.2.2.2.2.2.2.2.2.2.2.2.2.2.2.2.2.2.2.2.2.2.2.2.1, (l.2.1.2.2.2.2.2.2.2.2.2.2.2.2.2.2.2.2.2.2.2.2.2.2.2.2.2.2.1, (l.2.1.2.2.2.2.2.2.2.2.2.2.2.2.2.2.2.2.2.2.2.2.2.2.2.2.2.2.2.1, (l.2.1.2.2.2.2.2.2.2.2.2.2.2.2.2.2.2.2.2.2.2.2.2.2.2.2.2.2.2.2.1, (l.2.1.2.2.2.2.2.2.2.2.2.2.2.2.2.2.2.2.2.2.2.2.2.2.2.2.2.2.2.2.2.1, (l.2.1.2.2.2.2.2.2.2.2.2.2.2.2.2.2.2.2.2.2.2.2.2.2.2.2.2.2.2.2.2.2.1, ()))))))))))))))))))))))))))))))), ((l.2.2.1.1, (l.2.2.1.2.1, (l.2.2.1.2.2.1, (l.2.2.1.2.2.2.1, (l.2.2.1.2.2.2.2.1, (s.2.1, (s.2.2.1, (s.2.2.2.1, (s.2.2.2.2.1, (s.2.2.2.2.2.1, (s.2.2.2.2.2.2.1, (s.2.2.2.2.2.2.2.1, (s.2.2.2.2.2.2.2.2.1, (s.2.2.2.2.2.2.2.2.2.1, (s.2.2.2.2.2.2.2.2.2.2.1, (s.2.2.2.2.2.2.2.2.2.2.2.1, (s.2.2.2.2.2.2.2.2.2.2.2.2.1, (s.2.2.2.2.2.2.2.2.2.2.2.2.2.1, (s.2.2.2.2.2.2.2.2.2.2.2.2.2.2.1, (s.2.2.2.2.2.2.2.2.2.2.2.2.2.2.2.1, (s.2.2.2.2.2.2.2.2.2.2.2.2.2.2.2.2.1, (s.2.2.2.2.2.2.2.2.2.2.2.2.2.2.2.2.2.1, (s.2.2.2.2.2.2.2.2.2.2.2.2.2.2.2.2.2.2.1, (s.2.2.2.2.2.2.2.2.2.2.2.2.2.2.2.2.2.2.2.1, (s.2.2.2.2.2.2.2.2.2.2.2.2.2.2.2.2.2.2.2.2.1, (s.2.2.2.2.2.2.2.2.2.2.2.2.2.2.2.2.2.2.2.2.2.1, (s.2.2.2.2.2.2.2.2.2.2.2.2.2.2.2.2.2.2.2.2.2.2, (l.2.2.1.2.2.2.2.2.2.2.2.2.2.2.2.2.2.2.2.2.2.2.2.2.2.2.2.2.2.2.1, (l.2.2.1.2.2.2.2.2.2.2.2.2.2.2.2.2.2.2.2.2.2.2.2.2.2.2.2.2.2.2.2.1, (l.2.2.1.2.2.2.2.2.2.2.2.2.2.2.2.2.2.2.2.2.2.2.2.2.2.2.2.2.2.2.2.2.1, (l.2.2.1.2.2.2.2.2.2.2.2.2.2.2.2.2.2.2.2.2.2.2.2.2.2.2.2.2.2.2.2.2.2.1, ()))))))))))))))))))))))))))))))), ()))) : T7).1, q7.mkH (((l.1.1, ((), ((), ((), ((), ((), (s.1, ((), ())))))))), ((l.2.1.1, (l.2.1.2.1, (l.2.1.2.2.1, (l.2.1.2.2.2.1, (l.2.1.2.2.2.2.1, (l.2.1.2.2.2.2.2.1, (l.2.1.2.2.2.2.2.2.1, (l.2.1.2.2.2.2.2.2.2.1, (l.2.1.2.2.2.2.2.2.2.2.1, (l.2.1.2.2.2.2.2.2.2.2.2.1, (l.2.1.2.2.2.2.2.2.2.2.2.2.1, (l.2.1.2.2.2.2.2.2.2.2.2.2.2.1, (l.2.1.2.2.2.2.2.2.2.2.2.2.2.2.1, (l.2.1.2.2.2.2.2.2.2.2.2.2.2.2.2.1, (l.2.1.2.2.2.2.2.2.2.2.2.2.2.2.2.2.1, (l.2.1.2.2.2.2.2.2.2.2.2.2.2.2.2.2.2.1, (l.2.1.2.2.2.2.2.2.2.2.2.2.2.2.2.2.2.2.1, (l.2.1.2.2.2.2.2.2.2.2.2.2.2.2.2.2.2.2.2.1, (l.2.1.2.2.2.2.2.2.2.2.2.2.2.2.2.2.2.2.2.2.1, (l.2.1.2.2.2.2.2.2.2.2.2.2.2.2.2.2.2.2.2.2.2.1, (l.2.1.2.2.2.2.2.2.2.2.2.2.2.2.2.2.2.2.2.2.2.2.1, (l.2.1.2.2.2.2.2.2.2.2.2.2.2.2.2.2.2.2.2.2.2.2.2.1, (l.2.1.2.2.2.2.2.2.2.2.2.2.2.2.2.2.2.2.2.2.2.2.2.2.1, (l.2.1.2.2.2.2.2.2.2.2.2.2.2.2.2.2.2.2.2.2.2.2.2.2.2.1, (l.2.1.2.2.2.2.2.2.2.2.2.2.2.2.2.2.2.2.2.2.2.2.2.2.2.2.1, (l.2.1.2.2.2.2.2.2.2.2.2.2.2.2.2.2.2.2.2.2.2.2.2.2.2.2.2.1, (l.2.1.2.2.2.2.2.2.2.2.2.2.2.2.2.2.2.2.2.2.2.2.2.2.2.2.2.2.1, (l.2.1.2.2.2.2.2.2.2.2.2.2.2.2.2.2.2.2.2.2.2.2.2.2.2.2.2.2.2.1, (l.2.1.2.2.2.2.2.2.2.2.2.2.2.2.2.2.2.2.2.2.2.2.2.2.2.2.2.2.2.2.1, (l.2.1.2.2.2.2.2.2.2.2.2.2.2.2.2.2.2.2.2.2.2.2.2.2.2.2.2.2.2.2.2.1, (l.2.1.2.2.2.2.2.2.2.2.2.2.2.2.2.2.2.2.2.2.2.2.2.2.2.2.2.2.2.2.2.2.1, ()))))))))))))))))))))))))))))))), ((l.2.2.1.1, (l.2.2.1.2.1, (l.2.2.1.2.2.1, (l.2.2.1.2.2.2.1, (l.2.2.1.2.2.2.2.1, (s.2.1, (s.2.2.1, (s.2.2.2.1, (s.2.2.2.2.1, (s.2.2.2.2.2.1, (s.2.2.2.2.2.2.1, (s.2.2.2.2.2.2.2.1, (s.2.2.2.2.2.2.2.2.1, (s.2.2.2.2.2.2.2.2.2.1, (s.2.2.2.2.2.2.2.2.2.2.1, (s.2.2.2.2.2.2.2.2.2.2.2.1, (s.2.2.2.2.2.2.2.2.2.2.2.2.1, (s.2.2.2.2.2.2.2.2.2.2.2.2.2.1, (s.2.2.2.2.2.2.2.2.2.2.2.2.2.2.1, (s.2.2.2.2.2.2.2.2.2.2.2.2.2.2.2.1, (s.2.2.2.2.2.2.2.2.2.2.2.2.2.2.2.2.1, (s.2.2.2.2.2.2.2.2.2.2.2.2.2.2.2.2.2.1, (s.2.2.2.2.2.2.2.2.2.2.2.2.2.2.2.2.2.2.1, (s.2.2.2.2.2.2.2.2.2.2.2.2.2.2.2.2.2.2.2.1, (s.2.2.2.2.2.2.2.2.2.2.2.2.2.2.2.2.2.2.2.2.1, (s.2.2.2.2.2.2.2.2.2.2.2.2.2.2.2.2.2.2.2.2.2.1, (s.2.2.2.2.2.2.2.2.2.2.2.2.2.2.2.2.2.2.2.2.2.2, (l.2.2.1.2.2.2.2.2.2.2.2.2.2.2.2.2.2.2.2.2.2.2.2.2.2.2.2.2.2.2.1, (l.2.2.1.2.2.2.2.2.2.2.2.2.2.2.2.2.2.2.2.2.2.2.2.2.2.2.2.2.2.2.2.1, (l.2.2.1.2.2.2.2.2.2.2.2.2.2.2.2.2.2.2.2.2.2.2.2.2.2.2.2.2.2.2.2.2.1, (l.2.2.1.2.2.2.2.2.2.2.2.2.2.2.2.2.2.2.2.2.2.2.2.2.2.2.2.2.2.2.2.2.2.1, ()))))))))))))))))))))))))))))))), ()))) : T7).2, 0⟩ (roundK E (pick (loopsOf body) 7) K) =
  (l7 l.1.1 l.2.1.1 l.2.1.2.1 l.2.1.2.2.1 l.2.1.2.2.2.1 l.2.1.2.2.2.2.1 l.2.1.2.2.2.2.2.1 l.2.1.2.2.2.2.2.2.1 l.2.1.2.2.2.2.2.2.2.1 l.2.1.2.2.2.2.2.2.2.2.1 l.2.1.2.2.2.2.2.2.2.2.2.1 l.2.1.2.2.2.2.2.2.2.2.2.2.1 l.2.1.2.2.2.2.2.2.2.2.2.2.2.1 l.2.1.2.2.2.2.2.2.2.2.2.2.2.2.1 l.2.1.2.2.2.2.2.2.2.2.2.2.2.2.2.1 l.2.1.2.2.2.2.2.2.2.2.2.2.2.2.2.2.1 l.2.1.2.2.2.2.2.2.2.2.2.2.2.2.2.2.2.1 l.2.1.2.2.2.2.2.2.2.2.2.2.2.2.2.2.2.2.1 l.2.1.2.2.2.2.2.2.2.2.2.2.2.2.2.2.2.2.2.1 l.2.1.2.2.2.2.2.2.2.2.2.2.2.2.2.2.2.2.2.2.1 l.2.1.2.2.2.2.2.2.2.2.2.2.2.2.2.2.2.2.2.2.2.1 l.2.1.2.2.2.2.2.2.2.2.2.2.2.2.2.2.2.2.2.2.2.2.1 l.2.1.2.2.2.2.2.2.2.2.2.2.2.2.2.2.2.2.2.2.2.2.2.1 l.2.1.2.2.2.2.2.2.2.2.2.2.2.2.2.2.2.2.2.2.2.2.2.2.1 l.2.1.2.2.2.2.2.2.2.2.2.2.2.2.2.2.2.2.2.2.2.2.2.2.2.1 l.2.1.2.2.2.2.2.2.2.2.2.2.2.2.2.2.2.2.2.2.2.2.2.2.2.2.1 l.2.1.2.2.2.2.2.2.2.2.2.2.2.2.2.2.2.2.2.2.2.2.2.2.2.2.2.1 l.2.1.2.2.2.2.2.2.2.2.2.2.2.2.2.2.2.2.2.2.2.2.2.2.2.2.2.2.1 l.2.1.2.2.2.2.2.2.2.2.2.2.2.2.2.2.2.2.2.2.2.2.2.2.2.2.2.2.2.1 l.2.1.2.2.2.2.2.2.2.2.2.2.2.2.2.2.2.2.2.2.2.2.2.2.2.2.2.2.2.2.1 l.2.1.2.2.2.2.2.2.2.2.2.2.2.2.2.2.2.2.2.2.2.2.2.2.2.2.2.2.2.2.2.1 l.2.1.2.2.2.2.2.2.2.2.2.2.2.2.2.2.2.2.2.2.2.2.2.2.2.2.2.2.2.2.2.2.1 l.2.2.1.1 l.2.2.1.2.1 l.2.2.1.2.2.1 l.2.2.1.2.2.2.1 l.2.2.1.2.2.2.2.1 l.2.2.1.2.2.2.2.2.2.2.2.2.2.2.2.2.2.2.2.2.2.2.2.2.2.2.2.2.2.2.1 l.2.2.1.2.2.2.2.2.2.2.2.2.2.2.2.2.2.2.2.2.2.2.2.2.2.2.2.2.2.2.2.1 l.2.2.1.2.2.2.2.2.2.2.2.2.2.2.2.2.2.2.2.2.2.2.2.2.2.2.2.2.2.2.2.2.1 l.2.2.1.2.2.2.2.2.2.2.2.2.2.2.2.2.2.2.2.2.2.2.2.2.2.2.2.2.2.2.2.2.2.1 s.1 s.2.1 s.2.2.1 s.2.2.2.1 s.2.2.2.2.1 s.2.2.2.2.2.1 s.2.2.2.2.2.2.1 s.2.2.2.2.2.2.2.1 s.2.2.2.2.2.2.2.2.1 s.2.2.2.2.2.2.2.2.2.1 s.2.2.2.2.2.2.2.2.2.2.1 s.2.2.2.2.2.2.2.2.2.2.2.1 s.2.2.2.2.2.2.2.2.2.2.2.2.1 s.2.2.2.2.2.2.2.2.2.2.2.2.2.1 s.2.2.2.2.2.2.2.2.2.2.2.2.2.2.1 s.2.2.2.2.2.2.2.2.2.2.2.2.2.2.2.1 s.2.2.2.2.2.2.2.2.2.2.2.2.2.2.2.2.1 s.2.2.2.2.2.2.2.2.2.2.2.2.2.2.2.2.2.1 s.2.2.2.2.2.2.2.2.2.2.2.2.2.2.2.2.2.2.1 s.2.2.2.2.2.2.2.2.2.2.2.2.2.2.2.2.2.2.2.1 s.2.2.2.2.2.2.2.2.2.2.2.2.2.2.2.2.2.2.2.2.1 s.2.2.2.2.2.2.2.2.2.2.2.2.2.2.2.2.2.2.2.2.2.1 s.2.2.2.2.2.2.2.2.2.2.2.2.2.2.2.2.2.2.2.2.2.2).runK (lpK K (fun s => ⟨p7.mkL (((l.1.1, ((), ((), ((), ((), ((), (s.1, ((), ())))))))), ((l.2.1.1, (l.2.1.2.1, (l.2.1.2.2.1, (l.2.1.2.2.2.1, (l.2.1.2.2.2.2.1, (l.2.1.2.2.2.2.2.1, (l.2.1.2.2.2.2.2.2.1, (l.2.1.2.2.2.2.2.2.2.1, (l.2.1.2.2.2.2.2.2.2.2.1, (l.2.1.2.2.2.2.2.2.2.2.2.1, (l.2.1.2.2.2.2.2.2.2.2.2.2.1, (l.2.1.2.2.2.2.2.2.2.2.2.2.2.1, (l.2.1.2.2.2.2.2.2.2.2.2.2.2.2.1, (l.2.1.2.2.2.2.2.2.2.2.2.2.2.2.2.1, (l.2.1.2.2.2.2.2.2.2.2.2.2.2.2.2.2.1, (l.2.1.2.2.2.2.2.2.2.2.2.2.2.2.2.2.2.1, (l.2.1.2.2.2.2.2.2.2.2.2.2.2.2.2.2.2.2.1, (l.2.1.2.2.2.2.2.2.2.2.2.2.2.2.2.2.2.2.2.1, (l.2.1.2.2.2.2.2.2.2.2.2.2.2.2.2.2.2.2.2.2.1, (l.2.1.2.2.2.2.2.2.2.2.2.2.2.2.2.2.2.2.2.2.2.1, (l.2.1.2.2.2.2.2.2.2.2.2.2.2.2.2.2.2.2.2.2.2.2.1, (l.2.1.2.2.2.2.2.2.2.2.2.2.2.2.2.2.2.2.2.2.2.2.2.1, (l.2.1.2.2.2.2.2.2.2.2.2.2.2.2.2.2.2.2.2.2.2.2.2.2.1, (l.2.1.2.2.2.2.2.2.2.2.2.2.2.2.2.2.2.2.2.2.2.2.2.2.2.1, (l.2.1.2.2.2.2.2.2.2.2.2.2.2.2.2.2.2.2.2.2.2.2.2.2.2.2.1, (l.2.1.2.2.2.2.2.2.2.2.2.2.2.2.2.2.2.2.2.2.2.2.2.2.2.2.2.1, (l.2.1.2.2.2.2.2.2.2.2.2.2.2.2.2.2.2.2.2.2.2.2.2.2.2.2.2.2.1, (l.2.1.2.2.2.2.2.2.2.2.2.2.2.2.2.2.2.2.2.2.2.2.2.2.2.2.2.2.2.1, (l.2.1.2.2.2.2.2.2.2.2.2.2.2.2.2.2.2.2.2.2.2.2.2.2.2.2.2.2.2.2.1, (l.2.1.2.2.2.2.2.2.2.2.2.2.2.2.2.2.2.2.2.2.2.2.2.2.2.2.2.2.2.2.2.1, (l.2.1.2.2.2.2.2.2.2.2.2.2.2.2.2.2.2.2.2.2.2.2.2.2.2.2.2.2.2.2.2.2.1, ()))))))))))))))))))))))))))))))), ((l.2.2.1.1, (l.2.2.1.2.1, (l.2.2.1.2.2.1, (l.2.2.1.2.2.2.1, (l.2.2.1.2.2.2.2.1, (s.2.1, (s.2.2.1, (s.2.2.2.1, (s.2.2.2.2.1, (s.2.2.2.2.2.1, (s.2.2.2.2.2.2.1, (s.2.2.2.2.2.2.2.1, (s.2.2.2.2.2.2.2.2.1, (s.2.2.2.2.2.2.2.2.2.1, (s.2.2.2.2.2.2.2.2.2.2.1, (s.2.2.2.2.2.2.2.2.2.2.2.1, (s.2.2.2.2.2.2.2.2.2.2.2.2.1, (s.2.2.2.2.2.2.2.2.2.2.2.2.2.1, (s.2.2.2.2.2.2.2.2.2.2.2.2.2.2.1, (s.2.2.2.2.2.2.2.2.2.2.2.2.2.2.2.1, (s.2.2.2.2.2.2.2.2.2.2.2.2.2.2.2.2.1, (s.2.2.2.2.2.2.2.2.2.2.2.2.2.2.2.2.2.1, (s.2.2.2.2.2.2.2.2.2.2.2.2.2.2.2.2.2.2.1, (s.2.2.2.2.2.2.2.2.2.2.2.2.2.2.2.2.2.2.2.1, (s.2.2.2.2.2.2.2.2.2.2.2.2.2.2.2.2.2.2.2.2.1, (s.2.2.2.2.2.2.2.2.2.2.2.2.2.2.2.2.2.2.2.2.2.1, (s.2.2.2.2.2.2.2.2.2.2.2.2.2.2.2.2.2.2.2.2.2.2, (l.2.2.1.2.2.2.2.2.2.2.2.2.2.2.2.2.2.2.2.2.2.2.2.2.2.2.2.2.2.2.1, (l.2.2.1.2.2.2.2.2.2.2.2.2.2.2.2.2.2.2.2.2.2.2.2.2.2.2.2.2.2.2.2.1, (l.2.2.1.2.2.2.2.2.2.2.2.2.2.2.2.2.2.2.2.2.2.2.2.2.2.2.2.2.2.2.2.2.1, (l.2.2.1.2.2.2.2.2.2.2.2.2.2.2.2.2.2.2.2.2.2.2.2.2.2.2.2.2.2.2.2.2.2.1, ()))))))))))))))))))))))))))))))), ()))) : T7).1, q7.mkH (((l.1.1, ((), ((), ((), ((), ((), (s.1, ((), ())))))))), ((l.2.1.1, (l.2.1.2.1, (l.2.1.2.2.1, (l.2.1.2.2.2.1, (l.2.1.2.2.2.2.1, (l.2.1.2.2.2.2.2.1, (l.2.1.2.2.2.2.2.2.1, (l.2.1.2.2.2.2.2.2.2.1, (l.2.1.2.2.2.2.2.2.2.2.1, (l.2.1.2.2.2.2.2.2.2.2.2.1, (l.2.1.2.2.2.2.2.2.2.2.2.2.1, (l.2.1.2.2.2.2.2.2.2.2.2.2.2.1, (l.2.1.2.2.2.2.2.2.2.2.2.2.2.2.1, (l.2.1.2.2.2.2.2.2.2.2.2.2.2.2.2.1, (l.2.1.2.2.2.2.2.2.2.2.2.2.2.2.2.2.1, (l.2.1.2.2.2.2.2.2.2.2.2.2.2.2.2.2.2.1, (l.2.1.2.2.2.2.2.2.2.2.2.2.2.2.2.2.2.2.1, (l.2.1.2.2.2.2.2.2.2.2.2.2.2.2.2.2.2.2.2.1, (l.2.1.2.2.2.2.2.2.2.2.2.2.2.2.2.2.2.2.2.2.1, (l.2.1.2.2.2.2.2.2.2.2.2.2.2.2.2.2.2.2.2.2.2.1, (l.2.1.2.2.2.2.2.2.2.2.2.2.2.2.2.2.2.2.2.2.2.2.1, (l.2.1.2.2.2.2.2.2.2.2.2.2.2.2.2.2.2.2.2.2.2.2.2.1, (l.2.1.2.2.2.2.2.2.2.2.2.2.2.2.2.2.2.2.2.2.2.2.2.2.1, (l.2.1.2.2.2.2.2.2.2.2.2.2.2.2.2.2.2.2.2.2.2.2.2.2.2.1, (l.2.1.2.2.2.2.2.2.2.2.2.2.2.2.2.2.2.2.2.2.2.2.2.2.2.2.1, (l.2.1.2.2.2.2.2.2.2.2.2.2.2.2.2.2.2.2.2.2.2.2.2.2.2.2.2.1, (l.2.1.2.2.2.2.2.2.2.2.2.2.2.2.2.2.2.2.2.2.2.2.2.2.2.2.2.2.1, (l.2.1.2.2.2.2.2.2.2.2.2.2.2.2.2.2.2.2.2.2.2.2.2.2.2.2.2.2.2.1, (l.2.1.2.2.2.2.2.2.2.2.2.2.2.2.2.2.2.2.2.2.2.2.2.2.2.2.2.2.2.2.1, (l.2.1.2.2.2.2.2.2.2.2.2.2.2.2.2.2.2.2.2.2.2.2.2.2.2.2.2.2.2.2.2.1, (l.2.1.2.2.2.2.2.2.2.2.2.2.2.2.2.2.2.2.2.2.2.2.2.2.2.2.2.2.2.2.2.2.1, ()))))))))))))))))))))))))))))))), ((l.2.2.1.1, (l.2.2.1.2.1, (l.2.2.1.2.2.1, (l.2.2.1.2.2.2.1, (l.2.2.1.2.2.2.2.1, (s.2.1, (s.2.2.1, (s.2.2.2.1, (s.2.2.2.2.1, (s.2.2.2.2.2.1, (s.2.2.2.2.2.2.1, (s.2.2.2.2.2.2.2.1, (s.2.2.2.2.2.2.2.2.1, (s.2.2.2.2.2.2.2.2.2.1, (s.2.2.2.2.2.2.2.2.2.2.1, (s.2.2.2.2.2.2.2.2.2.2.2.1, (s.2.2.2.2.2.2.2.2.2.2.2.2.1, (s.2.2.2.2.2.2.2.2.2.2.2.2.2.1, (s.2.2.2.2.2.2.2.2.2.2.2.2.2.2.1, (s.2.2.2.2.2.2.2.2.2.2.2.2.2.2.2.1, (s.2.2.2.2.2.2.2.2.2.2.2.2.2.2.2.2.1, (s.2.2.2.2.2.2.2.2.2.2.2.2.2.2.2.2.2.1, (s.2.2.2.2.2.2.2.2.2.2.2.2.2.2.2.2.2.2.1, (s.2.2.2.2.2.2.2.2.2.2.2.2.2.2.2.2.2.2.2.1, (s.2.2.2.2.2.2.2.2.2.2.2.2.2.2.2.2.2.2.2.2.1, (s.2.2.2.2.2.2.2.2.2.2.2.2.2.2.2.2.2.2.2.2.2.1, (s.2.2.2.2.2.2.2.2.2.2.2.2.2.2.2.2.2.2.2.2.2.2, (l.2.2.1.2.2.2.2.2.2.2.2.2.2.2.2.2.2.2.2.2.2.2.2.2.2.2.2.2.2.2.1, (l.2.2.1.2.2.2.2.2.2.2.2.2.2.2.2.2.2.2.2.2.2.2.2.2.2.2.2.2.2.2.2.1, (l.2.2.1.2.2.2.2.2.2.2.2.2.2.2.2.2.2.2.2.2.2.2.2.2.2.2.2.2.2.2.2.2.1, (l.2.2.1.2.2.2.2.2.2.2.2.2.2.2.2.2.2.2.2.2.2.2.2.2.2.2.2.2.2.2.2.2.2.1, ()))))))))))))))))))))))))))))))), ()))) : T7).2, 0⟩) sp1 (ou7 l)) := by kernel_rfl
theorem lk7 (R : Type) (st : St U) (K : Ex → St U → Option R) (r : R) (h : Λ7 R st K = some r) : ∃ n, loopA E (pick (loopsOf body) 7) n st K = some r :=
  lp_ok (U := U) (E := E) (b := pick (loopsOf body) 7) (m := 0) (sp := sp1) (p := p7) (q := q7) (X := (Int × (Int × (Int × (Int × (Int × (Int × (Int × (Int × (Int × (Int × (Int × (Int × (Int × (Int × (Int × (Int × (Int × (Int × (Int × (Int × (Int × Int)))))))))))))))))))))) (S := (Int × (Int × (Int × (Int × (Int × (Int × (Int × (Int × (Int × (Int × (Int × (Int × (Int × (Int × (Int × (Int × (Int × (Int × (Int × (Int × (Int × (Int × Int))))))))))))))))))))))) (f := fun (l : T7) s => l7 l.1.1 l.2.1.1 l.2.1.2.1 l.2.1.2.2.1 l.2.1.2.2.2.1 l.2.1.2.2.2.2.1 l.2.1.2.2.2.2.2.1 l.2.1.2.2.2.2.2.2.1 l.2.1.2.2.2.2.2.2.2.1 l.2.1.2.2.2.2.2.2.2.2.1 l.2.1.2.2.2.2.2.2.2.2.2.1 l.2.1.2.2.2.2.2.2.2.2.2.2.1 l.2.1.2.2.2.2.2.2.2.2.2.2.2.1 l.2.1.2.2.2.2.2.2.2.2.2.2.2.2.1 l.2.1.2.2.2.2.2.2.2.2.2.2.2.2.2.1 l.2.1.2.2.2.2.2.2.2.2.2.2.2.2.2.2.1 l.2.1.2.2.2.2.2.2.2.2.2.2.2.2.2.2.2.1 l.2.1.2.2.2.2.2.2.2.2.2.2.2.2.2.2.2.2.1 l.2.1.2.2.2.2.2.2.2.2.2.2.2.2.2.2.2.2.2.1 l.2.1.2.2.2.2.2.2.2.2.2.2.2.2.2.2.2.2.2.2.1 l.2.1.2.2.2.2.2.2.2.2.2.2.2.2.2.2.2.2.2.2.2.1 l.2.1.2.2.2.2.2.2.2.2.2.2.2.2.2.2.2.2.2.2.2.2.1 l.2.1.2.2.2.2.2.2.2.2.2.2.2.2.2.2.2.2.2.2.2.2.2.1 l.2.1.2.2.2.2.2.2.2.2.2.2.2.2.2.2.2.2.2.2.2.2.2.2.1 l.2.1.2.2.2.2.2.2.2.2.2.2.2.2.2.2.2.2.2.2.2.2.2.2.2.1 l.2.1.2.2.2.2.2.2.2.2.2.2.2.2.2.2.2.2.2.2.2.2.2.2.2.2.1 l.2.1.2.2.2.2.2.2.2.2.2.2.2.2.2.2.2.2.2.2.2.2.2.2.2.2.2.1 l.2.1.2.2.2.2.2.2.2.2.2.2.2.2.2.2.2.2.2.2.2.2.2.2.2.2.2.2.1 l.2.1.2.2.2.2.2.2.2.2.2.2.2.2.2.2.2.2.2.2.2.2.2.2.2.2.2.2.2.1 l.2.1.2.2.2.2.2.2.2.2.2.2.2.2.2.2.2.2.2.2.2.2.2.2.2.2.2.2.2.2.1 l.2.1.2.2.2.2.2.2.2.2.2.2.2.2.2.2.2.2.2.2.2.2.2.2.2.2.2.2.2.2.2.1 l.2.1.2.2.2.2.2.2.2.2.2.2.2.2.2.2.2.2.2.2.2.2.2.2.2.2.2.2.2.2.2.2.1 l.2.2.1.1 l.2.2.1.2.1 l.2.2.1.2.2.1 l.2.2.1.2.2.2.1 l.2.2.1.2.2.2.2.1 l.2.2.1.2.2.2.2.2.2.2.2.2.2.2.2.2.2.2.2.2.2.2.2.2.2.2.2.2.2.2.1 l.2.2.1.2.2.2.2.2.2.2.2.2.2.2.2.2.2.2.2.2.2.2.2.2.2.2.2.2.2.2.2.1 l.2.2.1.2.2.2.2.2.2.2.2.2.2.2.2.2.2.2.2.2.2.2.2.2.2.2.2.2.2.2.2.2.1 l.2.2.1.2.2.2.2.2.2.2.2.2.2.2.2.2.2.2.2.2.2.2.2.2.2.2.2.2.2.2.2.2.2.1 s.1 s.2.1 s.2.2.1 s.2.2.2.1 s.2.2.2.2.1 s.2.2.2.2.2.1 s.2.2.2.2.2.2.1 s.2.2.2.2.2.2.2.1 s.2.2.2.2.2.2.2.2.1 s.2.2.2.2.2.2.2.2.2.1 s.2.2.2.2.2.2.2.2.2.2.1 s.2.2.2.2.2.2.2.2.2.2.2.1 s.2.2.2.2.2.2.2.2.2.2.2.2.1 s.2.2.2.2.2.2.2.2.2.2.2.2.2.1 s.2.2.2.2.2.2.2.2.2.2.2.2.2.2.1 s.2.2.2.2.2.2.2.2.2.2.2.2.2.2.2.1 s.2.2.2.2.2.2.2.2.2.2.2.2.2.2.2.2.1 s.2.2.2.2.2.2.2.2.2.2.2.2.2.2.2.2.2.1 s.2.2.2.2.2.2.2.2.2.2.2.2.2.2.2.2.2.2.1 s.2.2.2.2.2.2.2.2.2.2.2.2.2.2.2.2.2.2.2.1 s.2.2.2.2.2.2.2.2.2.2.2.2.2.2.2.2.2.2.2.2.1 s.2.2.2.2.2.2.2.2.2.2.2.2.2.2.2.2.2.2.2.2.2.1 s.2.2.2.2.2.2.2.2.2.2.2.2.2.2.2.2.2.2.2.2.2.2) (hd := fun (l : T7) s => ((l.1.1, ((), ((), ((), ((), ((), (s.1, ((), ())))))))), ((l.2.1.1, (l.2.1.2.1, (l.2.1.2.2.1, (l.2.1.2.2.2.1, (l.2.1.2.2.2.2.1, (l.2.1.2.2.2.2.2.1, (l.2.1.2.2.2.2.2.2.1, (l.2.1.2.2.2.2.2.2.2.1, (l.2.1.2.2.2.2.2.2.2.2.1, (l.2.1.2.2.2.2.2.2.2.2.2.1, (l.2.1.2.2.2.2.2.2.2.2.2.2.1, (l.2.1.2.2.2.2.2.2.2.2.2.2.2.1, (l.2.1.2.2.2.2.2.2.2.2.2.2.2.2.1, (l.2.1.2.2.2.2.2.2.2.2.2.2.2.2.2.1, (l.2.1.2.2.2.2.2.2.2.2.2.2.2.2.2.2.1, (l.2.1.2.2.2.2.2.2.2.2.2.2.2.2.2.2.2.1, (l.2.1.2.2.2.2.2.2.2.2.2.2.2.2.2.2.2.2.1, (l.2.1.2.2.2.2.2.2.2.2.2.2.2.2.2.2.2.2.2.1, (l.2.1.2.2.2.2.2.2.2.2.2.2.2.2.2.2.2.2.2.2.1, (l.2.1.2.2.2.2.2.2.2.2.2.2.2.2.2.2.2.2.2.2.2.1, (l.2.1.2.2.2.2.2.2.2.2.2.2.2.2.2.2.2.2.2.2.2.2.1, (l.2.1.2.2.2.2.2.2.2.2.2.2.2.2.2.2.2.2.2.2.2.2.2.1, (l.2.1.2.2.2.2.2.2.2.2.2.2.2.2.2.2.2.2.2.2.2.2.2.2.1, (l.2.1.2.2.2.2.2.2.2.2.2.2.2.2.2.2.2.2.2.2.2.2.2.2.2.1, (l.2.1.2.2.2.2.2.2.2.2.2.2.2.2.2.2.2.2.2.2.2.2.2.2.2.2.1, (l.2.1.2.2.2.2.2.2.2.2.2.2.2.2.2.2.2.2.2.2.2.2.2.2.2.2.2.1, (l.2.1.2.2.2.2.2.2.2.2.2.2.2.2.2.2.2.2.2.2.2.2.2.2.2.2.2.2.1, (l.2.1.2.2.2.2.2.2.2.2.2.2.2.2.2.2.2.2.2.2.2.2.2.2.2.2.2.2.2.1, (l.2.1.2.2.2.2.2.2.2.2.2.2.2.2.2.2.2.2.2.2.2.2.2.2.2.2.2.2.2.2.1, (l.2.1.2.2.2.2.2.2.2.2.2.2.2.2.2.2.2.2.2.2.2.2.2.2.2.2.2.2.2.2.2.1, (l.2.1.2.2.2.2.2.2.2.2.2.2.2.2.2.2.2.2.2.2.2.2.2.2.2.2.2.2.2.2.2.2.1, ()))))))))))))))))))))))))))))))), ((l.2.2.1.1, (l.2.2.1.2.1, (l.2.2.1.2.2.1, (l.2.2.1.2.2.2.1, (l.2.2.1.2.2.2.2.1, (s.2.1, (s.2.2.1, (s.2.2.2.1, (s.2.2.2.2.1, (s.2.2.2.2.2.1, (s.2.2.2.2.2.2.1, (s.2.2.2.2.2.2.2.1, (s.2.2.2.2.2.2.2.2.1, (s.2.2.2.2.2.2.2.2.2.1, (s.2.2.2.2.2.2.2.2.2.2.1, (s.2.2.2.2.2.2.2.2.2.2.2.1, (s.2.2.2.2.2.2.2.2.2.2.2.2.1, (s.2.2.2.2.2.2.2.2.2.2.2.2.2.1, (s.2.2.2.2.2.2.2.2.2.2.2.2.2.2.1, (s.2.2.2.2.2.2.2.2.2.2.2.2.2.2.2.1, (s.2.2.2.2.2.2.2.2.2.2.2.2.2.2.2.2.1, (s.2.2.2.2.2.2.2.2.2.2.2.2.2.2.2.2.2.1, (s.2.2.2.2.2.2.2.2.2.2.2.2.2.2.2.2.2.2.1, (s.2.2.2.2.2.2.2.2.2.2.2.2.2.2.2.2.2.2.2.1, (s.2.2.2.2.2.2.2.2.2.2.2.2.2.2.2.2.2.2.2.2.1, (s.2.2.2.2.2.2.2.2.2.2.2.2.2.2.2.2.2.2.2.2.2.1, (s.2.2.2.2.2.2.2.2.2.2.2.2.2.2.2.2.2.2.2.2.2.2, (l.2.2.1.2.2.2.2.2.2.2.2.2.2.2.2.2.2.2.2.2.2.2.2.2.2.2.2.2.2.2.1, (l.2.2.1.2.2.2.2.2.2.2.2.2.2.2.2.2.2.2.2.2.2.2.2.2.2.2.2.2.2.2.2.1, (l.2.2.1.2.2.2.2.2.2.2.2.2.2.2.2.2.2.2.2.2.2.2.2.2.2.2.2.2.2.2.2.2.1, (l.2.2.1.2.2.2.2.2.2.2.2.2.2.2.2.2.2.2.2.2.2.2.2.2.2.2.2.2.2.2.2.2.2.1, ()))))))))))))))))))))))))))))))), ())))) (s0 := fun (l : T7) => (l.1.2.2.2.2.2.2.1, (l.2.2.1.2.2.2.2.2.1, (l.2.2.1.2.2.2.2.2.2.1, (l.2.2.1.2.2.2.2.2.2.2.1, (l.2.2.1.2.2.2.2.2.2.2.2.1, (l.2.2.1.2.2.2.2.2.2.2.2.2.1, (l.2.2.1.2.2.2.2.2.2.2.2.2.2.1, (l.2.2.1.2.2.2.2.2.2.2.2.2.2.2.1, (l.2.2.1.2.2.2.2.2.2.2.2.2.2.2.2.1, (l.2.2.1.2.2.2.2.2.2.2.2.2.2.2.2.2.1, (l.2.2.1.2.2.2.2.2.2.2.2.2.2.2.2.2.2.1, (l.2.2.1.2.2.2.2.2.2.2.2.2.2.2.2.2.2.2.1, (l.2.2.1.2.2.2.2.2.2.2.2.2.2.2.2.2.2.2.2.1, (l.2.2.1.2.2.2.2.2.2.2.2.2.2.2.2.2.2.2.2.2.1, (l.2.2.1.2.2.2.2.2.2.2.2.2.2.2.2.2.2.2.2.2.2.1, (l.2.2.1.2.2.2.2.2.2.2.2.2.2.2.2.2.2.2.2.2.2.2.1, (l.2.2.1.2.2.2.2.2.2.2.2.2.2.2.2.2.2.2.2.2.2.2.2.1, (l.2.2.1.2.2.2.2.2.2.2.2.2.2.2.2.2.2.2.2.2.2.2.2.2.1, (l.2.2.1.2.2.2.2.2.2.2.2.2.2.2.2.2.2.2.2.2.2.2.2.2.2.1, (l.2.2.1.2.2.2.2.2.2.2.2.2.2.2.2.2.2.2.2.2.2.2.2.2.2.2.1, (l.2.2.1.2.2.2.2.2.2.2.2.2.2.2.2.2.2.2.2.2.2.2.2.2.2.2.2.1, (l.2.2.1.2.2.2.2.2.2.2.2.2.2.2.2.2.2.2.2.2.2.2.2.2.2.2.2.2.1, l.2.2.1.2.2.2.2.2.2.2.2.2.2.2.2.2.2.2.2.2.2.2.2.2.2.2.2.2.2.1))))))))))))))))))))))) (ou := ou7)
    (fun l => rfl) (fun l x => by rfl) sp1_ok hf7 h
theorem hk (R : Type) (l : TA) (K : AV U → Hp U → Option R) : funcA E Try.f42 [] R (pA.mkL l.1) (pH.mkH l.2) K = (t l.1.1).runK fun y => K (v l y) (hh l y) := by kernel_rfl
theorem okF : SoundF Try.prog cc 42 (funcA E Try.f42 []) :=
  funcA_ok (E := E) P_mixed (E0_ok.with Γ Λ CT D ro) (gam_of (all_cons ⟨book_Lay.ok, ⟨Try.f40, Try.func40, by kernel_rfl, by kernel_rfl⟩⟩ (all_cons ⟨slices_Equal__uint32uint32.ok, ⟨Try.f106, Try.func106, by kernel_rfl, by kernel_rfl⟩⟩ all_nil)) (all_cons (no_keep (by kernel_rfl)) (all_cons (no_keep (by kernel_rfl)) all_nil))) Try.func42 (c := body) (by kernel_rfl)
    (just_by (by kernel_rfl) (by kernel_rfl) (all_cons lk7 all_nil) all_nil) []
theorem ok : SoundF Try.prog cc 42 A :=
  mkA_ok (E := E) (p := pA) (q := pH) (t := fun (l : TA) => t l.1.1) sp1_ok hk okF
theorem keep : KeepA A := mkA_keep (U := U) sp1_ok (fun (l : TA) y => ⟨(hh l y).drop 0, by kernel_rfl⟩)
end book_Take

end Go.Proofs.Ytcnomgpbkimmeaa.Va
