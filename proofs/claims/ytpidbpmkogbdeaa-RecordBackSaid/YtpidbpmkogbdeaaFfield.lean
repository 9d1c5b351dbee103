/- The functions of package field, as plain functions, and that the program computes them. Printed by a program of this work out of the evaluator. -/
import Derived.Test.YtpidbpmkogbdeaaEn
import Derived.Tactics
namespace Go.Proofs.Ytpidbpmkogbdeaa.Va
open Go
set_option linter.unusedVariables false
set_option maxRecDepth 100000

/-! instar/field.Right -/
namespace field_Right
abbrev TA : Type := (((Int × (Int × (Int × (Int × (Int × Unit))))) × Unit) × Unit)
noncomputable def t (f_0 : Int) (f_1 : Int) (f_2 : Int) (f_3 : Int) (f_4 : Int) : Tw Bool :=
 (.bb (decide (f_0 < (0 : Int)))
  (.ret false)
  (.bb (decide (f_0 > (255 : Int)))
   (.ret false)
   (.bb (f_2 == (0 : Int))
    (.bb (f_1 == (1 : Int))
     (.bb (decide (f_2 ≥ (-(1099511627776 : Int))))
      (.bb (decide (f_2 ≤ f_3))
       (.bb (decide (f_3 ≤ (1099511627776 : Int)))
        (.ret (f_4 == (0 : Int)))
        (.ret false))
       (.ret false))
      (.ret false))
     (.bb (f_1 == (2 : Int))
      (.bb (f_3 == (0 : Int))
       (.ret (f_4 == (0 : Int)))
       (.ret false))
      (.bb (f_1 == (3 : Int))
       (.bb (f_3 == (0 : Int))
        (.bb (decide (f_4 ≥ (1 : Int)))
         (.ret (decide (f_4 ≤ (1000 : Int))))
         (.ret false))
        (.ret false))
       (.bb (f_1 == (4 : Int))
        (.bb (f_3 == (0 : Int))
         (.bb (decide (f_4 ≥ (0 : Int)))
          (.ret (decide (f_4 ≤ (32 : Int))))
          (.ret false))
         (.ret false))
        (.ret false)))))
    (.bb (f_1 == (1 : Int))
     (.bb (decide (f_2 ≥ (-(1099511627776 : Int))))
      (.bb (decide (f_2 ≤ f_3))
       (.bb (decide (f_3 ≤ (1099511627776 : Int)))
        (.ret (f_4 == (0 : Int)))
        (.ret false))
       (.ret false))
      (.ret false))
     (.bb (f_1 == (2 : Int))
      (.ret false)
      (.bb (f_1 == (3 : Int))
       (.ret false)
       (.bb (f_1 == (4 : Int))
        (.ret false)
        (.ret false))))))))
noncomputable def c (f_0 : Int) (f_1 : Int) (f_2 : Int) (f_3 : Int) (f_4 : Int) : Option Bool := (t f_0 f_1 f_2 f_3 f_4).run
def pA : Pt := (.cs (.agg (.cs (.int .i64) (.cs (.int .i64) (.cs (.int .i64) (.cs (.int .i64) (.cs (.int .i64) .nl)))))) .nl)
def pH : Pt := .nl
def v (l : TA) (y : Bool) : AV U := .im (.bool y)
def hh (l : TA) (y : Bool) : Hp U := []
noncomputable def A : AFun U := mkA (U := U) pA pH (X := Bool) (fun (l : TA) => c l.1.1.1 l.1.1.2.1 l.1.1.2.2.1 l.1.1.2.2.2.1 l.1.1.2.2.2.2.1) sp1 v hh
noncomputable def body : Code := (Go.Func.body Try.f174).getD .skip
noncomputable def Γ : List (FuncId × AFun U) := []
noncomputable def Λ : List (Nat × LFun U) := []
noncomputable def CT : List (Nat × LFun U) := []
def ro : List FuncId := []
def D : Nat → Lv × Lv := dtab []
noncomputable def E : Env U := { E0 with Γ := Γ, Λ := Λ, C := CT, D := D, ro := ro }
theorem hk (R : Type) (l : TA) (K : AV U → Hp U → Option R) : funcA E Try.f174 [] R (pA.mkL l.1) (pH.mkH l.2) K = (t l.1.1.1 l.1.1.2.1 l.1.1.2.2.1 l.1.1.2.2.2.1 l.1.1.2.2.2.2.1).runK fun y => K (v l y) (hh l y) := by kernel_rfl
theorem okF : SoundF Try.prog cc 174 (funcA E Try.f174 []) :=
  funcA_ok (E := E) P_mixed (E0_ok.with Γ Λ CT D ro) (gam_of all_nil all_nil) Try.func174 (c := body) (by kernel_rfl)
    (just_by (by kernel_rfl) (by kernel_rfl) all_nil all_nil) []
theorem ok : SoundF Try.prog cc 174 A :=
  mkA_ok (E := E) (p := pA) (q := pH) (t := fun (l : TA) => t l.1.1.1 l.1.1.2.1 l.1.1.2.2.1 l.1.1.2.2.2.1 l.1.1.2.2.2.2.1) sp1_ok hk okF
theorem keep : KeepA A := mkA_keep (U := U) sp1_ok (fun (l : TA) y => ⟨(hh l y).drop 0, by kernel_rfl⟩)
end field_Right

/-! instar/field.bounds -/
namespace field_bounds
abbrev TA : Type := (((Int × (Int × (Int × (Int × (Int × Unit))))) × Unit) × Unit)
noncomputable def t (f_0 : Int) (f_1 : Int) (f_2 : Int) (f_3 : Int) (f_4 : Int) : Tw (Int × Int) :=
 (.bb (f_1 == (1 : Int))
  (.ret (f_2, f_3))
  (.bb (f_1 == (2 : Int))
   (.ret ((0 : Int), (1 : Int)))
   (.bb (f_1 == (3 : Int))
    (.ret ((0 : Int), (w64 (f_4 - (1 : Int)))))
    (.ret ((0 : Int), (0 : Int))))))
noncomputable def c (f_0 : Int) (f_1 : Int) (f_2 : Int) (f_3 : Int) (f_4 : Int) : Option (Int × Int) := (t f_0 f_1 f_2 f_3 f_4).run
def pA : Pt := (.cs (.agg (.cs (.int .i64) (.cs (.int .i64) (.cs (.int .i64) (.cs (.int .i64) (.cs (.int .i64) .nl)))))) .nl)
def pH : Pt := .nl
def v (l : TA) (y : (Int × Int)) : AV U := .tup [.im (.int .i64 y.1), .im (.int .i64 y.2)]
def hh (l : TA) (y : (Int × Int)) : Hp U := []
noncomputable def A : AFun U := mkA (U := U) pA pH (X := (Int × Int)) (fun (l : TA) => c l.1.1.1 l.1.1.2.1 l.1.1.2.2.1 l.1.1.2.2.2.1 l.1.1.2.2.2.2.1) sp1 v hh
noncomputable def body : Code := (Go.Func.body Try.f175).getD .skip
noncomputable def Γ : List (FuncId × AFun U) := []
noncomputable def Λ : List (Nat × LFun U) := []
noncomputable def CT : List (Nat × LFun U) := []
def ro : List FuncId := []
def D : Nat → Lv × Lv := dtab []
noncomputable def E : Env U := { E0 with Γ := Γ, Λ := Λ, C := CT, D := D, ro := ro }
theorem hk (R : Type) (l : TA) (K : AV U → Hp U → Option R) : funcA E Try.f175 [] R (pA.mkL l.1) (pH.mkH l.2) K = (t l.1.1.1 l.1.1.2.1 l.1.1.2.2.1 l.1.1.2.2.2.1 l.1.1.2.2.2.2.1).runK fun y => K (v l y) (hh l y) := by kernel_rfl
theorem okF : SoundF Try.prog cc 175 (funcA E Try.f175 []) :=
  funcA_ok (E := E) P_mixed (E0_ok.with Γ Λ CT D ro) (gam_of all_nil all_nil) Try.func175 (c := body) (by kernel_rfl)
    (just_by (by kernel_rfl) (by kernel_rfl) all_nil all_nil) []
theorem ok : SoundF Try.prog cc 175 A :=
  mkA_ok (E := E) (p := pA) (q := pH) (t := fun (l : TA) => t l.1.1.1 l.1.1.2.1 l.1.1.2.2.1 l.1.1.2.2.2.1 l.1.1.2.2.2.2.1) sp1_ok hk okF
theorem keep : KeepA A := mkA_keep (U := U) sp1_ok (fun (l : TA) y => ⟨(hh l y).drop 0, by kernel_rfl⟩)
end field_bounds

/-! instar/field.width -/
namespace field_width
abbrev TA : Type := ((Int × Unit) × Unit)
abbrev T2 : Type := ((Int × (Unit × (Int × (Unit × Unit)))) × Unit)
noncomputable def l2 (n : Int) (w : Int) : Tw ((Int × Int) ⊕ Int) :=
 (.bb (decide (n > (0 : Int)))
  (.ret (.inl ((bShr .i64 n (8 : Int)), (w64 (w + (1 : Int))))))
  (.ret (.inr w)))
noncomputable def L2 (n : Int) (w : Int) : Option Int := Lp (fun s => (l2 s.1 s.2).run) (n, w)
def p2 : Pt := (.cs (.int .i64) (.cs (.bots 2) (.cs (.int .i64) (.cs (.bots 7) .nl))))
def q2 : Pt := .nl
def ou2 (l : T2) (y : Int) : Ex × St U := (.exit 0, stOf 11 [(3, .im (.int .i64 y))] [] 0)
noncomputable def Λ2 : LFun U := mkLp (U := U) p2 q2 0 (X := Int) (fun (l : T2) => L2 l.1.1 l.1.2.2.1) sp1 ou2
noncomputable def t (n : Int) : Tw Int :=
 (.opt (L2 n (0 : Int)) fun z1 =>
  (.ret z1))
noncomputable def c (n : Int) : Option Int := (t n).run
def pA : Pt := (.cs (.int .i64) .nl)
def pH : Pt := .nl
def v (l : TA) (y : Int) : AV U := .im (.int .i64 y)
def hh (l : TA) (y : Int) : Hp U := []
noncomputable def A : AFun U := mkA (U := U) pA pH (X := Int) (fun (l : TA) => c l.1.1) sp1 v hh
noncomputable def body : Code := (Go.Func.body Try.f187).getD .skip
noncomputable def Γ : List (FuncId × AFun U) := []
noncomputable def Λ : List (Nat × LFun U) := [(2, Λ2)]
noncomputable def CT : List (Nat × LFun U) := []
def ro : List FuncId := []
def D : Nat → Lv × Lv := dtab [(2, ⟨[0, 3], []⟩, ⟨[2, 3], []⟩)]
noncomputable def E : Env U := { E0 with Γ := Γ, Λ := Λ, C := CT, D := D, ro := ro }
theorem hf2 (R : Type) (l : T2) (s : (Int × Int)) (K : Ex → St U → Option R) : codeA E (pick (loopsOf body) 2) ⟨p2.mkL (((s.1, ((), (s.2, ((), ())))), ()) : T2).1, q2.mkH (((s.1, ((), (s.2, ((), ())))), ()) : T2).2, 0⟩ (roundK E (pick (loopsOf body) 2) K) =
  (l2 s.1 s.2).runK (lpK K (fun s => ⟨p2.mkL (((s.1, ((), (s.2, ((), ())))), ()) : T2).1, q2.mkH (((s.1, ((), (s.2, ((), ())))), ()) : T2).2, 0⟩) sp1 (ou2 l)) := by kernel_rfl
theorem lk2 (R : Type) (st : St U) (K : Ex → St U → Option R) (r : R) (h : Λ2 R st K = some r) : ∃ n, loopA E (pick (loopsOf body) 2) n st K = some r :=
  lp_ok (U := U) (E := E) (b := pick (loopsOf body) 2) (m := 0) (sp := sp1) (p := p2) (q := q2) (X := Int) (S := (Int × Int)) (f := fun (l : T2) s => l2 s.1 s.2) (hd := fun (l : T2) s => ((s.1, ((), (s.2, ((), ())))), ())) (s0 := fun (l : T2) => (l.1.1, l.1.2.2.1)) (ou := ou2)
    (fun l => rfl) (fun l x => by rfl) sp1_ok hf2 h
theorem hk (R : Type) (l : TA) (K : AV U → Hp U → Option R) : funcA E Try.f187 [] R (pA.mkL l.1) (pH.mkH l.2) K = (t l.1.1).runK fun y => K (v l y) (hh l y) := by kernel_rfl
theorem okF : SoundF Try.prog cc 187 (funcA E Try.f187 []) :=
  funcA_ok (E := E) P_mixed (E0_ok.with Γ Λ CT D ro) (gam_of all_nil all_nil) Try.func187 (c := body) (by kernel_rfl)
    (just_by (by kernel_rfl) (by kernel_rfl) (all_cons lk2 all_nil) all_nil) []
theorem ok : SoundF Try.prog cc 187 A :=
  mkA_ok (E := E) (p := pA) (q := pH) (t := fun (l : TA) => t l.1.1) sp1_ok hk okF
theorem keep : KeepA A := mkA_keep (U := U) sp1_ok (fun (l : TA) y => ⟨(hh l y).drop 0, by kernel_rfl⟩)
end field_width

/-! instar/field.wide -/
namespace field_wide
abbrev TA : Type := (((Int × (Int × (Int × (Int × (Int × Unit))))) × Unit) × Unit)
noncomputable def t (f_0 : Int) (f_1 : Int) (f_2 : Int) (f_3 : Int) (f_4 : Int) : Tw Int :=
 (.opt (field_bounds.c f_0 f_1 f_2 f_3 f_4) fun z1 =>
  (.opt (field_width.c (w64 (z1.2 - z1.1))) fun z2 =>
   (.ret z2)))
noncomputable def c (f_0 : Int) (f_1 : Int) (f_2 : Int) (f_3 : Int) (f_4 : Int) : Option Int := (t f_0 f_1 f_2 f_3 f_4).run
def pA : Pt := (.cs (.agg (.cs (.int .i64) (.cs (.int .i64) (.cs (.int .i64) (.cs (.int .i64) (.cs (.int .i64) .nl)))))) .nl)
def pH : Pt := .nl
def v (l : TA) (y : Int) : AV U := .im (.int .i64 y)
def hh (l : TA) (y : Int) : Hp U := []
noncomputable def A : AFun U := mkA (U := U) pA pH (X := Int) (fun (l : TA) => c l.1.1.1 l.1.1.2.1 l.1.1.2.2.1 l.1.1.2.2.2.1 l.1.1.2.2.2.2.1) sp1 v hh
noncomputable def body : Code := (Go.Func.body Try.f177).getD .skip
noncomputable def Γ : List (FuncId × AFun U) := [(175, field_bounds.A), (187, field_width.A)]
noncomputable def Λ : List (Nat × LFun U) := []
noncomputable def CT : List (Nat × LFun U) := []
def ro : List FuncId := []
def D : Nat → Lv × Lv := dtab []
noncomputable def E : Env U := { E0 with Γ := Γ, Λ := Λ, C := CT, D := D, ro := ro }
theorem hk (R : Type) (l : TA) (K : AV U → Hp U → Option R) : funcA E Try.f177 [] R (pA.mkL l.1) (pH.mkH l.2) K = (t l.1.1.1 l.1.1.2.1 l.1.1.2.2.1 l.1.1.2.2.2.1 l.1.1.2.2.2.2.1).runK fun y => K (v l y) (hh l y) := by kernel_rfl
theorem okF : SoundF Try.prog cc 177 (funcA E Try.f177 []) :=
  funcA_ok (E := E) P_mixed (E0_ok.with Γ Λ CT D ro) (gam_of (all_cons ⟨field_bounds.ok, ⟨Try.f175, Try.func175, by kernel_rfl, by kernel_rfl⟩⟩ (all_cons ⟨field_width.ok, ⟨Try.f187, Try.func187, by kernel_rfl, by kernel_rfl⟩⟩ all_nil)) (all_cons (no_keep (by kernel_rfl)) (all_cons (no_keep (by kernel_rfl)) all_nil))) Try.func177 (c := body) (by kernel_rfl)
    (just_by (by kernel_rfl) (by kernel_rfl) all_nil all_nil) []
theorem ok : SoundF Try.prog cc 177 A :=
  mkA_ok (E := E) (p := pA) (q := pH) (t := fun (l : TA) => t l.1.1.1 l.1.1.2.1 l.1.1.2.2.1 l.1.1.2.2.2.1 l.1.1.2.2.2.2.1) sp1_ok hk okF
theorem keep : KeepA A := mkA_keep (U := U) sp1_ok (fun (l : TA) y => ⟨(hh l y).drop 0, by kernel_rfl⟩)
end field_wide

/-! instar/field.Size -/
namespace field_Size
abbrev TA : Type := (((Int × (Int × (Int × (Int × (Int × Unit))))) × Unit) × Unit)
noncomputable def t (f_0 : Int) (f_1 : Int) (f_2 : Int) (f_3 : Int) (f_4 : Int) : Tw Int :=
 (.opt (field_Right.c f_0 f_1 f_2 f_3 f_4) fun z1 =>
  (.bb (!z1)
   (.ret (0 : Int))
   (.bb (f_1 == (4 : Int))
    (.ret (w64 (f_4 + (1 : Int))))
    (.bb (f_1 == (2 : Int))
     (.ret (w64 ((0 : Int) + (1 : Int))))
     (.opt (field_wide.c f_0 f_1 f_2 f_3 f_4) fun z2 =>
      (.ret z2))))))
noncomputable def c (f_0 : Int) (f_1 : Int) (f_2 : Int) (f_3 : Int) (f_4 : Int) : Option Int := (t f_0 f_1 f_2 f_3 f_4).run
def pA : Pt := (.cs (.agg (.cs (.int .i64) (.cs (.int .i64) (.cs (.int .i64) (.cs (.int .i64) (.cs (.int .i64) .nl)))))) .nl)
def pH : Pt := .nl
def v (l : TA) (y : Int) : AV U := .im (.int .i64 y)
def hh (l : TA) (y : Int) : Hp U := []
noncomputable def A : AFun U := mkA (U := U) pA pH (X := Int) (fun (l : TA) => c l.1.1.1 l.1.1.2.1 l.1.1.2.2.1 l.1.1.2.2.2.1 l.1.1.2.2.2.2.1) sp1 v hh
noncomputable def body : Code := (Go.Func.body Try.f176).getD .skip
noncomputable def Γ : List (FuncId × AFun U) := [(174, field_Right.A), (177, field_wide.A)]
noncomputable def Λ : List (Nat × LFun U) := []
noncomputable def CT : List (Nat × LFun U) := []
def ro : List FuncId := []
def D : Nat → Lv × Lv := dtab []
noncomputable def E : Env U := { E0 with Γ := Γ, Λ := Λ, C := CT, D := D, ro := ro }
theorem hk (R : Type) (l : TA) (K : AV U → Hp U → Option R) : funcA E Try.f176 [] R (pA.mkL l.1) (pH.mkH l.2) K = (t l.1.1.1 l.1.1.2.1 l.1.1.2.2.1 l.1.1.2.2.2.1 l.1.1.2.2.2.2.1).runK fun y => K (v l y) (hh l y) := by kernel_rfl
theorem okF : SoundF Try.prog cc 176 (funcA E Try.f176 []) :=
  funcA_ok (E := E) P_mixed (E0_ok.with Γ Λ CT D ro) (gam_of (all_cons ⟨field_Right.ok, ⟨Try.f174, Try.func174, by kernel_rfl, by kernel_rfl⟩⟩ (all_cons ⟨field_wide.ok, ⟨Try.f177, Try.func177, by kernel_rfl, by kernel_rfl⟩⟩ all_nil)) (all_cons (no_keep (by kernel_rfl)) (all_cons (no_keep (by kernel_rfl)) all_nil))) Try.func176 (c := body) (by kernel_rfl)
    (just_by (by kernel_rfl) (by kernel_rfl) all_nil all_nil) []
theorem ok : SoundF Try.prog cc 176 A :=
  mkA_ok (E := E) (p := pA) (q := pH) (t := fun (l : TA) => t l.1.1.1 l.1.1.2.1 l.1.1.2.2.1 l.1.1.2.2.2.1 l.1.1.2.2.2.2.1) sp1_ok hk okF
theorem keep : KeepA A := mkA_keep (U := U) sp1_ok (fun (l : TA) y => ⟨(hh l y).drop 0, by kernel_rfl⟩)
end field_Size

/-! instar/field.Has -/
namespace field_Has
abbrev TA : Type := (((Int × (Int × (Int × (Int × (Int × Unit))))) × ((Int × (ByteArray × Unit)) × Unit)) × Unit)
noncomputable def t (f_0 : Int) (f_1 : Int) (f_2 : Int) (f_3 : Int) (f_4 : Int) (v__0 : Int) (v__1 : ByteArray) : Tw Bool :=
 (.opt (field_bounds.c f_0 f_1 f_2 f_3 f_4) fun z1 =>
  (.bb (f_1 == (4 : Int))
   (.opt (field_Right.c f_0 f_1 f_2 f_3 f_4) fun z3 =>
    (.bb z3
     (.bb (decide (v__0 ≥ z1.1))
      (.bb (decide (v__0 ≤ z1.2))
       (.ret (decide ((((ByteArray.size v__1) : Nat) : Int) ≤ f_4)))
       (.ret false))
      (.ret false))
     (.ret false)))
   (.opt (field_Right.c f_0 f_1 f_2 f_3 f_4) fun z2 =>
    (.bb z2
     (.bb (decide (v__0 ≥ z1.1))
      (.bb (decide (v__0 ≤ z1.2))
       (.ret (decide ((((ByteArray.size v__1) : Nat) : Int) ≤ (0 : Int))))
       (.ret false))
      (.ret false))
     (.ret false)))))
noncomputable def c (f_0 : Int) (f_1 : Int) (f_2 : Int) (f_3 : Int) (f_4 : Int) (v__0 : Int) (v__1 : ByteArray) : Option Bool := (t f_0 f_1 f_2 f_3 f_4 v__0 v__1).run
def pA : Pt := (.cs (.agg (.cs (.int .i64) (.cs (.int .i64) (.cs (.int .i64) (.cs (.int .i64) (.cs (.int .i64) .nl)))))) (.cs (.agg (.cs (.int .i64) (.cs .str .nl))) .nl))
def pH : Pt := .nl
def v (l : TA) (y : Bool) : AV U := .im (.bool y)
def hh (l : TA) (y : Bool) : Hp U := []
noncomputable def A : AFun U := mkA (U := U) pA pH (X := Bool) (fun (l : TA) => c l.1.1.1 l.1.1.2.1 l.1.1.2.2.1 l.1.1.2.2.2.1 l.1.1.2.2.2.2.1 l.1.2.1.1 l.1.2.1.2.1) sp1 v hh
noncomputable def body : Code := (Go.Func.body Try.f138).getD .skip
noncomputable def Γ : List (FuncId × AFun U) := [(175, field_bounds.A), (174, field_Right.A)]
noncomputable def Λ : List (Nat × LFun U) := []
noncomputable def CT : List (Nat × LFun U) := []
def ro : List FuncId := []
def D : Nat → Lv × Lv := dtab []
noncomputable def E : Env U := { E0 with Γ := Γ, Λ := Λ, C := CT, D := D, ro := ro }
theorem hk (R : Type) (l : TA) (K : AV U → Hp U → Option R) : funcA E Try.f138 [] R (pA.mkL l.1) (pH.mkH l.2) K = (t l.1.1.1 l.1.1.2.1 l.1.1.2.2.1 l.1.1.2.2.2.1 l.1.1.2.2.2.2.1 l.1.2.1.1 l.1.2.1.2.1).runK fun y => K (v l y) (hh l y) := by kernel_rfl
theorem okF : SoundF Try.prog cc 138 (funcA E Try.f138 []) :=
  funcA_ok (E := E) P_mixed (E0_ok.with Γ Λ CT D ro) (gam_of (all_cons ⟨field_bounds.ok, ⟨Try.f175, Try.func175, by kernel_rfl, by kernel_rfl⟩⟩ (all_cons ⟨field_Right.ok, ⟨Try.f174, Try.func174, by kernel_rfl, by kernel_rfl⟩⟩ all_nil)) (all_cons (no_keep (by kernel_rfl)) (all_cons (no_keep (by kernel_rfl)) all_nil))) Try.func138 (c := body) (by kernel_rfl)
    (just_by (by kernel_rfl) (by kernel_rfl) all_nil all_nil) []
theorem ok : SoundF Try.prog cc 138 A :=
  mkA_ok (E := E) (p := pA) (q := pH) (t := fun (l : TA) => t l.1.1.1 l.1.1.2.1 l.1.1.2.2.1 l.1.1.2.2.2.1 l.1.1.2.2.2.2.1 l.1.2.1.1 l.1.2.1.2.1) sp1_ok hk okF
theorem keep : KeepA A := mkA_keep (U := U) sp1_ok (fun (l : TA) y => ⟨(hh l y).drop 0, by kernel_rfl⟩)
end field_Has

/-! instar/field.Least -/
namespace field_Least
abbrev TA : Type := (((Int × (Int × (Int × (Int × (Int × Unit))))) × Unit) × Unit)
noncomputable def t (f_0 : Int) (f_1 : Int) (f_2 : Int) (f_3 : Int) (f_4 : Int) : Tw (Int × ByteArray) :=
 (.opt (field_Right.c f_0 f_1 f_2 f_3 f_4) fun z1 =>
  (.bb (!z1)
   (.ret ((0 : Int), ByteArray.empty))
   (.opt (field_bounds.c f_0 f_1 f_2 f_3 f_4) fun z2 =>
    (.ret (z2.1, ByteArray.empty)))))
noncomputable def c (f_0 : Int) (f_1 : Int) (f_2 : Int) (f_3 : Int) (f_4 : Int) : Option (Int × ByteArray) := (t f_0 f_1 f_2 f_3 f_4).run
def pA : Pt := (.cs (.agg (.cs (.int .i64) (.cs (.int .i64) (.cs (.int .i64) (.cs (.int .i64) (.cs (.int .i64) .nl)))))) .nl)
def pH : Pt := .nl
def v (l : TA) (y : (Int × ByteArray)) : AV U := .agg [.im (.int .i64 y.1), .im (.str y.2)]
def hh (l : TA) (y : (Int × ByteArray)) : Hp U := []
noncomputable def A : AFun U := mkA (U := U) pA pH (X := (Int × ByteArray)) (fun (l : TA) => c l.1.1.1 l.1.1.2.1 l.1.1.2.2.1 l.1.1.2.2.2.1 l.1.1.2.2.2.2.1) sp1 v hh
noncomputable def body : Code := (Go.Func.body Try.f140).getD .skip
noncomputable def Γ : List (FuncId × AFun U) := [(174, field_Right.A), (175, field_bounds.A)]
noncomputable def Λ : List (Nat × LFun U) := []
noncomputable def CT : List (Nat × LFun U) := []
def ro : List FuncId := []
def D : Nat → Lv × Lv := dtab []
noncomputable def E : Env U := { E0 with Γ := Γ, Λ := Λ, C := CT, D := D, ro := ro }
theorem hk (R : Type) (l : TA) (K : AV U → Hp U → Option R) : funcA E Try.f140 [] R (pA.mkL l.1) (pH.mkH l.2) K = (t l.1.1.1 l.1.1.2.1 l.1.1.2.2.1 l.1.1.2.2.2.1 l.1.1.2.2.2.2.1).runK fun y => K (v l y) (hh l y) := by kernel_rfl
theorem okF : SoundF Try.prog cc 140 (funcA E Try.f140 []) :=
  funcA_ok (E := E) P_mixed (E0_ok.with Γ Λ CT D ro) (gam_of (all_cons ⟨field_Right.ok, ⟨Try.f174, Try.func174, by kernel_rfl, by kernel_rfl⟩⟩ (all_cons ⟨field_bounds.ok, ⟨Try.f175, Try.func175, by kernel_rfl, by kernel_rfl⟩⟩ all_nil)) (all_cons (no_keep (by kernel_rfl)) (all_cons (no_keep (by kernel_rfl)) all_nil))) Try.func140 (c := body) (by kernel_rfl)
    (just_by (by kernel_rfl) (by kernel_rfl) all_nil all_nil) []
theorem ok : SoundF Try.prog cc 140 A :=
  mkA_ok (E := E) (p := pA) (q := pH) (t := fun (l : TA) => t l.1.1.1 l.1.1.2.1 l.1.1.2.2.1 l.1.1.2.2.2.1 l.1.1.2.2.2.2.1) sp1_ok hk okF
theorem keep : KeepA A := mkA_keep (U := U) sp1_ok (fun (l : TA) y => ⟨(hh l y).drop 0, by kernel_rfl⟩)
end field_Least

/-! instar/field.Lay -/
namespace field_Lay
abbrev TA : Type := (((Int × (Int × (Int × (Int × (Int × Unit))))) × ((Int × (ByteArray × Unit)) × Unit)) × Unit)
abbrev T10 : Type := ((Unit × (Unit × (Int × (Int × (Unit × Unit))))) × ((List Int) × Unit))
noncomputable def l10 (i : Int) (n : Int) (h0 : (List Int)) : Tw ((Int × (Int × (List Int))) ⊕ (List Int)) :=
 (.bb (decide (i ≥ (0 : Int)))
  (.dd ((((0 : Int) ≤ i) ∧ (i < (((List.length h0) : Nat) : Int)))) inferInstance
   (.opt (h0)[(Int.toNat i)]? fun z5 =>
    (.ret (.inl ((w64 (i - (1 : Int))), ((bShr .i64 n (8 : Int)), (List.set h0 (Int.toNat i) (w8 (bAnd .i64 n (255 : Int)))))))))
   .no)
  (.ret (.inr h0)))
noncomputable def L10 (i : Int) (n : Int) (h0 : (List Int)) : Option (List Int) := Lp (fun s => (l10 s.1 s.2.1 s.2.2).run) (i, (n, h0))
def p10 : Pt := (.cs (.bots 8) (.cs (.own 0) (.cs (.int .i64) (.cs (.int .i64) (.cs (.bots 49) .nl)))))
def q10 : Pt := (.cs (.row 2 true) .nl)
def ou10 (l : T10) (y : (List Int)) : Ex × St U := (.exit 1, stOf 60 [(8, .own 0)] [.row 2 y true] 0)
noncomputable def Λ10 : LFun U := mkLp (U := U) p10 q10 0 (X := (List Int)) (fun (l : T10) => L10 l.1.2.2.1 l.1.2.2.2.1 l.2.1) sp1 ou10
noncomputable def t (f_0 : Int) (f_1 : Int) (f_2 : Int) (f_3 : Int) (f_4 : Int) (v__0 : Int) (v__1 : ByteArray) : Tw (Int × (List Int)) :=
 (.opt (field_Right.c f_0 f_1 f_2 f_3 f_4) fun z1 =>
  (.bb (!z1)
   (.ret ((2 : Int), ([] : List Int)))
   (.opt (field_Has.c f_0 f_1 f_2 f_3 f_4 v__0 v__1) fun z2 =>
    (.bb (!z2)
     (.ret ((16 : Int), ([] : List Int)))
     (.bb (f_1 == (4 : Int))
      (.dd ((((((List.length ((w8 (((ByteArray.size v__1) : Nat) : Int)) :: ([] : List Int))) + (List.length (Go.Proofs.Ytpidbpmkogbdeaa.Va.b2l v__1))) * (1 : Nat)) ≤ (140737488355328 : Nat)) ∧ (((List.length ((w8 (((ByteArray.size v__1) : Nat) : Int)) :: ([] : List Int))) + (List.length (Go.Proofs.Ytpidbpmkogbdeaa.Va.b2l v__1))) ≤ (140737488355328 : Nat)))) inferInstance
       (.ret ((0 : Int), (((w8 (((ByteArray.size v__1) : Nat) : Int)) :: ([] : List Int)) ++ (Go.Proofs.Ytpidbpmkogbdeaa.Va.b2l v__1))))
       .no)
      (.opt (field_bounds.c f_0 f_1 f_2 f_3 f_4) fun z3 =>
       (.opt (field_wide.c f_0 f_1 f_2 f_3 f_4) fun z4 =>
        (.dd ((((0 : Int) ≤ z4) ∧ ((z4 ≤ z4) ∧ ((z4 ≤ (140737488355328 : Int)) ∧ ((z4 * (((1 : Nat) : Nat) : Int)) ≤ (140737488355328 : Int)))))) inferInstance
         (.opt (L10 (w64 ((((List.length (List.replicate (Int.toNat z4) (0 : Int))) : Nat) : Int) - (1 : Int))) (w64 (v__0 - z3.1)) (List.replicate (Int.toNat z4) (0 : Int))) fun z6 =>
          (.ret ((0 : Int), z6)))
         .no))))))))
noncomputable def c (f_0 : Int) (f_1 : Int) (f_2 : Int) (f_3 : Int) (f_4 : Int) (v__0 : Int) (v__1 : ByteArray) : Option (Int × (List Int)) := (t f_0 f_1 f_2 f_3 f_4 v__0 v__1).run
def pA : Pt := (.cs (.agg (.cs (.int .i64) (.cs (.int .i64) (.cs (.int .i64) (.cs (.int .i64) (.cs (.int .i64) .nl)))))) (.cs (.agg (.cs (.int .i64) (.cs .str .nl))) .nl))
def pH : Pt := .nl
def v (l : TA) (y : (Int × (List Int))) : AV U := .tup [.own 0, .im (.int .i64 y.1)]
def hh (l : TA) (y : (Int × (List Int))) : Hp U := [.row 2 y.2 true]
noncomputable def A : AFun U := mkA (U := U) pA pH (X := (Int × (List Int))) (fun (l : TA) => c l.1.1.1 l.1.1.2.1 l.1.1.2.2.1 l.1.1.2.2.2.1 l.1.1.2.2.2.2.1 l.1.2.1.1 l.1.2.1.2.1) sp1 v hh
noncomputable def body : Code := (Go.Func.body Try.f143).getD .skip
noncomputable def Γ : List (FuncId × AFun U) := [(174, field_Right.A), (138, field_Has.A), (175, field_bounds.A), (177, field_wide.A)]
noncomputable def Λ : List (Nat × LFun U) := [(10, Λ10)]
noncomputable def CT : List (Nat × LFun U) := []
def ro : List FuncId := []
def D : Nat → Lv × Lv := dtab [(10, ⟨[9, 10, 8], []⟩, ⟨[4, 5, 8], []⟩)]
noncomputable def E : Env U := { E0 with Γ := Γ, Λ := Λ, C := CT, D := D, ro := ro }
theorem hf10 (R : Type) (l : T10) (s : (Int × (Int × (List Int)))) (K : Ex → St U → Option R) : codeA E (pick (loopsOf body) 10) ⟨p10.mkL ((((), ((), (s.1, (s.2.1, ((), ()))))), (s.2.2, ())) : T10).1, q10.mkH ((((), ((), (s.1, (s.2.1, ((), ()))))), (s.2.2, ())) : T10).2, 0⟩ (roundK E (pick (loopsOf body) 10) K) =
  (l10 s.1 s.2.1 s.2.2).runK (lpK K (fun s => ⟨p10.mkL ((((), ((), (s.1, (s.2.1, ((), ()))))), (s.2.2, ())) : T10).1, q10.mkH ((((), ((), (s.1, (s.2.1, ((), ()))))), (s.2.2, ())) : T10).2, 0⟩) sp1 (ou10 l)) := by kernel_rfl
theorem lk10 (R : Type) (st : St U) (K : Ex → St U → Option R) (r : R) (h : Λ10 R st K = some r) : ∃ n, loopA E (pick (loopsOf body) 10) n st K = some r :=
  lp_ok (U := U) (E := E) (b := pick (loopsOf body) 10) (m := 0) (sp := sp1) (p := p10) (q := q10) (X := (List Int)) (S := (Int × (Int × (List Int)))) (f := fun (l : T10) s => l10 s.1 s.2.1 s.2.2) (hd := fun (l : T10) s => (((), ((), (s.1, (s.2.1, ((), ()))))), (s.2.2, ()))) (s0 := fun (l : T10) => (l.1.2.2.1, (l.1.2.2.2.1, l.2.1))) (ou := ou10)
    (fun l => rfl) (fun l x => by rfl) sp1_ok hf10 h
theorem hk (R : Type) (l : TA) (K : AV U → Hp U → Option R) : funcA E Try.f143 [(0, [], .own 2)] R (pA.mkL l.1) (pH.mkH l.2) K = (t l.1.1.1 l.1.1.2.1 l.1.1.2.2.1 l.1.1.2.2.2.1 l.1.1.2.2.2.2.1 l.1.2.1.1 l.1.2.1.2.1).runK fun y => K (v l y) (hh l y) := by kernel_rfl
theorem okF : SoundF Try.prog cc 143 (funcA E Try.f143 [(0, [], .own 2)]) :=
  funcA_ok (E := E) P_mixed (E0_ok.with Γ Λ CT D ro) (gam_of (all_cons ⟨field_Right.ok, ⟨Try.f174, Try.func174, by kernel_rfl, by kernel_rfl⟩⟩ (all_cons ⟨field_Has.ok, ⟨Try.f138, Try.func138, by kernel_rfl, by kernel_rfl⟩⟩ (all_cons ⟨field_bounds.ok, ⟨Try.f175, Try.func175, by kernel_rfl, by kernel_rfl⟩⟩ (all_cons ⟨field_wide.ok, ⟨Try.f177, Try.func177, by kernel_rfl, by kernel_rfl⟩⟩ all_nil)))) (all_cons (no_keep (by kernel_rfl)) (all_cons (no_keep (by kernel_rfl)) (all_cons (no_keep (by kernel_rfl)) (all_cons (no_keep (by kernel_rfl)) all_nil))))) Try.func143 (c := body) (by kernel_rfl)
    (just_by (by kernel_rfl) (by kernel_rfl) (all_cons lk10 all_nil) all_nil) [(0, [], .own 2)]
theorem ok : SoundF Try.prog cc 143 A :=
  mkA_ok (E := E) (p := pA) (q := pH) (t := fun (l : TA) => t l.1.1.1 l.1.1.2.1 l.1.1.2.2.1 l.1.1.2.2.2.1 l.1.1.2.2.2.2.1 l.1.2.1.1 l.1.2.1.2.1) sp1_ok hk okF
theorem keep : KeepA A := mkA_keep (U := U) sp1_ok (fun (l : TA) y => ⟨(hh l y).drop 0, by kernel_rfl⟩)
end field_Lay

/-! instar/field.Take -/
namespace field_Take
abbrev TA : Type := (((Int × (Int × (Int × (Int × (Int × Unit))))) × ((List Int) × Unit)) × Unit)
abbrev T10 : Type := ((Unit × ((List Int) × (Unit × (Unit × (Unit × (Unit × (Int × (Bool × (Int × (Unit × ((List Int) × (Int × (Int × (Unit × Unit)))))))))))))) × ((Int × (Int × (Int × (Int × (Int × Unit))))) × ((Int × (ByteArray × Unit)) × Unit)))
noncomputable def l10 (b : (List Int)) (n : Int) (text : Bool) (k31 : (List Int)) (k32 : Int) (h0_0 : Int) (h0_1 : Int) (h0_2 : Int) (h0_3 : Int) (h0_4 : Int) (h1_0 : Int) (h1_1 : ByteArray) (u : Int) (k33 : Int) : Tw ((Int × Int) ⊕ Int) :=
 (.bb (decide (k33 < k32))
  (.dd (((0 : Int) ≤ k33)) inferInstance
   (.opt (k31)[(Int.toNat k33)]? fun z3 =>
    (.ret (.inl ((bOr .i64 (bShl .i64 u (8 : Int)) (w64 z3)), (w64 (k33 + (1 : Int)))))))
   .no)
  (.ret (.inr u)))
noncomputable def L10 (b : (List Int)) (n : Int) (text : Bool) (u : Int) (k31 : (List Int)) (k32 : Int) (k33 : Int) (h0_0 : Int) (h0_1 : Int) (h0_2 : Int) (h0_3 : Int) (h0_4 : Int) (h1_0 : Int) (h1_1 : ByteArray) : Option Int := Lp (fun s => (l10 b n text k31 k32 h0_0 h0_1 h0_2 h0_3 h0_4 h1_0 h1_1 s.1 s.2).run) (u, k33)
def p10 : Pt := (.cs (.bots 1) (.cs (.sl 2) (.cs (.ptr 0 0) (.cs (.bots 1) (.cs (.ptr 1 0) (.cs (.bots 2) (.cs (.int .i64) (.cs .bool (.cs (.int .i64) (.cs (.bots 21) (.cs (.sl 2) (.cs (.int .i64) (.cs (.int .i64) (.cs (.bots 61) .nl))))))))))))))
def q10 : Pt := (.cs (.var (.cs (.int .i64) (.cs (.int .i64) (.cs (.int .i64) (.cs (.int .i64) (.cs (.int .i64) .nl)))))) (.cs (.var (.cs (.int .i64) (.cs .str .nl))) .nl))
def ou10 (l : T10) (y : Int) : Ex × St U := (.exit 0, stOf 95 [(1, .im (.slice 2 l.1.2.1)), (2, .ptr 0 0), (4, .ptr 1 0), (7, .im (.int .i64 l.1.2.2.2.2.2.2.1)), (8, .im (.bool l.1.2.2.2.2.2.2.2.1)), (9, .im (.int .i64 y))] [.var [.im (.int .i64 l.2.1.1), .im (.int .i64 l.2.1.2.1), .im (.int .i64 l.2.1.2.2.1), .im (.int .i64 l.2.1.2.2.2.1), .im (.int .i64 l.2.1.2.2.2.2.1)], .var [.im (.int .i64 l.2.2.1.1), .im (.str l.2.2.1.2.1)]] 0)
noncomputable def Λ10 : LFun U := mkLp (U := U) p10 q10 0 (X := Int) (fun (l : T10) => L10 l.1.2.1 l.1.2.2.2.2.2.2.1 l.1.2.2.2.2.2.2.2.1 l.1.2.2.2.2.2.2.2.2.1 l.1.2.2.2.2.2.2.2.2.2.2.1 l.1.2.2.2.2.2.2.2.2.2.2.2.1 l.1.2.2.2.2.2.2.2.2.2.2.2.2.1 l.2.1.1 l.2.1.2.1 l.2.1.2.2.1 l.2.1.2.2.2.1 l.2.1.2.2.2.2.1 l.2.2.1.1 l.2.2.1.2.1) sp1 ou10
noncomputable def t (f_0 : Int) (f_1 : Int) (f_2 : Int) (f_3 : Int) (f_4 : Int) (b : (List Int)) : Tw (Int × (ByteArray × (Int × Int))) :=
 (.opt (field_Right.c f_0 f_1 f_2 f_3 f_4) fun z1 =>
  (.bb (!z1)
   (.ret ((0 : Int), (ByteArray.empty, ((0 : Int), (2 : Int)))))
   (.opt (field_wide.c f_0 f_1 f_2 f_3 f_4) fun z2 =>
    (.bb (f_1 == (4 : Int))
     (.bb (decide ((((List.length b) : Nat) : Int) < (1 : Int)))
      (.ret ((0 : Int), (ByteArray.empty, ((0 : Int), (5 : Int)))))
      (.dd ((((0 : Int) ≤ (1 : Int)) ∧ ((1 : Int) ≤ (((List.length b) : Nat) : Int)))) inferInstance
       (.opt (L10 b (1 : Int) (f_1 == (4 : Int)) (0 : Int) (List.take (Int.toNat (1 : Int)) b) (((List.length (List.take (Int.toNat (1 : Int)) b)) : Nat) : Int) (0 : Int) f_0 f_1 f_2 f_3 f_4 (0 : Int) ByteArray.empty) fun z6 =>
        (.opt (field_bounds.c f_0 f_1 f_2 f_3 f_4) fun z7 =>
         (.bb (f_1 == (4 : Int))
          (.bb (decide (z6 > f_4))
           (.ret ((0 : Int), (ByteArray.empty, ((0 : Int), (16 : Int)))))
           (.bb (!(f_1 == (4 : Int)))
            (.bb (decide (z6 > (w64 (z7.2 - z7.1))))
             (.ret ((0 : Int), (ByteArray.empty, ((0 : Int), (16 : Int)))))
             (.bb (!(f_1 == (4 : Int)))
              (.ret ((w64 (z7.1 + z6)), (ByteArray.empty, ((1 : Int), (0 : Int)))))
              (.bb (decide ((w64 ((((List.length b) : Nat) : Int) - (1 : Int))) < z6))
               (.ret ((0 : Int), (ByteArray.empty, ((0 : Int), (5 : Int)))))
               (.dd ((((0 : Int) ≤ (1 : Int)) ∧ (((1 : Int) ≤ (w64 ((1 : Int) + z6))) ∧ ((w64 ((1 : Int) + z6)) ≤ (((List.length b) : Nat) : Int))))) inferInstance
                (.ret ((0 : Int), ((Go.Proofs.Ytpidbpmkogbdeaa.Va.l2b (List.drop (Int.toNat (1 : Int)) (List.take (Int.toNat (w64 ((1 : Int) + z6))) b))), ((w64 ((1 : Int) + z6)), (0 : Int)))))
                .no))))
            (.bb (!(f_1 == (4 : Int)))
             (.ret ((w64 (z7.1 + z6)), (ByteArray.empty, ((1 : Int), (0 : Int)))))
             (.bb (decide ((w64 ((((List.length b) : Nat) : Int) - (1 : Int))) < z6))
              (.ret ((0 : Int), (ByteArray.empty, ((0 : Int), (5 : Int)))))
              (.dd ((((0 : Int) ≤ (1 : Int)) ∧ (((1 : Int) ≤ (w64 ((1 : Int) + z6))) ∧ ((w64 ((1 : Int) + z6)) ≤ (((List.length b) : Nat) : Int))))) inferInstance
               (.ret ((0 : Int), ((Go.Proofs.Ytpidbpmkogbdeaa.Va.l2b (List.drop (Int.toNat (1 : Int)) (List.take (Int.toNat (w64 ((1 : Int) + z6))) b))), ((w64 ((1 : Int) + z6)), (0 : Int)))))
               .no)))))
          (.bb (!(f_1 == (4 : Int)))
           (.bb (decide (z6 > (w64 (z7.2 - z7.1))))
            (.ret ((0 : Int), (ByteArray.empty, ((0 : Int), (16 : Int)))))
            (.bb (!(f_1 == (4 : Int)))
             (.ret ((w64 (z7.1 + z6)), (ByteArray.empty, ((1 : Int), (0 : Int)))))
             (.bb (decide ((w64 ((((List.length b) : Nat) : Int) - (1 : Int))) < z6))
              (.ret ((0 : Int), (ByteArray.empty, ((0 : Int), (5 : Int)))))
              (.dd ((((0 : Int) ≤ (1 : Int)) ∧ (((1 : Int) ≤ (w64 ((1 : Int) + z6))) ∧ ((w64 ((1 : Int) + z6)) ≤ (((List.length b) : Nat) : Int))))) inferInstance
               (.ret ((0 : Int), ((Go.Proofs.Ytpidbpmkogbdeaa.Va.l2b (List.drop (Int.toNat (1 : Int)) (List.take (Int.toNat (w64 ((1 : Int) + z6))) b))), ((w64 ((1 : Int) + z6)), (0 : Int)))))
               .no))))
           (.bb (!(f_1 == (4 : Int)))
            (.ret ((w64 (z7.1 + z6)), (ByteArray.empty, ((1 : Int), (0 : Int)))))
            (.bb (decide ((w64 ((((List.length b) : Nat) : Int) - (1 : Int))) < z6))
             (.ret ((0 : Int), (ByteArray.empty, ((0 : Int), (5 : Int)))))
             (.dd ((((0 : Int) ≤ (1 : Int)) ∧ (((1 : Int) ≤ (w64 ((1 : Int) + z6))) ∧ ((w64 ((1 : Int) + z6)) ≤ (((List.length b) : Nat) : Int))))) inferInstance
              (.ret ((0 : Int), ((Go.Proofs.Ytpidbpmkogbdeaa.Va.l2b (List.drop (Int.toNat (1 : Int)) (List.take (Int.toNat (w64 ((1 : Int) + z6))) b))), ((w64 ((1 : Int) + z6)), (0 : Int)))))
              .no)))))))
       .no))
     (.bb (decide ((((List.length b) : Nat) : Int) < z2))
      (.ret ((0 : Int), (ByteArray.empty, ((0 : Int), (5 : Int)))))
      (.dd ((((0 : Int) ≤ z2) ∧ (z2 ≤ (((List.length b) : Nat) : Int)))) inferInstance
       (.opt (L10 b z2 (f_1 == (4 : Int)) (0 : Int) (List.take (Int.toNat z2) b) (((List.length (List.take (Int.toNat z2) b)) : Nat) : Int) (0 : Int) f_0 f_1 f_2 f_3 f_4 (0 : Int) ByteArray.empty) fun z4 =>
        (.opt (field_bounds.c f_0 f_1 f_2 f_3 f_4) fun z5 =>
         (.bb (f_1 == (4 : Int))
          (.bb (decide (z4 > f_4))
           (.ret ((0 : Int), (ByteArray.empty, ((0 : Int), (16 : Int)))))
           (.bb (!(f_1 == (4 : Int)))
            (.bb (decide (z4 > (w64 (z5.2 - z5.1))))
             (.ret ((0 : Int), (ByteArray.empty, ((0 : Int), (16 : Int)))))
             (.bb (!(f_1 == (4 : Int)))
              (.ret ((w64 (z5.1 + z4)), (ByteArray.empty, (z2, (0 : Int)))))
              (.bb (decide ((w64 ((((List.length b) : Nat) : Int) - z2)) < z4))
               (.ret ((0 : Int), (ByteArray.empty, ((0 : Int), (5 : Int)))))
               (.dd ((((0 : Int) ≤ z2) ∧ ((z2 ≤ (w64 (z2 + z4))) ∧ ((w64 (z2 + z4)) ≤ (((List.length b) : Nat) : Int))))) inferInstance
                (.ret ((0 : Int), ((Go.Proofs.Ytpidbpmkogbdeaa.Va.l2b (List.drop (Int.toNat z2) (List.take (Int.toNat (w64 (z2 + z4))) b))), ((w64 (z2 + z4)), (0 : Int)))))
                .no))))
            (.bb (!(f_1 == (4 : Int)))
             (.ret ((w64 (z5.1 + z4)), (ByteArray.empty, (z2, (0 : Int)))))
             (.bb (decide ((w64 ((((List.length b) : Nat) : Int) - z2)) < z4))
              (.ret ((0 : Int), (ByteArray.empty, ((0 : Int), (5 : Int)))))
              (.dd ((((0 : Int) ≤ z2) ∧ ((z2 ≤ (w64 (z2 + z4))) ∧ ((w64 (z2 + z4)) ≤ (((List.length b) : Nat) : Int))))) inferInstance
               (.ret ((0 : Int), ((Go.Proofs.Ytpidbpmkogbdeaa.Va.l2b (List.drop (Int.toNat z2) (List.take (Int.toNat (w64 (z2 + z4))) b))), ((w64 (z2 + z4)), (0 : Int)))))
               .no)))))
          (.bb (!(f_1 == (4 : Int)))
           (.bb (decide (z4 > (w64 (z5.2 - z5.1))))
            (.ret ((0 : Int), (ByteArray.empty, ((0 : Int), (16 : Int)))))
            (.bb (!(f_1 == (4 : Int)))
             (.ret ((w64 (z5.1 + z4)), (ByteArray.empty, (z2, (0 : Int)))))
             (.bb (decide ((w64 ((((List.length b) : Nat) : Int) - z2)) < z4))
              (.ret ((0 : Int), (ByteArray.empty, ((0 : Int), (5 : Int)))))
              (.dd ((((0 : Int) ≤ z2) ∧ ((z2 ≤ (w64 (z2 + z4))) ∧ ((w64 (z2 + z4)) ≤ (((List.length b) : Nat) : Int))))) inferInstance
               (.ret ((0 : Int), ((Go.Proofs.Ytpidbpmkogbdeaa.Va.l2b (List.drop (Int.toNat z2) (List.take (Int.toNat (w64 (z2 + z4))) b))), ((w64 (z2 + z4)), (0 : Int)))))
               .no))))
           (.bb (!(f_1 == (4 : Int)))
            (.ret ((w64 (z5.1 + z4)), (ByteArray.empty, (z2, (0 : Int)))))
            (.bb (decide ((w64 ((((List.length b) : Nat) : Int) - z2)) < z4))
             (.ret ((0 : Int), (ByteArray.empty, ((0 : Int), (5 : Int)))))
             (.dd ((((0 : Int) ≤ z2) ∧ ((z2 ≤ (w64 (z2 + z4))) ∧ ((w64 (z2 + z4)) ≤ (((List.length b) : Nat) : Int))))) inferInstance
              (.ret ((0 : Int), ((Go.Proofs.Ytpidbpmkogbdeaa.Va.l2b (List.drop (Int.toNat z2) (List.take (Int.toNat (w64 (z2 + z4))) b))), ((w64 (z2 + z4)), (0 : Int)))))
              .no)))))))
       .no))))))
noncomputable def c (f_0 : Int) (f_1 : Int) (f_2 : Int) (f_3 : Int) (f_4 : Int) (b : (List Int)) : Option (Int × (ByteArray × (Int × Int))) := (t f_0 f_1 f_2 f_3 f_4 b).run
def pA : Pt := (.cs (.agg (.cs (.int .i64) (.cs (.int .i64) (.cs (.int .i64) (.cs (.int .i64) (.cs (.int .i64) .nl)))))) (.cs (.sl 2) .nl))
def pH : Pt := .nl
def v (l : TA) (y : (Int × (ByteArray × (Int × Int)))) : AV U := .tup [.agg [.im (.int .i64 y.1), .im (.str y.2.1)], .im (.int .i64 y.2.2.1), .im (.int .i64 y.2.2.2)]
def hh (l : TA) (y : (Int × (ByteArray × (Int × Int)))) : Hp U := []
noncomputable def A : AFun U := mkA (U := U) pA pH (X := (Int × (ByteArray × (Int × Int)))) (fun (l : TA) => c l.1.1.1 l.1.1.2.1 l.1.1.2.2.1 l.1.1.2.2.2.1 l.1.1.2.2.2.2.1 l.1.2.1) sp1 v hh
noncomputable def body : Code := (Go.Func.body Try.f144).getD .skip
noncomputable def Γ : List (FuncId × AFun U) := [(174, field_Right.A), (177, field_wide.A), (175, field_bounds.A)]
noncomputable def Λ : List (Nat × LFun U) := [(10, Λ10)]
noncomputable def CT : List (Nat × LFun U) := []
def ro : List FuncId := []
def D : Nat → Lv × Lv := dtab [(10, ⟨[33, 9, 31, 4, 7, 1, 8, 2, 32], []⟩, ⟨[4, 5, 6, 7, 9, 1, 8, 2], []⟩)]
noncomputable def E : Env U := { E0 with Γ := Γ, Λ := Λ, C := CT, D := D, ro := ro }
theorem hf10 (R : Type) (l : T10) (s : (Int × Int)) (K : Ex → St U → Option R) : codeA E (pick (loopsOf body) 10) ⟨p10.mkL ((((), (l.1.2.1, ((), ((), ((), ((), (l.1.2.2.2.2.2.2.1, (l.1.2.2.2.2.2.2.2.1, (s.1, ((), (l.1.2.2.2.2.2.2.2.2.2.2.1, (l.1.2.2.2.2.2.2.2.2.2.2.2.1, (s.2, ((), ())))))))))))))), ((l.2.1.1, (l.2.1.2.1, (l.2.1.2.2.1, (l.2.1.2.2.2.1, (l.2.1.2.2.2.2.1, ()))))), ((l.2.2.1.1, (l.2.2.1.2.1, ())), ()))) : T10).1, q10.mkH ((((), (l.1.2.1, ((), ((), ((), ((), (l.1.2.2.2.2.2.2.1, (l.1.2.2.2.2.2.2.2.1, (s.1, ((), (l.1.2.2.2.2.2.2.2.2.2.2.1, (l.1.2.2.2.2.2.2.2.2.2.2.2.1, (s.2, ((), ())))))))))))))), ((l.2.1.1, (l.2.1.2.1, (l.2.1.2.2.1, (l.2.1.2.2.2.1, (l.2.1.2.2.2.2.1, ()))))), ((l.2.2.1.1, (l.2.2.1.2.1, ())), ()))) : T10).2, 0⟩ (roundK E (pick (loopsOf body) 10) K) =
  (l10 l.1.2.1 l.1.2.2.2.2.2.2.1 l.1.2.2.2.2.2.2.2.1 l.1.2.2.2.2.2.2.2.2.2.2.1 l.1.2.2.2.2.2.2.2.2.2.2.2.1 l.2.1.1 l.2.1.2.1 l.2.1.2.2.1 l.2.1.2.2.2.1 l.2.1.2.2.2.2.1 l.2.2.1.1 l.2.2.1.2.1 s.1 s.2).runK (lpK K (fun s => ⟨p10.mkL ((((), (l.1.2.1, ((), ((), ((), ((), (l.1.2.2.2.2.2.2.1, (l.1.2.2.2.2.2.2.2.1, (s.1, ((), (l.1.2.2.2.2.2.2.2.2.2.2.1, (l.1.2.2.2.2.2.2.2.2.2.2.2.1, (s.2, ((), ())))))))))))))), ((l.2.1.1, (l.2.1.2.1, (l.2.1.2.2.1, (l.2.1.2.2.2.1, (l.2.1.2.2.2.2.1, ()))))), ((l.2.2.1.1, (l.2.2.1.2.1, ())), ()))) : T10).1, q10.mkH ((((), (l.1.2.1, ((), ((), ((), ((), (l.1.2.2.2.2.2.2.1, (l.1.2.2.2.2.2.2.2.1, (s.1, ((), (l.1.2.2.2.2.2.2.2.2.2.2.1, (l.1.2.2.2.2.2.2.2.2.2.2.2.1, (s.2, ((), ())))))))))))))), ((l.2.1.1, (l.2.1.2.1, (l.2.1.2.2.1, (l.2.1.2.2.2.1, (l.2.1.2.2.2.2.1, ()))))), ((l.2.2.1.1, (l.2.2.1.2.1, ())), ()))) : T10).2, 0⟩) sp1 (ou10 l)) := by kernel_rfl
theorem lk10 (R : Type) (st : St U) (K : Ex → St U → Option R) (r : R) (h : Λ10 R st K = some r) : ∃ n, loopA E (pick (loopsOf body) 10) n st K = some r :=
  lp_ok (U := U) (E := E) (b := pick (loopsOf body) 10) (m := 0) (sp := sp1) (p := p10) (q := q10) (X := Int) (S := (Int × Int)) (f := fun (l : T10) s => l10 l.1.2.1 l.1.2.2.2.2.2.2.1 l.1.2.2.2.2.2.2.2.1 l.1.2.2.2.2.2.2.2.2.2.2.1 l.1.2.2.2.2.2.2.2.2.2.2.2.1 l.2.1.1 l.2.1.2.1 l.2.1.2.2.1 l.2.1.2.2.2.1 l.2.1.2.2.2.2.1 l.2.2.1.1 l.2.2.1.2.1 s.1 s.2) (hd := fun (l : T10) s => (((), (l.1.2.1, ((), ((), ((), ((), (l.1.2.2.2.2.2.2.1, (l.1.2.2.2.2.2.2.2.1, (s.1, ((), (l.1.2.2.2.2.2.2.2.2.2.2.1, (l.1.2.2.2.2.2.2.2.2.2.2.2.1, (s.2, ((), ())))))))))))))), ((l.2.1.1, (l.2.1.2.1, (l.2.1.2.2.1, (l.2.1.2.2.2.1, (l.2.1.2.2.2.2.1, ()))))), ((l.2.2.1.1, (l.2.2.1.2.1, ())), ())))) (s0 := fun (l : T10) => (l.1.2.2.2.2.2.2.2.2.1, l.1.2.2.2.2.2.2.2.2.2.2.2.2.1)) (ou := ou10)
    (fun l => rfl) (fun l x => by rfl) sp1_ok hf10 h
theorem hk (R : Type) (l : TA) (K : AV U → Hp U → Option R) : funcA E Try.f144 [] R (pA.mkL l.1) (pH.mkH l.2) K = (t l.1.1.1 l.1.1.2.1 l.1.1.2.2.1 l.1.1.2.2.2.1 l.1.1.2.2.2.2.1 l.1.2.1).runK fun y => K (v l y) (hh l y) := by kernel_rfl
theorem okF : SoundF Try.prog cc 144 (funcA E Try.f144 []) :=
  funcA_ok (E := E) P_mixed (E0_ok.with Γ Λ CT D ro) (gam_of (all_cons ⟨field_Right.ok, ⟨Try.f174, Try.func174, by kernel_rfl, by kernel_rfl⟩⟩ (all_cons ⟨field_wide.ok, ⟨Try.f177, Try.func177, by kernel_rfl, by kernel_rfl⟩⟩ (all_cons ⟨field_bounds.ok, ⟨Try.f175, Try.func175, by kernel_rfl, by kernel_rfl⟩⟩ all_nil))) (all_cons (no_keep (by kernel_rfl)) (all_cons (no_keep (by kernel_rfl)) (all_cons (no_keep (by kernel_rfl)) all_nil)))) Try.func144 (c := body) (by kernel_rfl)
    (just_by (by kernel_rfl) (by kernel_rfl) (all_cons lk10 all_nil) all_nil) []
theorem ok : SoundF Try.prog cc 144 A :=
  mkA_ok (E := E) (p := pA) (q := pH) (t := fun (l : TA) => t l.1.1.1 l.1.1.2.1 l.1.1.2.2.1 l.1.1.2.2.2.1 l.1.1.2.2.2.2.1 l.1.2.1) sp1_ok hk okF
theorem keep : KeepA A := mkA_keep (U := U) sp1_ok (fun (l : TA) y => ⟨(hh l y).drop 0, by kernel_rfl⟩)
end field_Take

end Go.Proofs.Ytpidbpmkogbdeaa.Va
