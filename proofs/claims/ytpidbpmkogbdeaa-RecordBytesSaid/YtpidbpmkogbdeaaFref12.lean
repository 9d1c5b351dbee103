/- The functions of package ref12, as plain functions, and that the program computes them. Printed by a program of this work out of the evaluator. -/
import Derived.Test.YtpidbpmkogbdeaaEn
import Derived.Tactics
namespace Go.Proofs.Ytpidbpmkogbdeaa.Va
open Go
set_option linter.unusedVariables false
set_option maxRecDepth 100000

/-! instar/instarref12.Span -/
namespace ref12_Span
abbrev TA : Type := (((Int × (Int × (Int × (Int × (Int × Unit))))) × Unit) × Unit)
noncomputable def t (f_0 : Int) (f_1 : Int) (f_2 : Int) (f_3 : Int) (f_4 : Int) : Tw (Int × (Int × (Int × Bool))) :=
 (.bb (decide (f_0 ≥ (0 : Int)))
  (.bb (f_1 == (1 : Int))
   (.bb (decide (f_0 ≤ (255 : Int)))
    (.bb (decide (f_2 ≥ (-(1099511627776 : Int))))
     (.bb (decide (f_3 ≤ (1099511627776 : Int)))
      (.bb (decide (f_2 ≤ f_3))
       (.ret (f_2, (f_3, ((0 : Int), (f_4 == (0 : Int))))))
       (.ret (f_2, (f_3, ((0 : Int), false)))))
      (.ret (f_2, (f_3, ((0 : Int), false)))))
     (.ret (f_2, (f_3, ((0 : Int), false)))))
    (.ret (f_2, (f_3, ((0 : Int), false)))))
   (.bb (f_1 == (2 : Int))
    (.bb (decide (f_0 ≤ (255 : Int)))
     (.bb (f_2 == (0 : Int))
      (.bb (f_3 == (0 : Int))
       (.ret ((0 : Int), ((1 : Int), ((0 : Int), (f_4 == (0 : Int))))))
       (.ret ((0 : Int), ((1 : Int), ((0 : Int), false)))))
      (.ret ((0 : Int), ((1 : Int), ((0 : Int), false)))))
     (.ret ((0 : Int), ((1 : Int), ((0 : Int), false)))))
    (.bb (f_1 == (3 : Int))
     (.bb (decide (f_0 ≤ (255 : Int)))
      (.bb (f_2 == (0 : Int))
       (.bb (f_3 == (0 : Int))
        (.bb (decide (f_4 ≥ (1 : Int)))
         (.ret ((0 : Int), ((w64 (f_4 - (1 : Int))), ((0 : Int), (decide (f_4 ≤ (1000 : Int)))))))
         (.ret ((0 : Int), ((w64 (f_4 - (1 : Int))), ((0 : Int), false)))))
        (.ret ((0 : Int), ((w64 (f_4 - (1 : Int))), ((0 : Int), false)))))
       (.ret ((0 : Int), ((w64 (f_4 - (1 : Int))), ((0 : Int), false)))))
      (.ret ((0 : Int), ((w64 (f_4 - (1 : Int))), ((0 : Int), false)))))
     (.bb (f_1 == (4 : Int))
      (.bb (decide (f_0 ≤ (255 : Int)))
       (.bb (f_2 == (0 : Int))
        (.bb (f_3 == (0 : Int))
         (.bb (decide (f_4 ≥ (0 : Int)))
          (.ret ((0 : Int), ((0 : Int), (f_4, (decide (f_4 ≤ (32 : Int)))))))
          (.ret ((0 : Int), ((0 : Int), (f_4, false)))))
         (.ret ((0 : Int), ((0 : Int), (f_4, false)))))
        (.ret ((0 : Int), ((0 : Int), (f_4, false)))))
       (.ret ((0 : Int), ((0 : Int), (f_4, false)))))
      (.ret ((0 : Int), ((0 : Int), ((0 : Int), false))))))))
  (.bb (f_1 == (1 : Int))
   (.ret (f_2, (f_3, ((0 : Int), false))))
   (.bb (f_1 == (2 : Int))
    (.ret ((0 : Int), ((1 : Int), ((0 : Int), false))))
    (.bb (f_1 == (3 : Int))
     (.ret ((0 : Int), ((w64 (f_4 - (1 : Int))), ((0 : Int), false))))
     (.bb (f_1 == (4 : Int))
      (.ret ((0 : Int), ((0 : Int), (f_4, false))))
      (.ret ((0 : Int), ((0 : Int), ((0 : Int), false)))))))))
noncomputable def c (f_0 : Int) (f_1 : Int) (f_2 : Int) (f_3 : Int) (f_4 : Int) : Option (Int × (Int × (Int × Bool))) := (t f_0 f_1 f_2 f_3 f_4).run
def pA : Pt := (.cs (.agg (.cs (.int .i64) (.cs (.int .i64) (.cs (.int .i64) (.cs (.int .i64) (.cs (.int .i64) .nl)))))) .nl)
def pH : Pt := .nl
def v (l : TA) (y : (Int × (Int × (Int × Bool)))) : AV U := .tup [.im (.int .i64 y.1), .im (.int .i64 y.2.1), .im (.int .i64 y.2.2.1), .im (.bool y.2.2.2)]
def hh (l : TA) (y : (Int × (Int × (Int × Bool)))) : Hp U := []
noncomputable def A : AFun U := mkA (U := U) pA pH (X := (Int × (Int × (Int × Bool)))) (fun (l : TA) => c l.1.1.1 l.1.1.2.1 l.1.1.2.2.1 l.1.1.2.2.2.1 l.1.1.2.2.2.2.1) sp1 v hh
noncomputable def body : Code := (Go.Func.body Try.f173).getD .skip
noncomputable def Γ : List (FuncId × AFun U) := []
noncomputable def Λ : List (Nat × LFun U) := []
noncomputable def CT : List (Nat × LFun U) := []
def ro : List FuncId := []
def D : Nat → Lv × Lv := dtab []
noncomputable def E : Env U := { E0 with Γ := Γ, Λ := Λ, C := CT, D := D, ro := ro }
theorem hk (R : Type) (l : TA) (K : AV U → Hp U → Option R) : funcA E Try.f173 [] R (pA.mkL l.1) (pH.mkH l.2) K = (t l.1.1.1 l.1.1.2.1 l.1.1.2.2.1 l.1.1.2.2.2.1 l.1.1.2.2.2.2.1).runK fun y => K (v l y) (hh l y) := by kernel_rfl
theorem okF : SoundF Try.prog cc 173 (funcA E Try.f173 []) :=
  funcA_ok (E := E) P_mixed (E0_ok.with Γ Λ CT D ro) (gam_of all_nil all_nil) Try.func173 (c := body) (by kernel_rfl)
    (just_by (by kernel_rfl) (by kernel_rfl) all_nil all_nil) []
theorem ok : SoundF Try.prog cc 173 A :=
  mkA_ok (E := E) (p := pA) (q := pH) (t := fun (l : TA) => t l.1.1.1 l.1.1.2.1 l.1.1.2.2.1 l.1.1.2.2.2.1 l.1.1.2.2.2.2.1) sp1_ok hk okF
theorem keep : KeepA A := mkA_keep (U := U) sp1_ok (fun (l : TA) y => ⟨(hh l y).drop 0, by kernel_rfl⟩)
end ref12_Span

/-! instar/instarref12.Right -/
namespace ref12_Right
abbrev TA : Type := (((Int × (Int × (Int × (Int × (Int × Unit))))) × Unit) × Unit)
noncomputable def t (f_0 : Int) (f_1 : Int) (f_2 : Int) (f_3 : Int) (f_4 : Int) : Tw Bool :=
 (.opt (ref12_Span.c f_0 f_1 f_2 f_3 f_4) fun z1 =>
  (.ret z1.2.2.2))
noncomputable def c (f_0 : Int) (f_1 : Int) (f_2 : Int) (f_3 : Int) (f_4 : Int) : Option Bool := (t f_0 f_1 f_2 f_3 f_4).run
def pA : Pt := (.cs (.agg (.cs (.int .i64) (.cs (.int .i64) (.cs (.int .i64) (.cs (.int .i64) (.cs (.int .i64) .nl)))))) .nl)
def pH : Pt := .nl
def v (l : TA) (y : Bool) : AV U := .im (.bool y)
def hh (l : TA) (y : Bool) : Hp U := []
noncomputable def A : AFun U := mkA (U := U) pA pH (X := Bool) (fun (l : TA) => c l.1.1.1 l.1.1.2.1 l.1.1.2.2.1 l.1.1.2.2.2.1 l.1.1.2.2.2.2.1) sp1 v hh
noncomputable def body : Code := (Go.Func.body Try.f132).getD .skip
noncomputable def Γ : List (FuncId × AFun U) := [(173, ref12_Span.A)]
noncomputable def Λ : List (Nat × LFun U) := []
noncomputable def CT : List (Nat × LFun U) := []
def ro : List FuncId := []
def D : Nat → Lv × Lv := dtab []
noncomputable def E : Env U := { E0 with Γ := Γ, Λ := Λ, C := CT, D := D, ro := ro }
theorem hk (R : Type) (l : TA) (K : AV U → Hp U → Option R) : funcA E Try.f132 [] R (pA.mkL l.1) (pH.mkH l.2) K = (t l.1.1.1 l.1.1.2.1 l.1.1.2.2.1 l.1.1.2.2.2.1 l.1.1.2.2.2.2.1).runK fun y => K (v l y) (hh l y) := by kernel_rfl
theorem okF : SoundF Try.prog cc 132 (funcA E Try.f132 []) :=
  funcA_ok (E := E) P_mixed (E0_ok.with Γ Λ CT D ro) (gam_of (all_cons ⟨ref12_Span.ok, ⟨Try.f173, Try.func173, by kernel_rfl, by kernel_rfl⟩⟩ all_nil) (all_cons (no_keep (by kernel_rfl)) all_nil)) Try.func132 (c := body) (by kernel_rfl)
    (just_by (by kernel_rfl) (by kernel_rfl) all_nil all_nil) []
theorem ok : SoundF Try.prog cc 132 A :=
  mkA_ok (E := E) (p := pA) (q := pH) (t := fun (l : TA) => t l.1.1.1 l.1.1.2.1 l.1.1.2.2.1 l.1.1.2.2.2.1 l.1.1.2.2.2.2.1) sp1_ok hk okF
theorem keep : KeepA A := mkA_keep (U := U) sp1_ok (fun (l : TA) y => ⟨(hh l y).drop 0, by kernel_rfl⟩)
end ref12_Right

/-! instar/instarref12.wide -/
namespace ref12_wide
abbrev TA : Type := ((Int × Unit) × Unit)
abbrev T2 : Type := ((Int × (Unit × (Int × (Unit × Unit)))) × Unit)
noncomputable def l2 (n : Int) (w : Int) : Tw ((Int × Int) ⊕ Int) :=
 (.bb (decide (n > (0 : Int)))
  (.ret (.inl ((w64 (Int.tdiv n (256 : Int))), (w64 (w + (1 : Int))))))
  (.ret (.inr w)))
noncomputable def L2 (n : Int) (w : Int) : Option Int := Lp (fun s => (l2 s.1 s.2).run) (n, w)
def p2 : Pt := (.cs (.int .i64) (.cs (.bots 2) (.cs (.int .i64) (.cs (.bots 7) .nl))))
def q2 : Pt := .nl
def ou2 (l : T2) (y : Int) : Ex × St U := (.exit 0, stOf 11 [(3, .im (.int .i64 y))] [] 0)
noncomputable def Λ2 : LFun U := mkLp (U := U) p2 q2 0 (X := Int) (fun (l : T2) => L2 l.1.1 l.1.2.2.1) sp1 ou2
noncomputable def t (n : Int) : Tw Int :=
 (.opt (L2 n (0 : Int)) fun z1 =>
  (.ret z1))
noncomputable def c (n : Int) : Option Int := (t n).run
def pA : Pt := (.cs (.int .i64) .nl)
def pH : Pt := .nl
def v (l : TA) (y : Int) : AV U := .im (.int .i64 y)
def hh (l : TA) (y : Int) : Hp U := []
noncomputable def A : AFun U := mkA (U := U) pA pH (X := Int) (fun (l : TA) => c l.1.1) sp1 v hh
noncomputable def body : Code := (Go.Func.body Try.f178).getD .skip
noncomputable def Γ : List (FuncId × AFun U) := []
noncomputable def Λ : List (Nat × LFun U) := [(2, Λ2)]
noncomputable def CT : List (Nat × LFun U) := []
def ro : List FuncId := []
def D : Nat → Lv × Lv := dtab [(2, ⟨[3, 0], []⟩, ⟨[2, 3], []⟩)]
noncomputable def E : Env U := { E0 with Γ := Γ, Λ := Λ, C := CT, D := D, ro := ro }
theorem hf2 (R : Type) (l : T2) (s : (Int × Int)) (K : Ex → St U → Option R) : codeA E (pick (loopsOf body) 2) ⟨p2.mkL (((s.1, ((), (s.2, ((), ())))), ()) : T2).1, q2.mkH (((s.1, ((), (s.2, ((), ())))), ()) : T2).2, 0⟩ (roundK E (pick (loopsOf body) 2) K) =
  (l2 s.1 s.2).runK (lpK K (fun s => ⟨p2.mkL (((s.1, ((), (s.2, ((), ())))), ()) : T2).1, q2.mkH (((s.1, ((), (s.2, ((), ())))), ()) : T2).2, 0⟩) sp1 (ou2 l)) := by kernel_rfl
theorem lk2 (R : Type) (st : St U) (K : Ex → St U → Option R) (r : R) (h : Λ2 R st K = some r) : ∃ n, loopA E (pick (loopsOf body) 2) n st K = some r :=
  lp_ok (U := U) (E := E) (b := pick (loopsOf body) 2) (m := 0) (sp := sp1) (p := p2) (q := q2) (X := Int) (S := (Int × Int)) (f := fun (l : T2) s => l2 s.1 s.2) (hd := fun (l : T2) s => ((s.1, ((), (s.2, ((), ())))), ())) (s0 := fun (l : T2) => (l.1.1, l.1.2.2.1)) (ou := ou2)
    (fun l => rfl) (fun l x => by rfl) sp1_ok hf2 h
theorem hk (R : Type) (l : TA) (K : AV U → Hp U → Option R) : funcA E Try.f178 [] R (pA.mkL l.1) (pH.mkH l.2) K = (t l.1.1).runK fun y => K (v l y) (hh l y) := by kernel_rfl
theorem okF : SoundF Try.prog cc 178 (funcA E Try.f178 []) :=
  funcA_ok (E := E) P_mixed (E0_ok.with Γ Λ CT D ro) (gam_of all_nil all_nil) Try.func178 (c := body) (by kernel_rfl)
    (just_by (by kernel_rfl) (by kernel_rfl) (all_cons lk2 all_nil) all_nil) []
theorem ok : SoundF Try.prog cc 178 A :=
  mkA_ok (E := E) (p := pA) (q := pH) (t := fun (l : TA) => t l.1.1) sp1_ok hk okF
theorem keep : KeepA A := mkA_keep (U := U) sp1_ok (fun (l : TA) y => ⟨(hh l y).drop 0, by kernel_rfl⟩)
end ref12_wide

/-! instar/instarref12.Size -/
namespace ref12_Size
abbrev TA : Type := (((Int × (Int × (Int × (Int × (Int × Unit))))) × Unit) × Unit)
noncomputable def t (f_0 : Int) (f_1 : Int) (f_2 : Int) (f_3 : Int) (f_4 : Int) : Tw Int :=
 (.opt (ref12_Span.c f_0 f_1 f_2 f_3 f_4) fun z1 =>
  (.bb (!z1.2.2.2)
   (.ret (0 : Int))
   (.bb (f_1 == (4 : Int))
    (.ret (w64 ((1 : Int) + z1.2.2.1)))
    (.opt (ref12_wide.c (w64 (z1.2.1 - z1.1))) fun z2 =>
     (.ret z2)))))
noncomputable def c (f_0 : Int) (f_1 : Int) (f_2 : Int) (f_3 : Int) (f_4 : Int) : Option Int := (t f_0 f_1 f_2 f_3 f_4).run
def pA : Pt := (.cs (.agg (.cs (.int .i64) (.cs (.int .i64) (.cs (.int .i64) (.cs (.int .i64) (.cs (.int .i64) .nl)))))) .nl)
def pH : Pt := .nl
def v (l : TA) (y : Int) : AV U := .im (.int .i64 y)
def hh (l : TA) (y : Int) : Hp U := []
noncomputable def A : AFun U := mkA (U := U) pA pH (X := Int) (fun (l : TA) => c l.1.1.1 l.1.1.2.1 l.1.1.2.2.1 l.1.1.2.2.2.1 l.1.1.2.2.2.2.1) sp1 v hh
noncomputable def body : Code := (Go.Func.body Try.f147).getD .skip
noncomputable def Γ : List (FuncId × AFun U) := [(173, ref12_Span.A), (178, ref12_wide.A)]
noncomputable def Λ : List (Nat × LFun U) := []
noncomputable def CT : List (Nat × LFun U) := []
def ro : List FuncId := []
def D : Nat → Lv × Lv := dtab []
noncomputable def E : Env U := { E0 with Γ := Γ, Λ := Λ, C := CT, D := D, ro := ro }
theorem hk (R : Type) (l : TA) (K : AV U → Hp U → Option R) : funcA E Try.f147 [] R (pA.mkL l.1) (pH.mkH l.2) K = (t l.1.1.1 l.1.1.2.1 l.1.1.2.2.1 l.1.1.2.2.2.1 l.1.1.2.2.2.2.1).runK fun y => K (v l y) (hh l y) := by kernel_rfl
theorem okF : SoundF Try.prog cc 147 (funcA E Try.f147 []) :=
  funcA_ok (E := E) P_mixed (E0_ok.with Γ Λ CT D ro) (gam_of (all_cons ⟨ref12_Span.ok, ⟨Try.f173, Try.func173, by kernel_rfl, by kernel_rfl⟩⟩ (all_cons ⟨ref12_wide.ok, ⟨Try.f178, Try.func178, by kernel_rfl, by kernel_rfl⟩⟩ all_nil)) (all_cons (no_keep (by kernel_rfl)) (all_cons (no_keep (by kernel_rfl)) all_nil))) Try.func147 (c := body) (by kernel_rfl)
    (just_by (by kernel_rfl) (by kernel_rfl) all_nil all_nil) []
theorem ok : SoundF Try.prog cc 147 A :=
  mkA_ok (E := E) (p := pA) (q := pH) (t := fun (l : TA) => t l.1.1.1 l.1.1.2.1 l.1.1.2.2.1 l.1.1.2.2.2.1 l.1.1.2.2.2.2.1) sp1_ok hk okF
theorem keep : KeepA A := mkA_keep (U := U) sp1_ok (fun (l : TA) y => ⟨(hh l y).drop 0, by kernel_rfl⟩)
end ref12_Size

/-! instar/instarref12.Has -/
namespace ref12_Has
abbrev TA : Type := (((Int × (Int × (Int × (Int × (Int × Unit))))) × ((Int × (ByteArray × Unit)) × Unit)) × Unit)
noncomputable def t (f_0 : Int) (f_1 : Int) (f_2 : Int) (f_3 : Int) (f_4 : Int) (v__0 : Int) (v__1 : ByteArray) : Tw Bool :=
 (.opt (ref12_Span.c f_0 f_1 f_2 f_3 f_4) fun z1 =>
  (.bb z1.2.2.2
   (.bb (decide (v__0 ≥ z1.1))
    (.bb (decide (v__0 ≤ z1.2.1))
     (.ret (decide ((((ByteArray.size v__1) : Nat) : Int) ≤ z1.2.2.1)))
     (.ret false))
    (.ret false))
   (.ret false)))
noncomputable def c (f_0 : Int) (f_1 : Int) (f_2 : Int) (f_3 : Int) (f_4 : Int) (v__0 : Int) (v__1 : ByteArray) : Option Bool := (t f_0 f_1 f_2 f_3 f_4 v__0 v__1).run
def pA : Pt := (.cs (.agg (.cs (.int .i64) (.cs (.int .i64) (.cs (.int .i64) (.cs (.int .i64) (.cs (.int .i64) .nl)))))) (.cs (.agg (.cs (.int .i64) (.cs .str .nl))) .nl))
def pH : Pt := .nl
def v (l : TA) (y : Bool) : AV U := .im (.bool y)
def hh (l : TA) (y : Bool) : Hp U := []
noncomputable def A : AFun U := mkA (U := U) pA pH (X := Bool) (fun (l : TA) => c l.1.1.1 l.1.1.2.1 l.1.1.2.2.1 l.1.1.2.2.2.1 l.1.1.2.2.2.2.1 l.1.2.1.1 l.1.2.1.2.1) sp1 v hh
noncomputable def body : Code := (Go.Func.body Try.f139).getD .skip
noncomputable def Γ : List (FuncId × AFun U) := [(173, ref12_Span.A)]
noncomputable def Λ : List (Nat × LFun U) := []
noncomputable def CT : List (Nat × LFun U) := []
def ro : List FuncId := []
def D : Nat → Lv × Lv := dtab []
noncomputable def E : Env U := { E0 with Γ := Γ, Λ := Λ, C := CT, D := D, ro := ro }
theorem hk (R : Type) (l : TA) (K : AV U → Hp U → Option R) : funcA E Try.f139 [] R (pA.mkL l.1) (pH.mkH l.2) K = (t l.1.1.1 l.1.1.2.1 l.1.1.2.2.1 l.1.1.2.2.2.1 l.1.1.2.2.2.2.1 l.1.2.1.1 l.1.2.1.2.1).runK fun y => K (v l y) (hh l y) := by kernel_rfl
theorem okF : SoundF Try.prog cc 139 (funcA E Try.f139 []) :=
  funcA_ok (E := E) P_mixed (E0_ok.with Γ Λ CT D ro) (gam_of (all_cons ⟨ref12_Span.ok, ⟨Try.f173, Try.func173, by kernel_rfl, by kernel_rfl⟩⟩ all_nil) (all_cons (no_keep (by kernel_rfl)) all_nil)) Try.func139 (c := body) (by kernel_rfl)
    (just_by (by kernel_rfl) (by kernel_rfl) all_nil all_nil) []
theorem ok : SoundF Try.prog cc 139 A :=
  mkA_ok (E := E) (p := pA) (q := pH) (t := fun (l : TA) => t l.1.1.1 l.1.1.2.1 l.1.1.2.2.1 l.1.1.2.2.2.1 l.1.1.2.2.2.2.1 l.1.2.1.1 l.1.2.1.2.1) sp1_ok hk okF
theorem keep : KeepA A := mkA_keep (U := U) sp1_ok (fun (l : TA) y => ⟨(hh l y).drop 0, by kernel_rfl⟩)
end ref12_Has

/-! instar/instarref12.Take -/
namespace ref12_Take
abbrev TA : Type := (((Int × (Int × (Int × (Int × (Int × Unit))))) × ((List Int) × Unit)) × Unit)
abbrev T9 : Type := ((Unit × ((List Int) × (Unit × (Unit × (Unit × (Unit × (Int × (Int × (Int × (Unit × (Int × (Int × (Int × (Unit × Unit)))))))))))))) × ((Int × (Int × (Int × (Int × (Int × Unit))))) × ((Int × (ByteArray × Unit)) × Unit)))
noncomputable def l9 (b : (List Int)) (lo : Int) (hi : Int) (most : Int) (n : Int) (h0_0 : Int) (h0_1 : Int) (h0_2 : Int) (h0_3 : Int) (h0_4 : Int) (h1_0 : Int) (h1_1 : ByteArray) (u : Int) (i : Int) : Tw ((Int × Int) ⊕ Int) :=
 (.bb (decide (i < n))
  (.dd (((0 : Int) ≤ i)) inferInstance
   (.opt (b)[(Int.toNat i)]? fun z3 =>
    (.ret (.inl ((w64 ((w64 ((256 : Int) * u)) + (w64 z3))), (w64 (i + (1 : Int)))))))
   .no)
  (.ret (.inr u)))
noncomputable def L9 (b : (List Int)) (lo : Int) (hi : Int) (most : Int) (n : Int) (u : Int) (i : Int) (h0_0 : Int) (h0_1 : Int) (h0_2 : Int) (h0_3 : Int) (h0_4 : Int) (h1_0 : Int) (h1_1 : ByteArray) : Option Int := Lp (fun s => (l9 b lo hi most n h0_0 h0_1 h0_2 h0_3 h0_4 h1_0 h1_1 s.1 s.2).run) (u, i)
def p9 : Pt := (.cs (.bots 1) (.cs (.sl 2) (.cs (.ptr 0 0) (.cs (.bots 1) (.cs (.ptr 1 0) (.cs (.bots 2) (.cs (.int .i64) (.cs (.int .i64) (.cs (.int .i64) (.cs (.bots 1) (.cs (.int .i64) (.cs (.int .i64) (.cs (.int .i64) (.cs (.bots 62) .nl))))))))))))))
def q9 : Pt := (.cs (.var (.cs (.int .i64) (.cs (.int .i64) (.cs (.int .i64) (.cs (.int .i64) (.cs (.int .i64) .nl)))))) (.cs (.var (.cs (.int .i64) (.cs .str .nl))) .nl))
def ou9 (l : T9) (y : Int) : Ex × St U := (.exit 0, stOf 76 [(1, .im (.slice 2 l.1.2.1)), (2, .ptr 0 0), (4, .ptr 1 0), (7, .im (.int .i64 l.1.2.2.2.2.2.2.1)), (8, .im (.int .i64 l.1.2.2.2.2.2.2.2.1)), (9, .im (.int .i64 l.1.2.2.2.2.2.2.2.2.1)), (11, .im (.int .i64 l.1.2.2.2.2.2.2.2.2.2.2.1)), (12, .im (.int .i64 y))] [.var [.im (.int .i64 l.2.1.1), .im (.int .i64 l.2.1.2.1), .im (.int .i64 l.2.1.2.2.1), .im (.int .i64 l.2.1.2.2.2.1), .im (.int .i64 l.2.1.2.2.2.2.1)], .var [.im (.int .i64 l.2.2.1.1), .im (.str l.2.2.1.2.1)]] 0)
noncomputable def Λ9 : LFun U := mkLp (U := U) p9 q9 0 (X := Int) (fun (l : T9) => L9 l.1.2.1 l.1.2.2.2.2.2.2.1 l.1.2.2.2.2.2.2.2.1 l.1.2.2.2.2.2.2.2.2.1 l.1.2.2.2.2.2.2.2.2.2.2.1 l.1.2.2.2.2.2.2.2.2.2.2.2.1 l.1.2.2.2.2.2.2.2.2.2.2.2.2.1 l.2.1.1 l.2.1.2.1 l.2.1.2.2.1 l.2.1.2.2.2.1 l.2.1.2.2.2.2.1 l.2.2.1.1 l.2.2.1.2.1) sp1 ou9
noncomputable def t (f_0 : Int) (f_1 : Int) (f_2 : Int) (f_3 : Int) (f_4 : Int) (b : (List Int)) : Tw (Int × (ByteArray × (Int × Int))) :=
 (.opt (ref12_Span.c f_0 f_1 f_2 f_3 f_4) fun z1 =>
  (.opt (ref12_Size.c f_0 f_1 f_2 f_3 f_4) fun z2 =>
   (.bb (f_1 == (4 : Int))
    (.bb (decide ((((List.length b) : Nat) : Int) < (1 : Int)))
     (.ret ((0 : Int), (ByteArray.empty, ((0 : Int), (5 : Int)))))
     (.opt (L9 b z1.1 z1.2.1 z1.2.2.1 (1 : Int) (0 : Int) (0 : Int) f_0 f_1 f_2 f_3 f_4 (0 : Int) ByteArray.empty) fun z5 =>
      (.bb (f_1 == (4 : Int))
       (.bb (decide (z5 > z1.2.2.1))
        (.ret ((0 : Int), (ByteArray.empty, ((0 : Int), (16 : Int)))))
        (.bb (decide ((((List.length b) : Nat) : Int) < (w64 ((1 : Int) + z5))))
         (.ret ((0 : Int), (ByteArray.empty, ((0 : Int), (5 : Int)))))
         (.dd ((((0 : Int) ≤ (1 : Int)) ∧ (((1 : Int) ≤ (w64 ((1 : Int) + z5))) ∧ ((w64 ((1 : Int) + z5)) ≤ (((List.length b) : Nat) : Int))))) inferInstance
          (.ret ((0 : Int), ((Go.Proofs.Ytpidbpmkogbdeaa.Va.l2b (List.drop (Int.toNat (1 : Int)) (List.take (Int.toNat (w64 ((1 : Int) + z5))) b))), ((w64 ((1 : Int) + z5)), (0 : Int)))))
          .no)))
       (.bb (decide (z5 > (w64 (z1.2.1 - z1.1))))
        (.ret ((0 : Int), (ByteArray.empty, ((0 : Int), (16 : Int)))))
        (.ret ((w64 (z1.1 + z5)), (ByteArray.empty, ((1 : Int), (0 : Int)))))))))
    (.bb (decide ((((List.length b) : Nat) : Int) < z2))
     (.ret ((0 : Int), (ByteArray.empty, ((0 : Int), (5 : Int)))))
     (.opt (L9 b z1.1 z1.2.1 z1.2.2.1 z2 (0 : Int) (0 : Int) f_0 f_1 f_2 f_3 f_4 (0 : Int) ByteArray.empty) fun z4 =>
      (.bb (f_1 == (4 : Int))
       (.bb (decide (z4 > z1.2.2.1))
        (.ret ((0 : Int), (ByteArray.empty, ((0 : Int), (16 : Int)))))
        (.bb (decide ((((List.length b) : Nat) : Int) < (w64 ((1 : Int) + z4))))
         (.ret ((0 : Int), (ByteArray.empty, ((0 : Int), (5 : Int)))))
         (.dd ((((0 : Int) ≤ (1 : Int)) ∧ (((1 : Int) ≤ (w64 ((1 : Int) + z4))) ∧ ((w64 ((1 : Int) + z4)) ≤ (((List.length b) : Nat) : Int))))) inferInstance
          (.ret ((0 : Int), ((Go.Proofs.Ytpidbpmkogbdeaa.Va.l2b (List.drop (Int.toNat (1 : Int)) (List.take (Int.toNat (w64 ((1 : Int) + z4))) b))), ((w64 ((1 : Int) + z4)), (0 : Int)))))
          .no)))
       (.bb (decide (z4 > (w64 (z1.2.1 - z1.1))))
        (.ret ((0 : Int), (ByteArray.empty, ((0 : Int), (16 : Int)))))
        (.ret ((w64 (z1.1 + z4)), (ByteArray.empty, (z2, (0 : Int))))))))))))
noncomputable def c (f_0 : Int) (f_1 : Int) (f_2 : Int) (f_3 : Int) (f_4 : Int) (b : (List Int)) : Option (Int × (ByteArray × (Int × Int))) := (t f_0 f_1 f_2 f_3 f_4 b).run
def pA : Pt := (.cs (.agg (.cs (.int .i64) (.cs (.int .i64) (.cs (.int .i64) (.cs (.int .i64) (.cs (.int .i64) .nl)))))) (.cs (.sl 2) .nl))
def pH : Pt := .nl
def v (l : TA) (y : (Int × (ByteArray × (Int × Int)))) : AV U := .tup [.agg [.im (.int .i64 y.1), .im (.str y.2.1)], .im (.int .i64 y.2.2.1), .im (.int .i64 y.2.2.2)]
def hh (l : TA) (y : (Int × (ByteArray × (Int × Int)))) : Hp U := []
noncomputable def A : AFun U := mkA (U := U) pA pH (X := (Int × (ByteArray × (Int × Int)))) (fun (l : TA) => c l.1.1.1 l.1.1.2.1 l.1.1.2.2.1 l.1.1.2.2.2.1 l.1.1.2.2.2.2.1 l.1.2.1) sp1 v hh
noncomputable def body : Code := (Go.Func.body Try.f145).getD .skip
noncomputable def Γ : List (FuncId × AFun U) := [(173, ref12_Span.A), (147, ref12_Size.A)]
noncomputable def Λ : List (Nat × LFun U) := [(9, Λ9)]
noncomputable def CT : List (Nat × LFun U) := []
def ro : List FuncId := []
def D : Nat → Lv × Lv := dtab [(9, ⟨[13, 1, 12, 4, 9, 11, 7, 8, 2], []⟩, ⟨[4, 5, 6, 12, 1, 9, 11, 7, 8, 2], []⟩)]
noncomputable def E : Env U := { E0 with Γ := Γ, Λ := Λ, C := CT, D := D, ro := ro }
theorem hf9 (R : Type) (l : T9) (s : (Int × Int)) (K : Ex → St U → Option R) : codeA E (pick (loopsOf body) 9) ⟨p9.mkL ((((), (l.1.2.1, ((), ((), ((), ((), (l.1.2.2.2.2.2.2.1, (l.1.2.2.2.2.2.2.2.1, (l.1.2.2.2.2.2.2.2.2.1, ((), (l.1.2.2.2.2.2.2.2.2.2.2.1, (s.1, (s.2, ((), ())))))))))))))), ((l.2.1.1, (l.2.1.2.1, (l.2.1.2.2.1, (l.2.1.2.2.2.1, (l.2.1.2.2.2.2.1, ()))))), ((l.2.2.1.1, (l.2.2.1.2.1, ())), ()))) : T9).1, q9.mkH ((((), (l.1.2.1, ((), ((), ((), ((), (l.1.2.2.2.2.2.2.1, (l.1.2.2.2.2.2.2.2.1, (l.1.2.2.2.2.2.2.2.2.1, ((), (l.1.2.2.2.2.2.2.2.2.2.2.1, (s.1, (s.2, ((), ())))))))))))))), ((l.2.1.1, (l.2.1.2.1, (l.2.1.2.2.1, (l.2.1.2.2.2.1, (l.2.1.2.2.2.2.1, ()))))), ((l.2.2.1.1, (l.2.2.1.2.1, ())), ()))) : T9).2, 0⟩ (roundK E (pick (loopsOf body) 9) K) =
  (l9 l.1.2.1 l.1.2.2.2.2.2.2.1 l.1.2.2.2.2.2.2.2.1 l.1.2.2.2.2.2.2.2.2.1 l.1.2.2.2.2.2.2.2.2.2.2.1 l.2.1.1 l.2.1.2.1 l.2.1.2.2.1 l.2.1.2.2.2.1 l.2.1.2.2.2.2.1 l.2.2.1.1 l.2.2.1.2.1 s.1 s.2).runK (lpK K (fun s => ⟨p9.mkL ((((), (l.1.2.1, ((), ((), ((), ((), (l.1.2.2.2.2.2.2.1, (l.1.2.2.2.2.2.2.2.1, (l.1.2.2.2.2.2.2.2.2.1, ((), (l.1.2.2.2.2.2.2.2.2.2.2.1, (s.1, (s.2, ((), ())))))))))))))), ((l.2.1.1, (l.2.1.2.1, (l.2.1.2.2.1, (l.2.1.2.2.2.1, (l.2.1.2.2.2.2.1, ()))))), ((l.2.2.1.1, (l.2.2.1.2.1, ())), ()))) : T9).1, q9.mkH ((((), (l.1.2.1, ((), ((), ((), ((), (l.1.2.2.2.2.2.2.1, (l.1.2.2.2.2.2.2.2.1, (l.1.2.2.2.2.2.2.2.2.1, ((), (l.1.2.2.2.2.2.2.2.2.2.2.1, (s.1, (s.2, ((), ())))))))))))))), ((l.2.1.1, (l.2.1.2.1, (l.2.1.2.2.1, (l.2.1.2.2.2.1, (l.2.1.2.2.2.2.1, ()))))), ((l.2.2.1.1, (l.2.2.1.2.1, ())), ()))) : T9).2, 0⟩) sp1 (ou9 l)) := by kernel_rfl
theorem lk9 (R : Type) (st : St U) (K : Ex → St U → Option R) (r : R) (h : Λ9 R st K = some r) : ∃ n, loopA E (pick (loopsOf body) 9) n st K = some r :=
  lp_ok (U := U) (E := E) (b := pick (loopsOf body) 9) (m := 0) (sp := sp1) (p := p9) (q := q9) (X := Int) (S := (Int × Int)) (f := fun (l : T9) s => l9 l.1.2.1 l.1.2.2.2.2.2.2.1 l.1.2.2.2.2.2.2.2.1 l.1.2.2.2.2.2.2.2.2.1 l.1.2.2.2.2.2.2.2.2.2.2.1 l.2.1.1 l.2.1.2.1 l.2.1.2.2.1 l.2.1.2.2.2.1 l.2.1.2.2.2.2.1 l.2.2.1.1 l.2.2.1.2.1 s.1 s.2) (hd := fun (l : T9) s => (((), (l.1.2.1, ((), ((), ((), ((), (l.1.2.2.2.2.2.2.1, (l.1.2.2.2.2.2.2.2.1, (l.1.2.2.2.2.2.2.2.2.1, ((), (l.1.2.2.2.2.2.2.2.2.2.2.1, (s.1, (s.2, ((), ())))))))))))))), ((l.2.1.1, (l.2.1.2.1, (l.2.1.2.2.1, (l.2.1.2.2.2.1, (l.2.1.2.2.2.2.1, ()))))), ((l.2.2.1.1, (l.2.2.1.2.1, ())), ())))) (s0 := fun (l : T9) => (l.1.2.2.2.2.2.2.2.2.2.2.2.1, l.1.2.2.2.2.2.2.2.2.2.2.2.2.1)) (ou := ou9)
    (fun l => rfl) (fun l x => by rfl) sp1_ok hf9 h
theorem hk (R : Type) (l : TA) (K : AV U → Hp U → Option R) : funcA E Try.f145 [] R (pA.mkL l.1) (pH.mkH l.2) K = (t l.1.1.1 l.1.1.2.1 l.1.1.2.2.1 l.1.1.2.2.2.1 l.1.1.2.2.2.2.1 l.1.2.1).runK fun y => K (v l y) (hh l y) := by kernel_rfl
theorem okF : SoundF Try.prog cc 145 (funcA E Try.f145 []) :=
  funcA_ok (E := E) P_mixed (E0_ok.with Γ Λ CT D ro) (gam_of (all_cons ⟨ref12_Span.ok, ⟨Try.f173, Try.func173, by kernel_rfl, by kernel_rfl⟩⟩ (all_cons ⟨ref12_Size.ok, ⟨Try.f147, Try.func147, by kernel_rfl, by kernel_rfl⟩⟩ all_nil)) (all_cons (no_keep (by kernel_rfl)) (all_cons (no_keep (by kernel_rfl)) all_nil))) Try.func145 (c := body) (by kernel_rfl)
    (just_by (by kernel_rfl) (by kernel_rfl) (all_cons lk9 all_nil) all_nil) []
theorem ok : SoundF Try.prog cc 145 A :=
  mkA_ok (E := E) (p := pA) (q := pH) (t := fun (l : TA) => t l.1.1.1 l.1.1.2.1 l.1.1.2.2.1 l.1.1.2.2.2.1 l.1.1.2.2.2.2.1 l.1.2.1) sp1_ok hk okF
theorem keep : KeepA A := mkA_keep (U := U) sp1_ok (fun (l : TA) y => ⟨(hh l y).drop 0, by kernel_rfl⟩)
end ref12_Take

/-! instar/instarref12.Lay -/
namespace ref12_Lay
abbrev TA : Type := (((Int × (Int × (Int × (Int × (Int × Unit))))) × ((Int × (ByteArray × Unit)) × Unit)) × Unit)
abbrev T7 : Type := ((Unit × (Unit × (Unit × (Int × (Unit × (Int × (Unit × Unit))))))) × ((Int × (Int × (Int × (Int × (Int × Unit))))) × ((List Int) × Unit)))
noncomputable def l7 (h0_0 : Int) (h0_1 : Int) (h0_2 : Int) (h0_3 : Int) (h0_4 : Int) (n : Int) (i : Int) (h1 : (List Int)) : Tw ((Int × (Int × (List Int))) ⊕ (List Int)) :=
 (.opt (ref12_Size.c h0_0 h0_1 h0_2 h0_3 h0_4) fun z2 =>
  (.bb (decide (i < z2))
   (.dd ((((((List.length ((w8 (Int.tmod n (256 : Int))) :: ([] : List Int))) + (List.length h1)) * (1 : Nat)) ≤ (140737488355328 : Nat)) ∧ (((List.length ((w8 (Int.tmod n (256 : Int))) :: ([] : List Int))) + (List.length h1)) ≤ (140737488355328 : Nat)))) inferInstance
    (.ret (.inl ((w64 (Int.tdiv n (256 : Int))), ((w64 (i + (1 : Int))), (((w8 (Int.tmod n (256 : Int))) :: ([] : List Int)) ++ h1)))))
    .no)
   (.ret (.inr h1))))
noncomputable def L7 (n : Int) (i : Int) (h0_0 : Int) (h0_1 : Int) (h0_2 : Int) (h0_3 : Int) (h0_4 : Int) (h1 : (List Int)) : Option (List Int) := Lp (fun s => (l7 h0_0 h0_1 h0_2 h0_3 h0_4 s.1 s.2.1 s.2.2).run) (n, (i, h1))
def p7 : Pt := (.cs (.bots 2) (.cs (.ptr 0 0) (.cs (.bots 6) (.cs (.int .i64) (.cs (.own 1) (.cs (.int .i64) (.cs (.bots 38) .nl)))))))
def q7 : Pt := (.cs (.var (.cs (.int .i64) (.cs (.int .i64) (.cs (.int .i64) (.cs (.int .i64) (.cs (.int .i64) .nl)))))) (.cs (.row 2 true) .nl))
def ou7 (l : T7) (y : (List Int)) : Ex × St U := (.exit 0, stOf 50 [(10, .own 0)] [.row 2 y true] 0)
noncomputable def Λ7 : LFun U := mkLp (U := U) p7 q7 0 (X := (List Int)) (fun (l : T7) => L7 l.1.2.2.2.1 l.1.2.2.2.2.2.1 l.2.1.1 l.2.1.2.1 l.2.1.2.2.1 l.2.1.2.2.2.1 l.2.1.2.2.2.2.1 l.2.2.1) sp1 ou7
noncomputable def t (f_0 : Int) (f_1 : Int) (f_2 : Int) (f_3 : Int) (f_4 : Int) (v__0 : Int) (v__1 : ByteArray) : Tw (List Int) :=
 (.opt (ref12_Span.c f_0 f_1 f_2 f_3 f_4) fun z1 =>
  (.bb (f_1 == (4 : Int))
   (.dd ((((((List.length ((w8 (((ByteArray.size v__1) : Nat) : Int)) :: ([] : List Int))) + (List.length (Go.Proofs.Ytpidbpmkogbdeaa.Va.b2l v__1))) * (1 : Nat)) ≤ (140737488355328 : Nat)) ∧ (((List.length ((w8 (((ByteArray.size v__1) : Nat) : Int)) :: ([] : List Int))) + (List.length (Go.Proofs.Ytpidbpmkogbdeaa.Va.b2l v__1))) ≤ (140737488355328 : Nat)))) inferInstance
    (.ret (((w8 (((ByteArray.size v__1) : Nat) : Int)) :: ([] : List Int)) ++ (Go.Proofs.Ytpidbpmkogbdeaa.Va.b2l v__1)))
    .no)
   (.opt (L7 (w64 (v__0 - z1.1)) (0 : Int) f_0 f_1 f_2 f_3 f_4 ([] : List Int)) fun z3 =>
    (.ret z3))))
noncomputable def c (f_0 : Int) (f_1 : Int) (f_2 : Int) (f_3 : Int) (f_4 : Int) (v__0 : Int) (v__1 : ByteArray) : Option (List Int) := (t f_0 f_1 f_2 f_3 f_4 v__0 v__1).run
def pA : Pt := (.cs (.agg (.cs (.int .i64) (.cs (.int .i64) (.cs (.int .i64) (.cs (.int .i64) (.cs (.int .i64) .nl)))))) (.cs (.agg (.cs (.int .i64) (.cs .str .nl))) .nl))
def pH : Pt := .nl
def v (l : TA) (y : (List Int)) : AV U := .own 0
def hh (l : TA) (y : (List Int)) : Hp U := [.row 2 y true]
noncomputable def A : AFun U := mkA (U := U) pA pH (X := (List Int)) (fun (l : TA) => c l.1.1.1 l.1.1.2.1 l.1.1.2.2.1 l.1.1.2.2.2.1 l.1.1.2.2.2.2.1 l.1.2.1.1 l.1.2.1.2.1) sp1 v hh
noncomputable def body : Code := (Go.Func.body Try.f146).getD .skip
noncomputable def Γ : List (FuncId × AFun U) := [(173, ref12_Span.A), (147, ref12_Size.A)]
noncomputable def Λ : List (Nat × LFun U) := [(7, Λ7)]
noncomputable def CT : List (Nat × LFun U) := []
def ro : List FuncId := []
def D : Nat → Lv × Lv := dtab [(7, ⟨[11, 9, 10, 2], [(10, [], .own 2)]⟩, ⟨[4, 10], []⟩)]
noncomputable def E : Env U := { E0 with Γ := Γ, Λ := Λ, C := CT, D := D, ro := ro }
theorem hf7 (R : Type) (l : T7) (s : (Int × (Int × (List Int)))) (K : Ex → St U → Option R) : codeA E (pick (loopsOf body) 7) ⟨p7.mkL ((((), ((), ((), (s.1, ((), (s.2.1, ((), ()))))))), ((l.2.1.1, (l.2.1.2.1, (l.2.1.2.2.1, (l.2.1.2.2.2.1, (l.2.1.2.2.2.2.1, ()))))), (s.2.2, ()))) : T7).1, q7.mkH ((((), ((), ((), (s.1, ((), (s.2.1, ((), ()))))))), ((l.2.1.1, (l.2.1.2.1, (l.2.1.2.2.1, (l.2.1.2.2.2.1, (l.2.1.2.2.2.2.1, ()))))), (s.2.2, ()))) : T7).2, 0⟩ (roundK E (pick (loopsOf body) 7) K) =
  (l7 l.2.1.1 l.2.1.2.1 l.2.1.2.2.1 l.2.1.2.2.2.1 l.2.1.2.2.2.2.1 s.1 s.2.1 s.2.2).runK (lpK K (fun s => ⟨p7.mkL ((((), ((), ((), (s.1, ((), (s.2.1, ((), ()))))))), ((l.2.1.1, (l.2.1.2.1, (l.2.1.2.2.1, (l.2.1.2.2.2.1, (l.2.1.2.2.2.2.1, ()))))), (s.2.2, ()))) : T7).1, q7.mkH ((((), ((), ((), (s.1, ((), (s.2.1, ((), ()))))))), ((l.2.1.1, (l.2.1.2.1, (l.2.1.2.2.1, (l.2.1.2.2.2.1, (l.2.1.2.2.2.2.1, ()))))), (s.2.2, ()))) : T7).2, 0⟩) sp1 (ou7 l)) := by kernel_rfl
theorem lk7 (R : Type) (st : St U) (K : Ex → St U → Option R) (r : R) (h : Λ7 R st K = some r) : ∃ n, loopA E (pick (loopsOf body) 7) n st K = some r :=
  lp_ok (U := U) (E := E) (b := pick (loopsOf body) 7) (m := 0) (sp := sp1) (p := p7) (q := q7) (X := (List Int)) (S := (Int × (Int × (List Int)))) (f := fun (l : T7) s => l7 l.2.1.1 l.2.1.2.1 l.2.1.2.2.1 l.2.1.2.2.2.1 l.2.1.2.2.2.2.1 s.1 s.2.1 s.2.2) (hd := fun (l : T7) s => (((), ((), ((), (s.1, ((), (s.2.1, ((), ()))))))), ((l.2.1.1, (l.2.1.2.1, (l.2.1.2.2.1, (l.2.1.2.2.2.1, (l.2.1.2.2.2.2.1, ()))))), (s.2.2, ())))) (s0 := fun (l : T7) => (l.1.2.2.2.1, (l.1.2.2.2.2.2.1, l.2.2.1))) (ou := ou7)
    (fun l => rfl) (fun l x => by rfl) sp1_ok hf7 h
theorem hk (R : Type) (l : TA) (K : AV U → Hp U → Option R) : funcA E Try.f146 [] R (pA.mkL l.1) (pH.mkH l.2) K = (t l.1.1.1 l.1.1.2.1 l.1.1.2.2.1 l.1.1.2.2.2.1 l.1.1.2.2.2.2.1 l.1.2.1.1 l.1.2.1.2.1).runK fun y => K (v l y) (hh l y) := by kernel_rfl
theorem okF : SoundF Try.prog cc 146 (funcA E Try.f146 []) :=
  funcA_ok (E := E) P_mixed (E0_ok.with Γ Λ CT D ro) (gam_of (all_cons ⟨ref12_Span.ok, ⟨Try.f173, Try.func173, by kernel_rfl, by kernel_rfl⟩⟩ (all_cons ⟨ref12_Size.ok, ⟨Try.f147, Try.func147, by kernel_rfl, by kernel_rfl⟩⟩ all_nil)) (all_cons (no_keep (by kernel_rfl)) (all_cons (no_keep (by kernel_rfl)) all_nil))) Try.func146 (c := body) (by kernel_rfl)
    (just_by (by kernel_rfl) (by kernel_rfl) (all_cons lk7 all_nil) all_nil) []
theorem ok : SoundF Try.prog cc 146 A :=
  mkA_ok (E := E) (p := pA) (q := pH) (t := fun (l : TA) => t l.1.1.1 l.1.1.2.1 l.1.1.2.2.1 l.1.1.2.2.2.1 l.1.1.2.2.2.2.1 l.1.2.1.1 l.1.2.1.2.1) sp1_ok hk okF
theorem keep : KeepA A := mkA_keep (U := U) sp1_ok (fun (l : TA) y => ⟨(hh l y).drop 0, by kernel_rfl⟩)
end ref12_Lay

end Go.Proofs.Ytpidbpmkogbdeaa.Va
