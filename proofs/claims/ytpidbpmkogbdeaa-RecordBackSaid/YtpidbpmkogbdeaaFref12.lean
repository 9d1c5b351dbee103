/- The functions of package ref12, as plain functions, and that the program computes them. Printed by a program of this work out of the evaluator. -/
import Derived.Test.YtpidbpmkogbdeaaEn
import Derived.Tactics
namespace Go.Proofs.Ytpidbpmkogbdeaa.Va
open Go
set_option linter.unusedVariables false
set_option maxRecDepth 100000

/-! instar/instarref12.Span -/
namespace ref12_Span
abbrev TA : Type := (((Int × (Int × (Int × (Int × (Int × Unit))))) × Unit) × Unit)
noncomputable def t (f_0 : Int) (f_1 : Int) (f_2 : Int) (f_3 : Int) (f_4 : Int) : Tw (Int × (Int × (Int × Bool))) :=
 (.bb (decide (f_0 ≥ (0 : Int)))
  (.bb (f_1 == (1 : Int))
   (.bb (decide (f_0 ≤ (255 : Int)))
    (.bb (decide (f_2 ≥ (-(1099511627776 : Int))))
     (.bb (decide (f_3 ≤ (1099511627776 : Int)))
      (.bb (decide (f_2 ≤ f_3))
       (.ret (f_2, (f_3, ((0 : Int), (f_4 == (0 : Int))))))
       (.ret (f_2, (f_3, ((0 : Int), false)))))
      (.ret (f_2, (f_3, ((0 : Int), false)))))
     (.ret (f_2, (f_3, ((0 : Int), false)))))
    (.ret (f_2, (f_3, ((0 : Int), false)))))
   (.bb (f_1 == (2 : Int))
    (.bb (decide (f_0 ≤ (255 : Int)))
     (.bb (f_2 == (0 : Int))
      (.bb (f_3 == (0 : Int))
       (.ret ((0 : Int), ((1 : Int), ((0 : Int), (f_4 == (0 : Int))))))
       (.ret ((0 : Int), ((1 : Int), ((0 : Int), false)))))
      (.ret ((0 : Int), ((1 : Int), ((0 : Int), false)))))
     (.ret ((0 : Int), ((1 : Int), ((0 : Int), false)))))
    (.bb (f_1 == (3 : Int))
     (.bb (decide (f_0 ≤ (255 : Int)))
      (.bb (f_2 == (0 : Int))
       (.bb (f_3 == (0 : Int))
        (.bb (decide (f_4 ≥ (1 : Int)))
         (.ret ((0 : Int), ((w64 (f_4 - (1 : Int))), ((0 : Int), (decide (f_4 ≤ (1000 : Int)))))))
         (.ret ((0 : Int), ((w64 (f_4 - (1 : Int))), ((0 : Int), false)))))
        (.ret ((0 : Int), ((w64 (f_4 - (1 : Int))), ((0 : Int), false)))))
       (.ret ((0 : Int), ((w64 (f_4 - (1 : Int))), ((0 : Int), false)))))
      (.ret ((0 : Int), ((w64 (f_4 - (1 : Int))), ((0 : Int), false)))))
     (.bb (f_1 == (4 : Int))
      (.bb (decide (f_0 ≤ (255 : Int)))
       (.bb (f_2 == (0 : Int))
        (.bb (f_3 == (0 : Int))
         (.bb (decide (f_4 ≥ (0 : Int)))
          (.ret ((0 : Int), ((0 : Int), (f_4, (decide (f_4 ≤ (32 : Int)))))))
          (.ret ((0 : Int), ((0 : Int), (f_4, false)))))
         (.ret ((0 : Int), ((0 : Int), (f_4, false)))))
        (.ret ((0 : Int), ((0 : Int), (f_4, false)))))
       (.ret ((0 : Int), ((0 : Int), (f_4, false)))))
      (.ret ((0 : Int), ((0 : Int), ((0 : Int), false))))))))
  (.bb (f_1 == (1 : Int))
   (.ret (f_2, (f_3, ((0 : Int), false))))
   (.bb (f_1 == (2 : Int))
    (.ret ((0 : Int), ((1 : Int), ((0 : Int), false))))
    (.bb (f_1 == (3 : Int))
     (.ret ((0 : Int), ((w64 (f_4 - (1 : Int))), ((0 : Int), false))))
     (.bb (f_1 == (4 : Int))
      (.ret ((0 : Int), ((0 : Int), (f_4, false))))
      (.ret ((0 : Int), ((0 : Int), ((0 : Int), false)))))))))
noncomputable def c (f_0 : Int) (f_1 : Int) (f_2 : Int) (f_3 : Int) (f_4 : Int) : Option (Int × (Int × (Int × Bool))) := (t f_0 f_1 f_2 f_3 f_4).run
def pA : Pt := (.cs (.agg (.cs (.int .i64) (.cs (.int .i64) (.cs (.int .i64) (.cs (.int .i64) (.cs (.int .i64) .nl)))))) .nl)
def pH : Pt := .nl
def v (l : TA) (y : (Int × (Int × (Int × Bool)))) : AV U := .tup [.im (.int .i64 y.1), .im (.int .i64 y.2.1), .im (.int .i64 y.2.2.1), .im (.bool y.2.2.2)]
def hh (l : TA) (y : (Int × (Int × (Int × Bool)))) : Hp U := []
noncomputable def A : AFun U := mkA (U := U) pA pH (X := (Int × (Int × (Int × Bool)))) (fun (l : TA) => c l.1.1.1 l.1.1.2.1 l.1.1.2.2.1 l.1.1.2.2.2.1 l.1.1.2.2.2.2.1) sp1 v hh
noncomputable def body : Code := (Go.Func.body Try.f173).getD .skip
noncomputable def Γ : List (FuncId × AFun U) := []
noncomputable def Λ : List (Nat × LFun U) := []
noncomputable def CT : List (Nat × LFun U) := []
def ro : List FuncId := []
def D : Nat → Lv × Lv := dtab []
noncomputable def E : Env U := { E0 with Γ := Γ, Λ := Λ, C := CT, D := D, ro := ro }
theorem hk (R : Type) (l : TA) (K : AV U → Hp U → Option R) : funcA E Try.f173 [] R (pA.mkL l.1) (pH.mkH l.2) K = (t l.1.1.1 l.1.1.2.1 l.1.1.2.2.1 l.1.1.2.2.2.1 l.1.1.2.2.2.2.1).runK fun y => K (v l y) (hh l y) := by kernel_rfl
theorem okF : SoundF Try.prog cc 173 (funcA E Try.f173 []) :=
  funcA_ok (E := E) P_mixed (E0_ok.with Γ Λ CT D ro) (gam_of all_nil all_nil) Try.func173 (c := body) (by kernel_rfl)
    (just_by (by kernel_rfl) (by kernel_rfl) all_nil all_nil) []
theorem ok : SoundF Try.prog cc 173 A :=
  mkA_ok (E := E) (p := pA) (q := pH) (t := fun (l : TA) => t l.1.1.1 l.1.1.2.1 l.1.1.2.2.1 l.1.1.2.2.2.1 l.1.1.2.2.2.2.1) sp1_ok hk okF
theorem keep : KeepA A := mkA_keep (U := U) sp1_ok (fun (l : TA) y => ⟨(hh l y).drop 0, by kernel_rfl⟩)
end ref12_Span

/-! instar/instarref12.wide -/
namespace ref12_wide
abbrev TA : Type := ((Int × Unit) × Unit)
abbrev T2 : Type := ((Int × (Unit × (Int × (Unit × Unit)))) × Unit)
noncomputable def l2 (n : Int) (w : Int) : Tw ((Int × Int) ⊕ Int) :=
 (.bb (decide (n > (0 : Int)))
  (.ret (.inl ((w64 (Int.tdiv n (256 : Int))), (w64 (w + (1 : Int))))))
  (.ret (.inr w)))
noncomputable def L2 (n : Int) (w : Int) : Option Int := Lp (fun s => (l2 s.1 s.2).run) (n, w)
def p2 : Pt := (.cs (.int .i64) (.cs (.bots 2) (.cs (.int .i64) (.cs (.bots 7) .nl))))
def q2 : Pt := .nl
def ou2 (l : T2) (y : Int) : Ex × St U := (.exit 0, stOf 11 [(3, .im (.int .i64 y))] [] 0)
noncomputable def Λ2 : LFun U := mkLp (U := U) p2 q2 0 (X := Int) (fun (l : T2) => L2 l.1.1 l.1.2.2.1) sp1 ou2
noncomputable def t (n : Int) : Tw Int :=
 (.opt (L2 n (0 : Int)) fun z1 =>
  (.ret z1))
noncomputable def c (n : Int) : Option Int := (t n).run
def pA : Pt := (.cs (.int .i64) .nl)
def pH : Pt := .nl
def v (l : TA) (y : Int) : AV U := .im (.int .i64 y)
def hh (l : TA) (y : Int) : Hp U := []
noncomputable def A : AFun U := mkA (U := U) pA pH (X := Int) (fun (l : TA) => c l.1.1) sp1 v hh
noncomputable def body : Code := (Go.Func.body Try.f178).getD .skip
noncomputable def Γ : List (FuncId × AFun U) := []
noncomputable def Λ : List (Nat × LFun U) := [(2, Λ2)]
noncomputable def CT : List (Nat × LFun U) := []
def ro : List FuncId := []
def D : Nat → Lv × Lv := dtab [(2, ⟨[3, 0], []⟩, ⟨[2, 3], []⟩)]
noncomputable def E : Env U := { E0 with Γ := Γ, Λ := Λ, C := CT, D := D, ro := ro }
theorem hf2 (R : Type) (l : T2) (s : (Int × Int)) (K : Ex → St U → Option R) : codeA E (pick (loopsOf body) 2) ⟨p2.mkL (((s.1, ((), (s.2, ((), ())))), ()) : T2).1, q2.mkH (((s.1, ((), (s.2, ((), ())))), ()) : T2).2, 0⟩ (roundK E (pick (loopsOf body) 2) K) =
  (l2 s.1 s.2).runK (lpK K (fun s => ⟨p2.mkL (((s.1, ((), (s.2, ((), ())))), ()) : T2).1, q2.mkH (((s.1, ((), (s.2, ((), ())))), ()) : T2).2, 0⟩) sp1 (ou2 l)) := by kernel_rfl
theorem lk2 (R : Type) (st : St U) (K : Ex → St U → Option R) (r : R) (h : Λ2 R st K = some r) : ∃ n, loopA E (pick (loopsOf body) 2) n st K = some r :=
  lp_ok (U := U) (E := E) (b := pick (loopsOf body) 2) (m := 0) (sp := sp1) (p := p2) (q := q2) (X := Int) (S := (Int × Int)) (f := fun (l : T2) s => l2 s.1 s.2) (hd := fun (l : T2) s => ((s.1, ((), (s.2, ((), ())))), ())) (s0 := fun (l : T2) => (l.1.1, l.1.2.2.1)) (ou := ou2)
    (fun l => rfl) (fun l x => by rfl) sp1_ok hf2 h
theorem hk (R : Type) (l : TA) (K : AV U → Hp U → Option R) : funcA E Try.f178 [] R (pA.mkL l.1) (pH.mkH l.2) K = (t l.1.1).runK fun y => K (v l y) (hh l y) := by kernel_rfl
theorem okF : SoundF Try.prog cc 178 (funcA E Try.f178 []) :=
  funcA_ok (E := E) P_mixed (E0_ok.with Γ Λ CT D ro) (gam_of all_nil all_nil) Try.func178 (c := body) (by kernel_rfl)
    (just_by (by kernel_rfl) (by kernel_rfl) (all_cons lk2 all_nil) all_nil) []
theorem ok : SoundF Try.prog cc 178 A :=
  mkA_ok (E := E) (p := pA) (q := pH) (t := fun (l : TA) => t l.1.1) sp1_ok hk okF
theorem keep : KeepA A := mkA_keep (U := U) sp1_ok (fun (l : TA) y => ⟨(hh l y).drop 0, by kernel_rfl⟩)
end ref12_wide

/-! instar/instarref12.Size -/
namespace ref12_Size
abbrev TA : Type := (((Int × (Int × (Int × (Int × (Int × Unit))))) × Unit) × Unit)
noncomputable def t (f_0 : Int) (f_1 : Int) (f_2 : Int) (f_3 : Int) (f_4 : Int) : Tw Int :=
 (.opt (ref12_Span.c f_0 f_1 f_2 f_3 f_4) fun z1 =>
  (.bb (!z1.2.2.2)
   (.ret (0 : Int))
   (.bb (f_1 == (4 : Int))
    (.ret (w64 ((1 : Int) + z1.2.2.1)))
    (.opt (ref12_wide.c (w64 (z1.2.1 - z1.1))) fun z2 =>
     (.ret z2)))))
noncomputable def c (f_0 : Int) (f_1 : Int) (f_2 : Int) (f_3 : Int) (f_4 : Int) : Option Int := (t f_0 f_1 f_2 f_3 f_4).run
def pA : Pt := (.cs (.agg (.cs (.int .i64) (.cs (.int .i64) (.cs (.int .i64) (.cs (.int .i64) (.cs (.int .i64) .nl)))))) .nl)
def pH : Pt := .nl
def v (l : TA) (y : Int) : AV U := .im (.int .i64 y)
def hh (l : TA) (y : Int) : Hp U := []
noncomputable def A : AFun U := mkA (U := U) pA pH (X := Int) (fun (l : TA) => c l.1.1.1 l.1.1.2.1 l.1.1.2.2.1 l.1.1.2.2.2.1 l.1.1.2.2.2.2.1) sp1 v hh
noncomputable def body : Code := (Go.Func.body Try.f147).getD .skip
noncomputable def Γ : List (FuncId × AFun U) := [(173, ref12_Span.A), (178, ref12_wide.A)]
noncomputable def Λ : List (Nat × LFun U) := []
noncomputable def CT : List (Nat × LFun U) := []
def ro : List FuncId := []
def D : Nat → Lv × Lv := dtab []
noncomputable def E : Env U := { E0 with Γ := Γ, Λ := Λ, C := CT, D := D, ro := ro }
theorem hk (R : Type) (l : TA) (K : AV U → Hp U → Option R) : funcA E Try.f147 [] R (pA.mkL l.1) (pH.mkH l.2) K = (t l.1.1.1 l.1.1.2.1 l.1.1.2.2.1 l.1.1.2.2.2.1 l.1.1.2.2.2.2.1).runK fun y => K (v l y) (hh l y) := by kernel_rfl
theorem okF : SoundF Try.prog cc 147 (funcA E Try.f147 []) :=
  funcA_ok (E := E) P_mixed (E0_ok.with Γ Λ CT D ro) (gam_of (all_cons ⟨ref12_Span.ok, ⟨Try.f173, Try.func173, by kernel_rfl, by kernel_rfl⟩⟩ (all_cons ⟨ref12_wide.ok, ⟨Try.f178, Try.func178, by kernel_rfl, by kernel_rfl⟩⟩ all_nil)) (all_cons (no_keep (by kernel_rfl)) (all_cons (no_keep (by kernel_rfl)) all_nil))) Try.func147 (c := body) (by kernel_rfl)
    (just_by (by kernel_rfl) (by kernel_rfl) all_nil all_nil) []
theorem ok : SoundF Try.prog cc 147 A :=
  mkA_ok (E := E) (p := pA) (q := pH) (t := fun (l : TA) => t l.1.1.1 l.1.1.2.1 l.1.1.2.2.1 l.1.1.2.2.2.1 l.1.1.2.2.2.2.1) sp1_ok hk okF
theorem keep : KeepA A := mkA_keep (U := U) sp1_ok (fun (l : TA) y => ⟨(hh l y).drop 0, by kernel_rfl⟩)
end ref12_Size

end Go.Proofs.Ytpidbpmkogbdeaa.Va
