/- The functions of package word, as plain functions, and that the program computes them. Printed by a program of this work out of the evaluator. -/
import Derived.Test.YtcnomgpbkimmeaaEn
import Derived.Tactics
namespace Go.Proofs.Ytcnomgpbkimmeaa.Va
open Go
set_option linter.unusedVariables false
set_option maxRecDepth 100000

/-! instar/word.Ones -/
namespace word_Ones
abbrev TA : Type := ((Int × Unit) × Unit)
abbrev T2 : Type := ((Int × (Unit × (Int × (Unit × Unit)))) × Unit)
noncomputable def l2 (x : Int) (n : Int) : Tw ((Int × Int) ⊕ Int) :=
 (.bb (x != (0 : Int))
  (.ret (.inl ((bAnd .u32 x (w32 (x - (1 : Int)))), (w64 (n + (1 : Int))))))
  (.ret (.inr n)))
noncomputable def L2 (x : Int) (n : Int) : Option Int := Lp (fun s => (l2 s.1 s.2).run) (x, n)
def p2 : Pt := (.cs (.int .u32) (.cs (.bots 2) (.cs (.int .i64) (.cs (.bots 9) .nl))))
def q2 : Pt := .nl
def ou2 (l : T2) (y : Int) : Ex × St U := (.exit 0, stOf 13 [(3, .im (.int .i64 y))] [] 0)
noncomputable def Λ2 : LFun U := mkLp (U := U) p2 q2 0 (X := Int) (fun (l : T2) => L2 l.1.1 l.1.2.2.1) sp1 ou2
noncomputable def t (x : Int) : Tw Int :=
 (.opt (L2 x (0 : Int)) fun z1 =>
  (.ret z1))
noncomputable def c (x : Int) : Option Int := (t x).run
def pA : Pt := (.cs (.int .u32) .nl)
def pH : Pt := .nl
def v (l : TA) (y : Int) : AV U := .im (.int .i64 y)
def hh (l : TA) (y : Int) : Hp U := []
noncomputable def A : AFun U := mkA (U := U) pA pH (X := Int) (fun (l : TA) => c l.1.1) sp1 v hh
noncomputable def body : Code := (Go.Func.body Try.f152).getD .skip
noncomputable def Γ : List (FuncId × AFun U) := []
noncomputable def Λ : List (Nat × LFun U) := [(2, Λ2)]
def D : Nat → Lv × Lv := dtab [(2, ⟨[0, 3], []⟩, ⟨[2, 3], []⟩)]
noncomputable def E : Env U := { E0 with Γ := Γ, Λ := Λ, C := [], D := D }
theorem hf2 (R : Type) (l : T2) (s : (Int × Int)) (K : Ex → St U → Option R) : codeA E (pick (loopsOf body) 2) ⟨p2.mkL (((s.1, ((), (s.2, ((), ())))), ()) : T2).1, q2.mkH (((s.1, ((), (s.2, ((), ())))), ()) : T2).2, 0⟩ (roundK E (pick (loopsOf body) 2) K) =
  (l2 s.1 s.2).runK (lpK K (fun s => ⟨p2.mkL (((s.1, ((), (s.2, ((), ())))), ()) : T2).1, q2.mkH (((s.1, ((), (s.2, ((), ())))), ()) : T2).2, 0⟩) sp1 (ou2 l)) := by kernel_rfl
theorem lk2 (R : Type) (st : St U) (K : Ex → St U → Option R) (r : R) (h : Λ2 R st K = some r) : ∃ n, loopA E (pick (loopsOf body) 2) n st K = some r :=
  lp_ok (U := U) (E := E) (b := pick (loopsOf body) 2) (m := 0) (sp := sp1) (p := p2) (q := q2) (X := Int) (S := (Int × Int)) (f := fun (l : T2) s => l2 s.1 s.2) (hd := fun (l : T2) s => ((s.1, ((), (s.2, ((), ())))), ())) (s0 := fun (l : T2) => (l.1.1, l.1.2.2.1)) (ou := ou2)
    (fun l => rfl) (fun l x => by rfl) sp1_ok hf2 h
theorem hk (R : Type) (l : TA) (K : AV U → Hp U → Option R) : funcA E Try.f152 [] R (pA.mkL l.1) (pH.mkH l.2) K = (t l.1.1).runK fun y => K (v l y) (hh l y) := by kernel_rfl
theorem okF : SoundF Try.prog cc 152 (funcA E Try.f152 []) :=
  funcA_ok (E := E) P_mixed (E0_ok.with Γ Λ [] D) (gam_of all_nil) Try.func152 (c := body) (by kernel_rfl)
    (just_by (by kernel_rfl) (by kernel_rfl) (all_cons lk2 all_nil) all_nil) []
theorem ok : SoundF Try.prog cc 152 A :=
  mkA_ok (E := E) (p := pA) (q := pH) (t := fun (l : TA) => t l.1.1) sp1_ok hk okF
end word_Ones

end Go.Proofs.Ytcnomgpbkimmeaa.Va
