/- The functions of package slices, as plain functions, and that the program computes them. Printed by a program of this work out of the evaluator. -/
import Derived.Test.YtcnomgpbkimmeaaEn
import Derived.Tactics
namespace Go.Proofs.Ytcnomgpbkimmeaa.Va
open Go
set_option linter.unusedVariables false
set_option maxRecDepth 100000

/-! A copy of a slice: nil or not. -/
namespace slices_Clone__uint32uint32
abbrev TA : Type := ((List Int) × Unit) × Unit
noncomputable def t (s_ : (List Int)) : Tw Unit :=
 (.dd ((((((List.length ([] : List Int)) + (List.length s_)) * (4 : Nat)) ≤ (140737488355328 : Nat)) ∧ (((List.length ([] : List Int)) + (List.length s_)) ≤ (140737488355328 : Nat)))) inferInstance
  (.ret ())
  .no)
noncomputable def c (s_ : (List Int)) : Option (List Int) := (t s_).run.bind fun _ => some s_
def pA : Pt := (.cs (.sl 3) .nl)
def pH : Pt := .nl
noncomputable def A : AFun U := mkA (U := U) pA pH (X := (List Int)) (fun (l : TA) => (t l.1.1).run.bind fun _ => some l.1.1) sp1 (fun _ _ => .own 0) (fun l x => [.row 3 x true])
noncomputable def body : Code := (Go.Func.body Try.f115).getD .skip
noncomputable def E : Env U := { E0 with Γ := [], Λ := [], C := [], D := dtab [] }
theorem okF_nn : SoundF Try.prog cc 115 (funcA E Try.f115 []) :=
  funcA_ok (E := E) P_mixed (E0_ok.with [] [] [] (dtab [])) (gam_of all_nil) Try.func115 (c := body) (by kernel_rfl)
    (just_by (by kernel_rfl) (by kernel_rfl) all_nil all_nil) []
theorem okF_ns : SoundF Try.prog cc 115 (funcA E Try.f115 [(0, [], .own 3)]) :=
  funcA_ok (E := E) P_mixed (E0_ok.with [] [] [] (dtab [])) (gam_of all_nil) Try.func115 (c := body) (by kernel_rfl)
    (just_by (by kernel_rfl) (by kernel_rfl) all_nil all_nil) [(0, [], .own 3)]
theorem hn (R : Type) (l : (List Int)) (K : AV U → Hp U → Option R) : funcA E Try.f115 [] R [.nn 3 l] [] K = (t l).runK fun _ => K (.own 0) [.row 3 l true] := by kernel_rfl
theorem hs (R : Type) (K : AV U → Hp U → Option R) : funcA E Try.f115 [(0, [], .own 3)] R [.ns] [] K = K (.own 0) [.row 3 [] true] := by kernel_rfl
theorem ok : SoundF Try.prog cc 115 A := clone_ok (U := U) (P := Try.prog) (cc := cc) (f := 115) (T := 3) (A := funcA E Try.f115 []) (B := funcA E Try.f115 [(0, [], .own 3)]) (t := t) hn hs okF_nn okF_ns
end slices_Clone__uint32uint32

/-! slices.Index[[]int,int] -/
namespace slices_Index__intint
abbrev TA : Type := (((List Int) × (Int × Unit)) × Unit)
abbrev T2 : Type := (((List Int) × (Int × (Unit × (Int × (Int × (Unit × Unit)))))) × Unit)
noncomputable def l2 (s_ : (List Int)) (v_ : Int) (k7 : Int) (k8 : Int) : Tw (Int ⊕ (Unit ⊕ Int)) :=
 (.bb (decide (k8 < k7))
  (.dd (((0 : Int) ≤ k8)) inferInstance
   (.opt (s_)[(Int.toNat k8)]? fun z1 =>
    (.bb (v_ == z1)
     (.ret (.inr (.inr k8)))
     (.ret (.inl (w64 (k8 + (1 : Int)))))))
   .no)
  (.ret (.inr (.inl ()))))
noncomputable def L2 (s_ : (List Int)) (v_ : Int) (k7 : Int) (k8 : Int) : Option (Unit ⊕ Int) := Lp (fun s => (l2 s_ v_ k7 s).run) k8
def p2 : Pt := (.cs (.sl 1) (.cs (.int .i64) (.cs (.bots 5) (.cs (.int .i64) (.cs (.int .i64) (.cs (.bots 10) .nl))))))
def q2 : Pt := .nl
def ou2 (l : T2) (y : (Unit ⊕ Int)) : Ex × St U := (Sum.elim (fun a0 => (.exit 0, stOf 19 [] [] 0)) (fun b0 => (.ret, stOf 19 [(4, .im (.int .i64 b0))] [] 0)) y)
noncomputable def Λ2 : LFun U := mkLp (U := U) p2 q2 0 (X := (Unit ⊕ Int)) (fun (l : T2) => L2 l.1.1 l.1.2.1 l.1.2.2.2.1 l.1.2.2.2.2.1) (spS sp1) ou2
noncomputable def t (s_ : (List Int)) (v_ : Int) : Tw Int :=
 (.opt (L2 s_ v_ (((List.length s_) : Nat) : Int) (0 : Int)) fun z2 =>
  (.sm z2
   (fun z3 => (.ret (-(1 : Int))))
   (fun z4 => (.ret z4))))
noncomputable def c (s_ : (List Int)) (v_ : Int) : Option Int := (t s_ v_).run
def pA : Pt := (.cs (.sl 1) (.cs (.int .i64) .nl))
def pH : Pt := .nl
def v (l : TA) (y : Int) : AV U := .im (.int .i64 y)
def hh (l : TA) (y : Int) : Hp U := []
noncomputable def A : AFun U := mkA (U := U) pA pH (X := Int) (fun (l : TA) => c l.1.1 l.1.2.1) sp1 v hh
noncomputable def body : Code := (Go.Func.body Try.f154).getD .skip
noncomputable def Γ : List (FuncId × AFun U) := []
noncomputable def Λ : List (Nat × LFun U) := [(2, Λ2)]
def D : Nat → Lv × Lv := dtab [(2, ⟨[8, 0, 1, 7], []⟩, ⟨[4], []⟩)]
noncomputable def E : Env U := { E0 with Γ := Γ, Λ := Λ, C := [], D := D }
theorem hf2 (R : Type) (l : T2) (s : Int) (K : Ex → St U → Option R) : codeA E (pick (loopsOf body) 2) ⟨p2.mkL (((l.1.1, (l.1.2.1, ((), (l.1.2.2.2.1, (s, ((), ())))))), ()) : T2).1, q2.mkH (((l.1.1, (l.1.2.1, ((), (l.1.2.2.2.1, (s, ((), ())))))), ()) : T2).2, 0⟩ (roundK E (pick (loopsOf body) 2) K) =
  (l2 l.1.1 l.1.2.1 l.1.2.2.2.1 s).runK (lpK K (fun s => ⟨p2.mkL (((l.1.1, (l.1.2.1, ((), (l.1.2.2.2.1, (s, ((), ())))))), ()) : T2).1, q2.mkH (((l.1.1, (l.1.2.1, ((), (l.1.2.2.2.1, (s, ((), ())))))), ()) : T2).2, 0⟩) (spS sp1) (ou2 l)) := by kernel_rfl
theorem lk2 (R : Type) (st : St U) (K : Ex → St U → Option R) (r : R) (h : Λ2 R st K = some r) : ∃ n, loopA E (pick (loopsOf body) 2) n st K = some r :=
  lp_ok (U := U) (E := E) (b := pick (loopsOf body) 2) (m := 0) (sp := (spS sp1)) (p := p2) (q := q2) (X := (Unit ⊕ Int)) (S := Int) (f := fun (l : T2) s => l2 l.1.1 l.1.2.1 l.1.2.2.2.1 s) (hd := fun (l : T2) s => ((l.1.1, (l.1.2.1, ((), (l.1.2.2.2.1, (s, ((), ())))))), ())) (s0 := fun (l : T2) => l.1.2.2.2.2.1) (ou := ou2)
    (fun l => rfl) (fun l x => by repeat' (first | rfl | (cases x with | inl => rfl | inr x => ?_))) (spS_ok sp1_ok) hf2 h
theorem hk (R : Type) (l : TA) (K : AV U → Hp U → Option R) : funcA E Try.f154 [] R (pA.mkL l.1) (pH.mkH l.2) K = (t l.1.1 l.1.2.1).runK fun y => K (v l y) (hh l y) := by kernel_rfl
theorem okF : SoundF Try.prog cc 154 (funcA E Try.f154 []) :=
  funcA_ok (E := E) P_mixed (E0_ok.with Γ Λ [] D) (gam_of all_nil) Try.func154 (c := body) (by kernel_rfl)
    (just_by (by kernel_rfl) (by kernel_rfl) (all_cons lk2 all_nil) all_nil) []
theorem ok : SoundF Try.prog cc 154 A :=
  mkA_ok (E := E) (p := pA) (q := pH) (t := fun (l : TA) => t l.1.1 l.1.2.1) sp1_ok hk okF
end slices_Index__intint

/-! slices.Contains[[]int,int] -/
namespace slices_Contains__intint
abbrev TA : Type := (((List Int) × (Int × Unit)) × Unit)
noncomputable def t (s_ : (List Int)) (v_ : Int) : Tw Bool :=
 (.opt (slices_Index__intint.c s_ v_) fun z1 =>
  (.ret (decide (z1 ≥ (0 : Int)))))
noncomputable def c (s_ : (List Int)) (v_ : Int) : Option Bool := (t s_ v_).run
def pA : Pt := (.cs (.sl 1) (.cs (.int .i64) .nl))
def pH : Pt := .nl
def v (l : TA) (y : Bool) : AV U := .im (.bool y)
def hh (l : TA) (y : Bool) : Hp U := []
noncomputable def A : AFun U := mkA (U := U) pA pH (X := Bool) (fun (l : TA) => c l.1.1 l.1.2.1) sp1 v hh
noncomputable def body : Code := (Go.Func.body Try.f148).getD .skip
noncomputable def Γ : List (FuncId × AFun U) := [(154, slices_Index__intint.A)]
noncomputable def Λ : List (Nat × LFun U) := []
def D : Nat → Lv × Lv := dtab []
noncomputable def E : Env U := { E0 with Γ := Γ, Λ := Λ, C := [], D := D }
theorem hk (R : Type) (l : TA) (K : AV U → Hp U → Option R) : funcA E Try.f148 [] R (pA.mkL l.1) (pH.mkH l.2) K = (t l.1.1 l.1.2.1).runK fun y => K (v l y) (hh l y) := by kernel_rfl
theorem okF : SoundF Try.prog cc 148 (funcA E Try.f148 []) :=
  funcA_ok (E := E) P_mixed (E0_ok.with Γ Λ [] D) (gam_of (all_cons ⟨slices_Index__intint.ok, ⟨Try.f154, Try.func154, by kernel_rfl, by kernel_rfl⟩⟩ all_nil)) Try.func148 (c := body) (by kernel_rfl)
    (just_by (by kernel_rfl) (by kernel_rfl) all_nil all_nil) []
theorem ok : SoundF Try.prog cc 148 A :=
  mkA_ok (E := E) (p := pA) (q := pH) (t := fun (l : TA) => t l.1.1 l.1.2.1) sp1_ok hk okF
end slices_Contains__intint

/-! slices.Equal[[]uint32,uint32] -/
namespace slices_Equal__uint32uint32
abbrev TA : Type := (((List Int) × ((List Int) × Unit)) × Unit)
abbrev T4 : Type := (((List Int) × ((List Int) × (Unit × (Int × (Int × (Unit × Unit)))))) × Unit)
noncomputable def l4 (s1 : (List Int)) (s2 : (List Int)) (k12 : Int) (k13 : Int) : Tw (Int ⊕ (Unit ⊕ Bool)) :=
 (.bb (decide (k13 < k12))
  (.dd (((0 : Int) ≤ k13)) inferInstance
   (.opt (s1)[(Int.toNat k13)]? fun z1 =>
    (.dd (((0 : Int) ≤ k13)) inferInstance
     (.opt (s2)[(Int.toNat k13)]? fun z2 =>
      (.bb (z1 != z2)
       (.ret (.inr (.inr false)))
       (.ret (.inl (w64 (k13 + (1 : Int)))))))
     .no))
   .no)
  (.ret (.inr (.inl ()))))
noncomputable def L4 (s1 : (List Int)) (s2 : (List Int)) (k12 : Int) (k13 : Int) : Option (Unit ⊕ Bool) := Lp (fun s => (l4 s1 s2 k12 s).run) k13
def p4 : Pt := (.cs (.sl 3) (.cs (.sl 3) (.cs (.bots 10) (.cs (.int .i64) (.cs (.int .i64) (.cs (.bots 12) .nl))))))
def q4 : Pt := .nl
def ou4 (l : T4) (y : (Unit ⊕ Bool)) : Ex × St U := (Sum.elim (fun a0 => (.exit 0, stOf 26 [] [] 0)) (fun b0 => (.ret, stOf 26 [(4, .im (.bool b0))] [] 0)) y)
noncomputable def Λ4 : LFun U := mkLp (U := U) p4 q4 0 (X := (Unit ⊕ Bool)) (fun (l : T4) => L4 l.1.1 l.1.2.1 l.1.2.2.2.1 l.1.2.2.2.2.1) (spS sp1) ou4
noncomputable def t (s1 : (List Int)) (s2 : (List Int)) : Tw Bool :=
 (.bb ((((List.length s1) : Nat) : Int) != (((List.length s2) : Nat) : Int))
  (.ret false)
  (.opt (L4 s1 s2 (((List.length s1) : Nat) : Int) (0 : Int)) fun z3 =>
   (.sm z3
    (fun z4 => (.ret true))
    (fun z5 => (.ret z5)))))
noncomputable def c (s1 : (List Int)) (s2 : (List Int)) : Option Bool := (t s1 s2).run
def pA : Pt := (.cs (.sl 3) (.cs (.sl 3) .nl))
def pH : Pt := .nl
def v (l : TA) (y : Bool) : AV U := .im (.bool y)
def hh (l : TA) (y : Bool) : Hp U := []
noncomputable def A : AFun U := mkA (U := U) pA pH (X := Bool) (fun (l : TA) => c l.1.1 l.1.2.1) sp1 v hh
noncomputable def body : Code := (Go.Func.body Try.f106).getD .skip
noncomputable def Γ : List (FuncId × AFun U) := []
noncomputable def Λ : List (Nat × LFun U) := [(4, Λ4)]
def D : Nat → Lv × Lv := dtab [(4, ⟨[13, 1, 0, 12], []⟩, ⟨[4], []⟩)]
noncomputable def E : Env U := { E0 with Γ := Γ, Λ := Λ, C := [], D := D }
theorem hf4 (R : Type) (l : T4) (s : Int) (K : Ex → St U → Option R) : codeA E (pick (loopsOf body) 4) ⟨p4.mkL (((l.1.1, (l.1.2.1, ((), (l.1.2.2.2.1, (s, ((), ())))))), ()) : T4).1, q4.mkH (((l.1.1, (l.1.2.1, ((), (l.1.2.2.2.1, (s, ((), ())))))), ()) : T4).2, 0⟩ (roundK E (pick (loopsOf body) 4) K) =
  (l4 l.1.1 l.1.2.1 l.1.2.2.2.1 s).runK (lpK K (fun s => ⟨p4.mkL (((l.1.1, (l.1.2.1, ((), (l.1.2.2.2.1, (s, ((), ())))))), ()) : T4).1, q4.mkH (((l.1.1, (l.1.2.1, ((), (l.1.2.2.2.1, (s, ((), ())))))), ()) : T4).2, 0⟩) (spS sp1) (ou4 l)) := by kernel_rfl
theorem lk4 (R : Type) (st : St U) (K : Ex → St U → Option R) (r : R) (h : Λ4 R st K = some r) : ∃ n, loopA E (pick (loopsOf body) 4) n st K = some r :=
  lp_ok (U := U) (E := E) (b := pick (loopsOf body) 4) (m := 0) (sp := (spS sp1)) (p := p4) (q := q4) (X := (Unit ⊕ Bool)) (S := Int) (f := fun (l : T4) s => l4 l.1.1 l.1.2.1 l.1.2.2.2.1 s) (hd := fun (l : T4) s => ((l.1.1, (l.1.2.1, ((), (l.1.2.2.2.1, (s, ((), ())))))), ())) (s0 := fun (l : T4) => l.1.2.2.2.2.1) (ou := ou4)
    (fun l => rfl) (fun l x => by repeat' (first | rfl | (cases x with | inl => rfl | inr x => ?_))) (spS_ok sp1_ok) hf4 h
theorem hk (R : Type) (l : TA) (K : AV U → Hp U → Option R) : funcA E Try.f106 [] R (pA.mkL l.1) (pH.mkH l.2) K = (t l.1.1 l.1.2.1).runK fun y => K (v l y) (hh l y) := by kernel_rfl
theorem okF : SoundF Try.prog cc 106 (funcA E Try.f106 []) :=
  funcA_ok (E := E) P_mixed (E0_ok.with Γ Λ [] D) (gam_of all_nil) Try.func106 (c := body) (by kernel_rfl)
    (just_by (by kernel_rfl) (by kernel_rfl) (all_cons lk4 all_nil) all_nil) []
theorem ok : SoundF Try.prog cc 106 A :=
  mkA_ok (E := E) (p := pA) (q := pH) (t := fun (l : TA) => t l.1.1 l.1.2.1) sp1_ok hk okF
end slices_Equal__uint32uint32

end Go.Proofs.Ytcnomgpbkimmeaa.Va
