/- The functions of package slices, as plain functions, and that the program computes them. Printed by a program of this work out of the evaluator. -/
import Derived.Test.YtpidbpmkogbdeaaEn
import Derived.Tactics
namespace Go.Proofs.Ytpidbpmkogbdeaa.Va
open Go
set_option linter.unusedVariables false
set_option maxRecDepth 100000

/-! A copy of a slice: nil or not. -/
namespace slices_Clone__uint32uint32
abbrev TA : Type := ((List Int) × Unit) × Unit
noncomputable def t (s_ : (List Int)) : Tw Unit :=
 (.dd ((((((List.length ([] : List Int)) + (List.length s_)) * (4 : Nat)) ≤ (140737488355328 : Nat)) ∧ (((List.length ([] : List Int)) + (List.length s_)) ≤ (140737488355328 : Nat)))) inferInstance
  (.ret ())
  .no)
noncomputable def c (s_ : (List Int)) : Option (List Int) := (t s_).run.bind fun _ => some s_
def pA : Pt := (.cs (.sl 3) .nl)
def pH : Pt := .nl
noncomputable def A : AFun U := mkA (U := U) pA pH (X := (List Int)) (fun (l : TA) => (t l.1.1).run.bind fun _ => some l.1.1) sp1 (fun _ _ => .own 0) (fun l x => [.row 3 x true])
noncomputable def body : Code := (Go.Func.body Try.f107).getD .skip
noncomputable def E : Env U := { E0 with Γ := [], Λ := [], C := [], D := dtab [] }
theorem okF_nn : SoundF Try.prog cc 107 (funcA E Try.f107 []) :=
  funcA_ok (E := E) P_mixed (E0_ok.with [] [] [] (dtab []) []) (gam_of all_nil all_nil) Try.func107 (c := body) (by kernel_rfl)
    (just_by (by kernel_rfl) (by kernel_rfl) all_nil all_nil) []
theorem okF_ns : SoundF Try.prog cc 107 (funcA E Try.f107 [(0, [], .own 3)]) :=
  funcA_ok (E := E) P_mixed (E0_ok.with [] [] [] (dtab []) []) (gam_of all_nil all_nil) Try.func107 (c := body) (by kernel_rfl)
    (just_by (by kernel_rfl) (by kernel_rfl) all_nil all_nil) [(0, [], .own 3)]
theorem hn (R : Type) (l : (List Int)) (K : AV U → Hp U → Option R) : funcA E Try.f107 [] R [.nn 3 l] [] K = (t l).runK fun _ => K (.own 0) [.row 3 l true] := by kernel_rfl
theorem hs (R : Type) (K : AV U → Hp U → Option R) : funcA E Try.f107 [(0, [], .own 3)] R [.ns] [] K = K (.own 0) [.row 3 [] true] := by kernel_rfl
theorem ok : SoundF Try.prog cc 107 A := clone_ok (U := U) (P := Try.prog) (cc := cc) (f := 107) (T := 3) (A := funcA E Try.f107 []) (B := funcA E Try.f107 [(0, [], .own 3)]) (t := t) hn hs okF_nn okF_ns
end slices_Clone__uint32uint32

/-! A copy of a slice: nil or not. -/
namespace slices_Clone__api_Itemapi_Item
abbrev TA : Type := ((List ItemV) × Unit) × Unit
noncomputable def t (s_ : (List ItemV)) : Tw Unit :=
 (.dd ((((((List.length ([] : List ItemV)) + (List.length s_)) * (24 : Nat)) ≤ (140737488355328 : Nat)) ∧ (((List.length ([] : List ItemV)) + (List.length s_)) ≤ (140737488355328 : Nat)))) inferInstance
  (.ret ())
  .no)
noncomputable def c (s_ : (List ItemV)) : Option (List ItemV) := (t s_).run.bind fun _ => some s_
def pA : Pt := (.cs (.sl 10) .nl)
def pH : Pt := .nl
noncomputable def A : AFun U := mkA (U := U) pA pH (X := (List ItemV)) (fun (l : TA) => (t l.1.1).run.bind fun _ => some l.1.1) sp1 (fun _ _ => .own 0) (fun l x => [.row 10 x true])
noncomputable def body : Code := (Go.Func.body Try.f111).getD .skip
noncomputable def E : Env U := { E0 with Γ := [], Λ := [], C := [], D := dtab [] }
theorem okF_nn : SoundF Try.prog cc 111 (funcA E Try.f111 []) :=
  funcA_ok (E := E) P_mixed (E0_ok.with [] [] [] (dtab []) []) (gam_of all_nil all_nil) Try.func111 (c := body) (by kernel_rfl)
    (just_by (by kernel_rfl) (by kernel_rfl) all_nil all_nil) []
theorem okF_ns : SoundF Try.prog cc 111 (funcA E Try.f111 [(0, [], .own 10)]) :=
  funcA_ok (E := E) P_mixed (E0_ok.with [] [] [] (dtab []) []) (gam_of all_nil all_nil) Try.func111 (c := body) (by kernel_rfl)
    (just_by (by kernel_rfl) (by kernel_rfl) all_nil all_nil) [(0, [], .own 10)]
theorem hn (R : Type) (l : (List ItemV)) (K : AV U → Hp U → Option R) : funcA E Try.f111 [] R [.nn 10 l] [] K = (t l).runK fun _ => K (.own 0) [.row 10 l true] := by kernel_rfl
theorem hs (R : Type) (K : AV U → Hp U → Option R) : funcA E Try.f111 [(0, [], .own 10)] R [.ns] [] K = K (.own 0) [.row 10 [] true] := by kernel_rfl
theorem ok : SoundF Try.prog cc 111 A := clone_ok (U := U) (P := Try.prog) (cc := cc) (f := 111) (T := 10) (A := funcA E Try.f111 []) (B := funcA E Try.f111 [(0, [], .own 10)]) (t := t) hn hs okF_nn okF_ns
end slices_Clone__api_Itemapi_Item

/-! slices.Equal[[]instar/api.Value,instar/api.Value] -/
namespace slices_Equal__api_Valueapi_Value
abbrev TA : Type := (((List ValueV) × ((List ValueV) × Unit)) × Unit)
abbrev T4 : Type := (((List ValueV) × ((List ValueV) × (Unit × (Int × (Int × (Unit × Unit)))))) × Unit)
noncomputable def l4 (s1 : (List ValueV)) (s2 : (List ValueV)) (k12 : Int) (k13 : Int) : Tw (Int ⊕ (Unit ⊕ Bool)) :=
 (.bb (decide (k13 < k12))
  (.dd (((0 : Int) ≤ k13)) inferInstance
   (.opt (s1)[(Int.toNat k13)]? fun z1 =>
    (.dd (((0 : Int) ≤ k13)) inferInstance
     (.opt (s2)[(Int.toNat k13)]? fun z2 =>
      (.bb (!((z1.n == z2.n) && (((ByteArray.toList z1.s) == (ByteArray.toList z2.s)) && true)))
       (.ret (.inr (.inr false)))
       (.ret (.inl (w64 (k13 + (1 : Int)))))))
     .no))
   .no)
  (.ret (.inr (.inl ()))))
noncomputable def L4 (s1 : (List ValueV)) (s2 : (List ValueV)) (k12 : Int) (k13 : Int) : Option (Unit ⊕ Bool) := Lp (fun s => (l4 s1 s2 k12 s).run) k13
def p4 : Pt := (.cs (.sl 24) (.cs (.sl 24) (.cs (.bots 10) (.cs (.int .i64) (.cs (.int .i64) (.cs (.bots 12) .nl))))))
def q4 : Pt := .nl
def ou4 (l : T4) (y : (Unit ⊕ Bool)) : Ex × St U := (Sum.elim (fun a0 => (.exit 0, stOf 26 [] [] 0)) (fun b0 => (.ret, stOf 26 [(4, .im (.bool b0))] [] 0)) y)
noncomputable def Λ4 : LFun U := mkLp (U := U) p4 q4 0 (X := (Unit ⊕ Bool)) (fun (l : T4) => L4 l.1.1 l.1.2.1 l.1.2.2.2.1 l.1.2.2.2.2.1) (spS sp1) ou4
noncomputable def t (s1 : (List ValueV)) (s2 : (List ValueV)) : Tw Bool :=
 (.bb ((((List.length s1) : Nat) : Int) != (((List.length s2) : Nat) : Int))
  (.ret false)
  (.opt (L4 s1 s2 (((List.length s1) : Nat) : Int) (0 : Int)) fun z3 =>
   (.sm z3
    (fun z4 => (.ret true))
    (fun z5 => (.ret z5)))))
noncomputable def c (s1 : (List ValueV)) (s2 : (List ValueV)) : Option Bool := (t s1 s2).run
def pA : Pt := (.cs (.sl 24) (.cs (.sl 24) .nl))
def pH : Pt := .nl
def v (l : TA) (y : Bool) : AV U := .im (.bool y)
def hh (l : TA) (y : Bool) : Hp U := []
noncomputable def A : AFun U := mkA (U := U) pA pH (X := Bool) (fun (l : TA) => c l.1.1 l.1.2.1) sp1 v hh
noncomputable def body : Code := (Go.Func.body Try.f141).getD .skip
noncomputable def Γ : List (FuncId × AFun U) := []
noncomputable def Λ : List (Nat × LFun U) := [(4, Λ4)]
noncomputable def CT : List (Nat × LFun U) := []
def ro : List FuncId := []
def D : Nat → Lv × Lv := dtab [(4, ⟨[13, 1, 0, 12], []⟩, ⟨[4], []⟩)]
noncomputable def E : Env U := { E0 with Γ := Γ, Λ := Λ, C := CT, D := D, ro := ro }
theorem hf4 (R : Type) (l : T4) (s : Int) (K : Ex → St U → Option R) : codeA E (pick (loopsOf body) 4) ⟨p4.mkL (((l.1.1, (l.1.2.1, ((), (l.1.2.2.2.1, (s, ((), ())))))), ()) : T4).1, q4.mkH (((l.1.1, (l.1.2.1, ((), (l.1.2.2.2.1, (s, ((), ())))))), ()) : T4).2, 0⟩ (roundK E (pick (loopsOf body) 4) K) =
  (l4 l.1.1 l.1.2.1 l.1.2.2.2.1 s).runK (lpK K (fun s => ⟨p4.mkL (((l.1.1, (l.1.2.1, ((), (l.1.2.2.2.1, (s, ((), ())))))), ()) : T4).1, q4.mkH (((l.1.1, (l.1.2.1, ((), (l.1.2.2.2.1, (s, ((), ())))))), ()) : T4).2, 0⟩) (spS sp1) (ou4 l)) := by kernel_rfl
theorem lk4 (R : Type) (st : St U) (K : Ex → St U → Option R) (r : R) (h : Λ4 R st K = some r) : ∃ n, loopA E (pick (loopsOf body) 4) n st K = some r :=
  lp_ok (U := U) (E := E) (b := pick (loopsOf body) 4) (m := 0) (sp := (spS sp1)) (p := p4) (q := q4) (X := (Unit ⊕ Bool)) (S := Int) (f := fun (l : T4) s => l4 l.1.1 l.1.2.1 l.1.2.2.2.1 s) (hd := fun (l : T4) s => ((l.1.1, (l.1.2.1, ((), (l.1.2.2.2.1, (s, ((), ())))))), ())) (s0 := fun (l : T4) => l.1.2.2.2.2.1) (ou := ou4)
    (fun l => rfl) (fun l x => by repeat' (first | rfl | (cases x with | inl => rfl | inr x => ?_))) (spS_ok sp1_ok) hf4 h
theorem hk (R : Type) (l : TA) (K : AV U → Hp U → Option R) : funcA E Try.f141 [] R (pA.mkL l.1) (pH.mkH l.2) K = (t l.1.1 l.1.2.1).runK fun y => K (v l y) (hh l y) := by kernel_rfl
theorem okF : SoundF Try.prog cc 141 (funcA E Try.f141 []) :=
  funcA_ok (E := E) P_mixed (E0_ok.with Γ Λ CT D ro) (gam_of all_nil all_nil) Try.func141 (c := body) (by kernel_rfl)
    (just_by (by kernel_rfl) (by kernel_rfl) (all_cons lk4 all_nil) all_nil) []
theorem ok : SoundF Try.prog cc 141 A :=
  mkA_ok (E := E) (p := pA) (q := pH) (t := fun (l : TA) => t l.1.1 l.1.2.1) sp1_ok hk okF
theorem keep : KeepA A := mkA_keep (U := U) sp1_ok (fun (l : TA) y => ⟨(hh l y).drop 0, by kernel_rfl⟩)
end slices_Equal__api_Valueapi_Value

/-! A copy of a slice: nil or not. -/
namespace slices_Clone__intint
abbrev TA : Type := ((List Int) × Unit) × Unit
noncomputable def t (s_ : (List Int)) : Tw Unit :=
 (.dd ((((((List.length ([] : List Int)) + (List.length s_)) * (8 : Nat)) ≤ (140737488355328 : Nat)) ∧ (((List.length ([] : List Int)) + (List.length s_)) ≤ (140737488355328 : Nat)))) inferInstance
  (.ret ())
  .no)
noncomputable def c (s_ : (List Int)) : Option (List Int) := (t s_).run.bind fun _ => some s_
def pA : Pt := (.cs (.sl 1) .nl)
def pH : Pt := .nl
noncomputable def A : AFun U := mkA (U := U) pA pH (X := (List Int)) (fun (l : TA) => (t l.1.1).run.bind fun _ => some l.1.1) sp1 (fun _ _ => .own 0) (fun l x => [.row 1 x true])
noncomputable def body : Code := (Go.Func.body Try.f112).getD .skip
noncomputable def E : Env U := { E0 with Γ := [], Λ := [], C := [], D := dtab [] }
theorem okF_nn : SoundF Try.prog cc 112 (funcA E Try.f112 []) :=
  funcA_ok (E := E) P_mixed (E0_ok.with [] [] [] (dtab []) []) (gam_of all_nil all_nil) Try.func112 (c := body) (by kernel_rfl)
    (just_by (by kernel_rfl) (by kernel_rfl) all_nil all_nil) []
theorem okF_ns : SoundF Try.prog cc 112 (funcA E Try.f112 [(0, [], .own 1)]) :=
  funcA_ok (E := E) P_mixed (E0_ok.with [] [] [] (dtab []) []) (gam_of all_nil all_nil) Try.func112 (c := body) (by kernel_rfl)
    (just_by (by kernel_rfl) (by kernel_rfl) all_nil all_nil) [(0, [], .own 1)]
theorem hn (R : Type) (l : (List Int)) (K : AV U → Hp U → Option R) : funcA E Try.f112 [] R [.nn 1 l] [] K = (t l).runK fun _ => K (.own 0) [.row 1 l true] := by kernel_rfl
theorem hs (R : Type) (K : AV U → Hp U → Option R) : funcA E Try.f112 [(0, [], .own 1)] R [.ns] [] K = K (.own 0) [.row 1 [] true] := by kernel_rfl
theorem ok : SoundF Try.prog cc 112 A := clone_ok (U := U) (P := Try.prog) (cc := cc) (f := 112) (T := 1) (A := funcA E Try.f112 []) (B := funcA E Try.f112 [(0, [], .own 1)]) (t := t) hn hs okF_nn okF_ns
end slices_Clone__intint

end Go.Proofs.Ytpidbpmkogbdeaa.Va
