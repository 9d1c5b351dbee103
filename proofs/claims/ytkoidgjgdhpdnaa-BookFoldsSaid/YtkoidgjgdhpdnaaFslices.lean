/- The functions of package slices, as plain functions, and that the program computes them. Printed by a program of this work out of the evaluator. -/
import Derived.Test.YtkoidgjgdhpdnaaEn
import Derived.Tactics
set_option linter.unusedVariables false
namespace Go.Proofs.Ytkoidgjgdhpdnaa.Va
noncomputable section
open Go
set_option maxRecDepth 100000

/-! A copy of a slice: nil or not. -/
namespace slices_Clone__uint32uint32
abbrev TA : Type := ((List Int) × Unit) × Unit
def t (s_ : (List Int)) : Tw Unit :=
 (.dd ((((((List.length ([] : List (Int))) + (List.length s_)) * (4 : Nat)) ≤ (140737488355328 : Nat)) ∧ (((List.length ([] : List (Int))) + (List.length s_)) ≤ (140737488355328 : Nat)))) inferInstance
 (.ret ())
 .no)
def c (s_ : (List Int)) : Option (List Int) := (t s_).run.bind fun _ => some s_
def pA : Pt := (.cs (.sl 3) .nl)
def pH : Pt := .nl
def A : AFun U := mkA pA pH (X := (List Int)) (fun (l : TA) => (t l.1.1).run.bind fun _ => some l.1.1) sp1 (fun _ _ => .own 0) (fun l x => [.row 3 x true])
def body := bodyOf Try.f32
def E : Env U := { E0 with Γ := [], Λ := [], C := [], D := dtab [] }
theorem okF_nn : SoundF Try.prog cc 32 (funcA E Try.f32 []) :=
  funcA_ok (E := E) P_mixed (E0_ok.with [] [] [] (dtab []) []) (gam_of all_nil all_nil) Try.func32 (c := body) (by kernel_rfl)
    (just_by (by kernel_rfl) (by kernel_rfl) all_nil all_nil) []
theorem okF_ns : SoundF Try.prog cc 32 (funcA E Try.f32 [(0, [], .own 3)]) :=
  funcA_ok (E := E) P_mixed (E0_ok.with [] [] [] (dtab []) []) (gam_of all_nil all_nil) Try.func32 (c := body) (by kernel_rfl)
    (just_by (by kernel_rfl) (by kernel_rfl) all_nil all_nil) [(0, [], .own 3)]
theorem hn (R : Type) (l : (List Int)) (K : AV U → Hp U → Option R) : funcA E Try.f32 [] R [.nn 3 l] [] K = (t l).runK fun _ => K (.own 0) [.row 3 l true] := by kernel_rfl
theorem hs (R : Type) (K : AV U → Hp U → Option R) : funcA E Try.f32 [(0, [], .own 3)] R [.ns] [] K = K (.own 0) [.row 3 [] true] := by kernel_rfl
theorem ok : SoundF Try.prog cc 32 A := clone_ok (U := U) (P := Try.prog) (cc := cc) (f := 32) (T := 3) (A := funcA E Try.f32 []) (B := funcA E Try.f32 [(0, [], .own 3)]) (t := t) hn hs okF_nn okF_ns
theorem fo : FnOK Try.prog 32 := ⟨Try.f32, Try.func32, by kernel_rfl, by kernel_rfl⟩
end slices_Clone__uint32uint32

/-! slices.Equal[[]uint32,uint32] -/
namespace slices_Equal__uint32uint32
abbrev TA : Type := (((List Int) × ((List Int) × Unit)) × Unit)
abbrev T4 : Type := (((List Int) × ((List Int) × (Unit × (Int × (Int × (Unit × Unit)))))) × Unit)
abbrev X4 : Type := (Unit ⊕ Bool)
def l4 (s1 : (List Int)) (s2 : (List Int)) (k12 k13 : Int) : Tw (Int ⊕ X4) :=
 (.bb (decide (k13 < k12))
 (.dd (((0 : Int) ≤ k13)) inferInstance
 (.opt (s1)[(Int.toNat k13)]? fun z1 =>
 (.dd (((0 : Int) ≤ k13)) inferInstance
 (.opt (s2)[(Int.toNat k13)]? fun z2 =>
 (.bb (z1 != z2)
 (.ret (.inr (.inr false)))
 (.ret (.inl (w64 (k13 + (1 : Int)))))))
 .no))
 .no)
 (.ret (.inr (.inl ()))))
def L4 (s1 : (List Int)) (s2 : (List Int)) (k12 k13 : Int) : Option X4 := Lp (fun s => (l4 s1 s2 k12 s).run) k13
def p4 : Pt := (.cs (.sl 3) (.cs (.sl 3) (.cs (.bots 10) (jC (jC (.cs (.bots 12) .nl))))))
def q4 : Pt := .nl
def ou4 (l : T4) (y : X4) : Ex × St U := (Sum.elim (fun a0 => (.exit 0, stOf 26 [] [] 0)) (fun b0 => (.ret, stOf 26 [(4, jB b0)] [] 0)) y)
def Λ4 : LFun U := mkLp p4 q4 0 (X := X4) (fun (l : T4) => L4 l.1.1 l.1.2.1 l.1.2.2.2.1 (d4 l.1).1) (spS sp1) ou4
def hd4 (l : T4) (s : Int) : T4 := ((l.1.1, (l.1.2.1, ((), (l.1.2.2.2.1, (s, ((), ())))))), ())
def fl4 (l : T4) (s : Int) : Tw (Int ⊕ X4) := l4 l.1.1 l.1.2.1 l.1.2.2.2.1 s
def t (s1 : (List Int)) (s2 : (List Int)) : Tw Bool :=
 (.bb ((((List.length s1) : Nat) : Int) != (((List.length s2) : Nat) : Int))
 (.ret false)
 (.opt (L4 s1 s2 (((List.length s1) : Nat) : Int) (0 : Int)) fun z3 =>
 (.sm z3
 (fun z4 => (.ret true))
 (fun z5 => (.ret z5)))))
def c (s1 : (List Int)) (s2 : (List Int)) : Option Bool := (t s1 s2).run
def tl (l : TA) : Tw Bool := t l.1.1 l.1.2.1
def pA : Pt := (.cs (.sl 3) (.cs (.sl 3) .nl))
def pH : Pt := .nl
def v (l : TA) (y : Bool) : AV U := jB y
def hh (l : TA) (y : Bool) : Hp U := []
def A : AFun U := mkA pA pH (X := Bool) (fun l => (tl l).run) sp1 v hh
def body := bodyOf Try.f81
def E : Env U := E0.mk5 [] [(4, Λ4)] [] [(4, ⟨[13, 1, 0, 12], []⟩, ⟨[4], []⟩)] []
theorem hf4 : HF E (pick (loopsOf body) 4) p4 q4 0 fl4 hd4 (spS sp1) ou4 := fun _ _ _ _ => by kernel_rfl
theorem lk4 : LK E (pick (loopsOf body) 4) Λ4 := fun R st K r h =>
  lp_ok (E := E) (b := pick (loopsOf body) 4) (m := 0) (sp := (spS sp1)) (p := p4) (q := q4) (X := X4) (S := Int) (f := fl4) (hd := hd4) (s0 := fun (l : T4) => (d4 l.1).1) (ou := ou4)
    (fun l => rfl) (fun l x => by repeat' (first | rfl | (cases x with | inl => rfl | inr x => ?_))) (spS_ok sp1_ok) hf4 h
theorem hk : HK E Try.f81 [] pA pH tl v hh := fun _ _ _ => by kernel_rfl
theorem og : SoundF Try.prog cc 81 A ∧ FnOK Try.prog 81 :=
 og_of (E := E) P_mixed (E0_ok.mk5 _ _ _ _ _) (gam_of all_nil all_nil) Try.func81 (c := body) (by kernel_rfl)
    (just_by (by kernel_rfl) (by kernel_rfl) (all_cons lk4 all_nil) all_nil) [] sp1_ok hk (by kernel_rfl)
end slices_Equal__uint32uint32

end
end Go.Proofs.Ytkoidgjgdhpdnaa.Va
