/- The functions of package law24, as plain functions, and that the program computes them. Printed by a program of this work out of the evaluator. -/
import Derived.Test.YtmlbioapefgioaaEn
import Derived.Tactics
import Derived.Test.YtmlbioapefgioaaFpack
namespace Go.Proofs.Ytmlbioapefgioaa.Va
open Go
set_option linter.unusedVariables false
set_option maxRecDepth 100000

/-! instar/instarlaw24.awake -/
namespace law24_awake
abbrev TA : Type := (Unit × Unit)
abbrev T3 : Type := ((Unit × (Unit × (Int × (Unit × Unit)))) × ((List ItemV) × Unit))
abbrev S3 : Type := (Int × (List ItemV))
noncomputable def l3 (i : Int) (h0 : (List ItemV)) : Tw (S3 ⊕ (List ItemV)) :=
 (.bb (decide (i < (10 : Int)))
  (.dd ((((((List.length h0) + (List.length ((Go.Proofs.Ytmlbioapefgioaa.Va.ItemV.mk i (ByteArray.mk (List.toArray ((97 : UInt8) :: ([] : List (UInt8)))))) :: ([] : List (ItemV))))) * (24 : Nat)) ≤ (140737488355328 : Nat)) ∧ (((List.length h0) + (List.length ((Go.Proofs.Ytmlbioapefgioaa.Va.ItemV.mk i (ByteArray.mk (List.toArray ((97 : UInt8) :: ([] : List (UInt8)))))) :: ([] : List (ItemV))))) ≤ (140737488355328 : Nat)))) inferInstance
   (.ret (.inl ((w32 (i + (1 : Int))), (h0 ++ ((Go.Proofs.Ytmlbioapefgioaa.Va.ItemV.mk i (ByteArray.mk (List.toArray ((97 : UInt8) :: ([] : List (UInt8)))))) :: ([] : List (ItemV)))))))
   .no)
  (.ret (.inr h0)))
noncomputable def L3 (i : Int) (h0 : (List ItemV)) : Option (List ItemV) := Lp (fun s => (l3 s.1 s.2).run) (i, h0)
def p3 : Pt := (.cs (.bots 1) (.cs (.own 0) (.cs (.int .u32) (.cs (.bots 45) .nl))))
def q3 : Pt := (.cs (.row 10 true) .nl)
def ou3 (l : T3) (y : (List ItemV)) : Ex × St U := (.exit 0, stOf 48 [(1, .own 0)] [.row 10 y true] 0)
noncomputable def Λ3 : LFun U := mkLp (U := U) p3 q3 0 (X := (List ItemV)) (fun (l : T3) => L3 l.1.2.2.1 l.2.1) sp1 ou3
def hd3 (l : T3) (s : S3) : T3 := (((), ((), (s.1, ((), ())))), (s.2, ()))
noncomputable def fl3 (l : T3) (s : S3) : Tw (S3 ⊕ (List ItemV)) := l3 s.1 s.2
noncomputable def t : Tw Bool :=
 (.opt (L3 (0 : Int) ([] : List (ItemV))) fun z1 =>
  (.opt (pack_Greedy.c z1 (62 : Int)) fun z2 =>
   (.dd ((((0 : Int) ≤ (0 : Int)) ∧ ((0 : Int) < (((List.length z1) : Nat) : Int)))) inferInstance
    (.opt (z1)[(Int.toNat (0 : Int))]? fun z3 =>
     (.opt (pack_Put_none0.c (62 : Int) z3.key z3.data) fun z4 =>
      (.bb ((((List.length z2) : Nat) : Int) == (1 : Int))
       (.dd ((((0 : Int) ≤ (0 : Int)) ∧ ((0 : Int) < (((List.length z2) : Nat) : Int)))) inferInstance
        (.opt (z2)[(Int.toNat (0 : Int))]? fun z5 =>
         (.bb ((((List.length z5) : Nat) : Int) == (10 : Int))
          (.opt (pack_Fits.c z2 (62 : Int)) fun z6 =>
           (.bb z6
            (.bb ((((List.length z4.2.2.2) : Nat) : Int) == (1 : Int))
             (.ret (z4.2.2.1 == (1 : Int)))
             (.ret false))
            (.ret false)))
          (.ret false)))
        .no)
       (.ret false))))
    .no)))
noncomputable def c : Option Bool := (t).run
noncomputable def tl (l : TA) : Tw Bool := t
noncomputable def cl (l : TA) : Option Bool := c
def pA : Pt := .nl
def pH : Pt := .nl
def v (l : TA) (y : Bool) : AV U := jB y
def hh (l : TA) (y : Bool) : Hp U := []
noncomputable def A : AFun U := mkA (U := U) pA pH (X := Bool) cl sp1 v hh
noncomputable def body : Code := (Go.Func.body Try.f11).getD .skip
noncomputable def Γ : List (FuncId × AFun U) := [(18, pack_Greedy.A), (26, pack_Put_none0.A), (12, pack_Fits.A)]
noncomputable def Λ : List (Nat × LFun U) := [(3, Λ3)]
noncomputable def CT : List (Nat × LFun U) := []
def ro : List FuncId := []
def D : Nat → Lv × Lv := dtab [(3, ⟨[2, 1], [(1, [], .own 10)]⟩, ⟨[0, 1], []⟩)]
noncomputable def E : Env U := { E0 with Γ := Γ, Λ := Λ, C := CT, D := D, ro := ro }
theorem hf3 (R : Type) (l : T3) (s : S3) (K : Ex → St U → Option R) : codeA E (pick (loopsOf body) 3) ⟨p3.mkL (hd3 l s).1, q3.mkH (hd3 l s).2, 0⟩ (roundK E (pick (loopsOf body) 3) K) =
  (fl3 l s).runK (lpK K (fun s => ⟨p3.mkL (hd3 l s).1, q3.mkH (hd3 l s).2, 0⟩) sp1 (ou3 l)) := by kernel_rfl
theorem lk3 (R : Type) (st : St U) (K : Ex → St U → Option R) (r : R) (h : Λ3 R st K = some r) : ∃ n, loopA E (pick (loopsOf body) 3) n st K = some r :=
  lp_ok (U := U) (E := E) (b := pick (loopsOf body) 3) (m := 0) (sp := sp1) (p := p3) (q := q3) (X := (List ItemV)) (S := S3) (f := fl3) (hd := hd3) (s0 := fun (l : T3) => (l.1.2.2.1, l.2.1)) (ou := ou3)
    (fun l => rfl) (fun l x => by rfl) sp1_ok hf3 h
theorem hk (R : Type) (l : TA) (K : AV U → Hp U → Option R) : funcA E Try.f11 [] R (pA.mkL l.1) (pH.mkH l.2) K = (tl l).runK fun y => K (v l y) (hh l y) := by kernel_rfl
theorem okF : SoundF Try.prog cc 11 (funcA E Try.f11 []) :=
  funcA_ok (E := E) P_mixed (E0_ok.with Γ Λ CT D ro) (gam_of (all_cons ⟨pack_Greedy.ok, pack_Greedy.fo⟩ (all_cons ⟨pack_Put_none0.ok, pack_Put_none0.fo⟩ (all_cons ⟨pack_Fits.ok, pack_Fits.fo⟩ all_nil))) no_ro) Try.func11 (c := body) (by kernel_rfl)
    (just_by (by kernel_rfl) (by kernel_rfl) (all_cons lk3 all_nil) all_nil) []
theorem ok : SoundF Try.prog cc 11 A :=
  mkA_ok (E := E) (p := pA) (q := pH) (t := tl) sp1_ok hk okF
theorem fo : FnOK Try.prog 11 := ⟨Try.f11, Try.func11, by kernel_rfl, by kernel_rfl⟩
theorem keep : KeepA A := mkA_keep (U := U) sp1_ok (fun (l : TA) y => ⟨(hh l y).drop 0, by kernel_rfl⟩)
end law24_awake

end Go.Proofs.Ytmlbioapefgioaa.Va
