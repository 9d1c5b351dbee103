/- The functions of package flash, as plain functions, and that the program computes them. Printed by a program of this work out of the evaluator. -/
import Derived.Test.YtmlbioapefgioaaEn
import Derived.Tactics
import Derived.Test.YtmlbioapefgioaaFword
namespace Go.Proofs.Ytmlbioapefgioaa.Va
open Go
set_option linter.unusedVariables false
set_option maxRecDepth 100000

/-! instar/flash.New -/
namespace flash_New
abbrev TA : Type := ((Int × (Int × Unit)) × Unit)
abbrev XA : Type := ((Int × (Int × (Bool × (Int × ((List Int) × ((List Int) × (List Int))))))) ⊕ Int)
abbrev T5 : Type := ((Unit × (Unit × (Unit × (Int × (Int × (Unit × Unit)))))) × ((Unit × (Int × (Unit × (Int × (Bool × (Int × (Unit × Unit))))))) × ((List Int) × ((List Int) × Unit))))
abbrev S5 : Type := (Int × (List Int))
noncomputable def l5 (k36 h0_1 h0_3 : Int) (h0_4 : Bool) (h0_5 : Int) (h2 : (List Int)) (k37 : Int) (h1 : (List Int)) : Tw (S5 ⊕ (List Int)) :=
 (.bb (decide (k37 < k36))
  (.dd ((((0 : Int) ≤ k37) ∧ (k37 < (((List.length h1) : Nat) : Int)))) inferInstance
   (.opt (h1)[(Int.toNat k37)]? fun z1 =>
    (.ret (.inl ((w64 (k37 + (1 : Int))), (List.set h1 (Int.toNat k37) (4294967295 : Int))))))
   .no)
  (.ret (.inr h1)))
noncomputable def L5 (k36 k37 h0_1 h0_3 : Int) (h0_4 : Bool) (h0_5 : Int) (h1 : (List Int)) (h2 : (List Int)) : Option (List Int) := Lp (fun s => (l5 k36 h0_1 h0_3 h0_4 h0_5 h2 s.1 s.2).run) (k37, h1)
def p5 : Pt := (.cs (.bots 6) (.cs (.ptr 0 0) (.cs (.bots 29) (jC (jC (.cs (.bots 10) .nl))))))
def q5 : Pt := (.cs (.var (.cs (.own 1) (jC (.cs (.own 2) (jC (.cs .bool (jC (.cs .nils .nl)))))))) (.cs (.row 3 true) (.cs (.row 1 true) .nl)))
def ou5 (l : T5) (y : (List Int)) : Ex × St U := (.exit 0, stOf 48 [(6, .ptr 0 0)] [.var [.own 1, jI l.2.1.2.1, .own 2, jI l.2.1.2.2.2.1, jB l.2.1.2.2.2.2.1, jI l.2.1.2.2.2.2.2.1, .im .nils], .row 3 y true, .row 1 l.2.2.2.1 true] 0)
noncomputable def Λ5 : LFun U := mkLp (U := U) p5 q5 0 (X := (List Int)) (fun (l : T5) => L5 l.1.2.2.2.1 l.1.2.2.2.2.1 l.2.1.2.1 l.2.1.2.2.2.1 l.2.1.2.2.2.2.1 l.2.1.2.2.2.2.2.1 l.2.2.1 l.2.2.2.1) sp1 ou5
def hd5 (l : T5) (s : S5) : T5 := (((), ((), ((), (l.1.2.2.2.1, (s.1, ((), ())))))), (((), (l.2.1.2.1, ((), (l.2.1.2.2.2.1, (l.2.1.2.2.2.2.1, (l.2.1.2.2.2.2.2.1, ((), ()))))))), (s.2, (l.2.2.2.1, ()))))
noncomputable def fl5 (l : T5) (s : S5) : Tw (S5 ⊕ (List Int)) := l5 l.1.2.2.2.1 l.2.1.2.1 l.2.1.2.2.2.1 l.2.1.2.2.2.2.1 l.2.1.2.2.2.2.2.1 l.2.2.2.1 s.1 s.2
noncomputable def t (sectors words : Int) : Tw XA :=
 (.bb (decide (sectors < (1 : Int)))
  (.ret (.inr (2 : Int)))
  (.bb (decide (sectors > (512 : Int)))
   (.ret (.inr (2 : Int)))
   (.bb (decide (words < (1 : Int)))
    (.ret (.inr (2 : Int)))
    (.bb (decide (words > (1024 : Int)))
     (.ret (.inr (2 : Int)))
     (.dd ((((0 : Int) ≤ (w64 (sectors * words))) ∧ (((w64 (sectors * words)) ≤ (w64 (sectors * words))) ∧ (((w64 (sectors * words)) ≤ (140737488355328 : Int)) ∧ (((w64 (sectors * words)) * (((4 : Nat) : Nat) : Int)) ≤ (140737488355328 : Int)))))) inferInstance
      (.dd ((((0 : Int) ≤ sectors) ∧ ((sectors ≤ sectors) ∧ ((sectors ≤ (140737488355328 : Int)) ∧ ((sectors * (((8 : Nat) : Nat) : Int)) ≤ (140737488355328 : Int)))))) inferInstance
       (.opt (L5 (((List.length (List.replicate (Int.toNat (w64 (sectors * words))) (0 : Int))) : Nat) : Int) (0 : Int) words (0 : Int) false (-(1 : Int)) (List.replicate (Int.toNat (w64 (sectors * words))) (0 : Int)) (List.replicate (Int.toNat sectors) (0 : Int))) fun z2 =>
        (.ret (.inl ((0 : Int), ((0 : Int), (false, ((-(1 : Int)), (z2, ((List.replicate (Int.toNat sectors) (0 : Int)), ([] : List (Int)))))))))))
       .no)
      .no)))))
noncomputable def c (sectors words : Int) : Option XA := (t sectors words).run
noncomputable def tl (l : TA) : Tw XA := t l.1.1 l.1.2.1
noncomputable def cl (l : TA) : Option XA := c l.1.1 l.1.2.1
def pA : Pt := (jC (jC .nl))
def pH : Pt := .nl
def v (l : TA) (y : XA) : AV U := (Sum.elim (fun a0 => .tup [.ptr 0 0, jI a0.1]) (fun b0 => .tup [.im .nilp, jI b0]) y)
def hh (l : TA) (y : XA) : Hp U := (Sum.elim (fun a0 => [.var [.own 1, jI l.1.2.1, .own 2, jI a0.2.1, jB a0.2.2.1, jI a0.2.2.2.1, .own 3], .row 3 a0.2.2.2.2.1 true, .row 1 a0.2.2.2.2.2.1 true, .row 3 a0.2.2.2.2.2.2 true]) (fun b0 => []) y)
noncomputable def A : AFun U := mkA (U := U) pA pH (X := XA) cl (spS sp1) v hh
noncomputable def body : Code := (Go.Func.body Try.f31).getD .skip
noncomputable def Γ : List (FuncId × AFun U) := []
noncomputable def Λ : List (Nat × LFun U) := [(5, Λ5)]
noncomputable def CT : List (Nat × LFun U) := []
def ro : List FuncId := []
def D : Nat → Lv × Lv := dtab [(5, ⟨[37, 6, 36], []⟩, ⟨[4, 5, 6], []⟩)]
noncomputable def E : Env U := { E0 with Γ := Γ, Λ := Λ, C := CT, D := D, ro := ro }
theorem hf5 (R : Type) (l : T5) (s : S5) (K : Ex → St U → Option R) : codeA E (pick (loopsOf body) 5) ⟨p5.mkL (hd5 l s).1, q5.mkH (hd5 l s).2, 0⟩ (roundK E (pick (loopsOf body) 5) K) =
  (fl5 l s).runK (lpK K (fun s => ⟨p5.mkL (hd5 l s).1, q5.mkH (hd5 l s).2, 0⟩) sp1 (ou5 l)) := by kernel_rfl
theorem lk5 (R : Type) (st : St U) (K : Ex → St U → Option R) (r : R) (h : Λ5 R st K = some r) : ∃ n, loopA E (pick (loopsOf body) 5) n st K = some r :=
  lp_ok (U := U) (E := E) (b := pick (loopsOf body) 5) (m := 0) (sp := sp1) (p := p5) (q := q5) (X := (List Int)) (S := S5) (f := fl5) (hd := hd5) (s0 := fun (l : T5) => (l.1.2.2.2.2.1, l.2.2.1)) (ou := ou5)
    (fun l => rfl) (fun l x => by rfl) sp1_ok hf5 h
theorem hk (R : Type) (l : TA) (K : AV U → Hp U → Option R) : funcA E Try.f31 [(0, [.to 6], .own 3)] R (pA.mkL l.1) (pH.mkH l.2) K = (tl l).runK fun y => K (v l y) (hh l y) := by kernel_rfl
theorem okF : SoundF Try.prog cc 31 (funcA E Try.f31 [(0, [.to 6], .own 3)]) :=
  funcA_ok (E := E) P_mixed (E0_ok.with Γ Λ CT D ro) (gam_of all_nil all_nil) Try.func31 (c := body) (by kernel_rfl)
    (just_by (by kernel_rfl) (by kernel_rfl) (all_cons lk5 all_nil) all_nil) [(0, [.to 6], .own 3)]
theorem ok : SoundF Try.prog cc 31 A :=
  mkA_ok (E := E) (p := pA) (q := pH) (t := tl) (spS_ok sp1_ok) hk okF
theorem fo : FnOK Try.prog 31 := ⟨Try.f31, Try.func31, by kernel_rfl, by kernel_rfl⟩
theorem keep : KeepA A := mkA_keep (U := U) (spS_ok sp1_ok) (fun (l : TA) y => ⟨(hh l y).drop 0, by (cases y with | inl y => kernel_rfl | inr y => kernel_rfl)⟩)
end flash_New

/-! (*instar/flash.Flash).Size -/
namespace flash_Flash_Size
abbrev TA : Type := ((Unit × Unit) × ((Unit × (Int × (Unit × (Int × (Bool × (Int × (Unit × Unit))))))) × ((List Int) × ((List Int) × ((List Int) × Unit)))))
noncomputable def t (h0_1 h0_3 : Int) (h0_4 : Bool) (h0_5 : Int) (h1 : (List Int)) (h2 : (List Int)) (h3 : (List Int)) : Tw Int :=
 (.ret (((List.length h2) : Nat) : Int))
noncomputable def c (h0_1 h0_3 : Int) (h0_4 : Bool) (h0_5 : Int) (h1 : (List Int)) (h2 : (List Int)) (h3 : (List Int)) : Option Int := (t h0_1 h0_3 h0_4 h0_5 h1 h2 h3).run
noncomputable def tl (l : TA) : Tw Int := t l.2.1.2.1 l.2.1.2.2.2.1 l.2.1.2.2.2.2.1 l.2.1.2.2.2.2.2.1 l.2.2.1 l.2.2.2.1 l.2.2.2.2.1
noncomputable def cl (l : TA) : Option Int := c l.2.1.2.1 l.2.1.2.2.2.1 l.2.1.2.2.2.2.1 l.2.1.2.2.2.2.2.1 l.2.2.1 l.2.2.2.1 l.2.2.2.2.1
def pA : Pt := (.cs (.ptr 0 0) .nl)
def pH : Pt := (.cs (.var (.cs (.own 1) (jC (.cs (.own 2) (jC (.cs .bool (jC (.cs (.own 3) .nl)))))))) (.cs (.row 3 true) (.cs (.row 1 true) (.cs (.row 3 true) .nl))))
def v (l : TA) (y : Int) : AV U := .tup [jI y, jI l.2.1.2.1]
def hh (l : TA) (y : Int) : Hp U := [.var [.own 1, jI l.2.1.2.1, .own 2, jI l.2.1.2.2.2.1, jB l.2.1.2.2.2.2.1, jI l.2.1.2.2.2.2.2.1, .own 3], .row 3 l.2.2.1 true, .row 1 l.2.2.2.1 true, .row 3 l.2.2.2.2.1 true]
noncomputable def A : AFun U := mkA (U := U) pA pH (X := Int) cl sp1 v hh
noncomputable def body : Code := (Go.Func.body Try.f74).getD .skip
noncomputable def Γ : List (FuncId × AFun U) := []
noncomputable def Λ : List (Nat × LFun U) := []
noncomputable def CT : List (Nat × LFun U) := []
def ro : List FuncId := []
def D : Nat → Lv × Lv := dtab []
noncomputable def E : Env U := { E0 with Γ := Γ, Λ := Λ, C := CT, D := D, ro := ro }
theorem hk (R : Type) (l : TA) (K : AV U → Hp U → Option R) : funcA E Try.f74 [] R (pA.mkL l.1) (pH.mkH l.2) K = (tl l).runK fun y => K (v l y) (hh l y) := by kernel_rfl
theorem okF : SoundF Try.prog cc 74 (funcA E Try.f74 []) :=
  funcA_ok (E := E) P_mixed (E0_ok.with Γ Λ CT D ro) (gam_of all_nil all_nil) Try.func74 (c := body) (by kernel_rfl)
    (just_by (by kernel_rfl) (by kernel_rfl) all_nil all_nil) []
theorem ok : SoundF Try.prog cc 74 A :=
  mkA_ok (E := E) (p := pA) (q := pH) (t := tl) sp1_ok hk okF
theorem fo : FnOK Try.prog 74 := ⟨Try.f74, Try.func74, by kernel_rfl, by kernel_rfl⟩
theorem keep : KeepA A := mkA_keep (U := U) sp1_ok (fun (l : TA) y => ⟨(hh l y).drop 4, by kernel_rfl⟩)
end flash_Flash_Size

/-! (*instar/flash.Flash).Wear -/
namespace flash_Flash_Wear
abbrev TA : Type := ((Unit × (Int × Unit)) × ((Unit × (Int × (Unit × (Int × (Bool × (Int × (Unit × Unit))))))) × ((List Int) × ((List Int) × ((List Int) × Unit)))))
noncomputable def t (s_ h0_1 h0_3 : Int) (h0_4 : Bool) (h0_5 : Int) (h1 : (List Int)) (h2 : (List Int)) (h3 : (List Int)) : Tw Int :=
 (.opt (flash_Flash_Size.c h0_1 h0_3 h0_4 h0_5 h1 h2 h3) fun z1 =>
  (.bb (decide (s_ < (0 : Int)))
   (.ret (0 : Int))
   (.bb (decide (s_ ≥ z1))
    (.ret (0 : Int))
    (.dd ((((0 : Int) ≤ s_) ∧ (s_ < (((List.length h2) : Nat) : Int)))) inferInstance
     (.opt (h2)[(Int.toNat s_)]? fun z2 =>
      (.ret z2))
     .no))))
noncomputable def c (s_ h0_1 h0_3 : Int) (h0_4 : Bool) (h0_5 : Int) (h1 : (List Int)) (h2 : (List Int)) (h3 : (List Int)) : Option Int := (t s_ h0_1 h0_3 h0_4 h0_5 h1 h2 h3).run
noncomputable def tl (l : TA) : Tw Int := t l.1.2.1 l.2.1.2.1 l.2.1.2.2.2.1 l.2.1.2.2.2.2.1 l.2.1.2.2.2.2.2.1 l.2.2.1 l.2.2.2.1 l.2.2.2.2.1
noncomputable def cl (l : TA) : Option Int := c l.1.2.1 l.2.1.2.1 l.2.1.2.2.2.1 l.2.1.2.2.2.2.1 l.2.1.2.2.2.2.2.1 l.2.2.1 l.2.2.2.1 l.2.2.2.2.1
def pA : Pt := (.cs (.ptr 0 0) (jC .nl))
def pH : Pt := (.cs (.var (.cs (.own 1) (jC (.cs (.own 2) (jC (.cs .bool (jC (.cs (.own 3) .nl)))))))) (.cs (.row 3 true) (.cs (.row 1 true) (.cs (.row 3 true) .nl))))
def v (l : TA) (y : Int) : AV U := jI y
def hh (l : TA) (y : Int) : Hp U := [.var [.own 1, jI l.2.1.2.1, .own 2, jI l.2.1.2.2.2.1, jB l.2.1.2.2.2.2.1, jI l.2.1.2.2.2.2.2.1, .own 3], .row 3 l.2.2.1 true, .row 1 l.2.2.2.1 true, .row 3 l.2.2.2.2.1 true]
noncomputable def A : AFun U := mkA (U := U) pA pH (X := Int) cl sp1 v hh
noncomputable def body : Code := (Go.Func.body Try.f72).getD .skip
noncomputable def Γ : List (FuncId × AFun U) := [(74, flash_Flash_Size.A)]
noncomputable def Λ : List (Nat × LFun U) := []
noncomputable def CT : List (Nat × LFun U) := []
def ro : List FuncId := [74]
def D : Nat → Lv × Lv := dtab []
noncomputable def E : Env U := { E0 with Γ := Γ, Λ := Λ, C := CT, D := D, ro := ro }
theorem hk (R : Type) (l : TA) (K : AV U → Hp U → Option R) : funcA E Try.f72 [] R (pA.mkL l.1) (pH.mkH l.2) K = (tl l).runK fun y => K (v l y) (hh l y) := by kernel_rfl
theorem okF : SoundF Try.prog cc 72 (funcA E Try.f72 []) :=
  funcA_ok (E := E) P_mixed (E0_ok.with Γ Λ CT D ro) (gam_of (all_cons ⟨flash_Flash_Size.ok, flash_Flash_Size.fo⟩ all_nil) (all_cons (fun _ => flash_Flash_Size.keep) all_nil)) Try.func72 (c := body) (by kernel_rfl)
    (just_by (by kernel_rfl) (by kernel_rfl) all_nil all_nil) []
theorem ok : SoundF Try.prog cc 72 A :=
  mkA_ok (E := E) (p := pA) (q := pH) (t := tl) sp1_ok hk okF
theorem fo : FnOK Try.prog 72 := ⟨Try.f72, Try.func72, by kernel_rfl, by kernel_rfl⟩
theorem keep : KeepA A := mkA_keep (U := U) sp1_ok (fun (l : TA) y => ⟨(hh l y).drop 4, by kernel_rfl⟩)
end flash_Flash_Wear

/-! (*instar/flash.Flash).may -/
namespace flash_Flash_may
abbrev TA : Type := ((Unit × (Int × (Int × Unit))) × ((Unit × (Int × (Unit × (Int × (Bool × (Int × (Unit × Unit))))))) × ((List Int) × ((List Int) × ((List Int) × Unit)))))
noncomputable def t (i n h0_1 h0_3 : Int) (h0_4 : Bool) (h0_5 : Int) (h1 : (List Int)) (h2 : (List Int)) (h3 : (List Int)) : Tw Int :=
 (.bb h0_4
  (.ret (10 : Int))
  (.bb (decide (i < (0 : Int)))
   (.ret (3 : Int))
   (.bb (decide (i ≥ n))
    (.ret (3 : Int))
    (.ret (0 : Int)))))
noncomputable def c (i n h0_1 h0_3 : Int) (h0_4 : Bool) (h0_5 : Int) (h1 : (List Int)) (h2 : (List Int)) (h3 : (List Int)) : Option Int := (t i n h0_1 h0_3 h0_4 h0_5 h1 h2 h3).run
noncomputable def tl (l : TA) : Tw Int := t l.1.2.1 l.1.2.2.1 l.2.1.2.1 l.2.1.2.2.2.1 l.2.1.2.2.2.2.1 l.2.1.2.2.2.2.2.1 l.2.2.1 l.2.2.2.1 l.2.2.2.2.1
noncomputable def cl (l : TA) : Option Int := c l.1.2.1 l.1.2.2.1 l.2.1.2.1 l.2.1.2.2.2.1 l.2.1.2.2.2.2.1 l.2.1.2.2.2.2.2.1 l.2.2.1 l.2.2.2.1 l.2.2.2.2.1
def pA : Pt := (.cs (.ptr 0 0) (jC (jC .nl)))
def pH : Pt := (.cs (.var (.cs (.own 1) (jC (.cs (.own 2) (jC (.cs .bool (jC (.cs (.own 3) .nl)))))))) (.cs (.row 3 true) (.cs (.row 1 true) (.cs (.row 3 true) .nl))))
def v (l : TA) (y : Int) : AV U := jI y
def hh (l : TA) (y : Int) : Hp U := [.var [.own 1, jI l.2.1.2.1, .own 2, jI l.2.1.2.2.2.1, jB l.2.1.2.2.2.2.1, jI l.2.1.2.2.2.2.2.1, .own 3], .row 3 l.2.2.1 true, .row 1 l.2.2.2.1 true, .row 3 l.2.2.2.2.1 true]
noncomputable def A : AFun U := mkA (U := U) pA pH (X := Int) cl sp1 v hh
noncomputable def body : Code := (Go.Func.body Try.f75).getD .skip
noncomputable def Γ : List (FuncId × AFun U) := []
noncomputable def Λ : List (Nat × LFun U) := []
noncomputable def CT : List (Nat × LFun U) := []
def ro : List FuncId := []
def D : Nat → Lv × Lv := dtab []
noncomputable def E : Env U := { E0 with Γ := Γ, Λ := Λ, C := CT, D := D, ro := ro }
theorem hk (R : Type) (l : TA) (K : AV U → Hp U → Option R) : funcA E Try.f75 [] R (pA.mkL l.1) (pH.mkH l.2) K = (tl l).runK fun y => K (v l y) (hh l y) := by kernel_rfl
theorem okF : SoundF Try.prog cc 75 (funcA E Try.f75 []) :=
  funcA_ok (E := E) P_mixed (E0_ok.with Γ Λ CT D ro) (gam_of all_nil all_nil) Try.func75 (c := body) (by kernel_rfl)
    (just_by (by kernel_rfl) (by kernel_rfl) all_nil all_nil) []
theorem ok : SoundF Try.prog cc 75 A :=
  mkA_ok (E := E) (p := pA) (q := pH) (t := tl) sp1_ok hk okF
theorem fo : FnOK Try.prog 75 := ⟨Try.f75, Try.func75, by kernel_rfl, by kernel_rfl⟩
theorem keep : KeepA A := mkA_keep (U := U) sp1_ok (fun (l : TA) y => ⟨(hh l y).drop 4, by kernel_rfl⟩)
end flash_Flash_may

/-! (*instar/flash.fuse).blows -/
namespace flash_fuse_blows
abbrev TA : Type := ((Unit × Unit) × ((Unit × (Int × (Unit × (Int × (Bool × (Int × (Unit × Unit))))))) × ((List Int) × ((List Int) × ((List Int) × Unit)))))
abbrev XA : Type := (Bool × Int)
noncomputable def t (h0_1 h0_3 : Int) (h0_4 : Bool) (h0_5 : Int) (h1 : (List Int)) (h2 : (List Int)) (h3 : (List Int)) : Tw XA :=
 (.bb (decide (h0_5 < (0 : Int)))
  (.ret (false, h0_5))
  (.ret ((decide ((w64 (h0_5 - (1 : Int))) < (0 : Int))), (w64 (h0_5 - (1 : Int))))))
noncomputable def c (h0_1 h0_3 : Int) (h0_4 : Bool) (h0_5 : Int) (h1 : (List Int)) (h2 : (List Int)) (h3 : (List Int)) : Option XA := (t h0_1 h0_3 h0_4 h0_5 h1 h2 h3).run
noncomputable def tl (l : TA) : Tw XA := t l.2.1.2.1 l.2.1.2.2.2.1 l.2.1.2.2.2.2.1 l.2.1.2.2.2.2.2.1 l.2.2.1 l.2.2.2.1 l.2.2.2.2.1
noncomputable def cl (l : TA) : Option XA := c l.2.1.2.1 l.2.1.2.2.2.1 l.2.1.2.2.2.2.1 l.2.1.2.2.2.2.2.1 l.2.2.1 l.2.2.2.1 l.2.2.2.2.1
def pA : Pt := (.cs (.ptr 0 5) .nl)
def pH : Pt := (.cs (.var (.cs (.own 1) (jC (.cs (.own 2) (jC (.cs .bool (jC (.cs (.own 3) .nl)))))))) (.cs (.row 3 true) (.cs (.row 1 true) (.cs (.row 3 true) .nl))))
def v (l : TA) (y : XA) : AV U := jB y.1
def hh (l : TA) (y : XA) : Hp U := [.var [.own 1, jI l.2.1.2.1, .own 2, jI l.2.1.2.2.2.1, jB l.2.1.2.2.2.2.1, jI y.2, .own 3], .row 3 l.2.2.1 true, .row 1 l.2.2.2.1 true, .row 3 l.2.2.2.2.1 true]
noncomputable def A : AFun U := mkA (U := U) pA pH (X := XA) cl sp1 v hh
noncomputable def body : Code := (Go.Func.body Try.f105).getD .skip
noncomputable def Γ : List (FuncId × AFun U) := []
noncomputable def Λ : List (Nat × LFun U) := []
noncomputable def CT : List (Nat × LFun U) := []
def ro : List FuncId := []
def D : Nat → Lv × Lv := dtab []
noncomputable def E : Env U := { E0 with Γ := Γ, Λ := Λ, C := CT, D := D, ro := ro }
theorem hk (R : Type) (l : TA) (K : AV U → Hp U → Option R) : funcA E Try.f105 [] R (pA.mkL l.1) (pH.mkH l.2) K = (tl l).runK fun y => K (v l y) (hh l y) := by kernel_rfl
theorem okF : SoundF Try.prog cc 105 (funcA E Try.f105 []) :=
  funcA_ok (E := E) P_mixed (E0_ok.with Γ Λ CT D ro) (gam_of all_nil all_nil) Try.func105 (c := body) (by kernel_rfl)
    (just_by (by kernel_rfl) (by kernel_rfl) all_nil all_nil) []
theorem ok : SoundF Try.prog cc 105 A :=
  mkA_ok (E := E) (p := pA) (q := pH) (t := tl) sp1_ok hk okF
theorem fo : FnOK Try.prog 105 := ⟨Try.f105, Try.func105, by kernel_rfl, by kernel_rfl⟩
end flash_fuse_blows

/-! (*instar/flash.Flash).write -/
namespace flash_Flash_write
abbrev TA : Type := ((Unit × Unit) × ((Unit × (Int × (Unit × (Int × (Bool × (Int × (Unit × Unit))))))) × ((List Int) × ((List Int) × ((List Int) × Unit)))))
abbrev XA : Type := (Bool × (Int × (Bool × Int)))
noncomputable def t (h0_1 h0_3 : Int) (h0_4 : Bool) (h0_5 : Int) (h1 : (List Int)) (h2 : (List Int)) (h3 : (List Int)) : Tw XA :=
 (.opt (flash_fuse_blows.c h0_1 (w64 (h0_3 + (1 : Int))) h0_4 h0_5 h1 h2 h3) fun z1 =>
  (.ret (z1.1, ((w64 (h0_3 + (1 : Int))), (z1.1, z1.2)))))
noncomputable def c (h0_1 h0_3 : Int) (h0_4 : Bool) (h0_5 : Int) (h1 : (List Int)) (h2 : (List Int)) (h3 : (List Int)) : Option XA := (t h0_1 h0_3 h0_4 h0_5 h1 h2 h3).run
noncomputable def tl (l : TA) : Tw XA := t l.2.1.2.1 l.2.1.2.2.2.1 l.2.1.2.2.2.2.1 l.2.1.2.2.2.2.2.1 l.2.2.1 l.2.2.2.1 l.2.2.2.2.1
noncomputable def cl (l : TA) : Option XA := c l.2.1.2.1 l.2.1.2.2.2.1 l.2.1.2.2.2.2.1 l.2.1.2.2.2.2.2.1 l.2.2.1 l.2.2.2.1 l.2.2.2.2.1
def pA : Pt := (.cs (.ptr 0 0) .nl)
def pH : Pt := (.cs (.var (.cs (.own 1) (jC (.cs (.own 2) (jC (.cs .bool (jC (.cs (.own 3) .nl)))))))) (.cs (.row 3 true) (.cs (.row 1 true) (.cs (.row 3 true) .nl))))
def v (l : TA) (y : XA) : AV U := jB y.1
def hh (l : TA) (y : XA) : Hp U := [.var [.own 1, jI l.2.1.2.1, .own 2, jI y.2.1, jB y.2.2.1, jI y.2.2.2, .own 3], .row 3 l.2.2.1 true, .row 1 l.2.2.2.1 true, .row 3 l.2.2.2.2.1 true]
noncomputable def A : AFun U := mkA (U := U) pA pH (X := XA) cl sp1 v hh
noncomputable def body : Code := (Go.Func.body Try.f76).getD .skip
noncomputable def Γ : List (FuncId × AFun U) := [(105, flash_fuse_blows.A)]
noncomputable def Λ : List (Nat × LFun U) := []
noncomputable def CT : List (Nat × LFun U) := []
def ro : List FuncId := []
def D : Nat → Lv × Lv := dtab []
noncomputable def E : Env U := { E0 with Γ := Γ, Λ := Λ, C := CT, D := D, ro := ro }
theorem hk (R : Type) (l : TA) (K : AV U → Hp U → Option R) : funcA E Try.f76 [] R (pA.mkL l.1) (pH.mkH l.2) K = (tl l).runK fun y => K (v l y) (hh l y) := by kernel_rfl
theorem okF : SoundF Try.prog cc 76 (funcA E Try.f76 []) :=
  funcA_ok (E := E) P_mixed (E0_ok.with Γ Λ CT D ro) (gam_of (all_cons ⟨flash_fuse_blows.ok, flash_fuse_blows.fo⟩ all_nil) no_ro) Try.func76 (c := body) (by kernel_rfl)
    (just_by (by kernel_rfl) (by kernel_rfl) all_nil all_nil) []
theorem ok : SoundF Try.prog cc 76 A :=
  mkA_ok (E := E) (p := pA) (q := pH) (t := tl) sp1_ok hk okF
theorem fo : FnOK Try.prog 76 := ⟨Try.f76, Try.func76, by kernel_rfl, by kernel_rfl⟩
end flash_Flash_write

/-! (*instar/flash.fuse).mask -/
namespace flash_fuse_mask
abbrev TA : Type := ((Unit × (Int × Unit)) × ((Unit × (Int × (Unit × (Int × (Bool × (Int × (Unit × Unit))))))) × ((List Int) × ((List Int) × ((List Int) × Unit)))))
noncomputable def t (i h0_1 h0_3 : Int) (h0_4 : Bool) (h0_5 : Int) (h1 : (List Int)) (h2 : (List Int)) (h3 : (List Int)) : Tw Int :=
 (.bb ((((List.length h3) : Nat) : Int) == (0 : Int))
  (.ret (0 : Int))
  (.dd (((((List.length h3) : Nat) : Int) = (0 : Int))) inferInstance
   .no
   (.dd ((((0 : Int) ≤ (Int.tmod i (((List.length h3) : Nat) : Int))) ∧ ((Int.tmod i (((List.length h3) : Nat) : Int)) < (((List.length h3) : Nat) : Int)))) inferInstance
    (.opt (h3)[(Int.toNat (Int.tmod i (((List.length h3) : Nat) : Int)))]? fun z1 =>
     (.ret z1))
    .no)))
noncomputable def c (i h0_1 h0_3 : Int) (h0_4 : Bool) (h0_5 : Int) (h1 : (List Int)) (h2 : (List Int)) (h3 : (List Int)) : Option Int := (t i h0_1 h0_3 h0_4 h0_5 h1 h2 h3).run
noncomputable def tl (l : TA) : Tw Int := t l.1.2.1 l.2.1.2.1 l.2.1.2.2.2.1 l.2.1.2.2.2.2.1 l.2.1.2.2.2.2.2.1 l.2.2.1 l.2.2.2.1 l.2.2.2.2.1
noncomputable def cl (l : TA) : Option Int := c l.1.2.1 l.2.1.2.1 l.2.1.2.2.2.1 l.2.1.2.2.2.2.1 l.2.1.2.2.2.2.2.1 l.2.2.1 l.2.2.2.1 l.2.2.2.2.1
def pA : Pt := (.cs (.ptr 0 5) (jC .nl))
def pH : Pt := (.cs (.var (.cs (.own 1) (jC (.cs (.own 2) (jC (.cs .bool (jC (.cs (.own 3) .nl)))))))) (.cs (.row 3 true) (.cs (.row 1 true) (.cs (.row 3 true) .nl))))
def v (l : TA) (y : Int) : AV U := .im (.int .u32 y)
def hh (l : TA) (y : Int) : Hp U := [.var [.own 1, jI l.2.1.2.1, .own 2, jI l.2.1.2.2.2.1, jB l.2.1.2.2.2.2.1, jI l.2.1.2.2.2.2.2.1, .own 3], .row 3 l.2.2.1 true, .row 1 l.2.2.2.1 true, .row 3 l.2.2.2.2.1 true]
noncomputable def A : AFun U := mkA (U := U) pA pH (X := Int) cl sp1 v hh
noncomputable def body : Code := (Go.Func.body Try.f77).getD .skip
noncomputable def Γ : List (FuncId × AFun U) := []
noncomputable def Λ : List (Nat × LFun U) := []
noncomputable def CT : List (Nat × LFun U) := []
def ro : List FuncId := []
def D : Nat → Lv × Lv := dtab []
noncomputable def E : Env U := { E0 with Γ := Γ, Λ := Λ, C := CT, D := D, ro := ro }
theorem hk (R : Type) (l : TA) (K : AV U → Hp U → Option R) : funcA E Try.f77 [] R (pA.mkL l.1) (pH.mkH l.2) K = (tl l).runK fun y => K (v l y) (hh l y) := by kernel_rfl
theorem okF : SoundF Try.prog cc 77 (funcA E Try.f77 []) :=
  funcA_ok (E := E) P_mixed (E0_ok.with Γ Λ CT D ro) (gam_of all_nil all_nil) Try.func77 (c := body) (by kernel_rfl)
    (just_by (by kernel_rfl) (by kernel_rfl) all_nil all_nil) []
theorem ok : SoundF Try.prog cc 77 A :=
  mkA_ok (E := E) (p := pA) (q := pH) (t := tl) sp1_ok hk okF
theorem fo : FnOK Try.prog 77 := ⟨Try.f77, Try.func77, by kernel_rfl, by kernel_rfl⟩
theorem keep : KeepA A := mkA_keep (U := U) sp1_ok (fun (l : TA) y => ⟨(hh l y).drop 4, by kernel_rfl⟩)
end flash_fuse_mask

/-! (*instar/flash.Flash).Erase -/
namespace flash_Flash_Erase
abbrev TA : Type := ((Unit × (Int × Unit)) × ((Unit × (Int × (Unit × (Int × (Bool × (Int × (Unit × Unit))))))) × ((List Int) × ((List Int) × ((List Int) × Unit)))))
abbrev XA : Type := (Int × (Int × (Bool × (Int × ((List Int) × (List Int))))))
abbrev T8 : Type := ((Unit × (Unit × (Bool × (Int × ((Nat × Nat) × (Unit × Unit)))))) × ((Unit × (Int × (Unit × (Int × (Bool × (Int × (Unit × Unit))))))) × ((List Int) × ((List Int) × ((List Int) × Unit)))))
abbrev S8 : Type := (Int × (List Int))
noncomputable def l8 (torn : Bool) (sector_o : Nat) (sector_n : Nat) (h0_1 h0_3 : Int) (h0_4 : Bool) (h0_5 : Int) (h2 : (List Int)) (h3 : (List Int)) (i : Int) (h1 : (List Int)) : Tw (S8 ⊕ (List Int)) :=
 (.bb (decide (i < h0_1))
  (.bb torn
   (.opt (flash_fuse_mask.c i h0_1 h0_3 h0_4 h0_5 h1 h2 h3) fun z9 =>
    (.dd ((((0 : Int) ≤ i) ∧ (i < ((sector_n : Nat) : Int)))) inferInstance
     (.opt (h1)[(sector_o + (Int.toNat i))]? fun z10 =>
      (.opt (word_Raised.c z10 z9) fun z11 =>
       (.dd ((((0 : Int) ≤ i) ∧ (i < ((sector_n : Nat) : Int)))) inferInstance
        (.opt (h1)[(sector_o + (Int.toNat i))]? fun z12 =>
         (.ret (.inl ((w64 (i + (1 : Int))), (List.set h1 (sector_o + (Int.toNat i)) z11)))))
        .no)))
     .no))
   (.dd ((((0 : Int) ≤ i) ∧ (i < ((sector_n : Nat) : Int)))) inferInstance
    (.opt (h1)[(sector_o + (Int.toNat i))]? fun z6 =>
     (.opt (word_Raised.c z6 (4294967295 : Int)) fun z7 =>
      (.dd ((((0 : Int) ≤ i) ∧ (i < ((sector_n : Nat) : Int)))) inferInstance
       (.opt (h1)[(sector_o + (Int.toNat i))]? fun z8 =>
        (.ret (.inl ((w64 (i + (1 : Int))), (List.set h1 (sector_o + (Int.toNat i)) z7)))))
       .no)))
    .no))
  (.ret (.inr h1)))
noncomputable def L8 (torn : Bool) (i : Int) (sector_o : Nat) (sector_n : Nat) (h0_1 h0_3 : Int) (h0_4 : Bool) (h0_5 : Int) (h1 : (List Int)) (h2 : (List Int)) (h3 : (List Int)) : Option (List Int) := Lp (fun s => (l8 torn sector_o sector_n h0_1 h0_3 h0_4 h0_5 h2 h3 s.1 s.2).run) (i, h1)
def p8 : Pt := (.cs (.ptr 0 0) (.cs (.bots 7) (.cs .bool (jC (.cs (.sub 1 1) (.cs (.bots 64) .nl))))))
def q8 : Pt := (.cs (.var (.cs (.own 1) (jC (.cs (.own 2) (jC (.cs .bool (jC (.cs (.own 3) .nl)))))))) (.cs (.row 3 true) (.cs (.row 1 true) (.cs (.row 3 true) .nl))))
def ou8 (l : T8) (y : (List Int)) : Ex × St U := (.exit 0, stOf 75 [(0, .ptr 0 0), (8, jB l.1.2.2.1)] [.var [.own 1, jI l.2.1.2.1, .own 2, jI l.2.1.2.2.2.1, jB l.2.1.2.2.2.2.1, jI l.2.1.2.2.2.2.2.1, .own 3], .row 3 y true, .row 1 l.2.2.2.1 true, .row 3 l.2.2.2.2.1 true] 4)
noncomputable def Λ8 : LFun U := mkLp (U := U) p8 q8 4 (X := (List Int)) (fun (l : T8) => L8 l.1.2.2.1 l.1.2.2.2.1 l.1.2.2.2.2.1.1 l.1.2.2.2.2.1.2 l.2.1.2.1 l.2.1.2.2.2.1 l.2.1.2.2.2.2.1 l.2.1.2.2.2.2.2.1 l.2.2.1 l.2.2.2.1 l.2.2.2.2.1) sp1 ou8
def hd8 (l : T8) (s : S8) : T8 := (((), ((), (l.1.2.2.1, (s.1, ((l.1.2.2.2.2.1.1, l.1.2.2.2.2.1.2), ((), ())))))), (((), (l.2.1.2.1, ((), (l.2.1.2.2.2.1, (l.2.1.2.2.2.2.1, (l.2.1.2.2.2.2.2.1, ((), ()))))))), (s.2, (l.2.2.2.1, (l.2.2.2.2.1, ())))))
noncomputable def fl8 (l : T8) (s : S8) : Tw (S8 ⊕ (List Int)) := l8 l.1.2.2.1 l.1.2.2.2.2.1.1 l.1.2.2.2.2.1.2 l.2.1.2.1 l.2.1.2.2.2.1 l.2.1.2.2.2.2.1 l.2.1.2.2.2.2.2.1 l.2.2.2.1 l.2.2.2.2.1 s.1 s.2
noncomputable def t (s_ h0_1 h0_3 : Int) (h0_4 : Bool) (h0_5 : Int) (h1 : (List Int)) (h2 : (List Int)) (h3 : (List Int)) : Tw XA :=
 (.opt (flash_Flash_Size.c h0_1 h0_3 h0_4 h0_5 h1 h2 h3) fun z1 =>
  (.opt (flash_Flash_may.c s_ z1 h0_1 h0_3 h0_4 h0_5 h1 h2 h3) fun z2 =>
   (.bb (z2 != (0 : Int))
    (.ret (z2, (h0_3, (h0_4, (h0_5, (h1, h2))))))
    (.dd ((((0 : Int) ≤ s_) ∧ (s_ < (((List.length h2) : Nat) : Int)))) inferInstance
     (.opt (h2)[(Int.toNat s_)]? fun z3 =>
      (.dd ((((0 : Int) ≤ s_) ∧ (s_ < (((List.length h2) : Nat) : Int)))) inferInstance
       (.opt (h2)[(Int.toNat s_)]? fun z4 =>
        (.opt (flash_Flash_write.c h0_1 h0_3 h0_4 h0_5 h1 (List.set h2 (Int.toNat s_) (w64 (z3 + (1 : Int)))) h3) fun z5 =>
         (.dd ((((0 : Int) ≤ (w64 (s_ * h0_1))) ∧ ((w64 (s_ * h0_1)) ≤ (((List.length h1) : Nat) : Int)))) inferInstance
          (.dd ((((0 : Int) ≤ h0_1) ∧ (h0_1 ≤ ((((List.length h1) - (Int.toNat (w64 (s_ * h0_1)))) : Nat) : Int)))) inferInstance
           (.opt (L8 z5.1 (0 : Int) ((Int.toNat (w64 (s_ * h0_1))) + (0 : Nat)) ((Int.toNat h0_1) - (0 : Nat)) h0_1 z5.2.1 z5.2.2.1 z5.2.2.2 h1 (List.set h2 (Int.toNat s_) (w64 (z3 + (1 : Int)))) h3) fun z13 =>
            (.bb z5.1
             (.ret ((10 : Int), (z5.2.1, (z5.2.2.1, (z5.2.2.2, (z13, (List.set h2 (Int.toNat s_) (w64 (z3 + (1 : Int))))))))))
             (.ret ((0 : Int), (z5.2.1, (z5.2.2.1, (z5.2.2.2, (z13, (List.set h2 (Int.toNat s_) (w64 (z3 + (1 : Int))))))))))))
           .no)
          .no)))
       .no))
     .no))))
noncomputable def c (s_ h0_1 h0_3 : Int) (h0_4 : Bool) (h0_5 : Int) (h1 : (List Int)) (h2 : (List Int)) (h3 : (List Int)) : Option XA := (t s_ h0_1 h0_3 h0_4 h0_5 h1 h2 h3).run
noncomputable def tl (l : TA) : Tw XA := t l.1.2.1 l.2.1.2.1 l.2.1.2.2.2.1 l.2.1.2.2.2.2.1 l.2.1.2.2.2.2.2.1 l.2.2.1 l.2.2.2.1 l.2.2.2.2.1
noncomputable def cl (l : TA) : Option XA := c l.1.2.1 l.2.1.2.1 l.2.1.2.2.2.1 l.2.1.2.2.2.2.1 l.2.1.2.2.2.2.2.1 l.2.2.1 l.2.2.2.1 l.2.2.2.2.1
def pA : Pt := (.cs (.ptr 0 0) (jC .nl))
def pH : Pt := (.cs (.var (.cs (.own 1) (jC (.cs (.own 2) (jC (.cs .bool (jC (.cs (.own 3) .nl)))))))) (.cs (.row 3 true) (.cs (.row 1 true) (.cs (.row 3 true) .nl))))
def v (l : TA) (y : XA) : AV U := jI y.1
def hh (l : TA) (y : XA) : Hp U := [.var [.own 1, jI l.2.1.2.1, .own 2, jI y.2.1, jB y.2.2.1, jI y.2.2.2.1, .own 3], .row 3 y.2.2.2.2.1 true, .row 1 y.2.2.2.2.2 true, .row 3 l.2.2.2.2.1 true]
noncomputable def A : AFun U := mkA (U := U) pA pH (X := XA) cl sp1 v hh
noncomputable def body : Code := (Go.Func.body Try.f36).getD .skip
noncomputable def Γ : List (FuncId × AFun U) := [(74, flash_Flash_Size.A), (75, flash_Flash_may.A), (76, flash_Flash_write.A), (78, word_Raised.A), (77, flash_fuse_mask.A)]
noncomputable def Λ : List (Nat × LFun U) := [(8, Λ8)]
noncomputable def CT : List (Nat × LFun U) := []
def ro : List FuncId := [74, 75, 77]
def D : Nat → Lv × Lv := dtab [(8, ⟨[9, 10, 0, 8], []⟩, ⟨[4, 0, 8], []⟩)]
noncomputable def E : Env U := { E0 with Γ := Γ, Λ := Λ, C := CT, D := D, ro := ro }
theorem hf8 (R : Type) (l : T8) (s : S8) (K : Ex → St U → Option R) : codeA E (pick (loopsOf body) 8) ⟨p8.mkL (hd8 l s).1, q8.mkH (hd8 l s).2, 4⟩ (roundK E (pick (loopsOf body) 8) K) =
  (fl8 l s).runK (lpK K (fun s => ⟨p8.mkL (hd8 l s).1, q8.mkH (hd8 l s).2, 4⟩) sp1 (ou8 l)) := by kernel_rfl
theorem lk8 (R : Type) (st : St U) (K : Ex → St U → Option R) (r : R) (h : Λ8 R st K = some r) : ∃ n, loopA E (pick (loopsOf body) 8) n st K = some r :=
  lp_ok (U := U) (E := E) (b := pick (loopsOf body) 8) (m := 4) (sp := sp1) (p := p8) (q := q8) (X := (List Int)) (S := S8) (f := fl8) (hd := hd8) (s0 := fun (l : T8) => (l.1.2.2.2.1, l.2.2.1)) (ou := ou8)
    (fun l => rfl) (fun l x => by rfl) sp1_ok hf8 h
theorem hk (R : Type) (l : TA) (K : AV U → Hp U → Option R) : funcA E Try.f36 [] R (pA.mkL l.1) (pH.mkH l.2) K = (tl l).runK fun y => K (v l y) (hh l y) := by kernel_rfl
theorem okF : SoundF Try.prog cc 36 (funcA E Try.f36 []) :=
  funcA_ok (E := E) P_mixed (E0_ok.with Γ Λ CT D ro) (gam_of (all_cons ⟨flash_Flash_Size.ok, flash_Flash_Size.fo⟩ (all_cons ⟨flash_Flash_may.ok, flash_Flash_may.fo⟩ (all_cons ⟨flash_Flash_write.ok, flash_Flash_write.fo⟩ (all_cons ⟨word_Raised.ok, word_Raised.fo⟩ (all_cons ⟨flash_fuse_mask.ok, flash_fuse_mask.fo⟩ all_nil))))) (all_cons (fun _ => flash_Flash_Size.keep) (all_cons (fun _ => flash_Flash_may.keep) (all_cons (no_keep (by kernel_rfl)) (all_cons (no_keep (by kernel_rfl)) (all_cons (fun _ => flash_fuse_mask.keep) all_nil)))))) Try.func36 (c := body) (by kernel_rfl)
    (just_by (by kernel_rfl) (by kernel_rfl) (all_cons lk8 all_nil) all_nil) []
theorem ok : SoundF Try.prog cc 36 A :=
  mkA_ok (E := E) (p := pA) (q := pH) (t := tl) sp1_ok hk okF
theorem fo : FnOK Try.prog 36 := ⟨Try.f36, Try.func36, by kernel_rfl, by kernel_rfl⟩
end flash_Flash_Erase

/-! (*instar/flash.Flash).Size -/
namespace flash_Flash_Size_nil0
abbrev TA : Type := ((Unit × Unit) × Unit)
abbrev XA : Type := (Int × Int)
noncomputable def t : Tw XA :=
 (.ret ((0 : Int), (0 : Int)))
noncomputable def c : Option XA := (t).run
noncomputable def tl (l : TA) : Tw XA := t
noncomputable def cl (l : TA) : Option XA := c
def pA : Pt := (.cs .nilp .nl)
def pH : Pt := .nl
def v (l : TA) (y : XA) : AV U := .tup [jI y.1, jI y.2]
def hh (l : TA) (y : XA) : Hp U := []
noncomputable def A : AFun U := mkA (U := U) pA pH (X := XA) cl sp1 v hh
noncomputable def body : Code := (Go.Func.body Try.f74).getD .skip
noncomputable def Γ : List (FuncId × AFun U) := []
noncomputable def Λ : List (Nat × LFun U) := []
noncomputable def CT : List (Nat × LFun U) := []
def ro : List FuncId := []
def D : Nat → Lv × Lv := dtab []
noncomputable def E : Env U := { E0 with Γ := Γ, Λ := Λ, C := CT, D := D, ro := ro }
theorem hk (R : Type) (l : TA) (K : AV U → Hp U → Option R) : funcA E Try.f74 [] R (pA.mkL l.1) (pH.mkH l.2) K = (tl l).runK fun y => K (v l y) (hh l y) := by kernel_rfl
theorem okF : SoundF Try.prog cc 74 (funcA E Try.f74 []) :=
  funcA_ok (E := E) P_mixed (E0_ok.with Γ Λ CT D ro) (gam_of all_nil all_nil) Try.func74 (c := body) (by kernel_rfl)
    (just_by (by kernel_rfl) (by kernel_rfl) all_nil all_nil) []
theorem ok : SoundF Try.prog cc 74 A :=
  mkA_ok (E := E) (p := pA) (q := pH) (t := tl) sp1_ok hk okF
theorem fo : FnOK Try.prog 74 := ⟨Try.f74, Try.func74, by kernel_rfl, by kernel_rfl⟩
theorem keep : KeepA A := mkA_keep (U := U) sp1_ok (fun (l : TA) y => ⟨(hh l y).drop 0, by kernel_rfl⟩)
end flash_Flash_Size_nil0

/-! (*instar/flash.Flash).may -/
namespace flash_Flash_may_nil0
abbrev TA : Type := ((Unit × (Int × (Int × Unit))) × Unit)
noncomputable def t (i n : Int) : Tw Int :=
 (.ret (1 : Int))
noncomputable def c (i n : Int) : Option Int := (t i n).run
noncomputable def tl (l : TA) : Tw Int := t l.1.2.1 l.1.2.2.1
noncomputable def cl (l : TA) : Option Int := c l.1.2.1 l.1.2.2.1
def pA : Pt := (.cs .nilp (jC (jC .nl)))
def pH : Pt := .nl
def v (l : TA) (y : Int) : AV U := jI y
def hh (l : TA) (y : Int) : Hp U := []
noncomputable def A : AFun U := mkA (U := U) pA pH (X := Int) cl sp1 v hh
noncomputable def body : Code := (Go.Func.body Try.f75).getD .skip
noncomputable def Γ : List (FuncId × AFun U) := []
noncomputable def Λ : List (Nat × LFun U) := []
noncomputable def CT : List (Nat × LFun U) := []
def ro : List FuncId := []
def D : Nat → Lv × Lv := dtab []
noncomputable def E : Env U := { E0 with Γ := Γ, Λ := Λ, C := CT, D := D, ro := ro }
theorem hk (R : Type) (l : TA) (K : AV U → Hp U → Option R) : funcA E Try.f75 [] R (pA.mkL l.1) (pH.mkH l.2) K = (tl l).runK fun y => K (v l y) (hh l y) := by kernel_rfl
theorem okF : SoundF Try.prog cc 75 (funcA E Try.f75 []) :=
  funcA_ok (E := E) P_mixed (E0_ok.with Γ Λ CT D ro) (gam_of all_nil all_nil) Try.func75 (c := body) (by kernel_rfl)
    (just_by (by kernel_rfl) (by kernel_rfl) all_nil all_nil) []
theorem ok : SoundF Try.prog cc 75 A :=
  mkA_ok (E := E) (p := pA) (q := pH) (t := tl) sp1_ok hk okF
theorem fo : FnOK Try.prog 75 := ⟨Try.f75, Try.func75, by kernel_rfl, by kernel_rfl⟩
theorem keep : KeepA A := mkA_keep (U := U) sp1_ok (fun (l : TA) y => ⟨(hh l y).drop 0, by kernel_rfl⟩)
end flash_Flash_may_nil0

/-! (*instar/flash.Flash).Erase -/
namespace flash_Flash_Erase_nil0
abbrev TA : Type := ((Unit × (Int × Unit)) × Unit)
noncomputable def t (s_ : Int) : Tw Int :=
 (.opt (flash_Flash_Size_nil0.c) fun z1 =>
  (.opt (flash_Flash_may_nil0.c s_ z1.1) fun z2 =>
   (.bb (z2 != (0 : Int))
    (.ret z2)
    .no)))
noncomputable def c (s_ : Int) : Option Int := (t s_).run
noncomputable def tl (l : TA) : Tw Int := t l.1.2.1
noncomputable def cl (l : TA) : Option Int := c l.1.2.1
def pA : Pt := (.cs .nilp (jC .nl))
def pH : Pt := .nl
def v (l : TA) (y : Int) : AV U := jI y
def hh (l : TA) (y : Int) : Hp U := []
noncomputable def A : AFun U := mkA (U := U) pA pH (X := Int) cl sp1 v hh
noncomputable def body : Code := (Go.Func.body Try.f36).getD .skip
noncomputable def Γ : List (FuncId × AFun U) := [(74, flash_Flash_Size_nil0.A), (75, flash_Flash_may_nil0.A)]
noncomputable def Λ : List (Nat × LFun U) := []
noncomputable def CT : List (Nat × LFun U) := []
def ro : List FuncId := []
def D : Nat → Lv × Lv := dtab []
noncomputable def E : Env U := { E0 with Γ := Γ, Λ := Λ, C := CT, D := D, ro := ro }
theorem hk (R : Type) (l : TA) (K : AV U → Hp U → Option R) : funcA E Try.f36 [] R (pA.mkL l.1) (pH.mkH l.2) K = (tl l).runK fun y => K (v l y) (hh l y) := by kernel_rfl
theorem okF : SoundF Try.prog cc 36 (funcA E Try.f36 []) :=
  funcA_ok (E := E) P_mixed (E0_ok.with Γ Λ CT D ro) (gam_of (all_cons ⟨flash_Flash_Size_nil0.ok, flash_Flash_Size_nil0.fo⟩ (all_cons ⟨flash_Flash_may_nil0.ok, flash_Flash_may_nil0.fo⟩ all_nil)) no_ro) Try.func36 (c := body) (by kernel_rfl)
    (just_by (by kernel_rfl) (by kernel_rfl) all_nil all_nil) []
theorem ok : SoundF Try.prog cc 36 A :=
  mkA_ok (E := E) (p := pA) (q := pH) (t := tl) sp1_ok hk okF
theorem fo : FnOK Try.prog 36 := ⟨Try.f36, Try.func36, by kernel_rfl, by kernel_rfl⟩
theorem keep : KeepA A := mkA_keep (U := U) sp1_ok (fun (l : TA) y => ⟨(hh l y).drop 0, by kernel_rfl⟩)
end flash_Flash_Erase_nil0

/-! (*instar/flash.Flash).Wear -/
namespace flash_Flash_Wear_nil0
abbrev TA : Type := ((Unit × (Int × Unit)) × Unit)
noncomputable def t (s_ : Int) : Tw Int :=
 (.opt (flash_Flash_Size_nil0.c) fun z1 =>
  (.bb (decide (s_ < (0 : Int)))
   (.ret (0 : Int))
   (.bb (decide (s_ ≥ z1.1))
    (.ret (0 : Int))
    .no)))
noncomputable def c (s_ : Int) : Option Int := (t s_).run
noncomputable def tl (l : TA) : Tw Int := t l.1.2.1
noncomputable def cl (l : TA) : Option Int := c l.1.2.1
def pA : Pt := (.cs .nilp (jC .nl))
def pH : Pt := .nl
def v (l : TA) (y : Int) : AV U := jI y
def hh (l : TA) (y : Int) : Hp U := []
noncomputable def A : AFun U := mkA (U := U) pA pH (X := Int) cl sp1 v hh
noncomputable def body : Code := (Go.Func.body Try.f72).getD .skip
noncomputable def Γ : List (FuncId × AFun U) := [(74, flash_Flash_Size_nil0.A)]
noncomputable def Λ : List (Nat × LFun U) := []
noncomputable def CT : List (Nat × LFun U) := []
def ro : List FuncId := []
def D : Nat → Lv × Lv := dtab []
noncomputable def E : Env U := { E0 with Γ := Γ, Λ := Λ, C := CT, D := D, ro := ro }
theorem hk (R : Type) (l : TA) (K : AV U → Hp U → Option R) : funcA E Try.f72 [] R (pA.mkL l.1) (pH.mkH l.2) K = (tl l).runK fun y => K (v l y) (hh l y) := by kernel_rfl
theorem okF : SoundF Try.prog cc 72 (funcA E Try.f72 []) :=
  funcA_ok (E := E) P_mixed (E0_ok.with Γ Λ CT D ro) (gam_of (all_cons ⟨flash_Flash_Size_nil0.ok, flash_Flash_Size_nil0.fo⟩ all_nil) no_ro) Try.func72 (c := body) (by kernel_rfl)
    (just_by (by kernel_rfl) (by kernel_rfl) all_nil all_nil) []
theorem ok : SoundF Try.prog cc 72 A :=
  mkA_ok (E := E) (p := pA) (q := pH) (t := tl) sp1_ok hk okF
theorem fo : FnOK Try.prog 72 := ⟨Try.f72, Try.func72, by kernel_rfl, by kernel_rfl⟩
theorem keep : KeepA A := mkA_keep (U := U) sp1_ok (fun (l : TA) y => ⟨(hh l y).drop 0, by kernel_rfl⟩)
end flash_Flash_Wear_nil0

end Go.Proofs.Ytmlbioapefgioaa.Va
