/- The functions of package ref43, as plain functions, and that the program computes them. Printed by a program of this work out of the evaluator. -/
import Derived.Test.YtmlbioapefgioaaEn
import Derived.Tactics
import Derived.Test.YtmlbioapefgioaaFref08
namespace Go.Proofs.Ytmlbioapefgioaa.Va
open Go
set_option linter.unusedVariables false
set_option maxRecDepth 100000

/-! instar/instarref43.Worst -/
namespace ref43_Worst
abbrev TA : Type := (((List Int) × Unit) × Unit)
abbrev XA : Type := (Int × Int)
abbrev T3 : Type := (((List Int) × (Unit × (Int × (Int × (Unit × Unit))))) × Unit)
abbrev S3 : Type := (Int × Int)
noncomputable def l3 (worn : (List Int)) (at_ i : Int) : Tw (S3 ⊕ Int) :=
 (.bb (decide (i < (((List.length worn) : Nat) : Int)))
  (.dd (((0 : Int) ≤ i)) inferInstance
   (.opt (worn)[(Int.toNat i)]? fun z1 =>
    (.dd (((0 : Int) ≤ at_)) inferInstance
     (.opt (worn)[(Int.toNat at_)]? fun z2 =>
      (.bb (decide (z1 > z2))
       (.ret (.inl (i, (w64 (i + (1 : Int))))))
       (.ret (.inl (at_, (w64 (i + (1 : Int))))))))
     .no))
   .no)
  (.ret (.inr at_)))
noncomputable def L3 (worn : (List Int)) (at_ i : Int) : Option Int := Lp (fun s => (l3 worn s.1 s.2).run) (at_, i)
def p3 : Pt := (.cs (.sl 1) (.cs (.bots 3) (jC (jC (.cs (.bots 21) .nl)))))
def q3 : Pt := .nl
def ou3 (l : T3) (y : Int) : Ex × St U := (.exit 0, stOf 27 [(0, .im (.slice 1 l.1.1)), (4, jI y)] [] 0)
noncomputable def Λ3 : LFun U := mkLp (U := U) p3 q3 0 (X := Int) (fun (l : T3) => L3 l.1.1 l.1.2.2.1 l.1.2.2.2.1) sp1 ou3
def hd3 (l : T3) (s : S3) : T3 := ((l.1.1, ((), (s.1, (s.2, ((), ()))))), ())
noncomputable def fl3 (l : T3) (s : S3) : Tw (S3 ⊕ Int) := l3 l.1.1 s.1 s.2
noncomputable def t (worn : (List Int)) : Tw XA :=
 (.opt (L3 worn (0 : Int) (0 : Int)) fun z3 =>
  (.dd (((0 : Int) ≤ z3)) inferInstance
   (.opt (worn)[(Int.toNat z3)]? fun z4 =>
    (.ret (z3, z4)))
   .no))
noncomputable def c (worn : (List Int)) : Option XA := (t worn).run
noncomputable def tl (l : TA) : Tw XA := t l.1.1
noncomputable def cl (l : TA) : Option XA := c l.1.1
def pA : Pt := (.cs (.sl 1) .nl)
def pH : Pt := .nl
def v (l : TA) (y : XA) : AV U := .tup [jI y.1, jI y.2]
def hh (l : TA) (y : XA) : Hp U := []
noncomputable def A : AFun U := mkA (U := U) pA pH (X := XA) cl sp1 v hh
noncomputable def body : Code := (Go.Func.body Try.f39).getD .skip
noncomputable def Γ : List (FuncId × AFun U) := []
noncomputable def Λ : List (Nat × LFun U) := [(3, Λ3)]
noncomputable def CT : List (Nat × LFun U) := []
def ro : List FuncId := []
def D : Nat → Lv × Lv := dtab [(3, ⟨[5, 4, 0], []⟩, ⟨[2, 3, 4, 0], []⟩)]
noncomputable def E : Env U := { E0 with Γ := Γ, Λ := Λ, C := CT, D := D, ro := ro }
theorem hf3 (R : Type) (l : T3) (s : S3) (K : Ex → St U → Option R) : codeA E (pick (loopsOf body) 3) ⟨p3.mkL (hd3 l s).1, q3.mkH (hd3 l s).2, 0⟩ (roundK E (pick (loopsOf body) 3) K) =
  (fl3 l s).runK (lpK K (fun s => ⟨p3.mkL (hd3 l s).1, q3.mkH (hd3 l s).2, 0⟩) sp1 (ou3 l)) := by kernel_rfl
theorem lk3 (R : Type) (st : St U) (K : Ex → St U → Option R) (r : R) (h : Λ3 R st K = some r) : ∃ n, loopA E (pick (loopsOf body) 3) n st K = some r :=
  lp_ok (U := U) (E := E) (b := pick (loopsOf body) 3) (m := 0) (sp := sp1) (p := p3) (q := q3) (X := Int) (S := S3) (f := fl3) (hd := hd3) (s0 := fun (l : T3) => (l.1.2.2.1, l.1.2.2.2.1)) (ou := ou3)
    (fun l => rfl) (fun l x => by rfl) sp1_ok hf3 h
theorem hk (R : Type) (l : TA) (K : AV U → Hp U → Option R) : funcA E Try.f39 [] R (pA.mkL l.1) (pH.mkH l.2) K = (tl l).runK fun y => K (v l y) (hh l y) := by kernel_rfl
theorem okF : SoundF Try.prog cc 39 (funcA E Try.f39 []) :=
  funcA_ok (E := E) P_mixed (E0_ok.with Γ Λ CT D ro) (gam_of all_nil all_nil) Try.func39 (c := body) (by kernel_rfl)
    (just_by (by kernel_rfl) (by kernel_rfl) (all_cons lk3 all_nil) all_nil) []
theorem ok : SoundF Try.prog cc 39 A :=
  mkA_ok (E := E) (p := pA) (q := pH) (t := tl) sp1_ok hk okF
theorem fo : FnOK Try.prog 39 := ⟨Try.f39, Try.func39, by kernel_rfl, by kernel_rfl⟩
theorem keep : KeepA A := mkA_keep (U := U) sp1_ok (fun (l : TA) y => ⟨(hh l y).drop 0, by kernel_rfl⟩)
end ref43_Worst

/-! instar/instarref43.Of -/
namespace ref43_Of
abbrev TA : Type := (((Int × (Int × (Int × (Int × (Int × (Int × Unit)))))) × ((List Int) × (Int × Unit))) × Unit)
abbrev XA : Type := (Int × (Int × (Int × Int)))
abbrev T4 : Type := ((Unit × ((List Int) × (Int × (Unit × (Unit × (Int × (Int × (Int × (Int × (Int × (Unit × Unit))))))))))) × ((List (Int × Int × Int)) × Unit))
abbrev S4 : Type := (Int × (Int × (Int × (Int × Int))))
abbrev X4 : Type := (Int × (Int × (Int × Int)))
noncomputable def l4 (worn : (List Int)) (kind : Int) (h0 : (List (Int × Int × Int))) (least most all many i : Int) : Tw (S4 ⊕ X4) :=
 (.bb (decide (i < (((List.length h0) : Nat) : Int)))
  (.bb (decide (i < (((List.length worn) : Nat) : Int)))
   (.dd ((((0 : Int) ≤ i) ∧ (i < (((List.length h0) : Nat) : Int)))) inferInstance
    (.opt (h0)[(Int.toNat i)]? fun z2 =>
     (.bb (z2.1 != kind)
      (.ret (.inl (least, (most, (all, (many, (w64 (i + (1 : Int)))))))))
      (.bb (many == (0 : Int))
       (.dd (((0 : Int) ≤ i)) inferInstance
        (.opt (worn)[(Int.toNat i)]? fun z9 =>
         (.dd (((0 : Int) ≤ i)) inferInstance
          (.opt (worn)[(Int.toNat i)]? fun z10 =>
           (.dd (((0 : Int) ≤ i)) inferInstance
            (.opt (worn)[(Int.toNat i)]? fun z11 =>
             (.ret (.inl (z9, ((imax most z10), ((w64 (all + z11)), ((w64 (many + (1 : Int))), (w64 (i + (1 : Int))))))))))
            .no))
          .no))
        .no)
       (.dd (((0 : Int) ≤ i)) inferInstance
        (.opt (worn)[(Int.toNat i)]? fun z3 =>
         (.bb (decide (z3 < least))
          (.dd (((0 : Int) ≤ i)) inferInstance
           (.opt (worn)[(Int.toNat i)]? fun z6 =>
            (.dd (((0 : Int) ≤ i)) inferInstance
             (.opt (worn)[(Int.toNat i)]? fun z7 =>
              (.dd (((0 : Int) ≤ i)) inferInstance
               (.opt (worn)[(Int.toNat i)]? fun z8 =>
                (.ret (.inl (z6, ((imax most z7), ((w64 (all + z8)), ((w64 (many + (1 : Int))), (w64 (i + (1 : Int))))))))))
               .no))
             .no))
           .no)
          (.dd (((0 : Int) ≤ i)) inferInstance
           (.opt (worn)[(Int.toNat i)]? fun z4 =>
            (.dd (((0 : Int) ≤ i)) inferInstance
             (.opt (worn)[(Int.toNat i)]? fun z5 =>
              (.ret (.inl (least, ((imax most z4), ((w64 (all + z5)), ((w64 (many + (1 : Int))), (w64 (i + (1 : Int))))))))))
             .no))
           .no)))
        .no))))
    .no)
   (.ret (.inr (least, (most, (all, many))))))
  (.ret (.inr (least, (most, (all, many))))))
noncomputable def L4 (worn : (List Int)) (kind least most all many i : Int) (h0 : (List (Int × Int × Int))) : Option X4 := Lp (fun s => (l4 worn kind h0 s.1 s.2.1 s.2.2.1 s.2.2.2.1 s.2.2.2.2).run) (least, (most, (all, (many, i))))
def p4 : Pt := (.cs (.bots 1) (.cs (.sl 1) (jC (.cs (.bots 7) (.cs (.own 0) (jC (jC (jC (jC (jC (.cs (.bots 53) .nl)))))))))))
def q4 : Pt := (.cs (.row 14 true) .nl)
def ou4 (l : T4) (y : X4) : Ex × St U := (.exit 0, stOf 69 [(11, jI y.1), (12, jI y.2.1), (13, jI y.2.2.1), (14, jI y.2.2.2)] [] 0)
noncomputable def Λ4 : LFun U := mkLp (U := U) p4 q4 0 (X := X4) (fun (l : T4) => L4 l.1.2.1 l.1.2.2.1 l.1.2.2.2.2.2.1 l.1.2.2.2.2.2.2.1 l.1.2.2.2.2.2.2.2.1 l.1.2.2.2.2.2.2.2.2.1 l.1.2.2.2.2.2.2.2.2.2.1 l.2.1) sp1 ou4
def hd4 (l : T4) (s : S4) : T4 := (((), (l.1.2.1, (l.1.2.2.1, ((), ((), (s.1, (s.2.1, (s.2.2.1, (s.2.2.2.1, (s.2.2.2.2, ((), ()))))))))))), (l.2.1, ()))
noncomputable def fl4 (l : T4) (s : S4) : Tw (S4 ⊕ X4) := l4 l.1.2.1 l.1.2.2.1 l.2.1 s.1 s.2.1 s.2.2.1 s.2.2.2.1 s.2.2.2.2
noncomputable def t (g_0 g_1 g_2 g_3 g_4 g_5 : Int) (worn : (List Int)) (kind : Int) : Tw XA :=
 (.opt (ref08_Map.c g_0 g_1 g_2 g_3 g_4 g_5) fun z1 =>
  (.opt (L4 worn kind (0 : Int) (0 : Int) (0 : Int) (0 : Int) (0 : Int) z1) fun z12 =>
   (.ret (z12.1, (z12.2.1, (z12.2.2.1, z12.2.2.2))))))
noncomputable def c (g_0 g_1 g_2 g_3 g_4 g_5 : Int) (worn : (List Int)) (kind : Int) : Option XA := (t g_0 g_1 g_2 g_3 g_4 g_5 worn kind).run
noncomputable def tl (l : TA) : Tw XA := t l.1.1.1 l.1.1.2.1 l.1.1.2.2.1 l.1.1.2.2.2.1 l.1.1.2.2.2.2.1 l.1.1.2.2.2.2.2.1 l.1.2.1 l.1.2.2.1
noncomputable def cl (l : TA) : Option XA := c l.1.1.1 l.1.1.2.1 l.1.1.2.2.1 l.1.1.2.2.2.1 l.1.1.2.2.2.2.1 l.1.1.2.2.2.2.2.1 l.1.2.1 l.1.2.2.1
def pA : Pt := (.cs (.agg (jC (jC (jC (jC (jC (jC .nl))))))) (.cs (.sl 1) (jC .nl)))
def pH : Pt := .nl
def v (l : TA) (y : XA) : AV U := .tup [jI y.1, jI y.2.1, jI y.2.2.1, jI y.2.2.2]
def hh (l : TA) (y : XA) : Hp U := []
noncomputable def A : AFun U := mkA (U := U) pA pH (X := XA) cl sp1 v hh
noncomputable def body : Code := (Go.Func.body Try.f37).getD .skip
noncomputable def Γ : List (FuncId × AFun U) := [(35, ref08_Map.A)]
noncomputable def Λ : List (Nat × LFun U) := [(4, Λ4)]
noncomputable def CT : List (Nat × LFun U) := []
def ro : List FuncId := []
def D : Nat → Lv × Lv := dtab [(4, ⟨[15, 14, 1, 13, 12, 11, 2, 10], []⟩, ⟨[6, 7, 8, 9, 14, 13, 12, 11], []⟩)]
noncomputable def E : Env U := { E0 with Γ := Γ, Λ := Λ, C := CT, D := D, ro := ro }
theorem hf4 (R : Type) (l : T4) (s : S4) (K : Ex → St U → Option R) : codeA E (pick (loopsOf body) 4) ⟨p4.mkL (hd4 l s).1, q4.mkH (hd4 l s).2, 0⟩ (roundK E (pick (loopsOf body) 4) K) =
  (fl4 l s).runK (lpK K (fun s => ⟨p4.mkL (hd4 l s).1, q4.mkH (hd4 l s).2, 0⟩) sp1 (ou4 l)) := by kernel_rfl
theorem lk4 (R : Type) (st : St U) (K : Ex → St U → Option R) (r : R) (h : Λ4 R st K = some r) : ∃ n, loopA E (pick (loopsOf body) 4) n st K = some r :=
  lp_ok (U := U) (E := E) (b := pick (loopsOf body) 4) (m := 0) (sp := sp1) (p := p4) (q := q4) (X := X4) (S := S4) (f := fl4) (hd := hd4) (s0 := fun (l : T4) => (l.1.2.2.2.2.2.1, (l.1.2.2.2.2.2.2.1, (l.1.2.2.2.2.2.2.2.1, (l.1.2.2.2.2.2.2.2.2.1, l.1.2.2.2.2.2.2.2.2.2.1))))) (ou := ou4)
    (fun l => rfl) (fun l x => by rfl) sp1_ok hf4 h
theorem hk (R : Type) (l : TA) (K : AV U → Hp U → Option R) : funcA E Try.f37 [] R (pA.mkL l.1) (pH.mkH l.2) K = (tl l).runK fun y => K (v l y) (hh l y) := by kernel_rfl
theorem okF : SoundF Try.prog cc 37 (funcA E Try.f37 []) :=
  funcA_ok (E := E) P_mixed (E0_ok.with Γ Λ CT D ro) (gam_of (all_cons ⟨ref08_Map.ok, ref08_Map.fo⟩ all_nil) no_ro) Try.func37 (c := body) (by kernel_rfl)
    (just_by (by kernel_rfl) (by kernel_rfl) (all_cons lk4 all_nil) all_nil) []
theorem ok : SoundF Try.prog cc 37 A :=
  mkA_ok (E := E) (p := pA) (q := pH) (t := tl) sp1_ok hk okF
theorem fo : FnOK Try.prog 37 := ⟨Try.f37, Try.func37, by kernel_rfl, by kernel_rfl⟩
theorem keep : KeepA A := mkA_keep (U := U) sp1_ok (fun (l : TA) y => ⟨(hh l y).drop 0, by kernel_rfl⟩)
end ref43_Of

end Go.Proofs.Ytmlbioapefgioaa.Va
