/- The functions of package law24PackPlays, as plain functions, and that the program computes them. Printed by a program of this work out of the evaluator. -/
import Derived.Test.YtmlbioapefgioaaEn
import Derived.Tactics
import Derived.Test.YtmlbioapefgioaaFlaw24
import Derived.Test.YtmlbioapefgioaaFpack
import Derived.Test.YtmlbioapefgioaaFref24
namespace Go.Proofs.Ytmlbioapefgioaa.Va
open Go
set_option linter.unusedVariables false
set_option maxRecDepth 100000

/-! instar/instarlaw24.PackPlays -/
namespace law24_PackPlays
abbrev TA : Type := ((Int × ((List Act24) × Unit)) × Unit)
abbrev T5 : Type := ((Int × ((List Act24) × (Unit × (Unit × ((List (List ItemV)) × (Int × (Unit × Unit))))))) × ((List (List ItemV)) × Unit))
abbrev S5 : Type := ((List (List ItemV)) × (Int × (List (List ItemV))))
abbrev X5 : Type := (Unit ⊕ Bool)
noncomputable def l5 (room : Int) (l_ : (List Act24)) (q_ : (List (List ItemV))) (i : Int) (h0 : (List (List ItemV))) : Tw (S5 ⊕ X5) :=
 (.bb (decide (i < (((List.length l_) : Nat) : Int)))
  (.dd (((0 : Int) ≤ i)) inferInstance
   (.opt (l_)[(Int.toNat i)]? fun z2 =>
    (.opt (pack_At.c h0 z2.key) fun z3 =>
     (.opt (ref24_At.c q_ z2.key) fun z4 =>
      (.bb (z3 != z4)
       (.ret (.inr (.inr false)))
       (.dd (((0 : Int) ≤ i)) inferInstance
        (.opt (l_)[(Int.toNat i)]? fun z5 =>
         (.bb (z5.kind == (2 : Int))
          (.opt (pack_Cut.c h0 room z2.key) fun z9 =>
           (.opt (ref24_Cut.c q_ room z2.key) fun z10 =>
            (.bb (!((z9.1 == z10.2.1) && ((z9.2.1 == z10.2.2.1) && ((z9.2.2.1 == z10.2.2.2.1) && true))))
             (.ret (.inr (.inr false)))
             (.bb (!(z9.2.2.2.1 == z10.2.2.2.2))
              (.ret (.inr (.inr false)))
              (.opt (ref24_Same.c z9.2.2.2.2 z10.1) fun z11 =>
               (.bb (!z11)
                (.ret (.inr (.inr false)))
                (.ret (.inl (z10.1, ((w64 (i + (1 : Int))), z9.2.2.2.2))))))))))
          (.opt (pack_Put.c h0 room z2.key z2.data) fun z6 =>
           (.opt (ref24_Put.c q_ room z2.key z2.data) fun z7 =>
            (.bb (!((z6.1 == z7.1) && ((z6.2.1 == z7.2.1) && ((z6.2.2.1 == z7.2.2.1) && true))))
             (.ret (.inr (.inr false)))
             (.opt (ref24_Same.c z6.2.2.2 z7.2.2.2) fun z8 =>
              (.bb (!z8)
               (.ret (.inr (.inr false)))
               (.ret (.inl (z7.2.2.2, ((w64 (i + (1 : Int))), z6.2.2.2)))))))))))
        .no)))))
   .no)
  (.ret (.inr (.inl ()))))
noncomputable def L5 (room : Int) (l_ : (List Act24)) (q_ : (List (List ItemV))) (i : Int) (h0 : (List (List ItemV))) : Option X5 := Lp (fun s => (l5 room l_ s.1 s.2.1 s.2.2).run) (q_, (i, h0))
def p5 : Pt := (jC (.cs (.sl 22) (.cs (.bots 3) (.cs (.own 0) (.cs (.sl 11) (jC (.cs (.bots 112) .nl)))))))
def q5 : Pt := (.cs (.row 11 true) .nl)
def ou5 (l : T5) (y : X5) : Ex × St U := (Sum.elim (fun a0 => (.exit 0, stOf 120 [] [] 0)) (fun b0 => (.ret, stOf 120 [(4, jB b0)] [] 0)) y)
noncomputable def Λ5 : LFun U := mkLp (U := U) p5 q5 0 (X := X5) (fun (l : T5) => L5 l.1.1 l.1.2.1 l.1.2.2.2.2.1 l.1.2.2.2.2.2.1 l.2.1) (spS sp1) ou5
def hd5 (l : T5) (s : S5) : T5 := ((l.1.1, (l.1.2.1, ((), ((), (s.1, (s.2.1, ((), ()))))))), (s.2.2, ()))
noncomputable def fl5 (l : T5) (s : S5) : Tw (S5 ⊕ X5) := l5 l.1.1 l.1.2.1 s.1 s.2.1 s.2.2
noncomputable def t (room : Int) (l_ : (List Act24)) : Tw Bool :=
 (.bb (decide (room < (62 : Int)))
  (.opt (law24_awake.c) fun z18 =>
   (.ret z18))
  (.bb (decide (room > (1022 : Int)))
   (.opt (law24_awake.c) fun z17 =>
    (.ret z17))
   (.opt (law24_great.c l_) fun z1 =>
    (.bb z1
     (.opt (law24_awake.c) fun z16 =>
      (.ret z16))
     (.opt (L5 room l_ ([] : List (List ItemV)) (0 : Int) ([] : List (List ItemV))) fun z12 =>
      (.sm z12
       (fun z13 => (.opt (law24_awake.c) fun z15 =>
         (.ret z15)))
       (fun z14 => (.ret z14))))))))
noncomputable def c (room : Int) (l_ : (List Act24)) : Option Bool := (t room l_).run
noncomputable def tl (l : TA) : Tw Bool := t l.1.1 l.1.2.1
noncomputable def cl (l : TA) : Option Bool := c l.1.1 l.1.2.1
def pA : Pt := (jC (.cs (.sl 22) .nl))
def pH : Pt := .nl
def v (l : TA) (y : Bool) : AV U := jB y
def hh (l : TA) (y : Bool) : Hp U := []
noncomputable def A : AFun U := mkA (U := U) pA pH (X := Bool) cl sp1 v hh
noncomputable def body : Code := (Go.Func.body Try.f4).getD .skip
noncomputable def Γ : List (FuncId × AFun U) := [(21, law24_great.A), (22, pack_At.A), (23, ref24_At.A), (26, pack_Put.A), (27, ref24_Put.A), (19, ref24_Same.A), (24, pack_Cut.A), (25, ref24_Cut.A), (11, law24_awake.A)]
noncomputable def Λ : List (Nat × LFun U) := [(5, Λ5)]
noncomputable def CT : List (Nat × LFun U) := []
def ro : List FuncId := []
def D : Nat → Lv × Lv := dtab [(5, ⟨[7, 0, 6, 5, 1], [(5, [], .own 11), (6, [], .own 11), (6, [], .im 11)]⟩, ⟨[4], []⟩)]
noncomputable def E : Env U := { E0 with Γ := Γ, Λ := Λ, C := CT, D := D, ro := ro }
theorem hf5 (R : Type) (l : T5) (s : S5) (K : Ex → St U → Option R) : codeA E (pick (loopsOf body) 5) ⟨p5.mkL (hd5 l s).1, q5.mkH (hd5 l s).2, 0⟩ (roundK E (pick (loopsOf body) 5) K) =
  (fl5 l s).runK (lpK K (fun s => ⟨p5.mkL (hd5 l s).1, q5.mkH (hd5 l s).2, 0⟩) (spS sp1) (ou5 l)) := by kernel_rfl
theorem lk5 (R : Type) (st : St U) (K : Ex → St U → Option R) (r : R) (h : Λ5 R st K = some r) : ∃ n, loopA E (pick (loopsOf body) 5) n st K = some r :=
  lp_ok (U := U) (E := E) (b := pick (loopsOf body) 5) (m := 0) (sp := (spS sp1)) (p := p5) (q := q5) (X := X5) (S := S5) (f := fl5) (hd := hd5) (s0 := fun (l : T5) => (l.1.2.2.2.2.1, (l.1.2.2.2.2.2.1, l.2.1))) (ou := ou5)
    (fun l => rfl) (fun l x => by repeat' (first | rfl | (cases x with | inl => rfl | inr x => ?_))) (spS_ok sp1_ok) hf5 h
theorem hk (R : Type) (l : TA) (K : AV U → Hp U → Option R) : funcA E Try.f4 [] R (pA.mkL l.1) (pH.mkH l.2) K = (tl l).runK fun y => K (v l y) (hh l y) := by kernel_rfl
theorem okF : SoundF Try.prog cc 4 (funcA E Try.f4 []) :=
  funcA_ok (E := E) P_mixed (E0_ok.with Γ Λ CT D ro) (gam_of (all_cons ⟨law24_great.ok, law24_great.fo⟩ (all_cons ⟨pack_At.ok, pack_At.fo⟩ (all_cons ⟨ref24_At.ok, ref24_At.fo⟩ (all_cons ⟨pack_Put.ok, pack_Put.fo⟩ (all_cons ⟨ref24_Put.ok, ref24_Put.fo⟩ (all_cons ⟨ref24_Same.ok, ref24_Same.fo⟩ (all_cons ⟨pack_Cut.ok, pack_Cut.fo⟩ (all_cons ⟨ref24_Cut.ok, ref24_Cut.fo⟩ (all_cons ⟨law24_awake.ok, law24_awake.fo⟩ all_nil))))))))) no_ro) Try.func4 (c := body) (by kernel_rfl)
    (just_by (by kernel_rfl) (by kernel_rfl) (all_cons lk5 all_nil) all_nil) []
theorem ok : SoundF Try.prog cc 4 A :=
  mkA_ok (E := E) (p := pA) (q := pH) (t := tl) sp1_ok hk okF
theorem fo : FnOK Try.prog 4 := ⟨Try.f4, Try.func4, by kernel_rfl, by kernel_rfl⟩
theorem keep : KeepA A := mkA_keep (U := U) sp1_ok (fun (l : TA) y => ⟨(hh l y).drop 0, by kernel_rfl⟩)
end law24_PackPlays

end Go.Proofs.Ytmlbioapefgioaa.Va
