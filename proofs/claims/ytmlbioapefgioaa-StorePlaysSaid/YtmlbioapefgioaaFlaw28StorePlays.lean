/- The functions of package law28StorePlays, as plain functions, and that the program computes them. Printed by a program of this work out of the evaluator. -/
import Derived.Test.YtmlbioapefgioaaEn
import Derived.Tactics
import Derived.Test.YtmlbioapefgioaaFlaw28
import Derived.Test.YtmlbioapefgioaaFref14
import Derived.Test.YtmlbioapefgioaaFref24
import Derived.Test.YtmlbioapefgioaaFref28
import Derived.Test.YtmlbioapefgioaaFstore
set_option linter.unusedVariables false
namespace Go.Proofs.Ytmlbioapefgioaa.Va
noncomputable section
open Go
set_option maxRecDepth 100000

/-! instar/instarlaw28.StorePlays -/
namespace law28_StorePlays
abbrev TA : Type := (((Int × ((List FormV) × Unit)) × ((List Act28) × Unit)) × Unit)
abbrev T5 : Type := ((Unit × ((List Act28) × (Unit × (Unit × ((List (List ItemV)) × ((List (List ItemV)) × (Int × (Unit × Unit)))))))) × ((Int × ((List FormV) × Unit)) × Unit))
abbrev S5 : Type := ((List (List ItemV)) × ((List (List ItemV)) × Int))
abbrev X5 : Type := (Unit ⊕ Bool)
def l5 (acts : (List Act28)) (h0_0 : Int) (h0_1 : (List FormV)) (l_ : (List (List ItemV))) (m : (List (List ItemV))) (i : Int) : Tw (S5 ⊕ X5) :=
 (.bb (decide (i < (((List.length acts) : Nat) : Int)))
 (.dd (((0 : Int) ≤ i)) inferInstance
 (.opt (acts)[(Int.toNat i)]? fun z2 =>
 (.bb (z2.kind == (2 : Int))
 (.opt (store_Delete.c h0_0 h0_1 l_ (62 : Int) z2.form z2.id) fun z10 =>
 (.opt (ref28_Delete.c h0_0 h0_1 m (62 : Int) z2.form z2.id) fun z11 =>
 (.bb (z10.2.2.2.1 != (d4 z11))
 (.ret (.inr (.inr false)))
 (.bb (!((z10.1 == z11.2.1) && ((z10.2.1 == z11.2.2.1) && ((z10.2.2.1 == z11.2.2.2.1) && true))))
 (.ret (.inr (.inr false)))
 (.opt (ref24_Same.c (d4 z10) z11.1) fun z12 =>
 (.bb (!z12)
 (.ret (.inr (.inr false)))
 (.bb ((d4 z11) == (0 : Int))
 (.ret (.inl ((d4 z10), (z11.1, (w64 (i + (1 : Int)))))))
 (.ret (.inl (l_, (m, (w64 (i + (1 : Int))))))))))))))
 (.bb (z2.kind == (3 : Int))
 (.opt (store_Get.c h0_0 h0_1 l_ z2.form z2.id) fun z7 =>
 (.opt (ref28_Get.c h0_0 h0_1 m z2.form z2.id) fun z8 =>
 (.bb (z7.2.1 != z8.2.1)
 (.ret (.inr (.inr false)))
 (.opt (ref14_Same.c z7.1 z7.2.2 z8.1 z8.2.2) fun z9 =>
 (.bb (!z9)
 (.ret (.inr (.inr false)))
 (.ret (.inl (l_, (m, (w64 (i + (1 : Int))))))))))))
 (.bb (z2.kind == (4 : Int))
 (.opt (law28_told.c h0_0 h0_1 l_) fun z6 =>
 (.bb (!z6)
 (.ret (.inr (.inr false)))
 (.ret (.inl (l_, (m, (w64 (i + (1 : Int)))))))))
 (.opt (store_Put.c h0_0 h0_1 l_ (62 : Int) z2.id z2.form z2.vals) fun z3 =>
 (.opt (ref28_Put.c h0_0 h0_1 m (62 : Int) z2.id z2.form z2.vals) fun z4 =>
 (.bb (z3.2.2.2.1 != z4.2.2.2.1)
 (.ret (.inr (.inr false)))
 (.bb (!((z3.1 == z4.1) && ((z3.2.1 == z4.2.1) && ((z3.2.2.1 == z4.2.2.1) && true))))
 (.ret (.inr (.inr false)))
 (.opt (ref24_Same.c (d4 z3) (d4 z4)) fun z5 =>
 (.bb (!z5)
 (.ret (.inr (.inr false)))
 (.bb (z4.2.2.2.1 == (0 : Int))
 (.ret (.inl ((d4 z3), ((d4 z4), (w64 (i + (1 : Int)))))))
 (.ret (.inl (l_, (m, (w64 (i + (1 : Int))))))))))))))))))
 .no)
 (.ret (.inr (.inl ()))))
def L5 (acts : (List Act28)) (l_ : (List (List ItemV))) (m : (List (List ItemV))) (i h0_0 : Int) (h0_1 : (List FormV)) : Option X5 := Lp (fun s => (l5 acts h0_0 h0_1 s.1 s.2.1 s.2.2).run) (l_, (m, i))
def p5 : Pt := (.cs (.bots 1) (.cs (.sl 29) (.cs (.ptr 0 0) (.cs (.bots 2) (.cs (.sl 11) (.cs (.sl 11) (jC (.cs (.bots 169) .nl))))))))
def q5 : Pt := (.cs (.var (jC (.cs (.sl 28) .nl))) .nl)
def ou5 (l : T5) (y : X5) : Ex × St U := (Sum.elim (fun a0 => (.exit 0, stOf 177 [] [] 0)) (fun b0 => (.ret, stOf 177 [(4, jB b0)] [] 0)) y)
def Λ5 : LFun U := mkLp p5 q5 0 (X := X5) (fun (l : T5) => L5 l.1.2.1 (d4 l.1).1 (d4 l.1).2.1 (d4 l.1).2.2.1 l.2.1.1 l.2.1.2.1) (spS sp1) ou5
def hd5 (l : T5) (s : S5) : T5 := (((), (l.1.2.1, ((), ((), (s.1, (s.2.1, (s.2.2, ((), ())))))))), ((l.2.1.1, (l.2.1.2.1, ())), ()))
def fl5 (l : T5) (s : S5) : Tw (S5 ⊕ X5) := l5 l.1.2.1 l.2.1.1 l.2.1.2.1 s.1 s.2.1 s.2.2
def t (s__0 : Int) (s__1 : (List FormV)) (acts : (List Act28)) : Tw Bool :=
 (.opt (law28_great.c s__0 s__1 acts) fun z1 =>
 (.bb z1
 (.opt (law28_awake.c) fun z17 =>
 (.ret z17))
 (.opt (L5 acts ([] : List (List ItemV)) ([] : List (List ItemV)) (0 : Int) s__0 s__1) fun z13 =>
 (.sm z13
 (fun z14 => (.opt (law28_awake.c) fun z16 =>
 (.ret z16)))
 (fun z15 => (.ret z15))))))
def c (s__0 : Int) (s__1 : (List FormV)) (acts : (List Act28)) : Option Bool := (t s__0 s__1 acts).run
def tl (l : TA) : Tw Bool := t l.1.1.1 l.1.1.2.1 l.1.2.1
def pA : Pt := (.cs (.agg (jC (.cs (.sl 28) .nl))) (.cs (.sl 29) .nl))
def pH : Pt := .nl
def v (l : TA) (y : Bool) : AV U := jB y
def hh (l : TA) (y : Bool) : Hp U := []
def A : AFun U := mkA pA pH (X := Bool) (fun l => (tl l).run) sp1 v hh
def body := bodyOf Try.f9
def E : Env U := E0.mk5 [(42, law28_great.A), (45, store_Put.A), (51, ref28_Put.A), (19, ref24_Same.A), (50, law28_told.A), (46, store_Get.A), (49, ref28_Get.A), (47, ref14_Same.A), (44, store_Delete.A), (48, ref28_Delete.A), (43, law28_awake.A)] [(5, Λ5)] [] [(5, ⟨[7, 6, 2, 5, 1], [(5, [], .own 11), (6, [], .own 11), (5, [], .im 11), (6, [], .im 11)]⟩, ⟨[4], []⟩)] []
theorem hf5 : HF E (pick (loopsOf body) 5) p5 q5 0 fl5 hd5 (spS sp1) ou5 := fun _ _ _ _ => by kernel_rfl
theorem lk5 : LK E (pick (loopsOf body) 5) Λ5 := fun R st K r h =>
  lp_ok (E := E) (b := pick (loopsOf body) 5) (m := 0) (sp := (spS sp1)) (p := p5) (q := q5) (X := X5) (S := S5) (f := fl5) (hd := hd5) (s0 := fun (l : T5) => ((d4 l.1).1, ((d4 l.1).2.1, (d4 l.1).2.2.1))) (ou := ou5)
    (fun l => rfl) (fun l x => by repeat' (first | rfl | (cases x with | inl => rfl | inr x => ?_))) (spS_ok sp1_ok) hf5 h
theorem hk : HK E Try.f9 [] pA pH tl v hh := fun _ _ _ => by kernel_rfl
theorem okF : SoundF Try.prog cc 9 (funcA E Try.f9 []) :=
  funcA_ok (E := E) P_mixed (E0_ok.mk5 _ _ _ _ _) (gam_of (all_cons law28_great.og (all_cons store_Put.og (all_cons ref28_Put.og (all_cons ref24_Same.og (all_cons law28_told.og (all_cons store_Get.og (all_cons ref28_Get.og (all_cons ref14_Same.og (all_cons store_Delete.og (all_cons ref28_Delete.og (all_cons law28_awake.og all_nil))))))))))) no_ro) Try.func9 (c := body) (by kernel_rfl)
    (just_by (by kernel_rfl) (by kernel_rfl) (all_cons lk5 all_nil) all_nil) []
theorem ok : SoundF Try.prog cc 9 A :=
  mkA_ok (E := E) (p := pA) (q := pH) (t := tl) sp1_ok hk okF
theorem fo : FnOK Try.prog 9 := ⟨Try.f9, Try.func9, by kernel_rfl, by kernel_rfl⟩
end law28_StorePlays

end
end Go.Proofs.Ytmlbioapefgioaa.Va
