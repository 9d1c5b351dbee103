/- The functions of package law28StoreMap, as plain functions, and that the program computes them. Printed by a program of this work out of the evaluator. -/
import Derived.Test.YtmlbioapefgioaaEn
import Derived.Tactics
import Derived.Test.YtmlbioapefgioaaFlaw28
import Derived.Test.YtmlbioapefgioaaFref14
import Derived.Test.YtmlbioapefgioaaFstore
set_option linter.unusedVariables false
namespace Go.Proofs.Ytmlbioapefgioaa.Va
noncomputable section
open Go
set_option maxRecDepth 100000

/-! instar/instarlaw28.StoreMap -/
namespace law28_StoreMap
abbrev TA : Type := (((Int × ((List FormV) × Unit)) × ((List Act28) × ((Int × (Int × (Int × ((List ValueV) × Unit)))) × Unit))) × Unit)
abbrev T7 : Type := ((Unit × ((List Act28) × (Unit × (Unit × (Unit × (Unit × (Unit × ((List (List ItemV)) × (Unit × (Bool × (Int × (Unit × Unit)))))))))))) × ((Int × ((List FormV) × Unit)) × ((Int × (Int × (Int × ((List ValueV) × Unit)))) × ((Int × ((List ValueV) × Unit)) × Unit))))
abbrev S7 : Type := ((List (List ItemV)) × (Bool × (Int × (Int × (List ValueV)))))
abbrev X7 : Type := (((List (List ItemV)) × (Bool × (Int × (List ValueV)))) ⊕ (Bool × ((List (List ItemV)) × (Bool × (Int × (List ValueV))))))
def l7 (acts : (List Act28)) (h0_0 : Int) (h0_1 : (List FormV)) (h1_0 h1_1 h1_2 : Int) (h1_3 : (List ValueV)) (l_ : (List (List ItemV))) (has : Bool) (i h2_0 : Int) (h2_1 : (List ValueV)) : Tw (S7 ⊕ X7) :=
 (.bb (decide (i < (((List.length acts) : Nat) : Int)))
 (.dd (((0 : Int) ≤ i)) inferInstance
 (.opt (acts)[(Int.toNat i)]? fun z3 =>
 (.bb (z3.form == h1_2)
 (.bb (z3.kind == (2 : Int))
 (.opt (store_Delete.c h0_0 h0_1 l_ (62 : Int) z3.form z3.id) fun z7 =>
 (.bb (z3.id == h1_1)
 (.bb (!((z7.2.2.2.1 == (0 : Int)) == has))
 (.ret (.inr (.inr (false, (l_, (has, (h2_0, h2_1)))))))
 (.bb (z7.2.2.2.1 == (0 : Int))
 (.bb has
 (.ret (.inl ((d4 z7), ((!(z3.id == h1_1)), ((w64 (i + (1 : Int))), (h2_0, h2_1))))))
 (.ret (.inl ((d4 z7), (false, ((w64 (i + (1 : Int))), (h2_0, h2_1)))))))
 (.ret (.inl (l_, (has, ((w64 (i + (1 : Int))), (h2_0, h2_1))))))))
 (.bb (z7.2.2.2.1 == (0 : Int))
 (.bb has
 (.ret (.inl ((d4 z7), ((!(z3.id == h1_1)), ((w64 (i + (1 : Int))), (h2_0, h2_1))))))
 (.ret (.inl ((d4 z7), (false, ((w64 (i + (1 : Int))), (h2_0, h2_1)))))))
 (.ret (.inl (l_, (has, ((w64 (i + (1 : Int))), (h2_0, h2_1)))))))))
 (.opt (store_Put.c h0_0 h0_1 l_ (62 : Int) z3.id z3.form z3.vals) fun z6 =>
 (.bb (z6.2.2.2.1 == (0 : Int))
 (.bb (z3.id == h1_1)
 (.ret (.inl ((d4 z6), (true, ((w64 (i + (1 : Int))), (z3.form, z3.vals))))))
 (.ret (.inl ((d4 z6), (has, ((w64 (i + (1 : Int))), (h2_0, h2_1)))))))
 (.ret (.inl (l_, (has, ((w64 (i + (1 : Int))), (h2_0, h2_1)))))))))
 (.bb (z3.kind == (2 : Int))
 (.opt (store_Delete.c h0_0 h0_1 l_ (62 : Int) z3.form z3.id) fun z5 =>
 (.bb (z5.2.2.2.1 == (0 : Int))
 (.bb has
 (.ret (.inl ((d4 z5), ((!false), ((w64 (i + (1 : Int))), (h2_0, h2_1))))))
 (.ret (.inl ((d4 z5), (false, ((w64 (i + (1 : Int))), (h2_0, h2_1)))))))
 (.ret (.inl (l_, (has, ((w64 (i + (1 : Int))), (h2_0, h2_1))))))))
 (.opt (store_Put.c h0_0 h0_1 l_ (62 : Int) z3.id z3.form z3.vals) fun z4 =>
 (.bb (z4.2.2.2.1 == (0 : Int))
 (.ret (.inl ((d4 z4), (has, ((w64 (i + (1 : Int))), (h2_0, h2_1))))))
 (.ret (.inl (l_, (has, ((w64 (i + (1 : Int))), (h2_0, h2_1)))))))))))
 .no)
 (.ret (.inr (.inl (l_, (has, (h2_0, h2_1)))))))
def L7 (acts : (List Act28)) (l_ : (List (List ItemV))) (has : Bool) (i h0_0 : Int) (h0_1 : (List FormV)) (h1_0 h1_1 h1_2 : Int) (h1_3 : (List ValueV)) (h2_0 : Int) (h2_1 : (List ValueV)) : Option X7 := Lp (fun s => (l7 acts h0_0 h0_1 h1_0 h1_1 h1_2 h1_3 s.1 s.2.1 s.2.2.1 s.2.2.2.1 (d4 s)).run) (l_, (has, (i, (h2_0, h2_1))))
def p7 : Pt := (.cs (.bots 1) (.cs (.sl 29) (.cs (.bots 1) (.cs (.ptr 0 0) (.cs (.bots 1) (.cs (.ptr 1 0) (.cs (.bots 1) (.cs (.sl 11) (.cs (.ptr 2 0) (.cs .bool (jC (.cs (.bots 129) .nl))))))))))))
def q7 : Pt := (.cs (.var (jC (.cs (.sl 28) .nl))) (.cs (.var (jC (jC (jC (.cs (.sl 24) .nl))))) (.cs (.var (jC (.cs (.sl 24) .nl))) .nl)))
def ou7 (l : T7) (y : X7) : Ex × St U := (Sum.elim (fun a0 => (.exit 0, stOf 140 [(3, .ptr 0 0), (5, .ptr 1 0), (7, .im (.slice 11 a0.1)), (8, .ptr 2 0), (9, jB a0.2.1)] [.var [jI l.2.1.1, .im (.slice 28 l.2.1.2.1)], .var [jI l.2.2.1.1, jI l.2.2.1.2.1, jI l.2.2.1.2.2.1, .im (.slice 24 l.2.2.1.2.2.2.1)], .var [jI a0.2.2.1, .im (.slice 24 a0.2.2.2)]] 0)) (fun b0 => (.ret, stOf 140 [(3, .ptr 0 0), (5, .ptr 1 0), (6, jB b0.1), (7, .im (.slice 11 b0.2.1)), (8, .ptr 2 0), (9, jB b0.2.2.1)] [.var [jI l.2.1.1, .im (.slice 28 l.2.1.2.1)], .var [jI l.2.2.1.1, jI l.2.2.1.2.1, jI l.2.2.1.2.2.1, .im (.slice 24 l.2.2.1.2.2.2.1)], .var [jI b0.2.2.2.1, .im (.slice 24 (d4 b0))]] 0)) y)
def Λ7 : LFun U := mkLp p7 q7 0 (X := X7) (fun (l : T7) => L7 l.1.2.1 (d4 l.1).2.2.2.1 (d8 l.1).2.1 (d8 l.1).2.2.1 l.2.1.1 l.2.1.2.1 l.2.2.1.1 l.2.2.1.2.1 l.2.2.1.2.2.1 l.2.2.1.2.2.2.1 l.2.2.2.1.1 l.2.2.2.1.2.1) (spS sp1) ou7
def hd7 (l : T7) (s : S7) : T7 := (((), (l.1.2.1, ((), ((), ((), ((), ((), (s.1, ((), (s.2.1, (s.2.2.1, ((), ())))))))))))), ((l.2.1.1, (l.2.1.2.1, ())), ((l.2.2.1.1, (l.2.2.1.2.1, (l.2.2.1.2.2.1, (l.2.2.1.2.2.2.1, ())))), ((s.2.2.2.1, ((d4 s), ())), ()))))
def fl7 (l : T7) (s : S7) : Tw (S7 ⊕ X7) := l7 l.1.2.1 l.2.1.1 l.2.1.2.1 l.2.2.1.1 l.2.2.1.2.1 l.2.2.1.2.2.1 l.2.2.1.2.2.2.1 s.1 s.2.1 s.2.2.1 s.2.2.2.1 (d4 s)
def t (s__0 : Int) (s__1 : (List FormV)) (acts : (List Act28)) (a_0 a_1 a_2 : Int) (a_3 : (List ValueV)) : Tw Bool :=
 (.opt (law28_great.c s__0 s__1 acts) fun z1 =>
 (.bb z1
 (.opt (law28_awake.c) fun z17 =>
 (.ret z17))
 (.opt (law28_great.c s__0 s__1 ((Go.Proofs.Ytmlbioapefgioaa.Va.Act28.mk a_0 a_1 a_2 a_3) :: ([] : List (Act28)))) fun z2 =>
 (.bb z2
 (.opt (law28_awake.c) fun z16 =>
 (.ret z16))
 (.opt (L7 acts ([] : List (List ItemV)) false (0 : Int) s__0 s__1 a_0 a_1 a_2 a_3 (0 : Int) ([] : List (ValueV))) fun z8 =>
 (.sm z8
 (fun z9 => (.opt (store_Get.c s__0 s__1 z9.1 a_2 a_1) fun z11 =>
 (.bb z9.2.1
 (.bb (z11.2.1 == (0 : Int))
 (.opt (ref14_Same.c z11.1 z11.2.2 z9.2.2.1 z9.2.2.2) fun z14 =>
 (.bb z14
 (.opt (law28_awake.c) fun z15 =>
 (.ret z15))
 (.ret false)))
 (.ret false))
 (.bb (z11.2.1 == (8 : Int))
 (.bb ((((List.length z11.2.2) : Nat) : Int) == (0 : Int))
 (.opt (law28_awake.c) fun z13 =>
 (.ret z13))
 (.ret false))
 (.bb (z11.2.1 == (2 : Int))
 (.bb ((((List.length z11.2.2) : Nat) : Int) == (0 : Int))
 (.opt (law28_awake.c) fun z12 =>
 (.ret z12))
 (.ret false))
 (.ret false))))))
 (fun z10 => (.ret z10.1))))))))
def c (s__0 : Int) (s__1 : (List FormV)) (acts : (List Act28)) (a_0 a_1 a_2 : Int) (a_3 : (List ValueV)) : Option Bool := (t s__0 s__1 acts a_0 a_1 a_2 a_3).run
def tl (l : TA) : Tw Bool := t l.1.1.1 l.1.1.2.1 l.1.2.1 l.1.2.2.1.1 l.1.2.2.1.2.1 l.1.2.2.1.2.2.1 l.1.2.2.1.2.2.2.1
def pA : Pt := (.cs (.agg (jC (.cs (.sl 28) .nl))) (.cs (.sl 29) (.cs (.agg (jC (jC (jC (.cs (.sl 24) .nl))))) .nl)))
def pH : Pt := .nl
def v (l : TA) (y : Bool) : AV U := jB y
def hh (l : TA) (y : Bool) : Hp U := []
def A : AFun U := mkA pA pH (X := Bool) (fun l => (tl l).run) sp1 v hh
def body := bodyOf Try.f8
def E : Env U := E0.mk5 [(42, law28_great.A), (45, store_Put.A), (44, store_Delete.A), (46, store_Get.A), (43, law28_awake.A), (47, ref14_Same.A)] [(7, Λ7)] [] [(7, ⟨[10, 9, 7, 3, 8, 5, 1], [(7, [], .own 11), (7, [], .im 11), (8, [.to 1], .im 24)]⟩, ⟨[6, 8, 9, 5, 7, 3], []⟩)] []
theorem hf7 : HF E (pick (loopsOf body) 7) p7 q7 0 fl7 hd7 (spS sp1) ou7 := fun _ _ _ _ => by kernel_rfl
theorem lk7 : LK E (pick (loopsOf body) 7) Λ7 := fun R st K r h =>
  lp_ok (E := E) (b := pick (loopsOf body) 7) (m := 0) (sp := (spS sp1)) (p := p7) (q := q7) (X := X7) (S := S7) (f := fl7) (hd := hd7) (s0 := fun (l : T7) => ((d4 l.1).2.2.2.1, ((d8 l.1).2.1, ((d8 l.1).2.2.1, (l.2.2.2.1.1, l.2.2.2.1.2.1))))) (ou := ou7)
    (fun l => rfl) (fun l x => by repeat' (first | rfl | (cases x with | inl => rfl | inr x => ?_))) (spS_ok sp1_ok) hf7 h
theorem hk : HK E Try.f8 [] pA pH tl v hh := fun _ _ _ => by kernel_rfl
theorem okF : SoundF Try.prog cc 8 (funcA E Try.f8 []) :=
  funcA_ok (E := E) P_mixed (E0_ok.mk5 _ _ _ _ _) (gam_of (all_cons law28_great.og (all_cons store_Put.og (all_cons store_Delete.og (all_cons store_Get.og (all_cons law28_awake.og (all_cons ref14_Same.og all_nil)))))) no_ro) Try.func8 (c := body) (by kernel_rfl)
    (just_by (by kernel_rfl) (by kernel_rfl) (all_cons lk7 all_nil) all_nil) []
theorem ok : SoundF Try.prog cc 8 A :=
  mkA_ok (E := E) (p := pA) (q := pH) (t := tl) sp1_ok hk okF
theorem fo : FnOK Try.prog 8 := ⟨Try.f8, Try.func8, by kernel_rfl, by kernel_rfl⟩
end law28_StoreMap

end
end Go.Proofs.Ytmlbioapefgioaa.Va
