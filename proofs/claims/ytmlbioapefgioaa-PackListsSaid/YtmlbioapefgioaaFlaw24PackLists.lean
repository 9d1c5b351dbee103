/- The functions of package law24PackLists, as plain functions, and that the program computes them. Printed by a program of this work out of the evaluator. -/
import Derived.Test.YtmlbioapefgioaaEn
import Derived.Tactics
import Derived.Test.YtmlbioapefgioaaFlaw24
import Derived.Test.YtmlbioapefgioaaFpack
import Derived.Test.YtmlbioapefgioaaFref18
import Derived.Test.YtmlbioapefgioaaFref24
namespace Go.Proofs.Ytmlbioapefgioaa.Va
open Go
set_option linter.unusedVariables false
set_option maxRecDepth 100000

/-! instar/instarlaw24.PackLists -/
namespace law24_PackLists
abbrev TA : Type := ((Int × ((List Act24) × ((Int × (Int × (ByteArray × Unit))) × Unit))) × Unit)
abbrev T5 : Type := ((Int × ((List Act24) × (Unit × (Unit × (Unit × (Unit × (Int × (Unit × Unit)))))))) × ((Int × (Int × (ByteArray × Unit))) × ((List (List ItemV)) × Unit)))
abbrev S5 : Type := (Int × (List (List ItemV)))
noncomputable def l5 (room : Int) (l_ : (List Act24)) (h0_0 h0_1 : Int) (h0_2 : ByteArray) (i : Int) (h1 : (List (List ItemV))) : Tw (S5 ⊕ (List (List ItemV))) :=
 (.bb (decide (i < (((List.length l_) : Nat) : Int)))
  (.dd (((0 : Int) ≤ i)) inferInstance
   (.opt (l_)[(Int.toNat i)]? fun z2 =>
    (.bb (z2.kind == (2 : Int))
     (.dd (((0 : Int) ≤ i)) inferInstance
      (.opt (l_)[(Int.toNat i)]? fun z5 =>
       (.opt (pack_Cut.c h1 room z5.key) fun z6 =>
        (.ret (.inl ((w64 (i + (1 : Int))), z6.2.2.2.2)))))
      .no)
     (.dd (((0 : Int) ≤ i)) inferInstance
      (.opt (l_)[(Int.toNat i)]? fun z3 =>
       (.opt (pack_Put.c h1 room z3.key z3.data) fun z4 =>
        (.ret (.inl ((w64 (i + (1 : Int))), z4.2.2.2)))))
      .no)))
   .no)
  (.ret (.inr h1)))
noncomputable def L5 (room : Int) (l_ : (List Act24)) (i h0_0 h0_1 : Int) (h0_2 : ByteArray) (h1 : (List (List ItemV))) : Option (List (List ItemV)) := Lp (fun s => (l5 room l_ h0_0 h0_1 h0_2 s.1 s.2).run) (i, h1)
def p5 : Pt := (jC (.cs (.sl 22) (.cs (.bots 3) (.cs (.ptr 0 0) (.cs (.bots 1) (.cs (.own 1) (jC (.cs (.bots 201) .nl))))))))
def q5 : Pt := (.cs (.var (jC (.cs (.int .u32) (.cs .str .nl)))) (.cs (.row 11 true) .nl))
def ou5 (l : T5) (y : (List (List ItemV))) : Ex × St U := (.exit 0, stOf 210 [(0, jI l.1.1), (5, .ptr 0 0), (7, .own 1)] [.var [jI l.2.1.1, .im (.int .u32 l.2.1.2.1), .im (.str l.2.1.2.2.1)], .row 11 y true] 0)
noncomputable def Λ5 : LFun U := mkLp (U := U) p5 q5 0 (X := (List (List ItemV))) (fun (l : T5) => L5 l.1.1 l.1.2.1 l.1.2.2.2.2.2.2.1 l.2.1.1 l.2.1.2.1 l.2.1.2.2.1 l.2.2.1) sp1 ou5
def hd5 (l : T5) (s : S5) : T5 := ((l.1.1, (l.1.2.1, ((), ((), ((), ((), (s.1, ((), ())))))))), ((l.2.1.1, (l.2.1.2.1, (l.2.1.2.2.1, ()))), (s.2, ())))
noncomputable def fl5 (l : T5) (s : S5) : Tw (S5 ⊕ (List (List ItemV))) := l5 l.1.1 l.1.2.1 l.2.1.1 l.2.1.2.1 l.2.1.2.2.1 s.1 s.2
abbrev T24 : Type := ((Unit × (Unit × (Unit × (Unit × (Unit × (Unit × (Int × (Unit × Unit)))))))) × ((List (List ItemV)) × ((List (List ItemV)) × ((Int × (Int × (Int × Unit))) × Unit))))
abbrev X24 : Type := (Unit ⊕ Bool)
noncomputable def l24 (h0 : (List (List ItemV))) (h1 : (List (List ItemV))) (h2_0 h2_1 h2_2 i : Int) : Tw (Int ⊕ X24) :=
 (.bb (decide (i < h2_0))
  (.dd ((((0 : Int) ≤ i) ∧ (i < (((List.length h0) : Nat) : Int)))) inferInstance
   (.opt (h0)[(Int.toNat i)]? fun z14 =>
    (.dd ((((0 : Int) ≤ i) ∧ (i < (((List.length h1) : Nat) : Int)))) inferInstance
     (.opt (h1)[(Int.toNat i)]? fun z15 =>
      (.opt (ref18_Same.c z14 z15) fun z16 =>
       (.bb (!z16)
        (.ret (.inr (.inr false)))
        (.ret (.inl (w64 (i + (1 : Int))))))))
     .no))
   .no)
  (.ret (.inr (.inl ()))))
noncomputable def L24 (i : Int) (h0 : (List (List ItemV))) (h1 : (List (List ItemV))) (h2_0 h2_1 h2_2 : Int) : Option X24 := Lp (fun s => (l24 h0 h1 h2_0 h2_1 h2_2 s).run) i
def p24 : Pt := (.cs (.bots 7) (.cs (.own 0) (.cs (.bots 3) (.cs (.own 1) (.cs (.ptr 2 0) (.cs (.bots 2) (jC (.cs (.bots 194) .nl))))))))
def q24 : Pt := (.cs (.row 11 false) (.cs (.row 11 true) (.cs (.var (jC (jC (jC .nl)))) .nl)))
def ou24 (l : T24) (y : X24) : Ex × St U := (Sum.elim (fun a0 => (.exit 2, stOf 210 [(7, .own 0), (11, .own 1), (12, .ptr 2 0)] [.row 11 l.2.1 false, .row 11 l.2.2.1 true, .var [jI l.2.2.2.1.1, jI l.2.2.2.1.2.1, jI l.2.2.2.1.2.2.1]] 0)) (fun b0 => (.ret, stOf 210 [(6, jB b0), (7, .own 0), (11, .own 1), (12, .ptr 2 0)] [.row 11 l.2.1 false, .row 11 l.2.2.1 true, .var [jI l.2.2.2.1.1, jI l.2.2.2.1.2.1, jI l.2.2.2.1.2.2.1]] 0)) y)
noncomputable def Λ24 : LFun U := mkLp (U := U) p24 q24 0 (X := X24) (fun (l : T24) => L24 l.1.2.2.2.2.2.2.1 l.2.1 l.2.2.1 l.2.2.2.1.1 l.2.2.2.1.2.1 l.2.2.2.1.2.2.1) (spS sp1) ou24
def hd24 (l : T24) (s : Int) : T24 := (((), ((), ((), ((), ((), ((), (s, ((), ())))))))), (l.2.1, (l.2.2.1, ((l.2.2.2.1.1, (l.2.2.2.1.2.1, (l.2.2.2.1.2.2.1, ()))), ()))))
noncomputable def fl24 (l : T24) (s : Int) : Tw (Int ⊕ X24) := l24 l.2.1 l.2.2.1 l.2.2.2.1.1 l.2.2.2.1.2.1 l.2.2.2.1.2.2.1 s
abbrev T29 : Type := ((Unit × (Unit × (Unit × (Unit × (Unit × (Unit × (Int × (Unit × Unit)))))))) × ((List (List ItemV)) × ((List (List ItemV)) × ((Int × (Int × (Int × Unit))) × Unit))))
abbrev X29 : Type := (Unit ⊕ Bool)
noncomputable def l29 (h0 : (List (List ItemV))) (h1 : (List (List ItemV))) (h2_0 h2_1 h2_2 i : Int) : Tw (Int ⊕ X29) :=
 (.bb (decide (i < (((List.length h0) : Nat) : Int)))
  (.dd ((((0 : Int) ≤ i) ∧ (i < (((List.length h0) : Nat) : Int)))) inferInstance
   (.opt (h0)[(Int.toNat i)]? fun z20 =>
    (.dd ((((0 : Int) ≤ (w64 ((w64 (i - h2_1)) + h2_2))) ∧ ((w64 ((w64 (i - h2_1)) + h2_2)) < (((List.length h1) : Nat) : Int)))) inferInstance
     (.opt (h1)[(Int.toNat (w64 ((w64 (i - h2_1)) + h2_2)))]? fun z21 =>
      (.opt (ref18_Same.c z20 z21) fun z22 =>
       (.bb (!z22)
        (.ret (.inr (.inr false)))
        (.ret (.inl (w64 (i + (1 : Int))))))))
     .no))
   .no)
  (.ret (.inr (.inl ()))))
noncomputable def L29 (i : Int) (h0 : (List (List ItemV))) (h1 : (List (List ItemV))) (h2_0 h2_1 h2_2 : Int) : Option X29 := Lp (fun s => (l29 h0 h1 h2_0 h2_1 h2_2 s).run) i
def p29 : Pt := (.cs (.bots 7) (.cs (.own 0) (.cs (.bots 3) (.cs (.own 1) (.cs (.ptr 2 0) (.cs (.bots 3) (jC (.cs (.bots 193) .nl))))))))
def q29 : Pt := (.cs (.row 11 false) (.cs (.row 11 true) (.cs (.var (jC (jC (jC .nl)))) .nl)))
def ou29 (l : T29) (y : X29) : Ex × St U := (Sum.elim (fun a0 => (.exit 4, stOf 210 [] [] 0)) (fun b0 => (.ret, stOf 210 [(6, jB b0)] [] 0)) y)
noncomputable def Λ29 : LFun U := mkLp (U := U) p29 q29 0 (X := X29) (fun (l : T29) => L29 l.1.2.2.2.2.2.2.1 l.2.1 l.2.2.1 l.2.2.2.1.1 l.2.2.2.1.2.1 l.2.2.2.1.2.2.1) (spS sp1) ou29
def hd29 (l : T29) (s : Int) : T29 := (((), ((), ((), ((), ((), ((), (s, ((), ())))))))), (l.2.1, (l.2.2.1, ((l.2.2.2.1.1, (l.2.2.2.1.2.1, (l.2.2.2.1.2.2.1, ()))), ()))))
noncomputable def fl29 (l : T29) (s : Int) : Tw (Int ⊕ X29) := l29 l.2.1 l.2.2.1 l.2.2.2.1.1 l.2.2.2.1.2.1 l.2.2.2.1.2.2.1 s
noncomputable def t (room : Int) (l_ : (List Act24)) (a_0 a_1 : Int) (a_2 : ByteArray) : Tw Bool :=
 (.bb (decide (room < (62 : Int)))
  (.opt (law24_awake.c) fun z42 =>
   (.ret z42))
  (.bb (decide (room > (1022 : Int)))
   (.opt (law24_awake.c) fun z41 =>
    (.ret z41))
   (.opt (law24_great.c l_) fun z1 =>
    (.bb z1
     (.opt (law24_awake.c) fun z40 =>
      (.ret z40))
     (.bb (decide ((((ByteArray.size a_2) : Nat) : Int) > (64 : Int)))
      (.opt (law24_awake.c) fun z39 =>
       (.ret z39))
      (.opt (L5 room l_ (0 : Int) a_0 a_1 a_2 ([] : List (List ItemV))) fun z7 =>
       (.opt (pack_Flat.c z7) fun z8 =>
        (.opt (ref18_Put.c z8 a_1 a_2) fun z9 =>
         (.opt (pack_Put.c z7 room a_1 a_2) fun z10 =>
          (.bb (a_0 == (2 : Int))
           (.opt (ref18_Cut.c z8 a_1) fun z27 =>
            (.opt (pack_Cut.c z7 room a_1) fun z28 =>
             (.bb (!(z28.2.2.2.1 == z27.1))
              (.ret false)
              (.opt (ref24_Fits.c z28.2.2.2.2 room) fun z29 =>
               (.bb (!z29)
                (.ret false)
                (.opt (ref24_Flat.c z28.2.2.2.2) fun z30 =>
                 (.opt (ref18_Same.c z30 z27.2) fun z31 =>
                  (.bb (!z31)
                   (.ret false)
                   (.bb ((((List.length z28.2.2.2.2) : Nat) : Int) != (w64 ((w64 ((((List.length z7) : Nat) : Int) - z28.2.1)) + z28.2.2.1)))
                    (.ret false)
                    (.bb (decide (z28.1 < (0 : Int)))
                     (.ret false)
                     (.bb (decide (z28.2.1 < (0 : Int)))
                      (.ret false)
                      (.bb (decide (z28.2.2.1 < (0 : Int)))
                       (.ret false)
                       (.bb (decide (z28.2.1 > (2 : Int)))
                        (.ret false)
                        (.bb (decide (z28.2.2.1 > (2 : Int)))
                         (.ret false)
                         (.bb (decide ((w64 (z28.1 + z28.2.1)) > (((List.length z7) : Nat) : Int)))
                          (.ret false)
                          (.opt (L24 (0 : Int) z7 z28.2.2.2.2 z28.1 z28.2.1 z28.2.2.1) fun z32 =>
                           (.sm z32
                            (fun z33 => (.opt (L29 (w64 (z28.1 + z28.2.1)) z7 z28.2.2.2.2 z28.1 z28.2.1 z28.2.2.1) fun z35 =>
                              (.sm z35
                               (fun z36 => (.opt (law24_awake.c) fun z38 =>
                                 (.ret z38)))
                               (fun z37 => (.ret z37)))))
                            (fun z34 => (.ret z34)))))))))))))))))))
           (.opt (ref24_Fits.c z10.2.2.2 room) fun z11 =>
            (.bb (!z11)
             (.ret false)
             (.opt (ref24_Flat.c z10.2.2.2) fun z12 =>
              (.opt (ref18_Same.c z12 z9) fun z13 =>
               (.bb (!z13)
                (.ret false)
                (.bb ((((List.length z10.2.2.2) : Nat) : Int) != (w64 ((w64 ((((List.length z7) : Nat) : Int) - z10.2.1)) + z10.2.2.1)))
                 (.ret false)
                 (.bb (decide (z10.1 < (0 : Int)))
                  (.ret false)
                  (.bb (decide (z10.2.1 < (0 : Int)))
                   (.ret false)
                   (.bb (decide (z10.2.2.1 < (0 : Int)))
                    (.ret false)
                    (.bb (decide (z10.2.1 > (2 : Int)))
                     (.ret false)
                     (.bb (decide (z10.2.2.1 > (2 : Int)))
                      (.ret false)
                      (.bb (decide ((w64 (z10.1 + z10.2.1)) > (((List.length z7) : Nat) : Int)))
                       (.ret false)
                       (.opt (L24 (0 : Int) z7 z10.2.2.2 z10.1 z10.2.1 z10.2.2.1) fun z17 =>
                        (.sm z17
                         (fun z18 => (.opt (L29 (w64 (z10.1 + z10.2.1)) z7 z10.2.2.2 z10.1 z10.2.1 z10.2.2.1) fun z23 =>
                           (.sm z23
                            (fun z24 => (.opt (law24_awake.c) fun z26 =>
                              (.ret z26)))
                            (fun z25 => (.ret z25)))))
                         (fun z19 => (.ret z19))))))))))))))))))))))))))
noncomputable def c (room : Int) (l_ : (List Act24)) (a_0 a_1 : Int) (a_2 : ByteArray) : Option Bool := (t room l_ a_0 a_1 a_2).run
noncomputable def tl (l : TA) : Tw Bool := t l.1.1 l.1.2.1 l.1.2.2.1.1 l.1.2.2.1.2.1 l.1.2.2.1.2.2.1
noncomputable def cl (l : TA) : Option Bool := c l.1.1 l.1.2.1 l.1.2.2.1.1 l.1.2.2.1.2.1 l.1.2.2.1.2.2.1
def pA : Pt := (jC (.cs (.sl 22) (.cs (.agg (jC (.cs (.int .u32) (.cs .str .nl)))) .nl)))
def pH : Pt := .nl
def v (l : TA) (y : Bool) : AV U := jB y
def hh (l : TA) (y : Bool) : Hp U := []
noncomputable def A : AFun U := mkA (U := U) pA pH (X := Bool) cl sp1 v hh
noncomputable def body : Code := (Go.Func.body Try.f5).getD .skip
noncomputable def Γ : List (FuncId × AFun U) := [(21, law24_great.A), (26, pack_Put.A), (24, pack_Cut.A), (15, pack_Flat.A), (28, ref18_Put.A), (13, ref24_Fits.A), (16, ref24_Flat.A), (14, ref18_Same.A), (11, law24_awake.A), (29, ref18_Cut.A)]
noncomputable def Λ : List (Nat × LFun U) := [(5, Λ5), (24, Λ24), (29, Λ29)]
noncomputable def CT : List (Nat × LFun U) := []
def ro : List FuncId := []
def D : Nat → Lv × Lv := dtab [(5, ⟨[8, 1, 0, 7, 5], [(7, [], .own 11)]⟩, ⟨[6, 7, 0, 5], []⟩), (24, ⟨[15, 11, 7, 12], []⟩, ⟨[6, 12, 11, 7], []⟩), (29, ⟨[16, 12, 11, 7], []⟩, ⟨[6], []⟩)]
noncomputable def E : Env U := { E0 with Γ := Γ, Λ := Λ, C := CT, D := D, ro := ro }
theorem hf5 (R : Type) (l : T5) (s : S5) (K : Ex → St U → Option R) : codeA E (pick (loopsOf body) 5) ⟨p5.mkL (hd5 l s).1, q5.mkH (hd5 l s).2, 0⟩ (roundK E (pick (loopsOf body) 5) K) =
  (fl5 l s).runK (lpK K (fun s => ⟨p5.mkL (hd5 l s).1, q5.mkH (hd5 l s).2, 0⟩) sp1 (ou5 l)) := by kernel_rfl
theorem lk5 (R : Type) (st : St U) (K : Ex → St U → Option R) (r : R) (h : Λ5 R st K = some r) : ∃ n, loopA E (pick (loopsOf body) 5) n st K = some r :=
  lp_ok (U := U) (E := E) (b := pick (loopsOf body) 5) (m := 0) (sp := sp1) (p := p5) (q := q5) (X := (List (List ItemV))) (S := S5) (f := fl5) (hd := hd5) (s0 := fun (l : T5) => (l.1.2.2.2.2.2.2.1, l.2.2.1)) (ou := ou5)
    (fun l => rfl) (fun l x => by rfl) sp1_ok hf5 h
theorem hf24 (R : Type) (l : T24) (s : Int) (K : Ex → St U → Option R) : codeA E (pick (loopsOf body) 24) ⟨p24.mkL (hd24 l s).1, q24.mkH (hd24 l s).2, 0⟩ (roundK E (pick (loopsOf body) 24) K) =
  (fl24 l s).runK (lpK K (fun s => ⟨p24.mkL (hd24 l s).1, q24.mkH (hd24 l s).2, 0⟩) (spS sp1) (ou24 l)) := by kernel_rfl
theorem lk24 (R : Type) (st : St U) (K : Ex → St U → Option R) (r : R) (h : Λ24 R st K = some r) : ∃ n, loopA E (pick (loopsOf body) 24) n st K = some r :=
  lp_ok (U := U) (E := E) (b := pick (loopsOf body) 24) (m := 0) (sp := (spS sp1)) (p := p24) (q := q24) (X := X24) (S := Int) (f := fl24) (hd := hd24) (s0 := fun (l : T24) => l.1.2.2.2.2.2.2.1) (ou := ou24)
    (fun l => rfl) (fun l x => by repeat' (first | rfl | (cases x with | inl => rfl | inr x => ?_))) (spS_ok sp1_ok) hf24 h
theorem hf29 (R : Type) (l : T29) (s : Int) (K : Ex → St U → Option R) : codeA E (pick (loopsOf body) 29) ⟨p29.mkL (hd29 l s).1, q29.mkH (hd29 l s).2, 0⟩ (roundK E (pick (loopsOf body) 29) K) =
  (fl29 l s).runK (lpK K (fun s => ⟨p29.mkL (hd29 l s).1, q29.mkH (hd29 l s).2, 0⟩) (spS sp1) (ou29 l)) := by kernel_rfl
theorem lk29 (R : Type) (st : St U) (K : Ex → St U → Option R) (r : R) (h : Λ29 R st K = some r) : ∃ n, loopA E (pick (loopsOf body) 29) n st K = some r :=
  lp_ok (U := U) (E := E) (b := pick (loopsOf body) 29) (m := 0) (sp := (spS sp1)) (p := p29) (q := q29) (X := X29) (S := Int) (f := fl29) (hd := hd29) (s0 := fun (l : T29) => l.1.2.2.2.2.2.2.1) (ou := ou29)
    (fun l => rfl) (fun l x => by repeat' (first | rfl | (cases x with | inl => rfl | inr x => ?_))) (spS_ok sp1_ok) hf29 h
theorem hk (R : Type) (l : TA) (K : AV U → Hp U → Option R) : funcA E Try.f5 [] R (pA.mkL l.1) (pH.mkH l.2) K = (tl l).runK fun y => K (v l y) (hh l y) := by kernel_rfl
theorem okF : SoundF Try.prog cc 5 (funcA E Try.f5 []) :=
  funcA_ok (E := E) P_mixed (E0_ok.with Γ Λ CT D ro) (gam_of (all_cons ⟨law24_great.ok, law24_great.fo⟩ (all_cons ⟨pack_Put.ok, pack_Put.fo⟩ (all_cons ⟨pack_Cut.ok, pack_Cut.fo⟩ (all_cons ⟨pack_Flat.ok, pack_Flat.fo⟩ (all_cons ⟨ref18_Put.ok, ref18_Put.fo⟩ (all_cons ⟨ref24_Fits.ok, ref24_Fits.fo⟩ (all_cons ⟨ref24_Flat.ok, ref24_Flat.fo⟩ (all_cons ⟨ref18_Same.ok, ref18_Same.fo⟩ (all_cons ⟨law24_awake.ok, law24_awake.fo⟩ (all_cons ⟨ref18_Cut.ok, ref18_Cut.fo⟩ all_nil)))))))))) no_ro) Try.func5 (c := body) (by kernel_rfl)
    (just_by (by kernel_rfl) (by kernel_rfl) (all_cons lk5 (all_cons lk24 (all_cons lk29 all_nil))) all_nil) []
theorem ok : SoundF Try.prog cc 5 A :=
  mkA_ok (E := E) (p := pA) (q := pH) (t := tl) sp1_ok hk okF
theorem fo : FnOK Try.prog 5 := ⟨Try.f5, Try.func5, by kernel_rfl, by kernel_rfl⟩
theorem keep : KeepA A := mkA_keep (U := U) sp1_ok (fun (l : TA) y => ⟨(hh l y).drop 0, by kernel_rfl⟩)
end law24_PackLists

end Go.Proofs.Ytmlbioapefgioaa.Va
