/- The functions of package law43WearOf, as plain functions, and that the program computes them. Printed by a program of this work out of the evaluator. -/
import Derived.Test.YtmlbioapefgioaaEn
import Derived.Tactics
import Derived.Test.YtmlbioapefgioaaFflash
import Derived.Test.YtmlbioapefgioaaFlaw43
import Derived.Test.YtmlbioapefgioaaFref08
import Derived.Test.YtmlbioapefgioaaFref43
import Derived.Test.YtmlbioapefgioaaFwear
namespace Go.Proofs.Ytmlbioapefgioaa.Va
open Go
set_option linter.unusedVariables false
set_option maxRecDepth 100000

/-! instar/instarlaw43.WearOf -/
namespace law43_WearOf
abbrev TA : Type := (((Int × (Int × (Int × (Int × (Int × (Int × Unit)))))) × ((Int × (Int × Unit)) × ((List Int) × Unit))) × Unit)
abbrev T12 : Type := ((Unit × ((List Int) × (Unit × (Unit × (Unit × (Unit × (Unit × (Unit × (Unit × (Unit × (Int × (Unit × Unit)))))))))))) × ((Int × (Int × (Int × (Int × (Int × (Int × Unit)))))) × ((Int × (Int × Unit)) × ((Unit × (Int × (Unit × (Int × (Bool × (Int × (Unit × Unit))))))) × ((List Int) × ((List Int) × ((List Int) × ((Int × (Int × (Int × (Int × (Int × (Int × (Int × (Int × (Int × (Int × (Int × (Int × Unit)))))))))))) × ((List Int) × Unit)))))))))
abbrev S12 : Type := (Int × (Int × (Bool × (Int × ((List Int) × ((List Int) × (List Int)))))))
abbrev X12 : Type := (Int × (Bool × (Int × ((List Int) × ((List Int) × (List Int))))))
noncomputable def l12 (l_ : (List Int)) (h0_0 h0_1 h0_2 h0_3 h0_4 h0_5 h1_0 h1_1 h2_1 : Int) (h5 : (List Int)) (h6_0 h6_1 h6_2 h6_3 h6_4 h6_5 h6_6 h6_7 h6_8 h6_9 h6_10 h6_11 i h2_3 : Int) (h2_4 : Bool) (h2_5 : Int) (h3 : (List Int)) (h4 : (List Int)) (h7 : (List Int)) : Tw (S12 ⊕ X12) :=
 (.bb (decide (i < (((List.length l_) : Nat) : Int)))
  (.dd (((0 : Int) ≤ i)) inferInstance
   (.opt (l_)[(Int.toNat i)]? fun z8 =>
    (.dd (((wu64 h1_0) = (0 : Int))) inferInstance
     .no
     (.opt (flash_Flash_Erase.c (w64 (Int.tmod (wu64 z8) (wu64 h1_0))) h2_1 h2_3 h2_4 h2_5 h3 h4 h5) fun z9 =>
      (.dd ((((0 : Int) ≤ (w64 (Int.tmod (wu64 z8) (wu64 h1_0)))) ∧ ((w64 (Int.tmod (wu64 z8) (wu64 h1_0))) < (((List.length h7) : Nat) : Int)))) inferInstance
       (.opt (h7)[(Int.toNat (w64 (Int.tmod (wu64 z8) (wu64 h1_0))))]? fun z10 =>
        (.dd ((((0 : Int) ≤ (w64 (Int.tmod (wu64 z8) (wu64 h1_0)))) ∧ ((w64 (Int.tmod (wu64 z8) (wu64 h1_0))) < (((List.length h7) : Nat) : Int)))) inferInstance
         (.opt (h7)[(Int.toNat (w64 (Int.tmod (wu64 z8) (wu64 h1_0))))]? fun z11 =>
          (.ret (.inl ((w64 (i + (1 : Int))), (z9.2.1, (z9.2.2.1, (z9.2.2.2.1, (z9.2.2.2.2.1, (z9.2.2.2.2.2, (List.set h7 (Int.toNat (w64 (Int.tmod (wu64 z8) (wu64 h1_0)))) (w64 (z10 + (1 : Int)))))))))))))
         .no))
       .no))))
   .no)
  (.ret (.inr (h2_3, (h2_4, (h2_5, (h3, (h4, h7))))))))
noncomputable def L12 (l_ : (List Int)) (i h0_0 h0_1 h0_2 h0_3 h0_4 h0_5 h1_0 h1_1 h2_1 h2_3 : Int) (h2_4 : Bool) (h2_5 : Int) (h3 : (List Int)) (h4 : (List Int)) (h5 : (List Int)) (h6_0 h6_1 h6_2 h6_3 h6_4 h6_5 h6_6 h6_7 h6_8 h6_9 h6_10 h6_11 : Int) (h7 : (List Int)) : Option X12 := Lp (fun s => (l12 l_ h0_0 h0_1 h0_2 h0_3 h0_4 h0_5 h1_0 h1_1 h2_1 h5 h6_0 h6_1 h6_2 h6_3 h6_4 h6_5 h6_6 h6_7 h6_8 h6_9 h6_10 h6_11 s.1 s.2.1 s.2.2.1 s.2.2.2.1 s.2.2.2.2.1 s.2.2.2.2.2.1 s.2.2.2.2.2.2).run) (i, (h2_3, (h2_4, (h2_5, (h3, (h4, h7))))))
def p12 : Pt := (.cs (.bots 2) (.cs (.sl 1) (.cs (.ptr 0 0) (.cs (.ptr 1 0) (.cs (.bots 2) (.cs (.ptr 2 0) (.cs (.bots 1) (.cs (.ptr 6 0) (.cs (.bots 3) (.cs (.own 7) (jC (.cs (.bots 199) .nl))))))))))))
def q12 : Pt := (.cs (.var (jC (jC (jC (jC (jC (jC .nl))))))) (.cs (.var (jC (jC .nl))) (.cs (.var (.cs (.own 3) (jC (.cs (.own 4) (jC (.cs .bool (jC (.cs (.own 5) .nl)))))))) (.cs (.row 3 true) (.cs (.row 1 true) (.cs (.row 3 true) (.cs (.var (jC (jC (jC (jC (jC (jC (jC (jC (jC (jC (jC (jC .nl))))))))))))) (.cs (.row 1 true) .nl))))))))
def ou12 (l : T12) (y : X12) : Ex × St U := (.exit 0, stOf 214 [(3, .ptr 0 0), (7, .ptr 1 0), (9, .ptr 5 0), (13, .own 6)] [.var [jI l.2.1.1, jI l.2.1.2.1, jI l.2.1.2.2.1, jI l.2.1.2.2.2.1, jI l.2.1.2.2.2.2.1, jI l.2.1.2.2.2.2.2.1], .var [.own 2, jI l.2.2.2.1.2.1, .own 3, jI y.1, jB y.2.1, jI y.2.2.1, .own 4], .row 3 y.2.2.2.1 true, .row 1 y.2.2.2.2.1 true, .row 3 l.2.2.2.2.2.2.1 true, .var [jI l.2.2.2.2.2.2.2.1.1, jI l.2.2.2.2.2.2.2.1.2.1, jI l.2.2.2.2.2.2.2.1.2.2.1, jI l.2.2.2.2.2.2.2.1.2.2.2.1, jI l.2.2.2.2.2.2.2.1.2.2.2.2.1, jI l.2.2.2.2.2.2.2.1.2.2.2.2.2.1, jI l.2.2.2.2.2.2.2.1.2.2.2.2.2.2.1, jI l.2.2.2.2.2.2.2.1.2.2.2.2.2.2.2.1, jI l.2.2.2.2.2.2.2.1.2.2.2.2.2.2.2.2.1, jI l.2.2.2.2.2.2.2.1.2.2.2.2.2.2.2.2.2.1, jI l.2.2.2.2.2.2.2.1.2.2.2.2.2.2.2.2.2.2.1, jI l.2.2.2.2.2.2.2.1.2.2.2.2.2.2.2.2.2.2.2.1], .row 1 y.2.2.2.2.2 true] 0)
noncomputable def Λ12 : LFun U := mkLp (U := U) p12 q12 0 (X := X12) (fun (l : T12) => L12 l.1.2.1 l.1.2.2.2.2.2.2.2.2.2.2.1 l.2.1.1 l.2.1.2.1 l.2.1.2.2.1 l.2.1.2.2.2.1 l.2.1.2.2.2.2.1 l.2.1.2.2.2.2.2.1 l.2.2.1.1 l.2.2.1.2.1 l.2.2.2.1.2.1 l.2.2.2.1.2.2.2.1 l.2.2.2.1.2.2.2.2.1 l.2.2.2.1.2.2.2.2.2.1 l.2.2.2.2.1 l.2.2.2.2.2.1 l.2.2.2.2.2.2.1 l.2.2.2.2.2.2.2.1.1 l.2.2.2.2.2.2.2.1.2.1 l.2.2.2.2.2.2.2.1.2.2.1 l.2.2.2.2.2.2.2.1.2.2.2.1 l.2.2.2.2.2.2.2.1.2.2.2.2.1 l.2.2.2.2.2.2.2.1.2.2.2.2.2.1 l.2.2.2.2.2.2.2.1.2.2.2.2.2.2.1 l.2.2.2.2.2.2.2.1.2.2.2.2.2.2.2.1 l.2.2.2.2.2.2.2.1.2.2.2.2.2.2.2.2.1 l.2.2.2.2.2.2.2.1.2.2.2.2.2.2.2.2.2.1 l.2.2.2.2.2.2.2.1.2.2.2.2.2.2.2.2.2.2.1 l.2.2.2.2.2.2.2.1.2.2.2.2.2.2.2.2.2.2.2.1 l.2.2.2.2.2.2.2.2.1) sp1 ou12
def hd12 (l : T12) (s : S12) : T12 := (((), (l.1.2.1, ((), ((), ((), ((), ((), ((), ((), ((), (s.1, ((), ())))))))))))), ((l.2.1.1, (l.2.1.2.1, (l.2.1.2.2.1, (l.2.1.2.2.2.1, (l.2.1.2.2.2.2.1, (l.2.1.2.2.2.2.2.1, ())))))), ((l.2.2.1.1, (l.2.2.1.2.1, ())), (((), (l.2.2.2.1.2.1, ((), (s.2.1, (s.2.2.1, (s.2.2.2.1, ((), ()))))))), (s.2.2.2.2.1, (s.2.2.2.2.2.1, (l.2.2.2.2.2.2.1, ((l.2.2.2.2.2.2.2.1.1, (l.2.2.2.2.2.2.2.1.2.1, (l.2.2.2.2.2.2.2.1.2.2.1, (l.2.2.2.2.2.2.2.1.2.2.2.1, (l.2.2.2.2.2.2.2.1.2.2.2.2.1, (l.2.2.2.2.2.2.2.1.2.2.2.2.2.1, (l.2.2.2.2.2.2.2.1.2.2.2.2.2.2.1, (l.2.2.2.2.2.2.2.1.2.2.2.2.2.2.2.1, (l.2.2.2.2.2.2.2.1.2.2.2.2.2.2.2.2.1, (l.2.2.2.2.2.2.2.1.2.2.2.2.2.2.2.2.2.1, (l.2.2.2.2.2.2.2.1.2.2.2.2.2.2.2.2.2.2.1, (l.2.2.2.2.2.2.2.1.2.2.2.2.2.2.2.2.2.2.2.1, ())))))))))))), (s.2.2.2.2.2.2, ())))))))))
noncomputable def fl12 (l : T12) (s : S12) : Tw (S12 ⊕ X12) := l12 l.1.2.1 l.2.1.1 l.2.1.2.1 l.2.1.2.2.1 l.2.1.2.2.2.1 l.2.1.2.2.2.2.1 l.2.1.2.2.2.2.2.1 l.2.2.1.1 l.2.2.1.2.1 l.2.2.2.1.2.1 l.2.2.2.2.2.2.1 l.2.2.2.2.2.2.2.1.1 l.2.2.2.2.2.2.2.1.2.1 l.2.2.2.2.2.2.2.1.2.2.1 l.2.2.2.2.2.2.2.1.2.2.2.1 l.2.2.2.2.2.2.2.1.2.2.2.2.1 l.2.2.2.2.2.2.2.1.2.2.2.2.2.1 l.2.2.2.2.2.2.2.1.2.2.2.2.2.2.1 l.2.2.2.2.2.2.2.1.2.2.2.2.2.2.2.1 l.2.2.2.2.2.2.2.1.2.2.2.2.2.2.2.2.1 l.2.2.2.2.2.2.2.1.2.2.2.2.2.2.2.2.2.1 l.2.2.2.2.2.2.2.1.2.2.2.2.2.2.2.2.2.2.1 l.2.2.2.2.2.2.2.1.2.2.2.2.2.2.2.2.2.2.2.1 s.1 s.2.1 s.2.2.1 s.2.2.2.1 s.2.2.2.2.1 s.2.2.2.2.2.1 s.2.2.2.2.2.2
abbrev T21 : Type := ((Unit × (Unit × (Unit × (Unit × (Unit × (Unit × (Unit × (Unit × (Unit × (Int × (Unit × Unit))))))))))) × ((Int × (Int × (Int × (Int × (Int × (Int × Unit)))))) × ((Unit × (Int × (Unit × (Int × (Bool × (Int × (Unit × Unit))))))) × ((List Int) × ((List Int) × ((List Int) × ((Int × (Int × (Int × (Int × (Int × (Int × (Int × (Int × (Int × (Int × (Int × (Int × Unit)))))))))))) × ((List Int) × Unit))))))))
abbrev X21 : Type := (Unit ⊕ Bool)
noncomputable def l21 (h0_0 h0_1 h0_2 h0_3 h0_4 h0_5 h1_1 h1_3 : Int) (h1_4 : Bool) (h1_5 : Int) (h2 : (List Int)) (h3 : (List Int)) (h4 : (List Int)) (h5_0 h5_1 h5_2 h5_3 h5_4 h5_5 h5_6 h5_7 h5_8 h5_9 h5_10 h5_11 : Int) (h6 : (List Int)) (k : Int) : Tw (Int ⊕ X21) :=
 (.bb (decide (k < (4 : Int)))
  (.opt (ref43_Of.c h0_0 h0_1 h0_2 h0_3 h0_4 h0_5 h6 k) fun z14 =>
   (.dd ((k = (((3 : Nat) : Nat) : Int))) inferInstance
    (.bb (!((h5_9 == z14.1) && ((h5_10 == z14.2.1) && ((h5_11 == z14.2.2.1) && true))))
     (.ret (.inr (.inr false)))
     (.opt (wear_Mean.c h5_0 h5_1 h5_2 h5_3 h5_4 h5_5 h5_6 h5_7 h5_8 h5_9 h5_10 h5_11 h0_0 h0_1 h0_2 h0_3 h0_4 h0_5 k) fun z21 =>
      (.opt (Ieee.Format.div (Go.FloatKind.format Go.FloatKind.f64) (Go.FloatKind.nearest Go.FloatKind.f64 z14.2.2.1) (Go.FloatKind.nearest Go.FloatKind.f64 z14.2.2.2)) fun z22 =>
       (.bb ((Ieee.Format.order (Go.FloatKind.format Go.FloatKind.f64) z21 z22) != (Option.some Ordering.eq))
        (.ret (.inr (.inr false)))
        (.ret (.inl (w64 (k + (1 : Int)))))))))
    (.dd ((k = (((2 : Nat) : Nat) : Int))) inferInstance
     (.bb (!((h5_6 == z14.1) && ((h5_7 == z14.2.1) && ((h5_8 == z14.2.2.1) && true))))
      (.ret (.inr (.inr false)))
      (.opt (wear_Mean.c h5_0 h5_1 h5_2 h5_3 h5_4 h5_5 h5_6 h5_7 h5_8 h5_9 h5_10 h5_11 h0_0 h0_1 h0_2 h0_3 h0_4 h0_5 k) fun z19 =>
       (.opt (Ieee.Format.div (Go.FloatKind.format Go.FloatKind.f64) (Go.FloatKind.nearest Go.FloatKind.f64 z14.2.2.1) (Go.FloatKind.nearest Go.FloatKind.f64 z14.2.2.2)) fun z20 =>
        (.bb ((Ieee.Format.order (Go.FloatKind.format Go.FloatKind.f64) z19 z20) != (Option.some Ordering.eq))
         (.ret (.inr (.inr false)))
         (.ret (.inl (w64 (k + (1 : Int)))))))))
     (.dd ((k = (((1 : Nat) : Nat) : Int))) inferInstance
      (.bb (!((h5_3 == z14.1) && ((h5_4 == z14.2.1) && ((h5_5 == z14.2.2.1) && true))))
       (.ret (.inr (.inr false)))
       (.opt (wear_Mean.c h5_0 h5_1 h5_2 h5_3 h5_4 h5_5 h5_6 h5_7 h5_8 h5_9 h5_10 h5_11 h0_0 h0_1 h0_2 h0_3 h0_4 h0_5 k) fun z17 =>
        (.opt (Ieee.Format.div (Go.FloatKind.format Go.FloatKind.f64) (Go.FloatKind.nearest Go.FloatKind.f64 z14.2.2.1) (Go.FloatKind.nearest Go.FloatKind.f64 z14.2.2.2)) fun z18 =>
         (.bb ((Ieee.Format.order (Go.FloatKind.format Go.FloatKind.f64) z17 z18) != (Option.some Ordering.eq))
          (.ret (.inr (.inr false)))
          (.ret (.inl (w64 (k + (1 : Int)))))))))
      (.dd ((k = (((0 : Nat) : Nat) : Int))) inferInstance
       (.bb (!((h5_0 == z14.1) && ((h5_1 == z14.2.1) && ((h5_2 == z14.2.2.1) && true))))
        (.ret (.inr (.inr false)))
        (.opt (wear_Mean.c h5_0 h5_1 h5_2 h5_3 h5_4 h5_5 h5_6 h5_7 h5_8 h5_9 h5_10 h5_11 h0_0 h0_1 h0_2 h0_3 h0_4 h0_5 k) fun z15 =>
         (.opt (Ieee.Format.div (Go.FloatKind.format Go.FloatKind.f64) (Go.FloatKind.nearest Go.FloatKind.f64 z14.2.2.1) (Go.FloatKind.nearest Go.FloatKind.f64 z14.2.2.2)) fun z16 =>
          (.bb ((Ieee.Format.order (Go.FloatKind.format Go.FloatKind.f64) z15 z16) != (Option.some Ordering.eq))
           (.ret (.inr (.inr false)))
           (.ret (.inl (w64 (k + (1 : Int)))))))))
       .no)))))
  (.ret (.inr (.inl ()))))
noncomputable def L21 (k h0_0 h0_1 h0_2 h0_3 h0_4 h0_5 h1_1 h1_3 : Int) (h1_4 : Bool) (h1_5 : Int) (h2 : (List Int)) (h3 : (List Int)) (h4 : (List Int)) (h5_0 h5_1 h5_2 h5_3 h5_4 h5_5 h5_6 h5_7 h5_8 h5_9 h5_10 h5_11 : Int) (h6 : (List Int)) : Option X21 := Lp (fun s => (l21 h0_0 h0_1 h0_2 h0_3 h0_4 h0_5 h1_1 h1_3 h1_4 h1_5 h2 h3 h4 h5_0 h5_1 h5_2 h5_3 h5_4 h5_5 h5_6 h5_7 h5_8 h5_9 h5_10 h5_11 h6 s).run) k
def p21 : Pt := (.cs (.bots 3) (.cs (.ptr 0 0) (.cs (.bots 3) (.cs (.ptr 1 0) (.cs (.bots 1) (.cs (.ptr 5 0) (.cs (.bots 3) (.cs (.own 6) (.cs (.bots 2) (jC (.cs (.bots 197) .nl)))))))))))
def q21 : Pt := (.cs (.var (jC (jC (jC (jC (jC (jC .nl))))))) (.cs (.var (.cs (.own 2) (jC (.cs (.own 3) (jC (.cs .bool (jC (.cs (.own 4) .nl)))))))) (.cs (.row 3 true) (.cs (.row 1 true) (.cs (.row 3 true) (.cs (.var (jC (jC (jC (jC (jC (jC (jC (jC (jC (jC (jC (jC .nl))))))))))))) (.cs (.row 1 true) .nl)))))))
def ou21 (l : T21) (y : X21) : Ex × St U := (Sum.elim (fun a0 => (.exit 2, stOf 214 [(3, .ptr 0 0), (7, .ptr 1 0), (13, .own 5)] [.var [jI l.2.1.1, jI l.2.1.2.1, jI l.2.1.2.2.1, jI l.2.1.2.2.2.1, jI l.2.1.2.2.2.2.1, jI l.2.1.2.2.2.2.2.1], .var [.own 2, jI l.2.2.1.2.1, .own 3, jI l.2.2.1.2.2.2.1, jB l.2.2.1.2.2.2.2.1, jI l.2.2.1.2.2.2.2.2.1, .own 4], .row 3 l.2.2.2.1 true, .row 1 l.2.2.2.2.1 true, .row 3 l.2.2.2.2.2.1 true, .row 1 l.2.2.2.2.2.2.2.1 true] 0)) (fun b0 => (.ret, stOf 214 [(3, .ptr 0 0), (6, jB b0), (7, .ptr 1 0), (13, .own 5)] [.var [jI l.2.1.1, jI l.2.1.2.1, jI l.2.1.2.2.1, jI l.2.1.2.2.2.1, jI l.2.1.2.2.2.2.1, jI l.2.1.2.2.2.2.2.1], .var [.own 2, jI l.2.2.1.2.1, .own 3, jI l.2.2.1.2.2.2.1, jB l.2.2.1.2.2.2.2.1, jI l.2.2.1.2.2.2.2.2.1, .own 4], .row 3 l.2.2.2.1 true, .row 1 l.2.2.2.2.1 true, .row 3 l.2.2.2.2.2.1 true, .row 1 l.2.2.2.2.2.2.2.1 true] 0)) y)
noncomputable def Λ21 : LFun U := mkLp (U := U) p21 q21 0 (X := X21) (fun (l : T21) => L21 l.1.2.2.2.2.2.2.2.2.2.1 l.2.1.1 l.2.1.2.1 l.2.1.2.2.1 l.2.1.2.2.2.1 l.2.1.2.2.2.2.1 l.2.1.2.2.2.2.2.1 l.2.2.1.2.1 l.2.2.1.2.2.2.1 l.2.2.1.2.2.2.2.1 l.2.2.1.2.2.2.2.2.1 l.2.2.2.1 l.2.2.2.2.1 l.2.2.2.2.2.1 l.2.2.2.2.2.2.1.1 l.2.2.2.2.2.2.1.2.1 l.2.2.2.2.2.2.1.2.2.1 l.2.2.2.2.2.2.1.2.2.2.1 l.2.2.2.2.2.2.1.2.2.2.2.1 l.2.2.2.2.2.2.1.2.2.2.2.2.1 l.2.2.2.2.2.2.1.2.2.2.2.2.2.1 l.2.2.2.2.2.2.1.2.2.2.2.2.2.2.1 l.2.2.2.2.2.2.1.2.2.2.2.2.2.2.2.1 l.2.2.2.2.2.2.1.2.2.2.2.2.2.2.2.2.1 l.2.2.2.2.2.2.1.2.2.2.2.2.2.2.2.2.2.1 l.2.2.2.2.2.2.1.2.2.2.2.2.2.2.2.2.2.2.1 l.2.2.2.2.2.2.2.1) (spS sp1) ou21
def hd21 (l : T21) (s : Int) : T21 := (((), ((), ((), ((), ((), ((), ((), ((), ((), (s, ((), ()))))))))))), ((l.2.1.1, (l.2.1.2.1, (l.2.1.2.2.1, (l.2.1.2.2.2.1, (l.2.1.2.2.2.2.1, (l.2.1.2.2.2.2.2.1, ())))))), (((), (l.2.2.1.2.1, ((), (l.2.2.1.2.2.2.1, (l.2.2.1.2.2.2.2.1, (l.2.2.1.2.2.2.2.2.1, ((), ()))))))), (l.2.2.2.1, (l.2.2.2.2.1, (l.2.2.2.2.2.1, ((l.2.2.2.2.2.2.1.1, (l.2.2.2.2.2.2.1.2.1, (l.2.2.2.2.2.2.1.2.2.1, (l.2.2.2.2.2.2.1.2.2.2.1, (l.2.2.2.2.2.2.1.2.2.2.2.1, (l.2.2.2.2.2.2.1.2.2.2.2.2.1, (l.2.2.2.2.2.2.1.2.2.2.2.2.2.1, (l.2.2.2.2.2.2.1.2.2.2.2.2.2.2.1, (l.2.2.2.2.2.2.1.2.2.2.2.2.2.2.2.1, (l.2.2.2.2.2.2.1.2.2.2.2.2.2.2.2.2.1, (l.2.2.2.2.2.2.1.2.2.2.2.2.2.2.2.2.2.1, (l.2.2.2.2.2.2.1.2.2.2.2.2.2.2.2.2.2.2.1, ())))))))))))), (l.2.2.2.2.2.2.2.1, ()))))))))
noncomputable def fl21 (l : T21) (s : Int) : Tw (Int ⊕ X21) := l21 l.2.1.1 l.2.1.2.1 l.2.1.2.2.1 l.2.1.2.2.2.1 l.2.1.2.2.2.2.1 l.2.1.2.2.2.2.2.1 l.2.2.1.2.1 l.2.2.1.2.2.2.1 l.2.2.1.2.2.2.2.1 l.2.2.1.2.2.2.2.2.1 l.2.2.2.1 l.2.2.2.2.1 l.2.2.2.2.2.1 l.2.2.2.2.2.2.1.1 l.2.2.2.2.2.2.1.2.1 l.2.2.2.2.2.2.1.2.2.1 l.2.2.2.2.2.2.1.2.2.2.1 l.2.2.2.2.2.2.1.2.2.2.2.1 l.2.2.2.2.2.2.1.2.2.2.2.2.1 l.2.2.2.2.2.2.1.2.2.2.2.2.2.1 l.2.2.2.2.2.2.1.2.2.2.2.2.2.2.1 l.2.2.2.2.2.2.1.2.2.2.2.2.2.2.2.1 l.2.2.2.2.2.2.1.2.2.2.2.2.2.2.2.2.1 l.2.2.2.2.2.2.1.2.2.2.2.2.2.2.2.2.2.1 l.2.2.2.2.2.2.1.2.2.2.2.2.2.2.2.2.2.2.1 l.2.2.2.2.2.2.2.1 s
abbrev TC10 : Type := ((Unit × ((List Int) × (Unit × (Unit × (Unit × (Unit × (Unit × (Unit × (Unit × Unit))))))))) × ((Int × (Int × (Int × (Int × (Int × (Int × Unit)))))) × ((Int × (Int × Unit)) × ((Unit × (Int × (Unit × (Int × (Bool × (Int × (Unit × Unit))))))) × ((List Int) × ((List Int) × ((List Int) × ((Int × (Int × (Int × (Int × (Int × (Int × (Int × (Int × (Int × (Int × (Int × (Int × Unit)))))))))))) × Unit))))))))
noncomputable def c10 (l_ : (List Int)) (h0_0 h0_1 h0_2 h0_3 h0_4 h0_5 h1_0 h1_1 h2_1 h2_3 : Int) (h2_4 : Bool) (h2_5 : Int) (h3 : (List Int)) (h4 : (List Int)) (h5 : (List Int)) (h6_0 h6_1 h6_2 h6_3 h6_4 h6_5 h6_6 h6_7 h6_8 h6_9 h6_10 h6_11 : Int) : Tw Bool :=
 (.dd ((((0 : Int) ≤ h1_0) ∧ ((h1_0 ≤ h1_0) ∧ ((h1_0 ≤ (140737488355328 : Int)) ∧ ((h1_0 * (((8 : Nat) : Nat) : Int)) ≤ (140737488355328 : Int)))))) inferInstance
  (.opt (L12 l_ (0 : Int) h0_0 h0_1 h0_2 h0_3 h0_4 h0_5 h1_0 h1_1 h2_1 h2_3 h2_4 h2_5 h3 h4 h5 h6_0 h6_1 h6_2 h6_3 h6_4 h6_5 h6_6 h6_7 h6_8 h6_9 h6_10 h6_11 (List.replicate (Int.toNat h1_0) (0 : Int))) fun z12 =>
   (.opt (wear_Of.c h0_0 h0_1 h0_2 h0_3 h0_4 h0_5 h2_1 z12.1 z12.2.1 z12.2.2.1 z12.2.2.2.1 z12.2.2.2.2.1 h5) fun z13 =>
    (.bb (z13.2.2.2.2.2.2.2.2.2.2.2.2 != (0 : Int))
     (.ret false)
     (.opt (L21 (0 : Int) h0_0 h0_1 h0_2 h0_3 h0_4 h0_5 h2_1 z12.1 z12.2.1 z12.2.2.1 z12.2.2.2.1 z12.2.2.2.2.1 h5 z13.1 z13.2.1 z13.2.2.1 z13.2.2.2.1 z13.2.2.2.2.1 z13.2.2.2.2.2.1 z13.2.2.2.2.2.2.1 z13.2.2.2.2.2.2.2.1 z13.2.2.2.2.2.2.2.2.1 z13.2.2.2.2.2.2.2.2.2.1 z13.2.2.2.2.2.2.2.2.2.2.1 z13.2.2.2.2.2.2.2.2.2.2.2.1 z12.2.2.2.2.2) fun z23 =>
      (.sm z23
       (fun z24 => (.opt (wear_Worst.c h0_0 h0_1 h0_2 h0_3 h0_4 h0_5 h2_1 z12.1 z12.2.1 z12.2.2.1 z12.2.2.2.1 z12.2.2.2.2.1 h5) fun z26 =>
         (.opt (ref43_Worst.c z12.2.2.2.2.2) fun z27 =>
          (.bb (z26.1 == z27.1)
           (.bb (z26.2 == z27.2)
            (.opt (law43_awake.c) fun z28 =>
             (.ret z28))
            (.ret false))
           (.ret false)))))
       (fun z25 => (.ret z25)))))))
  .no)
noncomputable def C10 (l_ : (List Int)) (h0_0 h0_1 h0_2 h0_3 h0_4 h0_5 h1_0 h1_1 h2_1 h2_3 : Int) (h2_4 : Bool) (h2_5 : Int) (h3 : (List Int)) (h4 : (List Int)) (h5 : (List Int)) (h6_0 h6_1 h6_2 h6_3 h6_4 h6_5 h6_6 h6_7 h6_8 h6_9 h6_10 h6_11 : Int) : Option Bool := (c10 l_ h0_0 h0_1 h0_2 h0_3 h0_4 h0_5 h1_0 h1_1 h2_1 h2_3 h2_4 h2_5 h3 h4 h5 h6_0 h6_1 h6_2 h6_3 h6_4 h6_5 h6_6 h6_7 h6_8 h6_9 h6_10 h6_11).run
def pC10 : Pt := (.cs (.bots 2) (.cs (.sl 1) (.cs (.ptr 0 0) (.cs (.ptr 1 0) (.cs (.bots 2) (.cs (.ptr 2 0) (.cs (.bots 1) (.cs (.ptr 6 0) (.cs (.bots 204) .nl)))))))))
def qC10 : Pt := (.cs (.var (jC (jC (jC (jC (jC (jC .nl))))))) (.cs (.var (jC (jC .nl))) (.cs (.var (.cs (.own 3) (jC (.cs (.own 4) (jC (.cs .bool (jC (.cs (.own 5) .nl)))))))) (.cs (.row 3 true) (.cs (.row 1 true) (.cs (.row 3 true) (.cs (.var (jC (jC (jC (jC (jC (jC (jC (jC (jC (jC (jC (jC .nl))))))))))))) .nl)))))))
def ouC10 (l : TC10) (y : Bool) : Ex × St U := (.ret, stOf 214 [(6, jB y)] [] 0)
noncomputable def cl10 (l : TC10) : Tw Bool := c10 l.1.2.1 l.2.1.1 l.2.1.2.1 l.2.1.2.2.1 l.2.1.2.2.2.1 l.2.1.2.2.2.2.1 l.2.1.2.2.2.2.2.1 l.2.2.1.1 l.2.2.1.2.1 l.2.2.2.1.2.1 l.2.2.2.1.2.2.2.1 l.2.2.2.1.2.2.2.2.1 l.2.2.2.1.2.2.2.2.2.1 l.2.2.2.2.1 l.2.2.2.2.2.1 l.2.2.2.2.2.2.1 l.2.2.2.2.2.2.2.1.1 l.2.2.2.2.2.2.2.1.2.1 l.2.2.2.2.2.2.2.1.2.2.1 l.2.2.2.2.2.2.2.1.2.2.2.1 l.2.2.2.2.2.2.2.1.2.2.2.2.1 l.2.2.2.2.2.2.2.1.2.2.2.2.2.1 l.2.2.2.2.2.2.2.1.2.2.2.2.2.2.1 l.2.2.2.2.2.2.2.1.2.2.2.2.2.2.2.1 l.2.2.2.2.2.2.2.1.2.2.2.2.2.2.2.2.1 l.2.2.2.2.2.2.2.1.2.2.2.2.2.2.2.2.2.1 l.2.2.2.2.2.2.2.1.2.2.2.2.2.2.2.2.2.2.1 l.2.2.2.2.2.2.2.1.2.2.2.2.2.2.2.2.2.2.2.1
noncomputable def ΛC10 : LFun U := mkLp (U := U) pC10 qC10 0 (X := Bool) (fun (l : TC10) => C10 l.1.2.1 l.2.1.1 l.2.1.2.1 l.2.1.2.2.1 l.2.1.2.2.2.1 l.2.1.2.2.2.2.1 l.2.1.2.2.2.2.2.1 l.2.2.1.1 l.2.2.1.2.1 l.2.2.2.1.2.1 l.2.2.2.1.2.2.2.1 l.2.2.2.1.2.2.2.2.1 l.2.2.2.1.2.2.2.2.2.1 l.2.2.2.2.1 l.2.2.2.2.2.1 l.2.2.2.2.2.2.1 l.2.2.2.2.2.2.2.1.1 l.2.2.2.2.2.2.2.1.2.1 l.2.2.2.2.2.2.2.1.2.2.1 l.2.2.2.2.2.2.2.1.2.2.2.1 l.2.2.2.2.2.2.2.1.2.2.2.2.1 l.2.2.2.2.2.2.2.1.2.2.2.2.2.1 l.2.2.2.2.2.2.2.1.2.2.2.2.2.2.1 l.2.2.2.2.2.2.2.1.2.2.2.2.2.2.2.1 l.2.2.2.2.2.2.2.1.2.2.2.2.2.2.2.2.1 l.2.2.2.2.2.2.2.1.2.2.2.2.2.2.2.2.2.1 l.2.2.2.2.2.2.2.1.2.2.2.2.2.2.2.2.2.2.1 l.2.2.2.2.2.2.2.1.2.2.2.2.2.2.2.2.2.2.2.1) sp1 ouC10
abbrev T12v2 : Type := ((Unit × ((List Int) × (Unit × (Unit × (Unit × (Unit × (Unit × (Unit × (Unit × (Unit × (Int × (Unit × Unit)))))))))))) × ((Int × (Int × (Int × (Int × (Int × (Int × Unit)))))) × ((Int × (Int × Unit)) × ((Int × (Int × (Int × (Int × (Int × (Int × (Int × (Int × (Int × (Int × (Int × (Int × Unit)))))))))))) × ((List Int) × Unit)))))
abbrev S12v2 : Type := (Int × (List Int))
noncomputable def l12v2 (l_ : (List Int)) (h0_0 h0_1 h0_2 h0_3 h0_4 h0_5 h1_0 h1_1 h2_0 h2_1 h2_2 h2_3 h2_4 h2_5 h2_6 h2_7 h2_8 h2_9 h2_10 h2_11 i : Int) (h3 : (List Int)) : Tw (S12v2 ⊕ (List Int)) :=
 (.bb (decide (i < (((List.length l_) : Nat) : Int)))
  (.dd (((0 : Int) ≤ i)) inferInstance
   (.opt (l_)[(Int.toNat i)]? fun z38 =>
    (.dd (((wu64 h1_0) = (0 : Int))) inferInstance
     .no
     (.opt (flash_Flash_Erase_nil0.c (w64 (Int.tmod (wu64 z38) (wu64 h1_0)))) fun z39 =>
      (.dd ((((0 : Int) ≤ (w64 (Int.tmod (wu64 z38) (wu64 h1_0)))) ∧ ((w64 (Int.tmod (wu64 z38) (wu64 h1_0))) < (((List.length h3) : Nat) : Int)))) inferInstance
       (.opt (h3)[(Int.toNat (w64 (Int.tmod (wu64 z38) (wu64 h1_0))))]? fun z40 =>
        (.dd ((((0 : Int) ≤ (w64 (Int.tmod (wu64 z38) (wu64 h1_0)))) ∧ ((w64 (Int.tmod (wu64 z38) (wu64 h1_0))) < (((List.length h3) : Nat) : Int)))) inferInstance
         (.opt (h3)[(Int.toNat (w64 (Int.tmod (wu64 z38) (wu64 h1_0))))]? fun z41 =>
          (.ret (.inl ((w64 (i + (1 : Int))), (List.set h3 (Int.toNat (w64 (Int.tmod (wu64 z38) (wu64 h1_0)))) (w64 (z40 + (1 : Int))))))))
         .no))
       .no))))
   .no)
  (.ret (.inr h3)))
noncomputable def L12v2 (l_ : (List Int)) (i h0_0 h0_1 h0_2 h0_3 h0_4 h0_5 h1_0 h1_1 h2_0 h2_1 h2_2 h2_3 h2_4 h2_5 h2_6 h2_7 h2_8 h2_9 h2_10 h2_11 : Int) (h3 : (List Int)) : Option (List Int) := Lp (fun s => (l12v2 l_ h0_0 h0_1 h0_2 h0_3 h0_4 h0_5 h1_0 h1_1 h2_0 h2_1 h2_2 h2_3 h2_4 h2_5 h2_6 h2_7 h2_8 h2_9 h2_10 h2_11 s.1 s.2).run) (i, h3)
def p12v2 : Pt := (.cs (.bots 2) (.cs (.sl 1) (.cs (.ptr 0 0) (.cs (.ptr 1 0) (.cs (.bots 2) (.cs .nilp (.cs (.bots 1) (.cs (.ptr 2 0) (.cs (.bots 3) (.cs (.own 3) (jC (.cs (.bots 199) .nl))))))))))))
def q12v2 : Pt := (.cs (.var (jC (jC (jC (jC (jC (jC .nl))))))) (.cs (.var (jC (jC .nl))) (.cs (.var (jC (jC (jC (jC (jC (jC (jC (jC (jC (jC (jC (jC .nl))))))))))))) (.cs (.row 1 true) .nl))))
def ou12v2 (l : T12v2) (y : (List Int)) : Ex × St U := (.exit 0, stOf 214 [(3, .ptr 0 0), (7, .im .nilp), (9, .ptr 1 0), (13, .own 2)] [.var [jI l.2.1.1, jI l.2.1.2.1, jI l.2.1.2.2.1, jI l.2.1.2.2.2.1, jI l.2.1.2.2.2.2.1, jI l.2.1.2.2.2.2.2.1], .var [jI l.2.2.2.1.1, jI l.2.2.2.1.2.1, jI l.2.2.2.1.2.2.1, jI l.2.2.2.1.2.2.2.1, jI l.2.2.2.1.2.2.2.2.1, jI l.2.2.2.1.2.2.2.2.2.1, jI l.2.2.2.1.2.2.2.2.2.2.1, jI l.2.2.2.1.2.2.2.2.2.2.2.1, jI l.2.2.2.1.2.2.2.2.2.2.2.2.1, jI l.2.2.2.1.2.2.2.2.2.2.2.2.2.1, jI l.2.2.2.1.2.2.2.2.2.2.2.2.2.2.1, jI l.2.2.2.1.2.2.2.2.2.2.2.2.2.2.2.1], .row 1 y true] 0)
noncomputable def Λ12v2 : LFun U := mkLp (U := U) p12v2 q12v2 0 (X := (List Int)) (fun (l : T12v2) => L12v2 l.1.2.1 l.1.2.2.2.2.2.2.2.2.2.2.1 l.2.1.1 l.2.1.2.1 l.2.1.2.2.1 l.2.1.2.2.2.1 l.2.1.2.2.2.2.1 l.2.1.2.2.2.2.2.1 l.2.2.1.1 l.2.2.1.2.1 l.2.2.2.1.1 l.2.2.2.1.2.1 l.2.2.2.1.2.2.1 l.2.2.2.1.2.2.2.1 l.2.2.2.1.2.2.2.2.1 l.2.2.2.1.2.2.2.2.2.1 l.2.2.2.1.2.2.2.2.2.2.1 l.2.2.2.1.2.2.2.2.2.2.2.1 l.2.2.2.1.2.2.2.2.2.2.2.2.1 l.2.2.2.1.2.2.2.2.2.2.2.2.2.1 l.2.2.2.1.2.2.2.2.2.2.2.2.2.2.1 l.2.2.2.1.2.2.2.2.2.2.2.2.2.2.2.1 l.2.2.2.2.1) sp1 ou12v2
def hd12v2 (l : T12v2) (s : S12v2) : T12v2 := (((), (l.1.2.1, ((), ((), ((), ((), ((), ((), ((), ((), (s.1, ((), ())))))))))))), ((l.2.1.1, (l.2.1.2.1, (l.2.1.2.2.1, (l.2.1.2.2.2.1, (l.2.1.2.2.2.2.1, (l.2.1.2.2.2.2.2.1, ())))))), ((l.2.2.1.1, (l.2.2.1.2.1, ())), ((l.2.2.2.1.1, (l.2.2.2.1.2.1, (l.2.2.2.1.2.2.1, (l.2.2.2.1.2.2.2.1, (l.2.2.2.1.2.2.2.2.1, (l.2.2.2.1.2.2.2.2.2.1, (l.2.2.2.1.2.2.2.2.2.2.1, (l.2.2.2.1.2.2.2.2.2.2.2.1, (l.2.2.2.1.2.2.2.2.2.2.2.2.1, (l.2.2.2.1.2.2.2.2.2.2.2.2.2.1, (l.2.2.2.1.2.2.2.2.2.2.2.2.2.2.1, (l.2.2.2.1.2.2.2.2.2.2.2.2.2.2.2.1, ())))))))))))), (s.2, ())))))
noncomputable def fl12v2 (l : T12v2) (s : S12v2) : Tw (S12v2 ⊕ (List Int)) := l12v2 l.1.2.1 l.2.1.1 l.2.1.2.1 l.2.1.2.2.1 l.2.1.2.2.2.1 l.2.1.2.2.2.2.1 l.2.1.2.2.2.2.2.1 l.2.2.1.1 l.2.2.1.2.1 l.2.2.2.1.1 l.2.2.2.1.2.1 l.2.2.2.1.2.2.1 l.2.2.2.1.2.2.2.1 l.2.2.2.1.2.2.2.2.1 l.2.2.2.1.2.2.2.2.2.1 l.2.2.2.1.2.2.2.2.2.2.1 l.2.2.2.1.2.2.2.2.2.2.2.1 l.2.2.2.1.2.2.2.2.2.2.2.2.1 l.2.2.2.1.2.2.2.2.2.2.2.2.2.1 l.2.2.2.1.2.2.2.2.2.2.2.2.2.2.1 l.2.2.2.1.2.2.2.2.2.2.2.2.2.2.2.1 s.1 s.2
abbrev T21v2 : Type := ((Unit × (Unit × (Unit × (Unit × (Unit × (Unit × (Unit × (Unit × (Unit × (Int × (Unit × Unit))))))))))) × ((Int × (Int × (Int × (Int × (Int × (Int × Unit)))))) × ((Int × (Int × (Int × (Int × (Int × (Int × (Int × (Int × (Int × (Int × (Int × (Int × Unit)))))))))))) × ((List Int) × Unit))))
abbrev X21v2 : Type := (Unit ⊕ Bool)
noncomputable def l21v2 (h0_0 h0_1 h0_2 h0_3 h0_4 h0_5 h1_0 h1_1 h1_2 h1_3 h1_4 h1_5 h1_6 h1_7 h1_8 h1_9 h1_10 h1_11 : Int) (h2 : (List Int)) (k : Int) : Tw (Int ⊕ X21v2) :=
 (.bb (decide (k < (4 : Int)))
  (.opt (ref43_Of.c h0_0 h0_1 h0_2 h0_3 h0_4 h0_5 h2 k) fun z44 =>
   (.dd ((k = (((3 : Nat) : Nat) : Int))) inferInstance
    (.bb (!((h1_9 == z44.1) && ((h1_10 == z44.2.1) && ((h1_11 == z44.2.2.1) && true))))
     (.ret (.inr (.inr false)))
     (.opt (wear_Mean.c h1_0 h1_1 h1_2 h1_3 h1_4 h1_5 h1_6 h1_7 h1_8 h1_9 h1_10 h1_11 h0_0 h0_1 h0_2 h0_3 h0_4 h0_5 k) fun z51 =>
      (.opt (Ieee.Format.div (Go.FloatKind.format Go.FloatKind.f64) (Go.FloatKind.nearest Go.FloatKind.f64 z44.2.2.1) (Go.FloatKind.nearest Go.FloatKind.f64 z44.2.2.2)) fun z52 =>
       (.bb ((Ieee.Format.order (Go.FloatKind.format Go.FloatKind.f64) z51 z52) != (Option.some Ordering.eq))
        (.ret (.inr (.inr false)))
        (.ret (.inl (w64 (k + (1 : Int)))))))))
    (.dd ((k = (((2 : Nat) : Nat) : Int))) inferInstance
     (.bb (!((h1_6 == z44.1) && ((h1_7 == z44.2.1) && ((h1_8 == z44.2.2.1) && true))))
      (.ret (.inr (.inr false)))
      (.opt (wear_Mean.c h1_0 h1_1 h1_2 h1_3 h1_4 h1_5 h1_6 h1_7 h1_8 h1_9 h1_10 h1_11 h0_0 h0_1 h0_2 h0_3 h0_4 h0_5 k) fun z49 =>
       (.opt (Ieee.Format.div (Go.FloatKind.format Go.FloatKind.f64) (Go.FloatKind.nearest Go.FloatKind.f64 z44.2.2.1) (Go.FloatKind.nearest Go.FloatKind.f64 z44.2.2.2)) fun z50 =>
        (.bb ((Ieee.Format.order (Go.FloatKind.format Go.FloatKind.f64) z49 z50) != (Option.some Ordering.eq))
         (.ret (.inr (.inr false)))
         (.ret (.inl (w64 (k + (1 : Int)))))))))
     (.dd ((k = (((1 : Nat) : Nat) : Int))) inferInstance
      (.bb (!((h1_3 == z44.1) && ((h1_4 == z44.2.1) && ((h1_5 == z44.2.2.1) && true))))
       (.ret (.inr (.inr false)))
       (.opt (wear_Mean.c h1_0 h1_1 h1_2 h1_3 h1_4 h1_5 h1_6 h1_7 h1_8 h1_9 h1_10 h1_11 h0_0 h0_1 h0_2 h0_3 h0_4 h0_5 k) fun z47 =>
        (.opt (Ieee.Format.div (Go.FloatKind.format Go.FloatKind.f64) (Go.FloatKind.nearest Go.FloatKind.f64 z44.2.2.1) (Go.FloatKind.nearest Go.FloatKind.f64 z44.2.2.2)) fun z48 =>
         (.bb ((Ieee.Format.order (Go.FloatKind.format Go.FloatKind.f64) z47 z48) != (Option.some Ordering.eq))
          (.ret (.inr (.inr false)))
          (.ret (.inl (w64 (k + (1 : Int)))))))))
      (.dd ((k = (((0 : Nat) : Nat) : Int))) inferInstance
       (.bb (!((h1_0 == z44.1) && ((h1_1 == z44.2.1) && ((h1_2 == z44.2.2.1) && true))))
        (.ret (.inr (.inr false)))
        (.opt (wear_Mean.c h1_0 h1_1 h1_2 h1_3 h1_4 h1_5 h1_6 h1_7 h1_8 h1_9 h1_10 h1_11 h0_0 h0_1 h0_2 h0_3 h0_4 h0_5 k) fun z45 =>
         (.opt (Ieee.Format.div (Go.FloatKind.format Go.FloatKind.f64) (Go.FloatKind.nearest Go.FloatKind.f64 z44.2.2.1) (Go.FloatKind.nearest Go.FloatKind.f64 z44.2.2.2)) fun z46 =>
          (.bb ((Ieee.Format.order (Go.FloatKind.format Go.FloatKind.f64) z45 z46) != (Option.some Ordering.eq))
           (.ret (.inr (.inr false)))
           (.ret (.inl (w64 (k + (1 : Int)))))))))
       .no)))))
  (.ret (.inr (.inl ()))))
noncomputable def L21v2 (k h0_0 h0_1 h0_2 h0_3 h0_4 h0_5 h1_0 h1_1 h1_2 h1_3 h1_4 h1_5 h1_6 h1_7 h1_8 h1_9 h1_10 h1_11 : Int) (h2 : (List Int)) : Option X21v2 := Lp (fun s => (l21v2 h0_0 h0_1 h0_2 h0_3 h0_4 h0_5 h1_0 h1_1 h1_2 h1_3 h1_4 h1_5 h1_6 h1_7 h1_8 h1_9 h1_10 h1_11 h2 s).run) k
def p21v2 : Pt := (.cs (.bots 3) (.cs (.ptr 0 0) (.cs (.bots 3) (.cs .nilp (.cs (.bots 1) (.cs (.ptr 1 0) (.cs (.bots 3) (.cs (.own 2) (.cs (.bots 2) (jC (.cs (.bots 197) .nl)))))))))))
def q21v2 : Pt := (.cs (.var (jC (jC (jC (jC (jC (jC .nl))))))) (.cs (.var (jC (jC (jC (jC (jC (jC (jC (jC (jC (jC (jC (jC .nl))))))))))))) (.cs (.row 1 true) .nl)))
def ou21v2 (l : T21v2) (y : X21v2) : Ex × St U := (Sum.elim (fun a0 => (.exit 2, stOf 214 [(3, .ptr 0 0), (7, .im .nilp), (13, .own 1)] [.var [jI l.2.1.1, jI l.2.1.2.1, jI l.2.1.2.2.1, jI l.2.1.2.2.2.1, jI l.2.1.2.2.2.2.1, jI l.2.1.2.2.2.2.2.1], .row 1 l.2.2.2.1 true] 0)) (fun b0 => (.ret, stOf 214 [(3, .ptr 0 0), (6, jB b0), (7, .im .nilp), (13, .own 1)] [.var [jI l.2.1.1, jI l.2.1.2.1, jI l.2.1.2.2.1, jI l.2.1.2.2.2.1, jI l.2.1.2.2.2.2.1, jI l.2.1.2.2.2.2.2.1], .row 1 l.2.2.2.1 true] 0)) y)
noncomputable def Λ21v2 : LFun U := mkLp (U := U) p21v2 q21v2 0 (X := X21v2) (fun (l : T21v2) => L21v2 l.1.2.2.2.2.2.2.2.2.2.1 l.2.1.1 l.2.1.2.1 l.2.1.2.2.1 l.2.1.2.2.2.1 l.2.1.2.2.2.2.1 l.2.1.2.2.2.2.2.1 l.2.2.1.1 l.2.2.1.2.1 l.2.2.1.2.2.1 l.2.2.1.2.2.2.1 l.2.2.1.2.2.2.2.1 l.2.2.1.2.2.2.2.2.1 l.2.2.1.2.2.2.2.2.2.1 l.2.2.1.2.2.2.2.2.2.2.1 l.2.2.1.2.2.2.2.2.2.2.2.1 l.2.2.1.2.2.2.2.2.2.2.2.2.1 l.2.2.1.2.2.2.2.2.2.2.2.2.2.1 l.2.2.1.2.2.2.2.2.2.2.2.2.2.2.1 l.2.2.2.1) (spS sp1) ou21v2
def hd21v2 (l : T21v2) (s : Int) : T21v2 := (((), ((), ((), ((), ((), ((), ((), ((), ((), (s, ((), ()))))))))))), ((l.2.1.1, (l.2.1.2.1, (l.2.1.2.2.1, (l.2.1.2.2.2.1, (l.2.1.2.2.2.2.1, (l.2.1.2.2.2.2.2.1, ())))))), ((l.2.2.1.1, (l.2.2.1.2.1, (l.2.2.1.2.2.1, (l.2.2.1.2.2.2.1, (l.2.2.1.2.2.2.2.1, (l.2.2.1.2.2.2.2.2.1, (l.2.2.1.2.2.2.2.2.2.1, (l.2.2.1.2.2.2.2.2.2.2.1, (l.2.2.1.2.2.2.2.2.2.2.2.1, (l.2.2.1.2.2.2.2.2.2.2.2.2.1, (l.2.2.1.2.2.2.2.2.2.2.2.2.2.1, (l.2.2.1.2.2.2.2.2.2.2.2.2.2.2.1, ())))))))))))), (l.2.2.2.1, ()))))
noncomputable def fl21v2 (l : T21v2) (s : Int) : Tw (Int ⊕ X21v2) := l21v2 l.2.1.1 l.2.1.2.1 l.2.1.2.2.1 l.2.1.2.2.2.1 l.2.1.2.2.2.2.1 l.2.1.2.2.2.2.2.1 l.2.2.1.1 l.2.2.1.2.1 l.2.2.1.2.2.1 l.2.2.1.2.2.2.1 l.2.2.1.2.2.2.2.1 l.2.2.1.2.2.2.2.2.1 l.2.2.1.2.2.2.2.2.2.1 l.2.2.1.2.2.2.2.2.2.2.1 l.2.2.1.2.2.2.2.2.2.2.2.1 l.2.2.1.2.2.2.2.2.2.2.2.2.1 l.2.2.1.2.2.2.2.2.2.2.2.2.2.1 l.2.2.1.2.2.2.2.2.2.2.2.2.2.2.1 l.2.2.2.1 s
abbrev TC10v2 : Type := ((Unit × ((List Int) × (Unit × (Unit × (Unit × (Unit × (Unit × (Unit × (Unit × Unit))))))))) × ((Int × (Int × (Int × (Int × (Int × (Int × Unit)))))) × ((Int × (Int × Unit)) × ((Int × (Int × (Int × (Int × (Int × (Int × (Int × (Int × (Int × (Int × (Int × (Int × Unit)))))))))))) × Unit))))
noncomputable def c10v2 (l_ : (List Int)) (h0_0 h0_1 h0_2 h0_3 h0_4 h0_5 h1_0 h1_1 h2_0 h2_1 h2_2 h2_3 h2_4 h2_5 h2_6 h2_7 h2_8 h2_9 h2_10 h2_11 : Int) : Tw Bool :=
 (.dd ((((0 : Int) ≤ h1_0) ∧ ((h1_0 ≤ h1_0) ∧ ((h1_0 ≤ (140737488355328 : Int)) ∧ ((h1_0 * (((8 : Nat) : Nat) : Int)) ≤ (140737488355328 : Int)))))) inferInstance
  (.opt (L12v2 l_ (0 : Int) h0_0 h0_1 h0_2 h0_3 h0_4 h0_5 h1_0 h1_1 h2_0 h2_1 h2_2 h2_3 h2_4 h2_5 h2_6 h2_7 h2_8 h2_9 h2_10 h2_11 (List.replicate (Int.toNat h1_0) (0 : Int))) fun z42 =>
   (.opt (wear_Of_nil0.c h0_0 h0_1 h0_2 h0_3 h0_4 h0_5) fun z43 =>
    (.bb (z43.2.2.2.2.2.2.2.2.2.2.2.2 != (0 : Int))
     (.ret false)
     (.opt (L21v2 (0 : Int) h0_0 h0_1 h0_2 h0_3 h0_4 h0_5 z43.1 z43.2.1 z43.2.2.1 z43.2.2.2.1 z43.2.2.2.2.1 z43.2.2.2.2.2.1 z43.2.2.2.2.2.2.1 z43.2.2.2.2.2.2.2.1 z43.2.2.2.2.2.2.2.2.1 z43.2.2.2.2.2.2.2.2.2.1 z43.2.2.2.2.2.2.2.2.2.2.1 z43.2.2.2.2.2.2.2.2.2.2.2.1 z42) fun z53 =>
      (.sm z53
       (fun z54 => (.opt (wear_Worst_nil0.c h0_0 h0_1 h0_2 h0_3 h0_4 h0_5) fun z56 =>
         (.opt (ref43_Worst.c z42) fun z57 =>
          (.bb (z56.1 == z57.1)
           (.bb (z56.2 == z57.2)
            (.opt (law43_awake.c) fun z58 =>
             (.ret z58))
            (.ret false))
           (.ret false)))))
       (fun z55 => (.ret z55)))))))
  .no)
noncomputable def C10v2 (l_ : (List Int)) (h0_0 h0_1 h0_2 h0_3 h0_4 h0_5 h1_0 h1_1 h2_0 h2_1 h2_2 h2_3 h2_4 h2_5 h2_6 h2_7 h2_8 h2_9 h2_10 h2_11 : Int) : Option Bool := (c10v2 l_ h0_0 h0_1 h0_2 h0_3 h0_4 h0_5 h1_0 h1_1 h2_0 h2_1 h2_2 h2_3 h2_4 h2_5 h2_6 h2_7 h2_8 h2_9 h2_10 h2_11).run
def pC10v2 : Pt := (.cs (.bots 2) (.cs (.sl 1) (.cs (.ptr 0 0) (.cs (.ptr 1 0) (.cs (.bots 2) (.cs .nilp (.cs (.bots 1) (.cs (.ptr 2 0) (.cs (.bots 204) .nl)))))))))
def qC10v2 : Pt := (.cs (.var (jC (jC (jC (jC (jC (jC .nl))))))) (.cs (.var (jC (jC .nl))) (.cs (.var (jC (jC (jC (jC (jC (jC (jC (jC (jC (jC (jC (jC .nl))))))))))))) .nl)))
def ouC10v2 (l : TC10v2) (y : Bool) : Ex × St U := (.ret, stOf 214 [(6, jB y)] [] 0)
noncomputable def cl10v2 (l : TC10v2) : Tw Bool := c10v2 l.1.2.1 l.2.1.1 l.2.1.2.1 l.2.1.2.2.1 l.2.1.2.2.2.1 l.2.1.2.2.2.2.1 l.2.1.2.2.2.2.2.1 l.2.2.1.1 l.2.2.1.2.1 l.2.2.2.1.1 l.2.2.2.1.2.1 l.2.2.2.1.2.2.1 l.2.2.2.1.2.2.2.1 l.2.2.2.1.2.2.2.2.1 l.2.2.2.1.2.2.2.2.2.1 l.2.2.2.1.2.2.2.2.2.2.1 l.2.2.2.1.2.2.2.2.2.2.2.1 l.2.2.2.1.2.2.2.2.2.2.2.2.1 l.2.2.2.1.2.2.2.2.2.2.2.2.2.1 l.2.2.2.1.2.2.2.2.2.2.2.2.2.2.1 l.2.2.2.1.2.2.2.2.2.2.2.2.2.2.2.1
noncomputable def ΛC10v2 : LFun U := mkLp (U := U) pC10v2 qC10v2 0 (X := Bool) (fun (l : TC10v2) => C10v2 l.1.2.1 l.2.1.1 l.2.1.2.1 l.2.1.2.2.1 l.2.1.2.2.2.1 l.2.1.2.2.2.2.1 l.2.1.2.2.2.2.2.1 l.2.2.1.1 l.2.2.1.2.1 l.2.2.2.1.1 l.2.2.2.1.2.1 l.2.2.2.1.2.2.1 l.2.2.2.1.2.2.2.1 l.2.2.2.1.2.2.2.2.1 l.2.2.2.1.2.2.2.2.2.1 l.2.2.2.1.2.2.2.2.2.2.1 l.2.2.2.1.2.2.2.2.2.2.2.1 l.2.2.2.1.2.2.2.2.2.2.2.2.1 l.2.2.2.1.2.2.2.2.2.2.2.2.2.1 l.2.2.2.1.2.2.2.2.2.2.2.2.2.2.1 l.2.2.2.1.2.2.2.2.2.2.2.2.2.2.2.1) sp1 ouC10v2
abbrev TC3 : Type := ((Unit × ((List Int) × (Unit × (Unit × (Unit × Unit))))) × ((Int × (Int × (Int × (Int × (Int × (Int × Unit)))))) × ((Int × (Int × Unit)) × Unit)))
noncomputable def c3 (l_ : (List Int)) (h0_0 h0_1 h0_2 h0_3 h0_4 h0_5 h1_0 h1_1 : Int) : Tw Bool :=
 (.opt (flash_New.c h1_0 h1_1) fun z1 =>
  (.sm z1
   (fun z2 => (.opt (wear_Of.c h0_0 h0_1 h0_2 h0_3 h0_4 h0_5 h1_1 z2.2.1 z2.2.2.1 z2.2.2.2.1 z2.2.2.2.2.1 z2.2.2.2.2.2.1 z2.2.2.2.2.2.2) fun z4 =>
     (.opt (wear_Worst.c h0_0 h0_1 h0_2 h0_3 h0_4 h0_5 h1_1 z2.2.1 z2.2.2.1 z2.2.2.2.1 z2.2.2.2.2.1 z2.2.2.2.2.2.1 z2.2.2.2.2.2.2) fun z5 =>
      (.bb (z2.1 != (0 : Int))
       (.bb (z4.2.2.2.2.2.2.2.2.2.2.2.2 == (1 : Int))
        (.bb (z5.1 == (-(1 : Int)))
         (.bb (z5.2 == (0 : Int))
          (.bb ((z4.1 == (0 : Int)) && ((z4.2.1 == (0 : Int)) && ((z4.2.2.1 == (0 : Int)) && ((z4.2.2.2.1 == (0 : Int)) && ((z4.2.2.2.2.1 == (0 : Int)) && ((z4.2.2.2.2.2.1 == (0 : Int)) && ((z4.2.2.2.2.2.2.1 == (0 : Int)) && ((z4.2.2.2.2.2.2.2.1 == (0 : Int)) && ((z4.2.2.2.2.2.2.2.2.1 == (0 : Int)) && ((z4.2.2.2.2.2.2.2.2.2.1 == (0 : Int)) && ((z4.2.2.2.2.2.2.2.2.2.2.1 == (0 : Int)) && ((z4.2.2.2.2.2.2.2.2.2.2.2.1 == (0 : Int)) && true))))))))))))
           (.opt (law43_awake.c) fun z33 =>
            (.ret z33))
           (.ret false))
          (.ret false))
         (.ret false))
        (.ret false))
       (.opt (ref08_Right.c h0_0 h0_1 h0_2 h0_3 h0_4 h0_5) fun z6 =>
        (.bb (!z6)
         (.bb (z4.2.2.2.2.2.2.2.2.2.2.2.2 == (2 : Int))
          (.bb (z5.1 == (-(1 : Int)))
           (.bb (z5.2 == (0 : Int))
            (.bb ((z4.1 == (0 : Int)) && ((z4.2.1 == (0 : Int)) && ((z4.2.2.1 == (0 : Int)) && ((z4.2.2.2.1 == (0 : Int)) && ((z4.2.2.2.2.1 == (0 : Int)) && ((z4.2.2.2.2.2.1 == (0 : Int)) && ((z4.2.2.2.2.2.2.1 == (0 : Int)) && ((z4.2.2.2.2.2.2.2.1 == (0 : Int)) && ((z4.2.2.2.2.2.2.2.2.1 == (0 : Int)) && ((z4.2.2.2.2.2.2.2.2.2.1 == (0 : Int)) && ((z4.2.2.2.2.2.2.2.2.2.2.1 == (0 : Int)) && ((z4.2.2.2.2.2.2.2.2.2.2.2.1 == (0 : Int)) && true))))))))))))
             (.opt (law43_awake.c) fun z32 =>
              (.ret z32))
             (.ret false))
            (.ret false))
           (.ret false))
          (.ret false))
         (.opt (ref08_Map.c h0_0 h0_1 h0_2 h0_3 h0_4 h0_5) fun z7 =>
          (.bb (h1_0 != (((List.length z7) : Nat) : Int))
           (.bb (z4.2.2.2.2.2.2.2.2.2.2.2.2 == (2 : Int))
            (.bb (z5.1 == (-(1 : Int)))
             (.bb (z5.2 == (0 : Int))
              (.bb ((z4.1 == (0 : Int)) && ((z4.2.1 == (0 : Int)) && ((z4.2.2.1 == (0 : Int)) && ((z4.2.2.2.1 == (0 : Int)) && ((z4.2.2.2.2.1 == (0 : Int)) && ((z4.2.2.2.2.2.1 == (0 : Int)) && ((z4.2.2.2.2.2.2.1 == (0 : Int)) && ((z4.2.2.2.2.2.2.2.1 == (0 : Int)) && ((z4.2.2.2.2.2.2.2.2.1 == (0 : Int)) && ((z4.2.2.2.2.2.2.2.2.2.1 == (0 : Int)) && ((z4.2.2.2.2.2.2.2.2.2.2.1 == (0 : Int)) && ((z4.2.2.2.2.2.2.2.2.2.2.2.1 == (0 : Int)) && true))))))))))))
               (.opt (law43_awake.c) fun z31 =>
                (.ret z31))
               (.ret false))
              (.ret false))
             (.ret false))
            (.ret false))
           (.bb (h1_1 != h0_0)
            (.bb (z4.2.2.2.2.2.2.2.2.2.2.2.2 == (2 : Int))
             (.bb (z5.1 == (-(1 : Int)))
              (.bb (z5.2 == (0 : Int))
               (.bb ((z4.1 == (0 : Int)) && ((z4.2.1 == (0 : Int)) && ((z4.2.2.1 == (0 : Int)) && ((z4.2.2.2.1 == (0 : Int)) && ((z4.2.2.2.2.1 == (0 : Int)) && ((z4.2.2.2.2.2.1 == (0 : Int)) && ((z4.2.2.2.2.2.2.1 == (0 : Int)) && ((z4.2.2.2.2.2.2.2.1 == (0 : Int)) && ((z4.2.2.2.2.2.2.2.2.1 == (0 : Int)) && ((z4.2.2.2.2.2.2.2.2.2.1 == (0 : Int)) && ((z4.2.2.2.2.2.2.2.2.2.2.1 == (0 : Int)) && ((z4.2.2.2.2.2.2.2.2.2.2.2.1 == (0 : Int)) && true))))))))))))
                (.opt (law43_awake.c) fun z30 =>
                 (.ret z30))
                (.ret false))
               (.ret false))
              (.ret false))
             (.ret false))
            (.opt (C10 l_ h0_0 h0_1 h0_2 h0_3 h0_4 h0_5 h1_0 h1_1 h1_1 z2.2.1 z2.2.2.1 z2.2.2.2.1 z2.2.2.2.2.1 z2.2.2.2.2.2.1 z2.2.2.2.2.2.2 z4.1 z4.2.1 z4.2.2.1 z4.2.2.2.1 z4.2.2.2.2.1 z4.2.2.2.2.2.1 z4.2.2.2.2.2.2.1 z4.2.2.2.2.2.2.2.1 z4.2.2.2.2.2.2.2.2.1 z4.2.2.2.2.2.2.2.2.2.1 z4.2.2.2.2.2.2.2.2.2.2.1 z4.2.2.2.2.2.2.2.2.2.2.2.1) fun z29 =>
             (.ret z29)))))))))))
   (fun z3 => (.opt (wear_Of_nil0.c h0_0 h0_1 h0_2 h0_3 h0_4 h0_5) fun z34 =>
     (.opt (wear_Worst_nil0.c h0_0 h0_1 h0_2 h0_3 h0_4 h0_5) fun z35 =>
      (.bb (z3 != (0 : Int))
       (.bb (z34.2.2.2.2.2.2.2.2.2.2.2.2 == (1 : Int))
        (.bb (z35.1 == (-(1 : Int)))
         (.bb (z35.2 == (0 : Int))
          (.bb ((z34.1 == (0 : Int)) && ((z34.2.1 == (0 : Int)) && ((z34.2.2.1 == (0 : Int)) && ((z34.2.2.2.1 == (0 : Int)) && ((z34.2.2.2.2.1 == (0 : Int)) && ((z34.2.2.2.2.2.1 == (0 : Int)) && ((z34.2.2.2.2.2.2.1 == (0 : Int)) && ((z34.2.2.2.2.2.2.2.1 == (0 : Int)) && ((z34.2.2.2.2.2.2.2.2.1 == (0 : Int)) && ((z34.2.2.2.2.2.2.2.2.2.1 == (0 : Int)) && ((z34.2.2.2.2.2.2.2.2.2.2.1 == (0 : Int)) && ((z34.2.2.2.2.2.2.2.2.2.2.2.1 == (0 : Int)) && true))))))))))))
           (.opt (law43_awake.c) fun z63 =>
            (.ret z63))
           (.ret false))
          (.ret false))
         (.ret false))
        (.ret false))
       (.opt (ref08_Right.c h0_0 h0_1 h0_2 h0_3 h0_4 h0_5) fun z36 =>
        (.bb (!z36)
         (.bb (z34.2.2.2.2.2.2.2.2.2.2.2.2 == (2 : Int))
          (.bb (z35.1 == (-(1 : Int)))
           (.bb (z35.2 == (0 : Int))
            (.bb ((z34.1 == (0 : Int)) && ((z34.2.1 == (0 : Int)) && ((z34.2.2.1 == (0 : Int)) && ((z34.2.2.2.1 == (0 : Int)) && ((z34.2.2.2.2.1 == (0 : Int)) && ((z34.2.2.2.2.2.1 == (0 : Int)) && ((z34.2.2.2.2.2.2.1 == (0 : Int)) && ((z34.2.2.2.2.2.2.2.1 == (0 : Int)) && ((z34.2.2.2.2.2.2.2.2.1 == (0 : Int)) && ((z34.2.2.2.2.2.2.2.2.2.1 == (0 : Int)) && ((z34.2.2.2.2.2.2.2.2.2.2.1 == (0 : Int)) && ((z34.2.2.2.2.2.2.2.2.2.2.2.1 == (0 : Int)) && true))))))))))))
             (.opt (law43_awake.c) fun z62 =>
              (.ret z62))
             (.ret false))
            (.ret false))
           (.ret false))
          (.ret false))
         (.opt (ref08_Map.c h0_0 h0_1 h0_2 h0_3 h0_4 h0_5) fun z37 =>
          (.bb (h1_0 != (((List.length z37) : Nat) : Int))
           (.bb (z34.2.2.2.2.2.2.2.2.2.2.2.2 == (2 : Int))
            (.bb (z35.1 == (-(1 : Int)))
             (.bb (z35.2 == (0 : Int))
              (.bb ((z34.1 == (0 : Int)) && ((z34.2.1 == (0 : Int)) && ((z34.2.2.1 == (0 : Int)) && ((z34.2.2.2.1 == (0 : Int)) && ((z34.2.2.2.2.1 == (0 : Int)) && ((z34.2.2.2.2.2.1 == (0 : Int)) && ((z34.2.2.2.2.2.2.1 == (0 : Int)) && ((z34.2.2.2.2.2.2.2.1 == (0 : Int)) && ((z34.2.2.2.2.2.2.2.2.1 == (0 : Int)) && ((z34.2.2.2.2.2.2.2.2.2.1 == (0 : Int)) && ((z34.2.2.2.2.2.2.2.2.2.2.1 == (0 : Int)) && ((z34.2.2.2.2.2.2.2.2.2.2.2.1 == (0 : Int)) && true))))))))))))
               (.opt (law43_awake.c) fun z61 =>
                (.ret z61))
               (.ret false))
              (.ret false))
             (.ret false))
            (.ret false))
           (.bb (h1_1 != h0_0)
            (.bb (z34.2.2.2.2.2.2.2.2.2.2.2.2 == (2 : Int))
             (.bb (z35.1 == (-(1 : Int)))
              (.bb (z35.2 == (0 : Int))
               (.bb ((z34.1 == (0 : Int)) && ((z34.2.1 == (0 : Int)) && ((z34.2.2.1 == (0 : Int)) && ((z34.2.2.2.1 == (0 : Int)) && ((z34.2.2.2.2.1 == (0 : Int)) && ((z34.2.2.2.2.2.1 == (0 : Int)) && ((z34.2.2.2.2.2.2.1 == (0 : Int)) && ((z34.2.2.2.2.2.2.2.1 == (0 : Int)) && ((z34.2.2.2.2.2.2.2.2.1 == (0 : Int)) && ((z34.2.2.2.2.2.2.2.2.2.1 == (0 : Int)) && ((z34.2.2.2.2.2.2.2.2.2.2.1 == (0 : Int)) && ((z34.2.2.2.2.2.2.2.2.2.2.2.1 == (0 : Int)) && true))))))))))))
                (.opt (law43_awake.c) fun z60 =>
                 (.ret z60))
                (.ret false))
               (.ret false))
              (.ret false))
             (.ret false))
            (.opt (C10v2 l_ h0_0 h0_1 h0_2 h0_3 h0_4 h0_5 h1_0 h1_1 z34.1 z34.2.1 z34.2.2.1 z34.2.2.2.1 z34.2.2.2.2.1 z34.2.2.2.2.2.1 z34.2.2.2.2.2.2.1 z34.2.2.2.2.2.2.2.1 z34.2.2.2.2.2.2.2.2.1 z34.2.2.2.2.2.2.2.2.2.1 z34.2.2.2.2.2.2.2.2.2.2.1 z34.2.2.2.2.2.2.2.2.2.2.2.1) fun z59 =>
             (.ret z59)))))))))))))
noncomputable def C3 (l_ : (List Int)) (h0_0 h0_1 h0_2 h0_3 h0_4 h0_5 h1_0 h1_1 : Int) : Option Bool := (c3 l_ h0_0 h0_1 h0_2 h0_3 h0_4 h0_5 h1_0 h1_1).run
def pC3 : Pt := (.cs (.bots 2) (.cs (.sl 1) (.cs (.ptr 0 0) (.cs (.ptr 1 0) (.cs (.bots 209) .nl)))))
def qC3 : Pt := (.cs (.var (jC (jC (jC (jC (jC (jC .nl))))))) (.cs (.var (jC (jC .nl))) .nl))
def ouC3 (l : TC3) (y : Bool) : Ex × St U := (.ret, stOf 214 [(6, jB y)] [] 0)
noncomputable def cl3 (l : TC3) : Tw Bool := c3 l.1.2.1 l.2.1.1 l.2.1.2.1 l.2.1.2.2.1 l.2.1.2.2.2.1 l.2.1.2.2.2.2.1 l.2.1.2.2.2.2.2.1 l.2.2.1.1 l.2.2.1.2.1
noncomputable def ΛC3 : LFun U := mkLp (U := U) pC3 qC3 0 (X := Bool) (fun (l : TC3) => C3 l.1.2.1 l.2.1.1 l.2.1.2.1 l.2.1.2.2.1 l.2.1.2.2.2.1 l.2.1.2.2.2.2.1 l.2.1.2.2.2.2.2.1 l.2.2.1.1 l.2.2.1.2.1) sp1 ouC3
noncomputable def t (g_0 g_1 g_2 g_3 g_4 g_5 size_0 size_1 : Int) (l_ : (List Int)) : Tw Bool :=
 (.bb (decide ((((List.length l_) : Nat) : Int) > (300 : Int)))
  (.opt (law43_awake.c) fun z71 =>
   (.ret z71))
  (.bb (decide (size_0 > (100 : Int)))
   (.bb (decide (size_0 ≤ (512 : Int)))
    (.opt (law43_awake.c) fun z70 =>
     (.ret z70))
    (.bb (decide (size_1 > (128 : Int)))
     (.bb (decide (size_1 ≤ (1024 : Int)))
      (.opt (law43_awake.c) fun z69 =>
       (.ret z69))
      (.opt (C3 l_ g_0 g_1 g_2 g_3 g_4 g_5 size_0 size_1) fun z68 =>
       (.ret z68)))
     (.opt (C3 l_ g_0 g_1 g_2 g_3 g_4 g_5 size_0 size_1) fun z67 =>
      (.ret z67))))
   (.bb (decide (size_1 > (128 : Int)))
    (.bb (decide (size_1 ≤ (1024 : Int)))
     (.opt (law43_awake.c) fun z66 =>
      (.ret z66))
     (.opt (C3 l_ g_0 g_1 g_2 g_3 g_4 g_5 size_0 size_1) fun z65 =>
      (.ret z65)))
    (.opt (C3 l_ g_0 g_1 g_2 g_3 g_4 g_5 size_0 size_1) fun z64 =>
     (.ret z64)))))
noncomputable def c (g_0 g_1 g_2 g_3 g_4 g_5 size_0 size_1 : Int) (l_ : (List Int)) : Option Bool := (t g_0 g_1 g_2 g_3 g_4 g_5 size_0 size_1 l_).run
noncomputable def tl (l : TA) : Tw Bool := t l.1.1.1 l.1.1.2.1 l.1.1.2.2.1 l.1.1.2.2.2.1 l.1.1.2.2.2.2.1 l.1.1.2.2.2.2.2.1 l.1.2.1.1 l.1.2.1.2.1 l.1.2.2.1
noncomputable def cl (l : TA) : Option Bool := c l.1.1.1 l.1.1.2.1 l.1.1.2.2.1 l.1.1.2.2.2.1 l.1.1.2.2.2.2.1 l.1.1.2.2.2.2.2.1 l.1.2.1.1 l.1.2.1.2.1 l.1.2.2.1
def pA : Pt := (.cs (.agg (jC (jC (jC (jC (jC (jC .nl))))))) (.cs (.agg (jC (jC .nl))) (.cs (.sl 1) .nl)))
def pH : Pt := .nl
def v (l : TA) (y : Bool) : AV U := jB y
def hh (l : TA) (y : Bool) : Hp U := []
noncomputable def A : AFun U := mkA (U := U) pA pH (X := Bool) cl sp1 v hh
noncomputable def body : Code := (Go.Func.body Try.f6).getD .skip
noncomputable def Γ : List (FuncId × AFun U) := [(31, flash_New.A), (32, (orA wear_Of.pA wear_Of.pH wear_Of.A wear_Of_nil0.A)), (33, (orA wear_Worst.pA wear_Worst.pH wear_Worst.A wear_Worst_nil0.A)), (34, ref08_Right.A), (35, ref08_Map.A), (36, (orA flash_Flash_Erase.pA flash_Flash_Erase.pH flash_Flash_Erase.A flash_Flash_Erase_nil0.A)), (37, ref43_Of.A), (38, wear_Mean.A), (39, ref43_Worst.A), (30, law43_awake.A)]
noncomputable def Λ : List (Nat × LFun U) := [(12, (orL p12 q12 Λ12 Λ12v2)), (21, (orL p21 q21 Λ21 Λ21v2))]
noncomputable def CT : List (Nat × LFun U) := [(10, (orL pC10 qC10 ΛC10 ΛC10v2)), (3, ΛC3)]
def ro : List FuncId := [32, 33]
def D : Nat → Lv × Lv := dtab [(3, ⟨[4, 2, 3], []⟩, ⟨[6], []⟩), (10, ⟨[7, 4, 2, 3, 9], []⟩, ⟨[6], []⟩), (12, ⟨[14, 13, 7, 4, 2, 3, 9], []⟩, ⟨[6, 3, 9, 13, 7], []⟩), (21, ⟨[16, 3, 9, 13, 7], []⟩, ⟨[6, 13, 3, 7], []⟩)]
noncomputable def E : Env U := { E0 with Γ := Γ, Λ := Λ, C := CT, D := D, ro := ro }
theorem hf12 (R : Type) (l : T12) (s : S12) (K : Ex → St U → Option R) : codeA E (pick (loopsOf body) 12) ⟨p12.mkL (hd12 l s).1, q12.mkH (hd12 l s).2, 0⟩ (roundK E (pick (loopsOf body) 12) K) =
  (fl12 l s).runK (lpK K (fun s => ⟨p12.mkL (hd12 l s).1, q12.mkH (hd12 l s).2, 0⟩) sp1 (ou12 l)) := by kernel_rfl
theorem lk12 (R : Type) (st : St U) (K : Ex → St U → Option R) (r : R) (h : Λ12 R st K = some r) : ∃ n, loopA E (pick (loopsOf body) 12) n st K = some r :=
  lp_ok (U := U) (E := E) (b := pick (loopsOf body) 12) (m := 0) (sp := sp1) (p := p12) (q := q12) (X := X12) (S := S12) (f := fl12) (hd := hd12) (s0 := fun (l : T12) => (l.1.2.2.2.2.2.2.2.2.2.2.1, (l.2.2.2.1.2.2.2.1, (l.2.2.2.1.2.2.2.2.1, (l.2.2.2.1.2.2.2.2.2.1, (l.2.2.2.2.1, (l.2.2.2.2.2.1, l.2.2.2.2.2.2.2.2.1))))))) (ou := ou12)
    (fun l => rfl) (fun l x => by rfl) sp1_ok hf12 h
theorem hf21 (R : Type) (l : T21) (s : Int) (K : Ex → St U → Option R) : codeA E (pick (loopsOf body) 21) ⟨p21.mkL (hd21 l s).1, q21.mkH (hd21 l s).2, 0⟩ (roundK E (pick (loopsOf body) 21) K) =
  (fl21 l s).runK (lpK K (fun s => ⟨p21.mkL (hd21 l s).1, q21.mkH (hd21 l s).2, 0⟩) (spS sp1) (ou21 l)) := by kernel_rfl
theorem lk21 (R : Type) (st : St U) (K : Ex → St U → Option R) (r : R) (h : Λ21 R st K = some r) : ∃ n, loopA E (pick (loopsOf body) 21) n st K = some r :=
  lp_ok (U := U) (E := E) (b := pick (loopsOf body) 21) (m := 0) (sp := (spS sp1)) (p := p21) (q := q21) (X := X21) (S := Int) (f := fl21) (hd := hd21) (s0 := fun (l : T21) => l.1.2.2.2.2.2.2.2.2.2.1) (ou := ou21)
    (fun l => rfl) (fun l x => by repeat' (first | rfl | (cases x with | inl => rfl | inr x => ?_))) (spS_ok sp1_ok) hf21 h
theorem hc10 (R : Type) (l : TC10) (K : Ex → St U → Option R) : codeA E (pick (seqsOf body) 10) ⟨pC10.mkL l.1, qC10.mkH l.2, 0⟩ (outK E 10 K) =
  (cl10 l).runK fun y => K (ouC10 l y).1 (ouC10 l y).2 := by kernel_rfl
theorem ck10 (R : Type) (st : St U) (K : Ex → St U → Option R) (r : R) (h : ΛC10 R st K = some r) : codeA E (pick (seqsOf body) 10) st (outK E 10 K) = some r :=
  cut_ok (U := U) (E := E) (b := pick (seqsOf body) 10) (k := 10) (m := 0) (sp := sp1) (p := pC10) (q := qC10) (X := Bool) (t := cl10) (ou := ouC10) sp1_ok hc10 h
theorem hf12v2 (R : Type) (l : T12v2) (s : S12v2) (K : Ex → St U → Option R) : codeA E (pick (loopsOf body) 12) ⟨p12v2.mkL (hd12v2 l s).1, q12v2.mkH (hd12v2 l s).2, 0⟩ (roundK E (pick (loopsOf body) 12) K) =
  (fl12v2 l s).runK (lpK K (fun s => ⟨p12v2.mkL (hd12v2 l s).1, q12v2.mkH (hd12v2 l s).2, 0⟩) sp1 (ou12v2 l)) := by kernel_rfl
theorem lk12v2 (R : Type) (st : St U) (K : Ex → St U → Option R) (r : R) (h : Λ12v2 R st K = some r) : ∃ n, loopA E (pick (loopsOf body) 12) n st K = some r :=
  lp_ok (U := U) (E := E) (b := pick (loopsOf body) 12) (m := 0) (sp := sp1) (p := p12v2) (q := q12v2) (X := (List Int)) (S := S12v2) (f := fl12v2) (hd := hd12v2) (s0 := fun (l : T12v2) => (l.1.2.2.2.2.2.2.2.2.2.2.1, l.2.2.2.2.1)) (ou := ou12v2)
    (fun l => rfl) (fun l x => by rfl) sp1_ok hf12v2 h
theorem hf21v2 (R : Type) (l : T21v2) (s : Int) (K : Ex → St U → Option R) : codeA E (pick (loopsOf body) 21) ⟨p21v2.mkL (hd21v2 l s).1, q21v2.mkH (hd21v2 l s).2, 0⟩ (roundK E (pick (loopsOf body) 21) K) =
  (fl21v2 l s).runK (lpK K (fun s => ⟨p21v2.mkL (hd21v2 l s).1, q21v2.mkH (hd21v2 l s).2, 0⟩) (spS sp1) (ou21v2 l)) := by kernel_rfl
theorem lk21v2 (R : Type) (st : St U) (K : Ex → St U → Option R) (r : R) (h : Λ21v2 R st K = some r) : ∃ n, loopA E (pick (loopsOf body) 21) n st K = some r :=
  lp_ok (U := U) (E := E) (b := pick (loopsOf body) 21) (m := 0) (sp := (spS sp1)) (p := p21v2) (q := q21v2) (X := X21v2) (S := Int) (f := fl21v2) (hd := hd21v2) (s0 := fun (l : T21v2) => l.1.2.2.2.2.2.2.2.2.2.1) (ou := ou21v2)
    (fun l => rfl) (fun l x => by repeat' (first | rfl | (cases x with | inl => rfl | inr x => ?_))) (spS_ok sp1_ok) hf21v2 h
theorem hc10v2 (R : Type) (l : TC10v2) (K : Ex → St U → Option R) : codeA E (pick (seqsOf body) 10) ⟨pC10v2.mkL l.1, qC10v2.mkH l.2, 0⟩ (outK E 10 K) =
  (cl10v2 l).runK fun y => K (ouC10v2 l y).1 (ouC10v2 l y).2 := by kernel_rfl
theorem ck10v2 (R : Type) (st : St U) (K : Ex → St U → Option R) (r : R) (h : ΛC10v2 R st K = some r) : codeA E (pick (seqsOf body) 10) st (outK E 10 K) = some r :=
  cut_ok (U := U) (E := E) (b := pick (seqsOf body) 10) (k := 10) (m := 0) (sp := sp1) (p := pC10v2) (q := qC10v2) (X := Bool) (t := cl10v2) (ou := ouC10v2) sp1_ok hc10v2 h
theorem hc3 (R : Type) (l : TC3) (K : Ex → St U → Option R) : codeA E (pick (seqsOf body) 3) ⟨pC3.mkL l.1, qC3.mkH l.2, 0⟩ (outK E 3 K) =
  (cl3 l).runK fun y => K (ouC3 l y).1 (ouC3 l y).2 := by kernel_rfl
theorem ck3 (R : Type) (st : St U) (K : Ex → St U → Option R) (r : R) (h : ΛC3 R st K = some r) : codeA E (pick (seqsOf body) 3) st (outK E 3 K) = some r :=
  cut_ok (U := U) (E := E) (b := pick (seqsOf body) 3) (k := 3) (m := 0) (sp := sp1) (p := pC3) (q := qC3) (X := Bool) (t := cl3) (ou := ouC3) sp1_ok hc3 h
theorem hk (R : Type) (l : TA) (K : AV U → Hp U → Option R) : funcA E Try.f6 [] R (pA.mkL l.1) (pH.mkH l.2) K = (tl l).runK fun y => K (v l y) (hh l y) := by kernel_rfl
theorem okF : SoundF Try.prog cc 6 (funcA E Try.f6 []) :=
  funcA_ok (E := E) P_mixed (E0_ok.with Γ Λ CT D ro) (gam_of (all_cons ⟨flash_New.ok, flash_New.fo⟩ (all_cons ⟨(orA_ok wear_Of.ok wear_Of_nil0.ok), wear_Of.fo⟩ (all_cons ⟨(orA_ok wear_Worst.ok wear_Worst_nil0.ok), wear_Worst.fo⟩ (all_cons ⟨ref08_Right.ok, ref08_Right.fo⟩ (all_cons ⟨ref08_Map.ok, ref08_Map.fo⟩ (all_cons ⟨(orA_ok flash_Flash_Erase.ok flash_Flash_Erase_nil0.ok), flash_Flash_Erase.fo⟩ (all_cons ⟨ref43_Of.ok, ref43_Of.fo⟩ (all_cons ⟨wear_Mean.ok, wear_Mean.fo⟩ (all_cons ⟨ref43_Worst.ok, ref43_Worst.fo⟩ (all_cons ⟨law43_awake.ok, law43_awake.fo⟩ all_nil)))))))))) (all_cons (no_keep (by kernel_rfl)) (all_cons (fun _ => (orA_keep wear_Of.keep wear_Of_nil0.keep)) (all_cons (fun _ => (orA_keep wear_Worst.keep wear_Worst_nil0.keep)) (all_cons (no_keep (by kernel_rfl)) (all_cons (no_keep (by kernel_rfl)) (all_cons (no_keep (by kernel_rfl)) (all_cons (no_keep (by kernel_rfl)) (all_cons (no_keep (by kernel_rfl)) (all_cons (no_keep (by kernel_rfl)) (all_cons (no_keep (by kernel_rfl)) all_nil))))))))))) Try.func6 (c := body) (by kernel_rfl)
    (just_by (by kernel_rfl) (by kernel_rfl) (all_cons (orL_ok lk12 lk12v2) (all_cons (orL_ok lk21 lk21v2) all_nil)) (all_cons (orC_ok ck10 ck10v2) (all_cons ck3 all_nil))) []
theorem ok : SoundF Try.prog cc 6 A :=
  mkA_ok (E := E) (p := pA) (q := pH) (t := tl) sp1_ok hk okF
theorem fo : FnOK Try.prog 6 := ⟨Try.f6, Try.func6, by kernel_rfl, by kernel_rfl⟩
theorem keep : KeepA A := mkA_keep (U := U) sp1_ok (fun (l : TA) y => ⟨(hh l y).drop 0, by kernel_rfl⟩)
end law43_WearOf

end Go.Proofs.Ytmlbioapefgioaa.Va
