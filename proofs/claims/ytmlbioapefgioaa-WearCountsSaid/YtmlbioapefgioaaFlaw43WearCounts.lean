/- The functions of package law43WearCounts, as plain functions, and that the program computes them. Printed by a program of this work out of the evaluator. -/
import Derived.Test.YtmlbioapefgioaaEn
import Derived.Tactics
import Derived.Test.YtmlbioapefgioaaFflash
import Derived.Test.YtmlbioapefgioaaFlaw43
import Derived.Test.YtmlbioapefgioaaFref08
import Derived.Test.YtmlbioapefgioaaFwear
namespace Go.Proofs.Ytmlbioapefgioaa.Va
open Go
set_option linter.unusedVariables false
set_option maxRecDepth 100000

/-! instar/instarlaw43.WearCounts -/
namespace law43_WearCounts
abbrev TA : Type := (((Int × (Int × (Int × (Int × (Int × (Int × Unit)))))) × ((List Int) × Unit)) × Unit)
abbrev T8 : Type := ((Unit × ((List Int) × (Unit × (Unit × (Int × (Unit × (Unit × (Int × (Unit × Unit))))))))) × ((Int × (Int × (Int × (Int × (Int × (Int × Unit)))))) × ((Unit × (Int × (Unit × (Int × (Bool × (Int × (Unit × Unit))))))) × ((List Int) × ((List Int) × ((List Int) × Unit))))))
abbrev S8 : Type := (Int × (Int × (Bool × (Int × ((List Int) × (List Int))))))
abbrev X8 : Type := (Int × (Bool × (Int × ((List Int) × (List Int)))))
noncomputable def l8 (l_ : (List Int)) (n h0_0 h0_1 h0_2 h0_3 h0_4 h0_5 h1_1 : Int) (h4 : (List Int)) (i h1_3 : Int) (h1_4 : Bool) (h1_5 : Int) (h2 : (List Int)) (h3 : (List Int)) : Tw (S8 ⊕ X8) :=
 (.bb (decide (i < (((List.length l_) : Nat) : Int)))
  (.dd (((0 : Int) ≤ i)) inferInstance
   (.opt (l_)[(Int.toNat i)]? fun z6 =>
    (.dd (((wu64 n) = (0 : Int))) inferInstance
     .no
     (.opt (flash_Flash_Erase.c (w64 (Int.tmod (wu64 z6) (wu64 n))) h1_1 h1_3 h1_4 h1_5 h2 h3 h4) fun z7 =>
      (.ret (.inl ((w64 (i + (1 : Int))), (z7.2.1, (z7.2.2.1, (z7.2.2.2.1, (z7.2.2.2.2.1, z7.2.2.2.2.2))))))))))
   .no)
  (.ret (.inr (h1_3, (h1_4, (h1_5, (h2, h3)))))))
noncomputable def L8 (l_ : (List Int)) (n i h0_0 h0_1 h0_2 h0_3 h0_4 h0_5 h1_1 h1_3 : Int) (h1_4 : Bool) (h1_5 : Int) (h2 : (List Int)) (h3 : (List Int)) (h4 : (List Int)) : Option X8 := Lp (fun s => (l8 l_ n h0_0 h0_1 h0_2 h0_3 h0_4 h0_5 h1_1 h4 s.1 s.2.1 s.2.2.1 s.2.2.2.1 s.2.2.2.2.1 s.2.2.2.2.2).run) (i, (h1_3, (h1_4, (h1_5, (h2, h3)))))
def p8 : Pt := (.cs (.bots 1) (.cs (.sl 1) (.cs (.ptr 0 0) (.cs (.bots 2) (jC (.cs (.ptr 1 0) (.cs (.bots 1) (jC (.cs (.bots 118) .nl)))))))))
def q8 : Pt := (.cs (.var (jC (jC (jC (jC (jC (jC .nl))))))) (.cs (.var (.cs (.own 2) (jC (.cs (.own 3) (jC (.cs .bool (jC (.cs (.own 4) .nl)))))))) (.cs (.row 3 true) (.cs (.row 1 true) (.cs (.row 3 true) .nl)))))
def ou8 (l : T8) (y : X8) : Ex × St U := (.exit 0, stOf 127 [(1, .im (.slice 1 l.1.2.1)), (2, .ptr 0 0), (6, .ptr 1 0)] [.var [jI l.2.1.1, jI l.2.1.2.1, jI l.2.1.2.2.1, jI l.2.1.2.2.2.1, jI l.2.1.2.2.2.2.1, jI l.2.1.2.2.2.2.2.1], .var [.own 2, jI l.2.2.1.2.1, .own 3, jI y.1, jB y.2.1, jI y.2.2.1, .own 4], .row 3 y.2.2.2.1 true, .row 1 y.2.2.2.2 true, .row 3 l.2.2.2.2.2.1 true] 0)
noncomputable def Λ8 : LFun U := mkLp (U := U) p8 q8 0 (X := X8) (fun (l : T8) => L8 l.1.2.1 l.1.2.2.2.2.1 l.1.2.2.2.2.2.2.2.1 l.2.1.1 l.2.1.2.1 l.2.1.2.2.1 l.2.1.2.2.2.1 l.2.1.2.2.2.2.1 l.2.1.2.2.2.2.2.1 l.2.2.1.2.1 l.2.2.1.2.2.2.1 l.2.2.1.2.2.2.2.1 l.2.2.1.2.2.2.2.2.1 l.2.2.2.1 l.2.2.2.2.1 l.2.2.2.2.2.1) sp1 ou8
def hd8 (l : T8) (s : S8) : T8 := (((), (l.1.2.1, ((), ((), (l.1.2.2.2.2.1, ((), ((), (s.1, ((), ()))))))))), ((l.2.1.1, (l.2.1.2.1, (l.2.1.2.2.1, (l.2.1.2.2.2.1, (l.2.1.2.2.2.2.1, (l.2.1.2.2.2.2.2.1, ())))))), (((), (l.2.2.1.2.1, ((), (s.2.1, (s.2.2.1, (s.2.2.2.1, ((), ()))))))), (s.2.2.2.2.1, (s.2.2.2.2.2, (l.2.2.2.2.2.1, ()))))))
noncomputable def fl8 (l : T8) (s : S8) : Tw (S8 ⊕ X8) := l8 l.1.2.1 l.1.2.2.2.2.1 l.2.1.1 l.2.1.2.1 l.2.1.2.2.1 l.2.1.2.2.2.1 l.2.1.2.2.2.2.1 l.2.1.2.2.2.2.2.1 l.2.2.1.2.1 l.2.2.2.2.2.1 s.1 s.2.1 s.2.2.1 s.2.2.2.1 s.2.2.2.2.1 s.2.2.2.2.2
abbrev T15 : Type := ((Unit × ((List Int) × (Unit × (Unit × (Unit × (Int × (Int × (Nat × (Int × (Unit × Unit)))))))))) × ((Int × (Int × (Int × (Int × (Int × (Int × Unit)))))) × ((Int × (Int × (Int × (Int × (Int × (Int × (Int × (Int × (Int × (Int × (Int × (Int × Unit)))))))))))) × Unit)))
abbrev S15 : Type := (Int × (Nat × Int))
abbrev X15 : Type := ((Int × Nat) ⊕ (Bool × (Int × Nat)))
noncomputable def l15 (l_ : (List Int)) (h h0_0 h0_1 h0_2 h0_3 h0_4 h0_5 h1_0 h1_1 h1_2 h1_3 h1_4 h1_5 h1_6 h1_7 h1_8 h1_9 h1_10 h1_11 all : Int) (shares : Nat) (k : Int) : Tw (S15 ⊕ X15) :=
 (.bb (decide (k < (4 : Int)))
  (.opt (wear_Mean.c h1_0 h1_1 h1_2 h1_3 h1_4 h1_5 h1_6 h1_7 h1_8 h1_9 h1_10 h1_11 h0_0 h0_1 h0_2 h0_3 h0_4 h0_5 k) fun z10 =>
   (.dd ((k = (((3 : Nat) : Nat) : Int))) inferInstance
    (.opt (wear_Share.c h1_0 h1_1 h1_2 h1_3 h1_4 h1_5 h1_6 h1_7 h1_8 h1_9 h1_10 h1_11 k) fun z17 =>
     (.opt (Ieee.Format.add (Go.FloatKind.format Go.FloatKind.f64) shares z17) fun z18 =>
      (.dd ((k = (((3 : Nat) : Nat) : Int))) inferInstance
       (.bb ((Ieee.Format.order (Go.FloatKind.format Go.FloatKind.f64) (Go.FloatKind.nearest Go.FloatKind.f64 h1_9) z10) == (Option.some Ordering.gt))
        (.ret (.inr (.inr (false, ((w64 (all + h1_11)), z18)))))
        (.dd ((k = (((3 : Nat) : Nat) : Int))) inferInstance
         (.bb ((Ieee.Format.order (Go.FloatKind.format Go.FloatKind.f64) z10 (Go.FloatKind.nearest Go.FloatKind.f64 h1_10)) == (Option.some Ordering.gt))
          (.ret (.inr (.inr (false, ((w64 (all + h1_11)), z18)))))
          (.ret (.inl ((w64 (all + h1_11)), (z18, (w64 (k + (1 : Int))))))))
         (.dd ((k = (((2 : Nat) : Nat) : Int))) inferInstance
          (.bb ((Ieee.Format.order (Go.FloatKind.format Go.FloatKind.f64) z10 (Go.FloatKind.nearest Go.FloatKind.f64 h1_7)) == (Option.some Ordering.gt))
           (.ret (.inr (.inr (false, ((w64 (all + h1_11)), z18)))))
           (.ret (.inl ((w64 (all + h1_11)), (z18, (w64 (k + (1 : Int))))))))
          (.dd ((k = (((1 : Nat) : Nat) : Int))) inferInstance
           (.bb ((Ieee.Format.order (Go.FloatKind.format Go.FloatKind.f64) z10 (Go.FloatKind.nearest Go.FloatKind.f64 h1_4)) == (Option.some Ordering.gt))
            (.ret (.inr (.inr (false, ((w64 (all + h1_11)), z18)))))
            (.ret (.inl ((w64 (all + h1_11)), (z18, (w64 (k + (1 : Int))))))))
           (.dd ((k = (((0 : Nat) : Nat) : Int))) inferInstance
            (.bb ((Ieee.Format.order (Go.FloatKind.format Go.FloatKind.f64) z10 (Go.FloatKind.nearest Go.FloatKind.f64 h1_1)) == (Option.some Ordering.gt))
             (.ret (.inr (.inr (false, ((w64 (all + h1_11)), z18)))))
             (.ret (.inl ((w64 (all + h1_11)), (z18, (w64 (k + (1 : Int))))))))
            .no)))))
       (.dd ((k = (((2 : Nat) : Nat) : Int))) inferInstance
        (.bb ((Ieee.Format.order (Go.FloatKind.format Go.FloatKind.f64) (Go.FloatKind.nearest Go.FloatKind.f64 h1_6) z10) == (Option.some Ordering.gt))
         (.ret (.inr (.inr (false, ((w64 (all + h1_11)), z18)))))
         (.dd ((k = (((3 : Nat) : Nat) : Int))) inferInstance
          (.bb ((Ieee.Format.order (Go.FloatKind.format Go.FloatKind.f64) z10 (Go.FloatKind.nearest Go.FloatKind.f64 h1_10)) == (Option.some Ordering.gt))
           (.ret (.inr (.inr (false, ((w64 (all + h1_11)), z18)))))
           (.ret (.inl ((w64 (all + h1_11)), (z18, (w64 (k + (1 : Int))))))))
          (.dd ((k = (((2 : Nat) : Nat) : Int))) inferInstance
           (.bb ((Ieee.Format.order (Go.FloatKind.format Go.FloatKind.f64) z10 (Go.FloatKind.nearest Go.FloatKind.f64 h1_7)) == (Option.some Ordering.gt))
            (.ret (.inr (.inr (false, ((w64 (all + h1_11)), z18)))))
            (.ret (.inl ((w64 (all + h1_11)), (z18, (w64 (k + (1 : Int))))))))
           (.dd ((k = (((1 : Nat) : Nat) : Int))) inferInstance
            (.bb ((Ieee.Format.order (Go.FloatKind.format Go.FloatKind.f64) z10 (Go.FloatKind.nearest Go.FloatKind.f64 h1_4)) == (Option.some Ordering.gt))
             (.ret (.inr (.inr (false, ((w64 (all + h1_11)), z18)))))
             (.ret (.inl ((w64 (all + h1_11)), (z18, (w64 (k + (1 : Int))))))))
            (.dd ((k = (((0 : Nat) : Nat) : Int))) inferInstance
             (.bb ((Ieee.Format.order (Go.FloatKind.format Go.FloatKind.f64) z10 (Go.FloatKind.nearest Go.FloatKind.f64 h1_1)) == (Option.some Ordering.gt))
              (.ret (.inr (.inr (false, ((w64 (all + h1_11)), z18)))))
              (.ret (.inl ((w64 (all + h1_11)), (z18, (w64 (k + (1 : Int))))))))
             .no)))))
        (.dd ((k = (((1 : Nat) : Nat) : Int))) inferInstance
         (.bb ((Ieee.Format.order (Go.FloatKind.format Go.FloatKind.f64) (Go.FloatKind.nearest Go.FloatKind.f64 h1_3) z10) == (Option.some Ordering.gt))
          (.ret (.inr (.inr (false, ((w64 (all + h1_11)), z18)))))
          (.dd ((k = (((3 : Nat) : Nat) : Int))) inferInstance
           (.bb ((Ieee.Format.order (Go.FloatKind.format Go.FloatKind.f64) z10 (Go.FloatKind.nearest Go.FloatKind.f64 h1_10)) == (Option.some Ordering.gt))
            (.ret (.inr (.inr (false, ((w64 (all + h1_11)), z18)))))
            (.ret (.inl ((w64 (all + h1_11)), (z18, (w64 (k + (1 : Int))))))))
           (.dd ((k = (((2 : Nat) : Nat) : Int))) inferInstance
            (.bb ((Ieee.Format.order (Go.FloatKind.format Go.FloatKind.f64) z10 (Go.FloatKind.nearest Go.FloatKind.f64 h1_7)) == (Option.some Ordering.gt))
             (.ret (.inr (.inr (false, ((w64 (all + h1_11)), z18)))))
             (.ret (.inl ((w64 (all + h1_11)), (z18, (w64 (k + (1 : Int))))))))
            (.dd ((k = (((1 : Nat) : Nat) : Int))) inferInstance
             (.bb ((Ieee.Format.order (Go.FloatKind.format Go.FloatKind.f64) z10 (Go.FloatKind.nearest Go.FloatKind.f64 h1_4)) == (Option.some Ordering.gt))
              (.ret (.inr (.inr (false, ((w64 (all + h1_11)), z18)))))
              (.ret (.inl ((w64 (all + h1_11)), (z18, (w64 (k + (1 : Int))))))))
             (.dd ((k = (((0 : Nat) : Nat) : Int))) inferInstance
              (.bb ((Ieee.Format.order (Go.FloatKind.format Go.FloatKind.f64) z10 (Go.FloatKind.nearest Go.FloatKind.f64 h1_1)) == (Option.some Ordering.gt))
               (.ret (.inr (.inr (false, ((w64 (all + h1_11)), z18)))))
               (.ret (.inl ((w64 (all + h1_11)), (z18, (w64 (k + (1 : Int))))))))
              .no)))))
         (.dd ((k = (((0 : Nat) : Nat) : Int))) inferInstance
          (.bb ((Ieee.Format.order (Go.FloatKind.format Go.FloatKind.f64) (Go.FloatKind.nearest Go.FloatKind.f64 h1_0) z10) == (Option.some Ordering.gt))
           (.ret (.inr (.inr (false, ((w64 (all + h1_11)), z18)))))
           (.dd ((k = (((3 : Nat) : Nat) : Int))) inferInstance
            (.bb ((Ieee.Format.order (Go.FloatKind.format Go.FloatKind.f64) z10 (Go.FloatKind.nearest Go.FloatKind.f64 h1_10)) == (Option.some Ordering.gt))
             (.ret (.inr (.inr (false, ((w64 (all + h1_11)), z18)))))
             (.ret (.inl ((w64 (all + h1_11)), (z18, (w64 (k + (1 : Int))))))))
            (.dd ((k = (((2 : Nat) : Nat) : Int))) inferInstance
             (.bb ((Ieee.Format.order (Go.FloatKind.format Go.FloatKind.f64) z10 (Go.FloatKind.nearest Go.FloatKind.f64 h1_7)) == (Option.some Ordering.gt))
              (.ret (.inr (.inr (false, ((w64 (all + h1_11)), z18)))))
              (.ret (.inl ((w64 (all + h1_11)), (z18, (w64 (k + (1 : Int))))))))
             (.dd ((k = (((1 : Nat) : Nat) : Int))) inferInstance
              (.bb ((Ieee.Format.order (Go.FloatKind.format Go.FloatKind.f64) z10 (Go.FloatKind.nearest Go.FloatKind.f64 h1_4)) == (Option.some Ordering.gt))
               (.ret (.inr (.inr (false, ((w64 (all + h1_11)), z18)))))
               (.ret (.inl ((w64 (all + h1_11)), (z18, (w64 (k + (1 : Int))))))))
              (.dd ((k = (((0 : Nat) : Nat) : Int))) inferInstance
               (.bb ((Ieee.Format.order (Go.FloatKind.format Go.FloatKind.f64) z10 (Go.FloatKind.nearest Go.FloatKind.f64 h1_1)) == (Option.some Ordering.gt))
                (.ret (.inr (.inr (false, ((w64 (all + h1_11)), z18)))))
                (.ret (.inl ((w64 (all + h1_11)), (z18, (w64 (k + (1 : Int))))))))
               .no)))))
          .no))))))
    (.dd ((k = (((2 : Nat) : Nat) : Int))) inferInstance
     (.opt (wear_Share.c h1_0 h1_1 h1_2 h1_3 h1_4 h1_5 h1_6 h1_7 h1_8 h1_9 h1_10 h1_11 k) fun z15 =>
      (.opt (Ieee.Format.add (Go.FloatKind.format Go.FloatKind.f64) shares z15) fun z16 =>
       (.dd ((k = (((3 : Nat) : Nat) : Int))) inferInstance
        (.bb ((Ieee.Format.order (Go.FloatKind.format Go.FloatKind.f64) (Go.FloatKind.nearest Go.FloatKind.f64 h1_9) z10) == (Option.some Ordering.gt))
         (.ret (.inr (.inr (false, ((w64 (all + h1_8)), z16)))))
         (.dd ((k = (((3 : Nat) : Nat) : Int))) inferInstance
          (.bb ((Ieee.Format.order (Go.FloatKind.format Go.FloatKind.f64) z10 (Go.FloatKind.nearest Go.FloatKind.f64 h1_10)) == (Option.some Ordering.gt))
           (.ret (.inr (.inr (false, ((w64 (all + h1_8)), z16)))))
           (.ret (.inl ((w64 (all + h1_8)), (z16, (w64 (k + (1 : Int))))))))
          (.dd ((k = (((2 : Nat) : Nat) : Int))) inferInstance
           (.bb ((Ieee.Format.order (Go.FloatKind.format Go.FloatKind.f64) z10 (Go.FloatKind.nearest Go.FloatKind.f64 h1_7)) == (Option.some Ordering.gt))
            (.ret (.inr (.inr (false, ((w64 (all + h1_8)), z16)))))
            (.ret (.inl ((w64 (all + h1_8)), (z16, (w64 (k + (1 : Int))))))))
           (.dd ((k = (((1 : Nat) : Nat) : Int))) inferInstance
            (.bb ((Ieee.Format.order (Go.FloatKind.format Go.FloatKind.f64) z10 (Go.FloatKind.nearest Go.FloatKind.f64 h1_4)) == (Option.some Ordering.gt))
             (.ret (.inr (.inr (false, ((w64 (all + h1_8)), z16)))))
             (.ret (.inl ((w64 (all + h1_8)), (z16, (w64 (k + (1 : Int))))))))
            (.dd ((k = (((0 : Nat) : Nat) : Int))) inferInstance
             (.bb ((Ieee.Format.order (Go.FloatKind.format Go.FloatKind.f64) z10 (Go.FloatKind.nearest Go.FloatKind.f64 h1_1)) == (Option.some Ordering.gt))
              (.ret (.inr (.inr (false, ((w64 (all + h1_8)), z16)))))
              (.ret (.inl ((w64 (all + h1_8)), (z16, (w64 (k + (1 : Int))))))))
             .no)))))
        (.dd ((k = (((2 : Nat) : Nat) : Int))) inferInstance
         (.bb ((Ieee.Format.order (Go.FloatKind.format Go.FloatKind.f64) (Go.FloatKind.nearest Go.FloatKind.f64 h1_6) z10) == (Option.some Ordering.gt))
          (.ret (.inr (.inr (false, ((w64 (all + h1_8)), z16)))))
          (.dd ((k = (((3 : Nat) : Nat) : Int))) inferInstance
           (.bb ((Ieee.Format.order (Go.FloatKind.format Go.FloatKind.f64) z10 (Go.FloatKind.nearest Go.FloatKind.f64 h1_10)) == (Option.some Ordering.gt))
            (.ret (.inr (.inr (false, ((w64 (all + h1_8)), z16)))))
            (.ret (.inl ((w64 (all + h1_8)), (z16, (w64 (k + (1 : Int))))))))
           (.dd ((k = (((2 : Nat) : Nat) : Int))) inferInstance
            (.bb ((Ieee.Format.order (Go.FloatKind.format Go.FloatKind.f64) z10 (Go.FloatKind.nearest Go.FloatKind.f64 h1_7)) == (Option.some Ordering.gt))
             (.ret (.inr (.inr (false, ((w64 (all + h1_8)), z16)))))
             (.ret (.inl ((w64 (all + h1_8)), (z16, (w64 (k + (1 : Int))))))))
            (.dd ((k = (((1 : Nat) : Nat) : Int))) inferInstance
             (.bb ((Ieee.Format.order (Go.FloatKind.format Go.FloatKind.f64) z10 (Go.FloatKind.nearest Go.FloatKind.f64 h1_4)) == (Option.some Ordering.gt))
              (.ret (.inr (.inr (false, ((w64 (all + h1_8)), z16)))))
              (.ret (.inl ((w64 (all + h1_8)), (z16, (w64 (k + (1 : Int))))))))
             (.dd ((k = (((0 : Nat) : Nat) : Int))) inferInstance
              (.bb ((Ieee.Format.order (Go.FloatKind.format Go.FloatKind.f64) z10 (Go.FloatKind.nearest Go.FloatKind.f64 h1_1)) == (Option.some Ordering.gt))
               (.ret (.inr (.inr (false, ((w64 (all + h1_8)), z16)))))
               (.ret (.inl ((w64 (all + h1_8)), (z16, (w64 (k + (1 : Int))))))))
              .no)))))
         (.dd ((k = (((1 : Nat) : Nat) : Int))) inferInstance
          (.bb ((Ieee.Format.order (Go.FloatKind.format Go.FloatKind.f64) (Go.FloatKind.nearest Go.FloatKind.f64 h1_3) z10) == (Option.some Ordering.gt))
           (.ret (.inr (.inr (false, ((w64 (all + h1_8)), z16)))))
           (.dd ((k = (((3 : Nat) : Nat) : Int))) inferInstance
            (.bb ((Ieee.Format.order (Go.FloatKind.format Go.FloatKind.f64) z10 (Go.FloatKind.nearest Go.FloatKind.f64 h1_10)) == (Option.some Ordering.gt))
             (.ret (.inr (.inr (false, ((w64 (all + h1_8)), z16)))))
             (.ret (.inl ((w64 (all + h1_8)), (z16, (w64 (k + (1 : Int))))))))
            (.dd ((k = (((2 : Nat) : Nat) : Int))) inferInstance
             (.bb ((Ieee.Format.order (Go.FloatKind.format Go.FloatKind.f64) z10 (Go.FloatKind.nearest Go.FloatKind.f64 h1_7)) == (Option.some Ordering.gt))
              (.ret (.inr (.inr (false, ((w64 (all + h1_8)), z16)))))
              (.ret (.inl ((w64 (all + h1_8)), (z16, (w64 (k + (1 : Int))))))))
             (.dd ((k = (((1 : Nat) : Nat) : Int))) inferInstance
              (.bb ((Ieee.Format.order (Go.FloatKind.format Go.FloatKind.f64) z10 (Go.FloatKind.nearest Go.FloatKind.f64 h1_4)) == (Option.some Ordering.gt))
               (.ret (.inr (.inr (false, ((w64 (all + h1_8)), z16)))))
               (.ret (.inl ((w64 (all + h1_8)), (z16, (w64 (k + (1 : Int))))))))
              (.dd ((k = (((0 : Nat) : Nat) : Int))) inferInstance
               (.bb ((Ieee.Format.order (Go.FloatKind.format Go.FloatKind.f64) z10 (Go.FloatKind.nearest Go.FloatKind.f64 h1_1)) == (Option.some Ordering.gt))
                (.ret (.inr (.inr (false, ((w64 (all + h1_8)), z16)))))
                (.ret (.inl ((w64 (all + h1_8)), (z16, (w64 (k + (1 : Int))))))))
               .no)))))
          (.dd ((k = (((0 : Nat) : Nat) : Int))) inferInstance
           (.bb ((Ieee.Format.order (Go.FloatKind.format Go.FloatKind.f64) (Go.FloatKind.nearest Go.FloatKind.f64 h1_0) z10) == (Option.some Ordering.gt))
            (.ret (.inr (.inr (false, ((w64 (all + h1_8)), z16)))))
            (.dd ((k = (((3 : Nat) : Nat) : Int))) inferInstance
             (.bb ((Ieee.Format.order (Go.FloatKind.format Go.FloatKind.f64) z10 (Go.FloatKind.nearest Go.FloatKind.f64 h1_10)) == (Option.some Ordering.gt))
              (.ret (.inr (.inr (false, ((w64 (all + h1_8)), z16)))))
              (.ret (.inl ((w64 (all + h1_8)), (z16, (w64 (k + (1 : Int))))))))
             (.dd ((k = (((2 : Nat) : Nat) : Int))) inferInstance
              (.bb ((Ieee.Format.order (Go.FloatKind.format Go.FloatKind.f64) z10 (Go.FloatKind.nearest Go.FloatKind.f64 h1_7)) == (Option.some Ordering.gt))
               (.ret (.inr (.inr (false, ((w64 (all + h1_8)), z16)))))
               (.ret (.inl ((w64 (all + h1_8)), (z16, (w64 (k + (1 : Int))))))))
              (.dd ((k = (((1 : Nat) : Nat) : Int))) inferInstance
               (.bb ((Ieee.Format.order (Go.FloatKind.format Go.FloatKind.f64) z10 (Go.FloatKind.nearest Go.FloatKind.f64 h1_4)) == (Option.some Ordering.gt))
                (.ret (.inr (.inr (false, ((w64 (all + h1_8)), z16)))))
                (.ret (.inl ((w64 (all + h1_8)), (z16, (w64 (k + (1 : Int))))))))
               (.dd ((k = (((0 : Nat) : Nat) : Int))) inferInstance
                (.bb ((Ieee.Format.order (Go.FloatKind.format Go.FloatKind.f64) z10 (Go.FloatKind.nearest Go.FloatKind.f64 h1_1)) == (Option.some Ordering.gt))
                 (.ret (.inr (.inr (false, ((w64 (all + h1_8)), z16)))))
                 (.ret (.inl ((w64 (all + h1_8)), (z16, (w64 (k + (1 : Int))))))))
                .no)))))
           .no))))))
     (.dd ((k = (((1 : Nat) : Nat) : Int))) inferInstance
      (.opt (wear_Share.c h1_0 h1_1 h1_2 h1_3 h1_4 h1_5 h1_6 h1_7 h1_8 h1_9 h1_10 h1_11 k) fun z13 =>
       (.opt (Ieee.Format.add (Go.FloatKind.format Go.FloatKind.f64) shares z13) fun z14 =>
        (.dd ((k = (((3 : Nat) : Nat) : Int))) inferInstance
         (.bb ((Ieee.Format.order (Go.FloatKind.format Go.FloatKind.f64) (Go.FloatKind.nearest Go.FloatKind.f64 h1_9) z10) == (Option.some Ordering.gt))
          (.ret (.inr (.inr (false, ((w64 (all + h1_5)), z14)))))
          (.dd ((k = (((3 : Nat) : Nat) : Int))) inferInstance
           (.bb ((Ieee.Format.order (Go.FloatKind.format Go.FloatKind.f64) z10 (Go.FloatKind.nearest Go.FloatKind.f64 h1_10)) == (Option.some Ordering.gt))
            (.ret (.inr (.inr (false, ((w64 (all + h1_5)), z14)))))
            (.ret (.inl ((w64 (all + h1_5)), (z14, (w64 (k + (1 : Int))))))))
           (.dd ((k = (((2 : Nat) : Nat) : Int))) inferInstance
            (.bb ((Ieee.Format.order (Go.FloatKind.format Go.FloatKind.f64) z10 (Go.FloatKind.nearest Go.FloatKind.f64 h1_7)) == (Option.some Ordering.gt))
             (.ret (.inr (.inr (false, ((w64 (all + h1_5)), z14)))))
             (.ret (.inl ((w64 (all + h1_5)), (z14, (w64 (k + (1 : Int))))))))
            (.dd ((k = (((1 : Nat) : Nat) : Int))) inferInstance
             (.bb ((Ieee.Format.order (Go.FloatKind.format Go.FloatKind.f64) z10 (Go.FloatKind.nearest Go.FloatKind.f64 h1_4)) == (Option.some Ordering.gt))
              (.ret (.inr (.inr (false, ((w64 (all + h1_5)), z14)))))
              (.ret (.inl ((w64 (all + h1_5)), (z14, (w64 (k + (1 : Int))))))))
             (.dd ((k = (((0 : Nat) : Nat) : Int))) inferInstance
              (.bb ((Ieee.Format.order (Go.FloatKind.format Go.FloatKind.f64) z10 (Go.FloatKind.nearest Go.FloatKind.f64 h1_1)) == (Option.some Ordering.gt))
               (.ret (.inr (.inr (false, ((w64 (all + h1_5)), z14)))))
               (.ret (.inl ((w64 (all + h1_5)), (z14, (w64 (k + (1 : Int))))))))
              .no)))))
         (.dd ((k = (((2 : Nat) : Nat) : Int))) inferInstance
          (.bb ((Ieee.Format.order (Go.FloatKind.format Go.FloatKind.f64) (Go.FloatKind.nearest Go.FloatKind.f64 h1_6) z10) == (Option.some Ordering.gt))
           (.ret (.inr (.inr (false, ((w64 (all + h1_5)), z14)))))
           (.dd ((k = (((3 : Nat) : Nat) : Int))) inferInstance
            (.bb ((Ieee.Format.order (Go.FloatKind.format Go.FloatKind.f64) z10 (Go.FloatKind.nearest Go.FloatKind.f64 h1_10)) == (Option.some Ordering.gt))
             (.ret (.inr (.inr (false, ((w64 (all + h1_5)), z14)))))
             (.ret (.inl ((w64 (all + h1_5)), (z14, (w64 (k + (1 : Int))))))))
            (.dd ((k = (((2 : Nat) : Nat) : Int))) inferInstance
             (.bb ((Ieee.Format.order (Go.FloatKind.format Go.FloatKind.f64) z10 (Go.FloatKind.nearest Go.FloatKind.f64 h1_7)) == (Option.some Ordering.gt))
              (.ret (.inr (.inr (false, ((w64 (all + h1_5)), z14)))))
              (.ret (.inl ((w64 (all + h1_5)), (z14, (w64 (k + (1 : Int))))))))
             (.dd ((k = (((1 : Nat) : Nat) : Int))) inferInstance
              (.bb ((Ieee.Format.order (Go.FloatKind.format Go.FloatKind.f64) z10 (Go.FloatKind.nearest Go.FloatKind.f64 h1_4)) == (Option.some Ordering.gt))
               (.ret (.inr (.inr (false, ((w64 (all + h1_5)), z14)))))
               (.ret (.inl ((w64 (all + h1_5)), (z14, (w64 (k + (1 : Int))))))))
              (.dd ((k = (((0 : Nat) : Nat) : Int))) inferInstance
               (.bb ((Ieee.Format.order (Go.FloatKind.format Go.FloatKind.f64) z10 (Go.FloatKind.nearest Go.FloatKind.f64 h1_1)) == (Option.some Ordering.gt))
                (.ret (.inr (.inr (false, ((w64 (all + h1_5)), z14)))))
                (.ret (.inl ((w64 (all + h1_5)), (z14, (w64 (k + (1 : Int))))))))
               .no)))))
          (.dd ((k = (((1 : Nat) : Nat) : Int))) inferInstance
           (.bb ((Ieee.Format.order (Go.FloatKind.format Go.FloatKind.f64) (Go.FloatKind.nearest Go.FloatKind.f64 h1_3) z10) == (Option.some Ordering.gt))
            (.ret (.inr (.inr (false, ((w64 (all + h1_5)), z14)))))
            (.dd ((k = (((3 : Nat) : Nat) : Int))) inferInstance
             (.bb ((Ieee.Format.order (Go.FloatKind.format Go.FloatKind.f64) z10 (Go.FloatKind.nearest Go.FloatKind.f64 h1_10)) == (Option.some Ordering.gt))
              (.ret (.inr (.inr (false, ((w64 (all + h1_5)), z14)))))
              (.ret (.inl ((w64 (all + h1_5)), (z14, (w64 (k + (1 : Int))))))))
             (.dd ((k = (((2 : Nat) : Nat) : Int))) inferInstance
              (.bb ((Ieee.Format.order (Go.FloatKind.format Go.FloatKind.f64) z10 (Go.FloatKind.nearest Go.FloatKind.f64 h1_7)) == (Option.some Ordering.gt))
               (.ret (.inr (.inr (false, ((w64 (all + h1_5)), z14)))))
               (.ret (.inl ((w64 (all + h1_5)), (z14, (w64 (k + (1 : Int))))))))
              (.dd ((k = (((1 : Nat) : Nat) : Int))) inferInstance
               (.bb ((Ieee.Format.order (Go.FloatKind.format Go.FloatKind.f64) z10 (Go.FloatKind.nearest Go.FloatKind.f64 h1_4)) == (Option.some Ordering.gt))
                (.ret (.inr (.inr (false, ((w64 (all + h1_5)), z14)))))
                (.ret (.inl ((w64 (all + h1_5)), (z14, (w64 (k + (1 : Int))))))))
               (.dd ((k = (((0 : Nat) : Nat) : Int))) inferInstance
                (.bb ((Ieee.Format.order (Go.FloatKind.format Go.FloatKind.f64) z10 (Go.FloatKind.nearest Go.FloatKind.f64 h1_1)) == (Option.some Ordering.gt))
                 (.ret (.inr (.inr (false, ((w64 (all + h1_5)), z14)))))
                 (.ret (.inl ((w64 (all + h1_5)), (z14, (w64 (k + (1 : Int))))))))
                .no)))))
           (.dd ((k = (((0 : Nat) : Nat) : Int))) inferInstance
            (.bb ((Ieee.Format.order (Go.FloatKind.format Go.FloatKind.f64) (Go.FloatKind.nearest Go.FloatKind.f64 h1_0) z10) == (Option.some Ordering.gt))
             (.ret (.inr (.inr (false, ((w64 (all + h1_5)), z14)))))
             (.dd ((k = (((3 : Nat) : Nat) : Int))) inferInstance
              (.bb ((Ieee.Format.order (Go.FloatKind.format Go.FloatKind.f64) z10 (Go.FloatKind.nearest Go.FloatKind.f64 h1_10)) == (Option.some Ordering.gt))
               (.ret (.inr (.inr (false, ((w64 (all + h1_5)), z14)))))
               (.ret (.inl ((w64 (all + h1_5)), (z14, (w64 (k + (1 : Int))))))))
              (.dd ((k = (((2 : Nat) : Nat) : Int))) inferInstance
               (.bb ((Ieee.Format.order (Go.FloatKind.format Go.FloatKind.f64) z10 (Go.FloatKind.nearest Go.FloatKind.f64 h1_7)) == (Option.some Ordering.gt))
                (.ret (.inr (.inr (false, ((w64 (all + h1_5)), z14)))))
                (.ret (.inl ((w64 (all + h1_5)), (z14, (w64 (k + (1 : Int))))))))
               (.dd ((k = (((1 : Nat) : Nat) : Int))) inferInstance
                (.bb ((Ieee.Format.order (Go.FloatKind.format Go.FloatKind.f64) z10 (Go.FloatKind.nearest Go.FloatKind.f64 h1_4)) == (Option.some Ordering.gt))
                 (.ret (.inr (.inr (false, ((w64 (all + h1_5)), z14)))))
                 (.ret (.inl ((w64 (all + h1_5)), (z14, (w64 (k + (1 : Int))))))))
                (.dd ((k = (((0 : Nat) : Nat) : Int))) inferInstance
                 (.bb ((Ieee.Format.order (Go.FloatKind.format Go.FloatKind.f64) z10 (Go.FloatKind.nearest Go.FloatKind.f64 h1_1)) == (Option.some Ordering.gt))
                  (.ret (.inr (.inr (false, ((w64 (all + h1_5)), z14)))))
                  (.ret (.inl ((w64 (all + h1_5)), (z14, (w64 (k + (1 : Int))))))))
                 .no)))))
            .no))))))
      (.dd ((k = (((0 : Nat) : Nat) : Int))) inferInstance
       (.opt (wear_Share.c h1_0 h1_1 h1_2 h1_3 h1_4 h1_5 h1_6 h1_7 h1_8 h1_9 h1_10 h1_11 k) fun z11 =>
        (.opt (Ieee.Format.add (Go.FloatKind.format Go.FloatKind.f64) shares z11) fun z12 =>
         (.dd ((k = (((3 : Nat) : Nat) : Int))) inferInstance
          (.bb ((Ieee.Format.order (Go.FloatKind.format Go.FloatKind.f64) (Go.FloatKind.nearest Go.FloatKind.f64 h1_9) z10) == (Option.some Ordering.gt))
           (.ret (.inr (.inr (false, ((w64 (all + h1_2)), z12)))))
           (.dd ((k = (((3 : Nat) : Nat) : Int))) inferInstance
            (.bb ((Ieee.Format.order (Go.FloatKind.format Go.FloatKind.f64) z10 (Go.FloatKind.nearest Go.FloatKind.f64 h1_10)) == (Option.some Ordering.gt))
             (.ret (.inr (.inr (false, ((w64 (all + h1_2)), z12)))))
             (.ret (.inl ((w64 (all + h1_2)), (z12, (w64 (k + (1 : Int))))))))
            (.dd ((k = (((2 : Nat) : Nat) : Int))) inferInstance
             (.bb ((Ieee.Format.order (Go.FloatKind.format Go.FloatKind.f64) z10 (Go.FloatKind.nearest Go.FloatKind.f64 h1_7)) == (Option.some Ordering.gt))
              (.ret (.inr (.inr (false, ((w64 (all + h1_2)), z12)))))
              (.ret (.inl ((w64 (all + h1_2)), (z12, (w64 (k + (1 : Int))))))))
             (.dd ((k = (((1 : Nat) : Nat) : Int))) inferInstance
              (.bb ((Ieee.Format.order (Go.FloatKind.format Go.FloatKind.f64) z10 (Go.FloatKind.nearest Go.FloatKind.f64 h1_4)) == (Option.some Ordering.gt))
               (.ret (.inr (.inr (false, ((w64 (all + h1_2)), z12)))))
               (.ret (.inl ((w64 (all + h1_2)), (z12, (w64 (k + (1 : Int))))))))
              (.dd ((k = (((0 : Nat) : Nat) : Int))) inferInstance
               (.bb ((Ieee.Format.order (Go.FloatKind.format Go.FloatKind.f64) z10 (Go.FloatKind.nearest Go.FloatKind.f64 h1_1)) == (Option.some Ordering.gt))
                (.ret (.inr (.inr (false, ((w64 (all + h1_2)), z12)))))
                (.ret (.inl ((w64 (all + h1_2)), (z12, (w64 (k + (1 : Int))))))))
               .no)))))
          (.dd ((k = (((2 : Nat) : Nat) : Int))) inferInstance
           (.bb ((Ieee.Format.order (Go.FloatKind.format Go.FloatKind.f64) (Go.FloatKind.nearest Go.FloatKind.f64 h1_6) z10) == (Option.some Ordering.gt))
            (.ret (.inr (.inr (false, ((w64 (all + h1_2)), z12)))))
            (.dd ((k = (((3 : Nat) : Nat) : Int))) inferInstance
             (.bb ((Ieee.Format.order (Go.FloatKind.format Go.FloatKind.f64) z10 (Go.FloatKind.nearest Go.FloatKind.f64 h1_10)) == (Option.some Ordering.gt))
              (.ret (.inr (.inr (false, ((w64 (all + h1_2)), z12)))))
              (.ret (.inl ((w64 (all + h1_2)), (z12, (w64 (k + (1 : Int))))))))
             (.dd ((k = (((2 : Nat) : Nat) : Int))) inferInstance
              (.bb ((Ieee.Format.order (Go.FloatKind.format Go.FloatKind.f64) z10 (Go.FloatKind.nearest Go.FloatKind.f64 h1_7)) == (Option.some Ordering.gt))
               (.ret (.inr (.inr (false, ((w64 (all + h1_2)), z12)))))
               (.ret (.inl ((w64 (all + h1_2)), (z12, (w64 (k + (1 : Int))))))))
              (.dd ((k = (((1 : Nat) : Nat) : Int))) inferInstance
               (.bb ((Ieee.Format.order (Go.FloatKind.format Go.FloatKind.f64) z10 (Go.FloatKind.nearest Go.FloatKind.f64 h1_4)) == (Option.some Ordering.gt))
                (.ret (.inr (.inr (false, ((w64 (all + h1_2)), z12)))))
                (.ret (.inl ((w64 (all + h1_2)), (z12, (w64 (k + (1 : Int))))))))
               (.dd ((k = (((0 : Nat) : Nat) : Int))) inferInstance
                (.bb ((Ieee.Format.order (Go.FloatKind.format Go.FloatKind.f64) z10 (Go.FloatKind.nearest Go.FloatKind.f64 h1_1)) == (Option.some Ordering.gt))
                 (.ret (.inr (.inr (false, ((w64 (all + h1_2)), z12)))))
                 (.ret (.inl ((w64 (all + h1_2)), (z12, (w64 (k + (1 : Int))))))))
                .no)))))
           (.dd ((k = (((1 : Nat) : Nat) : Int))) inferInstance
            (.bb ((Ieee.Format.order (Go.FloatKind.format Go.FloatKind.f64) (Go.FloatKind.nearest Go.FloatKind.f64 h1_3) z10) == (Option.some Ordering.gt))
             (.ret (.inr (.inr (false, ((w64 (all + h1_2)), z12)))))
             (.dd ((k = (((3 : Nat) : Nat) : Int))) inferInstance
              (.bb ((Ieee.Format.order (Go.FloatKind.format Go.FloatKind.f64) z10 (Go.FloatKind.nearest Go.FloatKind.f64 h1_10)) == (Option.some Ordering.gt))
               (.ret (.inr (.inr (false, ((w64 (all + h1_2)), z12)))))
               (.ret (.inl ((w64 (all + h1_2)), (z12, (w64 (k + (1 : Int))))))))
              (.dd ((k = (((2 : Nat) : Nat) : Int))) inferInstance
               (.bb ((Ieee.Format.order (Go.FloatKind.format Go.FloatKind.f64) z10 (Go.FloatKind.nearest Go.FloatKind.f64 h1_7)) == (Option.some Ordering.gt))
                (.ret (.inr (.inr (false, ((w64 (all + h1_2)), z12)))))
                (.ret (.inl ((w64 (all + h1_2)), (z12, (w64 (k + (1 : Int))))))))
               (.dd ((k = (((1 : Nat) : Nat) : Int))) inferInstance
                (.bb ((Ieee.Format.order (Go.FloatKind.format Go.FloatKind.f64) z10 (Go.FloatKind.nearest Go.FloatKind.f64 h1_4)) == (Option.some Ordering.gt))
                 (.ret (.inr (.inr (false, ((w64 (all + h1_2)), z12)))))
                 (.ret (.inl ((w64 (all + h1_2)), (z12, (w64 (k + (1 : Int))))))))
                (.dd ((k = (((0 : Nat) : Nat) : Int))) inferInstance
                 (.bb ((Ieee.Format.order (Go.FloatKind.format Go.FloatKind.f64) z10 (Go.FloatKind.nearest Go.FloatKind.f64 h1_1)) == (Option.some Ordering.gt))
                  (.ret (.inr (.inr (false, ((w64 (all + h1_2)), z12)))))
                  (.ret (.inl ((w64 (all + h1_2)), (z12, (w64 (k + (1 : Int))))))))
                 .no)))))
            (.dd ((k = (((0 : Nat) : Nat) : Int))) inferInstance
             (.bb ((Ieee.Format.order (Go.FloatKind.format Go.FloatKind.f64) (Go.FloatKind.nearest Go.FloatKind.f64 h1_0) z10) == (Option.some Ordering.gt))
              (.ret (.inr (.inr (false, ((w64 (all + h1_2)), z12)))))
              (.dd ((k = (((3 : Nat) : Nat) : Int))) inferInstance
               (.bb ((Ieee.Format.order (Go.FloatKind.format Go.FloatKind.f64) z10 (Go.FloatKind.nearest Go.FloatKind.f64 h1_10)) == (Option.some Ordering.gt))
                (.ret (.inr (.inr (false, ((w64 (all + h1_2)), z12)))))
                (.ret (.inl ((w64 (all + h1_2)), (z12, (w64 (k + (1 : Int))))))))
               (.dd ((k = (((2 : Nat) : Nat) : Int))) inferInstance
                (.bb ((Ieee.Format.order (Go.FloatKind.format Go.FloatKind.f64) z10 (Go.FloatKind.nearest Go.FloatKind.f64 h1_7)) == (Option.some Ordering.gt))
                 (.ret (.inr (.inr (false, ((w64 (all + h1_2)), z12)))))
                 (.ret (.inl ((w64 (all + h1_2)), (z12, (w64 (k + (1 : Int))))))))
                (.dd ((k = (((1 : Nat) : Nat) : Int))) inferInstance
                 (.bb ((Ieee.Format.order (Go.FloatKind.format Go.FloatKind.f64) z10 (Go.FloatKind.nearest Go.FloatKind.f64 h1_4)) == (Option.some Ordering.gt))
                  (.ret (.inr (.inr (false, ((w64 (all + h1_2)), z12)))))
                  (.ret (.inl ((w64 (all + h1_2)), (z12, (w64 (k + (1 : Int))))))))
                 (.dd ((k = (((0 : Nat) : Nat) : Int))) inferInstance
                  (.bb ((Ieee.Format.order (Go.FloatKind.format Go.FloatKind.f64) z10 (Go.FloatKind.nearest Go.FloatKind.f64 h1_1)) == (Option.some Ordering.gt))
                   (.ret (.inr (.inr (false, ((w64 (all + h1_2)), z12)))))
                   (.ret (.inl ((w64 (all + h1_2)), (z12, (w64 (k + (1 : Int))))))))
                  .no)))))
             .no))))))
       .no)))))
  (.ret (.inr (.inl (all, shares)))))
noncomputable def L15 (l_ : (List Int)) (h all : Int) (shares : Nat) (k h0_0 h0_1 h0_2 h0_3 h0_4 h0_5 h1_0 h1_1 h1_2 h1_3 h1_4 h1_5 h1_6 h1_7 h1_8 h1_9 h1_10 h1_11 : Int) : Option X15 := Lp (fun s => (l15 l_ h h0_0 h0_1 h0_2 h0_3 h0_4 h0_5 h1_0 h1_1 h1_2 h1_3 h1_4 h1_5 h1_6 h1_7 h1_8 h1_9 h1_10 h1_11 s.1 s.2.1 s.2.2).run) (all, (shares, k))
def p15 : Pt := (.cs (.bots 1) (.cs (.sl 1) (.cs (.ptr 0 0) (.cs (.bots 6) (.cs (.ptr 1 0) (jC (jC (.cs (.flt .f64) (jC (.cs (.bots 113) .nl))))))))))
def q15 : Pt := (.cs (.var (jC (jC (jC (jC (jC (jC .nl))))))) (.cs (.var (jC (jC (jC (jC (jC (jC (jC (jC (jC (jC (jC (jC .nl))))))))))))) .nl))
def ou15 (l : T15) (y : X15) : Ex × St U := (Sum.elim (fun a0 => (.exit 2, stOf 127 [(1, .im (.slice 1 l.1.2.1)), (10, jI l.1.2.2.2.2.2.1), (11, jI a0.1), (12, .im (.flt .f64 a0.2))] [] 0)) (fun b0 => (.ret, stOf 127 [(1, .im (.slice 1 l.1.2.1)), (4, jB b0.1), (10, jI l.1.2.2.2.2.2.1), (11, jI b0.2.1), (12, .im (.flt .f64 b0.2.2))] [] 0)) y)
noncomputable def Λ15 : LFun U := mkLp (U := U) p15 q15 0 (X := X15) (fun (l : T15) => L15 l.1.2.1 l.1.2.2.2.2.2.1 l.1.2.2.2.2.2.2.1 l.1.2.2.2.2.2.2.2.1 l.1.2.2.2.2.2.2.2.2.1 l.2.1.1 l.2.1.2.1 l.2.1.2.2.1 l.2.1.2.2.2.1 l.2.1.2.2.2.2.1 l.2.1.2.2.2.2.2.1 l.2.2.1.1 l.2.2.1.2.1 l.2.2.1.2.2.1 l.2.2.1.2.2.2.1 l.2.2.1.2.2.2.2.1 l.2.2.1.2.2.2.2.2.1 l.2.2.1.2.2.2.2.2.2.1 l.2.2.1.2.2.2.2.2.2.2.1 l.2.2.1.2.2.2.2.2.2.2.2.1 l.2.2.1.2.2.2.2.2.2.2.2.2.1 l.2.2.1.2.2.2.2.2.2.2.2.2.2.1 l.2.2.1.2.2.2.2.2.2.2.2.2.2.2.1) (spS sp1) ou15
def hd15 (l : T15) (s : S15) : T15 := (((), (l.1.2.1, ((), ((), ((), (l.1.2.2.2.2.2.1, (s.1, (s.2.1, (s.2.2, ((), ())))))))))), ((l.2.1.1, (l.2.1.2.1, (l.2.1.2.2.1, (l.2.1.2.2.2.1, (l.2.1.2.2.2.2.1, (l.2.1.2.2.2.2.2.1, ())))))), ((l.2.2.1.1, (l.2.2.1.2.1, (l.2.2.1.2.2.1, (l.2.2.1.2.2.2.1, (l.2.2.1.2.2.2.2.1, (l.2.2.1.2.2.2.2.2.1, (l.2.2.1.2.2.2.2.2.2.1, (l.2.2.1.2.2.2.2.2.2.2.1, (l.2.2.1.2.2.2.2.2.2.2.2.1, (l.2.2.1.2.2.2.2.2.2.2.2.2.1, (l.2.2.1.2.2.2.2.2.2.2.2.2.2.1, (l.2.2.1.2.2.2.2.2.2.2.2.2.2.2.1, ())))))))))))), ())))
noncomputable def fl15 (l : T15) (s : S15) : Tw (S15 ⊕ X15) := l15 l.1.2.1 l.1.2.2.2.2.2.1 l.2.1.1 l.2.1.2.1 l.2.1.2.2.1 l.2.1.2.2.2.1 l.2.1.2.2.2.2.1 l.2.1.2.2.2.2.2.1 l.2.2.1.1 l.2.2.1.2.1 l.2.2.1.2.2.1 l.2.2.1.2.2.2.1 l.2.2.1.2.2.2.2.1 l.2.2.1.2.2.2.2.2.1 l.2.2.1.2.2.2.2.2.2.1 l.2.2.1.2.2.2.2.2.2.2.1 l.2.2.1.2.2.2.2.2.2.2.2.1 l.2.2.1.2.2.2.2.2.2.2.2.2.1 l.2.2.1.2.2.2.2.2.2.2.2.2.2.1 l.2.2.1.2.2.2.2.2.2.2.2.2.2.2.1 s.1 s.2.1 s.2.2
abbrev T8v2 : Type := ((Unit × ((List Int) × (Unit × (Unit × (Int × (Unit × (Unit × (Int × (Unit × Unit))))))))) × ((Int × (Int × (Int × (Int × (Int × (Int × Unit)))))) × Unit))
noncomputable def l8v2 (l_ : (List Int)) (n h0_0 h0_1 h0_2 h0_3 h0_4 h0_5 i : Int) : Tw (Int ⊕ Unit) :=
 (.bb (decide (i < (((List.length l_) : Nat) : Int)))
  (.dd (((0 : Int) ≤ i)) inferInstance
   (.opt (l_)[(Int.toNat i)]? fun z25 =>
    (.dd (((wu64 n) = (0 : Int))) inferInstance
     .no
     (.opt (flash_Flash_Erase_nil0.c (w64 (Int.tmod (wu64 z25) (wu64 n)))) fun z26 =>
      (.ret (.inl (w64 (i + (1 : Int))))))))
   .no)
  (.ret (.inr ())))
noncomputable def L8v2 (l_ : (List Int)) (n i h0_0 h0_1 h0_2 h0_3 h0_4 h0_5 : Int) : Option Unit := Lp (fun s => (l8v2 l_ n h0_0 h0_1 h0_2 h0_3 h0_4 h0_5 s).run) i
def p8v2 : Pt := (.cs (.bots 1) (.cs (.sl 1) (.cs (.ptr 0 0) (.cs (.bots 2) (jC (.cs .nilp (.cs (.bots 1) (jC (.cs (.bots 118) .nl)))))))))
def q8v2 : Pt := (.cs (.var (jC (jC (jC (jC (jC (jC .nl))))))) .nl)
def ou8v2 (l : T8v2) (y : Unit) : Ex × St U := (.exit 0, stOf 127 [(1, .im (.slice 1 l.1.2.1)), (2, .ptr 0 0), (6, .im .nilp)] [.var [jI l.2.1.1, jI l.2.1.2.1, jI l.2.1.2.2.1, jI l.2.1.2.2.2.1, jI l.2.1.2.2.2.2.1, jI l.2.1.2.2.2.2.2.1]] 0)
noncomputable def Λ8v2 : LFun U := mkLp (U := U) p8v2 q8v2 0 (X := Unit) (fun (l : T8v2) => L8v2 l.1.2.1 l.1.2.2.2.2.1 l.1.2.2.2.2.2.2.2.1 l.2.1.1 l.2.1.2.1 l.2.1.2.2.1 l.2.1.2.2.2.1 l.2.1.2.2.2.2.1 l.2.1.2.2.2.2.2.1) sp1 ou8v2
def hd8v2 (l : T8v2) (s : Int) : T8v2 := (((), (l.1.2.1, ((), ((), (l.1.2.2.2.2.1, ((), ((), (s, ((), ()))))))))), ((l.2.1.1, (l.2.1.2.1, (l.2.1.2.2.1, (l.2.1.2.2.2.1, (l.2.1.2.2.2.2.1, (l.2.1.2.2.2.2.2.1, ())))))), ()))
noncomputable def fl8v2 (l : T8v2) (s : Int) : Tw (Int ⊕ Unit) := l8v2 l.1.2.1 l.1.2.2.2.2.1 l.2.1.1 l.2.1.2.1 l.2.1.2.2.1 l.2.1.2.2.2.1 l.2.1.2.2.2.2.1 l.2.1.2.2.2.2.2.1 s
noncomputable def t (g_0 g_1 g_2 g_3 g_4 g_5 : Int) (l_ : (List Int)) : Tw Bool :=
 (.bb (decide ((((List.length l_) : Nat) : Int) > (300 : Int)))
  (.opt (law43_awake.c) fun z36 =>
   (.ret z36))
  (.opt (ref08_Small.c g_0 g_1 g_2 g_3 g_4 g_5) fun z1 =>
   (.bb (!z1)
    (.opt (law43_awake.c) fun z35 =>
     (.ret z35))
    (.opt (ref08_Map.c g_0 g_1 g_2 g_3 g_4 g_5) fun z2 =>
     (.opt (flash_New.c (((List.length z2) : Nat) : Int) g_0) fun z3 =>
      (.sm z3
       (fun z4 => (.bb (z4.1 != (0 : Int))
         (.ret false)
         (.opt (L8 l_ (((List.length z2) : Nat) : Int) (0 : Int) g_0 g_1 g_2 g_3 g_4 g_5 g_0 z4.2.1 z4.2.2.1 z4.2.2.2.1 z4.2.2.2.2.1 z4.2.2.2.2.2.1 z4.2.2.2.2.2.2) fun z8 =>
          (.opt (wear_Of.c g_0 g_1 g_2 g_3 g_4 g_5 g_0 z8.1 z8.2.1 z8.2.2.1 z8.2.2.2.1 z8.2.2.2.2 z4.2.2.2.2.2.2) fun z9 =>
           (.opt (L15 l_ z9.2.2.2.2.2.2.2.2.2.2.2.2 (0 : Int) (0 : Nat) (0 : Int) g_0 g_1 g_2 g_3 g_4 g_5 z9.1 z9.2.1 z9.2.2.1 z9.2.2.2.1 z9.2.2.2.2.1 z9.2.2.2.2.2.1 z9.2.2.2.2.2.2.1 z9.2.2.2.2.2.2.2.1 z9.2.2.2.2.2.2.2.2.1 z9.2.2.2.2.2.2.2.2.2.1 z9.2.2.2.2.2.2.2.2.2.2.1 z9.2.2.2.2.2.2.2.2.2.2.2.1) fun z19 =>
            (.sm z19
             (fun z20 => (.bb (z9.2.2.2.2.2.2.2.2.2.2.2.2 == (0 : Int))
               (.bb (z20.1 == (((List.length l_) : Nat) : Int))
                (.bb ((((List.length l_) : Nat) : Int) == (0 : Int))
                 (.bb ((Ieee.Format.order (Go.FloatKind.format Go.FloatKind.f64) z20.2 (0 : Nat)) == (Option.some Ordering.eq))
                  (.opt (law43_awake.c) fun z24 =>
                   (.ret z24))
                  (.bb (decide ((((List.length l_) : Nat) : Int) > (0 : Int)))
                   (.bb ((Ieee.Format.order (Go.FloatKind.format Go.FloatKind.f64) z20.2 (4607173411600762667 : Nat)) == (Option.some Ordering.gt))
                    (.bb ((Ieee.Format.order (Go.FloatKind.format Go.FloatKind.f64) z20.2 (4607186922399644778 : Nat)) == (Option.some Ordering.lt))
                     (.opt (law43_awake.c) fun z23 =>
                      (.ret z23))
                     (.ret false))
                    (.ret false))
                   (.ret false)))
                 (.bb (decide ((((List.length l_) : Nat) : Int) > (0 : Int)))
                  (.bb ((Ieee.Format.order (Go.FloatKind.format Go.FloatKind.f64) z20.2 (4607173411600762667 : Nat)) == (Option.some Ordering.gt))
                   (.bb ((Ieee.Format.order (Go.FloatKind.format Go.FloatKind.f64) z20.2 (4607186922399644778 : Nat)) == (Option.some Ordering.lt))
                    (.opt (law43_awake.c) fun z22 =>
                     (.ret z22))
                    (.ret false))
                   (.ret false))
                  (.ret false)))
                (.ret false))
               (.ret false)))
             (fun z21 => (.ret z21.1))))))))
       (fun z5 => (.bb (z5 != (0 : Int))
         (.ret false)
         (.opt (L8v2 l_ (((List.length z2) : Nat) : Int) (0 : Int) g_0 g_1 g_2 g_3 g_4 g_5) fun z27 =>
          (.opt (wear_Of_nil0.c g_0 g_1 g_2 g_3 g_4 g_5) fun z28 =>
           (.opt (L15 l_ z28.2.2.2.2.2.2.2.2.2.2.2.2 (0 : Int) (0 : Nat) (0 : Int) g_0 g_1 g_2 g_3 g_4 g_5 z28.1 z28.2.1 z28.2.2.1 z28.2.2.2.1 z28.2.2.2.2.1 z28.2.2.2.2.2.1 z28.2.2.2.2.2.2.1 z28.2.2.2.2.2.2.2.1 z28.2.2.2.2.2.2.2.2.1 z28.2.2.2.2.2.2.2.2.2.1 z28.2.2.2.2.2.2.2.2.2.2.1 z28.2.2.2.2.2.2.2.2.2.2.2.1) fun z29 =>
            (.sm z29
             (fun z30 => (.bb (z28.2.2.2.2.2.2.2.2.2.2.2.2 == (0 : Int))
               (.bb (z30.1 == (((List.length l_) : Nat) : Int))
                (.bb ((((List.length l_) : Nat) : Int) == (0 : Int))
                 (.bb ((Ieee.Format.order (Go.FloatKind.format Go.FloatKind.f64) z30.2 (0 : Nat)) == (Option.some Ordering.eq))
                  (.opt (law43_awake.c) fun z34 =>
                   (.ret z34))
                  (.bb (decide ((((List.length l_) : Nat) : Int) > (0 : Int)))
                   (.bb ((Ieee.Format.order (Go.FloatKind.format Go.FloatKind.f64) z30.2 (4607173411600762667 : Nat)) == (Option.some Ordering.gt))
                    (.bb ((Ieee.Format.order (Go.FloatKind.format Go.FloatKind.f64) z30.2 (4607186922399644778 : Nat)) == (Option.some Ordering.lt))
                     (.opt (law43_awake.c) fun z33 =>
                      (.ret z33))
                     (.ret false))
                    (.ret false))
                   (.ret false)))
                 (.bb (decide ((((List.length l_) : Nat) : Int) > (0 : Int)))
                  (.bb ((Ieee.Format.order (Go.FloatKind.format Go.FloatKind.f64) z30.2 (4607173411600762667 : Nat)) == (Option.some Ordering.gt))
                   (.bb ((Ieee.Format.order (Go.FloatKind.format Go.FloatKind.f64) z30.2 (4607186922399644778 : Nat)) == (Option.some Ordering.lt))
                    (.opt (law43_awake.c) fun z32 =>
                     (.ret z32))
                    (.ret false))
                   (.ret false))
                  (.ret false)))
                (.ret false))
               (.ret false)))
             (fun z31 => (.ret z31.1))))))))))))))
noncomputable def c (g_0 g_1 g_2 g_3 g_4 g_5 : Int) (l_ : (List Int)) : Option Bool := (t g_0 g_1 g_2 g_3 g_4 g_5 l_).run
noncomputable def tl (l : TA) : Tw Bool := t l.1.1.1 l.1.1.2.1 l.1.1.2.2.1 l.1.1.2.2.2.1 l.1.1.2.2.2.2.1 l.1.1.2.2.2.2.2.1 l.1.2.1
noncomputable def cl (l : TA) : Option Bool := c l.1.1.1 l.1.1.2.1 l.1.1.2.2.1 l.1.1.2.2.2.1 l.1.1.2.2.2.2.1 l.1.1.2.2.2.2.2.1 l.1.2.1
def pA : Pt := (.cs (.agg (jC (jC (jC (jC (jC (jC .nl))))))) (.cs (.sl 1) .nl))
def pH : Pt := .nl
def v (l : TA) (y : Bool) : AV U := jB y
def hh (l : TA) (y : Bool) : Hp U := []
noncomputable def A : AFun U := mkA (U := U) pA pH (X := Bool) cl sp1 v hh
noncomputable def body : Code := (Go.Func.body Try.f7).getD .skip
noncomputable def Γ : List (FuncId × AFun U) := [(40, ref08_Small.A), (35, ref08_Map.A), (31, flash_New.A), (36, (orA flash_Flash_Erase.pA flash_Flash_Erase.pH flash_Flash_Erase.A flash_Flash_Erase_nil0.A)), (32, (orA wear_Of.pA wear_Of.pH wear_Of.A wear_Of_nil0.A)), (38, wear_Mean.A), (41, wear_Share.A), (30, law43_awake.A)]
noncomputable def Λ : List (Nat × LFun U) := [(8, (orL p8 q8 Λ8 Λ8v2)), (15, Λ15)]
noncomputable def CT : List (Nat × LFun U) := []
def ro : List FuncId := [32]
def D : Nat → Lv × Lv := dtab [(8, ⟨[8, 5, 1, 6, 2], []⟩, ⟨[4, 2, 1, 6], []⟩), (15, ⟨[13, 9, 12, 11, 2, 1, 10], []⟩, ⟨[4, 12, 1, 11, 10], []⟩)]
noncomputable def E : Env U := { E0 with Γ := Γ, Λ := Λ, C := CT, D := D, ro := ro }
theorem hf8 (R : Type) (l : T8) (s : S8) (K : Ex → St U → Option R) : codeA E (pick (loopsOf body) 8) ⟨p8.mkL (hd8 l s).1, q8.mkH (hd8 l s).2, 0⟩ (roundK E (pick (loopsOf body) 8) K) =
  (fl8 l s).runK (lpK K (fun s => ⟨p8.mkL (hd8 l s).1, q8.mkH (hd8 l s).2, 0⟩) sp1 (ou8 l)) := by kernel_rfl
theorem lk8 (R : Type) (st : St U) (K : Ex → St U → Option R) (r : R) (h : Λ8 R st K = some r) : ∃ n, loopA E (pick (loopsOf body) 8) n st K = some r :=
  lp_ok (U := U) (E := E) (b := pick (loopsOf body) 8) (m := 0) (sp := sp1) (p := p8) (q := q8) (X := X8) (S := S8) (f := fl8) (hd := hd8) (s0 := fun (l : T8) => (l.1.2.2.2.2.2.2.2.1, (l.2.2.1.2.2.2.1, (l.2.2.1.2.2.2.2.1, (l.2.2.1.2.2.2.2.2.1, (l.2.2.2.1, l.2.2.2.2.1)))))) (ou := ou8)
    (fun l => rfl) (fun l x => by rfl) sp1_ok hf8 h
theorem hf15 (R : Type) (l : T15) (s : S15) (K : Ex → St U → Option R) : codeA E (pick (loopsOf body) 15) ⟨p15.mkL (hd15 l s).1, q15.mkH (hd15 l s).2, 0⟩ (roundK E (pick (loopsOf body) 15) K) =
  (fl15 l s).runK (lpK K (fun s => ⟨p15.mkL (hd15 l s).1, q15.mkH (hd15 l s).2, 0⟩) (spS sp1) (ou15 l)) := by kernel_rfl
theorem lk15 (R : Type) (st : St U) (K : Ex → St U → Option R) (r : R) (h : Λ15 R st K = some r) : ∃ n, loopA E (pick (loopsOf body) 15) n st K = some r :=
  lp_ok (U := U) (E := E) (b := pick (loopsOf body) 15) (m := 0) (sp := (spS sp1)) (p := p15) (q := q15) (X := X15) (S := S15) (f := fl15) (hd := hd15) (s0 := fun (l : T15) => (l.1.2.2.2.2.2.2.1, (l.1.2.2.2.2.2.2.2.1, l.1.2.2.2.2.2.2.2.2.1))) (ou := ou15)
    (fun l => rfl) (fun l x => by repeat' (first | rfl | (cases x with | inl => rfl | inr x => ?_))) (spS_ok sp1_ok) hf15 h
theorem hf8v2 (R : Type) (l : T8v2) (s : Int) (K : Ex → St U → Option R) : codeA E (pick (loopsOf body) 8) ⟨p8v2.mkL (hd8v2 l s).1, q8v2.mkH (hd8v2 l s).2, 0⟩ (roundK E (pick (loopsOf body) 8) K) =
  (fl8v2 l s).runK (lpK K (fun s => ⟨p8v2.mkL (hd8v2 l s).1, q8v2.mkH (hd8v2 l s).2, 0⟩) sp1 (ou8v2 l)) := by kernel_rfl
theorem lk8v2 (R : Type) (st : St U) (K : Ex → St U → Option R) (r : R) (h : Λ8v2 R st K = some r) : ∃ n, loopA E (pick (loopsOf body) 8) n st K = some r :=
  lp_ok (U := U) (E := E) (b := pick (loopsOf body) 8) (m := 0) (sp := sp1) (p := p8v2) (q := q8v2) (X := Unit) (S := Int) (f := fl8v2) (hd := hd8v2) (s0 := fun (l : T8v2) => l.1.2.2.2.2.2.2.2.1) (ou := ou8v2)
    (fun l => rfl) (fun l x => by rfl) sp1_ok hf8v2 h
theorem hk (R : Type) (l : TA) (K : AV U → Hp U → Option R) : funcA E Try.f7 [] R (pA.mkL l.1) (pH.mkH l.2) K = (tl l).runK fun y => K (v l y) (hh l y) := by kernel_rfl
theorem okF : SoundF Try.prog cc 7 (funcA E Try.f7 []) :=
  funcA_ok (E := E) P_mixed (E0_ok.with Γ Λ CT D ro) (gam_of (all_cons ⟨ref08_Small.ok, ref08_Small.fo⟩ (all_cons ⟨ref08_Map.ok, ref08_Map.fo⟩ (all_cons ⟨flash_New.ok, flash_New.fo⟩ (all_cons ⟨(orA_ok flash_Flash_Erase.ok flash_Flash_Erase_nil0.ok), flash_Flash_Erase.fo⟩ (all_cons ⟨(orA_ok wear_Of.ok wear_Of_nil0.ok), wear_Of.fo⟩ (all_cons ⟨wear_Mean.ok, wear_Mean.fo⟩ (all_cons ⟨wear_Share.ok, wear_Share.fo⟩ (all_cons ⟨law43_awake.ok, law43_awake.fo⟩ all_nil)))))))) (all_cons (no_keep (by kernel_rfl)) (all_cons (no_keep (by kernel_rfl)) (all_cons (no_keep (by kernel_rfl)) (all_cons (no_keep (by kernel_rfl)) (all_cons (fun _ => (orA_keep wear_Of.keep wear_Of_nil0.keep)) (all_cons (no_keep (by kernel_rfl)) (all_cons (no_keep (by kernel_rfl)) (all_cons (no_keep (by kernel_rfl)) all_nil))))))))) Try.func7 (c := body) (by kernel_rfl)
    (just_by (by kernel_rfl) (by kernel_rfl) (all_cons (orL_ok lk8 lk8v2) (all_cons lk15 all_nil)) all_nil) []
theorem ok : SoundF Try.prog cc 7 A :=
  mkA_ok (E := E) (p := pA) (q := pH) (t := tl) sp1_ok hk okF
theorem fo : FnOK Try.prog 7 := ⟨Try.f7, Try.func7, by kernel_rfl, by kernel_rfl⟩
theorem keep : KeepA A := mkA_keep (U := U) sp1_ok (fun (l : TA) y => ⟨(hh l y).drop 0, by kernel_rfl⟩)
end law43_WearCounts

end Go.Proofs.Ytmlbioapefgioaa.Va
