/- The functions of package law09DrivePlays, as plain functions, and that the program computes them. Printed by a program of this work out of the evaluator. -/
import Derived.Test.YtpidbpmkogbdeaaEn
import Derived.Tactics
import Derived.Test.YtpidbpmkogbdeaaFdrive
import Derived.Test.YtpidbpmkogbdeaaFflash
import Derived.Test.YtpidbpmkogbdeaaFlaw09
import Derived.Test.YtpidbpmkogbdeaaFref01
import Derived.Test.YtpidbpmkogbdeaaFref08
import Derived.Test.YtpidbpmkogbdeaaFref09
namespace Go.Proofs.Ytpidbpmkogbdeaa.Va
open Go
set_option linter.unusedVariables false
set_option maxRecDepth 100000

/-! instar/instarlaw09.DrivePlays -/
namespace law09_DrivePlays
abbrev TA : Type := (((Int × (Int × (Int × (Int × (Int × (Int × Unit)))))) × ((List Act9) × Unit)) × Unit)
abbrev T10 : Type := ((Unit × ((List Act9) × (Unit × (Unit × (Unit × (Unit × (Unit × (Unit × (Int × (Unit × Unit)))))))))) × ((Unit × (Int × (Unit × (Int × (Bool × (Int × (Unit × Unit))))))) × ((List Int) × ((List Int) × ((List Int) × ((Unit × (Int × (Int × (Int × (Int × (Int × (Int × Unit))))))) × ((Unit × (Int × (Int × (Int × (Int × (Int × (Int × Unit))))))) × ((Unit × (Int × (Unit × (Int × (Bool × (Int × (Unit × Unit))))))) × ((List Int) × ((List Int) × ((List Int) × Unit)))))))))))
noncomputable def l10 (l_ : (List Act9)) (h0_1 : Int) (h4_1 : Int) (h4_2 : Int) (h4_3 : Int) (h4_4 : Int) (h4_5 : Int) (h4_6 : Int) (h5_1 : Int) (h5_2 : Int) (h5_3 : Int) (h5_4 : Int) (h5_5 : Int) (h5_6 : Int) (h6_1 : Int) (i : Int) (h0_3 : Int) (h0_4 : Bool) (h0_5 : Int) (h1 : (List Int)) (h2 : (List Int)) (h3 : (List Int)) (h6_3 : Int) (h6_4 : Bool) (h6_5 : Int) (h7 : (List Int)) (h8 : (List Int)) (h9 : (List Int)) : Tw ((Int × (Int × (Bool × (Int × ((List Int) × ((List Int) × ((List Int) × (Int × (Bool × (Int × ((List Int) × ((List Int) × (List Int))))))))))))) ⊕ ((Int × (Bool × (Int × ((List Int) × ((List Int) × ((List Int) × (Int × (Bool × (Int × ((List Int) × ((List Int) × (List Int)))))))))))) ⊕ ((Bool × (Int × (Bool × (Int × ((List Int) × ((List Int) × ((List Int) × (Int × (Bool × (Int × ((List Int) × ((List Int) × (List Int))))))))))))) ⊕ (Bool × (Int × (Bool × (Int × ((List Int) × ((List Int) × (Int × (Bool × (Int × ((List Int) × ((List Int) × (List Int))))))))))))))) :=
 (.bb (decide (i < (((List.length l_) : Nat) : Int)))
  (.dd (((0 : Int) ≤ i)) inferInstance
   (.opt (l_)[(Int.toNat i)]? fun z13 =>
    (.opt (law09_do_v2.c z13.kind z13.s z13.at_ z13.n z13.w h0_1 h0_3 h0_4 h0_5 h1 h2 h3 h4_1 h4_2 h4_3 h4_4 h4_5 h4_6) fun z14 =>
     (.sm z14
      (fun z15 => (.dd (((0 : Int) ≤ i)) inferInstance
        (.opt (l_)[(Int.toNat i)]? fun z17 =>
         (.opt (law09_told_v2.c z17.kind z17.s z17.at_ z17.n z17.w h5_1 h5_2 h5_3 h5_4 h5_5 h5_6 h6_1 h6_3 h6_4 h6_5 h7 h8 h9) fun z18 =>
          (.sm z18
           (fun z19 => (.opt (ref01_Same.c z15.2.2.2.2.2.2.2 z19.2.2.2.2.2.2.2) fun z21 =>
             (.bb (!z21)
              (.ret (.inr (.inr (.inl (false, (z15.2.2.1, (z15.2.2.2.1, (z15.2.2.2.2.1, (z15.2.2.2.2.2.1, (z15.2.2.2.2.2.2.1, (h3, (z19.2.2.1, (z19.2.2.2.1, (z19.2.2.2.2.1, (z19.2.2.2.2.2.1, (z19.2.2.2.2.2.2.1, h9))))))))))))))))
              (.bb (!(z15.1 == z19.1))
               (.ret (.inr (.inr (.inl (false, (z15.2.2.1, (z15.2.2.2.1, (z15.2.2.2.2.1, (z15.2.2.2.2.2.1, (z15.2.2.2.2.2.2.1, (h3, (z19.2.2.1, (z19.2.2.2.1, (z19.2.2.2.2.1, (z19.2.2.2.2.2.1, (z19.2.2.2.2.2.2.1, h9))))))))))))))))
               (.bb (z15.2.1 != z19.2.1)
                (.ret (.inr (.inr (.inl (false, (z15.2.2.1, (z15.2.2.2.1, (z15.2.2.2.2.1, (z15.2.2.2.2.2.1, (z15.2.2.2.2.2.2.1, (h3, (z19.2.2.1, (z19.2.2.2.1, (z19.2.2.2.2.1, (z19.2.2.2.2.2.1, (z19.2.2.2.2.2.2.1, h9))))))))))))))))
                (.opt (flash_Flash_Writes.c h0_1 z15.2.2.1 z15.2.2.2.1 z15.2.2.2.2.1 z15.2.2.2.2.2.1 z15.2.2.2.2.2.2.1 h3) fun z22 =>
                 (.bb (z15.2.2.1 != z19.2.2.1)
                  (.ret (.inr (.inr (.inl (false, (z15.2.2.1, (z15.2.2.2.1, (z15.2.2.2.2.1, (z15.2.2.2.2.2.1, (z15.2.2.2.2.2.2.1, (h3, (z19.2.2.1, (z19.2.2.2.1, (z19.2.2.2.2.1, (z19.2.2.2.2.2.1, (z19.2.2.2.2.2.2.1, h9))))))))))))))))
                  (.ret (.inl ((w64 (i + (1 : Int))), (z15.2.2.1, (z15.2.2.2.1, (z15.2.2.2.2.1, (z15.2.2.2.2.2.1, (z15.2.2.2.2.2.2.1, (h3, (z19.2.2.1, (z19.2.2.2.1, (z19.2.2.2.2.1, (z19.2.2.2.2.2.1, (z19.2.2.2.2.2.2.1, h9)))))))))))))))))))))
           (fun z20 => (.opt (ref01_Same.c z15.2.2.2.2.2.2.2 z20.2.2.2) fun z23 =>
             (.bb (!z23)
              (.ret (.inr (.inr (.inl (false, (z15.2.2.1, (z15.2.2.2.1, (z15.2.2.2.2.1, (z15.2.2.2.2.2.1, (z15.2.2.2.2.2.2.1, (h3, (h6_3, (h6_4, (z20.2.2.1, (h7, (h8, z17.w))))))))))))))))
              (.bb (!(z15.1 == z20.1))
               (.ret (.inr (.inr (.inl (false, (z15.2.2.1, (z15.2.2.2.1, (z15.2.2.2.2.1, (z15.2.2.2.2.2.1, (z15.2.2.2.2.2.2.1, (h3, (h6_3, (h6_4, (z20.2.2.1, (h7, (h8, z17.w))))))))))))))))
               (.bb (z15.2.1 != z20.2.1)
                (.ret (.inr (.inr (.inl (false, (z15.2.2.1, (z15.2.2.2.1, (z15.2.2.2.2.1, (z15.2.2.2.2.2.1, (z15.2.2.2.2.2.2.1, (h3, (h6_3, (h6_4, (z20.2.2.1, (h7, (h8, z17.w))))))))))))))))
                (.opt (flash_Flash_Writes.c h0_1 z15.2.2.1 z15.2.2.2.1 z15.2.2.2.2.1 z15.2.2.2.2.2.1 z15.2.2.2.2.2.2.1 h3) fun z24 =>
                 (.bb (z15.2.2.1 != h6_3)
                  (.ret (.inr (.inr (.inl (false, (z15.2.2.1, (z15.2.2.2.1, (z15.2.2.2.2.1, (z15.2.2.2.2.2.1, (z15.2.2.2.2.2.2.1, (h3, (h6_3, (h6_4, (z20.2.2.1, (h7, (h8, z17.w))))))))))))))))
                  (.ret (.inl ((w64 (i + (1 : Int))), (z15.2.2.1, (z15.2.2.2.1, (z15.2.2.2.2.1, (z15.2.2.2.2.2.1, (z15.2.2.2.2.2.2.1, (h3, (h6_3, (h6_4, (z20.2.2.1, (h7, (h8, z17.w))))))))))))))))))))))))
        .no))
      (fun z16 => (.sm z16
        (fun z25 => (.dd (((0 : Int) ≤ i)) inferInstance
          (.opt (l_)[(Int.toNat i)]? fun z27 =>
           (.opt (law09_told_v2.c z27.kind z27.s z27.at_ z27.n z27.w h5_1 h5_2 h5_3 h5_4 h5_5 h5_6 h6_1 h6_3 h6_4 h6_5 h7 h8 h9) fun z28 =>
            (.sm z28
             (fun z29 => (.opt (ref01_Same.c z25.2.2.2.2 z29.2.2.2.2.2.2.2) fun z31 =>
               (.bb (!z31)
                (.ret (.inr (.inr (.inr (false, (h0_3, (z25.2.2.1, (z25.2.2.2.1, (h1, (h2, (z29.2.2.1, (z29.2.2.2.1, (z29.2.2.2.2.1, (z29.2.2.2.2.2.1, (z29.2.2.2.2.2.2.1, h9)))))))))))))))
                (.bb (!(z25.1 == z29.1))
                 (.ret (.inr (.inr (.inr (false, (h0_3, (z25.2.2.1, (z25.2.2.2.1, (h1, (h2, (z29.2.2.1, (z29.2.2.2.1, (z29.2.2.2.2.1, (z29.2.2.2.2.2.1, (z29.2.2.2.2.2.2.1, h9)))))))))))))))
                 (.bb (z25.2.1 != z29.2.1)
                  (.ret (.inr (.inr (.inr (false, (h0_3, (z25.2.2.1, (z25.2.2.2.1, (h1, (h2, (z29.2.2.1, (z29.2.2.2.1, (z29.2.2.2.2.1, (z29.2.2.2.2.2.1, (z29.2.2.2.2.2.2.1, h9)))))))))))))))
                  (.opt (flash_Flash_Writes_v2.c h0_1 h0_3 z25.2.2.1 z25.2.2.2.1 h1 h2) fun z32 =>
                   (.bb (h0_3 != z29.2.2.1)
                    (.ret (.inr (.inr (.inr (false, (h0_3, (z25.2.2.1, (z25.2.2.2.1, (h1, (h2, (z29.2.2.1, (z29.2.2.2.1, (z29.2.2.2.2.1, (z29.2.2.2.2.2.1, (z29.2.2.2.2.2.2.1, h9)))))))))))))))
                    (.ret (.inl ((w64 (i + (1 : Int))), (h0_3, (z25.2.2.1, (z25.2.2.2.1, (h1, (h2, (([] : List Int), (z29.2.2.1, (z29.2.2.2.1, (z29.2.2.2.2.1, (z29.2.2.2.2.2.1, (z29.2.2.2.2.2.2.1, h9)))))))))))))))))))))
             (fun z30 => (.opt (ref01_Same.c z25.2.2.2.2 z30.2.2.2) fun z33 =>
               (.bb (!z33)
                (.ret (.inr (.inr (.inr (false, (h0_3, (z25.2.2.1, (z25.2.2.2.1, (h1, (h2, (h6_3, (h6_4, (z30.2.2.1, (h7, (h8, z27.w)))))))))))))))
                (.bb (!(z25.1 == z30.1))
                 (.ret (.inr (.inr (.inr (false, (h0_3, (z25.2.2.1, (z25.2.2.2.1, (h1, (h2, (h6_3, (h6_4, (z30.2.2.1, (h7, (h8, z27.w)))))))))))))))
                 (.bb (z25.2.1 != z30.2.1)
                  (.ret (.inr (.inr (.inr (false, (h0_3, (z25.2.2.1, (z25.2.2.2.1, (h1, (h2, (h6_3, (h6_4, (z30.2.2.1, (h7, (h8, z27.w)))))))))))))))
                  (.opt (flash_Flash_Writes_v2.c h0_1 h0_3 z25.2.2.1 z25.2.2.2.1 h1 h2) fun z34 =>
                   (.bb (h0_3 != h6_3)
                    (.ret (.inr (.inr (.inr (false, (h0_3, (z25.2.2.1, (z25.2.2.2.1, (h1, (h2, (h6_3, (h6_4, (z30.2.2.1, (h7, (h8, z27.w)))))))))))))))
                    (.ret (.inl ((w64 (i + (1 : Int))), (h0_3, (z25.2.2.1, (z25.2.2.2.1, (h1, (h2, (([] : List Int), (h6_3, (h6_4, (z30.2.2.1, (h7, (h8, z27.w))))))))))))))))))))))))
          .no))
        (fun z26 => (.dd (((0 : Int) ≤ i)) inferInstance
          (.opt (l_)[(Int.toNat i)]? fun z35 =>
           (.opt (law09_told_v2.c z35.kind z35.s z35.at_ z35.n z35.w h5_1 h5_2 h5_3 h5_4 h5_5 h5_6 h6_1 h6_3 h6_4 h6_5 h7 h8 h9) fun z36 =>
            (.sm z36
             (fun z37 => (.opt (ref01_Same.c z26.2.2.2.1 z37.2.2.2.2.2.2.2) fun z39 =>
               (.bb (!z39)
                (.ret (.inr (.inr (.inl (false, (h0_3, (h0_4, (z26.2.2.1, (h1, (h2, (z26.2.2.2.2, (z37.2.2.1, (z37.2.2.2.1, (z37.2.2.2.2.1, (z37.2.2.2.2.2.1, (z37.2.2.2.2.2.2.1, h9))))))))))))))))
                (.bb (!(z26.1 == z37.1))
                 (.ret (.inr (.inr (.inl (false, (h0_3, (h0_4, (z26.2.2.1, (h1, (h2, (z26.2.2.2.2, (z37.2.2.1, (z37.2.2.2.1, (z37.2.2.2.2.1, (z37.2.2.2.2.2.1, (z37.2.2.2.2.2.2.1, h9))))))))))))))))
                 (.bb (z26.2.1 != z37.2.1)
                  (.ret (.inr (.inr (.inl (false, (h0_3, (h0_4, (z26.2.2.1, (h1, (h2, (z26.2.2.2.2, (z37.2.2.1, (z37.2.2.2.1, (z37.2.2.2.2.1, (z37.2.2.2.2.2.1, (z37.2.2.2.2.2.2.1, h9))))))))))))))))
                  (.opt (flash_Flash_Writes.c h0_1 h0_3 h0_4 z26.2.2.1 h1 h2 z26.2.2.2.2) fun z40 =>
                   (.bb (h0_3 != z37.2.2.1)
                    (.ret (.inr (.inr (.inl (false, (h0_3, (h0_4, (z26.2.2.1, (h1, (h2, (z26.2.2.2.2, (z37.2.2.1, (z37.2.2.2.1, (z37.2.2.2.2.1, (z37.2.2.2.2.2.1, (z37.2.2.2.2.2.2.1, h9))))))))))))))))
                    (.ret (.inl ((w64 (i + (1 : Int))), (h0_3, (h0_4, (z26.2.2.1, (h1, (h2, (z26.2.2.2.2, (z37.2.2.1, (z37.2.2.2.1, (z37.2.2.2.2.1, (z37.2.2.2.2.2.1, (z37.2.2.2.2.2.2.1, h9)))))))))))))))))))))
             (fun z38 => (.opt (ref01_Same.c z26.2.2.2.1 z38.2.2.2) fun z41 =>
               (.bb (!z41)
                (.ret (.inr (.inr (.inl (false, (h0_3, (h0_4, (z26.2.2.1, (h1, (h2, (z26.2.2.2.2, (h6_3, (h6_4, (z38.2.2.1, (h7, (h8, z35.w))))))))))))))))
                (.bb (!(z26.1 == z38.1))
                 (.ret (.inr (.inr (.inl (false, (h0_3, (h0_4, (z26.2.2.1, (h1, (h2, (z26.2.2.2.2, (h6_3, (h6_4, (z38.2.2.1, (h7, (h8, z35.w))))))))))))))))
                 (.bb (z26.2.1 != z38.2.1)
                  (.ret (.inr (.inr (.inl (false, (h0_3, (h0_4, (z26.2.2.1, (h1, (h2, (z26.2.2.2.2, (h6_3, (h6_4, (z38.2.2.1, (h7, (h8, z35.w))))))))))))))))
                  (.opt (flash_Flash_Writes.c h0_1 h0_3 h0_4 z26.2.2.1 h1 h2 z26.2.2.2.2) fun z42 =>
                   (.bb (h0_3 != h6_3)
                    (.ret (.inr (.inr (.inl (false, (h0_3, (h0_4, (z26.2.2.1, (h1, (h2, (z26.2.2.2.2, (h6_3, (h6_4, (z38.2.2.1, (h7, (h8, z35.w))))))))))))))))
                    (.ret (.inl ((w64 (i + (1 : Int))), (h0_3, (h0_4, (z26.2.2.1, (h1, (h2, (z26.2.2.2.2, (h6_3, (h6_4, (z38.2.2.1, (h7, (h8, z35.w))))))))))))))))))))))))
          .no)))))))
   .no)
  (.ret (.inr (.inl (h0_3, (h0_4, (h0_5, (h1, (h2, (h3, (h6_3, (h6_4, (h6_5, (h7, (h8, h9)))))))))))))))
noncomputable def L10 (l_ : (List Act9)) (i : Int) (h0_1 : Int) (h0_3 : Int) (h0_4 : Bool) (h0_5 : Int) (h1 : (List Int)) (h2 : (List Int)) (h3 : (List Int)) (h4_1 : Int) (h4_2 : Int) (h4_3 : Int) (h4_4 : Int) (h4_5 : Int) (h4_6 : Int) (h5_1 : Int) (h5_2 : Int) (h5_3 : Int) (h5_4 : Int) (h5_5 : Int) (h5_6 : Int) (h6_1 : Int) (h6_3 : Int) (h6_4 : Bool) (h6_5 : Int) (h7 : (List Int)) (h8 : (List Int)) (h9 : (List Int)) : Option ((Int × (Bool × (Int × ((List Int) × ((List Int) × ((List Int) × (Int × (Bool × (Int × ((List Int) × ((List Int) × (List Int)))))))))))) ⊕ ((Bool × (Int × (Bool × (Int × ((List Int) × ((List Int) × ((List Int) × (Int × (Bool × (Int × ((List Int) × ((List Int) × (List Int))))))))))))) ⊕ (Bool × (Int × (Bool × (Int × ((List Int) × ((List Int) × (Int × (Bool × (Int × ((List Int) × ((List Int) × (List Int)))))))))))))) := Lp (fun s => (l10 l_ h0_1 h4_1 h4_2 h4_3 h4_4 h4_5 h4_6 h5_1 h5_2 h5_3 h5_4 h5_5 h5_6 h6_1 s.1 s.2.1 s.2.2.1 s.2.2.2.1 s.2.2.2.2.1 s.2.2.2.2.2.1 s.2.2.2.2.2.2.1 s.2.2.2.2.2.2.2.1 s.2.2.2.2.2.2.2.2.1 s.2.2.2.2.2.2.2.2.2.1 s.2.2.2.2.2.2.2.2.2.2.1 s.2.2.2.2.2.2.2.2.2.2.2.1 s.2.2.2.2.2.2.2.2.2.2.2.2).run) (i, (h0_3, (h0_4, (h0_5, (h1, (h2, (h3, (h6_3, (h6_4, (h6_5, (h7, (h8, h9))))))))))))
def p10 : Pt := (.cs (.bots 1) (.cs (.sl 21) (.cs (.bots 4) (.cs (.ptr 0 0) (.cs (.bots 1) (.cs (.ptr 4 0) (.cs (.bots 1) (.cs (.ptr 5 0) (.cs (.int .i64) (.cs (.bots 104) .nl))))))))))
def q10 : Pt := (.cs (.var (.cs (.own 1) (.cs (.int .i64) (.cs (.own 2) (.cs (.int .i64) (.cs .bool (.cs (.int .i64) (.cs (.own 3) .nl)))))))) (.cs (.row 3 true) (.cs (.row 1 true) (.cs (.row 3 true) (.cs (.var (.cs (.ptr 0 0) (.cs (.int .i64) (.cs (.int .i64) (.cs (.int .i64) (.cs (.int .i64) (.cs (.int .i64) (.cs (.int .i64) .nl)))))))) (.cs (.var (.cs (.ptr 6 0) (.cs (.int .i64) (.cs (.int .i64) (.cs (.int .i64) (.cs (.int .i64) (.cs (.int .i64) (.cs (.int .i64) .nl)))))))) (.cs (.var (.cs (.own 7) (.cs (.int .i64) (.cs (.own 8) (.cs (.int .i64) (.cs .bool (.cs (.int .i64) (.cs (.own 9) .nl)))))))) (.cs (.row 3 true) (.cs (.row 1 true) (.cs (.row 3 true) .nl))))))))))
def ou10 (l : T10) (y : ((Int × (Bool × (Int × ((List Int) × ((List Int) × ((List Int) × (Int × (Bool × (Int × ((List Int) × ((List Int) × (List Int)))))))))))) ⊕ ((Bool × (Int × (Bool × (Int × ((List Int) × ((List Int) × ((List Int) × (Int × (Bool × (Int × ((List Int) × ((List Int) × (List Int))))))))))))) ⊕ (Bool × (Int × (Bool × (Int × ((List Int) × ((List Int) × (Int × (Bool × (Int × ((List Int) × ((List Int) × (List Int))))))))))))))) : Ex × St U := (Sum.elim (fun a0 => (.exit 0, stOf 116 [(6, .ptr 0 0), (10, .ptr 4 0)] [.var [.own 1, .im (.int .i64 l.2.1.2.1), .own 2, .im (.int .i64 a0.1), .im (.bool a0.2.1), .im (.int .i64 a0.2.2.1), .own 3], .row 3 a0.2.2.2.1 true, .row 1 a0.2.2.2.2.1 true, .row 3 a0.2.2.2.2.2.1 true, .var [.ptr 5 0, .im (.int .i64 l.2.2.2.2.2.2.1.2.1), .im (.int .i64 l.2.2.2.2.2.2.1.2.2.1), .im (.int .i64 l.2.2.2.2.2.2.1.2.2.2.1), .im (.int .i64 l.2.2.2.2.2.2.1.2.2.2.2.1), .im (.int .i64 l.2.2.2.2.2.2.1.2.2.2.2.2.1), .im (.int .i64 l.2.2.2.2.2.2.1.2.2.2.2.2.2.1)], .var [.own 6, .im (.int .i64 l.2.2.2.2.2.2.2.1.2.1), .own 7, .im (.int .i64 a0.2.2.2.2.2.2.1), .im (.bool a0.2.2.2.2.2.2.2.1), .im (.int .i64 a0.2.2.2.2.2.2.2.2.1), .own 8], .row 3 a0.2.2.2.2.2.2.2.2.2.1 true, .row 1 a0.2.2.2.2.2.2.2.2.2.2.1 true, .row 3 a0.2.2.2.2.2.2.2.2.2.2.2 true] 0)) (fun b0 => (Sum.elim (fun a1 => (.ret, stOf 116 [(4, .im (.bool a1.1)), (6, .ptr 0 0), (10, .ptr 4 0)] [.var [.own 1, .im (.int .i64 l.2.1.2.1), .own 2, .im (.int .i64 a1.2.1), .im (.bool a1.2.2.1), .im (.int .i64 a1.2.2.2.1), .own 3], .row 3 a1.2.2.2.2.1 true, .row 1 a1.2.2.2.2.2.1 true, .row 3 a1.2.2.2.2.2.2.1 true, .var [.ptr 5 0, .im (.int .i64 l.2.2.2.2.2.2.1.2.1), .im (.int .i64 l.2.2.2.2.2.2.1.2.2.1), .im (.int .i64 l.2.2.2.2.2.2.1.2.2.2.1), .im (.int .i64 l.2.2.2.2.2.2.1.2.2.2.2.1), .im (.int .i64 l.2.2.2.2.2.2.1.2.2.2.2.2.1), .im (.int .i64 l.2.2.2.2.2.2.1.2.2.2.2.2.2.1)], .var [.own 6, .im (.int .i64 l.2.2.2.2.2.2.2.1.2.1), .own 7, .im (.int .i64 a1.2.2.2.2.2.2.2.1), .im (.bool a1.2.2.2.2.2.2.2.2.1), .im (.int .i64 a1.2.2.2.2.2.2.2.2.2.1), .own 8], .row 3 a1.2.2.2.2.2.2.2.2.2.2.1 true, .row 1 a1.2.2.2.2.2.2.2.2.2.2.2.1 true, .row 3 a1.2.2.2.2.2.2.2.2.2.2.2.2 true] 0)) (fun b1 => (.ret, stOf 116 [(4, .im (.bool b1.1)), (6, .ptr 0 0), (10, .ptr 3 0)] [.var [.own 1, .im (.int .i64 l.2.1.2.1), .own 2, .im (.int .i64 b1.2.1), .im (.bool b1.2.2.1), .im (.int .i64 b1.2.2.2.1), .im .nils], .row 3 b1.2.2.2.2.1 true, .row 1 b1.2.2.2.2.2.1 true, .var [.ptr 4 0, .im (.int .i64 l.2.2.2.2.2.2.1.2.1), .im (.int .i64 l.2.2.2.2.2.2.1.2.2.1), .im (.int .i64 l.2.2.2.2.2.2.1.2.2.2.1), .im (.int .i64 l.2.2.2.2.2.2.1.2.2.2.2.1), .im (.int .i64 l.2.2.2.2.2.2.1.2.2.2.2.2.1), .im (.int .i64 l.2.2.2.2.2.2.1.2.2.2.2.2.2.1)], .var [.own 5, .im (.int .i64 l.2.2.2.2.2.2.2.1.2.1), .own 6, .im (.int .i64 b1.2.2.2.2.2.2.1), .im (.bool b1.2.2.2.2.2.2.2.1), .im (.int .i64 b1.2.2.2.2.2.2.2.2.1), .own 7], .row 3 b1.2.2.2.2.2.2.2.2.2.1 true, .row 1 b1.2.2.2.2.2.2.2.2.2.2.1 true, .row 3 b1.2.2.2.2.2.2.2.2.2.2.2 true] 0)) b0)) y)
noncomputable def Λ10 : LFun U := mkLp (U := U) p10 q10 0 (X := ((Int × (Bool × (Int × ((List Int) × ((List Int) × ((List Int) × (Int × (Bool × (Int × ((List Int) × ((List Int) × (List Int)))))))))))) ⊕ ((Bool × (Int × (Bool × (Int × ((List Int) × ((List Int) × ((List Int) × (Int × (Bool × (Int × ((List Int) × ((List Int) × (List Int))))))))))))) ⊕ (Bool × (Int × (Bool × (Int × ((List Int) × ((List Int) × (Int × (Bool × (Int × ((List Int) × ((List Int) × (List Int))))))))))))))) (fun (l : T10) => L10 l.1.2.1 l.1.2.2.2.2.2.2.2.2.1 l.2.1.2.1 l.2.1.2.2.2.1 l.2.1.2.2.2.2.1 l.2.1.2.2.2.2.2.1 l.2.2.1 l.2.2.2.1 l.2.2.2.2.1 l.2.2.2.2.2.1.2.1 l.2.2.2.2.2.1.2.2.1 l.2.2.2.2.2.1.2.2.2.1 l.2.2.2.2.2.1.2.2.2.2.1 l.2.2.2.2.2.1.2.2.2.2.2.1 l.2.2.2.2.2.1.2.2.2.2.2.2.1 l.2.2.2.2.2.2.1.2.1 l.2.2.2.2.2.2.1.2.2.1 l.2.2.2.2.2.2.1.2.2.2.1 l.2.2.2.2.2.2.1.2.2.2.2.1 l.2.2.2.2.2.2.1.2.2.2.2.2.1 l.2.2.2.2.2.2.1.2.2.2.2.2.2.1 l.2.2.2.2.2.2.2.1.2.1 l.2.2.2.2.2.2.2.1.2.2.2.1 l.2.2.2.2.2.2.2.1.2.2.2.2.1 l.2.2.2.2.2.2.2.1.2.2.2.2.2.1 l.2.2.2.2.2.2.2.2.1 l.2.2.2.2.2.2.2.2.2.1 l.2.2.2.2.2.2.2.2.2.2.1) (spS (spS sp1)) ou10
abbrev T10v2 : Type := ((Unit × ((List Act9) × (Unit × (Unit × (Unit × (Unit × (Unit × (Unit × (Int × (Unit × Unit)))))))))) × ((Unit × (Int × (Unit × (Int × (Bool × (Int × (Unit × Unit))))))) × ((List Int) × ((List Int) × ((List Int) × ((Unit × (Int × (Int × (Int × (Int × (Int × (Int × Unit))))))) × ((Unit × (Int × (Int × (Int × (Int × (Int × (Int × Unit))))))) × Unit)))))))
noncomputable def l10v2 (l_ : (List Act9)) (i : Int) (h0_1 : Int) (h0_3 : Int) (h0_4 : Bool) (h0_5 : Int) (h1 : (List Int)) (h2 : (List Int)) (h3 : (List Int)) (h4_1 : Int) (h4_2 : Int) (h4_3 : Int) (h4_4 : Int) (h4_5 : Int) (h4_6 : Int) (h5_1 : Int) (h5_2 : Int) (h5_3 : Int) (h5_4 : Int) (h5_5 : Int) (h5_6 : Int) : Tw (Unit ⊕ (Unit ⊕ ((Bool × (Int × (Bool × (Int × ((List Int) × ((List Int) × (List Int))))))) ⊕ (Bool × (Bool × Int))))) :=
 (.bb (decide (i < (((List.length l_) : Nat) : Int)))
  (.dd (((0 : Int) ≤ i)) inferInstance
   (.opt (l_)[(Int.toNat i)]? fun z51 =>
    (.opt (law09_do_v2.c z51.kind z51.s z51.at_ z51.n z51.w h0_1 h0_3 h0_4 h0_5 h1 h2 h3 h4_1 h4_2 h4_3 h4_4 h4_5 h4_6) fun z52 =>
     (.sm z52
      (fun z53 => (.dd (((0 : Int) ≤ i)) inferInstance
        (.opt (l_)[(Int.toNat i)]? fun z55 =>
         (.opt (law09_told_v3.c z55.kind z55.s z55.at_ z55.n z55.w h5_1 h5_2 h5_3 h5_4 h5_5 h5_6) fun z56 =>
          (.opt (ref01_Same_none1.c z53.2.2.2.2.2.2.2) fun z57 =>
           (.bb (!z57)
            (.ret (.inr (.inr (.inl (false, (z53.2.2.1, (z53.2.2.2.1, (z53.2.2.2.2.1, (z53.2.2.2.2.2.1, (z53.2.2.2.2.2.2.1, h3))))))))))
            (.bb (!(z53.1 == z56.1))
             (.ret (.inr (.inr (.inl (false, (z53.2.2.1, (z53.2.2.2.1, (z53.2.2.2.2.1, (z53.2.2.2.2.2.1, (z53.2.2.2.2.2.2.1, h3))))))))))
             (.bb (z53.2.1 != z56.2)
              (.ret (.inr (.inr (.inl (false, (z53.2.2.1, (z53.2.2.2.1, (z53.2.2.2.2.1, (z53.2.2.2.2.2.1, (z53.2.2.2.2.2.2.1, h3))))))))))
              (.opt (flash_Flash_Writes.c h0_1 z53.2.2.1 z53.2.2.2.1 z53.2.2.2.2.1 z53.2.2.2.2.2.1 z53.2.2.2.2.2.2.1 h3) fun z58 =>
               .no)))))))
        .no))
      (fun z54 => (.sm z54
        (fun z59 => (.dd (((0 : Int) ≤ i)) inferInstance
          (.opt (l_)[(Int.toNat i)]? fun z61 =>
           (.opt (law09_told_v3.c z61.kind z61.s z61.at_ z61.n z61.w h5_1 h5_2 h5_3 h5_4 h5_5 h5_6) fun z62 =>
            (.opt (ref01_Same_none1.c z59.2.2.2.2) fun z63 =>
             (.bb (!z63)
              (.ret (.inr (.inr (.inr (false, (z59.2.2.1, z59.2.2.2.1))))))
              (.bb (!(z59.1 == z62.1))
               (.ret (.inr (.inr (.inr (false, (z59.2.2.1, z59.2.2.2.1))))))
               (.bb (z59.2.1 != z62.2)
                (.ret (.inr (.inr (.inr (false, (z59.2.2.1, z59.2.2.2.1))))))
                (.opt (flash_Flash_Writes_v2.c h0_1 h0_3 z59.2.2.1 z59.2.2.2.1 h1 h2) fun z64 =>
                 .no)))))))
          .no))
        (fun z60 => (.dd (((0 : Int) ≤ i)) inferInstance
          (.opt (l_)[(Int.toNat i)]? fun z65 =>
           (.opt (law09_told_v3.c z65.kind z65.s z65.at_ z65.n z65.w h5_1 h5_2 h5_3 h5_4 h5_5 h5_6) fun z66 =>
            (.opt (ref01_Same_none1.c z60.2.2.2.1) fun z67 =>
             (.bb (!z67)
              (.ret (.inr (.inr (.inl (false, (h0_3, (h0_4, (z60.2.2.1, (h1, (h2, z60.2.2.2.2))))))))))
              (.bb (!(z60.1 == z66.1))
               (.ret (.inr (.inr (.inl (false, (h0_3, (h0_4, (z60.2.2.1, (h1, (h2, z60.2.2.2.2))))))))))
               (.bb (z60.2.1 != z66.2)
                (.ret (.inr (.inr (.inl (false, (h0_3, (h0_4, (z60.2.2.1, (h1, (h2, z60.2.2.2.2))))))))))
                (.opt (flash_Flash_Writes.c h0_1 h0_3 h0_4 z60.2.2.1 h1 h2 z60.2.2.2.2) fun z68 =>
                 .no)))))))
          .no)))))))
   .no)
  (.ret (.inr (.inl ()))))
noncomputable def L10v2 (l_ : (List Act9)) (i : Int) (h0_1 : Int) (h0_3 : Int) (h0_4 : Bool) (h0_5 : Int) (h1 : (List Int)) (h2 : (List Int)) (h3 : (List Int)) (h4_1 : Int) (h4_2 : Int) (h4_3 : Int) (h4_4 : Int) (h4_5 : Int) (h4_6 : Int) (h5_1 : Int) (h5_2 : Int) (h5_3 : Int) (h5_4 : Int) (h5_5 : Int) (h5_6 : Int) : Option (Unit ⊕ ((Bool × (Int × (Bool × (Int × ((List Int) × ((List Int) × (List Int))))))) ⊕ (Bool × (Bool × Int)))) := Lp (fun s => (l10v2 l_ i h0_1 h0_3 h0_4 h0_5 h1 h2 h3 h4_1 h4_2 h4_3 h4_4 h4_5 h4_6 h5_1 h5_2 h5_3 h5_4 h5_5 h5_6).run) ()
def p10v2 : Pt := (.cs (.bots 1) (.cs (.sl 21) (.cs (.bots 4) (.cs (.ptr 0 0) (.cs (.bots 1) (.cs (.ptr 4 0) (.cs (.bots 1) (.cs (.ptr 5 0) (.cs (.int .i64) (.cs (.bots 104) .nl))))))))))
def q10v2 : Pt := (.cs (.var (.cs (.own 1) (.cs (.int .i64) (.cs (.own 2) (.cs (.int .i64) (.cs .bool (.cs (.int .i64) (.cs (.own 3) .nl)))))))) (.cs (.row 3 true) (.cs (.row 1 true) (.cs (.row 3 true) (.cs (.var (.cs (.ptr 0 0) (.cs (.int .i64) (.cs (.int .i64) (.cs (.int .i64) (.cs (.int .i64) (.cs (.int .i64) (.cs (.int .i64) .nl)))))))) (.cs (.var (.cs .nilp (.cs (.int .i64) (.cs (.int .i64) (.cs (.int .i64) (.cs (.int .i64) (.cs (.int .i64) (.cs (.int .i64) .nl)))))))) .nl))))))
def ou10v2 (l : T10v2) (y : (Unit ⊕ ((Bool × (Int × (Bool × (Int × ((List Int) × ((List Int) × (List Int))))))) ⊕ (Bool × (Bool × Int))))) : Ex × St U := (Sum.elim (fun a0 => (.exit 0, stOf 116 [(6, .ptr 0 0), (10, .ptr 4 0)] [.var [.own 1, .im (.int .i64 l.2.1.2.1), .own 2, .im (.int .i64 l.2.1.2.2.2.1), .im (.bool l.2.1.2.2.2.2.1), .im (.int .i64 l.2.1.2.2.2.2.2.1), .own 3], .row 3 l.2.2.1 true, .row 1 l.2.2.2.1 true, .row 3 l.2.2.2.2.1 true, .var [.im .nilp, .im (.int .i64 l.2.2.2.2.2.2.1.2.1), .im (.int .i64 l.2.2.2.2.2.2.1.2.2.1), .im (.int .i64 l.2.2.2.2.2.2.1.2.2.2.1), .im (.int .i64 l.2.2.2.2.2.2.1.2.2.2.2.1), .im (.int .i64 l.2.2.2.2.2.2.1.2.2.2.2.2.1), .im (.int .i64 l.2.2.2.2.2.2.1.2.2.2.2.2.2.1)]] 0)) (fun b0 => (Sum.elim (fun a1 => (.ret, stOf 116 [(4, .im (.bool a1.1)), (6, .ptr 0 0), (10, .ptr 4 0)] [.var [.own 1, .im (.int .i64 l.2.1.2.1), .own 2, .im (.int .i64 a1.2.1), .im (.bool a1.2.2.1), .im (.int .i64 a1.2.2.2.1), .own 3], .row 3 a1.2.2.2.2.1 true, .row 1 a1.2.2.2.2.2.1 true, .row 3 a1.2.2.2.2.2.2 true, .var [.im .nilp, .im (.int .i64 l.2.2.2.2.2.2.1.2.1), .im (.int .i64 l.2.2.2.2.2.2.1.2.2.1), .im (.int .i64 l.2.2.2.2.2.2.1.2.2.2.1), .im (.int .i64 l.2.2.2.2.2.2.1.2.2.2.2.1), .im (.int .i64 l.2.2.2.2.2.2.1.2.2.2.2.2.1), .im (.int .i64 l.2.2.2.2.2.2.1.2.2.2.2.2.2.1)]] 0)) (fun b1 => (.ret, stOf 116 [(4, .im (.bool b1.1)), (6, .ptr 0 0), (10, .ptr 3 0)] [.var [.own 1, .im (.int .i64 l.2.1.2.1), .own 2, .im (.int .i64 l.2.1.2.2.2.1), .im (.bool b1.2.1), .im (.int .i64 b1.2.2), .im .nils], .row 3 l.2.2.1 true, .row 1 l.2.2.2.1 true, .var [.im .nilp, .im (.int .i64 l.2.2.2.2.2.2.1.2.1), .im (.int .i64 l.2.2.2.2.2.2.1.2.2.1), .im (.int .i64 l.2.2.2.2.2.2.1.2.2.2.1), .im (.int .i64 l.2.2.2.2.2.2.1.2.2.2.2.1), .im (.int .i64 l.2.2.2.2.2.2.1.2.2.2.2.2.1), .im (.int .i64 l.2.2.2.2.2.2.1.2.2.2.2.2.2.1)]] 0)) b0)) y)
noncomputable def Λ10v2 : LFun U := mkLp (U := U) p10v2 q10v2 0 (X := (Unit ⊕ ((Bool × (Int × (Bool × (Int × ((List Int) × ((List Int) × (List Int))))))) ⊕ (Bool × (Bool × Int))))) (fun (l : T10v2) => L10v2 l.1.2.1 l.1.2.2.2.2.2.2.2.2.1 l.2.1.2.1 l.2.1.2.2.2.1 l.2.1.2.2.2.2.1 l.2.1.2.2.2.2.2.1 l.2.2.1 l.2.2.2.1 l.2.2.2.2.1 l.2.2.2.2.2.1.2.1 l.2.2.2.2.2.1.2.2.1 l.2.2.2.2.2.1.2.2.2.1 l.2.2.2.2.2.1.2.2.2.2.1 l.2.2.2.2.2.1.2.2.2.2.2.1 l.2.2.2.2.2.1.2.2.2.2.2.2.1 l.2.2.2.2.2.2.1.2.1 l.2.2.2.2.2.2.1.2.2.1 l.2.2.2.2.2.2.1.2.2.2.1 l.2.2.2.2.2.2.1.2.2.2.2.1 l.2.2.2.2.2.2.1.2.2.2.2.2.1 l.2.2.2.2.2.2.1.2.2.2.2.2.2.1) (spS (spS sp1)) ou10v2
abbrev T10v3 : Type := ((Unit × ((List Act9) × (Unit × (Unit × (Unit × (Unit × (Unit × (Unit × (Int × (Unit × Unit)))))))))) × ((Unit × (Int × (Unit × (Int × (Bool × (Int × (Unit × Unit))))))) × ((List Int) × ((List Int) × ((List Int) × ((Unit × (Int × (Int × (Int × (Int × (Int × (Int × Unit))))))) × ((Unit × (Int × (Unit × (Int × (Bool × (Int × (Unit × Unit))))))) × ((List Int) × ((List Int) × ((List Int) × Unit))))))))))
noncomputable def l10v3 (l_ : (List Act9)) (h0_1 : Int) (h0_3 : Int) (h1 : (List Int)) (h2 : (List Int)) (h4_1 : Int) (h4_2 : Int) (h4_3 : Int) (h4_4 : Int) (h4_5 : Int) (h4_6 : Int) (h5_1 : Int) (i : Int) (h0_4 : Bool) (h0_5 : Int) (h3 : (List Int)) (h5_3 : Int) (h5_4 : Bool) (h5_5 : Int) (h6 : (List Int)) (h7 : (List Int)) (h8 : (List Int)) : Tw ((Int × (Bool × (Int × ((List Int) × (Int × (Bool × (Int × ((List Int) × ((List Int) × (List Int)))))))))) ⊕ ((Bool × (Int × ((List Int) × (Int × (Bool × (Int × ((List Int) × ((List Int) × (List Int))))))))) ⊕ ((Bool × (Bool × (Int × ((List Int) × (Int × (Bool × (Int × ((List Int) × ((List Int) × (List Int)))))))))) ⊕ (Bool × (Bool × (Int × (Int × (Bool × (Int × ((List Int) × ((List Int) × (List Int)))))))))))) :=
 (.bb (decide (i < (((List.length l_) : Nat) : Int)))
  (.dd (((0 : Int) ≤ i)) inferInstance
   (.opt (l_)[(Int.toNat i)]? fun z78 =>
    (.opt (law09_do_nil1.c z78.kind z78.s z78.at_ z78.n z78.w h0_1 h0_3 h0_4 h0_5 h1 h2 h3) fun z79 =>
     (.sm z79
      (fun z80 => (.dd (((0 : Int) ≤ i)) inferInstance
        (.opt (l_)[(Int.toNat i)]? fun z82 =>
         (.opt (law09_told_v2.c z82.kind z82.s z82.at_ z82.n z82.w h4_1 h4_2 h4_3 h4_4 h4_5 h4_6 h5_1 h5_3 h5_4 h5_5 h6 h7 h8) fun z83 =>
          (.sm z83
           (fun z84 => (.opt (ref01_Same.c z80.2.2 z84.2.2.2.2.2.2.2) fun z86 =>
             (.bb (!z86)
              (.ret (.inr (.inr (.inl (false, (h0_4, (h0_5, (h3, (z84.2.2.1, (z84.2.2.2.1, (z84.2.2.2.2.1, (z84.2.2.2.2.2.1, (z84.2.2.2.2.2.2.1, h8)))))))))))))
              (.bb (!(z80.1 == z84.1))
               (.ret (.inr (.inr (.inl (false, (h0_4, (h0_5, (h3, (z84.2.2.1, (z84.2.2.2.1, (z84.2.2.2.2.1, (z84.2.2.2.2.2.1, (z84.2.2.2.2.2.2.1, h8)))))))))))))
               (.bb (z80.2.1 != z84.2.1)
                (.ret (.inr (.inr (.inl (false, (h0_4, (h0_5, (h3, (z84.2.2.1, (z84.2.2.2.1, (z84.2.2.2.2.1, (z84.2.2.2.2.2.1, (z84.2.2.2.2.2.2.1, h8)))))))))))))
                (.opt (flash_Flash_Writes.c h0_1 h0_3 h0_4 h0_5 h1 h2 h3) fun z87 =>
                 (.bb (h0_3 != z84.2.2.1)
                  (.ret (.inr (.inr (.inl (false, (h0_4, (h0_5, (h3, (z84.2.2.1, (z84.2.2.2.1, (z84.2.2.2.2.1, (z84.2.2.2.2.2.1, (z84.2.2.2.2.2.2.1, h8)))))))))))))
                  (.ret (.inl ((w64 (i + (1 : Int))), (h0_4, (h0_5, (h3, (z84.2.2.1, (z84.2.2.2.1, (z84.2.2.2.2.1, (z84.2.2.2.2.2.1, (z84.2.2.2.2.2.2.1, h8))))))))))))))))))
           (fun z85 => (.opt (ref01_Same.c z80.2.2 z85.2.2.2) fun z88 =>
             (.bb (!z88)
              (.ret (.inr (.inr (.inl (false, (h0_4, (h0_5, (h3, (h5_3, (h5_4, (z85.2.2.1, (h6, (h7, z82.w)))))))))))))
              (.bb (!(z80.1 == z85.1))
               (.ret (.inr (.inr (.inl (false, (h0_4, (h0_5, (h3, (h5_3, (h5_4, (z85.2.2.1, (h6, (h7, z82.w)))))))))))))
               (.bb (z80.2.1 != z85.2.1)
                (.ret (.inr (.inr (.inl (false, (h0_4, (h0_5, (h3, (h5_3, (h5_4, (z85.2.2.1, (h6, (h7, z82.w)))))))))))))
                (.opt (flash_Flash_Writes.c h0_1 h0_3 h0_4 h0_5 h1 h2 h3) fun z89 =>
                 (.bb (h0_3 != h5_3)
                  (.ret (.inr (.inr (.inl (false, (h0_4, (h0_5, (h3, (h5_3, (h5_4, (z85.2.2.1, (h6, (h7, z82.w)))))))))))))
                  (.ret (.inl ((w64 (i + (1 : Int))), (h0_4, (h0_5, (h3, (h5_3, (h5_4, (z85.2.2.1, (h6, (h7, z82.w)))))))))))))))))))))
        .no))
      (fun z81 => (.sm z81
        (fun z90 => (.dd (((0 : Int) ≤ i)) inferInstance
          (.opt (l_)[(Int.toNat i)]? fun z92 =>
           (.opt (law09_told_v2.c z92.kind z92.s z92.at_ z92.n z92.w h4_1 h4_2 h4_3 h4_4 h4_5 h4_6 h5_1 h5_3 h5_4 h5_5 h6 h7 h8) fun z93 =>
            (.sm z93
             (fun z94 => (.opt (ref01_Same.c z90.2.2.2.2 z94.2.2.2.2.2.2.2) fun z96 =>
               (.bb (!z96)
                (.ret (.inr (.inr (.inr (false, (z90.2.2.1, (z90.2.2.2.1, (z94.2.2.1, (z94.2.2.2.1, (z94.2.2.2.2.1, (z94.2.2.2.2.2.1, (z94.2.2.2.2.2.2.1, h8))))))))))))
                (.bb (!(z90.1 == z94.1))
                 (.ret (.inr (.inr (.inr (false, (z90.2.2.1, (z90.2.2.2.1, (z94.2.2.1, (z94.2.2.2.1, (z94.2.2.2.2.1, (z94.2.2.2.2.2.1, (z94.2.2.2.2.2.2.1, h8))))))))))))
                 (.bb (z90.2.1 != z94.2.1)
                  (.ret (.inr (.inr (.inr (false, (z90.2.2.1, (z90.2.2.2.1, (z94.2.2.1, (z94.2.2.2.1, (z94.2.2.2.2.1, (z94.2.2.2.2.2.1, (z94.2.2.2.2.2.2.1, h8))))))))))))
                  (.opt (flash_Flash_Writes_v2.c h0_1 h0_3 z90.2.2.1 z90.2.2.2.1 h1 h2) fun z97 =>
                   (.bb (h0_3 != z94.2.2.1)
                    (.ret (.inr (.inr (.inr (false, (z90.2.2.1, (z90.2.2.2.1, (z94.2.2.1, (z94.2.2.2.1, (z94.2.2.2.2.1, (z94.2.2.2.2.2.1, (z94.2.2.2.2.2.2.1, h8))))))))))))
                    (.ret (.inl ((w64 (i + (1 : Int))), (z90.2.2.1, (z90.2.2.2.1, (([] : List Int), (z94.2.2.1, (z94.2.2.2.1, (z94.2.2.2.2.1, (z94.2.2.2.2.2.1, (z94.2.2.2.2.2.2.1, h8))))))))))))))))))
             (fun z95 => (.opt (ref01_Same.c z90.2.2.2.2 z95.2.2.2) fun z98 =>
               (.bb (!z98)
                (.ret (.inr (.inr (.inr (false, (z90.2.2.1, (z90.2.2.2.1, (h5_3, (h5_4, (z95.2.2.1, (h6, (h7, z92.w))))))))))))
                (.bb (!(z90.1 == z95.1))
                 (.ret (.inr (.inr (.inr (false, (z90.2.2.1, (z90.2.2.2.1, (h5_3, (h5_4, (z95.2.2.1, (h6, (h7, z92.w))))))))))))
                 (.bb (z90.2.1 != z95.2.1)
                  (.ret (.inr (.inr (.inr (false, (z90.2.2.1, (z90.2.2.2.1, (h5_3, (h5_4, (z95.2.2.1, (h6, (h7, z92.w))))))))))))
                  (.opt (flash_Flash_Writes_v2.c h0_1 h0_3 z90.2.2.1 z90.2.2.2.1 h1 h2) fun z99 =>
                   (.bb (h0_3 != h5_3)
                    (.ret (.inr (.inr (.inr (false, (z90.2.2.1, (z90.2.2.2.1, (h5_3, (h5_4, (z95.2.2.1, (h6, (h7, z92.w))))))))))))
                    (.ret (.inl ((w64 (i + (1 : Int))), (z90.2.2.1, (z90.2.2.2.1, (([] : List Int), (h5_3, (h5_4, (z95.2.2.1, (h6, (h7, z92.w)))))))))))))))))))))
          .no))
        (fun z91 => (.dd (((0 : Int) ≤ i)) inferInstance
          (.opt (l_)[(Int.toNat i)]? fun z100 =>
           (.opt (law09_told_v2.c z100.kind z100.s z100.at_ z100.n z100.w h4_1 h4_2 h4_3 h4_4 h4_5 h4_6 h5_1 h5_3 h5_4 h5_5 h6 h7 h8) fun z101 =>
            (.sm z101
             (fun z102 => (.opt (ref01_Same.c z91.2.2.2.1 z102.2.2.2.2.2.2.2) fun z104 =>
               (.bb (!z104)
                (.ret (.inr (.inr (.inl (false, (h0_4, (z91.2.2.1, (z91.2.2.2.2, (z102.2.2.1, (z102.2.2.2.1, (z102.2.2.2.2.1, (z102.2.2.2.2.2.1, (z102.2.2.2.2.2.2.1, h8)))))))))))))
                (.bb (!(z91.1 == z102.1))
                 (.ret (.inr (.inr (.inl (false, (h0_4, (z91.2.2.1, (z91.2.2.2.2, (z102.2.2.1, (z102.2.2.2.1, (z102.2.2.2.2.1, (z102.2.2.2.2.2.1, (z102.2.2.2.2.2.2.1, h8)))))))))))))
                 (.bb (z91.2.1 != z102.2.1)
                  (.ret (.inr (.inr (.inl (false, (h0_4, (z91.2.2.1, (z91.2.2.2.2, (z102.2.2.1, (z102.2.2.2.1, (z102.2.2.2.2.1, (z102.2.2.2.2.2.1, (z102.2.2.2.2.2.2.1, h8)))))))))))))
                  (.opt (flash_Flash_Writes.c h0_1 h0_3 h0_4 z91.2.2.1 h1 h2 z91.2.2.2.2) fun z105 =>
                   (.bb (h0_3 != z102.2.2.1)
                    (.ret (.inr (.inr (.inl (false, (h0_4, (z91.2.2.1, (z91.2.2.2.2, (z102.2.2.1, (z102.2.2.2.1, (z102.2.2.2.2.1, (z102.2.2.2.2.2.1, (z102.2.2.2.2.2.2.1, h8)))))))))))))
                    (.ret (.inl ((w64 (i + (1 : Int))), (h0_4, (z91.2.2.1, (z91.2.2.2.2, (z102.2.2.1, (z102.2.2.2.1, (z102.2.2.2.2.1, (z102.2.2.2.2.2.1, (z102.2.2.2.2.2.2.1, h8))))))))))))))))))
             (fun z103 => (.opt (ref01_Same.c z91.2.2.2.1 z103.2.2.2) fun z106 =>
               (.bb (!z106)
                (.ret (.inr (.inr (.inl (false, (h0_4, (z91.2.2.1, (z91.2.2.2.2, (h5_3, (h5_4, (z103.2.2.1, (h6, (h7, z100.w)))))))))))))
                (.bb (!(z91.1 == z103.1))
                 (.ret (.inr (.inr (.inl (false, (h0_4, (z91.2.2.1, (z91.2.2.2.2, (h5_3, (h5_4, (z103.2.2.1, (h6, (h7, z100.w)))))))))))))
                 (.bb (z91.2.1 != z103.2.1)
                  (.ret (.inr (.inr (.inl (false, (h0_4, (z91.2.2.1, (z91.2.2.2.2, (h5_3, (h5_4, (z103.2.2.1, (h6, (h7, z100.w)))))))))))))
                  (.opt (flash_Flash_Writes.c h0_1 h0_3 h0_4 z91.2.2.1 h1 h2 z91.2.2.2.2) fun z107 =>
                   (.bb (h0_3 != h5_3)
                    (.ret (.inr (.inr (.inl (false, (h0_4, (z91.2.2.1, (z91.2.2.2.2, (h5_3, (h5_4, (z103.2.2.1, (h6, (h7, z100.w)))))))))))))
                    (.ret (.inl ((w64 (i + (1 : Int))), (h0_4, (z91.2.2.1, (z91.2.2.2.2, (h5_3, (h5_4, (z103.2.2.1, (h6, (h7, z100.w)))))))))))))))))))))
          .no)))))))
   .no)
  (.ret (.inr (.inl (h0_4, (h0_5, (h3, (h5_3, (h5_4, (h5_5, (h6, (h7, h8))))))))))))
noncomputable def L10v3 (l_ : (List Act9)) (i : Int) (h0_1 : Int) (h0_3 : Int) (h0_4 : Bool) (h0_5 : Int) (h1 : (List Int)) (h2 : (List Int)) (h3 : (List Int)) (h4_1 : Int) (h4_2 : Int) (h4_3 : Int) (h4_4 : Int) (h4_5 : Int) (h4_6 : Int) (h5_1 : Int) (h5_3 : Int) (h5_4 : Bool) (h5_5 : Int) (h6 : (List Int)) (h7 : (List Int)) (h8 : (List Int)) : Option ((Bool × (Int × ((List Int) × (Int × (Bool × (Int × ((List Int) × ((List Int) × (List Int))))))))) ⊕ ((Bool × (Bool × (Int × ((List Int) × (Int × (Bool × (Int × ((List Int) × ((List Int) × (List Int)))))))))) ⊕ (Bool × (Bool × (Int × (Int × (Bool × (Int × ((List Int) × ((List Int) × (List Int))))))))))) := Lp (fun s => (l10v3 l_ h0_1 h0_3 h1 h2 h4_1 h4_2 h4_3 h4_4 h4_5 h4_6 h5_1 s.1 s.2.1 s.2.2.1 s.2.2.2.1 s.2.2.2.2.1 s.2.2.2.2.2.1 s.2.2.2.2.2.2.1 s.2.2.2.2.2.2.2.1 s.2.2.2.2.2.2.2.2.1 s.2.2.2.2.2.2.2.2.2).run) (i, (h0_4, (h0_5, (h3, (h5_3, (h5_4, (h5_5, (h6, (h7, h8)))))))))
def p10v3 : Pt := (.cs (.bots 1) (.cs (.sl 21) (.cs (.bots 4) (.cs (.ptr 0 0) (.cs (.bots 1) (.cs .nilp (.cs (.bots 1) (.cs (.ptr 4 0) (.cs (.int .i64) (.cs (.bots 104) .nl))))))))))
def q10v3 : Pt := (.cs (.var (.cs (.own 1) (.cs (.int .i64) (.cs (.own 2) (.cs (.int .i64) (.cs .bool (.cs (.int .i64) (.cs (.own 3) .nl)))))))) (.cs (.row 3 true) (.cs (.row 1 true) (.cs (.row 3 true) (.cs (.var (.cs (.ptr 5 0) (.cs (.int .i64) (.cs (.int .i64) (.cs (.int .i64) (.cs (.int .i64) (.cs (.int .i64) (.cs (.int .i64) .nl)))))))) (.cs (.var (.cs (.own 6) (.cs (.int .i64) (.cs (.own 7) (.cs (.int .i64) (.cs .bool (.cs (.int .i64) (.cs (.own 8) .nl)))))))) (.cs (.row 3 true) (.cs (.row 1 true) (.cs (.row 3 true) .nl)))))))))
def ou10v3 (l : T10v3) (y : ((Bool × (Int × ((List Int) × (Int × (Bool × (Int × ((List Int) × ((List Int) × (List Int))))))))) ⊕ ((Bool × (Bool × (Int × ((List Int) × (Int × (Bool × (Int × ((List Int) × ((List Int) × (List Int)))))))))) ⊕ (Bool × (Bool × (Int × (Int × (Bool × (Int × ((List Int) × ((List Int) × (List Int)))))))))))) : Ex × St U := (Sum.elim (fun a0 => (.exit 0, stOf 116 [(6, .ptr 0 0), (10, .ptr 4 0)] [.var [.own 1, .im (.int .i64 l.2.1.2.1), .own 2, .im (.int .i64 l.2.1.2.2.2.1), .im (.bool a0.1), .im (.int .i64 a0.2.1), .own 3], .row 3 l.2.2.1 true, .row 1 l.2.2.2.1 true, .row 3 a0.2.2.1 true, .var [.ptr 5 0, .im (.int .i64 l.2.2.2.2.2.1.2.1), .im (.int .i64 l.2.2.2.2.2.1.2.2.1), .im (.int .i64 l.2.2.2.2.2.1.2.2.2.1), .im (.int .i64 l.2.2.2.2.2.1.2.2.2.2.1), .im (.int .i64 l.2.2.2.2.2.1.2.2.2.2.2.1), .im (.int .i64 l.2.2.2.2.2.1.2.2.2.2.2.2.1)], .var [.own 6, .im (.int .i64 l.2.2.2.2.2.2.1.2.1), .own 7, .im (.int .i64 a0.2.2.2.1), .im (.bool a0.2.2.2.2.1), .im (.int .i64 a0.2.2.2.2.2.1), .own 8], .row 3 a0.2.2.2.2.2.2.1 true, .row 1 a0.2.2.2.2.2.2.2.1 true, .row 3 a0.2.2.2.2.2.2.2.2 true] 0)) (fun b0 => (Sum.elim (fun a1 => (.ret, stOf 116 [(4, .im (.bool a1.1)), (6, .ptr 0 0), (10, .ptr 4 0)] [.var [.own 1, .im (.int .i64 l.2.1.2.1), .own 2, .im (.int .i64 l.2.1.2.2.2.1), .im (.bool a1.2.1), .im (.int .i64 a1.2.2.1), .own 3], .row 3 l.2.2.1 true, .row 1 l.2.2.2.1 true, .row 3 a1.2.2.2.1 true, .var [.ptr 5 0, .im (.int .i64 l.2.2.2.2.2.1.2.1), .im (.int .i64 l.2.2.2.2.2.1.2.2.1), .im (.int .i64 l.2.2.2.2.2.1.2.2.2.1), .im (.int .i64 l.2.2.2.2.2.1.2.2.2.2.1), .im (.int .i64 l.2.2.2.2.2.1.2.2.2.2.2.1), .im (.int .i64 l.2.2.2.2.2.1.2.2.2.2.2.2.1)], .var [.own 6, .im (.int .i64 l.2.2.2.2.2.2.1.2.1), .own 7, .im (.int .i64 a1.2.2.2.2.1), .im (.bool a1.2.2.2.2.2.1), .im (.int .i64 a1.2.2.2.2.2.2.1), .own 8], .row 3 a1.2.2.2.2.2.2.2.1 true, .row 1 a1.2.2.2.2.2.2.2.2.1 true, .row 3 a1.2.2.2.2.2.2.2.2.2 true] 0)) (fun b1 => (.ret, stOf 116 [(4, .im (.bool b1.1)), (6, .ptr 0 0), (10, .ptr 3 0)] [.var [.own 1, .im (.int .i64 l.2.1.2.1), .own 2, .im (.int .i64 l.2.1.2.2.2.1), .im (.bool b1.2.1), .im (.int .i64 b1.2.2.1), .im .nils], .row 3 l.2.2.1 true, .row 1 l.2.2.2.1 true, .var [.ptr 4 0, .im (.int .i64 l.2.2.2.2.2.1.2.1), .im (.int .i64 l.2.2.2.2.2.1.2.2.1), .im (.int .i64 l.2.2.2.2.2.1.2.2.2.1), .im (.int .i64 l.2.2.2.2.2.1.2.2.2.2.1), .im (.int .i64 l.2.2.2.2.2.1.2.2.2.2.2.1), .im (.int .i64 l.2.2.2.2.2.1.2.2.2.2.2.2.1)], .var [.own 5, .im (.int .i64 l.2.2.2.2.2.2.1.2.1), .own 6, .im (.int .i64 b1.2.2.2.1), .im (.bool b1.2.2.2.2.1), .im (.int .i64 b1.2.2.2.2.2.1), .own 7], .row 3 b1.2.2.2.2.2.2.1 true, .row 1 b1.2.2.2.2.2.2.2.1 true, .row 3 b1.2.2.2.2.2.2.2.2 true] 0)) b0)) y)
noncomputable def Λ10v3 : LFun U := mkLp (U := U) p10v3 q10v3 0 (X := ((Bool × (Int × ((List Int) × (Int × (Bool × (Int × ((List Int) × ((List Int) × (List Int))))))))) ⊕ ((Bool × (Bool × (Int × ((List Int) × (Int × (Bool × (Int × ((List Int) × ((List Int) × (List Int)))))))))) ⊕ (Bool × (Bool × (Int × (Int × (Bool × (Int × ((List Int) × ((List Int) × (List Int)))))))))))) (fun (l : T10v3) => L10v3 l.1.2.1 l.1.2.2.2.2.2.2.2.2.1 l.2.1.2.1 l.2.1.2.2.2.1 l.2.1.2.2.2.2.1 l.2.1.2.2.2.2.2.1 l.2.2.1 l.2.2.2.1 l.2.2.2.2.1 l.2.2.2.2.2.1.2.1 l.2.2.2.2.2.1.2.2.1 l.2.2.2.2.2.1.2.2.2.1 l.2.2.2.2.2.1.2.2.2.2.1 l.2.2.2.2.2.1.2.2.2.2.2.1 l.2.2.2.2.2.1.2.2.2.2.2.2.1 l.2.2.2.2.2.2.1.2.1 l.2.2.2.2.2.2.1.2.2.2.1 l.2.2.2.2.2.2.1.2.2.2.2.1 l.2.2.2.2.2.2.1.2.2.2.2.2.1 l.2.2.2.2.2.2.2.1 l.2.2.2.2.2.2.2.2.1 l.2.2.2.2.2.2.2.2.2.1) (spS (spS sp1)) ou10v3
abbrev T10v4 : Type := ((Unit × ((List Act9) × (Unit × (Unit × (Unit × (Unit × (Unit × (Unit × (Int × (Unit × Unit)))))))))) × ((Unit × (Int × (Unit × (Int × (Bool × (Int × (Unit × Unit))))))) × ((List Int) × ((List Int) × ((List Int) × ((Unit × (Int × (Int × (Int × (Int × (Int × (Int × Unit))))))) × Unit))))))
noncomputable def l10v4 (l_ : (List Act9)) (i : Int) (h0_1 : Int) (h0_3 : Int) (h0_4 : Bool) (h0_5 : Int) (h1 : (List Int)) (h2 : (List Int)) (h3 : (List Int)) (h4_1 : Int) (h4_2 : Int) (h4_3 : Int) (h4_4 : Int) (h4_5 : Int) (h4_6 : Int) : Tw (Unit ⊕ (Unit ⊕ ((Bool × (Int × (List Int))) ⊕ (Bool × (Bool × Int))))) :=
 (.bb (decide (i < (((List.length l_) : Nat) : Int)))
  (.dd (((0 : Int) ≤ i)) inferInstance
   (.opt (l_)[(Int.toNat i)]? fun z116 =>
    (.opt (law09_do_nil1.c z116.kind z116.s z116.at_ z116.n z116.w h0_1 h0_3 h0_4 h0_5 h1 h2 h3) fun z117 =>
     (.sm z117
      (fun z118 => (.dd (((0 : Int) ≤ i)) inferInstance
        (.opt (l_)[(Int.toNat i)]? fun z120 =>
         (.opt (law09_told_v3.c z120.kind z120.s z120.at_ z120.n z120.w h4_1 h4_2 h4_3 h4_4 h4_5 h4_6) fun z121 =>
          (.opt (ref01_Same_none1.c z118.2.2) fun z122 =>
           (.bb (!z122)
            (.ret (.inr (.inr (.inl (false, (h0_5, h3))))))
            (.bb (!(z118.1 == z121.1))
             (.ret (.inr (.inr (.inl (false, (h0_5, h3))))))
             (.bb (z118.2.1 != z121.2)
              (.ret (.inr (.inr (.inl (false, (h0_5, h3))))))
              (.opt (flash_Flash_Writes.c h0_1 h0_3 h0_4 h0_5 h1 h2 h3) fun z123 =>
               .no)))))))
        .no))
      (fun z119 => (.sm z119
        (fun z124 => (.dd (((0 : Int) ≤ i)) inferInstance
          (.opt (l_)[(Int.toNat i)]? fun z126 =>
           (.opt (law09_told_v3.c z126.kind z126.s z126.at_ z126.n z126.w h4_1 h4_2 h4_3 h4_4 h4_5 h4_6) fun z127 =>
            (.opt (ref01_Same_none1.c z124.2.2.2.2) fun z128 =>
             (.bb (!z128)
              (.ret (.inr (.inr (.inr (false, (z124.2.2.1, z124.2.2.2.1))))))
              (.bb (!(z124.1 == z127.1))
               (.ret (.inr (.inr (.inr (false, (z124.2.2.1, z124.2.2.2.1))))))
               (.bb (z124.2.1 != z127.2)
                (.ret (.inr (.inr (.inr (false, (z124.2.2.1, z124.2.2.2.1))))))
                (.opt (flash_Flash_Writes_v2.c h0_1 h0_3 z124.2.2.1 z124.2.2.2.1 h1 h2) fun z129 =>
                 .no)))))))
          .no))
        (fun z125 => (.dd (((0 : Int) ≤ i)) inferInstance
          (.opt (l_)[(Int.toNat i)]? fun z130 =>
           (.opt (law09_told_v3.c z130.kind z130.s z130.at_ z130.n z130.w h4_1 h4_2 h4_3 h4_4 h4_5 h4_6) fun z131 =>
            (.opt (ref01_Same_none1.c z125.2.2.2.1) fun z132 =>
             (.bb (!z132)
              (.ret (.inr (.inr (.inl (false, (z125.2.2.1, z125.2.2.2.2))))))
              (.bb (!(z125.1 == z131.1))
               (.ret (.inr (.inr (.inl (false, (z125.2.2.1, z125.2.2.2.2))))))
               (.bb (z125.2.1 != z131.2)
                (.ret (.inr (.inr (.inl (false, (z125.2.2.1, z125.2.2.2.2))))))
                (.opt (flash_Flash_Writes.c h0_1 h0_3 h0_4 z125.2.2.1 h1 h2 z125.2.2.2.2) fun z133 =>
                 .no)))))))
          .no)))))))
   .no)
  (.ret (.inr (.inl ()))))
noncomputable def L10v4 (l_ : (List Act9)) (i : Int) (h0_1 : Int) (h0_3 : Int) (h0_4 : Bool) (h0_5 : Int) (h1 : (List Int)) (h2 : (List Int)) (h3 : (List Int)) (h4_1 : Int) (h4_2 : Int) (h4_3 : Int) (h4_4 : Int) (h4_5 : Int) (h4_6 : Int) : Option (Unit ⊕ ((Bool × (Int × (List Int))) ⊕ (Bool × (Bool × Int)))) := Lp (fun s => (l10v4 l_ i h0_1 h0_3 h0_4 h0_5 h1 h2 h3 h4_1 h4_2 h4_3 h4_4 h4_5 h4_6).run) ()
def p10v4 : Pt := (.cs (.bots 1) (.cs (.sl 21) (.cs (.bots 4) (.cs (.ptr 0 0) (.cs (.bots 1) (.cs .nilp (.cs (.bots 1) (.cs (.ptr 4 0) (.cs (.int .i64) (.cs (.bots 104) .nl))))))))))
def q10v4 : Pt := (.cs (.var (.cs (.own 1) (.cs (.int .i64) (.cs (.own 2) (.cs (.int .i64) (.cs .bool (.cs (.int .i64) (.cs (.own 3) .nl)))))))) (.cs (.row 3 true) (.cs (.row 1 true) (.cs (.row 3 true) (.cs (.var (.cs .nilp (.cs (.int .i64) (.cs (.int .i64) (.cs (.int .i64) (.cs (.int .i64) (.cs (.int .i64) (.cs (.int .i64) .nl)))))))) .nl)))))
def ou10v4 (l : T10v4) (y : (Unit ⊕ ((Bool × (Int × (List Int))) ⊕ (Bool × (Bool × Int))))) : Ex × St U := (Sum.elim (fun a0 => (.exit 0, stOf 116 [(6, .ptr 0 0), (10, .ptr 4 0)] [.var [.own 1, .im (.int .i64 l.2.1.2.1), .own 2, .im (.int .i64 l.2.1.2.2.2.1), .im (.bool l.2.1.2.2.2.2.1), .im (.int .i64 l.2.1.2.2.2.2.2.1), .own 3], .row 3 l.2.2.1 true, .row 1 l.2.2.2.1 true, .row 3 l.2.2.2.2.1 true, .var [.im .nilp, .im (.int .i64 l.2.2.2.2.2.1.2.1), .im (.int .i64 l.2.2.2.2.2.1.2.2.1), .im (.int .i64 l.2.2.2.2.2.1.2.2.2.1), .im (.int .i64 l.2.2.2.2.2.1.2.2.2.2.1), .im (.int .i64 l.2.2.2.2.2.1.2.2.2.2.2.1), .im (.int .i64 l.2.2.2.2.2.1.2.2.2.2.2.2.1)]] 0)) (fun b0 => (Sum.elim (fun a1 => (.ret, stOf 116 [(4, .im (.bool a1.1)), (6, .ptr 0 0), (10, .ptr 4 0)] [.var [.own 1, .im (.int .i64 l.2.1.2.1), .own 2, .im (.int .i64 l.2.1.2.2.2.1), .im (.bool l.2.1.2.2.2.2.1), .im (.int .i64 a1.2.1), .own 3], .row 3 l.2.2.1 true, .row 1 l.2.2.2.1 true, .row 3 a1.2.2 true, .var [.im .nilp, .im (.int .i64 l.2.2.2.2.2.1.2.1), .im (.int .i64 l.2.2.2.2.2.1.2.2.1), .im (.int .i64 l.2.2.2.2.2.1.2.2.2.1), .im (.int .i64 l.2.2.2.2.2.1.2.2.2.2.1), .im (.int .i64 l.2.2.2.2.2.1.2.2.2.2.2.1), .im (.int .i64 l.2.2.2.2.2.1.2.2.2.2.2.2.1)]] 0)) (fun b1 => (.ret, stOf 116 [(4, .im (.bool b1.1)), (6, .ptr 0 0), (10, .ptr 3 0)] [.var [.own 1, .im (.int .i64 l.2.1.2.1), .own 2, .im (.int .i64 l.2.1.2.2.2.1), .im (.bool b1.2.1), .im (.int .i64 b1.2.2), .im .nils], .row 3 l.2.2.1 true, .row 1 l.2.2.2.1 true, .var [.im .nilp, .im (.int .i64 l.2.2.2.2.2.1.2.1), .im (.int .i64 l.2.2.2.2.2.1.2.2.1), .im (.int .i64 l.2.2.2.2.2.1.2.2.2.1), .im (.int .i64 l.2.2.2.2.2.1.2.2.2.2.1), .im (.int .i64 l.2.2.2.2.2.1.2.2.2.2.2.1), .im (.int .i64 l.2.2.2.2.2.1.2.2.2.2.2.2.1)]] 0)) b0)) y)
noncomputable def Λ10v4 : LFun U := mkLp (U := U) p10v4 q10v4 0 (X := (Unit ⊕ ((Bool × (Int × (List Int))) ⊕ (Bool × (Bool × Int))))) (fun (l : T10v4) => L10v4 l.1.2.1 l.1.2.2.2.2.2.2.2.2.1 l.2.1.2.1 l.2.1.2.2.2.1 l.2.1.2.2.2.2.1 l.2.1.2.2.2.2.2.1 l.2.2.1 l.2.2.2.1 l.2.2.2.2.1 l.2.2.2.2.2.1.2.1 l.2.2.2.2.2.1.2.2.1 l.2.2.2.2.2.1.2.2.2.1 l.2.2.2.2.2.1.2.2.2.2.1 l.2.2.2.2.2.1.2.2.2.2.2.1 l.2.2.2.2.2.1.2.2.2.2.2.2.1) (spS (spS sp1)) ou10v4
abbrev T10v5 : Type := ((Unit × ((List Act9) × (Unit × (Unit × (Unit × (Unit × (Unit × (Unit × (Int × (Unit × Unit)))))))))) × ((Unit × (Int × (Int × (Int × (Int × (Int × (Int × Unit))))))) × ((Unit × (Int × (Unit × (Int × (Bool × (Int × (Unit × Unit))))))) × ((List Int) × ((List Int) × ((List Int) × Unit))))))
noncomputable def l10v5 (l_ : (List Act9)) (h0_1 : Int) (h0_2 : Int) (h0_3 : Int) (h0_4 : Int) (h0_5 : Int) (h0_6 : Int) (h1_1 : Int) (i : Int) (h1_3 : Int) (h1_4 : Bool) (h1_5 : Int) (h2 : (List Int)) (h3 : (List Int)) (h4 : (List Int)) : Tw ((Int × (Int × (Bool × (Int × ((List Int) × ((List Int) × (List Int))))))) ⊕ ((Int × (Bool × (Int × ((List Int) × ((List Int) × (List Int)))))) ⊕ (Bool × (Int × (Bool × (Int × ((List Int) × ((List Int) × (List Int))))))))) :=
 (.bb (decide (i < (((List.length l_) : Nat) : Int)))
  (.dd (((0 : Int) ≤ i)) inferInstance
   (.opt (l_)[(Int.toNat i)]? fun z144 =>
    (.opt (law09_do_nil0_nil1.c z144.kind z144.s z144.at_ z144.n z144.w) fun z145 =>
     (.dd (((0 : Int) ≤ i)) inferInstance
      (.opt (l_)[(Int.toNat i)]? fun z146 =>
       (.opt (law09_told_v2.c z146.kind z146.s z146.at_ z146.n z146.w h0_1 h0_2 h0_3 h0_4 h0_5 h0_6 h1_1 h1_3 h1_4 h1_5 h2 h3 h4) fun z147 =>
        (.sm z147
         (fun z148 => (.opt (ref01_Same.c z145.2.2 z148.2.2.2.2.2.2.2) fun z150 =>
           (.bb (!z150)
            (.ret (.inr (.inr (false, (z148.2.2.1, (z148.2.2.2.1, (z148.2.2.2.2.1, (z148.2.2.2.2.2.1, (z148.2.2.2.2.2.2.1, h4)))))))))
            (.bb (!(z145.1 == z148.1))
             (.ret (.inr (.inr (false, (z148.2.2.1, (z148.2.2.2.1, (z148.2.2.2.2.1, (z148.2.2.2.2.2.1, (z148.2.2.2.2.2.2.1, h4)))))))))
             (.bb (z145.2.1 != z148.2.1)
              (.ret (.inr (.inr (false, (z148.2.2.1, (z148.2.2.2.1, (z148.2.2.2.2.1, (z148.2.2.2.2.2.1, (z148.2.2.2.2.2.2.1, h4)))))))))
              (.opt (flash_Flash_Writes_nil0.c) fun z151 =>
               (.bb (z151 != z148.2.2.1)
                (.ret (.inr (.inr (false, (z148.2.2.1, (z148.2.2.2.1, (z148.2.2.2.2.1, (z148.2.2.2.2.2.1, (z148.2.2.2.2.2.2.1, h4)))))))))
                (.ret (.inl ((w64 (i + (1 : Int))), (z148.2.2.1, (z148.2.2.2.1, (z148.2.2.2.2.1, (z148.2.2.2.2.2.1, (z148.2.2.2.2.2.2.1, h4)))))))))))))))
         (fun z149 => (.opt (ref01_Same.c z145.2.2 z149.2.2.2) fun z152 =>
           (.bb (!z152)
            (.ret (.inr (.inr (false, (h1_3, (h1_4, (z149.2.2.1, (h2, (h3, z146.w)))))))))
            (.bb (!(z145.1 == z149.1))
             (.ret (.inr (.inr (false, (h1_3, (h1_4, (z149.2.2.1, (h2, (h3, z146.w)))))))))
             (.bb (z145.2.1 != z149.2.1)
              (.ret (.inr (.inr (false, (h1_3, (h1_4, (z149.2.2.1, (h2, (h3, z146.w)))))))))
              (.opt (flash_Flash_Writes_nil0.c) fun z153 =>
               (.bb (z153 != h1_3)
                (.ret (.inr (.inr (false, (h1_3, (h1_4, (z149.2.2.1, (h2, (h3, z146.w)))))))))
                (.ret (.inl ((w64 (i + (1 : Int))), (h1_3, (h1_4, (z149.2.2.1, (h2, (h3, z146.w))))))))))))))))))
      .no)))
   .no)
  (.ret (.inr (.inl (h1_3, (h1_4, (h1_5, (h2, (h3, h4)))))))))
noncomputable def L10v5 (l_ : (List Act9)) (i : Int) (h0_1 : Int) (h0_2 : Int) (h0_3 : Int) (h0_4 : Int) (h0_5 : Int) (h0_6 : Int) (h1_1 : Int) (h1_3 : Int) (h1_4 : Bool) (h1_5 : Int) (h2 : (List Int)) (h3 : (List Int)) (h4 : (List Int)) : Option ((Int × (Bool × (Int × ((List Int) × ((List Int) × (List Int)))))) ⊕ (Bool × (Int × (Bool × (Int × ((List Int) × ((List Int) × (List Int)))))))) := Lp (fun s => (l10v5 l_ h0_1 h0_2 h0_3 h0_4 h0_5 h0_6 h1_1 s.1 s.2.1 s.2.2.1 s.2.2.2.1 s.2.2.2.2.1 s.2.2.2.2.2.1 s.2.2.2.2.2.2).run) (i, (h1_3, (h1_4, (h1_5, (h2, (h3, h4))))))
def p10v5 : Pt := (.cs (.bots 1) (.cs (.sl 21) (.cs (.bots 4) (.cs .nilp (.cs (.bots 1) (.cs .nilp (.cs (.bots 1) (.cs (.ptr 0 0) (.cs (.int .i64) (.cs (.bots 104) .nl))))))))))
def q10v5 : Pt := (.cs (.var (.cs (.ptr 1 0) (.cs (.int .i64) (.cs (.int .i64) (.cs (.int .i64) (.cs (.int .i64) (.cs (.int .i64) (.cs (.int .i64) .nl)))))))) (.cs (.var (.cs (.own 2) (.cs (.int .i64) (.cs (.own 3) (.cs (.int .i64) (.cs .bool (.cs (.int .i64) (.cs (.own 4) .nl)))))))) (.cs (.row 3 true) (.cs (.row 1 true) (.cs (.row 3 true) .nl)))))
def ou10v5 (l : T10v5) (y : ((Int × (Bool × (Int × ((List Int) × ((List Int) × (List Int)))))) ⊕ (Bool × (Int × (Bool × (Int × ((List Int) × ((List Int) × (List Int))))))))) : Ex × St U := (Sum.elim (fun a0 => (.exit 0, stOf 116 [(6, .im .nilp), (10, .ptr 0 0)] [.var [.ptr 1 0, .im (.int .i64 l.2.1.2.1), .im (.int .i64 l.2.1.2.2.1), .im (.int .i64 l.2.1.2.2.2.1), .im (.int .i64 l.2.1.2.2.2.2.1), .im (.int .i64 l.2.1.2.2.2.2.2.1), .im (.int .i64 l.2.1.2.2.2.2.2.2.1)], .var [.own 2, .im (.int .i64 l.2.2.1.2.1), .own 3, .im (.int .i64 a0.1), .im (.bool a0.2.1), .im (.int .i64 a0.2.2.1), .own 4], .row 3 a0.2.2.2.1 true, .row 1 a0.2.2.2.2.1 true, .row 3 a0.2.2.2.2.2 true] 0)) (fun b0 => (.ret, stOf 116 [(4, .im (.bool b0.1)), (6, .im .nilp), (10, .ptr 0 0)] [.var [.ptr 1 0, .im (.int .i64 l.2.1.2.1), .im (.int .i64 l.2.1.2.2.1), .im (.int .i64 l.2.1.2.2.2.1), .im (.int .i64 l.2.1.2.2.2.2.1), .im (.int .i64 l.2.1.2.2.2.2.2.1), .im (.int .i64 l.2.1.2.2.2.2.2.2.1)], .var [.own 2, .im (.int .i64 l.2.2.1.2.1), .own 3, .im (.int .i64 b0.2.1), .im (.bool b0.2.2.1), .im (.int .i64 b0.2.2.2.1), .own 4], .row 3 b0.2.2.2.2.1 true, .row 1 b0.2.2.2.2.2.1 true, .row 3 b0.2.2.2.2.2.2 true] 0)) y)
noncomputable def Λ10v5 : LFun U := mkLp (U := U) p10v5 q10v5 0 (X := ((Int × (Bool × (Int × ((List Int) × ((List Int) × (List Int)))))) ⊕ (Bool × (Int × (Bool × (Int × ((List Int) × ((List Int) × (List Int))))))))) (fun (l : T10v5) => L10v5 l.1.2.1 l.1.2.2.2.2.2.2.2.2.1 l.2.1.2.1 l.2.1.2.2.1 l.2.1.2.2.2.1 l.2.1.2.2.2.2.1 l.2.1.2.2.2.2.2.1 l.2.1.2.2.2.2.2.2.1 l.2.2.1.2.1 l.2.2.1.2.2.2.1 l.2.2.1.2.2.2.2.1 l.2.2.1.2.2.2.2.2.1 l.2.2.2.1 l.2.2.2.2.1 l.2.2.2.2.2.1) (spS sp1) ou10v5
abbrev T10v6 : Type := ((Unit × ((List Act9) × (Unit × (Unit × (Unit × (Unit × (Unit × (Unit × (Int × (Unit × Unit)))))))))) × ((Unit × (Int × (Int × (Int × (Int × (Int × (Int × Unit))))))) × Unit))
noncomputable def l10v6 (l_ : (List Act9)) (i : Int) (h0_1 : Int) (h0_2 : Int) (h0_3 : Int) (h0_4 : Int) (h0_5 : Int) (h0_6 : Int) : Tw (Unit ⊕ (Unit ⊕ Bool)) :=
 (.bb (decide (i < (((List.length l_) : Nat) : Int)))
  (.dd (((0 : Int) ≤ i)) inferInstance
   (.opt (l_)[(Int.toNat i)]? fun z160 =>
    (.opt (law09_do_nil0_nil1.c z160.kind z160.s z160.at_ z160.n z160.w) fun z161 =>
     (.dd (((0 : Int) ≤ i)) inferInstance
      (.opt (l_)[(Int.toNat i)]? fun z162 =>
       (.opt (law09_told_v3.c z162.kind z162.s z162.at_ z162.n z162.w h0_1 h0_2 h0_3 h0_4 h0_5 h0_6) fun z163 =>
        (.opt (ref01_Same_none1.c z161.2.2) fun z164 =>
         (.bb (!z164)
          (.ret (.inr (.inr false)))
          (.bb (!(z161.1 == z163.1))
           (.ret (.inr (.inr false)))
           (.bb (z161.2.1 != z163.2)
            (.ret (.inr (.inr false)))
            (.opt (flash_Flash_Writes_nil0.c) fun z165 =>
             .no)))))))
      .no)))
   .no)
  (.ret (.inr (.inl ()))))
noncomputable def L10v6 (l_ : (List Act9)) (i : Int) (h0_1 : Int) (h0_2 : Int) (h0_3 : Int) (h0_4 : Int) (h0_5 : Int) (h0_6 : Int) : Option (Unit ⊕ Bool) := Lp (fun s => (l10v6 l_ i h0_1 h0_2 h0_3 h0_4 h0_5 h0_6).run) ()
def p10v6 : Pt := (.cs (.bots 1) (.cs (.sl 21) (.cs (.bots 4) (.cs .nilp (.cs (.bots 1) (.cs .nilp (.cs (.bots 1) (.cs (.ptr 0 0) (.cs (.int .i64) (.cs (.bots 104) .nl))))))))))
def q10v6 : Pt := (.cs (.var (.cs .nilp (.cs (.int .i64) (.cs (.int .i64) (.cs (.int .i64) (.cs (.int .i64) (.cs (.int .i64) (.cs (.int .i64) .nl)))))))) .nl)
def ou10v6 (l : T10v6) (y : (Unit ⊕ Bool)) : Ex × St U := (Sum.elim (fun a0 => (.exit 0, stOf 116 [(6, .im .nilp), (10, .ptr 0 0)] [.var [.im .nilp, .im (.int .i64 l.2.1.2.1), .im (.int .i64 l.2.1.2.2.1), .im (.int .i64 l.2.1.2.2.2.1), .im (.int .i64 l.2.1.2.2.2.2.1), .im (.int .i64 l.2.1.2.2.2.2.2.1), .im (.int .i64 l.2.1.2.2.2.2.2.2.1)]] 0)) (fun b0 => (.ret, stOf 116 [(4, .im (.bool b0)), (6, .im .nilp), (10, .ptr 0 0)] [.var [.im .nilp, .im (.int .i64 l.2.1.2.1), .im (.int .i64 l.2.1.2.2.1), .im (.int .i64 l.2.1.2.2.2.1), .im (.int .i64 l.2.1.2.2.2.2.1), .im (.int .i64 l.2.1.2.2.2.2.2.1), .im (.int .i64 l.2.1.2.2.2.2.2.2.1)]] 0)) y)
noncomputable def Λ10v6 : LFun U := mkLp (U := U) p10v6 q10v6 0 (X := (Unit ⊕ Bool)) (fun (l : T10v6) => L10v6 l.1.2.1 l.1.2.2.2.2.2.2.2.2.1 l.2.1.2.1 l.2.1.2.2.1 l.2.1.2.2.2.1 l.2.1.2.2.2.2.1 l.2.1.2.2.2.2.2.1 l.2.1.2.2.2.2.2.2.1) (spS sp1) ou10v6
noncomputable def t (g_0 : Int) (g_1 : Int) (g_2 : Int) (g_3 : Int) (g_4 : Int) (g_5 : Int) (l_ : (List Act9)) : Tw Bool :=
 (.opt (ref08_Small.c g_0 g_1 g_2 g_3 g_4 g_5) fun z1 =>
  (.bb (!z1)
   (.opt (law09_awake.c) fun z171 =>
    (.ret z171))
   (.opt (law09_great.c l_) fun z2 =>
    (.bb z2
     (.opt (law09_awake.c) fun z170 =>
      (.ret z170))
     (.opt (ref08_Map.c g_0 g_1 g_2 g_3 g_4 g_5) fun z3 =>
      (.opt (flash_New.c (((List.length z3) : Nat) : Int) g_0) fun z4 =>
       (.sm z4
        (fun z5 => (.opt (drive_New.c g_0 g_1 g_2 g_3 g_4 g_5 g_0 z5.2.1 z5.2.2.1 z5.2.2.2.1 z5.2.2.2.2.1 z5.2.2.2.2.2) fun z7 =>
          (.sm z7
           (fun z8 => (.bb (z5.1 != (0 : Int))
             (.ret false)
             (.bb (z8 != (0 : Int))
              (.ret false)
              (.opt (ref09_New.c g_0 g_1 g_2 g_3 g_4 g_5) fun z10 =>
               (.sm z10
                (fun z11 => (.opt (L10 l_ (0 : Int) g_0 z5.2.1 z5.2.2.1 z5.2.2.2.1 z5.2.2.2.2.1 z5.2.2.2.2.2 ([] : List Int) g_0 g_1 g_2 g_3 g_4 g_5 g_0 g_1 g_2 g_3 g_4 g_5 g_0 z11.1 z11.2.1 z11.2.2.1 z11.2.2.2.1 z11.2.2.2.2 ([] : List Int)) fun z43 =>
                  (.sm z43
                   (fun z44 => (.opt (flash_Flash_Words.c g_0 z44.1 z44.2.1 z44.2.2.1 z44.2.2.2.1 z44.2.2.2.2.1 z44.2.2.2.2.2.1) fun z46 =>
                     (.opt (ref01_Same.c z46 z44.2.2.2.2.2.2.2.2.2.1) fun z47 =>
                      (.bb z47
                       (.opt (law09_awake.c) fun z48 =>
                        (.ret z48))
                       (.ret false)))))
                   (fun z45 => (.sm z45
                     (fun z49 => (.ret z49.1))
                     (fun z50 => (.ret z50.1)))))))
                (fun z12 => (.opt (L10v2 l_ (0 : Int) g_0 z5.2.1 z5.2.2.1 z5.2.2.2.1 z5.2.2.2.2.1 z5.2.2.2.2.2 ([] : List Int) g_0 g_1 g_2 g_3 g_4 g_5 g_0 g_1 g_2 g_3 g_4 g_5) fun z69 =>
                  (.sm z69
                   (fun z70 => (.opt (flash_Flash_Words.c g_0 z5.2.1 z5.2.2.1 z5.2.2.2.1 z5.2.2.2.2.1 z5.2.2.2.2.2 ([] : List Int)) fun z72 =>
                     .no))
                   (fun z71 => (.sm z71
                     (fun z73 => (.ret z73.1))
                     (fun z74 => (.ret z74.1))))))))))))
           (fun z9 => (.bb (z5.1 != (0 : Int))
             (.ret false)
             (.bb (z9 != (0 : Int))
              (.ret false)
              (.opt (ref09_New.c g_0 g_1 g_2 g_3 g_4 g_5) fun z75 =>
               (.sm z75
                (fun z76 => (.opt (L10v3 l_ (0 : Int) g_0 z5.2.1 z5.2.2.1 z5.2.2.2.1 z5.2.2.2.2.1 z5.2.2.2.2.2 ([] : List Int) g_0 g_1 g_2 g_3 g_4 g_5 g_0 z76.1 z76.2.1 z76.2.2.1 z76.2.2.2.1 z76.2.2.2.2 ([] : List Int)) fun z108 =>
                  (.sm z108
                   (fun z109 => (.opt (flash_Flash_Words.c g_0 z5.2.1 z109.1 z109.2.1 z5.2.2.2.2.1 z5.2.2.2.2.2 z109.2.2.1) fun z111 =>
                     (.opt (ref01_Same.c z111 z109.2.2.2.2.2.2.1) fun z112 =>
                      (.bb z112
                       (.opt (law09_awake.c) fun z113 =>
                        (.ret z113))
                       (.ret false)))))
                   (fun z110 => (.sm z110
                     (fun z114 => (.ret z114.1))
                     (fun z115 => (.ret z115.1)))))))
                (fun z77 => (.opt (L10v4 l_ (0 : Int) g_0 z5.2.1 z5.2.2.1 z5.2.2.2.1 z5.2.2.2.2.1 z5.2.2.2.2.2 ([] : List Int) g_0 g_1 g_2 g_3 g_4 g_5) fun z134 =>
                  (.sm z134
                   (fun z135 => (.opt (flash_Flash_Words.c g_0 z5.2.1 z5.2.2.1 z5.2.2.2.1 z5.2.2.2.2.1 z5.2.2.2.2.2 ([] : List Int)) fun z137 =>
                     .no))
                   (fun z136 => (.sm z136
                     (fun z138 => (.ret z138.1))
                     (fun z139 => (.ret z139.1)))))))))))))))
        (fun z6 => (.opt (drive_New_nil0.c g_0 g_1 g_2 g_3 g_4 g_5) fun z140 =>
          (.bb (z6 != (0 : Int))
           (.ret false)
           (.bb (z140 != (0 : Int))
            (.ret false)
            (.opt (ref09_New.c g_0 g_1 g_2 g_3 g_4 g_5) fun z141 =>
             (.sm z141
              (fun z142 => (.opt (L10v5 l_ (0 : Int) g_0 g_1 g_2 g_3 g_4 g_5 g_0 z142.1 z142.2.1 z142.2.2.1 z142.2.2.2.1 z142.2.2.2.2 ([] : List Int)) fun z154 =>
                (.sm z154
                 (fun z155 => (.opt (flash_Flash_Words_nil0.c) fun z157 =>
                   (.opt (ref01_Same_none0.c z155.2.2.2.1) fun z158 =>
                    (.bb z158
                     (.opt (law09_awake.c) fun z159 =>
                      (.ret z159))
                     (.ret false)))))
                 (fun z156 => (.ret z156.1)))))
              (fun z143 => (.opt (L10v6 l_ (0 : Int) g_0 g_1 g_2 g_3 g_4 g_5) fun z166 =>
                (.sm z166
                 (fun z167 => (.opt (flash_Flash_Words_nil0.c) fun z169 =>
                   .no))
                 (fun z168 => (.ret z168))))))))))))))))))
noncomputable def c (g_0 : Int) (g_1 : Int) (g_2 : Int) (g_3 : Int) (g_4 : Int) (g_5 : Int) (l_ : (List Act9)) : Option Bool := (t g_0 g_1 g_2 g_3 g_4 g_5 l_).run
def pA : Pt := (.cs (.agg (.cs (.int .i64) (.cs (.int .i64) (.cs (.int .i64) (.cs (.int .i64) (.cs (.int .i64) (.cs (.int .i64) .nl))))))) (.cs (.sl 21) .nl))
def pH : Pt := .nl
def v (l : TA) (y : Bool) : AV U := .im (.bool y)
def hh (l : TA) (y : Bool) : Hp U := []
noncomputable def A : AFun U := mkA (U := U) pA pH (X := Bool) (fun (l : TA) => c l.1.1.1 l.1.1.2.1 l.1.1.2.2.1 l.1.1.2.2.2.1 l.1.1.2.2.2.2.1 l.1.1.2.2.2.2.2.1 l.1.2.1) sp1 v hh
noncomputable def body : Code := (Go.Func.body Try.f16).getD .skip
noncomputable def Γ : List (FuncId × AFun U) := [(91, ref08_Small.A), (92, law09_great.A), (90, ref08_Map.A), (32, flash_New.A), (88, (orA drive_New.pA drive_New.pH drive_New.A drive_New_nil0.A)), (93, ref09_New.A), (94, (orA law09_do_v2.pA law09_do_v2.pH law09_do_v2.A (orA law09_do_nil1.pA law09_do_nil1.pH law09_do_nil1.A law09_do_nil0_nil1.A))), (95, (orA law09_told_v2.pA law09_told_v2.pH law09_told_v2.A law09_told_v3.A)), (22, (orA ref01_Same.pA ref01_Same.pH ref01_Same.A (orA ref01_Same_none1.pA ref01_Same_none1.pH ref01_Same_none1.A ref01_Same_none0.A))), (36, (orA flash_Flash_Writes.pA flash_Flash_Writes.pH flash_Flash_Writes.A (orA flash_Flash_Writes_v2.pA flash_Flash_Writes_v2.pH flash_Flash_Writes_v2.A flash_Flash_Writes_nil0.A))), (34, (orA flash_Flash_Words.pA flash_Flash_Words.pH flash_Flash_Words.A flash_Flash_Words_nil0.A)), (81, law09_awake.A)]
noncomputable def Λ : List (Nat × LFun U) := [(10, (orL p10 q10 Λ10 (orL p10v2 q10v2 Λ10v2 (orL p10v3 q10v3 Λ10v3 (orL p10v4 q10v4 Λ10v4 (orL p10v5 q10v5 Λ10v5 Λ10v6))))))]
noncomputable def CT : List (Nat × LFun U) := []
def ro : List FuncId := [88, 36, 34]
def D : Nat → Lv × Lv := dtab [(10, ⟨[11, 10, 6, 1, 8], [(10, [.to 0, .to 6], .own 3), (6, [.to 6], .own 3), (8, [.to 0, .to 6], .own 3)]⟩, ⟨[4, 10, 6], []⟩)]
noncomputable def E : Env U := { E0 with Γ := Γ, Λ := Λ, C := CT, D := D, ro := ro }
theorem hf10 (R : Type) (l : T10) (s : (Int × (Int × (Bool × (Int × ((List Int) × ((List Int) × ((List Int) × (Int × (Bool × (Int × ((List Int) × ((List Int) × (List Int)))))))))))))) (K : Ex → St U → Option R) : codeA E (pick (loopsOf body) 10) ⟨p10.mkL ((((), (l.1.2.1, ((), ((), ((), ((), ((), ((), (s.1, ((), ())))))))))), (((), (l.2.1.2.1, ((), (s.2.1, (s.2.2.1, (s.2.2.2.1, ((), ()))))))), (s.2.2.2.2.1, (s.2.2.2.2.2.1, (s.2.2.2.2.2.2.1, (((), (l.2.2.2.2.2.1.2.1, (l.2.2.2.2.2.1.2.2.1, (l.2.2.2.2.2.1.2.2.2.1, (l.2.2.2.2.2.1.2.2.2.2.1, (l.2.2.2.2.2.1.2.2.2.2.2.1, (l.2.2.2.2.2.1.2.2.2.2.2.2.1, ()))))))), (((), (l.2.2.2.2.2.2.1.2.1, (l.2.2.2.2.2.2.1.2.2.1, (l.2.2.2.2.2.2.1.2.2.2.1, (l.2.2.2.2.2.2.1.2.2.2.2.1, (l.2.2.2.2.2.2.1.2.2.2.2.2.1, (l.2.2.2.2.2.2.1.2.2.2.2.2.2.1, ()))))))), (((), (l.2.2.2.2.2.2.2.1.2.1, ((), (s.2.2.2.2.2.2.2.1, (s.2.2.2.2.2.2.2.2.1, (s.2.2.2.2.2.2.2.2.2.1, ((), ()))))))), (s.2.2.2.2.2.2.2.2.2.2.1, (s.2.2.2.2.2.2.2.2.2.2.2.1, (s.2.2.2.2.2.2.2.2.2.2.2.2, ()))))))))))) : T10).1, q10.mkH ((((), (l.1.2.1, ((), ((), ((), ((), ((), ((), (s.1, ((), ())))))))))), (((), (l.2.1.2.1, ((), (s.2.1, (s.2.2.1, (s.2.2.2.1, ((), ()))))))), (s.2.2.2.2.1, (s.2.2.2.2.2.1, (s.2.2.2.2.2.2.1, (((), (l.2.2.2.2.2.1.2.1, (l.2.2.2.2.2.1.2.2.1, (l.2.2.2.2.2.1.2.2.2.1, (l.2.2.2.2.2.1.2.2.2.2.1, (l.2.2.2.2.2.1.2.2.2.2.2.1, (l.2.2.2.2.2.1.2.2.2.2.2.2.1, ()))))))), (((), (l.2.2.2.2.2.2.1.2.1, (l.2.2.2.2.2.2.1.2.2.1, (l.2.2.2.2.2.2.1.2.2.2.1, (l.2.2.2.2.2.2.1.2.2.2.2.1, (l.2.2.2.2.2.2.1.2.2.2.2.2.1, (l.2.2.2.2.2.2.1.2.2.2.2.2.2.1, ()))))))), (((), (l.2.2.2.2.2.2.2.1.2.1, ((), (s.2.2.2.2.2.2.2.1, (s.2.2.2.2.2.2.2.2.1, (s.2.2.2.2.2.2.2.2.2.1, ((), ()))))))), (s.2.2.2.2.2.2.2.2.2.2.1, (s.2.2.2.2.2.2.2.2.2.2.2.1, (s.2.2.2.2.2.2.2.2.2.2.2.2, ()))))))))))) : T10).2, 0⟩ (roundK E (pick (loopsOf body) 10) K) =
  (l10 l.1.2.1 l.2.1.2.1 l.2.2.2.2.2.1.2.1 l.2.2.2.2.2.1.2.2.1 l.2.2.2.2.2.1.2.2.2.1 l.2.2.2.2.2.1.2.2.2.2.1 l.2.2.2.2.2.1.2.2.2.2.2.1 l.2.2.2.2.2.1.2.2.2.2.2.2.1 l.2.2.2.2.2.2.1.2.1 l.2.2.2.2.2.2.1.2.2.1 l.2.2.2.2.2.2.1.2.2.2.1 l.2.2.2.2.2.2.1.2.2.2.2.1 l.2.2.2.2.2.2.1.2.2.2.2.2.1 l.2.2.2.2.2.2.1.2.2.2.2.2.2.1 l.2.2.2.2.2.2.2.1.2.1 s.1 s.2.1 s.2.2.1 s.2.2.2.1 s.2.2.2.2.1 s.2.2.2.2.2.1 s.2.2.2.2.2.2.1 s.2.2.2.2.2.2.2.1 s.2.2.2.2.2.2.2.2.1 s.2.2.2.2.2.2.2.2.2.1 s.2.2.2.2.2.2.2.2.2.2.1 s.2.2.2.2.2.2.2.2.2.2.2.1 s.2.2.2.2.2.2.2.2.2.2.2.2).runK (lpK K (fun s => ⟨p10.mkL ((((), (l.1.2.1, ((), ((), ((), ((), ((), ((), (s.1, ((), ())))))))))), (((), (l.2.1.2.1, ((), (s.2.1, (s.2.2.1, (s.2.2.2.1, ((), ()))))))), (s.2.2.2.2.1, (s.2.2.2.2.2.1, (s.2.2.2.2.2.2.1, (((), (l.2.2.2.2.2.1.2.1, (l.2.2.2.2.2.1.2.2.1, (l.2.2.2.2.2.1.2.2.2.1, (l.2.2.2.2.2.1.2.2.2.2.1, (l.2.2.2.2.2.1.2.2.2.2.2.1, (l.2.2.2.2.2.1.2.2.2.2.2.2.1, ()))))))), (((), (l.2.2.2.2.2.2.1.2.1, (l.2.2.2.2.2.2.1.2.2.1, (l.2.2.2.2.2.2.1.2.2.2.1, (l.2.2.2.2.2.2.1.2.2.2.2.1, (l.2.2.2.2.2.2.1.2.2.2.2.2.1, (l.2.2.2.2.2.2.1.2.2.2.2.2.2.1, ()))))))), (((), (l.2.2.2.2.2.2.2.1.2.1, ((), (s.2.2.2.2.2.2.2.1, (s.2.2.2.2.2.2.2.2.1, (s.2.2.2.2.2.2.2.2.2.1, ((), ()))))))), (s.2.2.2.2.2.2.2.2.2.2.1, (s.2.2.2.2.2.2.2.2.2.2.2.1, (s.2.2.2.2.2.2.2.2.2.2.2.2, ()))))))))))) : T10).1, q10.mkH ((((), (l.1.2.1, ((), ((), ((), ((), ((), ((), (s.1, ((), ())))))))))), (((), (l.2.1.2.1, ((), (s.2.1, (s.2.2.1, (s.2.2.2.1, ((), ()))))))), (s.2.2.2.2.1, (s.2.2.2.2.2.1, (s.2.2.2.2.2.2.1, (((), (l.2.2.2.2.2.1.2.1, (l.2.2.2.2.2.1.2.2.1, (l.2.2.2.2.2.1.2.2.2.1, (l.2.2.2.2.2.1.2.2.2.2.1, (l.2.2.2.2.2.1.2.2.2.2.2.1, (l.2.2.2.2.2.1.2.2.2.2.2.2.1, ()))))))), (((), (l.2.2.2.2.2.2.1.2.1, (l.2.2.2.2.2.2.1.2.2.1, (l.2.2.2.2.2.2.1.2.2.2.1, (l.2.2.2.2.2.2.1.2.2.2.2.1, (l.2.2.2.2.2.2.1.2.2.2.2.2.1, (l.2.2.2.2.2.2.1.2.2.2.2.2.2.1, ()))))))), (((), (l.2.2.2.2.2.2.2.1.2.1, ((), (s.2.2.2.2.2.2.2.1, (s.2.2.2.2.2.2.2.2.1, (s.2.2.2.2.2.2.2.2.2.1, ((), ()))))))), (s.2.2.2.2.2.2.2.2.2.2.1, (s.2.2.2.2.2.2.2.2.2.2.2.1, (s.2.2.2.2.2.2.2.2.2.2.2.2, ()))))))))))) : T10).2, 0⟩) (spS (spS sp1)) (ou10 l)) := by kernel_rfl
theorem lk10 (R : Type) (st : St U) (K : Ex → St U → Option R) (r : R) (h : Λ10 R st K = some r) : ∃ n, loopA E (pick (loopsOf body) 10) n st K = some r :=
  lp_ok (U := U) (E := E) (b := pick (loopsOf body) 10) (m := 0) (sp := (spS (spS sp1))) (p := p10) (q := q10) (X := ((Int × (Bool × (Int × ((List Int) × ((List Int) × ((List Int) × (Int × (Bool × (Int × ((List Int) × ((List Int) × (List Int)))))))))))) ⊕ ((Bool × (Int × (Bool × (Int × ((List Int) × ((List Int) × ((List Int) × (Int × (Bool × (Int × ((List Int) × ((List Int) × (List Int))))))))))))) ⊕ (Bool × (Int × (Bool × (Int × ((List Int) × ((List Int) × (Int × (Bool × (Int × ((List Int) × ((List Int) × (List Int))))))))))))))) (S := (Int × (Int × (Bool × (Int × ((List Int) × ((List Int) × ((List Int) × (Int × (Bool × (Int × ((List Int) × ((List Int) × (List Int)))))))))))))) (f := fun (l : T10) s => l10 l.1.2.1 l.2.1.2.1 l.2.2.2.2.2.1.2.1 l.2.2.2.2.2.1.2.2.1 l.2.2.2.2.2.1.2.2.2.1 l.2.2.2.2.2.1.2.2.2.2.1 l.2.2.2.2.2.1.2.2.2.2.2.1 l.2.2.2.2.2.1.2.2.2.2.2.2.1 l.2.2.2.2.2.2.1.2.1 l.2.2.2.2.2.2.1.2.2.1 l.2.2.2.2.2.2.1.2.2.2.1 l.2.2.2.2.2.2.1.2.2.2.2.1 l.2.2.2.2.2.2.1.2.2.2.2.2.1 l.2.2.2.2.2.2.1.2.2.2.2.2.2.1 l.2.2.2.2.2.2.2.1.2.1 s.1 s.2.1 s.2.2.1 s.2.2.2.1 s.2.2.2.2.1 s.2.2.2.2.2.1 s.2.2.2.2.2.2.1 s.2.2.2.2.2.2.2.1 s.2.2.2.2.2.2.2.2.1 s.2.2.2.2.2.2.2.2.2.1 s.2.2.2.2.2.2.2.2.2.2.1 s.2.2.2.2.2.2.2.2.2.2.2.1 s.2.2.2.2.2.2.2.2.2.2.2.2) (hd := fun (l : T10) s => (((), (l.1.2.1, ((), ((), ((), ((), ((), ((), (s.1, ((), ())))))))))), (((), (l.2.1.2.1, ((), (s.2.1, (s.2.2.1, (s.2.2.2.1, ((), ()))))))), (s.2.2.2.2.1, (s.2.2.2.2.2.1, (s.2.2.2.2.2.2.1, (((), (l.2.2.2.2.2.1.2.1, (l.2.2.2.2.2.1.2.2.1, (l.2.2.2.2.2.1.2.2.2.1, (l.2.2.2.2.2.1.2.2.2.2.1, (l.2.2.2.2.2.1.2.2.2.2.2.1, (l.2.2.2.2.2.1.2.2.2.2.2.2.1, ()))))))), (((), (l.2.2.2.2.2.2.1.2.1, (l.2.2.2.2.2.2.1.2.2.1, (l.2.2.2.2.2.2.1.2.2.2.1, (l.2.2.2.2.2.2.1.2.2.2.2.1, (l.2.2.2.2.2.2.1.2.2.2.2.2.1, (l.2.2.2.2.2.2.1.2.2.2.2.2.2.1, ()))))))), (((), (l.2.2.2.2.2.2.2.1.2.1, ((), (s.2.2.2.2.2.2.2.1, (s.2.2.2.2.2.2.2.2.1, (s.2.2.2.2.2.2.2.2.2.1, ((), ()))))))), (s.2.2.2.2.2.2.2.2.2.2.1, (s.2.2.2.2.2.2.2.2.2.2.2.1, (s.2.2.2.2.2.2.2.2.2.2.2.2, ())))))))))))) (s0 := fun (l : T10) => (l.1.2.2.2.2.2.2.2.2.1, (l.2.1.2.2.2.1, (l.2.1.2.2.2.2.1, (l.2.1.2.2.2.2.2.1, (l.2.2.1, (l.2.2.2.1, (l.2.2.2.2.1, (l.2.2.2.2.2.2.2.1.2.2.2.1, (l.2.2.2.2.2.2.2.1.2.2.2.2.1, (l.2.2.2.2.2.2.2.1.2.2.2.2.2.1, (l.2.2.2.2.2.2.2.2.1, (l.2.2.2.2.2.2.2.2.2.1, l.2.2.2.2.2.2.2.2.2.2.1))))))))))))) (ou := ou10)
    (fun l => rfl) (fun l x => by repeat' (first | rfl | (cases x with | inl => rfl | inr x => ?_))) (spS_ok (spS_ok sp1_ok)) hf10 h
theorem hf10v2 (R : Type) (l : T10v2) (s : Unit) (K : Ex → St U → Option R) : codeA E (pick (loopsOf body) 10) ⟨p10v2.mkL ((((), (l.1.2.1, ((), ((), ((), ((), ((), ((), (l.1.2.2.2.2.2.2.2.2.1, ((), ())))))))))), (((), (l.2.1.2.1, ((), (l.2.1.2.2.2.1, (l.2.1.2.2.2.2.1, (l.2.1.2.2.2.2.2.1, ((), ()))))))), (l.2.2.1, (l.2.2.2.1, (l.2.2.2.2.1, (((), (l.2.2.2.2.2.1.2.1, (l.2.2.2.2.2.1.2.2.1, (l.2.2.2.2.2.1.2.2.2.1, (l.2.2.2.2.2.1.2.2.2.2.1, (l.2.2.2.2.2.1.2.2.2.2.2.1, (l.2.2.2.2.2.1.2.2.2.2.2.2.1, ()))))))), (((), (l.2.2.2.2.2.2.1.2.1, (l.2.2.2.2.2.2.1.2.2.1, (l.2.2.2.2.2.2.1.2.2.2.1, (l.2.2.2.2.2.2.1.2.2.2.2.1, (l.2.2.2.2.2.2.1.2.2.2.2.2.1, (l.2.2.2.2.2.2.1.2.2.2.2.2.2.1, ()))))))), ()))))))) : T10v2).1, q10v2.mkH ((((), (l.1.2.1, ((), ((), ((), ((), ((), ((), (l.1.2.2.2.2.2.2.2.2.1, ((), ())))))))))), (((), (l.2.1.2.1, ((), (l.2.1.2.2.2.1, (l.2.1.2.2.2.2.1, (l.2.1.2.2.2.2.2.1, ((), ()))))))), (l.2.2.1, (l.2.2.2.1, (l.2.2.2.2.1, (((), (l.2.2.2.2.2.1.2.1, (l.2.2.2.2.2.1.2.2.1, (l.2.2.2.2.2.1.2.2.2.1, (l.2.2.2.2.2.1.2.2.2.2.1, (l.2.2.2.2.2.1.2.2.2.2.2.1, (l.2.2.2.2.2.1.2.2.2.2.2.2.1, ()))))))), (((), (l.2.2.2.2.2.2.1.2.1, (l.2.2.2.2.2.2.1.2.2.1, (l.2.2.2.2.2.2.1.2.2.2.1, (l.2.2.2.2.2.2.1.2.2.2.2.1, (l.2.2.2.2.2.2.1.2.2.2.2.2.1, (l.2.2.2.2.2.2.1.2.2.2.2.2.2.1, ()))))))), ()))))))) : T10v2).2, 0⟩ (roundK E (pick (loopsOf body) 10) K) =
  (l10v2 l.1.2.1 l.1.2.2.2.2.2.2.2.2.1 l.2.1.2.1 l.2.1.2.2.2.1 l.2.1.2.2.2.2.1 l.2.1.2.2.2.2.2.1 l.2.2.1 l.2.2.2.1 l.2.2.2.2.1 l.2.2.2.2.2.1.2.1 l.2.2.2.2.2.1.2.2.1 l.2.2.2.2.2.1.2.2.2.1 l.2.2.2.2.2.1.2.2.2.2.1 l.2.2.2.2.2.1.2.2.2.2.2.1 l.2.2.2.2.2.1.2.2.2.2.2.2.1 l.2.2.2.2.2.2.1.2.1 l.2.2.2.2.2.2.1.2.2.1 l.2.2.2.2.2.2.1.2.2.2.1 l.2.2.2.2.2.2.1.2.2.2.2.1 l.2.2.2.2.2.2.1.2.2.2.2.2.1 l.2.2.2.2.2.2.1.2.2.2.2.2.2.1).runK (lpK K (fun s => ⟨p10v2.mkL ((((), (l.1.2.1, ((), ((), ((), ((), ((), ((), (l.1.2.2.2.2.2.2.2.2.1, ((), ())))))))))), (((), (l.2.1.2.1, ((), (l.2.1.2.2.2.1, (l.2.1.2.2.2.2.1, (l.2.1.2.2.2.2.2.1, ((), ()))))))), (l.2.2.1, (l.2.2.2.1, (l.2.2.2.2.1, (((), (l.2.2.2.2.2.1.2.1, (l.2.2.2.2.2.1.2.2.1, (l.2.2.2.2.2.1.2.2.2.1, (l.2.2.2.2.2.1.2.2.2.2.1, (l.2.2.2.2.2.1.2.2.2.2.2.1, (l.2.2.2.2.2.1.2.2.2.2.2.2.1, ()))))))), (((), (l.2.2.2.2.2.2.1.2.1, (l.2.2.2.2.2.2.1.2.2.1, (l.2.2.2.2.2.2.1.2.2.2.1, (l.2.2.2.2.2.2.1.2.2.2.2.1, (l.2.2.2.2.2.2.1.2.2.2.2.2.1, (l.2.2.2.2.2.2.1.2.2.2.2.2.2.1, ()))))))), ()))))))) : T10v2).1, q10v2.mkH ((((), (l.1.2.1, ((), ((), ((), ((), ((), ((), (l.1.2.2.2.2.2.2.2.2.1, ((), ())))))))))), (((), (l.2.1.2.1, ((), (l.2.1.2.2.2.1, (l.2.1.2.2.2.2.1, (l.2.1.2.2.2.2.2.1, ((), ()))))))), (l.2.2.1, (l.2.2.2.1, (l.2.2.2.2.1, (((), (l.2.2.2.2.2.1.2.1, (l.2.2.2.2.2.1.2.2.1, (l.2.2.2.2.2.1.2.2.2.1, (l.2.2.2.2.2.1.2.2.2.2.1, (l.2.2.2.2.2.1.2.2.2.2.2.1, (l.2.2.2.2.2.1.2.2.2.2.2.2.1, ()))))))), (((), (l.2.2.2.2.2.2.1.2.1, (l.2.2.2.2.2.2.1.2.2.1, (l.2.2.2.2.2.2.1.2.2.2.1, (l.2.2.2.2.2.2.1.2.2.2.2.1, (l.2.2.2.2.2.2.1.2.2.2.2.2.1, (l.2.2.2.2.2.2.1.2.2.2.2.2.2.1, ()))))))), ()))))))) : T10v2).2, 0⟩) (spS (spS sp1)) (ou10v2 l)) := by kernel_rfl
theorem lk10v2 (R : Type) (st : St U) (K : Ex → St U → Option R) (r : R) (h : Λ10v2 R st K = some r) : ∃ n, loopA E (pick (loopsOf body) 10) n st K = some r :=
  lp_ok (U := U) (E := E) (b := pick (loopsOf body) 10) (m := 0) (sp := (spS (spS sp1))) (p := p10v2) (q := q10v2) (X := (Unit ⊕ ((Bool × (Int × (Bool × (Int × ((List Int) × ((List Int) × (List Int))))))) ⊕ (Bool × (Bool × Int))))) (S := Unit) (f := fun (l : T10v2) s => l10v2 l.1.2.1 l.1.2.2.2.2.2.2.2.2.1 l.2.1.2.1 l.2.1.2.2.2.1 l.2.1.2.2.2.2.1 l.2.1.2.2.2.2.2.1 l.2.2.1 l.2.2.2.1 l.2.2.2.2.1 l.2.2.2.2.2.1.2.1 l.2.2.2.2.2.1.2.2.1 l.2.2.2.2.2.1.2.2.2.1 l.2.2.2.2.2.1.2.2.2.2.1 l.2.2.2.2.2.1.2.2.2.2.2.1 l.2.2.2.2.2.1.2.2.2.2.2.2.1 l.2.2.2.2.2.2.1.2.1 l.2.2.2.2.2.2.1.2.2.1 l.2.2.2.2.2.2.1.2.2.2.1 l.2.2.2.2.2.2.1.2.2.2.2.1 l.2.2.2.2.2.2.1.2.2.2.2.2.1 l.2.2.2.2.2.2.1.2.2.2.2.2.2.1) (hd := fun (l : T10v2) s => (((), (l.1.2.1, ((), ((), ((), ((), ((), ((), (l.1.2.2.2.2.2.2.2.2.1, ((), ())))))))))), (((), (l.2.1.2.1, ((), (l.2.1.2.2.2.1, (l.2.1.2.2.2.2.1, (l.2.1.2.2.2.2.2.1, ((), ()))))))), (l.2.2.1, (l.2.2.2.1, (l.2.2.2.2.1, (((), (l.2.2.2.2.2.1.2.1, (l.2.2.2.2.2.1.2.2.1, (l.2.2.2.2.2.1.2.2.2.1, (l.2.2.2.2.2.1.2.2.2.2.1, (l.2.2.2.2.2.1.2.2.2.2.2.1, (l.2.2.2.2.2.1.2.2.2.2.2.2.1, ()))))))), (((), (l.2.2.2.2.2.2.1.2.1, (l.2.2.2.2.2.2.1.2.2.1, (l.2.2.2.2.2.2.1.2.2.2.1, (l.2.2.2.2.2.2.1.2.2.2.2.1, (l.2.2.2.2.2.2.1.2.2.2.2.2.1, (l.2.2.2.2.2.2.1.2.2.2.2.2.2.1, ()))))))), ())))))))) (s0 := fun (l : T10v2) => ()) (ou := ou10v2)
    (fun l => rfl) (fun l x => by repeat' (first | rfl | (cases x with | inl => rfl | inr x => ?_))) (spS_ok (spS_ok sp1_ok)) hf10v2 h
theorem hf10v3 (R : Type) (l : T10v3) (s : (Int × (Bool × (Int × ((List Int) × (Int × (Bool × (Int × ((List Int) × ((List Int) × (List Int))))))))))) (K : Ex → St U → Option R) : codeA E (pick (loopsOf body) 10) ⟨p10v3.mkL ((((), (l.1.2.1, ((), ((), ((), ((), ((), ((), (s.1, ((), ())))))))))), (((), (l.2.1.2.1, ((), (l.2.1.2.2.2.1, (s.2.1, (s.2.2.1, ((), ()))))))), (l.2.2.1, (l.2.2.2.1, (s.2.2.2.1, (((), (l.2.2.2.2.2.1.2.1, (l.2.2.2.2.2.1.2.2.1, (l.2.2.2.2.2.1.2.2.2.1, (l.2.2.2.2.2.1.2.2.2.2.1, (l.2.2.2.2.2.1.2.2.2.2.2.1, (l.2.2.2.2.2.1.2.2.2.2.2.2.1, ()))))))), (((), (l.2.2.2.2.2.2.1.2.1, ((), (s.2.2.2.2.1, (s.2.2.2.2.2.1, (s.2.2.2.2.2.2.1, ((), ()))))))), (s.2.2.2.2.2.2.2.1, (s.2.2.2.2.2.2.2.2.1, (s.2.2.2.2.2.2.2.2.2, ())))))))))) : T10v3).1, q10v3.mkH ((((), (l.1.2.1, ((), ((), ((), ((), ((), ((), (s.1, ((), ())))))))))), (((), (l.2.1.2.1, ((), (l.2.1.2.2.2.1, (s.2.1, (s.2.2.1, ((), ()))))))), (l.2.2.1, (l.2.2.2.1, (s.2.2.2.1, (((), (l.2.2.2.2.2.1.2.1, (l.2.2.2.2.2.1.2.2.1, (l.2.2.2.2.2.1.2.2.2.1, (l.2.2.2.2.2.1.2.2.2.2.1, (l.2.2.2.2.2.1.2.2.2.2.2.1, (l.2.2.2.2.2.1.2.2.2.2.2.2.1, ()))))))), (((), (l.2.2.2.2.2.2.1.2.1, ((), (s.2.2.2.2.1, (s.2.2.2.2.2.1, (s.2.2.2.2.2.2.1, ((), ()))))))), (s.2.2.2.2.2.2.2.1, (s.2.2.2.2.2.2.2.2.1, (s.2.2.2.2.2.2.2.2.2, ())))))))))) : T10v3).2, 0⟩ (roundK E (pick (loopsOf body) 10) K) =
  (l10v3 l.1.2.1 l.2.1.2.1 l.2.1.2.2.2.1 l.2.2.1 l.2.2.2.1 l.2.2.2.2.2.1.2.1 l.2.2.2.2.2.1.2.2.1 l.2.2.2.2.2.1.2.2.2.1 l.2.2.2.2.2.1.2.2.2.2.1 l.2.2.2.2.2.1.2.2.2.2.2.1 l.2.2.2.2.2.1.2.2.2.2.2.2.1 l.2.2.2.2.2.2.1.2.1 s.1 s.2.1 s.2.2.1 s.2.2.2.1 s.2.2.2.2.1 s.2.2.2.2.2.1 s.2.2.2.2.2.2.1 s.2.2.2.2.2.2.2.1 s.2.2.2.2.2.2.2.2.1 s.2.2.2.2.2.2.2.2.2).runK (lpK K (fun s => ⟨p10v3.mkL ((((), (l.1.2.1, ((), ((), ((), ((), ((), ((), (s.1, ((), ())))))))))), (((), (l.2.1.2.1, ((), (l.2.1.2.2.2.1, (s.2.1, (s.2.2.1, ((), ()))))))), (l.2.2.1, (l.2.2.2.1, (s.2.2.2.1, (((), (l.2.2.2.2.2.1.2.1, (l.2.2.2.2.2.1.2.2.1, (l.2.2.2.2.2.1.2.2.2.1, (l.2.2.2.2.2.1.2.2.2.2.1, (l.2.2.2.2.2.1.2.2.2.2.2.1, (l.2.2.2.2.2.1.2.2.2.2.2.2.1, ()))))))), (((), (l.2.2.2.2.2.2.1.2.1, ((), (s.2.2.2.2.1, (s.2.2.2.2.2.1, (s.2.2.2.2.2.2.1, ((), ()))))))), (s.2.2.2.2.2.2.2.1, (s.2.2.2.2.2.2.2.2.1, (s.2.2.2.2.2.2.2.2.2, ())))))))))) : T10v3).1, q10v3.mkH ((((), (l.1.2.1, ((), ((), ((), ((), ((), ((), (s.1, ((), ())))))))))), (((), (l.2.1.2.1, ((), (l.2.1.2.2.2.1, (s.2.1, (s.2.2.1, ((), ()))))))), (l.2.2.1, (l.2.2.2.1, (s.2.2.2.1, (((), (l.2.2.2.2.2.1.2.1, (l.2.2.2.2.2.1.2.2.1, (l.2.2.2.2.2.1.2.2.2.1, (l.2.2.2.2.2.1.2.2.2.2.1, (l.2.2.2.2.2.1.2.2.2.2.2.1, (l.2.2.2.2.2.1.2.2.2.2.2.2.1, ()))))))), (((), (l.2.2.2.2.2.2.1.2.1, ((), (s.2.2.2.2.1, (s.2.2.2.2.2.1, (s.2.2.2.2.2.2.1, ((), ()))))))), (s.2.2.2.2.2.2.2.1, (s.2.2.2.2.2.2.2.2.1, (s.2.2.2.2.2.2.2.2.2, ())))))))))) : T10v3).2, 0⟩) (spS (spS sp1)) (ou10v3 l)) := by kernel_rfl
theorem lk10v3 (R : Type) (st : St U) (K : Ex → St U → Option R) (r : R) (h : Λ10v3 R st K = some r) : ∃ n, loopA E (pick (loopsOf body) 10) n st K = some r :=
  lp_ok (U := U) (E := E) (b := pick (loopsOf body) 10) (m := 0) (sp := (spS (spS sp1))) (p := p10v3) (q := q10v3) (X := ((Bool × (Int × ((List Int) × (Int × (Bool × (Int × ((List Int) × ((List Int) × (List Int))))))))) ⊕ ((Bool × (Bool × (Int × ((List Int) × (Int × (Bool × (Int × ((List Int) × ((List Int) × (List Int)))))))))) ⊕ (Bool × (Bool × (Int × (Int × (Bool × (Int × ((List Int) × ((List Int) × (List Int)))))))))))) (S := (Int × (Bool × (Int × ((List Int) × (Int × (Bool × (Int × ((List Int) × ((List Int) × (List Int))))))))))) (f := fun (l : T10v3) s => l10v3 l.1.2.1 l.2.1.2.1 l.2.1.2.2.2.1 l.2.2.1 l.2.2.2.1 l.2.2.2.2.2.1.2.1 l.2.2.2.2.2.1.2.2.1 l.2.2.2.2.2.1.2.2.2.1 l.2.2.2.2.2.1.2.2.2.2.1 l.2.2.2.2.2.1.2.2.2.2.2.1 l.2.2.2.2.2.1.2.2.2.2.2.2.1 l.2.2.2.2.2.2.1.2.1 s.1 s.2.1 s.2.2.1 s.2.2.2.1 s.2.2.2.2.1 s.2.2.2.2.2.1 s.2.2.2.2.2.2.1 s.2.2.2.2.2.2.2.1 s.2.2.2.2.2.2.2.2.1 s.2.2.2.2.2.2.2.2.2) (hd := fun (l : T10v3) s => (((), (l.1.2.1, ((), ((), ((), ((), ((), ((), (s.1, ((), ())))))))))), (((), (l.2.1.2.1, ((), (l.2.1.2.2.2.1, (s.2.1, (s.2.2.1, ((), ()))))))), (l.2.2.1, (l.2.2.2.1, (s.2.2.2.1, (((), (l.2.2.2.2.2.1.2.1, (l.2.2.2.2.2.1.2.2.1, (l.2.2.2.2.2.1.2.2.2.1, (l.2.2.2.2.2.1.2.2.2.2.1, (l.2.2.2.2.2.1.2.2.2.2.2.1, (l.2.2.2.2.2.1.2.2.2.2.2.2.1, ()))))))), (((), (l.2.2.2.2.2.2.1.2.1, ((), (s.2.2.2.2.1, (s.2.2.2.2.2.1, (s.2.2.2.2.2.2.1, ((), ()))))))), (s.2.2.2.2.2.2.2.1, (s.2.2.2.2.2.2.2.2.1, (s.2.2.2.2.2.2.2.2.2, ()))))))))))) (s0 := fun (l : T10v3) => (l.1.2.2.2.2.2.2.2.2.1, (l.2.1.2.2.2.2.1, (l.2.1.2.2.2.2.2.1, (l.2.2.2.2.1, (l.2.2.2.2.2.2.1.2.2.2.1, (l.2.2.2.2.2.2.1.2.2.2.2.1, (l.2.2.2.2.2.2.1.2.2.2.2.2.1, (l.2.2.2.2.2.2.2.1, (l.2.2.2.2.2.2.2.2.1, l.2.2.2.2.2.2.2.2.2.1)))))))))) (ou := ou10v3)
    (fun l => rfl) (fun l x => by repeat' (first | rfl | (cases x with | inl => rfl | inr x => ?_))) (spS_ok (spS_ok sp1_ok)) hf10v3 h
theorem hf10v4 (R : Type) (l : T10v4) (s : Unit) (K : Ex → St U → Option R) : codeA E (pick (loopsOf body) 10) ⟨p10v4.mkL ((((), (l.1.2.1, ((), ((), ((), ((), ((), ((), (l.1.2.2.2.2.2.2.2.2.1, ((), ())))))))))), (((), (l.2.1.2.1, ((), (l.2.1.2.2.2.1, (l.2.1.2.2.2.2.1, (l.2.1.2.2.2.2.2.1, ((), ()))))))), (l.2.2.1, (l.2.2.2.1, (l.2.2.2.2.1, (((), (l.2.2.2.2.2.1.2.1, (l.2.2.2.2.2.1.2.2.1, (l.2.2.2.2.2.1.2.2.2.1, (l.2.2.2.2.2.1.2.2.2.2.1, (l.2.2.2.2.2.1.2.2.2.2.2.1, (l.2.2.2.2.2.1.2.2.2.2.2.2.1, ()))))))), ())))))) : T10v4).1, q10v4.mkH ((((), (l.1.2.1, ((), ((), ((), ((), ((), ((), (l.1.2.2.2.2.2.2.2.2.1, ((), ())))))))))), (((), (l.2.1.2.1, ((), (l.2.1.2.2.2.1, (l.2.1.2.2.2.2.1, (l.2.1.2.2.2.2.2.1, ((), ()))))))), (l.2.2.1, (l.2.2.2.1, (l.2.2.2.2.1, (((), (l.2.2.2.2.2.1.2.1, (l.2.2.2.2.2.1.2.2.1, (l.2.2.2.2.2.1.2.2.2.1, (l.2.2.2.2.2.1.2.2.2.2.1, (l.2.2.2.2.2.1.2.2.2.2.2.1, (l.2.2.2.2.2.1.2.2.2.2.2.2.1, ()))))))), ())))))) : T10v4).2, 0⟩ (roundK E (pick (loopsOf body) 10) K) =
  (l10v4 l.1.2.1 l.1.2.2.2.2.2.2.2.2.1 l.2.1.2.1 l.2.1.2.2.2.1 l.2.1.2.2.2.2.1 l.2.1.2.2.2.2.2.1 l.2.2.1 l.2.2.2.1 l.2.2.2.2.1 l.2.2.2.2.2.1.2.1 l.2.2.2.2.2.1.2.2.1 l.2.2.2.2.2.1.2.2.2.1 l.2.2.2.2.2.1.2.2.2.2.1 l.2.2.2.2.2.1.2.2.2.2.2.1 l.2.2.2.2.2.1.2.2.2.2.2.2.1).runK (lpK K (fun s => ⟨p10v4.mkL ((((), (l.1.2.1, ((), ((), ((), ((), ((), ((), (l.1.2.2.2.2.2.2.2.2.1, ((), ())))))))))), (((), (l.2.1.2.1, ((), (l.2.1.2.2.2.1, (l.2.1.2.2.2.2.1, (l.2.1.2.2.2.2.2.1, ((), ()))))))), (l.2.2.1, (l.2.2.2.1, (l.2.2.2.2.1, (((), (l.2.2.2.2.2.1.2.1, (l.2.2.2.2.2.1.2.2.1, (l.2.2.2.2.2.1.2.2.2.1, (l.2.2.2.2.2.1.2.2.2.2.1, (l.2.2.2.2.2.1.2.2.2.2.2.1, (l.2.2.2.2.2.1.2.2.2.2.2.2.1, ()))))))), ())))))) : T10v4).1, q10v4.mkH ((((), (l.1.2.1, ((), ((), ((), ((), ((), ((), (l.1.2.2.2.2.2.2.2.2.1, ((), ())))))))))), (((), (l.2.1.2.1, ((), (l.2.1.2.2.2.1, (l.2.1.2.2.2.2.1, (l.2.1.2.2.2.2.2.1, ((), ()))))))), (l.2.2.1, (l.2.2.2.1, (l.2.2.2.2.1, (((), (l.2.2.2.2.2.1.2.1, (l.2.2.2.2.2.1.2.2.1, (l.2.2.2.2.2.1.2.2.2.1, (l.2.2.2.2.2.1.2.2.2.2.1, (l.2.2.2.2.2.1.2.2.2.2.2.1, (l.2.2.2.2.2.1.2.2.2.2.2.2.1, ()))))))), ())))))) : T10v4).2, 0⟩) (spS (spS sp1)) (ou10v4 l)) := by kernel_rfl
theorem lk10v4 (R : Type) (st : St U) (K : Ex → St U → Option R) (r : R) (h : Λ10v4 R st K = some r) : ∃ n, loopA E (pick (loopsOf body) 10) n st K = some r :=
  lp_ok (U := U) (E := E) (b := pick (loopsOf body) 10) (m := 0) (sp := (spS (spS sp1))) (p := p10v4) (q := q10v4) (X := (Unit ⊕ ((Bool × (Int × (List Int))) ⊕ (Bool × (Bool × Int))))) (S := Unit) (f := fun (l : T10v4) s => l10v4 l.1.2.1 l.1.2.2.2.2.2.2.2.2.1 l.2.1.2.1 l.2.1.2.2.2.1 l.2.1.2.2.2.2.1 l.2.1.2.2.2.2.2.1 l.2.2.1 l.2.2.2.1 l.2.2.2.2.1 l.2.2.2.2.2.1.2.1 l.2.2.2.2.2.1.2.2.1 l.2.2.2.2.2.1.2.2.2.1 l.2.2.2.2.2.1.2.2.2.2.1 l.2.2.2.2.2.1.2.2.2.2.2.1 l.2.2.2.2.2.1.2.2.2.2.2.2.1) (hd := fun (l : T10v4) s => (((), (l.1.2.1, ((), ((), ((), ((), ((), ((), (l.1.2.2.2.2.2.2.2.2.1, ((), ())))))))))), (((), (l.2.1.2.1, ((), (l.2.1.2.2.2.1, (l.2.1.2.2.2.2.1, (l.2.1.2.2.2.2.2.1, ((), ()))))))), (l.2.2.1, (l.2.2.2.1, (l.2.2.2.2.1, (((), (l.2.2.2.2.2.1.2.1, (l.2.2.2.2.2.1.2.2.1, (l.2.2.2.2.2.1.2.2.2.1, (l.2.2.2.2.2.1.2.2.2.2.1, (l.2.2.2.2.2.1.2.2.2.2.2.1, (l.2.2.2.2.2.1.2.2.2.2.2.2.1, ()))))))), ()))))))) (s0 := fun (l : T10v4) => ()) (ou := ou10v4)
    (fun l => rfl) (fun l x => by repeat' (first | rfl | (cases x with | inl => rfl | inr x => ?_))) (spS_ok (spS_ok sp1_ok)) hf10v4 h
theorem hf10v5 (R : Type) (l : T10v5) (s : (Int × (Int × (Bool × (Int × ((List Int) × ((List Int) × (List Int)))))))) (K : Ex → St U → Option R) : codeA E (pick (loopsOf body) 10) ⟨p10v5.mkL ((((), (l.1.2.1, ((), ((), ((), ((), ((), ((), (s.1, ((), ())))))))))), (((), (l.2.1.2.1, (l.2.1.2.2.1, (l.2.1.2.2.2.1, (l.2.1.2.2.2.2.1, (l.2.1.2.2.2.2.2.1, (l.2.1.2.2.2.2.2.2.1, ()))))))), (((), (l.2.2.1.2.1, ((), (s.2.1, (s.2.2.1, (s.2.2.2.1, ((), ()))))))), (s.2.2.2.2.1, (s.2.2.2.2.2.1, (s.2.2.2.2.2.2, ())))))) : T10v5).1, q10v5.mkH ((((), (l.1.2.1, ((), ((), ((), ((), ((), ((), (s.1, ((), ())))))))))), (((), (l.2.1.2.1, (l.2.1.2.2.1, (l.2.1.2.2.2.1, (l.2.1.2.2.2.2.1, (l.2.1.2.2.2.2.2.1, (l.2.1.2.2.2.2.2.2.1, ()))))))), (((), (l.2.2.1.2.1, ((), (s.2.1, (s.2.2.1, (s.2.2.2.1, ((), ()))))))), (s.2.2.2.2.1, (s.2.2.2.2.2.1, (s.2.2.2.2.2.2, ())))))) : T10v5).2, 0⟩ (roundK E (pick (loopsOf body) 10) K) =
  (l10v5 l.1.2.1 l.2.1.2.1 l.2.1.2.2.1 l.2.1.2.2.2.1 l.2.1.2.2.2.2.1 l.2.1.2.2.2.2.2.1 l.2.1.2.2.2.2.2.2.1 l.2.2.1.2.1 s.1 s.2.1 s.2.2.1 s.2.2.2.1 s.2.2.2.2.1 s.2.2.2.2.2.1 s.2.2.2.2.2.2).runK (lpK K (fun s => ⟨p10v5.mkL ((((), (l.1.2.1, ((), ((), ((), ((), ((), ((), (s.1, ((), ())))))))))), (((), (l.2.1.2.1, (l.2.1.2.2.1, (l.2.1.2.2.2.1, (l.2.1.2.2.2.2.1, (l.2.1.2.2.2.2.2.1, (l.2.1.2.2.2.2.2.2.1, ()))))))), (((), (l.2.2.1.2.1, ((), (s.2.1, (s.2.2.1, (s.2.2.2.1, ((), ()))))))), (s.2.2.2.2.1, (s.2.2.2.2.2.1, (s.2.2.2.2.2.2, ())))))) : T10v5).1, q10v5.mkH ((((), (l.1.2.1, ((), ((), ((), ((), ((), ((), (s.1, ((), ())))))))))), (((), (l.2.1.2.1, (l.2.1.2.2.1, (l.2.1.2.2.2.1, (l.2.1.2.2.2.2.1, (l.2.1.2.2.2.2.2.1, (l.2.1.2.2.2.2.2.2.1, ()))))))), (((), (l.2.2.1.2.1, ((), (s.2.1, (s.2.2.1, (s.2.2.2.1, ((), ()))))))), (s.2.2.2.2.1, (s.2.2.2.2.2.1, (s.2.2.2.2.2.2, ())))))) : T10v5).2, 0⟩) (spS sp1) (ou10v5 l)) := by kernel_rfl
theorem lk10v5 (R : Type) (st : St U) (K : Ex → St U → Option R) (r : R) (h : Λ10v5 R st K = some r) : ∃ n, loopA E (pick (loopsOf body) 10) n st K = some r :=
  lp_ok (U := U) (E := E) (b := pick (loopsOf body) 10) (m := 0) (sp := (spS sp1)) (p := p10v5) (q := q10v5) (X := ((Int × (Bool × (Int × ((List Int) × ((List Int) × (List Int)))))) ⊕ (Bool × (Int × (Bool × (Int × ((List Int) × ((List Int) × (List Int))))))))) (S := (Int × (Int × (Bool × (Int × ((List Int) × ((List Int) × (List Int)))))))) (f := fun (l : T10v5) s => l10v5 l.1.2.1 l.2.1.2.1 l.2.1.2.2.1 l.2.1.2.2.2.1 l.2.1.2.2.2.2.1 l.2.1.2.2.2.2.2.1 l.2.1.2.2.2.2.2.2.1 l.2.2.1.2.1 s.1 s.2.1 s.2.2.1 s.2.2.2.1 s.2.2.2.2.1 s.2.2.2.2.2.1 s.2.2.2.2.2.2) (hd := fun (l : T10v5) s => (((), (l.1.2.1, ((), ((), ((), ((), ((), ((), (s.1, ((), ())))))))))), (((), (l.2.1.2.1, (l.2.1.2.2.1, (l.2.1.2.2.2.1, (l.2.1.2.2.2.2.1, (l.2.1.2.2.2.2.2.1, (l.2.1.2.2.2.2.2.2.1, ()))))))), (((), (l.2.2.1.2.1, ((), (s.2.1, (s.2.2.1, (s.2.2.2.1, ((), ()))))))), (s.2.2.2.2.1, (s.2.2.2.2.2.1, (s.2.2.2.2.2.2, ()))))))) (s0 := fun (l : T10v5) => (l.1.2.2.2.2.2.2.2.2.1, (l.2.2.1.2.2.2.1, (l.2.2.1.2.2.2.2.1, (l.2.2.1.2.2.2.2.2.1, (l.2.2.2.1, (l.2.2.2.2.1, l.2.2.2.2.2.1))))))) (ou := ou10v5)
    (fun l => rfl) (fun l x => by repeat' (first | rfl | (cases x with | inl => rfl | inr x => ?_))) (spS_ok sp1_ok) hf10v5 h
theorem hf10v6 (R : Type) (l : T10v6) (s : Unit) (K : Ex → St U → Option R) : codeA E (pick (loopsOf body) 10) ⟨p10v6.mkL ((((), (l.1.2.1, ((), ((), ((), ((), ((), ((), (l.1.2.2.2.2.2.2.2.2.1, ((), ())))))))))), (((), (l.2.1.2.1, (l.2.1.2.2.1, (l.2.1.2.2.2.1, (l.2.1.2.2.2.2.1, (l.2.1.2.2.2.2.2.1, (l.2.1.2.2.2.2.2.2.1, ()))))))), ())) : T10v6).1, q10v6.mkH ((((), (l.1.2.1, ((), ((), ((), ((), ((), ((), (l.1.2.2.2.2.2.2.2.2.1, ((), ())))))))))), (((), (l.2.1.2.1, (l.2.1.2.2.1, (l.2.1.2.2.2.1, (l.2.1.2.2.2.2.1, (l.2.1.2.2.2.2.2.1, (l.2.1.2.2.2.2.2.2.1, ()))))))), ())) : T10v6).2, 0⟩ (roundK E (pick (loopsOf body) 10) K) =
  (l10v6 l.1.2.1 l.1.2.2.2.2.2.2.2.2.1 l.2.1.2.1 l.2.1.2.2.1 l.2.1.2.2.2.1 l.2.1.2.2.2.2.1 l.2.1.2.2.2.2.2.1 l.2.1.2.2.2.2.2.2.1).runK (lpK K (fun s => ⟨p10v6.mkL ((((), (l.1.2.1, ((), ((), ((), ((), ((), ((), (l.1.2.2.2.2.2.2.2.2.1, ((), ())))))))))), (((), (l.2.1.2.1, (l.2.1.2.2.1, (l.2.1.2.2.2.1, (l.2.1.2.2.2.2.1, (l.2.1.2.2.2.2.2.1, (l.2.1.2.2.2.2.2.2.1, ()))))))), ())) : T10v6).1, q10v6.mkH ((((), (l.1.2.1, ((), ((), ((), ((), ((), ((), (l.1.2.2.2.2.2.2.2.2.1, ((), ())))))))))), (((), (l.2.1.2.1, (l.2.1.2.2.1, (l.2.1.2.2.2.1, (l.2.1.2.2.2.2.1, (l.2.1.2.2.2.2.2.1, (l.2.1.2.2.2.2.2.2.1, ()))))))), ())) : T10v6).2, 0⟩) (spS sp1) (ou10v6 l)) := by kernel_rfl
theorem lk10v6 (R : Type) (st : St U) (K : Ex → St U → Option R) (r : R) (h : Λ10v6 R st K = some r) : ∃ n, loopA E (pick (loopsOf body) 10) n st K = some r :=
  lp_ok (U := U) (E := E) (b := pick (loopsOf body) 10) (m := 0) (sp := (spS sp1)) (p := p10v6) (q := q10v6) (X := (Unit ⊕ Bool)) (S := Unit) (f := fun (l : T10v6) s => l10v6 l.1.2.1 l.1.2.2.2.2.2.2.2.2.1 l.2.1.2.1 l.2.1.2.2.1 l.2.1.2.2.2.1 l.2.1.2.2.2.2.1 l.2.1.2.2.2.2.2.1 l.2.1.2.2.2.2.2.2.1) (hd := fun (l : T10v6) s => (((), (l.1.2.1, ((), ((), ((), ((), ((), ((), (l.1.2.2.2.2.2.2.2.2.1, ((), ())))))))))), (((), (l.2.1.2.1, (l.2.1.2.2.1, (l.2.1.2.2.2.1, (l.2.1.2.2.2.2.1, (l.2.1.2.2.2.2.2.1, (l.2.1.2.2.2.2.2.2.1, ()))))))), ()))) (s0 := fun (l : T10v6) => ()) (ou := ou10v6)
    (fun l => rfl) (fun l x => by repeat' (first | rfl | (cases x with | inl => rfl | inr x => ?_))) (spS_ok sp1_ok) hf10v6 h
theorem hk (R : Type) (l : TA) (K : AV U → Hp U → Option R) : funcA E Try.f16 [] R (pA.mkL l.1) (pH.mkH l.2) K = (t l.1.1.1 l.1.1.2.1 l.1.1.2.2.1 l.1.1.2.2.2.1 l.1.1.2.2.2.2.1 l.1.1.2.2.2.2.2.1 l.1.2.1).runK fun y => K (v l y) (hh l y) := by kernel_rfl
theorem okF : SoundF Try.prog cc 16 (funcA E Try.f16 []) :=
  funcA_ok (E := E) P_mixed (E0_ok.with Γ Λ CT D ro) (gam_of (all_cons ⟨ref08_Small.ok, ⟨Try.f91, Try.func91, by kernel_rfl, by kernel_rfl⟩⟩ (all_cons ⟨law09_great.ok, ⟨Try.f92, Try.func92, by kernel_rfl, by kernel_rfl⟩⟩ (all_cons ⟨ref08_Map.ok, ⟨Try.f90, Try.func90, by kernel_rfl, by kernel_rfl⟩⟩ (all_cons ⟨flash_New.ok, ⟨Try.f32, Try.func32, by kernel_rfl, by kernel_rfl⟩⟩ (all_cons ⟨(orA_ok drive_New.ok drive_New_nil0.ok), ⟨Try.f88, Try.func88, by kernel_rfl, by kernel_rfl⟩⟩ (all_cons ⟨ref09_New.ok, ⟨Try.f93, Try.func93, by kernel_rfl, by kernel_rfl⟩⟩ (all_cons ⟨(orA_ok law09_do_v2.ok (orA_ok law09_do_nil1.ok law09_do_nil0_nil1.ok)), ⟨Try.f94, Try.func94, by kernel_rfl, by kernel_rfl⟩⟩ (all_cons ⟨(orA_ok law09_told_v2.ok law09_told_v3.ok), ⟨Try.f95, Try.func95, by kernel_rfl, by kernel_rfl⟩⟩ (all_cons ⟨(orA_ok ref01_Same.ok (orA_ok ref01_Same_none1.ok ref01_Same_none0.ok)), ⟨Try.f22, Try.func22, by kernel_rfl, by kernel_rfl⟩⟩ (all_cons ⟨(orA_ok flash_Flash_Writes.ok (orA_ok flash_Flash_Writes_v2.ok flash_Flash_Writes_nil0.ok)), ⟨Try.f36, Try.func36, by kernel_rfl, by kernel_rfl⟩⟩ (all_cons ⟨(orA_ok flash_Flash_Words.ok flash_Flash_Words_nil0.ok), ⟨Try.f34, Try.func34, by kernel_rfl, by kernel_rfl⟩⟩ (all_cons ⟨law09_awake.ok, ⟨Try.f81, Try.func81, by kernel_rfl, by kernel_rfl⟩⟩ all_nil)))))))))))) (all_cons (no_keep (by kernel_rfl)) (all_cons (no_keep (by kernel_rfl)) (all_cons (no_keep (by kernel_rfl)) (all_cons (no_keep (by kernel_rfl)) (all_cons (fun _ => (orA_keep drive_New.keep drive_New_nil0.keep)) (all_cons (no_keep (by kernel_rfl)) (all_cons (no_keep (by kernel_rfl)) (all_cons (no_keep (by kernel_rfl)) (all_cons (no_keep (by kernel_rfl)) (all_cons (fun _ => (orA_keep flash_Flash_Writes.keep (orA_keep flash_Flash_Writes_v2.keep flash_Flash_Writes_nil0.keep))) (all_cons (fun _ => (orA_keep flash_Flash_Words.keep flash_Flash_Words_nil0.keep)) (all_cons (no_keep (by kernel_rfl)) all_nil))))))))))))) Try.func16 (c := body) (by kernel_rfl)
    (just_by (by kernel_rfl) (by kernel_rfl) (all_cons (orL_ok lk10 (orL_ok lk10v2 (orL_ok lk10v3 (orL_ok lk10v4 (orL_ok lk10v5 lk10v6))))) all_nil) all_nil) []
theorem ok : SoundF Try.prog cc 16 A :=
  mkA_ok (E := E) (p := pA) (q := pH) (t := fun (l : TA) => t l.1.1.1 l.1.1.2.1 l.1.1.2.2.1 l.1.1.2.2.2.1 l.1.1.2.2.2.2.1 l.1.1.2.2.2.2.2.1 l.1.2.1) sp1_ok hk okF
theorem keep : KeepA A := mkA_keep (U := U) sp1_ok (fun (l : TA) y => ⟨(hh l y).drop 0, by kernel_rfl⟩)
end law09_DrivePlays

end Go.Proofs.Ytpidbpmkogbdeaa.Va
