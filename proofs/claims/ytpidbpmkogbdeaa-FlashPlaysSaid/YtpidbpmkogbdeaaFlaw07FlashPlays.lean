/- The functions of package law07FlashPlays, as plain functions, and that the program computes them. Printed by a program of this work out of the evaluator. -/
import Derived.Test.YtpidbpmkogbdeaaEn
import Derived.Tactics
import Derived.Test.YtpidbpmkogbdeaaFflash
import Derived.Test.YtpidbpmkogbdeaaFlaw07
import Derived.Test.YtpidbpmkogbdeaaFref01
import Derived.Test.YtpidbpmkogbdeaaFref07
namespace Go.Proofs.Ytpidbpmkogbdeaa.Va
open Go
set_option linter.unusedVariables false
set_option maxRecDepth 100000

/-! instar/instarlaw07.FlashPlays -/
namespace law07_FlashPlays
abbrev TA : Type := (((Int × (Int × Unit)) × ((List Act7) × Unit)) × Unit)
abbrev TC16 : Type := ((Unit × ((List Act7) × (Unit × (Unit × (Unit × (Unit × (Unit × (Int × (Unit × Unit))))))))) × ((Int × (Int × Unit)) × ((Unit × (Int × (Unit × (Int × (Bool × (Int × (Unit × Unit))))))) × ((List Int) × ((List Int) × ((List Int) × ((Unit × (Int × (Unit × (Int × (Bool × (Int × (Unit × Unit))))))) × ((List Int) × ((List Int) × ((List Int) × Unit))))))))))
noncomputable def c16 (l_ : (List Act7)) (i : Int) (h0_0 : Int) (h0_1 : Int) (h1_1 : Int) (h1_3 : Int) (h1_4 : Bool) (h1_5 : Int) (h2 : (List Int)) (h3 : (List Int)) (h4 : (List Int)) (h5_1 : Int) (h5_3 : Int) (h5_4 : Bool) (h5_5 : Int) (h6 : (List Int)) (h7 : (List Int)) (h8 : (List Int)) : Tw ((Int × (Bool × (Int × ((List Int) × ((List Int) × ((List Int) × (Int × (Bool × (Int × ((List Int) × ((List Int) × (List Int)))))))))))) ⊕ ((Bool × (Int × (Bool × (Int × ((List Int) × ((List Int) × ((List Int) × (Int × (Bool × (Int × ((List Int) × ((List Int) × (List Int))))))))))))) ⊕ ((Bool × (Int × (Int × (Bool × (Int × ((List Int) × ((List Int) × (List Int)))))))) ⊕ (Bool × (Bool × (Int × (Int × (Bool × (Int × ((List Int) × ((List Int) × (List Int)))))))))))) :=
 (.dd (((0 : Int) ≤ i)) inferInstance
  (.opt (l_)[(Int.toNat i)]? fun z9 =>
   (.opt (law07_do_v2.c z9.kind z9.a z9.x z9.masks h1_1 h1_3 h1_4 h1_5 h2 h3 h4) fun z10 =>
    (.sm z10
     (fun z11 => (.dd (((0 : Int) ≤ i)) inferInstance
       (.opt (l_)[(Int.toNat i)]? fun z13 =>
        (.opt (law07_told_v2.c z13.kind z13.a z13.x z13.masks h5_1 h5_3 h5_4 h5_5 h6 h7 h8) fun z14 =>
         (.sm z14
          (fun z15 => (.bb (z11.1 != z15.1)
            (.ret (.inr (.inl (false, (z11.2.2.1, (z11.2.2.2.1, (z11.2.2.2.2.1, (z11.2.2.2.2.2.1, (z11.2.2.2.2.2.2, (h4, (z15.2.2.1, (z15.2.2.2.1, (z15.2.2.2.2.1, (z15.2.2.2.2.2.1, (z15.2.2.2.2.2.2, h8)))))))))))))))
            (.bb (z11.2.1 != z15.2.1)
             (.ret (.inr (.inl (false, (z11.2.2.1, (z11.2.2.2.1, (z11.2.2.2.2.1, (z11.2.2.2.2.2.1, (z11.2.2.2.2.2.2, (h4, (z15.2.2.1, (z15.2.2.2.1, (z15.2.2.2.2.1, (z15.2.2.2.2.2.1, (z15.2.2.2.2.2.2, h8)))))))))))))))
             (.opt (flash_Flash_Gone_v2.c h1_1 z11.2.2.1 z11.2.2.2.1 z11.2.2.2.2.1 z11.2.2.2.2.2.1 z11.2.2.2.2.2.2 h4) fun z17 =>
              (.bb (!(z11.2.2.2.1 == z15.2.2.2.1))
               (.ret (.inr (.inl (false, (z11.2.2.1, (z11.2.2.2.1, (z11.2.2.2.2.1, (z11.2.2.2.2.2.1, (z11.2.2.2.2.2.2, (h4, (z15.2.2.1, (z15.2.2.2.1, (z15.2.2.2.2.1, (z15.2.2.2.2.2.1, (z15.2.2.2.2.2.2, h8)))))))))))))))
               (.opt (flash_Flash_Writes.c h1_1 z11.2.2.1 z11.2.2.2.1 z11.2.2.2.2.1 z11.2.2.2.2.2.1 z11.2.2.2.2.2.2 h4) fun z18 =>
                (.bb (z11.2.2.1 != z15.2.2.1)
                 (.ret (.inr (.inl (false, (z11.2.2.1, (z11.2.2.2.1, (z11.2.2.2.2.1, (z11.2.2.2.2.2.1, (z11.2.2.2.2.2.2, (h4, (z15.2.2.1, (z15.2.2.2.1, (z15.2.2.2.2.1, (z15.2.2.2.2.2.1, (z15.2.2.2.2.2.2, h8)))))))))))))))
                 (.dd (((0 : Int) ≤ i)) inferInstance
                  (.opt (l_)[(Int.toNat i)]? fun z19 =>
                   (.opt (flash_Flash_Wear_v2.c z19.a h1_1 z11.2.2.1 z11.2.2.2.1 z11.2.2.2.2.1 z11.2.2.2.2.2.1 z11.2.2.2.2.2.2 h4) fun z20 =>
                    (.dd (((0 : Int) ≤ i)) inferInstance
                     (.opt (l_)[(Int.toNat i)]? fun z21 =>
                      (.opt (law07_wear_v2.c z21.a h5_1 z15.2.2.1 z15.2.2.2.1 z15.2.2.2.2.1 z15.2.2.2.2.2.1 z15.2.2.2.2.2.2 h8) fun z22 =>
                       (.bb (z20 != z22)
                        (.ret (.inr (.inl (false, (z11.2.2.1, (z11.2.2.2.1, (z11.2.2.2.2.1, (z11.2.2.2.2.2.1, (z11.2.2.2.2.2.2, (h4, (z15.2.2.1, (z15.2.2.2.1, (z15.2.2.2.2.1, (z15.2.2.2.2.2.1, (z15.2.2.2.2.2.2, h8)))))))))))))))
                        (.opt (flash_Flash_Words.c h1_1 z11.2.2.1 z11.2.2.2.1 z11.2.2.2.2.1 z11.2.2.2.2.2.1 z11.2.2.2.2.2.2 h4) fun z23 =>
                         (.opt (ref01_Same.c z23 z15.2.2.2.2.2.1) fun z24 =>
                          (.bb (!z24)
                           (.ret (.inr (.inl (false, (z11.2.2.1, (z11.2.2.2.1, (z11.2.2.2.2.1, (z11.2.2.2.2.2.1, (z11.2.2.2.2.2.2, (h4, (z15.2.2.1, (z15.2.2.2.1, (z15.2.2.2.2.1, (z15.2.2.2.2.2.1, (z15.2.2.2.2.2.2, h8)))))))))))))))
                           (.ret (.inl (z11.2.2.1, (z11.2.2.2.1, (z11.2.2.2.2.1, (z11.2.2.2.2.2.1, (z11.2.2.2.2.2.2, (h4, (z15.2.2.1, (z15.2.2.2.1, (z15.2.2.2.2.1, (z15.2.2.2.2.2.1, (z15.2.2.2.2.2.2, h8)))))))))))))))))))
                     .no)))
                  .no))))))))
          (fun z16 => (.bb (z11.1 != z16.1)
            (.ret (.inr (.inl (false, (z11.2.2.1, (z11.2.2.2.1, (z11.2.2.2.2.1, (z11.2.2.2.2.2.1, (z11.2.2.2.2.2.2, (h4, (h5_3, (h5_4, (z16.2.2, (h6, (h7, z13.masks)))))))))))))))
            (.bb (z11.2.1 != z16.2.1)
             (.ret (.inr (.inl (false, (z11.2.2.1, (z11.2.2.2.1, (z11.2.2.2.2.1, (z11.2.2.2.2.2.1, (z11.2.2.2.2.2.2, (h4, (h5_3, (h5_4, (z16.2.2, (h6, (h7, z13.masks)))))))))))))))
             (.opt (flash_Flash_Gone_v2.c h1_1 z11.2.2.1 z11.2.2.2.1 z11.2.2.2.2.1 z11.2.2.2.2.2.1 z11.2.2.2.2.2.2 h4) fun z25 =>
              (.bb (!(z11.2.2.2.1 == h5_4))
               (.ret (.inr (.inl (false, (z11.2.2.1, (z11.2.2.2.1, (z11.2.2.2.2.1, (z11.2.2.2.2.2.1, (z11.2.2.2.2.2.2, (h4, (h5_3, (h5_4, (z16.2.2, (h6, (h7, z13.masks)))))))))))))))
               (.opt (flash_Flash_Writes.c h1_1 z11.2.2.1 z11.2.2.2.1 z11.2.2.2.2.1 z11.2.2.2.2.2.1 z11.2.2.2.2.2.2 h4) fun z26 =>
                (.bb (z11.2.2.1 != h5_3)
                 (.ret (.inr (.inl (false, (z11.2.2.1, (z11.2.2.2.1, (z11.2.2.2.2.1, (z11.2.2.2.2.2.1, (z11.2.2.2.2.2.2, (h4, (h5_3, (h5_4, (z16.2.2, (h6, (h7, z13.masks)))))))))))))))
                 (.dd (((0 : Int) ≤ i)) inferInstance
                  (.opt (l_)[(Int.toNat i)]? fun z27 =>
                   (.opt (flash_Flash_Wear_v2.c z27.a h1_1 z11.2.2.1 z11.2.2.2.1 z11.2.2.2.2.1 z11.2.2.2.2.2.1 z11.2.2.2.2.2.2 h4) fun z28 =>
                    (.dd (((0 : Int) ≤ i)) inferInstance
                     (.opt (l_)[(Int.toNat i)]? fun z29 =>
                      (.opt (law07_wear_v2.c z29.a h5_1 h5_3 h5_4 z16.2.2 h6 h7 z13.masks) fun z30 =>
                       (.bb (z28 != z30)
                        (.ret (.inr (.inl (false, (z11.2.2.1, (z11.2.2.2.1, (z11.2.2.2.2.1, (z11.2.2.2.2.2.1, (z11.2.2.2.2.2.2, (h4, (h5_3, (h5_4, (z16.2.2, (h6, (h7, z13.masks)))))))))))))))
                        (.opt (flash_Flash_Words.c h1_1 z11.2.2.1 z11.2.2.2.1 z11.2.2.2.2.1 z11.2.2.2.2.2.1 z11.2.2.2.2.2.2 h4) fun z31 =>
                         (.opt (ref01_Same.c z31 h6) fun z32 =>
                          (.bb (!z32)
                           (.ret (.inr (.inl (false, (z11.2.2.1, (z11.2.2.2.1, (z11.2.2.2.2.1, (z11.2.2.2.2.2.1, (z11.2.2.2.2.2.2, (h4, (h5_3, (h5_4, (z16.2.2, (h6, (h7, z13.masks)))))))))))))))
                           (.ret (.inl (z11.2.2.1, (z11.2.2.2.1, (z11.2.2.2.2.1, (z11.2.2.2.2.2.1, (z11.2.2.2.2.2.2, (h4, (h5_3, (h5_4, (z16.2.2, (h6, (h7, z13.masks)))))))))))))))))))
                     .no)))
                  .no)))))))))))
       .no))
     (fun z12 => (.sm z12
       (fun z33 => (.dd (((0 : Int) ≤ i)) inferInstance
         (.opt (l_)[(Int.toNat i)]? fun z35 =>
          (.opt (law07_told_v2.c z35.kind z35.a z35.x z35.masks h5_1 h5_3 h5_4 h5_5 h6 h7 h8) fun z36 =>
           (.sm z36
            (fun z37 => (.bb (z33.1 != z37.1)
              (.ret (.inr (.inr (.inr (false, (z33.2.2.1, (z33.2.2.2, (z37.2.2.1, (z37.2.2.2.1, (z37.2.2.2.2.1, (z37.2.2.2.2.2.1, (z37.2.2.2.2.2.2, h8))))))))))))
              (.bb (z33.2.1 != z37.2.1)
               (.ret (.inr (.inr (.inr (false, (z33.2.2.1, (z33.2.2.2, (z37.2.2.1, (z37.2.2.2.1, (z37.2.2.2.2.1, (z37.2.2.2.2.2.1, (z37.2.2.2.2.2.2, h8))))))))))))
               (.opt (flash_Flash_Gone.c h1_1 h1_3 z33.2.2.1 z33.2.2.2 h2 h3) fun z39 =>
                (.bb (!(z33.2.2.1 == z37.2.2.2.1))
                 (.ret (.inr (.inr (.inr (false, (z33.2.2.1, (z33.2.2.2, (z37.2.2.1, (z37.2.2.2.1, (z37.2.2.2.2.1, (z37.2.2.2.2.2.1, (z37.2.2.2.2.2.2, h8))))))))))))
                 (.opt (flash_Flash_Writes_v2.c h1_1 h1_3 z33.2.2.1 z33.2.2.2 h2 h3) fun z40 =>
                  (.bb (h1_3 != z37.2.2.1)
                   (.ret (.inr (.inr (.inr (false, (z33.2.2.1, (z33.2.2.2, (z37.2.2.1, (z37.2.2.2.1, (z37.2.2.2.2.1, (z37.2.2.2.2.2.1, (z37.2.2.2.2.2.2, h8))))))))))))
                   (.dd (((0 : Int) ≤ i)) inferInstance
                    (.opt (l_)[(Int.toNat i)]? fun z41 =>
                     (.opt (flash_Flash_Wear.c z41.a h1_1 h1_3 z33.2.2.1 z33.2.2.2 h2 h3) fun z42 =>
                      (.dd (((0 : Int) ≤ i)) inferInstance
                       (.opt (l_)[(Int.toNat i)]? fun z43 =>
                        (.opt (law07_wear_v2.c z43.a h5_1 z37.2.2.1 z37.2.2.2.1 z37.2.2.2.2.1 z37.2.2.2.2.2.1 z37.2.2.2.2.2.2 h8) fun z44 =>
                         (.bb (z42 != z44)
                          (.ret (.inr (.inr (.inr (false, (z33.2.2.1, (z33.2.2.2, (z37.2.2.1, (z37.2.2.2.1, (z37.2.2.2.2.1, (z37.2.2.2.2.2.1, (z37.2.2.2.2.2.2, h8))))))))))))
                          (.opt (flash_Flash_Words_v2.c h1_1 h1_3 z33.2.2.1 z33.2.2.2 h2 h3) fun z45 =>
                           (.opt (ref01_Same.c z45 z37.2.2.2.2.2.1) fun z46 =>
                            (.bb (!z46)
                             (.ret (.inr (.inr (.inr (false, (z33.2.2.1, (z33.2.2.2, (z37.2.2.1, (z37.2.2.2.1, (z37.2.2.2.2.1, (z37.2.2.2.2.2.1, (z37.2.2.2.2.2.2, h8))))))))))))
                             (.ret (.inr (.inr (.inl (z33.2.2.1, (z33.2.2.2, (z37.2.2.1, (z37.2.2.2.1, (z37.2.2.2.2.1, (z37.2.2.2.2.2.1, (z37.2.2.2.2.2.2, h8)))))))))))))))))
                       .no)))
                    .no))))))))
            (fun z38 => (.bb (z33.1 != z38.1)
              (.ret (.inr (.inr (.inr (false, (z33.2.2.1, (z33.2.2.2, (h5_3, (h5_4, (z38.2.2, (h6, (h7, z35.masks))))))))))))
              (.bb (z33.2.1 != z38.2.1)
               (.ret (.inr (.inr (.inr (false, (z33.2.2.1, (z33.2.2.2, (h5_3, (h5_4, (z38.2.2, (h6, (h7, z35.masks))))))))))))
               (.opt (flash_Flash_Gone.c h1_1 h1_3 z33.2.2.1 z33.2.2.2 h2 h3) fun z47 =>
                (.bb (!(z33.2.2.1 == h5_4))
                 (.ret (.inr (.inr (.inr (false, (z33.2.2.1, (z33.2.2.2, (h5_3, (h5_4, (z38.2.2, (h6, (h7, z35.masks))))))))))))
                 (.opt (flash_Flash_Writes_v2.c h1_1 h1_3 z33.2.2.1 z33.2.2.2 h2 h3) fun z48 =>
                  (.bb (h1_3 != h5_3)
                   (.ret (.inr (.inr (.inr (false, (z33.2.2.1, (z33.2.2.2, (h5_3, (h5_4, (z38.2.2, (h6, (h7, z35.masks))))))))))))
                   (.dd (((0 : Int) ≤ i)) inferInstance
                    (.opt (l_)[(Int.toNat i)]? fun z49 =>
                     (.opt (flash_Flash_Wear.c z49.a h1_1 h1_3 z33.2.2.1 z33.2.2.2 h2 h3) fun z50 =>
                      (.dd (((0 : Int) ≤ i)) inferInstance
                       (.opt (l_)[(Int.toNat i)]? fun z51 =>
                        (.opt (law07_wear_v2.c z51.a h5_1 h5_3 h5_4 z38.2.2 h6 h7 z35.masks) fun z52 =>
                         (.bb (z50 != z52)
                          (.ret (.inr (.inr (.inr (false, (z33.2.2.1, (z33.2.2.2, (h5_3, (h5_4, (z38.2.2, (h6, (h7, z35.masks))))))))))))
                          (.opt (flash_Flash_Words_v2.c h1_1 h1_3 z33.2.2.1 z33.2.2.2 h2 h3) fun z53 =>
                           (.opt (ref01_Same.c z53 h6) fun z54 =>
                            (.bb (!z54)
                             (.ret (.inr (.inr (.inr (false, (z33.2.2.1, (z33.2.2.2, (h5_3, (h5_4, (z38.2.2, (h6, (h7, z35.masks))))))))))))
                             (.ret (.inr (.inr (.inl (z33.2.2.1, (z33.2.2.2, (h5_3, (h5_4, (z38.2.2, (h6, (h7, z35.masks)))))))))))))))))
                       .no)))
                    .no)))))))))))
         .no))
       (fun z34 => (.dd (((0 : Int) ≤ i)) inferInstance
         (.opt (l_)[(Int.toNat i)]? fun z55 =>
          (.opt (law07_told_v2.c z55.kind z55.a z55.x z55.masks h5_1 h5_3 h5_4 h5_5 h6 h7 h8) fun z56 =>
           (.sm z56
            (fun z57 => (.bb (z34.1 != z57.1)
              (.ret (.inr (.inl (false, (h1_3, (h1_4, (z34.2.2.1, (h2, (h3, (z34.2.2.2, (z57.2.2.1, (z57.2.2.2.1, (z57.2.2.2.2.1, (z57.2.2.2.2.2.1, (z57.2.2.2.2.2.2, h8)))))))))))))))
              (.bb (z34.2.1 != z57.2.1)
               (.ret (.inr (.inl (false, (h1_3, (h1_4, (z34.2.2.1, (h2, (h3, (z34.2.2.2, (z57.2.2.1, (z57.2.2.2.1, (z57.2.2.2.2.1, (z57.2.2.2.2.2.1, (z57.2.2.2.2.2.2, h8)))))))))))))))
               (.opt (flash_Flash_Gone_v2.c h1_1 h1_3 h1_4 z34.2.2.1 h2 h3 z34.2.2.2) fun z59 =>
                (.bb (!(h1_4 == z57.2.2.2.1))
                 (.ret (.inr (.inl (false, (h1_3, (h1_4, (z34.2.2.1, (h2, (h3, (z34.2.2.2, (z57.2.2.1, (z57.2.2.2.1, (z57.2.2.2.2.1, (z57.2.2.2.2.2.1, (z57.2.2.2.2.2.2, h8)))))))))))))))
                 (.opt (flash_Flash_Writes.c h1_1 h1_3 h1_4 z34.2.2.1 h2 h3 z34.2.2.2) fun z60 =>
                  (.bb (h1_3 != z57.2.2.1)
                   (.ret (.inr (.inl (false, (h1_3, (h1_4, (z34.2.2.1, (h2, (h3, (z34.2.2.2, (z57.2.2.1, (z57.2.2.2.1, (z57.2.2.2.2.1, (z57.2.2.2.2.2.1, (z57.2.2.2.2.2.2, h8)))))))))))))))
                   (.dd (((0 : Int) ≤ i)) inferInstance
                    (.opt (l_)[(Int.toNat i)]? fun z61 =>
                     (.opt (flash_Flash_Wear_v2.c z61.a h1_1 h1_3 h1_4 z34.2.2.1 h2 h3 z34.2.2.2) fun z62 =>
                      (.dd (((0 : Int) ≤ i)) inferInstance
                       (.opt (l_)[(Int.toNat i)]? fun z63 =>
                        (.opt (law07_wear_v2.c z63.a h5_1 z57.2.2.1 z57.2.2.2.1 z57.2.2.2.2.1 z57.2.2.2.2.2.1 z57.2.2.2.2.2.2 h8) fun z64 =>
                         (.bb (z62 != z64)
                          (.ret (.inr (.inl (false, (h1_3, (h1_4, (z34.2.2.1, (h2, (h3, (z34.2.2.2, (z57.2.2.1, (z57.2.2.2.1, (z57.2.2.2.2.1, (z57.2.2.2.2.2.1, (z57.2.2.2.2.2.2, h8)))))))))))))))
                          (.opt (flash_Flash_Words.c h1_1 h1_3 h1_4 z34.2.2.1 h2 h3 z34.2.2.2) fun z65 =>
                           (.opt (ref01_Same.c z65 z57.2.2.2.2.2.1) fun z66 =>
                            (.bb (!z66)
                             (.ret (.inr (.inl (false, (h1_3, (h1_4, (z34.2.2.1, (h2, (h3, (z34.2.2.2, (z57.2.2.1, (z57.2.2.2.1, (z57.2.2.2.2.1, (z57.2.2.2.2.2.1, (z57.2.2.2.2.2.2, h8)))))))))))))))
                             (.ret (.inl (h1_3, (h1_4, (z34.2.2.1, (h2, (h3, (z34.2.2.2, (z57.2.2.1, (z57.2.2.2.1, (z57.2.2.2.2.1, (z57.2.2.2.2.2.1, (z57.2.2.2.2.2.2, h8)))))))))))))))))))
                       .no)))
                    .no))))))))
            (fun z58 => (.bb (z34.1 != z58.1)
              (.ret (.inr (.inl (false, (h1_3, (h1_4, (z34.2.2.1, (h2, (h3, (z34.2.2.2, (h5_3, (h5_4, (z58.2.2, (h6, (h7, z55.masks)))))))))))))))
              (.bb (z34.2.1 != z58.2.1)
               (.ret (.inr (.inl (false, (h1_3, (h1_4, (z34.2.2.1, (h2, (h3, (z34.2.2.2, (h5_3, (h5_4, (z58.2.2, (h6, (h7, z55.masks)))))))))))))))
               (.opt (flash_Flash_Gone_v2.c h1_1 h1_3 h1_4 z34.2.2.1 h2 h3 z34.2.2.2) fun z67 =>
                (.bb (!(h1_4 == h5_4))
                 (.ret (.inr (.inl (false, (h1_3, (h1_4, (z34.2.2.1, (h2, (h3, (z34.2.2.2, (h5_3, (h5_4, (z58.2.2, (h6, (h7, z55.masks)))))))))))))))
                 (.opt (flash_Flash_Writes.c h1_1 h1_3 h1_4 z34.2.2.1 h2 h3 z34.2.2.2) fun z68 =>
                  (.bb (h1_3 != h5_3)
                   (.ret (.inr (.inl (false, (h1_3, (h1_4, (z34.2.2.1, (h2, (h3, (z34.2.2.2, (h5_3, (h5_4, (z58.2.2, (h6, (h7, z55.masks)))))))))))))))
                   (.dd (((0 : Int) ≤ i)) inferInstance
                    (.opt (l_)[(Int.toNat i)]? fun z69 =>
                     (.opt (flash_Flash_Wear_v2.c z69.a h1_1 h1_3 h1_4 z34.2.2.1 h2 h3 z34.2.2.2) fun z70 =>
                      (.dd (((0 : Int) ≤ i)) inferInstance
                       (.opt (l_)[(Int.toNat i)]? fun z71 =>
                        (.opt (law07_wear_v2.c z71.a h5_1 h5_3 h5_4 z58.2.2 h6 h7 z55.masks) fun z72 =>
                         (.bb (z70 != z72)
                          (.ret (.inr (.inl (false, (h1_3, (h1_4, (z34.2.2.1, (h2, (h3, (z34.2.2.2, (h5_3, (h5_4, (z58.2.2, (h6, (h7, z55.masks)))))))))))))))
                          (.opt (flash_Flash_Words.c h1_1 h1_3 h1_4 z34.2.2.1 h2 h3 z34.2.2.2) fun z73 =>
                           (.opt (ref01_Same.c z73 h6) fun z74 =>
                            (.bb (!z74)
                             (.ret (.inr (.inl (false, (h1_3, (h1_4, (z34.2.2.1, (h2, (h3, (z34.2.2.2, (h5_3, (h5_4, (z58.2.2, (h6, (h7, z55.masks)))))))))))))))
                             (.ret (.inl (h1_3, (h1_4, (z34.2.2.1, (h2, (h3, (z34.2.2.2, (h5_3, (h5_4, (z58.2.2, (h6, (h7, z55.masks)))))))))))))))))))
                       .no)))
                    .no)))))))))))
         .no)))))))
  .no)
noncomputable def C16 (l_ : (List Act7)) (i : Int) (h0_0 : Int) (h0_1 : Int) (h1_1 : Int) (h1_3 : Int) (h1_4 : Bool) (h1_5 : Int) (h2 : (List Int)) (h3 : (List Int)) (h4 : (List Int)) (h5_1 : Int) (h5_3 : Int) (h5_4 : Bool) (h5_5 : Int) (h6 : (List Int)) (h7 : (List Int)) (h8 : (List Int)) : Option ((Int × (Bool × (Int × ((List Int) × ((List Int) × ((List Int) × (Int × (Bool × (Int × ((List Int) × ((List Int) × (List Int)))))))))))) ⊕ ((Bool × (Int × (Bool × (Int × ((List Int) × ((List Int) × ((List Int) × (Int × (Bool × (Int × ((List Int) × ((List Int) × (List Int))))))))))))) ⊕ ((Bool × (Int × (Int × (Bool × (Int × ((List Int) × ((List Int) × (List Int)))))))) ⊕ (Bool × (Bool × (Int × (Int × (Bool × (Int × ((List Int) × ((List Int) × (List Int)))))))))))) := (c16 l_ i h0_0 h0_1 h1_1 h1_3 h1_4 h1_5 h2 h3 h4 h5_1 h5_3 h5_4 h5_5 h6 h7 h8).run
def pC16 : Pt := (.cs (.bots 1) (.cs (.sl 20) (.cs (.ptr 0 0) (.cs (.bots 2) (.cs (.ptr 1 0) (.cs (.bots 1) (.cs (.ptr 5 0) (.cs (.int .i64) (.cs (.bots 166) .nl)))))))))
def qC16 : Pt := (.cs (.var (.cs (.int .i64) (.cs (.int .i64) .nl))) (.cs (.var (.cs (.own 2) (.cs (.int .i64) (.cs (.own 3) (.cs (.int .i64) (.cs .bool (.cs (.int .i64) (.cs (.own 4) .nl)))))))) (.cs (.row 3 true) (.cs (.row 1 true) (.cs (.row 3 true) (.cs (.var (.cs (.own 6) (.cs (.int .i64) (.cs (.own 7) (.cs (.int .i64) (.cs .bool (.cs (.int .i64) (.cs (.own 8) .nl)))))))) (.cs (.row 3 true) (.cs (.row 1 true) (.cs (.row 3 true) .nl)))))))))
def ouC16 (l : TC16) (y : ((Int × (Bool × (Int × ((List Int) × ((List Int) × ((List Int) × (Int × (Bool × (Int × ((List Int) × ((List Int) × (List Int)))))))))))) ⊕ ((Bool × (Int × (Bool × (Int × ((List Int) × ((List Int) × ((List Int) × (Int × (Bool × (Int × ((List Int) × ((List Int) × (List Int))))))))))))) ⊕ ((Bool × (Int × (Int × (Bool × (Int × ((List Int) × ((List Int) × (List Int)))))))) ⊕ (Bool × (Bool × (Int × (Int × (Bool × (Int × ((List Int) × ((List Int) × (List Int))))))))))))) : Ex × St U := (Sum.elim (fun a0 => (.normal, stOf 175 [(1, .im (.slice 20 l.1.2.1)), (2, .ptr 0 0), (5, .ptr 1 0), (7, .ptr 5 0), (8, .im (.int .i64 l.1.2.2.2.2.2.2.2.1))] [.var [.im (.int .i64 l.2.1.1), .im (.int .i64 l.2.1.2.1)], .var [.own 2, .im (.int .i64 l.2.2.1.2.1), .own 3, .im (.int .i64 a0.1), .im (.bool a0.2.1), .im (.int .i64 a0.2.2.1), .own 4], .row 3 a0.2.2.2.1 true, .row 1 a0.2.2.2.2.1 true, .row 3 a0.2.2.2.2.2.1 true, .var [.own 6, .im (.int .i64 l.2.2.2.2.2.2.1.2.1), .own 7, .im (.int .i64 a0.2.2.2.2.2.2.1), .im (.bool a0.2.2.2.2.2.2.2.1), .im (.int .i64 a0.2.2.2.2.2.2.2.2.1), .own 8], .row 3 a0.2.2.2.2.2.2.2.2.2.1 true, .row 1 a0.2.2.2.2.2.2.2.2.2.2.1 true, .row 3 a0.2.2.2.2.2.2.2.2.2.2.2 true] 0)) (fun b0 => (Sum.elim (fun a1 => (.ret, stOf 175 [(1, .im (.slice 20 l.1.2.1)), (2, .ptr 0 0), (4, .im (.bool a1.1)), (5, .ptr 1 0), (7, .ptr 5 0), (8, .im (.int .i64 l.1.2.2.2.2.2.2.2.1))] [.var [.im (.int .i64 l.2.1.1), .im (.int .i64 l.2.1.2.1)], .var [.own 2, .im (.int .i64 l.2.2.1.2.1), .own 3, .im (.int .i64 a1.2.1), .im (.bool a1.2.2.1), .im (.int .i64 a1.2.2.2.1), .own 4], .row 3 a1.2.2.2.2.1 true, .row 1 a1.2.2.2.2.2.1 true, .row 3 a1.2.2.2.2.2.2.1 true, .var [.own 6, .im (.int .i64 l.2.2.2.2.2.2.1.2.1), .own 7, .im (.int .i64 a1.2.2.2.2.2.2.2.1), .im (.bool a1.2.2.2.2.2.2.2.2.1), .im (.int .i64 a1.2.2.2.2.2.2.2.2.2.1), .own 8], .row 3 a1.2.2.2.2.2.2.2.2.2.2.1 true, .row 1 a1.2.2.2.2.2.2.2.2.2.2.2.1 true, .row 3 a1.2.2.2.2.2.2.2.2.2.2.2.2 true] 0)) (fun b1 => (Sum.elim (fun a2 => (.normal, stOf 175 [(1, .im (.slice 20 l.1.2.1)), (2, .ptr 0 0), (5, .ptr 1 0), (7, .ptr 4 0), (8, .im (.int .i64 l.1.2.2.2.2.2.2.2.1))] [.var [.im (.int .i64 l.2.1.1), .im (.int .i64 l.2.1.2.1)], .var [.own 2, .im (.int .i64 l.2.2.1.2.1), .own 3, .im (.int .i64 l.2.2.1.2.2.2.1), .im (.bool a2.1), .im (.int .i64 a2.2.1), .im .nils], .row 3 l.2.2.2.1 true, .row 1 l.2.2.2.2.1 true, .var [.own 5, .im (.int .i64 l.2.2.2.2.2.2.1.2.1), .own 6, .im (.int .i64 a2.2.2.1), .im (.bool a2.2.2.2.1), .im (.int .i64 a2.2.2.2.2.1), .own 7], .row 3 a2.2.2.2.2.2.1 true, .row 1 a2.2.2.2.2.2.2.1 true, .row 3 a2.2.2.2.2.2.2.2 true] 0)) (fun b2 => (.ret, stOf 175 [(1, .im (.slice 20 l.1.2.1)), (2, .ptr 0 0), (4, .im (.bool b2.1)), (5, .ptr 1 0), (7, .ptr 4 0), (8, .im (.int .i64 l.1.2.2.2.2.2.2.2.1))] [.var [.im (.int .i64 l.2.1.1), .im (.int .i64 l.2.1.2.1)], .var [.own 2, .im (.int .i64 l.2.2.1.2.1), .own 3, .im (.int .i64 l.2.2.1.2.2.2.1), .im (.bool b2.2.1), .im (.int .i64 b2.2.2.1), .im .nils], .row 3 l.2.2.2.1 true, .row 1 l.2.2.2.2.1 true, .var [.own 5, .im (.int .i64 l.2.2.2.2.2.2.1.2.1), .own 6, .im (.int .i64 b2.2.2.2.1), .im (.bool b2.2.2.2.2.1), .im (.int .i64 b2.2.2.2.2.2.1), .own 7], .row 3 b2.2.2.2.2.2.2.1 true, .row 1 b2.2.2.2.2.2.2.2.1 true, .row 3 b2.2.2.2.2.2.2.2.2 true] 0)) b1)) b0)) y)
noncomputable def ΛC16 : LFun U := mkLp (U := U) pC16 qC16 0 (X := ((Int × (Bool × (Int × ((List Int) × ((List Int) × ((List Int) × (Int × (Bool × (Int × ((List Int) × ((List Int) × (List Int)))))))))))) ⊕ ((Bool × (Int × (Bool × (Int × ((List Int) × ((List Int) × ((List Int) × (Int × (Bool × (Int × ((List Int) × ((List Int) × (List Int))))))))))))) ⊕ ((Bool × (Int × (Int × (Bool × (Int × ((List Int) × ((List Int) × (List Int)))))))) ⊕ (Bool × (Bool × (Int × (Int × (Bool × (Int × ((List Int) × ((List Int) × (List Int))))))))))))) (fun (l : TC16) => C16 l.1.2.1 l.1.2.2.2.2.2.2.2.1 l.2.1.1 l.2.1.2.1 l.2.2.1.2.1 l.2.2.1.2.2.2.1 l.2.2.1.2.2.2.2.1 l.2.2.1.2.2.2.2.2.1 l.2.2.2.1 l.2.2.2.2.1 l.2.2.2.2.2.1 l.2.2.2.2.2.2.1.2.1 l.2.2.2.2.2.2.1.2.2.2.1 l.2.2.2.2.2.2.1.2.2.2.2.1 l.2.2.2.2.2.2.1.2.2.2.2.2.1 l.2.2.2.2.2.2.2.1 l.2.2.2.2.2.2.2.2.1 l.2.2.2.2.2.2.2.2.2.1) (spS (spS (spS sp1))) ouC16
abbrev T10 : Type := ((Unit × ((List Act7) × (Unit × (Unit × (Unit × (Unit × (Unit × (Int × (Unit × Unit))))))))) × ((Int × (Int × Unit)) × ((Unit × (Int × (Unit × (Int × (Bool × (Int × (Unit × Unit))))))) × ((List Int) × ((List Int) × ((List Int) × ((Unit × (Int × (Unit × (Int × (Bool × (Int × (Unit × Unit))))))) × ((List Int) × ((List Int) × ((List Int) × Unit))))))))))
noncomputable def l10 (l_ : (List Act7)) (h0_0 : Int) (h0_1 : Int) (h1_1 : Int) (h5_1 : Int) (i : Int) (h1_3 : Int) (h1_4 : Bool) (h1_5 : Int) (h2 : (List Int)) (h3 : (List Int)) (h4 : (List Int)) (h5_3 : Int) (h5_4 : Bool) (h5_5 : Int) (h6 : (List Int)) (h7 : (List Int)) (h8 : (List Int)) : Tw ((Int × (Int × (Bool × (Int × ((List Int) × ((List Int) × ((List Int) × (Int × (Bool × (Int × ((List Int) × ((List Int) × (List Int))))))))))))) ⊕ ((Int × (Bool × (Int × ((List Int) × ((List Int) × (List Int)))))) ⊕ ((Bool × (Int × (Bool × (Int × ((List Int) × ((List Int) × (List Int))))))) ⊕ (Bool × (Int × (Bool × (Int × ((List Int) × (List Int))))))))) :=
 (.bb (decide (i < (((List.length l_) : Nat) : Int)))
  (.dd (((0 : Int) ≤ i)) inferInstance
   (.opt (l_)[(Int.toNat i)]? fun z8 =>
    (.bb (z8.kind == (6 : Int))
     (.opt (flash_Flash_Copy.c h1_1 h1_3 h1_4 h1_5 h2 h3 h4) fun z82 =>
      (.opt (flash_Flash_Erase_v2.c (0 : Int) h1_1 h1_3 h1_4 h1_5 h2 h3 h4) fun z83 =>
       (.opt (C16 l_ i h0_0 h0_1 h1_1 h1_3 h1_4 h1_5 z82.1 z82.2.1 z82.2.2 h5_1 h5_3 h5_4 h5_5 h6 h7 h8) fun z84 =>
        (.sm z84
         (fun z85 => (.ret (.inl ((w64 (i + (1 : Int))), (z85.1, (z85.2.1, (z85.2.2.1, (z85.2.2.2.1, (z85.2.2.2.2.1, (z85.2.2.2.2.2.1, (z85.2.2.2.2.2.2.1, (z85.2.2.2.2.2.2.2.1, (z85.2.2.2.2.2.2.2.2.1, (z85.2.2.2.2.2.2.2.2.2.1, (z85.2.2.2.2.2.2.2.2.2.2.1, z85.2.2.2.2.2.2.2.2.2.2.2)))))))))))))))
         (fun z86 => (.sm z86
           (fun z87 => (.ret (.inr (.inr (.inl (z87.1, (z87.2.1, (z87.2.2.1, (z87.2.2.2.1, (z87.2.2.2.2.1, (z87.2.2.2.2.2.1, z87.2.2.2.2.2.2.1)))))))))))
           (fun z88 => (.sm z88
             (fun z89 => (.ret (.inl ((w64 (i + (1 : Int))), (h1_3, (z89.1, (z89.2.1, (z82.1, (z82.2.1, (([] : List Int), (z89.2.2.1, (z89.2.2.2.1, (z89.2.2.2.2.1, (z89.2.2.2.2.2.1, (z89.2.2.2.2.2.2.1, z89.2.2.2.2.2.2.2)))))))))))))))
             (fun z90 => (.ret (.inr (.inr (.inr (z90.1, (h1_3, (z90.2.1, (z90.2.2.1, (z82.1, z82.2.1))))))))))))))))))
     (.opt (C16 l_ i h0_0 h0_1 h1_1 h1_3 h1_4 h1_5 h2 h3 h4 h5_1 h5_3 h5_4 h5_5 h6 h7 h8) fun z75 =>
      (.sm z75
       (fun z76 => (.ret (.inl ((w64 (i + (1 : Int))), (z76.1, (z76.2.1, (z76.2.2.1, (z76.2.2.2.1, (z76.2.2.2.2.1, (z76.2.2.2.2.2.1, (z76.2.2.2.2.2.2.1, (z76.2.2.2.2.2.2.2.1, (z76.2.2.2.2.2.2.2.2.1, (z76.2.2.2.2.2.2.2.2.2.1, (z76.2.2.2.2.2.2.2.2.2.2.1, z76.2.2.2.2.2.2.2.2.2.2.2)))))))))))))))
       (fun z77 => (.sm z77
         (fun z78 => (.ret (.inr (.inr (.inl (z78.1, (z78.2.1, (z78.2.2.1, (z78.2.2.2.1, (z78.2.2.2.2.1, (z78.2.2.2.2.2.1, z78.2.2.2.2.2.2.1)))))))))))
         (fun z79 => (.sm z79
           (fun z80 => (.ret (.inl ((w64 (i + (1 : Int))), (h1_3, (z80.1, (z80.2.1, (h2, (h3, (([] : List Int), (z80.2.2.1, (z80.2.2.2.1, (z80.2.2.2.2.1, (z80.2.2.2.2.2.1, (z80.2.2.2.2.2.2.1, z80.2.2.2.2.2.2.2)))))))))))))))
           (fun z81 => (.ret (.inr (.inr (.inr (z81.1, (h1_3, (z81.2.1, (z81.2.2.1, (h2, h3))))))))))))))))))
   .no)
  (.ret (.inr (.inl (h1_3, (h1_4, (h1_5, (h2, (h3, h4)))))))))
noncomputable def L10 (l_ : (List Act7)) (i : Int) (h0_0 : Int) (h0_1 : Int) (h1_1 : Int) (h1_3 : Int) (h1_4 : Bool) (h1_5 : Int) (h2 : (List Int)) (h3 : (List Int)) (h4 : (List Int)) (h5_1 : Int) (h5_3 : Int) (h5_4 : Bool) (h5_5 : Int) (h6 : (List Int)) (h7 : (List Int)) (h8 : (List Int)) : Option ((Int × (Bool × (Int × ((List Int) × ((List Int) × (List Int)))))) ⊕ ((Bool × (Int × (Bool × (Int × ((List Int) × ((List Int) × (List Int))))))) ⊕ (Bool × (Int × (Bool × (Int × ((List Int) × (List Int)))))))) := Lp (fun s => (l10 l_ h0_0 h0_1 h1_1 h5_1 s.1 s.2.1 s.2.2.1 s.2.2.2.1 s.2.2.2.2.1 s.2.2.2.2.2.1 s.2.2.2.2.2.2.1 s.2.2.2.2.2.2.2.1 s.2.2.2.2.2.2.2.2.1 s.2.2.2.2.2.2.2.2.2.1 s.2.2.2.2.2.2.2.2.2.2.1 s.2.2.2.2.2.2.2.2.2.2.2.1 s.2.2.2.2.2.2.2.2.2.2.2.2).run) (i, (h1_3, (h1_4, (h1_5, (h2, (h3, (h4, (h5_3, (h5_4, (h5_5, (h6, (h7, h8))))))))))))
def p10 : Pt := (.cs (.bots 1) (.cs (.sl 20) (.cs (.ptr 0 0) (.cs (.bots 2) (.cs (.ptr 1 0) (.cs (.bots 1) (.cs (.ptr 5 0) (.cs (.int .i64) (.cs (.bots 166) .nl)))))))))
def q10 : Pt := (.cs (.var (.cs (.int .i64) (.cs (.int .i64) .nl))) (.cs (.var (.cs (.own 2) (.cs (.int .i64) (.cs (.own 3) (.cs (.int .i64) (.cs .bool (.cs (.int .i64) (.cs (.own 4) .nl)))))))) (.cs (.row 3 true) (.cs (.row 1 true) (.cs (.row 3 true) (.cs (.var (.cs (.own 6) (.cs (.int .i64) (.cs (.own 7) (.cs (.int .i64) (.cs .bool (.cs (.int .i64) (.cs (.own 8) .nl)))))))) (.cs (.row 3 true) (.cs (.row 1 true) (.cs (.row 3 true) .nl)))))))))
def ou10 (l : T10) (y : ((Int × (Bool × (Int × ((List Int) × ((List Int) × (List Int)))))) ⊕ ((Bool × (Int × (Bool × (Int × ((List Int) × ((List Int) × (List Int))))))) ⊕ (Bool × (Int × (Bool × (Int × ((List Int) × (List Int))))))))) : Ex × St U := (Sum.elim (fun a0 => (.exit 0, stOf 175 [(2, .ptr 0 0), (5, .ptr 1 0)] [.var [.im (.int .i64 l.2.1.1), .im (.int .i64 l.2.1.2.1)], .var [.own 2, .im (.int .i64 l.2.2.1.2.1), .own 3, .im (.int .i64 a0.1), .im (.bool a0.2.1), .im (.int .i64 a0.2.2.1), .own 4], .row 3 a0.2.2.2.1 true, .row 1 a0.2.2.2.2.1 true, .row 3 a0.2.2.2.2.2 true] 0)) (fun b0 => (Sum.elim (fun a1 => (.ret, stOf 175 [(2, .ptr 0 0), (4, .im (.bool a1.1)), (5, .ptr 1 0)] [.var [.im (.int .i64 l.2.1.1), .im (.int .i64 l.2.1.2.1)], .var [.own 2, .im (.int .i64 l.2.2.1.2.1), .own 3, .im (.int .i64 a1.2.1), .im (.bool a1.2.2.1), .im (.int .i64 a1.2.2.2.1), .own 4], .row 3 a1.2.2.2.2.1 true, .row 1 a1.2.2.2.2.2.1 true, .row 3 a1.2.2.2.2.2.2 true] 0)) (fun b1 => (.ret, stOf 175 [(2, .ptr 0 0), (4, .im (.bool b1.1)), (5, .ptr 1 0)] [.var [.im (.int .i64 l.2.1.1), .im (.int .i64 l.2.1.2.1)], .var [.own 2, .im (.int .i64 l.2.2.1.2.1), .own 3, .im (.int .i64 b1.2.1), .im (.bool b1.2.2.1), .im (.int .i64 b1.2.2.2.1), .im .nils], .row 3 b1.2.2.2.2.1 true, .row 1 b1.2.2.2.2.2 true] 0)) b0)) y)
noncomputable def Λ10 : LFun U := mkLp (U := U) p10 q10 0 (X := ((Int × (Bool × (Int × ((List Int) × ((List Int) × (List Int)))))) ⊕ ((Bool × (Int × (Bool × (Int × ((List Int) × ((List Int) × (List Int))))))) ⊕ (Bool × (Int × (Bool × (Int × ((List Int) × (List Int))))))))) (fun (l : T10) => L10 l.1.2.1 l.1.2.2.2.2.2.2.2.1 l.2.1.1 l.2.1.2.1 l.2.2.1.2.1 l.2.2.1.2.2.2.1 l.2.2.1.2.2.2.2.1 l.2.2.1.2.2.2.2.2.1 l.2.2.2.1 l.2.2.2.2.1 l.2.2.2.2.2.1 l.2.2.2.2.2.2.1.2.1 l.2.2.2.2.2.2.1.2.2.2.1 l.2.2.2.2.2.2.1.2.2.2.2.1 l.2.2.2.2.2.2.1.2.2.2.2.2.1 l.2.2.2.2.2.2.2.1 l.2.2.2.2.2.2.2.2.1 l.2.2.2.2.2.2.2.2.2.1) (spS (spS sp1)) ou10
noncomputable def t (size_0 : Int) (size_1 : Int) (l_ : (List Act7)) : Tw Bool :=
 (.opt (law07_great.c l_) fun z1 =>
  (.bb z1
   (.opt (law07_awake.c) fun z156 =>
    (.ret z156))
   (.bb (decide (size_0 > (16 : Int)))
    (.bb (decide (size_0 ≤ (512 : Int)))
     (.opt (law07_awake.c) fun z155 =>
      (.ret z155))
     (.bb (decide (size_1 > (32 : Int)))
      (.bb (decide (size_1 ≤ (1024 : Int)))
       (.opt (law07_awake.c) fun z154 =>
        (.ret z154))
       (.opt (flash_New.c size_0 size_1) fun z137 =>
        (.sm z137
         (fun z138 => (.opt (ref07_New.c size_0 size_1) fun z140 =>
           (.sm z140
            (fun z141 => (.bb (z138.1 != (0 : Int))
              (.ret false)
              (.opt (L10 l_ (0 : Int) size_0 size_1 size_1 z138.2.1 z138.2.2.1 z138.2.2.2.1 z138.2.2.2.2.1 z138.2.2.2.2.2 ([] : List Int) size_1 z141.1 z141.2.1 z141.2.2.1 z141.2.2.2.1 z141.2.2.2.2 ([] : List Int)) fun z143 =>
               (.sm z143
                (fun z144 => (.opt (flash_Flash_Size_v2.c size_1 z144.1 z144.2.1 z144.2.2.1 z144.2.2.2.1 z144.2.2.2.2.1 z144.2.2.2.2.2) fun z146 =>
                  (.bb (z146 == size_0)
                   (.bb (size_1 == size_1)
                    (.opt (law07_awake.c) fun z147 =>
                     (.ret z147))
                    (.ret false))
                   (.ret false))))
                (fun z145 => (.sm z145
                  (fun z148 => (.ret z148.1))
                  (fun z149 => (.ret z149.1))))))))
            (fun z142 => (.ret false)))))
         (fun z139 => (.opt (ref07_New.c size_0 size_1) fun z150 =>
           (.sm z150
            (fun z151 => (.ret false))
            (fun z152 => (.bb (z139 == (2 : Int))
              (.opt (law07_awake.c) fun z153 =>
               (.ret z153))
              (.ret false)))))))))
      (.opt (flash_New.c size_0 size_1) fun z120 =>
       (.sm z120
        (fun z121 => (.opt (ref07_New.c size_0 size_1) fun z123 =>
          (.sm z123
           (fun z124 => (.bb (z121.1 != (0 : Int))
             (.ret false)
             (.opt (L10 l_ (0 : Int) size_0 size_1 size_1 z121.2.1 z121.2.2.1 z121.2.2.2.1 z121.2.2.2.2.1 z121.2.2.2.2.2 ([] : List Int) size_1 z124.1 z124.2.1 z124.2.2.1 z124.2.2.2.1 z124.2.2.2.2 ([] : List Int)) fun z126 =>
              (.sm z126
               (fun z127 => (.opt (flash_Flash_Size_v2.c size_1 z127.1 z127.2.1 z127.2.2.1 z127.2.2.2.1 z127.2.2.2.2.1 z127.2.2.2.2.2) fun z129 =>
                 (.bb (z129 == size_0)
                  (.bb (size_1 == size_1)
                   (.opt (law07_awake.c) fun z130 =>
                    (.ret z130))
                   (.ret false))
                  (.ret false))))
               (fun z128 => (.sm z128
                 (fun z131 => (.ret z131.1))
                 (fun z132 => (.ret z132.1))))))))
           (fun z125 => (.ret false)))))
        (fun z122 => (.opt (ref07_New.c size_0 size_1) fun z133 =>
          (.sm z133
           (fun z134 => (.ret false))
           (fun z135 => (.bb (z122 == (2 : Int))
             (.opt (law07_awake.c) fun z136 =>
              (.ret z136))
             (.ret false))))))))))
    (.bb (decide (size_1 > (32 : Int)))
     (.bb (decide (size_1 ≤ (1024 : Int)))
      (.opt (law07_awake.c) fun z119 =>
       (.ret z119))
      (.opt (flash_New.c size_0 size_1) fun z102 =>
       (.sm z102
        (fun z103 => (.opt (ref07_New.c size_0 size_1) fun z105 =>
          (.sm z105
           (fun z106 => (.bb (z103.1 != (0 : Int))
             (.ret false)
             (.opt (L10 l_ (0 : Int) size_0 size_1 size_1 z103.2.1 z103.2.2.1 z103.2.2.2.1 z103.2.2.2.2.1 z103.2.2.2.2.2 ([] : List Int) size_1 z106.1 z106.2.1 z106.2.2.1 z106.2.2.2.1 z106.2.2.2.2 ([] : List Int)) fun z108 =>
              (.sm z108
               (fun z109 => (.opt (flash_Flash_Size_v2.c size_1 z109.1 z109.2.1 z109.2.2.1 z109.2.2.2.1 z109.2.2.2.2.1 z109.2.2.2.2.2) fun z111 =>
                 (.bb (z111 == size_0)
                  (.bb (size_1 == size_1)
                   (.opt (law07_awake.c) fun z112 =>
                    (.ret z112))
                   (.ret false))
                  (.ret false))))
               (fun z110 => (.sm z110
                 (fun z113 => (.ret z113.1))
                 (fun z114 => (.ret z114.1))))))))
           (fun z107 => (.ret false)))))
        (fun z104 => (.opt (ref07_New.c size_0 size_1) fun z115 =>
          (.sm z115
           (fun z116 => (.ret false))
           (fun z117 => (.bb (z104 == (2 : Int))
             (.opt (law07_awake.c) fun z118 =>
              (.ret z118))
             (.ret false)))))))))
     (.opt (flash_New.c size_0 size_1) fun z2 =>
      (.sm z2
       (fun z3 => (.opt (ref07_New.c size_0 size_1) fun z5 =>
         (.sm z5
          (fun z6 => (.bb (z3.1 != (0 : Int))
            (.ret false)
            (.opt (L10 l_ (0 : Int) size_0 size_1 size_1 z3.2.1 z3.2.2.1 z3.2.2.2.1 z3.2.2.2.2.1 z3.2.2.2.2.2 ([] : List Int) size_1 z6.1 z6.2.1 z6.2.2.1 z6.2.2.2.1 z6.2.2.2.2 ([] : List Int)) fun z91 =>
             (.sm z91
              (fun z92 => (.opt (flash_Flash_Size_v2.c size_1 z92.1 z92.2.1 z92.2.2.1 z92.2.2.2.1 z92.2.2.2.2.1 z92.2.2.2.2.2) fun z94 =>
                (.bb (z94 == size_0)
                 (.bb (size_1 == size_1)
                  (.opt (law07_awake.c) fun z95 =>
                   (.ret z95))
                  (.ret false))
                 (.ret false))))
              (fun z93 => (.sm z93
                (fun z96 => (.ret z96.1))
                (fun z97 => (.ret z97.1))))))))
          (fun z7 => (.ret false)))))
       (fun z4 => (.opt (ref07_New.c size_0 size_1) fun z98 =>
         (.sm z98
          (fun z99 => (.ret false))
          (fun z100 => (.bb (z4 == (2 : Int))
            (.opt (law07_awake.c) fun z101 =>
             (.ret z101))
            (.ret false))))))))))))
noncomputable def c (size_0 : Int) (size_1 : Int) (l_ : (List Act7)) : Option Bool := (t size_0 size_1 l_).run
def pA : Pt := (.cs (.agg (.cs (.int .i64) (.cs (.int .i64) .nl))) (.cs (.sl 20) .nl))
def pH : Pt := .nl
def v (l : TA) (y : Bool) : AV U := .im (.bool y)
def hh (l : TA) (y : Bool) : Hp U := []
noncomputable def A : AFun U := mkA (U := U) pA pH (X := Bool) (fun (l : TA) => c l.1.1.1 l.1.1.2.1 l.1.2.1) sp1 v hh
noncomputable def body : Code := (Go.Func.body Try.f8).getD .skip
noncomputable def Γ : List (FuncId × AFun U) := [(30, law07_great.A), (32, flash_New.A), (47, ref07_New.A), (33, law07_do_v2.A), (50, law07_told_v2.A), (35, (orA flash_Flash_Gone_v2.pA flash_Flash_Gone_v2.pH flash_Flash_Gone_v2.A flash_Flash_Gone.A)), (36, (orA flash_Flash_Writes.pA flash_Flash_Writes.pH flash_Flash_Writes.A flash_Flash_Writes_v2.A)), (51, (orA flash_Flash_Wear_v2.pA flash_Flash_Wear_v2.pH flash_Flash_Wear_v2.A flash_Flash_Wear.A)), (52, law07_wear_v2.A), (34, (orA flash_Flash_Words.pA flash_Flash_Words.pH flash_Flash_Words.A flash_Flash_Words_v2.A)), (22, ref01_Same.A), (48, flash_Flash_Copy.A), (49, flash_Flash_Erase_v2.A), (53, flash_Flash_Size_v2.A), (31, law07_awake.A)]
noncomputable def Λ : List (Nat × LFun U) := [(10, Λ10)]
noncomputable def CT : List (Nat × LFun U) := [(16, ΛC16)]
def ro : List FuncId := [35, 36, 51, 52, 34, 48, 53]
def D : Nat → Lv × Lv := dtab [(10, ⟨[8, 7, 1, 5, 2], [(7, [.to 6], .own 3), (5, [.to 6], .own 3)]⟩, ⟨[4, 2, 5], []⟩), (16, ⟨[7, 1, 5, 2, 8], []⟩, ⟨[7, 1, 5, 2, 8, 4], []⟩)]
noncomputable def E : Env U := { E0 with Γ := Γ, Λ := Λ, C := CT, D := D, ro := ro }
theorem hc16 (R : Type) (l : TC16) (K : Ex → St U → Option R) : codeA E (pick (seqsOf body) 16) ⟨pC16.mkL l.1, qC16.mkH l.2, 0⟩ (outK E 16 K) =
  (c16 l.1.2.1 l.1.2.2.2.2.2.2.2.1 l.2.1.1 l.2.1.2.1 l.2.2.1.2.1 l.2.2.1.2.2.2.1 l.2.2.1.2.2.2.2.1 l.2.2.1.2.2.2.2.2.1 l.2.2.2.1 l.2.2.2.2.1 l.2.2.2.2.2.1 l.2.2.2.2.2.2.1.2.1 l.2.2.2.2.2.2.1.2.2.2.1 l.2.2.2.2.2.2.1.2.2.2.2.1 l.2.2.2.2.2.2.1.2.2.2.2.2.1 l.2.2.2.2.2.2.2.1 l.2.2.2.2.2.2.2.2.1 l.2.2.2.2.2.2.2.2.2.1).runK fun y => K (ouC16 l y).1 (ouC16 l y).2 := by kernel_rfl
theorem ck16 (R : Type) (st : St U) (K : Ex → St U → Option R) (r : R) (h : ΛC16 R st K = some r) : codeA E (pick (seqsOf body) 16) st (outK E 16 K) = some r :=
  cut_ok (U := U) (E := E) (b := pick (seqsOf body) 16) (k := 16) (m := 0) (sp := (spS (spS (spS sp1)))) (p := pC16) (q := qC16) (X := ((Int × (Bool × (Int × ((List Int) × ((List Int) × ((List Int) × (Int × (Bool × (Int × ((List Int) × ((List Int) × (List Int)))))))))))) ⊕ ((Bool × (Int × (Bool × (Int × ((List Int) × ((List Int) × ((List Int) × (Int × (Bool × (Int × ((List Int) × ((List Int) × (List Int))))))))))))) ⊕ ((Bool × (Int × (Int × (Bool × (Int × ((List Int) × ((List Int) × (List Int)))))))) ⊕ (Bool × (Bool × (Int × (Int × (Bool × (Int × ((List Int) × ((List Int) × (List Int))))))))))))) (t := fun (l : TC16) => c16 l.1.2.1 l.1.2.2.2.2.2.2.2.1 l.2.1.1 l.2.1.2.1 l.2.2.1.2.1 l.2.2.1.2.2.2.1 l.2.2.1.2.2.2.2.1 l.2.2.1.2.2.2.2.2.1 l.2.2.2.1 l.2.2.2.2.1 l.2.2.2.2.2.1 l.2.2.2.2.2.2.1.2.1 l.2.2.2.2.2.2.1.2.2.2.1 l.2.2.2.2.2.2.1.2.2.2.2.1 l.2.2.2.2.2.2.1.2.2.2.2.2.1 l.2.2.2.2.2.2.2.1 l.2.2.2.2.2.2.2.2.1 l.2.2.2.2.2.2.2.2.2.1) (ou := ouC16) (spS_ok (spS_ok (spS_ok sp1_ok))) hc16 h
theorem hf10 (R : Type) (l : T10) (s : (Int × (Int × (Bool × (Int × ((List Int) × ((List Int) × ((List Int) × (Int × (Bool × (Int × ((List Int) × ((List Int) × (List Int)))))))))))))) (K : Ex → St U → Option R) : codeA E (pick (loopsOf body) 10) ⟨p10.mkL ((((), (l.1.2.1, ((), ((), ((), ((), ((), (s.1, ((), ()))))))))), ((l.2.1.1, (l.2.1.2.1, ())), (((), (l.2.2.1.2.1, ((), (s.2.1, (s.2.2.1, (s.2.2.2.1, ((), ()))))))), (s.2.2.2.2.1, (s.2.2.2.2.2.1, (s.2.2.2.2.2.2.1, (((), (l.2.2.2.2.2.2.1.2.1, ((), (s.2.2.2.2.2.2.2.1, (s.2.2.2.2.2.2.2.2.1, (s.2.2.2.2.2.2.2.2.2.1, ((), ()))))))), (s.2.2.2.2.2.2.2.2.2.2.1, (s.2.2.2.2.2.2.2.2.2.2.2.1, (s.2.2.2.2.2.2.2.2.2.2.2.2, ())))))))))) : T10).1, q10.mkH ((((), (l.1.2.1, ((), ((), ((), ((), ((), (s.1, ((), ()))))))))), ((l.2.1.1, (l.2.1.2.1, ())), (((), (l.2.2.1.2.1, ((), (s.2.1, (s.2.2.1, (s.2.2.2.1, ((), ()))))))), (s.2.2.2.2.1, (s.2.2.2.2.2.1, (s.2.2.2.2.2.2.1, (((), (l.2.2.2.2.2.2.1.2.1, ((), (s.2.2.2.2.2.2.2.1, (s.2.2.2.2.2.2.2.2.1, (s.2.2.2.2.2.2.2.2.2.1, ((), ()))))))), (s.2.2.2.2.2.2.2.2.2.2.1, (s.2.2.2.2.2.2.2.2.2.2.2.1, (s.2.2.2.2.2.2.2.2.2.2.2.2, ())))))))))) : T10).2, 0⟩ (roundK E (pick (loopsOf body) 10) K) =
  (l10 l.1.2.1 l.2.1.1 l.2.1.2.1 l.2.2.1.2.1 l.2.2.2.2.2.2.1.2.1 s.1 s.2.1 s.2.2.1 s.2.2.2.1 s.2.2.2.2.1 s.2.2.2.2.2.1 s.2.2.2.2.2.2.1 s.2.2.2.2.2.2.2.1 s.2.2.2.2.2.2.2.2.1 s.2.2.2.2.2.2.2.2.2.1 s.2.2.2.2.2.2.2.2.2.2.1 s.2.2.2.2.2.2.2.2.2.2.2.1 s.2.2.2.2.2.2.2.2.2.2.2.2).runK (lpK K (fun s => ⟨p10.mkL ((((), (l.1.2.1, ((), ((), ((), ((), ((), (s.1, ((), ()))))))))), ((l.2.1.1, (l.2.1.2.1, ())), (((), (l.2.2.1.2.1, ((), (s.2.1, (s.2.2.1, (s.2.2.2.1, ((), ()))))))), (s.2.2.2.2.1, (s.2.2.2.2.2.1, (s.2.2.2.2.2.2.1, (((), (l.2.2.2.2.2.2.1.2.1, ((), (s.2.2.2.2.2.2.2.1, (s.2.2.2.2.2.2.2.2.1, (s.2.2.2.2.2.2.2.2.2.1, ((), ()))))))), (s.2.2.2.2.2.2.2.2.2.2.1, (s.2.2.2.2.2.2.2.2.2.2.2.1, (s.2.2.2.2.2.2.2.2.2.2.2.2, ())))))))))) : T10).1, q10.mkH ((((), (l.1.2.1, ((), ((), ((), ((), ((), (s.1, ((), ()))))))))), ((l.2.1.1, (l.2.1.2.1, ())), (((), (l.2.2.1.2.1, ((), (s.2.1, (s.2.2.1, (s.2.2.2.1, ((), ()))))))), (s.2.2.2.2.1, (s.2.2.2.2.2.1, (s.2.2.2.2.2.2.1, (((), (l.2.2.2.2.2.2.1.2.1, ((), (s.2.2.2.2.2.2.2.1, (s.2.2.2.2.2.2.2.2.1, (s.2.2.2.2.2.2.2.2.2.1, ((), ()))))))), (s.2.2.2.2.2.2.2.2.2.2.1, (s.2.2.2.2.2.2.2.2.2.2.2.1, (s.2.2.2.2.2.2.2.2.2.2.2.2, ())))))))))) : T10).2, 0⟩) (spS (spS sp1)) (ou10 l)) := by kernel_rfl
theorem lk10 (R : Type) (st : St U) (K : Ex → St U → Option R) (r : R) (h : Λ10 R st K = some r) : ∃ n, loopA E (pick (loopsOf body) 10) n st K = some r :=
  lp_ok (U := U) (E := E) (b := pick (loopsOf body) 10) (m := 0) (sp := (spS (spS sp1))) (p := p10) (q := q10) (X := ((Int × (Bool × (Int × ((List Int) × ((List Int) × (List Int)))))) ⊕ ((Bool × (Int × (Bool × (Int × ((List Int) × ((List Int) × (List Int))))))) ⊕ (Bool × (Int × (Bool × (Int × ((List Int) × (List Int))))))))) (S := (Int × (Int × (Bool × (Int × ((List Int) × ((List Int) × ((List Int) × (Int × (Bool × (Int × ((List Int) × ((List Int) × (List Int)))))))))))))) (f := fun (l : T10) s => l10 l.1.2.1 l.2.1.1 l.2.1.2.1 l.2.2.1.2.1 l.2.2.2.2.2.2.1.2.1 s.1 s.2.1 s.2.2.1 s.2.2.2.1 s.2.2.2.2.1 s.2.2.2.2.2.1 s.2.2.2.2.2.2.1 s.2.2.2.2.2.2.2.1 s.2.2.2.2.2.2.2.2.1 s.2.2.2.2.2.2.2.2.2.1 s.2.2.2.2.2.2.2.2.2.2.1 s.2.2.2.2.2.2.2.2.2.2.2.1 s.2.2.2.2.2.2.2.2.2.2.2.2) (hd := fun (l : T10) s => (((), (l.1.2.1, ((), ((), ((), ((), ((), (s.1, ((), ()))))))))), ((l.2.1.1, (l.2.1.2.1, ())), (((), (l.2.2.1.2.1, ((), (s.2.1, (s.2.2.1, (s.2.2.2.1, ((), ()))))))), (s.2.2.2.2.1, (s.2.2.2.2.2.1, (s.2.2.2.2.2.2.1, (((), (l.2.2.2.2.2.2.1.2.1, ((), (s.2.2.2.2.2.2.2.1, (s.2.2.2.2.2.2.2.2.1, (s.2.2.2.2.2.2.2.2.2.1, ((), ()))))))), (s.2.2.2.2.2.2.2.2.2.2.1, (s.2.2.2.2.2.2.2.2.2.2.2.1, (s.2.2.2.2.2.2.2.2.2.2.2.2, ()))))))))))) (s0 := fun (l : T10) => (l.1.2.2.2.2.2.2.2.1, (l.2.2.1.2.2.2.1, (l.2.2.1.2.2.2.2.1, (l.2.2.1.2.2.2.2.2.1, (l.2.2.2.1, (l.2.2.2.2.1, (l.2.2.2.2.2.1, (l.2.2.2.2.2.2.1.2.2.2.1, (l.2.2.2.2.2.2.1.2.2.2.2.1, (l.2.2.2.2.2.2.1.2.2.2.2.2.1, (l.2.2.2.2.2.2.2.1, (l.2.2.2.2.2.2.2.2.1, l.2.2.2.2.2.2.2.2.2.1))))))))))))) (ou := ou10)
    (fun l => rfl) (fun l x => by repeat' (first | rfl | (cases x with | inl => rfl | inr x => ?_))) (spS_ok (spS_ok sp1_ok)) hf10 h
theorem hk (R : Type) (l : TA) (K : AV U → Hp U → Option R) : funcA E Try.f8 [] R (pA.mkL l.1) (pH.mkH l.2) K = (t l.1.1.1 l.1.1.2.1 l.1.2.1).runK fun y => K (v l y) (hh l y) := by kernel_rfl
theorem okF : SoundF Try.prog cc 8 (funcA E Try.f8 []) :=
  funcA_ok (E := E) P_mixed (E0_ok.with Γ Λ CT D ro) (gam_of (all_cons ⟨law07_great.ok, ⟨Try.f30, Try.func30, by kernel_rfl, by kernel_rfl⟩⟩ (all_cons ⟨flash_New.ok, ⟨Try.f32, Try.func32, by kernel_rfl, by kernel_rfl⟩⟩ (all_cons ⟨ref07_New.ok, ⟨Try.f47, Try.func47, by kernel_rfl, by kernel_rfl⟩⟩ (all_cons ⟨law07_do_v2.ok, ⟨Try.f33, Try.func33, by kernel_rfl, by kernel_rfl⟩⟩ (all_cons ⟨law07_told_v2.ok, ⟨Try.f50, Try.func50, by kernel_rfl, by kernel_rfl⟩⟩ (all_cons ⟨(orA_ok flash_Flash_Gone_v2.ok flash_Flash_Gone.ok), ⟨Try.f35, Try.func35, by kernel_rfl, by kernel_rfl⟩⟩ (all_cons ⟨(orA_ok flash_Flash_Writes.ok flash_Flash_Writes_v2.ok), ⟨Try.f36, Try.func36, by kernel_rfl, by kernel_rfl⟩⟩ (all_cons ⟨(orA_ok flash_Flash_Wear_v2.ok flash_Flash_Wear.ok), ⟨Try.f51, Try.func51, by kernel_rfl, by kernel_rfl⟩⟩ (all_cons ⟨law07_wear_v2.ok, ⟨Try.f52, Try.func52, by kernel_rfl, by kernel_rfl⟩⟩ (all_cons ⟨(orA_ok flash_Flash_Words.ok flash_Flash_Words_v2.ok), ⟨Try.f34, Try.func34, by kernel_rfl, by kernel_rfl⟩⟩ (all_cons ⟨ref01_Same.ok, ⟨Try.f22, Try.func22, by kernel_rfl, by kernel_rfl⟩⟩ (all_cons ⟨flash_Flash_Copy.ok, ⟨Try.f48, Try.func48, by kernel_rfl, by kernel_rfl⟩⟩ (all_cons ⟨flash_Flash_Erase_v2.ok, ⟨Try.f49, Try.func49, by kernel_rfl, by kernel_rfl⟩⟩ (all_cons ⟨flash_Flash_Size_v2.ok, ⟨Try.f53, Try.func53, by kernel_rfl, by kernel_rfl⟩⟩ (all_cons ⟨law07_awake.ok, ⟨Try.f31, Try.func31, by kernel_rfl, by kernel_rfl⟩⟩ all_nil))))))))))))))) (all_cons (no_keep (by kernel_rfl)) (all_cons (no_keep (by kernel_rfl)) (all_cons (no_keep (by kernel_rfl)) (all_cons (no_keep (by kernel_rfl)) (all_cons (no_keep (by kernel_rfl)) (all_cons (fun _ => (orA_keep flash_Flash_Gone_v2.keep flash_Flash_Gone.keep)) (all_cons (fun _ => (orA_keep flash_Flash_Writes.keep flash_Flash_Writes_v2.keep)) (all_cons (fun _ => (orA_keep flash_Flash_Wear_v2.keep flash_Flash_Wear.keep)) (all_cons (fun _ => law07_wear_v2.keep) (all_cons (fun _ => (orA_keep flash_Flash_Words.keep flash_Flash_Words_v2.keep)) (all_cons (no_keep (by kernel_rfl)) (all_cons (fun _ => flash_Flash_Copy.keep) (all_cons (no_keep (by kernel_rfl)) (all_cons (fun _ => flash_Flash_Size_v2.keep) (all_cons (no_keep (by kernel_rfl)) all_nil)))))))))))))))) Try.func8 (c := body) (by kernel_rfl)
    (just_by (by kernel_rfl) (by kernel_rfl) (all_cons lk10 all_nil) (all_cons ck16 all_nil)) []
theorem ok : SoundF Try.prog cc 8 A :=
  mkA_ok (E := E) (p := pA) (q := pH) (t := fun (l : TA) => t l.1.1.1 l.1.1.2.1 l.1.2.1) sp1_ok hk okF
theorem keep : KeepA A := mkA_keep (U := U) sp1_ok (fun (l : TA) y => ⟨(hh l y).drop 0, by kernel_rfl⟩)
end law07_FlashPlays

end Go.Proofs.Ytpidbpmkogbdeaa.Va
