/- The functions of package law07FlashOnly, as plain functions, and that the program computes them. Printed by a program of this work out of the evaluator. -/
import Derived.Test.YtpidbpmkogbdeaaEn
import Derived.Tactics
import Derived.Test.YtpidbpmkogbdeaaFflash
import Derived.Test.YtpidbpmkogbdeaaFlaw07
import Derived.Test.YtpidbpmkogbdeaaFref01
namespace Go.Proofs.Ytpidbpmkogbdeaa.Va
open Go
set_option linter.unusedVariables false
set_option maxRecDepth 100000

/-! instar/instarlaw07.FlashOnly -/
namespace law07_FlashOnly
abbrev TA : Type := (((List Act7) × ((Int × (Int × (Int × ((List Int) × Unit)))) × Unit)) × Unit)
abbrev T7 : Type := (((List Act7) × (Unit × (Unit × (Unit × (Unit × (Unit × (Int × (Unit × Unit)))))))) × ((Int × (Int × (Int × ((List Int) × Unit)))) × ((Unit × (Int × (Unit × (Int × (Bool × (Int × (Unit × Unit))))))) × ((List Int) × ((List Int) × ((List Int) × Unit))))))
noncomputable def l7 (l_ : (List Act7)) (h0_0 : Int) (h0_1 : Int) (h0_2 : Int) (h0_3 : (List Int)) (h1_1 : Int) (i : Int) (h1_3 : Int) (h1_4 : Bool) (h1_5 : Int) (h2 : (List Int)) (h3 : (List Int)) (h4 : (List Int)) : Tw ((Int × (Int × (Bool × (Int × ((List Int) × ((List Int) × (List Int))))))) ⊕ (Int × (Bool × (Int × ((List Int) × ((List Int) × (List Int))))))) :=
 (.bb (decide (i < (((List.length l_) : Nat) : Int)))
  (.dd (((0 : Int) ≤ i)) inferInstance
   (.opt (l_)[(Int.toNat i)]? fun z5 =>
    (.opt (law07_do_v2.c z5.kind z5.a z5.x z5.masks h1_1 h1_3 h1_4 h1_5 h2 h3 h4) fun z6 =>
     (.sm z6
      (fun z7 => (.ret (.inl ((w64 (i + (1 : Int))), (z7.2.2.1, (z7.2.2.2.1, (z7.2.2.2.2.1, (z7.2.2.2.2.2.1, (z7.2.2.2.2.2.2, h4)))))))))
      (fun z8 => (.sm z8
        (fun z9 => (.ret (.inl ((w64 (i + (1 : Int))), (h1_3, (z9.2.2.1, (z9.2.2.2, (h2, (h3, ([] : List (Int)))))))))))
        (fun z10 => (.ret (.inl ((w64 (i + (1 : Int))), (h1_3, (h1_4, (z10.2.2.1, (h2, (h3, z10.2.2.2))))))))))))))
   .no)
  (.ret (.inr (h1_3, (h1_4, (h1_5, (h2, (h3, h4))))))))
noncomputable def L7 (l_ : (List Act7)) (i : Int) (h0_0 : Int) (h0_1 : Int) (h0_2 : Int) (h0_3 : (List Int)) (h1_1 : Int) (h1_3 : Int) (h1_4 : Bool) (h1_5 : Int) (h2 : (List Int)) (h3 : (List Int)) (h4 : (List Int)) : Option (Int × (Bool × (Int × ((List Int) × ((List Int) × (List Int)))))) := Lp (fun s => (l7 l_ h0_0 h0_1 h0_2 h0_3 h1_1 s.1 s.2.1 s.2.2.1 s.2.2.2.1 s.2.2.2.2.1 s.2.2.2.2.2.1 s.2.2.2.2.2.2).run) (i, (h1_3, (h1_4, (h1_5, (h2, (h3, h4))))))
def p7 : Pt := (.cs (.sl 20) (.cs (.bots 2) (.cs (.ptr 0 0) (.cs (.bots 1) (.cs (.ptr 1 0) (.cs (.bots 1) (.cs (.int .i64) (.cs (.bots 211) .nl))))))))
def q7 : Pt := (.cs (.var (.cs (.int .i64) (.cs (.int .i64) (.cs (.int .u32) (.cs (.sl 3) .nl))))) (.cs (.var (.cs (.own 2) (.cs (.int .i64) (.cs (.own 3) (.cs (.int .i64) (.cs .bool (.cs (.int .i64) (.cs (.own 4) .nl)))))))) (.cs (.row 3 true) (.cs (.row 1 true) (.cs (.row 3 true) .nl)))))
def ou7 (l : T7) (y : (Int × (Bool × (Int × ((List Int) × ((List Int) × (List Int))))))) : Ex × St U := (.exit 0, stOf 219 [(3, .ptr 0 0), (5, .ptr 1 0)] [.var [.im (.int .i64 l.2.1.1), .im (.int .i64 l.2.1.2.1), .im (.int .u32 l.2.1.2.2.1), .im (.slice 3 l.2.1.2.2.2.1)], .var [.own 2, .im (.int .i64 l.2.2.1.2.1), .own 3, .im (.int .i64 y.1), .im (.bool y.2.1), .im (.int .i64 y.2.2.1), .own 4], .row 3 y.2.2.2.1 true, .row 1 y.2.2.2.2.1 true, .row 3 y.2.2.2.2.2 true] 0)
noncomputable def Λ7 : LFun U := mkLp (U := U) p7 q7 0 (X := (Int × (Bool × (Int × ((List Int) × ((List Int) × (List Int))))))) (fun (l : T7) => L7 l.1.1 l.1.2.2.2.2.2.2.1 l.2.1.1 l.2.1.2.1 l.2.1.2.2.1 l.2.1.2.2.2.1 l.2.2.1.2.1 l.2.2.1.2.2.2.1 l.2.2.1.2.2.2.2.1 l.2.2.1.2.2.2.2.2.1 l.2.2.2.1 l.2.2.2.2.1 l.2.2.2.2.2.1) sp1 ou7
abbrev TC26 : Type := ((Unit × (Unit × (Unit × (Unit × (Unit × (Int × (Unit × (Int × (Int × (Bool × (Unit × Unit))))))))))) × ((Int × (Int × (Int × ((List Int) × Unit)))) × ((List Int) × ((List Int) × Unit))))
noncomputable def c26 (told : Int) (wrote : Int) (i : Int) (own : Bool) (h0_0 : Int) (h0_1 : Int) (h0_2 : Int) (h0_3 : (List Int)) (h1 : (List Int)) (h2 : (List Int)) : Tw (Unit ⊕ Bool) :=
 (.bb own
  (.bb (wrote == (1 : Int))
   (.bb (told == (0 : Int))
    (.bb (decide (h0_0 < (2 : Int)))
     (.dd ((((0 : Int) ≤ i) ∧ (i < (((List.length h2) : Nat) : Int)))) inferInstance
      (.opt (h2)[(Int.toNat i)]? fun z27 =>
       (.bb (z27 != h0_2)
        (.ret (.inr false))
        (.bb (h0_0 == (2 : Int))
         (.dd ((((0 : Int) ≤ i) ∧ (i < (((List.length h2) : Nat) : Int)))) inferInstance
          (.opt (h2)[(Int.toNat i)]? fun z28 =>
           (.bb (z28 != (4294967295 : Int))
            (.ret (.inr false))
            (.ret (.inl ()))))
          .no)
         (.ret (.inl ())))))
      .no)
     (.bb (h0_0 == (2 : Int))
      (.dd ((((0 : Int) ≤ i) ∧ (i < (((List.length h2) : Nat) : Int)))) inferInstance
       (.opt (h2)[(Int.toNat i)]? fun z26 =>
        (.bb (z26 != (4294967295 : Int))
         (.ret (.inr false))
         (.ret (.inl ()))))
       .no)
      (.ret (.inl ()))))
    (.ret (.inl ())))
   (.ret (.inl ())))
  (.ret (.inl ())))
noncomputable def C26 (told : Int) (wrote : Int) (i : Int) (own : Bool) (h0_0 : Int) (h0_1 : Int) (h0_2 : Int) (h0_3 : (List Int)) (h1 : (List Int)) (h2 : (List Int)) : Option (Unit ⊕ Bool) := (c26 told wrote i own h0_0 h0_1 h0_2 h0_3 h1 h2).run
def pC26 : Pt := (.cs (.bots 3) (.cs (.ptr 0 0) (.cs (.bots 4) (.cs (.own 1) (.cs (.bots 3) (.cs (.int .i64) (.cs (.own 2) (.cs (.int .i64) (.cs (.int .i64) (.cs .bool (.cs (.bots 202) .nl)))))))))))
def qC26 : Pt := (.cs (.var (.cs (.int .i64) (.cs (.int .i64) (.cs (.int .u32) (.cs (.sl 3) .nl))))) (.cs (.row 3 true) (.cs (.row 3 true) .nl)))
def ouC26 (l : TC26) (y : (Unit ⊕ Bool)) : Ex × St U := (Sum.elim (fun a0 => (.normal, stOf 219 [(3, .ptr 0 0), (8, .own 1), (12, .im (.int .i64 l.1.2.2.2.2.2.1)), (13, .own 2), (14, .im (.int .i64 l.1.2.2.2.2.2.2.2.1)), (15, .im (.int .i64 l.1.2.2.2.2.2.2.2.2.1))] [.var [.im (.int .i64 l.2.1.1), .im (.int .i64 l.2.1.2.1), .im (.int .u32 l.2.1.2.2.1), .im (.slice 3 l.2.1.2.2.2.1)], .row 3 l.2.2.1 true, .row 3 l.2.2.2.1 true] 0)) (fun b0 => (.ret, stOf 219 [(3, .ptr 0 0), (4, .im (.bool b0)), (8, .own 1), (12, .im (.int .i64 l.1.2.2.2.2.2.1)), (13, .own 2), (14, .im (.int .i64 l.1.2.2.2.2.2.2.2.1)), (15, .im (.int .i64 l.1.2.2.2.2.2.2.2.2.1))] [.var [.im (.int .i64 l.2.1.1), .im (.int .i64 l.2.1.2.1), .im (.int .u32 l.2.1.2.2.1), .im (.slice 3 l.2.1.2.2.2.1)], .row 3 l.2.2.1 true, .row 3 l.2.2.2.1 true] 0)) y)
noncomputable def ΛC26 : LFun U := mkLp (U := U) pC26 qC26 0 (X := (Unit ⊕ Bool)) (fun (l : TC26) => C26 l.1.2.2.2.2.2.1 l.1.2.2.2.2.2.2.2.1 l.1.2.2.2.2.2.2.2.2.1 l.1.2.2.2.2.2.2.2.2.2.1 l.2.1.1 l.2.1.2.1 l.2.1.2.2.1 l.2.1.2.2.2.1 l.2.2.1 l.2.2.2.1) (spS sp1) ouC26
abbrev TC22 : Type := ((Unit × (Unit × (Unit × (Unit × (Unit × (Int × (Unit × (Int × (Int × (Bool × (Unit × Unit))))))))))) × ((Int × (Int × (Int × ((List Int) × Unit)))) × ((List Int) × ((List Int) × Unit))))
noncomputable def c22 (told : Int) (wrote : Int) (i : Int) (own : Bool) (h0_0 : Int) (h0_1 : Int) (h0_2 : Int) (h0_3 : (List Int)) (h1 : (List Int)) (h2 : (List Int)) : Tw (Unit ⊕ Bool) :=
 (.dd ((((0 : Int) ≤ i) ∧ (i < (((List.length h1) : Nat) : Int)))) inferInstance
  (.opt (h1)[(Int.toNat i)]? fun z20 =>
   (.dd ((((0 : Int) ≤ i) ∧ (i < (((List.length h2) : Nat) : Int)))) inferInstance
    (.opt (h2)[(Int.toNat i)]? fun z21 =>
     (.opt (ref01_Bits.c z20 z21 (0 : Int) (0 : Int)) fun z22 =>
      (.dd ((((0 : Int) ≤ i) ∧ (i < (((List.length h2) : Nat) : Int)))) inferInstance
       (.opt (h2)[(Int.toNat i)]? fun z23 =>
        (.dd ((((0 : Int) ≤ i) ∧ (i < (((List.length h1) : Nat) : Int)))) inferInstance
         (.opt (h1)[(Int.toNat i)]? fun z24 =>
          (.opt (ref01_Bits.c z23 z24 (0 : Int) (0 : Int)) fun z25 =>
           (.bb (z22 != (0 : Int))
            (.bb (!own)
             (.ret (.inr false))
             (.bb (wrote == (0 : Int))
              (.ret (.inr false))
              (.bb (z25 != (0 : Int))
               (.bb (decide (h0_0 < (2 : Int)))
                (.ret (.inr false))
                (.bb (z22 != (0 : Int))
                 (.bb (h0_0 == (2 : Int))
                  (.ret (.inr false))
                  (.opt (C26 told wrote i own h0_0 h0_1 h0_2 h0_3 h1 h2) fun z62 =>
                   (.sm z62
                    (fun z63 => (.ret (.inl ())))
                    (fun z64 => (.ret (.inr z64))))))
                 (.opt (C26 told wrote i own h0_0 h0_1 h0_2 h0_3 h1 h2) fun z59 =>
                  (.sm z59
                   (fun z60 => (.ret (.inl ())))
                   (fun z61 => (.ret (.inr z61)))))))
               (.bb (z22 != (0 : Int))
                (.bb (h0_0 == (2 : Int))
                 (.ret (.inr false))
                 (.opt (C26 told wrote i own h0_0 h0_1 h0_2 h0_3 h1 h2) fun z56 =>
                  (.sm z56
                   (fun z57 => (.ret (.inl ())))
                   (fun z58 => (.ret (.inr z58))))))
                (.opt (C26 told wrote i own h0_0 h0_1 h0_2 h0_3 h1 h2) fun z53 =>
                 (.sm z53
                  (fun z54 => (.ret (.inl ())))
                  (fun z55 => (.ret (.inr z55)))))))))
            (.bb (z25 != (0 : Int))
             (.bb (!own)
              (.ret (.inr false))
              (.bb (wrote == (0 : Int))
               (.ret (.inr false))
               (.bb (z25 != (0 : Int))
                (.bb (decide (h0_0 < (2 : Int)))
                 (.ret (.inr false))
                 (.bb (z22 != (0 : Int))
                  (.bb (h0_0 == (2 : Int))
                   (.ret (.inr false))
                   (.opt (C26 told wrote i own h0_0 h0_1 h0_2 h0_3 h1 h2) fun z50 =>
                    (.sm z50
                     (fun z51 => (.ret (.inl ())))
                     (fun z52 => (.ret (.inr z52))))))
                  (.opt (C26 told wrote i own h0_0 h0_1 h0_2 h0_3 h1 h2) fun z47 =>
                   (.sm z47
                    (fun z48 => (.ret (.inl ())))
                    (fun z49 => (.ret (.inr z49)))))))
                (.bb (z22 != (0 : Int))
                 (.bb (h0_0 == (2 : Int))
                  (.ret (.inr false))
                  (.opt (C26 told wrote i own h0_0 h0_1 h0_2 h0_3 h1 h2) fun z44 =>
                   (.sm z44
                    (fun z45 => (.ret (.inl ())))
                    (fun z46 => (.ret (.inr z46))))))
                 (.opt (C26 told wrote i own h0_0 h0_1 h0_2 h0_3 h1 h2) fun z41 =>
                  (.sm z41
                   (fun z42 => (.ret (.inl ())))
                   (fun z43 => (.ret (.inr z43)))))))))
             (.bb (z25 != (0 : Int))
              (.bb (decide (h0_0 < (2 : Int)))
               (.ret (.inr false))
               (.bb (z22 != (0 : Int))
                (.bb (h0_0 == (2 : Int))
                 (.ret (.inr false))
                 (.opt (C26 told wrote i own h0_0 h0_1 h0_2 h0_3 h1 h2) fun z38 =>
                  (.sm z38
                   (fun z39 => (.ret (.inl ())))
                   (fun z40 => (.ret (.inr z40))))))
                (.opt (C26 told wrote i own h0_0 h0_1 h0_2 h0_3 h1 h2) fun z35 =>
                 (.sm z35
                  (fun z36 => (.ret (.inl ())))
                  (fun z37 => (.ret (.inr z37)))))))
              (.bb (z22 != (0 : Int))
               (.bb (h0_0 == (2 : Int))
                (.ret (.inr false))
                (.opt (C26 told wrote i own h0_0 h0_1 h0_2 h0_3 h1 h2) fun z32 =>
                 (.sm z32
                  (fun z33 => (.ret (.inl ())))
                  (fun z34 => (.ret (.inr z34))))))
               (.opt (C26 told wrote i own h0_0 h0_1 h0_2 h0_3 h1 h2) fun z29 =>
                (.sm z29
                 (fun z30 => (.ret (.inl ())))
                 (fun z31 => (.ret (.inr z31)))))))))))
         .no))
       .no)))
    .no))
  .no)
noncomputable def C22 (told : Int) (wrote : Int) (i : Int) (own : Bool) (h0_0 : Int) (h0_1 : Int) (h0_2 : Int) (h0_3 : (List Int)) (h1 : (List Int)) (h2 : (List Int)) : Option (Unit ⊕ Bool) := (c22 told wrote i own h0_0 h0_1 h0_2 h0_3 h1 h2).run
def pC22 : Pt := (.cs (.bots 3) (.cs (.ptr 0 0) (.cs (.bots 4) (.cs (.own 1) (.cs (.bots 3) (.cs (.int .i64) (.cs (.own 2) (.cs (.int .i64) (.cs (.int .i64) (.cs .bool (.cs (.bots 202) .nl)))))))))))
def qC22 : Pt := (.cs (.var (.cs (.int .i64) (.cs (.int .i64) (.cs (.int .u32) (.cs (.sl 3) .nl))))) (.cs (.row 3 true) (.cs (.row 3 true) .nl)))
def ouC22 (l : TC22) (y : (Unit ⊕ Bool)) : Ex × St U := (Sum.elim (fun a0 => (.normal, stOf 219 [(3, .ptr 0 0), (8, .own 1), (12, .im (.int .i64 l.1.2.2.2.2.2.1)), (13, .own 2), (14, .im (.int .i64 l.1.2.2.2.2.2.2.2.1)), (15, .im (.int .i64 l.1.2.2.2.2.2.2.2.2.1))] [.var [.im (.int .i64 l.2.1.1), .im (.int .i64 l.2.1.2.1), .im (.int .u32 l.2.1.2.2.1), .im (.slice 3 l.2.1.2.2.2.1)], .row 3 l.2.2.1 true, .row 3 l.2.2.2.1 true] 0)) (fun b0 => (.ret, stOf 219 [(3, .ptr 0 0), (4, .im (.bool b0)), (8, .own 1), (12, .im (.int .i64 l.1.2.2.2.2.2.1)), (13, .own 2), (14, .im (.int .i64 l.1.2.2.2.2.2.2.2.1)), (15, .im (.int .i64 l.1.2.2.2.2.2.2.2.2.1))] [.var [.im (.int .i64 l.2.1.1), .im (.int .i64 l.2.1.2.1), .im (.int .u32 l.2.1.2.2.1), .im (.slice 3 l.2.1.2.2.2.1)], .row 3 l.2.2.1 true, .row 3 l.2.2.2.1 true] 0)) y)
noncomputable def ΛC22 : LFun U := mkLp (U := U) pC22 qC22 0 (X := (Unit ⊕ Bool)) (fun (l : TC22) => C22 l.1.2.2.2.2.2.1 l.1.2.2.2.2.2.2.2.1 l.1.2.2.2.2.2.2.2.2.1 l.1.2.2.2.2.2.2.2.2.2.1 l.2.1.1 l.2.1.2.1 l.2.1.2.2.1 l.2.1.2.2.2.1 l.2.2.1 l.2.2.2.1) (spS sp1) ouC22
abbrev T19 : Type := ((Unit × (Unit × (Unit × (Unit × (Unit × (Int × (Unit × (Int × (Int × (Unit × Unit)))))))))) × ((Int × (Int × (Int × ((List Int) × Unit)))) × ((List Int) × ((List Int) × Unit))))
noncomputable def l19 (told : Int) (wrote : Int) (h0_0 : Int) (h0_1 : Int) (h0_2 : Int) (h0_3 : (List Int)) (h1 : (List Int)) (h2 : (List Int)) (i : Int) : Tw (Int ⊕ (Unit ⊕ Bool)) :=
 (.bb (decide (i < (20 : Int)))
  (.bb (decide (h0_0 < (2 : Int)))
   (.bb (i == h0_1)
    (.opt (C22 told wrote i true h0_0 h0_1 h0_2 h0_3 h1 h2) fun z77 =>
     (.sm z77
      (fun z78 => (.ret (.inl (w64 (i + (1 : Int))))))
      (fun z79 => (.ret (.inr (.inr z79))))))
    (.bb (h0_0 == (2 : Int))
     (.opt (C22 told wrote i ((w64 (Int.tdiv i (5 : Int))) == h0_1) h0_0 h0_1 h0_2 h0_3 h1 h2) fun z74 =>
      (.sm z74
       (fun z75 => (.ret (.inl (w64 (i + (1 : Int))))))
       (fun z76 => (.ret (.inr (.inr z76))))))
     (.opt (C22 told wrote i false h0_0 h0_1 h0_2 h0_3 h1 h2) fun z71 =>
      (.sm z71
       (fun z72 => (.ret (.inl (w64 (i + (1 : Int))))))
       (fun z73 => (.ret (.inr (.inr z73))))))))
   (.bb (h0_0 == (2 : Int))
    (.opt (C22 told wrote i ((w64 (Int.tdiv i (5 : Int))) == h0_1) h0_0 h0_1 h0_2 h0_3 h1 h2) fun z68 =>
     (.sm z68
      (fun z69 => (.ret (.inl (w64 (i + (1 : Int))))))
      (fun z70 => (.ret (.inr (.inr z70))))))
    (.opt (C22 told wrote i false h0_0 h0_1 h0_2 h0_3 h1 h2) fun z65 =>
     (.sm z65
      (fun z66 => (.ret (.inl (w64 (i + (1 : Int))))))
      (fun z67 => (.ret (.inr (.inr z67))))))))
  (.ret (.inr (.inl ()))))
noncomputable def L19 (told : Int) (wrote : Int) (i : Int) (h0_0 : Int) (h0_1 : Int) (h0_2 : Int) (h0_3 : (List Int)) (h1 : (List Int)) (h2 : (List Int)) : Option (Unit ⊕ Bool) := Lp (fun s => (l19 told wrote h0_0 h0_1 h0_2 h0_3 h1 h2 s).run) i
def p19 : Pt := (.cs (.bots 3) (.cs (.ptr 0 0) (.cs (.bots 4) (.cs (.own 1) (.cs (.bots 3) (.cs (.int .i64) (.cs (.own 2) (.cs (.int .i64) (.cs (.int .i64) (.cs (.bots 203) .nl))))))))))
def q19 : Pt := (.cs (.var (.cs (.int .i64) (.cs (.int .i64) (.cs (.int .u32) (.cs (.sl 3) .nl))))) (.cs (.row 3 true) (.cs (.row 3 true) .nl)))
def ou19 (l : T19) (y : (Unit ⊕ Bool)) : Ex × St U := (Sum.elim (fun a0 => (.exit 2, stOf 219 [] [] 0)) (fun b0 => (.ret, stOf 219 [(4, .im (.bool b0))] [] 0)) y)
noncomputable def Λ19 : LFun U := mkLp (U := U) p19 q19 0 (X := (Unit ⊕ Bool)) (fun (l : T19) => L19 l.1.2.2.2.2.2.1 l.1.2.2.2.2.2.2.2.1 l.1.2.2.2.2.2.2.2.2.1 l.2.1.1 l.2.1.2.1 l.2.1.2.2.1 l.2.1.2.2.2.1 l.2.2.1 l.2.2.2.1) (spS sp1) ou19
abbrev TC18 : Type := ((Unit × (Unit × (Unit × (Unit × (Unit × (Int × (Unit × (Int × (Unit × Unit))))))))) × ((Int × (Int × (Int × ((List Int) × Unit)))) × ((List Int) × ((List Int) × Unit))))
noncomputable def c18 (told : Int) (wrote : Int) (h0_0 : Int) (h0_1 : Int) (h0_2 : Int) (h0_3 : (List Int)) (h1 : (List Int)) (h2 : (List Int)) : Tw Bool :=
 (.opt (L19 told wrote (0 : Int) h0_0 h0_1 h0_2 h0_3 h1 h2) fun z80 =>
  (.sm z80
   (fun z81 => (.opt (law07_awake.c) fun z83 =>
     (.ret z83)))
   (fun z82 => (.ret z82))))
noncomputable def C18 (told : Int) (wrote : Int) (h0_0 : Int) (h0_1 : Int) (h0_2 : Int) (h0_3 : (List Int)) (h1 : (List Int)) (h2 : (List Int)) : Option Bool := (c18 told wrote h0_0 h0_1 h0_2 h0_3 h1 h2).run
def pC18 : Pt := (.cs (.bots 3) (.cs (.ptr 0 0) (.cs (.bots 4) (.cs (.own 1) (.cs (.bots 3) (.cs (.int .i64) (.cs (.own 2) (.cs (.int .i64) (.cs (.bots 204) .nl)))))))))
def qC18 : Pt := (.cs (.var (.cs (.int .i64) (.cs (.int .i64) (.cs (.int .u32) (.cs (.sl 3) .nl))))) (.cs (.row 3 true) (.cs (.row 3 true) .nl)))
def ouC18 (l : TC18) (y : Bool) : Ex × St U := (.ret, stOf 219 [(4, .im (.bool y))] [] 0)
noncomputable def ΛC18 : LFun U := mkLp (U := U) pC18 qC18 0 (X := Bool) (fun (l : TC18) => C18 l.1.2.2.2.2.2.1 l.1.2.2.2.2.2.2.2.1 l.2.1.1 l.2.1.2.1 l.2.1.2.2.1 l.2.1.2.2.2.1 l.2.2.1 l.2.2.2.1) sp1 ouC18
noncomputable def t (l_ : (List Act7)) (a_0 : Int) (a_1 : Int) (a_2 : Int) (a_3 : (List Int)) : Tw Bool :=
 (.opt (law07_great.c l_) fun z1 =>
  (.bb z1
   (.opt (law07_awake.c) fun z127 =>
    (.ret z127))
   (.bb (decide ((((List.length a_3) : Nat) : Int) > (100 : Int)))
    (.opt (law07_awake.c) fun z126 =>
     (.ret z126))
    (.opt (flash_New.c (4 : Int) (5 : Int)) fun z2 =>
     (.sm z2
      (fun z3 => (.bb (z3.1 != (0 : Int))
        (.ret false)
        (.opt (L7 l_ (0 : Int) a_0 a_1 a_2 a_3 (5 : Int) z3.2.1 z3.2.2.1 z3.2.2.2.1 z3.2.2.2.2.1 z3.2.2.2.2.2 ([] : List (Int))) fun z11 =>
         (.opt (flash_Flash_Words.c (5 : Int) z11.1 z11.2.1 z11.2.2.1 z11.2.2.2.1 z11.2.2.2.2.1 z11.2.2.2.2.2) fun z12 =>
          (.opt (flash_Flash_Gone_v2.c (5 : Int) z11.1 z11.2.1 z11.2.2.1 z11.2.2.2.1 z11.2.2.2.2.1 z11.2.2.2.2.2) fun z13 =>
           (.opt (flash_Flash_Writes.c (5 : Int) z11.1 z11.2.1 z11.2.2.1 z11.2.2.2.1 z11.2.2.2.2.1 z11.2.2.2.2.2) fun z14 =>
            (.opt (law07_do_v2.c a_0 a_1 a_2 a_3 (5 : Int) z11.1 z11.2.1 z11.2.2.1 z11.2.2.2.1 z11.2.2.2.2.1 z11.2.2.2.2.2) fun z15 =>
             (.sm z15
              (fun z16 => (.opt (flash_Flash_Words.c (5 : Int) z16.2.2.1 z16.2.2.2.1 z16.2.2.2.2.1 z16.2.2.2.2.2.1 z16.2.2.2.2.2.2 z11.2.2.2.2.2) fun z18 =>
                (.bb ((((List.length z12) : Nat) : Int) != (20 : Int))
                 (.ret false)
                 (.bb ((((List.length z18) : Nat) : Int) != (20 : Int))
                  (.ret false)
                  (.opt (flash_Flash_Writes.c (5 : Int) z16.2.2.1 z16.2.2.2.1 z16.2.2.2.2.1 z16.2.2.2.2.2.1 z16.2.2.2.2.2.2 z11.2.2.2.2.2) fun z19 =>
                   (.bb (decide ((w64 (z16.2.2.1 - z11.1)) < (0 : Int)))
                    (.ret false)
                    (.bb (decide ((w64 (z16.2.2.1 - z11.1)) > (1 : Int)))
                     (.ret false)
                     (.bb z11.2.1
                      (.bb (decide ((w64 (z16.2.2.1 - z11.1)) > (0 : Int)))
                       (.ret false)
                       (.bb (decide (a_0 > (2 : Int)))
                        (.bb (decide ((w64 (z16.2.2.1 - z11.1)) > (0 : Int)))
                         (.ret false)
                         (.bb ((w64 (z16.2.2.1 - z11.1)) == (1 : Int))
                          (.bb (z16.2.1 != (0 : Int))
                           (.bb (z16.2.1 != (10 : Int))
                            (.ret false)
                            (.opt (C18 z16.2.1 (w64 (z16.2.2.1 - z11.1)) a_0 a_1 a_2 a_3 z12 z18) fun z95 =>
                             (.ret z95)))
                           (.opt (C18 z16.2.1 (w64 (z16.2.2.1 - z11.1)) a_0 a_1 a_2 a_3 z12 z18) fun z94 =>
                            (.ret z94)))
                          (.opt (C18 z16.2.1 (w64 (z16.2.2.1 - z11.1)) a_0 a_1 a_2 a_3 z12 z18) fun z93 =>
                           (.ret z93))))
                        (.bb ((w64 (z16.2.2.1 - z11.1)) == (1 : Int))
                         (.bb (z16.2.1 != (0 : Int))
                          (.bb (z16.2.1 != (10 : Int))
                           (.ret false)
                           (.opt (C18 z16.2.1 (w64 (z16.2.2.1 - z11.1)) a_0 a_1 a_2 a_3 z12 z18) fun z92 =>
                            (.ret z92)))
                          (.opt (C18 z16.2.1 (w64 (z16.2.2.1 - z11.1)) a_0 a_1 a_2 a_3 z12 z18) fun z91 =>
                           (.ret z91)))
                         (.opt (C18 z16.2.1 (w64 (z16.2.2.1 - z11.1)) a_0 a_1 a_2 a_3 z12 z18) fun z90 =>
                          (.ret z90)))))
                      (.bb (decide (a_0 > (2 : Int)))
                       (.bb (decide ((w64 (z16.2.2.1 - z11.1)) > (0 : Int)))
                        (.ret false)
                        (.bb ((w64 (z16.2.2.1 - z11.1)) == (1 : Int))
                         (.bb (z16.2.1 != (0 : Int))
                          (.bb (z16.2.1 != (10 : Int))
                           (.ret false)
                           (.opt (C18 z16.2.1 (w64 (z16.2.2.1 - z11.1)) a_0 a_1 a_2 a_3 z12 z18) fun z89 =>
                            (.ret z89)))
                          (.opt (C18 z16.2.1 (w64 (z16.2.2.1 - z11.1)) a_0 a_1 a_2 a_3 z12 z18) fun z88 =>
                           (.ret z88)))
                         (.opt (C18 z16.2.1 (w64 (z16.2.2.1 - z11.1)) a_0 a_1 a_2 a_3 z12 z18) fun z87 =>
                          (.ret z87))))
                       (.bb ((w64 (z16.2.2.1 - z11.1)) == (1 : Int))
                        (.bb (z16.2.1 != (0 : Int))
                         (.bb (z16.2.1 != (10 : Int))
                          (.ret false)
                          (.opt (C18 z16.2.1 (w64 (z16.2.2.1 - z11.1)) a_0 a_1 a_2 a_3 z12 z18) fun z86 =>
                           (.ret z86)))
                         (.opt (C18 z16.2.1 (w64 (z16.2.2.1 - z11.1)) a_0 a_1 a_2 a_3 z12 z18) fun z85 =>
                          (.ret z85)))
                        (.opt (C18 z16.2.1 (w64 (z16.2.2.1 - z11.1)) a_0 a_1 a_2 a_3 z12 z18) fun z84 =>
                         (.ret z84))))))))))))
              (fun z17 => (.sm z17
                (fun z96 => (.opt (flash_Flash_Words_v2.c (5 : Int) z11.1 z96.2.2.1 z96.2.2.2 z11.2.2.2.1 z11.2.2.2.2.1) fun z98 =>
                  (.bb ((((List.length z12) : Nat) : Int) != (20 : Int))
                   (.ret false)
                   (.bb ((((List.length z98) : Nat) : Int) != (20 : Int))
                    (.ret false)
                    (.opt (flash_Flash_Writes_v2.c (5 : Int) z11.1 z96.2.2.1 z96.2.2.2 z11.2.2.2.1 z11.2.2.2.2.1) fun z99 =>
                     (.bb (decide ((w64 (z11.1 - z11.1)) < (0 : Int)))
                      (.ret false)
                      (.bb (decide ((w64 (z11.1 - z11.1)) > (1 : Int)))
                       (.ret false)
                       (.bb z11.2.1
                        (.bb (decide ((w64 (z11.1 - z11.1)) > (0 : Int)))
                         (.ret false)
                         (.bb (decide (a_0 > (2 : Int)))
                          (.bb (decide ((w64 (z11.1 - z11.1)) > (0 : Int)))
                           (.ret false)
                           (.bb ((w64 (z11.1 - z11.1)) == (1 : Int))
                            (.bb (z96.2.1 != (0 : Int))
                             (.bb (z96.2.1 != (10 : Int))
                              (.ret false)
                              (.opt (C18 z96.2.1 (w64 (z11.1 - z11.1)) a_0 a_1 a_2 a_3 z12 z98) fun z111 =>
                               (.ret z111)))
                             (.opt (C18 z96.2.1 (w64 (z11.1 - z11.1)) a_0 a_1 a_2 a_3 z12 z98) fun z110 =>
                              (.ret z110)))
                            (.opt (C18 z96.2.1 (w64 (z11.1 - z11.1)) a_0 a_1 a_2 a_3 z12 z98) fun z109 =>
                             (.ret z109))))
                          (.bb ((w64 (z11.1 - z11.1)) == (1 : Int))
                           (.bb (z96.2.1 != (0 : Int))
                            (.bb (z96.2.1 != (10 : Int))
                             (.ret false)
                             (.opt (C18 z96.2.1 (w64 (z11.1 - z11.1)) a_0 a_1 a_2 a_3 z12 z98) fun z108 =>
                              (.ret z108)))
                            (.opt (C18 z96.2.1 (w64 (z11.1 - z11.1)) a_0 a_1 a_2 a_3 z12 z98) fun z107 =>
                             (.ret z107)))
                           (.opt (C18 z96.2.1 (w64 (z11.1 - z11.1)) a_0 a_1 a_2 a_3 z12 z98) fun z106 =>
                            (.ret z106)))))
                        (.bb (decide (a_0 > (2 : Int)))
                         (.bb (decide ((w64 (z11.1 - z11.1)) > (0 : Int)))
                          (.ret false)
                          (.bb ((w64 (z11.1 - z11.1)) == (1 : Int))
                           (.bb (z96.2.1 != (0 : Int))
                            (.bb (z96.2.1 != (10 : Int))
                             (.ret false)
                             (.opt (C18 z96.2.1 (w64 (z11.1 - z11.1)) a_0 a_1 a_2 a_3 z12 z98) fun z105 =>
                              (.ret z105)))
                            (.opt (C18 z96.2.1 (w64 (z11.1 - z11.1)) a_0 a_1 a_2 a_3 z12 z98) fun z104 =>
                             (.ret z104)))
                           (.opt (C18 z96.2.1 (w64 (z11.1 - z11.1)) a_0 a_1 a_2 a_3 z12 z98) fun z103 =>
                            (.ret z103))))
                         (.bb ((w64 (z11.1 - z11.1)) == (1 : Int))
                          (.bb (z96.2.1 != (0 : Int))
                           (.bb (z96.2.1 != (10 : Int))
                            (.ret false)
                            (.opt (C18 z96.2.1 (w64 (z11.1 - z11.1)) a_0 a_1 a_2 a_3 z12 z98) fun z102 =>
                             (.ret z102)))
                           (.opt (C18 z96.2.1 (w64 (z11.1 - z11.1)) a_0 a_1 a_2 a_3 z12 z98) fun z101 =>
                            (.ret z101)))
                          (.opt (C18 z96.2.1 (w64 (z11.1 - z11.1)) a_0 a_1 a_2 a_3 z12 z98) fun z100 =>
                           (.ret z100))))))))))))
                (fun z97 => (.opt (flash_Flash_Words.c (5 : Int) z11.1 z11.2.1 z97.2.2.1 z11.2.2.2.1 z11.2.2.2.2.1 z97.2.2.2) fun z112 =>
                  (.bb ((((List.length z12) : Nat) : Int) != (20 : Int))
                   (.ret false)
                   (.bb ((((List.length z112) : Nat) : Int) != (20 : Int))
                    (.ret false)
                    (.opt (flash_Flash_Writes.c (5 : Int) z11.1 z11.2.1 z97.2.2.1 z11.2.2.2.1 z11.2.2.2.2.1 z97.2.2.2) fun z113 =>
                     (.bb (decide ((w64 (z11.1 - z11.1)) < (0 : Int)))
                      (.ret false)
                      (.bb (decide ((w64 (z11.1 - z11.1)) > (1 : Int)))
                       (.ret false)
                       (.bb z11.2.1
                        (.bb (decide ((w64 (z11.1 - z11.1)) > (0 : Int)))
                         (.ret false)
                         (.bb (decide (a_0 > (2 : Int)))
                          (.bb (decide ((w64 (z11.1 - z11.1)) > (0 : Int)))
                           (.ret false)
                           (.bb ((w64 (z11.1 - z11.1)) == (1 : Int))
                            (.bb (z97.2.1 != (0 : Int))
                             (.bb (z97.2.1 != (10 : Int))
                              (.ret false)
                              (.opt (C18 z97.2.1 (w64 (z11.1 - z11.1)) a_0 a_1 a_2 a_3 z12 z112) fun z125 =>
                               (.ret z125)))
                             (.opt (C18 z97.2.1 (w64 (z11.1 - z11.1)) a_0 a_1 a_2 a_3 z12 z112) fun z124 =>
                              (.ret z124)))
                            (.opt (C18 z97.2.1 (w64 (z11.1 - z11.1)) a_0 a_1 a_2 a_3 z12 z112) fun z123 =>
                             (.ret z123))))
                          (.bb ((w64 (z11.1 - z11.1)) == (1 : Int))
                           (.bb (z97.2.1 != (0 : Int))
                            (.bb (z97.2.1 != (10 : Int))
                             (.ret false)
                             (.opt (C18 z97.2.1 (w64 (z11.1 - z11.1)) a_0 a_1 a_2 a_3 z12 z112) fun z122 =>
                              (.ret z122)))
                            (.opt (C18 z97.2.1 (w64 (z11.1 - z11.1)) a_0 a_1 a_2 a_3 z12 z112) fun z121 =>
                             (.ret z121)))
                           (.opt (C18 z97.2.1 (w64 (z11.1 - z11.1)) a_0 a_1 a_2 a_3 z12 z112) fun z120 =>
                            (.ret z120)))))
                        (.bb (decide (a_0 > (2 : Int)))
                         (.bb (decide ((w64 (z11.1 - z11.1)) > (0 : Int)))
                          (.ret false)
                          (.bb ((w64 (z11.1 - z11.1)) == (1 : Int))
                           (.bb (z97.2.1 != (0 : Int))
                            (.bb (z97.2.1 != (10 : Int))
                             (.ret false)
                             (.opt (C18 z97.2.1 (w64 (z11.1 - z11.1)) a_0 a_1 a_2 a_3 z12 z112) fun z119 =>
                              (.ret z119)))
                            (.opt (C18 z97.2.1 (w64 (z11.1 - z11.1)) a_0 a_1 a_2 a_3 z12 z112) fun z118 =>
                             (.ret z118)))
                           (.opt (C18 z97.2.1 (w64 (z11.1 - z11.1)) a_0 a_1 a_2 a_3 z12 z112) fun z117 =>
                            (.ret z117))))
                         (.bb ((w64 (z11.1 - z11.1)) == (1 : Int))
                          (.bb (z97.2.1 != (0 : Int))
                           (.bb (z97.2.1 != (10 : Int))
                            (.ret false)
                            (.opt (C18 z97.2.1 (w64 (z11.1 - z11.1)) a_0 a_1 a_2 a_3 z12 z112) fun z116 =>
                             (.ret z116)))
                           (.opt (C18 z97.2.1 (w64 (z11.1 - z11.1)) a_0 a_1 a_2 a_3 z12 z112) fun z115 =>
                            (.ret z115)))
                          (.opt (C18 z97.2.1 (w64 (z11.1 - z11.1)) a_0 a_1 a_2 a_3 z12 z112) fun z114 =>
                           (.ret z114))))))))))))))))))))))
      (fun z4 => (.ret false)))))))
noncomputable def c (l_ : (List Act7)) (a_0 : Int) (a_1 : Int) (a_2 : Int) (a_3 : (List Int)) : Option Bool := (t l_ a_0 a_1 a_2 a_3).run
def pA : Pt := (.cs (.sl 20) (.cs (.agg (.cs (.int .i64) (.cs (.int .i64) (.cs (.int .u32) (.cs (.sl 3) .nl))))) .nl))
def pH : Pt := .nl
def v (l : TA) (y : Bool) : AV U := .im (.bool y)
def hh (l : TA) (y : Bool) : Hp U := []
noncomputable def A : AFun U := mkA (U := U) pA pH (X := Bool) (fun (l : TA) => c l.1.1 l.1.2.1.1 l.1.2.1.2.1 l.1.2.1.2.2.1 l.1.2.1.2.2.2.1) sp1 v hh
noncomputable def body : Code := (Go.Func.body Try.f6).getD .skip
noncomputable def Γ : List (FuncId × AFun U) := [(30, law07_great.A), (32, flash_New.A), (33, law07_do_v2.A), (34, (orA flash_Flash_Words.pA flash_Flash_Words.pH flash_Flash_Words.A flash_Flash_Words_v2.A)), (35, flash_Flash_Gone_v2.A), (36, (orA flash_Flash_Writes.pA flash_Flash_Writes.pH flash_Flash_Writes.A flash_Flash_Writes_v2.A)), (37, ref01_Bits.A), (31, law07_awake.A)]
noncomputable def Λ : List (Nat × LFun U) := [(7, Λ7), (19, Λ19)]
noncomputable def CT : List (Nat × LFun U) := [(26, ΛC26), (22, ΛC22), (18, ΛC18)]
def ro : List FuncId := [34, 35, 36]
def D : Nat → Lv × Lv := dtab [(7, ⟨[7, 0, 5, 3], [(5, [.to 6], .own 3)]⟩, ⟨[4, 3, 5], []⟩), (18, ⟨[13, 3, 12, 14, 8], []⟩, ⟨[4], []⟩), (19, ⟨[15, 13, 3, 12, 14, 8], []⟩, ⟨[4], []⟩), (22, ⟨[13, 3, 12, 14, 8, 15, 16], []⟩, ⟨[13, 3, 12, 14, 8, 15, 4], []⟩), (26, ⟨[13, 3, 12, 14, 8, 15, 16], []⟩, ⟨[13, 3, 12, 14, 8, 15, 4], []⟩)]
noncomputable def E : Env U := { E0 with Γ := Γ, Λ := Λ, C := CT, D := D, ro := ro }
theorem hf7 (R : Type) (l : T7) (s : (Int × (Int × (Bool × (Int × ((List Int) × ((List Int) × (List Int)))))))) (K : Ex → St U → Option R) : codeA E (pick (loopsOf body) 7) ⟨p7.mkL (((l.1.1, ((), ((), ((), ((), ((), (s.1, ((), ())))))))), ((l.2.1.1, (l.2.1.2.1, (l.2.1.2.2.1, (l.2.1.2.2.2.1, ())))), (((), (l.2.2.1.2.1, ((), (s.2.1, (s.2.2.1, (s.2.2.2.1, ((), ()))))))), (s.2.2.2.2.1, (s.2.2.2.2.2.1, (s.2.2.2.2.2.2, ())))))) : T7).1, q7.mkH (((l.1.1, ((), ((), ((), ((), ((), (s.1, ((), ())))))))), ((l.2.1.1, (l.2.1.2.1, (l.2.1.2.2.1, (l.2.1.2.2.2.1, ())))), (((), (l.2.2.1.2.1, ((), (s.2.1, (s.2.2.1, (s.2.2.2.1, ((), ()))))))), (s.2.2.2.2.1, (s.2.2.2.2.2.1, (s.2.2.2.2.2.2, ())))))) : T7).2, 0⟩ (roundK E (pick (loopsOf body) 7) K) =
  (l7 l.1.1 l.2.1.1 l.2.1.2.1 l.2.1.2.2.1 l.2.1.2.2.2.1 l.2.2.1.2.1 s.1 s.2.1 s.2.2.1 s.2.2.2.1 s.2.2.2.2.1 s.2.2.2.2.2.1 s.2.2.2.2.2.2).runK (lpK K (fun s => ⟨p7.mkL (((l.1.1, ((), ((), ((), ((), ((), (s.1, ((), ())))))))), ((l.2.1.1, (l.2.1.2.1, (l.2.1.2.2.1, (l.2.1.2.2.2.1, ())))), (((), (l.2.2.1.2.1, ((), (s.2.1, (s.2.2.1, (s.2.2.2.1, ((), ()))))))), (s.2.2.2.2.1, (s.2.2.2.2.2.1, (s.2.2.2.2.2.2, ())))))) : T7).1, q7.mkH (((l.1.1, ((), ((), ((), ((), ((), (s.1, ((), ())))))))), ((l.2.1.1, (l.2.1.2.1, (l.2.1.2.2.1, (l.2.1.2.2.2.1, ())))), (((), (l.2.2.1.2.1, ((), (s.2.1, (s.2.2.1, (s.2.2.2.1, ((), ()))))))), (s.2.2.2.2.1, (s.2.2.2.2.2.1, (s.2.2.2.2.2.2, ())))))) : T7).2, 0⟩) sp1 (ou7 l)) := by kernel_rfl
theorem lk7 (R : Type) (st : St U) (K : Ex → St U → Option R) (r : R) (h : Λ7 R st K = some r) : ∃ n, loopA E (pick (loopsOf body) 7) n st K = some r :=
  lp_ok (U := U) (E := E) (b := pick (loopsOf body) 7) (m := 0) (sp := sp1) (p := p7) (q := q7) (X := (Int × (Bool × (Int × ((List Int) × ((List Int) × (List Int))))))) (S := (Int × (Int × (Bool × (Int × ((List Int) × ((List Int) × (List Int)))))))) (f := fun (l : T7) s => l7 l.1.1 l.2.1.1 l.2.1.2.1 l.2.1.2.2.1 l.2.1.2.2.2.1 l.2.2.1.2.1 s.1 s.2.1 s.2.2.1 s.2.2.2.1 s.2.2.2.2.1 s.2.2.2.2.2.1 s.2.2.2.2.2.2) (hd := fun (l : T7) s => ((l.1.1, ((), ((), ((), ((), ((), (s.1, ((), ())))))))), ((l.2.1.1, (l.2.1.2.1, (l.2.1.2.2.1, (l.2.1.2.2.2.1, ())))), (((), (l.2.2.1.2.1, ((), (s.2.1, (s.2.2.1, (s.2.2.2.1, ((), ()))))))), (s.2.2.2.2.1, (s.2.2.2.2.2.1, (s.2.2.2.2.2.2, ()))))))) (s0 := fun (l : T7) => (l.1.2.2.2.2.2.2.1, (l.2.2.1.2.2.2.1, (l.2.2.1.2.2.2.2.1, (l.2.2.1.2.2.2.2.2.1, (l.2.2.2.1, (l.2.2.2.2.1, l.2.2.2.2.2.1))))))) (ou := ou7)
    (fun l => rfl) (fun l x => by rfl) sp1_ok hf7 h
theorem hc26 (R : Type) (l : TC26) (K : Ex → St U → Option R) : codeA E (pick (seqsOf body) 26) ⟨pC26.mkL l.1, qC26.mkH l.2, 0⟩ (outK E 26 K) =
  (c26 l.1.2.2.2.2.2.1 l.1.2.2.2.2.2.2.2.1 l.1.2.2.2.2.2.2.2.2.1 l.1.2.2.2.2.2.2.2.2.2.1 l.2.1.1 l.2.1.2.1 l.2.1.2.2.1 l.2.1.2.2.2.1 l.2.2.1 l.2.2.2.1).runK fun y => K (ouC26 l y).1 (ouC26 l y).2 := by kernel_rfl
theorem ck26 (R : Type) (st : St U) (K : Ex → St U → Option R) (r : R) (h : ΛC26 R st K = some r) : codeA E (pick (seqsOf body) 26) st (outK E 26 K) = some r :=
  cut_ok (U := U) (E := E) (b := pick (seqsOf body) 26) (k := 26) (m := 0) (sp := (spS sp1)) (p := pC26) (q := qC26) (X := (Unit ⊕ Bool)) (t := fun (l : TC26) => c26 l.1.2.2.2.2.2.1 l.1.2.2.2.2.2.2.2.1 l.1.2.2.2.2.2.2.2.2.1 l.1.2.2.2.2.2.2.2.2.2.1 l.2.1.1 l.2.1.2.1 l.2.1.2.2.1 l.2.1.2.2.2.1 l.2.2.1 l.2.2.2.1) (ou := ouC26) (spS_ok sp1_ok) hc26 h
theorem hc22 (R : Type) (l : TC22) (K : Ex → St U → Option R) : codeA E (pick (seqsOf body) 22) ⟨pC22.mkL l.1, qC22.mkH l.2, 0⟩ (outK E 22 K) =
  (c22 l.1.2.2.2.2.2.1 l.1.2.2.2.2.2.2.2.1 l.1.2.2.2.2.2.2.2.2.1 l.1.2.2.2.2.2.2.2.2.2.1 l.2.1.1 l.2.1.2.1 l.2.1.2.2.1 l.2.1.2.2.2.1 l.2.2.1 l.2.2.2.1).runK fun y => K (ouC22 l y).1 (ouC22 l y).2 := by kernel_rfl
theorem ck22 (R : Type) (st : St U) (K : Ex → St U → Option R) (r : R) (h : ΛC22 R st K = some r) : codeA E (pick (seqsOf body) 22) st (outK E 22 K) = some r :=
  cut_ok (U := U) (E := E) (b := pick (seqsOf body) 22) (k := 22) (m := 0) (sp := (spS sp1)) (p := pC22) (q := qC22) (X := (Unit ⊕ Bool)) (t := fun (l : TC22) => c22 l.1.2.2.2.2.2.1 l.1.2.2.2.2.2.2.2.1 l.1.2.2.2.2.2.2.2.2.1 l.1.2.2.2.2.2.2.2.2.2.1 l.2.1.1 l.2.1.2.1 l.2.1.2.2.1 l.2.1.2.2.2.1 l.2.2.1 l.2.2.2.1) (ou := ouC22) (spS_ok sp1_ok) hc22 h
theorem hf19 (R : Type) (l : T19) (s : Int) (K : Ex → St U → Option R) : codeA E (pick (loopsOf body) 19) ⟨p19.mkL ((((), ((), ((), ((), ((), (l.1.2.2.2.2.2.1, ((), (l.1.2.2.2.2.2.2.2.1, (s, ((), ())))))))))), ((l.2.1.1, (l.2.1.2.1, (l.2.1.2.2.1, (l.2.1.2.2.2.1, ())))), (l.2.2.1, (l.2.2.2.1, ())))) : T19).1, q19.mkH ((((), ((), ((), ((), ((), (l.1.2.2.2.2.2.1, ((), (l.1.2.2.2.2.2.2.2.1, (s, ((), ())))))))))), ((l.2.1.1, (l.2.1.2.1, (l.2.1.2.2.1, (l.2.1.2.2.2.1, ())))), (l.2.2.1, (l.2.2.2.1, ())))) : T19).2, 0⟩ (roundK E (pick (loopsOf body) 19) K) =
  (l19 l.1.2.2.2.2.2.1 l.1.2.2.2.2.2.2.2.1 l.2.1.1 l.2.1.2.1 l.2.1.2.2.1 l.2.1.2.2.2.1 l.2.2.1 l.2.2.2.1 s).runK (lpK K (fun s => ⟨p19.mkL ((((), ((), ((), ((), ((), (l.1.2.2.2.2.2.1, ((), (l.1.2.2.2.2.2.2.2.1, (s, ((), ())))))))))), ((l.2.1.1, (l.2.1.2.1, (l.2.1.2.2.1, (l.2.1.2.2.2.1, ())))), (l.2.2.1, (l.2.2.2.1, ())))) : T19).1, q19.mkH ((((), ((), ((), ((), ((), (l.1.2.2.2.2.2.1, ((), (l.1.2.2.2.2.2.2.2.1, (s, ((), ())))))))))), ((l.2.1.1, (l.2.1.2.1, (l.2.1.2.2.1, (l.2.1.2.2.2.1, ())))), (l.2.2.1, (l.2.2.2.1, ())))) : T19).2, 0⟩) (spS sp1) (ou19 l)) := by kernel_rfl
theorem lk19 (R : Type) (st : St U) (K : Ex → St U → Option R) (r : R) (h : Λ19 R st K = some r) : ∃ n, loopA E (pick (loopsOf body) 19) n st K = some r :=
  lp_ok (U := U) (E := E) (b := pick (loopsOf body) 19) (m := 0) (sp := (spS sp1)) (p := p19) (q := q19) (X := (Unit ⊕ Bool)) (S := Int) (f := fun (l : T19) s => l19 l.1.2.2.2.2.2.1 l.1.2.2.2.2.2.2.2.1 l.2.1.1 l.2.1.2.1 l.2.1.2.2.1 l.2.1.2.2.2.1 l.2.2.1 l.2.2.2.1 s) (hd := fun (l : T19) s => (((), ((), ((), ((), ((), (l.1.2.2.2.2.2.1, ((), (l.1.2.2.2.2.2.2.2.1, (s, ((), ())))))))))), ((l.2.1.1, (l.2.1.2.1, (l.2.1.2.2.1, (l.2.1.2.2.2.1, ())))), (l.2.2.1, (l.2.2.2.1, ()))))) (s0 := fun (l : T19) => l.1.2.2.2.2.2.2.2.2.1) (ou := ou19)
    (fun l => rfl) (fun l x => by repeat' (first | rfl | (cases x with | inl => rfl | inr x => ?_))) (spS_ok sp1_ok) hf19 h
theorem hc18 (R : Type) (l : TC18) (K : Ex → St U → Option R) : codeA E (pick (seqsOf body) 18) ⟨pC18.mkL l.1, qC18.mkH l.2, 0⟩ (outK E 18 K) =
  (c18 l.1.2.2.2.2.2.1 l.1.2.2.2.2.2.2.2.1 l.2.1.1 l.2.1.2.1 l.2.1.2.2.1 l.2.1.2.2.2.1 l.2.2.1 l.2.2.2.1).runK fun y => K (ouC18 l y).1 (ouC18 l y).2 := by kernel_rfl
theorem ck18 (R : Type) (st : St U) (K : Ex → St U → Option R) (r : R) (h : ΛC18 R st K = some r) : codeA E (pick (seqsOf body) 18) st (outK E 18 K) = some r :=
  cut_ok (U := U) (E := E) (b := pick (seqsOf body) 18) (k := 18) (m := 0) (sp := sp1) (p := pC18) (q := qC18) (X := Bool) (t := fun (l : TC18) => c18 l.1.2.2.2.2.2.1 l.1.2.2.2.2.2.2.2.1 l.2.1.1 l.2.1.2.1 l.2.1.2.2.1 l.2.1.2.2.2.1 l.2.2.1 l.2.2.2.1) (ou := ouC18) sp1_ok hc18 h
theorem hk (R : Type) (l : TA) (K : AV U → Hp U → Option R) : funcA E Try.f6 [] R (pA.mkL l.1) (pH.mkH l.2) K = (t l.1.1 l.1.2.1.1 l.1.2.1.2.1 l.1.2.1.2.2.1 l.1.2.1.2.2.2.1).runK fun y => K (v l y) (hh l y) := by kernel_rfl
theorem okF : SoundF Try.prog cc 6 (funcA E Try.f6 []) :=
  funcA_ok (E := E) P_mixed (E0_ok.with Γ Λ CT D ro) (gam_of (all_cons ⟨law07_great.ok, ⟨Try.f30, Try.func30, by kernel_rfl, by kernel_rfl⟩⟩ (all_cons ⟨flash_New.ok, ⟨Try.f32, Try.func32, by kernel_rfl, by kernel_rfl⟩⟩ (all_cons ⟨law07_do_v2.ok, ⟨Try.f33, Try.func33, by kernel_rfl, by kernel_rfl⟩⟩ (all_cons ⟨(orA_ok flash_Flash_Words.ok flash_Flash_Words_v2.ok), ⟨Try.f34, Try.func34, by kernel_rfl, by kernel_rfl⟩⟩ (all_cons ⟨flash_Flash_Gone_v2.ok, ⟨Try.f35, Try.func35, by kernel_rfl, by kernel_rfl⟩⟩ (all_cons ⟨(orA_ok flash_Flash_Writes.ok flash_Flash_Writes_v2.ok), ⟨Try.f36, Try.func36, by kernel_rfl, by kernel_rfl⟩⟩ (all_cons ⟨ref01_Bits.ok, ⟨Try.f37, Try.func37, by kernel_rfl, by kernel_rfl⟩⟩ (all_cons ⟨law07_awake.ok, ⟨Try.f31, Try.func31, by kernel_rfl, by kernel_rfl⟩⟩ all_nil)))))))) (all_cons (no_keep (by kernel_rfl)) (all_cons (no_keep (by kernel_rfl)) (all_cons (no_keep (by kernel_rfl)) (all_cons (fun _ => (orA_keep flash_Flash_Words.keep flash_Flash_Words_v2.keep)) (all_cons (fun _ => flash_Flash_Gone_v2.keep) (all_cons (fun _ => (orA_keep flash_Flash_Writes.keep flash_Flash_Writes_v2.keep)) (all_cons (no_keep (by kernel_rfl)) (all_cons (no_keep (by kernel_rfl)) all_nil))))))))) Try.func6 (c := body) (by kernel_rfl)
    (just_by (by kernel_rfl) (by kernel_rfl) (all_cons lk7 (all_cons lk19 all_nil)) (all_cons ck26 (all_cons ck22 (all_cons ck18 all_nil)))) []
theorem ok : SoundF Try.prog cc 6 A :=
  mkA_ok (E := E) (p := pA) (q := pH) (t := fun (l : TA) => t l.1.1 l.1.2.1.1 l.1.2.1.2.1 l.1.2.1.2.2.1 l.1.2.1.2.2.2.1) sp1_ok hk okF
theorem keep : KeepA A := mkA_keep (U := U) sp1_ok (fun (l : TA) y => ⟨(hh l y).drop 0, by kernel_rfl⟩)
end law07_FlashOnly

end Go.Proofs.Ytpidbpmkogbdeaa.Va
