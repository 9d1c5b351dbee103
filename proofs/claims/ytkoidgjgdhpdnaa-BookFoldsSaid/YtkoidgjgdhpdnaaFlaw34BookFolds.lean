/- The functions of package law34BookFolds, as plain functions, and that the program computes them. Printed by a program of this work out of the evaluator. -/
import Derived.Test.YtkoidgjgdhpdnaaEn
import Derived.Tactics
import Derived.Test.YtkoidgjgdhpdnaaFbook
import Derived.Test.YtkoidgjgdhpdnaaFdrive
import Derived.Test.YtkoidgjgdhpdnaaFflash
import Derived.Test.YtkoidgjgdhpdnaaFjournal
import Derived.Test.YtkoidgjgdhpdnaaFlaw34
import Derived.Test.YtkoidgjgdhpdnaaFref09
import Derived.Test.YtkoidgjgdhpdnaaFref11
import Derived.Test.YtkoidgjgdhpdnaaFref34
set_option linter.unusedVariables false
namespace Go.Proofs.Ytkoidgjgdhpdnaa.Va
noncomputable section
open Go
set_option maxRecDepth 100000

/-! instar/instarlaw34.BookFolds -/
namespace law34_BookFolds
abbrev TA : Type := (((Int × (Int × (Int × (Bool × (Int × (Int × (Int × (Int × (Int × (Int × (Int × (Int × (Int × (Int × (Int × (Int × (Int × (Int × (Int × (Int × (Int × (Int × (Int × (Int × (Int × (Int × (Int × (Int × (Int × (Int × (Int × Unit))))))))))))))))))))))))))))))) × ((List (Int × Int × Int)) × ((List Int) × Unit))) × Unit)
abbrev T12v2 : Type := ((Unit × ((List (Int × Int × Int)) × ((List Int) × (Unit × (Unit × (Unit × (Unit × (Unit × (Unit × (Unit × (Int × (Unit × Unit)))))))))))) × ((Unit × (Int × (Int × (Int × (Int × (Int × (Int × Unit))))))) × ((Unit × (Int × (Unit × (Int × (Bool × (Int × (Unit × Unit))))))) × ((List Int) × ((List Int) × ((List Int) × ((Unit × (Int × (Int × (Bool × (Int × ((List Int) × (Unit × Unit))))))) × ((Unit × (Int × (Int × (Int × (Int × (Int × (Int × Unit))))))) × ((Unit × (Int × (Unit × (Int × (Bool × (Int × (Unit × Unit))))))) × ((List Int) × ((List Int) × ((List Int) × ((List (List Int)) × Unit)))))))))))))
def l12v2 (l_ : (List (Int × Int × Int))) (whole : (List Int)) (i h0_1 h0_2 h0_3 h0_4 h0_5 h0_6 h1_1 h1_3 : Int) (h1_4 : Bool) (h1_5 : Int) (h2 : (List Int)) (h3 : (List Int)) (h4 : (List Int)) (h5_1 h5_2 : Int) (h5_3 : Bool) (h5_4 : Int) (h5_5 : (List Int)) (h6_1 h6_2 h6_3 h6_4 h6_5 h6_6 h7_1 h7_3 : Int) (h7_4 : Bool) (h7_5 : Int) (h8 : (List Int)) (h9 : (List Int)) (h10 : (List Int)) (h11 : (List (List Int))) : Tw (Unit ⊕ Unit) :=
 (.bb (decide (i < (((List.length l_) : Nat) : Int)))
 (.dd (((0 : Int) ≤ i)) inferInstance
 (.opt (l_)[(Int.toNat i)]? fun z33 =>
 (.dd (((0 : Int) ≤ i)) inferInstance
 (.opt (l_)[(Int.toNat i)]? fun z34 =>
 (.dd (((0 : Int) ≤ i)) inferInstance
 (.opt (l_)[(Int.toNat i)]? fun z35 =>
 .no)
 .no))
 .no))
 .no)
 (.ret (.inr ())))
def L12v2 (l_ : (List (Int × Int × Int))) (whole : (List Int)) (i h0_1 h0_2 h0_3 h0_4 h0_5 h0_6 h1_1 h1_3 : Int) (h1_4 : Bool) (h1_5 : Int) (h2 : (List Int)) (h3 : (List Int)) (h4 : (List Int)) (h5_1 h5_2 : Int) (h5_3 : Bool) (h5_4 : Int) (h5_5 : (List Int)) (h6_1 h6_2 h6_3 h6_4 h6_5 h6_6 h7_1 h7_3 : Int) (h7_4 : Bool) (h7_5 : Int) (h8 : (List Int)) (h9 : (List Int)) (h10 : (List Int)) (h11 : (List (List Int))) : Option Unit := Lp (fun s => (l12v2 l_ whole i h0_1 h0_2 h0_3 h0_4 h0_5 h0_6 h1_1 h1_3 h1_4 h1_5 h2 h3 h4 h5_1 h5_2 h5_3 h5_4 h5_5 h6_1 h6_2 h6_3 h6_4 h6_5 h6_6 h7_1 h7_3 h7_4 h7_5 h8 h9 h10 h11).run) ()
def p12v2 : Pt := (.cs (.bots 1) (.cs (.sl 26) (.cs (.sl 3) (.cs (.bots 7) (.cs (.ptr 0 0) (.cs (.bots 2) (.cs .nilp (.cs (.bots 1) (.cs (.ptr 5 0) (.cs (.bots 1) (jC (.cs (.bots 138) .nl))))))))))))
def q12v2 : Pt := (.cs (.var (.cs (.ptr 1 0) (jC (jC (jC (jC (jC (jC .nl)))))))) (.cs (.var (.cs (.own 2) (jC (.cs (.own 3) (jC (.cs .bool (jC (.cs (.own 4) .nl)))))))) (.cs (.row 3 true) (.cs (.row 1 true) (.cs (.row 3 true) (.cs (.var (.cs (.ptr 6 0) (jC (jC (.cs .bool (jC (.cs (.sl 3) (.cs (.own 11) .nl)))))))) (.cs (.var (.cs (.ptr 7 0) (jC (jC (jC (jC (jC (jC .nl)))))))) (.cs (.var (.cs (.own 8) (jC (.cs (.own 9) (jC (.cs .bool (jC (.cs (.own 10) .nl)))))))) (.cs (.row 3 true) (.cs (.row 1 true) (.cs (.row 3 true) (.cs (.row 12 true) .nl))))))))))))
def ou12v2 (l : T12v2) (y : Unit) : Ex × St U := (.exit 0, stOf 156 [] [] 0)
def Λ12v2 : LFun U := mkLp p12v2 q12v2 0 (X := Unit) (fun (l : T12v2) => L12v2 l.1.2.1 l.1.2.2.1 (d8 l.1).2.2.1 l.2.1.2.1 l.2.1.2.2.1 l.2.1.2.2.2.1 (d4 l.2.1).1 (d4 l.2.1).2.1 (d4 l.2.1).2.2.1 l.2.2.1.2.1 l.2.2.1.2.2.2.1 (d4 l.2.2.1).1 (d4 l.2.2.1).2.1 l.2.2.2.1 (d4 l).1 (d4 l).2.1 l.2.2.2.2.2.2.1.2.1 l.2.2.2.2.2.2.1.2.2.1 l.2.2.2.2.2.2.1.2.2.2.1 (d4 l.2.2.2.2.2.2.1).1 (d4 l.2.2.2.2.2.2.1).2.1 l.2.2.2.2.2.2.2.1.2.1 l.2.2.2.2.2.2.2.1.2.2.1 l.2.2.2.2.2.2.2.1.2.2.2.1 (d4 l.2.2.2.2.2.2.2.1).1 (d4 l.2.2.2.2.2.2.2.1).2.1 (d4 l.2.2.2.2.2.2.2.1).2.2.1 l.2.2.2.2.2.2.2.2.1.2.1 l.2.2.2.2.2.2.2.2.1.2.2.2.1 (d4 l.2.2.2.2.2.2.2.2.1).1 (d4 l.2.2.2.2.2.2.2.2.1).2.1 (d8 l).2.1 (d8 l).2.2.1 (d8 l).2.2.2.1 (d12 l).1) sp1 ou12v2
def hd12v2 (l : T12v2) (s : Unit) : T12v2 := (((), (l.1.2.1, (l.1.2.2.1, ((), ((), ((), ((), ((), ((), ((), ((d8 l.1).2.2.1, ((), ())))))))))))), (((), (l.2.1.2.1, (l.2.1.2.2.1, (l.2.1.2.2.2.1, ((d4 l.2.1).1, ((d4 l.2.1).2.1, ((d4 l.2.1).2.2.1, ()))))))), (((), (l.2.2.1.2.1, ((), (l.2.2.1.2.2.2.1, ((d4 l.2.2.1).1, ((d4 l.2.2.1).2.1, ((), ()))))))), (l.2.2.2.1, ((d4 l).1, ((d4 l).2.1, (((), (l.2.2.2.2.2.2.1.2.1, (l.2.2.2.2.2.2.1.2.2.1, (l.2.2.2.2.2.2.1.2.2.2.1, ((d4 l.2.2.2.2.2.2.1).1, ((d4 l.2.2.2.2.2.2.1).2.1, ((), ()))))))), (((), (l.2.2.2.2.2.2.2.1.2.1, (l.2.2.2.2.2.2.2.1.2.2.1, (l.2.2.2.2.2.2.2.1.2.2.2.1, ((d4 l.2.2.2.2.2.2.2.1).1, ((d4 l.2.2.2.2.2.2.2.1).2.1, ((d4 l.2.2.2.2.2.2.2.1).2.2.1, ()))))))), (((), (l.2.2.2.2.2.2.2.2.1.2.1, ((), (l.2.2.2.2.2.2.2.2.1.2.2.2.1, ((d4 l.2.2.2.2.2.2.2.2.1).1, ((d4 l.2.2.2.2.2.2.2.2.1).2.1, ((), ()))))))), ((d8 l).2.1, ((d8 l).2.2.1, ((d8 l).2.2.2.1, ((d12 l).1, ())))))))))))))
def fl12v2 (l : T12v2) (s : Unit) : Tw (Unit ⊕ Unit) := l12v2 l.1.2.1 l.1.2.2.1 (d8 l.1).2.2.1 l.2.1.2.1 l.2.1.2.2.1 l.2.1.2.2.2.1 (d4 l.2.1).1 (d4 l.2.1).2.1 (d4 l.2.1).2.2.1 l.2.2.1.2.1 l.2.2.1.2.2.2.1 (d4 l.2.2.1).1 (d4 l.2.2.1).2.1 l.2.2.2.1 (d4 l).1 (d4 l).2.1 l.2.2.2.2.2.2.1.2.1 l.2.2.2.2.2.2.1.2.2.1 l.2.2.2.2.2.2.1.2.2.2.1 (d4 l.2.2.2.2.2.2.1).1 (d4 l.2.2.2.2.2.2.1).2.1 l.2.2.2.2.2.2.2.1.2.1 l.2.2.2.2.2.2.2.1.2.2.1 l.2.2.2.2.2.2.2.1.2.2.2.1 (d4 l.2.2.2.2.2.2.2.1).1 (d4 l.2.2.2.2.2.2.2.1).2.1 (d4 l.2.2.2.2.2.2.2.1).2.2.1 l.2.2.2.2.2.2.2.2.1.2.1 l.2.2.2.2.2.2.2.2.1.2.2.2.1 (d4 l.2.2.2.2.2.2.2.2.1).1 (d4 l.2.2.2.2.2.2.2.2.1).2.1 (d8 l).2.1 (d8 l).2.2.1 (d8 l).2.2.2.1 (d12 l).1
abbrev T12 : Type := ((Unit × ((List (Int × Int × Int)) × ((List Int) × (Unit × (Unit × (Unit × (Unit × (Unit × (Unit × (Unit × (Int × (Unit × Unit)))))))))))) × ((Unit × (Int × (Int × (Int × (Int × (Int × (Int × Unit))))))) × ((Unit × (Int × (Unit × (Int × (Bool × (Int × (Unit × Unit))))))) × ((List Int) × ((List Int) × ((List Int) × ((Unit × (Int × (Int × (Bool × (Int × ((List Int) × (Unit × Unit))))))) × ((List (List Int)) × ((Unit × (Int × (Int × (Bool × (Int × ((List Int) × (Unit × Unit))))))) × ((Unit × (Int × (Int × (Int × (Int × (Int × (Int × Unit))))))) × ((Unit × (Int × (Unit × (Int × (Bool × (Int × (Unit × Unit))))))) × ((List Int) × ((List Int) × ((List Int) × ((List (List Int)) × Unit)))))))))))))))
abbrev S12 : Type := (Int × (Int × (Bool × (Int × ((List Int) × ((List Int) × (Int × (Int × (Bool × (Int × ((List Int) × ((List (List Int)) × (Int × (Int × (Bool × (Int × ((List Int) × (Int × (Bool × (Int × ((List Int) × ((List Int) × (List (List Int))))))))))))))))))))))))
abbrev X12 : Type := (Unit ⊕ (Bool ⊕ (Int × (Int × (Bool × (Int × ((List Int) × ((List Int) × (Int × (Int × (Bool × (Int × ((List Int) × (Int × (Bool × (Int × ((List Int) × ((List Int) × (List (List Int))))))))))))))))))))
def l12 (l_ : (List (Int × Int × Int))) (whole : (List Int)) (h0_1 h0_2 h0_3 h0_4 h0_5 h0_6 h1_1 : Int) (h4 : (List Int)) (h8_1 h8_2 h8_3 h8_4 h8_5 h8_6 h9_1 : Int) (h12 : (List Int)) (i h1_3 : Int) (h1_4 : Bool) (h1_5 : Int) (h2 : (List Int)) (h3 : (List Int)) (h5_1 h5_2 : Int) (h5_3 : Bool) (h5_4 : Int) (h5_5 : (List Int)) (h6 : (List (List Int))) (h7_1 h7_2 : Int) (h7_3 : Bool) (h7_4 : Int) (h7_5 : (List Int)) (h9_3 : Int) (h9_4 : Bool) (h9_5 : Int) (h10 : (List Int)) (h11 : (List Int)) (h13 : (List (List Int))) : Tw (S12 ⊕ X12) :=
 (.bb (decide (i < (((List.length l_) : Nat) : Int)))
 (.dd (((0 : Int) ≤ i)) inferInstance
 (.opt (l_)[(Int.toNat i)]? fun z19 =>
 (.dd (((0 : Int) ≤ i)) inferInstance
 (.opt (l_)[(Int.toNat i)]? fun z20 =>
 (.dd (((0 : Int) ≤ i)) inferInstance
 (.opt (l_)[(Int.toNat i)]? fun z21 =>
 (.opt (journal_Journal_Change.c (z19.1 :: (z20.2.1 :: (z21.2.2 :: ([] : List (Int))))) whole h5_1 h5_2 h5_3 h5_4 h5_5 h0_1 h0_2 h0_3 h0_4 h0_5 h0_6 h1_1 h1_3 h1_4 h1_5 h2 h3 h4 h6) fun z22 =>
 (.opt (ref11_Journal_Put.c (2 : Int) (z19.1 :: (z20.2.1 :: (z21.2.2 :: ([] : List (Int))))) whole h7_1 h7_2 h7_3 h7_4 h7_5 h8_1 h8_2 h8_3 h8_4 h8_5 h8_6 h9_1 h9_3 h9_4 h9_5 h10 h11 h12 h13) fun z23 =>
 (.bb ((Int.tmod i (5 : Int)) == (4 : Int))
 (.opt (journal_Open.c h0_1 h0_2 h0_3 h0_4 h0_5 h0_6 h1_1 (d4 z22).2.2.1 (d4 z22).2.2.2.1 (d8 z22).1 (d8 z22).2.1 (d8 z22).2.2.1 h4) fun z26 =>
 (.sm z26
 (fun z27 => (.bb (z27 != (0 : Int))
 (.ret (.inr (.inr (.inl false))))
 (.opt (book_Fold_nil0.c) fun z29 =>
 (.opt (ref34_Fold.c (d4 z23).2.1 (d8 z23).2.2.2) fun z30 =>
 (.bb ((d28 z29).2.2.2 != (d28 z30).2.2.2)
 (.ret (.inr (.inr (.inl false))))
 (.bb (!((z29.1 == z30.1) && ((z29.2.1 == z30.2.1) && ((z29.2.2.1 == z30.2.2.1) && ((z29.2.2.2.1 == z30.2.2.2.1) && (((d4 z29).1 == (d4 z30).1) && (((d4 z29).2.1 == (d4 z30).2.1) && (((d4 z29).2.2.1 == (d4 z30).2.2.1) && (((d4 z29).2.2.2.1 == (d4 z30).2.2.2.1) && (((d8 z29).1 == (d8 z30).1) && (((d8 z29).2.1 == (d8 z30).2.1) && (((d8 z29).2.2.1 == (d8 z30).2.2.1) && (((d8 z29).2.2.2.1 == (d8 z30).2.2.2.1) && (((d12 z29).1 == (d12 z30).1) && (((d12 z29).2.1 == (d12 z30).2.1) && (((d12 z29).2.2.1 == (d12 z30).2.2.1) && (((d12 z29).2.2.2.1 == (d12 z30).2.2.2.1) && (((d16 z29).1 == (d16 z30).1) && (((d16 z29).2.1 == (d16 z30).2.1) && (((d16 z29).2.2.1 == (d16 z30).2.2.1) && (((d16 z29).2.2.2.1 == (d16 z30).2.2.2.1) && (((d20 z29).1 == (d20 z30).1) && (((d20 z29).2.1 == (d20 z30).2.1) && (((d20 z29).2.2.1 == (d20 z30).2.2.1) && (((d20 z29).2.2.2.1 == (d20 z30).2.2.2.1) && (((d24 z29).1 == (d24 z30).1) && (((d24 z29).2.1 == (d24 z30).2.1) && (((d24 z29).2.2.1 == (d24 z30).2.2.1) && (((d24 z29).2.2.2.1 == (d24 z30).2.2.2.1) && (((d28 z29).1 == (d28 z30).1) && (((d28 z29).2.1 == (d28 z30).2.1) && (((d28 z29).2.2.1 == (d28 z30).2.2.1) && true))))))))))))))))))))))))))))))))
 (.ret (.inr (.inr (.inl false))))
 (.ret (.inr (.inr (.inr ((w64 (i + (1 : Int))), ((d4 z22).2.2.1, ((d4 z22).2.2.2.1, ((d8 z22).1, ((d8 z22).2.1, ((d8 z22).2.2.1, (z23.2.1, (z23.2.2.1, (z23.2.2.2.1, ((d4 z23).1, ((d4 z23).2.1, ((d4 z23).2.2.1, ((d4 z23).2.2.2.1, ((d8 z23).1, ((d8 z23).2.1, ((d8 z23).2.2.1, (d8 z23).2.2.2))))))))))))))))))))))))))
 (fun z28 => (.bb (z28.1 != (0 : Int))
 (.ret (.inr (.inr (.inl false))))
 (.opt (book_Fold.c z28.2.1 z28.2.2.1 z28.2.2.2.1 (d4 z28).1 (d4 z28).2.1 h0_1 h0_2 h0_3 h0_4 h0_5 h0_6 h1_1 (d4 z22).2.2.1 (d4 z22).2.2.2.1 (d8 z22).1 (d8 z22).2.1 (d8 z22).2.2.1 h4 (d4 z28).2.2) fun z31 =>
 (.opt (ref34_Fold.c (d4 z23).2.1 (d8 z23).2.2.2) fun z32 =>
 (.bb ((d28 z31).2.2.2 != (d28 z32).2.2.2)
 (.ret (.inr (.inr (.inl false))))
 (.bb (!((z31.1 == z32.1) && ((z31.2.1 == z32.2.1) && ((z31.2.2.1 == z32.2.2.1) && ((z31.2.2.2.1 == z32.2.2.2.1) && (((d4 z31).1 == (d4 z32).1) && (((d4 z31).2.1 == (d4 z32).2.1) && (((d4 z31).2.2.1 == (d4 z32).2.2.1) && (((d4 z31).2.2.2.1 == (d4 z32).2.2.2.1) && (((d8 z31).1 == (d8 z32).1) && (((d8 z31).2.1 == (d8 z32).2.1) && (((d8 z31).2.2.1 == (d8 z32).2.2.1) && (((d8 z31).2.2.2.1 == (d8 z32).2.2.2.1) && (((d12 z31).1 == (d12 z32).1) && (((d12 z31).2.1 == (d12 z32).2.1) && (((d12 z31).2.2.1 == (d12 z32).2.2.1) && (((d12 z31).2.2.2.1 == (d12 z32).2.2.2.1) && (((d16 z31).1 == (d16 z32).1) && (((d16 z31).2.1 == (d16 z32).2.1) && (((d16 z31).2.2.1 == (d16 z32).2.2.1) && (((d16 z31).2.2.2.1 == (d16 z32).2.2.2.1) && (((d20 z31).1 == (d20 z32).1) && (((d20 z31).2.1 == (d20 z32).2.1) && (((d20 z31).2.2.1 == (d20 z32).2.2.1) && (((d20 z31).2.2.2.1 == (d20 z32).2.2.2.1) && (((d24 z31).1 == (d24 z32).1) && (((d24 z31).2.1 == (d24 z32).2.1) && (((d24 z31).2.2.1 == (d24 z32).2.2.1) && (((d24 z31).2.2.2.1 == (d24 z32).2.2.2.1) && (((d28 z31).1 == (d28 z32).1) && (((d28 z31).2.1 == (d28 z32).2.1) && (((d28 z31).2.2.1 == (d28 z32).2.2.1) && true))))))))))))))))))))))))))))))))
 (.ret (.inr (.inr (.inl false))))
 (.ret (.inl ((w64 (i + (1 : Int))), ((d4 z22).2.2.1, ((d4 z22).2.2.2.1, ((d8 z22).1, ((d8 z22).2.1, ((d8 z22).2.2.1, (z28.2.1, (z28.2.2.1, (z28.2.2.2.1, ((d4 z28).1, ((d4 z28).2.1, ((d4 z28).2.2, (z23.2.1, (z23.2.2.1, (z23.2.2.2.1, ((d4 z23).1, ((d4 z23).2.1, ((d4 z23).2.2.1, ((d4 z23).2.2.2.1, ((d8 z23).1, ((d8 z23).2.1, ((d8 z23).2.2.1, (d8 z23).2.2.2))))))))))))))))))))))))))))))))
 (.opt (book_Fold.c z22.2.1 z22.2.2.1 z22.2.2.2.1 (d4 z22).1 (d4 z22).2.1 h0_1 h0_2 h0_3 h0_4 h0_5 h0_6 h1_1 (d4 z22).2.2.1 (d4 z22).2.2.2.1 (d8 z22).1 (d8 z22).2.1 (d8 z22).2.2.1 h4 (d8 z22).2.2.2) fun z24 =>
 (.opt (ref34_Fold.c (d4 z23).2.1 (d8 z23).2.2.2) fun z25 =>
 (.bb ((d28 z24).2.2.2 != (d28 z25).2.2.2)
 (.ret (.inr (.inr (.inl false))))
 (.bb (!((z24.1 == z25.1) && ((z24.2.1 == z25.2.1) && ((z24.2.2.1 == z25.2.2.1) && ((z24.2.2.2.1 == z25.2.2.2.1) && (((d4 z24).1 == (d4 z25).1) && (((d4 z24).2.1 == (d4 z25).2.1) && (((d4 z24).2.2.1 == (d4 z25).2.2.1) && (((d4 z24).2.2.2.1 == (d4 z25).2.2.2.1) && (((d8 z24).1 == (d8 z25).1) && (((d8 z24).2.1 == (d8 z25).2.1) && (((d8 z24).2.2.1 == (d8 z25).2.2.1) && (((d8 z24).2.2.2.1 == (d8 z25).2.2.2.1) && (((d12 z24).1 == (d12 z25).1) && (((d12 z24).2.1 == (d12 z25).2.1) && (((d12 z24).2.2.1 == (d12 z25).2.2.1) && (((d12 z24).2.2.2.1 == (d12 z25).2.2.2.1) && (((d16 z24).1 == (d16 z25).1) && (((d16 z24).2.1 == (d16 z25).2.1) && (((d16 z24).2.2.1 == (d16 z25).2.2.1) && (((d16 z24).2.2.2.1 == (d16 z25).2.2.2.1) && (((d20 z24).1 == (d20 z25).1) && (((d20 z24).2.1 == (d20 z25).2.1) && (((d20 z24).2.2.1 == (d20 z25).2.2.1) && (((d20 z24).2.2.2.1 == (d20 z25).2.2.2.1) && (((d24 z24).1 == (d24 z25).1) && (((d24 z24).2.1 == (d24 z25).2.1) && (((d24 z24).2.2.1 == (d24 z25).2.2.1) && (((d24 z24).2.2.2.1 == (d24 z25).2.2.2.1) && (((d28 z24).1 == (d28 z25).1) && (((d28 z24).2.1 == (d28 z25).2.1) && (((d28 z24).2.2.1 == (d28 z25).2.2.1) && true))))))))))))))))))))))))))))))))
 (.ret (.inr (.inr (.inl false))))
 (.ret (.inl ((w64 (i + (1 : Int))), ((d4 z22).2.2.1, ((d4 z22).2.2.2.1, ((d8 z22).1, ((d8 z22).2.1, ((d8 z22).2.2.1, (z22.2.1, (z22.2.2.1, (z22.2.2.2.1, ((d4 z22).1, ((d4 z22).2.1, ((d8 z22).2.2.2, (z23.2.1, (z23.2.2.1, (z23.2.2.2.1, ((d4 z23).1, ((d4 z23).2.1, ((d4 z23).2.2.1, ((d4 z23).2.2.2.1, ((d8 z23).1, ((d8 z23).2.1, ((d8 z23).2.2.1, (d8 z23).2.2.2))))))))))))))))))))))))))))))))
 .no))
 .no))
 .no)
 (.ret (.inr (.inl ()))))
def L12 (l_ : (List (Int × Int × Int))) (whole : (List Int)) (i h0_1 h0_2 h0_3 h0_4 h0_5 h0_6 h1_1 h1_3 : Int) (h1_4 : Bool) (h1_5 : Int) (h2 : (List Int)) (h3 : (List Int)) (h4 : (List Int)) (h5_1 h5_2 : Int) (h5_3 : Bool) (h5_4 : Int) (h5_5 : (List Int)) (h6 : (List (List Int))) (h7_1 h7_2 : Int) (h7_3 : Bool) (h7_4 : Int) (h7_5 : (List Int)) (h8_1 h8_2 h8_3 h8_4 h8_5 h8_6 h9_1 h9_3 : Int) (h9_4 : Bool) (h9_5 : Int) (h10 : (List Int)) (h11 : (List Int)) (h12 : (List Int)) (h13 : (List (List Int))) : Option X12 := Lp (fun s => (l12 l_ whole h0_1 h0_2 h0_3 h0_4 h0_5 h0_6 h1_1 h4 h8_1 h8_2 h8_3 h8_4 h8_5 h8_6 h9_1 h12 s.1 s.2.1 s.2.2.1 s.2.2.2.1 (d4 s).1 (d4 s).2.1 (d4 s).2.2.1 (d4 s).2.2.2.1 (d8 s).1 (d8 s).2.1 (d8 s).2.2.1 (d8 s).2.2.2.1 (d12 s).1 (d12 s).2.1 (d12 s).2.2.1 (d12 s).2.2.2.1 (d16 s).1 (d16 s).2.1 (d16 s).2.2.1 (d16 s).2.2.2.1 (d20 s).1 (d20 s).2.1 (d20 s).2.2).run) (i, (h1_3, (h1_4, (h1_5, (h2, (h3, (h5_1, (h5_2, (h5_3, (h5_4, (h5_5, (h6, (h7_1, (h7_2, (h7_3, (h7_4, (h7_5, (h9_3, (h9_4, (h9_5, (h10, (h11, h13))))))))))))))))))))))
def p12 : Pt := (.cs (.bots 1) (.cs (.sl 26) (.cs (.sl 3) (.cs (.bots 7) (.cs (.ptr 0 0) (.cs (.bots 2) (.cs (.ptr 5 0) (.cs (.bots 1) (.cs (.ptr 7 0) (.cs (.bots 1) (jC (.cs (.bots 138) .nl))))))))))))
def q12 : Pt := (.cs (.var (.cs (.ptr 1 0) (jC (jC (jC (jC (jC (jC .nl)))))))) (.cs (.var (.cs (.own 2) (jC (.cs (.own 3) (jC (.cs .bool (jC (.cs (.own 4) .nl)))))))) (.cs (.row 3 true) (.cs (.row 1 true) (.cs (.row 3 true) (.cs (.var (.cs (.ptr 0 0) (jC (jC (.cs .bool (jC (.cs (.sl 3) (.cs (.own 6) .nl)))))))) (.cs (.row 12 true) (.cs (.var (.cs (.ptr 8 0) (jC (jC (.cs .bool (jC (.cs (.sl 3) (.cs (.own 13) .nl)))))))) (.cs (.var (.cs (.ptr 9 0) (jC (jC (jC (jC (jC (jC .nl)))))))) (.cs (.var (.cs (.own 10) (jC (.cs (.own 11) (jC (.cs .bool (jC (.cs (.own 12) .nl)))))))) (.cs (.row 3 true) (.cs (.row 1 true) (.cs (.row 3 true) (.cs (.row 12 true) .nl))))))))))))))
def ou12 (l : T12) (y : X12) : Ex × St U := (Sum.elim (fun a0 => (.exit 0, stOf 156 [] [] 0)) (fun b0 => (Sum.elim (fun a1 => (.ret, stOf 156 [(6, jB a1)] [] 0)) (fun b1 => (.normal, stOf 156 [(1, .im (.slice 26 l.1.2.1)), (2, .im (.slice 3 l.1.2.2.1)), (10, .ptr 0 0), (13, .im .nilp), (15, .ptr 5 0), (17, jI b1.1)] [.var [.ptr 1 0, jI l.2.1.2.1, jI l.2.1.2.2.1, jI l.2.1.2.2.2.1, jI (d4 l.2.1).1, jI (d4 l.2.1).2.1, jI (d4 l.2.1).2.2.1], .var [.own 2, jI l.2.2.1.2.1, .own 3, jI b1.2.1, jB b1.2.2.1, jI b1.2.2.2.1, .own 4], .row 3 (d4 b1).1 true, .row 1 (d4 b1).2.1 true, .row 3 (d4 l).2.1 true, .var [.ptr 6 0, jI (d4 b1).2.2.1, jI (d4 b1).2.2.2.1, jB (d8 b1).1, jI (d8 b1).2.1, .im (.slice 3 (d8 b1).2.2.1), .own 11], .var [.ptr 7 0, jI l.2.2.2.2.2.2.2.2.2.1.2.1, jI l.2.2.2.2.2.2.2.2.2.1.2.2.1, jI l.2.2.2.2.2.2.2.2.2.1.2.2.2.1, jI (d4 l.2.2.2.2.2.2.2.2.2.1).1, jI (d4 l.2.2.2.2.2.2.2.2.2.1).2.1, jI (d4 l.2.2.2.2.2.2.2.2.2.1).2.2.1], .var [.own 8, jI l.2.2.2.2.2.2.2.2.2.2.1.2.1, .own 9, jI (d8 b1).2.2.2.1, jB (d12 b1).1, jI (d12 b1).2.1, .own 10], .row 3 (d12 b1).2.2.1 true, .row 1 (d12 b1).2.2.2.1 true, .row 3 (d12 l).2.1 true, .row 12 (d16 b1) true] 0)) b0)) y)
def Λ12 : LFun U := mkLq (U := U) p12 q12 0 (X := X12) (fun (l : T12) => L12 l.1.2.1 l.1.2.2.1 (d8 l.1).2.2.1 l.2.1.2.1 l.2.1.2.2.1 l.2.1.2.2.2.1 (d4 l.2.1).1 (d4 l.2.1).2.1 (d4 l.2.1).2.2.1 l.2.2.1.2.1 l.2.2.1.2.2.2.1 (d4 l.2.2.1).1 (d4 l.2.2.1).2.1 l.2.2.2.1 (d4 l).1 (d4 l).2.1 l.2.2.2.2.2.2.1.2.1 l.2.2.2.2.2.2.1.2.2.1 l.2.2.2.2.2.2.1.2.2.2.1 (d4 l.2.2.2.2.2.2.1).1 (d4 l.2.2.2.2.2.2.1).2.1 (d4 l).2.2.2.1 l.2.2.2.2.2.2.2.2.1.2.1 l.2.2.2.2.2.2.2.2.1.2.2.1 l.2.2.2.2.2.2.2.2.1.2.2.2.1 (d4 l.2.2.2.2.2.2.2.2.1).1 (d4 l.2.2.2.2.2.2.2.2.1).2.1 l.2.2.2.2.2.2.2.2.2.1.2.1 l.2.2.2.2.2.2.2.2.2.1.2.2.1 l.2.2.2.2.2.2.2.2.2.1.2.2.2.1 (d4 l.2.2.2.2.2.2.2.2.2.1).1 (d4 l.2.2.2.2.2.2.2.2.2.1).2.1 (d4 l.2.2.2.2.2.2.2.2.2.1).2.2.1 l.2.2.2.2.2.2.2.2.2.2.1.2.1 l.2.2.2.2.2.2.2.2.2.2.1.2.2.2.1 (d4 l.2.2.2.2.2.2.2.2.2.2.1).1 (d4 l.2.2.2.2.2.2.2.2.2.2.1).2.1 (d8 l).2.2.2.1 (d12 l).1 (d12 l).2.1 (d12 l).2.2.1) (spS (spS sp1)) ou12 Λ12v2
def hd12 (l : T12) (s : S12) : T12 := (((), (l.1.2.1, (l.1.2.2.1, ((), ((), ((), ((), ((), ((), ((), (s.1, ((), ())))))))))))), (((), (l.2.1.2.1, (l.2.1.2.2.1, (l.2.1.2.2.2.1, ((d4 l.2.1).1, ((d4 l.2.1).2.1, ((d4 l.2.1).2.2.1, ()))))))), (((), (l.2.2.1.2.1, ((), (s.2.1, (s.2.2.1, (s.2.2.2.1, ((), ()))))))), ((d4 s).1, ((d4 s).2.1, ((d4 l).2.1, (((), ((d4 s).2.2.1, ((d4 s).2.2.2.1, ((d8 s).1, ((d8 s).2.1, ((d8 s).2.2.1, ((), ()))))))), ((d8 s).2.2.2.1, (((), ((d12 s).1, ((d12 s).2.1, ((d12 s).2.2.1, ((d12 s).2.2.2.1, ((d16 s).1, ((), ()))))))), (((), (l.2.2.2.2.2.2.2.2.2.1.2.1, (l.2.2.2.2.2.2.2.2.2.1.2.2.1, (l.2.2.2.2.2.2.2.2.2.1.2.2.2.1, ((d4 l.2.2.2.2.2.2.2.2.2.1).1, ((d4 l.2.2.2.2.2.2.2.2.2.1).2.1, ((d4 l.2.2.2.2.2.2.2.2.2.1).2.2.1, ()))))))), (((), (l.2.2.2.2.2.2.2.2.2.2.1.2.1, ((), ((d16 s).2.1, ((d16 s).2.2.1, ((d16 s).2.2.2.1, ((), ()))))))), ((d20 s).1, ((d20 s).2.1, ((d12 l).2.1, ((d20 s).2.2, ())))))))))))))))
def fl12 (l : T12) (s : S12) : Tw (S12 ⊕ X12) := l12 l.1.2.1 l.1.2.2.1 l.2.1.2.1 l.2.1.2.2.1 l.2.1.2.2.2.1 (d4 l.2.1).1 (d4 l.2.1).2.1 (d4 l.2.1).2.2.1 l.2.2.1.2.1 (d4 l).2.1 l.2.2.2.2.2.2.2.2.2.1.2.1 l.2.2.2.2.2.2.2.2.2.1.2.2.1 l.2.2.2.2.2.2.2.2.2.1.2.2.2.1 (d4 l.2.2.2.2.2.2.2.2.2.1).1 (d4 l.2.2.2.2.2.2.2.2.2.1).2.1 (d4 l.2.2.2.2.2.2.2.2.2.1).2.2.1 l.2.2.2.2.2.2.2.2.2.2.1.2.1 (d12 l).2.1 s.1 s.2.1 s.2.2.1 s.2.2.2.1 (d4 s).1 (d4 s).2.1 (d4 s).2.2.1 (d4 s).2.2.2.1 (d8 s).1 (d8 s).2.1 (d8 s).2.2.1 (d8 s).2.2.2.1 (d12 s).1 (d12 s).2.1 (d12 s).2.2.1 (d12 s).2.2.2.1 (d16 s).1 (d16 s).2.1 (d16 s).2.2.1 (d16 s).2.2.2.1 (d20 s).1 (d20 s).2.1 (d20 s).2.2
abbrev T12v3 : Type := ((Unit × ((List (Int × Int × Int)) × ((List Int) × (Unit × (Unit × (Unit × (Unit × (Unit × (Unit × (Unit × (Int × (Unit × Unit)))))))))))) × ((Unit × (Int × (Int × (Int × (Int × (Int × (Int × Unit))))))) × ((Unit × (Int × (Unit × (Int × (Bool × (Int × (Unit × Unit))))))) × ((List Int) × ((List Int) × ((List Int) × ((Unit × (Int × (Int × (Bool × (Int × ((List Int) × (Unit × Unit))))))) × ((List (List Int)) × Unit))))))))
def l12v3 (l_ : (List (Int × Int × Int))) (whole : (List Int)) (i h0_1 h0_2 h0_3 h0_4 h0_5 h0_6 h1_1 h1_3 : Int) (h1_4 : Bool) (h1_5 : Int) (h2 : (List Int)) (h3 : (List Int)) (h4 : (List Int)) (h5_1 h5_2 : Int) (h5_3 : Bool) (h5_4 : Int) (h5_5 : (List Int)) (h6 : (List (List Int))) : Tw (Unit ⊕ Unit) :=
 (.bb (decide (i < (((List.length l_) : Nat) : Int)))
 (.dd (((0 : Int) ≤ i)) inferInstance
 (.opt (l_)[(Int.toNat i)]? fun z46 =>
 (.dd (((0 : Int) ≤ i)) inferInstance
 (.opt (l_)[(Int.toNat i)]? fun z47 =>
 (.dd (((0 : Int) ≤ i)) inferInstance
 (.opt (l_)[(Int.toNat i)]? fun z48 =>
 (.opt (journal_Journal_Change.c (z46.1 :: (z47.2.1 :: (z48.2.2 :: ([] : List (Int))))) whole h5_1 h5_2 h5_3 h5_4 h5_5 h0_1 h0_2 h0_3 h0_4 h0_5 h0_6 h1_1 h1_3 h1_4 h1_5 h2 h3 h4 h6) fun z49 =>
 .no))
 .no))
 .no))
 .no)
 (.ret (.inr ())))
def L12v3 (l_ : (List (Int × Int × Int))) (whole : (List Int)) (i h0_1 h0_2 h0_3 h0_4 h0_5 h0_6 h1_1 h1_3 : Int) (h1_4 : Bool) (h1_5 : Int) (h2 : (List Int)) (h3 : (List Int)) (h4 : (List Int)) (h5_1 h5_2 : Int) (h5_3 : Bool) (h5_4 : Int) (h5_5 : (List Int)) (h6 : (List (List Int))) : Option Unit := Lp (fun s => (l12v3 l_ whole i h0_1 h0_2 h0_3 h0_4 h0_5 h0_6 h1_1 h1_3 h1_4 h1_5 h2 h3 h4 h5_1 h5_2 h5_3 h5_4 h5_5 h6).run) ()
def p12v3 : Pt := (.cs (.bots 1) (.cs (.sl 26) (.cs (.sl 3) (.cs (.bots 7) (.cs (.ptr 0 0) (.cs (.bots 2) (.cs (.ptr 5 0) (.cs (.bots 1) (.cs .nilp (.cs (.bots 1) (jC (.cs (.bots 138) .nl))))))))))))
def q12v3 : Pt := (.cs (.var (.cs (.ptr 1 0) (jC (jC (jC (jC (jC (jC .nl)))))))) (.cs (.var (.cs (.own 2) (jC (.cs (.own 3) (jC (.cs .bool (jC (.cs (.own 4) .nl)))))))) (.cs (.row 3 true) (.cs (.row 1 true) (.cs (.row 3 true) (.cs (.var (.cs (.ptr 0 0) (jC (jC (.cs .bool (jC (.cs (.sl 3) (.cs (.own 6) .nl)))))))) (.cs (.row 12 true) .nl)))))))
def ou12v3 (l : T12v3) (y : Unit) : Ex × St U := (.exit 0, stOf 156 [] [] 0)
def Λ12v3 : LFun U := mkLp p12v3 q12v3 0 (X := Unit) (fun (l : T12v3) => L12v3 l.1.2.1 l.1.2.2.1 (d8 l.1).2.2.1 l.2.1.2.1 l.2.1.2.2.1 l.2.1.2.2.2.1 (d4 l.2.1).1 (d4 l.2.1).2.1 (d4 l.2.1).2.2.1 l.2.2.1.2.1 l.2.2.1.2.2.2.1 (d4 l.2.2.1).1 (d4 l.2.2.1).2.1 l.2.2.2.1 (d4 l).1 (d4 l).2.1 l.2.2.2.2.2.2.1.2.1 l.2.2.2.2.2.2.1.2.2.1 l.2.2.2.2.2.2.1.2.2.2.1 (d4 l.2.2.2.2.2.2.1).1 (d4 l.2.2.2.2.2.2.1).2.1 (d4 l).2.2.2.1) sp1 ou12v3
def hd12v3 (l : T12v3) (s : Unit) : T12v3 := (((), (l.1.2.1, (l.1.2.2.1, ((), ((), ((), ((), ((), ((), ((), ((d8 l.1).2.2.1, ((), ())))))))))))), (((), (l.2.1.2.1, (l.2.1.2.2.1, (l.2.1.2.2.2.1, ((d4 l.2.1).1, ((d4 l.2.1).2.1, ((d4 l.2.1).2.2.1, ()))))))), (((), (l.2.2.1.2.1, ((), (l.2.2.1.2.2.2.1, ((d4 l.2.2.1).1, ((d4 l.2.2.1).2.1, ((), ()))))))), (l.2.2.2.1, ((d4 l).1, ((d4 l).2.1, (((), (l.2.2.2.2.2.2.1.2.1, (l.2.2.2.2.2.2.1.2.2.1, (l.2.2.2.2.2.2.1.2.2.2.1, ((d4 l.2.2.2.2.2.2.1).1, ((d4 l.2.2.2.2.2.2.1).2.1, ((), ()))))))), ((d4 l).2.2.2.1, ()))))))))
def fl12v3 (l : T12v3) (s : Unit) : Tw (Unit ⊕ Unit) := l12v3 l.1.2.1 l.1.2.2.1 (d8 l.1).2.2.1 l.2.1.2.1 l.2.1.2.2.1 l.2.1.2.2.2.1 (d4 l.2.1).1 (d4 l.2.1).2.1 (d4 l.2.1).2.2.1 l.2.2.1.2.1 l.2.2.1.2.2.2.1 (d4 l.2.2.1).1 (d4 l.2.2.1).2.1 l.2.2.2.1 (d4 l).1 (d4 l).2.1 l.2.2.2.2.2.2.1.2.1 l.2.2.2.2.2.2.1.2.2.1 l.2.2.2.2.2.2.1.2.2.2.1 (d4 l.2.2.2.2.2.2.1).1 (d4 l.2.2.2.2.2.2.1).2.1 (d4 l).2.2.2.1
abbrev T12v4 : Type := ((Unit × ((List (Int × Int × Int)) × ((List Int) × (Unit × (Unit × (Unit × (Unit × (Unit × (Unit × (Unit × (Int × (Unit × Unit)))))))))))) × ((Unit × (Int × (Int × (Int × (Int × (Int × (Int × Unit))))))) × ((Unit × (Int × (Unit × (Int × (Bool × (Int × (Unit × Unit))))))) × ((List Int) × ((List Int) × ((List Int) × Unit))))))
def l12v4 (l_ : (List (Int × Int × Int))) (whole : (List Int)) (i h0_1 h0_2 h0_3 h0_4 h0_5 h0_6 h1_1 h1_3 : Int) (h1_4 : Bool) (h1_5 : Int) (h2 : (List Int)) (h3 : (List Int)) (h4 : (List Int)) : Tw (Unit ⊕ Unit) :=
 (.bb (decide (i < (((List.length l_) : Nat) : Int)))
 (.dd (((0 : Int) ≤ i)) inferInstance
 (.opt (l_)[(Int.toNat i)]? fun z60 =>
 (.dd (((0 : Int) ≤ i)) inferInstance
 (.opt (l_)[(Int.toNat i)]? fun z61 =>
 (.dd (((0 : Int) ≤ i)) inferInstance
 (.opt (l_)[(Int.toNat i)]? fun z62 =>
 .no)
 .no))
 .no))
 .no)
 (.ret (.inr ())))
def L12v4 (l_ : (List (Int × Int × Int))) (whole : (List Int)) (i h0_1 h0_2 h0_3 h0_4 h0_5 h0_6 h1_1 h1_3 : Int) (h1_4 : Bool) (h1_5 : Int) (h2 : (List Int)) (h3 : (List Int)) (h4 : (List Int)) : Option Unit := Lp (fun s => (l12v4 l_ whole i h0_1 h0_2 h0_3 h0_4 h0_5 h0_6 h1_1 h1_3 h1_4 h1_5 h2 h3 h4).run) ()
def p12v4 : Pt := (.cs (.bots 1) (.cs (.sl 26) (.cs (.sl 3) (.cs (.bots 7) (.cs (.ptr 0 0) (.cs (.bots 2) (.cs .nilp (.cs (.bots 1) (.cs .nilp (.cs (.bots 1) (jC (.cs (.bots 138) .nl))))))))))))
def q12v4 : Pt := (.cs (.var (.cs (.ptr 1 0) (jC (jC (jC (jC (jC (jC .nl)))))))) (.cs (.var (.cs (.own 2) (jC (.cs (.own 3) (jC (.cs .bool (jC (.cs (.own 4) .nl)))))))) (.cs (.row 3 true) (.cs (.row 1 true) (.cs (.row 3 true) .nl)))))
def ou12v4 (l : T12v4) (y : Unit) : Ex × St U := (.exit 0, stOf 156 [] [] 0)
def Λ12v4 : LFun U := mkLp p12v4 q12v4 0 (X := Unit) (fun (l : T12v4) => L12v4 l.1.2.1 l.1.2.2.1 (d8 l.1).2.2.1 l.2.1.2.1 l.2.1.2.2.1 l.2.1.2.2.2.1 (d4 l.2.1).1 (d4 l.2.1).2.1 (d4 l.2.1).2.2.1 l.2.2.1.2.1 l.2.2.1.2.2.2.1 (d4 l.2.2.1).1 (d4 l.2.2.1).2.1 l.2.2.2.1 (d4 l).1 (d4 l).2.1) sp1 ou12v4
def hd12v4 (l : T12v4) (s : Unit) : T12v4 := (((), (l.1.2.1, (l.1.2.2.1, ((), ((), ((), ((), ((), ((), ((), ((d8 l.1).2.2.1, ((), ())))))))))))), (((), (l.2.1.2.1, (l.2.1.2.2.1, (l.2.1.2.2.2.1, ((d4 l.2.1).1, ((d4 l.2.1).2.1, ((d4 l.2.1).2.2.1, ()))))))), (((), (l.2.2.1.2.1, ((), (l.2.2.1.2.2.2.1, ((d4 l.2.2.1).1, ((d4 l.2.2.1).2.1, ((), ()))))))), (l.2.2.2.1, ((d4 l).1, ((d4 l).2.1, ()))))))
def fl12v4 (l : T12v4) (s : Unit) : Tw (Unit ⊕ Unit) := l12v4 l.1.2.1 l.1.2.2.1 (d8 l.1).2.2.1 l.2.1.2.1 l.2.1.2.2.1 l.2.1.2.2.2.1 (d4 l.2.1).1 (d4 l.2.1).2.1 (d4 l.2.1).2.2.1 l.2.2.1.2.1 l.2.2.1.2.2.2.1 (d4 l.2.2.1).1 (d4 l.2.2.1).2.1 l.2.2.2.1 (d4 l).1 (d4 l).2.1
def t (s__0 s__1 s__2 : Int) (s__3 : Bool) (s__4 s__5 s__6 s__7 s__8 s__9 s__10 s__11 s__12 s__13 s__14 s__15 s__16 s__17 s__18 s__19 s__20 s__21 s__22 s__23 s__24 s__25 s__26 s__27 s__28 s__29 s__30 : Int) (l_ : (List (Int × Int × Int))) (whole : (List Int)) : Tw Bool :=
 (.opt (ref34_Right.c s__0 s__1 s__2 s__3 s__4 s__5 s__6 s__7 s__8 s__9 s__10 s__11 s__12 s__13 s__14 s__15 s__16 s__17 s__18 s__19 s__20 s__21 s__22 s__23 s__24 s__25 s__26 s__27 s__28 s__29 s__30) fun z1 =>
 (.bb (!z1)
 (.opt (law34_awake.c) fun z80 =>
 (.ret z80))
 (.bb (decide ((((List.length l_) : Nat) : Int) > (30 : Int)))
 (.opt (law34_awake.c) fun z79 =>
 (.ret z79))
 (.bb (decide ((((List.length whole) : Nat) : Int) < (1 : Int)))
 (.opt (law34_awake.c) fun z78 =>
 (.ret z78))
 (.bb (decide ((((List.length whole) : Nat) : Int) > (56 : Int)))
 (.opt (law34_awake.c) fun z77 =>
 (.ret z77))
 (.opt (flash_New.c (11 : Int) (64 : Int)) fun z2 =>
 (.sm z2
 (fun z3 => (.opt (drive_New.c (64 : Int) (2 : Int) (5 : Int) (2 : Int) (1 : Int) (1000 : Int) (64 : Int) z3.2.1 z3.2.2.1 z3.2.2.2.1 (d4 z3).1 (d4 z3).2.1 (d4 z3).2.2) fun z5 =>
 (.sm z5
 (fun z6 => (.opt (ref09_New.c (64 : Int) (2 : Int) (5 : Int) (2 : Int) (1 : Int) (1000 : Int)) fun z8 =>
 (.sm z8
 (fun z9 => (.opt (ref34_Lay.c s__0 s__1 s__2 s__3 s__4 s__5 s__6 s__7 s__8 s__9 s__10 s__11 s__12 s__13 s__14 s__15 s__16 s__17 s__18 s__19 s__20 s__21 s__22 s__23 s__24 s__25 s__26 s__27 s__28 s__29 s__30) fun z11 =>
 (.opt (journal_New.c z11 (64 : Int) (2 : Int) (5 : Int) (2 : Int) (1 : Int) (1000 : Int) (64 : Int) z3.2.1 z3.2.2.1 z3.2.2.2.1 (d4 z3).1 (d4 z3).2.1 (d4 z3).2.2) fun z12 =>
 (.sm z12
 (fun z13 => (.opt (ref34_Lay.c s__0 s__1 s__2 s__3 s__4 s__5 s__6 s__7 s__8 s__9 s__10 s__11 s__12 s__13 s__14 s__15 s__16 s__17 s__18 s__19 s__20 s__21 s__22 s__23 s__24 s__25 s__26 s__27 s__28 s__29 s__30) fun z15 =>
 (.opt (ref11_New.c z15 (64 : Int) (2 : Int) (5 : Int) (2 : Int) (1 : Int) (1000 : Int) (64 : Int) z9.1 z9.2.1 z9.2.2.1 z9.2.2.2.1 (d4 z9).1 (d4 z9).2) fun z16 =>
 (.sm z16
 (fun z17 => (.bb (z13.1 != (0 : Int))
 (.ret false)
 (.bb (z17.1 != (0 : Int))
 (.ret false)
 (.opt (L12 l_ whole (0 : Int) (64 : Int) (2 : Int) (5 : Int) (2 : Int) (1 : Int) (1000 : Int) (64 : Int) z13.2.1 z13.2.2.1 z13.2.2.2.1 (d4 z13).1 (d4 z13).2.1 (d4 z3).2.2 (d4 z13).2.2.1 (d4 z13).2.2.2.1 (d8 z13).1 (d8 z13).2.1 (d8 z13).2.2.1 (d8 z13).2.2.2 (d4 z17).2.2.1 (d4 z17).2.2.2.1 (d8 z17).1 (d8 z17).2.1 (d8 z17).2.2.1 (64 : Int) (2 : Int) (5 : Int) (2 : Int) (1 : Int) (1000 : Int) (64 : Int) z17.2.1 z17.2.2.1 z17.2.2.2.1 (d4 z17).1 (d4 z17).2.1 (d4 z9).2 (d8 z17).2.2.2) fun z36 =>
 (.sm z36
 (fun z37 => (.opt (book_Fold_nil0.c) fun z39 =>
 (.bb ((z39.1 == (0 : Int)) && ((z39.2.1 == (0 : Int)) && ((z39.2.2.1 == (0 : Int)) && ((z39.2.2.2.1 == false) && (((d4 z39).1 == (0 : Int)) && (((d4 z39).2.1 == (0 : Int)) && (((d4 z39).2.2.1 == (0 : Int)) && (((d4 z39).2.2.2.1 == (0 : Int)) && (((d8 z39).1 == (0 : Int)) && (((d8 z39).2.1 == (0 : Int)) && (((d8 z39).2.2.1 == (0 : Int)) && (((d8 z39).2.2.2.1 == (0 : Int)) && (((d12 z39).1 == (0 : Int)) && (((d12 z39).2.1 == (0 : Int)) && (((d12 z39).2.2.1 == (0 : Int)) && (((d12 z39).2.2.2.1 == (0 : Int)) && (((d16 z39).1 == (0 : Int)) && (((d16 z39).2.1 == (0 : Int)) && (((d16 z39).2.2.1 == (0 : Int)) && (((d16 z39).2.2.2.1 == (0 : Int)) && (((d20 z39).1 == (0 : Int)) && (((d20 z39).2.1 == (0 : Int)) && (((d20 z39).2.2.1 == (0 : Int)) && (((d20 z39).2.2.2.1 == (0 : Int)) && (((d24 z39).1 == (0 : Int)) && (((d24 z39).2.1 == (0 : Int)) && (((d24 z39).2.2.1 == (0 : Int)) && (((d24 z39).2.2.2.1 == (0 : Int)) && (((d28 z39).1 == (0 : Int)) && (((d28 z39).2.1 == (0 : Int)) && (((d28 z39).2.2.1 == (0 : Int)) && true)))))))))))))))))))))))))))))))
 (.bb ((d28 z39).2.2.2 == (1 : Int))
 (.opt (law34_awake.c) fun z40 =>
 (.ret z40))
 (.ret false))
 (.ret false))))
 (fun z38 => (.sm z38
 (fun z41 => (.ret z41))
 (fun z42 => (.opt (L12v2 l_ whole z42.1 (64 : Int) (2 : Int) (5 : Int) (2 : Int) (1 : Int) (1000 : Int) (64 : Int) z42.2.1 z42.2.2.1 z42.2.2.2.1 (d4 z42).1 (d4 z42).2.1 (d4 z3).2.2 (d4 z42).2.2.1 (d4 z42).2.2.2.1 (d8 z42).1 (d8 z42).2.1 (d8 z42).2.2.1 (64 : Int) (2 : Int) (5 : Int) (2 : Int) (1 : Int) (1000 : Int) (64 : Int) (d8 z42).2.2.2.1 (d12 z42).1 (d12 z42).2.1 (d12 z42).2.2.1 (d12 z42).2.2.2.1 (d4 z9).2 (d16 z42)) fun z43 =>
 (.opt (book_Fold_nil0.c) fun z44 =>
 (.bb ((z44.1 == (0 : Int)) && ((z44.2.1 == (0 : Int)) && ((z44.2.2.1 == (0 : Int)) && ((z44.2.2.2.1 == false) && (((d4 z44).1 == (0 : Int)) && (((d4 z44).2.1 == (0 : Int)) && (((d4 z44).2.2.1 == (0 : Int)) && (((d4 z44).2.2.2.1 == (0 : Int)) && (((d8 z44).1 == (0 : Int)) && (((d8 z44).2.1 == (0 : Int)) && (((d8 z44).2.2.1 == (0 : Int)) && (((d8 z44).2.2.2.1 == (0 : Int)) && (((d12 z44).1 == (0 : Int)) && (((d12 z44).2.1 == (0 : Int)) && (((d12 z44).2.2.1 == (0 : Int)) && (((d12 z44).2.2.2.1 == (0 : Int)) && (((d16 z44).1 == (0 : Int)) && (((d16 z44).2.1 == (0 : Int)) && (((d16 z44).2.2.1 == (0 : Int)) && (((d16 z44).2.2.2.1 == (0 : Int)) && (((d20 z44).1 == (0 : Int)) && (((d20 z44).2.1 == (0 : Int)) && (((d20 z44).2.2.1 == (0 : Int)) && (((d20 z44).2.2.2.1 == (0 : Int)) && (((d24 z44).1 == (0 : Int)) && (((d24 z44).2.1 == (0 : Int)) && (((d24 z44).2.2.1 == (0 : Int)) && (((d24 z44).2.2.2.1 == (0 : Int)) && (((d28 z44).1 == (0 : Int)) && (((d28 z44).2.1 == (0 : Int)) && (((d28 z44).2.2.1 == (0 : Int)) && true)))))))))))))))))))))))))))))))
 (.bb ((d28 z44).2.2.2 == (1 : Int))
 (.opt (law34_awake.c) fun z45 =>
 (.ret z45))
 (.ret false))
 (.ret false))))))))))))
 (fun z18 => (.bb (z13.1 != (0 : Int))
 (.ret false)
 (.bb (z18.1 != (0 : Int))
 (.ret false)
 (.opt (L12v3 l_ whole (0 : Int) (64 : Int) (2 : Int) (5 : Int) (2 : Int) (1 : Int) (1000 : Int) (64 : Int) z13.2.1 z13.2.2.1 z13.2.2.2.1 (d4 z13).1 (d4 z13).2.1 (d4 z3).2.2 (d4 z13).2.2.1 (d4 z13).2.2.2.1 (d8 z13).1 (d8 z13).2.1 (d8 z13).2.2.1 (d8 z13).2.2.2) fun z50 =>
 (.opt (book_Fold_nil0.c) fun z51 =>
 (.bb ((z51.1 == (0 : Int)) && ((z51.2.1 == (0 : Int)) && ((z51.2.2.1 == (0 : Int)) && ((z51.2.2.2.1 == false) && (((d4 z51).1 == (0 : Int)) && (((d4 z51).2.1 == (0 : Int)) && (((d4 z51).2.2.1 == (0 : Int)) && (((d4 z51).2.2.2.1 == (0 : Int)) && (((d8 z51).1 == (0 : Int)) && (((d8 z51).2.1 == (0 : Int)) && (((d8 z51).2.2.1 == (0 : Int)) && (((d8 z51).2.2.2.1 == (0 : Int)) && (((d12 z51).1 == (0 : Int)) && (((d12 z51).2.1 == (0 : Int)) && (((d12 z51).2.2.1 == (0 : Int)) && (((d12 z51).2.2.2.1 == (0 : Int)) && (((d16 z51).1 == (0 : Int)) && (((d16 z51).2.1 == (0 : Int)) && (((d16 z51).2.2.1 == (0 : Int)) && (((d16 z51).2.2.2.1 == (0 : Int)) && (((d20 z51).1 == (0 : Int)) && (((d20 z51).2.1 == (0 : Int)) && (((d20 z51).2.2.1 == (0 : Int)) && (((d20 z51).2.2.2.1 == (0 : Int)) && (((d24 z51).1 == (0 : Int)) && (((d24 z51).2.1 == (0 : Int)) && (((d24 z51).2.2.1 == (0 : Int)) && (((d24 z51).2.2.2.1 == (0 : Int)) && (((d28 z51).1 == (0 : Int)) && (((d28 z51).2.1 == (0 : Int)) && (((d28 z51).2.2.1 == (0 : Int)) && true)))))))))))))))))))))))))))))))
 (.bb ((d28 z51).2.2.2 == (1 : Int))
 (.opt (law34_awake.c) fun z52 =>
 (.ret z52))
 (.ret false))
 (.ret false)))))))))))
 (fun z14 => (.opt (ref34_Lay.c s__0 s__1 s__2 s__3 s__4 s__5 s__6 s__7 s__8 s__9 s__10 s__11 s__12 s__13 s__14 s__15 s__16 s__17 s__18 s__19 s__20 s__21 s__22 s__23 s__24 s__25 s__26 s__27 s__28 s__29 s__30) fun z53 =>
 (.opt (ref11_New.c z53 (64 : Int) (2 : Int) (5 : Int) (2 : Int) (1 : Int) (1000 : Int) (64 : Int) z9.1 z9.2.1 z9.2.2.1 z9.2.2.2.1 (d4 z9).1 (d4 z9).2) fun z54 =>
 (.sm z54
 (fun z55 => (.bb (z14.1 != (0 : Int))
 (.ret false)
 (.bb (z55.1 != (0 : Int))
 (.ret false)
 (.opt (L12v2 l_ whole (0 : Int) (64 : Int) (2 : Int) (5 : Int) (2 : Int) (1 : Int) (1000 : Int) (64 : Int) z14.2.1 z14.2.2.1 z14.2.2.2.1 (d4 z14).1 (d4 z14).2 (d4 z3).2.2 (d4 z55).2.2.1 (d4 z55).2.2.2.1 (d8 z55).1 (d8 z55).2.1 (d8 z55).2.2.1 (64 : Int) (2 : Int) (5 : Int) (2 : Int) (1 : Int) (1000 : Int) (64 : Int) z55.2.1 z55.2.2.1 z55.2.2.2.1 (d4 z55).1 (d4 z55).2.1 (d4 z9).2 (d8 z55).2.2.2) fun z57 =>
 (.opt (book_Fold_nil0.c) fun z58 =>
 (.bb ((z58.1 == (0 : Int)) && ((z58.2.1 == (0 : Int)) && ((z58.2.2.1 == (0 : Int)) && ((z58.2.2.2.1 == false) && (((d4 z58).1 == (0 : Int)) && (((d4 z58).2.1 == (0 : Int)) && (((d4 z58).2.2.1 == (0 : Int)) && (((d4 z58).2.2.2.1 == (0 : Int)) && (((d8 z58).1 == (0 : Int)) && (((d8 z58).2.1 == (0 : Int)) && (((d8 z58).2.2.1 == (0 : Int)) && (((d8 z58).2.2.2.1 == (0 : Int)) && (((d12 z58).1 == (0 : Int)) && (((d12 z58).2.1 == (0 : Int)) && (((d12 z58).2.2.1 == (0 : Int)) && (((d12 z58).2.2.2.1 == (0 : Int)) && (((d16 z58).1 == (0 : Int)) && (((d16 z58).2.1 == (0 : Int)) && (((d16 z58).2.2.1 == (0 : Int)) && (((d16 z58).2.2.2.1 == (0 : Int)) && (((d20 z58).1 == (0 : Int)) && (((d20 z58).2.1 == (0 : Int)) && (((d20 z58).2.2.1 == (0 : Int)) && (((d20 z58).2.2.2.1 == (0 : Int)) && (((d24 z58).1 == (0 : Int)) && (((d24 z58).2.1 == (0 : Int)) && (((d24 z58).2.2.1 == (0 : Int)) && (((d24 z58).2.2.2.1 == (0 : Int)) && (((d28 z58).1 == (0 : Int)) && (((d28 z58).2.1 == (0 : Int)) && (((d28 z58).2.2.1 == (0 : Int)) && true)))))))))))))))))))))))))))))))
 (.bb ((d28 z58).2.2.2 == (1 : Int))
 (.opt (law34_awake.c) fun z59 =>
 (.ret z59))
 (.ret false))
 (.ret false)))))))
 (fun z56 => (.bb (z14.1 != (0 : Int))
 (.ret false)
 (.bb (z56.1 != (0 : Int))
 (.ret false)
 (.opt (L12v4 l_ whole (0 : Int) (64 : Int) (2 : Int) (5 : Int) (2 : Int) (1 : Int) (1000 : Int) (64 : Int) z14.2.1 z14.2.2.1 z14.2.2.2.1 (d4 z14).1 (d4 z14).2 (d4 z3).2.2) fun z63 =>
 (.opt (book_Fold_nil0.c) fun z64 =>
 (.bb ((z64.1 == (0 : Int)) && ((z64.2.1 == (0 : Int)) && ((z64.2.2.1 == (0 : Int)) && ((z64.2.2.2.1 == false) && (((d4 z64).1 == (0 : Int)) && (((d4 z64).2.1 == (0 : Int)) && (((d4 z64).2.2.1 == (0 : Int)) && (((d4 z64).2.2.2.1 == (0 : Int)) && (((d8 z64).1 == (0 : Int)) && (((d8 z64).2.1 == (0 : Int)) && (((d8 z64).2.2.1 == (0 : Int)) && (((d8 z64).2.2.2.1 == (0 : Int)) && (((d12 z64).1 == (0 : Int)) && (((d12 z64).2.1 == (0 : Int)) && (((d12 z64).2.2.1 == (0 : Int)) && (((d12 z64).2.2.2.1 == (0 : Int)) && (((d16 z64).1 == (0 : Int)) && (((d16 z64).2.1 == (0 : Int)) && (((d16 z64).2.2.1 == (0 : Int)) && (((d16 z64).2.2.2.1 == (0 : Int)) && (((d20 z64).1 == (0 : Int)) && (((d20 z64).2.1 == (0 : Int)) && (((d20 z64).2.2.1 == (0 : Int)) && (((d20 z64).2.2.2.1 == (0 : Int)) && (((d24 z64).1 == (0 : Int)) && (((d24 z64).2.1 == (0 : Int)) && (((d24 z64).2.2.1 == (0 : Int)) && (((d24 z64).2.2.2.1 == (0 : Int)) && (((d28 z64).1 == (0 : Int)) && (((d28 z64).2.1 == (0 : Int)) && (((d28 z64).2.2.1 == (0 : Int)) && true)))))))))))))))))))))))))))))))
 (.bb ((d28 z64).2.2.2 == (1 : Int))
 (.opt (law34_awake.c) fun z65 =>
 (.ret z65))
 (.ret false))
 (.ret false)))))))))))))))
 (fun z10 => (.opt (ref34_Lay.c s__0 s__1 s__2 s__3 s__4 s__5 s__6 s__7 s__8 s__9 s__10 s__11 s__12 s__13 s__14 s__15 s__16 s__17 s__18 s__19 s__20 s__21 s__22 s__23 s__24 s__25 s__26 s__27 s__28 s__29 s__30) fun z66 =>
 (.opt (journal_New.c z66 (64 : Int) (2 : Int) (5 : Int) (2 : Int) (1 : Int) (1000 : Int) (64 : Int) z3.2.1 z3.2.2.1 z3.2.2.2.1 (d4 z3).1 (d4 z3).2.1 (d4 z3).2.2) fun z67 =>
 (.sm z67
 (fun z68 => (.opt (ref34_Lay.c s__0 s__1 s__2 s__3 s__4 s__5 s__6 s__7 s__8 s__9 s__10 s__11 s__12 s__13 s__14 s__15 s__16 s__17 s__18 s__19 s__20 s__21 s__22 s__23 s__24 s__25 s__26 s__27 s__28 s__29 s__30) fun z70 =>
 .no))
 (fun z69 => (.opt (ref34_Lay.c s__0 s__1 s__2 s__3 s__4 s__5 s__6 s__7 s__8 s__9 s__10 s__11 s__12 s__13 s__14 s__15 s__16 s__17 s__18 s__19 s__20 s__21 s__22 s__23 s__24 s__25 s__26 s__27 s__28 s__29 s__30) fun z71 =>
 .no)))))))))
 (fun z7 => (.opt (ref09_New.c (64 : Int) (2 : Int) (5 : Int) (2 : Int) (1 : Int) (1000 : Int)) fun z72 =>
 (.sm z72
 (fun z73 => (.opt (ref34_Lay.c s__0 s__1 s__2 s__3 s__4 s__5 s__6 s__7 s__8 s__9 s__10 s__11 s__12 s__13 s__14 s__15 s__16 s__17 s__18 s__19 s__20 s__21 s__22 s__23 s__24 s__25 s__26 s__27 s__28 s__29 s__30) fun z75 =>
 .no))
 (fun z74 => (.opt (ref34_Lay.c s__0 s__1 s__2 s__3 s__4 s__5 s__6 s__7 s__8 s__9 s__10 s__11 s__12 s__13 s__14 s__15 s__16 s__17 s__18 s__19 s__20 s__21 s__22 s__23 s__24 s__25 s__26 s__27 s__28 s__29 s__30) fun z76 =>
 .no))))))))
 (fun z4 => .no))))))))
def c (s__0 s__1 s__2 : Int) (s__3 : Bool) (s__4 s__5 s__6 s__7 s__8 s__9 s__10 s__11 s__12 s__13 s__14 s__15 s__16 s__17 s__18 s__19 s__20 s__21 s__22 s__23 s__24 s__25 s__26 s__27 s__28 s__29 s__30 : Int) (l_ : (List (Int × Int × Int))) (whole : (List Int)) : Option Bool := (t s__0 s__1 s__2 s__3 s__4 s__5 s__6 s__7 s__8 s__9 s__10 s__11 s__12 s__13 s__14 s__15 s__16 s__17 s__18 s__19 s__20 s__21 s__22 s__23 s__24 s__25 s__26 s__27 s__28 s__29 s__30 l_ whole).run
def tl (l : TA) : Tw Bool := t l.1.1.1 l.1.1.2.1 l.1.1.2.2.1 l.1.1.2.2.2.1 (d4 l.1.1).1 (d4 l.1.1).2.1 (d4 l.1.1).2.2.1 (d4 l.1.1).2.2.2.1 (d8 l.1.1).1 (d8 l.1.1).2.1 (d8 l.1.1).2.2.1 (d8 l.1.1).2.2.2.1 (d12 l.1.1).1 (d12 l.1.1).2.1 (d12 l.1.1).2.2.1 (d12 l.1.1).2.2.2.1 (d16 l.1.1).1 (d16 l.1.1).2.1 (d16 l.1.1).2.2.1 (d16 l.1.1).2.2.2.1 (d20 l.1.1).1 (d20 l.1.1).2.1 (d20 l.1.1).2.2.1 (d20 l.1.1).2.2.2.1 (d24 l.1.1).1 (d24 l.1.1).2.1 (d24 l.1.1).2.2.1 (d24 l.1.1).2.2.2.1 (d28 l.1.1).1 (d28 l.1.1).2.1 (d28 l.1.1).2.2.1 l.1.2.1 l.1.2.2.1
def pA : Pt := (.cs (.agg (jC (jC (jC (.cs .bool (jC (jC (jC (jC (.cs (.int .u32) (.cs (.int .u32) (.cs (.int .u32) (.cs (.int .u32) (.cs (.int .u32) (.cs (.int .u32) (.cs (.int .u32) (.cs (.int .u32) (jC (jC (jC (.cs (.int .u32) (.cs (.int .u32) (.cs (.int .u32) (.cs (.int .u32) (.cs (.int .u32) (.cs (.int .u32) (.cs (.int .u32) (.cs (.int .u32) (jC (jC (jC (jC .nl)))))))))))))))))))))))))))))))) (.cs (.sl 26) (.cs (.sl 3) .nl)))
def pH : Pt := .nl
def v (l : TA) (y : Bool) : AV U := jB y
def hh (l : TA) (y : Bool) : Hp U := []
def A : AFun U := mkA pA pH (X := Bool) (fun l => (tl l).run) sp1 v hh
def body := bodyOf Try.f4
def E : Env U := E0.mk5 [(21, ref34_Right.A), (16, flash_New.A), (18, drive_New.A), (23, ref09_New.A), (24, ref34_Lay.A), (20, journal_New.A), (25, ref11_New.A), (13, journal_Journal_Change.A), (26, ref11_Journal_Put.A), (27, (orA book_Fold.pA book_Fold.pH book_Fold.A book_Fold_nil0.A)), (28, ref34_Fold.A), (19, journal_Open.A), (22, law34_awake.A)] [(12, (orL p12v2 q12v2 Λ12v2 (orL p12 q12 Λ12 (orL p12v3 q12v3 Λ12v3 Λ12v4))))] [] [(12, ⟨[17, 15, 10, 13, 2, 1], []⟩, ⟨[6], []⟩)] [18, 27]
theorem hf12v2 : HF E (pick (loopsOf body) 12) p12v2 q12v2 0 fl12v2 hd12v2 sp1 ou12v2 := fun _ _ _ _ => by kernel_rfl
theorem lk12v2 : LK E (pick (loopsOf body) 12) Λ12v2 := fun R st K r h =>
  lp_ok (E := E) (b := pick (loopsOf body) 12) (m := 0) (sp := sp1) (p := p12v2) (q := q12v2) (X := Unit) (S := Unit) (f := fl12v2) (hd := hd12v2) (s0 := fun (l : T12v2) => ()) (ou := ou12v2)
    (fun l => rfl) (fun l x => by rfl) sp1_ok hf12v2 h
theorem hf12 : HF E (pick (loopsOf body) 12) p12 q12 0 fl12 hd12 (spS (spS sp1)) ou12 := fun _ _ _ _ => by kernel_rfl
theorem lk12 : LK E (pick (loopsOf body) 12) Λ12 := fun R st K r h =>
  lq_ok (U := U) (E := E) (b := pick (loopsOf body) 12) (m := 0) (sp := (spS (spS sp1))) (p := p12) (q := q12) (X := X12) (S := S12) (f := fl12) (hd := hd12) (s0 := fun (l : T12) => ((d8 l.1).2.2.1, (l.2.2.1.2.2.2.1, ((d4 l.2.2.1).1, ((d4 l.2.2.1).2.1, (l.2.2.2.1, ((d4 l).1, (l.2.2.2.2.2.2.1.2.1, (l.2.2.2.2.2.2.1.2.2.1, (l.2.2.2.2.2.2.1.2.2.2.1, ((d4 l.2.2.2.2.2.2.1).1, ((d4 l.2.2.2.2.2.2.1).2.1, ((d4 l).2.2.2.1, (l.2.2.2.2.2.2.2.2.1.2.1, (l.2.2.2.2.2.2.2.2.1.2.2.1, (l.2.2.2.2.2.2.2.2.1.2.2.2.1, ((d4 l.2.2.2.2.2.2.2.2.1).1, ((d4 l.2.2.2.2.2.2.2.2.1).2.1, (l.2.2.2.2.2.2.2.2.2.2.1.2.2.2.1, ((d4 l.2.2.2.2.2.2.2.2.2.2.1).1, ((d4 l.2.2.2.2.2.2.2.2.2.2.1).2.1, ((d8 l).2.2.2.1, ((d12 l).1, (d12 l).2.2.1))))))))))))))))))))))) (ou := ou12)
    (fun l => rfl) (spS_ok (spS_ok sp1_ok)) hf12 lk12v2 h
theorem hf12v3 : HF E (pick (loopsOf body) 12) p12v3 q12v3 0 fl12v3 hd12v3 sp1 ou12v3 := fun _ _ _ _ => by kernel_rfl
theorem lk12v3 : LK E (pick (loopsOf body) 12) Λ12v3 := fun R st K r h =>
  lp_ok (E := E) (b := pick (loopsOf body) 12) (m := 0) (sp := sp1) (p := p12v3) (q := q12v3) (X := Unit) (S := Unit) (f := fl12v3) (hd := hd12v3) (s0 := fun (l : T12v3) => ()) (ou := ou12v3)
    (fun l => rfl) (fun l x => by rfl) sp1_ok hf12v3 h
theorem hf12v4 : HF E (pick (loopsOf body) 12) p12v4 q12v4 0 fl12v4 hd12v4 sp1 ou12v4 := fun _ _ _ _ => by kernel_rfl
theorem lk12v4 : LK E (pick (loopsOf body) 12) Λ12v4 := fun R st K r h =>
  lp_ok (E := E) (b := pick (loopsOf body) 12) (m := 0) (sp := sp1) (p := p12v4) (q := q12v4) (X := Unit) (S := Unit) (f := fl12v4) (hd := hd12v4) (s0 := fun (l : T12v4) => ()) (ou := ou12v4)
    (fun l => rfl) (fun l x => by rfl) sp1_ok hf12v4 h
theorem hk : HK E Try.f4 [] pA pH tl v hh := fun _ _ _ => by kernel_rfl
theorem okF : SoundF Try.prog cc 4 (funcA E Try.f4 []) :=
  funcA_ok (E := E) P_mixed (E0_ok.mk5 _ _ _ _ _) (gam_of (all_cons ref34_Right.og (all_cons flash_New.og (all_cons drive_New.og (all_cons ref09_New.og (all_cons ref34_Lay.og (all_cons journal_New.og (all_cons ref11_New.og (all_cons journal_Journal_Change.og (all_cons ⟨ref11_Journal_Put.ok, ref11_Journal_Put.fo⟩ (all_cons ⟨(orA_ok book_Fold.ok book_Fold_nil0.ok), book_Fold.fo⟩ (all_cons ref34_Fold.og (all_cons journal_Open.og (all_cons law34_awake.og all_nil))))))))))))) (all_cons (no_keep (by kernel_rfl)) (all_cons (no_keep (by kernel_rfl)) (all_cons (fun _ => drive_New.keep) (all_cons (no_keep (by kernel_rfl)) (all_cons (no_keep (by kernel_rfl)) (all_cons (no_keep (by kernel_rfl)) (all_cons (no_keep (by kernel_rfl)) (all_cons (no_keep (by kernel_rfl)) (all_cons (no_keep (by kernel_rfl)) (all_cons (fun _ => (orA_keep book_Fold.keep book_Fold_nil0.keep)) (all_cons (no_keep (by kernel_rfl)) (all_cons (no_keep (by kernel_rfl)) (all_cons (no_keep (by kernel_rfl)) all_nil)))))))))))))) Try.func4 (c := body) (by kernel_rfl)
    (just_by (by kernel_rfl) (by kernel_rfl) (all_cons (orL_ok lk12v2 (orL_ok lk12 (orL_ok lk12v3 lk12v4))) all_nil) all_nil) []
theorem ok : SoundF Try.prog cc 4 A :=
  mkA_ok (E := E) (p := pA) (q := pH) (t := tl) sp1_ok hk okF
theorem fo : FnOK Try.prog 4 := ⟨Try.f4, Try.func4, by kernel_rfl, by kernel_rfl⟩
end law34_BookFolds

end
end Go.Proofs.Ytkoidgjgdhpdnaa.Va
