/- The functions of package law32SlotKeeps, as plain functions, and that the program computes them. Printed by a program of this work out of the evaluator. -/
import Derived.Test.YtnlclchlnngdnaaEn
import Derived.Tactics
import Derived.Test.YtnlclchlnngdnaaFflash
import Derived.Test.YtnlclchlnngdnaaFlaw32
import Derived.Test.YtnlclchlnngdnaaFref01
import Derived.Test.YtnlclchlnngdnaaFref07
import Derived.Test.YtnlclchlnngdnaaFref08
import Derived.Test.YtnlclchlnngdnaaFref09
import Derived.Test.YtnlclchlnngdnaaFref32
import Derived.Test.YtnlclchlnngdnaaFslot
namespace Go.Proofs.Ytnlclchlnngdnaa.Va
open Go
set_option linter.unusedVariables false
set_option maxRecDepth 100000

/-! instar/instarlaw32.SlotKeeps -/
namespace law32_SlotKeeps
abbrev TA : Type := (((Int × (Int × (Int × (Int × (Int × (Int × (Int × ((List Act32) × Unit)))))))) × ((Int × (Int × (Int × ((List Int) × ((List Int) × (Int × ((List Int) × Unit))))))) × Unit)) × Unit)
abbrev T31 : Type := ((Unit × (Unit × (Unit × (Unit × (Unit × (Int × (Unit × (Unit × (Unit × (Unit × (Int × (Unit × (Int × (Unit × Unit)))))))))))))) × ((Int × (Int × (Int × (Int × (Int × (Int × (Int × ((List Act32) × Unit)))))))) × ((Int × (Int × (Int × ((List Int) × ((List Int) × Unit))))) × ((List Int) × ((Unit × (Int × (Int × (Int × (Int × (Int × (Int × Unit))))))) × ((Unit × (Int × (Unit × (Int × (Bool × (Int × (Unit × Unit))))))) × ((List Int) × ((Unit × (Int × (Int × (Int × (Int × (Int × (Int × Unit))))))) × ((Unit × (Int × (Unit × (Int × (Bool × (Int × (Unit × Unit))))))) × ((List Int) × Unit))))))))))
noncomputable def l31 (before done h0_0 h0_1 h0_2 h0_3 h0_4 h0_5 h0_6 : Int) (h0_7 : (List Act32)) (h1_0 h1_1 h1_2 : Int) (h1_3 : (List Int)) (h1_4 : (List Int)) (h2 : (List Int)) (h3_1 h3_2 h3_3 h3_4 h3_5 h3_6 h4_1 h4_3 : Int) (h4_4 : Bool) (h4_5 : Int) (h5 : (List Int)) (h6_1 h6_2 h6_3 h6_4 h6_5 h6_6 h7_1 h7_3 : Int) (h7_4 : Bool) (h7_5 : Int) (h8 : (List Int)) (i : Int) : Tw (Int ⊕ (Unit ⊕ Bool)) :=
 (.bb (decide (i < before))
  (.bb (decide (i < (((List.length h2) : Nat) : Int)))
   (.opt (ref08_Find.c h0_0 h0_1 h0_2 h0_3 h0_4 h0_5 (2 : Int) h1_1 i) fun z21 =>
    (.opt (ref09_Drive_Read_v4.c z21 (0 : Int) h0_0 h3_1 h3_2 h3_3 h3_4 h3_5 h3_6 h4_1 h4_3 h4_4 h4_5 h5) fun z22 =>
     (.opt (ref09_Drive_Read_v4.c z21 (0 : Int) h0_0 h6_1 h6_2 h6_3 h6_4 h6_5 h6_6 h7_1 h7_3 h7_4 h7_5 h8) fun z23 =>
      (.bb (i != h1_2)
       (.opt (ref01_Same.c z22.2 z23.2) fun z24 =>
        (.bb (!z24)
         (.ret (.inr (.inr false)))
         (.ret (.inl (w64 (i + (1 : Int)))))))
       (.ret (.inl (w64 (i + (1 : Int)))))))))
   (.ret (.inr (.inl ()))))
  (.ret (.inr (.inl ()))))
noncomputable def L31 (before done i h0_0 h0_1 h0_2 h0_3 h0_4 h0_5 h0_6 : Int) (h0_7 : (List Act32)) (h1_0 h1_1 h1_2 : Int) (h1_3 : (List Int)) (h1_4 : (List Int)) (h2 : (List Int)) (h3_1 h3_2 h3_3 h3_4 h3_5 h3_6 h4_1 h4_3 : Int) (h4_4 : Bool) (h4_5 : Int) (h5 : (List Int)) (h6_1 h6_2 h6_3 h6_4 h6_5 h6_6 h7_1 h7_3 : Int) (h7_4 : Bool) (h7_5 : Int) (h8 : (List Int)) : Option (Unit ⊕ Bool) := Lp (fun s => (l31 before done h0_0 h0_1 h0_2 h0_3 h0_4 h0_5 h0_6 h0_7 h1_0 h1_1 h1_2 h1_3 h1_4 h2 h3_1 h3_2 h3_3 h3_4 h3_5 h3_6 h4_1 h4_3 h4_4 h4_5 h5 h6_1 h6_2 h6_3 h6_4 h6_5 h6_6 h7_1 h7_3 h7_4 h7_5 h8 s).run) i
def p31 : Pt := (.cs (.bots 2) (.cs (.ptr 0 0) (.cs (.bots 4) (.cs (.ptr 1 0) (.cs (.own 2) (.cs (.int .i64) (.cs (.bots 1) (.cs (.ptr 3 0) (.cs (.bots 6) (.cs (.ptr 6 0) (.cs (.int .i64) (.cs (.bots 2) (.cs (.int .i64) (.cs (.bots 266) .nl))))))))))))))
def q31 : Pt := (.cs (.var (.cs (.int .i64) (.cs (.int .i64) (.cs (.int .i64) (.cs (.int .i64) (.cs (.int .i64) (.cs (.int .i64) (.cs (.int .i64) (.cs (.sl 25) .nl))))))))) (.cs (.var (.cs (.int .i64) (.cs (.int .i64) (.cs (.int .i64) (.cs (.sl 2) (.cs (.sl 3) .nl)))))) (.cs (.row 1 true) (.cs (.var (.cs (.ptr 4 0) (.cs (.int .i64) (.cs (.int .i64) (.cs (.int .i64) (.cs (.int .i64) (.cs (.int .i64) (.cs (.int .i64) .nl)))))))) (.cs (.var (.cs (.own 5) (.cs (.int .i64) (.cs .nils (.cs (.int .i64) (.cs .bool (.cs (.int .i64) (.cs .nils .nl)))))))) (.cs (.row 3 true) (.cs (.var (.cs (.ptr 7 0) (.cs (.int .i64) (.cs (.int .i64) (.cs (.int .i64) (.cs (.int .i64) (.cs (.int .i64) (.cs (.int .i64) .nl)))))))) (.cs (.var (.cs (.own 8) (.cs (.int .i64) (.cs .nils (.cs (.int .i64) (.cs .bool (.cs (.int .i64) (.cs .nils .nl)))))))) (.cs (.row 3 true) .nl)))))))))
def ou31 (l : T31) (y : (Unit ⊕ Bool)) : Ex × St U := (Sum.elim (fun a0 => (.exit 0, stOf 289 [(2, .ptr 0 0), (7, .ptr 1 0), (9, .im (.int .i64 l.1.2.2.2.2.2.1)), (18, .ptr 2 0), (19, .im (.int .i64 l.1.2.2.2.2.2.2.2.2.2.2.1))] [.var [.im (.int .i64 l.2.1.1), .im (.int .i64 l.2.1.2.1), .im (.int .i64 l.2.1.2.2.1), .im (.int .i64 l.2.1.2.2.2.1), .im (.int .i64 l.2.1.2.2.2.2.1), .im (.int .i64 l.2.1.2.2.2.2.2.1), .im (.int .i64 l.2.1.2.2.2.2.2.2.1), .im (.slice 25 l.2.1.2.2.2.2.2.2.2.1)], .var [.im (.int .i64 l.2.2.1.1), .im (.int .i64 l.2.2.1.2.1), .im (.int .i64 l.2.2.1.2.2.1), .im (.slice 2 l.2.2.1.2.2.2.1), .im (.slice 3 l.2.2.1.2.2.2.2.1)], .var [.ptr 3 0, .im (.int .i64 l.2.2.2.2.2.2.2.1.2.1), .im (.int .i64 l.2.2.2.2.2.2.2.1.2.2.1), .im (.int .i64 l.2.2.2.2.2.2.2.1.2.2.2.1), .im (.int .i64 l.2.2.2.2.2.2.2.1.2.2.2.2.1), .im (.int .i64 l.2.2.2.2.2.2.2.1.2.2.2.2.2.1), .im (.int .i64 l.2.2.2.2.2.2.2.1.2.2.2.2.2.2.1)], .var [.own 4, .im (.int .i64 l.2.2.2.2.2.2.2.2.1.2.1), .im .nils, .im (.int .i64 l.2.2.2.2.2.2.2.2.1.2.2.2.1), .im (.bool l.2.2.2.2.2.2.2.2.1.2.2.2.2.1), .im (.int .i64 l.2.2.2.2.2.2.2.2.1.2.2.2.2.2.1), .im .nils], .row 3 l.2.2.2.2.2.2.2.2.2.1 true] 0)) (fun b0 => (.ret, stOf 289 [(2, .ptr 0 0), (4, .im (.bool b0)), (7, .ptr 1 0), (9, .im (.int .i64 l.1.2.2.2.2.2.1)), (18, .ptr 2 0), (19, .im (.int .i64 l.1.2.2.2.2.2.2.2.2.2.2.1))] [.var [.im (.int .i64 l.2.1.1), .im (.int .i64 l.2.1.2.1), .im (.int .i64 l.2.1.2.2.1), .im (.int .i64 l.2.1.2.2.2.1), .im (.int .i64 l.2.1.2.2.2.2.1), .im (.int .i64 l.2.1.2.2.2.2.2.1), .im (.int .i64 l.2.1.2.2.2.2.2.2.1), .im (.slice 25 l.2.1.2.2.2.2.2.2.2.1)], .var [.im (.int .i64 l.2.2.1.1), .im (.int .i64 l.2.2.1.2.1), .im (.int .i64 l.2.2.1.2.2.1), .im (.slice 2 l.2.2.1.2.2.2.1), .im (.slice 3 l.2.2.1.2.2.2.2.1)], .var [.ptr 3 0, .im (.int .i64 l.2.2.2.2.2.2.2.1.2.1), .im (.int .i64 l.2.2.2.2.2.2.2.1.2.2.1), .im (.int .i64 l.2.2.2.2.2.2.2.1.2.2.2.1), .im (.int .i64 l.2.2.2.2.2.2.2.1.2.2.2.2.1), .im (.int .i64 l.2.2.2.2.2.2.2.1.2.2.2.2.2.1), .im (.int .i64 l.2.2.2.2.2.2.2.1.2.2.2.2.2.2.1)], .var [.own 4, .im (.int .i64 l.2.2.2.2.2.2.2.2.1.2.1), .im .nils, .im (.int .i64 l.2.2.2.2.2.2.2.2.1.2.2.2.1), .im (.bool l.2.2.2.2.2.2.2.2.1.2.2.2.2.1), .im (.int .i64 l.2.2.2.2.2.2.2.2.1.2.2.2.2.2.1), .im .nils], .row 3 l.2.2.2.2.2.2.2.2.2.1 true] 0)) y)
noncomputable def Λ31 : LFun U := mkLp (U := U) p31 q31 0 (X := (Unit ⊕ Bool)) (fun (l : T31) => L31 l.1.2.2.2.2.2.1 l.1.2.2.2.2.2.2.2.2.2.2.1 l.1.2.2.2.2.2.2.2.2.2.2.2.2.1 l.2.1.1 l.2.1.2.1 l.2.1.2.2.1 l.2.1.2.2.2.1 l.2.1.2.2.2.2.1 l.2.1.2.2.2.2.2.1 l.2.1.2.2.2.2.2.2.1 l.2.1.2.2.2.2.2.2.2.1 l.2.2.1.1 l.2.2.1.2.1 l.2.2.1.2.2.1 l.2.2.1.2.2.2.1 l.2.2.1.2.2.2.2.1 l.2.2.2.1 l.2.2.2.2.1.2.1 l.2.2.2.2.1.2.2.1 l.2.2.2.2.1.2.2.2.1 l.2.2.2.2.1.2.2.2.2.1 l.2.2.2.2.1.2.2.2.2.2.1 l.2.2.2.2.1.2.2.2.2.2.2.1 l.2.2.2.2.2.1.2.1 l.2.2.2.2.2.1.2.2.2.1 l.2.2.2.2.2.1.2.2.2.2.1 l.2.2.2.2.2.1.2.2.2.2.2.1 l.2.2.2.2.2.2.1 l.2.2.2.2.2.2.2.1.2.1 l.2.2.2.2.2.2.2.1.2.2.1 l.2.2.2.2.2.2.2.1.2.2.2.1 l.2.2.2.2.2.2.2.1.2.2.2.2.1 l.2.2.2.2.2.2.2.1.2.2.2.2.2.1 l.2.2.2.2.2.2.2.1.2.2.2.2.2.2.1 l.2.2.2.2.2.2.2.2.1.2.1 l.2.2.2.2.2.2.2.2.1.2.2.2.1 l.2.2.2.2.2.2.2.2.1.2.2.2.2.1 l.2.2.2.2.2.2.2.2.1.2.2.2.2.2.1 l.2.2.2.2.2.2.2.2.2.1) (spS sp1) ou31
abbrev TC26 : Type := ((Unit × (Unit × (Unit × (Unit × (Unit × (Int × (Unit × (Unit × (Unit × (Unit × (Int × (Int × (Unit × Unit))))))))))))) × ((Int × (Int × (Int × (Int × (Int × (Int × (Int × ((List Act32) × Unit)))))))) × ((Int × (Int × (Int × ((List Int) × ((List Int) × Unit))))) × ((List Int) × ((Unit × (Int × (Int × (Int × (Int × (Int × (Int × Unit))))))) × ((Unit × (Int × (Unit × (Int × (Bool × (Int × (Unit × Unit))))))) × ((List Int) × ((Unit × (Int × (Int × (Int × (Int × (Int × (Int × Unit))))))) × ((Unit × (Int × (Unit × (Int × (Bool × (Int × (Unit × Unit))))))) × ((List Int) × Unit))))))))))
noncomputable def c26 (before done behind h0_0 h0_1 h0_2 h0_3 h0_4 h0_5 h0_6 : Int) (h0_7 : (List Act32)) (h1_0 h1_1 h1_2 : Int) (h1_3 : (List Int)) (h1_4 : (List Int)) (h2 : (List Int)) (h3_1 h3_2 h3_3 h3_4 h3_5 h3_6 h4_1 h4_3 : Int) (h4_4 : Bool) (h4_5 : Int) (h5 : (List Int)) (h6_1 h6_2 h6_3 h6_4 h6_5 h6_6 h7_1 h7_3 : Int) (h7_4 : Bool) (h7_5 : Int) (h8 : (List Int)) : Tw Bool :=
 (.bb (h1_0 == (0 : Int))
  (.bb (decide (done ≤ before))
   (.opt (law32_awake.c) fun z47 =>
    (.ret z47))
   (.ret false))
  (.bb (done != before)
   (.bb (done != behind)
    (.ret false)
    (.opt (L31 before done (0 : Int) h0_0 h0_1 h0_2 h0_3 h0_4 h0_5 h0_6 h0_7 h1_0 h1_1 h1_2 h1_3 h1_4 h2 h3_1 h3_2 h3_3 h3_4 h3_5 h3_6 h4_1 h4_3 h4_4 h4_5 h5 h6_1 h6_2 h6_3 h6_4 h6_5 h6_6 h7_1 h7_3 h7_4 h7_5 h8) fun z36 =>
     (.sm z36
      (fun z37 => (.bb (decide (done > before))
        (.bb (h1_2 == before)
         (.opt (ref08_Find.c h0_0 h0_1 h0_2 h0_3 h0_4 h0_5 (2 : Int) h1_1 h1_2) fun z41 =>
          (.opt (ref01_Need.c (((List.length h1_3) : Nat) : Int)) fun z42 =>
           (.opt (ref09_Drive_Read_v4.c z41 (0 : Int) z42 h6_1 h6_2 h6_3 h6_4 h6_5 h6_6 h7_1 h7_3 h7_4 h7_5 h8) fun z43 =>
            (.opt (ref01_Pack.c h1_3) fun z44 =>
             (.opt (ref01_Same.c z43.2 z44) fun z45 =>
              (.bb z45
               (.opt (law32_awake.c) fun z46 =>
                (.ret z46))
               (.ret false)))))))
         (.opt (law32_awake.c) fun z40 =>
          (.ret z40)))
        (.opt (law32_awake.c) fun z39 =>
         (.ret z39))))
      (fun z38 => (.ret z38)))))
   (.opt (L31 before done (0 : Int) h0_0 h0_1 h0_2 h0_3 h0_4 h0_5 h0_6 h0_7 h1_0 h1_1 h1_2 h1_3 h1_4 h2 h3_1 h3_2 h3_3 h3_4 h3_5 h3_6 h4_1 h4_3 h4_4 h4_5 h5 h6_1 h6_2 h6_3 h6_4 h6_5 h6_6 h7_1 h7_3 h7_4 h7_5 h8) fun z25 =>
    (.sm z25
     (fun z26 => (.bb (decide (done > before))
       (.bb (h1_2 == before)
        (.opt (ref08_Find.c h0_0 h0_1 h0_2 h0_3 h0_4 h0_5 (2 : Int) h1_1 h1_2) fun z30 =>
         (.opt (ref01_Need.c (((List.length h1_3) : Nat) : Int)) fun z31 =>
          (.opt (ref09_Drive_Read_v4.c z30 (0 : Int) z31 h6_1 h6_2 h6_3 h6_4 h6_5 h6_6 h7_1 h7_3 h7_4 h7_5 h8) fun z32 =>
           (.opt (ref01_Pack.c h1_3) fun z33 =>
            (.opt (ref01_Same.c z32.2 z33) fun z34 =>
             (.bb z34
              (.opt (law32_awake.c) fun z35 =>
               (.ret z35))
              (.ret false)))))))
        (.opt (law32_awake.c) fun z29 =>
         (.ret z29)))
       (.opt (law32_awake.c) fun z28 =>
        (.ret z28))))
     (fun z27 => (.ret z27))))))
noncomputable def C26 (before done behind h0_0 h0_1 h0_2 h0_3 h0_4 h0_5 h0_6 : Int) (h0_7 : (List Act32)) (h1_0 h1_1 h1_2 : Int) (h1_3 : (List Int)) (h1_4 : (List Int)) (h2 : (List Int)) (h3_1 h3_2 h3_3 h3_4 h3_5 h3_6 h4_1 h4_3 : Int) (h4_4 : Bool) (h4_5 : Int) (h5 : (List Int)) (h6_1 h6_2 h6_3 h6_4 h6_5 h6_6 h7_1 h7_3 : Int) (h7_4 : Bool) (h7_5 : Int) (h8 : (List Int)) : Option Bool := (c26 before done behind h0_0 h0_1 h0_2 h0_3 h0_4 h0_5 h0_6 h0_7 h1_0 h1_1 h1_2 h1_3 h1_4 h2 h3_1 h3_2 h3_3 h3_4 h3_5 h3_6 h4_1 h4_3 h4_4 h4_5 h5 h6_1 h6_2 h6_3 h6_4 h6_5 h6_6 h7_1 h7_3 h7_4 h7_5 h8).run
def pC26 : Pt := (.cs (.bots 2) (.cs (.ptr 0 0) (.cs (.bots 4) (.cs (.ptr 1 0) (.cs (.own 2) (.cs (.int .i64) (.cs (.bots 1) (.cs (.ptr 3 0) (.cs (.bots 6) (.cs (.ptr 6 0) (.cs (.int .i64) (.cs (.int .i64) (.cs (.bots 268) .nl)))))))))))))
def qC26 : Pt := (.cs (.var (.cs (.int .i64) (.cs (.int .i64) (.cs (.int .i64) (.cs (.int .i64) (.cs (.int .i64) (.cs (.int .i64) (.cs (.int .i64) (.cs (.sl 25) .nl))))))))) (.cs (.var (.cs (.int .i64) (.cs (.int .i64) (.cs (.int .i64) (.cs (.sl 2) (.cs (.sl 3) .nl)))))) (.cs (.row 1 true) (.cs (.var (.cs (.ptr 4 0) (.cs (.int .i64) (.cs (.int .i64) (.cs (.int .i64) (.cs (.int .i64) (.cs (.int .i64) (.cs (.int .i64) .nl)))))))) (.cs (.var (.cs (.own 5) (.cs (.int .i64) (.cs .nils (.cs (.int .i64) (.cs .bool (.cs (.int .i64) (.cs .nils .nl)))))))) (.cs (.row 3 true) (.cs (.var (.cs (.ptr 7 0) (.cs (.int .i64) (.cs (.int .i64) (.cs (.int .i64) (.cs (.int .i64) (.cs (.int .i64) (.cs (.int .i64) .nl)))))))) (.cs (.var (.cs (.own 8) (.cs (.int .i64) (.cs .nils (.cs (.int .i64) (.cs .bool (.cs (.int .i64) (.cs .nils .nl)))))))) (.cs (.row 3 true) .nl)))))))))
def ouC26 (l : TC26) (y : Bool) : Ex × St U := (.ret, stOf 289 [(4, .im (.bool y))] [] 0)
noncomputable def ΛC26 : LFun U := mkLp (U := U) pC26 qC26 0 (X := Bool) (fun (l : TC26) => C26 l.1.2.2.2.2.2.1 l.1.2.2.2.2.2.2.2.2.2.2.1 l.1.2.2.2.2.2.2.2.2.2.2.2.1 l.2.1.1 l.2.1.2.1 l.2.1.2.2.1 l.2.1.2.2.2.1 l.2.1.2.2.2.2.1 l.2.1.2.2.2.2.2.1 l.2.1.2.2.2.2.2.2.1 l.2.1.2.2.2.2.2.2.2.1 l.2.2.1.1 l.2.2.1.2.1 l.2.2.1.2.2.1 l.2.2.1.2.2.2.1 l.2.2.1.2.2.2.2.1 l.2.2.2.1 l.2.2.2.2.1.2.1 l.2.2.2.2.1.2.2.1 l.2.2.2.2.1.2.2.2.1 l.2.2.2.2.1.2.2.2.2.1 l.2.2.2.2.1.2.2.2.2.2.1 l.2.2.2.2.1.2.2.2.2.2.2.1 l.2.2.2.2.2.1.2.1 l.2.2.2.2.2.1.2.2.2.1 l.2.2.2.2.2.1.2.2.2.2.1 l.2.2.2.2.2.1.2.2.2.2.2.1 l.2.2.2.2.2.2.1 l.2.2.2.2.2.2.2.1.2.1 l.2.2.2.2.2.2.2.1.2.2.1 l.2.2.2.2.2.2.2.1.2.2.2.1 l.2.2.2.2.2.2.2.1.2.2.2.2.1 l.2.2.2.2.2.2.2.1.2.2.2.2.2.1 l.2.2.2.2.2.2.2.1.2.2.2.2.2.2.1 l.2.2.2.2.2.2.2.2.1.2.1 l.2.2.2.2.2.2.2.2.1.2.2.2.1 l.2.2.2.2.2.2.2.2.1.2.2.2.2.1 l.2.2.2.2.2.2.2.2.1.2.2.2.2.2.1 l.2.2.2.2.2.2.2.2.2.1) sp1 ouC26
abbrev TC16 : Type := ((Unit × (Unit × (Unit × (Unit × (Unit × (Unit × (Unit × (Unit × (Int × (Unit × (Unit × (Unit × Unit)))))))))))) × ((Int × (Int × (Int × (Int × (Int × (Int × (Int × ((List Act32) × Unit)))))))) × ((Int × (Int × (Int × ((List Int) × ((List Int) × (Int × ((List Int) × Unit))))))) × ((Unit × (Unit × (Unit × (Int × Unit)))) × ((Unit × (Int × (Unit × (Int × (Bool × (Int × (Unit × Unit))))))) × ((List Int) × ((List Int) × ((Unit × (Int × (Int × (Int × (Int × (Int × (Int × Unit))))))) × ((Unit × (Int × (Int × (Int × (Int × (Int × (Int × Unit))))))) × ((Unit × (Int × (Unit × (Int × (Bool × (Int × (Unit × Unit))))))) × ((List Int) × ((List Int) × ((List Int) × ((Int × (Int × (Int × ((List Int) × ((List Int) × Unit))))) × ((List Int) × ((Unit × (Int × (Int × (Int × (Int × (Int × (Int × Unit))))))) × ((Unit × (Int × (Unit × (Int × (Bool × (Int × (Unit × Unit))))))) × ((List Int) × Unit))))))))))))))))))
noncomputable def c16 (before h0_0 h0_1 h0_2 h0_3 h0_4 h0_5 h0_6 : Int) (h0_7 : (List Act32)) (h1_0 h1_1 h1_2 : Int) (h1_3 : (List Int)) (h1_4 : (List Int)) (h1_5 : Int) (h1_6 : (List Int)) (h2_3 h3_1 h3_3 : Int) (h3_4 : Bool) (h3_5 : Int) (h4 : (List Int)) (h5 : (List Int)) (h6_1 h6_2 h6_3 h6_4 h6_5 h6_6 h7_1 h7_2 h7_3 h7_4 h7_5 h7_6 h8_1 h8_3 : Int) (h8_4 : Bool) (h8_5 : Int) (h9 : (List Int)) (h10 : (List Int)) (h11 : (List Int)) (h12_0 h12_1 h12_2 : Int) (h12_3 : (List Int)) (h12_4 : (List Int)) (h13 : (List Int)) (h14_1 h14_2 h14_3 h14_4 h14_5 h14_6 h15_1 h15_3 : Int) (h15_4 : Bool) (h15_5 : Int) (h16 : (List Int)) : Tw Bool :=
 (.opt (flash_Flash_Arm.c h1_5 h1_6 h3_1 h3_3 h3_4 h3_5 h4 h5) fun z13 =>
  (.opt (law32_desk_do_v2.c h2_3 h12_0 h12_1 h12_2 h12_3 h12_4 h3_1 h3_3 h3_4 z13.1 h4 h5 z13.2 h6_1 h6_2 h6_3 h6_4 h6_5 h6_6 h7_1 h7_2 h7_3 h7_4 h7_5 h7_6 h8_1 h8_3 h8_4 h8_5 h9 h10 h11) fun z14 =>
   (.sm z14
    (fun z15 => (.opt (flash_Flash_Power_v2.c h3_1 z15.2.2.2.2.1 z15.2.2.2.2.2.1 z15.2.2.2.2.2.2.1 z15.2.2.2.2.2.2.2.1 z15.2.2.2.2.2.2.2.2.1 z13.2) fun z17 =>
      (.opt (flash_Flash_Words.c h3_1 z15.2.2.2.2.1 z17.1 z17.2 z15.2.2.2.2.2.2.2.1 z15.2.2.2.2.2.2.2.2.1) fun z18 =>
       (.bb ((((List.length z18) : Nat) : Int) != (((List.length h16) : Nat) : Int))
        (.ret false)
        (.opt (slot_Done.c h12_1 h0_6 h6_1 h6_2 h6_3 h6_4 h6_5 h6_6 h3_1 z15.2.2.2.2.1 z17.1 z17.2 z15.2.2.2.2.2.2.2.1 z15.2.2.2.2.2.2.2.2.1) fun z19 =>
         (.opt (ref32_Done_v2.c h12_1 h0_6 h7_1 h7_2 h7_3 h7_4 h7_5 h7_6 h8_1 z15.2.2.2.2.2.2.2.2.2.1 z15.2.2.2.2.2.2.2.2.2.2.1 z15.2.2.2.2.2.2.2.2.2.2.2.1 z15.2.2.2.2.2.2.2.2.2.2.2.2.1 z15.2.2.2.2.2.2.2.2.2.2.2.2.2.1 h11) fun z20 =>
          (.bb (z19.2 != (0 : Int))
           (.ret false)
           (.bb (z15.2.1 == (0 : Int))
            (.bb (z19.1 != z20.1)
             (.ret false)
             (.opt (C26 before z19.1 z20.1 h0_0 h0_1 h0_2 h0_3 h0_4 h0_5 h0_6 h0_7 h12_0 h12_1 h12_2 h12_3 h12_4 h13 h14_1 h14_2 h14_3 h14_4 h14_5 h14_6 h15_1 h15_3 h15_4 h15_5 h16 h0_0 h0_1 h0_2 h0_3 h0_4 h0_5 (0 : Int) (0 : Int) false (0 : Int) z18) fun z49 =>
              (.ret z49)))
            (.opt (C26 before z19.1 z20.1 h0_0 h0_1 h0_2 h0_3 h0_4 h0_5 h0_6 h0_7 h12_0 h12_1 h12_2 h12_3 h12_4 h13 h14_1 h14_2 h14_3 h14_4 h14_5 h14_6 h15_1 h15_3 h15_4 h15_5 h16 h0_0 h0_1 h0_2 h0_3 h0_4 h0_5 (0 : Int) (0 : Int) false (0 : Int) z18) fun z48 =>
             (.ret z48))))))))))
    (fun z16 => (.sm z16
      (fun z50 => (.opt (flash_Flash_Power.c h3_1 h3_3 z50.2.2.2.2.1 z50.2.2.2.2.2.1 h4 h5) fun z52 =>
        (.opt (flash_Flash_Words.c h3_1 h3_3 z52.1 z52.2 h4 h5) fun z53 =>
         (.bb ((((List.length z53) : Nat) : Int) != (((List.length h16) : Nat) : Int))
          (.ret false)
          (.opt (slot_Done.c h12_1 h0_6 h6_1 h6_2 h6_3 h6_4 h6_5 h6_6 h3_1 h3_3 z52.1 z52.2 h4 h5) fun z54 =>
           (.opt (ref32_Done_v2.c h12_1 h0_6 h7_1 h7_2 h7_3 h7_4 h7_5 h7_6 h8_1 h8_3 z50.2.2.2.2.2.2.1 z50.2.2.2.2.2.2.2.1 h9 h10 h11) fun z55 =>
            (.bb (z54.2 != (0 : Int))
             (.ret false)
             (.bb (z50.2.1 == (0 : Int))
              (.bb (z54.1 != z55.1)
               (.ret false)
               (.opt (C26 before z54.1 z55.1 h0_0 h0_1 h0_2 h0_3 h0_4 h0_5 h0_6 h0_7 h12_0 h12_1 h12_2 h12_3 h12_4 h13 h14_1 h14_2 h14_3 h14_4 h14_5 h14_6 h15_1 h15_3 h15_4 h15_5 h16 h0_0 h0_1 h0_2 h0_3 h0_4 h0_5 (0 : Int) (0 : Int) false (0 : Int) z53) fun z57 =>
                (.ret z57)))
              (.opt (C26 before z54.1 z55.1 h0_0 h0_1 h0_2 h0_3 h0_4 h0_5 h0_6 h0_7 h12_0 h12_1 h12_2 h12_3 h12_4 h13 h14_1 h14_2 h14_3 h14_4 h14_5 h14_6 h15_1 h15_3 h15_4 h15_5 h16 h0_0 h0_1 h0_2 h0_3 h0_4 h0_5 (0 : Int) (0 : Int) false (0 : Int) z53) fun z56 =>
               (.ret z56))))))))))
      (fun z51 => (.opt (flash_Flash_Power_v2.c h3_1 h3_3 h3_4 z51.2.2.2.2.1 h4 h5 z51.2.2.2.2.2.2.2.2) fun z58 =>
        (.opt (flash_Flash_Words.c h3_1 h3_3 z58.1 z58.2 h4 h5) fun z59 =>
         (.bb ((((List.length z59) : Nat) : Int) != (((List.length h16) : Nat) : Int))
          (.ret false)
          (.opt (slot_Done.c h12_1 h0_6 h6_1 h6_2 h6_3 h6_4 h6_5 h6_6 h3_1 h3_3 z58.1 z58.2 h4 h5) fun z60 =>
           (.opt (ref32_Done_v2.c h12_1 h0_6 h7_1 h7_2 h7_3 h7_4 h7_5 h7_6 h8_1 h8_3 h8_4 z51.2.2.2.2.2.1 h9 h10 h12_4) fun z61 =>
            (.bb (z60.2 != (0 : Int))
             (.ret false)
             (.bb (z51.2.1 == (0 : Int))
              (.bb (z60.1 != z61.1)
               (.ret false)
               (.opt (C26 before z60.1 z61.1 h0_0 h0_1 h0_2 h0_3 h0_4 h0_5 h0_6 h0_7 h12_0 h12_1 h12_2 h12_3 h12_4 h13 h14_1 h14_2 h14_3 h14_4 h14_5 h14_6 h15_1 h15_3 h15_4 h15_5 h16 h0_0 h0_1 h0_2 h0_3 h0_4 h0_5 (0 : Int) (0 : Int) false (0 : Int) z59) fun z63 =>
                (.ret z63)))
              (.opt (C26 before z60.1 z61.1 h0_0 h0_1 h0_2 h0_3 h0_4 h0_5 h0_6 h0_7 h12_0 h12_1 h12_2 h12_3 h12_4 h13 h14_1 h14_2 h14_3 h14_4 h14_5 h14_6 h15_1 h15_3 h15_4 h15_5 h16 h0_0 h0_1 h0_2 h0_3 h0_4 h0_5 (0 : Int) (0 : Int) false (0 : Int) z59) fun z62 =>
               (.ret z62)))))))))))))))
noncomputable def C16 (before h0_0 h0_1 h0_2 h0_3 h0_4 h0_5 h0_6 : Int) (h0_7 : (List Act32)) (h1_0 h1_1 h1_2 : Int) (h1_3 : (List Int)) (h1_4 : (List Int)) (h1_5 : Int) (h1_6 : (List Int)) (h2_3 h3_1 h3_3 : Int) (h3_4 : Bool) (h3_5 : Int) (h4 : (List Int)) (h5 : (List Int)) (h6_1 h6_2 h6_3 h6_4 h6_5 h6_6 h7_1 h7_2 h7_3 h7_4 h7_5 h7_6 h8_1 h8_3 : Int) (h8_4 : Bool) (h8_5 : Int) (h9 : (List Int)) (h10 : (List Int)) (h11 : (List Int)) (h12_0 h12_1 h12_2 : Int) (h12_3 : (List Int)) (h12_4 : (List Int)) (h13 : (List Int)) (h14_1 h14_2 h14_3 h14_4 h14_5 h14_6 h15_1 h15_3 : Int) (h15_4 : Bool) (h15_5 : Int) (h16 : (List Int)) : Option Bool := (c16 before h0_0 h0_1 h0_2 h0_3 h0_4 h0_5 h0_6 h0_7 h1_0 h1_1 h1_2 h1_3 h1_4 h1_5 h1_6 h2_3 h3_1 h3_3 h3_4 h3_5 h4 h5 h6_1 h6_2 h6_3 h6_4 h6_5 h6_6 h7_1 h7_2 h7_3 h7_4 h7_5 h7_6 h8_1 h8_3 h8_4 h8_5 h9 h10 h11 h12_0 h12_1 h12_2 h12_3 h12_4 h13 h14_1 h14_2 h14_3 h14_4 h14_5 h14_6 h15_1 h15_3 h15_4 h15_5 h16).run
def pC16 : Pt := (.cs (.bots 2) (.cs (.ptr 0 0) (.cs (.ptr 1 0) (.cs (.bots 1) (.cs (.ptr 2 0) (.cs (.bots 1) (.cs (.ptr 12 0) (.cs (.own 13) (.cs (.int .i64) (.cs (.bots 1) (.cs (.ptr 14 0) (.cs (.bots 277) .nl))))))))))))
def qC16 : Pt := (.cs (.var (.cs (.int .i64) (.cs (.int .i64) (.cs (.int .i64) (.cs (.int .i64) (.cs (.int .i64) (.cs (.int .i64) (.cs (.int .i64) (.cs (.sl 25) .nl))))))))) (.cs (.var (.cs (.int .i64) (.cs (.int .i64) (.cs (.int .i64) (.cs (.sl 2) (.cs (.sl 3) (.cs (.int .i64) (.cs (.sl 3) .nl)))))))) (.cs (.var (.cs (.ptr 3 0) (.cs (.ptr 6 0) (.cs (.ptr 7 0) (.cs (.int .i64) .nl))))) (.cs (.var (.cs (.own 4) (.cs (.int .i64) (.cs (.own 5) (.cs (.int .i64) (.cs .bool (.cs (.int .i64) (.cs .nils .nl)))))))) (.cs (.row 3 true) (.cs (.row 1 true) (.cs (.var (.cs (.ptr 3 0) (.cs (.int .i64) (.cs (.int .i64) (.cs (.int .i64) (.cs (.int .i64) (.cs (.int .i64) (.cs (.int .i64) .nl)))))))) (.cs (.var (.cs (.ptr 8 0) (.cs (.int .i64) (.cs (.int .i64) (.cs (.int .i64) (.cs (.int .i64) (.cs (.int .i64) (.cs (.int .i64) .nl)))))))) (.cs (.var (.cs (.own 9) (.cs (.int .i64) (.cs (.own 10) (.cs (.int .i64) (.cs .bool (.cs (.int .i64) (.cs (.own 11) .nl)))))))) (.cs (.row 3 true) (.cs (.row 1 true) (.cs (.row 3 true) (.cs (.var (.cs (.int .i64) (.cs (.int .i64) (.cs (.int .i64) (.cs (.sl 2) (.cs (.sl 3) .nl)))))) (.cs (.row 1 true) (.cs (.var (.cs (.ptr 15 0) (.cs (.int .i64) (.cs (.int .i64) (.cs (.int .i64) (.cs (.int .i64) (.cs (.int .i64) (.cs (.int .i64) .nl)))))))) (.cs (.var (.cs (.own 16) (.cs (.int .i64) (.cs .nils (.cs (.int .i64) (.cs .bool (.cs (.int .i64) (.cs .nils .nl)))))))) (.cs (.row 3 true) .nl)))))))))))))))))
def ouC16 (l : TC16) (y : Bool) : Ex × St U := (.ret, stOf 289 [(4, .im (.bool y))] [] 0)
noncomputable def ΛC16 : LFun U := mkLp (U := U) pC16 qC16 0 (X := Bool) (fun (l : TC16) => C16 l.1.2.2.2.2.2.2.2.2.1 l.2.1.1 l.2.1.2.1 l.2.1.2.2.1 l.2.1.2.2.2.1 l.2.1.2.2.2.2.1 l.2.1.2.2.2.2.2.1 l.2.1.2.2.2.2.2.2.1 l.2.1.2.2.2.2.2.2.2.1 l.2.2.1.1 l.2.2.1.2.1 l.2.2.1.2.2.1 l.2.2.1.2.2.2.1 l.2.2.1.2.2.2.2.1 l.2.2.1.2.2.2.2.2.1 l.2.2.1.2.2.2.2.2.2.1 l.2.2.2.1.2.2.2.1 l.2.2.2.2.1.2.1 l.2.2.2.2.1.2.2.2.1 l.2.2.2.2.1.2.2.2.2.1 l.2.2.2.2.1.2.2.2.2.2.1 l.2.2.2.2.2.1 l.2.2.2.2.2.2.1 l.2.2.2.2.2.2.2.1.2.1 l.2.2.2.2.2.2.2.1.2.2.1 l.2.2.2.2.2.2.2.1.2.2.2.1 l.2.2.2.2.2.2.2.1.2.2.2.2.1 l.2.2.2.2.2.2.2.1.2.2.2.2.2.1 l.2.2.2.2.2.2.2.1.2.2.2.2.2.2.1 l.2.2.2.2.2.2.2.2.1.2.1 l.2.2.2.2.2.2.2.2.1.2.2.1 l.2.2.2.2.2.2.2.2.1.2.2.2.1 l.2.2.2.2.2.2.2.2.1.2.2.2.2.1 l.2.2.2.2.2.2.2.2.1.2.2.2.2.2.1 l.2.2.2.2.2.2.2.2.1.2.2.2.2.2.2.1 l.2.2.2.2.2.2.2.2.2.1.2.1 l.2.2.2.2.2.2.2.2.2.1.2.2.2.1 l.2.2.2.2.2.2.2.2.2.1.2.2.2.2.1 l.2.2.2.2.2.2.2.2.2.1.2.2.2.2.2.1 l.2.2.2.2.2.2.2.2.2.2.1 l.2.2.2.2.2.2.2.2.2.2.2.1 l.2.2.2.2.2.2.2.2.2.2.2.2.1 l.2.2.2.2.2.2.2.2.2.2.2.2.2.1.1 l.2.2.2.2.2.2.2.2.2.2.2.2.2.1.2.1 l.2.2.2.2.2.2.2.2.2.2.2.2.2.1.2.2.1 l.2.2.2.2.2.2.2.2.2.2.2.2.2.1.2.2.2.1 l.2.2.2.2.2.2.2.2.2.2.2.2.2.1.2.2.2.2.1 l.2.2.2.2.2.2.2.2.2.2.2.2.2.2.1 l.2.2.2.2.2.2.2.2.2.2.2.2.2.2.2.1.2.1 l.2.2.2.2.2.2.2.2.2.2.2.2.2.2.2.1.2.2.1 l.2.2.2.2.2.2.2.2.2.2.2.2.2.2.2.1.2.2.2.1 l.2.2.2.2.2.2.2.2.2.2.2.2.2.2.2.1.2.2.2.2.1 l.2.2.2.2.2.2.2.2.2.2.2.2.2.2.2.1.2.2.2.2.2.1 l.2.2.2.2.2.2.2.2.2.2.2.2.2.2.2.1.2.2.2.2.2.2.1 l.2.2.2.2.2.2.2.2.2.2.2.2.2.2.2.2.1.2.1 l.2.2.2.2.2.2.2.2.2.2.2.2.2.2.2.2.1.2.2.2.1 l.2.2.2.2.2.2.2.2.2.2.2.2.2.2.2.2.1.2.2.2.2.1 l.2.2.2.2.2.2.2.2.2.2.2.2.2.2.2.2.1.2.2.2.2.2.1 l.2.2.2.2.2.2.2.2.2.2.2.2.2.2.2.2.2.1) sp1 ouC16
abbrev TC3 : Type := ((Unit × (Unit × (Unit × (Unit × Unit)))) × ((Int × (Int × (Int × (Int × (Int × (Int × (Int × ((List Act32) × Unit)))))))) × ((Int × (Int × (Int × ((List Int) × ((List Int) × (Int × ((List Int) × Unit))))))) × Unit)))
noncomputable def c3 (h0_0 h0_1 h0_2 h0_3 h0_4 h0_5 h0_6 : Int) (h0_7 : (List Act32)) (h1_0 h1_1 h1_2 : Int) (h1_3 : (List Int)) (h1_4 : (List Int)) (h1_5 : Int) (h1_6 : (List Int)) : Tw Bool :=
 (.opt (law32_begin.c h0_0 h0_1 h0_2 h0_3 h0_4 h0_5 h0_6 h0_7) fun z3 =>
  (.sm z3
   (fun z4 => (.bb (!z4.1)
     (.ret false)
     (.opt (law32_desk_run.c h0_6 h0_7 h0_0 z4.2.1 z4.2.2.1 z4.2.2.2.1 z4.2.2.2.2.1 z4.2.2.2.2.2.1 h0_0 h0_1 h0_2 h0_3 h0_4 h0_5 h0_0 h0_1 h0_2 h0_3 h0_4 h0_5 h0_0 z4.2.2.2.2.2.2.1 z4.2.2.2.2.2.2.2.1 z4.2.2.2.2.2.2.2.2.1 z4.2.2.2.2.2.2.2.2.2.1 z4.2.2.2.2.2.2.2.2.2.2) fun z6 =>
      (.sm z6
       (fun z7 => (.bb (!z7.1)
         (.ret false)
         (.opt (flash_Flash_Power_v2.c h0_0 z7.2.1 z7.2.2.1 z7.2.2.2.1 z7.2.2.2.2.1 z7.2.2.2.2.2.1 z7.2.2.2.2.2.2.2.2.2.2.2.1) fun z9 =>
          (.opt (ref07_Flash_Power_v2.c h0_0 z7.2.2.2.2.2.2.1 z7.2.2.2.2.2.2.2.1 z7.2.2.2.2.2.2.2.2.1 z7.2.2.2.2.2.2.2.2.2.1 z7.2.2.2.2.2.2.2.2.2.2.1 z7.2.2.2.2.2.2.2.2.2.2.2.2) fun z10 =>
           (.opt (ref08_Parts.c h0_0 h0_1 h0_2 h0_3 h0_4 h0_5 h0_6) fun z11 =>
            (.opt (slot_Done.c h1_1 h0_6 h0_0 h0_1 h0_2 h0_3 h0_4 h0_5 h0_0 z7.2.1 z9.1 z9.2 z7.2.2.2.2.1 z7.2.2.2.2.2.1) fun z12 =>
             (.bb (z12.2 != (0 : Int))
              (.bb (h1_1 != (0 : Int))
               (.bb (h1_1 != (1 : Int))
                (.opt (law32_awake.c) fun z68 =>
                 (.ret z68))
                (.bb ((((List.length z11) : Nat) : Int) == (0 : Int))
                 (.opt (law32_awake.c) fun z67 =>
                  (.ret z67))
                 (.ret false)))
               (.bb ((((List.length z11) : Nat) : Int) == (0 : Int))
                (.opt (law32_awake.c) fun z66 =>
                 (.ret z66))
                (.ret false)))
              (.dd (((((List.length z7.2.2.2.2.2.2.2.2.2.1) * (4 : Nat)) ≤ (140737488355328 : Nat)) ∧ ((List.length z7.2.2.2.2.2.2.2.2.2.1) ≤ (140737488355328 : Nat)))) inferInstance
               (.bb (h1_0 != (0 : Int))
                (.opt (C16 z12.1 h0_0 h0_1 h0_2 h0_3 h0_4 h0_5 h0_6 h0_7 h1_0 h1_1 h1_2 h1_3 h1_4 h1_5 h1_6 h0_6 h0_0 z7.2.1 z9.1 z9.2 z7.2.2.2.2.1 z7.2.2.2.2.2.1 h0_0 h0_1 h0_2 h0_3 h0_4 h0_5 h0_0 h0_1 h0_2 h0_3 h0_4 h0_5 h0_0 z7.2.2.2.2.2.2.1 z10.1 z10.2 z7.2.2.2.2.2.2.2.2.2.1 z7.2.2.2.2.2.2.2.2.2.2.1 z7.2.2.2.2.2.2.2.2.2.2.2.2 (1 : Int) h1_1 h1_2 h1_3 h1_4 z11 h0_0 h0_1 h0_2 h0_3 h0_4 h0_5 (0 : Int) (0 : Int) false (0 : Int) z7.2.2.2.2.2.2.2.2.2.1) fun z65 =>
                 (.ret z65))
                (.opt (C16 z12.1 h0_0 h0_1 h0_2 h0_3 h0_4 h0_5 h0_6 h0_7 h1_0 h1_1 h1_2 h1_3 h1_4 h1_5 h1_6 h0_6 h0_0 z7.2.1 z9.1 z9.2 z7.2.2.2.2.1 z7.2.2.2.2.2.1 h0_0 h0_1 h0_2 h0_3 h0_4 h0_5 h0_0 h0_1 h0_2 h0_3 h0_4 h0_5 h0_0 z7.2.2.2.2.2.2.1 z10.1 z10.2 z7.2.2.2.2.2.2.2.2.2.1 z7.2.2.2.2.2.2.2.2.2.2.1 z7.2.2.2.2.2.2.2.2.2.2.2.2 h1_0 h1_1 h1_2 h1_3 h1_4 z11 h0_0 h0_1 h0_2 h0_3 h0_4 h0_5 (0 : Int) (0 : Int) false (0 : Int) z7.2.2.2.2.2.2.2.2.2.1) fun z64 =>
                 (.ret z64)))
               .no))))))))
       (fun z8 => (.bb (!z8.1)
         (.ret false)
         (.opt (flash_Flash_Power.c h0_0 z8.2.1 z8.2.2.1 z8.2.2.2.1 z8.2.2.2.2.1 z8.2.2.2.2.2.1) fun z69 =>
          (.opt (ref07_Flash_Power_v2.c h0_0 z8.2.2.2.2.2.2.1 z8.2.2.2.2.2.2.2.1 z8.2.2.2.2.2.2.2.2.1 z8.2.2.2.2.2.2.2.2.2.1 z8.2.2.2.2.2.2.2.2.2.2.1 z8.2.2.2.2.2.2.2.2.2.2.2) fun z70 =>
           (.opt (ref08_Parts.c h0_0 h0_1 h0_2 h0_3 h0_4 h0_5 h0_6) fun z71 =>
            (.opt (slot_Done.c h1_1 h0_6 h0_0 h0_1 h0_2 h0_3 h0_4 h0_5 h0_0 z8.2.1 z69.1 z69.2 z8.2.2.2.2.1 z8.2.2.2.2.2.1) fun z72 =>
             (.bb (z72.2 != (0 : Int))
              (.bb (h1_1 != (0 : Int))
               (.bb (h1_1 != (1 : Int))
                (.opt (law32_awake.c) fun z77 =>
                 (.ret z77))
                (.bb ((((List.length z71) : Nat) : Int) == (0 : Int))
                 (.opt (law32_awake.c) fun z76 =>
                  (.ret z76))
                 (.ret false)))
               (.bb ((((List.length z71) : Nat) : Int) == (0 : Int))
                (.opt (law32_awake.c) fun z75 =>
                 (.ret z75))
                (.ret false)))
              (.dd (((((List.length z8.2.2.2.2.2.2.2.2.2.1) * (4 : Nat)) ≤ (140737488355328 : Nat)) ∧ ((List.length z8.2.2.2.2.2.2.2.2.2.1) ≤ (140737488355328 : Nat)))) inferInstance
               (.bb (h1_0 != (0 : Int))
                (.opt (C16 z72.1 h0_0 h0_1 h0_2 h0_3 h0_4 h0_5 h0_6 h0_7 h1_0 h1_1 h1_2 h1_3 h1_4 h1_5 h1_6 h0_6 h0_0 z8.2.1 z69.1 z69.2 z8.2.2.2.2.1 z8.2.2.2.2.2.1 h0_0 h0_1 h0_2 h0_3 h0_4 h0_5 h0_0 h0_1 h0_2 h0_3 h0_4 h0_5 h0_0 z8.2.2.2.2.2.2.1 z70.1 z70.2 z8.2.2.2.2.2.2.2.2.2.1 z8.2.2.2.2.2.2.2.2.2.2.1 z8.2.2.2.2.2.2.2.2.2.2.2 (1 : Int) h1_1 h1_2 h1_3 h1_4 z71 h0_0 h0_1 h0_2 h0_3 h0_4 h0_5 (0 : Int) (0 : Int) false (0 : Int) z8.2.2.2.2.2.2.2.2.2.1) fun z74 =>
                 (.ret z74))
                (.opt (C16 z72.1 h0_0 h0_1 h0_2 h0_3 h0_4 h0_5 h0_6 h0_7 h1_0 h1_1 h1_2 h1_3 h1_4 h1_5 h1_6 h0_6 h0_0 z8.2.1 z69.1 z69.2 z8.2.2.2.2.1 z8.2.2.2.2.2.1 h0_0 h0_1 h0_2 h0_3 h0_4 h0_5 h0_0 h0_1 h0_2 h0_3 h0_4 h0_5 h0_0 z8.2.2.2.2.2.2.1 z70.1 z70.2 z8.2.2.2.2.2.2.2.2.2.1 z8.2.2.2.2.2.2.2.2.2.2.1 z8.2.2.2.2.2.2.2.2.2.2.2 h1_0 h1_1 h1_2 h1_3 h1_4 z71 h0_0 h0_1 h0_2 h0_3 h0_4 h0_5 (0 : Int) (0 : Int) false (0 : Int) z8.2.2.2.2.2.2.2.2.2.1) fun z73 =>
                 (.ret z73)))
               .no))))))))))))
   (fun z5 => (.sm z5
     (fun z78 => (.bb (!z78.1)
       (.ret false)
       .no))
     (fun z79 => (.sm z79
       (fun z80 => (.bb (!z80.1)
         (.ret false)
         .no))
       (fun z81 => (.sm z81
         (fun z82 => (.bb (!z82.1)
           (.ret false)
           .no))
         (fun z83 => (.sm z83
           (fun z84 => (.bb (!z84.1)
             (.ret false)
             .no))
           (fun z85 => (.bb (!z85)
             (.ret false)
             .no))))))))))))
noncomputable def C3 (h0_0 h0_1 h0_2 h0_3 h0_4 h0_5 h0_6 : Int) (h0_7 : (List Act32)) (h1_0 h1_1 h1_2 : Int) (h1_3 : (List Int)) (h1_4 : (List Int)) (h1_5 : Int) (h1_6 : (List Int)) : Option Bool := (c3 h0_0 h0_1 h0_2 h0_3 h0_4 h0_5 h0_6 h0_7 h1_0 h1_1 h1_2 h1_3 h1_4 h1_5 h1_6).run
def pC3 : Pt := (.cs (.bots 2) (.cs (.ptr 0 0) (.cs (.ptr 1 0) (.cs (.bots 285) .nl))))
def qC3 : Pt := (.cs (.var (.cs (.int .i64) (.cs (.int .i64) (.cs (.int .i64) (.cs (.int .i64) (.cs (.int .i64) (.cs (.int .i64) (.cs (.int .i64) (.cs (.sl 25) .nl))))))))) (.cs (.var (.cs (.int .i64) (.cs (.int .i64) (.cs (.int .i64) (.cs (.sl 2) (.cs (.sl 3) (.cs (.int .i64) (.cs (.sl 3) .nl)))))))) .nl))
def ouC3 (l : TC3) (y : Bool) : Ex × St U := (.ret, stOf 289 [(4, .im (.bool y))] [] 0)
noncomputable def ΛC3 : LFun U := mkLp (U := U) pC3 qC3 0 (X := Bool) (fun (l : TC3) => C3 l.2.1.1 l.2.1.2.1 l.2.1.2.2.1 l.2.1.2.2.2.1 l.2.1.2.2.2.2.1 l.2.1.2.2.2.2.2.1 l.2.1.2.2.2.2.2.2.1 l.2.1.2.2.2.2.2.2.2.1 l.2.2.1.1 l.2.2.1.2.1 l.2.2.1.2.2.1 l.2.2.1.2.2.2.1 l.2.2.1.2.2.2.2.1 l.2.2.1.2.2.2.2.2.1 l.2.2.1.2.2.2.2.2.2.1) sp1 ouC3
noncomputable def t (p__0 p__1 p__2 p__3 p__4 p__5 p__6 : Int) (p__7 : (List Act32)) (c__0 c__1 c__2 : Int) (c__3 : (List Int)) (c__4 : (List Int)) (c__5 : Int) (c__6 : (List Int)) : Tw Bool :=
 (.opt (law32_Play_Great.c p__0 p__1 p__2 p__3 p__4 p__5 p__6 p__7) fun z1 =>
  (.bb z1
   (.opt (law32_awake.c) fun z89 =>
    (.ret z89))
   (.opt (law32_Play_Great.c p__0 p__1 p__2 p__3 p__4 p__5 (0 : Int) ((Go.Proofs.Ytnlclchlnngdnaa.Va.Act32.mk c__0 c__1 c__2 c__3 c__4) :: ([] : List (Act32)))) fun z2 =>
    (.bb z2
     (.opt (law32_awake.c) fun z88 =>
      (.ret z88))
     (.bb (decide ((((List.length c__6) : Nat) : Int) > (100 : Int)))
      (.opt (law32_awake.c) fun z87 =>
       (.ret z87))
      (.opt (C3 p__0 p__1 p__2 p__3 p__4 p__5 p__6 p__7 c__0 c__1 c__2 c__3 c__4 c__5 c__6) fun z86 =>
       (.ret z86)))))))
noncomputable def c (p__0 p__1 p__2 p__3 p__4 p__5 p__6 : Int) (p__7 : (List Act32)) (c__0 c__1 c__2 : Int) (c__3 : (List Int)) (c__4 : (List Int)) (c__5 : Int) (c__6 : (List Int)) : Option Bool := (t p__0 p__1 p__2 p__3 p__4 p__5 p__6 p__7 c__0 c__1 c__2 c__3 c__4 c__5 c__6).run
def pA : Pt := (.cs (.agg (.cs (.int .i64) (.cs (.int .i64) (.cs (.int .i64) (.cs (.int .i64) (.cs (.int .i64) (.cs (.int .i64) (.cs (.int .i64) (.cs (.sl 25) .nl))))))))) (.cs (.agg (.cs (.int .i64) (.cs (.int .i64) (.cs (.int .i64) (.cs (.sl 2) (.cs (.sl 3) (.cs (.int .i64) (.cs (.sl 3) .nl)))))))) .nl))
def pH : Pt := .nl
def v (l : TA) (y : Bool) : AV U := .im (.bool y)
def hh (l : TA) (y : Bool) : Hp U := []
noncomputable def A : AFun U := mkA (U := U) pA pH (X := Bool) (fun (l : TA) => c l.1.1.1 l.1.1.2.1 l.1.1.2.2.1 l.1.1.2.2.2.1 l.1.1.2.2.2.2.1 l.1.1.2.2.2.2.2.1 l.1.1.2.2.2.2.2.2.1 l.1.1.2.2.2.2.2.2.2.1 l.1.2.1.1 l.1.2.1.2.1 l.1.2.1.2.2.1 l.1.2.1.2.2.2.1 l.1.2.1.2.2.2.2.1 l.1.2.1.2.2.2.2.2.1 l.1.2.1.2.2.2.2.2.2.1) sp1 v hh
noncomputable def body : Code := (Go.Func.body Try.f4).getD .skip
noncomputable def Γ : List (FuncId × AFun U) := [(6, law32_Play_Great.A), (8, law32_begin.A), (9, law32_desk_run.A), (10, (orA flash_Flash_Power_v2.pA flash_Flash_Power_v2.pH flash_Flash_Power_v2.A flash_Flash_Power.A)), (11, ref07_Flash_Power_v2.A), (12, ref08_Parts.A), (13, slot_Done.A), (14, flash_Flash_Arm.A), (15, law32_desk_do_v2.A), (16, flash_Flash_Words.A), (17, ref32_Done_v2.A), (18, ref08_Find.A), (19, ref09_Drive_Read_v4.A), (20, ref01_Same.A), (7, law32_awake.A), (21, ref01_Need.A), (22, ref01_Pack.A)]
noncomputable def Λ : List (Nat × LFun U) := [(31, Λ31)]
noncomputable def CT : List (Nat × LFun U) := [(26, ΛC26), (16, ΛC16), (3, ΛC3)]
def ro : List FuncId := [13, 16, 17, 19]
def D : Nat → Lv × Lv := dtab [(3, ⟨[2, 3], []⟩, ⟨[4], []⟩), (16, ⟨[9, 7, 2, 11, 8, 5, 3], []⟩, ⟨[4], []⟩), (26, ⟨[9, 19, 7, 18, 2, 11, 8, 20], []⟩, ⟨[4], []⟩), (31, ⟨[22, 7, 18, 2, 11, 9, 19, 8], []⟩, ⟨[4, 7, 18, 2, 9, 19], []⟩)]
noncomputable def E : Env U := { E0 with Γ := Γ, Λ := Λ, C := CT, D := D, ro := ro }
theorem hf31 (R : Type) (l : T31) (s : Int) (K : Ex → St U → Option R) : codeA E (pick (loopsOf body) 31) ⟨p31.mkL ((((), ((), ((), ((), ((), (l.1.2.2.2.2.2.1, ((), ((), ((), ((), (l.1.2.2.2.2.2.2.2.2.2.2.1, ((), (s, ((), ())))))))))))))), ((l.2.1.1, (l.2.1.2.1, (l.2.1.2.2.1, (l.2.1.2.2.2.1, (l.2.1.2.2.2.2.1, (l.2.1.2.2.2.2.2.1, (l.2.1.2.2.2.2.2.2.1, (l.2.1.2.2.2.2.2.2.2.1, ())))))))), ((l.2.2.1.1, (l.2.2.1.2.1, (l.2.2.1.2.2.1, (l.2.2.1.2.2.2.1, (l.2.2.1.2.2.2.2.1, ()))))), (l.2.2.2.1, (((), (l.2.2.2.2.1.2.1, (l.2.2.2.2.1.2.2.1, (l.2.2.2.2.1.2.2.2.1, (l.2.2.2.2.1.2.2.2.2.1, (l.2.2.2.2.1.2.2.2.2.2.1, (l.2.2.2.2.1.2.2.2.2.2.2.1, ()))))))), (((), (l.2.2.2.2.2.1.2.1, ((), (l.2.2.2.2.2.1.2.2.2.1, (l.2.2.2.2.2.1.2.2.2.2.1, (l.2.2.2.2.2.1.2.2.2.2.2.1, ((), ()))))))), (l.2.2.2.2.2.2.1, (((), (l.2.2.2.2.2.2.2.1.2.1, (l.2.2.2.2.2.2.2.1.2.2.1, (l.2.2.2.2.2.2.2.1.2.2.2.1, (l.2.2.2.2.2.2.2.1.2.2.2.2.1, (l.2.2.2.2.2.2.2.1.2.2.2.2.2.1, (l.2.2.2.2.2.2.2.1.2.2.2.2.2.2.1, ()))))))), (((), (l.2.2.2.2.2.2.2.2.1.2.1, ((), (l.2.2.2.2.2.2.2.2.1.2.2.2.1, (l.2.2.2.2.2.2.2.2.1.2.2.2.2.1, (l.2.2.2.2.2.2.2.2.1.2.2.2.2.2.1, ((), ()))))))), (l.2.2.2.2.2.2.2.2.2.1, ())))))))))) : T31).1, q31.mkH ((((), ((), ((), ((), ((), (l.1.2.2.2.2.2.1, ((), ((), ((), ((), (l.1.2.2.2.2.2.2.2.2.2.2.1, ((), (s, ((), ())))))))))))))), ((l.2.1.1, (l.2.1.2.1, (l.2.1.2.2.1, (l.2.1.2.2.2.1, (l.2.1.2.2.2.2.1, (l.2.1.2.2.2.2.2.1, (l.2.1.2.2.2.2.2.2.1, (l.2.1.2.2.2.2.2.2.2.1, ())))))))), ((l.2.2.1.1, (l.2.2.1.2.1, (l.2.2.1.2.2.1, (l.2.2.1.2.2.2.1, (l.2.2.1.2.2.2.2.1, ()))))), (l.2.2.2.1, (((), (l.2.2.2.2.1.2.1, (l.2.2.2.2.1.2.2.1, (l.2.2.2.2.1.2.2.2.1, (l.2.2.2.2.1.2.2.2.2.1, (l.2.2.2.2.1.2.2.2.2.2.1, (l.2.2.2.2.1.2.2.2.2.2.2.1, ()))))))), (((), (l.2.2.2.2.2.1.2.1, ((), (l.2.2.2.2.2.1.2.2.2.1, (l.2.2.2.2.2.1.2.2.2.2.1, (l.2.2.2.2.2.1.2.2.2.2.2.1, ((), ()))))))), (l.2.2.2.2.2.2.1, (((), (l.2.2.2.2.2.2.2.1.2.1, (l.2.2.2.2.2.2.2.1.2.2.1, (l.2.2.2.2.2.2.2.1.2.2.2.1, (l.2.2.2.2.2.2.2.1.2.2.2.2.1, (l.2.2.2.2.2.2.2.1.2.2.2.2.2.1, (l.2.2.2.2.2.2.2.1.2.2.2.2.2.2.1, ()))))))), (((), (l.2.2.2.2.2.2.2.2.1.2.1, ((), (l.2.2.2.2.2.2.2.2.1.2.2.2.1, (l.2.2.2.2.2.2.2.2.1.2.2.2.2.1, (l.2.2.2.2.2.2.2.2.1.2.2.2.2.2.1, ((), ()))))))), (l.2.2.2.2.2.2.2.2.2.1, ())))))))))) : T31).2, 0⟩ (roundK E (pick (loopsOf body) 31) K) =
  (l31 l.1.2.2.2.2.2.1 l.1.2.2.2.2.2.2.2.2.2.2.1 l.2.1.1 l.2.1.2.1 l.2.1.2.2.1 l.2.1.2.2.2.1 l.2.1.2.2.2.2.1 l.2.1.2.2.2.2.2.1 l.2.1.2.2.2.2.2.2.1 l.2.1.2.2.2.2.2.2.2.1 l.2.2.1.1 l.2.2.1.2.1 l.2.2.1.2.2.1 l.2.2.1.2.2.2.1 l.2.2.1.2.2.2.2.1 l.2.2.2.1 l.2.2.2.2.1.2.1 l.2.2.2.2.1.2.2.1 l.2.2.2.2.1.2.2.2.1 l.2.2.2.2.1.2.2.2.2.1 l.2.2.2.2.1.2.2.2.2.2.1 l.2.2.2.2.1.2.2.2.2.2.2.1 l.2.2.2.2.2.1.2.1 l.2.2.2.2.2.1.2.2.2.1 l.2.2.2.2.2.1.2.2.2.2.1 l.2.2.2.2.2.1.2.2.2.2.2.1 l.2.2.2.2.2.2.1 l.2.2.2.2.2.2.2.1.2.1 l.2.2.2.2.2.2.2.1.2.2.1 l.2.2.2.2.2.2.2.1.2.2.2.1 l.2.2.2.2.2.2.2.1.2.2.2.2.1 l.2.2.2.2.2.2.2.1.2.2.2.2.2.1 l.2.2.2.2.2.2.2.1.2.2.2.2.2.2.1 l.2.2.2.2.2.2.2.2.1.2.1 l.2.2.2.2.2.2.2.2.1.2.2.2.1 l.2.2.2.2.2.2.2.2.1.2.2.2.2.1 l.2.2.2.2.2.2.2.2.1.2.2.2.2.2.1 l.2.2.2.2.2.2.2.2.2.1 s).runK (lpK K (fun s => ⟨p31.mkL ((((), ((), ((), ((), ((), (l.1.2.2.2.2.2.1, ((), ((), ((), ((), (l.1.2.2.2.2.2.2.2.2.2.2.1, ((), (s, ((), ())))))))))))))), ((l.2.1.1, (l.2.1.2.1, (l.2.1.2.2.1, (l.2.1.2.2.2.1, (l.2.1.2.2.2.2.1, (l.2.1.2.2.2.2.2.1, (l.2.1.2.2.2.2.2.2.1, (l.2.1.2.2.2.2.2.2.2.1, ())))))))), ((l.2.2.1.1, (l.2.2.1.2.1, (l.2.2.1.2.2.1, (l.2.2.1.2.2.2.1, (l.2.2.1.2.2.2.2.1, ()))))), (l.2.2.2.1, (((), (l.2.2.2.2.1.2.1, (l.2.2.2.2.1.2.2.1, (l.2.2.2.2.1.2.2.2.1, (l.2.2.2.2.1.2.2.2.2.1, (l.2.2.2.2.1.2.2.2.2.2.1, (l.2.2.2.2.1.2.2.2.2.2.2.1, ()))))))), (((), (l.2.2.2.2.2.1.2.1, ((), (l.2.2.2.2.2.1.2.2.2.1, (l.2.2.2.2.2.1.2.2.2.2.1, (l.2.2.2.2.2.1.2.2.2.2.2.1, ((), ()))))))), (l.2.2.2.2.2.2.1, (((), (l.2.2.2.2.2.2.2.1.2.1, (l.2.2.2.2.2.2.2.1.2.2.1, (l.2.2.2.2.2.2.2.1.2.2.2.1, (l.2.2.2.2.2.2.2.1.2.2.2.2.1, (l.2.2.2.2.2.2.2.1.2.2.2.2.2.1, (l.2.2.2.2.2.2.2.1.2.2.2.2.2.2.1, ()))))))), (((), (l.2.2.2.2.2.2.2.2.1.2.1, ((), (l.2.2.2.2.2.2.2.2.1.2.2.2.1, (l.2.2.2.2.2.2.2.2.1.2.2.2.2.1, (l.2.2.2.2.2.2.2.2.1.2.2.2.2.2.1, ((), ()))))))), (l.2.2.2.2.2.2.2.2.2.1, ())))))))))) : T31).1, q31.mkH ((((), ((), ((), ((), ((), (l.1.2.2.2.2.2.1, ((), ((), ((), ((), (l.1.2.2.2.2.2.2.2.2.2.2.1, ((), (s, ((), ())))))))))))))), ((l.2.1.1, (l.2.1.2.1, (l.2.1.2.2.1, (l.2.1.2.2.2.1, (l.2.1.2.2.2.2.1, (l.2.1.2.2.2.2.2.1, (l.2.1.2.2.2.2.2.2.1, (l.2.1.2.2.2.2.2.2.2.1, ())))))))), ((l.2.2.1.1, (l.2.2.1.2.1, (l.2.2.1.2.2.1, (l.2.2.1.2.2.2.1, (l.2.2.1.2.2.2.2.1, ()))))), (l.2.2.2.1, (((), (l.2.2.2.2.1.2.1, (l.2.2.2.2.1.2.2.1, (l.2.2.2.2.1.2.2.2.1, (l.2.2.2.2.1.2.2.2.2.1, (l.2.2.2.2.1.2.2.2.2.2.1, (l.2.2.2.2.1.2.2.2.2.2.2.1, ()))))))), (((), (l.2.2.2.2.2.1.2.1, ((), (l.2.2.2.2.2.1.2.2.2.1, (l.2.2.2.2.2.1.2.2.2.2.1, (l.2.2.2.2.2.1.2.2.2.2.2.1, ((), ()))))))), (l.2.2.2.2.2.2.1, (((), (l.2.2.2.2.2.2.2.1.2.1, (l.2.2.2.2.2.2.2.1.2.2.1, (l.2.2.2.2.2.2.2.1.2.2.2.1, (l.2.2.2.2.2.2.2.1.2.2.2.2.1, (l.2.2.2.2.2.2.2.1.2.2.2.2.2.1, (l.2.2.2.2.2.2.2.1.2.2.2.2.2.2.1, ()))))))), (((), (l.2.2.2.2.2.2.2.2.1.2.1, ((), (l.2.2.2.2.2.2.2.2.1.2.2.2.1, (l.2.2.2.2.2.2.2.2.1.2.2.2.2.1, (l.2.2.2.2.2.2.2.2.1.2.2.2.2.2.1, ((), ()))))))), (l.2.2.2.2.2.2.2.2.2.1, ())))))))))) : T31).2, 0⟩) (spS sp1) (ou31 l)) := by kernel_rfl
theorem lk31 (R : Type) (st : St U) (K : Ex → St U → Option R) (r : R) (h : Λ31 R st K = some r) : ∃ n, loopA E (pick (loopsOf body) 31) n st K = some r :=
  lp_ok (U := U) (E := E) (b := pick (loopsOf body) 31) (m := 0) (sp := (spS sp1)) (p := p31) (q := q31) (X := (Unit ⊕ Bool)) (S := Int) (f := fun (l : T31) s => l31 l.1.2.2.2.2.2.1 l.1.2.2.2.2.2.2.2.2.2.2.1 l.2.1.1 l.2.1.2.1 l.2.1.2.2.1 l.2.1.2.2.2.1 l.2.1.2.2.2.2.1 l.2.1.2.2.2.2.2.1 l.2.1.2.2.2.2.2.2.1 l.2.1.2.2.2.2.2.2.2.1 l.2.2.1.1 l.2.2.1.2.1 l.2.2.1.2.2.1 l.2.2.1.2.2.2.1 l.2.2.1.2.2.2.2.1 l.2.2.2.1 l.2.2.2.2.1.2.1 l.2.2.2.2.1.2.2.1 l.2.2.2.2.1.2.2.2.1 l.2.2.2.2.1.2.2.2.2.1 l.2.2.2.2.1.2.2.2.2.2.1 l.2.2.2.2.1.2.2.2.2.2.2.1 l.2.2.2.2.2.1.2.1 l.2.2.2.2.2.1.2.2.2.1 l.2.2.2.2.2.1.2.2.2.2.1 l.2.2.2.2.2.1.2.2.2.2.2.1 l.2.2.2.2.2.2.1 l.2.2.2.2.2.2.2.1.2.1 l.2.2.2.2.2.2.2.1.2.2.1 l.2.2.2.2.2.2.2.1.2.2.2.1 l.2.2.2.2.2.2.2.1.2.2.2.2.1 l.2.2.2.2.2.2.2.1.2.2.2.2.2.1 l.2.2.2.2.2.2.2.1.2.2.2.2.2.2.1 l.2.2.2.2.2.2.2.2.1.2.1 l.2.2.2.2.2.2.2.2.1.2.2.2.1 l.2.2.2.2.2.2.2.2.1.2.2.2.2.1 l.2.2.2.2.2.2.2.2.1.2.2.2.2.2.1 l.2.2.2.2.2.2.2.2.2.1 s) (hd := fun (l : T31) s => (((), ((), ((), ((), ((), (l.1.2.2.2.2.2.1, ((), ((), ((), ((), (l.1.2.2.2.2.2.2.2.2.2.2.1, ((), (s, ((), ())))))))))))))), ((l.2.1.1, (l.2.1.2.1, (l.2.1.2.2.1, (l.2.1.2.2.2.1, (l.2.1.2.2.2.2.1, (l.2.1.2.2.2.2.2.1, (l.2.1.2.2.2.2.2.2.1, (l.2.1.2.2.2.2.2.2.2.1, ())))))))), ((l.2.2.1.1, (l.2.2.1.2.1, (l.2.2.1.2.2.1, (l.2.2.1.2.2.2.1, (l.2.2.1.2.2.2.2.1, ()))))), (l.2.2.2.1, (((), (l.2.2.2.2.1.2.1, (l.2.2.2.2.1.2.2.1, (l.2.2.2.2.1.2.2.2.1, (l.2.2.2.2.1.2.2.2.2.1, (l.2.2.2.2.1.2.2.2.2.2.1, (l.2.2.2.2.1.2.2.2.2.2.2.1, ()))))))), (((), (l.2.2.2.2.2.1.2.1, ((), (l.2.2.2.2.2.1.2.2.2.1, (l.2.2.2.2.2.1.2.2.2.2.1, (l.2.2.2.2.2.1.2.2.2.2.2.1, ((), ()))))))), (l.2.2.2.2.2.2.1, (((), (l.2.2.2.2.2.2.2.1.2.1, (l.2.2.2.2.2.2.2.1.2.2.1, (l.2.2.2.2.2.2.2.1.2.2.2.1, (l.2.2.2.2.2.2.2.1.2.2.2.2.1, (l.2.2.2.2.2.2.2.1.2.2.2.2.2.1, (l.2.2.2.2.2.2.2.1.2.2.2.2.2.2.1, ()))))))), (((), (l.2.2.2.2.2.2.2.2.1.2.1, ((), (l.2.2.2.2.2.2.2.2.1.2.2.2.1, (l.2.2.2.2.2.2.2.2.1.2.2.2.2.1, (l.2.2.2.2.2.2.2.2.1.2.2.2.2.2.1, ((), ()))))))), (l.2.2.2.2.2.2.2.2.2.1, ()))))))))))) (s0 := fun (l : T31) => l.1.2.2.2.2.2.2.2.2.2.2.2.2.1) (ou := ou31)
    (fun l => rfl) (fun l x => by repeat' (first | rfl | (cases x with | inl => rfl | inr x => ?_))) (spS_ok sp1_ok) hf31 h
theorem hc26 (R : Type) (l : TC26) (K : Ex → St U → Option R) : codeA E (pick (seqsOf body) 26) ⟨pC26.mkL l.1, qC26.mkH l.2, 0⟩ (outK E 26 K) =
  (c26 l.1.2.2.2.2.2.1 l.1.2.2.2.2.2.2.2.2.2.2.1 l.1.2.2.2.2.2.2.2.2.2.2.2.1 l.2.1.1 l.2.1.2.1 l.2.1.2.2.1 l.2.1.2.2.2.1 l.2.1.2.2.2.2.1 l.2.1.2.2.2.2.2.1 l.2.1.2.2.2.2.2.2.1 l.2.1.2.2.2.2.2.2.2.1 l.2.2.1.1 l.2.2.1.2.1 l.2.2.1.2.2.1 l.2.2.1.2.2.2.1 l.2.2.1.2.2.2.2.1 l.2.2.2.1 l.2.2.2.2.1.2.1 l.2.2.2.2.1.2.2.1 l.2.2.2.2.1.2.2.2.1 l.2.2.2.2.1.2.2.2.2.1 l.2.2.2.2.1.2.2.2.2.2.1 l.2.2.2.2.1.2.2.2.2.2.2.1 l.2.2.2.2.2.1.2.1 l.2.2.2.2.2.1.2.2.2.1 l.2.2.2.2.2.1.2.2.2.2.1 l.2.2.2.2.2.1.2.2.2.2.2.1 l.2.2.2.2.2.2.1 l.2.2.2.2.2.2.2.1.2.1 l.2.2.2.2.2.2.2.1.2.2.1 l.2.2.2.2.2.2.2.1.2.2.2.1 l.2.2.2.2.2.2.2.1.2.2.2.2.1 l.2.2.2.2.2.2.2.1.2.2.2.2.2.1 l.2.2.2.2.2.2.2.1.2.2.2.2.2.2.1 l.2.2.2.2.2.2.2.2.1.2.1 l.2.2.2.2.2.2.2.2.1.2.2.2.1 l.2.2.2.2.2.2.2.2.1.2.2.2.2.1 l.2.2.2.2.2.2.2.2.1.2.2.2.2.2.1 l.2.2.2.2.2.2.2.2.2.1).runK fun y => K (ouC26 l y).1 (ouC26 l y).2 := by kernel_rfl
theorem ck26 (R : Type) (st : St U) (K : Ex → St U → Option R) (r : R) (h : ΛC26 R st K = some r) : codeA E (pick (seqsOf body) 26) st (outK E 26 K) = some r :=
  cut_ok (U := U) (E := E) (b := pick (seqsOf body) 26) (k := 26) (m := 0) (sp := sp1) (p := pC26) (q := qC26) (X := Bool) (t := fun (l : TC26) => c26 l.1.2.2.2.2.2.1 l.1.2.2.2.2.2.2.2.2.2.2.1 l.1.2.2.2.2.2.2.2.2.2.2.2.1 l.2.1.1 l.2.1.2.1 l.2.1.2.2.1 l.2.1.2.2.2.1 l.2.1.2.2.2.2.1 l.2.1.2.2.2.2.2.1 l.2.1.2.2.2.2.2.2.1 l.2.1.2.2.2.2.2.2.2.1 l.2.2.1.1 l.2.2.1.2.1 l.2.2.1.2.2.1 l.2.2.1.2.2.2.1 l.2.2.1.2.2.2.2.1 l.2.2.2.1 l.2.2.2.2.1.2.1 l.2.2.2.2.1.2.2.1 l.2.2.2.2.1.2.2.2.1 l.2.2.2.2.1.2.2.2.2.1 l.2.2.2.2.1.2.2.2.2.2.1 l.2.2.2.2.1.2.2.2.2.2.2.1 l.2.2.2.2.2.1.2.1 l.2.2.2.2.2.1.2.2.2.1 l.2.2.2.2.2.1.2.2.2.2.1 l.2.2.2.2.2.1.2.2.2.2.2.1 l.2.2.2.2.2.2.1 l.2.2.2.2.2.2.2.1.2.1 l.2.2.2.2.2.2.2.1.2.2.1 l.2.2.2.2.2.2.2.1.2.2.2.1 l.2.2.2.2.2.2.2.1.2.2.2.2.1 l.2.2.2.2.2.2.2.1.2.2.2.2.2.1 l.2.2.2.2.2.2.2.1.2.2.2.2.2.2.1 l.2.2.2.2.2.2.2.2.1.2.1 l.2.2.2.2.2.2.2.2.1.2.2.2.1 l.2.2.2.2.2.2.2.2.1.2.2.2.2.1 l.2.2.2.2.2.2.2.2.1.2.2.2.2.2.1 l.2.2.2.2.2.2.2.2.2.1) (ou := ouC26) sp1_ok hc26 h
theorem hc16 (R : Type) (l : TC16) (K : Ex → St U → Option R) : codeA E (pick (seqsOf body) 16) ⟨pC16.mkL l.1, qC16.mkH l.2, 0⟩ (outK E 16 K) =
  (c16 l.1.2.2.2.2.2.2.2.2.1 l.2.1.1 l.2.1.2.1 l.2.1.2.2.1 l.2.1.2.2.2.1 l.2.1.2.2.2.2.1 l.2.1.2.2.2.2.2.1 l.2.1.2.2.2.2.2.2.1 l.2.1.2.2.2.2.2.2.2.1 l.2.2.1.1 l.2.2.1.2.1 l.2.2.1.2.2.1 l.2.2.1.2.2.2.1 l.2.2.1.2.2.2.2.1 l.2.2.1.2.2.2.2.2.1 l.2.2.1.2.2.2.2.2.2.1 l.2.2.2.1.2.2.2.1 l.2.2.2.2.1.2.1 l.2.2.2.2.1.2.2.2.1 l.2.2.2.2.1.2.2.2.2.1 l.2.2.2.2.1.2.2.2.2.2.1 l.2.2.2.2.2.1 l.2.2.2.2.2.2.1 l.2.2.2.2.2.2.2.1.2.1 l.2.2.2.2.2.2.2.1.2.2.1 l.2.2.2.2.2.2.2.1.2.2.2.1 l.2.2.2.2.2.2.2.1.2.2.2.2.1 l.2.2.2.2.2.2.2.1.2.2.2.2.2.1 l.2.2.2.2.2.2.2.1.2.2.2.2.2.2.1 l.2.2.2.2.2.2.2.2.1.2.1 l.2.2.2.2.2.2.2.2.1.2.2.1 l.2.2.2.2.2.2.2.2.1.2.2.2.1 l.2.2.2.2.2.2.2.2.1.2.2.2.2.1 l.2.2.2.2.2.2.2.2.1.2.2.2.2.2.1 l.2.2.2.2.2.2.2.2.1.2.2.2.2.2.2.1 l.2.2.2.2.2.2.2.2.2.1.2.1 l.2.2.2.2.2.2.2.2.2.1.2.2.2.1 l.2.2.2.2.2.2.2.2.2.1.2.2.2.2.1 l.2.2.2.2.2.2.2.2.2.1.2.2.2.2.2.1 l.2.2.2.2.2.2.2.2.2.2.1 l.2.2.2.2.2.2.2.2.2.2.2.1 l.2.2.2.2.2.2.2.2.2.2.2.2.1 l.2.2.2.2.2.2.2.2.2.2.2.2.2.1.1 l.2.2.2.2.2.2.2.2.2.2.2.2.2.1.2.1 l.2.2.2.2.2.2.2.2.2.2.2.2.2.1.2.2.1 l.2.2.2.2.2.2.2.2.2.2.2.2.2.1.2.2.2.1 l.2.2.2.2.2.2.2.2.2.2.2.2.2.1.2.2.2.2.1 l.2.2.2.2.2.2.2.2.2.2.2.2.2.2.1 l.2.2.2.2.2.2.2.2.2.2.2.2.2.2.2.1.2.1 l.2.2.2.2.2.2.2.2.2.2.2.2.2.2.2.1.2.2.1 l.2.2.2.2.2.2.2.2.2.2.2.2.2.2.2.1.2.2.2.1 l.2.2.2.2.2.2.2.2.2.2.2.2.2.2.2.1.2.2.2.2.1 l.2.2.2.2.2.2.2.2.2.2.2.2.2.2.2.1.2.2.2.2.2.1 l.2.2.2.2.2.2.2.2.2.2.2.2.2.2.2.1.2.2.2.2.2.2.1 l.2.2.2.2.2.2.2.2.2.2.2.2.2.2.2.2.1.2.1 l.2.2.2.2.2.2.2.2.2.2.2.2.2.2.2.2.1.2.2.2.1 l.2.2.2.2.2.2.2.2.2.2.2.2.2.2.2.2.1.2.2.2.2.1 l.2.2.2.2.2.2.2.2.2.2.2.2.2.2.2.2.1.2.2.2.2.2.1 l.2.2.2.2.2.2.2.2.2.2.2.2.2.2.2.2.2.1).runK fun y => K (ouC16 l y).1 (ouC16 l y).2 := by kernel_rfl
theorem ck16 (R : Type) (st : St U) (K : Ex → St U → Option R) (r : R) (h : ΛC16 R st K = some r) : codeA E (pick (seqsOf body) 16) st (outK E 16 K) = some r :=
  cut_ok (U := U) (E := E) (b := pick (seqsOf body) 16) (k := 16) (m := 0) (sp := sp1) (p := pC16) (q := qC16) (X := Bool) (t := fun (l : TC16) => c16 l.1.2.2.2.2.2.2.2.2.1 l.2.1.1 l.2.1.2.1 l.2.1.2.2.1 l.2.1.2.2.2.1 l.2.1.2.2.2.2.1 l.2.1.2.2.2.2.2.1 l.2.1.2.2.2.2.2.2.1 l.2.1.2.2.2.2.2.2.2.1 l.2.2.1.1 l.2.2.1.2.1 l.2.2.1.2.2.1 l.2.2.1.2.2.2.1 l.2.2.1.2.2.2.2.1 l.2.2.1.2.2.2.2.2.1 l.2.2.1.2.2.2.2.2.2.1 l.2.2.2.1.2.2.2.1 l.2.2.2.2.1.2.1 l.2.2.2.2.1.2.2.2.1 l.2.2.2.2.1.2.2.2.2.1 l.2.2.2.2.1.2.2.2.2.2.1 l.2.2.2.2.2.1 l.2.2.2.2.2.2.1 l.2.2.2.2.2.2.2.1.2.1 l.2.2.2.2.2.2.2.1.2.2.1 l.2.2.2.2.2.2.2.1.2.2.2.1 l.2.2.2.2.2.2.2.1.2.2.2.2.1 l.2.2.2.2.2.2.2.1.2.2.2.2.2.1 l.2.2.2.2.2.2.2.1.2.2.2.2.2.2.1 l.2.2.2.2.2.2.2.2.1.2.1 l.2.2.2.2.2.2.2.2.1.2.2.1 l.2.2.2.2.2.2.2.2.1.2.2.2.1 l.2.2.2.2.2.2.2.2.1.2.2.2.2.1 l.2.2.2.2.2.2.2.2.1.2.2.2.2.2.1 l.2.2.2.2.2.2.2.2.1.2.2.2.2.2.2.1 l.2.2.2.2.2.2.2.2.2.1.2.1 l.2.2.2.2.2.2.2.2.2.1.2.2.2.1 l.2.2.2.2.2.2.2.2.2.1.2.2.2.2.1 l.2.2.2.2.2.2.2.2.2.1.2.2.2.2.2.1 l.2.2.2.2.2.2.2.2.2.2.1 l.2.2.2.2.2.2.2.2.2.2.2.1 l.2.2.2.2.2.2.2.2.2.2.2.2.1 l.2.2.2.2.2.2.2.2.2.2.2.2.2.1.1 l.2.2.2.2.2.2.2.2.2.2.2.2.2.1.2.1 l.2.2.2.2.2.2.2.2.2.2.2.2.2.1.2.2.1 l.2.2.2.2.2.2.2.2.2.2.2.2.2.1.2.2.2.1 l.2.2.2.2.2.2.2.2.2.2.2.2.2.1.2.2.2.2.1 l.2.2.2.2.2.2.2.2.2.2.2.2.2.2.1 l.2.2.2.2.2.2.2.2.2.2.2.2.2.2.2.1.2.1 l.2.2.2.2.2.2.2.2.2.2.2.2.2.2.2.1.2.2.1 l.2.2.2.2.2.2.2.2.2.2.2.2.2.2.2.1.2.2.2.1 l.2.2.2.2.2.2.2.2.2.2.2.2.2.2.2.1.2.2.2.2.1 l.2.2.2.2.2.2.2.2.2.2.2.2.2.2.2.1.2.2.2.2.2.1 l.2.2.2.2.2.2.2.2.2.2.2.2.2.2.2.1.2.2.2.2.2.2.1 l.2.2.2.2.2.2.2.2.2.2.2.2.2.2.2.2.1.2.1 l.2.2.2.2.2.2.2.2.2.2.2.2.2.2.2.2.1.2.2.2.1 l.2.2.2.2.2.2.2.2.2.2.2.2.2.2.2.2.1.2.2.2.2.1 l.2.2.2.2.2.2.2.2.2.2.2.2.2.2.2.2.1.2.2.2.2.2.1 l.2.2.2.2.2.2.2.2.2.2.2.2.2.2.2.2.2.1) (ou := ouC16) sp1_ok hc16 h
theorem hc3 (R : Type) (l : TC3) (K : Ex → St U → Option R) : codeA E (pick (seqsOf body) 3) ⟨pC3.mkL l.1, qC3.mkH l.2, 0⟩ (outK E 3 K) =
  (c3 l.2.1.1 l.2.1.2.1 l.2.1.2.2.1 l.2.1.2.2.2.1 l.2.1.2.2.2.2.1 l.2.1.2.2.2.2.2.1 l.2.1.2.2.2.2.2.2.1 l.2.1.2.2.2.2.2.2.2.1 l.2.2.1.1 l.2.2.1.2.1 l.2.2.1.2.2.1 l.2.2.1.2.2.2.1 l.2.2.1.2.2.2.2.1 l.2.2.1.2.2.2.2.2.1 l.2.2.1.2.2.2.2.2.2.1).runK fun y => K (ouC3 l y).1 (ouC3 l y).2 := by kernel_rfl
theorem ck3 (R : Type) (st : St U) (K : Ex → St U → Option R) (r : R) (h : ΛC3 R st K = some r) : codeA E (pick (seqsOf body) 3) st (outK E 3 K) = some r :=
  cut_ok (U := U) (E := E) (b := pick (seqsOf body) 3) (k := 3) (m := 0) (sp := sp1) (p := pC3) (q := qC3) (X := Bool) (t := fun (l : TC3) => c3 l.2.1.1 l.2.1.2.1 l.2.1.2.2.1 l.2.1.2.2.2.1 l.2.1.2.2.2.2.1 l.2.1.2.2.2.2.2.1 l.2.1.2.2.2.2.2.2.1 l.2.1.2.2.2.2.2.2.2.1 l.2.2.1.1 l.2.2.1.2.1 l.2.2.1.2.2.1 l.2.2.1.2.2.2.1 l.2.2.1.2.2.2.2.1 l.2.2.1.2.2.2.2.2.1 l.2.2.1.2.2.2.2.2.2.1) (ou := ouC3) sp1_ok hc3 h
theorem hk (R : Type) (l : TA) (K : AV U → Hp U → Option R) : funcA E Try.f4 [] R (pA.mkL l.1) (pH.mkH l.2) K = (t l.1.1.1 l.1.1.2.1 l.1.1.2.2.1 l.1.1.2.2.2.1 l.1.1.2.2.2.2.1 l.1.1.2.2.2.2.2.1 l.1.1.2.2.2.2.2.2.1 l.1.1.2.2.2.2.2.2.2.1 l.1.2.1.1 l.1.2.1.2.1 l.1.2.1.2.2.1 l.1.2.1.2.2.2.1 l.1.2.1.2.2.2.2.1 l.1.2.1.2.2.2.2.2.1 l.1.2.1.2.2.2.2.2.2.1).runK fun y => K (v l y) (hh l y) := by kernel_rfl
theorem okF : SoundF Try.prog cc 4 (funcA E Try.f4 []) :=
  funcA_ok (E := E) P_mixed (E0_ok.with Γ Λ CT D ro) (gam_of (all_cons ⟨law32_Play_Great.ok, ⟨Try.f6, Try.func6, by kernel_rfl, by kernel_rfl⟩⟩ (all_cons ⟨law32_begin.ok, ⟨Try.f8, Try.func8, by kernel_rfl, by kernel_rfl⟩⟩ (all_cons ⟨law32_desk_run.ok, ⟨Try.f9, Try.func9, by kernel_rfl, by kernel_rfl⟩⟩ (all_cons ⟨(orA_ok flash_Flash_Power_v2.ok flash_Flash_Power.ok), ⟨Try.f10, Try.func10, by kernel_rfl, by kernel_rfl⟩⟩ (all_cons ⟨ref07_Flash_Power_v2.ok, ⟨Try.f11, Try.func11, by kernel_rfl, by kernel_rfl⟩⟩ (all_cons ⟨ref08_Parts.ok, ⟨Try.f12, Try.func12, by kernel_rfl, by kernel_rfl⟩⟩ (all_cons ⟨slot_Done.ok, ⟨Try.f13, Try.func13, by kernel_rfl, by kernel_rfl⟩⟩ (all_cons ⟨flash_Flash_Arm.ok, ⟨Try.f14, Try.func14, by kernel_rfl, by kernel_rfl⟩⟩ (all_cons ⟨law32_desk_do_v2.ok, ⟨Try.f15, Try.func15, by kernel_rfl, by kernel_rfl⟩⟩ (all_cons ⟨flash_Flash_Words.ok, ⟨Try.f16, Try.func16, by kernel_rfl, by kernel_rfl⟩⟩ (all_cons ⟨ref32_Done_v2.ok, ⟨Try.f17, Try.func17, by kernel_rfl, by kernel_rfl⟩⟩ (all_cons ⟨ref08_Find.ok, ⟨Try.f18, Try.func18, by kernel_rfl, by kernel_rfl⟩⟩ (all_cons ⟨ref09_Drive_Read_v4.ok, ⟨Try.f19, Try.func19, by kernel_rfl, by kernel_rfl⟩⟩ (all_cons ⟨ref01_Same.ok, ⟨Try.f20, Try.func20, by kernel_rfl, by kernel_rfl⟩⟩ (all_cons ⟨law32_awake.ok, ⟨Try.f7, Try.func7, by kernel_rfl, by kernel_rfl⟩⟩ (all_cons ⟨ref01_Need.ok, ⟨Try.f21, Try.func21, by kernel_rfl, by kernel_rfl⟩⟩ (all_cons ⟨ref01_Pack.ok, ⟨Try.f22, Try.func22, by kernel_rfl, by kernel_rfl⟩⟩ all_nil))))))))))))))))) (all_cons (no_keep (by kernel_rfl)) (all_cons (no_keep (by kernel_rfl)) (all_cons (no_keep (by kernel_rfl)) (all_cons (no_keep (by kernel_rfl)) (all_cons (no_keep (by kernel_rfl)) (all_cons (no_keep (by kernel_rfl)) (all_cons (fun _ => slot_Done.keep) (all_cons (no_keep (by kernel_rfl)) (all_cons (no_keep (by kernel_rfl)) (all_cons (fun _ => flash_Flash_Words.keep) (all_cons (fun _ => ref32_Done_v2.keep) (all_cons (no_keep (by kernel_rfl)) (all_cons (fun _ => ref09_Drive_Read_v4.keep) (all_cons (no_keep (by kernel_rfl)) (all_cons (no_keep (by kernel_rfl)) (all_cons (no_keep (by kernel_rfl)) (all_cons (no_keep (by kernel_rfl)) all_nil)))))))))))))))))) Try.func4 (c := body) (by kernel_rfl)
    (just_by (by kernel_rfl) (by kernel_rfl) (all_cons lk31 all_nil) (all_cons ck26 (all_cons ck16 (all_cons ck3 all_nil)))) []
theorem ok : SoundF Try.prog cc 4 A :=
  mkA_ok (E := E) (p := pA) (q := pH) (t := fun (l : TA) => t l.1.1.1 l.1.1.2.1 l.1.1.2.2.1 l.1.1.2.2.2.1 l.1.1.2.2.2.2.1 l.1.1.2.2.2.2.2.1 l.1.1.2.2.2.2.2.2.1 l.1.1.2.2.2.2.2.2.2.1 l.1.2.1.1 l.1.2.1.2.1 l.1.2.1.2.2.1 l.1.2.1.2.2.2.1 l.1.2.1.2.2.2.2.1 l.1.2.1.2.2.2.2.2.1 l.1.2.1.2.2.2.2.2.2.1) sp1_ok hk okF
theorem keep : KeepA A := mkA_keep (U := U) sp1_ok (fun (l : TA) y => ⟨(hh l y).drop 0, by kernel_rfl⟩)
end law32_SlotKeeps

end Go.Proofs.Ytnlclchlnngdnaa.Va
