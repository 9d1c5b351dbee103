/- The functions of package law18, as plain functions, and that the program computes them. Printed by a program of this work out of the evaluator. -/
import Derived.Test.YtadhnolgfhgepaaEn
import Derived.Tactics
import Derived.Test.YtadhnolgfhgepaaFitem
import Derived.Test.YtadhnolgfhgepaaFref18
namespace Go.Proofs.Ytadhnolgfhgepaa.Va
open Go
set_option linter.unusedVariables false
set_option maxRecDepth 100000

/-! instar/instarlaw18.awake -/
namespace law18_awake
abbrev TA : Type := (Unit × Unit)
noncomputable def t : Tw Bool :=
 (.opt (item_Main.c (3 : Int) (7 : Int)) fun z1 =>
  (.opt (item_Side.c (0 : Int) (3 : Int) (7 : Int)) fun z2 =>
   (.opt (item_Told.c z2.1) fun z3 =>
    (.opt (item_Put_none0.c (5 : Int) (ByteArray.mk (List.toArray ((120 : UInt8) :: [])))) fun z4 =>
     (.bb (z1.1 == (196615 : Int))
      (.bb (z1.2 == (0 : Int))
       (.bb (z2.1 == (16973831 : Int))
        (.bb (z2.2 == (0 : Int))
         (.bb (z3.1 == (0 : Int))
          (.bb (z3.2.1 == (3 : Int))
           (.bb (z3.2.2 == (7 : Int))
            (.bb ((((List.length z4) : Nat) : Int) == (1 : Int))
             (.dd ((((0 : Int) ≤ (0 : Int)) ∧ ((0 : Int) < (((List.length z4) : Nat) : Int)))) inferInstance
              (.opt (z4)[(Int.toNat (0 : Int))]? fun z5 =>
               (.ret (z5.key == (5 : Int))))
              .no)
             (.ret false))
            (.ret false))
           (.ret false))
          (.ret false))
         (.ret false))
        (.ret false))
       (.ret false))
      (.ret false))))))
noncomputable def c : Option Bool := (t).run
def pA : Pt := .nl
def pH : Pt := .nl
def v (l : TA) (y : Bool) : AV U := .im (.bool y)
def hh (l : TA) (y : Bool) : Hp U := []
noncomputable def A : AFun U := mkA (U := U) pA pH (X := Bool) (fun (l : TA) => c) sp1 v hh
noncomputable def body : Code := (Go.Func.body Try.f40).getD .skip
noncomputable def Γ : List (FuncId × AFun U) := [(35, item_Main.A), (36, item_Side.A), (37, item_Told.A), (50, item_Put_none0.A)]
noncomputable def Λ : List (Nat × LFun U) := []
def D : Nat → Lv × Lv := dtab []
noncomputable def E : Env U := { E0 with Γ := Γ, Λ := Λ, C := [], D := D }
theorem hk (R : Type) (l : TA) (K : AV U → Hp U → Option R) : funcA E Try.f40 [] R (pA.mkL l.1) (pH.mkH l.2) K = (t).runK fun y => K (v l y) (hh l y) := by kernel_rfl
theorem okF : SoundF Try.prog cc 40 (funcA E Try.f40 []) :=
  funcA_ok (E := E) P_mixed (E0_ok.with Γ Λ [] D) (gam_of (all_cons ⟨item_Main.ok, ⟨Try.f35, Try.func35, by kernel_rfl, by kernel_rfl⟩⟩ (all_cons ⟨item_Side.ok, ⟨Try.f36, Try.func36, by kernel_rfl, by kernel_rfl⟩⟩ (all_cons ⟨item_Told.ok, ⟨Try.f37, Try.func37, by kernel_rfl, by kernel_rfl⟩⟩ (all_cons ⟨item_Put_none0.ok, ⟨Try.f50, Try.func50, by kernel_rfl, by kernel_rfl⟩⟩ all_nil))))) Try.func40 (c := body) (by kernel_rfl)
    (just_by (by kernel_rfl) (by kernel_rfl) all_nil all_nil) []
theorem ok : SoundF Try.prog cc 40 A :=
  mkA_ok (E := E) (p := pA) (q := pH) (t := fun (l : TA) => t) sp1_ok hk okF
end law18_awake

/-! instar/instarlaw18.ItemKeys -/
namespace law18_ItemKeys
abbrev TA : Type := (((Int × (Int × (Int × Unit))) × (Int × Unit)) × Unit)
noncomputable def t (a_0 : Int) (a_1 : Int) (a_2 : Int) (k : Int) : Tw Bool :=
 (.opt (item_Main.c a_1 a_2) fun z1 =>
  (.opt (item_Side.c a_0 a_1 a_2) fun z2 =>
   (.opt (item_Told.c k) fun z3 =>
    (.opt (ref18_Told.c k) fun z4 =>
     (.bb (z3.1 != z4.1)
      (.ret false)
      (.bb (z3.2.1 != z4.2.1)
       (.ret false)
       (.bb (z3.2.2 != z4.2.2)
        (.ret false)
        (.opt (ref18_Fits.c a_1 a_2) fun z5 =>
         (.bb (!z5)
          (.bb (z1.1 == (0 : Int))
           (.bb (z1.2 == (2 : Int))
            (.bb (z2.1 == (0 : Int))
             (.bb (z2.2 == (2 : Int))
              (.opt (law18_awake.c) fun z13 =>
               (.ret z13))
              (.ret false))
             (.ret false))
            (.ret false))
           (.ret false))
          (.opt (item_Told.c z1.1) fun z6 =>
           (.opt (ref18_Main.c a_1 a_2) fun z7 =>
            (.bb (z1.1 != z7)
             (.ret false)
             (.bb (z1.2 != (0 : Int))
              (.ret false)
              (.bb (z6.1 != (-(1 : Int)))
               (.ret false)
               (.bb (z6.2.1 != a_1)
                (.ret false)
                (.bb (z6.2.2 != a_2)
                 (.ret false)
                 (.bb (decide (a_0 < (0 : Int)))
                  (.bb (z2.1 == (0 : Int))
                   (.bb (z2.2 == (2 : Int))
                    (.opt (law18_awake.c) fun z12 =>
                     (.ret z12))
                    (.ret false))
                   (.ret false))
                  (.bb (decide (a_0 > (199 : Int)))
                   (.bb (z2.1 == (0 : Int))
                    (.bb (z2.2 == (2 : Int))
                     (.opt (law18_awake.c) fun z11 =>
                      (.ret z11))
                     (.ret false))
                    (.ret false))
                   (.opt (item_Told.c z2.1) fun z8 =>
                    (.opt (ref18_Side.c a_0 a_1 a_2) fun z9 =>
                     (.bb (z2.1 == z9)
                      (.bb (z2.2 == (0 : Int))
                       (.bb (z8.1 == a_0)
                        (.bb (z8.2.1 == a_1)
                         (.bb (z8.2.2 == a_2)
                          (.opt (law18_awake.c) fun z10 =>
                           (.ret z10))
                          (.ret false))
                         (.ret false))
                        (.ret false))
                       (.ret false))
                      (.ret false))))))))))))))))))))))
noncomputable def c (a_0 : Int) (a_1 : Int) (a_2 : Int) (k : Int) : Option Bool := (t a_0 a_1 a_2 k).run
def pA : Pt := (.cs (.agg (.cs (.int .i64) (.cs (.int .i64) (.cs (.int .i64) .nl)))) (.cs (.int .u32) .nl))
def pH : Pt := .nl
def v (l : TA) (y : Bool) : AV U := .im (.bool y)
def hh (l : TA) (y : Bool) : Hp U := []
noncomputable def A : AFun U := mkA (U := U) pA pH (X := Bool) (fun (l : TA) => c l.1.1.1 l.1.1.2.1 l.1.1.2.2.1 l.1.2.1) sp1 v hh
noncomputable def body : Code := (Go.Func.body Try.f9).getD .skip
noncomputable def Γ : List (FuncId × AFun U) := [(35, item_Main.A), (36, item_Side.A), (37, item_Told.A), (38, ref18_Told.A), (39, ref18_Fits.A), (41, ref18_Main.A), (42, ref18_Side.A), (40, law18_awake.A)]
noncomputable def Λ : List (Nat × LFun U) := []
def D : Nat → Lv × Lv := dtab []
noncomputable def E : Env U := { E0 with Γ := Γ, Λ := Λ, C := [], D := D }
theorem hk (R : Type) (l : TA) (K : AV U → Hp U → Option R) : funcA E Try.f9 [] R (pA.mkL l.1) (pH.mkH l.2) K = (t l.1.1.1 l.1.1.2.1 l.1.1.2.2.1 l.1.2.1).runK fun y => K (v l y) (hh l y) := by kernel_rfl
theorem okF : SoundF Try.prog cc 9 (funcA E Try.f9 []) :=
  funcA_ok (E := E) P_mixed (E0_ok.with Γ Λ [] D) (gam_of (all_cons ⟨item_Main.ok, ⟨Try.f35, Try.func35, by kernel_rfl, by kernel_rfl⟩⟩ (all_cons ⟨item_Side.ok, ⟨Try.f36, Try.func36, by kernel_rfl, by kernel_rfl⟩⟩ (all_cons ⟨item_Told.ok, ⟨Try.f37, Try.func37, by kernel_rfl, by kernel_rfl⟩⟩ (all_cons ⟨ref18_Told.ok, ⟨Try.f38, Try.func38, by kernel_rfl, by kernel_rfl⟩⟩ (all_cons ⟨ref18_Fits.ok, ⟨Try.f39, Try.func39, by kernel_rfl, by kernel_rfl⟩⟩ (all_cons ⟨ref18_Main.ok, ⟨Try.f41, Try.func41, by kernel_rfl, by kernel_rfl⟩⟩ (all_cons ⟨ref18_Side.ok, ⟨Try.f42, Try.func42, by kernel_rfl, by kernel_rfl⟩⟩ (all_cons ⟨law18_awake.ok, ⟨Try.f40, Try.func40, by kernel_rfl, by kernel_rfl⟩⟩ all_nil))))))))) Try.func9 (c := body) (by kernel_rfl)
    (just_by (by kernel_rfl) (by kernel_rfl) all_nil all_nil) []
theorem ok : SoundF Try.prog cc 9 A :=
  mkA_ok (E := E) (p := pA) (q := pH) (t := fun (l : TA) => t l.1.1.1 l.1.1.2.1 l.1.1.2.2.1 l.1.2.1) sp1_ok hk okF
end law18_ItemKeys

/-! instar/instarlaw18.ItemByKey -/
namespace law18_ItemByKey
abbrev TA : Type := (((List ItemV) × ((Int × (ByteArray × Unit)) × (Int × Unit))) × Unit)
noncomputable def t (l_ : (List ItemV)) (x_0 : Int) (x_1 : ByteArray) (k : Int) : Tw Bool :=
 (.opt (ref18_Right.c l_) fun z1 =>
  (.bb (!z1)
   (.opt (law18_awake.c) fun z12 =>
    (.ret z12))
   (.bb (decide ((((ByteArray.size x_1) : Nat) : Int) > (64 : Int)))
    (.opt (law18_awake.c) fun z11 =>
     (.ret z11))
    (.opt (item_Put.c l_ x_0 x_1) fun z2 =>
     (.opt (item_Cut.c l_ x_0) fun z3 =>
      (.opt (item_Find.c l_ k) fun z4 =>
       (.opt (item_Find.c z2 k) fun z5 =>
        (.opt (item_Find.c z3.2 k) fun z6 =>
         (.opt (item_Right.c z2) fun z7 =>
          (.bb (!z7)
           (.ret false)
           (.opt (item_Right.c z3.2) fun z8 =>
            (.bb (!z8)
             (.ret false)
             (.bb (!(z3.1 == ((((List.length z3.2) : Nat) : Int) == (w64 ((((List.length l_) : Nat) : Int) - (1 : Int))))))
              (.ret false)
              (.bb ((((List.length z2) : Nat) : Int) != (w64 ((((List.length z3.2) : Nat) : Int) + (1 : Int))))
               (.ret false)
               (.bb (k == x_0)
                (.bb ((ByteArray.toList z5.1) == (ByteArray.toList x_1))
                 (.bb z5.2
                  (.bb ((ByteArray.toList z6.1) == (ByteArray.toList (ByteArray.mk (List.toArray []))))
                   (.bb (!z6.2)
                    (.bb (z4.2 == z3.1)
                     (.opt (law18_awake.c) fun z10 =>
                      (.ret z10))
                     (.ret false))
                    (.ret false))
                   (.ret false))
                  (.ret false))
                 (.ret false))
                (.bb ((ByteArray.toList z4.1) == (ByteArray.toList z5.1))
                 (.bb (z4.2 == z5.2)
                  (.bb ((ByteArray.toList z4.1) == (ByteArray.toList z6.1))
                   (.bb (z4.2 == z6.2)
                    (.opt (law18_awake.c) fun z9 =>
                     (.ret z9))
                    (.ret false))
                   (.ret false))
                  (.ret false))
                 (.ret false)))))))))))))))))
noncomputable def c (l_ : (List ItemV)) (x_0 : Int) (x_1 : ByteArray) (k : Int) : Option Bool := (t l_ x_0 x_1 k).run
def pA : Pt := (.cs (.sl 10) (.cs (.agg (.cs (.int .u32) (.cs .str .nl))) (.cs (.int .u32) .nl)))
def pH : Pt := .nl
def v (l : TA) (y : Bool) : AV U := .im (.bool y)
def hh (l : TA) (y : Bool) : Hp U := []
noncomputable def A : AFun U := mkA (U := U) pA pH (X := Bool) (fun (l : TA) => c l.1.1 l.1.2.1.1 l.1.2.1.2.1 l.1.2.2.1) sp1 v hh
noncomputable def body : Code := (Go.Func.body Try.f12).getD .skip
noncomputable def Γ : List (FuncId × AFun U) := [(49, ref18_Right.A), (50, item_Put.A), (51, item_Cut.A), (52, item_Find.A), (53, item_Right.A), (40, law18_awake.A)]
noncomputable def Λ : List (Nat × LFun U) := []
def D : Nat → Lv × Lv := dtab []
noncomputable def E : Env U := { E0 with Γ := Γ, Λ := Λ, C := [], D := D }
theorem hk (R : Type) (l : TA) (K : AV U → Hp U → Option R) : funcA E Try.f12 [] R (pA.mkL l.1) (pH.mkH l.2) K = (t l.1.1 l.1.2.1.1 l.1.2.1.2.1 l.1.2.2.1).runK fun y => K (v l y) (hh l y) := by kernel_rfl
theorem okF : SoundF Try.prog cc 12 (funcA E Try.f12 []) :=
  funcA_ok (E := E) P_mixed (E0_ok.with Γ Λ [] D) (gam_of (all_cons ⟨ref18_Right.ok, ⟨Try.f49, Try.func49, by kernel_rfl, by kernel_rfl⟩⟩ (all_cons ⟨item_Put.ok, ⟨Try.f50, Try.func50, by kernel_rfl, by kernel_rfl⟩⟩ (all_cons ⟨item_Cut.ok, ⟨Try.f51, Try.func51, by kernel_rfl, by kernel_rfl⟩⟩ (all_cons ⟨item_Find.ok, ⟨Try.f52, Try.func52, by kernel_rfl, by kernel_rfl⟩⟩ (all_cons ⟨item_Right.ok, ⟨Try.f53, Try.func53, by kernel_rfl, by kernel_rfl⟩⟩ (all_cons ⟨law18_awake.ok, ⟨Try.f40, Try.func40, by kernel_rfl, by kernel_rfl⟩⟩ all_nil))))))) Try.func12 (c := body) (by kernel_rfl)
    (just_by (by kernel_rfl) (by kernel_rfl) all_nil all_nil) []
theorem ok : SoundF Try.prog cc 12 A :=
  mkA_ok (E := E) (p := pA) (q := pH) (t := fun (l : TA) => t l.1.1 l.1.2.1.1 l.1.2.1.2.1 l.1.2.2.1) sp1_ok hk okF
end law18_ItemByKey

/-! instar/instarlaw18.ItemLists -/
namespace law18_ItemLists
abbrev TA : Type := (((List ItemV) × ((List ItemV) × ((Int × (ByteArray × Unit)) × Unit))) × Unit)
noncomputable def t (l_ : (List ItemV)) (m : (List ItemV)) (x_0 : Int) (x_1 : ByteArray) : Tw Bool :=
 (.opt (item_Find.c l_ x_0) fun z1 =>
  (.opt (ref18_Find.c l_ x_0) fun z2 =>
   (.opt (item_Cut.c l_ x_0) fun z3 =>
    (.opt (ref18_Cut.c l_ x_0) fun z4 =>
     (.bb (!((ByteArray.toList z1.1) == (ByteArray.toList z2.1)))
      (.ret false)
      (.bb (!(z1.2 == z2.2))
       (.ret false)
       (.opt (ref18_Same.c z3.2 z4.2) fun z5 =>
        (.bb (!z5)
         (.ret false)
         (.bb (!(z3.1 == z4.1))
          (.ret false)
          (.opt (item_Right.c l_) fun z6 =>
           (.opt (ref18_Right.c l_) fun z7 =>
            (.bb (z6 == z7)
             (.opt (item_Same.c l_ m) fun z8 =>
              (.opt (ref18_Same.c l_ m) fun z9 =>
               (.bb (z8 == z9)
                (.opt (item_Put.c l_ x_0 x_1) fun z10 =>
                 (.opt (ref18_Put.c l_ x_0 x_1) fun z11 =>
                  (.opt (ref18_Same.c z10 z11) fun z12 =>
                   (.bb z12
                    (.opt (item_Mains.c l_) fun z13 =>
                     (.opt (ref18_Mains.c l_) fun z14 =>
                      (.opt (ref18_Same.c z13 z14) fun z15 =>
                       (.bb z15
                        (.opt (item_Sides.c l_) fun z16 =>
                         (.opt (ref18_Sides.c l_) fun z17 =>
                          (.opt (ref18_Same.c z16 z17) fun z18 =>
                           (.bb z18
                            (.opt (law18_awake.c) fun z19 =>
                             (.ret z19))
                            (.ret false)))))
                        (.ret false)))))
                    (.ret false)))))
                (.ret false))))
             (.ret false)))))))))))))
noncomputable def c (l_ : (List ItemV)) (m : (List ItemV)) (x_0 : Int) (x_1 : ByteArray) : Option Bool := (t l_ m x_0 x_1).run
def pA : Pt := (.cs (.sl 10) (.cs (.sl 10) (.cs (.agg (.cs (.int .u32) (.cs .str .nl))) .nl)))
def pH : Pt := .nl
def v (l : TA) (y : Bool) : AV U := .im (.bool y)
def hh (l : TA) (y : Bool) : Hp U := []
noncomputable def A : AFun U := mkA (U := U) pA pH (X := Bool) (fun (l : TA) => c l.1.1 l.1.2.1 l.1.2.2.1.1 l.1.2.2.1.2.1) sp1 v hh
noncomputable def body : Code := (Go.Func.body Try.f14).getD .skip
noncomputable def Γ : List (FuncId × AFun U) := [(52, item_Find.A), (63, ref18_Find.A), (51, item_Cut.A), (64, ref18_Cut.A), (65, ref18_Same.A), (53, item_Right.A), (49, ref18_Right.A), (66, item_Same.A), (50, item_Put.A), (67, ref18_Put.A), (68, item_Mains.A), (69, ref18_Mains.A), (70, item_Sides.A), (71, ref18_Sides.A), (40, law18_awake.A)]
noncomputable def Λ : List (Nat × LFun U) := []
def D : Nat → Lv × Lv := dtab []
noncomputable def E : Env U := { E0 with Γ := Γ, Λ := Λ, C := [], D := D }
theorem hk (R : Type) (l : TA) (K : AV U → Hp U → Option R) : funcA E Try.f14 [] R (pA.mkL l.1) (pH.mkH l.2) K = (t l.1.1 l.1.2.1 l.1.2.2.1.1 l.1.2.2.1.2.1).runK fun y => K (v l y) (hh l y) := by kernel_rfl
theorem okF : SoundF Try.prog cc 14 (funcA E Try.f14 []) :=
  funcA_ok (E := E) P_mixed (E0_ok.with Γ Λ [] D) (gam_of (all_cons ⟨item_Find.ok, ⟨Try.f52, Try.func52, by kernel_rfl, by kernel_rfl⟩⟩ (all_cons ⟨ref18_Find.ok, ⟨Try.f63, Try.func63, by kernel_rfl, by kernel_rfl⟩⟩ (all_cons ⟨item_Cut.ok, ⟨Try.f51, Try.func51, by kernel_rfl, by kernel_rfl⟩⟩ (all_cons ⟨ref18_Cut.ok, ⟨Try.f64, Try.func64, by kernel_rfl, by kernel_rfl⟩⟩ (all_cons ⟨ref18_Same.ok, ⟨Try.f65, Try.func65, by kernel_rfl, by kernel_rfl⟩⟩ (all_cons ⟨item_Right.ok, ⟨Try.f53, Try.func53, by kernel_rfl, by kernel_rfl⟩⟩ (all_cons ⟨ref18_Right.ok, ⟨Try.f49, Try.func49, by kernel_rfl, by kernel_rfl⟩⟩ (all_cons ⟨item_Same.ok, ⟨Try.f66, Try.func66, by kernel_rfl, by kernel_rfl⟩⟩ (all_cons ⟨item_Put.ok, ⟨Try.f50, Try.func50, by kernel_rfl, by kernel_rfl⟩⟩ (all_cons ⟨ref18_Put.ok, ⟨Try.f67, Try.func67, by kernel_rfl, by kernel_rfl⟩⟩ (all_cons ⟨item_Mains.ok, ⟨Try.f68, Try.func68, by kernel_rfl, by kernel_rfl⟩⟩ (all_cons ⟨ref18_Mains.ok, ⟨Try.f69, Try.func69, by kernel_rfl, by kernel_rfl⟩⟩ (all_cons ⟨item_Sides.ok, ⟨Try.f70, Try.func70, by kernel_rfl, by kernel_rfl⟩⟩ (all_cons ⟨ref18_Sides.ok, ⟨Try.f71, Try.func71, by kernel_rfl, by kernel_rfl⟩⟩ (all_cons ⟨law18_awake.ok, ⟨Try.f40, Try.func40, by kernel_rfl, by kernel_rfl⟩⟩ all_nil)))))))))))))))) Try.func14 (c := body) (by kernel_rfl)
    (just_by (by kernel_rfl) (by kernel_rfl) all_nil all_nil) []
theorem ok : SoundF Try.prog cc 14 A :=
  mkA_ok (E := E) (p := pA) (q := pH) (t := fun (l : TA) => t l.1.1 l.1.2.1 l.1.2.2.1.1 l.1.2.2.1.2.1) sp1_ok hk okF
end law18_ItemLists

end Go.Proofs.Ytadhnolgfhgepaa.Va
