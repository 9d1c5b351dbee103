/- The functions of package law23, as plain functions, and that the program computes them. Printed by a program of this work out of the evaluator. -/
import Derived.Test.YtpidbpmkogbdeaaEn
import Derived.Tactics
import Derived.Test.YtpidbpmkogbdeaaFleaf
import Derived.Test.YtpidbpmkogbdeaaFref01
import Derived.Test.YtpidbpmkogbdeaaFref18
import Derived.Test.YtpidbpmkogbdeaaFref23
namespace Go.Proofs.Ytpidbpmkogbdeaa.Va
open Go
set_option linter.unusedVariables false
set_option maxRecDepth 100000

/-! instar/instarlaw23.awake -/
namespace law23_awake
abbrev TA : Type := (Unit × Unit)
noncomputable def t : Tw Bool :=
 (.opt (leaf_Lay.c ((Go.Proofs.Ytpidbpmkogbdeaa.Va.ItemV.mk (5 : Int) (ByteArray.mk (List.toArray ((97 : UInt8) :: ([] : List UInt8))))) :: ([] : List ItemV)) (64 : Int)) fun z1 =>
  (.opt (ref01_Same.c z1.2 ((1 : Int) :: ((5 : Int) :: ((1 : Int) :: ((1627389952 : Int) :: ((121 : Int) :: ([] : List Int))))))) fun z2 =>
   (.bb z2
    (.bb (z1.1 == (0 : Int))
     (.opt (leaf_Room.c (64 : Int)) fun z3 =>
      (.bb (z3 == (62 : Int))
       (.opt (leaf_Cost.c (0 : Int) (ByteArray.mk (List.toArray ((97 : UInt8) :: ([] : List UInt8))))) fun z4 =>
        (.ret (z4 == (3 : Int))))
       (.ret false)))
     (.ret false))
    (.ret false))))
noncomputable def c : Option Bool := (t).run
def pA : Pt := .nl
def pH : Pt := .nl
def v (l : TA) (y : Bool) : AV U := .im (.bool y)
def hh (l : TA) (y : Bool) : Hp U := []
noncomputable def A : AFun U := mkA (U := U) pA pH (X := Bool) (fun (l : TA) => c) sp1 v hh
noncomputable def body : Code := (Go.Func.body Try.f18).getD .skip
noncomputable def Γ : List (FuncId × AFun U) := [(19, leaf_Lay.A), (22, ref01_Same.A), (28, leaf_Room.A), (96, leaf_Cost.A)]
noncomputable def Λ : List (Nat × LFun U) := []
noncomputable def CT : List (Nat × LFun U) := []
def ro : List FuncId := []
def D : Nat → Lv × Lv := dtab []
noncomputable def E : Env U := { E0 with Γ := Γ, Λ := Λ, C := CT, D := D, ro := ro }
theorem hk (R : Type) (l : TA) (K : AV U → Hp U → Option R) : funcA E Try.f18 [] R (pA.mkL l.1) (pH.mkH l.2) K = (t).runK fun y => K (v l y) (hh l y) := by kernel_rfl
theorem okF : SoundF Try.prog cc 18 (funcA E Try.f18 []) :=
  funcA_ok (E := E) P_mixed (E0_ok.with Γ Λ CT D ro) (gam_of (all_cons ⟨leaf_Lay.ok, ⟨Try.f19, Try.func19, by kernel_rfl, by kernel_rfl⟩⟩ (all_cons ⟨ref01_Same.ok, ⟨Try.f22, Try.func22, by kernel_rfl, by kernel_rfl⟩⟩ (all_cons ⟨leaf_Room.ok, ⟨Try.f28, Try.func28, by kernel_rfl, by kernel_rfl⟩⟩ (all_cons ⟨leaf_Cost.ok, ⟨Try.f96, Try.func96, by kernel_rfl, by kernel_rfl⟩⟩ all_nil)))) (all_cons (no_keep (by kernel_rfl)) (all_cons (no_keep (by kernel_rfl)) (all_cons (no_keep (by kernel_rfl)) (all_cons (no_keep (by kernel_rfl)) all_nil))))) Try.func18 (c := body) (by kernel_rfl)
    (just_by (by kernel_rfl) (by kernel_rfl) all_nil all_nil) []
theorem ok : SoundF Try.prog cc 18 A :=
  mkA_ok (E := E) (p := pA) (q := pH) (t := fun (l : TA) => t) sp1_ok hk okF
theorem keep : KeepA A := mkA_keep (U := U) sp1_ok (fun (l : TA) y => ⟨(hh l y).drop 0, by kernel_rfl⟩)
end law23_awake

/-! instar/instarlaw23.LeafWords -/
namespace law23_LeafWords
abbrev TA : Type := (((List ItemV) × (Int × ((List Int) × Unit))) × Unit)
noncomputable def t (l_ : (List ItemV)) (words : Int) (w : (List Int)) : Tw Bool :=
 (.bb (decide ((((List.length l_) : Nat) : Int) > (300 : Int)))
  (.opt (law23_awake.c) fun z53 =>
   (.ret z53))
  (.bb (decide ((((List.length w) : Nat) : Int) > (2000 : Int)))
   (.opt (law23_awake.c) fun z52 =>
    (.ret z52))
   (.opt (leaf_Lay.c l_ words) fun z1 =>
    (.bb (decide (words > (2 : Int)))
     (.opt (ref23_May.c l_) fun z27 =>
      (.bb (!z27)
       (.bb (z1.1 != (2 : Int))
        (.ret false)
        (.bb ((((List.length z1.2) : Nat) : Int) != (0 : Int))
         (.ret false)
         (.opt (leaf_Take.c w) fun z45 =>
          (.opt (ref23_Take.c w) fun z46 =>
           (.opt (ref18_Same.c z45.2 z46.2) fun z47 =>
            (.bb z47
             (.bb (z45.1 == z46.1)
              (.opt (leaf_Total.c l_) fun z48 =>
               (.opt (ref23_Total.c l_) fun z49 =>
                (.bb (z48 == z49)
                 (.opt (leaf_Room.c words) fun z50 =>
                  (.bb (z50 == (w64 (words - (2 : Int))))
                   (.opt (law23_awake.c) fun z51 =>
                    (.ret z51))
                   (.ret false)))
                 (.ret false))))
              (.ret false))
             (.ret false)))))))
       (.opt (ref23_Total.c l_) fun z28 =>
        (.bb (decide (z28 > (w64 (words - (2 : Int)))))
         (.bb (z1.1 != (14 : Int))
          (.ret false)
          (.bb ((((List.length z1.2) : Nat) : Int) != (0 : Int))
           (.ret false)
           (.opt (leaf_Take.c w) fun z38 =>
            (.opt (ref23_Take.c w) fun z39 =>
             (.opt (ref18_Same.c z38.2 z39.2) fun z40 =>
              (.bb z40
               (.bb (z38.1 == z39.1)
                (.opt (leaf_Total.c l_) fun z41 =>
                 (.opt (ref23_Total.c l_) fun z42 =>
                  (.bb (z41 == z42)
                   (.opt (leaf_Room.c words) fun z43 =>
                    (.bb (z43 == (w64 (words - (2 : Int))))
                     (.opt (law23_awake.c) fun z44 =>
                      (.ret z44))
                     (.ret false)))
                   (.ret false))))
                (.ret false))
               (.ret false)))))))
         (.bb (z1.1 != (0 : Int))
          (.ret false)
          (.opt (ref23_Lay.c l_) fun z29 =>
           (.opt (ref01_Same.c z1.2 z29) fun z30 =>
            (.bb (!z30)
             (.ret false)
             (.opt (leaf_Take.c w) fun z31 =>
              (.opt (ref23_Take.c w) fun z32 =>
               (.opt (ref18_Same.c z31.2 z32.2) fun z33 =>
                (.bb z33
                 (.bb (z31.1 == z32.1)
                  (.opt (leaf_Total.c l_) fun z34 =>
                   (.opt (ref23_Total.c l_) fun z35 =>
                    (.bb (z34 == z35)
                     (.opt (leaf_Room.c words) fun z36 =>
                      (.bb (z36 == (w64 (words - (2 : Int))))
                       (.opt (law23_awake.c) fun z37 =>
                        (.ret z37))
                       (.ret false)))
                     (.ret false))))
                  (.ret false))
                 (.ret false)))))))))))))
     (.opt (ref23_May.c l_) fun z2 =>
      (.bb (!z2)
       (.bb (z1.1 != (2 : Int))
        (.ret false)
        (.bb ((((List.length z1.2) : Nat) : Int) != (0 : Int))
         (.ret false)
         (.opt (leaf_Take.c w) fun z20 =>
          (.opt (ref23_Take.c w) fun z21 =>
           (.opt (ref18_Same.c z20.2 z21.2) fun z22 =>
            (.bb z22
             (.bb (z20.1 == z21.1)
              (.opt (leaf_Total.c l_) fun z23 =>
               (.opt (ref23_Total.c l_) fun z24 =>
                (.bb (z23 == z24)
                 (.opt (leaf_Room.c words) fun z25 =>
                  (.bb (z25 == (0 : Int))
                   (.opt (law23_awake.c) fun z26 =>
                    (.ret z26))
                   (.ret false)))
                 (.ret false))))
              (.ret false))
             (.ret false)))))))
       (.opt (ref23_Total.c l_) fun z3 =>
        (.bb (decide (z3 > (0 : Int)))
         (.bb (z1.1 != (14 : Int))
          (.ret false)
          (.bb ((((List.length z1.2) : Nat) : Int) != (0 : Int))
           (.ret false)
           (.opt (leaf_Take.c w) fun z13 =>
            (.opt (ref23_Take.c w) fun z14 =>
             (.opt (ref18_Same.c z13.2 z14.2) fun z15 =>
              (.bb z15
               (.bb (z13.1 == z14.1)
                (.opt (leaf_Total.c l_) fun z16 =>
                 (.opt (ref23_Total.c l_) fun z17 =>
                  (.bb (z16 == z17)
                   (.opt (leaf_Room.c words) fun z18 =>
                    (.bb (z18 == (0 : Int))
                     (.opt (law23_awake.c) fun z19 =>
                      (.ret z19))
                     (.ret false)))
                   (.ret false))))
                (.ret false))
               (.ret false)))))))
         (.bb (z1.1 != (0 : Int))
          (.ret false)
          (.opt (ref23_Lay.c l_) fun z4 =>
           (.opt (ref01_Same.c z1.2 z4) fun z5 =>
            (.bb (!z5)
             (.ret false)
             (.opt (leaf_Take.c w) fun z6 =>
              (.opt (ref23_Take.c w) fun z7 =>
               (.opt (ref18_Same.c z6.2 z7.2) fun z8 =>
                (.bb z8
                 (.bb (z6.1 == z7.1)
                  (.opt (leaf_Total.c l_) fun z9 =>
                   (.opt (ref23_Total.c l_) fun z10 =>
                    (.bb (z9 == z10)
                     (.opt (leaf_Room.c words) fun z11 =>
                      (.bb (z11 == (0 : Int))
                       (.opt (law23_awake.c) fun z12 =>
                        (.ret z12))
                       (.ret false)))
                     (.ret false))))
                  (.ret false))
                 (.ret false)))))))))))))))))
noncomputable def c (l_ : (List ItemV)) (words : Int) (w : (List Int)) : Option Bool := (t l_ words w).run
def pA : Pt := (.cs (.sl 10) (.cs (.int .i64) (.cs (.sl 3) .nl)))
def pH : Pt := .nl
def v (l : TA) (y : Bool) : AV U := .im (.bool y)
def hh (l : TA) (y : Bool) : Hp U := []
noncomputable def A : AFun U := mkA (U := U) pA pH (X := Bool) (fun (l : TA) => c l.1.1 l.1.2.1 l.1.2.2.1) sp1 v hh
noncomputable def body : Code := (Go.Func.body Try.f3).getD .skip
noncomputable def Γ : List (FuncId × AFun U) := [(19, leaf_Lay.A), (20, ref23_May.A), (21, ref23_Total.A), (23, ref23_Lay.A), (22, ref01_Same.A), (24, leaf_Take.A), (25, ref23_Take.A), (26, ref18_Same.A), (27, leaf_Total.A), (28, leaf_Room.A), (18, law23_awake.A)]
noncomputable def Λ : List (Nat × LFun U) := []
noncomputable def CT : List (Nat × LFun U) := []
def ro : List FuncId := []
def D : Nat → Lv × Lv := dtab []
noncomputable def E : Env U := { E0 with Γ := Γ, Λ := Λ, C := CT, D := D, ro := ro }
theorem hk (R : Type) (l : TA) (K : AV U → Hp U → Option R) : funcA E Try.f3 [] R (pA.mkL l.1) (pH.mkH l.2) K = (t l.1.1 l.1.2.1 l.1.2.2.1).runK fun y => K (v l y) (hh l y) := by kernel_rfl
theorem okF : SoundF Try.prog cc 3 (funcA E Try.f3 []) :=
  funcA_ok (E := E) P_mixed (E0_ok.with Γ Λ CT D ro) (gam_of (all_cons ⟨leaf_Lay.ok, ⟨Try.f19, Try.func19, by kernel_rfl, by kernel_rfl⟩⟩ (all_cons ⟨ref23_May.ok, ⟨Try.f20, Try.func20, by kernel_rfl, by kernel_rfl⟩⟩ (all_cons ⟨ref23_Total.ok, ⟨Try.f21, Try.func21, by kernel_rfl, by kernel_rfl⟩⟩ (all_cons ⟨ref23_Lay.ok, ⟨Try.f23, Try.func23, by kernel_rfl, by kernel_rfl⟩⟩ (all_cons ⟨ref01_Same.ok, ⟨Try.f22, Try.func22, by kernel_rfl, by kernel_rfl⟩⟩ (all_cons ⟨leaf_Take.ok, ⟨Try.f24, Try.func24, by kernel_rfl, by kernel_rfl⟩⟩ (all_cons ⟨ref23_Take.ok, ⟨Try.f25, Try.func25, by kernel_rfl, by kernel_rfl⟩⟩ (all_cons ⟨ref18_Same.ok, ⟨Try.f26, Try.func26, by kernel_rfl, by kernel_rfl⟩⟩ (all_cons ⟨leaf_Total.ok, ⟨Try.f27, Try.func27, by kernel_rfl, by kernel_rfl⟩⟩ (all_cons ⟨leaf_Room.ok, ⟨Try.f28, Try.func28, by kernel_rfl, by kernel_rfl⟩⟩ (all_cons ⟨law23_awake.ok, ⟨Try.f18, Try.func18, by kernel_rfl, by kernel_rfl⟩⟩ all_nil))))))))))) (all_cons (no_keep (by kernel_rfl)) (all_cons (no_keep (by kernel_rfl)) (all_cons (no_keep (by kernel_rfl)) (all_cons (no_keep (by kernel_rfl)) (all_cons (no_keep (by kernel_rfl)) (all_cons (no_keep (by kernel_rfl)) (all_cons (no_keep (by kernel_rfl)) (all_cons (no_keep (by kernel_rfl)) (all_cons (no_keep (by kernel_rfl)) (all_cons (no_keep (by kernel_rfl)) (all_cons (no_keep (by kernel_rfl)) all_nil)))))))))))) Try.func3 (c := body) (by kernel_rfl)
    (just_by (by kernel_rfl) (by kernel_rfl) all_nil all_nil) []
theorem ok : SoundF Try.prog cc 3 A :=
  mkA_ok (E := E) (p := pA) (q := pH) (t := fun (l : TA) => t l.1.1 l.1.2.1 l.1.2.2.1) sp1_ok hk okF
theorem keep : KeepA A := mkA_keep (U := U) sp1_ok (fun (l : TA) y => ⟨(hh l y).drop 0, by kernel_rfl⟩)
end law23_LeafWords

/-! instar/instarlaw23.LeafBack -/
namespace law23_LeafBack
abbrev TA : Type := (((List ItemV) × ((List Int) × Unit)) × Unit)
noncomputable def t (l_ : (List ItemV)) (more : (List Int)) : Tw Bool :=
 (.bb (decide ((((List.length l_) : Nat) : Int) > (300 : Int)))
  (.opt (law23_awake.c) fun z8 =>
   (.ret z8))
  (.opt (leaf_Lay.c l_ (1048576 : Int)) fun z1 =>
   (.bb (z1.1 != (0 : Int))
    (.opt (ref23_May.c l_) fun z6 =>
     (.bb (!z6)
      (.bb (z1.1 == (2 : Int))
       (.opt (law23_awake.c) fun z7 =>
        (.ret z7))
       (.ret false))
      (.ret false)))
    (.dd (((((List.length z1.2) * (4 : Nat)) ≤ (140737488355328 : Nat)) ∧ ((List.length z1.2) ≤ (140737488355328 : Nat)))) inferInstance
     (.dd ((((((List.length z1.2) + (List.length more)) * (4 : Nat)) ≤ (140737488355328 : Nat)) ∧ (((List.length z1.2) + (List.length more)) ≤ (140737488355328 : Nat)))) inferInstance
      (.opt (leaf_Take.c (z1.2 ++ more)) fun z2 =>
       (.opt (ref18_Same.c z2.2 l_) fun z3 =>
        (.bb z3
         (.bb (z2.1 == (0 : Int))
          (.opt (leaf_Total.c l_) fun z4 =>
           (.bb ((((List.length z1.2) : Nat) : Int) == (w64 (z4 + (2 : Int))))
            (.opt (law23_awake.c) fun z5 =>
             (.ret z5))
            (.ret false)))
          (.ret false))
         (.ret false))))
      .no)
     .no))))
noncomputable def c (l_ : (List ItemV)) (more : (List Int)) : Option Bool := (t l_ more).run
def pA : Pt := (.cs (.sl 10) (.cs (.sl 3) .nl))
def pH : Pt := .nl
def v (l : TA) (y : Bool) : AV U := .im (.bool y)
def hh (l : TA) (y : Bool) : Hp U := []
noncomputable def A : AFun U := mkA (U := U) pA pH (X := Bool) (fun (l : TA) => c l.1.1 l.1.2.1) sp1 v hh
noncomputable def body : Code := (Go.Func.body Try.f4).getD .skip
noncomputable def Γ : List (FuncId × AFun U) := [(19, leaf_Lay.A), (24, leaf_Take.A), (26, ref18_Same.A), (27, leaf_Total.A), (18, law23_awake.A), (20, ref23_May.A)]
noncomputable def Λ : List (Nat × LFun U) := []
noncomputable def CT : List (Nat × LFun U) := []
def ro : List FuncId := []
def D : Nat → Lv × Lv := dtab []
noncomputable def E : Env U := { E0 with Γ := Γ, Λ := Λ, C := CT, D := D, ro := ro }
theorem hk (R : Type) (l : TA) (K : AV U → Hp U → Option R) : funcA E Try.f4 [] R (pA.mkL l.1) (pH.mkH l.2) K = (t l.1.1 l.1.2.1).runK fun y => K (v l y) (hh l y) := by kernel_rfl
theorem okF : SoundF Try.prog cc 4 (funcA E Try.f4 []) :=
  funcA_ok (E := E) P_mixed (E0_ok.with Γ Λ CT D ro) (gam_of (all_cons ⟨leaf_Lay.ok, ⟨Try.f19, Try.func19, by kernel_rfl, by kernel_rfl⟩⟩ (all_cons ⟨leaf_Take.ok, ⟨Try.f24, Try.func24, by kernel_rfl, by kernel_rfl⟩⟩ (all_cons ⟨ref18_Same.ok, ⟨Try.f26, Try.func26, by kernel_rfl, by kernel_rfl⟩⟩ (all_cons ⟨leaf_Total.ok, ⟨Try.f27, Try.func27, by kernel_rfl, by kernel_rfl⟩⟩ (all_cons ⟨law23_awake.ok, ⟨Try.f18, Try.func18, by kernel_rfl, by kernel_rfl⟩⟩ (all_cons ⟨ref23_May.ok, ⟨Try.f20, Try.func20, by kernel_rfl, by kernel_rfl⟩⟩ all_nil)))))) (all_cons (no_keep (by kernel_rfl)) (all_cons (no_keep (by kernel_rfl)) (all_cons (no_keep (by kernel_rfl)) (all_cons (no_keep (by kernel_rfl)) (all_cons (no_keep (by kernel_rfl)) (all_cons (no_keep (by kernel_rfl)) all_nil))))))) Try.func4 (c := body) (by kernel_rfl)
    (just_by (by kernel_rfl) (by kernel_rfl) all_nil all_nil) []
theorem ok : SoundF Try.prog cc 4 A :=
  mkA_ok (E := E) (p := pA) (q := pH) (t := fun (l : TA) => t l.1.1 l.1.2.1) sp1_ok hk okF
theorem keep : KeepA A := mkA_keep (U := U) sp1_ok (fun (l : TA) y => ⟨(hh l y).drop 0, by kernel_rfl⟩)
end law23_LeafBack

/-! instar/instarlaw23.LeafSure -/
namespace law23_LeafSure
abbrev TA : Type := (((List ItemV) × ((List Int) × Unit)) × Unit)
abbrev T12 : Type := (((List ItemV) × ((List Int) × (Unit × (Unit × (Unit × (Unit × (Int × (Int × (Unit × Unit))))))))) × ((List Int) × ((List Bool) × Unit)))
noncomputable def l12 (l_ : (List ItemV)) (up : (List Int)) (h0 : (List Int)) (at_ : Int) (i : Int) (h1 : (List Bool)) : Tw ((Int × (Int × (List Bool))) ⊕ ((List Bool) ⊕ (Bool × (List Bool)))) :=
 (.bb (decide (i < (((List.length l_) : Nat) : Int)))
  (.bb (decide ((w64 (at_ + (1 : Int))) ≥ (((List.length h0) : Nat) : Int)))
   (.ret (.inr (.inr (false, h1))))
   (.dd ((((0 : Int) ≤ (w64 (at_ + (1 : Int)))) ∧ ((w64 (at_ + (1 : Int))) < (((List.length h1) : Nat) : Int)))) inferInstance
    (.opt (h1)[(Int.toNat (w64 (at_ + (1 : Int))))]? fun z3 =>
     (.dd (((0 : Int) ≤ i)) inferInstance
      (.opt (l_)[(Int.toNat i)]? fun z4 =>
       (.opt (ref23_Cost.c z4.key z4.data) fun z5 =>
        (.ret (.inl ((w64 (at_ + z5)), ((w64 (i + (1 : Int))), (List.set h1 (Int.toNat (w64 (at_ + (1 : Int)))) true)))))))
      .no))
    .no))
  (.ret (.inr (.inl h1))))
noncomputable def L12 (l_ : (List ItemV)) (up : (List Int)) (at_ : Int) (i : Int) (h0 : (List Int)) (h1 : (List Bool)) : Option ((List Bool) ⊕ (Bool × (List Bool))) := Lp (fun s => (l12 l_ up h0 s.1 s.2.1 s.2.2).run) (at_, (i, h1))
def p12 : Pt := (.cs (.sl 10) (.cs (.sl 3) (.cs (.bots 3) (.cs (.own 0) (.cs (.bots 1) (.cs (.own 1) (.cs (.int .i64) (.cs (.int .i64) (.cs (.bots 117) .nl)))))))))
def q12 : Pt := (.cs (.row 3 true) (.cs (.row 4 true) .nl))
def ou12 (l : T12) (y : ((List Bool) ⊕ (Bool × (List Bool)))) : Ex × St U := (Sum.elim (fun a0 => (.exit 0, stOf 127 [(0, .im (.slice 10 l.1.1)), (1, .im (.slice 3 l.1.2.1)), (5, .own 0), (7, .own 1)] [.row 3 l.2.1 true, .row 4 a0 true] 0)) (fun b0 => (.ret, stOf 127 [(0, .im (.slice 10 l.1.1)), (1, .im (.slice 3 l.1.2.1)), (4, .im (.bool b0.1)), (5, .own 0), (7, .own 1)] [.row 3 l.2.1 true, .row 4 b0.2 true] 0)) y)
noncomputable def Λ12 : LFun U := mkLp (U := U) p12 q12 0 (X := ((List Bool) ⊕ (Bool × (List Bool)))) (fun (l : T12) => L12 l.1.1 l.1.2.1 l.1.2.2.2.2.2.2.1 l.1.2.2.2.2.2.2.2.1 l.2.1 l.2.2.1) (spS sp1) ou12
abbrev T20 : Type := (((List ItemV) × ((List Int) × (Unit × (Unit × (Unit × (Unit × (Unit × (Bool × (Int × (Unit × Unit)))))))))) × ((List Int) × ((List Bool) × Unit)))
noncomputable def l20 (l_ : (List ItemV)) (up : (List Int)) (h1 : (List Bool)) (same : Bool) (i : Int) (h0 : (List Int)) : Tw ((Bool × (Int × (List Int))) ⊕ (Bool × (List Int))) :=
 (.bb (decide (i < (((List.length h0) : Nat) : Int)))
  (.bb (decide (i < (((List.length up) : Nat) : Int)))
   (.dd ((((0 : Int) ≤ i) ∧ (i < (((List.length h1) : Nat) : Int)))) inferInstance
    (.opt (h1)[(Int.toNat i)]? fun z9 =>
     (.bb (!z9)
      (.dd ((((0 : Int) ≤ i) ∧ (i < (((List.length h0) : Nat) : Int)))) inferInstance
       (.opt (h0)[(Int.toNat i)]? fun z10 =>
        (.dd (((0 : Int) ≤ i)) inferInstance
         (.opt (up)[(Int.toNat i)]? fun z11 =>
          (.dd ((((0 : Int) ≤ i) ∧ (i < (((List.length h0) : Nat) : Int)))) inferInstance
           (.opt (h0)[(Int.toNat i)]? fun z12 =>
            (.bb ((bOr .u32 z10 z11) != z12)
             (.dd ((((0 : Int) ≤ i) ∧ (i < (((List.length h0) : Nat) : Int)))) inferInstance
              (.opt (h0)[(Int.toNat i)]? fun z13 =>
               (.dd (((0 : Int) ≤ i)) inferInstance
                (.opt (up)[(Int.toNat i)]? fun z14 =>
                 (.dd ((((0 : Int) ≤ i) ∧ (i < (((List.length h0) : Nat) : Int)))) inferInstance
                  (.opt (h0)[(Int.toNat i)]? fun z15 =>
                   (.ret (.inl (false, ((w64 (i + (1 : Int))), (List.set h0 (Int.toNat i) (bOr .u32 z13 z14)))))))
                  .no))
                .no))
              .no)
             (.ret (.inl (same, ((w64 (i + (1 : Int))), h0))))))
           .no))
         .no))
       .no)
      (.ret (.inl (same, ((w64 (i + (1 : Int))), h0))))))
    .no)
   (.ret (.inr (same, h0))))
  (.ret (.inr (same, h0))))
noncomputable def L20 (l_ : (List ItemV)) (up : (List Int)) (same : Bool) (i : Int) (h0 : (List Int)) (h1 : (List Bool)) : Option (Bool × (List Int)) := Lp (fun s => (l20 l_ up h1 s.1 s.2.1 s.2.2).run) (same, (i, h0))
def p20 : Pt := (.cs (.sl 10) (.cs (.sl 3) (.cs (.bots 3) (.cs (.own 0) (.cs (.bots 1) (.cs (.own 1) (.cs (.bots 2) (.cs .bool (.cs (.int .i64) (.cs (.bots 115) .nl))))))))))
def q20 : Pt := (.cs (.row 3 true) (.cs (.row 4 true) .nl))
def ou20 (l : T20) (y : (Bool × (List Int))) : Ex × St U := (.exit 2, stOf 127 [(0, .im (.slice 10 l.1.1)), (5, .own 0), (10, .im (.bool y.1))] [.row 3 y.2 true] 0)
noncomputable def Λ20 : LFun U := mkLp (U := U) p20 q20 0 (X := (Bool × (List Int))) (fun (l : T20) => L20 l.1.1 l.1.2.1 l.1.2.2.2.2.2.2.2.1 l.1.2.2.2.2.2.2.2.2.1 l.2.1 l.2.2.1) sp1 ou20
noncomputable def t (l_ : (List ItemV)) (up : (List Int)) : Tw Bool :=
 (.bb (decide ((((List.length l_) : Nat) : Int) > (300 : Int)))
  (.opt (law23_awake.c) fun z22 =>
   (.ret z22))
  (.opt (leaf_Lay.c l_ (1048576 : Int)) fun z1 =>
   (.bb (z1.1 != (0 : Int))
    (.opt (law23_awake.c) fun z21 =>
     (.ret z21))
    (.bb ((((List.length z1.2) : Nat) : Int) == (0 : Int))
     (.ret false)
     (.dd ((((0 : Int) ≤ (((List.length z1.2) : Nat) : Int)) ∧ (((((List.length z1.2) : Nat) : Int) ≤ (((List.length z1.2) : Nat) : Int)) ∧ (((((List.length z1.2) : Nat) : Int) ≤ (140737488355328 : Int)) ∧ (((((List.length z1.2) : Nat) : Int) * (((1 : Nat) : Nat) : Int)) ≤ (140737488355328 : Int)))))) inferInstance
      (.dd ((((0 : Int) ≤ (0 : Int)) ∧ ((0 : Int) < (((List.length (List.replicate (Int.toNat (((List.length z1.2) : Nat) : Int)) false)) : Nat) : Int)))) inferInstance
       (.opt ((List.replicate (Int.toNat (((List.length z1.2) : Nat) : Int)) false))[(Int.toNat (0 : Int))]? fun z2 =>
        (.opt (L12 l_ up (1 : Int) (0 : Int) z1.2 (List.set (List.replicate (Int.toNat (((List.length z1.2) : Nat) : Int)) false) (Int.toNat (0 : Int)) true)) fun z6 =>
         (.sm z6
          (fun z7 => (.opt (L20 l_ up true (0 : Int) z1.2 z7) fun z16 =>
            (.opt (leaf_Take.c z16.2) fun z17 =>
             (.bb z16.1
              (.opt (ref18_Same.c z17.2 l_) fun z19 =>
               (.bb z19
                (.bb (z17.1 == (0 : Int))
                 (.opt (law23_awake.c) fun z20 =>
                  (.ret z20))
                 (.ret false))
                (.ret false)))
              (.bb ((((List.length z17.2) : Nat) : Int) == (0 : Int))
               (.bb (z17.1 == (12 : Int))
                (.opt (law23_awake.c) fun z18 =>
                 (.ret z18))
                (.ret false))
               (.ret false))))))
          (fun z8 => (.ret z8.1)))))
       .no)
      .no)))))
noncomputable def c (l_ : (List ItemV)) (up : (List Int)) : Option Bool := (t l_ up).run
def pA : Pt := (.cs (.sl 10) (.cs (.sl 3) .nl))
def pH : Pt := .nl
def v (l : TA) (y : Bool) : AV U := .im (.bool y)
def hh (l : TA) (y : Bool) : Hp U := []
noncomputable def A : AFun U := mkA (U := U) pA pH (X := Bool) (fun (l : TA) => c l.1.1 l.1.2.1) sp1 v hh
noncomputable def body : Code := (Go.Func.body Try.f5).getD .skip
noncomputable def Γ : List (FuncId × AFun U) := [(19, leaf_Lay.A), (29, ref23_Cost.A), (24, leaf_Take.A), (18, law23_awake.A), (26, ref18_Same.A)]
noncomputable def Λ : List (Nat × LFun U) := [(12, Λ12), (20, Λ20)]
noncomputable def CT : List (Nat × LFun U) := []
def ro : List FuncId := []
def D : Nat → Lv × Lv := dtab [(12, ⟨[9, 0, 8, 7, 5, 1], []⟩, ⟨[4, 1, 5, 7, 0], []⟩), (20, ⟨[11, 1, 5, 7, 0, 10], []⟩, ⟨[4, 0, 10, 5], []⟩)]
noncomputable def E : Env U := { E0 with Γ := Γ, Λ := Λ, C := CT, D := D, ro := ro }
theorem hf12 (R : Type) (l : T12) (s : (Int × (Int × (List Bool)))) (K : Ex → St U → Option R) : codeA E (pick (loopsOf body) 12) ⟨p12.mkL (((l.1.1, (l.1.2.1, ((), ((), ((), ((), (s.1, (s.2.1, ((), ()))))))))), (l.2.1, (s.2.2, ()))) : T12).1, q12.mkH (((l.1.1, (l.1.2.1, ((), ((), ((), ((), (s.1, (s.2.1, ((), ()))))))))), (l.2.1, (s.2.2, ()))) : T12).2, 0⟩ (roundK E (pick (loopsOf body) 12) K) =
  (l12 l.1.1 l.1.2.1 l.2.1 s.1 s.2.1 s.2.2).runK (lpK K (fun s => ⟨p12.mkL (((l.1.1, (l.1.2.1, ((), ((), ((), ((), (s.1, (s.2.1, ((), ()))))))))), (l.2.1, (s.2.2, ()))) : T12).1, q12.mkH (((l.1.1, (l.1.2.1, ((), ((), ((), ((), (s.1, (s.2.1, ((), ()))))))))), (l.2.1, (s.2.2, ()))) : T12).2, 0⟩) (spS sp1) (ou12 l)) := by kernel_rfl
theorem lk12 (R : Type) (st : St U) (K : Ex → St U → Option R) (r : R) (h : Λ12 R st K = some r) : ∃ n, loopA E (pick (loopsOf body) 12) n st K = some r :=
  lp_ok (U := U) (E := E) (b := pick (loopsOf body) 12) (m := 0) (sp := (spS sp1)) (p := p12) (q := q12) (X := ((List Bool) ⊕ (Bool × (List Bool)))) (S := (Int × (Int × (List Bool)))) (f := fun (l : T12) s => l12 l.1.1 l.1.2.1 l.2.1 s.1 s.2.1 s.2.2) (hd := fun (l : T12) s => ((l.1.1, (l.1.2.1, ((), ((), ((), ((), (s.1, (s.2.1, ((), ()))))))))), (l.2.1, (s.2.2, ())))) (s0 := fun (l : T12) => (l.1.2.2.2.2.2.2.1, (l.1.2.2.2.2.2.2.2.1, l.2.2.1))) (ou := ou12)
    (fun l => rfl) (fun l x => by repeat' (first | rfl | (cases x with | inl => rfl | inr x => ?_))) (spS_ok sp1_ok) hf12 h
theorem hf20 (R : Type) (l : T20) (s : (Bool × (Int × (List Int)))) (K : Ex → St U → Option R) : codeA E (pick (loopsOf body) 20) ⟨p20.mkL (((l.1.1, (l.1.2.1, ((), ((), ((), ((), ((), (s.1, (s.2.1, ((), ())))))))))), (s.2.2, (l.2.2.1, ()))) : T20).1, q20.mkH (((l.1.1, (l.1.2.1, ((), ((), ((), ((), ((), (s.1, (s.2.1, ((), ())))))))))), (s.2.2, (l.2.2.1, ()))) : T20).2, 0⟩ (roundK E (pick (loopsOf body) 20) K) =
  (l20 l.1.1 l.1.2.1 l.2.2.1 s.1 s.2.1 s.2.2).runK (lpK K (fun s => ⟨p20.mkL (((l.1.1, (l.1.2.1, ((), ((), ((), ((), ((), (s.1, (s.2.1, ((), ())))))))))), (s.2.2, (l.2.2.1, ()))) : T20).1, q20.mkH (((l.1.1, (l.1.2.1, ((), ((), ((), ((), ((), (s.1, (s.2.1, ((), ())))))))))), (s.2.2, (l.2.2.1, ()))) : T20).2, 0⟩) sp1 (ou20 l)) := by kernel_rfl
theorem lk20 (R : Type) (st : St U) (K : Ex → St U → Option R) (r : R) (h : Λ20 R st K = some r) : ∃ n, loopA E (pick (loopsOf body) 20) n st K = some r :=
  lp_ok (U := U) (E := E) (b := pick (loopsOf body) 20) (m := 0) (sp := sp1) (p := p20) (q := q20) (X := (Bool × (List Int))) (S := (Bool × (Int × (List Int)))) (f := fun (l : T20) s => l20 l.1.1 l.1.2.1 l.2.2.1 s.1 s.2.1 s.2.2) (hd := fun (l : T20) s => ((l.1.1, (l.1.2.1, ((), ((), ((), ((), ((), (s.1, (s.2.1, ((), ())))))))))), (s.2.2, (l.2.2.1, ())))) (s0 := fun (l : T20) => (l.1.2.2.2.2.2.2.2.1, (l.1.2.2.2.2.2.2.2.2.1, l.2.1))) (ou := ou20)
    (fun l => rfl) (fun l x => by rfl) sp1_ok hf20 h
theorem hk (R : Type) (l : TA) (K : AV U → Hp U → Option R) : funcA E Try.f5 [] R (pA.mkL l.1) (pH.mkH l.2) K = (t l.1.1 l.1.2.1).runK fun y => K (v l y) (hh l y) := by kernel_rfl
theorem okF : SoundF Try.prog cc 5 (funcA E Try.f5 []) :=
  funcA_ok (E := E) P_mixed (E0_ok.with Γ Λ CT D ro) (gam_of (all_cons ⟨leaf_Lay.ok, ⟨Try.f19, Try.func19, by kernel_rfl, by kernel_rfl⟩⟩ (all_cons ⟨ref23_Cost.ok, ⟨Try.f29, Try.func29, by kernel_rfl, by kernel_rfl⟩⟩ (all_cons ⟨leaf_Take.ok, ⟨Try.f24, Try.func24, by kernel_rfl, by kernel_rfl⟩⟩ (all_cons ⟨law23_awake.ok, ⟨Try.f18, Try.func18, by kernel_rfl, by kernel_rfl⟩⟩ (all_cons ⟨ref18_Same.ok, ⟨Try.f26, Try.func26, by kernel_rfl, by kernel_rfl⟩⟩ all_nil))))) (all_cons (no_keep (by kernel_rfl)) (all_cons (no_keep (by kernel_rfl)) (all_cons (no_keep (by kernel_rfl)) (all_cons (no_keep (by kernel_rfl)) (all_cons (no_keep (by kernel_rfl)) all_nil)))))) Try.func5 (c := body) (by kernel_rfl)
    (just_by (by kernel_rfl) (by kernel_rfl) (all_cons lk12 (all_cons lk20 all_nil)) all_nil) []
theorem ok : SoundF Try.prog cc 5 A :=
  mkA_ok (E := E) (p := pA) (q := pH) (t := fun (l : TA) => t l.1.1 l.1.2.1) sp1_ok hk okF
theorem keep : KeepA A := mkA_keep (U := U) sp1_ok (fun (l : TA) y => ⟨(hh l y).drop 0, by kernel_rfl⟩)
end law23_LeafSure

end Go.Proofs.Ytpidbpmkogbdeaa.Va
