/- The functions of package wear, as plain functions, and that the program computes them. Printed by a program of this work out of the evaluator. -/
import Derived.Test.YtmlbioapefgioaaEn
import Derived.Tactics
import Derived.Test.YtmlbioapefgioaaFflash
import Derived.Test.YtmlbioapefgioaaFgeom
namespace Go.Proofs.Ytmlbioapefgioaa.Va
open Go
set_option linter.unusedVariables false
set_option maxRecDepth 100000

/-! instar/wear.fine -/
namespace wear_fine
abbrev TA : Type := ((Unit × ((Int × (Int × (Int × (Int × (Int × (Int × Unit)))))) × Unit)) × ((Unit × (Int × (Unit × (Int × (Bool × (Int × (Unit × Unit))))))) × ((List Int) × ((List Int) × ((List Int) × Unit)))))
noncomputable def t (g_0 g_1 g_2 g_3 g_4 g_5 h0_1 h0_3 : Int) (h0_4 : Bool) (h0_5 : Int) (h1 : (List Int)) (h2 : (List Int)) (h3 : (List Int)) : Tw Int :=
 (.opt (geom_Check.c g_0 g_1 g_2 g_3 g_4 g_5) fun z1 =>
  (.bb (z1 != (0 : Int))
   (.ret z1)
   (.opt (flash_Flash_Size.c h0_1 h0_3 h0_4 h0_5 h1 h2 h3) fun z2 =>
    (.opt (geom_Sectors.c g_0 g_1 g_2 g_3 g_4 g_5) fun z3 =>
     (.bb (z2 != z3)
      (.ret (2 : Int))
      (.bb (h0_1 != g_0)
       (.ret (2 : Int))
       (.ret (0 : Int))))))))
noncomputable def c (g_0 g_1 g_2 g_3 g_4 g_5 h0_1 h0_3 : Int) (h0_4 : Bool) (h0_5 : Int) (h1 : (List Int)) (h2 : (List Int)) (h3 : (List Int)) : Option Int := (t g_0 g_1 g_2 g_3 g_4 g_5 h0_1 h0_3 h0_4 h0_5 h1 h2 h3).run
noncomputable def tl (l : TA) : Tw Int := t l.1.2.1.1 l.1.2.1.2.1 l.1.2.1.2.2.1 l.1.2.1.2.2.2.1 l.1.2.1.2.2.2.2.1 l.1.2.1.2.2.2.2.2.1 l.2.1.2.1 l.2.1.2.2.2.1 l.2.1.2.2.2.2.1 l.2.1.2.2.2.2.2.1 l.2.2.1 l.2.2.2.1 l.2.2.2.2.1
noncomputable def cl (l : TA) : Option Int := c l.1.2.1.1 l.1.2.1.2.1 l.1.2.1.2.2.1 l.1.2.1.2.2.2.1 l.1.2.1.2.2.2.2.1 l.1.2.1.2.2.2.2.2.1 l.2.1.2.1 l.2.1.2.2.2.1 l.2.1.2.2.2.2.1 l.2.1.2.2.2.2.2.1 l.2.2.1 l.2.2.2.1 l.2.2.2.2.1
def pA : Pt := (.cs (.ptr 0 0) (.cs (.agg (jC (jC (jC (jC (jC (jC .nl))))))) .nl))
def pH : Pt := (.cs (.var (.cs (.own 1) (jC (.cs (.own 2) (jC (.cs .bool (jC (.cs (.own 3) .nl)))))))) (.cs (.row 3 true) (.cs (.row 1 true) (.cs (.row 3 true) .nl))))
def v (l : TA) (y : Int) : AV U := jI y
def hh (l : TA) (y : Int) : Hp U := [.var [.own 1, jI l.2.1.2.1, .own 2, jI l.2.1.2.2.2.1, jB l.2.1.2.2.2.2.1, jI l.2.1.2.2.2.2.2.1, .own 3], .row 3 l.2.2.1 true, .row 1 l.2.2.2.1 true, .row 3 l.2.2.2.2.1 true]
noncomputable def A : AFun U := mkA (U := U) pA pH (X := Int) cl sp1 v hh
noncomputable def body : Code := (Go.Func.body Try.f69).getD .skip
noncomputable def Γ : List (FuncId × AFun U) := [(79, geom_Check.A), (74, flash_Flash_Size.A), (70, geom_Sectors.A)]
noncomputable def Λ : List (Nat × LFun U) := []
noncomputable def CT : List (Nat × LFun U) := []
def ro : List FuncId := [74]
def D : Nat → Lv × Lv := dtab []
noncomputable def E : Env U := { E0 with Γ := Γ, Λ := Λ, C := CT, D := D, ro := ro }
theorem hk (R : Type) (l : TA) (K : AV U → Hp U → Option R) : funcA E Try.f69 [] R (pA.mkL l.1) (pH.mkH l.2) K = (tl l).runK fun y => K (v l y) (hh l y) := by kernel_rfl
theorem okF : SoundF Try.prog cc 69 (funcA E Try.f69 []) :=
  funcA_ok (E := E) P_mixed (E0_ok.with Γ Λ CT D ro) (gam_of (all_cons ⟨geom_Check.ok, geom_Check.fo⟩ (all_cons ⟨flash_Flash_Size.ok, flash_Flash_Size.fo⟩ (all_cons ⟨geom_Sectors.ok, geom_Sectors.fo⟩ all_nil))) (all_cons (no_keep (by kernel_rfl)) (all_cons (fun _ => flash_Flash_Size.keep) (all_cons (no_keep (by kernel_rfl)) all_nil)))) Try.func69 (c := body) (by kernel_rfl)
    (just_by (by kernel_rfl) (by kernel_rfl) all_nil all_nil) []
theorem ok : SoundF Try.prog cc 69 A :=
  mkA_ok (E := E) (p := pA) (q := pH) (t := tl) sp1_ok hk okF
theorem fo : FnOK Try.prog 69 := ⟨Try.f69, Try.func69, by kernel_rfl, by kernel_rfl⟩
theorem keep : KeepA A := mkA_keep (U := U) sp1_ok (fun (l : TA) y => ⟨(hh l y).drop 4, by kernel_rfl⟩)
end wear_fine

/-! instar/wear.Of -/
namespace wear_Of
abbrev TA : Type := ((Unit × ((Int × (Int × (Int × (Int × (Int × (Int × Unit)))))) × Unit)) × ((Unit × (Int × (Unit × (Int × (Bool × (Int × (Unit × Unit))))))) × ((List Int) × ((List Int) × ((List Int) × Unit)))))
abbrev XA : Type := (Int × (Int × (Int × (Int × (Int × (Int × (Int × (Int × (Int × (Int × (Int × (Int × Int))))))))))))
abbrev T7 : Type := ((Unit × (Unit × (Unit × (Unit × (Unit × (Unit × (Unit × (Unit × (Unit × (Int × (Int × (Unit × Unit)))))))))))) × ((Unit × (Int × (Unit × (Int × (Bool × (Int × (Unit × Unit))))))) × ((List Int) × ((List Int) × ((List Int) × ((Int × (Int × (Int × (Int × (Int × (Int × Unit)))))) × ((Int × (Int × (Int × (Int × (Int × (Int × (Int × (Int × (Int × (Int × (Int × (Int × Unit)))))))))))) × ((Int × (Int × (Int × (Int × (Int × (Int × (Int × (Int × (Int × (Int × (Int × (Int × Unit)))))))))))) × ((Bool × (Bool × (Bool × (Bool × Unit)))) × Unit)))))))))
abbrev S7 : Type := (Int × (Int × (Int × (Int × (Int × (Int × (Int × (Int × (Int × (Int × (Int × (Int × (Int × (Bool × (Bool × (Bool × Bool))))))))))))))))
abbrev X7 : Type := (Int × (Int × (Int × (Int × (Int × (Int × (Int × (Int × (Int × (Int × (Int × Int)))))))))))
noncomputable def l7 (k23 h0_1 h0_3 : Int) (h0_4 : Bool) (h0_5 : Int) (h1 : (List Int)) (h2 : (List Int)) (h3 : (List Int)) (h4_0 h4_1 h4_2 h4_3 h4_4 h4_5 h5_0 h5_1 h5_2 h5_3 h5_4 h5_5 h5_6 h5_7 h5_8 h5_9 h5_10 h5_11 k24 h6_0 h6_1 h6_2 h6_3 h6_4 h6_5 h6_6 h6_7 h6_8 h6_9 h6_10 h6_11 : Int) (h7_0 h7_1 h7_2 h7_3 : Bool) : Tw (S7 ⊕ X7) :=
 (.bb (decide (k24 < k23))
  (.opt (geom_Where.c h4_0 h4_1 h4_2 h4_3 h4_4 h4_5 k24) fun z3 =>
   (.dd ((z3.1 = (((3 : Nat) : Nat) : Int))) inferInstance
    (.opt (flash_Flash_Wear.c k24 h0_1 h0_3 h0_4 h0_5 h1 h2 h3) fun z7 =>
     (.dd ((z3.1 = (((3 : Nat) : Nat) : Int))) inferInstance
      (.bb (!h7_3)
       (.dd ((z3.1 = (((3 : Nat) : Nat) : Int))) inferInstance
        (.ret (.inl ((w64 (k24 + (1 : Int))), (h6_0, (h6_1, (h6_2, (h6_3, (h6_4, (h6_5, (h6_6, (h6_7, (h6_8, ((imin z7 z7), ((imax h6_10 z7), ((w64 (h6_11 + z7)), (h7_0, (h7_1, (h7_2, true))))))))))))))))))
        (.dd ((z3.1 = (((2 : Nat) : Nat) : Int))) inferInstance
         (.ret (.inl ((w64 (k24 + (1 : Int))), (h6_0, (h6_1, (h6_2, (h6_3, (h6_4, (h6_5, (h6_6, (h6_7, (h6_8, ((imin z7 z7), ((imax h6_10 z7), ((w64 (h6_11 + z7)), (h7_0, (h7_1, (true, h7_3))))))))))))))))))
         (.dd ((z3.1 = (((1 : Nat) : Nat) : Int))) inferInstance
          (.ret (.inl ((w64 (k24 + (1 : Int))), (h6_0, (h6_1, (h6_2, (h6_3, (h6_4, (h6_5, (h6_6, (h6_7, (h6_8, ((imin z7 z7), ((imax h6_10 z7), ((w64 (h6_11 + z7)), (h7_0, (true, (h7_2, h7_3))))))))))))))))))
          (.dd ((z3.1 = (((0 : Nat) : Nat) : Int))) inferInstance
           (.ret (.inl ((w64 (k24 + (1 : Int))), (h6_0, (h6_1, (h6_2, (h6_3, (h6_4, (h6_5, (h6_6, (h6_7, (h6_8, ((imin z7 z7), ((imax h6_10 z7), ((w64 (h6_11 + z7)), (true, (h7_1, (h7_2, h7_3))))))))))))))))))
           .no))))
       (.dd ((z3.1 = (((3 : Nat) : Nat) : Int))) inferInstance
        (.ret (.inl ((w64 (k24 + (1 : Int))), (h6_0, (h6_1, (h6_2, (h6_3, (h6_4, (h6_5, (h6_6, (h6_7, (h6_8, ((imin h6_9 z7), ((imax h6_10 z7), ((w64 (h6_11 + z7)), (h7_0, (h7_1, (h7_2, true))))))))))))))))))
        (.dd ((z3.1 = (((2 : Nat) : Nat) : Int))) inferInstance
         (.ret (.inl ((w64 (k24 + (1 : Int))), (h6_0, (h6_1, (h6_2, (h6_3, (h6_4, (h6_5, (h6_6, (h6_7, (h6_8, ((imin h6_9 z7), ((imax h6_10 z7), ((w64 (h6_11 + z7)), (h7_0, (h7_1, (true, h7_3))))))))))))))))))
         (.dd ((z3.1 = (((1 : Nat) : Nat) : Int))) inferInstance
          (.ret (.inl ((w64 (k24 + (1 : Int))), (h6_0, (h6_1, (h6_2, (h6_3, (h6_4, (h6_5, (h6_6, (h6_7, (h6_8, ((imin h6_9 z7), ((imax h6_10 z7), ((w64 (h6_11 + z7)), (h7_0, (true, (h7_2, h7_3))))))))))))))))))
          (.dd ((z3.1 = (((0 : Nat) : Nat) : Int))) inferInstance
           (.ret (.inl ((w64 (k24 + (1 : Int))), (h6_0, (h6_1, (h6_2, (h6_3, (h6_4, (h6_5, (h6_6, (h6_7, (h6_8, ((imin h6_9 z7), ((imax h6_10 z7), ((w64 (h6_11 + z7)), (true, (h7_1, (h7_2, h7_3))))))))))))))))))
           .no)))))
      (.dd ((z3.1 = (((2 : Nat) : Nat) : Int))) inferInstance
       (.bb (!h7_2)
        (.dd ((z3.1 = (((3 : Nat) : Nat) : Int))) inferInstance
         (.ret (.inl ((w64 (k24 + (1 : Int))), (h6_0, (h6_1, (h6_2, (h6_3, (h6_4, (h6_5, (h6_6, (h6_7, (h6_8, ((imin z7 z7), ((imax h6_10 z7), ((w64 (h6_11 + z7)), (h7_0, (h7_1, (h7_2, true))))))))))))))))))
         (.dd ((z3.1 = (((2 : Nat) : Nat) : Int))) inferInstance
          (.ret (.inl ((w64 (k24 + (1 : Int))), (h6_0, (h6_1, (h6_2, (h6_3, (h6_4, (h6_5, (h6_6, (h6_7, (h6_8, ((imin z7 z7), ((imax h6_10 z7), ((w64 (h6_11 + z7)), (h7_0, (h7_1, (true, h7_3))))))))))))))))))
          (.dd ((z3.1 = (((1 : Nat) : Nat) : Int))) inferInstance
           (.ret (.inl ((w64 (k24 + (1 : Int))), (h6_0, (h6_1, (h6_2, (h6_3, (h6_4, (h6_5, (h6_6, (h6_7, (h6_8, ((imin z7 z7), ((imax h6_10 z7), ((w64 (h6_11 + z7)), (h7_0, (true, (h7_2, h7_3))))))))))))))))))
           (.dd ((z3.1 = (((0 : Nat) : Nat) : Int))) inferInstance
            (.ret (.inl ((w64 (k24 + (1 : Int))), (h6_0, (h6_1, (h6_2, (h6_3, (h6_4, (h6_5, (h6_6, (h6_7, (h6_8, ((imin z7 z7), ((imax h6_10 z7), ((w64 (h6_11 + z7)), (true, (h7_1, (h7_2, h7_3))))))))))))))))))
            .no))))
        (.dd ((z3.1 = (((3 : Nat) : Nat) : Int))) inferInstance
         (.ret (.inl ((w64 (k24 + (1 : Int))), (h6_0, (h6_1, (h6_2, (h6_3, (h6_4, (h6_5, (h6_6, (h6_7, (h6_8, ((imin h6_9 z7), ((imax h6_10 z7), ((w64 (h6_11 + z7)), (h7_0, (h7_1, (h7_2, true))))))))))))))))))
         (.dd ((z3.1 = (((2 : Nat) : Nat) : Int))) inferInstance
          (.ret (.inl ((w64 (k24 + (1 : Int))), (h6_0, (h6_1, (h6_2, (h6_3, (h6_4, (h6_5, (h6_6, (h6_7, (h6_8, ((imin h6_9 z7), ((imax h6_10 z7), ((w64 (h6_11 + z7)), (h7_0, (h7_1, (true, h7_3))))))))))))))))))
          (.dd ((z3.1 = (((1 : Nat) : Nat) : Int))) inferInstance
           (.ret (.inl ((w64 (k24 + (1 : Int))), (h6_0, (h6_1, (h6_2, (h6_3, (h6_4, (h6_5, (h6_6, (h6_7, (h6_8, ((imin h6_9 z7), ((imax h6_10 z7), ((w64 (h6_11 + z7)), (h7_0, (true, (h7_2, h7_3))))))))))))))))))
           (.dd ((z3.1 = (((0 : Nat) : Nat) : Int))) inferInstance
            (.ret (.inl ((w64 (k24 + (1 : Int))), (h6_0, (h6_1, (h6_2, (h6_3, (h6_4, (h6_5, (h6_6, (h6_7, (h6_8, ((imin h6_9 z7), ((imax h6_10 z7), ((w64 (h6_11 + z7)), (true, (h7_1, (h7_2, h7_3))))))))))))))))))
            .no)))))
       (.dd ((z3.1 = (((1 : Nat) : Nat) : Int))) inferInstance
        (.bb (!h7_1)
         (.dd ((z3.1 = (((3 : Nat) : Nat) : Int))) inferInstance
          (.ret (.inl ((w64 (k24 + (1 : Int))), (h6_0, (h6_1, (h6_2, (h6_3, (h6_4, (h6_5, (h6_6, (h6_7, (h6_8, ((imin z7 z7), ((imax h6_10 z7), ((w64 (h6_11 + z7)), (h7_0, (h7_1, (h7_2, true))))))))))))))))))
          (.dd ((z3.1 = (((2 : Nat) : Nat) : Int))) inferInstance
           (.ret (.inl ((w64 (k24 + (1 : Int))), (h6_0, (h6_1, (h6_2, (h6_3, (h6_4, (h6_5, (h6_6, (h6_7, (h6_8, ((imin z7 z7), ((imax h6_10 z7), ((w64 (h6_11 + z7)), (h7_0, (h7_1, (true, h7_3))))))))))))))))))
           (.dd ((z3.1 = (((1 : Nat) : Nat) : Int))) inferInstance
            (.ret (.inl ((w64 (k24 + (1 : Int))), (h6_0, (h6_1, (h6_2, (h6_3, (h6_4, (h6_5, (h6_6, (h6_7, (h6_8, ((imin z7 z7), ((imax h6_10 z7), ((w64 (h6_11 + z7)), (h7_0, (true, (h7_2, h7_3))))))))))))))))))
            (.dd ((z3.1 = (((0 : Nat) : Nat) : Int))) inferInstance
             (.ret (.inl ((w64 (k24 + (1 : Int))), (h6_0, (h6_1, (h6_2, (h6_3, (h6_4, (h6_5, (h6_6, (h6_7, (h6_8, ((imin z7 z7), ((imax h6_10 z7), ((w64 (h6_11 + z7)), (true, (h7_1, (h7_2, h7_3))))))))))))))))))
             .no))))
         (.dd ((z3.1 = (((3 : Nat) : Nat) : Int))) inferInstance
          (.ret (.inl ((w64 (k24 + (1 : Int))), (h6_0, (h6_1, (h6_2, (h6_3, (h6_4, (h6_5, (h6_6, (h6_7, (h6_8, ((imin h6_9 z7), ((imax h6_10 z7), ((w64 (h6_11 + z7)), (h7_0, (h7_1, (h7_2, true))))))))))))))))))
          (.dd ((z3.1 = (((2 : Nat) : Nat) : Int))) inferInstance
           (.ret (.inl ((w64 (k24 + (1 : Int))), (h6_0, (h6_1, (h6_2, (h6_3, (h6_4, (h6_5, (h6_6, (h6_7, (h6_8, ((imin h6_9 z7), ((imax h6_10 z7), ((w64 (h6_11 + z7)), (h7_0, (h7_1, (true, h7_3))))))))))))))))))
           (.dd ((z3.1 = (((1 : Nat) : Nat) : Int))) inferInstance
            (.ret (.inl ((w64 (k24 + (1 : Int))), (h6_0, (h6_1, (h6_2, (h6_3, (h6_4, (h6_5, (h6_6, (h6_7, (h6_8, ((imin h6_9 z7), ((imax h6_10 z7), ((w64 (h6_11 + z7)), (h7_0, (true, (h7_2, h7_3))))))))))))))))))
            (.dd ((z3.1 = (((0 : Nat) : Nat) : Int))) inferInstance
             (.ret (.inl ((w64 (k24 + (1 : Int))), (h6_0, (h6_1, (h6_2, (h6_3, (h6_4, (h6_5, (h6_6, (h6_7, (h6_8, ((imin h6_9 z7), ((imax h6_10 z7), ((w64 (h6_11 + z7)), (true, (h7_1, (h7_2, h7_3))))))))))))))))))
             .no)))))
        (.dd ((z3.1 = (((0 : Nat) : Nat) : Int))) inferInstance
         (.bb (!h7_0)
          (.dd ((z3.1 = (((3 : Nat) : Nat) : Int))) inferInstance
           (.ret (.inl ((w64 (k24 + (1 : Int))), (h6_0, (h6_1, (h6_2, (h6_3, (h6_4, (h6_5, (h6_6, (h6_7, (h6_8, ((imin z7 z7), ((imax h6_10 z7), ((w64 (h6_11 + z7)), (h7_0, (h7_1, (h7_2, true))))))))))))))))))
           (.dd ((z3.1 = (((2 : Nat) : Nat) : Int))) inferInstance
            (.ret (.inl ((w64 (k24 + (1 : Int))), (h6_0, (h6_1, (h6_2, (h6_3, (h6_4, (h6_5, (h6_6, (h6_7, (h6_8, ((imin z7 z7), ((imax h6_10 z7), ((w64 (h6_11 + z7)), (h7_0, (h7_1, (true, h7_3))))))))))))))))))
            (.dd ((z3.1 = (((1 : Nat) : Nat) : Int))) inferInstance
             (.ret (.inl ((w64 (k24 + (1 : Int))), (h6_0, (h6_1, (h6_2, (h6_3, (h6_4, (h6_5, (h6_6, (h6_7, (h6_8, ((imin z7 z7), ((imax h6_10 z7), ((w64 (h6_11 + z7)), (h7_0, (true, (h7_2, h7_3))))))))))))))))))
             (.dd ((z3.1 = (((0 : Nat) : Nat) : Int))) inferInstance
              (.ret (.inl ((w64 (k24 + (1 : Int))), (h6_0, (h6_1, (h6_2, (h6_3, (h6_4, (h6_5, (h6_6, (h6_7, (h6_8, ((imin z7 z7), ((imax h6_10 z7), ((w64 (h6_11 + z7)), (true, (h7_1, (h7_2, h7_3))))))))))))))))))
              .no))))
          (.dd ((z3.1 = (((3 : Nat) : Nat) : Int))) inferInstance
           (.ret (.inl ((w64 (k24 + (1 : Int))), (h6_0, (h6_1, (h6_2, (h6_3, (h6_4, (h6_5, (h6_6, (h6_7, (h6_8, ((imin h6_9 z7), ((imax h6_10 z7), ((w64 (h6_11 + z7)), (h7_0, (h7_1, (h7_2, true))))))))))))))))))
           (.dd ((z3.1 = (((2 : Nat) : Nat) : Int))) inferInstance
            (.ret (.inl ((w64 (k24 + (1 : Int))), (h6_0, (h6_1, (h6_2, (h6_3, (h6_4, (h6_5, (h6_6, (h6_7, (h6_8, ((imin h6_9 z7), ((imax h6_10 z7), ((w64 (h6_11 + z7)), (h7_0, (h7_1, (true, h7_3))))))))))))))))))
            (.dd ((z3.1 = (((1 : Nat) : Nat) : Int))) inferInstance
             (.ret (.inl ((w64 (k24 + (1 : Int))), (h6_0, (h6_1, (h6_2, (h6_3, (h6_4, (h6_5, (h6_6, (h6_7, (h6_8, ((imin h6_9 z7), ((imax h6_10 z7), ((w64 (h6_11 + z7)), (h7_0, (true, (h7_2, h7_3))))))))))))))))))
             (.dd ((z3.1 = (((0 : Nat) : Nat) : Int))) inferInstance
              (.ret (.inl ((w64 (k24 + (1 : Int))), (h6_0, (h6_1, (h6_2, (h6_3, (h6_4, (h6_5, (h6_6, (h6_7, (h6_8, ((imin h6_9 z7), ((imax h6_10 z7), ((w64 (h6_11 + z7)), (true, (h7_1, (h7_2, h7_3))))))))))))))))))
              .no)))))
         .no)))))
    (.dd ((z3.1 = (((2 : Nat) : Nat) : Int))) inferInstance
     (.opt (flash_Flash_Wear.c k24 h0_1 h0_3 h0_4 h0_5 h1 h2 h3) fun z6 =>
      (.dd ((z3.1 = (((3 : Nat) : Nat) : Int))) inferInstance
       (.bb (!h7_3)
        (.dd ((z3.1 = (((3 : Nat) : Nat) : Int))) inferInstance
         (.ret (.inl ((w64 (k24 + (1 : Int))), (h6_0, (h6_1, (h6_2, (h6_3, (h6_4, (h6_5, ((imin z6 z6), ((imax h6_7 z6), ((w64 (h6_8 + z6)), (h6_9, (h6_10, (h6_11, (h7_0, (h7_1, (h7_2, true))))))))))))))))))
         (.dd ((z3.1 = (((2 : Nat) : Nat) : Int))) inferInstance
          (.ret (.inl ((w64 (k24 + (1 : Int))), (h6_0, (h6_1, (h6_2, (h6_3, (h6_4, (h6_5, ((imin z6 z6), ((imax h6_7 z6), ((w64 (h6_8 + z6)), (h6_9, (h6_10, (h6_11, (h7_0, (h7_1, (true, h7_3))))))))))))))))))
          (.dd ((z3.1 = (((1 : Nat) : Nat) : Int))) inferInstance
           (.ret (.inl ((w64 (k24 + (1 : Int))), (h6_0, (h6_1, (h6_2, (h6_3, (h6_4, (h6_5, ((imin z6 z6), ((imax h6_7 z6), ((w64 (h6_8 + z6)), (h6_9, (h6_10, (h6_11, (h7_0, (true, (h7_2, h7_3))))))))))))))))))
           (.dd ((z3.1 = (((0 : Nat) : Nat) : Int))) inferInstance
            (.ret (.inl ((w64 (k24 + (1 : Int))), (h6_0, (h6_1, (h6_2, (h6_3, (h6_4, (h6_5, ((imin z6 z6), ((imax h6_7 z6), ((w64 (h6_8 + z6)), (h6_9, (h6_10, (h6_11, (true, (h7_1, (h7_2, h7_3))))))))))))))))))
            .no))))
        (.dd ((z3.1 = (((3 : Nat) : Nat) : Int))) inferInstance
         (.ret (.inl ((w64 (k24 + (1 : Int))), (h6_0, (h6_1, (h6_2, (h6_3, (h6_4, (h6_5, ((imin h6_6 z6), ((imax h6_7 z6), ((w64 (h6_8 + z6)), (h6_9, (h6_10, (h6_11, (h7_0, (h7_1, (h7_2, true))))))))))))))))))
         (.dd ((z3.1 = (((2 : Nat) : Nat) : Int))) inferInstance
          (.ret (.inl ((w64 (k24 + (1 : Int))), (h6_0, (h6_1, (h6_2, (h6_3, (h6_4, (h6_5, ((imin h6_6 z6), ((imax h6_7 z6), ((w64 (h6_8 + z6)), (h6_9, (h6_10, (h6_11, (h7_0, (h7_1, (true, h7_3))))))))))))))))))
          (.dd ((z3.1 = (((1 : Nat) : Nat) : Int))) inferInstance
           (.ret (.inl ((w64 (k24 + (1 : Int))), (h6_0, (h6_1, (h6_2, (h6_3, (h6_4, (h6_5, ((imin h6_6 z6), ((imax h6_7 z6), ((w64 (h6_8 + z6)), (h6_9, (h6_10, (h6_11, (h7_0, (true, (h7_2, h7_3))))))))))))))))))
           (.dd ((z3.1 = (((0 : Nat) : Nat) : Int))) inferInstance
            (.ret (.inl ((w64 (k24 + (1 : Int))), (h6_0, (h6_1, (h6_2, (h6_3, (h6_4, (h6_5, ((imin h6_6 z6), ((imax h6_7 z6), ((w64 (h6_8 + z6)), (h6_9, (h6_10, (h6_11, (true, (h7_1, (h7_2, h7_3))))))))))))))))))
            .no)))))
       (.dd ((z3.1 = (((2 : Nat) : Nat) : Int))) inferInstance
        (.bb (!h7_2)
         (.dd ((z3.1 = (((3 : Nat) : Nat) : Int))) inferInstance
          (.ret (.inl ((w64 (k24 + (1 : Int))), (h6_0, (h6_1, (h6_2, (h6_3, (h6_4, (h6_5, ((imin z6 z6), ((imax h6_7 z6), ((w64 (h6_8 + z6)), (h6_9, (h6_10, (h6_11, (h7_0, (h7_1, (h7_2, true))))))))))))))))))
          (.dd ((z3.1 = (((2 : Nat) : Nat) : Int))) inferInstance
           (.ret (.inl ((w64 (k24 + (1 : Int))), (h6_0, (h6_1, (h6_2, (h6_3, (h6_4, (h6_5, ((imin z6 z6), ((imax h6_7 z6), ((w64 (h6_8 + z6)), (h6_9, (h6_10, (h6_11, (h7_0, (h7_1, (true, h7_3))))))))))))))))))
           (.dd ((z3.1 = (((1 : Nat) : Nat) : Int))) inferInstance
            (.ret (.inl ((w64 (k24 + (1 : Int))), (h6_0, (h6_1, (h6_2, (h6_3, (h6_4, (h6_5, ((imin z6 z6), ((imax h6_7 z6), ((w64 (h6_8 + z6)), (h6_9, (h6_10, (h6_11, (h7_0, (true, (h7_2, h7_3))))))))))))))))))
            (.dd ((z3.1 = (((0 : Nat) : Nat) : Int))) inferInstance
             (.ret (.inl ((w64 (k24 + (1 : Int))), (h6_0, (h6_1, (h6_2, (h6_3, (h6_4, (h6_5, ((imin z6 z6), ((imax h6_7 z6), ((w64 (h6_8 + z6)), (h6_9, (h6_10, (h6_11, (true, (h7_1, (h7_2, h7_3))))))))))))))))))
             .no))))
         (.dd ((z3.1 = (((3 : Nat) : Nat) : Int))) inferInstance
          (.ret (.inl ((w64 (k24 + (1 : Int))), (h6_0, (h6_1, (h6_2, (h6_3, (h6_4, (h6_5, ((imin h6_6 z6), ((imax h6_7 z6), ((w64 (h6_8 + z6)), (h6_9, (h6_10, (h6_11, (h7_0, (h7_1, (h7_2, true))))))))))))))))))
          (.dd ((z3.1 = (((2 : Nat) : Nat) : Int))) inferInstance
           (.ret (.inl ((w64 (k24 + (1 : Int))), (h6_0, (h6_1, (h6_2, (h6_3, (h6_4, (h6_5, ((imin h6_6 z6), ((imax h6_7 z6), ((w64 (h6_8 + z6)), (h6_9, (h6_10, (h6_11, (h7_0, (h7_1, (true, h7_3))))))))))))))))))
           (.dd ((z3.1 = (((1 : Nat) : Nat) : Int))) inferInstance
            (.ret (.inl ((w64 (k24 + (1 : Int))), (h6_0, (h6_1, (h6_2, (h6_3, (h6_4, (h6_5, ((imin h6_6 z6), ((imax h6_7 z6), ((w64 (h6_8 + z6)), (h6_9, (h6_10, (h6_11, (h7_0, (true, (h7_2, h7_3))))))))))))))))))
            (.dd ((z3.1 = (((0 : Nat) : Nat) : Int))) inferInstance
             (.ret (.inl ((w64 (k24 + (1 : Int))), (h6_0, (h6_1, (h6_2, (h6_3, (h6_4, (h6_5, ((imin h6_6 z6), ((imax h6_7 z6), ((w64 (h6_8 + z6)), (h6_9, (h6_10, (h6_11, (true, (h7_1, (h7_2, h7_3))))))))))))))))))
             .no)))))
        (.dd ((z3.1 = (((1 : Nat) : Nat) : Int))) inferInstance
         (.bb (!h7_1)
          (.dd ((z3.1 = (((3 : Nat) : Nat) : Int))) inferInstance
           (.ret (.inl ((w64 (k24 + (1 : Int))), (h6_0, (h6_1, (h6_2, (h6_3, (h6_4, (h6_5, ((imin z6 z6), ((imax h6_7 z6), ((w64 (h6_8 + z6)), (h6_9, (h6_10, (h6_11, (h7_0, (h7_1, (h7_2, true))))))))))))))))))
           (.dd ((z3.1 = (((2 : Nat) : Nat) : Int))) inferInstance
            (.ret (.inl ((w64 (k24 + (1 : Int))), (h6_0, (h6_1, (h6_2, (h6_3, (h6_4, (h6_5, ((imin z6 z6), ((imax h6_7 z6), ((w64 (h6_8 + z6)), (h6_9, (h6_10, (h6_11, (h7_0, (h7_1, (true, h7_3))))))))))))))))))
            (.dd ((z3.1 = (((1 : Nat) : Nat) : Int))) inferInstance
             (.ret (.inl ((w64 (k24 + (1 : Int))), (h6_0, (h6_1, (h6_2, (h6_3, (h6_4, (h6_5, ((imin z6 z6), ((imax h6_7 z6), ((w64 (h6_8 + z6)), (h6_9, (h6_10, (h6_11, (h7_0, (true, (h7_2, h7_3))))))))))))))))))
             (.dd ((z3.1 = (((0 : Nat) : Nat) : Int))) inferInstance
              (.ret (.inl ((w64 (k24 + (1 : Int))), (h6_0, (h6_1, (h6_2, (h6_3, (h6_4, (h6_5, ((imin z6 z6), ((imax h6_7 z6), ((w64 (h6_8 + z6)), (h6_9, (h6_10, (h6_11, (true, (h7_1, (h7_2, h7_3))))))))))))))))))
              .no))))
          (.dd ((z3.1 = (((3 : Nat) : Nat) : Int))) inferInstance
           (.ret (.inl ((w64 (k24 + (1 : Int))), (h6_0, (h6_1, (h6_2, (h6_3, (h6_4, (h6_5, ((imin h6_6 z6), ((imax h6_7 z6), ((w64 (h6_8 + z6)), (h6_9, (h6_10, (h6_11, (h7_0, (h7_1, (h7_2, true))))))))))))))))))
           (.dd ((z3.1 = (((2 : Nat) : Nat) : Int))) inferInstance
            (.ret (.inl ((w64 (k24 + (1 : Int))), (h6_0, (h6_1, (h6_2, (h6_3, (h6_4, (h6_5, ((imin h6_6 z6), ((imax h6_7 z6), ((w64 (h6_8 + z6)), (h6_9, (h6_10, (h6_11, (h7_0, (h7_1, (true, h7_3))))))))))))))))))
            (.dd ((z3.1 = (((1 : Nat) : Nat) : Int))) inferInstance
             (.ret (.inl ((w64 (k24 + (1 : Int))), (h6_0, (h6_1, (h6_2, (h6_3, (h6_4, (h6_5, ((imin h6_6 z6), ((imax h6_7 z6), ((w64 (h6_8 + z6)), (h6_9, (h6_10, (h6_11, (h7_0, (true, (h7_2, h7_3))))))))))))))))))
             (.dd ((z3.1 = (((0 : Nat) : Nat) : Int))) inferInstance
              (.ret (.inl ((w64 (k24 + (1 : Int))), (h6_0, (h6_1, (h6_2, (h6_3, (h6_4, (h6_5, ((imin h6_6 z6), ((imax h6_7 z6), ((w64 (h6_8 + z6)), (h6_9, (h6_10, (h6_11, (true, (h7_1, (h7_2, h7_3))))))))))))))))))
              .no)))))
         (.dd ((z3.1 = (((0 : Nat) : Nat) : Int))) inferInstance
          (.bb (!h7_0)
           (.dd ((z3.1 = (((3 : Nat) : Nat) : Int))) inferInstance
            (.ret (.inl ((w64 (k24 + (1 : Int))), (h6_0, (h6_1, (h6_2, (h6_3, (h6_4, (h6_5, ((imin z6 z6), ((imax h6_7 z6), ((w64 (h6_8 + z6)), (h6_9, (h6_10, (h6_11, (h7_0, (h7_1, (h7_2, true))))))))))))))))))
            (.dd ((z3.1 = (((2 : Nat) : Nat) : Int))) inferInstance
             (.ret (.inl ((w64 (k24 + (1 : Int))), (h6_0, (h6_1, (h6_2, (h6_3, (h6_4, (h6_5, ((imin z6 z6), ((imax h6_7 z6), ((w64 (h6_8 + z6)), (h6_9, (h6_10, (h6_11, (h7_0, (h7_1, (true, h7_3))))))))))))))))))
             (.dd ((z3.1 = (((1 : Nat) : Nat) : Int))) inferInstance
              (.ret (.inl ((w64 (k24 + (1 : Int))), (h6_0, (h6_1, (h6_2, (h6_3, (h6_4, (h6_5, ((imin z6 z6), ((imax h6_7 z6), ((w64 (h6_8 + z6)), (h6_9, (h6_10, (h6_11, (h7_0, (true, (h7_2, h7_3))))))))))))))))))
              (.dd ((z3.1 = (((0 : Nat) : Nat) : Int))) inferInstance
               (.ret (.inl ((w64 (k24 + (1 : Int))), (h6_0, (h6_1, (h6_2, (h6_3, (h6_4, (h6_5, ((imin z6 z6), ((imax h6_7 z6), ((w64 (h6_8 + z6)), (h6_9, (h6_10, (h6_11, (true, (h7_1, (h7_2, h7_3))))))))))))))))))
               .no))))
           (.dd ((z3.1 = (((3 : Nat) : Nat) : Int))) inferInstance
            (.ret (.inl ((w64 (k24 + (1 : Int))), (h6_0, (h6_1, (h6_2, (h6_3, (h6_4, (h6_5, ((imin h6_6 z6), ((imax h6_7 z6), ((w64 (h6_8 + z6)), (h6_9, (h6_10, (h6_11, (h7_0, (h7_1, (h7_2, true))))))))))))))))))
            (.dd ((z3.1 = (((2 : Nat) : Nat) : Int))) inferInstance
             (.ret (.inl ((w64 (k24 + (1 : Int))), (h6_0, (h6_1, (h6_2, (h6_3, (h6_4, (h6_5, ((imin h6_6 z6), ((imax h6_7 z6), ((w64 (h6_8 + z6)), (h6_9, (h6_10, (h6_11, (h7_0, (h7_1, (true, h7_3))))))))))))))))))
             (.dd ((z3.1 = (((1 : Nat) : Nat) : Int))) inferInstance
              (.ret (.inl ((w64 (k24 + (1 : Int))), (h6_0, (h6_1, (h6_2, (h6_3, (h6_4, (h6_5, ((imin h6_6 z6), ((imax h6_7 z6), ((w64 (h6_8 + z6)), (h6_9, (h6_10, (h6_11, (h7_0, (true, (h7_2, h7_3))))))))))))))))))
              (.dd ((z3.1 = (((0 : Nat) : Nat) : Int))) inferInstance
               (.ret (.inl ((w64 (k24 + (1 : Int))), (h6_0, (h6_1, (h6_2, (h6_3, (h6_4, (h6_5, ((imin h6_6 z6), ((imax h6_7 z6), ((w64 (h6_8 + z6)), (h6_9, (h6_10, (h6_11, (true, (h7_1, (h7_2, h7_3))))))))))))))))))
               .no)))))
          .no)))))
     (.dd ((z3.1 = (((1 : Nat) : Nat) : Int))) inferInstance
      (.opt (flash_Flash_Wear.c k24 h0_1 h0_3 h0_4 h0_5 h1 h2 h3) fun z5 =>
       (.dd ((z3.1 = (((3 : Nat) : Nat) : Int))) inferInstance
        (.bb (!h7_3)
         (.dd ((z3.1 = (((3 : Nat) : Nat) : Int))) inferInstance
          (.ret (.inl ((w64 (k24 + (1 : Int))), (h6_0, (h6_1, (h6_2, ((imin z5 z5), ((imax h6_4 z5), ((w64 (h6_5 + z5)), (h6_6, (h6_7, (h6_8, (h6_9, (h6_10, (h6_11, (h7_0, (h7_1, (h7_2, true))))))))))))))))))
          (.dd ((z3.1 = (((2 : Nat) : Nat) : Int))) inferInstance
           (.ret (.inl ((w64 (k24 + (1 : Int))), (h6_0, (h6_1, (h6_2, ((imin z5 z5), ((imax h6_4 z5), ((w64 (h6_5 + z5)), (h6_6, (h6_7, (h6_8, (h6_9, (h6_10, (h6_11, (h7_0, (h7_1, (true, h7_3))))))))))))))))))
           (.dd ((z3.1 = (((1 : Nat) : Nat) : Int))) inferInstance
            (.ret (.inl ((w64 (k24 + (1 : Int))), (h6_0, (h6_1, (h6_2, ((imin z5 z5), ((imax h6_4 z5), ((w64 (h6_5 + z5)), (h6_6, (h6_7, (h6_8, (h6_9, (h6_10, (h6_11, (h7_0, (true, (h7_2, h7_3))))))))))))))))))
            (.dd ((z3.1 = (((0 : Nat) : Nat) : Int))) inferInstance
             (.ret (.inl ((w64 (k24 + (1 : Int))), (h6_0, (h6_1, (h6_2, ((imin z5 z5), ((imax h6_4 z5), ((w64 (h6_5 + z5)), (h6_6, (h6_7, (h6_8, (h6_9, (h6_10, (h6_11, (true, (h7_1, (h7_2, h7_3))))))))))))))))))
             .no))))
         (.dd ((z3.1 = (((3 : Nat) : Nat) : Int))) inferInstance
          (.ret (.inl ((w64 (k24 + (1 : Int))), (h6_0, (h6_1, (h6_2, ((imin h6_3 z5), ((imax h6_4 z5), ((w64 (h6_5 + z5)), (h6_6, (h6_7, (h6_8, (h6_9, (h6_10, (h6_11, (h7_0, (h7_1, (h7_2, true))))))))))))))))))
          (.dd ((z3.1 = (((2 : Nat) : Nat) : Int))) inferInstance
           (.ret (.inl ((w64 (k24 + (1 : Int))), (h6_0, (h6_1, (h6_2, ((imin h6_3 z5), ((imax h6_4 z5), ((w64 (h6_5 + z5)), (h6_6, (h6_7, (h6_8, (h6_9, (h6_10, (h6_11, (h7_0, (h7_1, (true, h7_3))))))))))))))))))
           (.dd ((z3.1 = (((1 : Nat) : Nat) : Int))) inferInstance
            (.ret (.inl ((w64 (k24 + (1 : Int))), (h6_0, (h6_1, (h6_2, ((imin h6_3 z5), ((imax h6_4 z5), ((w64 (h6_5 + z5)), (h6_6, (h6_7, (h6_8, (h6_9, (h6_10, (h6_11, (h7_0, (true, (h7_2, h7_3))))))))))))))))))
            (.dd ((z3.1 = (((0 : Nat) : Nat) : Int))) inferInstance
             (.ret (.inl ((w64 (k24 + (1 : Int))), (h6_0, (h6_1, (h6_2, ((imin h6_3 z5), ((imax h6_4 z5), ((w64 (h6_5 + z5)), (h6_6, (h6_7, (h6_8, (h6_9, (h6_10, (h6_11, (true, (h7_1, (h7_2, h7_3))))))))))))))))))
             .no)))))
        (.dd ((z3.1 = (((2 : Nat) : Nat) : Int))) inferInstance
         (.bb (!h7_2)
          (.dd ((z3.1 = (((3 : Nat) : Nat) : Int))) inferInstance
           (.ret (.inl ((w64 (k24 + (1 : Int))), (h6_0, (h6_1, (h6_2, ((imin z5 z5), ((imax h6_4 z5), ((w64 (h6_5 + z5)), (h6_6, (h6_7, (h6_8, (h6_9, (h6_10, (h6_11, (h7_0, (h7_1, (h7_2, true))))))))))))))))))
           (.dd ((z3.1 = (((2 : Nat) : Nat) : Int))) inferInstance
            (.ret (.inl ((w64 (k24 + (1 : Int))), (h6_0, (h6_1, (h6_2, ((imin z5 z5), ((imax h6_4 z5), ((w64 (h6_5 + z5)), (h6_6, (h6_7, (h6_8, (h6_9, (h6_10, (h6_11, (h7_0, (h7_1, (true, h7_3))))))))))))))))))
            (.dd ((z3.1 = (((1 : Nat) : Nat) : Int))) inferInstance
             (.ret (.inl ((w64 (k24 + (1 : Int))), (h6_0, (h6_1, (h6_2, ((imin z5 z5), ((imax h6_4 z5), ((w64 (h6_5 + z5)), (h6_6, (h6_7, (h6_8, (h6_9, (h6_10, (h6_11, (h7_0, (true, (h7_2, h7_3))))))))))))))))))
             (.dd ((z3.1 = (((0 : Nat) : Nat) : Int))) inferInstance
              (.ret (.inl ((w64 (k24 + (1 : Int))), (h6_0, (h6_1, (h6_2, ((imin z5 z5), ((imax h6_4 z5), ((w64 (h6_5 + z5)), (h6_6, (h6_7, (h6_8, (h6_9, (h6_10, (h6_11, (true, (h7_1, (h7_2, h7_3))))))))))))))))))
              .no))))
          (.dd ((z3.1 = (((3 : Nat) : Nat) : Int))) inferInstance
           (.ret (.inl ((w64 (k24 + (1 : Int))), (h6_0, (h6_1, (h6_2, ((imin h6_3 z5), ((imax h6_4 z5), ((w64 (h6_5 + z5)), (h6_6, (h6_7, (h6_8, (h6_9, (h6_10, (h6_11, (h7_0, (h7_1, (h7_2, true))))))))))))))))))
           (.dd ((z3.1 = (((2 : Nat) : Nat) : Int))) inferInstance
            (.ret (.inl ((w64 (k24 + (1 : Int))), (h6_0, (h6_1, (h6_2, ((imin h6_3 z5), ((imax h6_4 z5), ((w64 (h6_5 + z5)), (h6_6, (h6_7, (h6_8, (h6_9, (h6_10, (h6_11, (h7_0, (h7_1, (true, h7_3))))))))))))))))))
            (.dd ((z3.1 = (((1 : Nat) : Nat) : Int))) inferInstance
             (.ret (.inl ((w64 (k24 + (1 : Int))), (h6_0, (h6_1, (h6_2, ((imin h6_3 z5), ((imax h6_4 z5), ((w64 (h6_5 + z5)), (h6_6, (h6_7, (h6_8, (h6_9, (h6_10, (h6_11, (h7_0, (true, (h7_2, h7_3))))))))))))))))))
             (.dd ((z3.1 = (((0 : Nat) : Nat) : Int))) inferInstance
              (.ret (.inl ((w64 (k24 + (1 : Int))), (h6_0, (h6_1, (h6_2, ((imin h6_3 z5), ((imax h6_4 z5), ((w64 (h6_5 + z5)), (h6_6, (h6_7, (h6_8, (h6_9, (h6_10, (h6_11, (true, (h7_1, (h7_2, h7_3))))))))))))))))))
              .no)))))
         (.dd ((z3.1 = (((1 : Nat) : Nat) : Int))) inferInstance
          (.bb (!h7_1)
           (.dd ((z3.1 = (((3 : Nat) : Nat) : Int))) inferInstance
            (.ret (.inl ((w64 (k24 + (1 : Int))), (h6_0, (h6_1, (h6_2, ((imin z5 z5), ((imax h6_4 z5), ((w64 (h6_5 + z5)), (h6_6, (h6_7, (h6_8, (h6_9, (h6_10, (h6_11, (h7_0, (h7_1, (h7_2, true))))))))))))))))))
            (.dd ((z3.1 = (((2 : Nat) : Nat) : Int))) inferInstance
             (.ret (.inl ((w64 (k24 + (1 : Int))), (h6_0, (h6_1, (h6_2, ((imin z5 z5), ((imax h6_4 z5), ((w64 (h6_5 + z5)), (h6_6, (h6_7, (h6_8, (h6_9, (h6_10, (h6_11, (h7_0, (h7_1, (true, h7_3))))))))))))))))))
             (.dd ((z3.1 = (((1 : Nat) : Nat) : Int))) inferInstance
              (.ret (.inl ((w64 (k24 + (1 : Int))), (h6_0, (h6_1, (h6_2, ((imin z5 z5), ((imax h6_4 z5), ((w64 (h6_5 + z5)), (h6_6, (h6_7, (h6_8, (h6_9, (h6_10, (h6_11, (h7_0, (true, (h7_2, h7_3))))))))))))))))))
              (.dd ((z3.1 = (((0 : Nat) : Nat) : Int))) inferInstance
               (.ret (.inl ((w64 (k24 + (1 : Int))), (h6_0, (h6_1, (h6_2, ((imin z5 z5), ((imax h6_4 z5), ((w64 (h6_5 + z5)), (h6_6, (h6_7, (h6_8, (h6_9, (h6_10, (h6_11, (true, (h7_1, (h7_2, h7_3))))))))))))))))))
               .no))))
           (.dd ((z3.1 = (((3 : Nat) : Nat) : Int))) inferInstance
            (.ret (.inl ((w64 (k24 + (1 : Int))), (h6_0, (h6_1, (h6_2, ((imin h6_3 z5), ((imax h6_4 z5), ((w64 (h6_5 + z5)), (h6_6, (h6_7, (h6_8, (h6_9, (h6_10, (h6_11, (h7_0, (h7_1, (h7_2, true))))))))))))))))))
            (.dd ((z3.1 = (((2 : Nat) : Nat) : Int))) inferInstance
             (.ret (.inl ((w64 (k24 + (1 : Int))), (h6_0, (h6_1, (h6_2, ((imin h6_3 z5), ((imax h6_4 z5), ((w64 (h6_5 + z5)), (h6_6, (h6_7, (h6_8, (h6_9, (h6_10, (h6_11, (h7_0, (h7_1, (true, h7_3))))))))))))))))))
             (.dd ((z3.1 = (((1 : Nat) : Nat) : Int))) inferInstance
              (.ret (.inl ((w64 (k24 + (1 : Int))), (h6_0, (h6_1, (h6_2, ((imin h6_3 z5), ((imax h6_4 z5), ((w64 (h6_5 + z5)), (h6_6, (h6_7, (h6_8, (h6_9, (h6_10, (h6_11, (h7_0, (true, (h7_2, h7_3))))))))))))))))))
              (.dd ((z3.1 = (((0 : Nat) : Nat) : Int))) inferInstance
               (.ret (.inl ((w64 (k24 + (1 : Int))), (h6_0, (h6_1, (h6_2, ((imin h6_3 z5), ((imax h6_4 z5), ((w64 (h6_5 + z5)), (h6_6, (h6_7, (h6_8, (h6_9, (h6_10, (h6_11, (true, (h7_1, (h7_2, h7_3))))))))))))))))))
               .no)))))
          (.dd ((z3.1 = (((0 : Nat) : Nat) : Int))) inferInstance
           (.bb (!h7_0)
            (.dd ((z3.1 = (((3 : Nat) : Nat) : Int))) inferInstance
             (.ret (.inl ((w64 (k24 + (1 : Int))), (h6_0, (h6_1, (h6_2, ((imin z5 z5), ((imax h6_4 z5), ((w64 (h6_5 + z5)), (h6_6, (h6_7, (h6_8, (h6_9, (h6_10, (h6_11, (h7_0, (h7_1, (h7_2, true))))))))))))))))))
             (.dd ((z3.1 = (((2 : Nat) : Nat) : Int))) inferInstance
              (.ret (.inl ((w64 (k24 + (1 : Int))), (h6_0, (h6_1, (h6_2, ((imin z5 z5), ((imax h6_4 z5), ((w64 (h6_5 + z5)), (h6_6, (h6_7, (h6_8, (h6_9, (h6_10, (h6_11, (h7_0, (h7_1, (true, h7_3))))))))))))))))))
              (.dd ((z3.1 = (((1 : Nat) : Nat) : Int))) inferInstance
               (.ret (.inl ((w64 (k24 + (1 : Int))), (h6_0, (h6_1, (h6_2, ((imin z5 z5), ((imax h6_4 z5), ((w64 (h6_5 + z5)), (h6_6, (h6_7, (h6_8, (h6_9, (h6_10, (h6_11, (h7_0, (true, (h7_2, h7_3))))))))))))))))))
               (.dd ((z3.1 = (((0 : Nat) : Nat) : Int))) inferInstance
                (.ret (.inl ((w64 (k24 + (1 : Int))), (h6_0, (h6_1, (h6_2, ((imin z5 z5), ((imax h6_4 z5), ((w64 (h6_5 + z5)), (h6_6, (h6_7, (h6_8, (h6_9, (h6_10, (h6_11, (true, (h7_1, (h7_2, h7_3))))))))))))))))))
                .no))))
            (.dd ((z3.1 = (((3 : Nat) : Nat) : Int))) inferInstance
             (.ret (.inl ((w64 (k24 + (1 : Int))), (h6_0, (h6_1, (h6_2, ((imin h6_3 z5), ((imax h6_4 z5), ((w64 (h6_5 + z5)), (h6_6, (h6_7, (h6_8, (h6_9, (h6_10, (h6_11, (h7_0, (h7_1, (h7_2, true))))))))))))))))))
             (.dd ((z3.1 = (((2 : Nat) : Nat) : Int))) inferInstance
              (.ret (.inl ((w64 (k24 + (1 : Int))), (h6_0, (h6_1, (h6_2, ((imin h6_3 z5), ((imax h6_4 z5), ((w64 (h6_5 + z5)), (h6_6, (h6_7, (h6_8, (h6_9, (h6_10, (h6_11, (h7_0, (h7_1, (true, h7_3))))))))))))))))))
              (.dd ((z3.1 = (((1 : Nat) : Nat) : Int))) inferInstance
               (.ret (.inl ((w64 (k24 + (1 : Int))), (h6_0, (h6_1, (h6_2, ((imin h6_3 z5), ((imax h6_4 z5), ((w64 (h6_5 + z5)), (h6_6, (h6_7, (h6_8, (h6_9, (h6_10, (h6_11, (h7_0, (true, (h7_2, h7_3))))))))))))))))))
               (.dd ((z3.1 = (((0 : Nat) : Nat) : Int))) inferInstance
                (.ret (.inl ((w64 (k24 + (1 : Int))), (h6_0, (h6_1, (h6_2, ((imin h6_3 z5), ((imax h6_4 z5), ((w64 (h6_5 + z5)), (h6_6, (h6_7, (h6_8, (h6_9, (h6_10, (h6_11, (true, (h7_1, (h7_2, h7_3))))))))))))))))))
                .no)))))
           .no)))))
      (.dd ((z3.1 = (((0 : Nat) : Nat) : Int))) inferInstance
       (.opt (flash_Flash_Wear.c k24 h0_1 h0_3 h0_4 h0_5 h1 h2 h3) fun z4 =>
        (.dd ((z3.1 = (((3 : Nat) : Nat) : Int))) inferInstance
         (.bb (!h7_3)
          (.dd ((z3.1 = (((3 : Nat) : Nat) : Int))) inferInstance
           (.ret (.inl ((w64 (k24 + (1 : Int))), ((imin z4 z4), ((imax h6_1 z4), ((w64 (h6_2 + z4)), (h6_3, (h6_4, (h6_5, (h6_6, (h6_7, (h6_8, (h6_9, (h6_10, (h6_11, (h7_0, (h7_1, (h7_2, true))))))))))))))))))
           (.dd ((z3.1 = (((2 : Nat) : Nat) : Int))) inferInstance
            (.ret (.inl ((w64 (k24 + (1 : Int))), ((imin z4 z4), ((imax h6_1 z4), ((w64 (h6_2 + z4)), (h6_3, (h6_4, (h6_5, (h6_6, (h6_7, (h6_8, (h6_9, (h6_10, (h6_11, (h7_0, (h7_1, (true, h7_3))))))))))))))))))
            (.dd ((z3.1 = (((1 : Nat) : Nat) : Int))) inferInstance
             (.ret (.inl ((w64 (k24 + (1 : Int))), ((imin z4 z4), ((imax h6_1 z4), ((w64 (h6_2 + z4)), (h6_3, (h6_4, (h6_5, (h6_6, (h6_7, (h6_8, (h6_9, (h6_10, (h6_11, (h7_0, (true, (h7_2, h7_3))))))))))))))))))
             (.dd ((z3.1 = (((0 : Nat) : Nat) : Int))) inferInstance
              (.ret (.inl ((w64 (k24 + (1 : Int))), ((imin z4 z4), ((imax h6_1 z4), ((w64 (h6_2 + z4)), (h6_3, (h6_4, (h6_5, (h6_6, (h6_7, (h6_8, (h6_9, (h6_10, (h6_11, (true, (h7_1, (h7_2, h7_3))))))))))))))))))
              .no))))
          (.dd ((z3.1 = (((3 : Nat) : Nat) : Int))) inferInstance
           (.ret (.inl ((w64 (k24 + (1 : Int))), ((imin h6_0 z4), ((imax h6_1 z4), ((w64 (h6_2 + z4)), (h6_3, (h6_4, (h6_5, (h6_6, (h6_7, (h6_8, (h6_9, (h6_10, (h6_11, (h7_0, (h7_1, (h7_2, true))))))))))))))))))
           (.dd ((z3.1 = (((2 : Nat) : Nat) : Int))) inferInstance
            (.ret (.inl ((w64 (k24 + (1 : Int))), ((imin h6_0 z4), ((imax h6_1 z4), ((w64 (h6_2 + z4)), (h6_3, (h6_4, (h6_5, (h6_6, (h6_7, (h6_8, (h6_9, (h6_10, (h6_11, (h7_0, (h7_1, (true, h7_3))))))))))))))))))
            (.dd ((z3.1 = (((1 : Nat) : Nat) : Int))) inferInstance
             (.ret (.inl ((w64 (k24 + (1 : Int))), ((imin h6_0 z4), ((imax h6_1 z4), ((w64 (h6_2 + z4)), (h6_3, (h6_4, (h6_5, (h6_6, (h6_7, (h6_8, (h6_9, (h6_10, (h6_11, (h7_0, (true, (h7_2, h7_3))))))))))))))))))
             (.dd ((z3.1 = (((0 : Nat) : Nat) : Int))) inferInstance
              (.ret (.inl ((w64 (k24 + (1 : Int))), ((imin h6_0 z4), ((imax h6_1 z4), ((w64 (h6_2 + z4)), (h6_3, (h6_4, (h6_5, (h6_6, (h6_7, (h6_8, (h6_9, (h6_10, (h6_11, (true, (h7_1, (h7_2, h7_3))))))))))))))))))
              .no)))))
         (.dd ((z3.1 = (((2 : Nat) : Nat) : Int))) inferInstance
          (.bb (!h7_2)
           (.dd ((z3.1 = (((3 : Nat) : Nat) : Int))) inferInstance
            (.ret (.inl ((w64 (k24 + (1 : Int))), ((imin z4 z4), ((imax h6_1 z4), ((w64 (h6_2 + z4)), (h6_3, (h6_4, (h6_5, (h6_6, (h6_7, (h6_8, (h6_9, (h6_10, (h6_11, (h7_0, (h7_1, (h7_2, true))))))))))))))))))
            (.dd ((z3.1 = (((2 : Nat) : Nat) : Int))) inferInstance
             (.ret (.inl ((w64 (k24 + (1 : Int))), ((imin z4 z4), ((imax h6_1 z4), ((w64 (h6_2 + z4)), (h6_3, (h6_4, (h6_5, (h6_6, (h6_7, (h6_8, (h6_9, (h6_10, (h6_11, (h7_0, (h7_1, (true, h7_3))))))))))))))))))
             (.dd ((z3.1 = (((1 : Nat) : Nat) : Int))) inferInstance
              (.ret (.inl ((w64 (k24 + (1 : Int))), ((imin z4 z4), ((imax h6_1 z4), ((w64 (h6_2 + z4)), (h6_3, (h6_4, (h6_5, (h6_6, (h6_7, (h6_8, (h6_9, (h6_10, (h6_11, (h7_0, (true, (h7_2, h7_3))))))))))))))))))
              (.dd ((z3.1 = (((0 : Nat) : Nat) : Int))) inferInstance
               (.ret (.inl ((w64 (k24 + (1 : Int))), ((imin z4 z4), ((imax h6_1 z4), ((w64 (h6_2 + z4)), (h6_3, (h6_4, (h6_5, (h6_6, (h6_7, (h6_8, (h6_9, (h6_10, (h6_11, (true, (h7_1, (h7_2, h7_3))))))))))))))))))
               .no))))
           (.dd ((z3.1 = (((3 : Nat) : Nat) : Int))) inferInstance
            (.ret (.inl ((w64 (k24 + (1 : Int))), ((imin h6_0 z4), ((imax h6_1 z4), ((w64 (h6_2 + z4)), (h6_3, (h6_4, (h6_5, (h6_6, (h6_7, (h6_8, (h6_9, (h6_10, (h6_11, (h7_0, (h7_1, (h7_2, true))))))))))))))))))
            (.dd ((z3.1 = (((2 : Nat) : Nat) : Int))) inferInstance
             (.ret (.inl ((w64 (k24 + (1 : Int))), ((imin h6_0 z4), ((imax h6_1 z4), ((w64 (h6_2 + z4)), (h6_3, (h6_4, (h6_5, (h6_6, (h6_7, (h6_8, (h6_9, (h6_10, (h6_11, (h7_0, (h7_1, (true, h7_3))))))))))))))))))
             (.dd ((z3.1 = (((1 : Nat) : Nat) : Int))) inferInstance
              (.ret (.inl ((w64 (k24 + (1 : Int))), ((imin h6_0 z4), ((imax h6_1 z4), ((w64 (h6_2 + z4)), (h6_3, (h6_4, (h6_5, (h6_6, (h6_7, (h6_8, (h6_9, (h6_10, (h6_11, (h7_0, (true, (h7_2, h7_3))))))))))))))))))
              (.dd ((z3.1 = (((0 : Nat) : Nat) : Int))) inferInstance
               (.ret (.inl ((w64 (k24 + (1 : Int))), ((imin h6_0 z4), ((imax h6_1 z4), ((w64 (h6_2 + z4)), (h6_3, (h6_4, (h6_5, (h6_6, (h6_7, (h6_8, (h6_9, (h6_10, (h6_11, (true, (h7_1, (h7_2, h7_3))))))))))))))))))
               .no)))))
          (.dd ((z3.1 = (((1 : Nat) : Nat) : Int))) inferInstance
           (.bb (!h7_1)
            (.dd ((z3.1 = (((3 : Nat) : Nat) : Int))) inferInstance
             (.ret (.inl ((w64 (k24 + (1 : Int))), ((imin z4 z4), ((imax h6_1 z4), ((w64 (h6_2 + z4)), (h6_3, (h6_4, (h6_5, (h6_6, (h6_7, (h6_8, (h6_9, (h6_10, (h6_11, (h7_0, (h7_1, (h7_2, true))))))))))))))))))
             (.dd ((z3.1 = (((2 : Nat) : Nat) : Int))) inferInstance
              (.ret (.inl ((w64 (k24 + (1 : Int))), ((imin z4 z4), ((imax h6_1 z4), ((w64 (h6_2 + z4)), (h6_3, (h6_4, (h6_5, (h6_6, (h6_7, (h6_8, (h6_9, (h6_10, (h6_11, (h7_0, (h7_1, (true, h7_3))))))))))))))))))
              (.dd ((z3.1 = (((1 : Nat) : Nat) : Int))) inferInstance
               (.ret (.inl ((w64 (k24 + (1 : Int))), ((imin z4 z4), ((imax h6_1 z4), ((w64 (h6_2 + z4)), (h6_3, (h6_4, (h6_5, (h6_6, (h6_7, (h6_8, (h6_9, (h6_10, (h6_11, (h7_0, (true, (h7_2, h7_3))))))))))))))))))
               (.dd ((z3.1 = (((0 : Nat) : Nat) : Int))) inferInstance
                (.ret (.inl ((w64 (k24 + (1 : Int))), ((imin z4 z4), ((imax h6_1 z4), ((w64 (h6_2 + z4)), (h6_3, (h6_4, (h6_5, (h6_6, (h6_7, (h6_8, (h6_9, (h6_10, (h6_11, (true, (h7_1, (h7_2, h7_3))))))))))))))))))
                .no))))
            (.dd ((z3.1 = (((3 : Nat) : Nat) : Int))) inferInstance
             (.ret (.inl ((w64 (k24 + (1 : Int))), ((imin h6_0 z4), ((imax h6_1 z4), ((w64 (h6_2 + z4)), (h6_3, (h6_4, (h6_5, (h6_6, (h6_7, (h6_8, (h6_9, (h6_10, (h6_11, (h7_0, (h7_1, (h7_2, true))))))))))))))))))
             (.dd ((z3.1 = (((2 : Nat) : Nat) : Int))) inferInstance
              (.ret (.inl ((w64 (k24 + (1 : Int))), ((imin h6_0 z4), ((imax h6_1 z4), ((w64 (h6_2 + z4)), (h6_3, (h6_4, (h6_5, (h6_6, (h6_7, (h6_8, (h6_9, (h6_10, (h6_11, (h7_0, (h7_1, (true, h7_3))))))))))))))))))
              (.dd ((z3.1 = (((1 : Nat) : Nat) : Int))) inferInstance
               (.ret (.inl ((w64 (k24 + (1 : Int))), ((imin h6_0 z4), ((imax h6_1 z4), ((w64 (h6_2 + z4)), (h6_3, (h6_4, (h6_5, (h6_6, (h6_7, (h6_8, (h6_9, (h6_10, (h6_11, (h7_0, (true, (h7_2, h7_3))))))))))))))))))
               (.dd ((z3.1 = (((0 : Nat) : Nat) : Int))) inferInstance
                (.ret (.inl ((w64 (k24 + (1 : Int))), ((imin h6_0 z4), ((imax h6_1 z4), ((w64 (h6_2 + z4)), (h6_3, (h6_4, (h6_5, (h6_6, (h6_7, (h6_8, (h6_9, (h6_10, (h6_11, (true, (h7_1, (h7_2, h7_3))))))))))))))))))
                .no)))))
           (.dd ((z3.1 = (((0 : Nat) : Nat) : Int))) inferInstance
            (.bb (!h7_0)
             (.dd ((z3.1 = (((3 : Nat) : Nat) : Int))) inferInstance
              (.ret (.inl ((w64 (k24 + (1 : Int))), ((imin z4 z4), ((imax h6_1 z4), ((w64 (h6_2 + z4)), (h6_3, (h6_4, (h6_5, (h6_6, (h6_7, (h6_8, (h6_9, (h6_10, (h6_11, (h7_0, (h7_1, (h7_2, true))))))))))))))))))
              (.dd ((z3.1 = (((2 : Nat) : Nat) : Int))) inferInstance
               (.ret (.inl ((w64 (k24 + (1 : Int))), ((imin z4 z4), ((imax h6_1 z4), ((w64 (h6_2 + z4)), (h6_3, (h6_4, (h6_5, (h6_6, (h6_7, (h6_8, (h6_9, (h6_10, (h6_11, (h7_0, (h7_1, (true, h7_3))))))))))))))))))
               (.dd ((z3.1 = (((1 : Nat) : Nat) : Int))) inferInstance
                (.ret (.inl ((w64 (k24 + (1 : Int))), ((imin z4 z4), ((imax h6_1 z4), ((w64 (h6_2 + z4)), (h6_3, (h6_4, (h6_5, (h6_6, (h6_7, (h6_8, (h6_9, (h6_10, (h6_11, (h7_0, (true, (h7_2, h7_3))))))))))))))))))
                (.dd ((z3.1 = (((0 : Nat) : Nat) : Int))) inferInstance
                 (.ret (.inl ((w64 (k24 + (1 : Int))), ((imin z4 z4), ((imax h6_1 z4), ((w64 (h6_2 + z4)), (h6_3, (h6_4, (h6_5, (h6_6, (h6_7, (h6_8, (h6_9, (h6_10, (h6_11, (true, (h7_1, (h7_2, h7_3))))))))))))))))))
                 .no))))
             (.dd ((z3.1 = (((3 : Nat) : Nat) : Int))) inferInstance
              (.ret (.inl ((w64 (k24 + (1 : Int))), ((imin h6_0 z4), ((imax h6_1 z4), ((w64 (h6_2 + z4)), (h6_3, (h6_4, (h6_5, (h6_6, (h6_7, (h6_8, (h6_9, (h6_10, (h6_11, (h7_0, (h7_1, (h7_2, true))))))))))))))))))
              (.dd ((z3.1 = (((2 : Nat) : Nat) : Int))) inferInstance
               (.ret (.inl ((w64 (k24 + (1 : Int))), ((imin h6_0 z4), ((imax h6_1 z4), ((w64 (h6_2 + z4)), (h6_3, (h6_4, (h6_5, (h6_6, (h6_7, (h6_8, (h6_9, (h6_10, (h6_11, (h7_0, (h7_1, (true, h7_3))))))))))))))))))
               (.dd ((z3.1 = (((1 : Nat) : Nat) : Int))) inferInstance
                (.ret (.inl ((w64 (k24 + (1 : Int))), ((imin h6_0 z4), ((imax h6_1 z4), ((w64 (h6_2 + z4)), (h6_3, (h6_4, (h6_5, (h6_6, (h6_7, (h6_8, (h6_9, (h6_10, (h6_11, (h7_0, (true, (h7_2, h7_3))))))))))))))))))
                (.dd ((z3.1 = (((0 : Nat) : Nat) : Int))) inferInstance
                 (.ret (.inl ((w64 (k24 + (1 : Int))), ((imin h6_0 z4), ((imax h6_1 z4), ((w64 (h6_2 + z4)), (h6_3, (h6_4, (h6_5, (h6_6, (h6_7, (h6_8, (h6_9, (h6_10, (h6_11, (true, (h7_1, (h7_2, h7_3))))))))))))))))))
                 .no)))))
            .no)))))
       .no)))))
  (.ret (.inr (h6_0, (h6_1, (h6_2, (h6_3, (h6_4, (h6_5, (h6_6, (h6_7, (h6_8, (h6_9, (h6_10, h6_11))))))))))))))
noncomputable def L7 (k23 k24 h0_1 h0_3 : Int) (h0_4 : Bool) (h0_5 : Int) (h1 : (List Int)) (h2 : (List Int)) (h3 : (List Int)) (h4_0 h4_1 h4_2 h4_3 h4_4 h4_5 h5_0 h5_1 h5_2 h5_3 h5_4 h5_5 h5_6 h5_7 h5_8 h5_9 h5_10 h5_11 h6_0 h6_1 h6_2 h6_3 h6_4 h6_5 h6_6 h6_7 h6_8 h6_9 h6_10 h6_11 : Int) (h7_0 h7_1 h7_2 h7_3 : Bool) : Option X7 := Lp (fun s => (l7 k23 h0_1 h0_3 h0_4 h0_5 h1 h2 h3 h4_0 h4_1 h4_2 h4_3 h4_4 h4_5 h5_0 h5_1 h5_2 h5_3 h5_4 h5_5 h5_6 h5_7 h5_8 h5_9 h5_10 h5_11 s.1 s.2.1 s.2.2.1 s.2.2.2.1 s.2.2.2.2.1 s.2.2.2.2.2.1 s.2.2.2.2.2.2.1 s.2.2.2.2.2.2.2.1 s.2.2.2.2.2.2.2.2.1 s.2.2.2.2.2.2.2.2.2.1 s.2.2.2.2.2.2.2.2.2.2.1 s.2.2.2.2.2.2.2.2.2.2.2.1 s.2.2.2.2.2.2.2.2.2.2.2.2.1 s.2.2.2.2.2.2.2.2.2.2.2.2.2.1 s.2.2.2.2.2.2.2.2.2.2.2.2.2.2.1 s.2.2.2.2.2.2.2.2.2.2.2.2.2.2.2.1 s.2.2.2.2.2.2.2.2.2.2.2.2.2.2.2.2).run) (k24, (h6_0, (h6_1, (h6_2, (h6_3, (h6_4, (h6_5, (h6_6, (h6_7, (h6_8, (h6_9, (h6_10, (h6_11, (h7_0, (h7_1, (h7_2, h7_3))))))))))))))))
def p7 : Pt := (.cs (.ptr 0 0) (.cs (.bots 2) (.cs (.ptr 4 0) (.cs (.ptr 5 0) (.cs (.bots 1) (.cs (.ptr 6 0) (.cs (.bots 1) (.cs (.ptr 7 0) (.cs (.bots 14) (jC (jC (.cs (.bots 52) .nl))))))))))))
def q7 : Pt := (.cs (.var (.cs (.own 1) (jC (.cs (.own 2) (jC (.cs .bool (jC (.cs (.own 3) .nl)))))))) (.cs (.row 3 true) (.cs (.row 1 true) (.cs (.row 3 true) (.cs (.var (jC (jC (jC (jC (jC (jC .nl))))))) (.cs (.var (jC (jC (jC (jC (jC (jC (jC (jC (jC (jC (jC (jC .nl))))))))))))) (.cs (.var (jC (jC (jC (jC (jC (jC (jC (jC (jC (jC (jC (jC .nl))))))))))))) (.cs (.var (.cs .bool (.cs .bool (.cs .bool (.cs .bool .nl))))) .nl))))))))
def ou7 (l : T7) (y : X7) : Ex × St U := (.exit 0, stOf 77 [(0, .ptr 0 0), (4, .ptr 4 0), (6, .ptr 5 0)] [.var [.own 1, jI l.2.1.2.1, .own 2, jI l.2.1.2.2.2.1, jB l.2.1.2.2.2.2.1, jI l.2.1.2.2.2.2.2.1, .own 3], .row 3 l.2.2.1 true, .row 1 l.2.2.2.1 true, .row 3 l.2.2.2.2.1 true, .var [jI l.2.2.2.2.2.2.1.1, jI l.2.2.2.2.2.2.1.2.1, jI l.2.2.2.2.2.2.1.2.2.1, jI l.2.2.2.2.2.2.1.2.2.2.1, jI l.2.2.2.2.2.2.1.2.2.2.2.1, jI l.2.2.2.2.2.2.1.2.2.2.2.2.1, jI l.2.2.2.2.2.2.1.2.2.2.2.2.2.1, jI l.2.2.2.2.2.2.1.2.2.2.2.2.2.2.1, jI l.2.2.2.2.2.2.1.2.2.2.2.2.2.2.2.1, jI l.2.2.2.2.2.2.1.2.2.2.2.2.2.2.2.2.1, jI l.2.2.2.2.2.2.1.2.2.2.2.2.2.2.2.2.2.1, jI l.2.2.2.2.2.2.1.2.2.2.2.2.2.2.2.2.2.2.1], .var [jI y.1, jI y.2.1, jI y.2.2.1, jI y.2.2.2.1, jI y.2.2.2.2.1, jI y.2.2.2.2.2.1, jI y.2.2.2.2.2.2.1, jI y.2.2.2.2.2.2.2.1, jI y.2.2.2.2.2.2.2.2.1, jI y.2.2.2.2.2.2.2.2.2.1, jI y.2.2.2.2.2.2.2.2.2.2.1, jI y.2.2.2.2.2.2.2.2.2.2.2]] 4)
noncomputable def Λ7 : LFun U := mkLp (U := U) p7 q7 4 (X := X7) (fun (l : T7) => L7 l.1.2.2.2.2.2.2.2.2.2.1 l.1.2.2.2.2.2.2.2.2.2.2.1 l.2.1.2.1 l.2.1.2.2.2.1 l.2.1.2.2.2.2.1 l.2.1.2.2.2.2.2.1 l.2.2.1 l.2.2.2.1 l.2.2.2.2.1 l.2.2.2.2.2.1.1 l.2.2.2.2.2.1.2.1 l.2.2.2.2.2.1.2.2.1 l.2.2.2.2.2.1.2.2.2.1 l.2.2.2.2.2.1.2.2.2.2.1 l.2.2.2.2.2.1.2.2.2.2.2.1 l.2.2.2.2.2.2.1.1 l.2.2.2.2.2.2.1.2.1 l.2.2.2.2.2.2.1.2.2.1 l.2.2.2.2.2.2.1.2.2.2.1 l.2.2.2.2.2.2.1.2.2.2.2.1 l.2.2.2.2.2.2.1.2.2.2.2.2.1 l.2.2.2.2.2.2.1.2.2.2.2.2.2.1 l.2.2.2.2.2.2.1.2.2.2.2.2.2.2.1 l.2.2.2.2.2.2.1.2.2.2.2.2.2.2.2.1 l.2.2.2.2.2.2.1.2.2.2.2.2.2.2.2.2.1 l.2.2.2.2.2.2.1.2.2.2.2.2.2.2.2.2.2.1 l.2.2.2.2.2.2.1.2.2.2.2.2.2.2.2.2.2.2.1 l.2.2.2.2.2.2.2.1.1 l.2.2.2.2.2.2.2.1.2.1 l.2.2.2.2.2.2.2.1.2.2.1 l.2.2.2.2.2.2.2.1.2.2.2.1 l.2.2.2.2.2.2.2.1.2.2.2.2.1 l.2.2.2.2.2.2.2.1.2.2.2.2.2.1 l.2.2.2.2.2.2.2.1.2.2.2.2.2.2.1 l.2.2.2.2.2.2.2.1.2.2.2.2.2.2.2.1 l.2.2.2.2.2.2.2.1.2.2.2.2.2.2.2.2.1 l.2.2.2.2.2.2.2.1.2.2.2.2.2.2.2.2.2.1 l.2.2.2.2.2.2.2.1.2.2.2.2.2.2.2.2.2.2.1 l.2.2.2.2.2.2.2.1.2.2.2.2.2.2.2.2.2.2.2.1 l.2.2.2.2.2.2.2.2.1.1 l.2.2.2.2.2.2.2.2.1.2.1 l.2.2.2.2.2.2.2.2.1.2.2.1 l.2.2.2.2.2.2.2.2.1.2.2.2.1) sp1 ou7
def hd7 (l : T7) (s : S7) : T7 := (((), ((), ((), ((), ((), ((), ((), ((), ((), (l.1.2.2.2.2.2.2.2.2.2.1, (s.1, ((), ())))))))))))), (((), (l.2.1.2.1, ((), (l.2.1.2.2.2.1, (l.2.1.2.2.2.2.1, (l.2.1.2.2.2.2.2.1, ((), ()))))))), (l.2.2.1, (l.2.2.2.1, (l.2.2.2.2.1, ((l.2.2.2.2.2.1.1, (l.2.2.2.2.2.1.2.1, (l.2.2.2.2.2.1.2.2.1, (l.2.2.2.2.2.1.2.2.2.1, (l.2.2.2.2.2.1.2.2.2.2.1, (l.2.2.2.2.2.1.2.2.2.2.2.1, ())))))), ((l.2.2.2.2.2.2.1.1, (l.2.2.2.2.2.2.1.2.1, (l.2.2.2.2.2.2.1.2.2.1, (l.2.2.2.2.2.2.1.2.2.2.1, (l.2.2.2.2.2.2.1.2.2.2.2.1, (l.2.2.2.2.2.2.1.2.2.2.2.2.1, (l.2.2.2.2.2.2.1.2.2.2.2.2.2.1, (l.2.2.2.2.2.2.1.2.2.2.2.2.2.2.1, (l.2.2.2.2.2.2.1.2.2.2.2.2.2.2.2.1, (l.2.2.2.2.2.2.1.2.2.2.2.2.2.2.2.2.1, (l.2.2.2.2.2.2.1.2.2.2.2.2.2.2.2.2.2.1, (l.2.2.2.2.2.2.1.2.2.2.2.2.2.2.2.2.2.2.1, ())))))))))))), ((s.2.1, (s.2.2.1, (s.2.2.2.1, (s.2.2.2.2.1, (s.2.2.2.2.2.1, (s.2.2.2.2.2.2.1, (s.2.2.2.2.2.2.2.1, (s.2.2.2.2.2.2.2.2.1, (s.2.2.2.2.2.2.2.2.2.1, (s.2.2.2.2.2.2.2.2.2.2.1, (s.2.2.2.2.2.2.2.2.2.2.2.1, (s.2.2.2.2.2.2.2.2.2.2.2.2.1, ())))))))))))), ((s.2.2.2.2.2.2.2.2.2.2.2.2.2.1, (s.2.2.2.2.2.2.2.2.2.2.2.2.2.2.1, (s.2.2.2.2.2.2.2.2.2.2.2.2.2.2.2.1, (s.2.2.2.2.2.2.2.2.2.2.2.2.2.2.2.2, ())))), ())))))))))
noncomputable def fl7 (l : T7) (s : S7) : Tw (S7 ⊕ X7) := l7 l.1.2.2.2.2.2.2.2.2.2.1 l.2.1.2.1 l.2.1.2.2.2.1 l.2.1.2.2.2.2.1 l.2.1.2.2.2.2.2.1 l.2.2.1 l.2.2.2.1 l.2.2.2.2.1 l.2.2.2.2.2.1.1 l.2.2.2.2.2.1.2.1 l.2.2.2.2.2.1.2.2.1 l.2.2.2.2.2.1.2.2.2.1 l.2.2.2.2.2.1.2.2.2.2.1 l.2.2.2.2.2.1.2.2.2.2.2.1 l.2.2.2.2.2.2.1.1 l.2.2.2.2.2.2.1.2.1 l.2.2.2.2.2.2.1.2.2.1 l.2.2.2.2.2.2.1.2.2.2.1 l.2.2.2.2.2.2.1.2.2.2.2.1 l.2.2.2.2.2.2.1.2.2.2.2.2.1 l.2.2.2.2.2.2.1.2.2.2.2.2.2.1 l.2.2.2.2.2.2.1.2.2.2.2.2.2.2.1 l.2.2.2.2.2.2.1.2.2.2.2.2.2.2.2.1 l.2.2.2.2.2.2.1.2.2.2.2.2.2.2.2.2.1 l.2.2.2.2.2.2.1.2.2.2.2.2.2.2.2.2.2.1 l.2.2.2.2.2.2.1.2.2.2.2.2.2.2.2.2.2.2.1 s.1 s.2.1 s.2.2.1 s.2.2.2.1 s.2.2.2.2.1 s.2.2.2.2.2.1 s.2.2.2.2.2.2.1 s.2.2.2.2.2.2.2.1 s.2.2.2.2.2.2.2.2.1 s.2.2.2.2.2.2.2.2.2.1 s.2.2.2.2.2.2.2.2.2.2.1 s.2.2.2.2.2.2.2.2.2.2.2.1 s.2.2.2.2.2.2.2.2.2.2.2.2.1 s.2.2.2.2.2.2.2.2.2.2.2.2.2.1 s.2.2.2.2.2.2.2.2.2.2.2.2.2.2.1 s.2.2.2.2.2.2.2.2.2.2.2.2.2.2.2.1 s.2.2.2.2.2.2.2.2.2.2.2.2.2.2.2.2
noncomputable def t (g_0 g_1 g_2 g_3 g_4 g_5 h0_1 h0_3 : Int) (h0_4 : Bool) (h0_5 : Int) (h1 : (List Int)) (h2 : (List Int)) (h3 : (List Int)) : Tw XA :=
 (.opt (wear_fine.c g_0 g_1 g_2 g_3 g_4 g_5 h0_1 h0_3 h0_4 h0_5 h1 h2 h3) fun z1 =>
  (.bb (z1 != (0 : Int))
   (.ret ((0 : Int), ((0 : Int), ((0 : Int), ((0 : Int), ((0 : Int), ((0 : Int), ((0 : Int), ((0 : Int), ((0 : Int), ((0 : Int), ((0 : Int), ((0 : Int), z1)))))))))))))
   (.opt (geom_Sectors.c g_0 g_1 g_2 g_3 g_4 g_5) fun z2 =>
    (.opt (L7 z2 (0 : Int) h0_1 h0_3 h0_4 h0_5 h1 h2 h3 g_0 g_1 g_2 g_3 g_4 g_5 (0 : Int) (0 : Int) (0 : Int) (0 : Int) (0 : Int) (0 : Int) (0 : Int) (0 : Int) (0 : Int) (0 : Int) (0 : Int) (0 : Int) (0 : Int) (0 : Int) (0 : Int) (0 : Int) (0 : Int) (0 : Int) (0 : Int) (0 : Int) (0 : Int) (0 : Int) (0 : Int) (0 : Int) false false false false) fun z8 =>
     (.ret (z8.1, (z8.2.1, (z8.2.2.1, (z8.2.2.2.1, (z8.2.2.2.2.1, (z8.2.2.2.2.2.1, (z8.2.2.2.2.2.2.1, (z8.2.2.2.2.2.2.2.1, (z8.2.2.2.2.2.2.2.2.1, (z8.2.2.2.2.2.2.2.2.2.1, (z8.2.2.2.2.2.2.2.2.2.2.1, (z8.2.2.2.2.2.2.2.2.2.2.2, (0 : Int))))))))))))))))))
noncomputable def c (g_0 g_1 g_2 g_3 g_4 g_5 h0_1 h0_3 : Int) (h0_4 : Bool) (h0_5 : Int) (h1 : (List Int)) (h2 : (List Int)) (h3 : (List Int)) : Option XA := (t g_0 g_1 g_2 g_3 g_4 g_5 h0_1 h0_3 h0_4 h0_5 h1 h2 h3).run
noncomputable def tl (l : TA) : Tw XA := t l.1.2.1.1 l.1.2.1.2.1 l.1.2.1.2.2.1 l.1.2.1.2.2.2.1 l.1.2.1.2.2.2.2.1 l.1.2.1.2.2.2.2.2.1 l.2.1.2.1 l.2.1.2.2.2.1 l.2.1.2.2.2.2.1 l.2.1.2.2.2.2.2.1 l.2.2.1 l.2.2.2.1 l.2.2.2.2.1
noncomputable def cl (l : TA) : Option XA := c l.1.2.1.1 l.1.2.1.2.1 l.1.2.1.2.2.1 l.1.2.1.2.2.2.1 l.1.2.1.2.2.2.2.1 l.1.2.1.2.2.2.2.2.1 l.2.1.2.1 l.2.1.2.2.2.1 l.2.1.2.2.2.2.1 l.2.1.2.2.2.2.2.1 l.2.2.1 l.2.2.2.1 l.2.2.2.2.1
def pA : Pt := (.cs (.ptr 0 0) (.cs (.agg (jC (jC (jC (jC (jC (jC .nl))))))) .nl))
def pH : Pt := (.cs (.var (.cs (.own 1) (jC (.cs (.own 2) (jC (.cs .bool (jC (.cs (.own 3) .nl)))))))) (.cs (.row 3 true) (.cs (.row 1 true) (.cs (.row 3 true) .nl))))
def v (l : TA) (y : XA) : AV U := .tup [.agg [jI y.1, jI y.2.1, jI y.2.2.1, jI y.2.2.2.1, jI y.2.2.2.2.1, jI y.2.2.2.2.2.1, jI y.2.2.2.2.2.2.1, jI y.2.2.2.2.2.2.2.1, jI y.2.2.2.2.2.2.2.2.1, jI y.2.2.2.2.2.2.2.2.2.1, jI y.2.2.2.2.2.2.2.2.2.2.1, jI y.2.2.2.2.2.2.2.2.2.2.2.1], jI y.2.2.2.2.2.2.2.2.2.2.2.2]
def hh (l : TA) (y : XA) : Hp U := [.var [.own 1, jI l.2.1.2.1, .own 2, jI l.2.1.2.2.2.1, jB l.2.1.2.2.2.2.1, jI l.2.1.2.2.2.2.2.1, .own 3], .row 3 l.2.2.1 true, .row 1 l.2.2.2.1 true, .row 3 l.2.2.2.2.1 true]
noncomputable def A : AFun U := mkA (U := U) pA pH (X := XA) cl sp1 v hh
noncomputable def body : Code := (Go.Func.body Try.f32).getD .skip
noncomputable def Γ : List (FuncId × AFun U) := [(69, wear_fine.A), (70, geom_Sectors.A), (71, geom_Where.A), (72, flash_Flash_Wear.A)]
noncomputable def Λ : List (Nat × LFun U) := [(7, Λ7)]
noncomputable def CT : List (Nat × LFun U) := []
def ro : List FuncId := [69, 72]
def D : Nat → Lv × Lv := dtab [(7, ⟨[24, 8, 0, 6, 3, 4, 23], []⟩, ⟨[4, 5, 0, 6], []⟩)]
noncomputable def E : Env U := { E0 with Γ := Γ, Λ := Λ, C := CT, D := D, ro := ro }
theorem hf7 (R : Type) (l : T7) (s : S7) (K : Ex → St U → Option R) : codeA E (pick (loopsOf body) 7) ⟨p7.mkL (hd7 l s).1, q7.mkH (hd7 l s).2, 4⟩ (roundK E (pick (loopsOf body) 7) K) =
  (fl7 l s).runK (lpK K (fun s => ⟨p7.mkL (hd7 l s).1, q7.mkH (hd7 l s).2, 4⟩) sp1 (ou7 l)) := by kernel_rfl
theorem lk7 (R : Type) (st : St U) (K : Ex → St U → Option R) (r : R) (h : Λ7 R st K = some r) : ∃ n, loopA E (pick (loopsOf body) 7) n st K = some r :=
  lp_ok (U := U) (E := E) (b := pick (loopsOf body) 7) (m := 4) (sp := sp1) (p := p7) (q := q7) (X := X7) (S := S7) (f := fl7) (hd := hd7) (s0 := fun (l : T7) => (l.1.2.2.2.2.2.2.2.2.2.2.1, (l.2.2.2.2.2.2.2.1.1, (l.2.2.2.2.2.2.2.1.2.1, (l.2.2.2.2.2.2.2.1.2.2.1, (l.2.2.2.2.2.2.2.1.2.2.2.1, (l.2.2.2.2.2.2.2.1.2.2.2.2.1, (l.2.2.2.2.2.2.2.1.2.2.2.2.2.1, (l.2.2.2.2.2.2.2.1.2.2.2.2.2.2.1, (l.2.2.2.2.2.2.2.1.2.2.2.2.2.2.2.1, (l.2.2.2.2.2.2.2.1.2.2.2.2.2.2.2.2.1, (l.2.2.2.2.2.2.2.1.2.2.2.2.2.2.2.2.2.1, (l.2.2.2.2.2.2.2.1.2.2.2.2.2.2.2.2.2.2.1, (l.2.2.2.2.2.2.2.1.2.2.2.2.2.2.2.2.2.2.2.1, (l.2.2.2.2.2.2.2.2.1.1, (l.2.2.2.2.2.2.2.2.1.2.1, (l.2.2.2.2.2.2.2.2.1.2.2.1, l.2.2.2.2.2.2.2.2.1.2.2.2.1))))))))))))))))) (ou := ou7)
    (fun l => rfl) (fun l x => by rfl) sp1_ok hf7 h
theorem hk (R : Type) (l : TA) (K : AV U → Hp U → Option R) : funcA E Try.f32 [] R (pA.mkL l.1) (pH.mkH l.2) K = (tl l).runK fun y => K (v l y) (hh l y) := by kernel_rfl
theorem okF : SoundF Try.prog cc 32 (funcA E Try.f32 []) :=
  funcA_ok (E := E) P_mixed (E0_ok.with Γ Λ CT D ro) (gam_of (all_cons ⟨wear_fine.ok, wear_fine.fo⟩ (all_cons ⟨geom_Sectors.ok, geom_Sectors.fo⟩ (all_cons ⟨geom_Where.ok, geom_Where.fo⟩ (all_cons ⟨flash_Flash_Wear.ok, flash_Flash_Wear.fo⟩ all_nil)))) (all_cons (fun _ => wear_fine.keep) (all_cons (no_keep (by kernel_rfl)) (all_cons (no_keep (by kernel_rfl)) (all_cons (fun _ => flash_Flash_Wear.keep) all_nil))))) Try.func32 (c := body) (by kernel_rfl)
    (just_by (by kernel_rfl) (by kernel_rfl) (all_cons lk7 all_nil) all_nil) []
theorem ok : SoundF Try.prog cc 32 A :=
  mkA_ok (E := E) (p := pA) (q := pH) (t := tl) sp1_ok hk okF
theorem fo : FnOK Try.prog 32 := ⟨Try.f32, Try.func32, by kernel_rfl, by kernel_rfl⟩
theorem keep : KeepA A := mkA_keep (U := U) sp1_ok (fun (l : TA) y => ⟨(hh l y).drop 4, by kernel_rfl⟩)
end wear_Of

/-! instar/wear.Worst -/
namespace wear_Worst
abbrev TA : Type := ((Unit × ((Int × (Int × (Int × (Int × (Int × (Int × Unit)))))) × Unit)) × ((Unit × (Int × (Unit × (Int × (Bool × (Int × (Unit × Unit))))))) × ((List Int) × ((List Int) × ((List Int) × Unit)))))
abbrev XA : Type := (Int × Int)
abbrev T5 : Type := ((Unit × (Unit × (Int × (Unit × (Int × (Int × (Unit × Unit))))))) × ((Unit × (Int × (Unit × (Int × (Bool × (Int × (Unit × Unit))))))) × ((List Int) × ((List Int) × ((List Int) × Unit)))))
abbrev S5 : Type := (Int × Int)
noncomputable def l5 (k13 h0_1 h0_3 : Int) (h0_4 : Bool) (h0_5 : Int) (h1 : (List Int)) (h2 : (List Int)) (h3 : (List Int)) (at_ k14 : Int) : Tw (S5 ⊕ Int) :=
 (.bb (decide (k14 < k13))
  (.opt (flash_Flash_Wear.c k14 h0_1 h0_3 h0_4 h0_5 h1 h2 h3) fun z3 =>
   (.opt (flash_Flash_Wear.c at_ h0_1 h0_3 h0_4 h0_5 h1 h2 h3) fun z4 =>
    (.bb (decide (z3 > z4))
     (.ret (.inl (k14, (w64 (k14 + (1 : Int))))))
     (.ret (.inl (at_, (w64 (k14 + (1 : Int)))))))))
  (.ret (.inr at_)))
noncomputable def L5 (at_ k13 k14 h0_1 h0_3 : Int) (h0_4 : Bool) (h0_5 : Int) (h1 : (List Int)) (h2 : (List Int)) (h3 : (List Int)) : Option Int := Lp (fun s => (l5 k13 h0_1 h0_3 h0_4 h0_5 h1 h2 h3 s.1 s.2).run) (at_, k14)
def p5 : Pt := (.cs (.ptr 0 0) (.cs (.bots 5) (jC (.cs (.bots 6) (jC (jC (.cs (.bots 15) .nl)))))))
def q5 : Pt := (.cs (.var (.cs (.own 1) (jC (.cs (.own 2) (jC (.cs .bool (jC (.cs (.own 3) .nl)))))))) (.cs (.row 3 true) (.cs (.row 1 true) (.cs (.row 3 true) .nl))))
def ou5 (l : T5) (y : Int) : Ex × St U := (.exit 0, stOf 30 [(0, .ptr 0 0), (6, jI y)] [.var [.own 1, jI l.2.1.2.1, .own 2, jI l.2.1.2.2.2.1, jB l.2.1.2.2.2.2.1, jI l.2.1.2.2.2.2.2.1, .own 3], .row 3 l.2.2.1 true, .row 1 l.2.2.2.1 true, .row 3 l.2.2.2.2.1 true] 4)
noncomputable def Λ5 : LFun U := mkLp (U := U) p5 q5 4 (X := Int) (fun (l : T5) => L5 l.1.2.2.1 l.1.2.2.2.2.1 l.1.2.2.2.2.2.1 l.2.1.2.1 l.2.1.2.2.2.1 l.2.1.2.2.2.2.1 l.2.1.2.2.2.2.2.1 l.2.2.1 l.2.2.2.1 l.2.2.2.2.1) sp1 ou5
def hd5 (l : T5) (s : S5) : T5 := (((), ((), (s.1, ((), (l.1.2.2.2.2.1, (s.2, ((), ()))))))), (((), (l.2.1.2.1, ((), (l.2.1.2.2.2.1, (l.2.1.2.2.2.2.1, (l.2.1.2.2.2.2.2.1, ((), ()))))))), (l.2.2.1, (l.2.2.2.1, (l.2.2.2.2.1, ())))))
noncomputable def fl5 (l : T5) (s : S5) : Tw (S5 ⊕ Int) := l5 l.1.2.2.2.2.1 l.2.1.2.1 l.2.1.2.2.2.1 l.2.1.2.2.2.2.1 l.2.1.2.2.2.2.2.1 l.2.2.1 l.2.2.2.1 l.2.2.2.2.1 s.1 s.2
noncomputable def t (g_0 g_1 g_2 g_3 g_4 g_5 h0_1 h0_3 : Int) (h0_4 : Bool) (h0_5 : Int) (h1 : (List Int)) (h2 : (List Int)) (h3 : (List Int)) : Tw XA :=
 (.opt (wear_fine.c g_0 g_1 g_2 g_3 g_4 g_5 h0_1 h0_3 h0_4 h0_5 h1 h2 h3) fun z1 =>
  (.bb (z1 != (0 : Int))
   (.ret ((-(1 : Int)), (0 : Int)))
   (.opt (geom_Sectors.c g_0 g_1 g_2 g_3 g_4 g_5) fun z2 =>
    (.opt (L5 (0 : Int) z2 (0 : Int) h0_1 h0_3 h0_4 h0_5 h1 h2 h3) fun z5 =>
     (.opt (flash_Flash_Wear.c z5 h0_1 h0_3 h0_4 h0_5 h1 h2 h3) fun z6 =>
      (.ret (z5, z6)))))))
noncomputable def c (g_0 g_1 g_2 g_3 g_4 g_5 h0_1 h0_3 : Int) (h0_4 : Bool) (h0_5 : Int) (h1 : (List Int)) (h2 : (List Int)) (h3 : (List Int)) : Option XA := (t g_0 g_1 g_2 g_3 g_4 g_5 h0_1 h0_3 h0_4 h0_5 h1 h2 h3).run
noncomputable def tl (l : TA) : Tw XA := t l.1.2.1.1 l.1.2.1.2.1 l.1.2.1.2.2.1 l.1.2.1.2.2.2.1 l.1.2.1.2.2.2.2.1 l.1.2.1.2.2.2.2.2.1 l.2.1.2.1 l.2.1.2.2.2.1 l.2.1.2.2.2.2.1 l.2.1.2.2.2.2.2.1 l.2.2.1 l.2.2.2.1 l.2.2.2.2.1
noncomputable def cl (l : TA) : Option XA := c l.1.2.1.1 l.1.2.1.2.1 l.1.2.1.2.2.1 l.1.2.1.2.2.2.1 l.1.2.1.2.2.2.2.1 l.1.2.1.2.2.2.2.2.1 l.2.1.2.1 l.2.1.2.2.2.1 l.2.1.2.2.2.2.1 l.2.1.2.2.2.2.2.1 l.2.2.1 l.2.2.2.1 l.2.2.2.2.1
def pA : Pt := (.cs (.ptr 0 0) (.cs (.agg (jC (jC (jC (jC (jC (jC .nl))))))) .nl))
def pH : Pt := (.cs (.var (.cs (.own 1) (jC (.cs (.own 2) (jC (.cs .bool (jC (.cs (.own 3) .nl)))))))) (.cs (.row 3 true) (.cs (.row 1 true) (.cs (.row 3 true) .nl))))
def v (l : TA) (y : XA) : AV U := .tup [jI y.1, jI y.2]
def hh (l : TA) (y : XA) : Hp U := [.var [.own 1, jI l.2.1.2.1, .own 2, jI l.2.1.2.2.2.1, jB l.2.1.2.2.2.2.1, jI l.2.1.2.2.2.2.2.1, .own 3], .row 3 l.2.2.1 true, .row 1 l.2.2.2.1 true, .row 3 l.2.2.2.2.1 true]
noncomputable def A : AFun U := mkA (U := U) pA pH (X := XA) cl sp1 v hh
noncomputable def body : Code := (Go.Func.body Try.f33).getD .skip
noncomputable def Γ : List (FuncId × AFun U) := [(69, wear_fine.A), (70, geom_Sectors.A), (72, flash_Flash_Wear.A)]
noncomputable def Λ : List (Nat × LFun U) := [(5, Λ5)]
noncomputable def CT : List (Nat × LFun U) := []
def ro : List FuncId := [69, 72]
def D : Nat → Lv × Lv := dtab [(5, ⟨[14, 6, 0, 13], []⟩, ⟨[4, 5, 0, 6], []⟩)]
noncomputable def E : Env U := { E0 with Γ := Γ, Λ := Λ, C := CT, D := D, ro := ro }
theorem hf5 (R : Type) (l : T5) (s : S5) (K : Ex → St U → Option R) : codeA E (pick (loopsOf body) 5) ⟨p5.mkL (hd5 l s).1, q5.mkH (hd5 l s).2, 4⟩ (roundK E (pick (loopsOf body) 5) K) =
  (fl5 l s).runK (lpK K (fun s => ⟨p5.mkL (hd5 l s).1, q5.mkH (hd5 l s).2, 4⟩) sp1 (ou5 l)) := by kernel_rfl
theorem lk5 (R : Type) (st : St U) (K : Ex → St U → Option R) (r : R) (h : Λ5 R st K = some r) : ∃ n, loopA E (pick (loopsOf body) 5) n st K = some r :=
  lp_ok (U := U) (E := E) (b := pick (loopsOf body) 5) (m := 4) (sp := sp1) (p := p5) (q := q5) (X := Int) (S := S5) (f := fl5) (hd := hd5) (s0 := fun (l : T5) => (l.1.2.2.1, l.1.2.2.2.2.2.1)) (ou := ou5)
    (fun l => rfl) (fun l x => by rfl) sp1_ok hf5 h
theorem hk (R : Type) (l : TA) (K : AV U → Hp U → Option R) : funcA E Try.f33 [] R (pA.mkL l.1) (pH.mkH l.2) K = (tl l).runK fun y => K (v l y) (hh l y) := by kernel_rfl
theorem okF : SoundF Try.prog cc 33 (funcA E Try.f33 []) :=
  funcA_ok (E := E) P_mixed (E0_ok.with Γ Λ CT D ro) (gam_of (all_cons ⟨wear_fine.ok, wear_fine.fo⟩ (all_cons ⟨geom_Sectors.ok, geom_Sectors.fo⟩ (all_cons ⟨flash_Flash_Wear.ok, flash_Flash_Wear.fo⟩ all_nil))) (all_cons (fun _ => wear_fine.keep) (all_cons (no_keep (by kernel_rfl)) (all_cons (fun _ => flash_Flash_Wear.keep) all_nil)))) Try.func33 (c := body) (by kernel_rfl)
    (just_by (by kernel_rfl) (by kernel_rfl) (all_cons lk5 all_nil) all_nil) []
theorem ok : SoundF Try.prog cc 33 A :=
  mkA_ok (E := E) (p := pA) (q := pH) (t := tl) sp1_ok hk okF
theorem fo : FnOK Try.prog 33 := ⟨Try.f33, Try.func33, by kernel_rfl, by kernel_rfl⟩
theorem keep : KeepA A := mkA_keep (U := U) sp1_ok (fun (l : TA) y => ⟨(hh l y).drop 4, by kernel_rfl⟩)
end wear_Worst

/-! instar/wear.Mean -/
namespace wear_Mean
abbrev TA : Type := (((Int × (Int × (Int × (Int × (Int × (Int × (Int × (Int × (Int × (Int × (Int × (Int × Unit)))))))))))) × ((Int × (Int × (Int × (Int × (Int × (Int × Unit)))))) × (Int × Unit))) × Unit)
noncomputable def t (l__0 l__1 l__2 l__3 l__4 l__5 l__6 l__7 l__8 l__9 l__10 l__11 g_0 g_1 g_2 g_3 g_4 g_5 kind : Int) : Tw Nat :=
 (.opt (geom_Check.c g_0 g_1 g_2 g_3 g_4 g_5) fun z1 =>
  (.bb (z1 != (0 : Int))
   (.ret (0 : Nat))
   (.bb (decide (kind < (0 : Int)))
    (.ret (0 : Nat))
    (.bb (decide (kind ≥ (4 : Int)))
     (.ret (0 : Nat))
     (.dd ((kind = (((3 : Nat) : Nat) : Int))) inferInstance
      (.dd ((kind = (((3 : Nat) : Nat) : Int))) inferInstance
       (.opt (Ieee.Format.div (Go.FloatKind.format Go.FloatKind.f64) (Go.FloatKind.nearest Go.FloatKind.f64 l__11) (Go.FloatKind.nearest Go.FloatKind.f64 g_2)) fun z17 =>
        (.ret z17))
       (.dd ((kind = (((2 : Nat) : Nat) : Int))) inferInstance
        (.opt (Ieee.Format.div (Go.FloatKind.format Go.FloatKind.f64) (Go.FloatKind.nearest Go.FloatKind.f64 l__11) (Go.FloatKind.nearest Go.FloatKind.f64 (w64 ((w64 ((2 : Int) * g_1)) - (2 : Int))))) fun z16 =>
         (.ret z16))
        (.dd ((kind = (((1 : Nat) : Nat) : Int))) inferInstance
         (.opt (Ieee.Format.div (Go.FloatKind.format Go.FloatKind.f64) (Go.FloatKind.nearest Go.FloatKind.f64 l__11) (Go.FloatKind.nearest Go.FloatKind.f64 (2 : Int))) fun z15 =>
          (.ret z15))
         (.dd ((kind = (((0 : Nat) : Nat) : Int))) inferInstance
          (.opt (Ieee.Format.div (Go.FloatKind.format Go.FloatKind.f64) (Go.FloatKind.nearest Go.FloatKind.f64 l__11) (Go.FloatKind.nearest Go.FloatKind.f64 (2 : Int))) fun z14 =>
           (.ret z14))
          .no))))
      (.dd ((kind = (((2 : Nat) : Nat) : Int))) inferInstance
       (.dd ((kind = (((3 : Nat) : Nat) : Int))) inferInstance
        (.opt (Ieee.Format.div (Go.FloatKind.format Go.FloatKind.f64) (Go.FloatKind.nearest Go.FloatKind.f64 l__8) (Go.FloatKind.nearest Go.FloatKind.f64 g_2)) fun z13 =>
         (.ret z13))
        (.dd ((kind = (((2 : Nat) : Nat) : Int))) inferInstance
         (.opt (Ieee.Format.div (Go.FloatKind.format Go.FloatKind.f64) (Go.FloatKind.nearest Go.FloatKind.f64 l__8) (Go.FloatKind.nearest Go.FloatKind.f64 (w64 ((w64 ((2 : Int) * g_1)) - (2 : Int))))) fun z12 =>
          (.ret z12))
         (.dd ((kind = (((1 : Nat) : Nat) : Int))) inferInstance
          (.opt (Ieee.Format.div (Go.FloatKind.format Go.FloatKind.f64) (Go.FloatKind.nearest Go.FloatKind.f64 l__8) (Go.FloatKind.nearest Go.FloatKind.f64 (2 : Int))) fun z11 =>
           (.ret z11))
          (.dd ((kind = (((0 : Nat) : Nat) : Int))) inferInstance
           (.opt (Ieee.Format.div (Go.FloatKind.format Go.FloatKind.f64) (Go.FloatKind.nearest Go.FloatKind.f64 l__8) (Go.FloatKind.nearest Go.FloatKind.f64 (2 : Int))) fun z10 =>
            (.ret z10))
           .no))))
       (.dd ((kind = (((1 : Nat) : Nat) : Int))) inferInstance
        (.dd ((kind = (((3 : Nat) : Nat) : Int))) inferInstance
         (.opt (Ieee.Format.div (Go.FloatKind.format Go.FloatKind.f64) (Go.FloatKind.nearest Go.FloatKind.f64 l__5) (Go.FloatKind.nearest Go.FloatKind.f64 g_2)) fun z9 =>
          (.ret z9))
         (.dd ((kind = (((2 : Nat) : Nat) : Int))) inferInstance
          (.opt (Ieee.Format.div (Go.FloatKind.format Go.FloatKind.f64) (Go.FloatKind.nearest Go.FloatKind.f64 l__5) (Go.FloatKind.nearest Go.FloatKind.f64 (w64 ((w64 ((2 : Int) * g_1)) - (2 : Int))))) fun z8 =>
           (.ret z8))
          (.dd ((kind = (((1 : Nat) : Nat) : Int))) inferInstance
           (.opt (Ieee.Format.div (Go.FloatKind.format Go.FloatKind.f64) (Go.FloatKind.nearest Go.FloatKind.f64 l__5) (Go.FloatKind.nearest Go.FloatKind.f64 (2 : Int))) fun z7 =>
            (.ret z7))
           (.dd ((kind = (((0 : Nat) : Nat) : Int))) inferInstance
            (.opt (Ieee.Format.div (Go.FloatKind.format Go.FloatKind.f64) (Go.FloatKind.nearest Go.FloatKind.f64 l__5) (Go.FloatKind.nearest Go.FloatKind.f64 (2 : Int))) fun z6 =>
             (.ret z6))
            .no))))
        (.dd ((kind = (((0 : Nat) : Nat) : Int))) inferInstance
         (.dd ((kind = (((3 : Nat) : Nat) : Int))) inferInstance
          (.opt (Ieee.Format.div (Go.FloatKind.format Go.FloatKind.f64) (Go.FloatKind.nearest Go.FloatKind.f64 l__2) (Go.FloatKind.nearest Go.FloatKind.f64 g_2)) fun z5 =>
           (.ret z5))
          (.dd ((kind = (((2 : Nat) : Nat) : Int))) inferInstance
           (.opt (Ieee.Format.div (Go.FloatKind.format Go.FloatKind.f64) (Go.FloatKind.nearest Go.FloatKind.f64 l__2) (Go.FloatKind.nearest Go.FloatKind.f64 (w64 ((w64 ((2 : Int) * g_1)) - (2 : Int))))) fun z4 =>
            (.ret z4))
           (.dd ((kind = (((1 : Nat) : Nat) : Int))) inferInstance
            (.opt (Ieee.Format.div (Go.FloatKind.format Go.FloatKind.f64) (Go.FloatKind.nearest Go.FloatKind.f64 l__2) (Go.FloatKind.nearest Go.FloatKind.f64 (2 : Int))) fun z3 =>
             (.ret z3))
            (.dd ((kind = (((0 : Nat) : Nat) : Int))) inferInstance
             (.opt (Ieee.Format.div (Go.FloatKind.format Go.FloatKind.f64) (Go.FloatKind.nearest Go.FloatKind.f64 l__2) (Go.FloatKind.nearest Go.FloatKind.f64 (2 : Int))) fun z2 =>
              (.ret z2))
             .no))))
         .no))))))))
noncomputable def c (l__0 l__1 l__2 l__3 l__4 l__5 l__6 l__7 l__8 l__9 l__10 l__11 g_0 g_1 g_2 g_3 g_4 g_5 kind : Int) : Option Nat := (t l__0 l__1 l__2 l__3 l__4 l__5 l__6 l__7 l__8 l__9 l__10 l__11 g_0 g_1 g_2 g_3 g_4 g_5 kind).run
noncomputable def tl (l : TA) : Tw Nat := t l.1.1.1 l.1.1.2.1 l.1.1.2.2.1 l.1.1.2.2.2.1 l.1.1.2.2.2.2.1 l.1.1.2.2.2.2.2.1 l.1.1.2.2.2.2.2.2.1 l.1.1.2.2.2.2.2.2.2.1 l.1.1.2.2.2.2.2.2.2.2.1 l.1.1.2.2.2.2.2.2.2.2.2.1 l.1.1.2.2.2.2.2.2.2.2.2.2.1 l.1.1.2.2.2.2.2.2.2.2.2.2.2.1 l.1.2.1.1 l.1.2.1.2.1 l.1.2.1.2.2.1 l.1.2.1.2.2.2.1 l.1.2.1.2.2.2.2.1 l.1.2.1.2.2.2.2.2.1 l.1.2.2.1
noncomputable def cl (l : TA) : Option Nat := c l.1.1.1 l.1.1.2.1 l.1.1.2.2.1 l.1.1.2.2.2.1 l.1.1.2.2.2.2.1 l.1.1.2.2.2.2.2.1 l.1.1.2.2.2.2.2.2.1 l.1.1.2.2.2.2.2.2.2.1 l.1.1.2.2.2.2.2.2.2.2.1 l.1.1.2.2.2.2.2.2.2.2.2.1 l.1.1.2.2.2.2.2.2.2.2.2.2.1 l.1.1.2.2.2.2.2.2.2.2.2.2.2.1 l.1.2.1.1 l.1.2.1.2.1 l.1.2.1.2.2.1 l.1.2.1.2.2.2.1 l.1.2.1.2.2.2.2.1 l.1.2.1.2.2.2.2.2.1 l.1.2.2.1
def pA : Pt := (.cs (.agg (jC (jC (jC (jC (jC (jC (jC (jC (jC (jC (jC (jC .nl))))))))))))) (.cs (.agg (jC (jC (jC (jC (jC (jC .nl))))))) (jC .nl)))
def pH : Pt := .nl
def v (l : TA) (y : Nat) : AV U := .im (.flt .f64 y)
def hh (l : TA) (y : Nat) : Hp U := []
noncomputable def A : AFun U := mkA (U := U) pA pH (X := Nat) cl sp1 v hh
noncomputable def body : Code := (Go.Func.body Try.f38).getD .skip
noncomputable def Γ : List (FuncId × AFun U) := [(79, geom_Check.A)]
noncomputable def Λ : List (Nat × LFun U) := []
noncomputable def CT : List (Nat × LFun U) := []
def ro : List FuncId := []
def D : Nat → Lv × Lv := dtab []
noncomputable def E : Env U := { E0 with Γ := Γ, Λ := Λ, C := CT, D := D, ro := ro }
theorem hk (R : Type) (l : TA) (K : AV U → Hp U → Option R) : funcA E Try.f38 [] R (pA.mkL l.1) (pH.mkH l.2) K = (tl l).runK fun y => K (v l y) (hh l y) := by kernel_rfl
theorem okF : SoundF Try.prog cc 38 (funcA E Try.f38 []) :=
  funcA_ok (E := E) P_mixed (E0_ok.with Γ Λ CT D ro) (gam_of (all_cons ⟨geom_Check.ok, geom_Check.fo⟩ all_nil) no_ro) Try.func38 (c := body) (by kernel_rfl)
    (just_by (by kernel_rfl) (by kernel_rfl) all_nil all_nil) []
theorem ok : SoundF Try.prog cc 38 A :=
  mkA_ok (E := E) (p := pA) (q := pH) (t := tl) sp1_ok hk okF
theorem fo : FnOK Try.prog 38 := ⟨Try.f38, Try.func38, by kernel_rfl, by kernel_rfl⟩
theorem keep : KeepA A := mkA_keep (U := U) sp1_ok (fun (l : TA) y => ⟨(hh l y).drop 0, by kernel_rfl⟩)
end wear_Mean

/-! instar/wear.Share -/
namespace wear_Share
abbrev TA : Type := (((Int × (Int × (Int × (Int × (Int × (Int × (Int × (Int × (Int × (Int × (Int × (Int × Unit)))))))))))) × (Int × Unit)) × Unit)
abbrev T3 : Type := ((Unit × (Int × (Unit × (Unit × (Int × (Unit × ((Int × (Int × (Int × (Int × (Int × (Int × (Int × (Int × (Int × (Int × (Int × (Int × Unit)))))))))))) × (Int × (Unit × Unit))))))))) × ((Int × (Int × (Int × (Int × (Int × (Int × (Int × (Int × (Int × (Int × (Int × (Int × Unit)))))))))))) × Unit))
abbrev S3 : Type := (Int × Int)
noncomputable def l3 (kind k8_0 k8_1 k8_2 k8_3 k8_4 k8_5 k8_6 k8_7 k8_8 k8_9 k8_10 k8_11 h0_0 h0_1 h0_2 h0_3 h0_4 h0_5 h0_6 h0_7 h0_8 h0_9 h0_10 h0_11 all k9 : Int) : Tw (S3 ⊕ Int) :=
 (.bb (decide (k9 < (4 : Int)))
  (.dd ((k9 = (((3 : Nat) : Nat) : Int))) inferInstance
   (.ret (.inl ((w64 (all + k8_11)), (w64 (k9 + (1 : Int))))))
   (.dd ((k9 = (((2 : Nat) : Nat) : Int))) inferInstance
    (.ret (.inl ((w64 (all + k8_8)), (w64 (k9 + (1 : Int))))))
    (.dd ((k9 = (((1 : Nat) : Nat) : Int))) inferInstance
     (.ret (.inl ((w64 (all + k8_5)), (w64 (k9 + (1 : Int))))))
     (.dd ((k9 = (((0 : Nat) : Nat) : Int))) inferInstance
      (.ret (.inl ((w64 (all + k8_2)), (w64 (k9 + (1 : Int))))))
      .no))))
  (.ret (.inr all)))
noncomputable def L3 (kind all k8_0 k8_1 k8_2 k8_3 k8_4 k8_5 k8_6 k8_7 k8_8 k8_9 k8_10 k8_11 k9 h0_0 h0_1 h0_2 h0_3 h0_4 h0_5 h0_6 h0_7 h0_8 h0_9 h0_10 h0_11 : Int) : Option Int := Lp (fun s => (l3 kind k8_0 k8_1 k8_2 k8_3 k8_4 k8_5 k8_6 k8_7 k8_8 k8_9 k8_10 k8_11 h0_0 h0_1 h0_2 h0_3 h0_4 h0_5 h0_6 h0_7 h0_8 h0_9 h0_10 h0_11 s.1 s.2).run) (all, k9)
def p3 : Pt := (.cs (.bots 1) (jC (.cs (.ptr 0 0) (.cs (.bots 2) (jC (.cs (.bots 2) (.cs (.agg (jC (jC (jC (jC (jC (jC (jC (jC (jC (jC (jC (jC .nl))))))))))))) (jC (.cs (.bots 25) .nl)))))))))
def q3 : Pt := (.cs (.var (jC (jC (jC (jC (jC (jC (jC (jC (jC (jC (jC (jC .nl))))))))))))) .nl)
def ou3 (l : T3) (y : Int) : Ex × St U := (.exit 0, stOf 35 [(1, jI l.1.2.1), (2, .ptr 0 0), (5, jI y)] [.var [jI l.2.1.1, jI l.2.1.2.1, jI l.2.1.2.2.1, jI l.2.1.2.2.2.1, jI l.2.1.2.2.2.2.1, jI l.2.1.2.2.2.2.2.1, jI l.2.1.2.2.2.2.2.2.1, jI l.2.1.2.2.2.2.2.2.2.1, jI l.2.1.2.2.2.2.2.2.2.2.1, jI l.2.1.2.2.2.2.2.2.2.2.2.1, jI l.2.1.2.2.2.2.2.2.2.2.2.2.1, jI l.2.1.2.2.2.2.2.2.2.2.2.2.2.1]] 0)
noncomputable def Λ3 : LFun U := mkLp (U := U) p3 q3 0 (X := Int) (fun (l : T3) => L3 l.1.2.1 l.1.2.2.2.2.1 l.1.2.2.2.2.2.2.1.1 l.1.2.2.2.2.2.2.1.2.1 l.1.2.2.2.2.2.2.1.2.2.1 l.1.2.2.2.2.2.2.1.2.2.2.1 l.1.2.2.2.2.2.2.1.2.2.2.2.1 l.1.2.2.2.2.2.2.1.2.2.2.2.2.1 l.1.2.2.2.2.2.2.1.2.2.2.2.2.2.1 l.1.2.2.2.2.2.2.1.2.2.2.2.2.2.2.1 l.1.2.2.2.2.2.2.1.2.2.2.2.2.2.2.2.1 l.1.2.2.2.2.2.2.1.2.2.2.2.2.2.2.2.2.1 l.1.2.2.2.2.2.2.1.2.2.2.2.2.2.2.2.2.2.1 l.1.2.2.2.2.2.2.1.2.2.2.2.2.2.2.2.2.2.2.1 l.1.2.2.2.2.2.2.2.1 l.2.1.1 l.2.1.2.1 l.2.1.2.2.1 l.2.1.2.2.2.1 l.2.1.2.2.2.2.1 l.2.1.2.2.2.2.2.1 l.2.1.2.2.2.2.2.2.1 l.2.1.2.2.2.2.2.2.2.1 l.2.1.2.2.2.2.2.2.2.2.1 l.2.1.2.2.2.2.2.2.2.2.2.1 l.2.1.2.2.2.2.2.2.2.2.2.2.1 l.2.1.2.2.2.2.2.2.2.2.2.2.2.1) sp1 ou3
def hd3 (l : T3) (s : S3) : T3 := (((), (l.1.2.1, ((), ((), (s.1, ((), ((l.1.2.2.2.2.2.2.1.1, (l.1.2.2.2.2.2.2.1.2.1, (l.1.2.2.2.2.2.2.1.2.2.1, (l.1.2.2.2.2.2.2.1.2.2.2.1, (l.1.2.2.2.2.2.2.1.2.2.2.2.1, (l.1.2.2.2.2.2.2.1.2.2.2.2.2.1, (l.1.2.2.2.2.2.2.1.2.2.2.2.2.2.1, (l.1.2.2.2.2.2.2.1.2.2.2.2.2.2.2.1, (l.1.2.2.2.2.2.2.1.2.2.2.2.2.2.2.2.1, (l.1.2.2.2.2.2.2.1.2.2.2.2.2.2.2.2.2.1, (l.1.2.2.2.2.2.2.1.2.2.2.2.2.2.2.2.2.2.1, (l.1.2.2.2.2.2.2.1.2.2.2.2.2.2.2.2.2.2.2.1, ())))))))))))), (s.2, ((), ()))))))))), ((l.2.1.1, (l.2.1.2.1, (l.2.1.2.2.1, (l.2.1.2.2.2.1, (l.2.1.2.2.2.2.1, (l.2.1.2.2.2.2.2.1, (l.2.1.2.2.2.2.2.2.1, (l.2.1.2.2.2.2.2.2.2.1, (l.2.1.2.2.2.2.2.2.2.2.1, (l.2.1.2.2.2.2.2.2.2.2.2.1, (l.2.1.2.2.2.2.2.2.2.2.2.2.1, (l.2.1.2.2.2.2.2.2.2.2.2.2.2.1, ())))))))))))), ()))
noncomputable def fl3 (l : T3) (s : S3) : Tw (S3 ⊕ Int) := l3 l.1.2.1 l.1.2.2.2.2.2.2.1.1 l.1.2.2.2.2.2.2.1.2.1 l.1.2.2.2.2.2.2.1.2.2.1 l.1.2.2.2.2.2.2.1.2.2.2.1 l.1.2.2.2.2.2.2.1.2.2.2.2.1 l.1.2.2.2.2.2.2.1.2.2.2.2.2.1 l.1.2.2.2.2.2.2.1.2.2.2.2.2.2.1 l.1.2.2.2.2.2.2.1.2.2.2.2.2.2.2.1 l.1.2.2.2.2.2.2.1.2.2.2.2.2.2.2.2.1 l.1.2.2.2.2.2.2.1.2.2.2.2.2.2.2.2.2.1 l.1.2.2.2.2.2.2.1.2.2.2.2.2.2.2.2.2.2.1 l.1.2.2.2.2.2.2.1.2.2.2.2.2.2.2.2.2.2.2.1 l.2.1.1 l.2.1.2.1 l.2.1.2.2.1 l.2.1.2.2.2.1 l.2.1.2.2.2.2.1 l.2.1.2.2.2.2.2.1 l.2.1.2.2.2.2.2.2.1 l.2.1.2.2.2.2.2.2.2.1 l.2.1.2.2.2.2.2.2.2.2.1 l.2.1.2.2.2.2.2.2.2.2.2.1 l.2.1.2.2.2.2.2.2.2.2.2.2.1 l.2.1.2.2.2.2.2.2.2.2.2.2.2.1 s.1 s.2
noncomputable def t (l__0 l__1 l__2 l__3 l__4 l__5 l__6 l__7 l__8 l__9 l__10 l__11 kind : Int) : Tw Nat :=
 (.opt (L3 kind (0 : Int) l__0 l__1 l__2 l__3 l__4 l__5 l__6 l__7 l__8 l__9 l__10 l__11 (0 : Int) l__0 l__1 l__2 l__3 l__4 l__5 l__6 l__7 l__8 l__9 l__10 l__11) fun z1 =>
  (.bb (decide (z1 < (1 : Int)))
   (.ret (0 : Nat))
   (.bb (decide (kind < (0 : Int)))
    (.ret (0 : Nat))
    (.bb (decide (kind ≥ (4 : Int)))
     (.ret (0 : Nat))
     (.dd ((kind = (((3 : Nat) : Nat) : Int))) inferInstance
      (.opt (Ieee.Format.div (Go.FloatKind.format Go.FloatKind.f64) (Go.FloatKind.nearest Go.FloatKind.f64 l__11) (Go.FloatKind.nearest Go.FloatKind.f64 z1)) fun z5 =>
       (.ret z5))
      (.dd ((kind = (((2 : Nat) : Nat) : Int))) inferInstance
       (.opt (Ieee.Format.div (Go.FloatKind.format Go.FloatKind.f64) (Go.FloatKind.nearest Go.FloatKind.f64 l__8) (Go.FloatKind.nearest Go.FloatKind.f64 z1)) fun z4 =>
        (.ret z4))
       (.dd ((kind = (((1 : Nat) : Nat) : Int))) inferInstance
        (.opt (Ieee.Format.div (Go.FloatKind.format Go.FloatKind.f64) (Go.FloatKind.nearest Go.FloatKind.f64 l__5) (Go.FloatKind.nearest Go.FloatKind.f64 z1)) fun z3 =>
         (.ret z3))
        (.dd ((kind = (((0 : Nat) : Nat) : Int))) inferInstance
         (.opt (Ieee.Format.div (Go.FloatKind.format Go.FloatKind.f64) (Go.FloatKind.nearest Go.FloatKind.f64 l__2) (Go.FloatKind.nearest Go.FloatKind.f64 z1)) fun z2 =>
          (.ret z2))
         .no))))))))
noncomputable def c (l__0 l__1 l__2 l__3 l__4 l__5 l__6 l__7 l__8 l__9 l__10 l__11 kind : Int) : Option Nat := (t l__0 l__1 l__2 l__3 l__4 l__5 l__6 l__7 l__8 l__9 l__10 l__11 kind).run
noncomputable def tl (l : TA) : Tw Nat := t l.1.1.1 l.1.1.2.1 l.1.1.2.2.1 l.1.1.2.2.2.1 l.1.1.2.2.2.2.1 l.1.1.2.2.2.2.2.1 l.1.1.2.2.2.2.2.2.1 l.1.1.2.2.2.2.2.2.2.1 l.1.1.2.2.2.2.2.2.2.2.1 l.1.1.2.2.2.2.2.2.2.2.2.1 l.1.1.2.2.2.2.2.2.2.2.2.2.1 l.1.1.2.2.2.2.2.2.2.2.2.2.2.1 l.1.2.1
noncomputable def cl (l : TA) : Option Nat := c l.1.1.1 l.1.1.2.1 l.1.1.2.2.1 l.1.1.2.2.2.1 l.1.1.2.2.2.2.1 l.1.1.2.2.2.2.2.1 l.1.1.2.2.2.2.2.2.1 l.1.1.2.2.2.2.2.2.2.1 l.1.1.2.2.2.2.2.2.2.2.1 l.1.1.2.2.2.2.2.2.2.2.2.1 l.1.1.2.2.2.2.2.2.2.2.2.2.1 l.1.1.2.2.2.2.2.2.2.2.2.2.2.1 l.1.2.1
def pA : Pt := (.cs (.agg (jC (jC (jC (jC (jC (jC (jC (jC (jC (jC (jC (jC .nl))))))))))))) (jC .nl))
def pH : Pt := .nl
def v (l : TA) (y : Nat) : AV U := .im (.flt .f64 y)
def hh (l : TA) (y : Nat) : Hp U := []
noncomputable def A : AFun U := mkA (U := U) pA pH (X := Nat) cl sp1 v hh
noncomputable def body : Code := (Go.Func.body Try.f41).getD .skip
noncomputable def Γ : List (FuncId × AFun U) := []
noncomputable def Λ : List (Nat × LFun U) := [(3, Λ3)]
noncomputable def CT : List (Nat × LFun U) := []
def ro : List FuncId := []
def D : Nat → Lv × Lv := dtab [(3, ⟨[9, 5, 8, 2, 1], []⟩, ⟨[4, 5, 2, 1], []⟩)]
noncomputable def E : Env U := { E0 with Γ := Γ, Λ := Λ, C := CT, D := D, ro := ro }
theorem hf3 (R : Type) (l : T3) (s : S3) (K : Ex → St U → Option R) : codeA E (pick (loopsOf body) 3) ⟨p3.mkL (hd3 l s).1, q3.mkH (hd3 l s).2, 0⟩ (roundK E (pick (loopsOf body) 3) K) =
  (fl3 l s).runK (lpK K (fun s => ⟨p3.mkL (hd3 l s).1, q3.mkH (hd3 l s).2, 0⟩) sp1 (ou3 l)) := by kernel_rfl
theorem lk3 (R : Type) (st : St U) (K : Ex → St U → Option R) (r : R) (h : Λ3 R st K = some r) : ∃ n, loopA E (pick (loopsOf body) 3) n st K = some r :=
  lp_ok (U := U) (E := E) (b := pick (loopsOf body) 3) (m := 0) (sp := sp1) (p := p3) (q := q3) (X := Int) (S := S3) (f := fl3) (hd := hd3) (s0 := fun (l : T3) => (l.1.2.2.2.2.1, l.1.2.2.2.2.2.2.2.1)) (ou := ou3)
    (fun l => rfl) (fun l x => by rfl) sp1_ok hf3 h
theorem hk (R : Type) (l : TA) (K : AV U → Hp U → Option R) : funcA E Try.f41 [] R (pA.mkL l.1) (pH.mkH l.2) K = (tl l).runK fun y => K (v l y) (hh l y) := by kernel_rfl
theorem okF : SoundF Try.prog cc 41 (funcA E Try.f41 []) :=
  funcA_ok (E := E) P_mixed (E0_ok.with Γ Λ CT D ro) (gam_of all_nil all_nil) Try.func41 (c := body) (by kernel_rfl)
    (just_by (by kernel_rfl) (by kernel_rfl) (all_cons lk3 all_nil) all_nil) []
theorem ok : SoundF Try.prog cc 41 A :=
  mkA_ok (E := E) (p := pA) (q := pH) (t := tl) sp1_ok hk okF
theorem fo : FnOK Try.prog 41 := ⟨Try.f41, Try.func41, by kernel_rfl, by kernel_rfl⟩
theorem keep : KeepA A := mkA_keep (U := U) sp1_ok (fun (l : TA) y => ⟨(hh l y).drop 0, by kernel_rfl⟩)
end wear_Share

/-! instar/wear.fine -/
namespace wear_fine_nil0
abbrev TA : Type := ((Unit × ((Int × (Int × (Int × (Int × (Int × (Int × Unit)))))) × Unit)) × Unit)
noncomputable def t (g_0 g_1 g_2 g_3 g_4 g_5 : Int) : Tw Int :=
 (.ret (1 : Int))
noncomputable def c (g_0 g_1 g_2 g_3 g_4 g_5 : Int) : Option Int := (t g_0 g_1 g_2 g_3 g_4 g_5).run
noncomputable def tl (l : TA) : Tw Int := t l.1.2.1.1 l.1.2.1.2.1 l.1.2.1.2.2.1 l.1.2.1.2.2.2.1 l.1.2.1.2.2.2.2.1 l.1.2.1.2.2.2.2.2.1
noncomputable def cl (l : TA) : Option Int := c l.1.2.1.1 l.1.2.1.2.1 l.1.2.1.2.2.1 l.1.2.1.2.2.2.1 l.1.2.1.2.2.2.2.1 l.1.2.1.2.2.2.2.2.1
def pA : Pt := (.cs .nilp (.cs (.agg (jC (jC (jC (jC (jC (jC .nl))))))) .nl))
def pH : Pt := .nl
def v (l : TA) (y : Int) : AV U := jI y
def hh (l : TA) (y : Int) : Hp U := []
noncomputable def A : AFun U := mkA (U := U) pA pH (X := Int) cl sp1 v hh
noncomputable def body : Code := (Go.Func.body Try.f69).getD .skip
noncomputable def Γ : List (FuncId × AFun U) := []
noncomputable def Λ : List (Nat × LFun U) := []
noncomputable def CT : List (Nat × LFun U) := []
def ro : List FuncId := []
def D : Nat → Lv × Lv := dtab []
noncomputable def E : Env U := { E0 with Γ := Γ, Λ := Λ, C := CT, D := D, ro := ro }
theorem hk (R : Type) (l : TA) (K : AV U → Hp U → Option R) : funcA E Try.f69 [] R (pA.mkL l.1) (pH.mkH l.2) K = (tl l).runK fun y => K (v l y) (hh l y) := by kernel_rfl
theorem okF : SoundF Try.prog cc 69 (funcA E Try.f69 []) :=
  funcA_ok (E := E) P_mixed (E0_ok.with Γ Λ CT D ro) (gam_of all_nil all_nil) Try.func69 (c := body) (by kernel_rfl)
    (just_by (by kernel_rfl) (by kernel_rfl) all_nil all_nil) []
theorem ok : SoundF Try.prog cc 69 A :=
  mkA_ok (E := E) (p := pA) (q := pH) (t := tl) sp1_ok hk okF
theorem fo : FnOK Try.prog 69 := ⟨Try.f69, Try.func69, by kernel_rfl, by kernel_rfl⟩
theorem keep : KeepA A := mkA_keep (U := U) sp1_ok (fun (l : TA) y => ⟨(hh l y).drop 0, by kernel_rfl⟩)
end wear_fine_nil0

/-! instar/wear.Of -/
namespace wear_Of_nil0
abbrev TA : Type := ((Unit × ((Int × (Int × (Int × (Int × (Int × (Int × Unit)))))) × Unit)) × Unit)
abbrev XA : Type := (Int × (Int × (Int × (Int × (Int × (Int × (Int × (Int × (Int × (Int × (Int × (Int × Int))))))))))))
abbrev T7 : Type := ((Unit × (Unit × (Unit × (Unit × (Unit × (Unit × (Unit × (Unit × (Unit × (Int × (Int × (Unit × Unit)))))))))))) × ((Int × (Int × (Int × (Int × (Int × (Int × Unit)))))) × ((Int × (Int × (Int × (Int × (Int × (Int × (Int × (Int × (Int × (Int × (Int × (Int × Unit)))))))))))) × ((Int × (Int × (Int × (Int × (Int × (Int × (Int × (Int × (Int × (Int × (Int × (Int × Unit)))))))))))) × ((Bool × (Bool × (Bool × (Bool × Unit)))) × Unit)))))
abbrev S7 : Type := (Int × (Int × (Int × (Int × (Int × (Int × (Int × (Int × (Int × (Int × (Int × (Int × (Int × (Bool × (Bool × (Bool × Bool))))))))))))))))
abbrev X7 : Type := (Int × (Int × (Int × (Int × (Int × (Int × (Int × (Int × (Int × (Int × (Int × Int)))))))))))
noncomputable def l7 (k23 h0_0 h0_1 h0_2 h0_3 h0_4 h0_5 h1_0 h1_1 h1_2 h1_3 h1_4 h1_5 h1_6 h1_7 h1_8 h1_9 h1_10 h1_11 k24 h2_0 h2_1 h2_2 h2_3 h2_4 h2_5 h2_6 h2_7 h2_8 h2_9 h2_10 h2_11 : Int) (h3_0 h3_1 h3_2 h3_3 : Bool) : Tw (S7 ⊕ X7) :=
 (.bb (decide (k24 < k23))
  (.opt (geom_Where.c h0_0 h0_1 h0_2 h0_3 h0_4 h0_5 k24) fun z3 =>
   (.dd ((z3.1 = (((3 : Nat) : Nat) : Int))) inferInstance
    (.opt (flash_Flash_Wear_nil0.c k24) fun z7 =>
     (.dd ((z3.1 = (((3 : Nat) : Nat) : Int))) inferInstance
      (.bb (!h3_3)
       (.dd ((z3.1 = (((3 : Nat) : Nat) : Int))) inferInstance
        (.ret (.inl ((w64 (k24 + (1 : Int))), (h2_0, (h2_1, (h2_2, (h2_3, (h2_4, (h2_5, (h2_6, (h2_7, (h2_8, ((imin z7 z7), ((imax h2_10 z7), ((w64 (h2_11 + z7)), (h3_0, (h3_1, (h3_2, true))))))))))))))))))
        (.dd ((z3.1 = (((2 : Nat) : Nat) : Int))) inferInstance
         (.ret (.inl ((w64 (k24 + (1 : Int))), (h2_0, (h2_1, (h2_2, (h2_3, (h2_4, (h2_5, (h2_6, (h2_7, (h2_8, ((imin z7 z7), ((imax h2_10 z7), ((w64 (h2_11 + z7)), (h3_0, (h3_1, (true, h3_3))))))))))))))))))
         (.dd ((z3.1 = (((1 : Nat) : Nat) : Int))) inferInstance
          (.ret (.inl ((w64 (k24 + (1 : Int))), (h2_0, (h2_1, (h2_2, (h2_3, (h2_4, (h2_5, (h2_6, (h2_7, (h2_8, ((imin z7 z7), ((imax h2_10 z7), ((w64 (h2_11 + z7)), (h3_0, (true, (h3_2, h3_3))))))))))))))))))
          (.dd ((z3.1 = (((0 : Nat) : Nat) : Int))) inferInstance
           (.ret (.inl ((w64 (k24 + (1 : Int))), (h2_0, (h2_1, (h2_2, (h2_3, (h2_4, (h2_5, (h2_6, (h2_7, (h2_8, ((imin z7 z7), ((imax h2_10 z7), ((w64 (h2_11 + z7)), (true, (h3_1, (h3_2, h3_3))))))))))))))))))
           .no))))
       (.dd ((z3.1 = (((3 : Nat) : Nat) : Int))) inferInstance
        (.ret (.inl ((w64 (k24 + (1 : Int))), (h2_0, (h2_1, (h2_2, (h2_3, (h2_4, (h2_5, (h2_6, (h2_7, (h2_8, ((imin h2_9 z7), ((imax h2_10 z7), ((w64 (h2_11 + z7)), (h3_0, (h3_1, (h3_2, true))))))))))))))))))
        (.dd ((z3.1 = (((2 : Nat) : Nat) : Int))) inferInstance
         (.ret (.inl ((w64 (k24 + (1 : Int))), (h2_0, (h2_1, (h2_2, (h2_3, (h2_4, (h2_5, (h2_6, (h2_7, (h2_8, ((imin h2_9 z7), ((imax h2_10 z7), ((w64 (h2_11 + z7)), (h3_0, (h3_1, (true, h3_3))))))))))))))))))
         (.dd ((z3.1 = (((1 : Nat) : Nat) : Int))) inferInstance
          (.ret (.inl ((w64 (k24 + (1 : Int))), (h2_0, (h2_1, (h2_2, (h2_3, (h2_4, (h2_5, (h2_6, (h2_7, (h2_8, ((imin h2_9 z7), ((imax h2_10 z7), ((w64 (h2_11 + z7)), (h3_0, (true, (h3_2, h3_3))))))))))))))))))
          (.dd ((z3.1 = (((0 : Nat) : Nat) : Int))) inferInstance
           (.ret (.inl ((w64 (k24 + (1 : Int))), (h2_0, (h2_1, (h2_2, (h2_3, (h2_4, (h2_5, (h2_6, (h2_7, (h2_8, ((imin h2_9 z7), ((imax h2_10 z7), ((w64 (h2_11 + z7)), (true, (h3_1, (h3_2, h3_3))))))))))))))))))
           .no)))))
      (.dd ((z3.1 = (((2 : Nat) : Nat) : Int))) inferInstance
       (.bb (!h3_2)
        (.dd ((z3.1 = (((3 : Nat) : Nat) : Int))) inferInstance
         (.ret (.inl ((w64 (k24 + (1 : Int))), (h2_0, (h2_1, (h2_2, (h2_3, (h2_4, (h2_5, (h2_6, (h2_7, (h2_8, ((imin z7 z7), ((imax h2_10 z7), ((w64 (h2_11 + z7)), (h3_0, (h3_1, (h3_2, true))))))))))))))))))
         (.dd ((z3.1 = (((2 : Nat) : Nat) : Int))) inferInstance
          (.ret (.inl ((w64 (k24 + (1 : Int))), (h2_0, (h2_1, (h2_2, (h2_3, (h2_4, (h2_5, (h2_6, (h2_7, (h2_8, ((imin z7 z7), ((imax h2_10 z7), ((w64 (h2_11 + z7)), (h3_0, (h3_1, (true, h3_3))))))))))))))))))
          (.dd ((z3.1 = (((1 : Nat) : Nat) : Int))) inferInstance
           (.ret (.inl ((w64 (k24 + (1 : Int))), (h2_0, (h2_1, (h2_2, (h2_3, (h2_4, (h2_5, (h2_6, (h2_7, (h2_8, ((imin z7 z7), ((imax h2_10 z7), ((w64 (h2_11 + z7)), (h3_0, (true, (h3_2, h3_3))))))))))))))))))
           (.dd ((z3.1 = (((0 : Nat) : Nat) : Int))) inferInstance
            (.ret (.inl ((w64 (k24 + (1 : Int))), (h2_0, (h2_1, (h2_2, (h2_3, (h2_4, (h2_5, (h2_6, (h2_7, (h2_8, ((imin z7 z7), ((imax h2_10 z7), ((w64 (h2_11 + z7)), (true, (h3_1, (h3_2, h3_3))))))))))))))))))
            .no))))
        (.dd ((z3.1 = (((3 : Nat) : Nat) : Int))) inferInstance
         (.ret (.inl ((w64 (k24 + (1 : Int))), (h2_0, (h2_1, (h2_2, (h2_3, (h2_4, (h2_5, (h2_6, (h2_7, (h2_8, ((imin h2_9 z7), ((imax h2_10 z7), ((w64 (h2_11 + z7)), (h3_0, (h3_1, (h3_2, true))))))))))))))))))
         (.dd ((z3.1 = (((2 : Nat) : Nat) : Int))) inferInstance
          (.ret (.inl ((w64 (k24 + (1 : Int))), (h2_0, (h2_1, (h2_2, (h2_3, (h2_4, (h2_5, (h2_6, (h2_7, (h2_8, ((imin h2_9 z7), ((imax h2_10 z7), ((w64 (h2_11 + z7)), (h3_0, (h3_1, (true, h3_3))))))))))))))))))
          (.dd ((z3.1 = (((1 : Nat) : Nat) : Int))) inferInstance
           (.ret (.inl ((w64 (k24 + (1 : Int))), (h2_0, (h2_1, (h2_2, (h2_3, (h2_4, (h2_5, (h2_6, (h2_7, (h2_8, ((imin h2_9 z7), ((imax h2_10 z7), ((w64 (h2_11 + z7)), (h3_0, (true, (h3_2, h3_3))))))))))))))))))
           (.dd ((z3.1 = (((0 : Nat) : Nat) : Int))) inferInstance
            (.ret (.inl ((w64 (k24 + (1 : Int))), (h2_0, (h2_1, (h2_2, (h2_3, (h2_4, (h2_5, (h2_6, (h2_7, (h2_8, ((imin h2_9 z7), ((imax h2_10 z7), ((w64 (h2_11 + z7)), (true, (h3_1, (h3_2, h3_3))))))))))))))))))
            .no)))))
       (.dd ((z3.1 = (((1 : Nat) : Nat) : Int))) inferInstance
        (.bb (!h3_1)
         (.dd ((z3.1 = (((3 : Nat) : Nat) : Int))) inferInstance
          (.ret (.inl ((w64 (k24 + (1 : Int))), (h2_0, (h2_1, (h2_2, (h2_3, (h2_4, (h2_5, (h2_6, (h2_7, (h2_8, ((imin z7 z7), ((imax h2_10 z7), ((w64 (h2_11 + z7)), (h3_0, (h3_1, (h3_2, true))))))))))))))))))
          (.dd ((z3.1 = (((2 : Nat) : Nat) : Int))) inferInstance
           (.ret (.inl ((w64 (k24 + (1 : Int))), (h2_0, (h2_1, (h2_2, (h2_3, (h2_4, (h2_5, (h2_6, (h2_7, (h2_8, ((imin z7 z7), ((imax h2_10 z7), ((w64 (h2_11 + z7)), (h3_0, (h3_1, (true, h3_3))))))))))))))))))
           (.dd ((z3.1 = (((1 : Nat) : Nat) : Int))) inferInstance
            (.ret (.inl ((w64 (k24 + (1 : Int))), (h2_0, (h2_1, (h2_2, (h2_3, (h2_4, (h2_5, (h2_6, (h2_7, (h2_8, ((imin z7 z7), ((imax h2_10 z7), ((w64 (h2_11 + z7)), (h3_0, (true, (h3_2, h3_3))))))))))))))))))
            (.dd ((z3.1 = (((0 : Nat) : Nat) : Int))) inferInstance
             (.ret (.inl ((w64 (k24 + (1 : Int))), (h2_0, (h2_1, (h2_2, (h2_3, (h2_4, (h2_5, (h2_6, (h2_7, (h2_8, ((imin z7 z7), ((imax h2_10 z7), ((w64 (h2_11 + z7)), (true, (h3_1, (h3_2, h3_3))))))))))))))))))
             .no))))
         (.dd ((z3.1 = (((3 : Nat) : Nat) : Int))) inferInstance
          (.ret (.inl ((w64 (k24 + (1 : Int))), (h2_0, (h2_1, (h2_2, (h2_3, (h2_4, (h2_5, (h2_6, (h2_7, (h2_8, ((imin h2_9 z7), ((imax h2_10 z7), ((w64 (h2_11 + z7)), (h3_0, (h3_1, (h3_2, true))))))))))))))))))
          (.dd ((z3.1 = (((2 : Nat) : Nat) : Int))) inferInstance
           (.ret (.inl ((w64 (k24 + (1 : Int))), (h2_0, (h2_1, (h2_2, (h2_3, (h2_4, (h2_5, (h2_6, (h2_7, (h2_8, ((imin h2_9 z7), ((imax h2_10 z7), ((w64 (h2_11 + z7)), (h3_0, (h3_1, (true, h3_3))))))))))))))))))
           (.dd ((z3.1 = (((1 : Nat) : Nat) : Int))) inferInstance
            (.ret (.inl ((w64 (k24 + (1 : Int))), (h2_0, (h2_1, (h2_2, (h2_3, (h2_4, (h2_5, (h2_6, (h2_7, (h2_8, ((imin h2_9 z7), ((imax h2_10 z7), ((w64 (h2_11 + z7)), (h3_0, (true, (h3_2, h3_3))))))))))))))))))
            (.dd ((z3.1 = (((0 : Nat) : Nat) : Int))) inferInstance
             (.ret (.inl ((w64 (k24 + (1 : Int))), (h2_0, (h2_1, (h2_2, (h2_3, (h2_4, (h2_5, (h2_6, (h2_7, (h2_8, ((imin h2_9 z7), ((imax h2_10 z7), ((w64 (h2_11 + z7)), (true, (h3_1, (h3_2, h3_3))))))))))))))))))
             .no)))))
        (.dd ((z3.1 = (((0 : Nat) : Nat) : Int))) inferInstance
         (.bb (!h3_0)
          (.dd ((z3.1 = (((3 : Nat) : Nat) : Int))) inferInstance
           (.ret (.inl ((w64 (k24 + (1 : Int))), (h2_0, (h2_1, (h2_2, (h2_3, (h2_4, (h2_5, (h2_6, (h2_7, (h2_8, ((imin z7 z7), ((imax h2_10 z7), ((w64 (h2_11 + z7)), (h3_0, (h3_1, (h3_2, true))))))))))))))))))
           (.dd ((z3.1 = (((2 : Nat) : Nat) : Int))) inferInstance
            (.ret (.inl ((w64 (k24 + (1 : Int))), (h2_0, (h2_1, (h2_2, (h2_3, (h2_4, (h2_5, (h2_6, (h2_7, (h2_8, ((imin z7 z7), ((imax h2_10 z7), ((w64 (h2_11 + z7)), (h3_0, (h3_1, (true, h3_3))))))))))))))))))
            (.dd ((z3.1 = (((1 : Nat) : Nat) : Int))) inferInstance
             (.ret (.inl ((w64 (k24 + (1 : Int))), (h2_0, (h2_1, (h2_2, (h2_3, (h2_4, (h2_5, (h2_6, (h2_7, (h2_8, ((imin z7 z7), ((imax h2_10 z7), ((w64 (h2_11 + z7)), (h3_0, (true, (h3_2, h3_3))))))))))))))))))
             (.dd ((z3.1 = (((0 : Nat) : Nat) : Int))) inferInstance
              (.ret (.inl ((w64 (k24 + (1 : Int))), (h2_0, (h2_1, (h2_2, (h2_3, (h2_4, (h2_5, (h2_6, (h2_7, (h2_8, ((imin z7 z7), ((imax h2_10 z7), ((w64 (h2_11 + z7)), (true, (h3_1, (h3_2, h3_3))))))))))))))))))
              .no))))
          (.dd ((z3.1 = (((3 : Nat) : Nat) : Int))) inferInstance
           (.ret (.inl ((w64 (k24 + (1 : Int))), (h2_0, (h2_1, (h2_2, (h2_3, (h2_4, (h2_5, (h2_6, (h2_7, (h2_8, ((imin h2_9 z7), ((imax h2_10 z7), ((w64 (h2_11 + z7)), (h3_0, (h3_1, (h3_2, true))))))))))))))))))
           (.dd ((z3.1 = (((2 : Nat) : Nat) : Int))) inferInstance
            (.ret (.inl ((w64 (k24 + (1 : Int))), (h2_0, (h2_1, (h2_2, (h2_3, (h2_4, (h2_5, (h2_6, (h2_7, (h2_8, ((imin h2_9 z7), ((imax h2_10 z7), ((w64 (h2_11 + z7)), (h3_0, (h3_1, (true, h3_3))))))))))))))))))
            (.dd ((z3.1 = (((1 : Nat) : Nat) : Int))) inferInstance
             (.ret (.inl ((w64 (k24 + (1 : Int))), (h2_0, (h2_1, (h2_2, (h2_3, (h2_4, (h2_5, (h2_6, (h2_7, (h2_8, ((imin h2_9 z7), ((imax h2_10 z7), ((w64 (h2_11 + z7)), (h3_0, (true, (h3_2, h3_3))))))))))))))))))
             (.dd ((z3.1 = (((0 : Nat) : Nat) : Int))) inferInstance
              (.ret (.inl ((w64 (k24 + (1 : Int))), (h2_0, (h2_1, (h2_2, (h2_3, (h2_4, (h2_5, (h2_6, (h2_7, (h2_8, ((imin h2_9 z7), ((imax h2_10 z7), ((w64 (h2_11 + z7)), (true, (h3_1, (h3_2, h3_3))))))))))))))))))
              .no)))))
         .no)))))
    (.dd ((z3.1 = (((2 : Nat) : Nat) : Int))) inferInstance
     (.opt (flash_Flash_Wear_nil0.c k24) fun z6 =>
      (.dd ((z3.1 = (((3 : Nat) : Nat) : Int))) inferInstance
       (.bb (!h3_3)
        (.dd ((z3.1 = (((3 : Nat) : Nat) : Int))) inferInstance
         (.ret (.inl ((w64 (k24 + (1 : Int))), (h2_0, (h2_1, (h2_2, (h2_3, (h2_4, (h2_5, ((imin z6 z6), ((imax h2_7 z6), ((w64 (h2_8 + z6)), (h2_9, (h2_10, (h2_11, (h3_0, (h3_1, (h3_2, true))))))))))))))))))
         (.dd ((z3.1 = (((2 : Nat) : Nat) : Int))) inferInstance
          (.ret (.inl ((w64 (k24 + (1 : Int))), (h2_0, (h2_1, (h2_2, (h2_3, (h2_4, (h2_5, ((imin z6 z6), ((imax h2_7 z6), ((w64 (h2_8 + z6)), (h2_9, (h2_10, (h2_11, (h3_0, (h3_1, (true, h3_3))))))))))))))))))
          (.dd ((z3.1 = (((1 : Nat) : Nat) : Int))) inferInstance
           (.ret (.inl ((w64 (k24 + (1 : Int))), (h2_0, (h2_1, (h2_2, (h2_3, (h2_4, (h2_5, ((imin z6 z6), ((imax h2_7 z6), ((w64 (h2_8 + z6)), (h2_9, (h2_10, (h2_11, (h3_0, (true, (h3_2, h3_3))))))))))))))))))
           (.dd ((z3.1 = (((0 : Nat) : Nat) : Int))) inferInstance
            (.ret (.inl ((w64 (k24 + (1 : Int))), (h2_0, (h2_1, (h2_2, (h2_3, (h2_4, (h2_5, ((imin z6 z6), ((imax h2_7 z6), ((w64 (h2_8 + z6)), (h2_9, (h2_10, (h2_11, (true, (h3_1, (h3_2, h3_3))))))))))))))))))
            .no))))
        (.dd ((z3.1 = (((3 : Nat) : Nat) : Int))) inferInstance
         (.ret (.inl ((w64 (k24 + (1 : Int))), (h2_0, (h2_1, (h2_2, (h2_3, (h2_4, (h2_5, ((imin h2_6 z6), ((imax h2_7 z6), ((w64 (h2_8 + z6)), (h2_9, (h2_10, (h2_11, (h3_0, (h3_1, (h3_2, true))))))))))))))))))
         (.dd ((z3.1 = (((2 : Nat) : Nat) : Int))) inferInstance
          (.ret (.inl ((w64 (k24 + (1 : Int))), (h2_0, (h2_1, (h2_2, (h2_3, (h2_4, (h2_5, ((imin h2_6 z6), ((imax h2_7 z6), ((w64 (h2_8 + z6)), (h2_9, (h2_10, (h2_11, (h3_0, (h3_1, (true, h3_3))))))))))))))))))
          (.dd ((z3.1 = (((1 : Nat) : Nat) : Int))) inferInstance
           (.ret (.inl ((w64 (k24 + (1 : Int))), (h2_0, (h2_1, (h2_2, (h2_3, (h2_4, (h2_5, ((imin h2_6 z6), ((imax h2_7 z6), ((w64 (h2_8 + z6)), (h2_9, (h2_10, (h2_11, (h3_0, (true, (h3_2, h3_3))))))))))))))))))
           (.dd ((z3.1 = (((0 : Nat) : Nat) : Int))) inferInstance
            (.ret (.inl ((w64 (k24 + (1 : Int))), (h2_0, (h2_1, (h2_2, (h2_3, (h2_4, (h2_5, ((imin h2_6 z6), ((imax h2_7 z6), ((w64 (h2_8 + z6)), (h2_9, (h2_10, (h2_11, (true, (h3_1, (h3_2, h3_3))))))))))))))))))
            .no)))))
       (.dd ((z3.1 = (((2 : Nat) : Nat) : Int))) inferInstance
        (.bb (!h3_2)
         (.dd ((z3.1 = (((3 : Nat) : Nat) : Int))) inferInstance
          (.ret (.inl ((w64 (k24 + (1 : Int))), (h2_0, (h2_1, (h2_2, (h2_3, (h2_4, (h2_5, ((imin z6 z6), ((imax h2_7 z6), ((w64 (h2_8 + z6)), (h2_9, (h2_10, (h2_11, (h3_0, (h3_1, (h3_2, true))))))))))))))))))
          (.dd ((z3.1 = (((2 : Nat) : Nat) : Int))) inferInstance
           (.ret (.inl ((w64 (k24 + (1 : Int))), (h2_0, (h2_1, (h2_2, (h2_3, (h2_4, (h2_5, ((imin z6 z6), ((imax h2_7 z6), ((w64 (h2_8 + z6)), (h2_9, (h2_10, (h2_11, (h3_0, (h3_1, (true, h3_3))))))))))))))))))
           (.dd ((z3.1 = (((1 : Nat) : Nat) : Int))) inferInstance
            (.ret (.inl ((w64 (k24 + (1 : Int))), (h2_0, (h2_1, (h2_2, (h2_3, (h2_4, (h2_5, ((imin z6 z6), ((imax h2_7 z6), ((w64 (h2_8 + z6)), (h2_9, (h2_10, (h2_11, (h3_0, (true, (h3_2, h3_3))))))))))))))))))
            (.dd ((z3.1 = (((0 : Nat) : Nat) : Int))) inferInstance
             (.ret (.inl ((w64 (k24 + (1 : Int))), (h2_0, (h2_1, (h2_2, (h2_3, (h2_4, (h2_5, ((imin z6 z6), ((imax h2_7 z6), ((w64 (h2_8 + z6)), (h2_9, (h2_10, (h2_11, (true, (h3_1, (h3_2, h3_3))))))))))))))))))
             .no))))
         (.dd ((z3.1 = (((3 : Nat) : Nat) : Int))) inferInstance
          (.ret (.inl ((w64 (k24 + (1 : Int))), (h2_0, (h2_1, (h2_2, (h2_3, (h2_4, (h2_5, ((imin h2_6 z6), ((imax h2_7 z6), ((w64 (h2_8 + z6)), (h2_9, (h2_10, (h2_11, (h3_0, (h3_1, (h3_2, true))))))))))))))))))
          (.dd ((z3.1 = (((2 : Nat) : Nat) : Int))) inferInstance
           (.ret (.inl ((w64 (k24 + (1 : Int))), (h2_0, (h2_1, (h2_2, (h2_3, (h2_4, (h2_5, ((imin h2_6 z6), ((imax h2_7 z6), ((w64 (h2_8 + z6)), (h2_9, (h2_10, (h2_11, (h3_0, (h3_1, (true, h3_3))))))))))))))))))
           (.dd ((z3.1 = (((1 : Nat) : Nat) : Int))) inferInstance
            (.ret (.inl ((w64 (k24 + (1 : Int))), (h2_0, (h2_1, (h2_2, (h2_3, (h2_4, (h2_5, ((imin h2_6 z6), ((imax h2_7 z6), ((w64 (h2_8 + z6)), (h2_9, (h2_10, (h2_11, (h3_0, (true, (h3_2, h3_3))))))))))))))))))
            (.dd ((z3.1 = (((0 : Nat) : Nat) : Int))) inferInstance
             (.ret (.inl ((w64 (k24 + (1 : Int))), (h2_0, (h2_1, (h2_2, (h2_3, (h2_4, (h2_5, ((imin h2_6 z6), ((imax h2_7 z6), ((w64 (h2_8 + z6)), (h2_9, (h2_10, (h2_11, (true, (h3_1, (h3_2, h3_3))))))))))))))))))
             .no)))))
        (.dd ((z3.1 = (((1 : Nat) : Nat) : Int))) inferInstance
         (.bb (!h3_1)
          (.dd ((z3.1 = (((3 : Nat) : Nat) : Int))) inferInstance
           (.ret (.inl ((w64 (k24 + (1 : Int))), (h2_0, (h2_1, (h2_2, (h2_3, (h2_4, (h2_5, ((imin z6 z6), ((imax h2_7 z6), ((w64 (h2_8 + z6)), (h2_9, (h2_10, (h2_11, (h3_0, (h3_1, (h3_2, true))))))))))))))))))
           (.dd ((z3.1 = (((2 : Nat) : Nat) : Int))) inferInstance
            (.ret (.inl ((w64 (k24 + (1 : Int))), (h2_0, (h2_1, (h2_2, (h2_3, (h2_4, (h2_5, ((imin z6 z6), ((imax h2_7 z6), ((w64 (h2_8 + z6)), (h2_9, (h2_10, (h2_11, (h3_0, (h3_1, (true, h3_3))))))))))))))))))
            (.dd ((z3.1 = (((1 : Nat) : Nat) : Int))) inferInstance
             (.ret (.inl ((w64 (k24 + (1 : Int))), (h2_0, (h2_1, (h2_2, (h2_3, (h2_4, (h2_5, ((imin z6 z6), ((imax h2_7 z6), ((w64 (h2_8 + z6)), (h2_9, (h2_10, (h2_11, (h3_0, (true, (h3_2, h3_3))))))))))))))))))
             (.dd ((z3.1 = (((0 : Nat) : Nat) : Int))) inferInstance
              (.ret (.inl ((w64 (k24 + (1 : Int))), (h2_0, (h2_1, (h2_2, (h2_3, (h2_4, (h2_5, ((imin z6 z6), ((imax h2_7 z6), ((w64 (h2_8 + z6)), (h2_9, (h2_10, (h2_11, (true, (h3_1, (h3_2, h3_3))))))))))))))))))
              .no))))
          (.dd ((z3.1 = (((3 : Nat) : Nat) : Int))) inferInstance
           (.ret (.inl ((w64 (k24 + (1 : Int))), (h2_0, (h2_1, (h2_2, (h2_3, (h2_4, (h2_5, ((imin h2_6 z6), ((imax h2_7 z6), ((w64 (h2_8 + z6)), (h2_9, (h2_10, (h2_11, (h3_0, (h3_1, (h3_2, true))))))))))))))))))
           (.dd ((z3.1 = (((2 : Nat) : Nat) : Int))) inferInstance
            (.ret (.inl ((w64 (k24 + (1 : Int))), (h2_0, (h2_1, (h2_2, (h2_3, (h2_4, (h2_5, ((imin h2_6 z6), ((imax h2_7 z6), ((w64 (h2_8 + z6)), (h2_9, (h2_10, (h2_11, (h3_0, (h3_1, (true, h3_3))))))))))))))))))
            (.dd ((z3.1 = (((1 : Nat) : Nat) : Int))) inferInstance
             (.ret (.inl ((w64 (k24 + (1 : Int))), (h2_0, (h2_1, (h2_2, (h2_3, (h2_4, (h2_5, ((imin h2_6 z6), ((imax h2_7 z6), ((w64 (h2_8 + z6)), (h2_9, (h2_10, (h2_11, (h3_0, (true, (h3_2, h3_3))))))))))))))))))
             (.dd ((z3.1 = (((0 : Nat) : Nat) : Int))) inferInstance
              (.ret (.inl ((w64 (k24 + (1 : Int))), (h2_0, (h2_1, (h2_2, (h2_3, (h2_4, (h2_5, ((imin h2_6 z6), ((imax h2_7 z6), ((w64 (h2_8 + z6)), (h2_9, (h2_10, (h2_11, (true, (h3_1, (h3_2, h3_3))))))))))))))))))
              .no)))))
         (.dd ((z3.1 = (((0 : Nat) : Nat) : Int))) inferInstance
          (.bb (!h3_0)
           (.dd ((z3.1 = (((3 : Nat) : Nat) : Int))) inferInstance
            (.ret (.inl ((w64 (k24 + (1 : Int))), (h2_0, (h2_1, (h2_2, (h2_3, (h2_4, (h2_5, ((imin z6 z6), ((imax h2_7 z6), ((w64 (h2_8 + z6)), (h2_9, (h2_10, (h2_11, (h3_0, (h3_1, (h3_2, true))))))))))))))))))
            (.dd ((z3.1 = (((2 : Nat) : Nat) : Int))) inferInstance
             (.ret (.inl ((w64 (k24 + (1 : Int))), (h2_0, (h2_1, (h2_2, (h2_3, (h2_4, (h2_5, ((imin z6 z6), ((imax h2_7 z6), ((w64 (h2_8 + z6)), (h2_9, (h2_10, (h2_11, (h3_0, (h3_1, (true, h3_3))))))))))))))))))
             (.dd ((z3.1 = (((1 : Nat) : Nat) : Int))) inferInstance
              (.ret (.inl ((w64 (k24 + (1 : Int))), (h2_0, (h2_1, (h2_2, (h2_3, (h2_4, (h2_5, ((imin z6 z6), ((imax h2_7 z6), ((w64 (h2_8 + z6)), (h2_9, (h2_10, (h2_11, (h3_0, (true, (h3_2, h3_3))))))))))))))))))
              (.dd ((z3.1 = (((0 : Nat) : Nat) : Int))) inferInstance
               (.ret (.inl ((w64 (k24 + (1 : Int))), (h2_0, (h2_1, (h2_2, (h2_3, (h2_4, (h2_5, ((imin z6 z6), ((imax h2_7 z6), ((w64 (h2_8 + z6)), (h2_9, (h2_10, (h2_11, (true, (h3_1, (h3_2, h3_3))))))))))))))))))
               .no))))
           (.dd ((z3.1 = (((3 : Nat) : Nat) : Int))) inferInstance
            (.ret (.inl ((w64 (k24 + (1 : Int))), (h2_0, (h2_1, (h2_2, (h2_3, (h2_4, (h2_5, ((imin h2_6 z6), ((imax h2_7 z6), ((w64 (h2_8 + z6)), (h2_9, (h2_10, (h2_11, (h3_0, (h3_1, (h3_2, true))))))))))))))))))
            (.dd ((z3.1 = (((2 : Nat) : Nat) : Int))) inferInstance
             (.ret (.inl ((w64 (k24 + (1 : Int))), (h2_0, (h2_1, (h2_2, (h2_3, (h2_4, (h2_5, ((imin h2_6 z6), ((imax h2_7 z6), ((w64 (h2_8 + z6)), (h2_9, (h2_10, (h2_11, (h3_0, (h3_1, (true, h3_3))))))))))))))))))
             (.dd ((z3.1 = (((1 : Nat) : Nat) : Int))) inferInstance
              (.ret (.inl ((w64 (k24 + (1 : Int))), (h2_0, (h2_1, (h2_2, (h2_3, (h2_4, (h2_5, ((imin h2_6 z6), ((imax h2_7 z6), ((w64 (h2_8 + z6)), (h2_9, (h2_10, (h2_11, (h3_0, (true, (h3_2, h3_3))))))))))))))))))
              (.dd ((z3.1 = (((0 : Nat) : Nat) : Int))) inferInstance
               (.ret (.inl ((w64 (k24 + (1 : Int))), (h2_0, (h2_1, (h2_2, (h2_3, (h2_4, (h2_5, ((imin h2_6 z6), ((imax h2_7 z6), ((w64 (h2_8 + z6)), (h2_9, (h2_10, (h2_11, (true, (h3_1, (h3_2, h3_3))))))))))))))))))
               .no)))))
          .no)))))
     (.dd ((z3.1 = (((1 : Nat) : Nat) : Int))) inferInstance
      (.opt (flash_Flash_Wear_nil0.c k24) fun z5 =>
       (.dd ((z3.1 = (((3 : Nat) : Nat) : Int))) inferInstance
        (.bb (!h3_3)
         (.dd ((z3.1 = (((3 : Nat) : Nat) : Int))) inferInstance
          (.ret (.inl ((w64 (k24 + (1 : Int))), (h2_0, (h2_1, (h2_2, ((imin z5 z5), ((imax h2_4 z5), ((w64 (h2_5 + z5)), (h2_6, (h2_7, (h2_8, (h2_9, (h2_10, (h2_11, (h3_0, (h3_1, (h3_2, true))))))))))))))))))
          (.dd ((z3.1 = (((2 : Nat) : Nat) : Int))) inferInstance
           (.ret (.inl ((w64 (k24 + (1 : Int))), (h2_0, (h2_1, (h2_2, ((imin z5 z5), ((imax h2_4 z5), ((w64 (h2_5 + z5)), (h2_6, (h2_7, (h2_8, (h2_9, (h2_10, (h2_11, (h3_0, (h3_1, (true, h3_3))))))))))))))))))
           (.dd ((z3.1 = (((1 : Nat) : Nat) : Int))) inferInstance
            (.ret (.inl ((w64 (k24 + (1 : Int))), (h2_0, (h2_1, (h2_2, ((imin z5 z5), ((imax h2_4 z5), ((w64 (h2_5 + z5)), (h2_6, (h2_7, (h2_8, (h2_9, (h2_10, (h2_11, (h3_0, (true, (h3_2, h3_3))))))))))))))))))
            (.dd ((z3.1 = (((0 : Nat) : Nat) : Int))) inferInstance
             (.ret (.inl ((w64 (k24 + (1 : Int))), (h2_0, (h2_1, (h2_2, ((imin z5 z5), ((imax h2_4 z5), ((w64 (h2_5 + z5)), (h2_6, (h2_7, (h2_8, (h2_9, (h2_10, (h2_11, (true, (h3_1, (h3_2, h3_3))))))))))))))))))
             .no))))
         (.dd ((z3.1 = (((3 : Nat) : Nat) : Int))) inferInstance
          (.ret (.inl ((w64 (k24 + (1 : Int))), (h2_0, (h2_1, (h2_2, ((imin h2_3 z5), ((imax h2_4 z5), ((w64 (h2_5 + z5)), (h2_6, (h2_7, (h2_8, (h2_9, (h2_10, (h2_11, (h3_0, (h3_1, (h3_2, true))))))))))))))))))
          (.dd ((z3.1 = (((2 : Nat) : Nat) : Int))) inferInstance
           (.ret (.inl ((w64 (k24 + (1 : Int))), (h2_0, (h2_1, (h2_2, ((imin h2_3 z5), ((imax h2_4 z5), ((w64 (h2_5 + z5)), (h2_6, (h2_7, (h2_8, (h2_9, (h2_10, (h2_11, (h3_0, (h3_1, (true, h3_3))))))))))))))))))
           (.dd ((z3.1 = (((1 : Nat) : Nat) : Int))) inferInstance
            (.ret (.inl ((w64 (k24 + (1 : Int))), (h2_0, (h2_1, (h2_2, ((imin h2_3 z5), ((imax h2_4 z5), ((w64 (h2_5 + z5)), (h2_6, (h2_7, (h2_8, (h2_9, (h2_10, (h2_11, (h3_0, (true, (h3_2, h3_3))))))))))))))))))
            (.dd ((z3.1 = (((0 : Nat) : Nat) : Int))) inferInstance
             (.ret (.inl ((w64 (k24 + (1 : Int))), (h2_0, (h2_1, (h2_2, ((imin h2_3 z5), ((imax h2_4 z5), ((w64 (h2_5 + z5)), (h2_6, (h2_7, (h2_8, (h2_9, (h2_10, (h2_11, (true, (h3_1, (h3_2, h3_3))))))))))))))))))
             .no)))))
        (.dd ((z3.1 = (((2 : Nat) : Nat) : Int))) inferInstance
         (.bb (!h3_2)
          (.dd ((z3.1 = (((3 : Nat) : Nat) : Int))) inferInstance
           (.ret (.inl ((w64 (k24 + (1 : Int))), (h2_0, (h2_1, (h2_2, ((imin z5 z5), ((imax h2_4 z5), ((w64 (h2_5 + z5)), (h2_6, (h2_7, (h2_8, (h2_9, (h2_10, (h2_11, (h3_0, (h3_1, (h3_2, true))))))))))))))))))
           (.dd ((z3.1 = (((2 : Nat) : Nat) : Int))) inferInstance
            (.ret (.inl ((w64 (k24 + (1 : Int))), (h2_0, (h2_1, (h2_2, ((imin z5 z5), ((imax h2_4 z5), ((w64 (h2_5 + z5)), (h2_6, (h2_7, (h2_8, (h2_9, (h2_10, (h2_11, (h3_0, (h3_1, (true, h3_3))))))))))))))))))
            (.dd ((z3.1 = (((1 : Nat) : Nat) : Int))) inferInstance
             (.ret (.inl ((w64 (k24 + (1 : Int))), (h2_0, (h2_1, (h2_2, ((imin z5 z5), ((imax h2_4 z5), ((w64 (h2_5 + z5)), (h2_6, (h2_7, (h2_8, (h2_9, (h2_10, (h2_11, (h3_0, (true, (h3_2, h3_3))))))))))))))))))
             (.dd ((z3.1 = (((0 : Nat) : Nat) : Int))) inferInstance
              (.ret (.inl ((w64 (k24 + (1 : Int))), (h2_0, (h2_1, (h2_2, ((imin z5 z5), ((imax h2_4 z5), ((w64 (h2_5 + z5)), (h2_6, (h2_7, (h2_8, (h2_9, (h2_10, (h2_11, (true, (h3_1, (h3_2, h3_3))))))))))))))))))
              .no))))
          (.dd ((z3.1 = (((3 : Nat) : Nat) : Int))) inferInstance
           (.ret (.inl ((w64 (k24 + (1 : Int))), (h2_0, (h2_1, (h2_2, ((imin h2_3 z5), ((imax h2_4 z5), ((w64 (h2_5 + z5)), (h2_6, (h2_7, (h2_8, (h2_9, (h2_10, (h2_11, (h3_0, (h3_1, (h3_2, true))))))))))))))))))
           (.dd ((z3.1 = (((2 : Nat) : Nat) : Int))) inferInstance
            (.ret (.inl ((w64 (k24 + (1 : Int))), (h2_0, (h2_1, (h2_2, ((imin h2_3 z5), ((imax h2_4 z5), ((w64 (h2_5 + z5)), (h2_6, (h2_7, (h2_8, (h2_9, (h2_10, (h2_11, (h3_0, (h3_1, (true, h3_3))))))))))))))))))
            (.dd ((z3.1 = (((1 : Nat) : Nat) : Int))) inferInstance
             (.ret (.inl ((w64 (k24 + (1 : Int))), (h2_0, (h2_1, (h2_2, ((imin h2_3 z5), ((imax h2_4 z5), ((w64 (h2_5 + z5)), (h2_6, (h2_7, (h2_8, (h2_9, (h2_10, (h2_11, (h3_0, (true, (h3_2, h3_3))))))))))))))))))
             (.dd ((z3.1 = (((0 : Nat) : Nat) : Int))) inferInstance
              (.ret (.inl ((w64 (k24 + (1 : Int))), (h2_0, (h2_1, (h2_2, ((imin h2_3 z5), ((imax h2_4 z5), ((w64 (h2_5 + z5)), (h2_6, (h2_7, (h2_8, (h2_9, (h2_10, (h2_11, (true, (h3_1, (h3_2, h3_3))))))))))))))))))
              .no)))))
         (.dd ((z3.1 = (((1 : Nat) : Nat) : Int))) inferInstance
          (.bb (!h3_1)
           (.dd ((z3.1 = (((3 : Nat) : Nat) : Int))) inferInstance
            (.ret (.inl ((w64 (k24 + (1 : Int))), (h2_0, (h2_1, (h2_2, ((imin z5 z5), ((imax h2_4 z5), ((w64 (h2_5 + z5)), (h2_6, (h2_7, (h2_8, (h2_9, (h2_10, (h2_11, (h3_0, (h3_1, (h3_2, true))))))))))))))))))
            (.dd ((z3.1 = (((2 : Nat) : Nat) : Int))) inferInstance
             (.ret (.inl ((w64 (k24 + (1 : Int))), (h2_0, (h2_1, (h2_2, ((imin z5 z5), ((imax h2_4 z5), ((w64 (h2_5 + z5)), (h2_6, (h2_7, (h2_8, (h2_9, (h2_10, (h2_11, (h3_0, (h3_1, (true, h3_3))))))))))))))))))
             (.dd ((z3.1 = (((1 : Nat) : Nat) : Int))) inferInstance
              (.ret (.inl ((w64 (k24 + (1 : Int))), (h2_0, (h2_1, (h2_2, ((imin z5 z5), ((imax h2_4 z5), ((w64 (h2_5 + z5)), (h2_6, (h2_7, (h2_8, (h2_9, (h2_10, (h2_11, (h3_0, (true, (h3_2, h3_3))))))))))))))))))
              (.dd ((z3.1 = (((0 : Nat) : Nat) : Int))) inferInstance
               (.ret (.inl ((w64 (k24 + (1 : Int))), (h2_0, (h2_1, (h2_2, ((imin z5 z5), ((imax h2_4 z5), ((w64 (h2_5 + z5)), (h2_6, (h2_7, (h2_8, (h2_9, (h2_10, (h2_11, (true, (h3_1, (h3_2, h3_3))))))))))))))))))
               .no))))
           (.dd ((z3.1 = (((3 : Nat) : Nat) : Int))) inferInstance
            (.ret (.inl ((w64 (k24 + (1 : Int))), (h2_0, (h2_1, (h2_2, ((imin h2_3 z5), ((imax h2_4 z5), ((w64 (h2_5 + z5)), (h2_6, (h2_7, (h2_8, (h2_9, (h2_10, (h2_11, (h3_0, (h3_1, (h3_2, true))))))))))))))))))
            (.dd ((z3.1 = (((2 : Nat) : Nat) : Int))) inferInstance
             (.ret (.inl ((w64 (k24 + (1 : Int))), (h2_0, (h2_1, (h2_2, ((imin h2_3 z5), ((imax h2_4 z5), ((w64 (h2_5 + z5)), (h2_6, (h2_7, (h2_8, (h2_9, (h2_10, (h2_11, (h3_0, (h3_1, (true, h3_3))))))))))))))))))
             (.dd ((z3.1 = (((1 : Nat) : Nat) : Int))) inferInstance
              (.ret (.inl ((w64 (k24 + (1 : Int))), (h2_0, (h2_1, (h2_2, ((imin h2_3 z5), ((imax h2_4 z5), ((w64 (h2_5 + z5)), (h2_6, (h2_7, (h2_8, (h2_9, (h2_10, (h2_11, (h3_0, (true, (h3_2, h3_3))))))))))))))))))
              (.dd ((z3.1 = (((0 : Nat) : Nat) : Int))) inferInstance
               (.ret (.inl ((w64 (k24 + (1 : Int))), (h2_0, (h2_1, (h2_2, ((imin h2_3 z5), ((imax h2_4 z5), ((w64 (h2_5 + z5)), (h2_6, (h2_7, (h2_8, (h2_9, (h2_10, (h2_11, (true, (h3_1, (h3_2, h3_3))))))))))))))))))
               .no)))))
          (.dd ((z3.1 = (((0 : Nat) : Nat) : Int))) inferInstance
           (.bb (!h3_0)
            (.dd ((z3.1 = (((3 : Nat) : Nat) : Int))) inferInstance
             (.ret (.inl ((w64 (k24 + (1 : Int))), (h2_0, (h2_1, (h2_2, ((imin z5 z5), ((imax h2_4 z5), ((w64 (h2_5 + z5)), (h2_6, (h2_7, (h2_8, (h2_9, (h2_10, (h2_11, (h3_0, (h3_1, (h3_2, true))))))))))))))))))
             (.dd ((z3.1 = (((2 : Nat) : Nat) : Int))) inferInstance
              (.ret (.inl ((w64 (k24 + (1 : Int))), (h2_0, (h2_1, (h2_2, ((imin z5 z5), ((imax h2_4 z5), ((w64 (h2_5 + z5)), (h2_6, (h2_7, (h2_8, (h2_9, (h2_10, (h2_11, (h3_0, (h3_1, (true, h3_3))))))))))))))))))
              (.dd ((z3.1 = (((1 : Nat) : Nat) : Int))) inferInstance
               (.ret (.inl ((w64 (k24 + (1 : Int))), (h2_0, (h2_1, (h2_2, ((imin z5 z5), ((imax h2_4 z5), ((w64 (h2_5 + z5)), (h2_6, (h2_7, (h2_8, (h2_9, (h2_10, (h2_11, (h3_0, (true, (h3_2, h3_3))))))))))))))))))
               (.dd ((z3.1 = (((0 : Nat) : Nat) : Int))) inferInstance
                (.ret (.inl ((w64 (k24 + (1 : Int))), (h2_0, (h2_1, (h2_2, ((imin z5 z5), ((imax h2_4 z5), ((w64 (h2_5 + z5)), (h2_6, (h2_7, (h2_8, (h2_9, (h2_10, (h2_11, (true, (h3_1, (h3_2, h3_3))))))))))))))))))
                .no))))
            (.dd ((z3.1 = (((3 : Nat) : Nat) : Int))) inferInstance
             (.ret (.inl ((w64 (k24 + (1 : Int))), (h2_0, (h2_1, (h2_2, ((imin h2_3 z5), ((imax h2_4 z5), ((w64 (h2_5 + z5)), (h2_6, (h2_7, (h2_8, (h2_9, (h2_10, (h2_11, (h3_0, (h3_1, (h3_2, true))))))))))))))))))
             (.dd ((z3.1 = (((2 : Nat) : Nat) : Int))) inferInstance
              (.ret (.inl ((w64 (k24 + (1 : Int))), (h2_0, (h2_1, (h2_2, ((imin h2_3 z5), ((imax h2_4 z5), ((w64 (h2_5 + z5)), (h2_6, (h2_7, (h2_8, (h2_9, (h2_10, (h2_11, (h3_0, (h3_1, (true, h3_3))))))))))))))))))
              (.dd ((z3.1 = (((1 : Nat) : Nat) : Int))) inferInstance
               (.ret (.inl ((w64 (k24 + (1 : Int))), (h2_0, (h2_1, (h2_2, ((imin h2_3 z5), ((imax h2_4 z5), ((w64 (h2_5 + z5)), (h2_6, (h2_7, (h2_8, (h2_9, (h2_10, (h2_11, (h3_0, (true, (h3_2, h3_3))))))))))))))))))
               (.dd ((z3.1 = (((0 : Nat) : Nat) : Int))) inferInstance
                (.ret (.inl ((w64 (k24 + (1 : Int))), (h2_0, (h2_1, (h2_2, ((imin h2_3 z5), ((imax h2_4 z5), ((w64 (h2_5 + z5)), (h2_6, (h2_7, (h2_8, (h2_9, (h2_10, (h2_11, (true, (h3_1, (h3_2, h3_3))))))))))))))))))
                .no)))))
           .no)))))
      (.dd ((z3.1 = (((0 : Nat) : Nat) : Int))) inferInstance
       (.opt (flash_Flash_Wear_nil0.c k24) fun z4 =>
        (.dd ((z3.1 = (((3 : Nat) : Nat) : Int))) inferInstance
         (.bb (!h3_3)
          (.dd ((z3.1 = (((3 : Nat) : Nat) : Int))) inferInstance
           (.ret (.inl ((w64 (k24 + (1 : Int))), ((imin z4 z4), ((imax h2_1 z4), ((w64 (h2_2 + z4)), (h2_3, (h2_4, (h2_5, (h2_6, (h2_7, (h2_8, (h2_9, (h2_10, (h2_11, (h3_0, (h3_1, (h3_2, true))))))))))))))))))
           (.dd ((z3.1 = (((2 : Nat) : Nat) : Int))) inferInstance
            (.ret (.inl ((w64 (k24 + (1 : Int))), ((imin z4 z4), ((imax h2_1 z4), ((w64 (h2_2 + z4)), (h2_3, (h2_4, (h2_5, (h2_6, (h2_7, (h2_8, (h2_9, (h2_10, (h2_11, (h3_0, (h3_1, (true, h3_3))))))))))))))))))
            (.dd ((z3.1 = (((1 : Nat) : Nat) : Int))) inferInstance
             (.ret (.inl ((w64 (k24 + (1 : Int))), ((imin z4 z4), ((imax h2_1 z4), ((w64 (h2_2 + z4)), (h2_3, (h2_4, (h2_5, (h2_6, (h2_7, (h2_8, (h2_9, (h2_10, (h2_11, (h3_0, (true, (h3_2, h3_3))))))))))))))))))
             (.dd ((z3.1 = (((0 : Nat) : Nat) : Int))) inferInstance
              (.ret (.inl ((w64 (k24 + (1 : Int))), ((imin z4 z4), ((imax h2_1 z4), ((w64 (h2_2 + z4)), (h2_3, (h2_4, (h2_5, (h2_6, (h2_7, (h2_8, (h2_9, (h2_10, (h2_11, (true, (h3_1, (h3_2, h3_3))))))))))))))))))
              .no))))
          (.dd ((z3.1 = (((3 : Nat) : Nat) : Int))) inferInstance
           (.ret (.inl ((w64 (k24 + (1 : Int))), ((imin h2_0 z4), ((imax h2_1 z4), ((w64 (h2_2 + z4)), (h2_3, (h2_4, (h2_5, (h2_6, (h2_7, (h2_8, (h2_9, (h2_10, (h2_11, (h3_0, (h3_1, (h3_2, true))))))))))))))))))
           (.dd ((z3.1 = (((2 : Nat) : Nat) : Int))) inferInstance
            (.ret (.inl ((w64 (k24 + (1 : Int))), ((imin h2_0 z4), ((imax h2_1 z4), ((w64 (h2_2 + z4)), (h2_3, (h2_4, (h2_5, (h2_6, (h2_7, (h2_8, (h2_9, (h2_10, (h2_11, (h3_0, (h3_1, (true, h3_3))))))))))))))))))
            (.dd ((z3.1 = (((1 : Nat) : Nat) : Int))) inferInstance
             (.ret (.inl ((w64 (k24 + (1 : Int))), ((imin h2_0 z4), ((imax h2_1 z4), ((w64 (h2_2 + z4)), (h2_3, (h2_4, (h2_5, (h2_6, (h2_7, (h2_8, (h2_9, (h2_10, (h2_11, (h3_0, (true, (h3_2, h3_3))))))))))))))))))
             (.dd ((z3.1 = (((0 : Nat) : Nat) : Int))) inferInstance
              (.ret (.inl ((w64 (k24 + (1 : Int))), ((imin h2_0 z4), ((imax h2_1 z4), ((w64 (h2_2 + z4)), (h2_3, (h2_4, (h2_5, (h2_6, (h2_7, (h2_8, (h2_9, (h2_10, (h2_11, (true, (h3_1, (h3_2, h3_3))))))))))))))))))
              .no)))))
         (.dd ((z3.1 = (((2 : Nat) : Nat) : Int))) inferInstance
          (.bb (!h3_2)
           (.dd ((z3.1 = (((3 : Nat) : Nat) : Int))) inferInstance
            (.ret (.inl ((w64 (k24 + (1 : Int))), ((imin z4 z4), ((imax h2_1 z4), ((w64 (h2_2 + z4)), (h2_3, (h2_4, (h2_5, (h2_6, (h2_7, (h2_8, (h2_9, (h2_10, (h2_11, (h3_0, (h3_1, (h3_2, true))))))))))))))))))
            (.dd ((z3.1 = (((2 : Nat) : Nat) : Int))) inferInstance
             (.ret (.inl ((w64 (k24 + (1 : Int))), ((imin z4 z4), ((imax h2_1 z4), ((w64 (h2_2 + z4)), (h2_3, (h2_4, (h2_5, (h2_6, (h2_7, (h2_8, (h2_9, (h2_10, (h2_11, (h3_0, (h3_1, (true, h3_3))))))))))))))))))
             (.dd ((z3.1 = (((1 : Nat) : Nat) : Int))) inferInstance
              (.ret (.inl ((w64 (k24 + (1 : Int))), ((imin z4 z4), ((imax h2_1 z4), ((w64 (h2_2 + z4)), (h2_3, (h2_4, (h2_5, (h2_6, (h2_7, (h2_8, (h2_9, (h2_10, (h2_11, (h3_0, (true, (h3_2, h3_3))))))))))))))))))
              (.dd ((z3.1 = (((0 : Nat) : Nat) : Int))) inferInstance
               (.ret (.inl ((w64 (k24 + (1 : Int))), ((imin z4 z4), ((imax h2_1 z4), ((w64 (h2_2 + z4)), (h2_3, (h2_4, (h2_5, (h2_6, (h2_7, (h2_8, (h2_9, (h2_10, (h2_11, (true, (h3_1, (h3_2, h3_3))))))))))))))))))
               .no))))
           (.dd ((z3.1 = (((3 : Nat) : Nat) : Int))) inferInstance
            (.ret (.inl ((w64 (k24 + (1 : Int))), ((imin h2_0 z4), ((imax h2_1 z4), ((w64 (h2_2 + z4)), (h2_3, (h2_4, (h2_5, (h2_6, (h2_7, (h2_8, (h2_9, (h2_10, (h2_11, (h3_0, (h3_1, (h3_2, true))))))))))))))))))
            (.dd ((z3.1 = (((2 : Nat) : Nat) : Int))) inferInstance
             (.ret (.inl ((w64 (k24 + (1 : Int))), ((imin h2_0 z4), ((imax h2_1 z4), ((w64 (h2_2 + z4)), (h2_3, (h2_4, (h2_5, (h2_6, (h2_7, (h2_8, (h2_9, (h2_10, (h2_11, (h3_0, (h3_1, (true, h3_3))))))))))))))))))
             (.dd ((z3.1 = (((1 : Nat) : Nat) : Int))) inferInstance
              (.ret (.inl ((w64 (k24 + (1 : Int))), ((imin h2_0 z4), ((imax h2_1 z4), ((w64 (h2_2 + z4)), (h2_3, (h2_4, (h2_5, (h2_6, (h2_7, (h2_8, (h2_9, (h2_10, (h2_11, (h3_0, (true, (h3_2, h3_3))))))))))))))))))
              (.dd ((z3.1 = (((0 : Nat) : Nat) : Int))) inferInstance
               (.ret (.inl ((w64 (k24 + (1 : Int))), ((imin h2_0 z4), ((imax h2_1 z4), ((w64 (h2_2 + z4)), (h2_3, (h2_4, (h2_5, (h2_6, (h2_7, (h2_8, (h2_9, (h2_10, (h2_11, (true, (h3_1, (h3_2, h3_3))))))))))))))))))
               .no)))))
          (.dd ((z3.1 = (((1 : Nat) : Nat) : Int))) inferInstance
           (.bb (!h3_1)
            (.dd ((z3.1 = (((3 : Nat) : Nat) : Int))) inferInstance
             (.ret (.inl ((w64 (k24 + (1 : Int))), ((imin z4 z4), ((imax h2_1 z4), ((w64 (h2_2 + z4)), (h2_3, (h2_4, (h2_5, (h2_6, (h2_7, (h2_8, (h2_9, (h2_10, (h2_11, (h3_0, (h3_1, (h3_2, true))))))))))))))))))
             (.dd ((z3.1 = (((2 : Nat) : Nat) : Int))) inferInstance
              (.ret (.inl ((w64 (k24 + (1 : Int))), ((imin z4 z4), ((imax h2_1 z4), ((w64 (h2_2 + z4)), (h2_3, (h2_4, (h2_5, (h2_6, (h2_7, (h2_8, (h2_9, (h2_10, (h2_11, (h3_0, (h3_1, (true, h3_3))))))))))))))))))
              (.dd ((z3.1 = (((1 : Nat) : Nat) : Int))) inferInstance
               (.ret (.inl ((w64 (k24 + (1 : Int))), ((imin z4 z4), ((imax h2_1 z4), ((w64 (h2_2 + z4)), (h2_3, (h2_4, (h2_5, (h2_6, (h2_7, (h2_8, (h2_9, (h2_10, (h2_11, (h3_0, (true, (h3_2, h3_3))))))))))))))))))
               (.dd ((z3.1 = (((0 : Nat) : Nat) : Int))) inferInstance
                (.ret (.inl ((w64 (k24 + (1 : Int))), ((imin z4 z4), ((imax h2_1 z4), ((w64 (h2_2 + z4)), (h2_3, (h2_4, (h2_5, (h2_6, (h2_7, (h2_8, (h2_9, (h2_10, (h2_11, (true, (h3_1, (h3_2, h3_3))))))))))))))))))
                .no))))
            (.dd ((z3.1 = (((3 : Nat) : Nat) : Int))) inferInstance
             (.ret (.inl ((w64 (k24 + (1 : Int))), ((imin h2_0 z4), ((imax h2_1 z4), ((w64 (h2_2 + z4)), (h2_3, (h2_4, (h2_5, (h2_6, (h2_7, (h2_8, (h2_9, (h2_10, (h2_11, (h3_0, (h3_1, (h3_2, true))))))))))))))))))
             (.dd ((z3.1 = (((2 : Nat) : Nat) : Int))) inferInstance
              (.ret (.inl ((w64 (k24 + (1 : Int))), ((imin h2_0 z4), ((imax h2_1 z4), ((w64 (h2_2 + z4)), (h2_3, (h2_4, (h2_5, (h2_6, (h2_7, (h2_8, (h2_9, (h2_10, (h2_11, (h3_0, (h3_1, (true, h3_3))))))))))))))))))
              (.dd ((z3.1 = (((1 : Nat) : Nat) : Int))) inferInstance
               (.ret (.inl ((w64 (k24 + (1 : Int))), ((imin h2_0 z4), ((imax h2_1 z4), ((w64 (h2_2 + z4)), (h2_3, (h2_4, (h2_5, (h2_6, (h2_7, (h2_8, (h2_9, (h2_10, (h2_11, (h3_0, (true, (h3_2, h3_3))))))))))))))))))
               (.dd ((z3.1 = (((0 : Nat) : Nat) : Int))) inferInstance
                (.ret (.inl ((w64 (k24 + (1 : Int))), ((imin h2_0 z4), ((imax h2_1 z4), ((w64 (h2_2 + z4)), (h2_3, (h2_4, (h2_5, (h2_6, (h2_7, (h2_8, (h2_9, (h2_10, (h2_11, (true, (h3_1, (h3_2, h3_3))))))))))))))))))
                .no)))))
           (.dd ((z3.1 = (((0 : Nat) : Nat) : Int))) inferInstance
            (.bb (!h3_0)
             (.dd ((z3.1 = (((3 : Nat) : Nat) : Int))) inferInstance
              (.ret (.inl ((w64 (k24 + (1 : Int))), ((imin z4 z4), ((imax h2_1 z4), ((w64 (h2_2 + z4)), (h2_3, (h2_4, (h2_5, (h2_6, (h2_7, (h2_8, (h2_9, (h2_10, (h2_11, (h3_0, (h3_1, (h3_2, true))))))))))))))))))
              (.dd ((z3.1 = (((2 : Nat) : Nat) : Int))) inferInstance
               (.ret (.inl ((w64 (k24 + (1 : Int))), ((imin z4 z4), ((imax h2_1 z4), ((w64 (h2_2 + z4)), (h2_3, (h2_4, (h2_5, (h2_6, (h2_7, (h2_8, (h2_9, (h2_10, (h2_11, (h3_0, (h3_1, (true, h3_3))))))))))))))))))
               (.dd ((z3.1 = (((1 : Nat) : Nat) : Int))) inferInstance
                (.ret (.inl ((w64 (k24 + (1 : Int))), ((imin z4 z4), ((imax h2_1 z4), ((w64 (h2_2 + z4)), (h2_3, (h2_4, (h2_5, (h2_6, (h2_7, (h2_8, (h2_9, (h2_10, (h2_11, (h3_0, (true, (h3_2, h3_3))))))))))))))))))
                (.dd ((z3.1 = (((0 : Nat) : Nat) : Int))) inferInstance
                 (.ret (.inl ((w64 (k24 + (1 : Int))), ((imin z4 z4), ((imax h2_1 z4), ((w64 (h2_2 + z4)), (h2_3, (h2_4, (h2_5, (h2_6, (h2_7, (h2_8, (h2_9, (h2_10, (h2_11, (true, (h3_1, (h3_2, h3_3))))))))))))))))))
                 .no))))
             (.dd ((z3.1 = (((3 : Nat) : Nat) : Int))) inferInstance
              (.ret (.inl ((w64 (k24 + (1 : Int))), ((imin h2_0 z4), ((imax h2_1 z4), ((w64 (h2_2 + z4)), (h2_3, (h2_4, (h2_5, (h2_6, (h2_7, (h2_8, (h2_9, (h2_10, (h2_11, (h3_0, (h3_1, (h3_2, true))))))))))))))))))
              (.dd ((z3.1 = (((2 : Nat) : Nat) : Int))) inferInstance
               (.ret (.inl ((w64 (k24 + (1 : Int))), ((imin h2_0 z4), ((imax h2_1 z4), ((w64 (h2_2 + z4)), (h2_3, (h2_4, (h2_5, (h2_6, (h2_7, (h2_8, (h2_9, (h2_10, (h2_11, (h3_0, (h3_1, (true, h3_3))))))))))))))))))
               (.dd ((z3.1 = (((1 : Nat) : Nat) : Int))) inferInstance
                (.ret (.inl ((w64 (k24 + (1 : Int))), ((imin h2_0 z4), ((imax h2_1 z4), ((w64 (h2_2 + z4)), (h2_3, (h2_4, (h2_5, (h2_6, (h2_7, (h2_8, (h2_9, (h2_10, (h2_11, (h3_0, (true, (h3_2, h3_3))))))))))))))))))
                (.dd ((z3.1 = (((0 : Nat) : Nat) : Int))) inferInstance
                 (.ret (.inl ((w64 (k24 + (1 : Int))), ((imin h2_0 z4), ((imax h2_1 z4), ((w64 (h2_2 + z4)), (h2_3, (h2_4, (h2_5, (h2_6, (h2_7, (h2_8, (h2_9, (h2_10, (h2_11, (true, (h3_1, (h3_2, h3_3))))))))))))))))))
                 .no)))))
            .no)))))
       .no)))))
  (.ret (.inr (h2_0, (h2_1, (h2_2, (h2_3, (h2_4, (h2_5, (h2_6, (h2_7, (h2_8, (h2_9, (h2_10, h2_11))))))))))))))
noncomputable def L7 (k23 k24 h0_0 h0_1 h0_2 h0_3 h0_4 h0_5 h1_0 h1_1 h1_2 h1_3 h1_4 h1_5 h1_6 h1_7 h1_8 h1_9 h1_10 h1_11 h2_0 h2_1 h2_2 h2_3 h2_4 h2_5 h2_6 h2_7 h2_8 h2_9 h2_10 h2_11 : Int) (h3_0 h3_1 h3_2 h3_3 : Bool) : Option X7 := Lp (fun s => (l7 k23 h0_0 h0_1 h0_2 h0_3 h0_4 h0_5 h1_0 h1_1 h1_2 h1_3 h1_4 h1_5 h1_6 h1_7 h1_8 h1_9 h1_10 h1_11 s.1 s.2.1 s.2.2.1 s.2.2.2.1 s.2.2.2.2.1 s.2.2.2.2.2.1 s.2.2.2.2.2.2.1 s.2.2.2.2.2.2.2.1 s.2.2.2.2.2.2.2.2.1 s.2.2.2.2.2.2.2.2.2.1 s.2.2.2.2.2.2.2.2.2.2.1 s.2.2.2.2.2.2.2.2.2.2.2.1 s.2.2.2.2.2.2.2.2.2.2.2.2.1 s.2.2.2.2.2.2.2.2.2.2.2.2.2.1 s.2.2.2.2.2.2.2.2.2.2.2.2.2.2.1 s.2.2.2.2.2.2.2.2.2.2.2.2.2.2.2.1 s.2.2.2.2.2.2.2.2.2.2.2.2.2.2.2.2).run) (k24, (h2_0, (h2_1, (h2_2, (h2_3, (h2_4, (h2_5, (h2_6, (h2_7, (h2_8, (h2_9, (h2_10, (h2_11, (h3_0, (h3_1, (h3_2, h3_3))))))))))))))))
def p7 : Pt := (.cs .nilp (.cs (.bots 2) (.cs (.ptr 0 0) (.cs (.ptr 1 0) (.cs (.bots 1) (.cs (.ptr 2 0) (.cs (.bots 1) (.cs (.ptr 3 0) (.cs (.bots 14) (jC (jC (.cs (.bots 52) .nl))))))))))))
def q7 : Pt := (.cs (.var (jC (jC (jC (jC (jC (jC .nl))))))) (.cs (.var (jC (jC (jC (jC (jC (jC (jC (jC (jC (jC (jC (jC .nl))))))))))))) (.cs (.var (jC (jC (jC (jC (jC (jC (jC (jC (jC (jC (jC (jC .nl))))))))))))) (.cs (.var (.cs .bool (.cs .bool (.cs .bool (.cs .bool .nl))))) .nl))))
def ou7 (l : T7) (y : X7) : Ex × St U := (.exit 0, stOf 77 [(4, .ptr 0 0), (6, .ptr 1 0)] [.var [jI l.2.2.1.1, jI l.2.2.1.2.1, jI l.2.2.1.2.2.1, jI l.2.2.1.2.2.2.1, jI l.2.2.1.2.2.2.2.1, jI l.2.2.1.2.2.2.2.2.1, jI l.2.2.1.2.2.2.2.2.2.1, jI l.2.2.1.2.2.2.2.2.2.2.1, jI l.2.2.1.2.2.2.2.2.2.2.2.1, jI l.2.2.1.2.2.2.2.2.2.2.2.2.1, jI l.2.2.1.2.2.2.2.2.2.2.2.2.2.1, jI l.2.2.1.2.2.2.2.2.2.2.2.2.2.2.1], .var [jI y.1, jI y.2.1, jI y.2.2.1, jI y.2.2.2.1, jI y.2.2.2.2.1, jI y.2.2.2.2.2.1, jI y.2.2.2.2.2.2.1, jI y.2.2.2.2.2.2.2.1, jI y.2.2.2.2.2.2.2.2.1, jI y.2.2.2.2.2.2.2.2.2.1, jI y.2.2.2.2.2.2.2.2.2.2.1, jI y.2.2.2.2.2.2.2.2.2.2.2]] 0)
noncomputable def Λ7 : LFun U := mkLp (U := U) p7 q7 0 (X := X7) (fun (l : T7) => L7 l.1.2.2.2.2.2.2.2.2.2.1 l.1.2.2.2.2.2.2.2.2.2.2.1 l.2.1.1 l.2.1.2.1 l.2.1.2.2.1 l.2.1.2.2.2.1 l.2.1.2.2.2.2.1 l.2.1.2.2.2.2.2.1 l.2.2.1.1 l.2.2.1.2.1 l.2.2.1.2.2.1 l.2.2.1.2.2.2.1 l.2.2.1.2.2.2.2.1 l.2.2.1.2.2.2.2.2.1 l.2.2.1.2.2.2.2.2.2.1 l.2.2.1.2.2.2.2.2.2.2.1 l.2.2.1.2.2.2.2.2.2.2.2.1 l.2.2.1.2.2.2.2.2.2.2.2.2.1 l.2.2.1.2.2.2.2.2.2.2.2.2.2.1 l.2.2.1.2.2.2.2.2.2.2.2.2.2.2.1 l.2.2.2.1.1 l.2.2.2.1.2.1 l.2.2.2.1.2.2.1 l.2.2.2.1.2.2.2.1 l.2.2.2.1.2.2.2.2.1 l.2.2.2.1.2.2.2.2.2.1 l.2.2.2.1.2.2.2.2.2.2.1 l.2.2.2.1.2.2.2.2.2.2.2.1 l.2.2.2.1.2.2.2.2.2.2.2.2.1 l.2.2.2.1.2.2.2.2.2.2.2.2.2.1 l.2.2.2.1.2.2.2.2.2.2.2.2.2.2.1 l.2.2.2.1.2.2.2.2.2.2.2.2.2.2.2.1 l.2.2.2.2.1.1 l.2.2.2.2.1.2.1 l.2.2.2.2.1.2.2.1 l.2.2.2.2.1.2.2.2.1) sp1 ou7
def hd7 (l : T7) (s : S7) : T7 := (((), ((), ((), ((), ((), ((), ((), ((), ((), (l.1.2.2.2.2.2.2.2.2.2.1, (s.1, ((), ())))))))))))), ((l.2.1.1, (l.2.1.2.1, (l.2.1.2.2.1, (l.2.1.2.2.2.1, (l.2.1.2.2.2.2.1, (l.2.1.2.2.2.2.2.1, ())))))), ((l.2.2.1.1, (l.2.2.1.2.1, (l.2.2.1.2.2.1, (l.2.2.1.2.2.2.1, (l.2.2.1.2.2.2.2.1, (l.2.2.1.2.2.2.2.2.1, (l.2.2.1.2.2.2.2.2.2.1, (l.2.2.1.2.2.2.2.2.2.2.1, (l.2.2.1.2.2.2.2.2.2.2.2.1, (l.2.2.1.2.2.2.2.2.2.2.2.2.1, (l.2.2.1.2.2.2.2.2.2.2.2.2.2.1, (l.2.2.1.2.2.2.2.2.2.2.2.2.2.2.1, ())))))))))))), ((s.2.1, (s.2.2.1, (s.2.2.2.1, (s.2.2.2.2.1, (s.2.2.2.2.2.1, (s.2.2.2.2.2.2.1, (s.2.2.2.2.2.2.2.1, (s.2.2.2.2.2.2.2.2.1, (s.2.2.2.2.2.2.2.2.2.1, (s.2.2.2.2.2.2.2.2.2.2.1, (s.2.2.2.2.2.2.2.2.2.2.2.1, (s.2.2.2.2.2.2.2.2.2.2.2.2.1, ())))))))))))), ((s.2.2.2.2.2.2.2.2.2.2.2.2.2.1, (s.2.2.2.2.2.2.2.2.2.2.2.2.2.2.1, (s.2.2.2.2.2.2.2.2.2.2.2.2.2.2.2.1, (s.2.2.2.2.2.2.2.2.2.2.2.2.2.2.2.2, ())))), ())))))
noncomputable def fl7 (l : T7) (s : S7) : Tw (S7 ⊕ X7) := l7 l.1.2.2.2.2.2.2.2.2.2.1 l.2.1.1 l.2.1.2.1 l.2.1.2.2.1 l.2.1.2.2.2.1 l.2.1.2.2.2.2.1 l.2.1.2.2.2.2.2.1 l.2.2.1.1 l.2.2.1.2.1 l.2.2.1.2.2.1 l.2.2.1.2.2.2.1 l.2.2.1.2.2.2.2.1 l.2.2.1.2.2.2.2.2.1 l.2.2.1.2.2.2.2.2.2.1 l.2.2.1.2.2.2.2.2.2.2.1 l.2.2.1.2.2.2.2.2.2.2.2.1 l.2.2.1.2.2.2.2.2.2.2.2.2.1 l.2.2.1.2.2.2.2.2.2.2.2.2.2.1 l.2.2.1.2.2.2.2.2.2.2.2.2.2.2.1 s.1 s.2.1 s.2.2.1 s.2.2.2.1 s.2.2.2.2.1 s.2.2.2.2.2.1 s.2.2.2.2.2.2.1 s.2.2.2.2.2.2.2.1 s.2.2.2.2.2.2.2.2.1 s.2.2.2.2.2.2.2.2.2.1 s.2.2.2.2.2.2.2.2.2.2.1 s.2.2.2.2.2.2.2.2.2.2.2.1 s.2.2.2.2.2.2.2.2.2.2.2.2.1 s.2.2.2.2.2.2.2.2.2.2.2.2.2.1 s.2.2.2.2.2.2.2.2.2.2.2.2.2.2.1 s.2.2.2.2.2.2.2.2.2.2.2.2.2.2.2.1 s.2.2.2.2.2.2.2.2.2.2.2.2.2.2.2.2
noncomputable def t (g_0 g_1 g_2 g_3 g_4 g_5 : Int) : Tw XA :=
 (.opt (wear_fine_nil0.c g_0 g_1 g_2 g_3 g_4 g_5) fun z1 =>
  (.bb (z1 != (0 : Int))
   (.ret ((0 : Int), ((0 : Int), ((0 : Int), ((0 : Int), ((0 : Int), ((0 : Int), ((0 : Int), ((0 : Int), ((0 : Int), ((0 : Int), ((0 : Int), ((0 : Int), z1)))))))))))))
   (.opt (geom_Sectors.c g_0 g_1 g_2 g_3 g_4 g_5) fun z2 =>
    (.opt (L7 z2 (0 : Int) g_0 g_1 g_2 g_3 g_4 g_5 (0 : Int) (0 : Int) (0 : Int) (0 : Int) (0 : Int) (0 : Int) (0 : Int) (0 : Int) (0 : Int) (0 : Int) (0 : Int) (0 : Int) (0 : Int) (0 : Int) (0 : Int) (0 : Int) (0 : Int) (0 : Int) (0 : Int) (0 : Int) (0 : Int) (0 : Int) (0 : Int) (0 : Int) false false false false) fun z8 =>
     (.ret (z8.1, (z8.2.1, (z8.2.2.1, (z8.2.2.2.1, (z8.2.2.2.2.1, (z8.2.2.2.2.2.1, (z8.2.2.2.2.2.2.1, (z8.2.2.2.2.2.2.2.1, (z8.2.2.2.2.2.2.2.2.1, (z8.2.2.2.2.2.2.2.2.2.1, (z8.2.2.2.2.2.2.2.2.2.2.1, (z8.2.2.2.2.2.2.2.2.2.2.2, (0 : Int))))))))))))))))))
noncomputable def c (g_0 g_1 g_2 g_3 g_4 g_5 : Int) : Option XA := (t g_0 g_1 g_2 g_3 g_4 g_5).run
noncomputable def tl (l : TA) : Tw XA := t l.1.2.1.1 l.1.2.1.2.1 l.1.2.1.2.2.1 l.1.2.1.2.2.2.1 l.1.2.1.2.2.2.2.1 l.1.2.1.2.2.2.2.2.1
noncomputable def cl (l : TA) : Option XA := c l.1.2.1.1 l.1.2.1.2.1 l.1.2.1.2.2.1 l.1.2.1.2.2.2.1 l.1.2.1.2.2.2.2.1 l.1.2.1.2.2.2.2.2.1
def pA : Pt := (.cs .nilp (.cs (.agg (jC (jC (jC (jC (jC (jC .nl))))))) .nl))
def pH : Pt := .nl
def v (l : TA) (y : XA) : AV U := .tup [.agg [jI y.1, jI y.2.1, jI y.2.2.1, jI y.2.2.2.1, jI y.2.2.2.2.1, jI y.2.2.2.2.2.1, jI y.2.2.2.2.2.2.1, jI y.2.2.2.2.2.2.2.1, jI y.2.2.2.2.2.2.2.2.1, jI y.2.2.2.2.2.2.2.2.2.1, jI y.2.2.2.2.2.2.2.2.2.2.1, jI y.2.2.2.2.2.2.2.2.2.2.2.1], jI y.2.2.2.2.2.2.2.2.2.2.2.2]
def hh (l : TA) (y : XA) : Hp U := []
noncomputable def A : AFun U := mkA (U := U) pA pH (X := XA) cl sp1 v hh
noncomputable def body : Code := (Go.Func.body Try.f32).getD .skip
noncomputable def Γ : List (FuncId × AFun U) := [(69, wear_fine_nil0.A), (70, geom_Sectors.A), (71, geom_Where.A), (72, flash_Flash_Wear_nil0.A)]
noncomputable def Λ : List (Nat × LFun U) := [(7, Λ7)]
noncomputable def CT : List (Nat × LFun U) := []
def ro : List FuncId := []
def D : Nat → Lv × Lv := dtab [(7, ⟨[24, 8, 0, 6, 3, 4, 23], []⟩, ⟨[4, 5, 6], []⟩)]
noncomputable def E : Env U := { E0 with Γ := Γ, Λ := Λ, C := CT, D := D, ro := ro }
theorem hf7 (R : Type) (l : T7) (s : S7) (K : Ex → St U → Option R) : codeA E (pick (loopsOf body) 7) ⟨p7.mkL (hd7 l s).1, q7.mkH (hd7 l s).2, 0⟩ (roundK E (pick (loopsOf body) 7) K) =
  (fl7 l s).runK (lpK K (fun s => ⟨p7.mkL (hd7 l s).1, q7.mkH (hd7 l s).2, 0⟩) sp1 (ou7 l)) := by kernel_rfl
theorem lk7 (R : Type) (st : St U) (K : Ex → St U → Option R) (r : R) (h : Λ7 R st K = some r) : ∃ n, loopA E (pick (loopsOf body) 7) n st K = some r :=
  lp_ok (U := U) (E := E) (b := pick (loopsOf body) 7) (m := 0) (sp := sp1) (p := p7) (q := q7) (X := X7) (S := S7) (f := fl7) (hd := hd7) (s0 := fun (l : T7) => (l.1.2.2.2.2.2.2.2.2.2.2.1, (l.2.2.2.1.1, (l.2.2.2.1.2.1, (l.2.2.2.1.2.2.1, (l.2.2.2.1.2.2.2.1, (l.2.2.2.1.2.2.2.2.1, (l.2.2.2.1.2.2.2.2.2.1, (l.2.2.2.1.2.2.2.2.2.2.1, (l.2.2.2.1.2.2.2.2.2.2.2.1, (l.2.2.2.1.2.2.2.2.2.2.2.2.1, (l.2.2.2.1.2.2.2.2.2.2.2.2.2.1, (l.2.2.2.1.2.2.2.2.2.2.2.2.2.2.1, (l.2.2.2.1.2.2.2.2.2.2.2.2.2.2.2.1, (l.2.2.2.2.1.1, (l.2.2.2.2.1.2.1, (l.2.2.2.2.1.2.2.1, l.2.2.2.2.1.2.2.2.1))))))))))))))))) (ou := ou7)
    (fun l => rfl) (fun l x => by rfl) sp1_ok hf7 h
theorem hk (R : Type) (l : TA) (K : AV U → Hp U → Option R) : funcA E Try.f32 [] R (pA.mkL l.1) (pH.mkH l.2) K = (tl l).runK fun y => K (v l y) (hh l y) := by kernel_rfl
theorem okF : SoundF Try.prog cc 32 (funcA E Try.f32 []) :=
  funcA_ok (E := E) P_mixed (E0_ok.with Γ Λ CT D ro) (gam_of (all_cons ⟨wear_fine_nil0.ok, wear_fine_nil0.fo⟩ (all_cons ⟨geom_Sectors.ok, geom_Sectors.fo⟩ (all_cons ⟨geom_Where.ok, geom_Where.fo⟩ (all_cons ⟨flash_Flash_Wear_nil0.ok, flash_Flash_Wear_nil0.fo⟩ all_nil)))) no_ro) Try.func32 (c := body) (by kernel_rfl)
    (just_by (by kernel_rfl) (by kernel_rfl) (all_cons lk7 all_nil) all_nil) []
theorem ok : SoundF Try.prog cc 32 A :=
  mkA_ok (E := E) (p := pA) (q := pH) (t := tl) sp1_ok hk okF
theorem fo : FnOK Try.prog 32 := ⟨Try.f32, Try.func32, by kernel_rfl, by kernel_rfl⟩
theorem keep : KeepA A := mkA_keep (U := U) sp1_ok (fun (l : TA) y => ⟨(hh l y).drop 0, by kernel_rfl⟩)
end wear_Of_nil0

/-! instar/wear.Worst -/
namespace wear_Worst_nil0
abbrev TA : Type := ((Unit × ((Int × (Int × (Int × (Int × (Int × (Int × Unit)))))) × Unit)) × Unit)
abbrev XA : Type := (Int × Int)
abbrev T5 : Type := ((Unit × (Unit × (Int × (Unit × (Int × (Int × (Unit × Unit))))))) × Unit)
abbrev S5 : Type := (Int × Int)
noncomputable def l5 (k13 at_ k14 : Int) : Tw (S5 ⊕ Int) :=
 (.bb (decide (k14 < k13))
  (.opt (flash_Flash_Wear_nil0.c k14) fun z3 =>
   (.opt (flash_Flash_Wear_nil0.c at_) fun z4 =>
    (.bb (decide (z3 > z4))
     (.ret (.inl (k14, (w64 (k14 + (1 : Int))))))
     (.ret (.inl (at_, (w64 (k14 + (1 : Int)))))))))
  (.ret (.inr at_)))
noncomputable def L5 (at_ k13 k14 : Int) : Option Int := Lp (fun s => (l5 k13 s.1 s.2).run) (at_, k14)
def p5 : Pt := (.cs .nilp (.cs (.bots 5) (jC (.cs (.bots 6) (jC (jC (.cs (.bots 15) .nl)))))))
def q5 : Pt := .nl
def ou5 (l : T5) (y : Int) : Ex × St U := (.exit 0, stOf 30 [(0, .im .nilp), (6, jI y)] [] 0)
noncomputable def Λ5 : LFun U := mkLp (U := U) p5 q5 0 (X := Int) (fun (l : T5) => L5 l.1.2.2.1 l.1.2.2.2.2.1 l.1.2.2.2.2.2.1) sp1 ou5
def hd5 (l : T5) (s : S5) : T5 := (((), ((), (s.1, ((), (l.1.2.2.2.2.1, (s.2, ((), ()))))))), ())
noncomputable def fl5 (l : T5) (s : S5) : Tw (S5 ⊕ Int) := l5 l.1.2.2.2.2.1 s.1 s.2
noncomputable def t (g_0 g_1 g_2 g_3 g_4 g_5 : Int) : Tw XA :=
 (.opt (wear_fine_nil0.c g_0 g_1 g_2 g_3 g_4 g_5) fun z1 =>
  (.bb (z1 != (0 : Int))
   (.ret ((-(1 : Int)), (0 : Int)))
   (.opt (geom_Sectors.c g_0 g_1 g_2 g_3 g_4 g_5) fun z2 =>
    (.opt (L5 (0 : Int) z2 (0 : Int)) fun z5 =>
     (.opt (flash_Flash_Wear_nil0.c z5) fun z6 =>
      (.ret (z5, z6)))))))
noncomputable def c (g_0 g_1 g_2 g_3 g_4 g_5 : Int) : Option XA := (t g_0 g_1 g_2 g_3 g_4 g_5).run
noncomputable def tl (l : TA) : Tw XA := t l.1.2.1.1 l.1.2.1.2.1 l.1.2.1.2.2.1 l.1.2.1.2.2.2.1 l.1.2.1.2.2.2.2.1 l.1.2.1.2.2.2.2.2.1
noncomputable def cl (l : TA) : Option XA := c l.1.2.1.1 l.1.2.1.2.1 l.1.2.1.2.2.1 l.1.2.1.2.2.2.1 l.1.2.1.2.2.2.2.1 l.1.2.1.2.2.2.2.2.1
def pA : Pt := (.cs .nilp (.cs (.agg (jC (jC (jC (jC (jC (jC .nl))))))) .nl))
def pH : Pt := .nl
def v (l : TA) (y : XA) : AV U := .tup [jI y.1, jI y.2]
def hh (l : TA) (y : XA) : Hp U := []
noncomputable def A : AFun U := mkA (U := U) pA pH (X := XA) cl sp1 v hh
noncomputable def body : Code := (Go.Func.body Try.f33).getD .skip
noncomputable def Γ : List (FuncId × AFun U) := [(69, wear_fine_nil0.A), (70, geom_Sectors.A), (72, flash_Flash_Wear_nil0.A)]
noncomputable def Λ : List (Nat × LFun U) := [(5, Λ5)]
noncomputable def CT : List (Nat × LFun U) := []
def ro : List FuncId := []
def D : Nat → Lv × Lv := dtab [(5, ⟨[14, 6, 0, 13], []⟩, ⟨[4, 5, 6, 0], []⟩)]
noncomputable def E : Env U := { E0 with Γ := Γ, Λ := Λ, C := CT, D := D, ro := ro }
theorem hf5 (R : Type) (l : T5) (s : S5) (K : Ex → St U → Option R) : codeA E (pick (loopsOf body) 5) ⟨p5.mkL (hd5 l s).1, q5.mkH (hd5 l s).2, 0⟩ (roundK E (pick (loopsOf body) 5) K) =
  (fl5 l s).runK (lpK K (fun s => ⟨p5.mkL (hd5 l s).1, q5.mkH (hd5 l s).2, 0⟩) sp1 (ou5 l)) := by kernel_rfl
theorem lk5 (R : Type) (st : St U) (K : Ex → St U → Option R) (r : R) (h : Λ5 R st K = some r) : ∃ n, loopA E (pick (loopsOf body) 5) n st K = some r :=
  lp_ok (U := U) (E := E) (b := pick (loopsOf body) 5) (m := 0) (sp := sp1) (p := p5) (q := q5) (X := Int) (S := S5) (f := fl5) (hd := hd5) (s0 := fun (l : T5) => (l.1.2.2.1, l.1.2.2.2.2.2.1)) (ou := ou5)
    (fun l => rfl) (fun l x => by rfl) sp1_ok hf5 h
theorem hk (R : Type) (l : TA) (K : AV U → Hp U → Option R) : funcA E Try.f33 [] R (pA.mkL l.1) (pH.mkH l.2) K = (tl l).runK fun y => K (v l y) (hh l y) := by kernel_rfl
theorem okF : SoundF Try.prog cc 33 (funcA E Try.f33 []) :=
  funcA_ok (E := E) P_mixed (E0_ok.with Γ Λ CT D ro) (gam_of (all_cons ⟨wear_fine_nil0.ok, wear_fine_nil0.fo⟩ (all_cons ⟨geom_Sectors.ok, geom_Sectors.fo⟩ (all_cons ⟨flash_Flash_Wear_nil0.ok, flash_Flash_Wear_nil0.fo⟩ all_nil))) no_ro) Try.func33 (c := body) (by kernel_rfl)
    (just_by (by kernel_rfl) (by kernel_rfl) (all_cons lk5 all_nil) all_nil) []
theorem ok : SoundF Try.prog cc 33 A :=
  mkA_ok (E := E) (p := pA) (q := pH) (t := tl) sp1_ok hk okF
theorem fo : FnOK Try.prog 33 := ⟨Try.f33, Try.func33, by kernel_rfl, by kernel_rfl⟩
theorem keep : KeepA A := mkA_keep (U := U) sp1_ok (fun (l : TA) y => ⟨(hh l y).drop 0, by kernel_rfl⟩)
end wear_Worst_nil0

end Go.Proofs.Ytmlbioapefgioaa.Va
