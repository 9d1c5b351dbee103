/- The functions of package ref32, as plain functions, and that the program computes them. Printed by a program of this work out of the evaluator. -/
import Derived.Test.YtnlclchlnngdnaaEn
import Derived.Tactics
import Derived.Test.YtnlclchlnngdnaaFref01
import Derived.Test.YtnlclchlnngdnaaFref08
import Derived.Test.YtnlclchlnngdnaaFref09
namespace Go.Proofs.Ytnlclchlnngdnaa.Va
open Go
set_option linter.unusedVariables false
set_option maxRecDepth 100000

/-! instar/instarref32.bad -/
namespace ref32_bad_v2
abbrev TA : Type := ((Unit × (Int × (Int × Unit))) × ((Unit × (Int × (Int × (Int × (Int × (Int × (Int × Unit))))))) × ((Unit × (Int × (Unit × (Int × (Bool × (Int × (Unit × Unit))))))) × ((List Int) × ((List Int) × ((List Int) × Unit))))))
noncomputable def t (slot total h0_1 h0_2 h0_3 h0_4 h0_5 h0_6 h1_1 h1_3 : Int) (h1_4 : Bool) (h1_5 : Int) (h2 : (List Int)) (h3 : (List Int)) (h4 : (List Int)) : Tw Int :=
 (.bb (decide (slot < (0 : Int)))
  (.ret (3 : Int))
  (.bb (decide (slot > (1 : Int)))
   (.ret (3 : Int))
   (.opt (ref08_Parts.c h0_1 h0_2 h0_3 h0_4 h0_5 h0_6 total) fun z1 =>
    (.bb ((((List.length z1) : Nat) : Int) == (0 : Int))
     (.ret (2 : Int))
     (.ret (0 : Int))))))
noncomputable def c (slot total h0_1 h0_2 h0_3 h0_4 h0_5 h0_6 h1_1 h1_3 : Int) (h1_4 : Bool) (h1_5 : Int) (h2 : (List Int)) (h3 : (List Int)) (h4 : (List Int)) : Option Int := (t slot total h0_1 h0_2 h0_3 h0_4 h0_5 h0_6 h1_1 h1_3 h1_4 h1_5 h2 h3 h4).run
def pA : Pt := (.cs (.ptr 0 0) (.cs (.int .i64) (.cs (.int .i64) .nl)))
def pH : Pt := (.cs (.var (.cs (.ptr 1 0) (.cs (.int .i64) (.cs (.int .i64) (.cs (.int .i64) (.cs (.int .i64) (.cs (.int .i64) (.cs (.int .i64) .nl)))))))) (.cs (.var (.cs (.own 2) (.cs (.int .i64) (.cs (.own 3) (.cs (.int .i64) (.cs .bool (.cs (.int .i64) (.cs (.own 4) .nl)))))))) (.cs (.row 3 true) (.cs (.row 1 true) (.cs (.row 3 true) .nl)))))
def v (l : TA) (y : Int) : AV U := .im (.int .i64 y)
def hh (l : TA) (y : Int) : Hp U := [.var [.ptr 1 0, .im (.int .i64 l.2.1.2.1), .im (.int .i64 l.2.1.2.2.1), .im (.int .i64 l.2.1.2.2.2.1), .im (.int .i64 l.2.1.2.2.2.2.1), .im (.int .i64 l.2.1.2.2.2.2.2.1), .im (.int .i64 l.2.1.2.2.2.2.2.2.1)], .var [.own 2, .im (.int .i64 l.2.2.1.2.1), .own 3, .im (.int .i64 l.2.2.1.2.2.2.1), .im (.bool l.2.2.1.2.2.2.2.1), .im (.int .i64 l.2.2.1.2.2.2.2.2.1), .own 4], .row 3 l.2.2.2.1 true, .row 1 l.2.2.2.2.1 true, .row 3 l.2.2.2.2.2.1 true]
noncomputable def A : AFun U := mkA (U := U) pA pH (X := Int) (fun (l : TA) => c l.1.2.1 l.1.2.2.1 l.2.1.2.1 l.2.1.2.2.1 l.2.1.2.2.2.1 l.2.1.2.2.2.2.1 l.2.1.2.2.2.2.2.1 l.2.1.2.2.2.2.2.2.1 l.2.2.1.2.1 l.2.2.1.2.2.2.1 l.2.2.1.2.2.2.2.1 l.2.2.1.2.2.2.2.2.1 l.2.2.2.1 l.2.2.2.2.1 l.2.2.2.2.2.1) sp1 v hh
noncomputable def body : Code := (Go.Func.body Try.f42).getD .skip
noncomputable def Γ : List (FuncId × AFun U) := [(12, ref08_Parts.A)]
noncomputable def Λ : List (Nat × LFun U) := []
noncomputable def CT : List (Nat × LFun U) := []
def ro : List FuncId := []
def D : Nat → Lv × Lv := dtab []
noncomputable def E : Env U := { E0 with Γ := Γ, Λ := Λ, C := CT, D := D, ro := ro }
theorem hk (R : Type) (l : TA) (K : AV U → Hp U → Option R) : funcA E Try.f42 [] R (pA.mkL l.1) (pH.mkH l.2) K = (t l.1.2.1 l.1.2.2.1 l.2.1.2.1 l.2.1.2.2.1 l.2.1.2.2.2.1 l.2.1.2.2.2.2.1 l.2.1.2.2.2.2.2.1 l.2.1.2.2.2.2.2.2.1 l.2.2.1.2.1 l.2.2.1.2.2.2.1 l.2.2.1.2.2.2.2.1 l.2.2.1.2.2.2.2.2.1 l.2.2.2.1 l.2.2.2.2.1 l.2.2.2.2.2.1).runK fun y => K (v l y) (hh l y) := by kernel_rfl
theorem okF : SoundF Try.prog cc 42 (funcA E Try.f42 []) :=
  funcA_ok (E := E) P_mixed (E0_ok.with Γ Λ CT D ro) (gam_of (all_cons ⟨ref08_Parts.ok, ⟨Try.f12, Try.func12, by kernel_rfl, by kernel_rfl⟩⟩ all_nil) (all_cons (no_keep (by kernel_rfl)) all_nil)) Try.func42 (c := body) (by kernel_rfl)
    (just_by (by kernel_rfl) (by kernel_rfl) all_nil all_nil) []
theorem ok : SoundF Try.prog cc 42 A :=
  mkA_ok (E := E) (p := pA) (q := pH) (t := fun (l : TA) => t l.1.2.1 l.1.2.2.1 l.2.1.2.1 l.2.1.2.2.1 l.2.1.2.2.2.1 l.2.1.2.2.2.2.1 l.2.1.2.2.2.2.2.1 l.2.1.2.2.2.2.2.2.1 l.2.2.1.2.1 l.2.2.1.2.2.2.1 l.2.2.1.2.2.2.2.1 l.2.2.1.2.2.2.2.2.1 l.2.2.2.1 l.2.2.2.2.1 l.2.2.2.2.2.1) sp1_ok hk okF
theorem keep : KeepA A := mkA_keep (U := U) sp1_ok (fun (l : TA) y => ⟨(hh l y).drop 5, by kernel_rfl⟩)
end ref32_bad_v2

/-! instar/instarref32.Chunk -/
namespace ref32_Chunk_v2
abbrev TA : Type := ((Unit × (Int × (Int × (Int × ((List Int) × Unit))))) × ((Unit × (Int × (Int × (Int × (Int × (Int × (Int × Unit))))))) × ((Unit × (Int × (Unit × (Int × (Bool × (Int × (Unit × Unit))))))) × ((List Int) × ((List Int) × ((List Int) × Unit))))))
noncomputable def t (slot total i : Int) (b : (List Int)) (h0_1 h0_2 h0_3 h0_4 h0_5 h0_6 h1_1 h1_3 : Int) (h1_4 : Bool) (h1_5 : Int) (h2 : (List Int)) (h3 : (List Int)) (h4 : (List Int)) : Tw (Int × (Int × (Bool × (Int × ((List Int) × (List Int)))))) :=
 (.opt (ref32_bad_v2.c slot total h0_1 h0_2 h0_3 h0_4 h0_5 h0_6 h1_1 h1_3 h1_4 h1_5 h2 h3 h4) fun z1 =>
  (.bb (z1 != (0 : Int))
   (.ret (z1, (h1_3, (h1_4, (h1_5, (h2, h3))))))
   (.opt (ref08_Parts.c h0_1 h0_2 h0_3 h0_4 h0_5 h0_6 total) fun z2 =>
    (.bb (decide (i < (0 : Int)))
     (.ret ((2 : Int), (h1_3, (h1_4, (h1_5, (h2, h3))))))
     (.bb (decide (i ≥ (((List.length z2) : Nat) : Int)))
      (.ret ((2 : Int), (h1_3, (h1_4, (h1_5, (h2, h3))))))
      (.dd ((((0 : Int) ≤ i) ∧ (i < (((List.length z2) : Nat) : Int)))) inferInstance
       (.opt (z2)[(Int.toNat i)]? fun z3 =>
        (.bb ((((List.length b) : Nat) : Int) != z3)
         (.ret ((2 : Int), (h1_3, (h1_4, (h1_5, (h2, h3))))))
         (.opt (ref08_Find.c h0_1 h0_2 h0_3 h0_4 h0_5 h0_6 (2 : Int) slot i) fun z4 =>
          (.opt (ref01_Pack.c b) fun z5 =>
           (.opt (ref09_Drive_Fresh_v2.c z4 z5 h0_1 h0_2 h0_3 h0_4 h0_5 h0_6 h1_1 h1_3 h1_4 h1_5 h2 h3 h4) fun z6 =>
            (.bb (z6.1 != (0 : Int))
             (.ret (z6.1, (z6.2.1, (z6.2.2.1, (z6.2.2.2.1, (z6.2.2.2.2.1, z6.2.2.2.2.2))))))
             (.opt (ref08_Find.c h0_1 h0_2 h0_3 h0_4 h0_5 h0_6 (1 : Int) slot (0 : Int)) fun z7 =>
              (.opt (ref09_Drive_Write_v2.c z7 i ((0 : Int) :: ([] : List (Int))) h0_1 h0_2 h0_3 h0_4 h0_5 h0_6 h1_1 z6.2.1 z6.2.2.1 z6.2.2.2.1 z6.2.2.2.2.1 z6.2.2.2.2.2 h4) fun z8 =>
               (.ret (z8.1, (z8.2.1, (z8.2.2.1, (z8.2.2.2.1, (z8.2.2.2.2, z6.2.2.2.2.2))))))))))))))
       .no))))))
noncomputable def c (slot total i : Int) (b : (List Int)) (h0_1 h0_2 h0_3 h0_4 h0_5 h0_6 h1_1 h1_3 : Int) (h1_4 : Bool) (h1_5 : Int) (h2 : (List Int)) (h3 : (List Int)) (h4 : (List Int)) : Option (Int × (Int × (Bool × (Int × ((List Int) × (List Int)))))) := (t slot total i b h0_1 h0_2 h0_3 h0_4 h0_5 h0_6 h1_1 h1_3 h1_4 h1_5 h2 h3 h4).run
def pA : Pt := (.cs (.ptr 0 0) (.cs (.int .i64) (.cs (.int .i64) (.cs (.int .i64) (.cs (.sl 2) .nl)))))
def pH : Pt := (.cs (.var (.cs (.ptr 1 0) (.cs (.int .i64) (.cs (.int .i64) (.cs (.int .i64) (.cs (.int .i64) (.cs (.int .i64) (.cs (.int .i64) .nl)))))))) (.cs (.var (.cs (.own 2) (.cs (.int .i64) (.cs (.own 3) (.cs (.int .i64) (.cs .bool (.cs (.int .i64) (.cs (.own 4) .nl)))))))) (.cs (.row 3 true) (.cs (.row 1 true) (.cs (.row 3 true) .nl)))))
def v (l : TA) (y : (Int × (Int × (Bool × (Int × ((List Int) × (List Int))))))) : AV U := .im (.int .i64 y.1)
def hh (l : TA) (y : (Int × (Int × (Bool × (Int × ((List Int) × (List Int))))))) : Hp U := [.var [.ptr 1 0, .im (.int .i64 l.2.1.2.1), .im (.int .i64 l.2.1.2.2.1), .im (.int .i64 l.2.1.2.2.2.1), .im (.int .i64 l.2.1.2.2.2.2.1), .im (.int .i64 l.2.1.2.2.2.2.2.1), .im (.int .i64 l.2.1.2.2.2.2.2.2.1)], .var [.own 2, .im (.int .i64 l.2.2.1.2.1), .own 3, .im (.int .i64 y.2.1), .im (.bool y.2.2.1), .im (.int .i64 y.2.2.2.1), .own 4], .row 3 y.2.2.2.2.1 true, .row 1 y.2.2.2.2.2 true, .row 3 l.2.2.2.2.2.1 true]
noncomputable def A : AFun U := mkA (U := U) pA pH (X := (Int × (Int × (Bool × (Int × ((List Int) × (List Int))))))) (fun (l : TA) => c l.1.2.1 l.1.2.2.1 l.1.2.2.2.1 l.1.2.2.2.2.1 l.2.1.2.1 l.2.1.2.2.1 l.2.1.2.2.2.1 l.2.1.2.2.2.2.1 l.2.1.2.2.2.2.2.1 l.2.1.2.2.2.2.2.2.1 l.2.2.1.2.1 l.2.2.1.2.2.2.1 l.2.2.1.2.2.2.2.1 l.2.2.1.2.2.2.2.2.1 l.2.2.2.1 l.2.2.2.2.1 l.2.2.2.2.2.1) sp1 v hh
noncomputable def body : Code := (Go.Func.body Try.f41).getD .skip
noncomputable def Γ : List (FuncId × AFun U) := [(42, ref32_bad_v2.A), (12, ref08_Parts.A), (18, ref08_Find.A), (22, ref01_Pack.A), (64, ref09_Drive_Fresh_v2.A), (65, ref09_Drive_Write_v2.A)]
noncomputable def Λ : List (Nat × LFun U) := []
noncomputable def CT : List (Nat × LFun U) := []
def ro : List FuncId := [42]
def D : Nat → Lv × Lv := dtab []
noncomputable def E : Env U := { E0 with Γ := Γ, Λ := Λ, C := CT, D := D, ro := ro }
theorem hk (R : Type) (l : TA) (K : AV U → Hp U → Option R) : funcA E Try.f41 [] R (pA.mkL l.1) (pH.mkH l.2) K = (t l.1.2.1 l.1.2.2.1 l.1.2.2.2.1 l.1.2.2.2.2.1 l.2.1.2.1 l.2.1.2.2.1 l.2.1.2.2.2.1 l.2.1.2.2.2.2.1 l.2.1.2.2.2.2.2.1 l.2.1.2.2.2.2.2.2.1 l.2.2.1.2.1 l.2.2.1.2.2.2.1 l.2.2.1.2.2.2.2.1 l.2.2.1.2.2.2.2.2.1 l.2.2.2.1 l.2.2.2.2.1 l.2.2.2.2.2.1).runK fun y => K (v l y) (hh l y) := by kernel_rfl
theorem okF : SoundF Try.prog cc 41 (funcA E Try.f41 []) :=
  funcA_ok (E := E) P_mixed (E0_ok.with Γ Λ CT D ro) (gam_of (all_cons ⟨ref32_bad_v2.ok, ⟨Try.f42, Try.func42, by kernel_rfl, by kernel_rfl⟩⟩ (all_cons ⟨ref08_Parts.ok, ⟨Try.f12, Try.func12, by kernel_rfl, by kernel_rfl⟩⟩ (all_cons ⟨ref08_Find.ok, ⟨Try.f18, Try.func18, by kernel_rfl, by kernel_rfl⟩⟩ (all_cons ⟨ref01_Pack.ok, ⟨Try.f22, Try.func22, by kernel_rfl, by kernel_rfl⟩⟩ (all_cons ⟨ref09_Drive_Fresh_v2.ok, ⟨Try.f64, Try.func64, by kernel_rfl, by kernel_rfl⟩⟩ (all_cons ⟨ref09_Drive_Write_v2.ok, ⟨Try.f65, Try.func65, by kernel_rfl, by kernel_rfl⟩⟩ all_nil)))))) (all_cons (fun _ => ref32_bad_v2.keep) (all_cons (no_keep (by kernel_rfl)) (all_cons (no_keep (by kernel_rfl)) (all_cons (no_keep (by kernel_rfl)) (all_cons (no_keep (by kernel_rfl)) (all_cons (no_keep (by kernel_rfl)) all_nil))))))) Try.func41 (c := body) (by kernel_rfl)
    (just_by (by kernel_rfl) (by kernel_rfl) all_nil all_nil) []
theorem ok : SoundF Try.prog cc 41 A :=
  mkA_ok (E := E) (p := pA) (q := pH) (t := fun (l : TA) => t l.1.2.1 l.1.2.2.1 l.1.2.2.2.1 l.1.2.2.2.2.1 l.2.1.2.1 l.2.1.2.2.1 l.2.1.2.2.2.1 l.2.1.2.2.2.2.1 l.2.1.2.2.2.2.2.1 l.2.1.2.2.2.2.2.2.1 l.2.2.1.2.1 l.2.2.1.2.2.2.1 l.2.2.1.2.2.2.2.1 l.2.2.1.2.2.2.2.2.1 l.2.2.2.1 l.2.2.2.2.1 l.2.2.2.2.2.1) sp1_ok hk okF
end ref32_Chunk_v2

/-! instar/instarref32.Bytes -/
namespace ref32_Bytes_v2
abbrev TA : Type := ((Unit × (Int × (Int × Unit))) × ((Unit × (Int × (Int × (Int × (Int × (Int × (Int × Unit))))))) × ((Unit × (Int × (Unit × (Int × (Bool × (Int × (Unit × Unit))))))) × ((List Int) × ((List Int) × ((List Int) × Unit))))))
abbrev T7 : Type := ((Unit × (Int × (Unit × (Unit × (Unit × (Int × (Unit × Unit))))))) × ((Unit × (Int × (Int × (Int × (Int × (Int × (Int × Unit))))))) × ((Unit × (Int × (Unit × (Int × (Bool × (Int × (Unit × Unit))))))) × ((List Int) × ((List Int) × ((List Int) × ((List Int) × ((List Int) × Unit))))))))
noncomputable def l7 (slot h0_1 h0_2 h0_3 h0_4 h0_5 h0_6 h1_1 h1_3 : Int) (h1_4 : Bool) (h1_5 : Int) (h2 : (List Int)) (h3 : (List Int)) (h4 : (List Int)) (h5 : (List Int)) (i : Int) (h6 : (List Int)) : Tw ((Int × (List Int)) ⊕ ((List Int) ⊕ (Int × (List Int)))) :=
 (.bb (decide (i < (((List.length h5) : Nat) : Int)))
  (.opt (ref08_Find.c h0_1 h0_2 h0_3 h0_4 h0_5 h0_6 (2 : Int) slot i) fun z3 =>
   (.dd ((((0 : Int) ≤ i) ∧ (i < (((List.length h5) : Nat) : Int)))) inferInstance
    (.opt (h5)[(Int.toNat i)]? fun z4 =>
     (.opt (ref01_Need.c z4) fun z5 =>
      (.opt (ref09_Drive_Read_v2.c z3 (0 : Int) z5 h0_1 h0_2 h0_3 h0_4 h0_5 h0_6 h1_1 h1_3 h1_4 h1_5 h2 h3 h4) fun z6 =>
       (.bb (z6.1 != (0 : Int))
        (.ret (.inr (.inr (z6.1, h6))))
        (.dd ((((0 : Int) ≤ i) ∧ (i < (((List.length h5) : Nat) : Int)))) inferInstance
         (.opt (h5)[(Int.toNat i)]? fun z7 =>
          (.opt (ref01_Bytes.c z6.2 z7) fun z8 =>
           (.bb (z8.2 != (0 : Int))
            (.ret (.inr (.inr ((12 : Int), h6))))
            (.dd ((((((List.length h6) + (List.length z8.1)) * (1 : Nat)) ≤ (140737488355328 : Nat)) ∧ (((List.length h6) + (List.length z8.1)) ≤ (140737488355328 : Nat)))) inferInstance
             (.ret (.inl ((w64 (i + (1 : Int))), (h6 ++ z8.1))))
             .no))))
         .no)))))
    .no))
  (.ret (.inr (.inl h6))))
noncomputable def L7 (slot i h0_1 h0_2 h0_3 h0_4 h0_5 h0_6 h1_1 h1_3 : Int) (h1_4 : Bool) (h1_5 : Int) (h2 : (List Int)) (h3 : (List Int)) (h4 : (List Int)) (h5 : (List Int)) (h6 : (List Int)) : Option ((List Int) ⊕ (Int × (List Int))) := Lp (fun s => (l7 slot h0_1 h0_2 h0_3 h0_4 h0_5 h0_6 h1_1 h1_3 h1_4 h1_5 h2 h3 h4 h5 s.1 s.2).run) (i, h6)
def p7 : Pt := (.cs (.ptr 0 0) (.cs (.int .i64) (.cs (.bots 7) (.cs (.own 5) (.cs (.own 6) (.cs (.int .i64) (.cs (.bots 58) .nl)))))))
def q7 : Pt := (.cs (.var (.cs (.ptr 1 0) (.cs (.int .i64) (.cs (.int .i64) (.cs (.int .i64) (.cs (.int .i64) (.cs (.int .i64) (.cs (.int .i64) .nl)))))))) (.cs (.var (.cs (.own 2) (.cs (.int .i64) (.cs (.own 3) (.cs (.int .i64) (.cs .bool (.cs (.int .i64) (.cs (.own 4) .nl)))))))) (.cs (.row 3 true) (.cs (.row 1 true) (.cs (.row 3 true) (.cs (.row 1 true) (.cs (.row 2 true) .nl)))))))
def ou7 (l : T7) (y : ((List Int) ⊕ (Int × (List Int)))) : Ex × St U := (Sum.elim (fun a0 => (.exit 0, stOf 70 [(10, .own 5)] [.var [.ptr 1 0, .im (.int .i64 l.2.1.2.1), .im (.int .i64 l.2.1.2.2.1), .im (.int .i64 l.2.1.2.2.2.1), .im (.int .i64 l.2.1.2.2.2.2.1), .im (.int .i64 l.2.1.2.2.2.2.2.1), .im (.int .i64 l.2.1.2.2.2.2.2.2.1)], .var [.own 2, .im (.int .i64 l.2.2.1.2.1), .own 3, .im (.int .i64 l.2.2.1.2.2.2.1), .im (.bool l.2.2.1.2.2.2.2.1), .im (.int .i64 l.2.2.1.2.2.2.2.2.1), .own 4], .row 3 l.2.2.2.1 true, .row 1 l.2.2.2.2.1 true, .row 3 l.2.2.2.2.2.1 true, .row 2 a0 true] 5)) (fun b0 => (.ret, stOf 70 [(6, .im .nils), (7, .im (.int .i64 b0.1)), (10, .own 5)] [.var [.ptr 1 0, .im (.int .i64 l.2.1.2.1), .im (.int .i64 l.2.1.2.2.1), .im (.int .i64 l.2.1.2.2.2.1), .im (.int .i64 l.2.1.2.2.2.2.1), .im (.int .i64 l.2.1.2.2.2.2.2.1), .im (.int .i64 l.2.1.2.2.2.2.2.2.1)], .var [.own 2, .im (.int .i64 l.2.2.1.2.1), .own 3, .im (.int .i64 l.2.2.1.2.2.2.1), .im (.bool l.2.2.1.2.2.2.2.1), .im (.int .i64 l.2.2.1.2.2.2.2.2.1), .own 4], .row 3 l.2.2.2.1 true, .row 1 l.2.2.2.2.1 true, .row 3 l.2.2.2.2.2.1 true, .row 2 b0.2 true] 5)) y)
noncomputable def Λ7 : LFun U := mkLp (U := U) p7 q7 5 (X := ((List Int) ⊕ (Int × (List Int)))) (fun (l : T7) => L7 l.1.2.1 l.1.2.2.2.2.2.1 l.2.1.2.1 l.2.1.2.2.1 l.2.1.2.2.2.1 l.2.1.2.2.2.2.1 l.2.1.2.2.2.2.2.1 l.2.1.2.2.2.2.2.2.1 l.2.2.1.2.1 l.2.2.1.2.2.2.1 l.2.2.1.2.2.2.2.1 l.2.2.1.2.2.2.2.2.1 l.2.2.2.1 l.2.2.2.2.1 l.2.2.2.2.2.1 l.2.2.2.2.2.2.1 l.2.2.2.2.2.2.2.1) (spS sp1) ou7
noncomputable def t (slot total h0_1 h0_2 h0_3 h0_4 h0_5 h0_6 h1_1 h1_3 : Int) (h1_4 : Bool) (h1_5 : Int) (h2 : (List Int)) (h3 : (List Int)) (h4 : (List Int)) : Tw (Int × (List Int)) :=
 (.opt (ref32_bad_v2.c slot total h0_1 h0_2 h0_3 h0_4 h0_5 h0_6 h1_1 h1_3 h1_4 h1_5 h2 h3 h4) fun z1 =>
  (.bb (z1 != (0 : Int))
   (.ret (z1, ([] : List (Int))))
   (.opt (ref08_Parts.c h0_1 h0_2 h0_3 h0_4 h0_5 h0_6 total) fun z2 =>
    (.opt (L7 slot (0 : Int) h0_1 h0_2 h0_3 h0_4 h0_5 h0_6 h1_1 h1_3 h1_4 h1_5 h2 h3 h4 z2 ([] : List (Int))) fun z9 =>
     (.sm z9
      (fun z10 => (.ret ((0 : Int), z10)))
      (fun z11 => (.ret (z11.1, ([] : List (Int))))))))))
noncomputable def c (slot total h0_1 h0_2 h0_3 h0_4 h0_5 h0_6 h1_1 h1_3 : Int) (h1_4 : Bool) (h1_5 : Int) (h2 : (List Int)) (h3 : (List Int)) (h4 : (List Int)) : Option (Int × (List Int)) := (t slot total h0_1 h0_2 h0_3 h0_4 h0_5 h0_6 h1_1 h1_3 h1_4 h1_5 h2 h3 h4).run
def pA : Pt := (.cs (.ptr 0 0) (.cs (.int .i64) (.cs (.int .i64) .nl)))
def pH : Pt := (.cs (.var (.cs (.ptr 1 0) (.cs (.int .i64) (.cs (.int .i64) (.cs (.int .i64) (.cs (.int .i64) (.cs (.int .i64) (.cs (.int .i64) .nl)))))))) (.cs (.var (.cs (.own 2) (.cs (.int .i64) (.cs (.own 3) (.cs (.int .i64) (.cs .bool (.cs (.int .i64) (.cs (.own 4) .nl)))))))) (.cs (.row 3 true) (.cs (.row 1 true) (.cs (.row 3 true) .nl)))))
def v (l : TA) (y : (Int × (List Int))) : AV U := .tup [.own 5, .im (.int .i64 y.1)]
def hh (l : TA) (y : (Int × (List Int))) : Hp U := [.var [.ptr 1 0, .im (.int .i64 l.2.1.2.1), .im (.int .i64 l.2.1.2.2.1), .im (.int .i64 l.2.1.2.2.2.1), .im (.int .i64 l.2.1.2.2.2.2.1), .im (.int .i64 l.2.1.2.2.2.2.2.1), .im (.int .i64 l.2.1.2.2.2.2.2.2.1)], .var [.own 2, .im (.int .i64 l.2.2.1.2.1), .own 3, .im (.int .i64 l.2.2.1.2.2.2.1), .im (.bool l.2.2.1.2.2.2.2.1), .im (.int .i64 l.2.2.1.2.2.2.2.2.1), .own 4], .row 3 l.2.2.2.1 true, .row 1 l.2.2.2.2.1 true, .row 3 l.2.2.2.2.2.1 true, .row 2 y.2 true]
noncomputable def A : AFun U := mkA (U := U) pA pH (X := (Int × (List Int))) (fun (l : TA) => c l.1.2.1 l.1.2.2.1 l.2.1.2.1 l.2.1.2.2.1 l.2.1.2.2.2.1 l.2.1.2.2.2.2.1 l.2.1.2.2.2.2.2.1 l.2.1.2.2.2.2.2.2.1 l.2.2.1.2.1 l.2.2.1.2.2.2.1 l.2.2.1.2.2.2.2.1 l.2.2.1.2.2.2.2.2.1 l.2.2.2.1 l.2.2.2.2.1 l.2.2.2.2.2.1) sp1 v hh
noncomputable def body : Code := (Go.Func.body Try.f39).getD .skip
noncomputable def Γ : List (FuncId × AFun U) := [(42, ref32_bad_v2.A), (12, ref08_Parts.A), (18, ref08_Find.A), (21, ref01_Need.A), (19, ref09_Drive_Read_v2.A), (63, ref01_Bytes.A)]
noncomputable def Λ : List (Nat × LFun U) := [(7, Λ7)]
noncomputable def CT : List (Nat × LFun U) := []
def ro : List FuncId := [42, 19]
def D : Nat → Lv × Lv := dtab [(7, ⟨[11, 10, 9, 1, 0], [(10, [], .own 2)]⟩, ⟨[6, 7, 10], []⟩)]
noncomputable def E : Env U := { E0 with Γ := Γ, Λ := Λ, C := CT, D := D, ro := ro }
theorem hf7 (R : Type) (l : T7) (s : (Int × (List Int))) (K : Ex → St U → Option R) : codeA E (pick (loopsOf body) 7) ⟨p7.mkL ((((), (l.1.2.1, ((), ((), ((), (s.1, ((), ()))))))), (((), (l.2.1.2.1, (l.2.1.2.2.1, (l.2.1.2.2.2.1, (l.2.1.2.2.2.2.1, (l.2.1.2.2.2.2.2.1, (l.2.1.2.2.2.2.2.2.1, ()))))))), (((), (l.2.2.1.2.1, ((), (l.2.2.1.2.2.2.1, (l.2.2.1.2.2.2.2.1, (l.2.2.1.2.2.2.2.2.1, ((), ()))))))), (l.2.2.2.1, (l.2.2.2.2.1, (l.2.2.2.2.2.1, (l.2.2.2.2.2.2.1, (s.2, ())))))))) : T7).1, q7.mkH ((((), (l.1.2.1, ((), ((), ((), (s.1, ((), ()))))))), (((), (l.2.1.2.1, (l.2.1.2.2.1, (l.2.1.2.2.2.1, (l.2.1.2.2.2.2.1, (l.2.1.2.2.2.2.2.1, (l.2.1.2.2.2.2.2.2.1, ()))))))), (((), (l.2.2.1.2.1, ((), (l.2.2.1.2.2.2.1, (l.2.2.1.2.2.2.2.1, (l.2.2.1.2.2.2.2.2.1, ((), ()))))))), (l.2.2.2.1, (l.2.2.2.2.1, (l.2.2.2.2.2.1, (l.2.2.2.2.2.2.1, (s.2, ())))))))) : T7).2, 5⟩ (roundK E (pick (loopsOf body) 7) K) =
  (l7 l.1.2.1 l.2.1.2.1 l.2.1.2.2.1 l.2.1.2.2.2.1 l.2.1.2.2.2.2.1 l.2.1.2.2.2.2.2.1 l.2.1.2.2.2.2.2.2.1 l.2.2.1.2.1 l.2.2.1.2.2.2.1 l.2.2.1.2.2.2.2.1 l.2.2.1.2.2.2.2.2.1 l.2.2.2.1 l.2.2.2.2.1 l.2.2.2.2.2.1 l.2.2.2.2.2.2.1 s.1 s.2).runK (lpK K (fun s => ⟨p7.mkL ((((), (l.1.2.1, ((), ((), ((), (s.1, ((), ()))))))), (((), (l.2.1.2.1, (l.2.1.2.2.1, (l.2.1.2.2.2.1, (l.2.1.2.2.2.2.1, (l.2.1.2.2.2.2.2.1, (l.2.1.2.2.2.2.2.2.1, ()))))))), (((), (l.2.2.1.2.1, ((), (l.2.2.1.2.2.2.1, (l.2.2.1.2.2.2.2.1, (l.2.2.1.2.2.2.2.2.1, ((), ()))))))), (l.2.2.2.1, (l.2.2.2.2.1, (l.2.2.2.2.2.1, (l.2.2.2.2.2.2.1, (s.2, ())))))))) : T7).1, q7.mkH ((((), (l.1.2.1, ((), ((), ((), (s.1, ((), ()))))))), (((), (l.2.1.2.1, (l.2.1.2.2.1, (l.2.1.2.2.2.1, (l.2.1.2.2.2.2.1, (l.2.1.2.2.2.2.2.1, (l.2.1.2.2.2.2.2.2.1, ()))))))), (((), (l.2.2.1.2.1, ((), (l.2.2.1.2.2.2.1, (l.2.2.1.2.2.2.2.1, (l.2.2.1.2.2.2.2.2.1, ((), ()))))))), (l.2.2.2.1, (l.2.2.2.2.1, (l.2.2.2.2.2.1, (l.2.2.2.2.2.2.1, (s.2, ())))))))) : T7).2, 5⟩) (spS sp1) (ou7 l)) := by kernel_rfl
theorem lk7 (R : Type) (st : St U) (K : Ex → St U → Option R) (r : R) (h : Λ7 R st K = some r) : ∃ n, loopA E (pick (loopsOf body) 7) n st K = some r :=
  lp_ok (U := U) (E := E) (b := pick (loopsOf body) 7) (m := 5) (sp := (spS sp1)) (p := p7) (q := q7) (X := ((List Int) ⊕ (Int × (List Int)))) (S := (Int × (List Int))) (f := fun (l : T7) s => l7 l.1.2.1 l.2.1.2.1 l.2.1.2.2.1 l.2.1.2.2.2.1 l.2.1.2.2.2.2.1 l.2.1.2.2.2.2.2.1 l.2.1.2.2.2.2.2.2.1 l.2.2.1.2.1 l.2.2.1.2.2.2.1 l.2.2.1.2.2.2.2.1 l.2.2.1.2.2.2.2.2.1 l.2.2.2.1 l.2.2.2.2.1 l.2.2.2.2.2.1 l.2.2.2.2.2.2.1 s.1 s.2) (hd := fun (l : T7) s => (((), (l.1.2.1, ((), ((), ((), (s.1, ((), ()))))))), (((), (l.2.1.2.1, (l.2.1.2.2.1, (l.2.1.2.2.2.1, (l.2.1.2.2.2.2.1, (l.2.1.2.2.2.2.2.1, (l.2.1.2.2.2.2.2.2.1, ()))))))), (((), (l.2.2.1.2.1, ((), (l.2.2.1.2.2.2.1, (l.2.2.1.2.2.2.2.1, (l.2.2.1.2.2.2.2.2.1, ((), ()))))))), (l.2.2.2.1, (l.2.2.2.2.1, (l.2.2.2.2.2.1, (l.2.2.2.2.2.2.1, (s.2, ()))))))))) (s0 := fun (l : T7) => (l.1.2.2.2.2.2.1, l.2.2.2.2.2.2.2.1)) (ou := ou7)
    (fun l => rfl) (fun l x => by repeat' (first | rfl | (cases x with | inl => rfl | inr x => ?_))) (spS_ok sp1_ok) hf7 h
theorem hk (R : Type) (l : TA) (K : AV U → Hp U → Option R) : funcA E Try.f39 [(0, [], .own 2)] R (pA.mkL l.1) (pH.mkH l.2) K = (t l.1.2.1 l.1.2.2.1 l.2.1.2.1 l.2.1.2.2.1 l.2.1.2.2.2.1 l.2.1.2.2.2.2.1 l.2.1.2.2.2.2.2.1 l.2.1.2.2.2.2.2.2.1 l.2.2.1.2.1 l.2.2.1.2.2.2.1 l.2.2.1.2.2.2.2.1 l.2.2.1.2.2.2.2.2.1 l.2.2.2.1 l.2.2.2.2.1 l.2.2.2.2.2.1).runK fun y => K (v l y) (hh l y) := by kernel_rfl
theorem okF : SoundF Try.prog cc 39 (funcA E Try.f39 [(0, [], .own 2)]) :=
  funcA_ok (E := E) P_mixed (E0_ok.with Γ Λ CT D ro) (gam_of (all_cons ⟨ref32_bad_v2.ok, ⟨Try.f42, Try.func42, by kernel_rfl, by kernel_rfl⟩⟩ (all_cons ⟨ref08_Parts.ok, ⟨Try.f12, Try.func12, by kernel_rfl, by kernel_rfl⟩⟩ (all_cons ⟨ref08_Find.ok, ⟨Try.f18, Try.func18, by kernel_rfl, by kernel_rfl⟩⟩ (all_cons ⟨ref01_Need.ok, ⟨Try.f21, Try.func21, by kernel_rfl, by kernel_rfl⟩⟩ (all_cons ⟨ref09_Drive_Read_v2.ok, ⟨Try.f19, Try.func19, by kernel_rfl, by kernel_rfl⟩⟩ (all_cons ⟨ref01_Bytes.ok, ⟨Try.f63, Try.func63, by kernel_rfl, by kernel_rfl⟩⟩ all_nil)))))) (all_cons (fun _ => ref32_bad_v2.keep) (all_cons (no_keep (by kernel_rfl)) (all_cons (no_keep (by kernel_rfl)) (all_cons (no_keep (by kernel_rfl)) (all_cons (fun _ => ref09_Drive_Read_v2.keep) (all_cons (no_keep (by kernel_rfl)) all_nil))))))) Try.func39 (c := body) (by kernel_rfl)
    (just_by (by kernel_rfl) (by kernel_rfl) (all_cons lk7 all_nil) all_nil) [(0, [], .own 2)]
theorem ok : SoundF Try.prog cc 39 A :=
  mkA_ok (E := E) (p := pA) (q := pH) (t := fun (l : TA) => t l.1.2.1 l.1.2.2.1 l.2.1.2.1 l.2.1.2.2.1 l.2.1.2.2.2.1 l.2.1.2.2.2.2.1 l.2.1.2.2.2.2.2.1 l.2.1.2.2.2.2.2.2.1 l.2.2.1.2.1 l.2.2.1.2.2.2.1 l.2.2.1.2.2.2.2.1 l.2.2.1.2.2.2.2.2.1 l.2.2.2.1 l.2.2.2.2.1 l.2.2.2.2.2.1) sp1_ok hk okF
theorem keep : KeepA A := mkA_keep (U := U) sp1_ok (fun (l : TA) y => ⟨(hh l y).drop 5, by kernel_rfl⟩)
end ref32_Bytes_v2

/-! instar/instarref32.Done -/
namespace ref32_Done_v2
abbrev TA : Type := ((Unit × (Int × (Int × Unit))) × ((Unit × (Int × (Int × (Int × (Int × (Int × (Int × Unit))))))) × ((Unit × (Int × (Unit × (Int × (Bool × (Int × (Unit × Unit))))))) × ((List Int) × ((List Int) × ((List Int) × Unit))))))
abbrev T6 : Type := ((Unit × (Unit × (Int × (Int × (Unit × Unit))))) × ((Unit × (Int × (Int × (Int × (Int × (Int × (Int × Unit))))))) × ((Unit × (Int × (Unit × (Int × (Bool × (Int × (Unit × Unit))))))) × ((List Int) × ((List Int) × ((List Int) × ((List Int) × Unit)))))))
noncomputable def l6 (e h0_1 h0_2 h0_3 h0_4 h0_5 h0_6 h1_1 h1_3 : Int) (h1_4 : Bool) (h1_5 : Int) (h2 : (List Int)) (h3 : (List Int)) (h4 : (List Int)) (h5 : (List Int)) (n : Int) : Tw (Int ⊕ Int) :=
 (.bb (decide (n < (((List.length h5) : Nat) : Int)))
  (.dd ((((0 : Int) ≤ n) ∧ (n < (((List.length h5) : Nat) : Int)))) inferInstance
   (.opt (h5)[(Int.toNat n)]? fun z5 =>
    (.bb (z5 == (0 : Int))
     (.ret (.inl (w64 (n + (1 : Int)))))
     (.ret (.inr n))))
   .no)
  (.ret (.inr n)))
noncomputable def L6 (e n h0_1 h0_2 h0_3 h0_4 h0_5 h0_6 h1_1 h1_3 : Int) (h1_4 : Bool) (h1_5 : Int) (h2 : (List Int)) (h3 : (List Int)) (h4 : (List Int)) (h5 : (List Int)) : Option Int := Lp (fun s => (l6 e h0_1 h0_2 h0_3 h0_4 h0_5 h0_6 h1_1 h1_3 h1_4 h1_5 h2 h3 h4 h5 s).run) n
def p6 : Pt := (.cs (.bots 9) (.cs (.own 5) (.cs (.int .i64) (.cs (.int .i64) (.cs (.bots 40) .nl)))))
def q6 : Pt := (.cs (.var (.cs (.ptr 1 0) (.cs (.int .i64) (.cs (.int .i64) (.cs (.int .i64) (.cs (.int .i64) (.cs (.int .i64) (.cs (.int .i64) .nl)))))))) (.cs (.var (.cs (.own 2) (.cs (.int .i64) (.cs (.own 3) (.cs (.int .i64) (.cs .bool (.cs (.int .i64) (.cs (.own 4) .nl)))))))) (.cs (.row 3 true) (.cs (.row 1 true) (.cs (.row 3 true) (.cs (.row 3 true) .nl))))))
def ou6 (l : T6) (y : Int) : Ex × St U := (.exit 0, stOf 52 [(10, .im (.int .i64 l.1.2.2.1)), (11, .im (.int .i64 y))] [.var [.ptr 1 0, .im (.int .i64 l.2.1.2.1), .im (.int .i64 l.2.1.2.2.1), .im (.int .i64 l.2.1.2.2.2.1), .im (.int .i64 l.2.1.2.2.2.2.1), .im (.int .i64 l.2.1.2.2.2.2.2.1), .im (.int .i64 l.2.1.2.2.2.2.2.2.1)], .var [.own 2, .im (.int .i64 l.2.2.1.2.1), .own 3, .im (.int .i64 l.2.2.1.2.2.2.1), .im (.bool l.2.2.1.2.2.2.2.1), .im (.int .i64 l.2.2.1.2.2.2.2.2.1), .own 4], .row 3 l.2.2.2.1 true, .row 1 l.2.2.2.2.1 true, .row 3 l.2.2.2.2.2.1 true] 5)
noncomputable def Λ6 : LFun U := mkLp (U := U) p6 q6 5 (X := Int) (fun (l : T6) => L6 l.1.2.2.1 l.1.2.2.2.1 l.2.1.2.1 l.2.1.2.2.1 l.2.1.2.2.2.1 l.2.1.2.2.2.2.1 l.2.1.2.2.2.2.2.1 l.2.1.2.2.2.2.2.2.1 l.2.2.1.2.1 l.2.2.1.2.2.2.1 l.2.2.1.2.2.2.2.1 l.2.2.1.2.2.2.2.2.1 l.2.2.2.1 l.2.2.2.2.1 l.2.2.2.2.2.1 l.2.2.2.2.2.2.1) sp1 ou6
noncomputable def t (slot total h0_1 h0_2 h0_3 h0_4 h0_5 h0_6 h1_1 h1_3 : Int) (h1_4 : Bool) (h1_5 : Int) (h2 : (List Int)) (h3 : (List Int)) (h4 : (List Int)) : Tw (Int × Int) :=
 (.opt (ref32_bad_v2.c slot total h0_1 h0_2 h0_3 h0_4 h0_5 h0_6 h1_1 h1_3 h1_4 h1_5 h2 h3 h4) fun z1 =>
  (.bb (z1 != (0 : Int))
   (.ret ((0 : Int), z1))
   (.opt (ref08_Find.c h0_1 h0_2 h0_3 h0_4 h0_5 h0_6 (1 : Int) slot (0 : Int)) fun z2 =>
    (.opt (ref08_Parts.c h0_1 h0_2 h0_3 h0_4 h0_5 h0_6 total) fun z3 =>
     (.opt (ref09_Drive_Read_v2.c z2 (0 : Int) (((List.length z3) : Nat) : Int) h0_1 h0_2 h0_3 h0_4 h0_5 h0_6 h1_1 h1_3 h1_4 h1_5 h2 h3 h4) fun z4 =>
      (.opt (L6 z4.1 (0 : Int) h0_1 h0_2 h0_3 h0_4 h0_5 h0_6 h1_1 h1_3 h1_4 h1_5 h2 h3 h4 z4.2) fun z6 =>
       (.ret (z6, z4.1))))))))
noncomputable def c (slot total h0_1 h0_2 h0_3 h0_4 h0_5 h0_6 h1_1 h1_3 : Int) (h1_4 : Bool) (h1_5 : Int) (h2 : (List Int)) (h3 : (List Int)) (h4 : (List Int)) : Option (Int × Int) := (t slot total h0_1 h0_2 h0_3 h0_4 h0_5 h0_6 h1_1 h1_3 h1_4 h1_5 h2 h3 h4).run
def pA : Pt := (.cs (.ptr 0 0) (.cs (.int .i64) (.cs (.int .i64) .nl)))
def pH : Pt := (.cs (.var (.cs (.ptr 1 0) (.cs (.int .i64) (.cs (.int .i64) (.cs (.int .i64) (.cs (.int .i64) (.cs (.int .i64) (.cs (.int .i64) .nl)))))))) (.cs (.var (.cs (.own 2) (.cs (.int .i64) (.cs (.own 3) (.cs (.int .i64) (.cs .bool (.cs (.int .i64) (.cs (.own 4) .nl)))))))) (.cs (.row 3 true) (.cs (.row 1 true) (.cs (.row 3 true) .nl)))))
def v (l : TA) (y : (Int × Int)) : AV U := .tup [.im (.int .i64 y.1), .im (.int .i64 y.2)]
def hh (l : TA) (y : (Int × Int)) : Hp U := [.var [.ptr 1 0, .im (.int .i64 l.2.1.2.1), .im (.int .i64 l.2.1.2.2.1), .im (.int .i64 l.2.1.2.2.2.1), .im (.int .i64 l.2.1.2.2.2.2.1), .im (.int .i64 l.2.1.2.2.2.2.2.1), .im (.int .i64 l.2.1.2.2.2.2.2.2.1)], .var [.own 2, .im (.int .i64 l.2.2.1.2.1), .own 3, .im (.int .i64 l.2.2.1.2.2.2.1), .im (.bool l.2.2.1.2.2.2.2.1), .im (.int .i64 l.2.2.1.2.2.2.2.2.1), .own 4], .row 3 l.2.2.2.1 true, .row 1 l.2.2.2.2.1 true, .row 3 l.2.2.2.2.2.1 true]
noncomputable def A : AFun U := mkA (U := U) pA pH (X := (Int × Int)) (fun (l : TA) => c l.1.2.1 l.1.2.2.1 l.2.1.2.1 l.2.1.2.2.1 l.2.1.2.2.2.1 l.2.1.2.2.2.2.1 l.2.1.2.2.2.2.2.1 l.2.1.2.2.2.2.2.2.1 l.2.2.1.2.1 l.2.2.1.2.2.2.1 l.2.2.1.2.2.2.2.1 l.2.2.1.2.2.2.2.2.1 l.2.2.2.1 l.2.2.2.2.1 l.2.2.2.2.2.1) sp1 v hh
noncomputable def body : Code := (Go.Func.body Try.f17).getD .skip
noncomputable def Γ : List (FuncId × AFun U) := [(42, ref32_bad_v2.A), (18, ref08_Find.A), (12, ref08_Parts.A), (19, ref09_Drive_Read_v2.A)]
noncomputable def Λ : List (Nat × LFun U) := [(6, Λ6)]
noncomputable def CT : List (Nat × LFun U) := []
def ro : List FuncId := [42, 19]
def D : Nat → Lv × Lv := dtab [(6, ⟨[11, 10, 9], []⟩, ⟨[6, 7, 10, 11], []⟩)]
noncomputable def E : Env U := { E0 with Γ := Γ, Λ := Λ, C := CT, D := D, ro := ro }
theorem hf6 (R : Type) (l : T6) (s : Int) (K : Ex → St U → Option R) : codeA E (pick (loopsOf body) 6) ⟨p6.mkL ((((), ((), (l.1.2.2.1, (s, ((), ()))))), (((), (l.2.1.2.1, (l.2.1.2.2.1, (l.2.1.2.2.2.1, (l.2.1.2.2.2.2.1, (l.2.1.2.2.2.2.2.1, (l.2.1.2.2.2.2.2.2.1, ()))))))), (((), (l.2.2.1.2.1, ((), (l.2.2.1.2.2.2.1, (l.2.2.1.2.2.2.2.1, (l.2.2.1.2.2.2.2.2.1, ((), ()))))))), (l.2.2.2.1, (l.2.2.2.2.1, (l.2.2.2.2.2.1, (l.2.2.2.2.2.2.1, ()))))))) : T6).1, q6.mkH ((((), ((), (l.1.2.2.1, (s, ((), ()))))), (((), (l.2.1.2.1, (l.2.1.2.2.1, (l.2.1.2.2.2.1, (l.2.1.2.2.2.2.1, (l.2.1.2.2.2.2.2.1, (l.2.1.2.2.2.2.2.2.1, ()))))))), (((), (l.2.2.1.2.1, ((), (l.2.2.1.2.2.2.1, (l.2.2.1.2.2.2.2.1, (l.2.2.1.2.2.2.2.2.1, ((), ()))))))), (l.2.2.2.1, (l.2.2.2.2.1, (l.2.2.2.2.2.1, (l.2.2.2.2.2.2.1, ()))))))) : T6).2, 5⟩ (roundK E (pick (loopsOf body) 6) K) =
  (l6 l.1.2.2.1 l.2.1.2.1 l.2.1.2.2.1 l.2.1.2.2.2.1 l.2.1.2.2.2.2.1 l.2.1.2.2.2.2.2.1 l.2.1.2.2.2.2.2.2.1 l.2.2.1.2.1 l.2.2.1.2.2.2.1 l.2.2.1.2.2.2.2.1 l.2.2.1.2.2.2.2.2.1 l.2.2.2.1 l.2.2.2.2.1 l.2.2.2.2.2.1 l.2.2.2.2.2.2.1 s).runK (lpK K (fun s => ⟨p6.mkL ((((), ((), (l.1.2.2.1, (s, ((), ()))))), (((), (l.2.1.2.1, (l.2.1.2.2.1, (l.2.1.2.2.2.1, (l.2.1.2.2.2.2.1, (l.2.1.2.2.2.2.2.1, (l.2.1.2.2.2.2.2.2.1, ()))))))), (((), (l.2.2.1.2.1, ((), (l.2.2.1.2.2.2.1, (l.2.2.1.2.2.2.2.1, (l.2.2.1.2.2.2.2.2.1, ((), ()))))))), (l.2.2.2.1, (l.2.2.2.2.1, (l.2.2.2.2.2.1, (l.2.2.2.2.2.2.1, ()))))))) : T6).1, q6.mkH ((((), ((), (l.1.2.2.1, (s, ((), ()))))), (((), (l.2.1.2.1, (l.2.1.2.2.1, (l.2.1.2.2.2.1, (l.2.1.2.2.2.2.1, (l.2.1.2.2.2.2.2.1, (l.2.1.2.2.2.2.2.2.1, ()))))))), (((), (l.2.2.1.2.1, ((), (l.2.2.1.2.2.2.1, (l.2.2.1.2.2.2.2.1, (l.2.2.1.2.2.2.2.2.1, ((), ()))))))), (l.2.2.2.1, (l.2.2.2.2.1, (l.2.2.2.2.2.1, (l.2.2.2.2.2.2.1, ()))))))) : T6).2, 5⟩) sp1 (ou6 l)) := by kernel_rfl
theorem lk6 (R : Type) (st : St U) (K : Ex → St U → Option R) (r : R) (h : Λ6 R st K = some r) : ∃ n, loopA E (pick (loopsOf body) 6) n st K = some r :=
  lp_ok (U := U) (E := E) (b := pick (loopsOf body) 6) (m := 5) (sp := sp1) (p := p6) (q := q6) (X := Int) (S := Int) (f := fun (l : T6) s => l6 l.1.2.2.1 l.2.1.2.1 l.2.1.2.2.1 l.2.1.2.2.2.1 l.2.1.2.2.2.2.1 l.2.1.2.2.2.2.2.1 l.2.1.2.2.2.2.2.2.1 l.2.2.1.2.1 l.2.2.1.2.2.2.1 l.2.2.1.2.2.2.2.1 l.2.2.1.2.2.2.2.2.1 l.2.2.2.1 l.2.2.2.2.1 l.2.2.2.2.2.1 l.2.2.2.2.2.2.1 s) (hd := fun (l : T6) s => (((), ((), (l.1.2.2.1, (s, ((), ()))))), (((), (l.2.1.2.1, (l.2.1.2.2.1, (l.2.1.2.2.2.1, (l.2.1.2.2.2.2.1, (l.2.1.2.2.2.2.2.1, (l.2.1.2.2.2.2.2.2.1, ()))))))), (((), (l.2.2.1.2.1, ((), (l.2.2.1.2.2.2.1, (l.2.2.1.2.2.2.2.1, (l.2.2.1.2.2.2.2.2.1, ((), ()))))))), (l.2.2.2.1, (l.2.2.2.2.1, (l.2.2.2.2.2.1, (l.2.2.2.2.2.2.1, ())))))))) (s0 := fun (l : T6) => l.1.2.2.2.1) (ou := ou6)
    (fun l => rfl) (fun l x => by rfl) sp1_ok hf6 h
theorem hk (R : Type) (l : TA) (K : AV U → Hp U → Option R) : funcA E Try.f17 [] R (pA.mkL l.1) (pH.mkH l.2) K = (t l.1.2.1 l.1.2.2.1 l.2.1.2.1 l.2.1.2.2.1 l.2.1.2.2.2.1 l.2.1.2.2.2.2.1 l.2.1.2.2.2.2.2.1 l.2.1.2.2.2.2.2.2.1 l.2.2.1.2.1 l.2.2.1.2.2.2.1 l.2.2.1.2.2.2.2.1 l.2.2.1.2.2.2.2.2.1 l.2.2.2.1 l.2.2.2.2.1 l.2.2.2.2.2.1).runK fun y => K (v l y) (hh l y) := by kernel_rfl
theorem okF : SoundF Try.prog cc 17 (funcA E Try.f17 []) :=
  funcA_ok (E := E) P_mixed (E0_ok.with Γ Λ CT D ro) (gam_of (all_cons ⟨ref32_bad_v2.ok, ⟨Try.f42, Try.func42, by kernel_rfl, by kernel_rfl⟩⟩ (all_cons ⟨ref08_Find.ok, ⟨Try.f18, Try.func18, by kernel_rfl, by kernel_rfl⟩⟩ (all_cons ⟨ref08_Parts.ok, ⟨Try.f12, Try.func12, by kernel_rfl, by kernel_rfl⟩⟩ (all_cons ⟨ref09_Drive_Read_v2.ok, ⟨Try.f19, Try.func19, by kernel_rfl, by kernel_rfl⟩⟩ all_nil)))) (all_cons (fun _ => ref32_bad_v2.keep) (all_cons (no_keep (by kernel_rfl)) (all_cons (no_keep (by kernel_rfl)) (all_cons (fun _ => ref09_Drive_Read_v2.keep) all_nil))))) Try.func17 (c := body) (by kernel_rfl)
    (just_by (by kernel_rfl) (by kernel_rfl) (all_cons lk6 all_nil) all_nil) []
theorem ok : SoundF Try.prog cc 17 A :=
  mkA_ok (E := E) (p := pA) (q := pH) (t := fun (l : TA) => t l.1.2.1 l.1.2.2.1 l.2.1.2.1 l.2.1.2.2.1 l.2.1.2.2.2.1 l.2.1.2.2.2.2.1 l.2.1.2.2.2.2.2.1 l.2.1.2.2.2.2.2.2.1 l.2.2.1.2.1 l.2.2.1.2.2.2.1 l.2.2.1.2.2.2.2.1 l.2.2.1.2.2.2.2.2.1 l.2.2.2.1 l.2.2.2.2.1 l.2.2.2.2.2.1) sp1_ok hk okF
theorem keep : KeepA A := mkA_keep (U := U) sp1_ok (fun (l : TA) y => ⟨(hh l y).drop 5, by kernel_rfl⟩)
end ref32_Done_v2

/-! instar/instarref32.Begin -/
namespace ref32_Begin_v2
abbrev TA : Type := ((Unit × (Int × Unit)) × ((Unit × (Int × (Int × (Int × (Int × (Int × (Int × Unit))))))) × ((Unit × (Int × (Unit × (Int × (Bool × (Int × (Unit × Unit))))))) × ((List Int) × ((List Int) × ((List Int) × Unit))))))
noncomputable def t (slot h0_1 h0_2 h0_3 h0_4 h0_5 h0_6 h1_1 h1_3 : Int) (h1_4 : Bool) (h1_5 : Int) (h2 : (List Int)) (h3 : (List Int)) (h4 : (List Int)) : Tw (Int × (Int × (Bool × (Int × ((List Int) × (List Int)))))) :=
 (.bb (decide (slot < (0 : Int)))
  (.ret ((3 : Int), (h1_3, (h1_4, (h1_5, (h2, h3))))))
  (.bb (decide (slot > (1 : Int)))
   (.ret ((3 : Int), (h1_3, (h1_4, (h1_5, (h2, h3))))))
   (.opt (ref08_Find.c h0_1 h0_2 h0_3 h0_4 h0_5 h0_6 (1 : Int) slot (0 : Int)) fun z1 =>
    (.opt (ref09_Drive_Clean_v2.c z1 h0_1 h0_2 h0_3 h0_4 h0_5 h0_6 h1_1 h1_3 h1_4 h1_5 h2 h3 h4) fun z2 =>
     (.ret (z2.1, (z2.2.1, (z2.2.2.1, (z2.2.2.2.1, (z2.2.2.2.2.1, z2.2.2.2.2.2))))))))))
noncomputable def c (slot h0_1 h0_2 h0_3 h0_4 h0_5 h0_6 h1_1 h1_3 : Int) (h1_4 : Bool) (h1_5 : Int) (h2 : (List Int)) (h3 : (List Int)) (h4 : (List Int)) : Option (Int × (Int × (Bool × (Int × ((List Int) × (List Int)))))) := (t slot h0_1 h0_2 h0_3 h0_4 h0_5 h0_6 h1_1 h1_3 h1_4 h1_5 h2 h3 h4).run
def pA : Pt := (.cs (.ptr 0 0) (.cs (.int .i64) .nl))
def pH : Pt := (.cs (.var (.cs (.ptr 1 0) (.cs (.int .i64) (.cs (.int .i64) (.cs (.int .i64) (.cs (.int .i64) (.cs (.int .i64) (.cs (.int .i64) .nl)))))))) (.cs (.var (.cs (.own 2) (.cs (.int .i64) (.cs (.own 3) (.cs (.int .i64) (.cs .bool (.cs (.int .i64) (.cs (.own 4) .nl)))))))) (.cs (.row 3 true) (.cs (.row 1 true) (.cs (.row 3 true) .nl)))))
def v (l : TA) (y : (Int × (Int × (Bool × (Int × ((List Int) × (List Int))))))) : AV U := .im (.int .i64 y.1)
def hh (l : TA) (y : (Int × (Int × (Bool × (Int × ((List Int) × (List Int))))))) : Hp U := [.var [.ptr 1 0, .im (.int .i64 l.2.1.2.1), .im (.int .i64 l.2.1.2.2.1), .im (.int .i64 l.2.1.2.2.2.1), .im (.int .i64 l.2.1.2.2.2.2.1), .im (.int .i64 l.2.1.2.2.2.2.2.1), .im (.int .i64 l.2.1.2.2.2.2.2.2.1)], .var [.own 2, .im (.int .i64 l.2.2.1.2.1), .own 3, .im (.int .i64 y.2.1), .im (.bool y.2.2.1), .im (.int .i64 y.2.2.2.1), .own 4], .row 3 y.2.2.2.2.1 true, .row 1 y.2.2.2.2.2 true, .row 3 l.2.2.2.2.2.1 true]
noncomputable def A : AFun U := mkA (U := U) pA pH (X := (Int × (Int × (Bool × (Int × ((List Int) × (List Int))))))) (fun (l : TA) => c l.1.2.1 l.2.1.2.1 l.2.1.2.2.1 l.2.1.2.2.2.1 l.2.1.2.2.2.2.1 l.2.1.2.2.2.2.2.1 l.2.1.2.2.2.2.2.2.1 l.2.2.1.2.1 l.2.2.1.2.2.2.1 l.2.2.1.2.2.2.2.1 l.2.2.1.2.2.2.2.2.1 l.2.2.2.1 l.2.2.2.2.1 l.2.2.2.2.2.1) sp1 v hh
noncomputable def body : Code := (Go.Func.body Try.f38).getD .skip
noncomputable def Γ : List (FuncId × AFun U) := [(18, ref08_Find.A), (62, ref09_Drive_Clean_v2.A)]
noncomputable def Λ : List (Nat × LFun U) := []
noncomputable def CT : List (Nat × LFun U) := []
def ro : List FuncId := []
def D : Nat → Lv × Lv := dtab []
noncomputable def E : Env U := { E0 with Γ := Γ, Λ := Λ, C := CT, D := D, ro := ro }
theorem hk (R : Type) (l : TA) (K : AV U → Hp U → Option R) : funcA E Try.f38 [] R (pA.mkL l.1) (pH.mkH l.2) K = (t l.1.2.1 l.2.1.2.1 l.2.1.2.2.1 l.2.1.2.2.2.1 l.2.1.2.2.2.2.1 l.2.1.2.2.2.2.2.1 l.2.1.2.2.2.2.2.2.1 l.2.2.1.2.1 l.2.2.1.2.2.2.1 l.2.2.1.2.2.2.2.1 l.2.2.1.2.2.2.2.2.1 l.2.2.2.1 l.2.2.2.2.1 l.2.2.2.2.2.1).runK fun y => K (v l y) (hh l y) := by kernel_rfl
theorem okF : SoundF Try.prog cc 38 (funcA E Try.f38 []) :=
  funcA_ok (E := E) P_mixed (E0_ok.with Γ Λ CT D ro) (gam_of (all_cons ⟨ref08_Find.ok, ⟨Try.f18, Try.func18, by kernel_rfl, by kernel_rfl⟩⟩ (all_cons ⟨ref09_Drive_Clean_v2.ok, ⟨Try.f62, Try.func62, by kernel_rfl, by kernel_rfl⟩⟩ all_nil)) (all_cons (no_keep (by kernel_rfl)) (all_cons (no_keep (by kernel_rfl)) all_nil))) Try.func38 (c := body) (by kernel_rfl)
    (just_by (by kernel_rfl) (by kernel_rfl) all_nil all_nil) []
theorem ok : SoundF Try.prog cc 38 A :=
  mkA_ok (E := E) (p := pA) (q := pH) (t := fun (l : TA) => t l.1.2.1 l.2.1.2.1 l.2.1.2.2.1 l.2.1.2.2.2.1 l.2.1.2.2.2.2.1 l.2.1.2.2.2.2.2.1 l.2.1.2.2.2.2.2.2.1 l.2.2.1.2.1 l.2.2.1.2.2.2.1 l.2.2.1.2.2.2.2.1 l.2.2.1.2.2.2.2.2.1 l.2.2.2.1 l.2.2.2.2.1 l.2.2.2.2.2.1) sp1_ok hk okF
end ref32_Begin_v2

end Go.Proofs.Ytnlclchlnngdnaa.Va
