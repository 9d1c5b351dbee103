/- The functions of package slot, as plain functions, and that the program computes them. Printed by a program of this work out of the evaluator. -/
import Derived.Test.YtnlclchlnngdnaaEn
import Derived.Tactics
import Derived.Test.YtnlclchlnngdnaaFdrive
import Derived.Test.YtnlclchlnngdnaaFgeom
import Derived.Test.YtnlclchlnngdnaaFword
namespace Go.Proofs.Ytnlclchlnngdnaa.Va
open Go
set_option linter.unusedVariables false
set_option maxRecDepth 100000

/-! instar/slot.fine -/
namespace slot_fine_nil0
abbrev TA : Type := ((Unit × (Int × (Int × Unit))) × Unit)
noncomputable def t (slot total : Int) : Tw Int :=
 (.opt (drive_Drive_Geometry_nil0.c) fun z1 =>
  (.ret (1 : Int)))
noncomputable def c (slot total : Int) : Option Int := (t slot total).run
def pA : Pt := (.cs .nilp (.cs (.int .i64) (.cs (.int .i64) .nl)))
def pH : Pt := .nl
def v (l : TA) (y : Int) : AV U := .im (.int .i64 y)
def hh (l : TA) (y : Int) : Hp U := []
noncomputable def A : AFun U := mkA (U := U) pA pH (X := Int) (fun (l : TA) => c l.1.2.1 l.1.2.2.1) sp1 v hh
noncomputable def body : Code := (Go.Func.body Try.f32).getD .skip
noncomputable def Γ : List (FuncId × AFun U) := [(33, drive_Drive_Geometry_nil0.A)]
noncomputable def Λ : List (Nat × LFun U) := []
noncomputable def CT : List (Nat × LFun U) := []
def ro : List FuncId := []
def D : Nat → Lv × Lv := dtab []
noncomputable def E : Env U := { E0 with Γ := Γ, Λ := Λ, C := CT, D := D, ro := ro }
theorem hk (R : Type) (l : TA) (K : AV U → Hp U → Option R) : funcA E Try.f32 [] R (pA.mkL l.1) (pH.mkH l.2) K = (t l.1.2.1 l.1.2.2.1).runK fun y => K (v l y) (hh l y) := by kernel_rfl
theorem okF : SoundF Try.prog cc 32 (funcA E Try.f32 []) :=
  funcA_ok (E := E) P_mixed (E0_ok.with Γ Λ CT D ro) (gam_of (all_cons ⟨drive_Drive_Geometry_nil0.ok, ⟨Try.f33, Try.func33, by kernel_rfl, by kernel_rfl⟩⟩ all_nil) (all_cons (no_keep (by kernel_rfl)) all_nil)) Try.func32 (c := body) (by kernel_rfl)
    (just_by (by kernel_rfl) (by kernel_rfl) all_nil all_nil) []
theorem ok : SoundF Try.prog cc 32 A :=
  mkA_ok (E := E) (p := pA) (q := pH) (t := fun (l : TA) => t l.1.2.1 l.1.2.2.1) sp1_ok hk okF
theorem keep : KeepA A := mkA_keep (U := U) sp1_ok (fun (l : TA) y => ⟨(hh l y).drop 0, by kernel_rfl⟩)
end slot_fine_nil0

/-! instar/slot.Done -/
namespace slot_Done_nil0
abbrev TA : Type := ((Unit × (Int × (Int × Unit))) × Unit)
abbrev T9 : Type := ((Unit × (Unit × (Unit × (Unit × (Int × (Int × (Unit × Unit))))))) × ((List Int) × Unit))
noncomputable def l9 (k38 : Int) (h0 : (List Int)) (k39 : Int) : Tw (Int ⊕ (Unit ⊕ (Int × Int))) :=
 (.bb (decide (k39 < k38))
  (.dd ((((0 : Int) ≤ k39) ∧ (k39 < (((List.length h0) : Nat) : Int)))) inferInstance
   (.opt (h0)[(Int.toNat k39)]? fun z6 =>
    (.bb (z6 != (0 : Int))
     (.ret (.inr (.inr (k39, (0 : Int)))))
     (.ret (.inl (w64 (k39 + (1 : Int)))))))
   .no)
  (.ret (.inr (.inl ()))))
noncomputable def L9 (k38 k39 : Int) (h0 : (List Int)) : Option (Unit ⊕ (Int × Int)) := Lp (fun s => (l9 k38 h0 s).run) k39
def p9 : Pt := (.cs (.bots 10) (.cs (.own 0) (.cs (.bots 26) (.cs (.own 0) (.cs (.int .i64) (.cs (.int .i64) (.cs (.bots 10) .nl)))))))
def q9 : Pt := (.cs (.row 3 true) .nl)
def ou9 (l : T9) (y : (Unit ⊕ (Int × Int))) : Ex × St U := (Sum.elim (fun a0 => (.exit 0, stOf 50 [(10, .own 0)] [.row 3 l.2.1 true] 0)) (fun b0 => (.ret, stOf 50 [(6, .im (.int .i64 b0.1)), (7, .im (.int .i64 b0.2)), (10, .own 0)] [.row 3 l.2.1 true] 0)) y)
noncomputable def Λ9 : LFun U := mkLp (U := U) p9 q9 0 (X := (Unit ⊕ (Int × Int))) (fun (l : T9) => L9 l.1.2.2.2.2.1 l.1.2.2.2.2.2.1 l.2.1) (spS sp1) ou9
noncomputable def t (slot total : Int) : Tw (Int × Int) :=
 (.opt (slot_fine_nil0.c slot total) fun z1 =>
  (.bb (z1 != (0 : Int))
   (.ret ((0 : Int), z1))
   (.opt (drive_Drive_Geometry_nil0.c) fun z2 =>
    (.opt (geom_Ledger.c z2.1 z2.2.1 z2.2.2.1 z2.2.2.2.1 z2.2.2.2.2.1 z2.2.2.2.2.2 slot) fun z3 =>
     (.opt (geom_Chunks.c z2.1 z2.2.1 z2.2.2.1 z2.2.2.2.1 z2.2.2.2.2.1 z2.2.2.2.2.2 total) fun z4 =>
      (.opt (drive_Drive_Read_nil0.c z3 (0 : Int) z4) fun z5 =>
       (.bb (z5.1 != (0 : Int))
        (.ret ((0 : Int), z5.1))
        (.opt (L9 (((List.length z5.2) : Nat) : Int) (0 : Int) z5.2) fun z7 =>
         (.sm z7
          (fun z8 => (.ret ((((List.length z5.2) : Nat) : Int), (0 : Int))))
          (fun z9 => (.ret (z9.1, z9.2))))))))))))
noncomputable def c (slot total : Int) : Option (Int × Int) := (t slot total).run
def pA : Pt := (.cs .nilp (.cs (.int .i64) (.cs (.int .i64) .nl)))
def pH : Pt := .nl
def v (l : TA) (y : (Int × Int)) : AV U := .tup [.im (.int .i64 y.1), .im (.int .i64 y.2)]
def hh (l : TA) (y : (Int × Int)) : Hp U := []
noncomputable def A : AFun U := mkA (U := U) pA pH (X := (Int × Int)) (fun (l : TA) => c l.1.2.1 l.1.2.2.1) sp1 v hh
noncomputable def body : Code := (Go.Func.body Try.f13).getD .skip
noncomputable def Γ : List (FuncId × AFun U) := [(32, slot_fine_nil0.A), (33, drive_Drive_Geometry_nil0.A), (35, geom_Ledger.A), (36, geom_Chunks.A), (34, drive_Drive_Read_nil0.A)]
noncomputable def Λ : List (Nat × LFun U) := [(9, Λ9)]
noncomputable def CT : List (Nat × LFun U) := []
def ro : List FuncId := []
def D : Nat → Lv × Lv := dtab [(9, ⟨[39, 37, 10, 38], []⟩, ⟨[6, 7, 10], []⟩)]
noncomputable def E : Env U := { E0 with Γ := Γ, Λ := Λ, C := CT, D := D, ro := ro }
theorem hf9 (R : Type) (l : T9) (s : Int) (K : Ex → St U → Option R) : codeA E (pick (loopsOf body) 9) ⟨p9.mkL ((((), ((), ((), ((), (l.1.2.2.2.2.1, (s, ((), ()))))))), (l.2.1, ())) : T9).1, q9.mkH ((((), ((), ((), ((), (l.1.2.2.2.2.1, (s, ((), ()))))))), (l.2.1, ())) : T9).2, 0⟩ (roundK E (pick (loopsOf body) 9) K) =
  (l9 l.1.2.2.2.2.1 l.2.1 s).runK (lpK K (fun s => ⟨p9.mkL ((((), ((), ((), ((), (l.1.2.2.2.2.1, (s, ((), ()))))))), (l.2.1, ())) : T9).1, q9.mkH ((((), ((), ((), ((), (l.1.2.2.2.2.1, (s, ((), ()))))))), (l.2.1, ())) : T9).2, 0⟩) (spS sp1) (ou9 l)) := by kernel_rfl
theorem lk9 (R : Type) (st : St U) (K : Ex → St U → Option R) (r : R) (h : Λ9 R st K = some r) : ∃ n, loopA E (pick (loopsOf body) 9) n st K = some r :=
  lp_ok (U := U) (E := E) (b := pick (loopsOf body) 9) (m := 0) (sp := (spS sp1)) (p := p9) (q := q9) (X := (Unit ⊕ (Int × Int))) (S := Int) (f := fun (l : T9) s => l9 l.1.2.2.2.2.1 l.2.1 s) (hd := fun (l : T9) s => (((), ((), ((), ((), (l.1.2.2.2.2.1, (s, ((), ()))))))), (l.2.1, ()))) (s0 := fun (l : T9) => l.1.2.2.2.2.2.1) (ou := ou9)
    (fun l => rfl) (fun l x => by repeat' (first | rfl | (cases x with | inl => rfl | inr x => ?_))) (spS_ok sp1_ok) hf9 h
theorem hk (R : Type) (l : TA) (K : AV U → Hp U → Option R) : funcA E Try.f13 [] R (pA.mkL l.1) (pH.mkH l.2) K = (t l.1.2.1 l.1.2.2.1).runK fun y => K (v l y) (hh l y) := by kernel_rfl
theorem okF : SoundF Try.prog cc 13 (funcA E Try.f13 []) :=
  funcA_ok (E := E) P_mixed (E0_ok.with Γ Λ CT D ro) (gam_of (all_cons ⟨slot_fine_nil0.ok, ⟨Try.f32, Try.func32, by kernel_rfl, by kernel_rfl⟩⟩ (all_cons ⟨drive_Drive_Geometry_nil0.ok, ⟨Try.f33, Try.func33, by kernel_rfl, by kernel_rfl⟩⟩ (all_cons ⟨geom_Ledger.ok, ⟨Try.f35, Try.func35, by kernel_rfl, by kernel_rfl⟩⟩ (all_cons ⟨geom_Chunks.ok, ⟨Try.f36, Try.func36, by kernel_rfl, by kernel_rfl⟩⟩ (all_cons ⟨drive_Drive_Read_nil0.ok, ⟨Try.f34, Try.func34, by kernel_rfl, by kernel_rfl⟩⟩ all_nil))))) (all_cons (no_keep (by kernel_rfl)) (all_cons (no_keep (by kernel_rfl)) (all_cons (no_keep (by kernel_rfl)) (all_cons (no_keep (by kernel_rfl)) (all_cons (no_keep (by kernel_rfl)) all_nil)))))) Try.func13 (c := body) (by kernel_rfl)
    (just_by (by kernel_rfl) (by kernel_rfl) (all_cons lk9 all_nil) all_nil) []
theorem ok : SoundF Try.prog cc 13 A :=
  mkA_ok (E := E) (p := pA) (q := pH) (t := fun (l : TA) => t l.1.2.1 l.1.2.2.1) sp1_ok hk okF
theorem keep : KeepA A := mkA_keep (U := U) sp1_ok (fun (l : TA) y => ⟨(hh l y).drop 0, by kernel_rfl⟩)
end slot_Done_nil0

/-! instar/slot.Bytes -/
namespace slot_Bytes_nil0
abbrev TA : Type := ((Unit × (Int × (Int × Unit))) × Unit)
abbrev T7 : Type := ((Unit × (Int × (Int × (Unit × (Unit × (Unit × (Unit × (Int × (Int × (Unit × Unit)))))))))) × ((Int × (Int × (Int × (Int × (Int × (Int × Unit)))))) × ((List Int) × Unit)))
noncomputable def l7 (slot total k29 h0_0 h0_1 h0_2 h0_3 h0_4 h0_5 k30 : Int) (h1 : (List Int)) : Tw ((Int × (List Int)) ⊕ ((List Int) ⊕ (Int × (List Int)))) :=
 (.bb (decide (k30 < k29))
  (.opt (geom_Part.c h0_0 h0_1 h0_2 h0_3 h0_4 h0_5 total k30) fun z4 =>
   (.opt (geom_Chunk.c h0_0 h0_1 h0_2 h0_3 h0_4 h0_5 slot k30) fun z5 =>
    (.opt (word_Need.c z4) fun z6 =>
     (.opt (drive_Drive_Read_nil0.c z5 (0 : Int) z6) fun z7 =>
      (.bb (z7.1 != (0 : Int))
       (.ret (.inr (.inr (z7.1, h1))))
       (.opt (word_Bytes.c z7.2 z4) fun z8 =>
        (.bb (z8.1 != (0 : Int))
         (.ret (.inr (.inr ((12 : Int), h1))))
         (.dd ((((((List.length h1) + (List.length z8.2)) * (1 : Nat)) ≤ (140737488355328 : Nat)) ∧ (((List.length h1) + (List.length z8.2)) ≤ (140737488355328 : Nat)))) inferInstance
          (.ret (.inl ((w64 (k30 + (1 : Int))), (h1 ++ z8.2))))
          .no))))))))
  (.ret (.inr (.inl h1))))
noncomputable def L7 (slot total k29 k30 h0_0 h0_1 h0_2 h0_3 h0_4 h0_5 : Int) (h1 : (List Int)) : Option ((List Int) ⊕ (Int × (List Int))) := Lp (fun s => (l7 slot total k29 h0_0 h0_1 h0_2 h0_3 h0_4 h0_5 s.1 s.2).run) (k30, h1)
def p7 : Pt := (.cs .nilp (.cs (.int .i64) (.cs (.int .i64) (.cs (.bots 6) (.cs (.ptr 0 0) (.cs (.own 1) (.cs (.bots 18) (.cs (.int .i64) (.cs (.int .i64) (.cs (.bots 33) .nl))))))))))
def q7 : Pt := (.cs (.var (.cs (.int .i64) (.cs (.int .i64) (.cs (.int .i64) (.cs (.int .i64) (.cs (.int .i64) (.cs (.int .i64) .nl))))))) (.cs (.row 2 true) .nl))
def ou7 (l : T7) (y : ((List Int) ⊕ (Int × (List Int)))) : Ex × St U := (Sum.elim (fun a0 => (.exit 0, stOf 64 [(10, .own 0)] [.row 2 a0 true] 0)) (fun b0 => (.ret, stOf 64 [(6, .im .nils), (7, .im (.int .i64 b0.1)), (10, .own 0)] [.row 2 b0.2 true] 0)) y)
noncomputable def Λ7 : LFun U := mkLp (U := U) p7 q7 0 (X := ((List Int) ⊕ (Int × (List Int)))) (fun (l : T7) => L7 l.1.2.1 l.1.2.2.1 l.1.2.2.2.2.2.2.2.1 l.1.2.2.2.2.2.2.2.2.1 l.2.1.1 l.2.1.2.1 l.2.1.2.2.1 l.2.1.2.2.2.1 l.2.1.2.2.2.2.1 l.2.1.2.2.2.2.2.1 l.2.2.1) (spS sp1) ou7
noncomputable def t (slot total : Int) : Tw (Int × (List Int)) :=
 (.opt (slot_fine_nil0.c slot total) fun z1 =>
  (.bb (z1 != (0 : Int))
   (.ret (z1, ([] : List (Int))))
   (.opt (drive_Drive_Geometry_nil0.c) fun z2 =>
    (.dd ((((0 : Int) ≤ (0 : Int)) ∧ (((0 : Int) ≤ total) ∧ ((total ≤ (140737488355328 : Int)) ∧ ((total * (((1 : Nat) : Nat) : Int)) ≤ (140737488355328 : Int)))))) inferInstance
     (.opt (geom_Chunks.c z2.1 z2.2.1 z2.2.2.1 z2.2.2.2.1 z2.2.2.2.2.1 z2.2.2.2.2.2 total) fun z3 =>
      (.opt (L7 slot total z3 (0 : Int) z2.1 z2.2.1 z2.2.2.1 z2.2.2.2.1 z2.2.2.2.2.1 z2.2.2.2.2.2 (List.replicate (Int.toNat (0 : Int)) (0 : Int))) fun z9 =>
       (.sm z9
        (fun z10 => (.ret ((0 : Int), z10)))
        (fun z11 => (.ret (z11.1, ([] : List (Int))))))))
     .no))))
noncomputable def c (slot total : Int) : Option (Int × (List Int)) := (t slot total).run
def pA : Pt := (.cs .nilp (.cs (.int .i64) (.cs (.int .i64) .nl)))
def pH : Pt := .nl
def v (l : TA) (y : (Int × (List Int))) : AV U := .tup [.own 0, .im (.int .i64 y.1)]
def hh (l : TA) (y : (Int × (List Int))) : Hp U := [.row 2 y.2 true]
noncomputable def A : AFun U := mkA (U := U) pA pH (X := (Int × (List Int))) (fun (l : TA) => c l.1.2.1 l.1.2.2.1) sp1 v hh
noncomputable def body : Code := (Go.Func.body Try.f23).getD .skip
noncomputable def Γ : List (FuncId × AFun U) := [(32, slot_fine_nil0.A), (33, drive_Drive_Geometry_nil0.A), (36, geom_Chunks.A), (44, geom_Part.A), (45, geom_Chunk.A), (46, word_Need.A), (34, drive_Drive_Read_nil0.A), (47, word_Bytes.A)]
noncomputable def Λ : List (Nat × LFun U) := [(7, Λ7)]
noncomputable def CT : List (Nat × LFun U) := []
def ro : List FuncId := []
def D : Nat → Lv × Lv := dtab [(7, ⟨[30, 10, 1, 9, 0, 2, 29], []⟩, ⟨[6, 7, 10], []⟩)]
noncomputable def E : Env U := { E0 with Γ := Γ, Λ := Λ, C := CT, D := D, ro := ro }
theorem hf7 (R : Type) (l : T7) (s : (Int × (List Int))) (K : Ex → St U → Option R) : codeA E (pick (loopsOf body) 7) ⟨p7.mkL ((((), (l.1.2.1, (l.1.2.2.1, ((), ((), ((), ((), (l.1.2.2.2.2.2.2.2.1, (s.1, ((), ())))))))))), ((l.2.1.1, (l.2.1.2.1, (l.2.1.2.2.1, (l.2.1.2.2.2.1, (l.2.1.2.2.2.2.1, (l.2.1.2.2.2.2.2.1, ())))))), (s.2, ()))) : T7).1, q7.mkH ((((), (l.1.2.1, (l.1.2.2.1, ((), ((), ((), ((), (l.1.2.2.2.2.2.2.2.1, (s.1, ((), ())))))))))), ((l.2.1.1, (l.2.1.2.1, (l.2.1.2.2.1, (l.2.1.2.2.2.1, (l.2.1.2.2.2.2.1, (l.2.1.2.2.2.2.2.1, ())))))), (s.2, ()))) : T7).2, 0⟩ (roundK E (pick (loopsOf body) 7) K) =
  (l7 l.1.2.1 l.1.2.2.1 l.1.2.2.2.2.2.2.2.1 l.2.1.1 l.2.1.2.1 l.2.1.2.2.1 l.2.1.2.2.2.1 l.2.1.2.2.2.2.1 l.2.1.2.2.2.2.2.1 s.1 s.2).runK (lpK K (fun s => ⟨p7.mkL ((((), (l.1.2.1, (l.1.2.2.1, ((), ((), ((), ((), (l.1.2.2.2.2.2.2.2.1, (s.1, ((), ())))))))))), ((l.2.1.1, (l.2.1.2.1, (l.2.1.2.2.1, (l.2.1.2.2.2.1, (l.2.1.2.2.2.2.1, (l.2.1.2.2.2.2.2.1, ())))))), (s.2, ()))) : T7).1, q7.mkH ((((), (l.1.2.1, (l.1.2.2.1, ((), ((), ((), ((), (l.1.2.2.2.2.2.2.2.1, (s.1, ((), ())))))))))), ((l.2.1.1, (l.2.1.2.1, (l.2.1.2.2.1, (l.2.1.2.2.2.1, (l.2.1.2.2.2.2.1, (l.2.1.2.2.2.2.2.1, ())))))), (s.2, ()))) : T7).2, 0⟩) (spS sp1) (ou7 l)) := by kernel_rfl
theorem lk7 (R : Type) (st : St U) (K : Ex → St U → Option R) (r : R) (h : Λ7 R st K = some r) : ∃ n, loopA E (pick (loopsOf body) 7) n st K = some r :=
  lp_ok (U := U) (E := E) (b := pick (loopsOf body) 7) (m := 0) (sp := (spS sp1)) (p := p7) (q := q7) (X := ((List Int) ⊕ (Int × (List Int)))) (S := (Int × (List Int))) (f := fun (l : T7) s => l7 l.1.2.1 l.1.2.2.1 l.1.2.2.2.2.2.2.2.1 l.2.1.1 l.2.1.2.1 l.2.1.2.2.1 l.2.1.2.2.2.1 l.2.1.2.2.2.2.1 l.2.1.2.2.2.2.2.1 s.1 s.2) (hd := fun (l : T7) s => (((), (l.1.2.1, (l.1.2.2.1, ((), ((), ((), ((), (l.1.2.2.2.2.2.2.2.1, (s.1, ((), ())))))))))), ((l.2.1.1, (l.2.1.2.1, (l.2.1.2.2.1, (l.2.1.2.2.2.1, (l.2.1.2.2.2.2.1, (l.2.1.2.2.2.2.2.1, ())))))), (s.2, ())))) (s0 := fun (l : T7) => (l.1.2.2.2.2.2.2.2.2.1, l.2.2.1)) (ou := ou7)
    (fun l => rfl) (fun l x => by repeat' (first | rfl | (cases x with | inl => rfl | inr x => ?_))) (spS_ok sp1_ok) hf7 h
theorem hk (R : Type) (l : TA) (K : AV U → Hp U → Option R) : funcA E Try.f23 [(0, [], .own 2)] R (pA.mkL l.1) (pH.mkH l.2) K = (t l.1.2.1 l.1.2.2.1).runK fun y => K (v l y) (hh l y) := by kernel_rfl
theorem okF : SoundF Try.prog cc 23 (funcA E Try.f23 [(0, [], .own 2)]) :=
  funcA_ok (E := E) P_mixed (E0_ok.with Γ Λ CT D ro) (gam_of (all_cons ⟨slot_fine_nil0.ok, ⟨Try.f32, Try.func32, by kernel_rfl, by kernel_rfl⟩⟩ (all_cons ⟨drive_Drive_Geometry_nil0.ok, ⟨Try.f33, Try.func33, by kernel_rfl, by kernel_rfl⟩⟩ (all_cons ⟨geom_Chunks.ok, ⟨Try.f36, Try.func36, by kernel_rfl, by kernel_rfl⟩⟩ (all_cons ⟨geom_Part.ok, ⟨Try.f44, Try.func44, by kernel_rfl, by kernel_rfl⟩⟩ (all_cons ⟨geom_Chunk.ok, ⟨Try.f45, Try.func45, by kernel_rfl, by kernel_rfl⟩⟩ (all_cons ⟨word_Need.ok, ⟨Try.f46, Try.func46, by kernel_rfl, by kernel_rfl⟩⟩ (all_cons ⟨drive_Drive_Read_nil0.ok, ⟨Try.f34, Try.func34, by kernel_rfl, by kernel_rfl⟩⟩ (all_cons ⟨word_Bytes.ok, ⟨Try.f47, Try.func47, by kernel_rfl, by kernel_rfl⟩⟩ all_nil)))))))) (all_cons (no_keep (by kernel_rfl)) (all_cons (no_keep (by kernel_rfl)) (all_cons (no_keep (by kernel_rfl)) (all_cons (no_keep (by kernel_rfl)) (all_cons (no_keep (by kernel_rfl)) (all_cons (no_keep (by kernel_rfl)) (all_cons (no_keep (by kernel_rfl)) (all_cons (no_keep (by kernel_rfl)) all_nil))))))))) Try.func23 (c := body) (by kernel_rfl)
    (just_by (by kernel_rfl) (by kernel_rfl) (all_cons lk7 all_nil) all_nil) [(0, [], .own 2)]
theorem ok : SoundF Try.prog cc 23 A :=
  mkA_ok (E := E) (p := pA) (q := pH) (t := fun (l : TA) => t l.1.2.1 l.1.2.2.1) sp1_ok hk okF
theorem keep : KeepA A := mkA_keep (U := U) sp1_ok (fun (l : TA) y => ⟨(hh l y).drop 0, by kernel_rfl⟩)
end slot_Bytes_nil0

/-! instar/slot.Begin -/
namespace slot_Begin_nil0
abbrev TA : Type := ((Unit × (Int × Unit)) × Unit)
noncomputable def t (slot : Int) : Tw Int :=
 (.opt (slot_fine_nil0.c slot (1 : Int)) fun z1 =>
  (.bb (z1 != (0 : Int))
   (.ret z1)
   (.opt (drive_Drive_Geometry_nil0.c) fun z2 =>
    (.opt (geom_Ledger.c z2.1 z2.2.1 z2.2.2.1 z2.2.2.2.1 z2.2.2.2.2.1 z2.2.2.2.2.2 slot) fun z3 =>
     (.opt (drive_Drive_Clean_nil0.c z3) fun z4 =>
      (.ret z4))))))
noncomputable def c (slot : Int) : Option Int := (t slot).run
def pA : Pt := (.cs .nilp (.cs (.int .i64) .nl))
def pH : Pt := .nl
def v (l : TA) (y : Int) : AV U := .im (.int .i64 y)
def hh (l : TA) (y : Int) : Hp U := []
noncomputable def A : AFun U := mkA (U := U) pA pH (X := Int) (fun (l : TA) => c l.1.2.1) sp1 v hh
noncomputable def body : Code := (Go.Func.body Try.f24).getD .skip
noncomputable def Γ : List (FuncId × AFun U) := [(32, slot_fine_nil0.A), (33, drive_Drive_Geometry_nil0.A), (35, geom_Ledger.A), (48, drive_Drive_Clean_nil0.A)]
noncomputable def Λ : List (Nat × LFun U) := []
noncomputable def CT : List (Nat × LFun U) := []
def ro : List FuncId := []
def D : Nat → Lv × Lv := dtab []
noncomputable def E : Env U := { E0 with Γ := Γ, Λ := Λ, C := CT, D := D, ro := ro }
theorem hk (R : Type) (l : TA) (K : AV U → Hp U → Option R) : funcA E Try.f24 [] R (pA.mkL l.1) (pH.mkH l.2) K = (t l.1.2.1).runK fun y => K (v l y) (hh l y) := by kernel_rfl
theorem okF : SoundF Try.prog cc 24 (funcA E Try.f24 []) :=
  funcA_ok (E := E) P_mixed (E0_ok.with Γ Λ CT D ro) (gam_of (all_cons ⟨slot_fine_nil0.ok, ⟨Try.f32, Try.func32, by kernel_rfl, by kernel_rfl⟩⟩ (all_cons ⟨drive_Drive_Geometry_nil0.ok, ⟨Try.f33, Try.func33, by kernel_rfl, by kernel_rfl⟩⟩ (all_cons ⟨geom_Ledger.ok, ⟨Try.f35, Try.func35, by kernel_rfl, by kernel_rfl⟩⟩ (all_cons ⟨drive_Drive_Clean_nil0.ok, ⟨Try.f48, Try.func48, by kernel_rfl, by kernel_rfl⟩⟩ all_nil)))) (all_cons (no_keep (by kernel_rfl)) (all_cons (no_keep (by kernel_rfl)) (all_cons (no_keep (by kernel_rfl)) (all_cons (no_keep (by kernel_rfl)) all_nil))))) Try.func24 (c := body) (by kernel_rfl)
    (just_by (by kernel_rfl) (by kernel_rfl) all_nil all_nil) []
theorem ok : SoundF Try.prog cc 24 A :=
  mkA_ok (E := E) (p := pA) (q := pH) (t := fun (l : TA) => t l.1.2.1) sp1_ok hk okF
theorem keep : KeepA A := mkA_keep (U := U) sp1_ok (fun (l : TA) y => ⟨(hh l y).drop 0, by kernel_rfl⟩)
end slot_Begin_nil0

/-! instar/slot.fine -/
namespace slot_fine
abbrev TA : Type := ((Unit × (Int × (Int × Unit))) × ((Unit × (Int × (Int × (Int × (Int × (Int × (Int × Unit))))))) × ((Unit × (Int × (Unit × (Int × (Bool × (Int × (Unit × Unit))))))) × ((List Int) × ((List Int) × Unit)))))
noncomputable def t (slot total h0_1 h0_2 h0_3 h0_4 h0_5 h0_6 h1_1 h1_3 : Int) (h1_4 : Bool) (h1_5 : Int) (h2 : (List Int)) (h3 : (List Int)) : Tw Int :=
 (.opt (drive_Drive_Geometry.c h0_1 h0_2 h0_3 h0_4 h0_5 h0_6 h1_1 h1_3 h1_4 h1_5 h2 h3) fun z1 =>
  (.opt (geom_Ledger.c h0_1 h0_2 h0_3 h0_4 h0_5 h0_6 slot) fun z2 =>
   (.bb (decide (z2 < (0 : Int)))
    (.ret (3 : Int))
    (.opt (geom_Chunks.c h0_1 h0_2 h0_3 h0_4 h0_5 h0_6 total) fun z3 =>
     (.bb (z3 == (0 : Int))
      (.ret (2 : Int))
      (.ret (0 : Int)))))))
noncomputable def c (slot total h0_1 h0_2 h0_3 h0_4 h0_5 h0_6 h1_1 h1_3 : Int) (h1_4 : Bool) (h1_5 : Int) (h2 : (List Int)) (h3 : (List Int)) : Option Int := (t slot total h0_1 h0_2 h0_3 h0_4 h0_5 h0_6 h1_1 h1_3 h1_4 h1_5 h2 h3).run
def pA : Pt := (.cs (.ptr 0 0) (.cs (.int .i64) (.cs (.int .i64) .nl)))
def pH : Pt := (.cs (.var (.cs (.ptr 1 0) (.cs (.int .i64) (.cs (.int .i64) (.cs (.int .i64) (.cs (.int .i64) (.cs (.int .i64) (.cs (.int .i64) .nl)))))))) (.cs (.var (.cs (.own 2) (.cs (.int .i64) (.cs (.own 3) (.cs (.int .i64) (.cs .bool (.cs (.int .i64) (.cs .nils .nl)))))))) (.cs (.row 3 true) (.cs (.row 1 true) .nl))))
def v (l : TA) (y : Int) : AV U := .im (.int .i64 y)
def hh (l : TA) (y : Int) : Hp U := [.var [.ptr 1 0, .im (.int .i64 l.2.1.2.1), .im (.int .i64 l.2.1.2.2.1), .im (.int .i64 l.2.1.2.2.2.1), .im (.int .i64 l.2.1.2.2.2.2.1), .im (.int .i64 l.2.1.2.2.2.2.2.1), .im (.int .i64 l.2.1.2.2.2.2.2.2.1)], .var [.own 2, .im (.int .i64 l.2.2.1.2.1), .own 3, .im (.int .i64 l.2.2.1.2.2.2.1), .im (.bool l.2.2.1.2.2.2.2.1), .im (.int .i64 l.2.2.1.2.2.2.2.2.1), .im .nils], .row 3 l.2.2.2.1 true, .row 1 l.2.2.2.2.1 true]
noncomputable def A : AFun U := mkA (U := U) pA pH (X := Int) (fun (l : TA) => c l.1.2.1 l.1.2.2.1 l.2.1.2.1 l.2.1.2.2.1 l.2.1.2.2.2.1 l.2.1.2.2.2.2.1 l.2.1.2.2.2.2.2.1 l.2.1.2.2.2.2.2.2.1 l.2.2.1.2.1 l.2.2.1.2.2.2.1 l.2.2.1.2.2.2.2.1 l.2.2.1.2.2.2.2.2.1 l.2.2.2.1 l.2.2.2.2.1) sp1 v hh
noncomputable def body : Code := (Go.Func.body Try.f32).getD .skip
noncomputable def Γ : List (FuncId × AFun U) := [(33, drive_Drive_Geometry.A), (35, geom_Ledger.A), (36, geom_Chunks.A)]
noncomputable def Λ : List (Nat × LFun U) := []
noncomputable def CT : List (Nat × LFun U) := []
def ro : List FuncId := [33]
def D : Nat → Lv × Lv := dtab []
noncomputable def E : Env U := { E0 with Γ := Γ, Λ := Λ, C := CT, D := D, ro := ro }
theorem hk (R : Type) (l : TA) (K : AV U → Hp U → Option R) : funcA E Try.f32 [] R (pA.mkL l.1) (pH.mkH l.2) K = (t l.1.2.1 l.1.2.2.1 l.2.1.2.1 l.2.1.2.2.1 l.2.1.2.2.2.1 l.2.1.2.2.2.2.1 l.2.1.2.2.2.2.2.1 l.2.1.2.2.2.2.2.2.1 l.2.2.1.2.1 l.2.2.1.2.2.2.1 l.2.2.1.2.2.2.2.1 l.2.2.1.2.2.2.2.2.1 l.2.2.2.1 l.2.2.2.2.1).runK fun y => K (v l y) (hh l y) := by kernel_rfl
theorem okF : SoundF Try.prog cc 32 (funcA E Try.f32 []) :=
  funcA_ok (E := E) P_mixed (E0_ok.with Γ Λ CT D ro) (gam_of (all_cons ⟨drive_Drive_Geometry.ok, ⟨Try.f33, Try.func33, by kernel_rfl, by kernel_rfl⟩⟩ (all_cons ⟨geom_Ledger.ok, ⟨Try.f35, Try.func35, by kernel_rfl, by kernel_rfl⟩⟩ (all_cons ⟨geom_Chunks.ok, ⟨Try.f36, Try.func36, by kernel_rfl, by kernel_rfl⟩⟩ all_nil))) (all_cons (fun _ => drive_Drive_Geometry.keep) (all_cons (no_keep (by kernel_rfl)) (all_cons (no_keep (by kernel_rfl)) all_nil)))) Try.func32 (c := body) (by kernel_rfl)
    (just_by (by kernel_rfl) (by kernel_rfl) all_nil all_nil) []
theorem ok : SoundF Try.prog cc 32 A :=
  mkA_ok (E := E) (p := pA) (q := pH) (t := fun (l : TA) => t l.1.2.1 l.1.2.2.1 l.2.1.2.1 l.2.1.2.2.1 l.2.1.2.2.2.1 l.2.1.2.2.2.2.1 l.2.1.2.2.2.2.2.1 l.2.1.2.2.2.2.2.2.1 l.2.2.1.2.1 l.2.2.1.2.2.2.1 l.2.2.1.2.2.2.2.1 l.2.2.1.2.2.2.2.2.1 l.2.2.2.1 l.2.2.2.2.1) sp1_ok hk okF
theorem keep : KeepA A := mkA_keep (U := U) sp1_ok (fun (l : TA) y => ⟨(hh l y).drop 4, by kernel_rfl⟩)
end slot_fine

/-! instar/slot.Chunk -/
namespace slot_Chunk_nil0
abbrev TA : Type := ((Unit × (Int × (Int × (Int × ((List Int) × Unit))))) × Unit)
noncomputable def t (slot total i : Int) (b : (List Int)) : Tw Int :=
 (.opt (slot_fine_nil0.c slot total) fun z1 =>
  (.bb (z1 != (0 : Int))
   (.ret z1)
   (.opt (drive_Drive_Geometry_nil0.c) fun z2 =>
    (.opt (geom_Part.c z2.1 z2.2.1 z2.2.2.1 z2.2.2.2.1 z2.2.2.2.2.1 z2.2.2.2.2.2 total i) fun z3 =>
     (.bb (z3 == (0 : Int))
      (.ret (2 : Int))
      (.bb (z3 != (((List.length b) : Nat) : Int))
       (.ret (2 : Int))
       (.opt (geom_Chunk.c z2.1 z2.2.1 z2.2.2.1 z2.2.2.2.1 z2.2.2.2.2.1 z2.2.2.2.2.2 slot i) fun z4 =>
        (.opt (word_Pack.c b) fun z5 =>
         (.opt (drive_Drive_Fresh_nil0.c z4 z5) fun z6 =>
          (.bb (z6 != (0 : Int))
           (.ret z6)
           (.opt (geom_Ledger.c z2.1 z2.2.1 z2.2.2.1 z2.2.2.2.1 z2.2.2.2.2.1 z2.2.2.2.2.2 slot) fun z7 =>
            (.opt (drive_Drive_Write_nil0.c z7 i ((0 : Int) :: ([] : List (Int)))) fun z8 =>
             (.ret z8)))))))))))))
noncomputable def c (slot total i : Int) (b : (List Int)) : Option Int := (t slot total i b).run
def pA : Pt := (.cs .nilp (.cs (.int .i64) (.cs (.int .i64) (.cs (.int .i64) (.cs (.sl 2) .nl)))))
def pH : Pt := .nl
def v (l : TA) (y : Int) : AV U := .im (.int .i64 y)
def hh (l : TA) (y : Int) : Hp U := []
noncomputable def A : AFun U := mkA (U := U) pA pH (X := Int) (fun (l : TA) => c l.1.2.1 l.1.2.2.1 l.1.2.2.2.1 l.1.2.2.2.2.1) sp1 v hh
noncomputable def body : Code := (Go.Func.body Try.f25).getD .skip
noncomputable def Γ : List (FuncId × AFun U) := [(32, slot_fine_nil0.A), (33, drive_Drive_Geometry_nil0.A), (44, geom_Part.A), (45, geom_Chunk.A), (50, word_Pack.A), (49, drive_Drive_Fresh_nil0.A), (35, geom_Ledger.A), (51, drive_Drive_Write_nil0.A)]
noncomputable def Λ : List (Nat × LFun U) := []
noncomputable def CT : List (Nat × LFun U) := []
def ro : List FuncId := []
def D : Nat → Lv × Lv := dtab []
noncomputable def E : Env U := { E0 with Γ := Γ, Λ := Λ, C := CT, D := D, ro := ro }
theorem hk (R : Type) (l : TA) (K : AV U → Hp U → Option R) : funcA E Try.f25 [] R (pA.mkL l.1) (pH.mkH l.2) K = (t l.1.2.1 l.1.2.2.1 l.1.2.2.2.1 l.1.2.2.2.2.1).runK fun y => K (v l y) (hh l y) := by kernel_rfl
theorem okF : SoundF Try.prog cc 25 (funcA E Try.f25 []) :=
  funcA_ok (E := E) P_mixed (E0_ok.with Γ Λ CT D ro) (gam_of (all_cons ⟨slot_fine_nil0.ok, ⟨Try.f32, Try.func32, by kernel_rfl, by kernel_rfl⟩⟩ (all_cons ⟨drive_Drive_Geometry_nil0.ok, ⟨Try.f33, Try.func33, by kernel_rfl, by kernel_rfl⟩⟩ (all_cons ⟨geom_Part.ok, ⟨Try.f44, Try.func44, by kernel_rfl, by kernel_rfl⟩⟩ (all_cons ⟨geom_Chunk.ok, ⟨Try.f45, Try.func45, by kernel_rfl, by kernel_rfl⟩⟩ (all_cons ⟨word_Pack.ok, ⟨Try.f50, Try.func50, by kernel_rfl, by kernel_rfl⟩⟩ (all_cons ⟨drive_Drive_Fresh_nil0.ok, ⟨Try.f49, Try.func49, by kernel_rfl, by kernel_rfl⟩⟩ (all_cons ⟨geom_Ledger.ok, ⟨Try.f35, Try.func35, by kernel_rfl, by kernel_rfl⟩⟩ (all_cons ⟨drive_Drive_Write_nil0.ok, ⟨Try.f51, Try.func51, by kernel_rfl, by kernel_rfl⟩⟩ all_nil)))))))) (all_cons (no_keep (by kernel_rfl)) (all_cons (no_keep (by kernel_rfl)) (all_cons (no_keep (by kernel_rfl)) (all_cons (no_keep (by kernel_rfl)) (all_cons (no_keep (by kernel_rfl)) (all_cons (no_keep (by kernel_rfl)) (all_cons (no_keep (by kernel_rfl)) (all_cons (no_keep (by kernel_rfl)) all_nil))))))))) Try.func25 (c := body) (by kernel_rfl)
    (just_by (by kernel_rfl) (by kernel_rfl) all_nil all_nil) []
theorem ok : SoundF Try.prog cc 25 A :=
  mkA_ok (E := E) (p := pA) (q := pH) (t := fun (l : TA) => t l.1.2.1 l.1.2.2.1 l.1.2.2.2.1 l.1.2.2.2.2.1) sp1_ok hk okF
theorem keep : KeepA A := mkA_keep (U := U) sp1_ok (fun (l : TA) y => ⟨(hh l y).drop 0, by kernel_rfl⟩)
end slot_Chunk_nil0

/-! instar/slot.Bytes -/
namespace slot_Bytes
abbrev TA : Type := ((Unit × (Int × (Int × Unit))) × ((Unit × (Int × (Int × (Int × (Int × (Int × (Int × Unit))))))) × ((Unit × (Int × (Unit × (Int × (Bool × (Int × (Unit × Unit))))))) × ((List Int) × ((List Int) × Unit)))))
abbrev T7 : Type := ((Unit × (Int × (Int × (Unit × (Unit × (Unit × (Unit × (Int × (Int × (Unit × Unit)))))))))) × ((Unit × (Int × (Int × (Int × (Int × (Int × (Int × Unit))))))) × ((Unit × (Int × (Unit × (Int × (Bool × (Int × (Unit × Unit))))))) × ((List Int) × ((List Int) × ((Int × (Int × (Int × (Int × (Int × (Int × Unit)))))) × ((List Int) × Unit)))))))
noncomputable def l7 (slot total k29 h0_1 h0_2 h0_3 h0_4 h0_5 h0_6 h1_1 h1_3 : Int) (h1_4 : Bool) (h1_5 : Int) (h2 : (List Int)) (h3 : (List Int)) (h4_0 h4_1 h4_2 h4_3 h4_4 h4_5 k30 : Int) (h5 : (List Int)) : Tw ((Int × (List Int)) ⊕ ((List Int) ⊕ (Int × (List Int)))) :=
 (.bb (decide (k30 < k29))
  (.opt (geom_Part.c h4_0 h4_1 h4_2 h4_3 h4_4 h4_5 total k30) fun z4 =>
   (.opt (geom_Chunk.c h4_0 h4_1 h4_2 h4_3 h4_4 h4_5 slot k30) fun z5 =>
    (.opt (word_Need.c z4) fun z6 =>
     (.opt (drive_Drive_Read.c z5 (0 : Int) z6 h0_1 h0_2 h0_3 h0_4 h0_5 h0_6 h1_1 h1_3 h1_4 h1_5 h2 h3) fun z7 =>
      (.bb (z7.1 != (0 : Int))
       (.ret (.inr (.inr (z7.1, h5))))
       (.opt (word_Bytes.c z7.2 z4) fun z8 =>
        (.bb (z8.1 != (0 : Int))
         (.ret (.inr (.inr ((12 : Int), h5))))
         (.dd ((((((List.length h5) + (List.length z8.2)) * (1 : Nat)) ≤ (140737488355328 : Nat)) ∧ (((List.length h5) + (List.length z8.2)) ≤ (140737488355328 : Nat)))) inferInstance
          (.ret (.inl ((w64 (k30 + (1 : Int))), (h5 ++ z8.2))))
          .no))))))))
  (.ret (.inr (.inl h5))))
noncomputable def L7 (slot total k29 k30 h0_1 h0_2 h0_3 h0_4 h0_5 h0_6 h1_1 h1_3 : Int) (h1_4 : Bool) (h1_5 : Int) (h2 : (List Int)) (h3 : (List Int)) (h4_0 h4_1 h4_2 h4_3 h4_4 h4_5 : Int) (h5 : (List Int)) : Option ((List Int) ⊕ (Int × (List Int))) := Lp (fun s => (l7 slot total k29 h0_1 h0_2 h0_3 h0_4 h0_5 h0_6 h1_1 h1_3 h1_4 h1_5 h2 h3 h4_0 h4_1 h4_2 h4_3 h4_4 h4_5 s.1 s.2).run) (k30, h5)
def p7 : Pt := (.cs (.ptr 0 0) (.cs (.int .i64) (.cs (.int .i64) (.cs (.bots 6) (.cs (.ptr 4 0) (.cs (.own 5) (.cs (.bots 18) (.cs (.int .i64) (.cs (.int .i64) (.cs (.bots 33) .nl))))))))))
def q7 : Pt := (.cs (.var (.cs (.ptr 1 0) (.cs (.int .i64) (.cs (.int .i64) (.cs (.int .i64) (.cs (.int .i64) (.cs (.int .i64) (.cs (.int .i64) .nl)))))))) (.cs (.var (.cs (.own 2) (.cs (.int .i64) (.cs (.own 3) (.cs (.int .i64) (.cs .bool (.cs (.int .i64) (.cs .nils .nl)))))))) (.cs (.row 3 true) (.cs (.row 1 true) (.cs (.var (.cs (.int .i64) (.cs (.int .i64) (.cs (.int .i64) (.cs (.int .i64) (.cs (.int .i64) (.cs (.int .i64) .nl))))))) (.cs (.row 2 true) .nl))))))
def ou7 (l : T7) (y : ((List Int) ⊕ (Int × (List Int)))) : Ex × St U := (Sum.elim (fun a0 => (.exit 0, stOf 64 [(10, .own 4)] [.var [.ptr 1 0, .im (.int .i64 l.2.1.2.1), .im (.int .i64 l.2.1.2.2.1), .im (.int .i64 l.2.1.2.2.2.1), .im (.int .i64 l.2.1.2.2.2.2.1), .im (.int .i64 l.2.1.2.2.2.2.2.1), .im (.int .i64 l.2.1.2.2.2.2.2.2.1)], .var [.own 2, .im (.int .i64 l.2.2.1.2.1), .own 3, .im (.int .i64 l.2.2.1.2.2.2.1), .im (.bool l.2.2.1.2.2.2.2.1), .im (.int .i64 l.2.2.1.2.2.2.2.2.1), .im .nils], .row 3 l.2.2.2.1 true, .row 1 l.2.2.2.2.1 true, .row 2 a0 true] 4)) (fun b0 => (.ret, stOf 64 [(6, .im .nils), (7, .im (.int .i64 b0.1)), (10, .own 4)] [.var [.ptr 1 0, .im (.int .i64 l.2.1.2.1), .im (.int .i64 l.2.1.2.2.1), .im (.int .i64 l.2.1.2.2.2.1), .im (.int .i64 l.2.1.2.2.2.2.1), .im (.int .i64 l.2.1.2.2.2.2.2.1), .im (.int .i64 l.2.1.2.2.2.2.2.2.1)], .var [.own 2, .im (.int .i64 l.2.2.1.2.1), .own 3, .im (.int .i64 l.2.2.1.2.2.2.1), .im (.bool l.2.2.1.2.2.2.2.1), .im (.int .i64 l.2.2.1.2.2.2.2.2.1), .im .nils], .row 3 l.2.2.2.1 true, .row 1 l.2.2.2.2.1 true, .row 2 b0.2 true] 4)) y)
noncomputable def Λ7 : LFun U := mkLp (U := U) p7 q7 4 (X := ((List Int) ⊕ (Int × (List Int)))) (fun (l : T7) => L7 l.1.2.1 l.1.2.2.1 l.1.2.2.2.2.2.2.2.1 l.1.2.2.2.2.2.2.2.2.1 l.2.1.2.1 l.2.1.2.2.1 l.2.1.2.2.2.1 l.2.1.2.2.2.2.1 l.2.1.2.2.2.2.2.1 l.2.1.2.2.2.2.2.2.1 l.2.2.1.2.1 l.2.2.1.2.2.2.1 l.2.2.1.2.2.2.2.1 l.2.2.1.2.2.2.2.2.1 l.2.2.2.1 l.2.2.2.2.1 l.2.2.2.2.2.1.1 l.2.2.2.2.2.1.2.1 l.2.2.2.2.2.1.2.2.1 l.2.2.2.2.2.1.2.2.2.1 l.2.2.2.2.2.1.2.2.2.2.1 l.2.2.2.2.2.1.2.2.2.2.2.1 l.2.2.2.2.2.2.1) (spS sp1) ou7
noncomputable def t (slot total h0_1 h0_2 h0_3 h0_4 h0_5 h0_6 h1_1 h1_3 : Int) (h1_4 : Bool) (h1_5 : Int) (h2 : (List Int)) (h3 : (List Int)) : Tw (Int × (List Int)) :=
 (.opt (slot_fine.c slot total h0_1 h0_2 h0_3 h0_4 h0_5 h0_6 h1_1 h1_3 h1_4 h1_5 h2 h3) fun z1 =>
  (.bb (z1 != (0 : Int))
   (.ret (z1, ([] : List (Int))))
   (.opt (drive_Drive_Geometry.c h0_1 h0_2 h0_3 h0_4 h0_5 h0_6 h1_1 h1_3 h1_4 h1_5 h2 h3) fun z2 =>
    (.dd ((((0 : Int) ≤ (0 : Int)) ∧ (((0 : Int) ≤ total) ∧ ((total ≤ (140737488355328 : Int)) ∧ ((total * (((1 : Nat) : Nat) : Int)) ≤ (140737488355328 : Int)))))) inferInstance
     (.opt (geom_Chunks.c h0_1 h0_2 h0_3 h0_4 h0_5 h0_6 total) fun z3 =>
      (.opt (L7 slot total z3 (0 : Int) h0_1 h0_2 h0_3 h0_4 h0_5 h0_6 h1_1 h1_3 h1_4 h1_5 h2 h3 h0_1 h0_2 h0_3 h0_4 h0_5 h0_6 (List.replicate (Int.toNat (0 : Int)) (0 : Int))) fun z9 =>
       (.sm z9
        (fun z10 => (.ret ((0 : Int), z10)))
        (fun z11 => (.ret (z11.1, ([] : List (Int))))))))
     .no))))
noncomputable def c (slot total h0_1 h0_2 h0_3 h0_4 h0_5 h0_6 h1_1 h1_3 : Int) (h1_4 : Bool) (h1_5 : Int) (h2 : (List Int)) (h3 : (List Int)) : Option (Int × (List Int)) := (t slot total h0_1 h0_2 h0_3 h0_4 h0_5 h0_6 h1_1 h1_3 h1_4 h1_5 h2 h3).run
def pA : Pt := (.cs (.ptr 0 0) (.cs (.int .i64) (.cs (.int .i64) .nl)))
def pH : Pt := (.cs (.var (.cs (.ptr 1 0) (.cs (.int .i64) (.cs (.int .i64) (.cs (.int .i64) (.cs (.int .i64) (.cs (.int .i64) (.cs (.int .i64) .nl)))))))) (.cs (.var (.cs (.own 2) (.cs (.int .i64) (.cs (.own 3) (.cs (.int .i64) (.cs .bool (.cs (.int .i64) (.cs .nils .nl)))))))) (.cs (.row 3 true) (.cs (.row 1 true) .nl))))
def v (l : TA) (y : (Int × (List Int))) : AV U := .tup [.own 4, .im (.int .i64 y.1)]
def hh (l : TA) (y : (Int × (List Int))) : Hp U := [.var [.ptr 1 0, .im (.int .i64 l.2.1.2.1), .im (.int .i64 l.2.1.2.2.1), .im (.int .i64 l.2.1.2.2.2.1), .im (.int .i64 l.2.1.2.2.2.2.1), .im (.int .i64 l.2.1.2.2.2.2.2.1), .im (.int .i64 l.2.1.2.2.2.2.2.2.1)], .var [.own 2, .im (.int .i64 l.2.2.1.2.1), .own 3, .im (.int .i64 l.2.2.1.2.2.2.1), .im (.bool l.2.2.1.2.2.2.2.1), .im (.int .i64 l.2.2.1.2.2.2.2.2.1), .im .nils], .row 3 l.2.2.2.1 true, .row 1 l.2.2.2.2.1 true, .row 2 y.2 true]
noncomputable def A : AFun U := mkA (U := U) pA pH (X := (Int × (List Int))) (fun (l : TA) => c l.1.2.1 l.1.2.2.1 l.2.1.2.1 l.2.1.2.2.1 l.2.1.2.2.2.1 l.2.1.2.2.2.2.1 l.2.1.2.2.2.2.2.1 l.2.1.2.2.2.2.2.2.1 l.2.2.1.2.1 l.2.2.1.2.2.2.1 l.2.2.1.2.2.2.2.1 l.2.2.1.2.2.2.2.2.1 l.2.2.2.1 l.2.2.2.2.1) sp1 v hh
noncomputable def body : Code := (Go.Func.body Try.f23).getD .skip
noncomputable def Γ : List (FuncId × AFun U) := [(32, slot_fine.A), (33, drive_Drive_Geometry.A), (36, geom_Chunks.A), (44, geom_Part.A), (45, geom_Chunk.A), (46, word_Need.A), (34, drive_Drive_Read.A), (47, word_Bytes.A)]
noncomputable def Λ : List (Nat × LFun U) := [(7, Λ7)]
noncomputable def CT : List (Nat × LFun U) := []
def ro : List FuncId := [32, 33, 34]
def D : Nat → Lv × Lv := dtab [(7, ⟨[30, 10, 1, 9, 0, 2, 29], []⟩, ⟨[6, 7, 10], []⟩)]
noncomputable def E : Env U := { E0 with Γ := Γ, Λ := Λ, C := CT, D := D, ro := ro }
theorem hf7 (R : Type) (l : T7) (s : (Int × (List Int))) (K : Ex → St U → Option R) : codeA E (pick (loopsOf body) 7) ⟨p7.mkL ((((), (l.1.2.1, (l.1.2.2.1, ((), ((), ((), ((), (l.1.2.2.2.2.2.2.2.1, (s.1, ((), ())))))))))), (((), (l.2.1.2.1, (l.2.1.2.2.1, (l.2.1.2.2.2.1, (l.2.1.2.2.2.2.1, (l.2.1.2.2.2.2.2.1, (l.2.1.2.2.2.2.2.2.1, ()))))))), (((), (l.2.2.1.2.1, ((), (l.2.2.1.2.2.2.1, (l.2.2.1.2.2.2.2.1, (l.2.2.1.2.2.2.2.2.1, ((), ()))))))), (l.2.2.2.1, (l.2.2.2.2.1, ((l.2.2.2.2.2.1.1, (l.2.2.2.2.2.1.2.1, (l.2.2.2.2.2.1.2.2.1, (l.2.2.2.2.2.1.2.2.2.1, (l.2.2.2.2.2.1.2.2.2.2.1, (l.2.2.2.2.2.1.2.2.2.2.2.1, ())))))), (s.2, ()))))))) : T7).1, q7.mkH ((((), (l.1.2.1, (l.1.2.2.1, ((), ((), ((), ((), (l.1.2.2.2.2.2.2.2.1, (s.1, ((), ())))))))))), (((), (l.2.1.2.1, (l.2.1.2.2.1, (l.2.1.2.2.2.1, (l.2.1.2.2.2.2.1, (l.2.1.2.2.2.2.2.1, (l.2.1.2.2.2.2.2.2.1, ()))))))), (((), (l.2.2.1.2.1, ((), (l.2.2.1.2.2.2.1, (l.2.2.1.2.2.2.2.1, (l.2.2.1.2.2.2.2.2.1, ((), ()))))))), (l.2.2.2.1, (l.2.2.2.2.1, ((l.2.2.2.2.2.1.1, (l.2.2.2.2.2.1.2.1, (l.2.2.2.2.2.1.2.2.1, (l.2.2.2.2.2.1.2.2.2.1, (l.2.2.2.2.2.1.2.2.2.2.1, (l.2.2.2.2.2.1.2.2.2.2.2.1, ())))))), (s.2, ()))))))) : T7).2, 4⟩ (roundK E (pick (loopsOf body) 7) K) =
  (l7 l.1.2.1 l.1.2.2.1 l.1.2.2.2.2.2.2.2.1 l.2.1.2.1 l.2.1.2.2.1 l.2.1.2.2.2.1 l.2.1.2.2.2.2.1 l.2.1.2.2.2.2.2.1 l.2.1.2.2.2.2.2.2.1 l.2.2.1.2.1 l.2.2.1.2.2.2.1 l.2.2.1.2.2.2.2.1 l.2.2.1.2.2.2.2.2.1 l.2.2.2.1 l.2.2.2.2.1 l.2.2.2.2.2.1.1 l.2.2.2.2.2.1.2.1 l.2.2.2.2.2.1.2.2.1 l.2.2.2.2.2.1.2.2.2.1 l.2.2.2.2.2.1.2.2.2.2.1 l.2.2.2.2.2.1.2.2.2.2.2.1 s.1 s.2).runK (lpK K (fun s => ⟨p7.mkL ((((), (l.1.2.1, (l.1.2.2.1, ((), ((), ((), ((), (l.1.2.2.2.2.2.2.2.1, (s.1, ((), ())))))))))), (((), (l.2.1.2.1, (l.2.1.2.2.1, (l.2.1.2.2.2.1, (l.2.1.2.2.2.2.1, (l.2.1.2.2.2.2.2.1, (l.2.1.2.2.2.2.2.2.1, ()))))))), (((), (l.2.2.1.2.1, ((), (l.2.2.1.2.2.2.1, (l.2.2.1.2.2.2.2.1, (l.2.2.1.2.2.2.2.2.1, ((), ()))))))), (l.2.2.2.1, (l.2.2.2.2.1, ((l.2.2.2.2.2.1.1, (l.2.2.2.2.2.1.2.1, (l.2.2.2.2.2.1.2.2.1, (l.2.2.2.2.2.1.2.2.2.1, (l.2.2.2.2.2.1.2.2.2.2.1, (l.2.2.2.2.2.1.2.2.2.2.2.1, ())))))), (s.2, ()))))))) : T7).1, q7.mkH ((((), (l.1.2.1, (l.1.2.2.1, ((), ((), ((), ((), (l.1.2.2.2.2.2.2.2.1, (s.1, ((), ())))))))))), (((), (l.2.1.2.1, (l.2.1.2.2.1, (l.2.1.2.2.2.1, (l.2.1.2.2.2.2.1, (l.2.1.2.2.2.2.2.1, (l.2.1.2.2.2.2.2.2.1, ()))))))), (((), (l.2.2.1.2.1, ((), (l.2.2.1.2.2.2.1, (l.2.2.1.2.2.2.2.1, (l.2.2.1.2.2.2.2.2.1, ((), ()))))))), (l.2.2.2.1, (l.2.2.2.2.1, ((l.2.2.2.2.2.1.1, (l.2.2.2.2.2.1.2.1, (l.2.2.2.2.2.1.2.2.1, (l.2.2.2.2.2.1.2.2.2.1, (l.2.2.2.2.2.1.2.2.2.2.1, (l.2.2.2.2.2.1.2.2.2.2.2.1, ())))))), (s.2, ()))))))) : T7).2, 4⟩) (spS sp1) (ou7 l)) := by kernel_rfl
theorem lk7 (R : Type) (st : St U) (K : Ex → St U → Option R) (r : R) (h : Λ7 R st K = some r) : ∃ n, loopA E (pick (loopsOf body) 7) n st K = some r :=
  lp_ok (U := U) (E := E) (b := pick (loopsOf body) 7) (m := 4) (sp := (spS sp1)) (p := p7) (q := q7) (X := ((List Int) ⊕ (Int × (List Int)))) (S := (Int × (List Int))) (f := fun (l : T7) s => l7 l.1.2.1 l.1.2.2.1 l.1.2.2.2.2.2.2.2.1 l.2.1.2.1 l.2.1.2.2.1 l.2.1.2.2.2.1 l.2.1.2.2.2.2.1 l.2.1.2.2.2.2.2.1 l.2.1.2.2.2.2.2.2.1 l.2.2.1.2.1 l.2.2.1.2.2.2.1 l.2.2.1.2.2.2.2.1 l.2.2.1.2.2.2.2.2.1 l.2.2.2.1 l.2.2.2.2.1 l.2.2.2.2.2.1.1 l.2.2.2.2.2.1.2.1 l.2.2.2.2.2.1.2.2.1 l.2.2.2.2.2.1.2.2.2.1 l.2.2.2.2.2.1.2.2.2.2.1 l.2.2.2.2.2.1.2.2.2.2.2.1 s.1 s.2) (hd := fun (l : T7) s => (((), (l.1.2.1, (l.1.2.2.1, ((), ((), ((), ((), (l.1.2.2.2.2.2.2.2.1, (s.1, ((), ())))))))))), (((), (l.2.1.2.1, (l.2.1.2.2.1, (l.2.1.2.2.2.1, (l.2.1.2.2.2.2.1, (l.2.1.2.2.2.2.2.1, (l.2.1.2.2.2.2.2.2.1, ()))))))), (((), (l.2.2.1.2.1, ((), (l.2.2.1.2.2.2.1, (l.2.2.1.2.2.2.2.1, (l.2.2.1.2.2.2.2.2.1, ((), ()))))))), (l.2.2.2.1, (l.2.2.2.2.1, ((l.2.2.2.2.2.1.1, (l.2.2.2.2.2.1.2.1, (l.2.2.2.2.2.1.2.2.1, (l.2.2.2.2.2.1.2.2.2.1, (l.2.2.2.2.2.1.2.2.2.2.1, (l.2.2.2.2.2.1.2.2.2.2.2.1, ())))))), (s.2, ())))))))) (s0 := fun (l : T7) => (l.1.2.2.2.2.2.2.2.2.1, l.2.2.2.2.2.2.1)) (ou := ou7)
    (fun l => rfl) (fun l x => by repeat' (first | rfl | (cases x with | inl => rfl | inr x => ?_))) (spS_ok sp1_ok) hf7 h
theorem hk (R : Type) (l : TA) (K : AV U → Hp U → Option R) : funcA E Try.f23 [(0, [], .own 2)] R (pA.mkL l.1) (pH.mkH l.2) K = (t l.1.2.1 l.1.2.2.1 l.2.1.2.1 l.2.1.2.2.1 l.2.1.2.2.2.1 l.2.1.2.2.2.2.1 l.2.1.2.2.2.2.2.1 l.2.1.2.2.2.2.2.2.1 l.2.2.1.2.1 l.2.2.1.2.2.2.1 l.2.2.1.2.2.2.2.1 l.2.2.1.2.2.2.2.2.1 l.2.2.2.1 l.2.2.2.2.1).runK fun y => K (v l y) (hh l y) := by kernel_rfl
theorem okF : SoundF Try.prog cc 23 (funcA E Try.f23 [(0, [], .own 2)]) :=
  funcA_ok (E := E) P_mixed (E0_ok.with Γ Λ CT D ro) (gam_of (all_cons ⟨slot_fine.ok, ⟨Try.f32, Try.func32, by kernel_rfl, by kernel_rfl⟩⟩ (all_cons ⟨drive_Drive_Geometry.ok, ⟨Try.f33, Try.func33, by kernel_rfl, by kernel_rfl⟩⟩ (all_cons ⟨geom_Chunks.ok, ⟨Try.f36, Try.func36, by kernel_rfl, by kernel_rfl⟩⟩ (all_cons ⟨geom_Part.ok, ⟨Try.f44, Try.func44, by kernel_rfl, by kernel_rfl⟩⟩ (all_cons ⟨geom_Chunk.ok, ⟨Try.f45, Try.func45, by kernel_rfl, by kernel_rfl⟩⟩ (all_cons ⟨word_Need.ok, ⟨Try.f46, Try.func46, by kernel_rfl, by kernel_rfl⟩⟩ (all_cons ⟨drive_Drive_Read.ok, ⟨Try.f34, Try.func34, by kernel_rfl, by kernel_rfl⟩⟩ (all_cons ⟨word_Bytes.ok, ⟨Try.f47, Try.func47, by kernel_rfl, by kernel_rfl⟩⟩ all_nil)))))))) (all_cons (fun _ => slot_fine.keep) (all_cons (fun _ => drive_Drive_Geometry.keep) (all_cons (no_keep (by kernel_rfl)) (all_cons (no_keep (by kernel_rfl)) (all_cons (no_keep (by kernel_rfl)) (all_cons (no_keep (by kernel_rfl)) (all_cons (fun _ => drive_Drive_Read.keep) (all_cons (no_keep (by kernel_rfl)) all_nil))))))))) Try.func23 (c := body) (by kernel_rfl)
    (just_by (by kernel_rfl) (by kernel_rfl) (all_cons lk7 all_nil) all_nil) [(0, [], .own 2)]
theorem ok : SoundF Try.prog cc 23 A :=
  mkA_ok (E := E) (p := pA) (q := pH) (t := fun (l : TA) => t l.1.2.1 l.1.2.2.1 l.2.1.2.1 l.2.1.2.2.1 l.2.1.2.2.2.1 l.2.1.2.2.2.2.1 l.2.1.2.2.2.2.2.1 l.2.1.2.2.2.2.2.2.1 l.2.2.1.2.1 l.2.2.1.2.2.2.1 l.2.2.1.2.2.2.2.1 l.2.2.1.2.2.2.2.2.1 l.2.2.2.1 l.2.2.2.2.1) sp1_ok hk okF
theorem keep : KeepA A := mkA_keep (U := U) sp1_ok (fun (l : TA) y => ⟨(hh l y).drop 4, by kernel_rfl⟩)
end slot_Bytes

/-! instar/slot.Done -/
namespace slot_Done
abbrev TA : Type := ((Unit × (Int × (Int × Unit))) × ((Unit × (Int × (Int × (Int × (Int × (Int × (Int × Unit))))))) × ((Unit × (Int × (Unit × (Int × (Bool × (Int × (Unit × Unit))))))) × ((List Int) × ((List Int) × Unit)))))
abbrev T9 : Type := ((Unit × (Unit × (Unit × (Unit × (Int × (Int × (Unit × Unit))))))) × ((Unit × (Int × (Int × (Int × (Int × (Int × (Int × Unit))))))) × ((Unit × (Int × (Unit × (Int × (Bool × (Int × (Unit × Unit))))))) × ((List Int) × ((List Int) × ((List Int) × Unit))))))
noncomputable def l9 (k38 h0_1 h0_2 h0_3 h0_4 h0_5 h0_6 h1_1 h1_3 : Int) (h1_4 : Bool) (h1_5 : Int) (h2 : (List Int)) (h3 : (List Int)) (h4 : (List Int)) (k39 : Int) : Tw (Int ⊕ (Unit ⊕ (Int × Int))) :=
 (.bb (decide (k39 < k38))
  (.dd ((((0 : Int) ≤ k39) ∧ (k39 < (((List.length h4) : Nat) : Int)))) inferInstance
   (.opt (h4)[(Int.toNat k39)]? fun z6 =>
    (.bb (z6 != (0 : Int))
     (.ret (.inr (.inr (k39, (0 : Int)))))
     (.ret (.inl (w64 (k39 + (1 : Int)))))))
   .no)
  (.ret (.inr (.inl ()))))
noncomputable def L9 (k38 k39 h0_1 h0_2 h0_3 h0_4 h0_5 h0_6 h1_1 h1_3 : Int) (h1_4 : Bool) (h1_5 : Int) (h2 : (List Int)) (h3 : (List Int)) (h4 : (List Int)) : Option (Unit ⊕ (Int × Int)) := Lp (fun s => (l9 k38 h0_1 h0_2 h0_3 h0_4 h0_5 h0_6 h1_1 h1_3 h1_4 h1_5 h2 h3 h4 s).run) k39
def p9 : Pt := (.cs (.bots 10) (.cs (.own 4) (.cs (.bots 26) (.cs (.own 4) (.cs (.int .i64) (.cs (.int .i64) (.cs (.bots 10) .nl)))))))
def q9 : Pt := (.cs (.var (.cs (.ptr 1 0) (.cs (.int .i64) (.cs (.int .i64) (.cs (.int .i64) (.cs (.int .i64) (.cs (.int .i64) (.cs (.int .i64) .nl)))))))) (.cs (.var (.cs (.own 2) (.cs (.int .i64) (.cs (.own 3) (.cs (.int .i64) (.cs .bool (.cs (.int .i64) (.cs .nils .nl)))))))) (.cs (.row 3 true) (.cs (.row 1 true) (.cs (.row 3 true) .nl)))))
def ou9 (l : T9) (y : (Unit ⊕ (Int × Int))) : Ex × St U := (Sum.elim (fun a0 => (.exit 0, stOf 50 [(10, .own 4)] [.var [.ptr 1 0, .im (.int .i64 l.2.1.2.1), .im (.int .i64 l.2.1.2.2.1), .im (.int .i64 l.2.1.2.2.2.1), .im (.int .i64 l.2.1.2.2.2.2.1), .im (.int .i64 l.2.1.2.2.2.2.2.1), .im (.int .i64 l.2.1.2.2.2.2.2.2.1)], .var [.own 2, .im (.int .i64 l.2.2.1.2.1), .own 3, .im (.int .i64 l.2.2.1.2.2.2.1), .im (.bool l.2.2.1.2.2.2.2.1), .im (.int .i64 l.2.2.1.2.2.2.2.2.1), .im .nils], .row 3 l.2.2.2.1 true, .row 1 l.2.2.2.2.1 true, .row 3 l.2.2.2.2.2.1 true] 4)) (fun b0 => (.ret, stOf 50 [(6, .im (.int .i64 b0.1)), (7, .im (.int .i64 b0.2)), (10, .own 4)] [.var [.ptr 1 0, .im (.int .i64 l.2.1.2.1), .im (.int .i64 l.2.1.2.2.1), .im (.int .i64 l.2.1.2.2.2.1), .im (.int .i64 l.2.1.2.2.2.2.1), .im (.int .i64 l.2.1.2.2.2.2.2.1), .im (.int .i64 l.2.1.2.2.2.2.2.2.1)], .var [.own 2, .im (.int .i64 l.2.2.1.2.1), .own 3, .im (.int .i64 l.2.2.1.2.2.2.1), .im (.bool l.2.2.1.2.2.2.2.1), .im (.int .i64 l.2.2.1.2.2.2.2.2.1), .im .nils], .row 3 l.2.2.2.1 true, .row 1 l.2.2.2.2.1 true, .row 3 l.2.2.2.2.2.1 true] 4)) y)
noncomputable def Λ9 : LFun U := mkLp (U := U) p9 q9 4 (X := (Unit ⊕ (Int × Int))) (fun (l : T9) => L9 l.1.2.2.2.2.1 l.1.2.2.2.2.2.1 l.2.1.2.1 l.2.1.2.2.1 l.2.1.2.2.2.1 l.2.1.2.2.2.2.1 l.2.1.2.2.2.2.2.1 l.2.1.2.2.2.2.2.2.1 l.2.2.1.2.1 l.2.2.1.2.2.2.1 l.2.2.1.2.2.2.2.1 l.2.2.1.2.2.2.2.2.1 l.2.2.2.1 l.2.2.2.2.1 l.2.2.2.2.2.1) (spS sp1) ou9
noncomputable def t (slot total h0_1 h0_2 h0_3 h0_4 h0_5 h0_6 h1_1 h1_3 : Int) (h1_4 : Bool) (h1_5 : Int) (h2 : (List Int)) (h3 : (List Int)) : Tw (Int × Int) :=
 (.opt (slot_fine.c slot total h0_1 h0_2 h0_3 h0_4 h0_5 h0_6 h1_1 h1_3 h1_4 h1_5 h2 h3) fun z1 =>
  (.bb (z1 != (0 : Int))
   (.ret ((0 : Int), z1))
   (.opt (drive_Drive_Geometry.c h0_1 h0_2 h0_3 h0_4 h0_5 h0_6 h1_1 h1_3 h1_4 h1_5 h2 h3) fun z2 =>
    (.opt (geom_Ledger.c h0_1 h0_2 h0_3 h0_4 h0_5 h0_6 slot) fun z3 =>
     (.opt (geom_Chunks.c h0_1 h0_2 h0_3 h0_4 h0_5 h0_6 total) fun z4 =>
      (.opt (drive_Drive_Read.c z3 (0 : Int) z4 h0_1 h0_2 h0_3 h0_4 h0_5 h0_6 h1_1 h1_3 h1_4 h1_5 h2 h3) fun z5 =>
       (.bb (z5.1 != (0 : Int))
        (.ret ((0 : Int), z5.1))
        (.opt (L9 (((List.length z5.2) : Nat) : Int) (0 : Int) h0_1 h0_2 h0_3 h0_4 h0_5 h0_6 h1_1 h1_3 h1_4 h1_5 h2 h3 z5.2) fun z7 =>
         (.sm z7
          (fun z8 => (.ret ((((List.length z5.2) : Nat) : Int), (0 : Int))))
          (fun z9 => (.ret (z9.1, z9.2))))))))))))
noncomputable def c (slot total h0_1 h0_2 h0_3 h0_4 h0_5 h0_6 h1_1 h1_3 : Int) (h1_4 : Bool) (h1_5 : Int) (h2 : (List Int)) (h3 : (List Int)) : Option (Int × Int) := (t slot total h0_1 h0_2 h0_3 h0_4 h0_5 h0_6 h1_1 h1_3 h1_4 h1_5 h2 h3).run
def pA : Pt := (.cs (.ptr 0 0) (.cs (.int .i64) (.cs (.int .i64) .nl)))
def pH : Pt := (.cs (.var (.cs (.ptr 1 0) (.cs (.int .i64) (.cs (.int .i64) (.cs (.int .i64) (.cs (.int .i64) (.cs (.int .i64) (.cs (.int .i64) .nl)))))))) (.cs (.var (.cs (.own 2) (.cs (.int .i64) (.cs (.own 3) (.cs (.int .i64) (.cs .bool (.cs (.int .i64) (.cs .nils .nl)))))))) (.cs (.row 3 true) (.cs (.row 1 true) .nl))))
def v (l : TA) (y : (Int × Int)) : AV U := .tup [.im (.int .i64 y.1), .im (.int .i64 y.2)]
def hh (l : TA) (y : (Int × Int)) : Hp U := [.var [.ptr 1 0, .im (.int .i64 l.2.1.2.1), .im (.int .i64 l.2.1.2.2.1), .im (.int .i64 l.2.1.2.2.2.1), .im (.int .i64 l.2.1.2.2.2.2.1), .im (.int .i64 l.2.1.2.2.2.2.2.1), .im (.int .i64 l.2.1.2.2.2.2.2.2.1)], .var [.own 2, .im (.int .i64 l.2.2.1.2.1), .own 3, .im (.int .i64 l.2.2.1.2.2.2.1), .im (.bool l.2.2.1.2.2.2.2.1), .im (.int .i64 l.2.2.1.2.2.2.2.2.1), .im .nils], .row 3 l.2.2.2.1 true, .row 1 l.2.2.2.2.1 true]
noncomputable def A : AFun U := mkA (U := U) pA pH (X := (Int × Int)) (fun (l : TA) => c l.1.2.1 l.1.2.2.1 l.2.1.2.1 l.2.1.2.2.1 l.2.1.2.2.2.1 l.2.1.2.2.2.2.1 l.2.1.2.2.2.2.2.1 l.2.1.2.2.2.2.2.2.1 l.2.2.1.2.1 l.2.2.1.2.2.2.1 l.2.2.1.2.2.2.2.1 l.2.2.1.2.2.2.2.2.1 l.2.2.2.1 l.2.2.2.2.1) sp1 v hh
noncomputable def body : Code := (Go.Func.body Try.f13).getD .skip
noncomputable def Γ : List (FuncId × AFun U) := [(32, slot_fine.A), (33, drive_Drive_Geometry.A), (35, geom_Ledger.A), (36, geom_Chunks.A), (34, drive_Drive_Read.A)]
noncomputable def Λ : List (Nat × LFun U) := [(9, Λ9)]
noncomputable def CT : List (Nat × LFun U) := []
def ro : List FuncId := [32, 33, 34]
def D : Nat → Lv × Lv := dtab [(9, ⟨[39, 37, 10, 38], []⟩, ⟨[6, 7, 10], []⟩)]
noncomputable def E : Env U := { E0 with Γ := Γ, Λ := Λ, C := CT, D := D, ro := ro }
theorem hf9 (R : Type) (l : T9) (s : Int) (K : Ex → St U → Option R) : codeA E (pick (loopsOf body) 9) ⟨p9.mkL ((((), ((), ((), ((), (l.1.2.2.2.2.1, (s, ((), ()))))))), (((), (l.2.1.2.1, (l.2.1.2.2.1, (l.2.1.2.2.2.1, (l.2.1.2.2.2.2.1, (l.2.1.2.2.2.2.2.1, (l.2.1.2.2.2.2.2.2.1, ()))))))), (((), (l.2.2.1.2.1, ((), (l.2.2.1.2.2.2.1, (l.2.2.1.2.2.2.2.1, (l.2.2.1.2.2.2.2.2.1, ((), ()))))))), (l.2.2.2.1, (l.2.2.2.2.1, (l.2.2.2.2.2.1, ())))))) : T9).1, q9.mkH ((((), ((), ((), ((), (l.1.2.2.2.2.1, (s, ((), ()))))))), (((), (l.2.1.2.1, (l.2.1.2.2.1, (l.2.1.2.2.2.1, (l.2.1.2.2.2.2.1, (l.2.1.2.2.2.2.2.1, (l.2.1.2.2.2.2.2.2.1, ()))))))), (((), (l.2.2.1.2.1, ((), (l.2.2.1.2.2.2.1, (l.2.2.1.2.2.2.2.1, (l.2.2.1.2.2.2.2.2.1, ((), ()))))))), (l.2.2.2.1, (l.2.2.2.2.1, (l.2.2.2.2.2.1, ())))))) : T9).2, 4⟩ (roundK E (pick (loopsOf body) 9) K) =
  (l9 l.1.2.2.2.2.1 l.2.1.2.1 l.2.1.2.2.1 l.2.1.2.2.2.1 l.2.1.2.2.2.2.1 l.2.1.2.2.2.2.2.1 l.2.1.2.2.2.2.2.2.1 l.2.2.1.2.1 l.2.2.1.2.2.2.1 l.2.2.1.2.2.2.2.1 l.2.2.1.2.2.2.2.2.1 l.2.2.2.1 l.2.2.2.2.1 l.2.2.2.2.2.1 s).runK (lpK K (fun s => ⟨p9.mkL ((((), ((), ((), ((), (l.1.2.2.2.2.1, (s, ((), ()))))))), (((), (l.2.1.2.1, (l.2.1.2.2.1, (l.2.1.2.2.2.1, (l.2.1.2.2.2.2.1, (l.2.1.2.2.2.2.2.1, (l.2.1.2.2.2.2.2.2.1, ()))))))), (((), (l.2.2.1.2.1, ((), (l.2.2.1.2.2.2.1, (l.2.2.1.2.2.2.2.1, (l.2.2.1.2.2.2.2.2.1, ((), ()))))))), (l.2.2.2.1, (l.2.2.2.2.1, (l.2.2.2.2.2.1, ())))))) : T9).1, q9.mkH ((((), ((), ((), ((), (l.1.2.2.2.2.1, (s, ((), ()))))))), (((), (l.2.1.2.1, (l.2.1.2.2.1, (l.2.1.2.2.2.1, (l.2.1.2.2.2.2.1, (l.2.1.2.2.2.2.2.1, (l.2.1.2.2.2.2.2.2.1, ()))))))), (((), (l.2.2.1.2.1, ((), (l.2.2.1.2.2.2.1, (l.2.2.1.2.2.2.2.1, (l.2.2.1.2.2.2.2.2.1, ((), ()))))))), (l.2.2.2.1, (l.2.2.2.2.1, (l.2.2.2.2.2.1, ())))))) : T9).2, 4⟩) (spS sp1) (ou9 l)) := by kernel_rfl
theorem lk9 (R : Type) (st : St U) (K : Ex → St U → Option R) (r : R) (h : Λ9 R st K = some r) : ∃ n, loopA E (pick (loopsOf body) 9) n st K = some r :=
  lp_ok (U := U) (E := E) (b := pick (loopsOf body) 9) (m := 4) (sp := (spS sp1)) (p := p9) (q := q9) (X := (Unit ⊕ (Int × Int))) (S := Int) (f := fun (l : T9) s => l9 l.1.2.2.2.2.1 l.2.1.2.1 l.2.1.2.2.1 l.2.1.2.2.2.1 l.2.1.2.2.2.2.1 l.2.1.2.2.2.2.2.1 l.2.1.2.2.2.2.2.2.1 l.2.2.1.2.1 l.2.2.1.2.2.2.1 l.2.2.1.2.2.2.2.1 l.2.2.1.2.2.2.2.2.1 l.2.2.2.1 l.2.2.2.2.1 l.2.2.2.2.2.1 s) (hd := fun (l : T9) s => (((), ((), ((), ((), (l.1.2.2.2.2.1, (s, ((), ()))))))), (((), (l.2.1.2.1, (l.2.1.2.2.1, (l.2.1.2.2.2.1, (l.2.1.2.2.2.2.1, (l.2.1.2.2.2.2.2.1, (l.2.1.2.2.2.2.2.2.1, ()))))))), (((), (l.2.2.1.2.1, ((), (l.2.2.1.2.2.2.1, (l.2.2.1.2.2.2.2.1, (l.2.2.1.2.2.2.2.2.1, ((), ()))))))), (l.2.2.2.1, (l.2.2.2.2.1, (l.2.2.2.2.2.1, ()))))))) (s0 := fun (l : T9) => l.1.2.2.2.2.2.1) (ou := ou9)
    (fun l => rfl) (fun l x => by repeat' (first | rfl | (cases x with | inl => rfl | inr x => ?_))) (spS_ok sp1_ok) hf9 h
theorem hk (R : Type) (l : TA) (K : AV U → Hp U → Option R) : funcA E Try.f13 [] R (pA.mkL l.1) (pH.mkH l.2) K = (t l.1.2.1 l.1.2.2.1 l.2.1.2.1 l.2.1.2.2.1 l.2.1.2.2.2.1 l.2.1.2.2.2.2.1 l.2.1.2.2.2.2.2.1 l.2.1.2.2.2.2.2.2.1 l.2.2.1.2.1 l.2.2.1.2.2.2.1 l.2.2.1.2.2.2.2.1 l.2.2.1.2.2.2.2.2.1 l.2.2.2.1 l.2.2.2.2.1).runK fun y => K (v l y) (hh l y) := by kernel_rfl
theorem okF : SoundF Try.prog cc 13 (funcA E Try.f13 []) :=
  funcA_ok (E := E) P_mixed (E0_ok.with Γ Λ CT D ro) (gam_of (all_cons ⟨slot_fine.ok, ⟨Try.f32, Try.func32, by kernel_rfl, by kernel_rfl⟩⟩ (all_cons ⟨drive_Drive_Geometry.ok, ⟨Try.f33, Try.func33, by kernel_rfl, by kernel_rfl⟩⟩ (all_cons ⟨geom_Ledger.ok, ⟨Try.f35, Try.func35, by kernel_rfl, by kernel_rfl⟩⟩ (all_cons ⟨geom_Chunks.ok, ⟨Try.f36, Try.func36, by kernel_rfl, by kernel_rfl⟩⟩ (all_cons ⟨drive_Drive_Read.ok, ⟨Try.f34, Try.func34, by kernel_rfl, by kernel_rfl⟩⟩ all_nil))))) (all_cons (fun _ => slot_fine.keep) (all_cons (fun _ => drive_Drive_Geometry.keep) (all_cons (no_keep (by kernel_rfl)) (all_cons (no_keep (by kernel_rfl)) (all_cons (fun _ => drive_Drive_Read.keep) all_nil)))))) Try.func13 (c := body) (by kernel_rfl)
    (just_by (by kernel_rfl) (by kernel_rfl) (all_cons lk9 all_nil) all_nil) []
theorem ok : SoundF Try.prog cc 13 A :=
  mkA_ok (E := E) (p := pA) (q := pH) (t := fun (l : TA) => t l.1.2.1 l.1.2.2.1 l.2.1.2.1 l.2.1.2.2.1 l.2.1.2.2.2.1 l.2.1.2.2.2.2.1 l.2.1.2.2.2.2.2.1 l.2.1.2.2.2.2.2.2.1 l.2.2.1.2.1 l.2.2.1.2.2.2.1 l.2.2.1.2.2.2.2.1 l.2.2.1.2.2.2.2.2.1 l.2.2.2.1 l.2.2.2.2.1) sp1_ok hk okF
theorem keep : KeepA A := mkA_keep (U := U) sp1_ok (fun (l : TA) y => ⟨(hh l y).drop 4, by kernel_rfl⟩)
end slot_Done

/-! instar/slot.fine -/
namespace slot_fine_v2
abbrev TA : Type := ((Unit × (Int × (Int × Unit))) × ((Unit × (Int × (Int × (Int × (Int × (Int × (Int × Unit))))))) × ((Unit × (Int × (Unit × (Int × (Bool × (Int × (Unit × Unit))))))) × ((List Int) × ((List Int) × ((List Int) × Unit))))))
noncomputable def t (slot total h0_1 h0_2 h0_3 h0_4 h0_5 h0_6 h1_1 h1_3 : Int) (h1_4 : Bool) (h1_5 : Int) (h2 : (List Int)) (h3 : (List Int)) (h4 : (List Int)) : Tw Int :=
 (.opt (drive_Drive_Geometry_v2.c h0_1 h0_2 h0_3 h0_4 h0_5 h0_6 h1_1 h1_3 h1_4 h1_5 h2 h3 h4) fun z1 =>
  (.opt (geom_Ledger.c h0_1 h0_2 h0_3 h0_4 h0_5 h0_6 slot) fun z2 =>
   (.bb (decide (z2 < (0 : Int)))
    (.ret (3 : Int))
    (.opt (geom_Chunks.c h0_1 h0_2 h0_3 h0_4 h0_5 h0_6 total) fun z3 =>
     (.bb (z3 == (0 : Int))
      (.ret (2 : Int))
      (.ret (0 : Int)))))))
noncomputable def c (slot total h0_1 h0_2 h0_3 h0_4 h0_5 h0_6 h1_1 h1_3 : Int) (h1_4 : Bool) (h1_5 : Int) (h2 : (List Int)) (h3 : (List Int)) (h4 : (List Int)) : Option Int := (t slot total h0_1 h0_2 h0_3 h0_4 h0_5 h0_6 h1_1 h1_3 h1_4 h1_5 h2 h3 h4).run
def pA : Pt := (.cs (.ptr 0 0) (.cs (.int .i64) (.cs (.int .i64) .nl)))
def pH : Pt := (.cs (.var (.cs (.ptr 1 0) (.cs (.int .i64) (.cs (.int .i64) (.cs (.int .i64) (.cs (.int .i64) (.cs (.int .i64) (.cs (.int .i64) .nl)))))))) (.cs (.var (.cs (.own 2) (.cs (.int .i64) (.cs (.own 3) (.cs (.int .i64) (.cs .bool (.cs (.int .i64) (.cs (.own 4) .nl)))))))) (.cs (.row 3 true) (.cs (.row 1 true) (.cs (.row 3 true) .nl)))))
def v (l : TA) (y : Int) : AV U := .im (.int .i64 y)
def hh (l : TA) (y : Int) : Hp U := [.var [.ptr 1 0, .im (.int .i64 l.2.1.2.1), .im (.int .i64 l.2.1.2.2.1), .im (.int .i64 l.2.1.2.2.2.1), .im (.int .i64 l.2.1.2.2.2.2.1), .im (.int .i64 l.2.1.2.2.2.2.2.1), .im (.int .i64 l.2.1.2.2.2.2.2.2.1)], .var [.own 2, .im (.int .i64 l.2.2.1.2.1), .own 3, .im (.int .i64 l.2.2.1.2.2.2.1), .im (.bool l.2.2.1.2.2.2.2.1), .im (.int .i64 l.2.2.1.2.2.2.2.2.1), .own 4], .row 3 l.2.2.2.1 true, .row 1 l.2.2.2.2.1 true, .row 3 l.2.2.2.2.2.1 true]
noncomputable def A : AFun U := mkA (U := U) pA pH (X := Int) (fun (l : TA) => c l.1.2.1 l.1.2.2.1 l.2.1.2.1 l.2.1.2.2.1 l.2.1.2.2.2.1 l.2.1.2.2.2.2.1 l.2.1.2.2.2.2.2.1 l.2.1.2.2.2.2.2.2.1 l.2.2.1.2.1 l.2.2.1.2.2.2.1 l.2.2.1.2.2.2.2.1 l.2.2.1.2.2.2.2.2.1 l.2.2.2.1 l.2.2.2.2.1 l.2.2.2.2.2.1) sp1 v hh
noncomputable def body : Code := (Go.Func.body Try.f32).getD .skip
noncomputable def Γ : List (FuncId × AFun U) := [(33, drive_Drive_Geometry_v2.A), (35, geom_Ledger.A), (36, geom_Chunks.A)]
noncomputable def Λ : List (Nat × LFun U) := []
noncomputable def CT : List (Nat × LFun U) := []
def ro : List FuncId := [33]
def D : Nat → Lv × Lv := dtab []
noncomputable def E : Env U := { E0 with Γ := Γ, Λ := Λ, C := CT, D := D, ro := ro }
theorem hk (R : Type) (l : TA) (K : AV U → Hp U → Option R) : funcA E Try.f32 [] R (pA.mkL l.1) (pH.mkH l.2) K = (t l.1.2.1 l.1.2.2.1 l.2.1.2.1 l.2.1.2.2.1 l.2.1.2.2.2.1 l.2.1.2.2.2.2.1 l.2.1.2.2.2.2.2.1 l.2.1.2.2.2.2.2.2.1 l.2.2.1.2.1 l.2.2.1.2.2.2.1 l.2.2.1.2.2.2.2.1 l.2.2.1.2.2.2.2.2.1 l.2.2.2.1 l.2.2.2.2.1 l.2.2.2.2.2.1).runK fun y => K (v l y) (hh l y) := by kernel_rfl
theorem okF : SoundF Try.prog cc 32 (funcA E Try.f32 []) :=
  funcA_ok (E := E) P_mixed (E0_ok.with Γ Λ CT D ro) (gam_of (all_cons ⟨drive_Drive_Geometry_v2.ok, ⟨Try.f33, Try.func33, by kernel_rfl, by kernel_rfl⟩⟩ (all_cons ⟨geom_Ledger.ok, ⟨Try.f35, Try.func35, by kernel_rfl, by kernel_rfl⟩⟩ (all_cons ⟨geom_Chunks.ok, ⟨Try.f36, Try.func36, by kernel_rfl, by kernel_rfl⟩⟩ all_nil))) (all_cons (fun _ => drive_Drive_Geometry_v2.keep) (all_cons (no_keep (by kernel_rfl)) (all_cons (no_keep (by kernel_rfl)) all_nil)))) Try.func32 (c := body) (by kernel_rfl)
    (just_by (by kernel_rfl) (by kernel_rfl) all_nil all_nil) []
theorem ok : SoundF Try.prog cc 32 A :=
  mkA_ok (E := E) (p := pA) (q := pH) (t := fun (l : TA) => t l.1.2.1 l.1.2.2.1 l.2.1.2.1 l.2.1.2.2.1 l.2.1.2.2.2.1 l.2.1.2.2.2.2.1 l.2.1.2.2.2.2.2.1 l.2.1.2.2.2.2.2.2.1 l.2.2.1.2.1 l.2.2.1.2.2.2.1 l.2.2.1.2.2.2.2.1 l.2.2.1.2.2.2.2.2.1 l.2.2.2.1 l.2.2.2.2.1 l.2.2.2.2.2.1) sp1_ok hk okF
theorem keep : KeepA A := mkA_keep (U := U) sp1_ok (fun (l : TA) y => ⟨(hh l y).drop 5, by kernel_rfl⟩)
end slot_fine_v2

/-! instar/slot.Chunk -/
namespace slot_Chunk_v2
abbrev TA : Type := ((Unit × (Int × (Int × (Int × ((List Int) × Unit))))) × ((Unit × (Int × (Int × (Int × (Int × (Int × (Int × Unit))))))) × ((Unit × (Int × (Unit × (Int × (Bool × (Int × (Unit × Unit))))))) × ((List Int) × ((List Int) × ((List Int) × Unit))))))
noncomputable def t (slot total i : Int) (b : (List Int)) (h0_1 h0_2 h0_3 h0_4 h0_5 h0_6 h1_1 h1_3 : Int) (h1_4 : Bool) (h1_5 : Int) (h2 : (List Int)) (h3 : (List Int)) (h4 : (List Int)) : Tw (Int × (Int × (Bool × (Int × ((List Int) × (List Int)))))) :=
 (.opt (slot_fine_v2.c slot total h0_1 h0_2 h0_3 h0_4 h0_5 h0_6 h1_1 h1_3 h1_4 h1_5 h2 h3 h4) fun z1 =>
  (.bb (z1 != (0 : Int))
   (.ret (z1, (h1_3, (h1_4, (h1_5, (h2, h3))))))
   (.opt (drive_Drive_Geometry_v2.c h0_1 h0_2 h0_3 h0_4 h0_5 h0_6 h1_1 h1_3 h1_4 h1_5 h2 h3 h4) fun z2 =>
    (.opt (geom_Part.c h0_1 h0_2 h0_3 h0_4 h0_5 h0_6 total i) fun z3 =>
     (.bb (z3 == (0 : Int))
      (.ret ((2 : Int), (h1_3, (h1_4, (h1_5, (h2, h3))))))
      (.bb (z3 != (((List.length b) : Nat) : Int))
       (.ret ((2 : Int), (h1_3, (h1_4, (h1_5, (h2, h3))))))
       (.opt (geom_Chunk.c h0_1 h0_2 h0_3 h0_4 h0_5 h0_6 slot i) fun z4 =>
        (.opt (word_Pack.c b) fun z5 =>
         (.opt (drive_Drive_Fresh_v2.c z4 z5 h0_1 h0_2 h0_3 h0_4 h0_5 h0_6 h1_1 h1_3 h1_4 h1_5 h2 h3 h4) fun z6 =>
          (.bb (z6.1 != (0 : Int))
           (.ret (z6.1, (z6.2.1, (z6.2.2.1, (z6.2.2.2.1, (z6.2.2.2.2.1, z6.2.2.2.2.2))))))
           (.opt (geom_Ledger.c h0_1 h0_2 h0_3 h0_4 h0_5 h0_6 slot) fun z7 =>
            (.opt (drive_Drive_Write_v2.c z7 i ((0 : Int) :: ([] : List (Int))) h0_1 h0_2 h0_3 h0_4 h0_5 h0_6 h1_1 z6.2.1 z6.2.2.1 z6.2.2.2.1 z6.2.2.2.2.1 z6.2.2.2.2.2 h4) fun z8 =>
             (.ret (z8.1, (z8.2.1, (z8.2.2.1, (z8.2.2.2.1, (z8.2.2.2.2, z6.2.2.2.2.2))))))))))))))))))
noncomputable def c (slot total i : Int) (b : (List Int)) (h0_1 h0_2 h0_3 h0_4 h0_5 h0_6 h1_1 h1_3 : Int) (h1_4 : Bool) (h1_5 : Int) (h2 : (List Int)) (h3 : (List Int)) (h4 : (List Int)) : Option (Int × (Int × (Bool × (Int × ((List Int) × (List Int)))))) := (t slot total i b h0_1 h0_2 h0_3 h0_4 h0_5 h0_6 h1_1 h1_3 h1_4 h1_5 h2 h3 h4).run
def pA : Pt := (.cs (.ptr 0 0) (.cs (.int .i64) (.cs (.int .i64) (.cs (.int .i64) (.cs (.sl 2) .nl)))))
def pH : Pt := (.cs (.var (.cs (.ptr 1 0) (.cs (.int .i64) (.cs (.int .i64) (.cs (.int .i64) (.cs (.int .i64) (.cs (.int .i64) (.cs (.int .i64) .nl)))))))) (.cs (.var (.cs (.own 2) (.cs (.int .i64) (.cs (.own 3) (.cs (.int .i64) (.cs .bool (.cs (.int .i64) (.cs (.own 4) .nl)))))))) (.cs (.row 3 true) (.cs (.row 1 true) (.cs (.row 3 true) .nl)))))
def v (l : TA) (y : (Int × (Int × (Bool × (Int × ((List Int) × (List Int))))))) : AV U := .im (.int .i64 y.1)
def hh (l : TA) (y : (Int × (Int × (Bool × (Int × ((List Int) × (List Int))))))) : Hp U := [.var [.ptr 1 0, .im (.int .i64 l.2.1.2.1), .im (.int .i64 l.2.1.2.2.1), .im (.int .i64 l.2.1.2.2.2.1), .im (.int .i64 l.2.1.2.2.2.2.1), .im (.int .i64 l.2.1.2.2.2.2.2.1), .im (.int .i64 l.2.1.2.2.2.2.2.2.1)], .var [.own 2, .im (.int .i64 l.2.2.1.2.1), .own 3, .im (.int .i64 y.2.1), .im (.bool y.2.2.1), .im (.int .i64 y.2.2.2.1), .own 4], .row 3 y.2.2.2.2.1 true, .row 1 y.2.2.2.2.2 true, .row 3 l.2.2.2.2.2.1 true]
noncomputable def A : AFun U := mkA (U := U) pA pH (X := (Int × (Int × (Bool × (Int × ((List Int) × (List Int))))))) (fun (l : TA) => c l.1.2.1 l.1.2.2.1 l.1.2.2.2.1 l.1.2.2.2.2.1 l.2.1.2.1 l.2.1.2.2.1 l.2.1.2.2.2.1 l.2.1.2.2.2.2.1 l.2.1.2.2.2.2.2.1 l.2.1.2.2.2.2.2.2.1 l.2.2.1.2.1 l.2.2.1.2.2.2.1 l.2.2.1.2.2.2.2.1 l.2.2.1.2.2.2.2.2.1 l.2.2.2.1 l.2.2.2.2.1 l.2.2.2.2.2.1) sp1 v hh
noncomputable def body : Code := (Go.Func.body Try.f25).getD .skip
noncomputable def Γ : List (FuncId × AFun U) := [(32, slot_fine_v2.A), (33, drive_Drive_Geometry_v2.A), (44, geom_Part.A), (45, geom_Chunk.A), (50, word_Pack.A), (49, drive_Drive_Fresh_v2.A), (35, geom_Ledger.A), (51, drive_Drive_Write_v2.A)]
noncomputable def Λ : List (Nat × LFun U) := []
noncomputable def CT : List (Nat × LFun U) := []
def ro : List FuncId := [32, 33]
def D : Nat → Lv × Lv := dtab []
noncomputable def E : Env U := { E0 with Γ := Γ, Λ := Λ, C := CT, D := D, ro := ro }
theorem hk (R : Type) (l : TA) (K : AV U → Hp U → Option R) : funcA E Try.f25 [] R (pA.mkL l.1) (pH.mkH l.2) K = (t l.1.2.1 l.1.2.2.1 l.1.2.2.2.1 l.1.2.2.2.2.1 l.2.1.2.1 l.2.1.2.2.1 l.2.1.2.2.2.1 l.2.1.2.2.2.2.1 l.2.1.2.2.2.2.2.1 l.2.1.2.2.2.2.2.2.1 l.2.2.1.2.1 l.2.2.1.2.2.2.1 l.2.2.1.2.2.2.2.1 l.2.2.1.2.2.2.2.2.1 l.2.2.2.1 l.2.2.2.2.1 l.2.2.2.2.2.1).runK fun y => K (v l y) (hh l y) := by kernel_rfl
theorem okF : SoundF Try.prog cc 25 (funcA E Try.f25 []) :=
  funcA_ok (E := E) P_mixed (E0_ok.with Γ Λ CT D ro) (gam_of (all_cons ⟨slot_fine_v2.ok, ⟨Try.f32, Try.func32, by kernel_rfl, by kernel_rfl⟩⟩ (all_cons ⟨drive_Drive_Geometry_v2.ok, ⟨Try.f33, Try.func33, by kernel_rfl, by kernel_rfl⟩⟩ (all_cons ⟨geom_Part.ok, ⟨Try.f44, Try.func44, by kernel_rfl, by kernel_rfl⟩⟩ (all_cons ⟨geom_Chunk.ok, ⟨Try.f45, Try.func45, by kernel_rfl, by kernel_rfl⟩⟩ (all_cons ⟨word_Pack.ok, ⟨Try.f50, Try.func50, by kernel_rfl, by kernel_rfl⟩⟩ (all_cons ⟨drive_Drive_Fresh_v2.ok, ⟨Try.f49, Try.func49, by kernel_rfl, by kernel_rfl⟩⟩ (all_cons ⟨geom_Ledger.ok, ⟨Try.f35, Try.func35, by kernel_rfl, by kernel_rfl⟩⟩ (all_cons ⟨drive_Drive_Write_v2.ok, ⟨Try.f51, Try.func51, by kernel_rfl, by kernel_rfl⟩⟩ all_nil)))))))) (all_cons (fun _ => slot_fine_v2.keep) (all_cons (fun _ => drive_Drive_Geometry_v2.keep) (all_cons (no_keep (by kernel_rfl)) (all_cons (no_keep (by kernel_rfl)) (all_cons (no_keep (by kernel_rfl)) (all_cons (no_keep (by kernel_rfl)) (all_cons (no_keep (by kernel_rfl)) (all_cons (no_keep (by kernel_rfl)) all_nil))))))))) Try.func25 (c := body) (by kernel_rfl)
    (just_by (by kernel_rfl) (by kernel_rfl) all_nil all_nil) []
theorem ok : SoundF Try.prog cc 25 A :=
  mkA_ok (E := E) (p := pA) (q := pH) (t := fun (l : TA) => t l.1.2.1 l.1.2.2.1 l.1.2.2.2.1 l.1.2.2.2.2.1 l.2.1.2.1 l.2.1.2.2.1 l.2.1.2.2.2.1 l.2.1.2.2.2.2.1 l.2.1.2.2.2.2.2.1 l.2.1.2.2.2.2.2.2.1 l.2.2.1.2.1 l.2.2.1.2.2.2.1 l.2.2.1.2.2.2.2.1 l.2.2.1.2.2.2.2.2.1 l.2.2.2.1 l.2.2.2.2.1 l.2.2.2.2.2.1) sp1_ok hk okF
end slot_Chunk_v2

/-! instar/slot.Bytes -/
namespace slot_Bytes_v2
abbrev TA : Type := ((Unit × (Int × (Int × Unit))) × ((Unit × (Int × (Int × (Int × (Int × (Int × (Int × Unit))))))) × ((Unit × (Int × (Unit × (Int × (Bool × (Int × (Unit × Unit))))))) × ((List Int) × ((List Int) × ((List Int) × Unit))))))
abbrev T7 : Type := ((Unit × (Int × (Int × (Unit × (Unit × (Unit × (Unit × (Int × (Int × (Unit × Unit)))))))))) × ((Unit × (Int × (Int × (Int × (Int × (Int × (Int × Unit))))))) × ((Unit × (Int × (Unit × (Int × (Bool × (Int × (Unit × Unit))))))) × ((List Int) × ((List Int) × ((List Int) × ((Int × (Int × (Int × (Int × (Int × (Int × Unit)))))) × ((List Int) × Unit))))))))
noncomputable def l7 (slot total k29 h0_1 h0_2 h0_3 h0_4 h0_5 h0_6 h1_1 h1_3 : Int) (h1_4 : Bool) (h1_5 : Int) (h2 : (List Int)) (h3 : (List Int)) (h4 : (List Int)) (h5_0 h5_1 h5_2 h5_3 h5_4 h5_5 k30 : Int) (h6 : (List Int)) : Tw ((Int × (List Int)) ⊕ ((List Int) ⊕ (Int × (List Int)))) :=
 (.bb (decide (k30 < k29))
  (.opt (geom_Part.c h5_0 h5_1 h5_2 h5_3 h5_4 h5_5 total k30) fun z4 =>
   (.opt (geom_Chunk.c h5_0 h5_1 h5_2 h5_3 h5_4 h5_5 slot k30) fun z5 =>
    (.opt (word_Need.c z4) fun z6 =>
     (.opt (drive_Drive_Read_v2.c z5 (0 : Int) z6 h0_1 h0_2 h0_3 h0_4 h0_5 h0_6 h1_1 h1_3 h1_4 h1_5 h2 h3 h4) fun z7 =>
      (.bb (z7.1 != (0 : Int))
       (.ret (.inr (.inr (z7.1, h6))))
       (.opt (word_Bytes.c z7.2 z4) fun z8 =>
        (.bb (z8.1 != (0 : Int))
         (.ret (.inr (.inr ((12 : Int), h6))))
         (.dd ((((((List.length h6) + (List.length z8.2)) * (1 : Nat)) ≤ (140737488355328 : Nat)) ∧ (((List.length h6) + (List.length z8.2)) ≤ (140737488355328 : Nat)))) inferInstance
          (.ret (.inl ((w64 (k30 + (1 : Int))), (h6 ++ z8.2))))
          .no))))))))
  (.ret (.inr (.inl h6))))
noncomputable def L7 (slot total k29 k30 h0_1 h0_2 h0_3 h0_4 h0_5 h0_6 h1_1 h1_3 : Int) (h1_4 : Bool) (h1_5 : Int) (h2 : (List Int)) (h3 : (List Int)) (h4 : (List Int)) (h5_0 h5_1 h5_2 h5_3 h5_4 h5_5 : Int) (h6 : (List Int)) : Option ((List Int) ⊕ (Int × (List Int))) := Lp (fun s => (l7 slot total k29 h0_1 h0_2 h0_3 h0_4 h0_5 h0_6 h1_1 h1_3 h1_4 h1_5 h2 h3 h4 h5_0 h5_1 h5_2 h5_3 h5_4 h5_5 s.1 s.2).run) (k30, h6)
def p7 : Pt := (.cs (.ptr 0 0) (.cs (.int .i64) (.cs (.int .i64) (.cs (.bots 6) (.cs (.ptr 5 0) (.cs (.own 6) (.cs (.bots 18) (.cs (.int .i64) (.cs (.int .i64) (.cs (.bots 33) .nl))))))))))
def q7 : Pt := (.cs (.var (.cs (.ptr 1 0) (.cs (.int .i64) (.cs (.int .i64) (.cs (.int .i64) (.cs (.int .i64) (.cs (.int .i64) (.cs (.int .i64) .nl)))))))) (.cs (.var (.cs (.own 2) (.cs (.int .i64) (.cs (.own 3) (.cs (.int .i64) (.cs .bool (.cs (.int .i64) (.cs (.own 4) .nl)))))))) (.cs (.row 3 true) (.cs (.row 1 true) (.cs (.row 3 true) (.cs (.var (.cs (.int .i64) (.cs (.int .i64) (.cs (.int .i64) (.cs (.int .i64) (.cs (.int .i64) (.cs (.int .i64) .nl))))))) (.cs (.row 2 true) .nl)))))))
def ou7 (l : T7) (y : ((List Int) ⊕ (Int × (List Int)))) : Ex × St U := (Sum.elim (fun a0 => (.exit 0, stOf 64 [(10, .own 5)] [.var [.ptr 1 0, .im (.int .i64 l.2.1.2.1), .im (.int .i64 l.2.1.2.2.1), .im (.int .i64 l.2.1.2.2.2.1), .im (.int .i64 l.2.1.2.2.2.2.1), .im (.int .i64 l.2.1.2.2.2.2.2.1), .im (.int .i64 l.2.1.2.2.2.2.2.2.1)], .var [.own 2, .im (.int .i64 l.2.2.1.2.1), .own 3, .im (.int .i64 l.2.2.1.2.2.2.1), .im (.bool l.2.2.1.2.2.2.2.1), .im (.int .i64 l.2.2.1.2.2.2.2.2.1), .own 4], .row 3 l.2.2.2.1 true, .row 1 l.2.2.2.2.1 true, .row 3 l.2.2.2.2.2.1 true, .row 2 a0 true] 5)) (fun b0 => (.ret, stOf 64 [(6, .im .nils), (7, .im (.int .i64 b0.1)), (10, .own 5)] [.var [.ptr 1 0, .im (.int .i64 l.2.1.2.1), .im (.int .i64 l.2.1.2.2.1), .im (.int .i64 l.2.1.2.2.2.1), .im (.int .i64 l.2.1.2.2.2.2.1), .im (.int .i64 l.2.1.2.2.2.2.2.1), .im (.int .i64 l.2.1.2.2.2.2.2.2.1)], .var [.own 2, .im (.int .i64 l.2.2.1.2.1), .own 3, .im (.int .i64 l.2.2.1.2.2.2.1), .im (.bool l.2.2.1.2.2.2.2.1), .im (.int .i64 l.2.2.1.2.2.2.2.2.1), .own 4], .row 3 l.2.2.2.1 true, .row 1 l.2.2.2.2.1 true, .row 3 l.2.2.2.2.2.1 true, .row 2 b0.2 true] 5)) y)
noncomputable def Λ7 : LFun U := mkLp (U := U) p7 q7 5 (X := ((List Int) ⊕ (Int × (List Int)))) (fun (l : T7) => L7 l.1.2.1 l.1.2.2.1 l.1.2.2.2.2.2.2.2.1 l.1.2.2.2.2.2.2.2.2.1 l.2.1.2.1 l.2.1.2.2.1 l.2.1.2.2.2.1 l.2.1.2.2.2.2.1 l.2.1.2.2.2.2.2.1 l.2.1.2.2.2.2.2.2.1 l.2.2.1.2.1 l.2.2.1.2.2.2.1 l.2.2.1.2.2.2.2.1 l.2.2.1.2.2.2.2.2.1 l.2.2.2.1 l.2.2.2.2.1 l.2.2.2.2.2.1 l.2.2.2.2.2.2.1.1 l.2.2.2.2.2.2.1.2.1 l.2.2.2.2.2.2.1.2.2.1 l.2.2.2.2.2.2.1.2.2.2.1 l.2.2.2.2.2.2.1.2.2.2.2.1 l.2.2.2.2.2.2.1.2.2.2.2.2.1 l.2.2.2.2.2.2.2.1) (spS sp1) ou7
noncomputable def t (slot total h0_1 h0_2 h0_3 h0_4 h0_5 h0_6 h1_1 h1_3 : Int) (h1_4 : Bool) (h1_5 : Int) (h2 : (List Int)) (h3 : (List Int)) (h4 : (List Int)) : Tw (Int × (List Int)) :=
 (.opt (slot_fine_v2.c slot total h0_1 h0_2 h0_3 h0_4 h0_5 h0_6 h1_1 h1_3 h1_4 h1_5 h2 h3 h4) fun z1 =>
  (.bb (z1 != (0 : Int))
   (.ret (z1, ([] : List (Int))))
   (.opt (drive_Drive_Geometry_v2.c h0_1 h0_2 h0_3 h0_4 h0_5 h0_6 h1_1 h1_3 h1_4 h1_5 h2 h3 h4) fun z2 =>
    (.dd ((((0 : Int) ≤ (0 : Int)) ∧ (((0 : Int) ≤ total) ∧ ((total ≤ (140737488355328 : Int)) ∧ ((total * (((1 : Nat) : Nat) : Int)) ≤ (140737488355328 : Int)))))) inferInstance
     (.opt (geom_Chunks.c h0_1 h0_2 h0_3 h0_4 h0_5 h0_6 total) fun z3 =>
      (.opt (L7 slot total z3 (0 : Int) h0_1 h0_2 h0_3 h0_4 h0_5 h0_6 h1_1 h1_3 h1_4 h1_5 h2 h3 h4 h0_1 h0_2 h0_3 h0_4 h0_5 h0_6 (List.replicate (Int.toNat (0 : Int)) (0 : Int))) fun z9 =>
       (.sm z9
        (fun z10 => (.ret ((0 : Int), z10)))
        (fun z11 => (.ret (z11.1, ([] : List (Int))))))))
     .no))))
noncomputable def c (slot total h0_1 h0_2 h0_3 h0_4 h0_5 h0_6 h1_1 h1_3 : Int) (h1_4 : Bool) (h1_5 : Int) (h2 : (List Int)) (h3 : (List Int)) (h4 : (List Int)) : Option (Int × (List Int)) := (t slot total h0_1 h0_2 h0_3 h0_4 h0_5 h0_6 h1_1 h1_3 h1_4 h1_5 h2 h3 h4).run
def pA : Pt := (.cs (.ptr 0 0) (.cs (.int .i64) (.cs (.int .i64) .nl)))
def pH : Pt := (.cs (.var (.cs (.ptr 1 0) (.cs (.int .i64) (.cs (.int .i64) (.cs (.int .i64) (.cs (.int .i64) (.cs (.int .i64) (.cs (.int .i64) .nl)))))))) (.cs (.var (.cs (.own 2) (.cs (.int .i64) (.cs (.own 3) (.cs (.int .i64) (.cs .bool (.cs (.int .i64) (.cs (.own 4) .nl)))))))) (.cs (.row 3 true) (.cs (.row 1 true) (.cs (.row 3 true) .nl)))))
def v (l : TA) (y : (Int × (List Int))) : AV U := .tup [.own 5, .im (.int .i64 y.1)]
def hh (l : TA) (y : (Int × (List Int))) : Hp U := [.var [.ptr 1 0, .im (.int .i64 l.2.1.2.1), .im (.int .i64 l.2.1.2.2.1), .im (.int .i64 l.2.1.2.2.2.1), .im (.int .i64 l.2.1.2.2.2.2.1), .im (.int .i64 l.2.1.2.2.2.2.2.1), .im (.int .i64 l.2.1.2.2.2.2.2.2.1)], .var [.own 2, .im (.int .i64 l.2.2.1.2.1), .own 3, .im (.int .i64 l.2.2.1.2.2.2.1), .im (.bool l.2.2.1.2.2.2.2.1), .im (.int .i64 l.2.2.1.2.2.2.2.2.1), .own 4], .row 3 l.2.2.2.1 true, .row 1 l.2.2.2.2.1 true, .row 3 l.2.2.2.2.2.1 true, .row 2 y.2 true]
noncomputable def A : AFun U := mkA (U := U) pA pH (X := (Int × (List Int))) (fun (l : TA) => c l.1.2.1 l.1.2.2.1 l.2.1.2.1 l.2.1.2.2.1 l.2.1.2.2.2.1 l.2.1.2.2.2.2.1 l.2.1.2.2.2.2.2.1 l.2.1.2.2.2.2.2.2.1 l.2.2.1.2.1 l.2.2.1.2.2.2.1 l.2.2.1.2.2.2.2.1 l.2.2.1.2.2.2.2.2.1 l.2.2.2.1 l.2.2.2.2.1 l.2.2.2.2.2.1) sp1 v hh
noncomputable def body : Code := (Go.Func.body Try.f23).getD .skip
noncomputable def Γ : List (FuncId × AFun U) := [(32, slot_fine_v2.A), (33, drive_Drive_Geometry_v2.A), (36, geom_Chunks.A), (44, geom_Part.A), (45, geom_Chunk.A), (46, word_Need.A), (34, drive_Drive_Read_v2.A), (47, word_Bytes.A)]
noncomputable def Λ : List (Nat × LFun U) := [(7, Λ7)]
noncomputable def CT : List (Nat × LFun U) := []
def ro : List FuncId := [32, 33, 34]
def D : Nat → Lv × Lv := dtab [(7, ⟨[30, 10, 1, 9, 0, 2, 29], []⟩, ⟨[6, 7, 10], []⟩)]
noncomputable def E : Env U := { E0 with Γ := Γ, Λ := Λ, C := CT, D := D, ro := ro }
theorem hf7 (R : Type) (l : T7) (s : (Int × (List Int))) (K : Ex → St U → Option R) : codeA E (pick (loopsOf body) 7) ⟨p7.mkL ((((), (l.1.2.1, (l.1.2.2.1, ((), ((), ((), ((), (l.1.2.2.2.2.2.2.2.1, (s.1, ((), ())))))))))), (((), (l.2.1.2.1, (l.2.1.2.2.1, (l.2.1.2.2.2.1, (l.2.1.2.2.2.2.1, (l.2.1.2.2.2.2.2.1, (l.2.1.2.2.2.2.2.2.1, ()))))))), (((), (l.2.2.1.2.1, ((), (l.2.2.1.2.2.2.1, (l.2.2.1.2.2.2.2.1, (l.2.2.1.2.2.2.2.2.1, ((), ()))))))), (l.2.2.2.1, (l.2.2.2.2.1, (l.2.2.2.2.2.1, ((l.2.2.2.2.2.2.1.1, (l.2.2.2.2.2.2.1.2.1, (l.2.2.2.2.2.2.1.2.2.1, (l.2.2.2.2.2.2.1.2.2.2.1, (l.2.2.2.2.2.2.1.2.2.2.2.1, (l.2.2.2.2.2.2.1.2.2.2.2.2.1, ())))))), (s.2, ())))))))) : T7).1, q7.mkH ((((), (l.1.2.1, (l.1.2.2.1, ((), ((), ((), ((), (l.1.2.2.2.2.2.2.2.1, (s.1, ((), ())))))))))), (((), (l.2.1.2.1, (l.2.1.2.2.1, (l.2.1.2.2.2.1, (l.2.1.2.2.2.2.1, (l.2.1.2.2.2.2.2.1, (l.2.1.2.2.2.2.2.2.1, ()))))))), (((), (l.2.2.1.2.1, ((), (l.2.2.1.2.2.2.1, (l.2.2.1.2.2.2.2.1, (l.2.2.1.2.2.2.2.2.1, ((), ()))))))), (l.2.2.2.1, (l.2.2.2.2.1, (l.2.2.2.2.2.1, ((l.2.2.2.2.2.2.1.1, (l.2.2.2.2.2.2.1.2.1, (l.2.2.2.2.2.2.1.2.2.1, (l.2.2.2.2.2.2.1.2.2.2.1, (l.2.2.2.2.2.2.1.2.2.2.2.1, (l.2.2.2.2.2.2.1.2.2.2.2.2.1, ())))))), (s.2, ())))))))) : T7).2, 5⟩ (roundK E (pick (loopsOf body) 7) K) =
  (l7 l.1.2.1 l.1.2.2.1 l.1.2.2.2.2.2.2.2.1 l.2.1.2.1 l.2.1.2.2.1 l.2.1.2.2.2.1 l.2.1.2.2.2.2.1 l.2.1.2.2.2.2.2.1 l.2.1.2.2.2.2.2.2.1 l.2.2.1.2.1 l.2.2.1.2.2.2.1 l.2.2.1.2.2.2.2.1 l.2.2.1.2.2.2.2.2.1 l.2.2.2.1 l.2.2.2.2.1 l.2.2.2.2.2.1 l.2.2.2.2.2.2.1.1 l.2.2.2.2.2.2.1.2.1 l.2.2.2.2.2.2.1.2.2.1 l.2.2.2.2.2.2.1.2.2.2.1 l.2.2.2.2.2.2.1.2.2.2.2.1 l.2.2.2.2.2.2.1.2.2.2.2.2.1 s.1 s.2).runK (lpK K (fun s => ⟨p7.mkL ((((), (l.1.2.1, (l.1.2.2.1, ((), ((), ((), ((), (l.1.2.2.2.2.2.2.2.1, (s.1, ((), ())))))))))), (((), (l.2.1.2.1, (l.2.1.2.2.1, (l.2.1.2.2.2.1, (l.2.1.2.2.2.2.1, (l.2.1.2.2.2.2.2.1, (l.2.1.2.2.2.2.2.2.1, ()))))))), (((), (l.2.2.1.2.1, ((), (l.2.2.1.2.2.2.1, (l.2.2.1.2.2.2.2.1, (l.2.2.1.2.2.2.2.2.1, ((), ()))))))), (l.2.2.2.1, (l.2.2.2.2.1, (l.2.2.2.2.2.1, ((l.2.2.2.2.2.2.1.1, (l.2.2.2.2.2.2.1.2.1, (l.2.2.2.2.2.2.1.2.2.1, (l.2.2.2.2.2.2.1.2.2.2.1, (l.2.2.2.2.2.2.1.2.2.2.2.1, (l.2.2.2.2.2.2.1.2.2.2.2.2.1, ())))))), (s.2, ())))))))) : T7).1, q7.mkH ((((), (l.1.2.1, (l.1.2.2.1, ((), ((), ((), ((), (l.1.2.2.2.2.2.2.2.1, (s.1, ((), ())))))))))), (((), (l.2.1.2.1, (l.2.1.2.2.1, (l.2.1.2.2.2.1, (l.2.1.2.2.2.2.1, (l.2.1.2.2.2.2.2.1, (l.2.1.2.2.2.2.2.2.1, ()))))))), (((), (l.2.2.1.2.1, ((), (l.2.2.1.2.2.2.1, (l.2.2.1.2.2.2.2.1, (l.2.2.1.2.2.2.2.2.1, ((), ()))))))), (l.2.2.2.1, (l.2.2.2.2.1, (l.2.2.2.2.2.1, ((l.2.2.2.2.2.2.1.1, (l.2.2.2.2.2.2.1.2.1, (l.2.2.2.2.2.2.1.2.2.1, (l.2.2.2.2.2.2.1.2.2.2.1, (l.2.2.2.2.2.2.1.2.2.2.2.1, (l.2.2.2.2.2.2.1.2.2.2.2.2.1, ())))))), (s.2, ())))))))) : T7).2, 5⟩) (spS sp1) (ou7 l)) := by kernel_rfl
theorem lk7 (R : Type) (st : St U) (K : Ex → St U → Option R) (r : R) (h : Λ7 R st K = some r) : ∃ n, loopA E (pick (loopsOf body) 7) n st K = some r :=
  lp_ok (U := U) (E := E) (b := pick (loopsOf body) 7) (m := 5) (sp := (spS sp1)) (p := p7) (q := q7) (X := ((List Int) ⊕ (Int × (List Int)))) (S := (Int × (List Int))) (f := fun (l : T7) s => l7 l.1.2.1 l.1.2.2.1 l.1.2.2.2.2.2.2.2.1 l.2.1.2.1 l.2.1.2.2.1 l.2.1.2.2.2.1 l.2.1.2.2.2.2.1 l.2.1.2.2.2.2.2.1 l.2.1.2.2.2.2.2.2.1 l.2.2.1.2.1 l.2.2.1.2.2.2.1 l.2.2.1.2.2.2.2.1 l.2.2.1.2.2.2.2.2.1 l.2.2.2.1 l.2.2.2.2.1 l.2.2.2.2.2.1 l.2.2.2.2.2.2.1.1 l.2.2.2.2.2.2.1.2.1 l.2.2.2.2.2.2.1.2.2.1 l.2.2.2.2.2.2.1.2.2.2.1 l.2.2.2.2.2.2.1.2.2.2.2.1 l.2.2.2.2.2.2.1.2.2.2.2.2.1 s.1 s.2) (hd := fun (l : T7) s => (((), (l.1.2.1, (l.1.2.2.1, ((), ((), ((), ((), (l.1.2.2.2.2.2.2.2.1, (s.1, ((), ())))))))))), (((), (l.2.1.2.1, (l.2.1.2.2.1, (l.2.1.2.2.2.1, (l.2.1.2.2.2.2.1, (l.2.1.2.2.2.2.2.1, (l.2.1.2.2.2.2.2.2.1, ()))))))), (((), (l.2.2.1.2.1, ((), (l.2.2.1.2.2.2.1, (l.2.2.1.2.2.2.2.1, (l.2.2.1.2.2.2.2.2.1, ((), ()))))))), (l.2.2.2.1, (l.2.2.2.2.1, (l.2.2.2.2.2.1, ((l.2.2.2.2.2.2.1.1, (l.2.2.2.2.2.2.1.2.1, (l.2.2.2.2.2.2.1.2.2.1, (l.2.2.2.2.2.2.1.2.2.2.1, (l.2.2.2.2.2.2.1.2.2.2.2.1, (l.2.2.2.2.2.2.1.2.2.2.2.2.1, ())))))), (s.2, ()))))))))) (s0 := fun (l : T7) => (l.1.2.2.2.2.2.2.2.2.1, l.2.2.2.2.2.2.2.1)) (ou := ou7)
    (fun l => rfl) (fun l x => by repeat' (first | rfl | (cases x with | inl => rfl | inr x => ?_))) (spS_ok sp1_ok) hf7 h
theorem hk (R : Type) (l : TA) (K : AV U → Hp U → Option R) : funcA E Try.f23 [(0, [], .own 2)] R (pA.mkL l.1) (pH.mkH l.2) K = (t l.1.2.1 l.1.2.2.1 l.2.1.2.1 l.2.1.2.2.1 l.2.1.2.2.2.1 l.2.1.2.2.2.2.1 l.2.1.2.2.2.2.2.1 l.2.1.2.2.2.2.2.2.1 l.2.2.1.2.1 l.2.2.1.2.2.2.1 l.2.2.1.2.2.2.2.1 l.2.2.1.2.2.2.2.2.1 l.2.2.2.1 l.2.2.2.2.1 l.2.2.2.2.2.1).runK fun y => K (v l y) (hh l y) := by kernel_rfl
theorem okF : SoundF Try.prog cc 23 (funcA E Try.f23 [(0, [], .own 2)]) :=
  funcA_ok (E := E) P_mixed (E0_ok.with Γ Λ CT D ro) (gam_of (all_cons ⟨slot_fine_v2.ok, ⟨Try.f32, Try.func32, by kernel_rfl, by kernel_rfl⟩⟩ (all_cons ⟨drive_Drive_Geometry_v2.ok, ⟨Try.f33, Try.func33, by kernel_rfl, by kernel_rfl⟩⟩ (all_cons ⟨geom_Chunks.ok, ⟨Try.f36, Try.func36, by kernel_rfl, by kernel_rfl⟩⟩ (all_cons ⟨geom_Part.ok, ⟨Try.f44, Try.func44, by kernel_rfl, by kernel_rfl⟩⟩ (all_cons ⟨geom_Chunk.ok, ⟨Try.f45, Try.func45, by kernel_rfl, by kernel_rfl⟩⟩ (all_cons ⟨word_Need.ok, ⟨Try.f46, Try.func46, by kernel_rfl, by kernel_rfl⟩⟩ (all_cons ⟨drive_Drive_Read_v2.ok, ⟨Try.f34, Try.func34, by kernel_rfl, by kernel_rfl⟩⟩ (all_cons ⟨word_Bytes.ok, ⟨Try.f47, Try.func47, by kernel_rfl, by kernel_rfl⟩⟩ all_nil)))))))) (all_cons (fun _ => slot_fine_v2.keep) (all_cons (fun _ => drive_Drive_Geometry_v2.keep) (all_cons (no_keep (by kernel_rfl)) (all_cons (no_keep (by kernel_rfl)) (all_cons (no_keep (by kernel_rfl)) (all_cons (no_keep (by kernel_rfl)) (all_cons (fun _ => drive_Drive_Read_v2.keep) (all_cons (no_keep (by kernel_rfl)) all_nil))))))))) Try.func23 (c := body) (by kernel_rfl)
    (just_by (by kernel_rfl) (by kernel_rfl) (all_cons lk7 all_nil) all_nil) [(0, [], .own 2)]
theorem ok : SoundF Try.prog cc 23 A :=
  mkA_ok (E := E) (p := pA) (q := pH) (t := fun (l : TA) => t l.1.2.1 l.1.2.2.1 l.2.1.2.1 l.2.1.2.2.1 l.2.1.2.2.2.1 l.2.1.2.2.2.2.1 l.2.1.2.2.2.2.2.1 l.2.1.2.2.2.2.2.2.1 l.2.2.1.2.1 l.2.2.1.2.2.2.1 l.2.2.1.2.2.2.2.1 l.2.2.1.2.2.2.2.2.1 l.2.2.2.1 l.2.2.2.2.1 l.2.2.2.2.2.1) sp1_ok hk okF
theorem keep : KeepA A := mkA_keep (U := U) sp1_ok (fun (l : TA) y => ⟨(hh l y).drop 5, by kernel_rfl⟩)
end slot_Bytes_v2

/-! instar/slot.Done -/
namespace slot_Done_v2
abbrev TA : Type := ((Unit × (Int × (Int × Unit))) × ((Unit × (Int × (Int × (Int × (Int × (Int × (Int × Unit))))))) × ((Unit × (Int × (Unit × (Int × (Bool × (Int × (Unit × Unit))))))) × ((List Int) × ((List Int) × ((List Int) × Unit))))))
abbrev T9 : Type := ((Unit × (Unit × (Unit × (Unit × (Int × (Int × (Unit × Unit))))))) × ((Unit × (Int × (Int × (Int × (Int × (Int × (Int × Unit))))))) × ((Unit × (Int × (Unit × (Int × (Bool × (Int × (Unit × Unit))))))) × ((List Int) × ((List Int) × ((List Int) × ((List Int) × Unit)))))))
noncomputable def l9 (k38 h0_1 h0_2 h0_3 h0_4 h0_5 h0_6 h1_1 h1_3 : Int) (h1_4 : Bool) (h1_5 : Int) (h2 : (List Int)) (h3 : (List Int)) (h4 : (List Int)) (h5 : (List Int)) (k39 : Int) : Tw (Int ⊕ (Unit ⊕ (Int × Int))) :=
 (.bb (decide (k39 < k38))
  (.dd ((((0 : Int) ≤ k39) ∧ (k39 < (((List.length h5) : Nat) : Int)))) inferInstance
   (.opt (h5)[(Int.toNat k39)]? fun z6 =>
    (.bb (z6 != (0 : Int))
     (.ret (.inr (.inr (k39, (0 : Int)))))
     (.ret (.inl (w64 (k39 + (1 : Int)))))))
   .no)
  (.ret (.inr (.inl ()))))
noncomputable def L9 (k38 k39 h0_1 h0_2 h0_3 h0_4 h0_5 h0_6 h1_1 h1_3 : Int) (h1_4 : Bool) (h1_5 : Int) (h2 : (List Int)) (h3 : (List Int)) (h4 : (List Int)) (h5 : (List Int)) : Option (Unit ⊕ (Int × Int)) := Lp (fun s => (l9 k38 h0_1 h0_2 h0_3 h0_4 h0_5 h0_6 h1_1 h1_3 h1_4 h1_5 h2 h3 h4 h5 s).run) k39
def p9 : Pt := (.cs (.bots 10) (.cs (.own 5) (.cs (.bots 26) (.cs (.own 5) (.cs (.int .i64) (.cs (.int .i64) (.cs (.bots 10) .nl)))))))
def q9 : Pt := (.cs (.var (.cs (.ptr 1 0) (.cs (.int .i64) (.cs (.int .i64) (.cs (.int .i64) (.cs (.int .i64) (.cs (.int .i64) (.cs (.int .i64) .nl)))))))) (.cs (.var (.cs (.own 2) (.cs (.int .i64) (.cs (.own 3) (.cs (.int .i64) (.cs .bool (.cs (.int .i64) (.cs (.own 4) .nl)))))))) (.cs (.row 3 true) (.cs (.row 1 true) (.cs (.row 3 true) (.cs (.row 3 true) .nl))))))
def ou9 (l : T9) (y : (Unit ⊕ (Int × Int))) : Ex × St U := (Sum.elim (fun a0 => (.exit 0, stOf 50 [(10, .own 5)] [.var [.ptr 1 0, .im (.int .i64 l.2.1.2.1), .im (.int .i64 l.2.1.2.2.1), .im (.int .i64 l.2.1.2.2.2.1), .im (.int .i64 l.2.1.2.2.2.2.1), .im (.int .i64 l.2.1.2.2.2.2.2.1), .im (.int .i64 l.2.1.2.2.2.2.2.2.1)], .var [.own 2, .im (.int .i64 l.2.2.1.2.1), .own 3, .im (.int .i64 l.2.2.1.2.2.2.1), .im (.bool l.2.2.1.2.2.2.2.1), .im (.int .i64 l.2.2.1.2.2.2.2.2.1), .own 4], .row 3 l.2.2.2.1 true, .row 1 l.2.2.2.2.1 true, .row 3 l.2.2.2.2.2.1 true, .row 3 l.2.2.2.2.2.2.1 true] 5)) (fun b0 => (.ret, stOf 50 [(6, .im (.int .i64 b0.1)), (7, .im (.int .i64 b0.2)), (10, .own 5)] [.var [.ptr 1 0, .im (.int .i64 l.2.1.2.1), .im (.int .i64 l.2.1.2.2.1), .im (.int .i64 l.2.1.2.2.2.1), .im (.int .i64 l.2.1.2.2.2.2.1), .im (.int .i64 l.2.1.2.2.2.2.2.1), .im (.int .i64 l.2.1.2.2.2.2.2.2.1)], .var [.own 2, .im (.int .i64 l.2.2.1.2.1), .own 3, .im (.int .i64 l.2.2.1.2.2.2.1), .im (.bool l.2.2.1.2.2.2.2.1), .im (.int .i64 l.2.2.1.2.2.2.2.2.1), .own 4], .row 3 l.2.2.2.1 true, .row 1 l.2.2.2.2.1 true, .row 3 l.2.2.2.2.2.1 true, .row 3 l.2.2.2.2.2.2.1 true] 5)) y)
noncomputable def Λ9 : LFun U := mkLp (U := U) p9 q9 5 (X := (Unit ⊕ (Int × Int))) (fun (l : T9) => L9 l.1.2.2.2.2.1 l.1.2.2.2.2.2.1 l.2.1.2.1 l.2.1.2.2.1 l.2.1.2.2.2.1 l.2.1.2.2.2.2.1 l.2.1.2.2.2.2.2.1 l.2.1.2.2.2.2.2.2.1 l.2.2.1.2.1 l.2.2.1.2.2.2.1 l.2.2.1.2.2.2.2.1 l.2.2.1.2.2.2.2.2.1 l.2.2.2.1 l.2.2.2.2.1 l.2.2.2.2.2.1 l.2.2.2.2.2.2.1) (spS sp1) ou9
noncomputable def t (slot total h0_1 h0_2 h0_3 h0_4 h0_5 h0_6 h1_1 h1_3 : Int) (h1_4 : Bool) (h1_5 : Int) (h2 : (List Int)) (h3 : (List Int)) (h4 : (List Int)) : Tw (Int × Int) :=
 (.opt (slot_fine_v2.c slot total h0_1 h0_2 h0_3 h0_4 h0_5 h0_6 h1_1 h1_3 h1_4 h1_5 h2 h3 h4) fun z1 =>
  (.bb (z1 != (0 : Int))
   (.ret ((0 : Int), z1))
   (.opt (drive_Drive_Geometry_v2.c h0_1 h0_2 h0_3 h0_4 h0_5 h0_6 h1_1 h1_3 h1_4 h1_5 h2 h3 h4) fun z2 =>
    (.opt (geom_Ledger.c h0_1 h0_2 h0_3 h0_4 h0_5 h0_6 slot) fun z3 =>
     (.opt (geom_Chunks.c h0_1 h0_2 h0_3 h0_4 h0_5 h0_6 total) fun z4 =>
      (.opt (drive_Drive_Read_v2.c z3 (0 : Int) z4 h0_1 h0_2 h0_3 h0_4 h0_5 h0_6 h1_1 h1_3 h1_4 h1_5 h2 h3 h4) fun z5 =>
       (.bb (z5.1 != (0 : Int))
        (.ret ((0 : Int), z5.1))
        (.opt (L9 (((List.length z5.2) : Nat) : Int) (0 : Int) h0_1 h0_2 h0_3 h0_4 h0_5 h0_6 h1_1 h1_3 h1_4 h1_5 h2 h3 h4 z5.2) fun z7 =>
         (.sm z7
          (fun z8 => (.ret ((((List.length z5.2) : Nat) : Int), (0 : Int))))
          (fun z9 => (.ret (z9.1, z9.2))))))))))))
noncomputable def c (slot total h0_1 h0_2 h0_3 h0_4 h0_5 h0_6 h1_1 h1_3 : Int) (h1_4 : Bool) (h1_5 : Int) (h2 : (List Int)) (h3 : (List Int)) (h4 : (List Int)) : Option (Int × Int) := (t slot total h0_1 h0_2 h0_3 h0_4 h0_5 h0_6 h1_1 h1_3 h1_4 h1_5 h2 h3 h4).run
def pA : Pt := (.cs (.ptr 0 0) (.cs (.int .i64) (.cs (.int .i64) .nl)))
def pH : Pt := (.cs (.var (.cs (.ptr 1 0) (.cs (.int .i64) (.cs (.int .i64) (.cs (.int .i64) (.cs (.int .i64) (.cs (.int .i64) (.cs (.int .i64) .nl)))))))) (.cs (.var (.cs (.own 2) (.cs (.int .i64) (.cs (.own 3) (.cs (.int .i64) (.cs .bool (.cs (.int .i64) (.cs (.own 4) .nl)))))))) (.cs (.row 3 true) (.cs (.row 1 true) (.cs (.row 3 true) .nl)))))
def v (l : TA) (y : (Int × Int)) : AV U := .tup [.im (.int .i64 y.1), .im (.int .i64 y.2)]
def hh (l : TA) (y : (Int × Int)) : Hp U := [.var [.ptr 1 0, .im (.int .i64 l.2.1.2.1), .im (.int .i64 l.2.1.2.2.1), .im (.int .i64 l.2.1.2.2.2.1), .im (.int .i64 l.2.1.2.2.2.2.1), .im (.int .i64 l.2.1.2.2.2.2.2.1), .im (.int .i64 l.2.1.2.2.2.2.2.2.1)], .var [.own 2, .im (.int .i64 l.2.2.1.2.1), .own 3, .im (.int .i64 l.2.2.1.2.2.2.1), .im (.bool l.2.2.1.2.2.2.2.1), .im (.int .i64 l.2.2.1.2.2.2.2.2.1), .own 4], .row 3 l.2.2.2.1 true, .row 1 l.2.2.2.2.1 true, .row 3 l.2.2.2.2.2.1 true]
noncomputable def A : AFun U := mkA (U := U) pA pH (X := (Int × Int)) (fun (l : TA) => c l.1.2.1 l.1.2.2.1 l.2.1.2.1 l.2.1.2.2.1 l.2.1.2.2.2.1 l.2.1.2.2.2.2.1 l.2.1.2.2.2.2.2.1 l.2.1.2.2.2.2.2.2.1 l.2.2.1.2.1 l.2.2.1.2.2.2.1 l.2.2.1.2.2.2.2.1 l.2.2.1.2.2.2.2.2.1 l.2.2.2.1 l.2.2.2.2.1 l.2.2.2.2.2.1) sp1 v hh
noncomputable def body : Code := (Go.Func.body Try.f13).getD .skip
noncomputable def Γ : List (FuncId × AFun U) := [(32, slot_fine_v2.A), (33, drive_Drive_Geometry_v2.A), (35, geom_Ledger.A), (36, geom_Chunks.A), (34, drive_Drive_Read_v2.A)]
noncomputable def Λ : List (Nat × LFun U) := [(9, Λ9)]
noncomputable def CT : List (Nat × LFun U) := []
def ro : List FuncId := [32, 33, 34]
def D : Nat → Lv × Lv := dtab [(9, ⟨[39, 37, 10, 38], []⟩, ⟨[6, 7, 10], []⟩)]
noncomputable def E : Env U := { E0 with Γ := Γ, Λ := Λ, C := CT, D := D, ro := ro }
theorem hf9 (R : Type) (l : T9) (s : Int) (K : Ex → St U → Option R) : codeA E (pick (loopsOf body) 9) ⟨p9.mkL ((((), ((), ((), ((), (l.1.2.2.2.2.1, (s, ((), ()))))))), (((), (l.2.1.2.1, (l.2.1.2.2.1, (l.2.1.2.2.2.1, (l.2.1.2.2.2.2.1, (l.2.1.2.2.2.2.2.1, (l.2.1.2.2.2.2.2.2.1, ()))))))), (((), (l.2.2.1.2.1, ((), (l.2.2.1.2.2.2.1, (l.2.2.1.2.2.2.2.1, (l.2.2.1.2.2.2.2.2.1, ((), ()))))))), (l.2.2.2.1, (l.2.2.2.2.1, (l.2.2.2.2.2.1, (l.2.2.2.2.2.2.1, ()))))))) : T9).1, q9.mkH ((((), ((), ((), ((), (l.1.2.2.2.2.1, (s, ((), ()))))))), (((), (l.2.1.2.1, (l.2.1.2.2.1, (l.2.1.2.2.2.1, (l.2.1.2.2.2.2.1, (l.2.1.2.2.2.2.2.1, (l.2.1.2.2.2.2.2.2.1, ()))))))), (((), (l.2.2.1.2.1, ((), (l.2.2.1.2.2.2.1, (l.2.2.1.2.2.2.2.1, (l.2.2.1.2.2.2.2.2.1, ((), ()))))))), (l.2.2.2.1, (l.2.2.2.2.1, (l.2.2.2.2.2.1, (l.2.2.2.2.2.2.1, ()))))))) : T9).2, 5⟩ (roundK E (pick (loopsOf body) 9) K) =
  (l9 l.1.2.2.2.2.1 l.2.1.2.1 l.2.1.2.2.1 l.2.1.2.2.2.1 l.2.1.2.2.2.2.1 l.2.1.2.2.2.2.2.1 l.2.1.2.2.2.2.2.2.1 l.2.2.1.2.1 l.2.2.1.2.2.2.1 l.2.2.1.2.2.2.2.1 l.2.2.1.2.2.2.2.2.1 l.2.2.2.1 l.2.2.2.2.1 l.2.2.2.2.2.1 l.2.2.2.2.2.2.1 s).runK (lpK K (fun s => ⟨p9.mkL ((((), ((), ((), ((), (l.1.2.2.2.2.1, (s, ((), ()))))))), (((), (l.2.1.2.1, (l.2.1.2.2.1, (l.2.1.2.2.2.1, (l.2.1.2.2.2.2.1, (l.2.1.2.2.2.2.2.1, (l.2.1.2.2.2.2.2.2.1, ()))))))), (((), (l.2.2.1.2.1, ((), (l.2.2.1.2.2.2.1, (l.2.2.1.2.2.2.2.1, (l.2.2.1.2.2.2.2.2.1, ((), ()))))))), (l.2.2.2.1, (l.2.2.2.2.1, (l.2.2.2.2.2.1, (l.2.2.2.2.2.2.1, ()))))))) : T9).1, q9.mkH ((((), ((), ((), ((), (l.1.2.2.2.2.1, (s, ((), ()))))))), (((), (l.2.1.2.1, (l.2.1.2.2.1, (l.2.1.2.2.2.1, (l.2.1.2.2.2.2.1, (l.2.1.2.2.2.2.2.1, (l.2.1.2.2.2.2.2.2.1, ()))))))), (((), (l.2.2.1.2.1, ((), (l.2.2.1.2.2.2.1, (l.2.2.1.2.2.2.2.1, (l.2.2.1.2.2.2.2.2.1, ((), ()))))))), (l.2.2.2.1, (l.2.2.2.2.1, (l.2.2.2.2.2.1, (l.2.2.2.2.2.2.1, ()))))))) : T9).2, 5⟩) (spS sp1) (ou9 l)) := by kernel_rfl
theorem lk9 (R : Type) (st : St U) (K : Ex → St U → Option R) (r : R) (h : Λ9 R st K = some r) : ∃ n, loopA E (pick (loopsOf body) 9) n st K = some r :=
  lp_ok (U := U) (E := E) (b := pick (loopsOf body) 9) (m := 5) (sp := (spS sp1)) (p := p9) (q := q9) (X := (Unit ⊕ (Int × Int))) (S := Int) (f := fun (l : T9) s => l9 l.1.2.2.2.2.1 l.2.1.2.1 l.2.1.2.2.1 l.2.1.2.2.2.1 l.2.1.2.2.2.2.1 l.2.1.2.2.2.2.2.1 l.2.1.2.2.2.2.2.2.1 l.2.2.1.2.1 l.2.2.1.2.2.2.1 l.2.2.1.2.2.2.2.1 l.2.2.1.2.2.2.2.2.1 l.2.2.2.1 l.2.2.2.2.1 l.2.2.2.2.2.1 l.2.2.2.2.2.2.1 s) (hd := fun (l : T9) s => (((), ((), ((), ((), (l.1.2.2.2.2.1, (s, ((), ()))))))), (((), (l.2.1.2.1, (l.2.1.2.2.1, (l.2.1.2.2.2.1, (l.2.1.2.2.2.2.1, (l.2.1.2.2.2.2.2.1, (l.2.1.2.2.2.2.2.2.1, ()))))))), (((), (l.2.2.1.2.1, ((), (l.2.2.1.2.2.2.1, (l.2.2.1.2.2.2.2.1, (l.2.2.1.2.2.2.2.2.1, ((), ()))))))), (l.2.2.2.1, (l.2.2.2.2.1, (l.2.2.2.2.2.1, (l.2.2.2.2.2.2.1, ())))))))) (s0 := fun (l : T9) => l.1.2.2.2.2.2.1) (ou := ou9)
    (fun l => rfl) (fun l x => by repeat' (first | rfl | (cases x with | inl => rfl | inr x => ?_))) (spS_ok sp1_ok) hf9 h
theorem hk (R : Type) (l : TA) (K : AV U → Hp U → Option R) : funcA E Try.f13 [] R (pA.mkL l.1) (pH.mkH l.2) K = (t l.1.2.1 l.1.2.2.1 l.2.1.2.1 l.2.1.2.2.1 l.2.1.2.2.2.1 l.2.1.2.2.2.2.1 l.2.1.2.2.2.2.2.1 l.2.1.2.2.2.2.2.2.1 l.2.2.1.2.1 l.2.2.1.2.2.2.1 l.2.2.1.2.2.2.2.1 l.2.2.1.2.2.2.2.2.1 l.2.2.2.1 l.2.2.2.2.1 l.2.2.2.2.2.1).runK fun y => K (v l y) (hh l y) := by kernel_rfl
theorem okF : SoundF Try.prog cc 13 (funcA E Try.f13 []) :=
  funcA_ok (E := E) P_mixed (E0_ok.with Γ Λ CT D ro) (gam_of (all_cons ⟨slot_fine_v2.ok, ⟨Try.f32, Try.func32, by kernel_rfl, by kernel_rfl⟩⟩ (all_cons ⟨drive_Drive_Geometry_v2.ok, ⟨Try.f33, Try.func33, by kernel_rfl, by kernel_rfl⟩⟩ (all_cons ⟨geom_Ledger.ok, ⟨Try.f35, Try.func35, by kernel_rfl, by kernel_rfl⟩⟩ (all_cons ⟨geom_Chunks.ok, ⟨Try.f36, Try.func36, by kernel_rfl, by kernel_rfl⟩⟩ (all_cons ⟨drive_Drive_Read_v2.ok, ⟨Try.f34, Try.func34, by kernel_rfl, by kernel_rfl⟩⟩ all_nil))))) (all_cons (fun _ => slot_fine_v2.keep) (all_cons (fun _ => drive_Drive_Geometry_v2.keep) (all_cons (no_keep (by kernel_rfl)) (all_cons (no_keep (by kernel_rfl)) (all_cons (fun _ => drive_Drive_Read_v2.keep) all_nil)))))) Try.func13 (c := body) (by kernel_rfl)
    (just_by (by kernel_rfl) (by kernel_rfl) (all_cons lk9 all_nil) all_nil) []
theorem ok : SoundF Try.prog cc 13 A :=
  mkA_ok (E := E) (p := pA) (q := pH) (t := fun (l : TA) => t l.1.2.1 l.1.2.2.1 l.2.1.2.1 l.2.1.2.2.1 l.2.1.2.2.2.1 l.2.1.2.2.2.2.1 l.2.1.2.2.2.2.2.1 l.2.1.2.2.2.2.2.2.1 l.2.2.1.2.1 l.2.2.1.2.2.2.1 l.2.2.1.2.2.2.2.1 l.2.2.1.2.2.2.2.2.1 l.2.2.2.1 l.2.2.2.2.1 l.2.2.2.2.2.1) sp1_ok hk okF
theorem keep : KeepA A := mkA_keep (U := U) sp1_ok (fun (l : TA) y => ⟨(hh l y).drop 5, by kernel_rfl⟩)
end slot_Done_v2

/-! instar/slot.Begin -/
namespace slot_Begin_v2
abbrev TA : Type := ((Unit × (Int × Unit)) × ((Unit × (Int × (Int × (Int × (Int × (Int × (Int × Unit))))))) × ((Unit × (Int × (Unit × (Int × (Bool × (Int × (Unit × Unit))))))) × ((List Int) × ((List Int) × ((List Int) × Unit))))))
noncomputable def t (slot h0_1 h0_2 h0_3 h0_4 h0_5 h0_6 h1_1 h1_3 : Int) (h1_4 : Bool) (h1_5 : Int) (h2 : (List Int)) (h3 : (List Int)) (h4 : (List Int)) : Tw (Int × (Int × (Bool × (Int × ((List Int) × (List Int)))))) :=
 (.opt (slot_fine_v2.c slot (1 : Int) h0_1 h0_2 h0_3 h0_4 h0_5 h0_6 h1_1 h1_3 h1_4 h1_5 h2 h3 h4) fun z1 =>
  (.bb (z1 != (0 : Int))
   (.ret (z1, (h1_3, (h1_4, (h1_5, (h2, h3))))))
   (.opt (drive_Drive_Geometry_v2.c h0_1 h0_2 h0_3 h0_4 h0_5 h0_6 h1_1 h1_3 h1_4 h1_5 h2 h3 h4) fun z2 =>
    (.opt (geom_Ledger.c h0_1 h0_2 h0_3 h0_4 h0_5 h0_6 slot) fun z3 =>
     (.opt (drive_Drive_Clean_v2.c z3 h0_1 h0_2 h0_3 h0_4 h0_5 h0_6 h1_1 h1_3 h1_4 h1_5 h2 h3 h4) fun z4 =>
      (.ret (z4.1, (z4.2.1, (z4.2.2.1, (z4.2.2.2.1, (z4.2.2.2.2.1, z4.2.2.2.2.2)))))))))))
noncomputable def c (slot h0_1 h0_2 h0_3 h0_4 h0_5 h0_6 h1_1 h1_3 : Int) (h1_4 : Bool) (h1_5 : Int) (h2 : (List Int)) (h3 : (List Int)) (h4 : (List Int)) : Option (Int × (Int × (Bool × (Int × ((List Int) × (List Int)))))) := (t slot h0_1 h0_2 h0_3 h0_4 h0_5 h0_6 h1_1 h1_3 h1_4 h1_5 h2 h3 h4).run
def pA : Pt := (.cs (.ptr 0 0) (.cs (.int .i64) .nl))
def pH : Pt := (.cs (.var (.cs (.ptr 1 0) (.cs (.int .i64) (.cs (.int .i64) (.cs (.int .i64) (.cs (.int .i64) (.cs (.int .i64) (.cs (.int .i64) .nl)))))))) (.cs (.var (.cs (.own 2) (.cs (.int .i64) (.cs (.own 3) (.cs (.int .i64) (.cs .bool (.cs (.int .i64) (.cs (.own 4) .nl)))))))) (.cs (.row 3 true) (.cs (.row 1 true) (.cs (.row 3 true) .nl)))))
def v (l : TA) (y : (Int × (Int × (Bool × (Int × ((List Int) × (List Int))))))) : AV U := .im (.int .i64 y.1)
def hh (l : TA) (y : (Int × (Int × (Bool × (Int × ((List Int) × (List Int))))))) : Hp U := [.var [.ptr 1 0, .im (.int .i64 l.2.1.2.1), .im (.int .i64 l.2.1.2.2.1), .im (.int .i64 l.2.1.2.2.2.1), .im (.int .i64 l.2.1.2.2.2.2.1), .im (.int .i64 l.2.1.2.2.2.2.2.1), .im (.int .i64 l.2.1.2.2.2.2.2.2.1)], .var [.own 2, .im (.int .i64 l.2.2.1.2.1), .own 3, .im (.int .i64 y.2.1), .im (.bool y.2.2.1), .im (.int .i64 y.2.2.2.1), .own 4], .row 3 y.2.2.2.2.1 true, .row 1 y.2.2.2.2.2 true, .row 3 l.2.2.2.2.2.1 true]
noncomputable def A : AFun U := mkA (U := U) pA pH (X := (Int × (Int × (Bool × (Int × ((List Int) × (List Int))))))) (fun (l : TA) => c l.1.2.1 l.2.1.2.1 l.2.1.2.2.1 l.2.1.2.2.2.1 l.2.1.2.2.2.2.1 l.2.1.2.2.2.2.2.1 l.2.1.2.2.2.2.2.2.1 l.2.2.1.2.1 l.2.2.1.2.2.2.1 l.2.2.1.2.2.2.2.1 l.2.2.1.2.2.2.2.2.1 l.2.2.2.1 l.2.2.2.2.1 l.2.2.2.2.2.1) sp1 v hh
noncomputable def body : Code := (Go.Func.body Try.f24).getD .skip
noncomputable def Γ : List (FuncId × AFun U) := [(32, slot_fine_v2.A), (33, drive_Drive_Geometry_v2.A), (35, geom_Ledger.A), (48, drive_Drive_Clean_v2.A)]
noncomputable def Λ : List (Nat × LFun U) := []
noncomputable def CT : List (Nat × LFun U) := []
def ro : List FuncId := [32, 33]
def D : Nat → Lv × Lv := dtab []
noncomputable def E : Env U := { E0 with Γ := Γ, Λ := Λ, C := CT, D := D, ro := ro }
theorem hk (R : Type) (l : TA) (K : AV U → Hp U → Option R) : funcA E Try.f24 [] R (pA.mkL l.1) (pH.mkH l.2) K = (t l.1.2.1 l.2.1.2.1 l.2.1.2.2.1 l.2.1.2.2.2.1 l.2.1.2.2.2.2.1 l.2.1.2.2.2.2.2.1 l.2.1.2.2.2.2.2.2.1 l.2.2.1.2.1 l.2.2.1.2.2.2.1 l.2.2.1.2.2.2.2.1 l.2.2.1.2.2.2.2.2.1 l.2.2.2.1 l.2.2.2.2.1 l.2.2.2.2.2.1).runK fun y => K (v l y) (hh l y) := by kernel_rfl
theorem okF : SoundF Try.prog cc 24 (funcA E Try.f24 []) :=
  funcA_ok (E := E) P_mixed (E0_ok.with Γ Λ CT D ro) (gam_of (all_cons ⟨slot_fine_v2.ok, ⟨Try.f32, Try.func32, by kernel_rfl, by kernel_rfl⟩⟩ (all_cons ⟨drive_Drive_Geometry_v2.ok, ⟨Try.f33, Try.func33, by kernel_rfl, by kernel_rfl⟩⟩ (all_cons ⟨geom_Ledger.ok, ⟨Try.f35, Try.func35, by kernel_rfl, by kernel_rfl⟩⟩ (all_cons ⟨drive_Drive_Clean_v2.ok, ⟨Try.f48, Try.func48, by kernel_rfl, by kernel_rfl⟩⟩ all_nil)))) (all_cons (fun _ => slot_fine_v2.keep) (all_cons (fun _ => drive_Drive_Geometry_v2.keep) (all_cons (no_keep (by kernel_rfl)) (all_cons (no_keep (by kernel_rfl)) all_nil))))) Try.func24 (c := body) (by kernel_rfl)
    (just_by (by kernel_rfl) (by kernel_rfl) all_nil all_nil) []
theorem ok : SoundF Try.prog cc 24 A :=
  mkA_ok (E := E) (p := pA) (q := pH) (t := fun (l : TA) => t l.1.2.1 l.2.1.2.1 l.2.1.2.2.1 l.2.1.2.2.2.1 l.2.1.2.2.2.2.1 l.2.1.2.2.2.2.2.1 l.2.1.2.2.2.2.2.2.1 l.2.2.1.2.1 l.2.2.1.2.2.2.1 l.2.2.1.2.2.2.2.1 l.2.2.1.2.2.2.2.2.1 l.2.2.2.1 l.2.2.2.2.1 l.2.2.2.2.2.1) sp1_ok hk okF
end slot_Begin_v2

end Go.Proofs.Ytnlclchlnngdnaa.Va
