/- The functions of package law09, as plain functions, and that the program computes them. Printed by a program of this work out of the evaluator. -/
import Derived.Test.YtpidbpmkogbdeaaEn
import Derived.Tactics
import Derived.Test.YtpidbpmkogbdeaaFdrive
import Derived.Test.YtpidbpmkogbdeaaFflash
namespace Go.Proofs.Ytpidbpmkogbdeaa.Va
open Go
set_option linter.unusedVariables false
set_option maxRecDepth 100000

/-! instar/instarlaw09.great -/
namespace law09_great
abbrev TA : Type := (((List Act9) × Unit) × Unit)
abbrev T2 : Type := (((List Act9) × (Unit × (Int × (Unit × Unit)))) × Unit)
noncomputable def l2 (l_ : (List Act9)) (i : Int) : Tw (Int ⊕ (Unit ⊕ Bool)) :=
 (.bb (decide (i < (((List.length l_) : Nat) : Int)))
  (.bb (decide (i < (61 : Int)))
   (.dd (((0 : Int) ≤ i)) inferInstance
    (.opt (l_)[(Int.toNat i)]? fun z1 =>
     (.bb (decide ((((List.length z1.w) : Nat) : Int) > (200 : Int)))
      (.ret (.inr (.inr true)))
      (.ret (.inl (w64 (i + (1 : Int)))))))
    .no)
   (.ret (.inr (.inl ()))))
  (.ret (.inr (.inl ()))))
noncomputable def L2 (l_ : (List Act9)) (i : Int) : Option (Unit ⊕ Bool) := Lp (fun s => (l2 l_ s).run) i
def p2 : Pt := (.cs (.sl 21) (.cs (.bots 2) (.cs (.int .i64) (.cs (.bots 20) .nl))))
def q2 : Pt := .nl
def ou2 (l : T2) (y : (Unit ⊕ Bool)) : Ex × St U := (Sum.elim (fun a0 => (.exit 0, stOf 24 [(0, .im (.slice 21 l.1.1))] [] 0)) (fun b0 => (.ret, stOf 24 [(0, .im (.slice 21 l.1.1)), (2, .im (.bool b0))] [] 0)) y)
noncomputable def Λ2 : LFun U := mkLp (U := U) p2 q2 0 (X := (Unit ⊕ Bool)) (fun (l : T2) => L2 l.1.1 l.1.2.2.1) (spS sp1) ou2
noncomputable def t (l_ : (List Act9)) : Tw Bool :=
 (.opt (L2 l_ (0 : Int)) fun z2 =>
  (.sm z2
   (fun z3 => (.ret (decide ((((List.length l_) : Nat) : Int) > (60 : Int)))))
   (fun z4 => (.ret z4))))
noncomputable def c (l_ : (List Act9)) : Option Bool := (t l_).run
def pA : Pt := (.cs (.sl 21) .nl)
def pH : Pt := .nl
def v (l : TA) (y : Bool) : AV U := .im (.bool y)
def hh (l : TA) (y : Bool) : Hp U := []
noncomputable def A : AFun U := mkA (U := U) pA pH (X := Bool) (fun (l : TA) => c l.1.1) sp1 v hh
noncomputable def body : Code := (Go.Func.body Try.f92).getD .skip
noncomputable def Γ : List (FuncId × AFun U) := []
noncomputable def Λ : List (Nat × LFun U) := [(2, Λ2)]
noncomputable def CT : List (Nat × LFun U) := []
def ro : List FuncId := []
def D : Nat → Lv × Lv := dtab [(2, ⟨[3, 0], []⟩, ⟨[2, 0], []⟩)]
noncomputable def E : Env U := { E0 with Γ := Γ, Λ := Λ, C := CT, D := D, ro := ro }
theorem hf2 (R : Type) (l : T2) (s : Int) (K : Ex → St U → Option R) : codeA E (pick (loopsOf body) 2) ⟨p2.mkL (((l.1.1, ((), (s, ((), ())))), ()) : T2).1, q2.mkH (((l.1.1, ((), (s, ((), ())))), ()) : T2).2, 0⟩ (roundK E (pick (loopsOf body) 2) K) =
  (l2 l.1.1 s).runK (lpK K (fun s => ⟨p2.mkL (((l.1.1, ((), (s, ((), ())))), ()) : T2).1, q2.mkH (((l.1.1, ((), (s, ((), ())))), ()) : T2).2, 0⟩) (spS sp1) (ou2 l)) := by kernel_rfl
theorem lk2 (R : Type) (st : St U) (K : Ex → St U → Option R) (r : R) (h : Λ2 R st K = some r) : ∃ n, loopA E (pick (loopsOf body) 2) n st K = some r :=
  lp_ok (U := U) (E := E) (b := pick (loopsOf body) 2) (m := 0) (sp := (spS sp1)) (p := p2) (q := q2) (X := (Unit ⊕ Bool)) (S := Int) (f := fun (l : T2) s => l2 l.1.1 s) (hd := fun (l : T2) s => ((l.1.1, ((), (s, ((), ())))), ())) (s0 := fun (l : T2) => l.1.2.2.1) (ou := ou2)
    (fun l => rfl) (fun l x => by repeat' (first | rfl | (cases x with | inl => rfl | inr x => ?_))) (spS_ok sp1_ok) hf2 h
theorem hk (R : Type) (l : TA) (K : AV U → Hp U → Option R) : funcA E Try.f92 [] R (pA.mkL l.1) (pH.mkH l.2) K = (t l.1.1).runK fun y => K (v l y) (hh l y) := by kernel_rfl
theorem okF : SoundF Try.prog cc 92 (funcA E Try.f92 []) :=
  funcA_ok (E := E) P_mixed (E0_ok.with Γ Λ CT D ro) (gam_of all_nil all_nil) Try.func92 (c := body) (by kernel_rfl)
    (just_by (by kernel_rfl) (by kernel_rfl) (all_cons lk2 all_nil) all_nil) []
theorem ok : SoundF Try.prog cc 92 A :=
  mkA_ok (E := E) (p := pA) (q := pH) (t := fun (l : TA) => t l.1.1) sp1_ok hk okF
theorem keep : KeepA A := mkA_keep (U := U) sp1_ok (fun (l : TA) y => ⟨(hh l y).drop 0, by kernel_rfl⟩)
end law09_great

/-! instar/instarlaw09.do -/
namespace law09_do
abbrev TA : Type := ((Unit × (Unit × ((Int × (Int × (Int × (Int × ((List Int) × Unit))))) × Unit))) × ((Unit × (Int × (Unit × (Int × (Bool × (Int × (Unit × Unit))))))) × ((List Int) × ((List Int) × ((Unit × (Int × (Int × (Int × (Int × (Int × (Int × Unit))))))) × Unit)))))
noncomputable def t (a_0 : Int) (a_1 : Int) (a_2 : Int) (a_3 : Int) (a_4 : (List Int)) (h0_1 : Int) (h0_3 : Int) (h0_4 : Bool) (h0_5 : Int) (h1 : (List Int)) (h2 : (List Int)) (h3_1 : Int) (h3_2 : Int) (h3_3 : Int) (h3_4 : Int) (h3_5 : Int) (h3_6 : Int) : Tw ((Bool × (Int × (Int × (Bool × (Int × ((List Int) × ((List Int) × (List Int)))))))) ⊕ (Bool × (Int × (Int × ((List Int) × (List Int)))))) :=
 (.bb (a_0 == (0 : Int))
  (.opt (drive_Drive_Read.c a_1 a_2 a_3 h3_1 h3_2 h3_3 h3_4 h3_5 h3_6 h0_1 h0_3 h0_4 h0_5 h1 h2) fun z13 =>
   (.ret (.inl (false, (z13.1, (h0_3, (h0_4, (h0_5, (h1, (h2, z13.2))))))))))
  (.bb (a_0 == (1 : Int))
   (.bb (a_0 == (1 : Int))
    (.opt (drive_Drive_Write.c a_1 a_2 a_4 h3_1 h3_2 h3_3 h3_4 h3_5 h3_6 h0_1 h0_3 h0_4 h0_5 h1 h2) fun z12 =>
     (.ret (.inl (false, (z12.1, (z12.2.1, (z12.2.2.1, (z12.2.2.2.1, (z12.2.2.2.2, (h2, ([] : List Int)))))))))))
    (.bb (a_0 == (3 : Int))
     (.opt (drive_Drive_Blank.c a_1 a_2 h3_1 h3_2 h3_3 h3_4 h3_5 h3_6 h0_1 h0_3 h0_4 h0_5 h1 h2) fun z11 =>
      (.ret (.inl (z11.1, (z11.2, (h0_3, (h0_4, (h0_5, (h1, (h2, ([] : List Int)))))))))))
     (.bb (a_0 == (4 : Int))
      (.opt (drive_Drive_Clean.c a_1 h3_1 h3_2 h3_3 h3_4 h3_5 h3_6 h0_1 h0_3 h0_4 h0_5 h1 h2) fun z10 =>
       (.ret (.inl (false, (z10.1, (z10.2.1, (z10.2.2.1, (z10.2.2.2.1, (z10.2.2.2.2.1, (z10.2.2.2.2.2, ([] : List Int)))))))))))
      (.bb (a_0 == (5 : Int))
       (.opt (drive_Drive_Fresh.c a_1 a_4 h3_1 h3_2 h3_3 h3_4 h3_5 h3_6 h0_1 h0_3 h0_4 h0_5 h1 h2) fun z9 =>
        (.ret (.inl (false, (z9.1, (z9.2.1, (z9.2.2.1, (z9.2.2.2.1, (z9.2.2.2.2.1, (z9.2.2.2.2.2, ([] : List Int)))))))))))
       (.bb (a_0 == (6 : Int))
        (.opt (flash_Flash_Arm.c a_3 a_4 h0_1 h0_3 h0_4 h0_5 h1 h2) fun z8 =>
         (.ret (.inr (false, ((0 : Int), (z8.1, (([] : List Int), z8.2)))))))
        (.bb (a_0 == (7 : Int))
         (.opt (flash_Flash_Power.c h0_1 h0_3 h0_4 h0_5 h1 h2) fun z7 =>
          (.ret (.inl (false, ((0 : Int), (h0_3, (z7.1, (z7.2, (h1, (h2, ([] : List Int)))))))))))
         (.ret (.inl (false, ((0 : Int), (h0_3, (h0_4, (h0_5, (h1, (h2, ([] : List Int))))))))))))))))
   (.bb (a_0 == (2 : Int))
    (.opt (drive_Drive_Write.c a_1 a_2 a_4 h3_1 h3_2 h3_3 h3_4 h3_5 h3_6 h0_1 h0_3 h0_4 h0_5 h1 h2) fun z6 =>
     (.ret (.inl (false, (z6.1, (z6.2.1, (z6.2.2.1, (z6.2.2.2.1, (z6.2.2.2.2, (h2, ([] : List Int)))))))))))
    (.bb (a_0 == (3 : Int))
     (.opt (drive_Drive_Blank.c a_1 a_2 h3_1 h3_2 h3_3 h3_4 h3_5 h3_6 h0_1 h0_3 h0_4 h0_5 h1 h2) fun z5 =>
      (.ret (.inl (z5.1, (z5.2, (h0_3, (h0_4, (h0_5, (h1, (h2, ([] : List Int)))))))))))
     (.bb (a_0 == (4 : Int))
      (.opt (drive_Drive_Clean.c a_1 h3_1 h3_2 h3_3 h3_4 h3_5 h3_6 h0_1 h0_3 h0_4 h0_5 h1 h2) fun z4 =>
       (.ret (.inl (false, (z4.1, (z4.2.1, (z4.2.2.1, (z4.2.2.2.1, (z4.2.2.2.2.1, (z4.2.2.2.2.2, ([] : List Int)))))))))))
      (.bb (a_0 == (5 : Int))
       (.opt (drive_Drive_Fresh.c a_1 a_4 h3_1 h3_2 h3_3 h3_4 h3_5 h3_6 h0_1 h0_3 h0_4 h0_5 h1 h2) fun z3 =>
        (.ret (.inl (false, (z3.1, (z3.2.1, (z3.2.2.1, (z3.2.2.2.1, (z3.2.2.2.2.1, (z3.2.2.2.2.2, ([] : List Int)))))))))))
       (.bb (a_0 == (6 : Int))
        (.opt (flash_Flash_Arm.c a_3 a_4 h0_1 h0_3 h0_4 h0_5 h1 h2) fun z2 =>
         (.ret (.inr (false, ((0 : Int), (z2.1, (([] : List Int), z2.2)))))))
        (.bb (a_0 == (7 : Int))
         (.opt (flash_Flash_Power.c h0_1 h0_3 h0_4 h0_5 h1 h2) fun z1 =>
          (.ret (.inl (false, ((0 : Int), (h0_3, (z1.1, (z1.2, (h1, (h2, ([] : List Int)))))))))))
         (.ret (.inl (false, ((0 : Int), (h0_3, (h0_4, (h0_5, (h1, (h2, ([] : List Int))))))))))))))))))
noncomputable def c (a_0 : Int) (a_1 : Int) (a_2 : Int) (a_3 : Int) (a_4 : (List Int)) (h0_1 : Int) (h0_3 : Int) (h0_4 : Bool) (h0_5 : Int) (h1 : (List Int)) (h2 : (List Int)) (h3_1 : Int) (h3_2 : Int) (h3_3 : Int) (h3_4 : Int) (h3_5 : Int) (h3_6 : Int) : Option ((Bool × (Int × (Int × (Bool × (Int × ((List Int) × ((List Int) × (List Int)))))))) ⊕ (Bool × (Int × (Int × ((List Int) × (List Int)))))) := (t a_0 a_1 a_2 a_3 a_4 h0_1 h0_3 h0_4 h0_5 h1 h2 h3_1 h3_2 h3_3 h3_4 h3_5 h3_6).run
def pA : Pt := (.cs (.ptr 0 0) (.cs (.ptr 3 0) (.cs (.agg (.cs (.int .i64) (.cs (.int .i64) (.cs (.int .i64) (.cs (.int .i64) (.cs (.sl 3) .nl)))))) .nl)))
def pH : Pt := (.cs (.var (.cs (.own 1) (.cs (.int .i64) (.cs (.own 2) (.cs (.int .i64) (.cs .bool (.cs (.int .i64) (.cs .nils .nl)))))))) (.cs (.row 3 true) (.cs (.row 1 true) (.cs (.var (.cs (.ptr 0 0) (.cs (.int .i64) (.cs (.int .i64) (.cs (.int .i64) (.cs (.int .i64) (.cs (.int .i64) (.cs (.int .i64) .nl)))))))) .nl))))
def v (l : TA) (y : ((Bool × (Int × (Int × (Bool × (Int × ((List Int) × ((List Int) × (List Int)))))))) ⊕ (Bool × (Int × (Int × ((List Int) × (List Int))))))) : AV U := (Sum.elim (fun a0 => .tup [.own 4, .im (.bool a0.1), .im (.int .i64 a0.2.1)]) (fun b0 => .tup [.own 4, .im (.bool b0.1), .im (.int .i64 b0.2.1)]) y)
def hh (l : TA) (y : ((Bool × (Int × (Int × (Bool × (Int × ((List Int) × ((List Int) × (List Int)))))))) ⊕ (Bool × (Int × (Int × ((List Int) × (List Int))))))) : Hp U := (Sum.elim (fun a0 => [.var [.own 1, .im (.int .i64 l.2.1.2.1), .own 2, .im (.int .i64 a0.2.2.1), .im (.bool a0.2.2.2.1), .im (.int .i64 a0.2.2.2.2.1), .im .nils], .row 3 a0.2.2.2.2.2.1 true, .row 1 a0.2.2.2.2.2.2.1 true, .var [.ptr 0 0, .im (.int .i64 l.2.2.2.2.1.2.1), .im (.int .i64 l.2.2.2.2.1.2.2.1), .im (.int .i64 l.2.2.2.2.1.2.2.2.1), .im (.int .i64 l.2.2.2.2.1.2.2.2.2.1), .im (.int .i64 l.2.2.2.2.1.2.2.2.2.2.1), .im (.int .i64 l.2.2.2.2.1.2.2.2.2.2.2.1)], .row 3 a0.2.2.2.2.2.2.2 true]) (fun b0 => [.var [.own 1, .im (.int .i64 l.2.1.2.1), .own 2, .im (.int .i64 l.2.1.2.2.2.1), .im (.bool l.2.1.2.2.2.2.1), .im (.int .i64 b0.2.2.1), .own 5], .row 3 l.2.2.1 true, .row 1 l.2.2.2.1 true, .var [.ptr 0 0, .im (.int .i64 l.2.2.2.2.1.2.1), .im (.int .i64 l.2.2.2.2.1.2.2.1), .im (.int .i64 l.2.2.2.2.1.2.2.2.1), .im (.int .i64 l.2.2.2.2.1.2.2.2.2.1), .im (.int .i64 l.2.2.2.2.1.2.2.2.2.2.1), .im (.int .i64 l.2.2.2.2.1.2.2.2.2.2.2.1)], .row 3 b0.2.2.2.1 true, .row 3 b0.2.2.2.2 true]) y)
noncomputable def A : AFun U := mkA (U := U) pA pH (X := ((Bool × (Int × (Int × (Bool × (Int × ((List Int) × ((List Int) × (List Int)))))))) ⊕ (Bool × (Int × (Int × ((List Int) × (List Int))))))) (fun (l : TA) => c l.1.2.2.1.1 l.1.2.2.1.2.1 l.1.2.2.1.2.2.1 l.1.2.2.1.2.2.2.1 l.1.2.2.1.2.2.2.2.1 l.2.1.2.1 l.2.1.2.2.2.1 l.2.1.2.2.2.2.1 l.2.1.2.2.2.2.2.1 l.2.2.1 l.2.2.2.1 l.2.2.2.2.1.2.1 l.2.2.2.2.1.2.2.1 l.2.2.2.2.1.2.2.2.1 l.2.2.2.2.1.2.2.2.2.1 l.2.2.2.2.1.2.2.2.2.2.1 l.2.2.2.2.1.2.2.2.2.2.2.1) (spS sp1) v hh
noncomputable def body : Code := (Go.Func.body Try.f94).getD .skip
noncomputable def Γ : List (FuncId × AFun U) := [(56, flash_Flash_Power.A), (55, flash_Flash_Arm.A), (86, drive_Drive_Fresh.A), (85, drive_Drive_Clean.A), (83, drive_Drive_Blank.A), (84, drive_Drive_Write.A), (82, drive_Drive_Read.A)]
noncomputable def Λ : List (Nat × LFun U) := []
noncomputable def CT : List (Nat × LFun U) := []
def ro : List FuncId := [82]
def D : Nat → Lv × Lv := dtab []
noncomputable def E : Env U := { E0 with Γ := Γ, Λ := Λ, C := CT, D := D, ro := ro }
theorem hk (R : Type) (l : TA) (K : AV U → Hp U → Option R) : funcA E Try.f94 [(0, [], .own 3)] R (pA.mkL l.1) (pH.mkH l.2) K = (t l.1.2.2.1.1 l.1.2.2.1.2.1 l.1.2.2.1.2.2.1 l.1.2.2.1.2.2.2.1 l.1.2.2.1.2.2.2.2.1 l.2.1.2.1 l.2.1.2.2.2.1 l.2.1.2.2.2.2.1 l.2.1.2.2.2.2.2.1 l.2.2.1 l.2.2.2.1 l.2.2.2.2.1.2.1 l.2.2.2.2.1.2.2.1 l.2.2.2.2.1.2.2.2.1 l.2.2.2.2.1.2.2.2.2.1 l.2.2.2.2.1.2.2.2.2.2.1 l.2.2.2.2.1.2.2.2.2.2.2.1).runK fun y => K (v l y) (hh l y) := by kernel_rfl
theorem okF : SoundF Try.prog cc 94 (funcA E Try.f94 [(0, [], .own 3)]) :=
  funcA_ok (E := E) P_mixed (E0_ok.with Γ Λ CT D ro) (gam_of (all_cons ⟨flash_Flash_Power.ok, ⟨Try.f56, Try.func56, by kernel_rfl, by kernel_rfl⟩⟩ (all_cons ⟨flash_Flash_Arm.ok, ⟨Try.f55, Try.func55, by kernel_rfl, by kernel_rfl⟩⟩ (all_cons ⟨drive_Drive_Fresh.ok, ⟨Try.f86, Try.func86, by kernel_rfl, by kernel_rfl⟩⟩ (all_cons ⟨drive_Drive_Clean.ok, ⟨Try.f85, Try.func85, by kernel_rfl, by kernel_rfl⟩⟩ (all_cons ⟨drive_Drive_Blank.ok, ⟨Try.f83, Try.func83, by kernel_rfl, by kernel_rfl⟩⟩ (all_cons ⟨drive_Drive_Write.ok, ⟨Try.f84, Try.func84, by kernel_rfl, by kernel_rfl⟩⟩ (all_cons ⟨drive_Drive_Read.ok, ⟨Try.f82, Try.func82, by kernel_rfl, by kernel_rfl⟩⟩ all_nil))))))) (all_cons (no_keep (by kernel_rfl)) (all_cons (no_keep (by kernel_rfl)) (all_cons (no_keep (by kernel_rfl)) (all_cons (no_keep (by kernel_rfl)) (all_cons (no_keep (by kernel_rfl)) (all_cons (no_keep (by kernel_rfl)) (all_cons (fun _ => drive_Drive_Read.keep) all_nil)))))))) Try.func94 (c := body) (by kernel_rfl)
    (just_by (by kernel_rfl) (by kernel_rfl) all_nil all_nil) [(0, [], .own 3)]
theorem ok : SoundF Try.prog cc 94 A :=
  mkA_ok (E := E) (p := pA) (q := pH) (t := fun (l : TA) => t l.1.2.2.1.1 l.1.2.2.1.2.1 l.1.2.2.1.2.2.1 l.1.2.2.1.2.2.2.1 l.1.2.2.1.2.2.2.2.1 l.2.1.2.1 l.2.1.2.2.2.1 l.2.1.2.2.2.2.1 l.2.1.2.2.2.2.2.1 l.2.2.1 l.2.2.2.1 l.2.2.2.2.1.2.1 l.2.2.2.2.1.2.2.1 l.2.2.2.2.1.2.2.2.1 l.2.2.2.2.1.2.2.2.2.1 l.2.2.2.2.1.2.2.2.2.2.1 l.2.2.2.2.1.2.2.2.2.2.2.1) (spS_ok sp1_ok) hk okF
end law09_do

/-! instar/instarlaw09.awake -/
namespace law09_awake
abbrev TA : Type := (Unit × Unit)
noncomputable def t : Tw Bool :=
 (.opt (flash_New.c (11 : Int) (64 : Int)) fun z1 =>
  (.sm z1
   (fun z2 => (.opt (drive_New.c (64 : Int) (2 : Int) (5 : Int) (2 : Int) (1 : Int) (9 : Int) (64 : Int) z2.2.1 z2.2.2.1 z2.2.2.2.1 z2.2.2.2.2.1 z2.2.2.2.2.2) fun z4 =>
     (.sm z4
      (fun z5 => (.opt (drive_Drive_Write.c (1 : Int) (2 : Int) ((5 : Int) :: ([] : List Int)) (64 : Int) (2 : Int) (5 : Int) (2 : Int) (1 : Int) (9 : Int) (64 : Int) z2.2.1 z2.2.2.1 z2.2.2.2.1 z2.2.2.2.2.1 z2.2.2.2.2.2) fun z7 =>
        (.opt (drive_Drive_Write.c (1 : Int) (2 : Int) ((5 : Int) :: ([] : List Int)) (64 : Int) (2 : Int) (5 : Int) (2 : Int) (1 : Int) (9 : Int) (64 : Int) z7.2.1 z7.2.2.1 z7.2.2.2.1 z7.2.2.2.2 z2.2.2.2.2.2) fun z8 =>
         (.opt (drive_Drive_Write.c (1 : Int) (2 : Int) ((7 : Int) :: ([] : List Int)) (64 : Int) (2 : Int) (5 : Int) (2 : Int) (1 : Int) (9 : Int) (64 : Int) z8.2.1 z8.2.2.1 z8.2.2.2.1 z8.2.2.2.2 z2.2.2.2.2.2) fun z9 =>
          (.bb (z2.1 == (0 : Int))
           (.bb (z5 == (0 : Int))
            (.bb (z7.1 == (0 : Int))
             (.bb (z8.1 == (0 : Int))
              (.bb (z9.1 == (11 : Int))
               (.opt (flash_Flash_Writes_v2.c (64 : Int) z9.2.1 z9.2.2.1 z9.2.2.2.1 z9.2.2.2.2 z2.2.2.2.2.2) fun z10 =>
                (.bb (z9.2.1 == (1 : Int))
                 (.opt (drive_Drive_Geometry.c (64 : Int) (2 : Int) (5 : Int) (2 : Int) (1 : Int) (9 : Int) (64 : Int) z9.2.1 z9.2.2.1 z9.2.2.2.1 z9.2.2.2.2 z2.2.2.2.2.2) fun z11 =>
                  (.ret (((64 : Int) == (64 : Int)) && (((2 : Int) == (2 : Int)) && (((5 : Int) == (5 : Int)) && (((2 : Int) == (2 : Int)) && (((1 : Int) == (1 : Int)) && (((9 : Int) == (9 : Int)) && true))))))))
                 (.ret false)))
               (.ret false))
              (.ret false))
             (.ret false))
            (.ret false))
           (.ret false))))))
      (fun z6 => (.opt (drive_Drive_Write_nil0.c (1 : Int) (2 : Int) ((5 : Int) :: ([] : List Int))) fun z12 =>
        (.opt (drive_Drive_Write_nil0.c (1 : Int) (2 : Int) ((5 : Int) :: ([] : List Int))) fun z13 =>
         (.opt (drive_Drive_Write_nil0.c (1 : Int) (2 : Int) ((7 : Int) :: ([] : List Int))) fun z14 =>
          (.bb (z2.1 == (0 : Int))
           (.bb (z6 == (0 : Int))
            (.bb (z12 == (0 : Int))
             (.bb (z13 == (0 : Int))
              (.bb (z14 == (11 : Int))
               (.opt (flash_Flash_Writes_v2.c (64 : Int) z2.2.1 z2.2.2.1 z2.2.2.2.1 z2.2.2.2.2.1 z2.2.2.2.2.2) fun z15 =>
                (.bb (z2.2.1 == (1 : Int))
                 (.opt (drive_Drive_Geometry_nil0.c) fun z16 =>
                  (.ret ((z16.1 == (64 : Int)) && ((z16.2.1 == (2 : Int)) && ((z16.2.2.1 == (5 : Int)) && ((z16.2.2.2.1 == (2 : Int)) && ((z16.2.2.2.2.1 == (1 : Int)) && ((z16.2.2.2.2.2 == (9 : Int)) && true))))))))
                 (.ret false)))
               (.ret false))
              (.ret false))
             (.ret false))
            (.ret false))
           (.ret false)))))))))
   (fun z3 => (.opt (drive_New_nil0.c (64 : Int) (2 : Int) (5 : Int) (2 : Int) (1 : Int) (9 : Int)) fun z17 =>
     (.opt (drive_Drive_Write_nil0.c (1 : Int) (2 : Int) ((5 : Int) :: ([] : List Int))) fun z18 =>
      (.opt (drive_Drive_Write_nil0.c (1 : Int) (2 : Int) ((5 : Int) :: ([] : List Int))) fun z19 =>
       (.opt (drive_Drive_Write_nil0.c (1 : Int) (2 : Int) ((7 : Int) :: ([] : List Int))) fun z20 =>
        (.bb (z3 == (0 : Int))
         (.bb (z17 == (0 : Int))
          (.bb (z18 == (0 : Int))
           (.bb (z19 == (0 : Int))
            (.bb (z20 == (11 : Int))
             (.opt (flash_Flash_Writes_nil0.c) fun z21 =>
              (.bb (z21 == (1 : Int))
               (.opt (drive_Drive_Geometry_nil0.c) fun z22 =>
                (.ret ((z22.1 == (64 : Int)) && ((z22.2.1 == (2 : Int)) && ((z22.2.2.1 == (5 : Int)) && ((z22.2.2.2.1 == (2 : Int)) && ((z22.2.2.2.2.1 == (1 : Int)) && ((z22.2.2.2.2.2 == (9 : Int)) && true))))))))
               (.ret false)))
             (.ret false))
            (.ret false))
           (.ret false))
          (.ret false))
         (.ret false)))))))))
noncomputable def c : Option Bool := (t).run
def pA : Pt := .nl
def pH : Pt := .nl
def v (l : TA) (y : Bool) : AV U := .im (.bool y)
def hh (l : TA) (y : Bool) : Hp U := []
noncomputable def A : AFun U := mkA (U := U) pA pH (X := Bool) (fun (l : TA) => c) sp1 v hh
noncomputable def body : Code := (Go.Func.body Try.f81).getD .skip
noncomputable def Γ : List (FuncId × AFun U) := [(32, flash_New.A), (88, (orA drive_New.pA drive_New.pH drive_New.A drive_New_nil0.A)), (84, (orA drive_Drive_Write.pA drive_Drive_Write.pH drive_Drive_Write.A drive_Drive_Write_nil0.A)), (36, (orA flash_Flash_Writes_v2.pA flash_Flash_Writes_v2.pH flash_Flash_Writes_v2.A flash_Flash_Writes_nil0.A)), (87, (orA drive_Drive_Geometry.pA drive_Drive_Geometry.pH drive_Drive_Geometry.A drive_Drive_Geometry_nil0.A))]
noncomputable def Λ : List (Nat × LFun U) := []
noncomputable def CT : List (Nat × LFun U) := []
def ro : List FuncId := [88, 36, 87]
def D : Nat → Lv × Lv := dtab []
noncomputable def E : Env U := { E0 with Γ := Γ, Λ := Λ, C := CT, D := D, ro := ro }
theorem hk (R : Type) (l : TA) (K : AV U → Hp U → Option R) : funcA E Try.f81 [] R (pA.mkL l.1) (pH.mkH l.2) K = (t).runK fun y => K (v l y) (hh l y) := by kernel_rfl
theorem okF : SoundF Try.prog cc 81 (funcA E Try.f81 []) :=
  funcA_ok (E := E) P_mixed (E0_ok.with Γ Λ CT D ro) (gam_of (all_cons ⟨flash_New.ok, ⟨Try.f32, Try.func32, by kernel_rfl, by kernel_rfl⟩⟩ (all_cons ⟨(orA_ok drive_New.ok drive_New_nil0.ok), ⟨Try.f88, Try.func88, by kernel_rfl, by kernel_rfl⟩⟩ (all_cons ⟨(orA_ok drive_Drive_Write.ok drive_Drive_Write_nil0.ok), ⟨Try.f84, Try.func84, by kernel_rfl, by kernel_rfl⟩⟩ (all_cons ⟨(orA_ok flash_Flash_Writes_v2.ok flash_Flash_Writes_nil0.ok), ⟨Try.f36, Try.func36, by kernel_rfl, by kernel_rfl⟩⟩ (all_cons ⟨(orA_ok drive_Drive_Geometry.ok drive_Drive_Geometry_nil0.ok), ⟨Try.f87, Try.func87, by kernel_rfl, by kernel_rfl⟩⟩ all_nil))))) (all_cons (no_keep (by kernel_rfl)) (all_cons (fun _ => (orA_keep drive_New.keep drive_New_nil0.keep)) (all_cons (no_keep (by kernel_rfl)) (all_cons (fun _ => (orA_keep flash_Flash_Writes_v2.keep flash_Flash_Writes_nil0.keep)) (all_cons (fun _ => (orA_keep drive_Drive_Geometry.keep drive_Drive_Geometry_nil0.keep)) all_nil)))))) Try.func81 (c := body) (by kernel_rfl)
    (just_by (by kernel_rfl) (by kernel_rfl) all_nil all_nil) []
theorem ok : SoundF Try.prog cc 81 A :=
  mkA_ok (E := E) (p := pA) (q := pH) (t := fun (l : TA) => t) sp1_ok hk okF
theorem keep : KeepA A := mkA_keep (U := U) sp1_ok (fun (l : TA) y => ⟨(hh l y).drop 0, by kernel_rfl⟩)
end law09_awake

/-! instar/instarlaw09.do -/
namespace law09_do_v2
abbrev TA : Type := ((Unit × (Unit × ((Int × (Int × (Int × (Int × ((List Int) × Unit))))) × Unit))) × ((Unit × (Int × (Unit × (Int × (Bool × (Int × (Unit × Unit))))))) × ((List Int) × ((List Int) × ((List Int) × ((Unit × (Int × (Int × (Int × (Int × (Int × (Int × Unit))))))) × Unit))))))
noncomputable def t (a_0 : Int) (a_1 : Int) (a_2 : Int) (a_3 : Int) (a_4 : (List Int)) (h0_1 : Int) (h0_3 : Int) (h0_4 : Bool) (h0_5 : Int) (h1 : (List Int)) (h2 : (List Int)) (h3 : (List Int)) (h4_1 : Int) (h4_2 : Int) (h4_3 : Int) (h4_4 : Int) (h4_5 : Int) (h4_6 : Int) : Tw ((Bool × (Int × (Int × (Bool × (Int × ((List Int) × ((List Int) × (List Int)))))))) ⊕ ((Bool × (Int × (Bool × (Int × (List Int))))) ⊕ (Bool × (Int × (Int × ((List Int) × (List Int))))))) :=
 (.bb (a_0 == (0 : Int))
  (.opt (drive_Drive_Read_v2.c a_1 a_2 a_3 h4_1 h4_2 h4_3 h4_4 h4_5 h4_6 h0_1 h0_3 h0_4 h0_5 h1 h2 h3) fun z13 =>
   (.ret (.inl (false, (z13.1, (h0_3, (h0_4, (h0_5, (h1, (h2, z13.2))))))))))
  (.bb (a_0 == (1 : Int))
   (.bb (a_0 == (1 : Int))
    (.opt (drive_Drive_Write_v2.c a_1 a_2 a_4 h4_1 h4_2 h4_3 h4_4 h4_5 h4_6 h0_1 h0_3 h0_4 h0_5 h1 h2 h3) fun z12 =>
     (.ret (.inl (false, (z12.1, (z12.2.1, (z12.2.2.1, (z12.2.2.2.1, (z12.2.2.2.2, (h2, ([] : List Int)))))))))))
    (.bb (a_0 == (3 : Int))
     (.opt (drive_Drive_Blank_v2.c a_1 a_2 h4_1 h4_2 h4_3 h4_4 h4_5 h4_6 h0_1 h0_3 h0_4 h0_5 h1 h2 h3) fun z11 =>
      (.ret (.inl (z11.1, (z11.2, (h0_3, (h0_4, (h0_5, (h1, (h2, ([] : List Int)))))))))))
     (.bb (a_0 == (4 : Int))
      (.opt (drive_Drive_Clean_v2.c a_1 h4_1 h4_2 h4_3 h4_4 h4_5 h4_6 h0_1 h0_3 h0_4 h0_5 h1 h2 h3) fun z10 =>
       (.ret (.inl (false, (z10.1, (z10.2.1, (z10.2.2.1, (z10.2.2.2.1, (z10.2.2.2.2.1, (z10.2.2.2.2.2, ([] : List Int)))))))))))
      (.bb (a_0 == (5 : Int))
       (.opt (drive_Drive_Fresh_v2.c a_1 a_4 h4_1 h4_2 h4_3 h4_4 h4_5 h4_6 h0_1 h0_3 h0_4 h0_5 h1 h2 h3) fun z9 =>
        (.ret (.inl (false, (z9.1, (z9.2.1, (z9.2.2.1, (z9.2.2.2.1, (z9.2.2.2.2.1, (z9.2.2.2.2.2, ([] : List Int)))))))))))
       (.bb (a_0 == (6 : Int))
        (.opt (flash_Flash_Arm_v2.c a_3 a_4 h0_1 h0_3 h0_4 h0_5 h1 h2 h3) fun z8 =>
         (.ret (.inr (.inr (false, ((0 : Int), (z8.1, (([] : List Int), z8.2))))))))
        (.bb (a_0 == (7 : Int))
         (.opt (flash_Flash_Power_v2.c h0_1 h0_3 h0_4 h0_5 h1 h2 h3) fun z7 =>
          (.ret (.inr (.inl (false, ((0 : Int), (z7.1, (z7.2, ([] : List Int)))))))))
         (.ret (.inl (false, ((0 : Int), (h0_3, (h0_4, (h0_5, (h1, (h2, ([] : List Int))))))))))))))))
   (.bb (a_0 == (2 : Int))
    (.opt (drive_Drive_Write_v2.c a_1 a_2 a_4 h4_1 h4_2 h4_3 h4_4 h4_5 h4_6 h0_1 h0_3 h0_4 h0_5 h1 h2 h3) fun z6 =>
     (.ret (.inl (false, (z6.1, (z6.2.1, (z6.2.2.1, (z6.2.2.2.1, (z6.2.2.2.2, (h2, ([] : List Int)))))))))))
    (.bb (a_0 == (3 : Int))
     (.opt (drive_Drive_Blank_v2.c a_1 a_2 h4_1 h4_2 h4_3 h4_4 h4_5 h4_6 h0_1 h0_3 h0_4 h0_5 h1 h2 h3) fun z5 =>
      (.ret (.inl (z5.1, (z5.2, (h0_3, (h0_4, (h0_5, (h1, (h2, ([] : List Int)))))))))))
     (.bb (a_0 == (4 : Int))
      (.opt (drive_Drive_Clean_v2.c a_1 h4_1 h4_2 h4_3 h4_4 h4_5 h4_6 h0_1 h0_3 h0_4 h0_5 h1 h2 h3) fun z4 =>
       (.ret (.inl (false, (z4.1, (z4.2.1, (z4.2.2.1, (z4.2.2.2.1, (z4.2.2.2.2.1, (z4.2.2.2.2.2, ([] : List Int)))))))))))
      (.bb (a_0 == (5 : Int))
       (.opt (drive_Drive_Fresh_v2.c a_1 a_4 h4_1 h4_2 h4_3 h4_4 h4_5 h4_6 h0_1 h0_3 h0_4 h0_5 h1 h2 h3) fun z3 =>
        (.ret (.inl (false, (z3.1, (z3.2.1, (z3.2.2.1, (z3.2.2.2.1, (z3.2.2.2.2.1, (z3.2.2.2.2.2, ([] : List Int)))))))))))
       (.bb (a_0 == (6 : Int))
        (.opt (flash_Flash_Arm_v2.c a_3 a_4 h0_1 h0_3 h0_4 h0_5 h1 h2 h3) fun z2 =>
         (.ret (.inr (.inr (false, ((0 : Int), (z2.1, (([] : List Int), z2.2))))))))
        (.bb (a_0 == (7 : Int))
         (.opt (flash_Flash_Power_v2.c h0_1 h0_3 h0_4 h0_5 h1 h2 h3) fun z1 =>
          (.ret (.inr (.inl (false, ((0 : Int), (z1.1, (z1.2, ([] : List Int)))))))))
         (.ret (.inl (false, ((0 : Int), (h0_3, (h0_4, (h0_5, (h1, (h2, ([] : List Int))))))))))))))))))
noncomputable def c (a_0 : Int) (a_1 : Int) (a_2 : Int) (a_3 : Int) (a_4 : (List Int)) (h0_1 : Int) (h0_3 : Int) (h0_4 : Bool) (h0_5 : Int) (h1 : (List Int)) (h2 : (List Int)) (h3 : (List Int)) (h4_1 : Int) (h4_2 : Int) (h4_3 : Int) (h4_4 : Int) (h4_5 : Int) (h4_6 : Int) : Option ((Bool × (Int × (Int × (Bool × (Int × ((List Int) × ((List Int) × (List Int)))))))) ⊕ ((Bool × (Int × (Bool × (Int × (List Int))))) ⊕ (Bool × (Int × (Int × ((List Int) × (List Int))))))) := (t a_0 a_1 a_2 a_3 a_4 h0_1 h0_3 h0_4 h0_5 h1 h2 h3 h4_1 h4_2 h4_3 h4_4 h4_5 h4_6).run
def pA : Pt := (.cs (.ptr 0 0) (.cs (.ptr 4 0) (.cs (.agg (.cs (.int .i64) (.cs (.int .i64) (.cs (.int .i64) (.cs (.int .i64) (.cs (.sl 3) .nl)))))) .nl)))
def pH : Pt := (.cs (.var (.cs (.own 1) (.cs (.int .i64) (.cs (.own 2) (.cs (.int .i64) (.cs .bool (.cs (.int .i64) (.cs (.own 3) .nl)))))))) (.cs (.row 3 true) (.cs (.row 1 true) (.cs (.row 3 true) (.cs (.var (.cs (.ptr 0 0) (.cs (.int .i64) (.cs (.int .i64) (.cs (.int .i64) (.cs (.int .i64) (.cs (.int .i64) (.cs (.int .i64) .nl)))))))) .nl)))))
def v (l : TA) (y : ((Bool × (Int × (Int × (Bool × (Int × ((List Int) × ((List Int) × (List Int)))))))) ⊕ ((Bool × (Int × (Bool × (Int × (List Int))))) ⊕ (Bool × (Int × (Int × ((List Int) × (List Int)))))))) : AV U := (Sum.elim (fun a0 => .tup [.own 5, .im (.bool a0.1), .im (.int .i64 a0.2.1)]) (fun b0 => (Sum.elim (fun a1 => .tup [.own 5, .im (.bool a1.1), .im (.int .i64 a1.2.1)]) (fun b1 => .tup [.own 5, .im (.bool b1.1), .im (.int .i64 b1.2.1)]) b0)) y)
def hh (l : TA) (y : ((Bool × (Int × (Int × (Bool × (Int × ((List Int) × ((List Int) × (List Int)))))))) ⊕ ((Bool × (Int × (Bool × (Int × (List Int))))) ⊕ (Bool × (Int × (Int × ((List Int) × (List Int)))))))) : Hp U := (Sum.elim (fun a0 => [.var [.own 1, .im (.int .i64 l.2.1.2.1), .own 2, .im (.int .i64 a0.2.2.1), .im (.bool a0.2.2.2.1), .im (.int .i64 a0.2.2.2.2.1), .own 3], .row 3 a0.2.2.2.2.2.1 true, .row 1 a0.2.2.2.2.2.2.1 true, .row 3 l.2.2.2.2.1 true, .var [.ptr 0 0, .im (.int .i64 l.2.2.2.2.2.1.2.1), .im (.int .i64 l.2.2.2.2.2.1.2.2.1), .im (.int .i64 l.2.2.2.2.2.1.2.2.2.1), .im (.int .i64 l.2.2.2.2.2.1.2.2.2.2.1), .im (.int .i64 l.2.2.2.2.2.1.2.2.2.2.2.1), .im (.int .i64 l.2.2.2.2.2.1.2.2.2.2.2.2.1)], .row 3 a0.2.2.2.2.2.2.2 true]) (fun b0 => (Sum.elim (fun a1 => [.var [.own 1, .im (.int .i64 l.2.1.2.1), .own 2, .im (.int .i64 l.2.1.2.2.2.1), .im (.bool a1.2.2.1), .im (.int .i64 a1.2.2.2.1), .im .nils], .row 3 l.2.2.1 true, .row 1 l.2.2.2.1 true, .row 3 l.2.2.2.2.1 true, .var [.ptr 0 0, .im (.int .i64 l.2.2.2.2.2.1.2.1), .im (.int .i64 l.2.2.2.2.2.1.2.2.1), .im (.int .i64 l.2.2.2.2.2.1.2.2.2.1), .im (.int .i64 l.2.2.2.2.2.1.2.2.2.2.1), .im (.int .i64 l.2.2.2.2.2.1.2.2.2.2.2.1), .im (.int .i64 l.2.2.2.2.2.1.2.2.2.2.2.2.1)], .row 3 a1.2.2.2.2 true]) (fun b1 => [.var [.own 1, .im (.int .i64 l.2.1.2.1), .own 2, .im (.int .i64 l.2.1.2.2.2.1), .im (.bool l.2.1.2.2.2.2.1), .im (.int .i64 b1.2.2.1), .own 6], .row 3 l.2.2.1 true, .row 1 l.2.2.2.1 true, .row 3 l.2.2.2.2.1 true, .var [.ptr 0 0, .im (.int .i64 l.2.2.2.2.2.1.2.1), .im (.int .i64 l.2.2.2.2.2.1.2.2.1), .im (.int .i64 l.2.2.2.2.2.1.2.2.2.1), .im (.int .i64 l.2.2.2.2.2.1.2.2.2.2.1), .im (.int .i64 l.2.2.2.2.2.1.2.2.2.2.2.1), .im (.int .i64 l.2.2.2.2.2.1.2.2.2.2.2.2.1)], .row 3 b1.2.2.2.1 true, .row 3 b1.2.2.2.2 true]) b0)) y)
noncomputable def A : AFun U := mkA (U := U) pA pH (X := ((Bool × (Int × (Int × (Bool × (Int × ((List Int) × ((List Int) × (List Int)))))))) ⊕ ((Bool × (Int × (Bool × (Int × (List Int))))) ⊕ (Bool × (Int × (Int × ((List Int) × (List Int)))))))) (fun (l : TA) => c l.1.2.2.1.1 l.1.2.2.1.2.1 l.1.2.2.1.2.2.1 l.1.2.2.1.2.2.2.1 l.1.2.2.1.2.2.2.2.1 l.2.1.2.1 l.2.1.2.2.2.1 l.2.1.2.2.2.2.1 l.2.1.2.2.2.2.2.1 l.2.2.1 l.2.2.2.1 l.2.2.2.2.1 l.2.2.2.2.2.1.2.1 l.2.2.2.2.2.1.2.2.1 l.2.2.2.2.2.1.2.2.2.1 l.2.2.2.2.2.1.2.2.2.2.1 l.2.2.2.2.2.1.2.2.2.2.2.1 l.2.2.2.2.2.1.2.2.2.2.2.2.1) (spS (spS sp1)) v hh
noncomputable def body : Code := (Go.Func.body Try.f94).getD .skip
noncomputable def Γ : List (FuncId × AFun U) := [(56, flash_Flash_Power_v2.A), (55, flash_Flash_Arm_v2.A), (86, drive_Drive_Fresh_v2.A), (85, drive_Drive_Clean_v2.A), (83, drive_Drive_Blank_v2.A), (84, drive_Drive_Write_v2.A), (82, drive_Drive_Read_v2.A)]
noncomputable def Λ : List (Nat × LFun U) := []
noncomputable def CT : List (Nat × LFun U) := []
def ro : List FuncId := [82]
def D : Nat → Lv × Lv := dtab []
noncomputable def E : Env U := { E0 with Γ := Γ, Λ := Λ, C := CT, D := D, ro := ro }
theorem hk (R : Type) (l : TA) (K : AV U → Hp U → Option R) : funcA E Try.f94 [(0, [], .own 3)] R (pA.mkL l.1) (pH.mkH l.2) K = (t l.1.2.2.1.1 l.1.2.2.1.2.1 l.1.2.2.1.2.2.1 l.1.2.2.1.2.2.2.1 l.1.2.2.1.2.2.2.2.1 l.2.1.2.1 l.2.1.2.2.2.1 l.2.1.2.2.2.2.1 l.2.1.2.2.2.2.2.1 l.2.2.1 l.2.2.2.1 l.2.2.2.2.1 l.2.2.2.2.2.1.2.1 l.2.2.2.2.2.1.2.2.1 l.2.2.2.2.2.1.2.2.2.1 l.2.2.2.2.2.1.2.2.2.2.1 l.2.2.2.2.2.1.2.2.2.2.2.1 l.2.2.2.2.2.1.2.2.2.2.2.2.1).runK fun y => K (v l y) (hh l y) := by kernel_rfl
theorem okF : SoundF Try.prog cc 94 (funcA E Try.f94 [(0, [], .own 3)]) :=
  funcA_ok (E := E) P_mixed (E0_ok.with Γ Λ CT D ro) (gam_of (all_cons ⟨flash_Flash_Power_v2.ok, ⟨Try.f56, Try.func56, by kernel_rfl, by kernel_rfl⟩⟩ (all_cons ⟨flash_Flash_Arm_v2.ok, ⟨Try.f55, Try.func55, by kernel_rfl, by kernel_rfl⟩⟩ (all_cons ⟨drive_Drive_Fresh_v2.ok, ⟨Try.f86, Try.func86, by kernel_rfl, by kernel_rfl⟩⟩ (all_cons ⟨drive_Drive_Clean_v2.ok, ⟨Try.f85, Try.func85, by kernel_rfl, by kernel_rfl⟩⟩ (all_cons ⟨drive_Drive_Blank_v2.ok, ⟨Try.f83, Try.func83, by kernel_rfl, by kernel_rfl⟩⟩ (all_cons ⟨drive_Drive_Write_v2.ok, ⟨Try.f84, Try.func84, by kernel_rfl, by kernel_rfl⟩⟩ (all_cons ⟨drive_Drive_Read_v2.ok, ⟨Try.f82, Try.func82, by kernel_rfl, by kernel_rfl⟩⟩ all_nil))))))) (all_cons (no_keep (by kernel_rfl)) (all_cons (no_keep (by kernel_rfl)) (all_cons (no_keep (by kernel_rfl)) (all_cons (no_keep (by kernel_rfl)) (all_cons (no_keep (by kernel_rfl)) (all_cons (no_keep (by kernel_rfl)) (all_cons (fun _ => drive_Drive_Read_v2.keep) all_nil)))))))) Try.func94 (c := body) (by kernel_rfl)
    (just_by (by kernel_rfl) (by kernel_rfl) all_nil all_nil) [(0, [], .own 3)]
theorem ok : SoundF Try.prog cc 94 A :=
  mkA_ok (E := E) (p := pA) (q := pH) (t := fun (l : TA) => t l.1.2.2.1.1 l.1.2.2.1.2.1 l.1.2.2.1.2.2.1 l.1.2.2.1.2.2.2.1 l.1.2.2.1.2.2.2.2.1 l.2.1.2.1 l.2.1.2.2.2.1 l.2.1.2.2.2.2.1 l.2.1.2.2.2.2.2.1 l.2.2.1 l.2.2.2.1 l.2.2.2.2.1 l.2.2.2.2.2.1.2.1 l.2.2.2.2.2.1.2.2.1 l.2.2.2.2.2.1.2.2.2.1 l.2.2.2.2.2.1.2.2.2.2.1 l.2.2.2.2.2.1.2.2.2.2.2.1 l.2.2.2.2.2.1.2.2.2.2.2.2.1) (spS_ok (spS_ok sp1_ok)) hk okF
end law09_do_v2

/-! instar/instarlaw09.do -/
namespace law09_do_nil1
abbrev TA : Type := ((Unit × (Unit × ((Int × (Int × (Int × (Int × ((List Int) × Unit))))) × Unit))) × ((Unit × (Int × (Unit × (Int × (Bool × (Int × (Unit × Unit))))))) × ((List Int) × ((List Int) × ((List Int) × Unit)))))
noncomputable def t (a_0 : Int) (a_1 : Int) (a_2 : Int) (a_3 : Int) (a_4 : (List Int)) (h0_1 : Int) (h0_3 : Int) (h0_4 : Bool) (h0_5 : Int) (h1 : (List Int)) (h2 : (List Int)) (h3 : (List Int)) : Tw ((Bool × (Int × (List Int))) ⊕ ((Bool × (Int × (Bool × (Int × (List Int))))) ⊕ (Bool × (Int × (Int × ((List Int) × (List Int))))))) :=
 (.bb (a_0 == (0 : Int))
  (.opt (drive_Drive_Read_nil0.c a_1 a_2 a_3) fun z13 =>
   (.ret (.inl (false, (z13.1, z13.2)))))
  (.bb (a_0 == (1 : Int))
   (.bb (a_0 == (1 : Int))
    (.opt (drive_Drive_Write_nil0.c a_1 a_2 a_4) fun z12 =>
     (.ret (.inl (false, (z12, ([] : List Int))))))
    (.bb (a_0 == (3 : Int))
     (.opt (drive_Drive_Blank_nil0.c a_1 a_2) fun z11 =>
      (.ret (.inl (z11.1, (z11.2, ([] : List Int))))))
     (.bb (a_0 == (4 : Int))
      (.opt (drive_Drive_Clean_nil0.c a_1) fun z10 =>
       (.ret (.inl (false, (z10, ([] : List Int))))))
      (.bb (a_0 == (5 : Int))
       (.opt (drive_Drive_Fresh_nil0.c a_1 a_4) fun z9 =>
        (.ret (.inl (false, (z9, ([] : List Int))))))
       (.bb (a_0 == (6 : Int))
        (.opt (flash_Flash_Arm_v2.c a_3 a_4 h0_1 h0_3 h0_4 h0_5 h1 h2 h3) fun z8 =>
         (.ret (.inr (.inr (false, ((0 : Int), (z8.1, (([] : List Int), z8.2))))))))
        (.bb (a_0 == (7 : Int))
         (.opt (flash_Flash_Power_v2.c h0_1 h0_3 h0_4 h0_5 h1 h2 h3) fun z7 =>
          (.ret (.inr (.inl (false, ((0 : Int), (z7.1, (z7.2, ([] : List Int)))))))))
         (.ret (.inl (false, ((0 : Int), ([] : List Int)))))))))))
   (.bb (a_0 == (2 : Int))
    (.opt (drive_Drive_Write_nil0.c a_1 a_2 a_4) fun z6 =>
     (.ret (.inl (false, (z6, ([] : List Int))))))
    (.bb (a_0 == (3 : Int))
     (.opt (drive_Drive_Blank_nil0.c a_1 a_2) fun z5 =>
      (.ret (.inl (z5.1, (z5.2, ([] : List Int))))))
     (.bb (a_0 == (4 : Int))
      (.opt (drive_Drive_Clean_nil0.c a_1) fun z4 =>
       (.ret (.inl (false, (z4, ([] : List Int))))))
      (.bb (a_0 == (5 : Int))
       (.opt (drive_Drive_Fresh_nil0.c a_1 a_4) fun z3 =>
        (.ret (.inl (false, (z3, ([] : List Int))))))
       (.bb (a_0 == (6 : Int))
        (.opt (flash_Flash_Arm_v2.c a_3 a_4 h0_1 h0_3 h0_4 h0_5 h1 h2 h3) fun z2 =>
         (.ret (.inr (.inr (false, ((0 : Int), (z2.1, (([] : List Int), z2.2))))))))
        (.bb (a_0 == (7 : Int))
         (.opt (flash_Flash_Power_v2.c h0_1 h0_3 h0_4 h0_5 h1 h2 h3) fun z1 =>
          (.ret (.inr (.inl (false, ((0 : Int), (z1.1, (z1.2, ([] : List Int)))))))))
         (.ret (.inl (false, ((0 : Int), ([] : List Int)))))))))))))
noncomputable def c (a_0 : Int) (a_1 : Int) (a_2 : Int) (a_3 : Int) (a_4 : (List Int)) (h0_1 : Int) (h0_3 : Int) (h0_4 : Bool) (h0_5 : Int) (h1 : (List Int)) (h2 : (List Int)) (h3 : (List Int)) : Option ((Bool × (Int × (List Int))) ⊕ ((Bool × (Int × (Bool × (Int × (List Int))))) ⊕ (Bool × (Int × (Int × ((List Int) × (List Int))))))) := (t a_0 a_1 a_2 a_3 a_4 h0_1 h0_3 h0_4 h0_5 h1 h2 h3).run
def pA : Pt := (.cs (.ptr 0 0) (.cs .nilp (.cs (.agg (.cs (.int .i64) (.cs (.int .i64) (.cs (.int .i64) (.cs (.int .i64) (.cs (.sl 3) .nl)))))) .nl)))
def pH : Pt := (.cs (.var (.cs (.own 1) (.cs (.int .i64) (.cs (.own 2) (.cs (.int .i64) (.cs .bool (.cs (.int .i64) (.cs (.own 3) .nl)))))))) (.cs (.row 3 true) (.cs (.row 1 true) (.cs (.row 3 true) .nl))))
def v (l : TA) (y : ((Bool × (Int × (List Int))) ⊕ ((Bool × (Int × (Bool × (Int × (List Int))))) ⊕ (Bool × (Int × (Int × ((List Int) × (List Int)))))))) : AV U := (Sum.elim (fun a0 => .tup [.own 4, .im (.bool a0.1), .im (.int .i64 a0.2.1)]) (fun b0 => (Sum.elim (fun a1 => .tup [.own 4, .im (.bool a1.1), .im (.int .i64 a1.2.1)]) (fun b1 => .tup [.own 4, .im (.bool b1.1), .im (.int .i64 b1.2.1)]) b0)) y)
def hh (l : TA) (y : ((Bool × (Int × (List Int))) ⊕ ((Bool × (Int × (Bool × (Int × (List Int))))) ⊕ (Bool × (Int × (Int × ((List Int) × (List Int)))))))) : Hp U := (Sum.elim (fun a0 => [.var [.own 1, .im (.int .i64 l.2.1.2.1), .own 2, .im (.int .i64 l.2.1.2.2.2.1), .im (.bool l.2.1.2.2.2.2.1), .im (.int .i64 l.2.1.2.2.2.2.2.1), .own 3], .row 3 l.2.2.1 true, .row 1 l.2.2.2.1 true, .row 3 l.2.2.2.2.1 true, .row 3 a0.2.2 true]) (fun b0 => (Sum.elim (fun a1 => [.var [.own 1, .im (.int .i64 l.2.1.2.1), .own 2, .im (.int .i64 l.2.1.2.2.2.1), .im (.bool a1.2.2.1), .im (.int .i64 a1.2.2.2.1), .im .nils], .row 3 l.2.2.1 true, .row 1 l.2.2.2.1 true, .row 3 l.2.2.2.2.1 true, .row 3 a1.2.2.2.2 true]) (fun b1 => [.var [.own 1, .im (.int .i64 l.2.1.2.1), .own 2, .im (.int .i64 l.2.1.2.2.2.1), .im (.bool l.2.1.2.2.2.2.1), .im (.int .i64 b1.2.2.1), .own 5], .row 3 l.2.2.1 true, .row 1 l.2.2.2.1 true, .row 3 l.2.2.2.2.1 true, .row 3 b1.2.2.2.1 true, .row 3 b1.2.2.2.2 true]) b0)) y)
noncomputable def A : AFun U := mkA (U := U) pA pH (X := ((Bool × (Int × (List Int))) ⊕ ((Bool × (Int × (Bool × (Int × (List Int))))) ⊕ (Bool × (Int × (Int × ((List Int) × (List Int)))))))) (fun (l : TA) => c l.1.2.2.1.1 l.1.2.2.1.2.1 l.1.2.2.1.2.2.1 l.1.2.2.1.2.2.2.1 l.1.2.2.1.2.2.2.2.1 l.2.1.2.1 l.2.1.2.2.2.1 l.2.1.2.2.2.2.1 l.2.1.2.2.2.2.2.1 l.2.2.1 l.2.2.2.1 l.2.2.2.2.1) (spS (spS sp1)) v hh
noncomputable def body : Code := (Go.Func.body Try.f94).getD .skip
noncomputable def Γ : List (FuncId × AFun U) := [(56, flash_Flash_Power_v2.A), (55, flash_Flash_Arm_v2.A), (86, drive_Drive_Fresh_nil0.A), (85, drive_Drive_Clean_nil0.A), (83, drive_Drive_Blank_nil0.A), (84, drive_Drive_Write_nil0.A), (82, drive_Drive_Read_nil0.A)]
noncomputable def Λ : List (Nat × LFun U) := []
noncomputable def CT : List (Nat × LFun U) := []
def ro : List FuncId := []
def D : Nat → Lv × Lv := dtab []
noncomputable def E : Env U := { E0 with Γ := Γ, Λ := Λ, C := CT, D := D, ro := ro }
theorem hk (R : Type) (l : TA) (K : AV U → Hp U → Option R) : funcA E Try.f94 [(0, [], .own 3)] R (pA.mkL l.1) (pH.mkH l.2) K = (t l.1.2.2.1.1 l.1.2.2.1.2.1 l.1.2.2.1.2.2.1 l.1.2.2.1.2.2.2.1 l.1.2.2.1.2.2.2.2.1 l.2.1.2.1 l.2.1.2.2.2.1 l.2.1.2.2.2.2.1 l.2.1.2.2.2.2.2.1 l.2.2.1 l.2.2.2.1 l.2.2.2.2.1).runK fun y => K (v l y) (hh l y) := by kernel_rfl
theorem okF : SoundF Try.prog cc 94 (funcA E Try.f94 [(0, [], .own 3)]) :=
  funcA_ok (E := E) P_mixed (E0_ok.with Γ Λ CT D ro) (gam_of (all_cons ⟨flash_Flash_Power_v2.ok, ⟨Try.f56, Try.func56, by kernel_rfl, by kernel_rfl⟩⟩ (all_cons ⟨flash_Flash_Arm_v2.ok, ⟨Try.f55, Try.func55, by kernel_rfl, by kernel_rfl⟩⟩ (all_cons ⟨drive_Drive_Fresh_nil0.ok, ⟨Try.f86, Try.func86, by kernel_rfl, by kernel_rfl⟩⟩ (all_cons ⟨drive_Drive_Clean_nil0.ok, ⟨Try.f85, Try.func85, by kernel_rfl, by kernel_rfl⟩⟩ (all_cons ⟨drive_Drive_Blank_nil0.ok, ⟨Try.f83, Try.func83, by kernel_rfl, by kernel_rfl⟩⟩ (all_cons ⟨drive_Drive_Write_nil0.ok, ⟨Try.f84, Try.func84, by kernel_rfl, by kernel_rfl⟩⟩ (all_cons ⟨drive_Drive_Read_nil0.ok, ⟨Try.f82, Try.func82, by kernel_rfl, by kernel_rfl⟩⟩ all_nil))))))) (all_cons (no_keep (by kernel_rfl)) (all_cons (no_keep (by kernel_rfl)) (all_cons (no_keep (by kernel_rfl)) (all_cons (no_keep (by kernel_rfl)) (all_cons (no_keep (by kernel_rfl)) (all_cons (no_keep (by kernel_rfl)) (all_cons (no_keep (by kernel_rfl)) all_nil)))))))) Try.func94 (c := body) (by kernel_rfl)
    (just_by (by kernel_rfl) (by kernel_rfl) all_nil all_nil) [(0, [], .own 3)]
theorem ok : SoundF Try.prog cc 94 A :=
  mkA_ok (E := E) (p := pA) (q := pH) (t := fun (l : TA) => t l.1.2.2.1.1 l.1.2.2.1.2.1 l.1.2.2.1.2.2.1 l.1.2.2.1.2.2.2.1 l.1.2.2.1.2.2.2.2.1 l.2.1.2.1 l.2.1.2.2.2.1 l.2.1.2.2.2.2.1 l.2.1.2.2.2.2.2.1 l.2.2.1 l.2.2.2.1 l.2.2.2.2.1) (spS_ok (spS_ok sp1_ok)) hk okF
end law09_do_nil1

/-! instar/instarlaw09.do -/
namespace law09_do_nil1_v2
abbrev TA : Type := ((Unit × (Unit × ((Int × (Int × (Int × (Int × ((List Int) × Unit))))) × Unit))) × ((Unit × (Int × (Unit × (Int × (Bool × (Int × (Unit × Unit))))))) × ((List Int) × ((List Int) × Unit))))
noncomputable def t (a_0 : Int) (a_1 : Int) (a_2 : Int) (a_3 : Int) (a_4 : (List Int)) (h0_1 : Int) (h0_3 : Int) (h0_4 : Bool) (h0_5 : Int) (h1 : (List Int)) (h2 : (List Int)) : Tw ((Bool × (Int × (Bool × (Int × (List Int))))) ⊕ (Bool × (Int × (Int × ((List Int) × (List Int)))))) :=
 (.bb (a_0 == (0 : Int))
  (.opt (drive_Drive_Read_nil0.c a_1 a_2 a_3) fun z13 =>
   (.ret (.inl (false, (z13.1, (h0_4, (h0_5, z13.2)))))))
  (.bb (a_0 == (1 : Int))
   (.bb (a_0 == (1 : Int))
    (.opt (drive_Drive_Write_nil0.c a_1 a_2 a_4) fun z12 =>
     (.ret (.inl (false, (z12, (h0_4, (h0_5, ([] : List Int))))))))
    (.bb (a_0 == (3 : Int))
     (.opt (drive_Drive_Blank_nil0.c a_1 a_2) fun z11 =>
      (.ret (.inl (z11.1, (z11.2, (h0_4, (h0_5, ([] : List Int))))))))
     (.bb (a_0 == (4 : Int))
      (.opt (drive_Drive_Clean_nil0.c a_1) fun z10 =>
       (.ret (.inl (false, (z10, (h0_4, (h0_5, ([] : List Int))))))))
      (.bb (a_0 == (5 : Int))
       (.opt (drive_Drive_Fresh_nil0.c a_1 a_4) fun z9 =>
        (.ret (.inl (false, (z9, (h0_4, (h0_5, ([] : List Int))))))))
       (.bb (a_0 == (6 : Int))
        (.opt (flash_Flash_Arm.c a_3 a_4 h0_1 h0_3 h0_4 h0_5 h1 h2) fun z8 =>
         (.ret (.inr (false, ((0 : Int), (z8.1, (([] : List Int), z8.2)))))))
        (.bb (a_0 == (7 : Int))
         (.opt (flash_Flash_Power.c h0_1 h0_3 h0_4 h0_5 h1 h2) fun z7 =>
          (.ret (.inl (false, ((0 : Int), (z7.1, (z7.2, ([] : List Int))))))))
         (.ret (.inl (false, ((0 : Int), (h0_4, (h0_5, ([] : List Int)))))))))))))
   (.bb (a_0 == (2 : Int))
    (.opt (drive_Drive_Write_nil0.c a_1 a_2 a_4) fun z6 =>
     (.ret (.inl (false, (z6, (h0_4, (h0_5, ([] : List Int))))))))
    (.bb (a_0 == (3 : Int))
     (.opt (drive_Drive_Blank_nil0.c a_1 a_2) fun z5 =>
      (.ret (.inl (z5.1, (z5.2, (h0_4, (h0_5, ([] : List Int))))))))
     (.bb (a_0 == (4 : Int))
      (.opt (drive_Drive_Clean_nil0.c a_1) fun z4 =>
       (.ret (.inl (false, (z4, (h0_4, (h0_5, ([] : List Int))))))))
      (.bb (a_0 == (5 : Int))
       (.opt (drive_Drive_Fresh_nil0.c a_1 a_4) fun z3 =>
        (.ret (.inl (false, (z3, (h0_4, (h0_5, ([] : List Int))))))))
       (.bb (a_0 == (6 : Int))
        (.opt (flash_Flash_Arm.c a_3 a_4 h0_1 h0_3 h0_4 h0_5 h1 h2) fun z2 =>
         (.ret (.inr (false, ((0 : Int), (z2.1, (([] : List Int), z2.2)))))))
        (.bb (a_0 == (7 : Int))
         (.opt (flash_Flash_Power.c h0_1 h0_3 h0_4 h0_5 h1 h2) fun z1 =>
          (.ret (.inl (false, ((0 : Int), (z1.1, (z1.2, ([] : List Int))))))))
         (.ret (.inl (false, ((0 : Int), (h0_4, (h0_5, ([] : List Int)))))))))))))))
noncomputable def c (a_0 : Int) (a_1 : Int) (a_2 : Int) (a_3 : Int) (a_4 : (List Int)) (h0_1 : Int) (h0_3 : Int) (h0_4 : Bool) (h0_5 : Int) (h1 : (List Int)) (h2 : (List Int)) : Option ((Bool × (Int × (Bool × (Int × (List Int))))) ⊕ (Bool × (Int × (Int × ((List Int) × (List Int)))))) := (t a_0 a_1 a_2 a_3 a_4 h0_1 h0_3 h0_4 h0_5 h1 h2).run
def pA : Pt := (.cs (.ptr 0 0) (.cs .nilp (.cs (.agg (.cs (.int .i64) (.cs (.int .i64) (.cs (.int .i64) (.cs (.int .i64) (.cs (.sl 3) .nl)))))) .nl)))
def pH : Pt := (.cs (.var (.cs (.own 1) (.cs (.int .i64) (.cs (.own 2) (.cs (.int .i64) (.cs .bool (.cs (.int .i64) (.cs .nils .nl)))))))) (.cs (.row 3 true) (.cs (.row 1 true) .nl)))
def v (l : TA) (y : ((Bool × (Int × (Bool × (Int × (List Int))))) ⊕ (Bool × (Int × (Int × ((List Int) × (List Int))))))) : AV U := (Sum.elim (fun a0 => .tup [.own 3, .im (.bool a0.1), .im (.int .i64 a0.2.1)]) (fun b0 => .tup [.own 3, .im (.bool b0.1), .im (.int .i64 b0.2.1)]) y)
def hh (l : TA) (y : ((Bool × (Int × (Bool × (Int × (List Int))))) ⊕ (Bool × (Int × (Int × ((List Int) × (List Int))))))) : Hp U := (Sum.elim (fun a0 => [.var [.own 1, .im (.int .i64 l.2.1.2.1), .own 2, .im (.int .i64 l.2.1.2.2.2.1), .im (.bool a0.2.2.1), .im (.int .i64 a0.2.2.2.1), .im .nils], .row 3 l.2.2.1 true, .row 1 l.2.2.2.1 true, .row 3 a0.2.2.2.2 true]) (fun b0 => [.var [.own 1, .im (.int .i64 l.2.1.2.1), .own 2, .im (.int .i64 l.2.1.2.2.2.1), .im (.bool l.2.1.2.2.2.2.1), .im (.int .i64 b0.2.2.1), .own 4], .row 3 l.2.2.1 true, .row 1 l.2.2.2.1 true, .row 3 b0.2.2.2.1 true, .row 3 b0.2.2.2.2 true]) y)
noncomputable def A : AFun U := mkA (U := U) pA pH (X := ((Bool × (Int × (Bool × (Int × (List Int))))) ⊕ (Bool × (Int × (Int × ((List Int) × (List Int))))))) (fun (l : TA) => c l.1.2.2.1.1 l.1.2.2.1.2.1 l.1.2.2.1.2.2.1 l.1.2.2.1.2.2.2.1 l.1.2.2.1.2.2.2.2.1 l.2.1.2.1 l.2.1.2.2.2.1 l.2.1.2.2.2.2.1 l.2.1.2.2.2.2.2.1 l.2.2.1 l.2.2.2.1) (spS sp1) v hh
noncomputable def body : Code := (Go.Func.body Try.f94).getD .skip
noncomputable def Γ : List (FuncId × AFun U) := [(56, flash_Flash_Power.A), (55, flash_Flash_Arm.A), (86, drive_Drive_Fresh_nil0.A), (85, drive_Drive_Clean_nil0.A), (83, drive_Drive_Blank_nil0.A), (84, drive_Drive_Write_nil0.A), (82, drive_Drive_Read_nil0.A)]
noncomputable def Λ : List (Nat × LFun U) := []
noncomputable def CT : List (Nat × LFun U) := []
def ro : List FuncId := []
def D : Nat → Lv × Lv := dtab []
noncomputable def E : Env U := { E0 with Γ := Γ, Λ := Λ, C := CT, D := D, ro := ro }
theorem hk (R : Type) (l : TA) (K : AV U → Hp U → Option R) : funcA E Try.f94 [(0, [], .own 3)] R (pA.mkL l.1) (pH.mkH l.2) K = (t l.1.2.2.1.1 l.1.2.2.1.2.1 l.1.2.2.1.2.2.1 l.1.2.2.1.2.2.2.1 l.1.2.2.1.2.2.2.2.1 l.2.1.2.1 l.2.1.2.2.2.1 l.2.1.2.2.2.2.1 l.2.1.2.2.2.2.2.1 l.2.2.1 l.2.2.2.1).runK fun y => K (v l y) (hh l y) := by kernel_rfl
theorem okF : SoundF Try.prog cc 94 (funcA E Try.f94 [(0, [], .own 3)]) :=
  funcA_ok (E := E) P_mixed (E0_ok.with Γ Λ CT D ro) (gam_of (all_cons ⟨flash_Flash_Power.ok, ⟨Try.f56, Try.func56, by kernel_rfl, by kernel_rfl⟩⟩ (all_cons ⟨flash_Flash_Arm.ok, ⟨Try.f55, Try.func55, by kernel_rfl, by kernel_rfl⟩⟩ (all_cons ⟨drive_Drive_Fresh_nil0.ok, ⟨Try.f86, Try.func86, by kernel_rfl, by kernel_rfl⟩⟩ (all_cons ⟨drive_Drive_Clean_nil0.ok, ⟨Try.f85, Try.func85, by kernel_rfl, by kernel_rfl⟩⟩ (all_cons ⟨drive_Drive_Blank_nil0.ok, ⟨Try.f83, Try.func83, by kernel_rfl, by kernel_rfl⟩⟩ (all_cons ⟨drive_Drive_Write_nil0.ok, ⟨Try.f84, Try.func84, by kernel_rfl, by kernel_rfl⟩⟩ (all_cons ⟨drive_Drive_Read_nil0.ok, ⟨Try.f82, Try.func82, by kernel_rfl, by kernel_rfl⟩⟩ all_nil))))))) (all_cons (no_keep (by kernel_rfl)) (all_cons (no_keep (by kernel_rfl)) (all_cons (no_keep (by kernel_rfl)) (all_cons (no_keep (by kernel_rfl)) (all_cons (no_keep (by kernel_rfl)) (all_cons (no_keep (by kernel_rfl)) (all_cons (no_keep (by kernel_rfl)) all_nil)))))))) Try.func94 (c := body) (by kernel_rfl)
    (just_by (by kernel_rfl) (by kernel_rfl) all_nil all_nil) [(0, [], .own 3)]
theorem ok : SoundF Try.prog cc 94 A :=
  mkA_ok (E := E) (p := pA) (q := pH) (t := fun (l : TA) => t l.1.2.2.1.1 l.1.2.2.1.2.1 l.1.2.2.1.2.2.1 l.1.2.2.1.2.2.2.1 l.1.2.2.1.2.2.2.2.1 l.2.1.2.1 l.2.1.2.2.2.1 l.2.1.2.2.2.2.1 l.2.1.2.2.2.2.2.1 l.2.2.1 l.2.2.2.1) (spS_ok sp1_ok) hk okF
end law09_do_nil1_v2

/-! instar/instarlaw09.do -/
namespace law09_do_nil0_nil1
abbrev TA : Type := ((Unit × (Unit × ((Int × (Int × (Int × (Int × ((List Int) × Unit))))) × Unit))) × Unit)
noncomputable def t (a_0 : Int) (a_1 : Int) (a_2 : Int) (a_3 : Int) (a_4 : (List Int)) : Tw (Bool × (Int × (List Int))) :=
 (.bb (a_0 == (0 : Int))
  (.opt (drive_Drive_Read_nil0.c a_1 a_2 a_3) fun z13 =>
   (.ret (false, (z13.1, z13.2))))
  (.bb (a_0 == (1 : Int))
   (.bb (a_0 == (1 : Int))
    (.opt (drive_Drive_Write_nil0.c a_1 a_2 a_4) fun z12 =>
     (.ret (false, (z12, ([] : List Int)))))
    (.bb (a_0 == (3 : Int))
     (.opt (drive_Drive_Blank_nil0.c a_1 a_2) fun z11 =>
      (.ret (z11.1, (z11.2, ([] : List Int)))))
     (.bb (a_0 == (4 : Int))
      (.opt (drive_Drive_Clean_nil0.c a_1) fun z10 =>
       (.ret (false, (z10, ([] : List Int)))))
      (.bb (a_0 == (5 : Int))
       (.opt (drive_Drive_Fresh_nil0.c a_1 a_4) fun z9 =>
        (.ret (false, (z9, ([] : List Int)))))
       (.bb (a_0 == (6 : Int))
        (.opt (flash_Flash_Arm_nil0.c a_3 a_4) fun z8 =>
         (.ret (false, ((0 : Int), ([] : List Int)))))
        (.bb (a_0 == (7 : Int))
         (.opt (flash_Flash_Power_nil0.c) fun z7 =>
          (.ret (false, ((0 : Int), ([] : List Int)))))
         (.ret (false, ((0 : Int), ([] : List Int))))))))))
   (.bb (a_0 == (2 : Int))
    (.opt (drive_Drive_Write_nil0.c a_1 a_2 a_4) fun z6 =>
     (.ret (false, (z6, ([] : List Int)))))
    (.bb (a_0 == (3 : Int))
     (.opt (drive_Drive_Blank_nil0.c a_1 a_2) fun z5 =>
      (.ret (z5.1, (z5.2, ([] : List Int)))))
     (.bb (a_0 == (4 : Int))
      (.opt (drive_Drive_Clean_nil0.c a_1) fun z4 =>
       (.ret (false, (z4, ([] : List Int)))))
      (.bb (a_0 == (5 : Int))
       (.opt (drive_Drive_Fresh_nil0.c a_1 a_4) fun z3 =>
        (.ret (false, (z3, ([] : List Int)))))
       (.bb (a_0 == (6 : Int))
        (.opt (flash_Flash_Arm_nil0.c a_3 a_4) fun z2 =>
         (.ret (false, ((0 : Int), ([] : List Int)))))
        (.bb (a_0 == (7 : Int))
         (.opt (flash_Flash_Power_nil0.c) fun z1 =>
          (.ret (false, ((0 : Int), ([] : List Int)))))
         (.ret (false, ((0 : Int), ([] : List Int))))))))))))
noncomputable def c (a_0 : Int) (a_1 : Int) (a_2 : Int) (a_3 : Int) (a_4 : (List Int)) : Option (Bool × (Int × (List Int))) := (t a_0 a_1 a_2 a_3 a_4).run
def pA : Pt := (.cs .nilp (.cs .nilp (.cs (.agg (.cs (.int .i64) (.cs (.int .i64) (.cs (.int .i64) (.cs (.int .i64) (.cs (.sl 3) .nl)))))) .nl)))
def pH : Pt := .nl
def v (l : TA) (y : (Bool × (Int × (List Int)))) : AV U := .tup [.own 0, .im (.bool y.1), .im (.int .i64 y.2.1)]
def hh (l : TA) (y : (Bool × (Int × (List Int)))) : Hp U := [.row 3 y.2.2 true]
noncomputable def A : AFun U := mkA (U := U) pA pH (X := (Bool × (Int × (List Int)))) (fun (l : TA) => c l.1.2.2.1.1 l.1.2.2.1.2.1 l.1.2.2.1.2.2.1 l.1.2.2.1.2.2.2.1 l.1.2.2.1.2.2.2.2.1) sp1 v hh
noncomputable def body : Code := (Go.Func.body Try.f94).getD .skip
noncomputable def Γ : List (FuncId × AFun U) := [(56, flash_Flash_Power_nil0.A), (55, flash_Flash_Arm_nil0.A), (86, drive_Drive_Fresh_nil0.A), (85, drive_Drive_Clean_nil0.A), (83, drive_Drive_Blank_nil0.A), (84, drive_Drive_Write_nil0.A), (82, drive_Drive_Read_nil0.A)]
noncomputable def Λ : List (Nat × LFun U) := []
noncomputable def CT : List (Nat × LFun U) := []
def ro : List FuncId := []
def D : Nat → Lv × Lv := dtab []
noncomputable def E : Env U := { E0 with Γ := Γ, Λ := Λ, C := CT, D := D, ro := ro }
theorem hk (R : Type) (l : TA) (K : AV U → Hp U → Option R) : funcA E Try.f94 [(0, [], .own 3)] R (pA.mkL l.1) (pH.mkH l.2) K = (t l.1.2.2.1.1 l.1.2.2.1.2.1 l.1.2.2.1.2.2.1 l.1.2.2.1.2.2.2.1 l.1.2.2.1.2.2.2.2.1).runK fun y => K (v l y) (hh l y) := by kernel_rfl
theorem okF : SoundF Try.prog cc 94 (funcA E Try.f94 [(0, [], .own 3)]) :=
  funcA_ok (E := E) P_mixed (E0_ok.with Γ Λ CT D ro) (gam_of (all_cons ⟨flash_Flash_Power_nil0.ok, ⟨Try.f56, Try.func56, by kernel_rfl, by kernel_rfl⟩⟩ (all_cons ⟨flash_Flash_Arm_nil0.ok, ⟨Try.f55, Try.func55, by kernel_rfl, by kernel_rfl⟩⟩ (all_cons ⟨drive_Drive_Fresh_nil0.ok, ⟨Try.f86, Try.func86, by kernel_rfl, by kernel_rfl⟩⟩ (all_cons ⟨drive_Drive_Clean_nil0.ok, ⟨Try.f85, Try.func85, by kernel_rfl, by kernel_rfl⟩⟩ (all_cons ⟨drive_Drive_Blank_nil0.ok, ⟨Try.f83, Try.func83, by kernel_rfl, by kernel_rfl⟩⟩ (all_cons ⟨drive_Drive_Write_nil0.ok, ⟨Try.f84, Try.func84, by kernel_rfl, by kernel_rfl⟩⟩ (all_cons ⟨drive_Drive_Read_nil0.ok, ⟨Try.f82, Try.func82, by kernel_rfl, by kernel_rfl⟩⟩ all_nil))))))) (all_cons (no_keep (by kernel_rfl)) (all_cons (no_keep (by kernel_rfl)) (all_cons (no_keep (by kernel_rfl)) (all_cons (no_keep (by kernel_rfl)) (all_cons (no_keep (by kernel_rfl)) (all_cons (no_keep (by kernel_rfl)) (all_cons (no_keep (by kernel_rfl)) all_nil)))))))) Try.func94 (c := body) (by kernel_rfl)
    (just_by (by kernel_rfl) (by kernel_rfl) all_nil all_nil) [(0, [], .own 3)]
theorem ok : SoundF Try.prog cc 94 A :=
  mkA_ok (E := E) (p := pA) (q := pH) (t := fun (l : TA) => t l.1.2.2.1.1 l.1.2.2.1.2.1 l.1.2.2.1.2.2.1 l.1.2.2.1.2.2.2.1 l.1.2.2.1.2.2.2.2.1) sp1_ok hk okF
theorem keep : KeepA A := mkA_keep (U := U) sp1_ok (fun (l : TA) y => ⟨(hh l y).drop 0, by kernel_rfl⟩)
end law09_do_nil0_nil1

end Go.Proofs.Ytpidbpmkogbdeaa.Va
