/- The functions of package law07, as plain functions, and that the program computes them. Printed by a program of this work out of the evaluator. -/
import Derived.Test.YtpidbpmkogbdeaaEn
import Derived.Tactics
import Derived.Test.YtpidbpmkogbdeaaFflash
namespace Go.Proofs.Ytpidbpmkogbdeaa.Va
open Go
set_option linter.unusedVariables false
set_option maxRecDepth 100000

/-! instar/instarlaw07.great -/
namespace law07_great
abbrev TA : Type := (((List Act7) × Unit) × Unit)
abbrev T2 : Type := (((List Act7) × (Unit × (Int × (Unit × Unit)))) × Unit)
noncomputable def l2 (l_ : (List Act7)) (i : Int) : Tw (Int ⊕ (Unit ⊕ Bool)) :=
 (.bb (decide (i < (((List.length l_) : Nat) : Int)))
  (.bb (decide (i < (101 : Int)))
   (.dd (((0 : Int) ≤ i)) inferInstance
    (.opt (l_)[(Int.toNat i)]? fun z1 =>
     (.bb (decide ((((List.length z1.masks) : Nat) : Int) > (100 : Int)))
      (.ret (.inr (.inr true)))
      (.ret (.inl (w64 (i + (1 : Int)))))))
    .no)
   (.ret (.inr (.inl ()))))
  (.ret (.inr (.inl ()))))
noncomputable def L2 (l_ : (List Act7)) (i : Int) : Option (Unit ⊕ Bool) := Lp (fun s => (l2 l_ s).run) i
def p2 : Pt := (.cs (.sl 20) (.cs (.bots 2) (.cs (.int .i64) (.cs (.bots 20) .nl))))
def q2 : Pt := .nl
def ou2 (l : T2) (y : (Unit ⊕ Bool)) : Ex × St U := (Sum.elim (fun a0 => (.exit 0, stOf 24 [(0, .im (.slice 20 l.1.1))] [] 0)) (fun b0 => (.ret, stOf 24 [(0, .im (.slice 20 l.1.1)), (2, .im (.bool b0))] [] 0)) y)
noncomputable def Λ2 : LFun U := mkLp (U := U) p2 q2 0 (X := (Unit ⊕ Bool)) (fun (l : T2) => L2 l.1.1 l.1.2.2.1) (spS sp1) ou2
noncomputable def t (l_ : (List Act7)) : Tw Bool :=
 (.opt (L2 l_ (0 : Int)) fun z2 =>
  (.sm z2
   (fun z3 => (.ret (decide ((((List.length l_) : Nat) : Int) > (100 : Int)))))
   (fun z4 => (.ret z4))))
noncomputable def c (l_ : (List Act7)) : Option Bool := (t l_).run
def pA : Pt := (.cs (.sl 20) .nl)
def pH : Pt := .nl
def v (l : TA) (y : Bool) : AV U := .im (.bool y)
def hh (l : TA) (y : Bool) : Hp U := []
noncomputable def A : AFun U := mkA (U := U) pA pH (X := Bool) (fun (l : TA) => c l.1.1) sp1 v hh
noncomputable def body : Code := (Go.Func.body Try.f30).getD .skip
noncomputable def Γ : List (FuncId × AFun U) := []
noncomputable def Λ : List (Nat × LFun U) := [(2, Λ2)]
noncomputable def CT : List (Nat × LFun U) := []
def ro : List FuncId := []
def D : Nat → Lv × Lv := dtab [(2, ⟨[3, 0], []⟩, ⟨[2, 0], []⟩)]
noncomputable def E : Env U := { E0 with Γ := Γ, Λ := Λ, C := CT, D := D, ro := ro }
theorem hf2 (R : Type) (l : T2) (s : Int) (K : Ex → St U → Option R) : codeA E (pick (loopsOf body) 2) ⟨p2.mkL (((l.1.1, ((), (s, ((), ())))), ()) : T2).1, q2.mkH (((l.1.1, ((), (s, ((), ())))), ()) : T2).2, 0⟩ (roundK E (pick (loopsOf body) 2) K) =
  (l2 l.1.1 s).runK (lpK K (fun s => ⟨p2.mkL (((l.1.1, ((), (s, ((), ())))), ()) : T2).1, q2.mkH (((l.1.1, ((), (s, ((), ())))), ()) : T2).2, 0⟩) (spS sp1) (ou2 l)) := by kernel_rfl
theorem lk2 (R : Type) (st : St U) (K : Ex → St U → Option R) (r : R) (h : Λ2 R st K = some r) : ∃ n, loopA E (pick (loopsOf body) 2) n st K = some r :=
  lp_ok (U := U) (E := E) (b := pick (loopsOf body) 2) (m := 0) (sp := (spS sp1)) (p := p2) (q := q2) (X := (Unit ⊕ Bool)) (S := Int) (f := fun (l : T2) s => l2 l.1.1 s) (hd := fun (l : T2) s => ((l.1.1, ((), (s, ((), ())))), ())) (s0 := fun (l : T2) => l.1.2.2.1) (ou := ou2)
    (fun l => rfl) (fun l x => by repeat' (first | rfl | (cases x with | inl => rfl | inr x => ?_))) (spS_ok sp1_ok) hf2 h
theorem hk (R : Type) (l : TA) (K : AV U → Hp U → Option R) : funcA E Try.f30 [] R (pA.mkL l.1) (pH.mkH l.2) K = (t l.1.1).runK fun y => K (v l y) (hh l y) := by kernel_rfl
theorem okF : SoundF Try.prog cc 30 (funcA E Try.f30 []) :=
  funcA_ok (E := E) P_mixed (E0_ok.with Γ Λ CT D ro) (gam_of all_nil all_nil) Try.func30 (c := body) (by kernel_rfl)
    (just_by (by kernel_rfl) (by kernel_rfl) (all_cons lk2 all_nil) all_nil) []
theorem ok : SoundF Try.prog cc 30 A :=
  mkA_ok (E := E) (p := pA) (q := pH) (t := fun (l : TA) => t l.1.1) sp1_ok hk okF
theorem keep : KeepA A := mkA_keep (U := U) sp1_ok (fun (l : TA) y => ⟨(hh l y).drop 0, by kernel_rfl⟩)
end law07_great

/-! instar/instarlaw07.do -/
namespace law07_do_v2
abbrev TA : Type := ((Unit × ((Int × (Int × (Int × ((List Int) × Unit)))) × Unit)) × ((Unit × (Int × (Unit × (Int × (Bool × (Int × (Unit × Unit))))))) × ((List Int) × ((List Int) × ((List Int) × Unit)))))
noncomputable def t (a_0 : Int) (a_1 : Int) (a_2 : Int) (a_3 : (List Int)) (h0_1 : Int) (h0_3 : Int) (h0_4 : Bool) (h0_5 : Int) (h1 : (List Int)) (h2 : (List Int)) (h3 : (List Int)) : Tw ((Int × (Int × (Int × (Bool × (Int × ((List Int) × (List Int))))))) ⊕ ((Int × (Int × (Bool × Int))) ⊕ (Int × (Int × (Int × (List Int)))))) :=
 (.bb (a_0 == (2 : Int))
  (.opt (flash_Flash_Erase_v2.c a_1 h0_1 h0_3 h0_4 h0_5 h1 h2 h3) fun z6 =>
   (.ret (.inl ((0 : Int), (z6.1, (z6.2.1, (z6.2.2.1, (z6.2.2.2.1, (z6.2.2.2.2.1, z6.2.2.2.2.2)))))))))
  (.bb (a_0 == (3 : Int))
   (.opt (flash_Flash_Read_v2.c a_1 h0_1 h0_3 h0_4 h0_5 h1 h2 h3) fun z5 =>
    (.ret (.inl (z5.1, (z5.2, (h0_3, (h0_4, (h0_5, (h1, h2)))))))))
   (.bb (a_0 == (4 : Int))
    (.opt (flash_Flash_Arm_v2.c a_1 a_3 h0_1 h0_3 h0_4 h0_5 h1 h2 h3) fun z4 =>
     (.ret (.inr (.inr ((0 : Int), ((0 : Int), (z4.1, z4.2)))))))
    (.bb (a_0 == (5 : Int))
     (.opt (flash_Flash_Power_v2.c h0_1 h0_3 h0_4 h0_5 h1 h2 h3) fun z3 =>
      (.ret (.inr (.inl ((0 : Int), ((0 : Int), (z3.1, z3.2)))))))
     (.bb (a_0 == (0 : Int))
      (.bb (a_0 == (0 : Int))
       (.opt (flash_Flash_Program_v2.c a_1 a_2 h0_1 h0_3 h0_4 h0_5 h1 h2 h3) fun z2 =>
        (.ret (.inl ((0 : Int), (z2.1, (z2.2.1, (z2.2.2.1, (z2.2.2.2.1, (z2.2.2.2.2, h2)))))))))
       (.ret (.inl ((0 : Int), ((0 : Int), (h0_3, (h0_4, (h0_5, (h1, h2)))))))))
      (.bb (a_0 == (1 : Int))
       (.opt (flash_Flash_Program_v2.c a_1 a_2 h0_1 h0_3 h0_4 h0_5 h1 h2 h3) fun z1 =>
        (.ret (.inl ((0 : Int), (z1.1, (z1.2.1, (z1.2.2.1, (z1.2.2.2.1, (z1.2.2.2.2, h2)))))))))
       (.ret (.inl ((0 : Int), ((0 : Int), (h0_3, (h0_4, (h0_5, (h1, h2))))))))))))))
noncomputable def c (a_0 : Int) (a_1 : Int) (a_2 : Int) (a_3 : (List Int)) (h0_1 : Int) (h0_3 : Int) (h0_4 : Bool) (h0_5 : Int) (h1 : (List Int)) (h2 : (List Int)) (h3 : (List Int)) : Option ((Int × (Int × (Int × (Bool × (Int × ((List Int) × (List Int))))))) ⊕ ((Int × (Int × (Bool × Int))) ⊕ (Int × (Int × (Int × (List Int)))))) := (t a_0 a_1 a_2 a_3 h0_1 h0_3 h0_4 h0_5 h1 h2 h3).run
def pA : Pt := (.cs (.ptr 0 0) (.cs (.agg (.cs (.int .i64) (.cs (.int .i64) (.cs (.int .u32) (.cs (.sl 3) .nl))))) .nl))
def pH : Pt := (.cs (.var (.cs (.own 1) (.cs (.int .i64) (.cs (.own 2) (.cs (.int .i64) (.cs .bool (.cs (.int .i64) (.cs (.own 3) .nl)))))))) (.cs (.row 3 true) (.cs (.row 1 true) (.cs (.row 3 true) .nl))))
def v (l : TA) (y : ((Int × (Int × (Int × (Bool × (Int × ((List Int) × (List Int))))))) ⊕ ((Int × (Int × (Bool × Int))) ⊕ (Int × (Int × (Int × (List Int))))))) : AV U := (Sum.elim (fun a0 => .tup [.im (.int .u32 a0.1), .im (.int .i64 a0.2.1)]) (fun b0 => (Sum.elim (fun a1 => .tup [.im (.int .u32 a1.1), .im (.int .i64 a1.2.1)]) (fun b1 => .tup [.im (.int .u32 b1.1), .im (.int .i64 b1.2.1)]) b0)) y)
def hh (l : TA) (y : ((Int × (Int × (Int × (Bool × (Int × ((List Int) × (List Int))))))) ⊕ ((Int × (Int × (Bool × Int))) ⊕ (Int × (Int × (Int × (List Int))))))) : Hp U := (Sum.elim (fun a0 => [.var [.own 1, .im (.int .i64 l.2.1.2.1), .own 2, .im (.int .i64 a0.2.2.1), .im (.bool a0.2.2.2.1), .im (.int .i64 a0.2.2.2.2.1), .own 3], .row 3 a0.2.2.2.2.2.1 true, .row 1 a0.2.2.2.2.2.2 true, .row 3 l.2.2.2.2.1 true]) (fun b0 => (Sum.elim (fun a1 => [.var [.own 1, .im (.int .i64 l.2.1.2.1), .own 2, .im (.int .i64 l.2.1.2.2.2.1), .im (.bool a1.2.2.1), .im (.int .i64 a1.2.2.2), .im .nils], .row 3 l.2.2.1 true, .row 1 l.2.2.2.1 true, .row 3 l.2.2.2.2.1 true]) (fun b1 => [.var [.own 1, .im (.int .i64 l.2.1.2.1), .own 2, .im (.int .i64 l.2.1.2.2.2.1), .im (.bool l.2.1.2.2.2.2.1), .im (.int .i64 b1.2.2.1), .own 4], .row 3 l.2.2.1 true, .row 1 l.2.2.2.1 true, .row 3 l.2.2.2.2.1 true, .row 3 b1.2.2.2 true]) b0)) y)
noncomputable def A : AFun U := mkA (U := U) pA pH (X := ((Int × (Int × (Int × (Bool × (Int × ((List Int) × (List Int))))))) ⊕ ((Int × (Int × (Bool × Int))) ⊕ (Int × (Int × (Int × (List Int))))))) (fun (l : TA) => c l.1.2.1.1 l.1.2.1.2.1 l.1.2.1.2.2.1 l.1.2.1.2.2.2.1 l.2.1.2.1 l.2.1.2.2.2.1 l.2.1.2.2.2.2.1 l.2.1.2.2.2.2.2.1 l.2.2.1 l.2.2.2.1 l.2.2.2.2.1) (spS (spS sp1)) v hh
noncomputable def body : Code := (Go.Func.body Try.f33).getD .skip
noncomputable def Γ : List (FuncId × AFun U) := [(57, flash_Flash_Program_v2.A), (56, flash_Flash_Power_v2.A), (55, flash_Flash_Arm_v2.A), (54, flash_Flash_Read_v2.A), (49, flash_Flash_Erase_v2.A)]
noncomputable def Λ : List (Nat × LFun U) := []
noncomputable def CT : List (Nat × LFun U) := []
def ro : List FuncId := [54]
def D : Nat → Lv × Lv := dtab []
noncomputable def E : Env U := { E0 with Γ := Γ, Λ := Λ, C := CT, D := D, ro := ro }
theorem hk (R : Type) (l : TA) (K : AV U → Hp U → Option R) : funcA E Try.f33 [] R (pA.mkL l.1) (pH.mkH l.2) K = (t l.1.2.1.1 l.1.2.1.2.1 l.1.2.1.2.2.1 l.1.2.1.2.2.2.1 l.2.1.2.1 l.2.1.2.2.2.1 l.2.1.2.2.2.2.1 l.2.1.2.2.2.2.2.1 l.2.2.1 l.2.2.2.1 l.2.2.2.2.1).runK fun y => K (v l y) (hh l y) := by kernel_rfl
theorem okF : SoundF Try.prog cc 33 (funcA E Try.f33 []) :=
  funcA_ok (E := E) P_mixed (E0_ok.with Γ Λ CT D ro) (gam_of (all_cons ⟨flash_Flash_Program_v2.ok, ⟨Try.f57, Try.func57, by kernel_rfl, by kernel_rfl⟩⟩ (all_cons ⟨flash_Flash_Power_v2.ok, ⟨Try.f56, Try.func56, by kernel_rfl, by kernel_rfl⟩⟩ (all_cons ⟨flash_Flash_Arm_v2.ok, ⟨Try.f55, Try.func55, by kernel_rfl, by kernel_rfl⟩⟩ (all_cons ⟨flash_Flash_Read_v2.ok, ⟨Try.f54, Try.func54, by kernel_rfl, by kernel_rfl⟩⟩ (all_cons ⟨flash_Flash_Erase_v2.ok, ⟨Try.f49, Try.func49, by kernel_rfl, by kernel_rfl⟩⟩ all_nil))))) (all_cons (no_keep (by kernel_rfl)) (all_cons (no_keep (by kernel_rfl)) (all_cons (no_keep (by kernel_rfl)) (all_cons (fun _ => flash_Flash_Read_v2.keep) (all_cons (no_keep (by kernel_rfl)) all_nil)))))) Try.func33 (c := body) (by kernel_rfl)
    (just_by (by kernel_rfl) (by kernel_rfl) all_nil all_nil) []
theorem ok : SoundF Try.prog cc 33 A :=
  mkA_ok (E := E) (p := pA) (q := pH) (t := fun (l : TA) => t l.1.2.1.1 l.1.2.1.2.1 l.1.2.1.2.2.1 l.1.2.1.2.2.2.1 l.2.1.2.1 l.2.1.2.2.2.1 l.2.1.2.2.2.2.1 l.2.1.2.2.2.2.2.1 l.2.2.1 l.2.2.2.1 l.2.2.2.2.1) (spS_ok (spS_ok sp1_ok)) hk okF
end law07_do_v2

/-! instar/instarlaw07.awake -/
namespace law07_awake
abbrev TA : Type := (Unit × Unit)
noncomputable def t : Tw Bool :=
 (.opt (flash_New.c (2 : Int) (4 : Int)) fun z1 =>
  (.sm z1
   (fun z2 => (.bb (z2.1 != (0 : Int))
     (.ret false)
     (.opt (flash_Flash_Program.c (0 : Int) (5 : Int) (4 : Int) z2.2.1 z2.2.2.1 z2.2.2.2.1 z2.2.2.2.2.1 z2.2.2.2.2.2) fun z4 =>
      (.opt (flash_Flash_Program.c (0 : Int) (7 : Int) (4 : Int) z4.2.1 z4.2.2.1 z4.2.2.2.1 z4.2.2.2.2 z2.2.2.2.2.2) fun z5 =>
       (.opt (flash_Flash_Program.c (0 : Int) (1 : Int) (4 : Int) z5.2.1 z5.2.2.1 z5.2.2.2.1 z5.2.2.2.2 z2.2.2.2.2.2) fun z6 =>
        (.opt (flash_Flash_Arm.c (0 : Int) ((4294967295 : Int) :: ([] : List Int)) (4 : Int) z6.2.1 z6.2.2.1 z6.2.2.2.1 z6.2.2.2.2 z2.2.2.2.2.2) fun z7 =>
         (.opt (flash_Flash_Erase_v2.c (0 : Int) (4 : Int) z6.2.1 z6.2.2.1 z7.1 z6.2.2.2.2 z2.2.2.2.2.2 z7.2) fun z8 =>
          (.opt (flash_Flash_Words.c (4 : Int) z8.2.1 z8.2.2.1 z8.2.2.2.1 z8.2.2.2.2.1 z8.2.2.2.2.2 z7.2) fun z9 =>
           (.bb (z4.1 == (0 : Int))
            (.bb (z5.1 == (11 : Int))
             (.bb (z6.1 == (0 : Int))
              (.bb (z8.1 == (10 : Int))
               (.bb ((((List.length z9) : Nat) : Int) == (8 : Int))
                (.dd ((((0 : Int) ≤ (0 : Int)) ∧ ((0 : Int) < (((List.length z9) : Nat) : Int)))) inferInstance
                 (.opt (z9)[(Int.toNat (0 : Int))]? fun z10 =>
                  (.bb (z10 == (4294967295 : Int))
                   (.opt (flash_Flash_Gone_v2.c (4 : Int) z8.2.1 z8.2.2.1 z8.2.2.2.1 z8.2.2.2.2.1 z8.2.2.2.2.2 z7.2) fun z11 =>
                    (.ret z8.2.2.1))
                   (.ret false)))
                 .no)
                (.ret false))
               (.ret false))
              (.ret false))
             (.ret false))
            (.ret false))))))))))
   (fun z3 => (.ret false))))
noncomputable def c : Option Bool := (t).run
def pA : Pt := .nl
def pH : Pt := .nl
def v (l : TA) (y : Bool) : AV U := .im (.bool y)
def hh (l : TA) (y : Bool) : Hp U := []
noncomputable def A : AFun U := mkA (U := U) pA pH (X := Bool) (fun (l : TA) => c) sp1 v hh
noncomputable def body : Code := (Go.Func.body Try.f31).getD .skip
noncomputable def Γ : List (FuncId × AFun U) := [(32, flash_New.A), (57, flash_Flash_Program.A), (55, flash_Flash_Arm.A), (49, flash_Flash_Erase_v2.A), (34, flash_Flash_Words.A), (35, flash_Flash_Gone_v2.A)]
noncomputable def Λ : List (Nat × LFun U) := []
noncomputable def CT : List (Nat × LFun U) := []
def ro : List FuncId := [34, 35]
def D : Nat → Lv × Lv := dtab []
noncomputable def E : Env U := { E0 with Γ := Γ, Λ := Λ, C := CT, D := D, ro := ro }
theorem hk (R : Type) (l : TA) (K : AV U → Hp U → Option R) : funcA E Try.f31 [] R (pA.mkL l.1) (pH.mkH l.2) K = (t).runK fun y => K (v l y) (hh l y) := by kernel_rfl
theorem okF : SoundF Try.prog cc 31 (funcA E Try.f31 []) :=
  funcA_ok (E := E) P_mixed (E0_ok.with Γ Λ CT D ro) (gam_of (all_cons ⟨flash_New.ok, ⟨Try.f32, Try.func32, by kernel_rfl, by kernel_rfl⟩⟩ (all_cons ⟨flash_Flash_Program.ok, ⟨Try.f57, Try.func57, by kernel_rfl, by kernel_rfl⟩⟩ (all_cons ⟨flash_Flash_Arm.ok, ⟨Try.f55, Try.func55, by kernel_rfl, by kernel_rfl⟩⟩ (all_cons ⟨flash_Flash_Erase_v2.ok, ⟨Try.f49, Try.func49, by kernel_rfl, by kernel_rfl⟩⟩ (all_cons ⟨flash_Flash_Words.ok, ⟨Try.f34, Try.func34, by kernel_rfl, by kernel_rfl⟩⟩ (all_cons ⟨flash_Flash_Gone_v2.ok, ⟨Try.f35, Try.func35, by kernel_rfl, by kernel_rfl⟩⟩ all_nil)))))) (all_cons (no_keep (by kernel_rfl)) (all_cons (no_keep (by kernel_rfl)) (all_cons (no_keep (by kernel_rfl)) (all_cons (no_keep (by kernel_rfl)) (all_cons (fun _ => flash_Flash_Words.keep) (all_cons (fun _ => flash_Flash_Gone_v2.keep) all_nil))))))) Try.func31 (c := body) (by kernel_rfl)
    (just_by (by kernel_rfl) (by kernel_rfl) all_nil all_nil) []
theorem ok : SoundF Try.prog cc 31 A :=
  mkA_ok (E := E) (p := pA) (q := pH) (t := fun (l : TA) => t) sp1_ok hk okF
theorem keep : KeepA A := mkA_keep (U := U) sp1_ok (fun (l : TA) y => ⟨(hh l y).drop 0, by kernel_rfl⟩)
end law07_awake

end Go.Proofs.Ytpidbpmkogbdeaa.Va
