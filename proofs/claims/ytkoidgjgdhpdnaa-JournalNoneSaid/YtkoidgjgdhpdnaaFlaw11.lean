/- The functions of package law11, as plain functions, and that the program computes them. Printed by a program of this work out of the evaluator. -/
import Derived.Test.YtkoidgjgdhpdnaaEn
import Derived.Tactics
import Derived.Test.YtkoidgjgdhpdnaaFdrive
import Derived.Test.YtkoidgjgdhpdnaaFflash
import Derived.Test.YtkoidgjgdhpdnaaFjournal
import Derived.Test.YtkoidgjgdhpdnaaFref01
import Derived.Test.YtkoidgjgdhpdnaaFref08
import Derived.Test.YtkoidgjgdhpdnaaFref09
import Derived.Test.YtkoidgjgdhpdnaaFref11
namespace Go.Proofs.Ytkoidgjgdhpdnaa.Va
open Go
set_option linter.unusedVariables false
set_option maxRecDepth 100000

/-! instar/instarlaw11.great -/
namespace law11_great
abbrev TA : Type := (((List Act11) × Unit) × Unit)
abbrev T2 : Type := (((List Act11) × (Unit × (Int × (Unit × Unit)))) × Unit)
noncomputable def l2 (l_ : (List Act11)) (i : Int) : Tw (Int ⊕ (Unit ⊕ Bool)) :=
 (.bb (decide (i < (((List.length l_) : Nat) : Int)))
  (.bb (decide (i < (61 : Int)))
   (.dd (((0 : Int) ≤ i)) inferInstance
    (.opt (l_)[(Int.toNat i)]? fun z1 =>
     (.bb (decide ((((List.length z1.load) : Nat) : Int) > (100 : Int)))
      (.ret (.inr (.inr true)))
      (.dd (((0 : Int) ≤ i)) inferInstance
       (.opt (l_)[(Int.toNat i)]? fun z2 =>
        (.bb (decide ((((List.length z2.whole) : Nat) : Int) > (100 : Int)))
         (.ret (.inr (.inr true)))
         (.ret (.inl (w64 (i + (1 : Int)))))))
       .no)))
    .no)
   (.ret (.inr (.inl ()))))
  (.ret (.inr (.inl ()))))
noncomputable def L2 (l_ : (List Act11)) (i : Int) : Option (Unit ⊕ Bool) := Lp (fun s => (l2 l_ s).run) i
def p2 : Pt := (.cs (.sl 27) (.cs (.bots 2) (.cs (.int .i64) (.cs (.bots 29) .nl))))
def q2 : Pt := .nl
def ou2 (l : T2) (y : (Unit ⊕ Bool)) : Ex × St U := (Sum.elim (fun a0 => (.exit 0, stOf 33 [(0, .im (.slice 27 l.1.1))] [] 0)) (fun b0 => (.ret, stOf 33 [(0, .im (.slice 27 l.1.1)), (2, .im (.bool b0))] [] 0)) y)
noncomputable def Λ2 : LFun U := mkLp (U := U) p2 q2 0 (X := (Unit ⊕ Bool)) (fun (l : T2) => L2 l.1.1 l.1.2.2.1) (spS sp1) ou2
noncomputable def t (l_ : (List Act11)) : Tw Bool :=
 (.opt (L2 l_ (0 : Int)) fun z3 =>
  (.sm z3
   (fun z4 => (.ret (decide ((((List.length l_) : Nat) : Int) > (60 : Int)))))
   (fun z5 => (.ret z5))))
noncomputable def c (l_ : (List Act11)) : Option Bool := (t l_).run
def pA : Pt := (.cs (.sl 27) .nl)
def pH : Pt := .nl
def v (l : TA) (y : Bool) : AV U := .im (.bool y)
def hh (l : TA) (y : Bool) : Hp U := []
noncomputable def A : AFun U := mkA (U := U) pA pH (X := Bool) (fun (l : TA) => c l.1.1) sp1 v hh
noncomputable def body : Code := (Go.Func.body Try.f6).getD .skip
noncomputable def Γ : List (FuncId × AFun U) := []
noncomputable def Λ : List (Nat × LFun U) := [(2, Λ2)]
noncomputable def CT : List (Nat × LFun U) := []
def ro : List FuncId := []
def D : Nat → Lv × Lv := dtab [(2, ⟨[3, 0], []⟩, ⟨[2, 0], []⟩)]
noncomputable def E : Env U := { E0 with Γ := Γ, Λ := Λ, C := CT, D := D, ro := ro }
theorem hf2 (R : Type) (l : T2) (s : Int) (K : Ex → St U → Option R) : codeA E (pick (loopsOf body) 2) ⟨p2.mkL (((l.1.1, ((), (s, ((), ())))), ()) : T2).1, q2.mkH (((l.1.1, ((), (s, ((), ())))), ()) : T2).2, 0⟩ (roundK E (pick (loopsOf body) 2) K) =
  (l2 l.1.1 s).runK (lpK K (fun s => ⟨p2.mkL (((l.1.1, ((), (s, ((), ())))), ()) : T2).1, q2.mkH (((l.1.1, ((), (s, ((), ())))), ()) : T2).2, 0⟩) (spS sp1) (ou2 l)) := by kernel_rfl
theorem lk2 (R : Type) (st : St U) (K : Ex → St U → Option R) (r : R) (h : Λ2 R st K = some r) : ∃ n, loopA E (pick (loopsOf body) 2) n st K = some r :=
  lp_ok (U := U) (E := E) (b := pick (loopsOf body) 2) (m := 0) (sp := (spS sp1)) (p := p2) (q := q2) (X := (Unit ⊕ Bool)) (S := Int) (f := fun (l : T2) s => l2 l.1.1 s) (hd := fun (l : T2) s => ((l.1.1, ((), (s, ((), ())))), ())) (s0 := fun (l : T2) => l.1.2.2.1) (ou := ou2)
    (fun l => rfl) (fun l x => by repeat' (first | rfl | (cases x with | inl => rfl | inr x => ?_))) (spS_ok sp1_ok) hf2 h
theorem hk (R : Type) (l : TA) (K : AV U → Hp U → Option R) : funcA E Try.f6 [] R (pA.mkL l.1) (pH.mkH l.2) K = (t l.1.1).runK fun y => K (v l y) (hh l y) := by kernel_rfl
theorem okF : SoundF Try.prog cc 6 (funcA E Try.f6 []) :=
  funcA_ok (E := E) P_mixed (E0_ok.with Γ Λ CT D ro) (gam_of all_nil all_nil) Try.func6 (c := body) (by kernel_rfl)
    (just_by (by kernel_rfl) (by kernel_rfl) (all_cons lk2 all_nil) all_nil) []
theorem ok : SoundF Try.prog cc 6 A :=
  mkA_ok (E := E) (p := pA) (q := pH) (t := fun (l : TA) => t l.1.1) sp1_ok hk okF
theorem keep : KeepA A := mkA_keep (U := U) sp1_ok (fun (l : TA) y => ⟨(hh l y).drop 0, by kernel_rfl⟩)
end law11_great

/-! instar/instarlaw11.begin -/
namespace law11_begin
abbrev TA : Type := (((Int × (Int × (Int × (Int × (Int × (Int × Unit)))))) × ((List Int) × Unit)) × Unit)
noncomputable def t (g_0 g_1 g_2 g_3 g_4 g_5 : Int) (whole : (List Int)) : Tw ((Bool × (Int × (Bool × (Int × ((List Int) × ((List Int) × (Int × (Int × (Bool × (Int × ((List Int) × ((List (List Int)) × (Int × (Int × (Bool × (Int × ((List Int) × (Int × (Bool × (Int × ((List Int) × ((List Int) × (List (List Int)))))))))))))))))))))))) ⊕ ((Bool × (Int × (Bool × (Int × ((List Int) × ((List Int) × (Int × (Int × (Bool × (Int × ((List Int) × (List (List Int))))))))))))) ⊕ ((Bool × (Int × (Bool × (Int × ((List Int) × ((List Int) × (Int × (Int × (Bool × (Int × ((List Int) × (Int × (Bool × (Int × ((List Int) × ((List Int) × (List (List Int)))))))))))))))))) ⊕ ((Bool × (Int × (Bool × (Int × ((List Int) × (List Int)))))) ⊕ (Bool ⊕ ((Bool × (Int × (Bool × (Int × ((List Int) × ((List Int) × (Int × (Int × (Bool × (Int × ((List Int) × (Int × (Bool × (Int × ((List Int) × ((List Int) × (List (List Int)))))))))))))))))) ⊕ ((Bool × (Int × (Bool × (Int × ((List Int) × (List Int)))))) ⊕ (Bool × (Int × (Int × (Bool × (Int × ((List Int) × (Int × (Bool × (Int × ((List Int) × ((List Int) × (List (List Int)))))))))))))))))))) :=
 (.opt (ref08_Map.c g_0 g_1 g_2 g_3 g_4 g_5) fun z1 =>
  (.opt (flash_New.c (((List.length z1) : Nat) : Int) g_0) fun z2 =>
   (.sm z2
    (fun z3 => (.opt (drive_New.c g_0 g_1 g_2 g_3 g_4 g_5 g_0 z3.2.1 z3.2.2.1 z3.2.2.2.1 z3.2.2.2.2.1 z3.2.2.2.2.2) fun z5 =>
      (.sm z5
       (fun z6 => (.bb (z3.1 != (0 : Int))
         (.ret (.inr (.inr (.inr (.inr (.inl false))))))
         (.bb (z6 != (0 : Int))
          (.ret (.inr (.inr (.inr (.inr (.inl false))))))
          (.opt (journal_New.c whole g_0 g_1 g_2 g_3 g_4 g_5 g_0 z3.2.1 z3.2.2.1 z3.2.2.2.1 z3.2.2.2.2.1 z3.2.2.2.2.2) fun z8 =>
           (.sm z8
            (fun z9 => (.opt (ref09_New.c g_0 g_1 g_2 g_3 g_4 g_5) fun z11 =>
              (.sm z11
               (fun z12 => (.opt (ref11_New.c whole g_0 g_1 g_2 g_3 g_4 g_5 g_0 z12.1 z12.2.1 z12.2.2.1 z12.2.2.2.1 z12.2.2.2.2) fun z14 =>
                 (.sm z14
                  (fun z15 => (.bb (z9.1 == z15.1)
                    (.ret (.inl ((false == false), (z9.2.1, (z9.2.2.1, (z9.2.2.2.1, (z9.2.2.2.2.1, (z9.2.2.2.2.2.1, (z9.2.2.2.2.2.2.1, (z9.2.2.2.2.2.2.2.1, (z9.2.2.2.2.2.2.2.2.1, (z9.2.2.2.2.2.2.2.2.2.1, (z9.2.2.2.2.2.2.2.2.2.2.1, (z9.2.2.2.2.2.2.2.2.2.2.2, (z15.2.2.2.2.2.2.1, (z15.2.2.2.2.2.2.2.1, (z15.2.2.2.2.2.2.2.2.1, (z15.2.2.2.2.2.2.2.2.2.1, (z15.2.2.2.2.2.2.2.2.2.2.1, (z15.2.1, (z15.2.2.1, (z15.2.2.2.1, (z15.2.2.2.2.1, (z15.2.2.2.2.2.1, z15.2.2.2.2.2.2.2.2.2.2.2))))))))))))))))))))))))
                    (.ret (.inl (false, (z9.2.1, (z9.2.2.1, (z9.2.2.2.1, (z9.2.2.2.2.1, (z9.2.2.2.2.2.1, (z9.2.2.2.2.2.2.1, (z9.2.2.2.2.2.2.2.1, (z9.2.2.2.2.2.2.2.2.1, (z9.2.2.2.2.2.2.2.2.2.1, (z9.2.2.2.2.2.2.2.2.2.2.1, (z9.2.2.2.2.2.2.2.2.2.2.2, (z15.2.2.2.2.2.2.1, (z15.2.2.2.2.2.2.2.1, (z15.2.2.2.2.2.2.2.2.1, (z15.2.2.2.2.2.2.2.2.2.1, (z15.2.2.2.2.2.2.2.2.2.2.1, (z15.2.1, (z15.2.2.1, (z15.2.2.2.1, (z15.2.2.2.2.1, (z15.2.2.2.2.2.1, z15.2.2.2.2.2.2.2.2.2.2.2))))))))))))))))))))))))))
                  (fun z16 => (.bb (z9.1 == z16.1)
                    (.ret (.inr (.inl ((false == true), (z9.2.1, (z9.2.2.1, (z9.2.2.2.1, (z9.2.2.2.2.1, (z9.2.2.2.2.2.1, (z9.2.2.2.2.2.2.1, (z9.2.2.2.2.2.2.2.1, (z9.2.2.2.2.2.2.2.2.1, (z9.2.2.2.2.2.2.2.2.2.1, (z9.2.2.2.2.2.2.2.2.2.2.1, z9.2.2.2.2.2.2.2.2.2.2.2))))))))))))))
                    (.ret (.inr (.inl (false, (z9.2.1, (z9.2.2.1, (z9.2.2.2.1, (z9.2.2.2.2.1, (z9.2.2.2.2.2.1, (z9.2.2.2.2.2.2.1, (z9.2.2.2.2.2.2.2.1, (z9.2.2.2.2.2.2.2.2.1, (z9.2.2.2.2.2.2.2.2.2.1, (z9.2.2.2.2.2.2.2.2.2.2.1, z9.2.2.2.2.2.2.2.2.2.2.2)))))))))))))))))))
               (fun z13 => .no))))
            (fun z10 => (.opt (ref09_New.c g_0 g_1 g_2 g_3 g_4 g_5) fun z17 =>
              (.sm z17
               (fun z18 => (.opt (ref11_New.c whole g_0 g_1 g_2 g_3 g_4 g_5 g_0 z18.1 z18.2.1 z18.2.2.1 z18.2.2.2.1 z18.2.2.2.2) fun z20 =>
                 (.sm z20
                  (fun z21 => (.bb (z10.1 == z21.1)
                    (.ret (.inr (.inr (.inl ((true == false), (z10.2.1, (z10.2.2.1, (z10.2.2.2.1, (z10.2.2.2.2.1, (z10.2.2.2.2.2, (z21.2.2.2.2.2.2.1, (z21.2.2.2.2.2.2.2.1, (z21.2.2.2.2.2.2.2.2.1, (z21.2.2.2.2.2.2.2.2.2.1, (z21.2.2.2.2.2.2.2.2.2.2.1, (z21.2.1, (z21.2.2.1, (z21.2.2.2.1, (z21.2.2.2.2.1, (z21.2.2.2.2.2.1, z21.2.2.2.2.2.2.2.2.2.2.2))))))))))))))))))))
                    (.ret (.inr (.inr (.inl (false, (z10.2.1, (z10.2.2.1, (z10.2.2.2.1, (z10.2.2.2.2.1, (z10.2.2.2.2.2, (z21.2.2.2.2.2.2.1, (z21.2.2.2.2.2.2.2.1, (z21.2.2.2.2.2.2.2.2.1, (z21.2.2.2.2.2.2.2.2.2.1, (z21.2.2.2.2.2.2.2.2.2.2.1, (z21.2.1, (z21.2.2.1, (z21.2.2.2.1, (z21.2.2.2.2.1, (z21.2.2.2.2.2.1, z21.2.2.2.2.2.2.2.2.2.2.2))))))))))))))))))))))
                  (fun z22 => (.bb (z10.1 == z22.1)
                    (.ret (.inr (.inr (.inr (.inl ((true == true), (z10.2.1, (z10.2.2.1, (z10.2.2.2.1, (z10.2.2.2.2.1, z10.2.2.2.2.2))))))))))
                    (.ret (.inr (.inr (.inr (.inl (false, (z10.2.1, (z10.2.2.1, (z10.2.2.2.1, (z10.2.2.2.2.1, z10.2.2.2.2.2)))))))))))))))
               (fun z19 => .no)))))))))
       (fun z7 => (.bb (z3.1 != (0 : Int))
         (.ret (.inr (.inr (.inr (.inr (.inl false))))))
         (.bb (z7 != (0 : Int))
          (.ret (.inr (.inr (.inr (.inr (.inl false))))))
          (.opt (journal_New_nil0.c whole) fun z23 =>
           (.opt (ref09_New.c g_0 g_1 g_2 g_3 g_4 g_5) fun z24 =>
            (.sm z24
             (fun z25 => (.opt (ref11_New.c whole g_0 g_1 g_2 g_3 g_4 g_5 g_0 z25.1 z25.2.1 z25.2.2.1 z25.2.2.2.1 z25.2.2.2.2) fun z27 =>
               (.sm z27
                (fun z28 => (.bb (z23 == z28.1)
                  (.ret (.inr (.inr (.inr (.inr (.inr (.inl ((true == false), (z3.2.1, (z3.2.2.1, (z3.2.2.2.1, (z3.2.2.2.2.1, (z3.2.2.2.2.2, (z28.2.2.2.2.2.2.1, (z28.2.2.2.2.2.2.2.1, (z28.2.2.2.2.2.2.2.2.1, (z28.2.2.2.2.2.2.2.2.2.1, (z28.2.2.2.2.2.2.2.2.2.2.1, (z28.2.1, (z28.2.2.1, (z28.2.2.2.1, (z28.2.2.2.2.1, (z28.2.2.2.2.2.1, z28.2.2.2.2.2.2.2.2.2.2.2)))))))))))))))))))))))
                  (.ret (.inr (.inr (.inr (.inr (.inr (.inl (false, (z3.2.1, (z3.2.2.1, (z3.2.2.2.1, (z3.2.2.2.2.1, (z3.2.2.2.2.2, (z28.2.2.2.2.2.2.1, (z28.2.2.2.2.2.2.2.1, (z28.2.2.2.2.2.2.2.2.1, (z28.2.2.2.2.2.2.2.2.2.1, (z28.2.2.2.2.2.2.2.2.2.2.1, (z28.2.1, (z28.2.2.1, (z28.2.2.2.1, (z28.2.2.2.2.1, (z28.2.2.2.2.2.1, z28.2.2.2.2.2.2.2.2.2.2.2)))))))))))))))))))))))))
                (fun z29 => (.bb (z23 == z29.1)
                  (.ret (.inr (.inr (.inr (.inr (.inr (.inr (.inl ((true == true), (z3.2.1, (z3.2.2.1, (z3.2.2.2.1, (z3.2.2.2.2.1, z3.2.2.2.2.2)))))))))))))
                  (.ret (.inr (.inr (.inr (.inr (.inr (.inr (.inl (false, (z3.2.1, (z3.2.2.1, (z3.2.2.2.1, (z3.2.2.2.2.1, z3.2.2.2.2.2))))))))))))))))))
             (fun z26 => .no))))))))))
    (fun z4 => (.opt (drive_New_nil0.c g_0 g_1 g_2 g_3 g_4 g_5) fun z30 =>
      (.bb (z4 != (0 : Int))
       (.ret (.inr (.inr (.inr (.inr (.inl false))))))
       (.bb (z30 != (0 : Int))
        (.ret (.inr (.inr (.inr (.inr (.inl false))))))
        (.opt (journal_New_nil0.c whole) fun z31 =>
         (.opt (ref09_New.c g_0 g_1 g_2 g_3 g_4 g_5) fun z32 =>
          (.sm z32
           (fun z33 => (.opt (ref11_New.c whole g_0 g_1 g_2 g_3 g_4 g_5 g_0 z33.1 z33.2.1 z33.2.2.1 z33.2.2.2.1 z33.2.2.2.2) fun z35 =>
             (.sm z35
              (fun z36 => (.bb (z31 == z36.1)
                (.ret (.inr (.inr (.inr (.inr (.inr (.inr (.inr ((true == false), (z36.2.2.2.2.2.2.1, (z36.2.2.2.2.2.2.2.1, (z36.2.2.2.2.2.2.2.2.1, (z36.2.2.2.2.2.2.2.2.2.1, (z36.2.2.2.2.2.2.2.2.2.2.1, (z36.2.1, (z36.2.2.1, (z36.2.2.2.1, (z36.2.2.2.2.1, (z36.2.2.2.2.2.1, z36.2.2.2.2.2.2.2.2.2.2.2)))))))))))))))))))
                (.ret (.inr (.inr (.inr (.inr (.inr (.inr (.inr (false, (z36.2.2.2.2.2.2.1, (z36.2.2.2.2.2.2.2.1, (z36.2.2.2.2.2.2.2.2.1, (z36.2.2.2.2.2.2.2.2.2.1, (z36.2.2.2.2.2.2.2.2.2.2.1, (z36.2.1, (z36.2.2.1, (z36.2.2.2.1, (z36.2.2.2.2.1, (z36.2.2.2.2.2.1, z36.2.2.2.2.2.2.2.2.2.2.2)))))))))))))))))))))
              (fun z37 => (.bb (z31 == z37.1)
                (.ret (.inr (.inr (.inr (.inr (.inl (true == true)))))))
                (.ret (.inr (.inr (.inr (.inr (.inl false)))))))))))
           (fun z34 => .no)))))))))))
noncomputable def c (g_0 g_1 g_2 g_3 g_4 g_5 : Int) (whole : (List Int)) : Option ((Bool × (Int × (Bool × (Int × ((List Int) × ((List Int) × (Int × (Int × (Bool × (Int × ((List Int) × ((List (List Int)) × (Int × (Int × (Bool × (Int × ((List Int) × (Int × (Bool × (Int × ((List Int) × ((List Int) × (List (List Int)))))))))))))))))))))))) ⊕ ((Bool × (Int × (Bool × (Int × ((List Int) × ((List Int) × (Int × (Int × (Bool × (Int × ((List Int) × (List (List Int))))))))))))) ⊕ ((Bool × (Int × (Bool × (Int × ((List Int) × ((List Int) × (Int × (Int × (Bool × (Int × ((List Int) × (Int × (Bool × (Int × ((List Int) × ((List Int) × (List (List Int)))))))))))))))))) ⊕ ((Bool × (Int × (Bool × (Int × ((List Int) × (List Int)))))) ⊕ (Bool ⊕ ((Bool × (Int × (Bool × (Int × ((List Int) × ((List Int) × (Int × (Int × (Bool × (Int × ((List Int) × (Int × (Bool × (Int × ((List Int) × ((List Int) × (List (List Int)))))))))))))))))) ⊕ ((Bool × (Int × (Bool × (Int × ((List Int) × (List Int)))))) ⊕ (Bool × (Int × (Int × (Bool × (Int × ((List Int) × (Int × (Bool × (Int × ((List Int) × ((List Int) × (List (List Int)))))))))))))))))))) := (t g_0 g_1 g_2 g_3 g_4 g_5 whole).run
def pA : Pt := (.cs (.agg (.cs (.int .i64) (.cs (.int .i64) (.cs (.int .i64) (.cs (.int .i64) (.cs (.int .i64) (.cs (.int .i64) .nl))))))) (.cs (.sl 3) .nl))
def pH : Pt := .nl
def v (l : TA) (y : ((Bool × (Int × (Bool × (Int × ((List Int) × ((List Int) × (Int × (Int × (Bool × (Int × ((List Int) × ((List (List Int)) × (Int × (Int × (Bool × (Int × ((List Int) × (Int × (Bool × (Int × ((List Int) × ((List Int) × (List (List Int)))))))))))))))))))))))) ⊕ ((Bool × (Int × (Bool × (Int × ((List Int) × ((List Int) × (Int × (Int × (Bool × (Int × ((List Int) × (List (List Int))))))))))))) ⊕ ((Bool × (Int × (Bool × (Int × ((List Int) × ((List Int) × (Int × (Int × (Bool × (Int × ((List Int) × (Int × (Bool × (Int × ((List Int) × ((List Int) × (List (List Int)))))))))))))))))) ⊕ ((Bool × (Int × (Bool × (Int × ((List Int) × (List Int)))))) ⊕ (Bool ⊕ ((Bool × (Int × (Bool × (Int × ((List Int) × ((List Int) × (Int × (Int × (Bool × (Int × ((List Int) × (Int × (Bool × (Int × ((List Int) × ((List Int) × (List (List Int)))))))))))))))))) ⊕ ((Bool × (Int × (Bool × (Int × ((List Int) × (List Int)))))) ⊕ (Bool × (Int × (Int × (Bool × (Int × ((List Int) × (Int × (Bool × (Int × ((List Int) × ((List Int) × (List (List Int))))))))))))))))))))) : AV U := (Sum.elim (fun a0 => .tup [.agg [.ptr 0 0, .ptr 3 0, .ptr 4 0, .ptr 6 0], .im (.bool a0.1)]) (fun b0 => (Sum.elim (fun a1 => .tup [.agg [.ptr 0 0, .ptr 3 0, .ptr 4 0, .im .nilp], .im (.bool a1.1)]) (fun b1 => (Sum.elim (fun a2 => .tup [.agg [.ptr 0 0, .ptr 3 0, .im .nilp, .ptr 4 0], .im (.bool a2.1)]) (fun b2 => (Sum.elim (fun a3 => .tup [.agg [.ptr 0 0, .ptr 3 0, .im .nilp, .im .nilp], .im (.bool a3.1)]) (fun b3 => (Sum.elim (fun a4 => .tup [.agg [.im .nilp, .im .nilp, .im .nilp, .im .nilp], .im (.bool a4)]) (fun b4 => (Sum.elim (fun a5 => .tup [.agg [.ptr 0 0, .im .nilp, .im .nilp, .ptr 3 0], .im (.bool a5.1)]) (fun b5 => (Sum.elim (fun a6 => .tup [.agg [.ptr 0 0, .im .nilp, .im .nilp, .im .nilp], .im (.bool a6.1)]) (fun b6 => .tup [.agg [.im .nilp, .im .nilp, .im .nilp, .ptr 0 0], .im (.bool b6.1)]) b5)) b4)) b3)) b2)) b1)) b0)) y)
def hh (l : TA) (y : ((Bool × (Int × (Bool × (Int × ((List Int) × ((List Int) × (Int × (Int × (Bool × (Int × ((List Int) × ((List (List Int)) × (Int × (Int × (Bool × (Int × ((List Int) × (Int × (Bool × (Int × ((List Int) × ((List Int) × (List (List Int)))))))))))))))))))))))) ⊕ ((Bool × (Int × (Bool × (Int × ((List Int) × ((List Int) × (Int × (Int × (Bool × (Int × ((List Int) × (List (List Int))))))))))))) ⊕ ((Bool × (Int × (Bool × (Int × ((List Int) × ((List Int) × (Int × (Int × (Bool × (Int × ((List Int) × (Int × (Bool × (Int × ((List Int) × ((List Int) × (List (List Int)))))))))))))))))) ⊕ ((Bool × (Int × (Bool × (Int × ((List Int) × (List Int)))))) ⊕ (Bool ⊕ ((Bool × (Int × (Bool × (Int × ((List Int) × ((List Int) × (Int × (Int × (Bool × (Int × ((List Int) × (Int × (Bool × (Int × ((List Int) × ((List Int) × (List (List Int)))))))))))))))))) ⊕ ((Bool × (Int × (Bool × (Int × ((List Int) × (List Int)))))) ⊕ (Bool × (Int × (Int × (Bool × (Int × ((List Int) × (Int × (Bool × (Int × ((List Int) × ((List Int) × (List (List Int))))))))))))))))))))) : Hp U := (Sum.elim (fun a0 => [.var [.own 1, .im (.int .i64 l.1.1.1), .own 2, .im (.int .i64 a0.2.1), .im (.bool a0.2.2.1), .im (.int .i64 a0.2.2.2.1), .im .nils], .row 3 a0.2.2.2.2.1 true, .row 1 a0.2.2.2.2.2.1 true, .var [.ptr 0 0, .im (.int .i64 l.1.1.1), .im (.int .i64 l.1.1.2.1), .im (.int .i64 l.1.1.2.2.1), .im (.int .i64 l.1.1.2.2.2.1), .im (.int .i64 l.1.1.2.2.2.2.1), .im (.int .i64 l.1.1.2.2.2.2.2.1)], .var [.ptr 3 0, .im (.int .i64 a0.2.2.2.2.2.2.1), .im (.int .i64 a0.2.2.2.2.2.2.2.1), .im (.bool a0.2.2.2.2.2.2.2.2.1), .im (.int .i64 a0.2.2.2.2.2.2.2.2.2.1), .im (.slice 3 a0.2.2.2.2.2.2.2.2.2.2.1), .own 5], .row 12 a0.2.2.2.2.2.2.2.2.2.2.2.1 true, .var [.ptr 7 0, .im (.int .i64 a0.2.2.2.2.2.2.2.2.2.2.2.2.1), .im (.int .i64 a0.2.2.2.2.2.2.2.2.2.2.2.2.2.1), .im (.bool a0.2.2.2.2.2.2.2.2.2.2.2.2.2.2.1), .im (.int .i64 a0.2.2.2.2.2.2.2.2.2.2.2.2.2.2.2.1), .im (.slice 3 a0.2.2.2.2.2.2.2.2.2.2.2.2.2.2.2.2.1), .own 11], .var [.ptr 8 0, .im (.int .i64 l.1.1.1), .im (.int .i64 l.1.1.2.1), .im (.int .i64 l.1.1.2.2.1), .im (.int .i64 l.1.1.2.2.2.1), .im (.int .i64 l.1.1.2.2.2.2.1), .im (.int .i64 l.1.1.2.2.2.2.2.1)], .var [.own 9, .im (.int .i64 l.1.1.1), .own 10, .im (.int .i64 a0.2.2.2.2.2.2.2.2.2.2.2.2.2.2.2.2.2.1), .im (.bool a0.2.2.2.2.2.2.2.2.2.2.2.2.2.2.2.2.2.2.1), .im (.int .i64 a0.2.2.2.2.2.2.2.2.2.2.2.2.2.2.2.2.2.2.2.1), .im .nils], .row 3 a0.2.2.2.2.2.2.2.2.2.2.2.2.2.2.2.2.2.2.2.2.1 true, .row 1 a0.2.2.2.2.2.2.2.2.2.2.2.2.2.2.2.2.2.2.2.2.2.1 true, .row 12 a0.2.2.2.2.2.2.2.2.2.2.2.2.2.2.2.2.2.2.2.2.2.2 true]) (fun b0 => (Sum.elim (fun a1 => [.var [.own 1, .im (.int .i64 l.1.1.1), .own 2, .im (.int .i64 a1.2.1), .im (.bool a1.2.2.1), .im (.int .i64 a1.2.2.2.1), .im .nils], .row 3 a1.2.2.2.2.1 true, .row 1 a1.2.2.2.2.2.1 true, .var [.ptr 0 0, .im (.int .i64 l.1.1.1), .im (.int .i64 l.1.1.2.1), .im (.int .i64 l.1.1.2.2.1), .im (.int .i64 l.1.1.2.2.2.1), .im (.int .i64 l.1.1.2.2.2.2.1), .im (.int .i64 l.1.1.2.2.2.2.2.1)], .var [.ptr 3 0, .im (.int .i64 a1.2.2.2.2.2.2.1), .im (.int .i64 a1.2.2.2.2.2.2.2.1), .im (.bool a1.2.2.2.2.2.2.2.2.1), .im (.int .i64 a1.2.2.2.2.2.2.2.2.2.1), .im (.slice 3 a1.2.2.2.2.2.2.2.2.2.2.1), .own 5], .row 12 a1.2.2.2.2.2.2.2.2.2.2.2 true]) (fun b1 => (Sum.elim (fun a2 => [.var [.own 1, .im (.int .i64 l.1.1.1), .own 2, .im (.int .i64 a2.2.1), .im (.bool a2.2.2.1), .im (.int .i64 a2.2.2.2.1), .im .nils], .row 3 a2.2.2.2.2.1 true, .row 1 a2.2.2.2.2.2.1 true, .var [.ptr 0 0, .im (.int .i64 l.1.1.1), .im (.int .i64 l.1.1.2.1), .im (.int .i64 l.1.1.2.2.1), .im (.int .i64 l.1.1.2.2.2.1), .im (.int .i64 l.1.1.2.2.2.2.1), .im (.int .i64 l.1.1.2.2.2.2.2.1)], .var [.ptr 5 0, .im (.int .i64 a2.2.2.2.2.2.2.1), .im (.int .i64 a2.2.2.2.2.2.2.2.1), .im (.bool a2.2.2.2.2.2.2.2.2.1), .im (.int .i64 a2.2.2.2.2.2.2.2.2.2.1), .im (.slice 3 a2.2.2.2.2.2.2.2.2.2.2.1), .own 9], .var [.ptr 6 0, .im (.int .i64 l.1.1.1), .im (.int .i64 l.1.1.2.1), .im (.int .i64 l.1.1.2.2.1), .im (.int .i64 l.1.1.2.2.2.1), .im (.int .i64 l.1.1.2.2.2.2.1), .im (.int .i64 l.1.1.2.2.2.2.2.1)], .var [.own 7, .im (.int .i64 l.1.1.1), .own 8, .im (.int .i64 a2.2.2.2.2.2.2.2.2.2.2.2.1), .im (.bool a2.2.2.2.2.2.2.2.2.2.2.2.2.1), .im (.int .i64 a2.2.2.2.2.2.2.2.2.2.2.2.2.2.1), .im .nils], .row 3 a2.2.2.2.2.2.2.2.2.2.2.2.2.2.2.1 true, .row 1 a2.2.2.2.2.2.2.2.2.2.2.2.2.2.2.2.1 true, .row 12 a2.2.2.2.2.2.2.2.2.2.2.2.2.2.2.2.2 true]) (fun b2 => (Sum.elim (fun a3 => [.var [.own 1, .im (.int .i64 l.1.1.1), .own 2, .im (.int .i64 a3.2.1), .im (.bool a3.2.2.1), .im (.int .i64 a3.2.2.2.1), .im .nils], .row 3 a3.2.2.2.2.1 true, .row 1 a3.2.2.2.2.2 true, .var [.ptr 0 0, .im (.int .i64 l.1.1.1), .im (.int .i64 l.1.1.2.1), .im (.int .i64 l.1.1.2.2.1), .im (.int .i64 l.1.1.2.2.2.1), .im (.int .i64 l.1.1.2.2.2.2.1), .im (.int .i64 l.1.1.2.2.2.2.2.1)]]) (fun b3 => (Sum.elim (fun a4 => []) (fun b4 => (Sum.elim (fun a5 => [.var [.own 1, .im (.int .i64 l.1.1.1), .own 2, .im (.int .i64 a5.2.1), .im (.bool a5.2.2.1), .im (.int .i64 a5.2.2.2.1), .im .nils], .row 3 a5.2.2.2.2.1 true, .row 1 a5.2.2.2.2.2.1 true, .var [.ptr 4 0, .im (.int .i64 a5.2.2.2.2.2.2.1), .im (.int .i64 a5.2.2.2.2.2.2.2.1), .im (.bool a5.2.2.2.2.2.2.2.2.1), .im (.int .i64 a5.2.2.2.2.2.2.2.2.2.1), .im (.slice 3 a5.2.2.2.2.2.2.2.2.2.2.1), .own 8], .var [.ptr 5 0, .im (.int .i64 l.1.1.1), .im (.int .i64 l.1.1.2.1), .im (.int .i64 l.1.1.2.2.1), .im (.int .i64 l.1.1.2.2.2.1), .im (.int .i64 l.1.1.2.2.2.2.1), .im (.int .i64 l.1.1.2.2.2.2.2.1)], .var [.own 6, .im (.int .i64 l.1.1.1), .own 7, .im (.int .i64 a5.2.2.2.2.2.2.2.2.2.2.2.1), .im (.bool a5.2.2.2.2.2.2.2.2.2.2.2.2.1), .im (.int .i64 a5.2.2.2.2.2.2.2.2.2.2.2.2.2.1), .im .nils], .row 3 a5.2.2.2.2.2.2.2.2.2.2.2.2.2.2.1 true, .row 1 a5.2.2.2.2.2.2.2.2.2.2.2.2.2.2.2.1 true, .row 12 a5.2.2.2.2.2.2.2.2.2.2.2.2.2.2.2.2 true]) (fun b5 => (Sum.elim (fun a6 => [.var [.own 1, .im (.int .i64 l.1.1.1), .own 2, .im (.int .i64 a6.2.1), .im (.bool a6.2.2.1), .im (.int .i64 a6.2.2.2.1), .im .nils], .row 3 a6.2.2.2.2.1 true, .row 1 a6.2.2.2.2.2 true]) (fun b6 => [.var [.ptr 1 0, .im (.int .i64 b6.2.1), .im (.int .i64 b6.2.2.1), .im (.bool b6.2.2.2.1), .im (.int .i64 b6.2.2.2.2.1), .im (.slice 3 b6.2.2.2.2.2.1), .own 5], .var [.ptr 2 0, .im (.int .i64 l.1.1.1), .im (.int .i64 l.1.1.2.1), .im (.int .i64 l.1.1.2.2.1), .im (.int .i64 l.1.1.2.2.2.1), .im (.int .i64 l.1.1.2.2.2.2.1), .im (.int .i64 l.1.1.2.2.2.2.2.1)], .var [.own 3, .im (.int .i64 l.1.1.1), .own 4, .im (.int .i64 b6.2.2.2.2.2.2.1), .im (.bool b6.2.2.2.2.2.2.2.1), .im (.int .i64 b6.2.2.2.2.2.2.2.2.1), .im .nils], .row 3 b6.2.2.2.2.2.2.2.2.2.1 true, .row 1 b6.2.2.2.2.2.2.2.2.2.2.1 true, .row 12 b6.2.2.2.2.2.2.2.2.2.2.2 true]) b5)) b4)) b3)) b2)) b1)) b0)) y)
noncomputable def A : AFun U := mkA (U := U) pA pH (X := ((Bool × (Int × (Bool × (Int × ((List Int) × ((List Int) × (Int × (Int × (Bool × (Int × ((List Int) × ((List (List Int)) × (Int × (Int × (Bool × (Int × ((List Int) × (Int × (Bool × (Int × ((List Int) × ((List Int) × (List (List Int)))))))))))))))))))))))) ⊕ ((Bool × (Int × (Bool × (Int × ((List Int) × ((List Int) × (Int × (Int × (Bool × (Int × ((List Int) × (List (List Int))))))))))))) ⊕ ((Bool × (Int × (Bool × (Int × ((List Int) × ((List Int) × (Int × (Int × (Bool × (Int × ((List Int) × (Int × (Bool × (Int × ((List Int) × ((List Int) × (List (List Int)))))))))))))))))) ⊕ ((Bool × (Int × (Bool × (Int × ((List Int) × (List Int)))))) ⊕ (Bool ⊕ ((Bool × (Int × (Bool × (Int × ((List Int) × ((List Int) × (Int × (Int × (Bool × (Int × ((List Int) × (Int × (Bool × (Int × ((List Int) × ((List Int) × (List (List Int)))))))))))))))))) ⊕ ((Bool × (Int × (Bool × (Int × ((List Int) × (List Int)))))) ⊕ (Bool × (Int × (Int × (Bool × (Int × ((List Int) × (Int × (Bool × (Int × ((List Int) × ((List Int) × (List (List Int))))))))))))))))))))) (fun (l : TA) => c l.1.1.1 l.1.1.2.1 l.1.1.2.2.1 l.1.1.2.2.2.1 l.1.1.2.2.2.2.1 l.1.1.2.2.2.2.2.1 l.1.2.1) (spS (spS (spS (spS (spS (spS (spS sp1))))))) v hh
noncomputable def body : Code := (Go.Func.body Try.f30).getD .skip
noncomputable def Γ : List (FuncId × AFun U) := [(17, ref08_Map.A), (16, flash_New.A), (18, (orA drive_New.pA drive_New.pH drive_New.A drive_New_nil0.A)), (20, (orA journal_New.pA journal_New.pH journal_New.A journal_New_nil0.A)), (23, ref09_New.A), (25, ref11_New.A)]
noncomputable def Λ : List (Nat × LFun U) := []
noncomputable def CT : List (Nat × LFun U) := []
def ro : List FuncId := [18]
def D : Nat → Lv × Lv := dtab []
noncomputable def E : Env U := { E0 with Γ := Γ, Λ := Λ, C := CT, D := D, ro := ro }
theorem hk (R : Type) (l : TA) (K : AV U → Hp U → Option R) : funcA E Try.f30 [] R (pA.mkL l.1) (pH.mkH l.2) K = (t l.1.1.1 l.1.1.2.1 l.1.1.2.2.1 l.1.1.2.2.2.1 l.1.1.2.2.2.2.1 l.1.1.2.2.2.2.2.1 l.1.2.1).runK fun y => K (v l y) (hh l y) := by kernel_rfl
theorem okF : SoundF Try.prog cc 30 (funcA E Try.f30 []) :=
  funcA_ok (E := E) P_mixed (E0_ok.with Γ Λ CT D ro) (gam_of (all_cons ⟨ref08_Map.ok, ⟨Try.f17, Try.func17, by kernel_rfl, by kernel_rfl⟩⟩ (all_cons ⟨flash_New.ok, ⟨Try.f16, Try.func16, by kernel_rfl, by kernel_rfl⟩⟩ (all_cons ⟨(orA_ok drive_New.ok drive_New_nil0.ok), ⟨Try.f18, Try.func18, by kernel_rfl, by kernel_rfl⟩⟩ (all_cons ⟨(orA_ok journal_New.ok journal_New_nil0.ok), ⟨Try.f20, Try.func20, by kernel_rfl, by kernel_rfl⟩⟩ (all_cons ⟨ref09_New.ok, ⟨Try.f23, Try.func23, by kernel_rfl, by kernel_rfl⟩⟩ (all_cons ⟨ref11_New.ok, ⟨Try.f25, Try.func25, by kernel_rfl, by kernel_rfl⟩⟩ all_nil)))))) (all_cons (no_keep (by kernel_rfl)) (all_cons (no_keep (by kernel_rfl)) (all_cons (fun _ => (orA_keep drive_New.keep drive_New_nil0.keep)) (all_cons (no_keep (by kernel_rfl)) (all_cons (no_keep (by kernel_rfl)) (all_cons (no_keep (by kernel_rfl)) all_nil))))))) Try.func30 (c := body) (by kernel_rfl)
    (just_by (by kernel_rfl) (by kernel_rfl) all_nil all_nil) []
theorem ok : SoundF Try.prog cc 30 A :=
  mkA_ok (E := E) (p := pA) (q := pH) (t := fun (l : TA) => t l.1.1.1 l.1.1.2.1 l.1.1.2.2.1 l.1.1.2.2.2.1 l.1.1.2.2.2.2.1 l.1.1.2.2.2.2.2.1 l.1.2.1) (spS_ok (spS_ok (spS_ok (spS_ok (spS_ok (spS_ok (spS_ok sp1_ok))))))) hk okF
theorem keep : KeepA A := mkA_keep (U := U) (spS_ok (spS_ok (spS_ok (spS_ok (spS_ok (spS_ok (spS_ok sp1_ok))))))) (fun (l : TA) y => ⟨(hh l y).drop 0, by (cases y with | inl y => kernel_rfl | inr y => (cases y with | inl y => kernel_rfl | inr y => (cases y with | inl y => kernel_rfl | inr y => (cases y with | inl y => kernel_rfl | inr y => (cases y with | inl y => kernel_rfl | inr y => (cases y with | inl y => kernel_rfl | inr y => (cases y with | inl y => kernel_rfl | inr y => kernel_rfl)))))))⟩)
end law11_begin

/-! instar/instarlaw11.awake -/
namespace law11_awake
abbrev TA : Type := (Unit × Unit)
noncomputable def t : Tw Bool :=
 (.opt (law11_begin.c (64 : Int) (2 : Int) (5 : Int) (2 : Int) (1 : Int) (9 : Int) ((5 : Int) :: ([] : List (Int)))) fun z1 =>
  (.sm z1
   (fun z2 => (.bb (!z2.1)
     (.ret false)
     (.opt (journal_Journal_Change.c ((7 : Int) :: ([] : List (Int))) ((6 : Int) :: ([] : List (Int))) z2.2.2.2.2.2.2.1 z2.2.2.2.2.2.2.2.1 z2.2.2.2.2.2.2.2.2.1 z2.2.2.2.2.2.2.2.2.2.1 z2.2.2.2.2.2.2.2.2.2.2.1 (64 : Int) (2 : Int) (5 : Int) (2 : Int) (1 : Int) (9 : Int) (64 : Int) z2.2.1 z2.2.2.1 z2.2.2.2.1 z2.2.2.2.2.1 z2.2.2.2.2.2.1 z2.2.2.2.2.2.2.2.2.2.2.2.1) fun z4 =>
      (.sm z4
       (fun z5 => (.opt (journal_Journal_Changes.c z5.2.1 z5.2.2.1 z5.2.2.2.1 z5.2.2.2.2.1 z2.2.2.2.2.2.2.2.2.2.2.1 (64 : Int) (2 : Int) (5 : Int) (2 : Int) (1 : Int) (9 : Int) (64 : Int) z5.2.2.2.2.2.1 z5.2.2.2.2.2.2.1 z5.2.2.2.2.2.2.2.1 z5.2.2.2.2.2.2.2.2.1 z5.2.2.2.2.2.2.2.2.2.1 z5.2.2.2.2.2.2.2.2.2.2) fun z7 =>
         (.bb (z5.1 == (0 : Int))
          (.opt (journal_Journal_Seq.c z5.2.1 z5.2.2.1 z5.2.2.2.1 z5.2.2.2.2.1 z2.2.2.2.2.2.2.2.2.2.2.1 (64 : Int) (2 : Int) (5 : Int) (2 : Int) (1 : Int) (9 : Int) (64 : Int) z5.2.2.2.2.2.1 z5.2.2.2.2.2.2.1 z5.2.2.2.2.2.2.2.1 z5.2.2.2.2.2.2.2.2.1 z5.2.2.2.2.2.2.2.2.2.1 z5.2.2.2.2.2.2.2.2.2.2) fun z8 =>
           (.bb (z5.2.2.2.2.1 == (2 : Int))
            (.opt (journal_Journal_Whole.c z5.2.1 z5.2.2.1 z5.2.2.2.1 z5.2.2.2.2.1 z2.2.2.2.2.2.2.2.2.2.2.1 (64 : Int) (2 : Int) (5 : Int) (2 : Int) (1 : Int) (9 : Int) (64 : Int) z5.2.2.2.2.2.1 z5.2.2.2.2.2.2.1 z5.2.2.2.2.2.2.2.1 z5.2.2.2.2.2.2.2.2.1 z5.2.2.2.2.2.2.2.2.2.1 z5.2.2.2.2.2.2.2.2.2.2) fun z9 =>
             (.opt (ref01_Same.c z9 ((5 : Int) :: ([] : List (Int)))) fun z10 =>
              (.bb z10
               (.bb ((((List.length z7) : Nat) : Int) == (1 : Int))
                (.dd ((((0 : Int) ≤ (0 : Int)) ∧ ((0 : Int) < (((List.length z7) : Nat) : Int)))) inferInstance
                 (.opt (z7)[(Int.toNat (0 : Int))]? fun z11 =>
                  (.opt (ref01_Same.c z11 ((7 : Int) :: ([] : List (Int)))) fun z12 =>
                   (.ret z12)))
                 .no)
                (.ret false))
               (.ret false))))
            (.ret false)))
          (.ret false))))
       (fun z6 => (.sm z6
         (fun z13 => (.opt (journal_Journal_Changes_v2.c z13.2.1 z13.2.2.1 z13.2.2.2.1 z13.2.2.2.2.1 z13.2.2.2.2.2.1 (64 : Int) (2 : Int) (5 : Int) (2 : Int) (1 : Int) (9 : Int) (64 : Int) z13.2.2.2.2.2.2.1 z13.2.2.2.2.2.2.2.1 z13.2.2.2.2.2.2.2.2.1 z13.2.2.2.2.2.2.2.2.2.1 z13.2.2.2.2.2.2.2.2.2.2) fun z15 =>
           (.bb (z13.1 == (0 : Int))
            (.opt (journal_Journal_Seq_v2.c z13.2.1 z13.2.2.1 z13.2.2.2.1 z13.2.2.2.2.1 z13.2.2.2.2.2.1 (64 : Int) (2 : Int) (5 : Int) (2 : Int) (1 : Int) (9 : Int) (64 : Int) z13.2.2.2.2.2.2.1 z13.2.2.2.2.2.2.2.1 z13.2.2.2.2.2.2.2.2.1 z13.2.2.2.2.2.2.2.2.2.1 z13.2.2.2.2.2.2.2.2.2.2) fun z16 =>
             (.bb (z13.2.2.2.2.1 == (2 : Int))
              (.opt (journal_Journal_Whole_v2.c z13.2.1 z13.2.2.1 z13.2.2.2.1 z13.2.2.2.2.1 z13.2.2.2.2.2.1 (64 : Int) (2 : Int) (5 : Int) (2 : Int) (1 : Int) (9 : Int) (64 : Int) z13.2.2.2.2.2.2.1 z13.2.2.2.2.2.2.2.1 z13.2.2.2.2.2.2.2.2.1 z13.2.2.2.2.2.2.2.2.2.1 z13.2.2.2.2.2.2.2.2.2.2) fun z17 =>
               (.opt (ref01_Same.c z17 ((5 : Int) :: ([] : List (Int)))) fun z18 =>
                (.bb z18
                 (.ret false)
                 (.ret false))))
              (.ret false)))
            (.ret false))))
         (fun z14 => (.opt (journal_Journal_Changes.c z2.2.2.2.2.2.2.1 z2.2.2.2.2.2.2.2.1 z2.2.2.2.2.2.2.2.2.1 z2.2.2.2.2.2.2.2.2.2.1 z2.2.2.2.2.2.2.2.2.2.2.1 (64 : Int) (2 : Int) (5 : Int) (2 : Int) (1 : Int) (9 : Int) (64 : Int) z14.2.1 z14.2.2.1 z14.2.2.2.1 z14.2.2.2.2.1 z14.2.2.2.2.2 z2.2.2.2.2.2.2.2.2.2.2.2.1) fun z19 =>
           (.bb (z14.1 == (0 : Int))
            (.opt (journal_Journal_Seq.c z2.2.2.2.2.2.2.1 z2.2.2.2.2.2.2.2.1 z2.2.2.2.2.2.2.2.2.1 z2.2.2.2.2.2.2.2.2.2.1 z2.2.2.2.2.2.2.2.2.2.2.1 (64 : Int) (2 : Int) (5 : Int) (2 : Int) (1 : Int) (9 : Int) (64 : Int) z14.2.1 z14.2.2.1 z14.2.2.2.1 z14.2.2.2.2.1 z14.2.2.2.2.2 z2.2.2.2.2.2.2.2.2.2.2.2.1) fun z20 =>
             (.bb (z2.2.2.2.2.2.2.2.2.2.1 == (2 : Int))
              (.opt (journal_Journal_Whole.c z2.2.2.2.2.2.2.1 z2.2.2.2.2.2.2.2.1 z2.2.2.2.2.2.2.2.2.1 z2.2.2.2.2.2.2.2.2.2.1 z2.2.2.2.2.2.2.2.2.2.2.1 (64 : Int) (2 : Int) (5 : Int) (2 : Int) (1 : Int) (9 : Int) (64 : Int) z14.2.1 z14.2.2.1 z14.2.2.2.1 z14.2.2.2.2.1 z14.2.2.2.2.2 z2.2.2.2.2.2.2.2.2.2.2.2.1) fun z21 =>
               (.opt (ref01_Same.c z21 ((5 : Int) :: ([] : List (Int)))) fun z22 =>
                (.bb z22
                 (.bb ((((List.length z19) : Nat) : Int) == (1 : Int))
                  (.dd ((((0 : Int) ≤ (0 : Int)) ∧ ((0 : Int) < (((List.length z19) : Nat) : Int)))) inferInstance
                   (.opt (z19)[(Int.toNat (0 : Int))]? fun z23 =>
                    (.opt (ref01_Same.c z23 ((7 : Int) :: ([] : List (Int)))) fun z24 =>
                     (.ret z24)))
                   .no)
                  (.ret false))
                 (.ret false))))
              (.ret false)))
            (.ret false))))))))))
   (fun z3 => (.sm z3
     (fun z25 => (.bb (!z25.1)
       (.ret false)
       (.opt (journal_Journal_Change.c ((7 : Int) :: ([] : List (Int))) ((6 : Int) :: ([] : List (Int))) z25.2.2.2.2.2.2.1 z25.2.2.2.2.2.2.2.1 z25.2.2.2.2.2.2.2.2.1 z25.2.2.2.2.2.2.2.2.2.1 z25.2.2.2.2.2.2.2.2.2.2.1 (64 : Int) (2 : Int) (5 : Int) (2 : Int) (1 : Int) (9 : Int) (64 : Int) z25.2.1 z25.2.2.1 z25.2.2.2.1 z25.2.2.2.2.1 z25.2.2.2.2.2.1 z25.2.2.2.2.2.2.2.2.2.2.2) fun z27 =>
        (.sm z27
         (fun z28 => (.opt (journal_Journal_Changes.c z28.2.1 z28.2.2.1 z28.2.2.2.1 z28.2.2.2.2.1 z25.2.2.2.2.2.2.2.2.2.2.1 (64 : Int) (2 : Int) (5 : Int) (2 : Int) (1 : Int) (9 : Int) (64 : Int) z28.2.2.2.2.2.1 z28.2.2.2.2.2.2.1 z28.2.2.2.2.2.2.2.1 z28.2.2.2.2.2.2.2.2.1 z28.2.2.2.2.2.2.2.2.2.1 z28.2.2.2.2.2.2.2.2.2.2) fun z30 =>
           (.bb (z28.1 == (0 : Int))
            (.opt (journal_Journal_Seq.c z28.2.1 z28.2.2.1 z28.2.2.2.1 z28.2.2.2.2.1 z25.2.2.2.2.2.2.2.2.2.2.1 (64 : Int) (2 : Int) (5 : Int) (2 : Int) (1 : Int) (9 : Int) (64 : Int) z28.2.2.2.2.2.1 z28.2.2.2.2.2.2.1 z28.2.2.2.2.2.2.2.1 z28.2.2.2.2.2.2.2.2.1 z28.2.2.2.2.2.2.2.2.2.1 z28.2.2.2.2.2.2.2.2.2.2) fun z31 =>
             (.bb (z28.2.2.2.2.1 == (2 : Int))
              (.opt (journal_Journal_Whole.c z28.2.1 z28.2.2.1 z28.2.2.2.1 z28.2.2.2.2.1 z25.2.2.2.2.2.2.2.2.2.2.1 (64 : Int) (2 : Int) (5 : Int) (2 : Int) (1 : Int) (9 : Int) (64 : Int) z28.2.2.2.2.2.1 z28.2.2.2.2.2.2.1 z28.2.2.2.2.2.2.2.1 z28.2.2.2.2.2.2.2.2.1 z28.2.2.2.2.2.2.2.2.2.1 z28.2.2.2.2.2.2.2.2.2.2) fun z32 =>
               (.opt (ref01_Same.c z32 ((5 : Int) :: ([] : List (Int)))) fun z33 =>
                (.bb z33
                 (.bb ((((List.length z30) : Nat) : Int) == (1 : Int))
                  (.dd ((((0 : Int) ≤ (0 : Int)) ∧ ((0 : Int) < (((List.length z30) : Nat) : Int)))) inferInstance
                   (.opt (z30)[(Int.toNat (0 : Int))]? fun z34 =>
                    (.opt (ref01_Same.c z34 ((7 : Int) :: ([] : List (Int)))) fun z35 =>
                     (.ret z35)))
                   .no)
                  (.ret false))
                 (.ret false))))
              (.ret false)))
            (.ret false))))
         (fun z29 => (.sm z29
           (fun z36 => (.opt (journal_Journal_Changes_v2.c z36.2.1 z36.2.2.1 z36.2.2.2.1 z36.2.2.2.2.1 z36.2.2.2.2.2.1 (64 : Int) (2 : Int) (5 : Int) (2 : Int) (1 : Int) (9 : Int) (64 : Int) z36.2.2.2.2.2.2.1 z36.2.2.2.2.2.2.2.1 z36.2.2.2.2.2.2.2.2.1 z36.2.2.2.2.2.2.2.2.2.1 z36.2.2.2.2.2.2.2.2.2.2) fun z38 =>
             (.bb (z36.1 == (0 : Int))
              (.opt (journal_Journal_Seq_v2.c z36.2.1 z36.2.2.1 z36.2.2.2.1 z36.2.2.2.2.1 z36.2.2.2.2.2.1 (64 : Int) (2 : Int) (5 : Int) (2 : Int) (1 : Int) (9 : Int) (64 : Int) z36.2.2.2.2.2.2.1 z36.2.2.2.2.2.2.2.1 z36.2.2.2.2.2.2.2.2.1 z36.2.2.2.2.2.2.2.2.2.1 z36.2.2.2.2.2.2.2.2.2.2) fun z39 =>
               (.bb (z36.2.2.2.2.1 == (2 : Int))
                (.opt (journal_Journal_Whole_v2.c z36.2.1 z36.2.2.1 z36.2.2.2.1 z36.2.2.2.2.1 z36.2.2.2.2.2.1 (64 : Int) (2 : Int) (5 : Int) (2 : Int) (1 : Int) (9 : Int) (64 : Int) z36.2.2.2.2.2.2.1 z36.2.2.2.2.2.2.2.1 z36.2.2.2.2.2.2.2.2.1 z36.2.2.2.2.2.2.2.2.2.1 z36.2.2.2.2.2.2.2.2.2.2) fun z40 =>
                 (.opt (ref01_Same.c z40 ((5 : Int) :: ([] : List (Int)))) fun z41 =>
                  (.bb z41
                   (.ret false)
                   (.ret false))))
                (.ret false)))
              (.ret false))))
           (fun z37 => (.opt (journal_Journal_Changes.c z25.2.2.2.2.2.2.1 z25.2.2.2.2.2.2.2.1 z25.2.2.2.2.2.2.2.2.1 z25.2.2.2.2.2.2.2.2.2.1 z25.2.2.2.2.2.2.2.2.2.2.1 (64 : Int) (2 : Int) (5 : Int) (2 : Int) (1 : Int) (9 : Int) (64 : Int) z37.2.1 z37.2.2.1 z37.2.2.2.1 z37.2.2.2.2.1 z37.2.2.2.2.2 z25.2.2.2.2.2.2.2.2.2.2.2) fun z42 =>
             (.bb (z37.1 == (0 : Int))
              (.opt (journal_Journal_Seq.c z25.2.2.2.2.2.2.1 z25.2.2.2.2.2.2.2.1 z25.2.2.2.2.2.2.2.2.1 z25.2.2.2.2.2.2.2.2.2.1 z25.2.2.2.2.2.2.2.2.2.2.1 (64 : Int) (2 : Int) (5 : Int) (2 : Int) (1 : Int) (9 : Int) (64 : Int) z37.2.1 z37.2.2.1 z37.2.2.2.1 z37.2.2.2.2.1 z37.2.2.2.2.2 z25.2.2.2.2.2.2.2.2.2.2.2) fun z43 =>
               (.bb (z25.2.2.2.2.2.2.2.2.2.1 == (2 : Int))
                (.opt (journal_Journal_Whole.c z25.2.2.2.2.2.2.1 z25.2.2.2.2.2.2.2.1 z25.2.2.2.2.2.2.2.2.1 z25.2.2.2.2.2.2.2.2.2.1 z25.2.2.2.2.2.2.2.2.2.2.1 (64 : Int) (2 : Int) (5 : Int) (2 : Int) (1 : Int) (9 : Int) (64 : Int) z37.2.1 z37.2.2.1 z37.2.2.2.1 z37.2.2.2.2.1 z37.2.2.2.2.2 z25.2.2.2.2.2.2.2.2.2.2.2) fun z44 =>
                 (.opt (ref01_Same.c z44 ((5 : Int) :: ([] : List (Int)))) fun z45 =>
                  (.bb z45
                   (.bb ((((List.length z42) : Nat) : Int) == (1 : Int))
                    (.dd ((((0 : Int) ≤ (0 : Int)) ∧ ((0 : Int) < (((List.length z42) : Nat) : Int)))) inferInstance
                     (.opt (z42)[(Int.toNat (0 : Int))]? fun z46 =>
                      (.opt (ref01_Same.c z46 ((7 : Int) :: ([] : List (Int)))) fun z47 =>
                       (.ret z47)))
                     .no)
                    (.ret false))
                   (.ret false))))
                (.ret false)))
              (.ret false))))))))))
     (fun z26 => (.sm z26
       (fun z48 => (.bb (!z48.1)
         (.ret false)
         (.ret false)))
       (fun z49 => (.sm z49
         (fun z50 => (.bb (!z50.1)
           (.ret false)
           (.ret false)))
         (fun z51 => (.sm z51
           (fun z52 => (.bb (!z52)
             (.ret false)
             (.ret false)))
           (fun z53 => (.sm z53
             (fun z54 => (.bb (!z54.1)
               (.ret false)
               (.ret false)))
             (fun z55 => (.sm z55
               (fun z56 => (.bb (!z56.1)
                 (.ret false)
                 (.ret false)))
               (fun z57 => (.bb (!z57.1)
                 (.ret false)
                 (.ret false)))))))))))))))))
noncomputable def c : Option Bool := (t).run
def pA : Pt := .nl
def pH : Pt := .nl
def v (l : TA) (y : Bool) : AV U := .im (.bool y)
def hh (l : TA) (y : Bool) : Hp U := []
noncomputable def A : AFun U := mkA (U := U) pA pH (X := Bool) (fun (l : TA) => c) sp1 v hh
noncomputable def body : Code := (Go.Func.body Try.f7).getD .skip
noncomputable def Γ : List (FuncId × AFun U) := [(30, law11_begin.A), (13, journal_Journal_Change.A), (11, (orA journal_Journal_Changes.pA journal_Journal_Changes.pH journal_Journal_Changes.A journal_Journal_Changes_v2.A)), (9, (orA journal_Journal_Seq.pA journal_Journal_Seq.pH journal_Journal_Seq.A journal_Journal_Seq_v2.A)), (10, (orA journal_Journal_Whole.pA journal_Journal_Whole.pH journal_Journal_Whole.A journal_Journal_Whole_v2.A)), (31, ref01_Same.A)]
noncomputable def Λ : List (Nat × LFun U) := []
noncomputable def CT : List (Nat × LFun U) := []
def ro : List FuncId := [11, 9, 10]
def D : Nat → Lv × Lv := dtab []
noncomputable def E : Env U := { E0 with Γ := Γ, Λ := Λ, C := CT, D := D, ro := ro }
theorem hk (R : Type) (l : TA) (K : AV U → Hp U → Option R) : funcA E Try.f7 [] R (pA.mkL l.1) (pH.mkH l.2) K = (t).runK fun y => K (v l y) (hh l y) := by kernel_rfl
theorem okF : SoundF Try.prog cc 7 (funcA E Try.f7 []) :=
  funcA_ok (E := E) P_mixed (E0_ok.with Γ Λ CT D ro) (gam_of (all_cons ⟨law11_begin.ok, ⟨Try.f30, Try.func30, by kernel_rfl, by kernel_rfl⟩⟩ (all_cons ⟨journal_Journal_Change.ok, ⟨Try.f13, Try.func13, by kernel_rfl, by kernel_rfl⟩⟩ (all_cons ⟨(orA_ok journal_Journal_Changes.ok journal_Journal_Changes_v2.ok), ⟨Try.f11, Try.func11, by kernel_rfl, by kernel_rfl⟩⟩ (all_cons ⟨(orA_ok journal_Journal_Seq.ok journal_Journal_Seq_v2.ok), ⟨Try.f9, Try.func9, by kernel_rfl, by kernel_rfl⟩⟩ (all_cons ⟨(orA_ok journal_Journal_Whole.ok journal_Journal_Whole_v2.ok), ⟨Try.f10, Try.func10, by kernel_rfl, by kernel_rfl⟩⟩ (all_cons ⟨ref01_Same.ok, ⟨Try.f31, Try.func31, by kernel_rfl, by kernel_rfl⟩⟩ all_nil)))))) (all_cons (no_keep (by kernel_rfl)) (all_cons (no_keep (by kernel_rfl)) (all_cons (fun _ => (orA_keep journal_Journal_Changes.keep journal_Journal_Changes_v2.keep)) (all_cons (fun _ => (orA_keep journal_Journal_Seq.keep journal_Journal_Seq_v2.keep)) (all_cons (fun _ => (orA_keep journal_Journal_Whole.keep journal_Journal_Whole_v2.keep)) (all_cons (no_keep (by kernel_rfl)) all_nil))))))) Try.func7 (c := body) (by kernel_rfl)
    (just_by (by kernel_rfl) (by kernel_rfl) all_nil all_nil) []
theorem ok : SoundF Try.prog cc 7 A :=
  mkA_ok (E := E) (p := pA) (q := pH) (t := fun (l : TA) => t) sp1_ok hk okF
theorem keep : KeepA A := mkA_keep (U := U) sp1_ok (fun (l : TA) y => ⟨(hh l y).drop 0, by kernel_rfl⟩)
end law11_awake

end Go.Proofs.Ytkoidgjgdhpdnaa.Va
