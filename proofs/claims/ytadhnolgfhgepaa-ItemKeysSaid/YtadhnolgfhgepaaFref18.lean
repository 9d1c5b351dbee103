/- The functions of package ref18, as plain functions, and that the program computes them. Printed by a program of this work out of the evaluator. -/
import Derived.Test.YtadhnolgfhgepaaEn
import Derived.Tactics
namespace Go.Proofs.Ytadhnolgfhgepaa.Va
open Go
set_option linter.unusedVariables false
set_option maxRecDepth 100000

/-! instar/instarref18.Told -/
namespace ref18_Told
abbrev TA : Type := ((Int × Unit) × Unit)
noncomputable def t (k : Int) : Tw (Int × (Int × Int)) :=
 (.ret ((w64 ((w64 (w32 (Int.tdiv k (16777216 : Int)))) - (1 : Int))), ((w64 (w32 (Int.tdiv (Int.tmod k (16777216 : Int)) (65536 : Int)))), (w64 (Int.tmod k (65536 : Int))))))
noncomputable def c (k : Int) : Option (Int × (Int × Int)) := (t k).run
def pA : Pt := (.cs (.int .u32) .nl)
def pH : Pt := .nl
def v (l : TA) (y : (Int × (Int × Int))) : AV U := .tup [.im (.int .i64 y.1), .im (.int .i64 y.2.1), .im (.int .i64 y.2.2)]
def hh (l : TA) (y : (Int × (Int × Int))) : Hp U := []
noncomputable def A : AFun U := mkA (U := U) pA pH (X := (Int × (Int × Int))) (fun (l : TA) => c l.1.1) sp1 v hh
noncomputable def body : Code := (Go.Func.body Try.f38).getD .skip
noncomputable def Γ : List (FuncId × AFun U) := []
noncomputable def Λ : List (Nat × LFun U) := []
def D : Nat → Lv × Lv := dtab []
noncomputable def E : Env U := { E0 with Γ := Γ, Λ := Λ, C := [], D := D }
theorem hk (R : Type) (l : TA) (K : AV U → Hp U → Option R) : funcA E Try.f38 [] R (pA.mkL l.1) (pH.mkH l.2) K = (t l.1.1).runK fun y => K (v l y) (hh l y) := by kernel_rfl
theorem okF : SoundF Try.prog cc 38 (funcA E Try.f38 []) :=
  funcA_ok (E := E) P_mixed (E0_ok.with Γ Λ [] D) (gam_of all_nil) Try.func38 (c := body) (by kernel_rfl)
    (just_by (by kernel_rfl) (by kernel_rfl) all_nil all_nil) []
theorem ok : SoundF Try.prog cc 38 A :=
  mkA_ok (E := E) (p := pA) (q := pH) (t := fun (l : TA) => t l.1.1) sp1_ok hk okF
end ref18_Told

/-! instar/instarref18.Fits -/
namespace ref18_Fits
abbrev TA : Type := ((Int × (Int × Unit)) × Unit)
noncomputable def t (form : Int) (id : Int) : Tw Bool :=
 (.bb (decide (form ≥ (0 : Int)))
  (.bb (decide (form ≤ (200 : Int)))
   (.bb (decide (id ≥ (0 : Int)))
    (.ret (decide (id ≤ (65535 : Int))))
    (.ret false))
   (.ret false))
  (.ret false))
noncomputable def c (form : Int) (id : Int) : Option Bool := (t form id).run
def pA : Pt := (.cs (.int .i64) (.cs (.int .i64) .nl))
def pH : Pt := .nl
def v (l : TA) (y : Bool) : AV U := .im (.bool y)
def hh (l : TA) (y : Bool) : Hp U := []
noncomputable def A : AFun U := mkA (U := U) pA pH (X := Bool) (fun (l : TA) => c l.1.1 l.1.2.1) sp1 v hh
noncomputable def body : Code := (Go.Func.body Try.f39).getD .skip
noncomputable def Γ : List (FuncId × AFun U) := []
noncomputable def Λ : List (Nat × LFun U) := []
def D : Nat → Lv × Lv := dtab []
noncomputable def E : Env U := { E0 with Γ := Γ, Λ := Λ, C := [], D := D }
theorem hk (R : Type) (l : TA) (K : AV U → Hp U → Option R) : funcA E Try.f39 [] R (pA.mkL l.1) (pH.mkH l.2) K = (t l.1.1 l.1.2.1).runK fun y => K (v l y) (hh l y) := by kernel_rfl
theorem okF : SoundF Try.prog cc 39 (funcA E Try.f39 []) :=
  funcA_ok (E := E) P_mixed (E0_ok.with Γ Λ [] D) (gam_of all_nil) Try.func39 (c := body) (by kernel_rfl)
    (just_by (by kernel_rfl) (by kernel_rfl) all_nil all_nil) []
theorem ok : SoundF Try.prog cc 39 A :=
  mkA_ok (E := E) (p := pA) (q := pH) (t := fun (l : TA) => t l.1.1 l.1.2.1) sp1_ok hk okF
end ref18_Fits

/-! instar/instarref18.Main -/
namespace ref18_Main
abbrev TA : Type := ((Int × (Int × Unit)) × Unit)
noncomputable def t (form : Int) (id : Int) : Tw Int :=
 (.ret (w32 ((w32 ((w32 form) * (65536 : Int))) + (w32 id))))
noncomputable def c (form : Int) (id : Int) : Option Int := (t form id).run
def pA : Pt := (.cs (.int .i64) (.cs (.int .i64) .nl))
def pH : Pt := .nl
def v (l : TA) (y : Int) : AV U := .im (.int .u32 y)
def hh (l : TA) (y : Int) : Hp U := []
noncomputable def A : AFun U := mkA (U := U) pA pH (X := Int) (fun (l : TA) => c l.1.1 l.1.2.1) sp1 v hh
noncomputable def body : Code := (Go.Func.body Try.f41).getD .skip
noncomputable def Γ : List (FuncId × AFun U) := []
noncomputable def Λ : List (Nat × LFun U) := []
def D : Nat → Lv × Lv := dtab []
noncomputable def E : Env U := { E0 with Γ := Γ, Λ := Λ, C := [], D := D }
theorem hk (R : Type) (l : TA) (K : AV U → Hp U → Option R) : funcA E Try.f41 [] R (pA.mkL l.1) (pH.mkH l.2) K = (t l.1.1 l.1.2.1).runK fun y => K (v l y) (hh l y) := by kernel_rfl
theorem okF : SoundF Try.prog cc 41 (funcA E Try.f41 []) :=
  funcA_ok (E := E) P_mixed (E0_ok.with Γ Λ [] D) (gam_of all_nil) Try.func41 (c := body) (by kernel_rfl)
    (just_by (by kernel_rfl) (by kernel_rfl) all_nil all_nil) []
theorem ok : SoundF Try.prog cc 41 A :=
  mkA_ok (E := E) (p := pA) (q := pH) (t := fun (l : TA) => t l.1.1 l.1.2.1) sp1_ok hk okF
end ref18_Main

/-! instar/instarref18.Side -/
namespace ref18_Side
abbrev TA : Type := ((Int × (Int × (Int × Unit))) × Unit)
noncomputable def t (n : Int) (form : Int) (id : Int) : Tw Int :=
 (.opt (ref18_Main.c form id) fun z1 =>
  (.ret (w32 ((w32 ((w32 (w64 (n + (1 : Int)))) * (16777216 : Int))) + z1))))
noncomputable def c (n : Int) (form : Int) (id : Int) : Option Int := (t n form id).run
def pA : Pt := (.cs (.int .i64) (.cs (.int .i64) (.cs (.int .i64) .nl)))
def pH : Pt := .nl
def v (l : TA) (y : Int) : AV U := .im (.int .u32 y)
def hh (l : TA) (y : Int) : Hp U := []
noncomputable def A : AFun U := mkA (U := U) pA pH (X := Int) (fun (l : TA) => c l.1.1 l.1.2.1 l.1.2.2.1) sp1 v hh
noncomputable def body : Code := (Go.Func.body Try.f42).getD .skip
noncomputable def Γ : List (FuncId × AFun U) := [(41, ref18_Main.A)]
noncomputable def Λ : List (Nat × LFun U) := []
def D : Nat → Lv × Lv := dtab []
noncomputable def E : Env U := { E0 with Γ := Γ, Λ := Λ, C := [], D := D }
theorem hk (R : Type) (l : TA) (K : AV U → Hp U → Option R) : funcA E Try.f42 [] R (pA.mkL l.1) (pH.mkH l.2) K = (t l.1.1 l.1.2.1 l.1.2.2.1).runK fun y => K (v l y) (hh l y) := by kernel_rfl
theorem okF : SoundF Try.prog cc 42 (funcA E Try.f42 []) :=
  funcA_ok (E := E) P_mixed (E0_ok.with Γ Λ [] D) (gam_of (all_cons ⟨ref18_Main.ok, ⟨Try.f41, Try.func41, by kernel_rfl, by kernel_rfl⟩⟩ all_nil)) Try.func42 (c := body) (by kernel_rfl)
    (just_by (by kernel_rfl) (by kernel_rfl) all_nil all_nil) []
theorem ok : SoundF Try.prog cc 42 A :=
  mkA_ok (E := E) (p := pA) (q := pH) (t := fun (l : TA) => t l.1.1 l.1.2.1 l.1.2.2.1) sp1_ok hk okF
end ref18_Side

/-! instar/instarref18.Right -/
namespace ref18_Right
abbrev TA : Type := (((List ItemV) × Unit) × Unit)
abbrev T2 : Type := (((List ItemV) × (Unit × (Int × (Unit × Unit)))) × Unit)
noncomputable def l2 (l_ : (List ItemV)) (i : Int) : Tw (Int ⊕ (Unit ⊕ Bool)) :=
 (.bb (decide (i < (((List.length l_) : Nat) : Int)))
  (.dd (((0 : Int) ≤ i)) inferInstance
   (.opt (l_)[(Int.toNat i)]? fun z1 =>
    (.bb (decide ((((ByteArray.size z1.data) : Nat) : Int) > (64 : Int)))
     (.ret (.inr (.inr false)))
     (.bb (decide (i > (0 : Int)))
      (.dd (((0 : Int) ≤ (w64 (i - (1 : Int))))) inferInstance
       (.opt (l_)[(Int.toNat (w64 (i - (1 : Int))))]? fun z2 =>
        (.dd (((0 : Int) ≤ i)) inferInstance
         (.opt (l_)[(Int.toNat i)]? fun z3 =>
          (.bb (decide (z2.key ≥ z3.key))
           (.ret (.inr (.inr false)))
           (.ret (.inl (w64 (i + (1 : Int)))))))
         .no))
       .no)
      (.ret (.inl (w64 (i + (1 : Int))))))))
   .no)
  (.ret (.inr (.inl ()))))
noncomputable def L2 (l_ : (List ItemV)) (i : Int) : Option (Unit ⊕ Bool) := Lp (fun s => (l2 l_ s).run) i
def p2 : Pt := (.cs (.sl 10) (.cs (.bots 2) (.cs (.int .i64) (.cs (.bots 31) .nl))))
def q2 : Pt := .nl
def ou2 (l : T2) (y : (Unit ⊕ Bool)) : Ex × St U := (Sum.elim (fun a0 => (.exit 0, stOf 35 [] [] 0)) (fun b0 => (.ret, stOf 35 [(2, .im (.bool b0))] [] 0)) y)
noncomputable def Λ2 : LFun U := mkLp (U := U) p2 q2 0 (X := (Unit ⊕ Bool)) (fun (l : T2) => L2 l.1.1 l.1.2.2.1) (spS sp1) ou2
noncomputable def t (l_ : (List ItemV)) : Tw Bool :=
 (.opt (L2 l_ (0 : Int)) fun z4 =>
  (.sm z4
   (fun z5 => (.ret true))
   (fun z6 => (.ret z6))))
noncomputable def c (l_ : (List ItemV)) : Option Bool := (t l_).run
def pA : Pt := (.cs (.sl 10) .nl)
def pH : Pt := .nl
def v (l : TA) (y : Bool) : AV U := .im (.bool y)
def hh (l : TA) (y : Bool) : Hp U := []
noncomputable def A : AFun U := mkA (U := U) pA pH (X := Bool) (fun (l : TA) => c l.1.1) sp1 v hh
noncomputable def body : Code := (Go.Func.body Try.f49).getD .skip
noncomputable def Γ : List (FuncId × AFun U) := []
noncomputable def Λ : List (Nat × LFun U) := [(2, Λ2)]
def D : Nat → Lv × Lv := dtab [(2, ⟨[3, 0], []⟩, ⟨[2], []⟩)]
noncomputable def E : Env U := { E0 with Γ := Γ, Λ := Λ, C := [], D := D }
theorem hf2 (R : Type) (l : T2) (s : Int) (K : Ex → St U → Option R) : codeA E (pick (loopsOf body) 2) ⟨p2.mkL (((l.1.1, ((), (s, ((), ())))), ()) : T2).1, q2.mkH (((l.1.1, ((), (s, ((), ())))), ()) : T2).2, 0⟩ (roundK E (pick (loopsOf body) 2) K) =
  (l2 l.1.1 s).runK (lpK K (fun s => ⟨p2.mkL (((l.1.1, ((), (s, ((), ())))), ()) : T2).1, q2.mkH (((l.1.1, ((), (s, ((), ())))), ()) : T2).2, 0⟩) (spS sp1) (ou2 l)) := by kernel_rfl
theorem lk2 (R : Type) (st : St U) (K : Ex → St U → Option R) (r : R) (h : Λ2 R st K = some r) : ∃ n, loopA E (pick (loopsOf body) 2) n st K = some r :=
  lp_ok (U := U) (E := E) (b := pick (loopsOf body) 2) (m := 0) (sp := (spS sp1)) (p := p2) (q := q2) (X := (Unit ⊕ Bool)) (S := Int) (f := fun (l : T2) s => l2 l.1.1 s) (hd := fun (l : T2) s => ((l.1.1, ((), (s, ((), ())))), ())) (s0 := fun (l : T2) => l.1.2.2.1) (ou := ou2)
    (fun l => rfl) (fun l x => by repeat' (first | rfl | (cases x with | inl => rfl | inr x => ?_))) (spS_ok sp1_ok) hf2 h
theorem hk (R : Type) (l : TA) (K : AV U → Hp U → Option R) : funcA E Try.f49 [] R (pA.mkL l.1) (pH.mkH l.2) K = (t l.1.1).runK fun y => K (v l y) (hh l y) := by kernel_rfl
theorem okF : SoundF Try.prog cc 49 (funcA E Try.f49 []) :=
  funcA_ok (E := E) P_mixed (E0_ok.with Γ Λ [] D) (gam_of all_nil) Try.func49 (c := body) (by kernel_rfl)
    (just_by (by kernel_rfl) (by kernel_rfl) (all_cons lk2 all_nil) all_nil) []
theorem ok : SoundF Try.prog cc 49 A :=
  mkA_ok (E := E) (p := pA) (q := pH) (t := fun (l : TA) => t l.1.1) sp1_ok hk okF
end ref18_Right

/-! instar/instarref18.Find -/
namespace ref18_Find
abbrev TA : Type := (((List ItemV) × (Int × Unit)) × Unit)
abbrev T2 : Type := (((List ItemV) × (Int × (Unit × (Int × (Unit × Unit))))) × Unit)
noncomputable def l2 (l_ : (List ItemV)) (k : Int) (i : Int) : Tw (Int ⊕ (Unit ⊕ (ByteArray × Bool))) :=
 (.bb (decide (i < (((List.length l_) : Nat) : Int)))
  (.dd (((0 : Int) ≤ i)) inferInstance
   (.opt (l_)[(Int.toNat i)]? fun z1 =>
    (.bb (z1.key == k)
     (.dd (((0 : Int) ≤ i)) inferInstance
      (.opt (l_)[(Int.toNat i)]? fun z2 =>
       (.ret (.inr (.inr (z2.data, true)))))
      .no)
     (.ret (.inl (w64 (i + (1 : Int)))))))
   .no)
  (.ret (.inr (.inl ()))))
noncomputable def L2 (l_ : (List ItemV)) (k : Int) (i : Int) : Option (Unit ⊕ (ByteArray × Bool)) := Lp (fun s => (l2 l_ k s).run) i
def p2 : Pt := (.cs (.sl 10) (.cs (.int .u32) (.cs (.bots 4) (.cs (.int .i64) (.cs (.bots 18) .nl)))))
def q2 : Pt := .nl
def ou2 (l : T2) (y : (Unit ⊕ (ByteArray × Bool))) : Ex × St U := (Sum.elim (fun a0 => (.exit 0, stOf 25 [] [] 0)) (fun b0 => (.ret, stOf 25 [(4, .im (.str b0.1)), (5, .im (.bool b0.2))] [] 0)) y)
noncomputable def Λ2 : LFun U := mkLp (U := U) p2 q2 0 (X := (Unit ⊕ (ByteArray × Bool))) (fun (l : T2) => L2 l.1.1 l.1.2.1 l.1.2.2.2.1) (spS sp1) ou2
noncomputable def t (l_ : (List ItemV)) (k : Int) : Tw (ByteArray × Bool) :=
 (.opt (L2 l_ k (0 : Int)) fun z3 =>
  (.sm z3
   (fun z4 => (.ret ((ByteArray.mk (List.toArray [])), false)))
   (fun z5 => (.ret (z5.1, z5.2)))))
noncomputable def c (l_ : (List ItemV)) (k : Int) : Option (ByteArray × Bool) := (t l_ k).run
def pA : Pt := (.cs (.sl 10) (.cs (.int .u32) .nl))
def pH : Pt := .nl
def v (l : TA) (y : (ByteArray × Bool)) : AV U := .tup [.im (.str y.1), .im (.bool y.2)]
def hh (l : TA) (y : (ByteArray × Bool)) : Hp U := []
noncomputable def A : AFun U := mkA (U := U) pA pH (X := (ByteArray × Bool)) (fun (l : TA) => c l.1.1 l.1.2.1) sp1 v hh
noncomputable def body : Code := (Go.Func.body Try.f63).getD .skip
noncomputable def Γ : List (FuncId × AFun U) := []
noncomputable def Λ : List (Nat × LFun U) := [(2, Λ2)]
def D : Nat → Lv × Lv := dtab [(2, ⟨[6, 0, 1], []⟩, ⟨[4, 5], []⟩)]
noncomputable def E : Env U := { E0 with Γ := Γ, Λ := Λ, C := [], D := D }
theorem hf2 (R : Type) (l : T2) (s : Int) (K : Ex → St U → Option R) : codeA E (pick (loopsOf body) 2) ⟨p2.mkL (((l.1.1, (l.1.2.1, ((), (s, ((), ()))))), ()) : T2).1, q2.mkH (((l.1.1, (l.1.2.1, ((), (s, ((), ()))))), ()) : T2).2, 0⟩ (roundK E (pick (loopsOf body) 2) K) =
  (l2 l.1.1 l.1.2.1 s).runK (lpK K (fun s => ⟨p2.mkL (((l.1.1, (l.1.2.1, ((), (s, ((), ()))))), ()) : T2).1, q2.mkH (((l.1.1, (l.1.2.1, ((), (s, ((), ()))))), ()) : T2).2, 0⟩) (spS sp1) (ou2 l)) := by kernel_rfl
theorem lk2 (R : Type) (st : St U) (K : Ex → St U → Option R) (r : R) (h : Λ2 R st K = some r) : ∃ n, loopA E (pick (loopsOf body) 2) n st K = some r :=
  lp_ok (U := U) (E := E) (b := pick (loopsOf body) 2) (m := 0) (sp := (spS sp1)) (p := p2) (q := q2) (X := (Unit ⊕ (ByteArray × Bool))) (S := Int) (f := fun (l : T2) s => l2 l.1.1 l.1.2.1 s) (hd := fun (l : T2) s => ((l.1.1, (l.1.2.1, ((), (s, ((), ()))))), ())) (s0 := fun (l : T2) => l.1.2.2.2.1) (ou := ou2)
    (fun l => rfl) (fun l x => by repeat' (first | rfl | (cases x with | inl => rfl | inr x => ?_))) (spS_ok sp1_ok) hf2 h
theorem hk (R : Type) (l : TA) (K : AV U → Hp U → Option R) : funcA E Try.f63 [] R (pA.mkL l.1) (pH.mkH l.2) K = (t l.1.1 l.1.2.1).runK fun y => K (v l y) (hh l y) := by kernel_rfl
theorem okF : SoundF Try.prog cc 63 (funcA E Try.f63 []) :=
  funcA_ok (E := E) P_mixed (E0_ok.with Γ Λ [] D) (gam_of all_nil) Try.func63 (c := body) (by kernel_rfl)
    (just_by (by kernel_rfl) (by kernel_rfl) (all_cons lk2 all_nil) all_nil) []
theorem ok : SoundF Try.prog cc 63 A :=
  mkA_ok (E := E) (p := pA) (q := pH) (t := fun (l : TA) => t l.1.1 l.1.2.1) sp1_ok hk okF
end ref18_Find

/-! instar/instarref18.Cut -/
namespace ref18_Cut
abbrev TA : Type := (((List ItemV) × (Int × Unit)) × Unit)
abbrev T3 : Type := (((List ItemV) × (Int × (Unit × (Unit × (Int × (Unit × Unit)))))) × ((List ItemV) × Unit))
noncomputable def l3 (l_ : (List ItemV)) (k : Int) (i : Int) (h0 : (List ItemV)) : Tw ((Int × (List ItemV)) ⊕ (List ItemV)) :=
 (.bb (decide (i < (((List.length l_) : Nat) : Int)))
  (.dd (((0 : Int) ≤ i)) inferInstance
   (.opt (l_)[(Int.toNat i)]? fun z1 =>
    (.bb (z1.key != k)
     (.dd (((0 : Int) ≤ i)) inferInstance
      (.opt (l_)[(Int.toNat i)]? fun z2 =>
       (.dd ((((((List.length h0) + (List.length ((Go.Proofs.Ytadhnolgfhgepaa.Va.ItemV.mk z2.key z2.data) :: []))) * (24 : Nat)) ≤ (140737488355328 : Nat)) ∧ (((List.length h0) + (List.length ((Go.Proofs.Ytadhnolgfhgepaa.Va.ItemV.mk z2.key z2.data) :: []))) ≤ (140737488355328 : Nat)))) inferInstance
        (.ret (.inl ((w64 (i + (1 : Int))), (h0 ++ ((Go.Proofs.Ytadhnolgfhgepaa.Va.ItemV.mk z2.key z2.data) :: [])))))
        .no))
      .no)
     (.ret (.inl ((w64 (i + (1 : Int))), h0)))))
   .no)
  (.ret (.inr h0)))
noncomputable def L3 (l_ : (List ItemV)) (k : Int) (i : Int) (h0 : (List ItemV)) : Option (List ItemV) := Lp (fun s => (l3 l_ k s.1 s.2).run) (i, h0)
def p3 : Pt := (.cs (.sl 10) (.cs (.int .u32) (.cs (.bots 4) (.cs (.own 0) (.cs (.int .i64) (.cs (.bots 26) .nl))))))
def q3 : Pt := (.cs (.row 10 true) .nl)
def ou3 (l : T3) (y : (List ItemV)) : Ex × St U := (.exit 0, stOf 34 [(0, .im (.slice 10 l.1.1)), (6, .own 0)] [.row 10 y true] 0)
noncomputable def Λ3 : LFun U := mkLp (U := U) p3 q3 0 (X := (List ItemV)) (fun (l : T3) => L3 l.1.1 l.1.2.1 l.1.2.2.2.2.1 l.2.1) sp1 ou3
noncomputable def t (l_ : (List ItemV)) (k : Int) : Tw (Bool × (List ItemV)) :=
 (.opt (L3 l_ k (0 : Int) []) fun z3 =>
  (.ret ((decide ((((List.length z3) : Nat) : Int) < (((List.length l_) : Nat) : Int))), z3)))
noncomputable def c (l_ : (List ItemV)) (k : Int) : Option (Bool × (List ItemV)) := (t l_ k).run
def pA : Pt := (.cs (.sl 10) (.cs (.int .u32) .nl))
def pH : Pt := .nl
def v (l : TA) (y : (Bool × (List ItemV))) : AV U := .tup [.own 0, .im (.bool y.1)]
def hh (l : TA) (y : (Bool × (List ItemV))) : Hp U := [.row 10 y.2 true]
noncomputable def A : AFun U := mkA (U := U) pA pH (X := (Bool × (List ItemV))) (fun (l : TA) => c l.1.1 l.1.2.1) sp1 v hh
noncomputable def body : Code := (Go.Func.body Try.f64).getD .skip
noncomputable def Γ : List (FuncId × AFun U) := []
noncomputable def Λ : List (Nat × LFun U) := [(3, Λ3)]
def D : Nat → Lv × Lv := dtab [(3, ⟨[7, 0, 6, 1], [(6, [], .own 10)]⟩, ⟨[4, 5, 0, 6], []⟩)]
noncomputable def E : Env U := { E0 with Γ := Γ, Λ := Λ, C := [], D := D }
theorem hf3 (R : Type) (l : T3) (s : (Int × (List ItemV))) (K : Ex → St U → Option R) : codeA E (pick (loopsOf body) 3) ⟨p3.mkL (((l.1.1, (l.1.2.1, ((), ((), (s.1, ((), ())))))), (s.2, ())) : T3).1, q3.mkH (((l.1.1, (l.1.2.1, ((), ((), (s.1, ((), ())))))), (s.2, ())) : T3).2, 0⟩ (roundK E (pick (loopsOf body) 3) K) =
  (l3 l.1.1 l.1.2.1 s.1 s.2).runK (lpK K (fun s => ⟨p3.mkL (((l.1.1, (l.1.2.1, ((), ((), (s.1, ((), ())))))), (s.2, ())) : T3).1, q3.mkH (((l.1.1, (l.1.2.1, ((), ((), (s.1, ((), ())))))), (s.2, ())) : T3).2, 0⟩) sp1 (ou3 l)) := by kernel_rfl
theorem lk3 (R : Type) (st : St U) (K : Ex → St U → Option R) (r : R) (h : Λ3 R st K = some r) : ∃ n, loopA E (pick (loopsOf body) 3) n st K = some r :=
  lp_ok (U := U) (E := E) (b := pick (loopsOf body) 3) (m := 0) (sp := sp1) (p := p3) (q := q3) (X := (List ItemV)) (S := (Int × (List ItemV))) (f := fun (l : T3) s => l3 l.1.1 l.1.2.1 s.1 s.2) (hd := fun (l : T3) s => ((l.1.1, (l.1.2.1, ((), ((), (s.1, ((), ())))))), (s.2, ()))) (s0 := fun (l : T3) => (l.1.2.2.2.2.1, l.2.1)) (ou := ou3)
    (fun l => rfl) (fun l x => by rfl) sp1_ok hf3 h
theorem hk (R : Type) (l : TA) (K : AV U → Hp U → Option R) : funcA E Try.f64 [] R (pA.mkL l.1) (pH.mkH l.2) K = (t l.1.1 l.1.2.1).runK fun y => K (v l y) (hh l y) := by kernel_rfl
theorem okF : SoundF Try.prog cc 64 (funcA E Try.f64 []) :=
  funcA_ok (E := E) P_mixed (E0_ok.with Γ Λ [] D) (gam_of all_nil) Try.func64 (c := body) (by kernel_rfl)
    (just_by (by kernel_rfl) (by kernel_rfl) (all_cons lk3 all_nil) all_nil) []
theorem ok : SoundF Try.prog cc 64 A :=
  mkA_ok (E := E) (p := pA) (q := pH) (t := fun (l : TA) => t l.1.1 l.1.2.1) sp1_ok hk okF
end ref18_Cut

/-! instar/instarref18.Same -/
namespace ref18_Same
abbrev TA : Type := (((List ItemV) × ((List ItemV) × Unit)) × Unit)
abbrev T4 : Type := (((List ItemV) × ((List ItemV) × (Unit × (Int × (Unit × Unit))))) × Unit)
noncomputable def l4 (a : (List ItemV)) (b : (List ItemV)) (i : Int) : Tw (Int ⊕ (Unit ⊕ Bool)) :=
 (.bb (decide (i < (((List.length a) : Nat) : Int)))
  (.dd (((0 : Int) ≤ i)) inferInstance
   (.opt (a)[(Int.toNat i)]? fun z1 =>
    (.dd (((0 : Int) ≤ i)) inferInstance
     (.opt (b)[(Int.toNat i)]? fun z2 =>
      (.bb (!((z1.key == z2.key) && (((ByteArray.toList z1.data) == (ByteArray.toList z2.data)) && true)))
       (.ret (.inr (.inr false)))
       (.ret (.inl (w64 (i + (1 : Int)))))))
     .no))
   .no)
  (.ret (.inr (.inl ()))))
noncomputable def L4 (a : (List ItemV)) (b : (List ItemV)) (i : Int) : Option (Unit ⊕ Bool) := Lp (fun s => (l4 a b s).run) i
def p4 : Pt := (.cs (.sl 10) (.cs (.sl 10) (.cs (.bots 3) (.cs (.int .i64) (.cs (.bots 20) .nl)))))
def q4 : Pt := .nl
def ou4 (l : T4) (y : (Unit ⊕ Bool)) : Ex × St U := (Sum.elim (fun a0 => (.exit 0, stOf 26 [] [] 0)) (fun b0 => (.ret, stOf 26 [(4, .im (.bool b0))] [] 0)) y)
noncomputable def Λ4 : LFun U := mkLp (U := U) p4 q4 0 (X := (Unit ⊕ Bool)) (fun (l : T4) => L4 l.1.1 l.1.2.1 l.1.2.2.2.1) (spS sp1) ou4
noncomputable def t (a : (List ItemV)) (b : (List ItemV)) : Tw Bool :=
 (.bb ((((List.length a) : Nat) : Int) != (((List.length b) : Nat) : Int))
  (.ret false)
  (.opt (L4 a b (0 : Int)) fun z3 =>
   (.sm z3
    (fun z4 => (.ret true))
    (fun z5 => (.ret z5)))))
noncomputable def c (a : (List ItemV)) (b : (List ItemV)) : Option Bool := (t a b).run
def pA : Pt := (.cs (.sl 10) (.cs (.sl 10) .nl))
def pH : Pt := .nl
def v (l : TA) (y : Bool) : AV U := .im (.bool y)
def hh (l : TA) (y : Bool) : Hp U := []
noncomputable def A : AFun U := mkA (U := U) pA pH (X := Bool) (fun (l : TA) => c l.1.1 l.1.2.1) sp1 v hh
noncomputable def body : Code := (Go.Func.body Try.f65).getD .skip
noncomputable def Γ : List (FuncId × AFun U) := []
noncomputable def Λ : List (Nat × LFun U) := [(4, Λ4)]
def D : Nat → Lv × Lv := dtab [(4, ⟨[5, 1, 0], []⟩, ⟨[4], []⟩)]
noncomputable def E : Env U := { E0 with Γ := Γ, Λ := Λ, C := [], D := D }
theorem hf4 (R : Type) (l : T4) (s : Int) (K : Ex → St U → Option R) : codeA E (pick (loopsOf body) 4) ⟨p4.mkL (((l.1.1, (l.1.2.1, ((), (s, ((), ()))))), ()) : T4).1, q4.mkH (((l.1.1, (l.1.2.1, ((), (s, ((), ()))))), ()) : T4).2, 0⟩ (roundK E (pick (loopsOf body) 4) K) =
  (l4 l.1.1 l.1.2.1 s).runK (lpK K (fun s => ⟨p4.mkL (((l.1.1, (l.1.2.1, ((), (s, ((), ()))))), ()) : T4).1, q4.mkH (((l.1.1, (l.1.2.1, ((), (s, ((), ()))))), ()) : T4).2, 0⟩) (spS sp1) (ou4 l)) := by kernel_rfl
theorem lk4 (R : Type) (st : St U) (K : Ex → St U → Option R) (r : R) (h : Λ4 R st K = some r) : ∃ n, loopA E (pick (loopsOf body) 4) n st K = some r :=
  lp_ok (U := U) (E := E) (b := pick (loopsOf body) 4) (m := 0) (sp := (spS sp1)) (p := p4) (q := q4) (X := (Unit ⊕ Bool)) (S := Int) (f := fun (l : T4) s => l4 l.1.1 l.1.2.1 s) (hd := fun (l : T4) s => ((l.1.1, (l.1.2.1, ((), (s, ((), ()))))), ())) (s0 := fun (l : T4) => l.1.2.2.2.1) (ou := ou4)
    (fun l => rfl) (fun l x => by repeat' (first | rfl | (cases x with | inl => rfl | inr x => ?_))) (spS_ok sp1_ok) hf4 h
theorem hk (R : Type) (l : TA) (K : AV U → Hp U → Option R) : funcA E Try.f65 [] R (pA.mkL l.1) (pH.mkH l.2) K = (t l.1.1 l.1.2.1).runK fun y => K (v l y) (hh l y) := by kernel_rfl
theorem okF : SoundF Try.prog cc 65 (funcA E Try.f65 []) :=
  funcA_ok (E := E) P_mixed (E0_ok.with Γ Λ [] D) (gam_of all_nil) Try.func65 (c := body) (by kernel_rfl)
    (just_by (by kernel_rfl) (by kernel_rfl) (all_cons lk4 all_nil) all_nil) []
theorem ok : SoundF Try.prog cc 65 A :=
  mkA_ok (E := E) (p := pA) (q := pH) (t := fun (l : TA) => t l.1.1 l.1.2.1) sp1_ok hk okF
end ref18_Same

/-! instar/instarref18.Between -/
namespace ref18_Between
abbrev TA : Type := (((List ItemV) × (Int × (Int × Unit))) × Unit)
abbrev T3 : Type := (((List ItemV) × (Int × (Int × (Unit × (Unit × (Int × (Unit × Unit))))))) × ((List ItemV) × Unit))
noncomputable def l3 (l_ : (List ItemV)) (lo : Int) (hi : Int) (i : Int) (h0 : (List ItemV)) : Tw ((Int × (List ItemV)) ⊕ (List ItemV)) :=
 (.bb (decide (i < (((List.length l_) : Nat) : Int)))
  (.dd (((0 : Int) ≤ i)) inferInstance
   (.opt (l_)[(Int.toNat i)]? fun z1 =>
    (.bb (decide (z1.key ≥ lo))
     (.dd (((0 : Int) ≤ i)) inferInstance
      (.opt (l_)[(Int.toNat i)]? fun z2 =>
       (.bb (decide (z2.key ≤ hi))
        (.dd (((0 : Int) ≤ i)) inferInstance
         (.opt (l_)[(Int.toNat i)]? fun z3 =>
          (.dd ((((((List.length h0) + (List.length ((Go.Proofs.Ytadhnolgfhgepaa.Va.ItemV.mk z3.key z3.data) :: []))) * (24 : Nat)) ≤ (140737488355328 : Nat)) ∧ (((List.length h0) + (List.length ((Go.Proofs.Ytadhnolgfhgepaa.Va.ItemV.mk z3.key z3.data) :: []))) ≤ (140737488355328 : Nat)))) inferInstance
           (.ret (.inl ((w64 (i + (1 : Int))), (h0 ++ ((Go.Proofs.Ytadhnolgfhgepaa.Va.ItemV.mk z3.key z3.data) :: [])))))
           .no))
         .no)
        (.ret (.inl ((w64 (i + (1 : Int))), h0)))))
      .no)
     (.ret (.inl ((w64 (i + (1 : Int))), h0)))))
   .no)
  (.ret (.inr h0)))
noncomputable def L3 (l_ : (List ItemV)) (lo : Int) (hi : Int) (i : Int) (h0 : (List ItemV)) : Option (List ItemV) := Lp (fun s => (l3 l_ lo hi s.1 s.2).run) (i, h0)
def p3 : Pt := (.cs (.sl 10) (.cs (.int .u32) (.cs (.int .u32) (.cs (.bots 4) (.cs (.own 0) (.cs (.int .i64) (.cs (.bots 30) .nl)))))))
def q3 : Pt := (.cs (.row 10 true) .nl)
def ou3 (l : T3) (y : (List ItemV)) : Ex × St U := (.exit 0, stOf 39 [(7, .own 0)] [.row 10 y true] 0)
noncomputable def Λ3 : LFun U := mkLp (U := U) p3 q3 0 (X := (List ItemV)) (fun (l : T3) => L3 l.1.1 l.1.2.1 l.1.2.2.1 l.1.2.2.2.2.2.1 l.2.1) sp1 ou3
noncomputable def t (l_ : (List ItemV)) (lo : Int) (hi : Int) : Tw (List ItemV) :=
 (.opt (L3 l_ lo hi (0 : Int) []) fun z4 =>
  (.ret z4))
noncomputable def c (l_ : (List ItemV)) (lo : Int) (hi : Int) : Option (List ItemV) := (t l_ lo hi).run
def pA : Pt := (.cs (.sl 10) (.cs (.int .u32) (.cs (.int .u32) .nl)))
def pH : Pt := .nl
def v (l : TA) (y : (List ItemV)) : AV U := .own 0
def hh (l : TA) (y : (List ItemV)) : Hp U := [.row 10 y true]
noncomputable def A : AFun U := mkA (U := U) pA pH (X := (List ItemV)) (fun (l : TA) => c l.1.1 l.1.2.1 l.1.2.2.1) sp1 v hh
noncomputable def body : Code := (Go.Func.body Try.f86).getD .skip
noncomputable def Γ : List (FuncId × AFun U) := []
noncomputable def Λ : List (Nat × LFun U) := [(3, Λ3)]
def D : Nat → Lv × Lv := dtab [(3, ⟨[8, 0, 7, 2, 1], [(7, [], .own 10)]⟩, ⟨[6, 7], []⟩)]
noncomputable def E : Env U := { E0 with Γ := Γ, Λ := Λ, C := [], D := D }
theorem hf3 (R : Type) (l : T3) (s : (Int × (List ItemV))) (K : Ex → St U → Option R) : codeA E (pick (loopsOf body) 3) ⟨p3.mkL (((l.1.1, (l.1.2.1, (l.1.2.2.1, ((), ((), (s.1, ((), ()))))))), (s.2, ())) : T3).1, q3.mkH (((l.1.1, (l.1.2.1, (l.1.2.2.1, ((), ((), (s.1, ((), ()))))))), (s.2, ())) : T3).2, 0⟩ (roundK E (pick (loopsOf body) 3) K) =
  (l3 l.1.1 l.1.2.1 l.1.2.2.1 s.1 s.2).runK (lpK K (fun s => ⟨p3.mkL (((l.1.1, (l.1.2.1, (l.1.2.2.1, ((), ((), (s.1, ((), ()))))))), (s.2, ())) : T3).1, q3.mkH (((l.1.1, (l.1.2.1, (l.1.2.2.1, ((), ((), (s.1, ((), ()))))))), (s.2, ())) : T3).2, 0⟩) sp1 (ou3 l)) := by kernel_rfl
theorem lk3 (R : Type) (st : St U) (K : Ex → St U → Option R) (r : R) (h : Λ3 R st K = some r) : ∃ n, loopA E (pick (loopsOf body) 3) n st K = some r :=
  lp_ok (U := U) (E := E) (b := pick (loopsOf body) 3) (m := 0) (sp := sp1) (p := p3) (q := q3) (X := (List ItemV)) (S := (Int × (List ItemV))) (f := fun (l : T3) s => l3 l.1.1 l.1.2.1 l.1.2.2.1 s.1 s.2) (hd := fun (l : T3) s => ((l.1.1, (l.1.2.1, (l.1.2.2.1, ((), ((), (s.1, ((), ()))))))), (s.2, ()))) (s0 := fun (l : T3) => (l.1.2.2.2.2.2.1, l.2.1)) (ou := ou3)
    (fun l => rfl) (fun l x => by rfl) sp1_ok hf3 h
theorem hk (R : Type) (l : TA) (K : AV U → Hp U → Option R) : funcA E Try.f86 [] R (pA.mkL l.1) (pH.mkH l.2) K = (t l.1.1 l.1.2.1 l.1.2.2.1).runK fun y => K (v l y) (hh l y) := by kernel_rfl
theorem okF : SoundF Try.prog cc 86 (funcA E Try.f86 []) :=
  funcA_ok (E := E) P_mixed (E0_ok.with Γ Λ [] D) (gam_of all_nil) Try.func86 (c := body) (by kernel_rfl)
    (just_by (by kernel_rfl) (by kernel_rfl) (all_cons lk3 all_nil) all_nil) []
theorem ok : SoundF Try.prog cc 86 A :=
  mkA_ok (E := E) (p := pA) (q := pH) (t := fun (l : TA) => t l.1.1 l.1.2.1 l.1.2.2.1) sp1_ok hk okF
end ref18_Between

/-! instar/instarref18.Put -/
namespace ref18_Put
abbrev TA : Type := (((List ItemV) × ((Int × (ByteArray × Unit)) × Unit)) × Unit)
noncomputable def t (l_ : (List ItemV)) (x_0 : Int) (x_1 : ByteArray) : Tw (List ItemV) :=
 (.bb (decide (x_0 > (0 : Int)))
  (.opt (ref18_Between.c l_ (0 : Int) (w32 (x_0 - (1 : Int)))) fun z2 =>
   (.dd ((((((List.length z2) + (List.length ((Go.Proofs.Ytadhnolgfhgepaa.Va.ItemV.mk x_0 x_1) :: []))) * (24 : Nat)) ≤ (140737488355328 : Nat)) ∧ (((List.length z2) + (List.length ((Go.Proofs.Ytadhnolgfhgepaa.Va.ItemV.mk x_0 x_1) :: []))) ≤ (140737488355328 : Nat)))) inferInstance
    (.bb (decide (x_0 < (4294967295 : Int)))
     (.opt (ref18_Between.c l_ (w32 (x_0 + (1 : Int))) (4294967295 : Int)) fun z3 =>
      (.dd ((((((List.length (z2 ++ ((Go.Proofs.Ytadhnolgfhgepaa.Va.ItemV.mk x_0 x_1) :: []))) + (List.length z3)) * (24 : Nat)) ≤ (140737488355328 : Nat)) ∧ (((List.length (z2 ++ ((Go.Proofs.Ytadhnolgfhgepaa.Va.ItemV.mk x_0 x_1) :: []))) + (List.length z3)) ≤ (140737488355328 : Nat)))) inferInstance
       (.ret ((z2 ++ ((Go.Proofs.Ytadhnolgfhgepaa.Va.ItemV.mk x_0 x_1) :: [])) ++ z3))
       .no))
     (.ret (z2 ++ ((Go.Proofs.Ytadhnolgfhgepaa.Va.ItemV.mk x_0 x_1) :: []))))
    .no))
  (.bb (decide (x_0 < (4294967295 : Int)))
   (.opt (ref18_Between.c l_ (w32 (x_0 + (1 : Int))) (4294967295 : Int)) fun z1 =>
    (.dd ((((((List.length ((Go.Proofs.Ytadhnolgfhgepaa.Va.ItemV.mk x_0 x_1) :: [])) + (List.length z1)) * (24 : Nat)) ≤ (140737488355328 : Nat)) ∧ (((List.length ((Go.Proofs.Ytadhnolgfhgepaa.Va.ItemV.mk x_0 x_1) :: [])) + (List.length z1)) ≤ (140737488355328 : Nat)))) inferInstance
     (.ret (((Go.Proofs.Ytadhnolgfhgepaa.Va.ItemV.mk x_0 x_1) :: []) ++ z1))
     .no))
   (.ret ((Go.Proofs.Ytadhnolgfhgepaa.Va.ItemV.mk x_0 x_1) :: []))))
noncomputable def c (l_ : (List ItemV)) (x_0 : Int) (x_1 : ByteArray) : Option (List ItemV) := (t l_ x_0 x_1).run
def pA : Pt := (.cs (.sl 10) (.cs (.agg (.cs (.int .u32) (.cs .str .nl))) .nl))
def pH : Pt := .nl
def v (l : TA) (y : (List ItemV)) : AV U := .own 0
def hh (l : TA) (y : (List ItemV)) : Hp U := [.row 10 y true]
noncomputable def A : AFun U := mkA (U := U) pA pH (X := (List ItemV)) (fun (l : TA) => c l.1.1 l.1.2.1.1 l.1.2.1.2.1) sp1 v hh
noncomputable def body : Code := (Go.Func.body Try.f67).getD .skip
noncomputable def Γ : List (FuncId × AFun U) := [(86, ref18_Between.A)]
noncomputable def Λ : List (Nat × LFun U) := []
def D : Nat → Lv × Lv := dtab []
noncomputable def E : Env U := { E0 with Γ := Γ, Λ := Λ, C := [], D := D }
theorem hk (R : Type) (l : TA) (K : AV U → Hp U → Option R) : funcA E Try.f67 [] R (pA.mkL l.1) (pH.mkH l.2) K = (t l.1.1 l.1.2.1.1 l.1.2.1.2.1).runK fun y => K (v l y) (hh l y) := by kernel_rfl
theorem okF : SoundF Try.prog cc 67 (funcA E Try.f67 []) :=
  funcA_ok (E := E) P_mixed (E0_ok.with Γ Λ [] D) (gam_of (all_cons ⟨ref18_Between.ok, ⟨Try.f86, Try.func86, by kernel_rfl, by kernel_rfl⟩⟩ all_nil)) Try.func67 (c := body) (by kernel_rfl)
    (just_by (by kernel_rfl) (by kernel_rfl) all_nil all_nil) []
theorem ok : SoundF Try.prog cc 67 A :=
  mkA_ok (E := E) (p := pA) (q := pH) (t := fun (l : TA) => t l.1.1 l.1.2.1.1 l.1.2.1.2.1) sp1_ok hk okF
end ref18_Put

/-! instar/instarref18.Mains -/
namespace ref18_Mains
abbrev TA : Type := (((List ItemV) × Unit) × Unit)
noncomputable def t (l_ : (List ItemV)) : Tw (List ItemV) :=
 (.opt (ref18_Between.c l_ (0 : Int) (16777215 : Int)) fun z1 =>
  (.ret z1))
noncomputable def c (l_ : (List ItemV)) : Option (List ItemV) := (t l_).run
def pA : Pt := (.cs (.sl 10) .nl)
def pH : Pt := .nl
def v (l : TA) (y : (List ItemV)) : AV U := .own 0
def hh (l : TA) (y : (List ItemV)) : Hp U := [.row 10 y true]
noncomputable def A : AFun U := mkA (U := U) pA pH (X := (List ItemV)) (fun (l : TA) => c l.1.1) sp1 v hh
noncomputable def body : Code := (Go.Func.body Try.f69).getD .skip
noncomputable def Γ : List (FuncId × AFun U) := [(86, ref18_Between.A)]
noncomputable def Λ : List (Nat × LFun U) := []
def D : Nat → Lv × Lv := dtab []
noncomputable def E : Env U := { E0 with Γ := Γ, Λ := Λ, C := [], D := D }
theorem hk (R : Type) (l : TA) (K : AV U → Hp U → Option R) : funcA E Try.f69 [] R (pA.mkL l.1) (pH.mkH l.2) K = (t l.1.1).runK fun y => K (v l y) (hh l y) := by kernel_rfl
theorem okF : SoundF Try.prog cc 69 (funcA E Try.f69 []) :=
  funcA_ok (E := E) P_mixed (E0_ok.with Γ Λ [] D) (gam_of (all_cons ⟨ref18_Between.ok, ⟨Try.f86, Try.func86, by kernel_rfl, by kernel_rfl⟩⟩ all_nil)) Try.func69 (c := body) (by kernel_rfl)
    (just_by (by kernel_rfl) (by kernel_rfl) all_nil all_nil) []
theorem ok : SoundF Try.prog cc 69 A :=
  mkA_ok (E := E) (p := pA) (q := pH) (t := fun (l : TA) => t l.1.1) sp1_ok hk okF
end ref18_Mains

/-! instar/instarref18.Sides -/
namespace ref18_Sides
abbrev TA : Type := (((List ItemV) × Unit) × Unit)
noncomputable def t (l_ : (List ItemV)) : Tw (List ItemV) :=
 (.opt (ref18_Between.c l_ (16777216 : Int) (4294967295 : Int)) fun z1 =>
  (.ret z1))
noncomputable def c (l_ : (List ItemV)) : Option (List ItemV) := (t l_).run
def pA : Pt := (.cs (.sl 10) .nl)
def pH : Pt := .nl
def v (l : TA) (y : (List ItemV)) : AV U := .own 0
def hh (l : TA) (y : (List ItemV)) : Hp U := [.row 10 y true]
noncomputable def A : AFun U := mkA (U := U) pA pH (X := (List ItemV)) (fun (l : TA) => c l.1.1) sp1 v hh
noncomputable def body : Code := (Go.Func.body Try.f71).getD .skip
noncomputable def Γ : List (FuncId × AFun U) := [(86, ref18_Between.A)]
noncomputable def Λ : List (Nat × LFun U) := []
def D : Nat → Lv × Lv := dtab []
noncomputable def E : Env U := { E0 with Γ := Γ, Λ := Λ, C := [], D := D }
theorem hk (R : Type) (l : TA) (K : AV U → Hp U → Option R) : funcA E Try.f71 [] R (pA.mkL l.1) (pH.mkH l.2) K = (t l.1.1).runK fun y => K (v l y) (hh l y) := by kernel_rfl
theorem okF : SoundF Try.prog cc 71 (funcA E Try.f71 []) :=
  funcA_ok (E := E) P_mixed (E0_ok.with Γ Λ [] D) (gam_of (all_cons ⟨ref18_Between.ok, ⟨Try.f86, Try.func86, by kernel_rfl, by kernel_rfl⟩⟩ all_nil)) Try.func71 (c := body) (by kernel_rfl)
    (just_by (by kernel_rfl) (by kernel_rfl) all_nil all_nil) []
theorem ok : SoundF Try.prog cc 71 A :=
  mkA_ok (E := E) (p := pA) (q := pH) (t := fun (l : TA) => t l.1.1) sp1_ok hk okF
end ref18_Sides

end Go.Proofs.Ytadhnolgfhgepaa.Va
