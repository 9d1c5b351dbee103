/- The functions of package ref01, as plain functions, and that the program computes them. Printed by a program of this work out of the evaluator. -/
import Derived.Test.YtnlclchlnngdnaaEn
import Derived.Tactics
namespace Go.Proofs.Ytnlclchlnngdnaa.Va
open Go
set_option linter.unusedVariables false
set_option maxRecDepth 100000

/-! instar/instarref01.Pack -/
namespace ref01_Pack
abbrev TA : Type := (((List Int) × Unit) × Unit)
abbrev T7 : Type := (((List Int) × (Unit × (Unit × (Int × (Int × (Int × (Unit × Unit))))))) × ((List Int) × Unit))
noncomputable def l7 (b : (List Int)) (i : Int) (h0 : (List Int)) (x k : Int) : Tw ((Int × Int) ⊕ Int) :=
 (.bb (decide (k < (4 : Int)))
  (.bb (decide ((w64 (i + k)) < (((List.length b) : Nat) : Int)))
   (.dd (((0 : Int) ≤ (w64 (i + k)))) inferInstance
    (.opt (b)[(Int.toNat (w64 (i + k)))]? fun z1 =>
     (.ret (.inl ((w32 ((w32 (x * (256 : Int))) + (w32 z1))), (w64 (k + (1 : Int)))))))
    .no)
   (.ret (.inl ((w32 (x * (256 : Int))), (w64 (k + (1 : Int)))))))
  (.ret (.inr x)))
noncomputable def L7 (b : (List Int)) (i x k : Int) (h0 : (List Int)) : Option Int := Lp (fun s => (l7 b i h0 s.1 s.2).run) (x, k)
def p7 : Pt := (.cs (.sl 2) (.cs (.bots 2) (.cs (.own 0) (.cs (.int .i64) (.cs (.int .u32) (.cs (.int .i64) (.cs (.bots 32) .nl)))))))
def q7 : Pt := (.cs (.row 3 true) .nl)
def ou7 (l : T7) (y : Int) : Ex × St U := (.exit 2, stOf 39 [(0, .im (.slice 2 l.1.1)), (3, .own 0), (4, .im (.int .i64 l.1.2.2.2.1)), (5, .im (.int .u32 y))] [.row 3 l.2.1 true] 0)
noncomputable def Λ7 : LFun U := mkLp (U := U) p7 q7 0 (X := Int) (fun (l : T7) => L7 l.1.1 l.1.2.2.2.1 l.1.2.2.2.2.1 l.1.2.2.2.2.2.1 l.2.1) sp1 ou7
abbrev T3 : Type := (((List Int) × (Unit × (Unit × (Int × (Unit × Unit))))) × ((List Int) × Unit))
noncomputable def l3 (b : (List Int)) (i : Int) (h0 : (List Int)) : Tw ((Int × (List Int)) ⊕ (List Int)) :=
 (.bb (decide (i < (((List.length b) : Nat) : Int)))
  (.opt (L7 b i (0 : Int) (0 : Int) h0) fun z2 =>
   (.dd ((((((List.length h0) + (List.length (z2 :: ([] : List (Int))))) * (4 : Nat)) ≤ (140737488355328 : Nat)) ∧ (((List.length h0) + (List.length (z2 :: ([] : List (Int))))) ≤ (140737488355328 : Nat)))) inferInstance
    (.ret (.inl ((w64 (i + (4 : Int))), (h0 ++ (z2 :: ([] : List (Int)))))))
    .no))
  (.ret (.inr h0)))
noncomputable def L3 (b : (List Int)) (i : Int) (h0 : (List Int)) : Option (List Int) := Lp (fun s => (l3 b s.1 s.2).run) (i, h0)
def p3 : Pt := (.cs (.sl 2) (.cs (.bots 2) (.cs (.own 0) (.cs (.int .i64) (.cs (.bots 34) .nl)))))
def q3 : Pt := (.cs (.row 3 true) .nl)
def ou3 (l : T3) (y : (List Int)) : Ex × St U := (.exit 0, stOf 39 [(3, .own 0)] [.row 3 y true] 0)
noncomputable def Λ3 : LFun U := mkLp (U := U) p3 q3 0 (X := (List Int)) (fun (l : T3) => L3 l.1.1 l.1.2.2.2.1 l.2.1) sp1 ou3
noncomputable def t (b : (List Int)) : Tw (List Int) :=
 (.opt (L3 b (0 : Int) ([] : List (Int))) fun z3 =>
  (.ret z3))
noncomputable def c (b : (List Int)) : Option (List Int) := (t b).run
def pA : Pt := (.cs (.sl 2) .nl)
def pH : Pt := .nl
def v (l : TA) (y : (List Int)) : AV U := .own 0
def hh (l : TA) (y : (List Int)) : Hp U := [.row 3 y true]
noncomputable def A : AFun U := mkA (U := U) pA pH (X := (List Int)) (fun (l : TA) => c l.1.1) sp1 v hh
noncomputable def body : Code := (Go.Func.body Try.f22).getD .skip
noncomputable def Γ : List (FuncId × AFun U) := []
noncomputable def Λ : List (Nat × LFun U) := [(7, Λ7), (3, Λ3)]
noncomputable def CT : List (Nat × LFun U) := []
def ro : List FuncId := []
def D : Nat → Lv × Lv := dtab [(3, ⟨[4, 0, 3], [(3, [], .own 3)]⟩, ⟨[2, 3], []⟩), (7, ⟨[6, 4, 0, 5, 3], []⟩, ⟨[2, 0, 4, 5, 3], []⟩)]
noncomputable def E : Env U := { E0 with Γ := Γ, Λ := Λ, C := CT, D := D, ro := ro }
theorem hf7 (R : Type) (l : T7) (s : (Int × Int)) (K : Ex → St U → Option R) : codeA E (pick (loopsOf body) 7) ⟨p7.mkL (((l.1.1, ((), ((), (l.1.2.2.2.1, (s.1, (s.2, ((), ()))))))), (l.2.1, ())) : T7).1, q7.mkH (((l.1.1, ((), ((), (l.1.2.2.2.1, (s.1, (s.2, ((), ()))))))), (l.2.1, ())) : T7).2, 0⟩ (roundK E (pick (loopsOf body) 7) K) =
  (l7 l.1.1 l.1.2.2.2.1 l.2.1 s.1 s.2).runK (lpK K (fun s => ⟨p7.mkL (((l.1.1, ((), ((), (l.1.2.2.2.1, (s.1, (s.2, ((), ()))))))), (l.2.1, ())) : T7).1, q7.mkH (((l.1.1, ((), ((), (l.1.2.2.2.1, (s.1, (s.2, ((), ()))))))), (l.2.1, ())) : T7).2, 0⟩) sp1 (ou7 l)) := by kernel_rfl
theorem lk7 (R : Type) (st : St U) (K : Ex → St U → Option R) (r : R) (h : Λ7 R st K = some r) : ∃ n, loopA E (pick (loopsOf body) 7) n st K = some r :=
  lp_ok (U := U) (E := E) (b := pick (loopsOf body) 7) (m := 0) (sp := sp1) (p := p7) (q := q7) (X := Int) (S := (Int × Int)) (f := fun (l : T7) s => l7 l.1.1 l.1.2.2.2.1 l.2.1 s.1 s.2) (hd := fun (l : T7) s => ((l.1.1, ((), ((), (l.1.2.2.2.1, (s.1, (s.2, ((), ()))))))), (l.2.1, ()))) (s0 := fun (l : T7) => (l.1.2.2.2.2.1, l.1.2.2.2.2.2.1)) (ou := ou7)
    (fun l => rfl) (fun l x => by rfl) sp1_ok hf7 h
theorem hf3 (R : Type) (l : T3) (s : (Int × (List Int))) (K : Ex → St U → Option R) : codeA E (pick (loopsOf body) 3) ⟨p3.mkL (((l.1.1, ((), ((), (s.1, ((), ()))))), (s.2, ())) : T3).1, q3.mkH (((l.1.1, ((), ((), (s.1, ((), ()))))), (s.2, ())) : T3).2, 0⟩ (roundK E (pick (loopsOf body) 3) K) =
  (l3 l.1.1 s.1 s.2).runK (lpK K (fun s => ⟨p3.mkL (((l.1.1, ((), ((), (s.1, ((), ()))))), (s.2, ())) : T3).1, q3.mkH (((l.1.1, ((), ((), (s.1, ((), ()))))), (s.2, ())) : T3).2, 0⟩) sp1 (ou3 l)) := by kernel_rfl
theorem lk3 (R : Type) (st : St U) (K : Ex → St U → Option R) (r : R) (h : Λ3 R st K = some r) : ∃ n, loopA E (pick (loopsOf body) 3) n st K = some r :=
  lp_ok (U := U) (E := E) (b := pick (loopsOf body) 3) (m := 0) (sp := sp1) (p := p3) (q := q3) (X := (List Int)) (S := (Int × (List Int))) (f := fun (l : T3) s => l3 l.1.1 s.1 s.2) (hd := fun (l : T3) s => ((l.1.1, ((), ((), (s.1, ((), ()))))), (s.2, ()))) (s0 := fun (l : T3) => (l.1.2.2.2.1, l.2.1)) (ou := ou3)
    (fun l => rfl) (fun l x => by rfl) sp1_ok hf3 h
theorem hk (R : Type) (l : TA) (K : AV U → Hp U → Option R) : funcA E Try.f22 [] R (pA.mkL l.1) (pH.mkH l.2) K = (t l.1.1).runK fun y => K (v l y) (hh l y) := by kernel_rfl
theorem okF : SoundF Try.prog cc 22 (funcA E Try.f22 []) :=
  funcA_ok (E := E) P_mixed (E0_ok.with Γ Λ CT D ro) (gam_of all_nil all_nil) Try.func22 (c := body) (by kernel_rfl)
    (just_by (by kernel_rfl) (by kernel_rfl) (all_cons lk7 (all_cons lk3 all_nil)) all_nil) []
theorem ok : SoundF Try.prog cc 22 A :=
  mkA_ok (E := E) (p := pA) (q := pH) (t := fun (l : TA) => t l.1.1) sp1_ok hk okF
theorem keep : KeepA A := mkA_keep (U := U) sp1_ok (fun (l : TA) y => ⟨(hh l y).drop 0, by kernel_rfl⟩)
end ref01_Pack

/-! instar/instarref01.bit -/
namespace ref01_bit
abbrev TA : Type := ((Int × (Int × Unit)) × Unit)
abbrev T2 : Type := ((Int × (Int × (Unit × (Int × (Unit × Unit))))) × Unit)
noncomputable def l2 (i x k : Int) : Tw ((Int × Int) ⊕ Int) :=
 (.bb (decide (k < i))
  (.ret (.inl ((w32 (Int.tdiv x (2 : Int))), (w64 (k + (1 : Int))))))
  (.ret (.inr x)))
noncomputable def L2 (x i k : Int) : Option Int := Lp (fun s => (l2 i s.1 s.2).run) (x, k)
def p2 : Pt := (.cs (.int .u32) (.cs (.int .i64) (.cs (.bots 3) (.cs (.int .i64) (.cs (.bots 9) .nl)))))
def q2 : Pt := .nl
def ou2 (l : T2) (y : Int) : Ex × St U := (.exit 0, stOf 15 [(0, .im (.int .u32 y))] [] 0)
noncomputable def Λ2 : LFun U := mkLp (U := U) p2 q2 0 (X := Int) (fun (l : T2) => L2 l.1.1 l.1.2.1 l.1.2.2.2.1) sp1 ou2
noncomputable def t (x i : Int) : Tw Int :=
 (.opt (L2 x i (0 : Int)) fun z1 =>
  (.ret (Int.tmod z1 (2 : Int))))
noncomputable def c (x i : Int) : Option Int := (t x i).run
def pA : Pt := (.cs (.int .u32) (.cs (.int .i64) .nl))
def pH : Pt := .nl
def v (l : TA) (y : Int) : AV U := .im (.int .u32 y)
def hh (l : TA) (y : Int) : Hp U := []
noncomputable def A : AFun U := mkA (U := U) pA pH (X := Int) (fun (l : TA) => c l.1.1 l.1.2.1) sp1 v hh
noncomputable def body : Code := (Go.Func.body Try.f88).getD .skip
noncomputable def Γ : List (FuncId × AFun U) := []
noncomputable def Λ : List (Nat × LFun U) := [(2, Λ2)]
noncomputable def CT : List (Nat × LFun U) := []
def ro : List FuncId := []
def D : Nat → Lv × Lv := dtab [(2, ⟨[5, 0, 1], []⟩, ⟨[4, 0], []⟩)]
noncomputable def E : Env U := { E0 with Γ := Γ, Λ := Λ, C := CT, D := D, ro := ro }
theorem hf2 (R : Type) (l : T2) (s : (Int × Int)) (K : Ex → St U → Option R) : codeA E (pick (loopsOf body) 2) ⟨p2.mkL (((s.1, (l.1.2.1, ((), (s.2, ((), ()))))), ()) : T2).1, q2.mkH (((s.1, (l.1.2.1, ((), (s.2, ((), ()))))), ()) : T2).2, 0⟩ (roundK E (pick (loopsOf body) 2) K) =
  (l2 l.1.2.1 s.1 s.2).runK (lpK K (fun s => ⟨p2.mkL (((s.1, (l.1.2.1, ((), (s.2, ((), ()))))), ()) : T2).1, q2.mkH (((s.1, (l.1.2.1, ((), (s.2, ((), ()))))), ()) : T2).2, 0⟩) sp1 (ou2 l)) := by kernel_rfl
theorem lk2 (R : Type) (st : St U) (K : Ex → St U → Option R) (r : R) (h : Λ2 R st K = some r) : ∃ n, loopA E (pick (loopsOf body) 2) n st K = some r :=
  lp_ok (U := U) (E := E) (b := pick (loopsOf body) 2) (m := 0) (sp := sp1) (p := p2) (q := q2) (X := Int) (S := (Int × Int)) (f := fun (l : T2) s => l2 l.1.2.1 s.1 s.2) (hd := fun (l : T2) s => ((s.1, (l.1.2.1, ((), (s.2, ((), ()))))), ())) (s0 := fun (l : T2) => (l.1.1, l.1.2.2.2.1)) (ou := ou2)
    (fun l => rfl) (fun l x => by rfl) sp1_ok hf2 h
theorem hk (R : Type) (l : TA) (K : AV U → Hp U → Option R) : funcA E Try.f88 [] R (pA.mkL l.1) (pH.mkH l.2) K = (t l.1.1 l.1.2.1).runK fun y => K (v l y) (hh l y) := by kernel_rfl
theorem okF : SoundF Try.prog cc 88 (funcA E Try.f88 []) :=
  funcA_ok (E := E) P_mixed (E0_ok.with Γ Λ CT D ro) (gam_of all_nil all_nil) Try.func88 (c := body) (by kernel_rfl)
    (just_by (by kernel_rfl) (by kernel_rfl) (all_cons lk2 all_nil) all_nil) []
theorem ok : SoundF Try.prog cc 88 A :=
  mkA_ok (E := E) (p := pA) (q := pH) (t := fun (l : TA) => t l.1.1 l.1.2.1) sp1_ok hk okF
theorem keep : KeepA A := mkA_keep (U := U) sp1_ok (fun (l : TA) y => ⟨(hh l y).drop 0, by kernel_rfl⟩)
end ref01_bit

/-! instar/instarref01.Bits -/
namespace ref01_Bits
abbrev TA : Type := ((Int × (Int × (Int × (Int × Unit)))) × Unit)
abbrev T4 : Type := ((Int × (Int × (Int × (Int × (Unit × (Int × (Int × (Int × (Unit × Unit))))))))) × Unit)
noncomputable def l4 (was x mask kind out worth i : Int) : Tw ((Int × (Int × Int)) ⊕ Int) :=
 (.bb (decide (i < (32 : Int)))
  (.opt (ref01_bit.c was i) fun z1 =>
   (.opt (ref01_bit.c x i) fun z2 =>
    (.opt (ref01_bit.c mask i) fun z3 =>
     (.bb (kind == (0 : Int))
      (.bb (z1 == (1 : Int))
       (.bb (z2 == (0 : Int))
        (.ret (.inl ((w32 (out + worth)), ((w32 (worth * (2 : Int))), (w64 (i + (1 : Int)))))))
        (.ret (.inl (out, ((w32 (worth * (2 : Int))), (w64 (i + (1 : Int))))))))
       (.ret (.inl (out, ((w32 (worth * (2 : Int))), (w64 (i + (1 : Int))))))))
      (.bb (kind == (1 : Int))
       (.bb (z1 == (1 : Int))
        (.bb (z2 == (0 : Int))
         (.bb (!(z3 == (1 : Int)))
          (.ret (.inl ((w32 (out + worth)), ((w32 (worth * (2 : Int))), (w64 (i + (1 : Int)))))))
          (.ret (.inl (out, ((w32 (worth * (2 : Int))), (w64 (i + (1 : Int))))))))
         (.ret (.inl ((w32 (out + worth)), ((w32 (worth * (2 : Int))), (w64 (i + (1 : Int))))))))
        (.ret (.inl (out, ((w32 (worth * (2 : Int))), (w64 (i + (1 : Int))))))))
       (.bb (kind == (2 : Int))
        (.bb (z1 == (1 : Int))
         (.ret (.inl ((w32 (out + worth)), ((w32 (worth * (2 : Int))), (w64 (i + (1 : Int)))))))
         (.bb (z3 == (1 : Int))
          (.ret (.inl ((w32 (out + worth)), ((w32 (worth * (2 : Int))), (w64 (i + (1 : Int)))))))
          (.ret (.inl (out, ((w32 (worth * (2 : Int))), (w64 (i + (1 : Int)))))))))
        (.ret (.inl (out, ((w32 (worth * (2 : Int))), (w64 (i + (1 : Int)))))))))))))
  (.ret (.inr out)))
noncomputable def L4 (was x mask kind out worth i : Int) : Option Int := Lp (fun s => (l4 was x mask kind s.1 s.2.1 s.2.2).run) (out, (worth, i))
def p4 : Pt := (.cs (.int .u32) (.cs (.int .u32) (.cs (.int .u32) (.cs (.int .i64) (.cs (.bots 5) (.cs (.int .u32) (.cs (.int .u32) (.cs (.int .i64) (.cs (.bots 54) .nl)))))))))
def q4 : Pt := .nl
def ou4 (l : T4) (y : Int) : Ex × St U := (.exit 0, stOf 66 [(9, .im (.int .u32 y))] [] 0)
noncomputable def Λ4 : LFun U := mkLp (U := U) p4 q4 0 (X := Int) (fun (l : T4) => L4 l.1.1 l.1.2.1 l.1.2.2.1 l.1.2.2.2.1 l.1.2.2.2.2.2.1 l.1.2.2.2.2.2.2.1 l.1.2.2.2.2.2.2.2.1) sp1 ou4
noncomputable def t (was x mask kind : Int) : Tw Int :=
 (.opt (L4 was x mask kind (0 : Int) (1 : Int) (0 : Int)) fun z4 =>
  (.ret z4))
noncomputable def c (was x mask kind : Int) : Option Int := (t was x mask kind).run
def pA : Pt := (.cs (.int .u32) (.cs (.int .u32) (.cs (.int .u32) (.cs (.int .i64) .nl))))
def pH : Pt := .nl
def v (l : TA) (y : Int) : AV U := .im (.int .u32 y)
def hh (l : TA) (y : Int) : Hp U := []
noncomputable def A : AFun U := mkA (U := U) pA pH (X := Int) (fun (l : TA) => c l.1.1 l.1.2.1 l.1.2.2.1 l.1.2.2.2.1) sp1 v hh
noncomputable def body : Code := (Go.Func.body Try.f77).getD .skip
noncomputable def Γ : List (FuncId × AFun U) := [(88, ref01_bit.A)]
noncomputable def Λ : List (Nat × LFun U) := [(4, Λ4)]
noncomputable def CT : List (Nat × LFun U) := []
def ro : List FuncId := []
def D : Nat → Lv × Lv := dtab [(4, ⟨[11, 10, 9, 3, 2, 1, 0], []⟩, ⟨[8, 9], []⟩)]
noncomputable def E : Env U := { E0 with Γ := Γ, Λ := Λ, C := CT, D := D, ro := ro }
theorem hf4 (R : Type) (l : T4) (s : (Int × (Int × Int))) (K : Ex → St U → Option R) : codeA E (pick (loopsOf body) 4) ⟨p4.mkL (((l.1.1, (l.1.2.1, (l.1.2.2.1, (l.1.2.2.2.1, ((), (s.1, (s.2.1, (s.2.2, ((), ()))))))))), ()) : T4).1, q4.mkH (((l.1.1, (l.1.2.1, (l.1.2.2.1, (l.1.2.2.2.1, ((), (s.1, (s.2.1, (s.2.2, ((), ()))))))))), ()) : T4).2, 0⟩ (roundK E (pick (loopsOf body) 4) K) =
  (l4 l.1.1 l.1.2.1 l.1.2.2.1 l.1.2.2.2.1 s.1 s.2.1 s.2.2).runK (lpK K (fun s => ⟨p4.mkL (((l.1.1, (l.1.2.1, (l.1.2.2.1, (l.1.2.2.2.1, ((), (s.1, (s.2.1, (s.2.2, ((), ()))))))))), ()) : T4).1, q4.mkH (((l.1.1, (l.1.2.1, (l.1.2.2.1, (l.1.2.2.2.1, ((), (s.1, (s.2.1, (s.2.2, ((), ()))))))))), ()) : T4).2, 0⟩) sp1 (ou4 l)) := by kernel_rfl
theorem lk4 (R : Type) (st : St U) (K : Ex → St U → Option R) (r : R) (h : Λ4 R st K = some r) : ∃ n, loopA E (pick (loopsOf body) 4) n st K = some r :=
  lp_ok (U := U) (E := E) (b := pick (loopsOf body) 4) (m := 0) (sp := sp1) (p := p4) (q := q4) (X := Int) (S := (Int × (Int × Int))) (f := fun (l : T4) s => l4 l.1.1 l.1.2.1 l.1.2.2.1 l.1.2.2.2.1 s.1 s.2.1 s.2.2) (hd := fun (l : T4) s => ((l.1.1, (l.1.2.1, (l.1.2.2.1, (l.1.2.2.2.1, ((), (s.1, (s.2.1, (s.2.2, ((), ()))))))))), ())) (s0 := fun (l : T4) => (l.1.2.2.2.2.2.1, (l.1.2.2.2.2.2.2.1, l.1.2.2.2.2.2.2.2.1))) (ou := ou4)
    (fun l => rfl) (fun l x => by rfl) sp1_ok hf4 h
theorem hk (R : Type) (l : TA) (K : AV U → Hp U → Option R) : funcA E Try.f77 [] R (pA.mkL l.1) (pH.mkH l.2) K = (t l.1.1 l.1.2.1 l.1.2.2.1 l.1.2.2.2.1).runK fun y => K (v l y) (hh l y) := by kernel_rfl
theorem okF : SoundF Try.prog cc 77 (funcA E Try.f77 []) :=
  funcA_ok (E := E) P_mixed (E0_ok.with Γ Λ CT D ro) (gam_of (all_cons ⟨ref01_bit.ok, ⟨Try.f88, Try.func88, by kernel_rfl, by kernel_rfl⟩⟩ all_nil) (all_cons (no_keep (by kernel_rfl)) all_nil)) Try.func77 (c := body) (by kernel_rfl)
    (just_by (by kernel_rfl) (by kernel_rfl) (all_cons lk4 all_nil) all_nil) []
theorem ok : SoundF Try.prog cc 77 A :=
  mkA_ok (E := E) (p := pA) (q := pH) (t := fun (l : TA) => t l.1.1 l.1.2.1 l.1.2.2.1 l.1.2.2.2.1) sp1_ok hk okF
theorem keep : KeepA A := mkA_keep (U := U) sp1_ok (fun (l : TA) y => ⟨(hh l y).drop 0, by kernel_rfl⟩)
end ref01_Bits

/-! instar/instarref01.Need -/
namespace ref01_Need
abbrev TA : Type := ((Int × Unit) × Unit)
noncomputable def t (n : Int) : Tw Int :=
 (.bb (decide (n < (1 : Int)))
  (.ret (0 : Int))
  (.ret (w64 ((w64 (Int.tdiv n (4 : Int))) + (w64 (Int.tdiv (w64 ((Int.tmod n (4 : Int)) + (3 : Int))) (4 : Int)))))))
noncomputable def c (n : Int) : Option Int := (t n).run
def pA : Pt := (.cs (.int .i64) .nl)
def pH : Pt := .nl
def v (l : TA) (y : Int) : AV U := .im (.int .i64 y)
def hh (l : TA) (y : Int) : Hp U := []
noncomputable def A : AFun U := mkA (U := U) pA pH (X := Int) (fun (l : TA) => c l.1.1) sp1 v hh
noncomputable def body : Code := (Go.Func.body Try.f21).getD .skip
noncomputable def Γ : List (FuncId × AFun U) := []
noncomputable def Λ : List (Nat × LFun U) := []
noncomputable def CT : List (Nat × LFun U) := []
def ro : List FuncId := []
def D : Nat → Lv × Lv := dtab []
noncomputable def E : Env U := { E0 with Γ := Γ, Λ := Λ, C := CT, D := D, ro := ro }
theorem hk (R : Type) (l : TA) (K : AV U → Hp U → Option R) : funcA E Try.f21 [] R (pA.mkL l.1) (pH.mkH l.2) K = (t l.1.1).runK fun y => K (v l y) (hh l y) := by kernel_rfl
theorem okF : SoundF Try.prog cc 21 (funcA E Try.f21 []) :=
  funcA_ok (E := E) P_mixed (E0_ok.with Γ Λ CT D ro) (gam_of all_nil all_nil) Try.func21 (c := body) (by kernel_rfl)
    (just_by (by kernel_rfl) (by kernel_rfl) all_nil all_nil) []
theorem ok : SoundF Try.prog cc 21 A :=
  mkA_ok (E := E) (p := pA) (q := pH) (t := fun (l : TA) => t l.1.1) sp1_ok hk okF
theorem keep : KeepA A := mkA_keep (U := U) sp1_ok (fun (l : TA) y => ⟨(hh l y).drop 0, by kernel_rfl⟩)
end ref01_Need

/-! instar/instarref01.Bytes -/
namespace ref01_Bytes
abbrev TA : Type := (((List Int) × (Int × Unit)) × Unit)
abbrev T9 : Type := (((List Int) × (Int × (Unit × (Unit × (Int × (Unit × Unit)))))) × ((List Int) × Unit))
noncomputable def l9 (w : (List Int)) (n i : Int) (h0 : (List Int)) : Tw ((Int × (List Int)) ⊕ (List Int)) :=
 (.bb (decide (i < (((List.length w) : Nat) : Int)))
  (.dd (((0 : Int) ≤ i)) inferInstance
   (.opt (w)[(Int.toNat i)]? fun z3 =>
    (.dd (((0 : Int) ≤ i)) inferInstance
     (.opt (w)[(Int.toNat i)]? fun z4 =>
      (.dd (((0 : Int) ≤ i)) inferInstance
       (.opt (w)[(Int.toNat i)]? fun z5 =>
        (.dd (((0 : Int) ≤ i)) inferInstance
         (.opt (w)[(Int.toNat i)]? fun z6 =>
          (.dd ((((((List.length h0) + (List.length ((w8 (w32 (Int.tdiv z3 (16777216 : Int)))) :: ((w8 (Int.tmod (w32 (Int.tdiv z4 (65536 : Int))) (256 : Int))) :: ((w8 (Int.tmod (w32 (Int.tdiv z5 (256 : Int))) (256 : Int))) :: ((w8 (Int.tmod z6 (256 : Int))) :: ([] : List (Int)))))))) * (1 : Nat)) ≤ (140737488355328 : Nat)) ∧ (((List.length h0) + (List.length ((w8 (w32 (Int.tdiv z3 (16777216 : Int)))) :: ((w8 (Int.tmod (w32 (Int.tdiv z4 (65536 : Int))) (256 : Int))) :: ((w8 (Int.tmod (w32 (Int.tdiv z5 (256 : Int))) (256 : Int))) :: ((w8 (Int.tmod z6 (256 : Int))) :: ([] : List (Int)))))))) ≤ (140737488355328 : Nat)))) inferInstance
           (.ret (.inl ((w64 (i + (1 : Int))), (h0 ++ ((w8 (w32 (Int.tdiv z3 (16777216 : Int)))) :: ((w8 (Int.tmod (w32 (Int.tdiv z4 (65536 : Int))) (256 : Int))) :: ((w8 (Int.tmod (w32 (Int.tdiv z5 (256 : Int))) (256 : Int))) :: ((w8 (Int.tmod z6 (256 : Int))) :: ([] : List (Int))))))))))
           .no))
         .no))
       .no))
     .no))
   .no)
  (.ret (.inr h0)))
noncomputable def L9 (w : (List Int)) (n i : Int) (h0 : (List Int)) : Option (List Int) := Lp (fun s => (l9 w n s.1 s.2).run) (i, h0)
def p9 : Pt := (.cs (.sl 3) (.cs (.int .i64) (.cs (.bots 4) (.cs (.own 0) (.cs (.int .i64) (.cs (.bots 63) .nl))))))
def q9 : Pt := (.cs (.row 2 true) .nl)
def ou9 (l : T9) (y : (List Int)) : Ex × St U := (.exit 0, stOf 71 [(1, .im (.int .i64 l.1.2.1)), (6, .own 0)] [.row 2 y true] 0)
noncomputable def Λ9 : LFun U := mkLp (U := U) p9 q9 0 (X := (List Int)) (fun (l : T9) => L9 l.1.1 l.1.2.1 l.1.2.2.2.2.1 l.2.1) sp1 ou9
abbrev T13 : Type := ((Unit × (Int × (Unit × (Unit × (Unit × (Int × (Unit × Unit))))))) × ((List Int) × Unit))
noncomputable def l13 (n : Int) (h0 : (List Int)) (i : Int) : Tw (Int ⊕ (Unit ⊕ Int)) :=
 (.bb (decide (i < (((List.length h0) : Nat) : Int)))
  (.dd ((((0 : Int) ≤ i) ∧ (i < (((List.length h0) : Nat) : Int)))) inferInstance
   (.opt (h0)[(Int.toNat i)]? fun z8 =>
    (.bb (z8 != (0 : Int))
     (.ret (.inr (.inr (6 : Int))))
     (.ret (.inl (w64 (i + (1 : Int)))))))
   .no)
  (.ret (.inr (.inl ()))))
noncomputable def L13 (n i : Int) (h0 : (List Int)) : Option (Unit ⊕ Int) := Lp (fun s => (l13 n h0 s).run) i
def p13 : Pt := (.cs (.bots 1) (.cs (.int .i64) (.cs (.bots 4) (.cs (.own 0) (.cs (.bots 1) (.cs (.int .i64) (.cs (.bots 62) .nl)))))))
def q13 : Pt := (.cs (.row 2 true) .nl)
def ou13 (l : T13) (y : (Unit ⊕ Int)) : Ex × St U := (Sum.elim (fun a0 => (.exit 2, stOf 71 [(1, .im (.int .i64 l.1.2.1)), (6, .own 0)] [.row 2 l.2.1 true] 0)) (fun b0 => (.ret, stOf 71 [(1, .im (.int .i64 l.1.2.1)), (4, .im .nils), (5, .im (.int .i64 b0)), (6, .own 0)] [.row 2 l.2.1 true] 0)) y)
noncomputable def Λ13 : LFun U := mkLp (U := U) p13 q13 0 (X := (Unit ⊕ Int)) (fun (l : T13) => L13 l.1.2.1 l.1.2.2.2.2.2.1 l.2.1) (spS sp1) ou13
noncomputable def t (w : (List Int)) (n : Int) : Tw ((List Int) × Int) :=
 (.bb (decide (n < (0 : Int)))
  (.ret (([] : List (Int)), (2 : Int)))
  (.opt (ref01_Need.c n) fun z1 =>
   (.bb (decide ((((List.length w) : Nat) : Int) < z1))
    (.ret (([] : List (Int)), (5 : Int)))
    (.opt (ref01_Need.c n) fun z2 =>
     (.bb (decide ((((List.length w) : Nat) : Int) > z2))
      (.ret (([] : List (Int)), (6 : Int)))
      (.opt (L9 w n (0 : Int) ([] : List (Int))) fun z7 =>
       (.opt (L13 n n z7) fun z9 =>
        (.sm z9
         (fun z10 => (.dd ((((0 : Int) ≤ n) ∧ (n ≤ (((List.length z7) : Nat) : Int)))) inferInstance
           (.ret ((List.take ((Int.toNat n) - (0 : Nat)) (List.drop (0 : Nat) z7)), (0 : Int)))
           .no))
         (fun z11 => (.ret (([] : List (Int)), z11)))))))))))
noncomputable def c (w : (List Int)) (n : Int) : Option ((List Int) × Int) := (t w n).run
def pA : Pt := (.cs (.sl 3) (.cs (.int .i64) .nl))
def pH : Pt := .nl
def v (l : TA) (y : ((List Int) × Int)) : AV U := .tup [.im (.slice 2 y.1), .im (.int .i64 y.2)]
def hh (l : TA) (y : ((List Int) × Int)) : Hp U := []
noncomputable def A : AFun U := mkA (U := U) pA pH (X := ((List Int) × Int)) (fun (l : TA) => c l.1.1 l.1.2.1) sp1 v hh
noncomputable def body : Code := (Go.Func.body Try.f63).getD .skip
noncomputable def Γ : List (FuncId × AFun U) := [(21, ref01_Need.A)]
noncomputable def Λ : List (Nat × LFun U) := [(9, Λ9), (13, Λ13)]
noncomputable def CT : List (Nat × LFun U) := []
def ro : List FuncId := []
def D : Nat → Lv × Lv := dtab [(9, ⟨[7, 0, 6, 1], [(6, [], .own 2)]⟩, ⟨[4, 5, 6, 1], []⟩), (13, ⟨[8, 6, 1], []⟩, ⟨[4, 5, 1, 6], []⟩)]
noncomputable def E : Env U := { E0 with Γ := Γ, Λ := Λ, C := CT, D := D, ro := ro }
theorem hf9 (R : Type) (l : T9) (s : (Int × (List Int))) (K : Ex → St U → Option R) : codeA E (pick (loopsOf body) 9) ⟨p9.mkL (((l.1.1, (l.1.2.1, ((), ((), (s.1, ((), ())))))), (s.2, ())) : T9).1, q9.mkH (((l.1.1, (l.1.2.1, ((), ((), (s.1, ((), ())))))), (s.2, ())) : T9).2, 0⟩ (roundK E (pick (loopsOf body) 9) K) =
  (l9 l.1.1 l.1.2.1 s.1 s.2).runK (lpK K (fun s => ⟨p9.mkL (((l.1.1, (l.1.2.1, ((), ((), (s.1, ((), ())))))), (s.2, ())) : T9).1, q9.mkH (((l.1.1, (l.1.2.1, ((), ((), (s.1, ((), ())))))), (s.2, ())) : T9).2, 0⟩) sp1 (ou9 l)) := by kernel_rfl
theorem lk9 (R : Type) (st : St U) (K : Ex → St U → Option R) (r : R) (h : Λ9 R st K = some r) : ∃ n, loopA E (pick (loopsOf body) 9) n st K = some r :=
  lp_ok (U := U) (E := E) (b := pick (loopsOf body) 9) (m := 0) (sp := sp1) (p := p9) (q := q9) (X := (List Int)) (S := (Int × (List Int))) (f := fun (l : T9) s => l9 l.1.1 l.1.2.1 s.1 s.2) (hd := fun (l : T9) s => ((l.1.1, (l.1.2.1, ((), ((), (s.1, ((), ())))))), (s.2, ()))) (s0 := fun (l : T9) => (l.1.2.2.2.2.1, l.2.1)) (ou := ou9)
    (fun l => rfl) (fun l x => by rfl) sp1_ok hf9 h
theorem hf13 (R : Type) (l : T13) (s : Int) (K : Ex → St U → Option R) : codeA E (pick (loopsOf body) 13) ⟨p13.mkL ((((), (l.1.2.1, ((), ((), ((), (s, ((), ()))))))), (l.2.1, ())) : T13).1, q13.mkH ((((), (l.1.2.1, ((), ((), ((), (s, ((), ()))))))), (l.2.1, ())) : T13).2, 0⟩ (roundK E (pick (loopsOf body) 13) K) =
  (l13 l.1.2.1 l.2.1 s).runK (lpK K (fun s => ⟨p13.mkL ((((), (l.1.2.1, ((), ((), ((), (s, ((), ()))))))), (l.2.1, ())) : T13).1, q13.mkH ((((), (l.1.2.1, ((), ((), ((), (s, ((), ()))))))), (l.2.1, ())) : T13).2, 0⟩) (spS sp1) (ou13 l)) := by kernel_rfl
theorem lk13 (R : Type) (st : St U) (K : Ex → St U → Option R) (r : R) (h : Λ13 R st K = some r) : ∃ n, loopA E (pick (loopsOf body) 13) n st K = some r :=
  lp_ok (U := U) (E := E) (b := pick (loopsOf body) 13) (m := 0) (sp := (spS sp1)) (p := p13) (q := q13) (X := (Unit ⊕ Int)) (S := Int) (f := fun (l : T13) s => l13 l.1.2.1 l.2.1 s) (hd := fun (l : T13) s => (((), (l.1.2.1, ((), ((), ((), (s, ((), ()))))))), (l.2.1, ()))) (s0 := fun (l : T13) => l.1.2.2.2.2.2.1) (ou := ou13)
    (fun l => rfl) (fun l x => by repeat' (first | rfl | (cases x with | inl => rfl | inr x => ?_))) (spS_ok sp1_ok) hf13 h
theorem hk (R : Type) (l : TA) (K : AV U → Hp U → Option R) : funcA E Try.f63 [(0, [], .im 2)] R (pA.mkL l.1) (pH.mkH l.2) K = (t l.1.1 l.1.2.1).runK fun y => K (v l y) (hh l y) := by kernel_rfl
theorem okF : SoundF Try.prog cc 63 (funcA E Try.f63 [(0, [], .im 2)]) :=
  funcA_ok (E := E) P_mixed (E0_ok.with Γ Λ CT D ro) (gam_of (all_cons ⟨ref01_Need.ok, ⟨Try.f21, Try.func21, by kernel_rfl, by kernel_rfl⟩⟩ all_nil) (all_cons (no_keep (by kernel_rfl)) all_nil)) Try.func63 (c := body) (by kernel_rfl)
    (just_by (by kernel_rfl) (by kernel_rfl) (all_cons lk9 (all_cons lk13 all_nil)) all_nil) [(0, [], .im 2)]
theorem ok : SoundF Try.prog cc 63 A :=
  mkA_ok (E := E) (p := pA) (q := pH) (t := fun (l : TA) => t l.1.1 l.1.2.1) sp1_ok hk okF
theorem keep : KeepA A := mkA_keep (U := U) sp1_ok (fun (l : TA) y => ⟨(hh l y).drop 0, by kernel_rfl⟩)
end ref01_Bytes

/-! instar/instarref01.Same -/
namespace ref01_Same
abbrev TA : Type := (((List Int) × ((List Int) × Unit)) × Unit)
abbrev T4 : Type := (((List Int) × ((List Int) × (Unit × (Int × (Unit × Unit))))) × Unit)
noncomputable def l4 (a : (List Int)) (b : (List Int)) (i : Int) : Tw (Int ⊕ (Unit ⊕ Bool)) :=
 (.bb (decide (i < (((List.length a) : Nat) : Int)))
  (.dd (((0 : Int) ≤ i)) inferInstance
   (.opt (a)[(Int.toNat i)]? fun z1 =>
    (.dd (((0 : Int) ≤ i)) inferInstance
     (.opt (b)[(Int.toNat i)]? fun z2 =>
      (.bb (z1 != z2)
       (.ret (.inr (.inr false)))
       (.ret (.inl (w64 (i + (1 : Int)))))))
     .no))
   .no)
  (.ret (.inr (.inl ()))))
noncomputable def L4 (a : (List Int)) (b : (List Int)) (i : Int) : Option (Unit ⊕ Bool) := Lp (fun s => (l4 a b s).run) i
def p4 : Pt := (.cs (.sl 3) (.cs (.sl 3) (.cs (.bots 3) (.cs (.int .i64) (.cs (.bots 20) .nl)))))
def q4 : Pt := .nl
def ou4 (l : T4) (y : (Unit ⊕ Bool)) : Ex × St U := (Sum.elim (fun a0 => (.exit 0, stOf 26 [] [] 0)) (fun b0 => (.ret, stOf 26 [(4, .im (.bool b0))] [] 0)) y)
noncomputable def Λ4 : LFun U := mkLp (U := U) p4 q4 0 (X := (Unit ⊕ Bool)) (fun (l : T4) => L4 l.1.1 l.1.2.1 l.1.2.2.2.1) (spS sp1) ou4
noncomputable def t (a : (List Int)) (b : (List Int)) : Tw Bool :=
 (.bb ((((List.length a) : Nat) : Int) != (((List.length b) : Nat) : Int))
  (.ret false)
  (.opt (L4 a b (0 : Int)) fun z3 =>
   (.sm z3
    (fun z4 => (.ret true))
    (fun z5 => (.ret z5)))))
noncomputable def c (a : (List Int)) (b : (List Int)) : Option Bool := (t a b).run
def pA : Pt := (.cs (.sl 3) (.cs (.sl 3) .nl))
def pH : Pt := .nl
def v (l : TA) (y : Bool) : AV U := .im (.bool y)
def hh (l : TA) (y : Bool) : Hp U := []
noncomputable def A : AFun U := mkA (U := U) pA pH (X := Bool) (fun (l : TA) => c l.1.1 l.1.2.1) sp1 v hh
noncomputable def body : Code := (Go.Func.body Try.f20).getD .skip
noncomputable def Γ : List (FuncId × AFun U) := []
noncomputable def Λ : List (Nat × LFun U) := [(4, Λ4)]
noncomputable def CT : List (Nat × LFun U) := []
def ro : List FuncId := []
def D : Nat → Lv × Lv := dtab [(4, ⟨[5, 1, 0], []⟩, ⟨[4], []⟩)]
noncomputable def E : Env U := { E0 with Γ := Γ, Λ := Λ, C := CT, D := D, ro := ro }
theorem hf4 (R : Type) (l : T4) (s : Int) (K : Ex → St U → Option R) : codeA E (pick (loopsOf body) 4) ⟨p4.mkL (((l.1.1, (l.1.2.1, ((), (s, ((), ()))))), ()) : T4).1, q4.mkH (((l.1.1, (l.1.2.1, ((), (s, ((), ()))))), ()) : T4).2, 0⟩ (roundK E (pick (loopsOf body) 4) K) =
  (l4 l.1.1 l.1.2.1 s).runK (lpK K (fun s => ⟨p4.mkL (((l.1.1, (l.1.2.1, ((), (s, ((), ()))))), ()) : T4).1, q4.mkH (((l.1.1, (l.1.2.1, ((), (s, ((), ()))))), ()) : T4).2, 0⟩) (spS sp1) (ou4 l)) := by kernel_rfl
theorem lk4 (R : Type) (st : St U) (K : Ex → St U → Option R) (r : R) (h : Λ4 R st K = some r) : ∃ n, loopA E (pick (loopsOf body) 4) n st K = some r :=
  lp_ok (U := U) (E := E) (b := pick (loopsOf body) 4) (m := 0) (sp := (spS sp1)) (p := p4) (q := q4) (X := (Unit ⊕ Bool)) (S := Int) (f := fun (l : T4) s => l4 l.1.1 l.1.2.1 s) (hd := fun (l : T4) s => ((l.1.1, (l.1.2.1, ((), (s, ((), ()))))), ())) (s0 := fun (l : T4) => l.1.2.2.2.1) (ou := ou4)
    (fun l => rfl) (fun l x => by repeat' (first | rfl | (cases x with | inl => rfl | inr x => ?_))) (spS_ok sp1_ok) hf4 h
theorem hk (R : Type) (l : TA) (K : AV U → Hp U → Option R) : funcA E Try.f20 [] R (pA.mkL l.1) (pH.mkH l.2) K = (t l.1.1 l.1.2.1).runK fun y => K (v l y) (hh l y) := by kernel_rfl
theorem okF : SoundF Try.prog cc 20 (funcA E Try.f20 []) :=
  funcA_ok (E := E) P_mixed (E0_ok.with Γ Λ CT D ro) (gam_of all_nil all_nil) Try.func20 (c := body) (by kernel_rfl)
    (just_by (by kernel_rfl) (by kernel_rfl) (all_cons lk4 all_nil) all_nil) []
theorem ok : SoundF Try.prog cc 20 A :=
  mkA_ok (E := E) (p := pA) (q := pH) (t := fun (l : TA) => t l.1.1 l.1.2.1) sp1_ok hk okF
theorem keep : KeepA A := mkA_keep (U := U) sp1_ok (fun (l : TA) y => ⟨(hh l y).drop 0, by kernel_rfl⟩)
end ref01_Same

end Go.Proofs.Ytnlclchlnngdnaa.Va
