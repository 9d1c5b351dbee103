/- The functions of package leaf, as plain functions, and that the program computes them. Printed by a program of this work out of the evaluator. -/
import Derived.Test.YtpidbpmkogbdeaaEn
import Derived.Tactics
import Derived.Test.YtpidbpmkogbdeaaFitem
import Derived.Test.YtpidbpmkogbdeaaFword
import Derived.Test.YtpidbpmkogbdeaaFzeros
namespace Go.Proofs.Ytpidbpmkogbdeaa.Va
open Go
set_option linter.unusedVariables false
set_option maxRecDepth 100000

/-! instar/leaf.Cost -/
namespace leaf_Cost
abbrev TA : Type := (((Int × (ByteArray × Unit)) × Unit) × Unit)
noncomputable def t (x_0 : Int) (x_1 : ByteArray) : Tw Int :=
 (.opt (word_Need.c (((ByteArray.size x_1) : Nat) : Int)) fun z1 =>
  (.ret (w64 ((2 : Int) + z1))))
noncomputable def c (x_0 : Int) (x_1 : ByteArray) : Option Int := (t x_0 x_1).run
def pA : Pt := (.cs (.agg (.cs (.int .u32) (.cs .str .nl))) .nl)
def pH : Pt := .nl
def v (l : TA) (y : Int) : AV U := .im (.int .i64 y)
def hh (l : TA) (y : Int) : Hp U := []
noncomputable def A : AFun U := mkA (U := U) pA pH (X := Int) (fun (l : TA) => c l.1.1.1 l.1.1.2.1) sp1 v hh
noncomputable def body : Code := (Go.Func.body Try.f96).getD .skip
noncomputable def Γ : List (FuncId × AFun U) := [(160, word_Need.A)]
noncomputable def Λ : List (Nat × LFun U) := []
noncomputable def CT : List (Nat × LFun U) := []
def ro : List FuncId := []
def D : Nat → Lv × Lv := dtab []
noncomputable def E : Env U := { E0 with Γ := Γ, Λ := Λ, C := CT, D := D, ro := ro }
theorem hk (R : Type) (l : TA) (K : AV U → Hp U → Option R) : funcA E Try.f96 [] R (pA.mkL l.1) (pH.mkH l.2) K = (t l.1.1.1 l.1.1.2.1).runK fun y => K (v l y) (hh l y) := by kernel_rfl
theorem okF : SoundF Try.prog cc 96 (funcA E Try.f96 []) :=
  funcA_ok (E := E) P_mixed (E0_ok.with Γ Λ CT D ro) (gam_of (all_cons ⟨word_Need.ok, ⟨Try.f160, Try.func160, by kernel_rfl, by kernel_rfl⟩⟩ all_nil) (all_cons (no_keep (by kernel_rfl)) all_nil)) Try.func96 (c := body) (by kernel_rfl)
    (just_by (by kernel_rfl) (by kernel_rfl) all_nil all_nil) []
theorem ok : SoundF Try.prog cc 96 A :=
  mkA_ok (E := E) (p := pA) (q := pH) (t := fun (l : TA) => t l.1.1.1 l.1.1.2.1) sp1_ok hk okF
theorem keep : KeepA A := mkA_keep (U := U) sp1_ok (fun (l : TA) y => ⟨(hh l y).drop 0, by kernel_rfl⟩)
end leaf_Cost

/-! instar/leaf.Total -/
namespace leaf_Total
abbrev TA : Type := (((List ItemV) × Unit) × Unit)
abbrev T3 : Type := ((Unit × (Int × (Unit × ((List ItemV) × (Int × (Int × (Unit × Unit))))))) × Unit)
noncomputable def l3 (k6 : (List ItemV)) (k7 : Int) (n : Int) (k8 : Int) : Tw ((Int × Int) ⊕ Int) :=
 (.bb (decide (k8 < k7))
  (.dd (((0 : Int) ≤ k8)) inferInstance
   (.opt (k6)[(Int.toNat k8)]? fun z1 =>
    (.opt (leaf_Cost.c z1.key z1.data) fun z2 =>
     (.ret (.inl ((w64 (n + z2)), (w64 (k8 + (1 : Int))))))))
   .no)
  (.ret (.inr n)))
noncomputable def L3 (n : Int) (k6 : (List ItemV)) (k7 : Int) (k8 : Int) : Option Int := Lp (fun s => (l3 k6 k7 s.1 s.2).run) (n, k8)
def p3 : Pt := (.cs (.bots 3) (.cs (.int .i64) (.cs (.bots 2) (.cs (.sl 10) (.cs (.int .i64) (.cs (.int .i64) (.cs (.bots 9) .nl)))))))
def q3 : Pt := .nl
def ou3 (l : T3) (y : Int) : Ex × St U := (.exit 0, stOf 18 [(3, .im (.int .i64 y))] [] 0)
noncomputable def Λ3 : LFun U := mkLp (U := U) p3 q3 0 (X := Int) (fun (l : T3) => L3 l.1.2.1 l.1.2.2.2.1 l.1.2.2.2.2.1 l.1.2.2.2.2.2.1) sp1 ou3
noncomputable def t (l_ : (List ItemV)) : Tw Int :=
 (.opt (L3 (0 : Int) l_ (((List.length l_) : Nat) : Int) (0 : Int)) fun z3 =>
  (.ret z3))
noncomputable def c (l_ : (List ItemV)) : Option Int := (t l_).run
def pA : Pt := (.cs (.sl 10) .nl)
def pH : Pt := .nl
def v (l : TA) (y : Int) : AV U := .im (.int .i64 y)
def hh (l : TA) (y : Int) : Hp U := []
noncomputable def A : AFun U := mkA (U := U) pA pH (X := Int) (fun (l : TA) => c l.1.1) sp1 v hh
noncomputable def body : Code := (Go.Func.body Try.f27).getD .skip
noncomputable def Γ : List (FuncId × AFun U) := [(96, leaf_Cost.A)]
noncomputable def Λ : List (Nat × LFun U) := [(3, Λ3)]
noncomputable def CT : List (Nat × LFun U) := []
def ro : List FuncId := []
def D : Nat → Lv × Lv := dtab [(3, ⟨[8, 3, 6, 7], []⟩, ⟨[2, 3], []⟩)]
noncomputable def E : Env U := { E0 with Γ := Γ, Λ := Λ, C := CT, D := D, ro := ro }
theorem hf3 (R : Type) (l : T3) (s : (Int × Int)) (K : Ex → St U → Option R) : codeA E (pick (loopsOf body) 3) ⟨p3.mkL ((((), (s.1, ((), (l.1.2.2.2.1, (l.1.2.2.2.2.1, (s.2, ((), ()))))))), ()) : T3).1, q3.mkH ((((), (s.1, ((), (l.1.2.2.2.1, (l.1.2.2.2.2.1, (s.2, ((), ()))))))), ()) : T3).2, 0⟩ (roundK E (pick (loopsOf body) 3) K) =
  (l3 l.1.2.2.2.1 l.1.2.2.2.2.1 s.1 s.2).runK (lpK K (fun s => ⟨p3.mkL ((((), (s.1, ((), (l.1.2.2.2.1, (l.1.2.2.2.2.1, (s.2, ((), ()))))))), ()) : T3).1, q3.mkH ((((), (s.1, ((), (l.1.2.2.2.1, (l.1.2.2.2.2.1, (s.2, ((), ()))))))), ()) : T3).2, 0⟩) sp1 (ou3 l)) := by kernel_rfl
theorem lk3 (R : Type) (st : St U) (K : Ex → St U → Option R) (r : R) (h : Λ3 R st K = some r) : ∃ n, loopA E (pick (loopsOf body) 3) n st K = some r :=
  lp_ok (U := U) (E := E) (b := pick (loopsOf body) 3) (m := 0) (sp := sp1) (p := p3) (q := q3) (X := Int) (S := (Int × Int)) (f := fun (l : T3) s => l3 l.1.2.2.2.1 l.1.2.2.2.2.1 s.1 s.2) (hd := fun (l : T3) s => (((), (s.1, ((), (l.1.2.2.2.1, (l.1.2.2.2.2.1, (s.2, ((), ()))))))), ())) (s0 := fun (l : T3) => (l.1.2.1, l.1.2.2.2.2.2.1)) (ou := ou3)
    (fun l => rfl) (fun l x => by rfl) sp1_ok hf3 h
theorem hk (R : Type) (l : TA) (K : AV U → Hp U → Option R) : funcA E Try.f27 [] R (pA.mkL l.1) (pH.mkH l.2) K = (t l.1.1).runK fun y => K (v l y) (hh l y) := by kernel_rfl
theorem okF : SoundF Try.prog cc 27 (funcA E Try.f27 []) :=
  funcA_ok (E := E) P_mixed (E0_ok.with Γ Λ CT D ro) (gam_of (all_cons ⟨leaf_Cost.ok, ⟨Try.f96, Try.func96, by kernel_rfl, by kernel_rfl⟩⟩ all_nil) (all_cons (no_keep (by kernel_rfl)) all_nil)) Try.func27 (c := body) (by kernel_rfl)
    (just_by (by kernel_rfl) (by kernel_rfl) (all_cons lk3 all_nil) all_nil) []
theorem ok : SoundF Try.prog cc 27 A :=
  mkA_ok (E := E) (p := pA) (q := pH) (t := fun (l : TA) => t l.1.1) sp1_ok hk okF
theorem keep : KeepA A := mkA_keep (U := U) sp1_ok (fun (l : TA) y => ⟨(hh l y).drop 0, by kernel_rfl⟩)
end leaf_Total

/-! instar/leaf.Room -/
namespace leaf_Room
abbrev TA : Type := ((Int × Unit) × Unit)
noncomputable def t (words : Int) : Tw Int :=
 (.ret (w64 ((imax words (2 : Int)) - (2 : Int))))
noncomputable def c (words : Int) : Option Int := (t words).run
def pA : Pt := (.cs (.int .i64) .nl)
def pH : Pt := .nl
def v (l : TA) (y : Int) : AV U := .im (.int .i64 y)
def hh (l : TA) (y : Int) : Hp U := []
noncomputable def A : AFun U := mkA (U := U) pA pH (X := Int) (fun (l : TA) => c l.1.1) sp1 v hh
noncomputable def body : Code := (Go.Func.body Try.f28).getD .skip
noncomputable def Γ : List (FuncId × AFun U) := []
noncomputable def Λ : List (Nat × LFun U) := []
noncomputable def CT : List (Nat × LFun U) := []
def ro : List FuncId := []
def D : Nat → Lv × Lv := dtab []
noncomputable def E : Env U := { E0 with Γ := Γ, Λ := Λ, C := CT, D := D, ro := ro }
theorem hk (R : Type) (l : TA) (K : AV U → Hp U → Option R) : funcA E Try.f28 [] R (pA.mkL l.1) (pH.mkH l.2) K = (t l.1.1).runK fun y => K (v l y) (hh l y) := by kernel_rfl
theorem okF : SoundF Try.prog cc 28 (funcA E Try.f28 []) :=
  funcA_ok (E := E) P_mixed (E0_ok.with Γ Λ CT D ro) (gam_of all_nil all_nil) Try.func28 (c := body) (by kernel_rfl)
    (just_by (by kernel_rfl) (by kernel_rfl) all_nil all_nil) []
theorem ok : SoundF Try.prog cc 28 A :=
  mkA_ok (E := E) (p := pA) (q := pH) (t := fun (l : TA) => t l.1.1) sp1_ok hk okF
theorem keep : KeepA A := mkA_keep (U := U) sp1_ok (fun (l : TA) y => ⟨(hh l y).drop 0, by kernel_rfl⟩)
end leaf_Room

/-! instar/leaf.Lay -/
namespace leaf_Lay
abbrev TA : Type := (((List ItemV) × (Int × Unit)) × Unit)
abbrev T7 : Type := ((Unit × (Unit × (Unit × ((List ItemV) × (Int × (Int × (Unit × Unit))))))) × ((List Int) × Unit))
noncomputable def l7 (k28 : (List ItemV)) (k29 : Int) (k30 : Int) (h0 : (List Int)) : Tw ((Int × (List Int)) ⊕ (List Int)) :=
 (.bb (decide (k30 < k29))
  (.dd (((0 : Int) ≤ k30)) inferInstance
   (.opt (k28)[(Int.toNat k30)]? fun z4 =>
    (.dd ((((((List.length h0) + (List.length (z4.key :: ((w32 (((ByteArray.size z4.data) : Nat) : Int)) :: ([] : List Int))))) * (4 : Nat)) ≤ (140737488355328 : Nat)) ∧ (((List.length h0) + (List.length (z4.key :: ((w32 (((ByteArray.size z4.data) : Nat) : Int)) :: ([] : List Int))))) ≤ (140737488355328 : Nat)))) inferInstance
     (.opt (word_Pack.c (Go.Proofs.Ytpidbpmkogbdeaa.Va.b2l z4.data)) fun z5 =>
      (.dd ((((((List.length (h0 ++ (z4.key :: ((w32 (((ByteArray.size z4.data) : Nat) : Int)) :: ([] : List Int))))) + (List.length z5)) * (4 : Nat)) ≤ (140737488355328 : Nat)) ∧ (((List.length (h0 ++ (z4.key :: ((w32 (((ByteArray.size z4.data) : Nat) : Int)) :: ([] : List Int))))) + (List.length z5)) ≤ (140737488355328 : Nat)))) inferInstance
       (.ret (.inl ((w64 (k30 + (1 : Int))), ((h0 ++ (z4.key :: ((w32 (((ByteArray.size z4.data) : Nat) : Int)) :: ([] : List Int)))) ++ z5))))
       .no))
     .no))
   .no)
  (.ret (.inr h0)))
noncomputable def L7 (k28 : (List ItemV)) (k29 : Int) (k30 : Int) (h0 : (List Int)) : Option (List Int) := Lp (fun s => (l7 k28 k29 s.1 s.2).run) (k30, h0)
def p7 : Pt := (.cs (.bots 6) (.cs (.own 0) (.cs (.bots 21) (.cs (.sl 10) (.cs (.int .i64) (.cs (.int .i64) (.cs (.bots 21) .nl)))))))
def q7 : Pt := (.cs (.row 3 true) .nl)
def ou7 (l : T7) (y : (List Int)) : Ex × St U := (.exit 1, stOf 52 [(6, .own 0)] [.row 3 y true] 0)
noncomputable def Λ7 : LFun U := mkLp (U := U) p7 q7 0 (X := (List Int)) (fun (l : T7) => L7 l.1.2.2.2.1 l.1.2.2.2.2.1 l.1.2.2.2.2.2.1 l.2.1) sp1 ou7
noncomputable def t (l_ : (List ItemV)) (words : Int) : Tw (Int × (List Int)) :=
 (.bb ((((List.length l_) : Nat) : Int) == (0 : Int))
  (.ret ((2 : Int), ([] : List Int)))
  (.opt (item_Right.c l_) fun z1 =>
   (.bb (!z1)
    (.ret ((2 : Int), ([] : List Int)))
    (.opt (leaf_Total.c l_) fun z2 =>
     (.opt (leaf_Room.c words) fun z3 =>
      (.bb (decide (z2 > z3))
       (.ret ((14 : Int), ([] : List Int)))
       (.opt (L7 l_ (((List.length l_) : Nat) : Int) (0 : Int) ((w32 (((List.length l_) : Nat) : Int)) :: ([] : List Int))) fun z6 =>
        (.opt (zeros_Seal.c z6) fun z7 =>
         (.ret ((0 : Int), z7))))))))))
noncomputable def c (l_ : (List ItemV)) (words : Int) : Option (Int × (List Int)) := (t l_ words).run
def pA : Pt := (.cs (.sl 10) (.cs (.int .i64) .nl))
def pH : Pt := .nl
def v (l : TA) (y : (Int × (List Int))) : AV U := .tup [.own 0, .im (.int .i64 y.1)]
def hh (l : TA) (y : (Int × (List Int))) : Hp U := [.row 3 y.2 true]
noncomputable def A : AFun U := mkA (U := U) pA pH (X := (Int × (List Int))) (fun (l : TA) => c l.1.1 l.1.2.1) sp1 v hh
noncomputable def body : Code := (Go.Func.body Try.f19).getD .skip
noncomputable def Γ : List (FuncId × AFun U) := [(97, item_Right.A), (27, leaf_Total.A), (28, leaf_Room.A), (98, word_Pack.A), (99, zeros_Seal.A)]
noncomputable def Λ : List (Nat × LFun U) := [(7, Λ7)]
noncomputable def CT : List (Nat × LFun U) := []
def ro : List FuncId := []
def D : Nat → Lv × Lv := dtab [(7, ⟨[30, 6, 28, 29], []⟩, ⟨[4, 5, 6], []⟩)]
noncomputable def E : Env U := { E0 with Γ := Γ, Λ := Λ, C := CT, D := D, ro := ro }
theorem hf7 (R : Type) (l : T7) (s : (Int × (List Int))) (K : Ex → St U → Option R) : codeA E (pick (loopsOf body) 7) ⟨p7.mkL ((((), ((), ((), (l.1.2.2.2.1, (l.1.2.2.2.2.1, (s.1, ((), ()))))))), (s.2, ())) : T7).1, q7.mkH ((((), ((), ((), (l.1.2.2.2.1, (l.1.2.2.2.2.1, (s.1, ((), ()))))))), (s.2, ())) : T7).2, 0⟩ (roundK E (pick (loopsOf body) 7) K) =
  (l7 l.1.2.2.2.1 l.1.2.2.2.2.1 s.1 s.2).runK (lpK K (fun s => ⟨p7.mkL ((((), ((), ((), (l.1.2.2.2.1, (l.1.2.2.2.2.1, (s.1, ((), ()))))))), (s.2, ())) : T7).1, q7.mkH ((((), ((), ((), (l.1.2.2.2.1, (l.1.2.2.2.2.1, (s.1, ((), ()))))))), (s.2, ())) : T7).2, 0⟩) sp1 (ou7 l)) := by kernel_rfl
theorem lk7 (R : Type) (st : St U) (K : Ex → St U → Option R) (r : R) (h : Λ7 R st K = some r) : ∃ n, loopA E (pick (loopsOf body) 7) n st K = some r :=
  lp_ok (U := U) (E := E) (b := pick (loopsOf body) 7) (m := 0) (sp := sp1) (p := p7) (q := q7) (X := (List Int)) (S := (Int × (List Int))) (f := fun (l : T7) s => l7 l.1.2.2.2.1 l.1.2.2.2.2.1 s.1 s.2) (hd := fun (l : T7) s => (((), ((), ((), (l.1.2.2.2.1, (l.1.2.2.2.2.1, (s.1, ((), ()))))))), (s.2, ()))) (s0 := fun (l : T7) => (l.1.2.2.2.2.2.1, l.2.1)) (ou := ou7)
    (fun l => rfl) (fun l x => by rfl) sp1_ok hf7 h
theorem hk (R : Type) (l : TA) (K : AV U → Hp U → Option R) : funcA E Try.f19 [(0, [], .own 3)] R (pA.mkL l.1) (pH.mkH l.2) K = (t l.1.1 l.1.2.1).runK fun y => K (v l y) (hh l y) := by kernel_rfl
theorem okF : SoundF Try.prog cc 19 (funcA E Try.f19 [(0, [], .own 3)]) :=
  funcA_ok (E := E) P_mixed (E0_ok.with Γ Λ CT D ro) (gam_of (all_cons ⟨item_Right.ok, ⟨Try.f97, Try.func97, by kernel_rfl, by kernel_rfl⟩⟩ (all_cons ⟨leaf_Total.ok, ⟨Try.f27, Try.func27, by kernel_rfl, by kernel_rfl⟩⟩ (all_cons ⟨leaf_Room.ok, ⟨Try.f28, Try.func28, by kernel_rfl, by kernel_rfl⟩⟩ (all_cons ⟨word_Pack.ok, ⟨Try.f98, Try.func98, by kernel_rfl, by kernel_rfl⟩⟩ (all_cons ⟨zeros_Seal.ok, ⟨Try.f99, Try.func99, by kernel_rfl, by kernel_rfl⟩⟩ all_nil))))) (all_cons (no_keep (by kernel_rfl)) (all_cons (no_keep (by kernel_rfl)) (all_cons (no_keep (by kernel_rfl)) (all_cons (no_keep (by kernel_rfl)) (all_cons (no_keep (by kernel_rfl)) all_nil)))))) Try.func19 (c := body) (by kernel_rfl)
    (just_by (by kernel_rfl) (by kernel_rfl) (all_cons lk7 all_nil) all_nil) [(0, [], .own 3)]
theorem ok : SoundF Try.prog cc 19 A :=
  mkA_ok (E := E) (p := pA) (q := pH) (t := fun (l : TA) => t l.1.1 l.1.2.1) sp1_ok hk okF
theorem keep : KeepA A := mkA_keep (U := U) sp1_ok (fun (l : TA) y => ⟨(hh l y).drop 0, by kernel_rfl⟩)
end leaf_Lay

/-! instar/leaf.take -/
namespace leaf_take
abbrev TA : Type := (((List Int) × Unit) × Unit)
noncomputable def t (w : (List Int)) : Tw (Int × (ByteArray × ((List Int) × Bool))) :=
 (.bb (decide ((((List.length w) : Nat) : Int) < (2 : Int)))
  (.ret ((0 : Int), (ByteArray.empty, (([] : List Int), false))))
  (.opt (w)[(Int.toNat (1 : Int))]? fun z1 =>
   (.bb (decide (z1 > (64 : Int)))
    (.ret ((0 : Int), (ByteArray.empty, (([] : List Int), false))))
    (.opt (w)[(Int.toNat (1 : Int))]? fun z2 =>
     (.opt (word_Need.c (w64 z2)) fun z3 =>
      (.bb (decide ((((List.length w) : Nat) : Int) < (w64 ((2 : Int) + z3))))
       (.ret ((0 : Int), (ByteArray.empty, (([] : List Int), false))))
       (.dd ((((0 : Int) ≤ (2 : Int)) ∧ (((2 : Int) ≤ (w64 ((2 : Int) + z3))) ∧ ((w64 ((2 : Int) + z3)) ≤ (((List.length w) : Nat) : Int))))) inferInstance
        (.opt (word_Bytes.c (List.drop (Int.toNat (2 : Int)) (List.take (Int.toNat (w64 ((2 : Int) + z3))) w)) (w64 z2)) fun z4 =>
         (.opt (w)[(Int.toNat (0 : Int))]? fun z5 =>
          (.dd ((((0 : Int) ≤ (w64 ((2 : Int) + z3))) ∧ ((w64 ((2 : Int) + z3)) ≤ (((List.length w) : Nat) : Int)))) inferInstance
           (.ret (z5, ((Go.Proofs.Ytpidbpmkogbdeaa.Va.l2b z4.2), ((List.drop (Int.toNat (w64 ((2 : Int) + z3))) w), (z4.1 == (0 : Int))))))
           .no)))
        .no)))))))
noncomputable def c (w : (List Int)) : Option (Int × (ByteArray × ((List Int) × Bool))) := (t w).run
def pA : Pt := (.cs (.sl 3) .nl)
def pH : Pt := .nl
def v (l : TA) (y : (Int × (ByteArray × ((List Int) × Bool)))) : AV U := .tup [.agg [.im (.int .u32 y.1), .im (.str y.2.1)], .im (.slice 3 y.2.2.1), .im (.bool y.2.2.2)]
def hh (l : TA) (y : (Int × (ByteArray × ((List Int) × Bool)))) : Hp U := []
noncomputable def A : AFun U := mkA (U := U) pA pH (X := (Int × (ByteArray × ((List Int) × Bool)))) (fun (l : TA) => c l.1.1) sp1 v hh
noncomputable def body : Code := (Go.Func.body Try.f102).getD .skip
noncomputable def Γ : List (FuncId × AFun U) := [(160, word_Need.A), (163, word_Bytes.A)]
noncomputable def Λ : List (Nat × LFun U) := []
noncomputable def CT : List (Nat × LFun U) := []
def ro : List FuncId := []
def D : Nat → Lv × Lv := dtab []
noncomputable def E : Env U := { E0 with Γ := Γ, Λ := Λ, C := CT, D := D, ro := ro }
theorem hk (R : Type) (l : TA) (K : AV U → Hp U → Option R) : funcA E Try.f102 [(1, [], .im 3)] R (pA.mkL l.1) (pH.mkH l.2) K = (t l.1.1).runK fun y => K (v l y) (hh l y) := by kernel_rfl
theorem okF : SoundF Try.prog cc 102 (funcA E Try.f102 [(1, [], .im 3)]) :=
  funcA_ok (E := E) P_mixed (E0_ok.with Γ Λ CT D ro) (gam_of (all_cons ⟨word_Need.ok, ⟨Try.f160, Try.func160, by kernel_rfl, by kernel_rfl⟩⟩ (all_cons ⟨word_Bytes.ok, ⟨Try.f163, Try.func163, by kernel_rfl, by kernel_rfl⟩⟩ all_nil)) (all_cons (no_keep (by kernel_rfl)) (all_cons (no_keep (by kernel_rfl)) all_nil))) Try.func102 (c := body) (by kernel_rfl)
    (just_by (by kernel_rfl) (by kernel_rfl) all_nil all_nil) [(1, [], .im 3)]
theorem ok : SoundF Try.prog cc 102 A :=
  mkA_ok (E := E) (p := pA) (q := pH) (t := fun (l : TA) => t l.1.1) sp1_ok hk okF
theorem keep : KeepA A := mkA_keep (U := U) sp1_ok (fun (l : TA) y => ⟨(hh l y).drop 0, by kernel_rfl⟩)
end leaf_take

/-! instar/leaf.Take -/
namespace leaf_Take
abbrev TA : Type := (((List Int) × Unit) × Unit)
abbrev T6 : Type := (((List Int) × (Unit × (Unit × ((List Int) × (Unit × (Int × (Int × (Unit × Unit)))))))) × ((List ItemV) × Unit))
noncomputable def l6 (w : (List Int)) (k33 : Int) (rest : (List Int)) (k34 : Int) (h0 : (List ItemV)) : Tw (((List Int) × (Int × (List ItemV))) ⊕ (((List Int) × (List ItemV)) ⊕ (Int × ((List Int) × (List ItemV))))) :=
 (.bb (decide (k34 < k33))
  (.opt (leaf_take.c rest) fun z4 =>
   (.bb (!z4.2.2.2)
    (.ret (.inr (.inr ((12 : Int), (rest, h0)))))
    (.dd ((((((List.length h0) + (List.length ((Go.Proofs.Ytpidbpmkogbdeaa.Va.ItemV.mk z4.1 z4.2.1) :: ([] : List ItemV)))) * (24 : Nat)) ≤ (140737488355328 : Nat)) ∧ (((List.length h0) + (List.length ((Go.Proofs.Ytpidbpmkogbdeaa.Va.ItemV.mk z4.1 z4.2.1) :: ([] : List ItemV)))) ≤ (140737488355328 : Nat)))) inferInstance
     (.ret (.inl (z4.2.2.1, ((w32 (k34 + (1 : Int))), (h0 ++ ((Go.Proofs.Ytpidbpmkogbdeaa.Va.ItemV.mk z4.1 z4.2.1) :: ([] : List ItemV)))))))
     .no)))
  (.ret (.inr (.inl (rest, h0)))))
noncomputable def L6 (w : (List Int)) (rest : (List Int)) (k33 : Int) (k34 : Int) (h0 : (List ItemV)) : Option (((List Int) × (List ItemV)) ⊕ (Int × ((List Int) × (List ItemV)))) := Lp (fun s => (l6 w k33 s.1 s.2.1 s.2.2).run) (rest, (k34, h0))
def p6 : Pt := (.cs (.sl 3) (.cs (.bots 3) (.cs (.own 0) (.cs (.sl 3) (.cs (.bots 27) (.cs (.int .u32) (.cs (.int .u32) (.cs (.bots 37) .nl))))))))
def q6 : Pt := (.cs (.row 10 true) .nl)
def ou6 (l : T6) (y : (((List Int) × (List ItemV)) ⊕ (Int × ((List Int) × (List ItemV))))) : Ex × St U := (Sum.elim (fun a0 => (.exit 0, stOf 72 [(0, .im (.slice 3 l.1.1)), (4, .own 0), (5, .im (.slice 3 a0.1))] [.row 10 a0.2 true] 0)) (fun b0 => (.ret, stOf 72 [(0, .im (.slice 3 l.1.1)), (2, .im .nils), (3, .im (.int .i64 b0.1)), (4, .own 0), (5, .im (.slice 3 b0.2.1))] [.row 10 b0.2.2 true] 0)) y)
noncomputable def Λ6 : LFun U := mkLp (U := U) p6 q6 0 (X := (((List Int) × (List ItemV)) ⊕ (Int × ((List Int) × (List ItemV))))) (fun (l : T6) => L6 l.1.1 l.1.2.2.2.1 l.1.2.2.2.2.2.1 l.1.2.2.2.2.2.2.1 l.2.1) (spS sp1) ou6
noncomputable def t (w : (List Int)) : Tw (Int × (List ItemV)) :=
 (.bb (decide ((((List.length w) : Nat) : Int) < (2 : Int)))
  (.ret ((12 : Int), ([] : List ItemV)))
  (.opt (w)[(Int.toNat (0 : Int))]? fun z1 =>
   (.bb (z1 == (0 : Int))
    (.ret ((12 : Int), ([] : List ItemV)))
    (.opt (w)[(Int.toNat (0 : Int))]? fun z2 =>
     (.bb (decide ((wu64 z2) > (wu64 (((List.length w) : Nat) : Int))))
      (.ret ((12 : Int), ([] : List ItemV)))
      (.dd ((((0 : Int) ≤ (1 : Int)) ∧ ((1 : Int) ≤ (((List.length w) : Nat) : Int)))) inferInstance
       (.opt (w)[(Int.toNat (0 : Int))]? fun z3 =>
        (.opt (L6 w (List.drop (Int.toNat (1 : Int)) w) z3 (0 : Int) ([] : List ItemV)) fun z5 =>
         (.sm z5
          (fun z6 => (.bb ((((List.length z6.1) : Nat) : Int) == (0 : Int))
            (.ret ((12 : Int), ([] : List ItemV)))
            (.opt (item_Right.c z6.2) fun z8 =>
             (.bb (!z8)
              (.ret ((12 : Int), ([] : List ItemV)))
              (.dd ((((0 : Int) ≤ (w64 ((w64 ((((List.length w) : Nat) : Int) - (((List.length z6.1) : Nat) : Int))) + (1 : Int)))) ∧ ((w64 ((w64 ((((List.length w) : Nat) : Int) - (((List.length z6.1) : Nat) : Int))) + (1 : Int))) ≤ (((List.length w) : Nat) : Int)))) inferInstance
               (.opt (zeros_Right.c (List.take (Int.toNat (w64 ((w64 ((((List.length w) : Nat) : Int) - (((List.length z6.1) : Nat) : Int))) + (1 : Int)))) w)) fun z9 =>
                (.bb (!z9)
                 (.ret ((12 : Int), ([] : List ItemV)))
                 (.ret ((0 : Int), z6.2))))
               .no)))))
          (fun z7 => (.ret (z7.1, ([] : List ItemV)))))))
       .no))))))
noncomputable def c (w : (List Int)) : Option (Int × (List ItemV)) := (t w).run
def pA : Pt := (.cs (.sl 3) .nl)
def pH : Pt := .nl
def v (l : TA) (y : (Int × (List ItemV))) : AV U := .tup [.own 0, .im (.int .i64 y.1)]
def hh (l : TA) (y : (Int × (List ItemV))) : Hp U := [.row 10 y.2 true]
noncomputable def A : AFun U := mkA (U := U) pA pH (X := (Int × (List ItemV))) (fun (l : TA) => c l.1.1) sp1 v hh
noncomputable def body : Code := (Go.Func.body Try.f24).getD .skip
noncomputable def Γ : List (FuncId × AFun U) := [(102, leaf_take.A), (97, item_Right.A), (103, zeros_Right.A)]
noncomputable def Λ : List (Nat × LFun U) := [(6, Λ6)]
noncomputable def CT : List (Nat × LFun U) := []
def ro : List FuncId := []
def D : Nat → Lv × Lv := dtab [(6, ⟨[34, 4, 5, 0, 33], [(4, [], .own 10)]⟩, ⟨[2, 3, 4, 0, 5], []⟩)]
noncomputable def E : Env U := { E0 with Γ := Γ, Λ := Λ, C := CT, D := D, ro := ro }
theorem hf6 (R : Type) (l : T6) (s : ((List Int) × (Int × (List ItemV)))) (K : Ex → St U → Option R) : codeA E (pick (loopsOf body) 6) ⟨p6.mkL (((l.1.1, ((), ((), (s.1, ((), (l.1.2.2.2.2.2.1, (s.2.1, ((), ())))))))), (s.2.2, ())) : T6).1, q6.mkH (((l.1.1, ((), ((), (s.1, ((), (l.1.2.2.2.2.2.1, (s.2.1, ((), ())))))))), (s.2.2, ())) : T6).2, 0⟩ (roundK E (pick (loopsOf body) 6) K) =
  (l6 l.1.1 l.1.2.2.2.2.2.1 s.1 s.2.1 s.2.2).runK (lpK K (fun s => ⟨p6.mkL (((l.1.1, ((), ((), (s.1, ((), (l.1.2.2.2.2.2.1, (s.2.1, ((), ())))))))), (s.2.2, ())) : T6).1, q6.mkH (((l.1.1, ((), ((), (s.1, ((), (l.1.2.2.2.2.2.1, (s.2.1, ((), ())))))))), (s.2.2, ())) : T6).2, 0⟩) (spS sp1) (ou6 l)) := by kernel_rfl
theorem lk6 (R : Type) (st : St U) (K : Ex → St U → Option R) (r : R) (h : Λ6 R st K = some r) : ∃ n, loopA E (pick (loopsOf body) 6) n st K = some r :=
  lp_ok (U := U) (E := E) (b := pick (loopsOf body) 6) (m := 0) (sp := (spS sp1)) (p := p6) (q := q6) (X := (((List Int) × (List ItemV)) ⊕ (Int × ((List Int) × (List ItemV))))) (S := ((List Int) × (Int × (List ItemV)))) (f := fun (l : T6) s => l6 l.1.1 l.1.2.2.2.2.2.1 s.1 s.2.1 s.2.2) (hd := fun (l : T6) s => ((l.1.1, ((), ((), (s.1, ((), (l.1.2.2.2.2.2.1, (s.2.1, ((), ())))))))), (s.2.2, ()))) (s0 := fun (l : T6) => (l.1.2.2.2.1, (l.1.2.2.2.2.2.2.1, l.2.1))) (ou := ou6)
    (fun l => rfl) (fun l x => by repeat' (first | rfl | (cases x with | inl => rfl | inr x => ?_))) (spS_ok sp1_ok) hf6 h
theorem hk (R : Type) (l : TA) (K : AV U → Hp U → Option R) : funcA E Try.f24 [(0, [], .own 10)] R (pA.mkL l.1) (pH.mkH l.2) K = (t l.1.1).runK fun y => K (v l y) (hh l y) := by kernel_rfl
theorem okF : SoundF Try.prog cc 24 (funcA E Try.f24 [(0, [], .own 10)]) :=
  funcA_ok (E := E) P_mixed (E0_ok.with Γ Λ CT D ro) (gam_of (all_cons ⟨leaf_take.ok, ⟨Try.f102, Try.func102, by kernel_rfl, by kernel_rfl⟩⟩ (all_cons ⟨item_Right.ok, ⟨Try.f97, Try.func97, by kernel_rfl, by kernel_rfl⟩⟩ (all_cons ⟨zeros_Right.ok, ⟨Try.f103, Try.func103, by kernel_rfl, by kernel_rfl⟩⟩ all_nil))) (all_cons (no_keep (by kernel_rfl)) (all_cons (no_keep (by kernel_rfl)) (all_cons (no_keep (by kernel_rfl)) all_nil)))) Try.func24 (c := body) (by kernel_rfl)
    (just_by (by kernel_rfl) (by kernel_rfl) (all_cons lk6 all_nil) all_nil) [(0, [], .own 10)]
theorem ok : SoundF Try.prog cc 24 A :=
  mkA_ok (E := E) (p := pA) (q := pH) (t := fun (l : TA) => t l.1.1) sp1_ok hk okF
theorem keep : KeepA A := mkA_keep (U := U) sp1_ok (fun (l : TA) y => ⟨(hh l y).drop 0, by kernel_rfl⟩)
end leaf_Take

end Go.Proofs.Ytpidbpmkogbdeaa.Va
