/- The functions of package ref23, as plain functions, and that the program computes them. Printed by a program of this work out of the evaluator. -/
import Derived.Test.YtpidbpmkogbdeaaEn
import Derived.Tactics
import Derived.Test.YtpidbpmkogbdeaaFref01
import Derived.Test.YtpidbpmkogbdeaaFref02
import Derived.Test.YtpidbpmkogbdeaaFref18
namespace Go.Proofs.Ytpidbpmkogbdeaa.Va
open Go
set_option linter.unusedVariables false
set_option maxRecDepth 100000

/-! instar/instarref23.Cost -/
namespace ref23_Cost
abbrev TA : Type := (((Int × (ByteArray × Unit)) × Unit) × Unit)
noncomputable def t (x_0 : Int) (x_1 : ByteArray) : Tw Int :=
 (.opt (ref01_Need.c (((ByteArray.size x_1) : Nat) : Int)) fun z1 =>
  (.ret (w64 ((2 : Int) + z1))))
noncomputable def c (x_0 : Int) (x_1 : ByteArray) : Option Int := (t x_0 x_1).run
def pA : Pt := (.cs (.agg (.cs (.int .u32) (.cs .str .nl))) .nl)
def pH : Pt := .nl
def v (l : TA) (y : Int) : AV U := .im (.int .i64 y)
def hh (l : TA) (y : Int) : Hp U := []
noncomputable def A : AFun U := mkA (U := U) pA pH (X := Int) (fun (l : TA) => c l.1.1.1 l.1.1.2.1) sp1 v hh
noncomputable def body : Code := (Go.Func.body Try.f29).getD .skip
noncomputable def Γ : List (FuncId × AFun U) := [(104, ref01_Need.A)]
noncomputable def Λ : List (Nat × LFun U) := []
noncomputable def CT : List (Nat × LFun U) := []
def ro : List FuncId := []
def D : Nat → Lv × Lv := dtab []
noncomputable def E : Env U := { E0 with Γ := Γ, Λ := Λ, C := CT, D := D, ro := ro }
theorem hk (R : Type) (l : TA) (K : AV U → Hp U → Option R) : funcA E Try.f29 [] R (pA.mkL l.1) (pH.mkH l.2) K = (t l.1.1.1 l.1.1.2.1).runK fun y => K (v l y) (hh l y) := by kernel_rfl
theorem okF : SoundF Try.prog cc 29 (funcA E Try.f29 []) :=
  funcA_ok (E := E) P_mixed (E0_ok.with Γ Λ CT D ro) (gam_of (all_cons ⟨ref01_Need.ok, ⟨Try.f104, Try.func104, by kernel_rfl, by kernel_rfl⟩⟩ all_nil) (all_cons (no_keep (by kernel_rfl)) all_nil)) Try.func29 (c := body) (by kernel_rfl)
    (just_by (by kernel_rfl) (by kernel_rfl) all_nil all_nil) []
theorem ok : SoundF Try.prog cc 29 A :=
  mkA_ok (E := E) (p := pA) (q := pH) (t := fun (l : TA) => t l.1.1.1 l.1.1.2.1) sp1_ok hk okF
theorem keep : KeepA A := mkA_keep (U := U) sp1_ok (fun (l : TA) y => ⟨(hh l y).drop 0, by kernel_rfl⟩)
end ref23_Cost

/-! instar/instarref23.Total -/
namespace ref23_Total
abbrev TA : Type := (((List ItemV) × Unit) × Unit)
abbrev T3 : Type := (((List ItemV) × (Unit × (Int × (Int × (Unit × Unit))))) × Unit)
noncomputable def l3 (l_ : (List ItemV)) (n : Int) (i : Int) : Tw ((Int × Int) ⊕ Int) :=
 (.bb (decide (i < (((List.length l_) : Nat) : Int)))
  (.dd (((0 : Int) ≤ i)) inferInstance
   (.opt (l_)[(Int.toNat i)]? fun z1 =>
    (.opt (ref23_Cost.c z1.key z1.data) fun z2 =>
     (.ret (.inl ((w64 (n + z2)), (w64 (i + (1 : Int))))))))
   .no)
  (.ret (.inr n)))
noncomputable def L3 (l_ : (List ItemV)) (n : Int) (i : Int) : Option Int := Lp (fun s => (l3 l_ s.1 s.2).run) (n, i)
def p3 : Pt := (.cs (.sl 10) (.cs (.bots 2) (.cs (.int .i64) (.cs (.int .i64) (.cs (.bots 14) .nl)))))
def q3 : Pt := .nl
def ou3 (l : T3) (y : Int) : Ex × St U := (.exit 0, stOf 19 [(3, .im (.int .i64 y))] [] 0)
noncomputable def Λ3 : LFun U := mkLp (U := U) p3 q3 0 (X := Int) (fun (l : T3) => L3 l.1.1 l.1.2.2.1 l.1.2.2.2.1) sp1 ou3
noncomputable def t (l_ : (List ItemV)) : Tw Int :=
 (.opt (L3 l_ (0 : Int) (0 : Int)) fun z3 =>
  (.ret z3))
noncomputable def c (l_ : (List ItemV)) : Option Int := (t l_).run
def pA : Pt := (.cs (.sl 10) .nl)
def pH : Pt := .nl
def v (l : TA) (y : Int) : AV U := .im (.int .i64 y)
def hh (l : TA) (y : Int) : Hp U := []
noncomputable def A : AFun U := mkA (U := U) pA pH (X := Int) (fun (l : TA) => c l.1.1) sp1 v hh
noncomputable def body : Code := (Go.Func.body Try.f21).getD .skip
noncomputable def Γ : List (FuncId × AFun U) := [(29, ref23_Cost.A)]
noncomputable def Λ : List (Nat × LFun U) := [(3, Λ3)]
noncomputable def CT : List (Nat × LFun U) := []
def ro : List FuncId := []
def D : Nat → Lv × Lv := dtab [(3, ⟨[4, 0, 3], []⟩, ⟨[2, 3], []⟩)]
noncomputable def E : Env U := { E0 with Γ := Γ, Λ := Λ, C := CT, D := D, ro := ro }
theorem hf3 (R : Type) (l : T3) (s : (Int × Int)) (K : Ex → St U → Option R) : codeA E (pick (loopsOf body) 3) ⟨p3.mkL (((l.1.1, ((), (s.1, (s.2, ((), ()))))), ()) : T3).1, q3.mkH (((l.1.1, ((), (s.1, (s.2, ((), ()))))), ()) : T3).2, 0⟩ (roundK E (pick (loopsOf body) 3) K) =
  (l3 l.1.1 s.1 s.2).runK (lpK K (fun s => ⟨p3.mkL (((l.1.1, ((), (s.1, (s.2, ((), ()))))), ()) : T3).1, q3.mkH (((l.1.1, ((), (s.1, (s.2, ((), ()))))), ()) : T3).2, 0⟩) sp1 (ou3 l)) := by kernel_rfl
theorem lk3 (R : Type) (st : St U) (K : Ex → St U → Option R) (r : R) (h : Λ3 R st K = some r) : ∃ n, loopA E (pick (loopsOf body) 3) n st K = some r :=
  lp_ok (U := U) (E := E) (b := pick (loopsOf body) 3) (m := 0) (sp := sp1) (p := p3) (q := q3) (X := Int) (S := (Int × Int)) (f := fun (l : T3) s => l3 l.1.1 s.1 s.2) (hd := fun (l : T3) s => ((l.1.1, ((), (s.1, (s.2, ((), ()))))), ())) (s0 := fun (l : T3) => (l.1.2.2.1, l.1.2.2.2.1)) (ou := ou3)
    (fun l => rfl) (fun l x => by rfl) sp1_ok hf3 h
theorem hk (R : Type) (l : TA) (K : AV U → Hp U → Option R) : funcA E Try.f21 [] R (pA.mkL l.1) (pH.mkH l.2) K = (t l.1.1).runK fun y => K (v l y) (hh l y) := by kernel_rfl
theorem okF : SoundF Try.prog cc 21 (funcA E Try.f21 []) :=
  funcA_ok (E := E) P_mixed (E0_ok.with Γ Λ CT D ro) (gam_of (all_cons ⟨ref23_Cost.ok, ⟨Try.f29, Try.func29, by kernel_rfl, by kernel_rfl⟩⟩ all_nil) (all_cons (no_keep (by kernel_rfl)) all_nil)) Try.func21 (c := body) (by kernel_rfl)
    (just_by (by kernel_rfl) (by kernel_rfl) (all_cons lk3 all_nil) all_nil) []
theorem ok : SoundF Try.prog cc 21 A :=
  mkA_ok (E := E) (p := pA) (q := pH) (t := fun (l : TA) => t l.1.1) sp1_ok hk okF
theorem keep : KeepA A := mkA_keep (U := U) sp1_ok (fun (l : TA) y => ⟨(hh l y).drop 0, by kernel_rfl⟩)
end ref23_Total

/-! instar/instarref23.May -/
namespace ref23_May
abbrev TA : Type := (((List ItemV) × Unit) × Unit)
noncomputable def t (l_ : (List ItemV)) : Tw Bool :=
 (.bb (decide ((((List.length l_) : Nat) : Int) > (0 : Int)))
  (.opt (ref18_Right.c l_) fun z1 =>
   (.ret z1))
  (.ret false))
noncomputable def c (l_ : (List ItemV)) : Option Bool := (t l_).run
def pA : Pt := (.cs (.sl 10) .nl)
def pH : Pt := .nl
def v (l : TA) (y : Bool) : AV U := .im (.bool y)
def hh (l : TA) (y : Bool) : Hp U := []
noncomputable def A : AFun U := mkA (U := U) pA pH (X := Bool) (fun (l : TA) => c l.1.1) sp1 v hh
noncomputable def body : Code := (Go.Func.body Try.f20).getD .skip
noncomputable def Γ : List (FuncId × AFun U) := [(43, ref18_Right.A)]
noncomputable def Λ : List (Nat × LFun U) := []
noncomputable def CT : List (Nat × LFun U) := []
def ro : List FuncId := []
def D : Nat → Lv × Lv := dtab []
noncomputable def E : Env U := { E0 with Γ := Γ, Λ := Λ, C := CT, D := D, ro := ro }
theorem hk (R : Type) (l : TA) (K : AV U → Hp U → Option R) : funcA E Try.f20 [] R (pA.mkL l.1) (pH.mkH l.2) K = (t l.1.1).runK fun y => K (v l y) (hh l y) := by kernel_rfl
theorem okF : SoundF Try.prog cc 20 (funcA E Try.f20 []) :=
  funcA_ok (E := E) P_mixed (E0_ok.with Γ Λ CT D ro) (gam_of (all_cons ⟨ref18_Right.ok, ⟨Try.f43, Try.func43, by kernel_rfl, by kernel_rfl⟩⟩ all_nil) (all_cons (no_keep (by kernel_rfl)) all_nil)) Try.func20 (c := body) (by kernel_rfl)
    (just_by (by kernel_rfl) (by kernel_rfl) all_nil all_nil) []
theorem ok : SoundF Try.prog cc 20 A :=
  mkA_ok (E := E) (p := pA) (q := pH) (t := fun (l : TA) => t l.1.1) sp1_ok hk okF
theorem keep : KeepA A := mkA_keep (U := U) sp1_ok (fun (l : TA) y => ⟨(hh l y).drop 0, by kernel_rfl⟩)
end ref23_May

/-! instar/instarref23.Lay -/
namespace ref23_Lay
abbrev TA : Type := (((List ItemV) × Unit) × Unit)
abbrev T3 : Type := (((List ItemV) × (Unit × (Unit × (Int × (Unit × Unit))))) × ((List Int) × Unit))
noncomputable def l3 (l_ : (List ItemV)) (i : Int) (h0 : (List Int)) : Tw ((Int × (List Int)) ⊕ (List Int)) :=
 (.bb (decide (i < (((List.length l_) : Nat) : Int)))
  (.dd (((0 : Int) ≤ i)) inferInstance
   (.opt (l_)[(Int.toNat i)]? fun z1 =>
    (.dd (((0 : Int) ≤ i)) inferInstance
     (.opt (l_)[(Int.toNat i)]? fun z2 =>
      (.dd ((((((List.length h0) + (List.length (z1.key :: ((w32 (((ByteArray.size z2.data) : Nat) : Int)) :: ([] : List Int))))) * (4 : Nat)) ≤ (140737488355328 : Nat)) ∧ (((List.length h0) + (List.length (z1.key :: ((w32 (((ByteArray.size z2.data) : Nat) : Int)) :: ([] : List Int))))) ≤ (140737488355328 : Nat)))) inferInstance
       (.dd (((0 : Int) ≤ i)) inferInstance
        (.opt (l_)[(Int.toNat i)]? fun z3 =>
         (.opt (ref01_Pack.c (Go.Proofs.Ytpidbpmkogbdeaa.Va.b2l z3.data)) fun z4 =>
          (.dd ((((((List.length (h0 ++ (z1.key :: ((w32 (((ByteArray.size z2.data) : Nat) : Int)) :: ([] : List Int))))) + (List.length z4)) * (4 : Nat)) ≤ (140737488355328 : Nat)) ∧ (((List.length (h0 ++ (z1.key :: ((w32 (((ByteArray.size z2.data) : Nat) : Int)) :: ([] : List Int))))) + (List.length z4)) ≤ (140737488355328 : Nat)))) inferInstance
           (.ret (.inl ((w64 (i + (1 : Int))), ((h0 ++ (z1.key :: ((w32 (((ByteArray.size z2.data) : Nat) : Int)) :: ([] : List Int)))) ++ z4))))
           .no)))
        .no)
       .no))
     .no))
   .no)
  (.ret (.inr h0)))
noncomputable def L3 (l_ : (List ItemV)) (i : Int) (h0 : (List Int)) : Option (List Int) := Lp (fun s => (l3 l_ s.1 s.2).run) (i, h0)
def p3 : Pt := (.cs (.sl 10) (.cs (.bots 2) (.cs (.own 0) (.cs (.int .i64) (.cs (.bots 35) .nl)))))
def q3 : Pt := (.cs (.row 3 true) .nl)
def ou3 (l : T3) (y : (List Int)) : Ex × St U := (.exit 0, stOf 40 [(3, .own 0)] [.row 3 y true] 0)
noncomputable def Λ3 : LFun U := mkLp (U := U) p3 q3 0 (X := (List Int)) (fun (l : T3) => L3 l.1.1 l.1.2.2.2.1 l.2.1) sp1 ou3
noncomputable def t (l_ : (List ItemV)) : Tw (List Int) :=
 (.opt (L3 l_ (0 : Int) ((w32 (((List.length l_) : Nat) : Int)) :: ([] : List Int))) fun z5 =>
  (.opt (ref02_Seal.c z5) fun z6 =>
   (.ret z6)))
noncomputable def c (l_ : (List ItemV)) : Option (List Int) := (t l_).run
def pA : Pt := (.cs (.sl 10) .nl)
def pH : Pt := .nl
def v (l : TA) (y : (List Int)) : AV U := .own 0
def hh (l : TA) (y : (List Int)) : Hp U := [.row 3 y true]
noncomputable def A : AFun U := mkA (U := U) pA pH (X := (List Int)) (fun (l : TA) => c l.1.1) sp1 v hh
noncomputable def body : Code := (Go.Func.body Try.f23).getD .skip
noncomputable def Γ : List (FuncId × AFun U) := [(100, ref01_Pack.A), (101, ref02_Seal.A)]
noncomputable def Λ : List (Nat × LFun U) := [(3, Λ3)]
noncomputable def CT : List (Nat × LFun U) := []
def ro : List FuncId := []
def D : Nat → Lv × Lv := dtab [(3, ⟨[4, 0, 3], []⟩, ⟨[2, 3], []⟩)]
noncomputable def E : Env U := { E0 with Γ := Γ, Λ := Λ, C := CT, D := D, ro := ro }
theorem hf3 (R : Type) (l : T3) (s : (Int × (List Int))) (K : Ex → St U → Option R) : codeA E (pick (loopsOf body) 3) ⟨p3.mkL (((l.1.1, ((), ((), (s.1, ((), ()))))), (s.2, ())) : T3).1, q3.mkH (((l.1.1, ((), ((), (s.1, ((), ()))))), (s.2, ())) : T3).2, 0⟩ (roundK E (pick (loopsOf body) 3) K) =
  (l3 l.1.1 s.1 s.2).runK (lpK K (fun s => ⟨p3.mkL (((l.1.1, ((), ((), (s.1, ((), ()))))), (s.2, ())) : T3).1, q3.mkH (((l.1.1, ((), ((), (s.1, ((), ()))))), (s.2, ())) : T3).2, 0⟩) sp1 (ou3 l)) := by kernel_rfl
theorem lk3 (R : Type) (st : St U) (K : Ex → St U → Option R) (r : R) (h : Λ3 R st K = some r) : ∃ n, loopA E (pick (loopsOf body) 3) n st K = some r :=
  lp_ok (U := U) (E := E) (b := pick (loopsOf body) 3) (m := 0) (sp := sp1) (p := p3) (q := q3) (X := (List Int)) (S := (Int × (List Int))) (f := fun (l : T3) s => l3 l.1.1 s.1 s.2) (hd := fun (l : T3) s => ((l.1.1, ((), ((), (s.1, ((), ()))))), (s.2, ()))) (s0 := fun (l : T3) => (l.1.2.2.2.1, l.2.1)) (ou := ou3)
    (fun l => rfl) (fun l x => by rfl) sp1_ok hf3 h
theorem hk (R : Type) (l : TA) (K : AV U → Hp U → Option R) : funcA E Try.f23 [] R (pA.mkL l.1) (pH.mkH l.2) K = (t l.1.1).runK fun y => K (v l y) (hh l y) := by kernel_rfl
theorem okF : SoundF Try.prog cc 23 (funcA E Try.f23 []) :=
  funcA_ok (E := E) P_mixed (E0_ok.with Γ Λ CT D ro) (gam_of (all_cons ⟨ref01_Pack.ok, ⟨Try.f100, Try.func100, by kernel_rfl, by kernel_rfl⟩⟩ (all_cons ⟨ref02_Seal.ok, ⟨Try.f101, Try.func101, by kernel_rfl, by kernel_rfl⟩⟩ all_nil)) (all_cons (no_keep (by kernel_rfl)) (all_cons (no_keep (by kernel_rfl)) all_nil))) Try.func23 (c := body) (by kernel_rfl)
    (just_by (by kernel_rfl) (by kernel_rfl) (all_cons lk3 all_nil) all_nil) []
theorem ok : SoundF Try.prog cc 23 A :=
  mkA_ok (E := E) (p := pA) (q := pH) (t := fun (l : TA) => t l.1.1) sp1_ok hk okF
theorem keep : KeepA A := mkA_keep (U := U) sp1_ok (fun (l : TA) y => ⟨(hh l y).drop 0, by kernel_rfl⟩)
end ref23_Lay

/-! instar/instarref23.Take -/
namespace ref23_Take
abbrev TA : Type := (((List Int) × Unit) × Unit)
abbrev T6 : Type := (((List Int) × (Unit × (Unit × (Int × (Int × (Unit × Unit)))))) × ((List ItemV) × Unit))
noncomputable def l6 (w : (List Int)) (at_ : Int) (k : Int) (h0 : (List ItemV)) : Tw ((Int × (Int × (List ItemV))) ⊕ ((Int × (List ItemV)) ⊕ (Int × (Int × (List ItemV))))) :=
 (.opt (w)[(Int.toNat (0 : Int))]? fun z1 =>
  (.bb (decide (k < z1))
   (.bb (decide ((w64 (at_ + (2 : Int))) > (((List.length w) : Nat) : Int)))
    (.ret (.inr (.inr ((12 : Int), (at_, h0)))))
    (.dd (((0 : Int) ≤ (w64 (at_ + (1 : Int))))) inferInstance
     (.opt (w)[(Int.toNat (w64 (at_ + (1 : Int))))]? fun z2 =>
      (.bb (decide (z2 > (64 : Int)))
       (.ret (.inr (.inr ((12 : Int), (at_, h0)))))
       (.dd (((0 : Int) ≤ (w64 (at_ + (1 : Int))))) inferInstance
        (.opt (w)[(Int.toNat (w64 (at_ + (1 : Int))))]? fun z3 =>
         (.opt (ref01_Need.c (w64 z3)) fun z4 =>
          (.bb (decide ((w64 ((w64 (at_ + (2 : Int))) + z4)) > (((List.length w) : Nat) : Int)))
           (.ret (.inr (.inr ((12 : Int), (at_, h0)))))
           (.dd ((((0 : Int) ≤ (w64 (at_ + (2 : Int)))) ∧ (((w64 (at_ + (2 : Int))) ≤ (w64 ((w64 (at_ + (2 : Int))) + z4))) ∧ ((w64 ((w64 (at_ + (2 : Int))) + z4)) ≤ (((List.length w) : Nat) : Int))))) inferInstance
            (.opt (ref01_Bytes.c (List.drop (Int.toNat (w64 (at_ + (2 : Int)))) (List.take (Int.toNat (w64 ((w64 (at_ + (2 : Int))) + z4))) w)) (w64 z3)) fun z5 =>
             (.bb (z5.2 != (0 : Int))
              (.ret (.inr (.inr ((12 : Int), (at_, h0)))))
              (.dd (((0 : Int) ≤ at_)) inferInstance
               (.opt (w)[(Int.toNat at_)]? fun z6 =>
                (.dd ((((((List.length h0) + (List.length ((Go.Proofs.Ytpidbpmkogbdeaa.Va.ItemV.mk z6 (Go.Proofs.Ytpidbpmkogbdeaa.Va.l2b z5.1)) :: ([] : List ItemV)))) * (24 : Nat)) ≤ (140737488355328 : Nat)) ∧ (((List.length h0) + (List.length ((Go.Proofs.Ytpidbpmkogbdeaa.Va.ItemV.mk z6 (Go.Proofs.Ytpidbpmkogbdeaa.Va.l2b z5.1)) :: ([] : List ItemV)))) ≤ (140737488355328 : Nat)))) inferInstance
                 (.ret (.inl ((w64 ((w64 (at_ + (2 : Int))) + z4)), ((w32 (k + (1 : Int))), (h0 ++ ((Go.Proofs.Ytpidbpmkogbdeaa.Va.ItemV.mk z6 (Go.Proofs.Ytpidbpmkogbdeaa.Va.l2b z5.1)) :: ([] : List ItemV)))))))
                 .no))
               .no)))
            .no))))
        .no)))
     .no))
   (.ret (.inr (.inl (at_, h0))))))
noncomputable def L6 (w : (List Int)) (at_ : Int) (k : Int) (h0 : (List ItemV)) : Option ((Int × (List ItemV)) ⊕ (Int × (Int × (List ItemV)))) := Lp (fun s => (l6 w s.1 s.2.1 s.2.2).run) (at_, (k, h0))
def p6 : Pt := (.cs (.sl 3) (.cs (.bots 3) (.cs (.own 0) (.cs (.int .i64) (.cs (.int .u32) (.cs (.bots 83) .nl))))))
def q6 : Pt := (.cs (.row 10 true) .nl)
def ou6 (l : T6) (y : ((Int × (List ItemV)) ⊕ (Int × (Int × (List ItemV))))) : Ex × St U := (Sum.elim (fun a0 => (.exit 0, stOf 90 [(0, .im (.slice 3 l.1.1)), (4, .own 0), (5, .im (.int .i64 a0.1))] [.row 10 a0.2 true] 0)) (fun b0 => (.ret, stOf 90 [(0, .im (.slice 3 l.1.1)), (2, .im .nils), (3, .im (.int .i64 b0.1)), (4, .own 0), (5, .im (.int .i64 b0.2.1))] [.row 10 b0.2.2 true] 0)) y)
noncomputable def Λ6 : LFun U := mkLp (U := U) p6 q6 0 (X := ((Int × (List ItemV)) ⊕ (Int × (Int × (List ItemV))))) (fun (l : T6) => L6 l.1.1 l.1.2.2.2.1 l.1.2.2.2.2.1 l.2.1) (spS sp1) ou6
noncomputable def t (w : (List Int)) : Tw (Int × (List ItemV)) :=
 (.bb ((((List.length w) : Nat) : Int) == (0 : Int))
  (.ret ((12 : Int), ([] : List ItemV)))
  (.opt (L6 w (1 : Int) (0 : Int) ([] : List ItemV)) fun z7 =>
   (.sm z7
    (fun z8 => (.bb (decide (z8.1 ≥ (((List.length w) : Nat) : Int)))
      (.ret ((12 : Int), ([] : List ItemV)))
      (.opt (ref23_May.c z8.2) fun z10 =>
       (.bb (!z10)
        (.ret ((12 : Int), ([] : List ItemV)))
        (.dd ((((0 : Int) ≤ (w64 (z8.1 + (1 : Int)))) ∧ ((w64 (z8.1 + (1 : Int))) ≤ (((List.length w) : Nat) : Int)))) inferInstance
         (.opt (ref02_Right.c (List.take (Int.toNat (w64 (z8.1 + (1 : Int)))) w)) fun z11 =>
          (.bb (!z11)
           (.ret ((12 : Int), ([] : List ItemV)))
           (.ret ((0 : Int), z8.2))))
         .no)))))
    (fun z9 => (.ret (z9.1, ([] : List ItemV)))))))
noncomputable def c (w : (List Int)) : Option (Int × (List ItemV)) := (t w).run
def pA : Pt := (.cs (.sl 3) .nl)
def pH : Pt := .nl
def v (l : TA) (y : (Int × (List ItemV))) : AV U := .tup [.own 0, .im (.int .i64 y.1)]
def hh (l : TA) (y : (Int × (List ItemV))) : Hp U := [.row 10 y.2 true]
noncomputable def A : AFun U := mkA (U := U) pA pH (X := (Int × (List ItemV))) (fun (l : TA) => c l.1.1) sp1 v hh
noncomputable def body : Code := (Go.Func.body Try.f25).getD .skip
noncomputable def Γ : List (FuncId × AFun U) := [(104, ref01_Need.A), (105, ref01_Bytes.A), (20, ref23_May.A), (106, ref02_Right.A)]
noncomputable def Λ : List (Nat × LFun U) := [(6, Λ6)]
noncomputable def CT : List (Nat × LFun U) := []
def ro : List FuncId := []
def D : Nat → Lv × Lv := dtab [(6, ⟨[6, 5, 0, 4], [(4, [], .own 10)]⟩, ⟨[2, 3, 4, 5, 0], []⟩)]
noncomputable def E : Env U := { E0 with Γ := Γ, Λ := Λ, C := CT, D := D, ro := ro }
theorem hf6 (R : Type) (l : T6) (s : (Int × (Int × (List ItemV)))) (K : Ex → St U → Option R) : codeA E (pick (loopsOf body) 6) ⟨p6.mkL (((l.1.1, ((), ((), (s.1, (s.2.1, ((), ())))))), (s.2.2, ())) : T6).1, q6.mkH (((l.1.1, ((), ((), (s.1, (s.2.1, ((), ())))))), (s.2.2, ())) : T6).2, 0⟩ (roundK E (pick (loopsOf body) 6) K) =
  (l6 l.1.1 s.1 s.2.1 s.2.2).runK (lpK K (fun s => ⟨p6.mkL (((l.1.1, ((), ((), (s.1, (s.2.1, ((), ())))))), (s.2.2, ())) : T6).1, q6.mkH (((l.1.1, ((), ((), (s.1, (s.2.1, ((), ())))))), (s.2.2, ())) : T6).2, 0⟩) (spS sp1) (ou6 l)) := by kernel_rfl
theorem lk6 (R : Type) (st : St U) (K : Ex → St U → Option R) (r : R) (h : Λ6 R st K = some r) : ∃ n, loopA E (pick (loopsOf body) 6) n st K = some r :=
  lp_ok (U := U) (E := E) (b := pick (loopsOf body) 6) (m := 0) (sp := (spS sp1)) (p := p6) (q := q6) (X := ((Int × (List ItemV)) ⊕ (Int × (Int × (List ItemV))))) (S := (Int × (Int × (List ItemV)))) (f := fun (l : T6) s => l6 l.1.1 s.1 s.2.1 s.2.2) (hd := fun (l : T6) s => ((l.1.1, ((), ((), (s.1, (s.2.1, ((), ())))))), (s.2.2, ()))) (s0 := fun (l : T6) => (l.1.2.2.2.1, (l.1.2.2.2.2.1, l.2.1))) (ou := ou6)
    (fun l => rfl) (fun l x => by repeat' (first | rfl | (cases x with | inl => rfl | inr x => ?_))) (spS_ok sp1_ok) hf6 h
theorem hk (R : Type) (l : TA) (K : AV U → Hp U → Option R) : funcA E Try.f25 [(0, [], .own 10)] R (pA.mkL l.1) (pH.mkH l.2) K = (t l.1.1).runK fun y => K (v l y) (hh l y) := by kernel_rfl
theorem okF : SoundF Try.prog cc 25 (funcA E Try.f25 [(0, [], .own 10)]) :=
  funcA_ok (E := E) P_mixed (E0_ok.with Γ Λ CT D ro) (gam_of (all_cons ⟨ref01_Need.ok, ⟨Try.f104, Try.func104, by kernel_rfl, by kernel_rfl⟩⟩ (all_cons ⟨ref01_Bytes.ok, ⟨Try.f105, Try.func105, by kernel_rfl, by kernel_rfl⟩⟩ (all_cons ⟨ref23_May.ok, ⟨Try.f20, Try.func20, by kernel_rfl, by kernel_rfl⟩⟩ (all_cons ⟨ref02_Right.ok, ⟨Try.f106, Try.func106, by kernel_rfl, by kernel_rfl⟩⟩ all_nil)))) (all_cons (no_keep (by kernel_rfl)) (all_cons (no_keep (by kernel_rfl)) (all_cons (no_keep (by kernel_rfl)) (all_cons (no_keep (by kernel_rfl)) all_nil))))) Try.func25 (c := body) (by kernel_rfl)
    (just_by (by kernel_rfl) (by kernel_rfl) (all_cons lk6 all_nil) all_nil) [(0, [], .own 10)]
theorem ok : SoundF Try.prog cc 25 A :=
  mkA_ok (E := E) (p := pA) (q := pH) (t := fun (l : TA) => t l.1.1) sp1_ok hk okF
theorem keep : KeepA A := mkA_keep (U := U) sp1_ok (fun (l : TA) y => ⟨(hh l y).drop 0, by kernel_rfl⟩)
end ref23_Take

end Go.Proofs.Ytpidbpmkogbdeaa.Va
