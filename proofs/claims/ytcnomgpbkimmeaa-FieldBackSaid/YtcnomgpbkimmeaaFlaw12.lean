/- The functions of package law12, as plain functions, and that the program computes them. Printed by a program of this work out of the evaluator. -/
import Derived.Test.YtcnomgpbkimmeaaEn
import Derived.Tactics
import Derived.Test.YtcnomgpbkimmeaaFfield
import Derived.Test.YtcnomgpbkimmeaaFref12
namespace Go.Proofs.Ytcnomgpbkimmeaa.Va
open Go
set_option linter.unusedVariables false
set_option maxRecDepth 100000

/-! instar/instarlaw12.awake -/
namespace law12_awake
abbrev TA : Type := (Unit × Unit)
noncomputable def t : Tw Bool :=
 (.opt (field_Lay.c (0 : Int) (1 : Int) (10 : Int) (300 : Int) (0 : Int) (300 : Int) ByteArray.empty) fun z1 =>
  (.bb ((ByteArray.toList (Go.Proofs.Ytcnomgpbkimmeaa.Va.l2b z1.2)) == (ByteArray.toList (ByteArray.mk (List.toArray ((1 : UInt8) :: ((34 : UInt8) :: ([] : List UInt8)))))))
   (.bb (z1.1 == (0 : Int))
    (.opt (field_Size.c (0 : Int) (3 : Int) (0 : Int) (0 : Int) (257 : Int)) fun z2 =>
     (.bb (z2 == (2 : Int))
      (.opt (field_Has.c (0 : Int) (1 : Int) (10 : Int) (300 : Int) (0 : Int) (10 : Int) ByteArray.empty) fun z3 =>
       (.bb z3
        (.opt (field_Has.c (0 : Int) (1 : Int) (10 : Int) (300 : Int) (0 : Int) (9 : Int) ByteArray.empty) fun z4 =>
         (.ret (!z4)))
        (.ret false)))
      (.ret false)))
    (.ret false))
   (.ret false)))
noncomputable def c : Option Bool := (t).run
def pA : Pt := .nl
def pH : Pt := .nl
def v (l : TA) (y : Bool) : AV U := .im (.bool y)
def hh (l : TA) (y : Bool) : Hp U := []
noncomputable def A : AFun U := mkA (U := U) pA pH (X := Bool) (fun (l : TA) => c) sp1 v hh
noncomputable def body : Code := (Go.Func.body Try.f67).getD .skip
noncomputable def Γ : List (FuncId × AFun U) := [(68, field_Lay.A), (63, field_Size.A), (59, field_Has.A)]
noncomputable def Λ : List (Nat × LFun U) := []
def D : Nat → Lv × Lv := dtab []
noncomputable def E : Env U := { E0 with Γ := Γ, Λ := Λ, C := [], D := D }
theorem hk (R : Type) (l : TA) (K : AV U → Hp U → Option R) : funcA E Try.f67 [] R (pA.mkL l.1) (pH.mkH l.2) K = (t).runK fun y => K (v l y) (hh l y) := by kernel_rfl
theorem okF : SoundF Try.prog cc 67 (funcA E Try.f67 []) :=
  funcA_ok (E := E) P_mixed (E0_ok.with Γ Λ [] D) (gam_of (all_cons ⟨field_Lay.ok, ⟨Try.f68, Try.func68, by kernel_rfl, by kernel_rfl⟩⟩ (all_cons ⟨field_Size.ok, ⟨Try.f63, Try.func63, by kernel_rfl, by kernel_rfl⟩⟩ (all_cons ⟨field_Has.ok, ⟨Try.f59, Try.func59, by kernel_rfl, by kernel_rfl⟩⟩ all_nil)))) Try.func67 (c := body) (by kernel_rfl)
    (just_by (by kernel_rfl) (by kernel_rfl) all_nil all_nil) []
theorem ok : SoundF Try.prog cc 67 A :=
  mkA_ok (E := E) (p := pA) (q := pH) (t := fun (l : TA) => t) sp1_ok hk okF
end law12_awake

/-! instar/instarlaw12.FieldTypes -/
namespace law12_FieldTypes
abbrev TA : Type := (((Int × (Int × (Int × (Int × (Int × Unit))))) × ((Int × (Int × (Int × (Int × (Int × Unit))))) × ((Int × (ByteArray × Unit)) × Unit))) × Unit)
noncomputable def t (f_0 : Int) (f_1 : Int) (f_2 : Int) (f_3 : Int) (f_4 : Int) (g_0 : Int) (g_1 : Int) (g_2 : Int) (g_3 : Int) (g_4 : Int) (v__0 : Int) (v__1 : ByteArray) : Tw Bool :=
 (.opt (field_Right.c f_0 f_1 f_2 f_3 f_4) fun z1 =>
  (.opt (ref12_Right.c f_0 f_1 f_2 f_3 f_4) fun z2 =>
   (.bb (z1 == z2)
    (.opt (field_Has.c f_0 f_1 f_2 f_3 f_4 v__0 v__1) fun z3 =>
     (.opt (ref12_Has.c f_0 f_1 f_2 f_3 f_4 v__0 v__1) fun z4 =>
      (.bb (z3 == z4)
       (.opt (field_Least.c f_0 f_1 f_2 f_3 f_4) fun z5 =>
        (.opt (ref12_Least.c f_0 f_1 f_2 f_3 f_4) fun z6 =>
         (.bb ((z5.1 == z6.1) && (((ByteArray.toList z5.2) == (ByteArray.toList z6.2)) && true))
          (.opt (field_Size.c f_0 f_1 f_2 f_3 f_4) fun z7 =>
           (.opt (ref12_Size.c f_0 f_1 f_2 f_3 f_4) fun z8 =>
            (.bb (z7 == z8)
             (.opt (field_Wider.c f_0 f_1 f_2 f_3 f_4 g_0 g_1 g_2 g_3 g_4) fun z9 =>
              (.opt (ref12_Wider.c f_0 f_1 f_2 f_3 f_4 g_0 g_1 g_2 g_3 g_4) fun z10 =>
               (.bb (z9 == z10)
                (.opt (law12_awake.c) fun z11 =>
                 (.ret z11))
                (.ret false))))
             (.ret false))))
          (.ret false))))
       (.ret false))))
    (.ret false))))
noncomputable def c (f_0 : Int) (f_1 : Int) (f_2 : Int) (f_3 : Int) (f_4 : Int) (g_0 : Int) (g_1 : Int) (g_2 : Int) (g_3 : Int) (g_4 : Int) (v__0 : Int) (v__1 : ByteArray) : Option Bool := (t f_0 f_1 f_2 f_3 f_4 g_0 g_1 g_2 g_3 g_4 v__0 v__1).run
def pA : Pt := (.cs (.agg (.cs (.int .i64) (.cs (.int .i64) (.cs (.int .i64) (.cs (.int .i64) (.cs (.int .i64) .nl)))))) (.cs (.agg (.cs (.int .i64) (.cs (.int .i64) (.cs (.int .i64) (.cs (.int .i64) (.cs (.int .i64) .nl)))))) (.cs (.agg (.cs (.int .i64) (.cs .str .nl))) .nl)))
def pH : Pt := .nl
def v (l : TA) (y : Bool) : AV U := .im (.bool y)
def hh (l : TA) (y : Bool) : Hp U := []
noncomputable def A : AFun U := mkA (U := U) pA pH (X := Bool) (fun (l : TA) => c l.1.1.1 l.1.1.2.1 l.1.1.2.2.1 l.1.1.2.2.2.1 l.1.1.2.2.2.2.1 l.1.2.1.1 l.1.2.1.2.1 l.1.2.1.2.2.1 l.1.2.1.2.2.2.1 l.1.2.1.2.2.2.2.1 l.1.2.2.1.1 l.1.2.2.1.2.1) sp1 v hh
noncomputable def body : Code := (Go.Func.body Try.f14).getD .skip
noncomputable def Γ : List (FuncId × AFun U) := [(57, field_Right.A), (58, ref12_Right.A), (59, field_Has.A), (60, ref12_Has.A), (61, field_Least.A), (62, ref12_Least.A), (63, field_Size.A), (64, ref12_Size.A), (65, field_Wider.A), (66, ref12_Wider.A), (67, law12_awake.A)]
noncomputable def Λ : List (Nat × LFun U) := []
def D : Nat → Lv × Lv := dtab []
noncomputable def E : Env U := { E0 with Γ := Γ, Λ := Λ, C := [], D := D }
theorem hk (R : Type) (l : TA) (K : AV U → Hp U → Option R) : funcA E Try.f14 [] R (pA.mkL l.1) (pH.mkH l.2) K = (t l.1.1.1 l.1.1.2.1 l.1.1.2.2.1 l.1.1.2.2.2.1 l.1.1.2.2.2.2.1 l.1.2.1.1 l.1.2.1.2.1 l.1.2.1.2.2.1 l.1.2.1.2.2.2.1 l.1.2.1.2.2.2.2.1 l.1.2.2.1.1 l.1.2.2.1.2.1).runK fun y => K (v l y) (hh l y) := by kernel_rfl
theorem okF : SoundF Try.prog cc 14 (funcA E Try.f14 []) :=
  funcA_ok (E := E) P_mixed (E0_ok.with Γ Λ [] D) (gam_of (all_cons ⟨field_Right.ok, ⟨Try.f57, Try.func57, by kernel_rfl, by kernel_rfl⟩⟩ (all_cons ⟨ref12_Right.ok, ⟨Try.f58, Try.func58, by kernel_rfl, by kernel_rfl⟩⟩ (all_cons ⟨field_Has.ok, ⟨Try.f59, Try.func59, by kernel_rfl, by kernel_rfl⟩⟩ (all_cons ⟨ref12_Has.ok, ⟨Try.f60, Try.func60, by kernel_rfl, by kernel_rfl⟩⟩ (all_cons ⟨field_Least.ok, ⟨Try.f61, Try.func61, by kernel_rfl, by kernel_rfl⟩⟩ (all_cons ⟨ref12_Least.ok, ⟨Try.f62, Try.func62, by kernel_rfl, by kernel_rfl⟩⟩ (all_cons ⟨field_Size.ok, ⟨Try.f63, Try.func63, by kernel_rfl, by kernel_rfl⟩⟩ (all_cons ⟨ref12_Size.ok, ⟨Try.f64, Try.func64, by kernel_rfl, by kernel_rfl⟩⟩ (all_cons ⟨field_Wider.ok, ⟨Try.f65, Try.func65, by kernel_rfl, by kernel_rfl⟩⟩ (all_cons ⟨ref12_Wider.ok, ⟨Try.f66, Try.func66, by kernel_rfl, by kernel_rfl⟩⟩ (all_cons ⟨law12_awake.ok, ⟨Try.f67, Try.func67, by kernel_rfl, by kernel_rfl⟩⟩ all_nil)))))))))))) Try.func14 (c := body) (by kernel_rfl)
    (just_by (by kernel_rfl) (by kernel_rfl) all_nil all_nil) []
theorem ok : SoundF Try.prog cc 14 A :=
  mkA_ok (E := E) (p := pA) (q := pH) (t := fun (l : TA) => t l.1.1.1 l.1.1.2.1 l.1.1.2.2.1 l.1.1.2.2.2.1 l.1.1.2.2.2.2.1 l.1.2.1.1 l.1.2.1.2.1 l.1.2.1.2.2.1 l.1.2.1.2.2.2.1 l.1.2.1.2.2.2.2.1 l.1.2.2.1.1 l.1.2.2.1.2.1) sp1_ok hk okF
end law12_FieldTypes

/-! instar/instarlaw12.FieldWider -/
namespace law12_FieldWider
abbrev TA : Type := (((Int × (Int × (Int × (Int × (Int × Unit))))) × ((Int × (Int × (Int × (Int × (Int × Unit))))) × ((Int × (ByteArray × Unit)) × Unit))) × Unit)
noncomputable def t (f_0 : Int) (f_1 : Int) (f_2 : Int) (f_3 : Int) (f_4 : Int) (g_0 : Int) (g_1 : Int) (g_2 : Int) (g_3 : Int) (g_4 : Int) (v__0 : Int) (v__1 : ByteArray) : Tw Bool :=
 (.opt (field_Wider.c f_0 f_1 f_2 f_3 f_4 g_0 g_1 g_2 g_3 g_4) fun z1 =>
  (.bb z1
   (.opt (field_Has.c f_0 f_1 f_2 f_3 f_4 v__0 v__1) fun z8 =>
    (.bb z8
     (.opt (field_Has.c g_0 g_1 g_2 g_3 g_4 v__0 v__1) fun z15 =>
      (.bb (!z15)
       (.ret false)
       (.opt (field_Right.c f_0 f_1 f_2 f_3 f_4) fun z16 =>
        (.opt (field_Least.c f_0 f_1 f_2 f_3 f_4) fun z17 =>
         (.opt (field_Has.c f_0 f_1 f_2 f_3 f_4 z17.1 z17.2) fun z18 =>
          (.bb (z16 == z18)
           (.opt (field_Right.c f_0 f_1 f_2 f_3 f_4) fun z19 =>
            (.opt (field_Wider.c f_0 f_1 f_2 f_3 f_4 f_0 f_1 f_2 f_3 f_4) fun z20 =>
             (.bb (z19 == z20)
              (.opt (law12_awake.c) fun z21 =>
               (.ret z21))
              (.ret false))))
           (.ret false)))))))
     (.opt (field_Right.c f_0 f_1 f_2 f_3 f_4) fun z9 =>
      (.opt (field_Least.c f_0 f_1 f_2 f_3 f_4) fun z10 =>
       (.opt (field_Has.c f_0 f_1 f_2 f_3 f_4 z10.1 z10.2) fun z11 =>
        (.bb (z9 == z11)
         (.opt (field_Right.c f_0 f_1 f_2 f_3 f_4) fun z12 =>
          (.opt (field_Wider.c f_0 f_1 f_2 f_3 f_4 f_0 f_1 f_2 f_3 f_4) fun z13 =>
           (.bb (z12 == z13)
            (.opt (law12_awake.c) fun z14 =>
             (.ret z14))
            (.ret false))))
         (.ret false)))))))
   (.opt (field_Right.c f_0 f_1 f_2 f_3 f_4) fun z2 =>
    (.opt (field_Least.c f_0 f_1 f_2 f_3 f_4) fun z3 =>
     (.opt (field_Has.c f_0 f_1 f_2 f_3 f_4 z3.1 z3.2) fun z4 =>
      (.bb (z2 == z4)
       (.opt (field_Right.c f_0 f_1 f_2 f_3 f_4) fun z5 =>
        (.opt (field_Wider.c f_0 f_1 f_2 f_3 f_4 f_0 f_1 f_2 f_3 f_4) fun z6 =>
         (.bb (z5 == z6)
          (.opt (law12_awake.c) fun z7 =>
           (.ret z7))
          (.ret false))))
       (.ret false)))))))
noncomputable def c (f_0 : Int) (f_1 : Int) (f_2 : Int) (f_3 : Int) (f_4 : Int) (g_0 : Int) (g_1 : Int) (g_2 : Int) (g_3 : Int) (g_4 : Int) (v__0 : Int) (v__1 : ByteArray) : Option Bool := (t f_0 f_1 f_2 f_3 f_4 g_0 g_1 g_2 g_3 g_4 v__0 v__1).run
def pA : Pt := (.cs (.agg (.cs (.int .i64) (.cs (.int .i64) (.cs (.int .i64) (.cs (.int .i64) (.cs (.int .i64) .nl)))))) (.cs (.agg (.cs (.int .i64) (.cs (.int .i64) (.cs (.int .i64) (.cs (.int .i64) (.cs (.int .i64) .nl)))))) (.cs (.agg (.cs (.int .i64) (.cs .str .nl))) .nl)))
def pH : Pt := .nl
def v (l : TA) (y : Bool) : AV U := .im (.bool y)
def hh (l : TA) (y : Bool) : Hp U := []
noncomputable def A : AFun U := mkA (U := U) pA pH (X := Bool) (fun (l : TA) => c l.1.1.1 l.1.1.2.1 l.1.1.2.2.1 l.1.1.2.2.2.1 l.1.1.2.2.2.2.1 l.1.2.1.1 l.1.2.1.2.1 l.1.2.1.2.2.1 l.1.2.1.2.2.2.1 l.1.2.1.2.2.2.2.1 l.1.2.2.1.1 l.1.2.2.1.2.1) sp1 v hh
noncomputable def body : Code := (Go.Func.body Try.f15).getD .skip
noncomputable def Γ : List (FuncId × AFun U) := [(65, field_Wider.A), (57, field_Right.A), (61, field_Least.A), (59, field_Has.A), (67, law12_awake.A)]
noncomputable def Λ : List (Nat × LFun U) := []
def D : Nat → Lv × Lv := dtab []
noncomputable def E : Env U := { E0 with Γ := Γ, Λ := Λ, C := [], D := D }
theorem hk (R : Type) (l : TA) (K : AV U → Hp U → Option R) : funcA E Try.f15 [] R (pA.mkL l.1) (pH.mkH l.2) K = (t l.1.1.1 l.1.1.2.1 l.1.1.2.2.1 l.1.1.2.2.2.1 l.1.1.2.2.2.2.1 l.1.2.1.1 l.1.2.1.2.1 l.1.2.1.2.2.1 l.1.2.1.2.2.2.1 l.1.2.1.2.2.2.2.1 l.1.2.2.1.1 l.1.2.2.1.2.1).runK fun y => K (v l y) (hh l y) := by kernel_rfl
theorem okF : SoundF Try.prog cc 15 (funcA E Try.f15 []) :=
  funcA_ok (E := E) P_mixed (E0_ok.with Γ Λ [] D) (gam_of (all_cons ⟨field_Wider.ok, ⟨Try.f65, Try.func65, by kernel_rfl, by kernel_rfl⟩⟩ (all_cons ⟨field_Right.ok, ⟨Try.f57, Try.func57, by kernel_rfl, by kernel_rfl⟩⟩ (all_cons ⟨field_Least.ok, ⟨Try.f61, Try.func61, by kernel_rfl, by kernel_rfl⟩⟩ (all_cons ⟨field_Has.ok, ⟨Try.f59, Try.func59, by kernel_rfl, by kernel_rfl⟩⟩ (all_cons ⟨law12_awake.ok, ⟨Try.f67, Try.func67, by kernel_rfl, by kernel_rfl⟩⟩ all_nil)))))) Try.func15 (c := body) (by kernel_rfl)
    (just_by (by kernel_rfl) (by kernel_rfl) all_nil all_nil) []
theorem ok : SoundF Try.prog cc 15 A :=
  mkA_ok (E := E) (p := pA) (q := pH) (t := fun (l : TA) => t l.1.1.1 l.1.1.2.1 l.1.1.2.2.1 l.1.1.2.2.2.1 l.1.1.2.2.2.2.1 l.1.2.1.1 l.1.2.1.2.1 l.1.2.1.2.2.1 l.1.2.1.2.2.2.1 l.1.2.1.2.2.2.2.1 l.1.2.2.1.1 l.1.2.2.1.2.1) sp1_ok hk okF
end law12_FieldWider

/-! instar/instarlaw12.FieldBytes -/
namespace law12_FieldBytes
abbrev TA : Type := (((Int × (Int × (Int × (Int × (Int × Unit))))) × ((Int × (ByteArray × Unit)) × ((List Int) × Unit))) × Unit)
noncomputable def t (f_0 : Int) (f_1 : Int) (f_2 : Int) (f_3 : Int) (f_4 : Int) (v__0 : Int) (v__1 : ByteArray) (b : (List Int)) : Tw Bool :=
 (.opt (field_Lay.c f_0 f_1 f_2 f_3 f_4 v__0 v__1) fun z1 =>
  (.opt (field_Take.c f_0 f_1 f_2 f_3 f_4 b) fun z2 =>
   (.opt (ref12_Right.c f_0 f_1 f_2 f_3 f_4) fun z3 =>
    (.bb (!z3)
     (.bb ((((List.length z1.2) : Nat) : Int) == (0 : Int))
      (.bb (z1.1 == (2 : Int))
       (.bb ((z2.1 == (0 : Int)) && (((ByteArray.toList z2.2.1) == (ByteArray.toList ByteArray.empty)) && true))
        (.bb (z2.2.2.1 == (0 : Int))
         (.bb (z2.2.2.2 == (2 : Int))
          (.opt (law12_awake.c) fun z9 =>
           (.ret z9))
          (.ret false))
         (.ret false))
        (.ret false))
       (.ret false))
      (.ret false))
     (.opt (ref12_Take.c f_0 f_1 f_2 f_3 f_4 b) fun z4 =>
      (.bb (!((z2.1 == z4.1) && (((ByteArray.toList z2.2.1) == (ByteArray.toList z4.2.1)) && true)))
       (.ret false)
       (.bb (z2.2.2.1 != z4.2.2.1)
        (.ret false)
        (.bb (z2.2.2.2 != z4.2.2.2)
         (.ret false)
         (.opt (ref12_Has.c f_0 f_1 f_2 f_3 f_4 v__0 v__1) fun z5 =>
          (.bb (!z5)
           (.bb ((((List.length z1.2) : Nat) : Int) == (0 : Int))
            (.bb (z1.1 == (16 : Int))
             (.opt (law12_awake.c) fun z8 =>
              (.ret z8))
             (.ret false))
            (.ret false))
           (.opt (ref12_Lay.c f_0 f_1 f_2 f_3 f_4 v__0 v__1) fun z6 =>
            (.bb ((ByteArray.toList (Go.Proofs.Ytcnomgpbkimmeaa.Va.l2b z1.2)) == (ByteArray.toList (Go.Proofs.Ytcnomgpbkimmeaa.Va.l2b z6)))
             (.bb (z1.1 == (0 : Int))
              (.opt (law12_awake.c) fun z7 =>
               (.ret z7))
              (.ret false))
             (.ret false)))))))))))))
noncomputable def c (f_0 : Int) (f_1 : Int) (f_2 : Int) (f_3 : Int) (f_4 : Int) (v__0 : Int) (v__1 : ByteArray) (b : (List Int)) : Option Bool := (t f_0 f_1 f_2 f_3 f_4 v__0 v__1 b).run
def pA : Pt := (.cs (.agg (.cs (.int .i64) (.cs (.int .i64) (.cs (.int .i64) (.cs (.int .i64) (.cs (.int .i64) .nl)))))) (.cs (.agg (.cs (.int .i64) (.cs .str .nl))) (.cs (.sl 2) .nl)))
def pH : Pt := .nl
def v (l : TA) (y : Bool) : AV U := .im (.bool y)
def hh (l : TA) (y : Bool) : Hp U := []
noncomputable def A : AFun U := mkA (U := U) pA pH (X := Bool) (fun (l : TA) => c l.1.1.1 l.1.1.2.1 l.1.1.2.2.1 l.1.1.2.2.2.1 l.1.1.2.2.2.2.1 l.1.2.1.1 l.1.2.1.2.1 l.1.2.2.1) sp1 v hh
noncomputable def body : Code := (Go.Func.body Try.f16).getD .skip
noncomputable def Γ : List (FuncId × AFun U) := [(68, field_Lay.A), (69, field_Take.A), (58, ref12_Right.A), (70, ref12_Take.A), (60, ref12_Has.A), (71, ref12_Lay.A), (67, law12_awake.A)]
noncomputable def Λ : List (Nat × LFun U) := []
def D : Nat → Lv × Lv := dtab []
noncomputable def E : Env U := { E0 with Γ := Γ, Λ := Λ, C := [], D := D }
theorem hk (R : Type) (l : TA) (K : AV U → Hp U → Option R) : funcA E Try.f16 [] R (pA.mkL l.1) (pH.mkH l.2) K = (t l.1.1.1 l.1.1.2.1 l.1.1.2.2.1 l.1.1.2.2.2.1 l.1.1.2.2.2.2.1 l.1.2.1.1 l.1.2.1.2.1 l.1.2.2.1).runK fun y => K (v l y) (hh l y) := by kernel_rfl
theorem okF : SoundF Try.prog cc 16 (funcA E Try.f16 []) :=
  funcA_ok (E := E) P_mixed (E0_ok.with Γ Λ [] D) (gam_of (all_cons ⟨field_Lay.ok, ⟨Try.f68, Try.func68, by kernel_rfl, by kernel_rfl⟩⟩ (all_cons ⟨field_Take.ok, ⟨Try.f69, Try.func69, by kernel_rfl, by kernel_rfl⟩⟩ (all_cons ⟨ref12_Right.ok, ⟨Try.f58, Try.func58, by kernel_rfl, by kernel_rfl⟩⟩ (all_cons ⟨ref12_Take.ok, ⟨Try.f70, Try.func70, by kernel_rfl, by kernel_rfl⟩⟩ (all_cons ⟨ref12_Has.ok, ⟨Try.f60, Try.func60, by kernel_rfl, by kernel_rfl⟩⟩ (all_cons ⟨ref12_Lay.ok, ⟨Try.f71, Try.func71, by kernel_rfl, by kernel_rfl⟩⟩ (all_cons ⟨law12_awake.ok, ⟨Try.f67, Try.func67, by kernel_rfl, by kernel_rfl⟩⟩ all_nil)))))))) Try.func16 (c := body) (by kernel_rfl)
    (just_by (by kernel_rfl) (by kernel_rfl) all_nil all_nil) []
theorem ok : SoundF Try.prog cc 16 A :=
  mkA_ok (E := E) (p := pA) (q := pH) (t := fun (l : TA) => t l.1.1.1 l.1.1.2.1 l.1.1.2.2.1 l.1.1.2.2.2.1 l.1.1.2.2.2.2.1 l.1.2.1.1 l.1.2.1.2.1 l.1.2.2.1) sp1_ok hk okF
end law12_FieldBytes

/-! instar/instarlaw12.FieldBack -/
namespace law12_FieldBack
abbrev TA : Type := (((Int × (Int × (Int × (Int × (Int × Unit))))) × ((Int × (ByteArray × Unit)) × ((List Int) × Unit))) × Unit)
noncomputable def t (f_0 : Int) (f_1 : Int) (f_2 : Int) (f_3 : Int) (f_4 : Int) (v__0 : Int) (v__1 : ByteArray) (more : (List Int)) : Tw Bool :=
 (.opt (field_Lay.c f_0 f_1 f_2 f_3 f_4 v__0 v__1) fun z1 =>
  (.bb (z1.1 == (0 : Int))
   (.dd (((((List.length z1.2) * (1 : Nat)) ≤ (140737488355328 : Nat)) ∧ ((List.length z1.2) ≤ (140737488355328 : Nat)))) inferInstance
    (.dd ((((((List.length z1.2) + (List.length more)) * (1 : Nat)) ≤ (140737488355328 : Nat)) ∧ (((List.length z1.2) + (List.length more)) ≤ (140737488355328 : Nat)))) inferInstance
     (.opt (field_Take.c f_0 f_1 f_2 f_3 f_4 (z1.2 ++ more)) fun z7 =>
      (.bb (!((z7.1 == v__0) && (((ByteArray.toList z7.2.1) == (ByteArray.toList v__1)) && true)))
       (.ret false)
       (.bb (z7.2.2.1 != (((List.length z1.2) : Nat) : Int))
        (.ret false)
        (.bb (z7.2.2.2 != (0 : Int))
         (.ret false)
         (.opt (field_Size.c f_0 f_1 f_2 f_3 f_4) fun z8 =>
          (.bb (decide (z7.2.2.1 > z8))
           (.ret false)
           (.opt (field_Take.c f_0 f_1 f_2 f_3 f_4 more) fun z9 =>
            (.bb (z9.2.2.2 == (0 : Int))
             (.opt (field_Lay.c f_0 f_1 f_2 f_3 f_4 z9.1 z9.2.1) fun z11 =>
              (.bb (z11.1 != (0 : Int))
               (.ret false)
               (.bb (decide (z9.2.2.1 < (0 : Int)))
                (.ret false)
                (.bb (decide (z9.2.2.1 > (((List.length more) : Nat) : Int)))
                 (.ret false)
                 (.dd ((((0 : Int) ≤ z9.2.2.1) ∧ (z9.2.2.1 ≤ (((List.length more) : Nat) : Int)))) inferInstance
                  (.bb (!((ByteArray.toList (Go.Proofs.Ytcnomgpbkimmeaa.Va.l2b z11.2)) == (ByteArray.toList (Go.Proofs.Ytcnomgpbkimmeaa.Va.l2b (List.take (Int.toNat z9.2.2.1) more)))))
                   (.ret false)
                   (.opt (field_Has.c f_0 f_1 f_2 f_3 f_4 z9.1 z9.2.1) fun z12 =>
                    (.bb (!z12)
                     (.ret false)
                     (.opt (law12_awake.c) fun z13 =>
                      (.ret z13)))))
                  .no)))))
             (.opt (law12_awake.c) fun z10 =>
              (.ret z10))))))))))
     .no)
    .no)
   (.opt (field_Take.c f_0 f_1 f_2 f_3 f_4 more) fun z2 =>
    (.bb (z2.2.2.2 == (0 : Int))
     (.opt (field_Lay.c f_0 f_1 f_2 f_3 f_4 z2.1 z2.2.1) fun z4 =>
      (.bb (z4.1 != (0 : Int))
       (.ret false)
       (.bb (decide (z2.2.2.1 < (0 : Int)))
        (.ret false)
        (.bb (decide (z2.2.2.1 > (((List.length more) : Nat) : Int)))
         (.ret false)
         (.dd ((((0 : Int) ≤ z2.2.2.1) ∧ (z2.2.2.1 ≤ (((List.length more) : Nat) : Int)))) inferInstance
          (.bb (!((ByteArray.toList (Go.Proofs.Ytcnomgpbkimmeaa.Va.l2b z4.2)) == (ByteArray.toList (Go.Proofs.Ytcnomgpbkimmeaa.Va.l2b (List.take (Int.toNat z2.2.2.1) more)))))
           (.ret false)
           (.opt (field_Has.c f_0 f_1 f_2 f_3 f_4 z2.1 z2.2.1) fun z5 =>
            (.bb (!z5)
             (.ret false)
             (.opt (law12_awake.c) fun z6 =>
              (.ret z6)))))
          .no)))))
     (.opt (law12_awake.c) fun z3 =>
      (.ret z3))))))
noncomputable def c (f_0 : Int) (f_1 : Int) (f_2 : Int) (f_3 : Int) (f_4 : Int) (v__0 : Int) (v__1 : ByteArray) (more : (List Int)) : Option Bool := (t f_0 f_1 f_2 f_3 f_4 v__0 v__1 more).run
def pA : Pt := (.cs (.agg (.cs (.int .i64) (.cs (.int .i64) (.cs (.int .i64) (.cs (.int .i64) (.cs (.int .i64) .nl)))))) (.cs (.agg (.cs (.int .i64) (.cs .str .nl))) (.cs (.sl 2) .nl)))
def pH : Pt := .nl
def v (l : TA) (y : Bool) : AV U := .im (.bool y)
def hh (l : TA) (y : Bool) : Hp U := []
noncomputable def A : AFun U := mkA (U := U) pA pH (X := Bool) (fun (l : TA) => c l.1.1.1 l.1.1.2.1 l.1.1.2.2.1 l.1.1.2.2.2.1 l.1.1.2.2.2.2.1 l.1.2.1.1 l.1.2.1.2.1 l.1.2.2.1) sp1 v hh
noncomputable def body : Code := (Go.Func.body Try.f17).getD .skip
noncomputable def Γ : List (FuncId × AFun U) := [(68, field_Lay.A), (69, field_Take.A), (67, law12_awake.A), (59, field_Has.A), (63, field_Size.A)]
noncomputable def Λ : List (Nat × LFun U) := []
def D : Nat → Lv × Lv := dtab []
noncomputable def E : Env U := { E0 with Γ := Γ, Λ := Λ, C := [], D := D }
theorem hk (R : Type) (l : TA) (K : AV U → Hp U → Option R) : funcA E Try.f17 [] R (pA.mkL l.1) (pH.mkH l.2) K = (t l.1.1.1 l.1.1.2.1 l.1.1.2.2.1 l.1.1.2.2.2.1 l.1.1.2.2.2.2.1 l.1.2.1.1 l.1.2.1.2.1 l.1.2.2.1).runK fun y => K (v l y) (hh l y) := by kernel_rfl
theorem okF : SoundF Try.prog cc 17 (funcA E Try.f17 []) :=
  funcA_ok (E := E) P_mixed (E0_ok.with Γ Λ [] D) (gam_of (all_cons ⟨field_Lay.ok, ⟨Try.f68, Try.func68, by kernel_rfl, by kernel_rfl⟩⟩ (all_cons ⟨field_Take.ok, ⟨Try.f69, Try.func69, by kernel_rfl, by kernel_rfl⟩⟩ (all_cons ⟨law12_awake.ok, ⟨Try.f67, Try.func67, by kernel_rfl, by kernel_rfl⟩⟩ (all_cons ⟨field_Has.ok, ⟨Try.f59, Try.func59, by kernel_rfl, by kernel_rfl⟩⟩ (all_cons ⟨field_Size.ok, ⟨Try.f63, Try.func63, by kernel_rfl, by kernel_rfl⟩⟩ all_nil)))))) Try.func17 (c := body) (by kernel_rfl)
    (just_by (by kernel_rfl) (by kernel_rfl) all_nil all_nil) []
theorem ok : SoundF Try.prog cc 17 A :=
  mkA_ok (E := E) (p := pA) (q := pH) (t := fun (l : TA) => t l.1.1.1 l.1.1.2.1 l.1.1.2.2.1 l.1.1.2.2.2.1 l.1.1.2.2.2.2.1 l.1.2.1.1 l.1.2.1.2.1 l.1.2.2.1) sp1_ok hk okF
end law12_FieldBack

end Go.Proofs.Ytcnomgpbkimmeaa.Va
