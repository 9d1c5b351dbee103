/- The functions of package law01, as plain functions, and that the program computes them. Printed by a program of this work out of the evaluator. -/
import Derived.Test.YtadhnolgfhgepaaEn
import Derived.Tactics
import Derived.Test.YtadhnolgfhgepaaFref01
import Derived.Test.YtadhnolgfhgepaaFword
namespace Go.Proofs.Ytadhnolgfhgepaa.Va
open Go
set_option linter.unusedVariables false
set_option maxRecDepth 100000

/-! instar/instarlaw01.awake -/
namespace law01_awake
abbrev TA : Type := (Unit × Unit)
noncomputable def t : Tw Bool :=
 (.opt (word_Pack.c ((1 : Int) :: ((2 : Int) :: ((3 : Int) :: ((4 : Int) :: ((5 : Int) :: [])))))) fun z1 =>
  (.bb ((((List.length z1) : Nat) : Int) == (2 : Int))
   (.dd ((((0 : Int) ≤ (0 : Int)) ∧ ((0 : Int) < (((List.length z1) : Nat) : Int)))) inferInstance
    (.opt (z1)[(Int.toNat (0 : Int))]? fun z2 =>
     (.bb (z2 == (16909060 : Int))
      (.dd ((((0 : Int) ≤ (1 : Int)) ∧ ((1 : Int) < (((List.length z1) : Nat) : Int)))) inferInstance
       (.opt (z1)[(Int.toNat (1 : Int))]? fun z3 =>
        (.bb (z3 == (83886080 : Int))
         (.opt (word_Torn.c (7 : Int) (1 : Int) (2 : Int)) fun z4 =>
          (.bb (z4 == (5 : Int))
           (.opt (word_Ones.c (7 : Int)) fun z5 =>
            (.bb (z5 == (3 : Int))
             (.opt (word_Need.c (5 : Int)) fun z6 =>
              (.ret (z6 == (2 : Int))))
             (.ret false)))
           (.ret false)))
         (.ret false)))
       .no)
      (.ret false)))
    .no)
   (.ret false)))
noncomputable def c : Option Bool := (t).run
def pA : Pt := .nl
def pH : Pt := .nl
def v (l : TA) (y : Bool) : AV U := .im (.bool y)
def hh (l : TA) (y : Bool) : Hp U := []
noncomputable def A : AFun U := mkA (U := U) pA pH (X := Bool) (fun (l : TA) => c) sp1 v hh
noncomputable def body : Code := (Go.Func.body Try.f22).getD .skip
noncomputable def Γ : List (FuncId × AFun U) := [(45, word_Pack.A), (20, word_Torn.A), (16, word_Ones.A), (47, word_Need.A)]
noncomputable def Λ : List (Nat × LFun U) := []
def D : Nat → Lv × Lv := dtab []
noncomputable def E : Env U := { E0 with Γ := Γ, Λ := Λ, C := [], D := D }
theorem hk (R : Type) (l : TA) (K : AV U → Hp U → Option R) : funcA E Try.f22 [] R (pA.mkL l.1) (pH.mkH l.2) K = (t).runK fun y => K (v l y) (hh l y) := by kernel_rfl
theorem okF : SoundF Try.prog cc 22 (funcA E Try.f22 []) :=
  funcA_ok (E := E) P_mixed (E0_ok.with Γ Λ [] D) (gam_of (all_cons ⟨word_Pack.ok, ⟨Try.f45, Try.func45, by kernel_rfl, by kernel_rfl⟩⟩ (all_cons ⟨word_Torn.ok, ⟨Try.f20, Try.func20, by kernel_rfl, by kernel_rfl⟩⟩ (all_cons ⟨word_Ones.ok, ⟨Try.f16, Try.func16, by kernel_rfl, by kernel_rfl⟩⟩ (all_cons ⟨word_Need.ok, ⟨Try.f47, Try.func47, by kernel_rfl, by kernel_rfl⟩⟩ all_nil))))) Try.func22 (c := body) (by kernel_rfl)
    (just_by (by kernel_rfl) (by kernel_rfl) all_nil all_nil) []
theorem ok : SoundF Try.prog cc 22 A :=
  mkA_ok (E := E) (p := pA) (q := pH) (t := fun (l : TA) => t) sp1_ok hk okF
end law01_awake

/-! instar/instarlaw01.WordBits -/
namespace law01_WordBits
abbrev TA : Type := ((Int × (Int × (Int × Unit))) × Unit)
noncomputable def t (was : Int) (x : Int) (mask : Int) : Tw Bool :=
 (.opt (word_Ones.c was) fun z1 =>
  (.opt (ref01_Ones.c was) fun z2 =>
   (.bb (z1 == z2)
    (.opt (word_Within.c was x) fun z3 =>
     (.opt (ref01_Bits.c was x (0 : Int) (0 : Int)) fun z4 =>
      (.bb (z3 == (z4 == (0 : Int)))
       (.opt (word_Torn.c was x mask) fun z5 =>
        (.opt (ref01_Bits.c was x mask (1 : Int)) fun z6 =>
         (.bb (z5 == z6)
          (.opt (word_Raised.c was mask) fun z7 =>
           (.opt (ref01_Bits.c was (0 : Int) mask (2 : Int)) fun z8 =>
            (.bb (z7 == z8)
             (.opt (law01_awake.c) fun z9 =>
              (.ret z9))
             (.ret false))))
          (.ret false))))
       (.ret false))))
    (.ret false))))
noncomputable def c (was : Int) (x : Int) (mask : Int) : Option Bool := (t was x mask).run
def pA : Pt := (.cs (.int .u32) (.cs (.int .u32) (.cs (.int .u32) .nl)))
def pH : Pt := .nl
def v (l : TA) (y : Bool) : AV U := .im (.bool y)
def hh (l : TA) (y : Bool) : Hp U := []
noncomputable def A : AFun U := mkA (U := U) pA pH (X := Bool) (fun (l : TA) => c l.1.1 l.1.2.1 l.1.2.2.1) sp1 v hh
noncomputable def body : Code := (Go.Func.body Try.f3).getD .skip
noncomputable def Γ : List (FuncId × AFun U) := [(16, word_Ones.A), (17, ref01_Ones.A), (18, word_Within.A), (19, ref01_Bits.A), (20, word_Torn.A), (21, word_Raised.A), (22, law01_awake.A)]
noncomputable def Λ : List (Nat × LFun U) := []
def D : Nat → Lv × Lv := dtab []
noncomputable def E : Env U := { E0 with Γ := Γ, Λ := Λ, C := [], D := D }
theorem hk (R : Type) (l : TA) (K : AV U → Hp U → Option R) : funcA E Try.f3 [] R (pA.mkL l.1) (pH.mkH l.2) K = (t l.1.1 l.1.2.1 l.1.2.2.1).runK fun y => K (v l y) (hh l y) := by kernel_rfl
theorem okF : SoundF Try.prog cc 3 (funcA E Try.f3 []) :=
  funcA_ok (E := E) P_mixed (E0_ok.with Γ Λ [] D) (gam_of (all_cons ⟨word_Ones.ok, ⟨Try.f16, Try.func16, by kernel_rfl, by kernel_rfl⟩⟩ (all_cons ⟨ref01_Ones.ok, ⟨Try.f17, Try.func17, by kernel_rfl, by kernel_rfl⟩⟩ (all_cons ⟨word_Within.ok, ⟨Try.f18, Try.func18, by kernel_rfl, by kernel_rfl⟩⟩ (all_cons ⟨ref01_Bits.ok, ⟨Try.f19, Try.func19, by kernel_rfl, by kernel_rfl⟩⟩ (all_cons ⟨word_Torn.ok, ⟨Try.f20, Try.func20, by kernel_rfl, by kernel_rfl⟩⟩ (all_cons ⟨word_Raised.ok, ⟨Try.f21, Try.func21, by kernel_rfl, by kernel_rfl⟩⟩ (all_cons ⟨law01_awake.ok, ⟨Try.f22, Try.func22, by kernel_rfl, by kernel_rfl⟩⟩ all_nil)))))))) Try.func3 (c := body) (by kernel_rfl)
    (just_by (by kernel_rfl) (by kernel_rfl) all_nil all_nil) []
theorem ok : SoundF Try.prog cc 3 A :=
  mkA_ok (E := E) (p := pA) (q := pH) (t := fun (l : TA) => t l.1.1 l.1.2.1 l.1.2.2.1) sp1_ok hk okF
end law01_WordBits

/-! instar/instarlaw01.WordBetween -/
namespace law01_WordBetween
abbrev TA : Type := ((Int × (Int × (Int × Unit))) × Unit)
noncomputable def t (was : Int) (x : Int) (mask : Int) : Tw Bool :=
 (.opt (word_Torn.c was x mask) fun z1 =>
  (.opt (word_Torn.c was x (4294967295 : Int)) fun z2 =>
   (.opt (word_Within.c z1 was) fun z3 =>
    (.bb z3
     (.opt (word_Within.c z2 z1) fun z4 =>
      (.bb z4
       (.opt (word_Within.c z2 x) fun z5 =>
        (.bb z5
         (.opt (word_Torn.c was x (0 : Int)) fun z6 =>
          (.bb (z6 == was)
           (.opt (word_Torn.c z1 x (4294967295 : Int)) fun z7 =>
            (.bb (z7 == z2)
             (.opt (word_Raised.c was mask) fun z8 =>
              (.opt (word_Within.c was z8) fun z9 =>
               (.bb z9
                (.opt (word_Ones.c z2) fun z10 =>
                 (.opt (word_Ones.c was) fun z11 =>
                  (.bb (decide (z10 ≤ z11))
                   (.opt (law01_awake.c) fun z12 =>
                    (.ret z12))
                   (.ret false))))
                (.ret false))))
             (.ret false)))
           (.ret false)))
         (.ret false)))
       (.ret false)))
     (.ret false)))))
noncomputable def c (was : Int) (x : Int) (mask : Int) : Option Bool := (t was x mask).run
def pA : Pt := (.cs (.int .u32) (.cs (.int .u32) (.cs (.int .u32) .nl)))
def pH : Pt := .nl
def v (l : TA) (y : Bool) : AV U := .im (.bool y)
def hh (l : TA) (y : Bool) : Hp U := []
noncomputable def A : AFun U := mkA (U := U) pA pH (X := Bool) (fun (l : TA) => c l.1.1 l.1.2.1 l.1.2.2.1) sp1 v hh
noncomputable def body : Code := (Go.Func.body Try.f4).getD .skip
noncomputable def Γ : List (FuncId × AFun U) := [(20, word_Torn.A), (18, word_Within.A), (21, word_Raised.A), (16, word_Ones.A), (22, law01_awake.A)]
noncomputable def Λ : List (Nat × LFun U) := []
def D : Nat → Lv × Lv := dtab []
noncomputable def E : Env U := { E0 with Γ := Γ, Λ := Λ, C := [], D := D }
theorem hk (R : Type) (l : TA) (K : AV U → Hp U → Option R) : funcA E Try.f4 [] R (pA.mkL l.1) (pH.mkH l.2) K = (t l.1.1 l.1.2.1 l.1.2.2.1).runK fun y => K (v l y) (hh l y) := by kernel_rfl
theorem okF : SoundF Try.prog cc 4 (funcA E Try.f4 []) :=
  funcA_ok (E := E) P_mixed (E0_ok.with Γ Λ [] D) (gam_of (all_cons ⟨word_Torn.ok, ⟨Try.f20, Try.func20, by kernel_rfl, by kernel_rfl⟩⟩ (all_cons ⟨word_Within.ok, ⟨Try.f18, Try.func18, by kernel_rfl, by kernel_rfl⟩⟩ (all_cons ⟨word_Raised.ok, ⟨Try.f21, Try.func21, by kernel_rfl, by kernel_rfl⟩⟩ (all_cons ⟨word_Ones.ok, ⟨Try.f16, Try.func16, by kernel_rfl, by kernel_rfl⟩⟩ (all_cons ⟨law01_awake.ok, ⟨Try.f22, Try.func22, by kernel_rfl, by kernel_rfl⟩⟩ all_nil)))))) Try.func4 (c := body) (by kernel_rfl)
    (just_by (by kernel_rfl) (by kernel_rfl) all_nil all_nil) []
theorem ok : SoundF Try.prog cc 4 A :=
  mkA_ok (E := E) (p := pA) (q := pH) (t := fun (l : TA) => t l.1.1 l.1.2.1 l.1.2.2.1) sp1_ok hk okF
end law01_WordBetween

/-! instar/instarlaw01.WordPacks -/
namespace law01_WordPacks
abbrev TA : Type := (((List Int) × ((List Int) × (Int × Unit))) × Unit)
noncomputable def t (b : (List Int)) (w : (List Int)) (n : Int) : Tw Bool :=
 (.opt (word_Bytes.c w n) fun z1 =>
  (.opt (ref01_Bytes.c w n) fun z2 =>
   (.opt (word_Pack.c b) fun z3 =>
    (.opt (ref01_Pack.c b) fun z4 =>
     (.opt (ref01_Same.c z3 z4) fun z5 =>
      (.bb z5
       (.bb ((ByteArray.toList (Go.Proofs.Ytadhnolgfhgepaa.Va.l2b z1.2)) == (ByteArray.toList (Go.Proofs.Ytadhnolgfhgepaa.Va.l2b z2.1)))
        (.bb (z1.1 == z2.2)
         (.opt (word_Need.c n) fun z6 =>
          (.opt (ref01_Need.c n) fun z7 =>
           (.bb (z6 == z7)
            (.opt (law01_awake.c) fun z8 =>
             (.ret z8))
            (.ret false))))
         (.ret false))
        (.ret false))
       (.ret false)))))))
noncomputable def c (b : (List Int)) (w : (List Int)) (n : Int) : Option Bool := (t b w n).run
def pA : Pt := (.cs (.sl 2) (.cs (.sl 3) (.cs (.int .i64) .nl)))
def pH : Pt := .nl
def v (l : TA) (y : Bool) : AV U := .im (.bool y)
def hh (l : TA) (y : Bool) : Hp U := []
noncomputable def A : AFun U := mkA (U := U) pA pH (X := Bool) (fun (l : TA) => c l.1.1 l.1.2.1 l.1.2.2.1) sp1 v hh
noncomputable def body : Code := (Go.Func.body Try.f10).getD .skip
noncomputable def Γ : List (FuncId × AFun U) := [(43, word_Bytes.A), (44, ref01_Bytes.A), (45, word_Pack.A), (46, ref01_Pack.A), (25, ref01_Same.A), (47, word_Need.A), (48, ref01_Need.A), (22, law01_awake.A)]
noncomputable def Λ : List (Nat × LFun U) := []
def D : Nat → Lv × Lv := dtab []
noncomputable def E : Env U := { E0 with Γ := Γ, Λ := Λ, C := [], D := D }
theorem hk (R : Type) (l : TA) (K : AV U → Hp U → Option R) : funcA E Try.f10 [] R (pA.mkL l.1) (pH.mkH l.2) K = (t l.1.1 l.1.2.1 l.1.2.2.1).runK fun y => K (v l y) (hh l y) := by kernel_rfl
theorem okF : SoundF Try.prog cc 10 (funcA E Try.f10 []) :=
  funcA_ok (E := E) P_mixed (E0_ok.with Γ Λ [] D) (gam_of (all_cons ⟨word_Bytes.ok, ⟨Try.f43, Try.func43, by kernel_rfl, by kernel_rfl⟩⟩ (all_cons ⟨ref01_Bytes.ok, ⟨Try.f44, Try.func44, by kernel_rfl, by kernel_rfl⟩⟩ (all_cons ⟨word_Pack.ok, ⟨Try.f45, Try.func45, by kernel_rfl, by kernel_rfl⟩⟩ (all_cons ⟨ref01_Pack.ok, ⟨Try.f46, Try.func46, by kernel_rfl, by kernel_rfl⟩⟩ (all_cons ⟨ref01_Same.ok, ⟨Try.f25, Try.func25, by kernel_rfl, by kernel_rfl⟩⟩ (all_cons ⟨word_Need.ok, ⟨Try.f47, Try.func47, by kernel_rfl, by kernel_rfl⟩⟩ (all_cons ⟨ref01_Need.ok, ⟨Try.f48, Try.func48, by kernel_rfl, by kernel_rfl⟩⟩ (all_cons ⟨law01_awake.ok, ⟨Try.f22, Try.func22, by kernel_rfl, by kernel_rfl⟩⟩ all_nil))))))))) Try.func10 (c := body) (by kernel_rfl)
    (just_by (by kernel_rfl) (by kernel_rfl) all_nil all_nil) []
theorem ok : SoundF Try.prog cc 10 A :=
  mkA_ok (E := E) (p := pA) (q := pH) (t := fun (l : TA) => t l.1.1 l.1.2.1 l.1.2.2.1) sp1_ok hk okF
end law01_WordPacks

/-! instar/instarlaw01.WordBack -/
namespace law01_WordBack
abbrev TA : Type := (((List Int) × Unit) × Unit)
noncomputable def t (b : (List Int)) : Tw Bool :=
 (.opt (word_Pack.c b) fun z1 =>
  (.opt (word_Bytes.c z1 (((List.length b) : Nat) : Int)) fun z2 =>
   (.bb ((ByteArray.toList (Go.Proofs.Ytadhnolgfhgepaa.Va.l2b z2.2)) == (ByteArray.toList (Go.Proofs.Ytadhnolgfhgepaa.Va.l2b b)))
    (.bb (z2.1 == (0 : Int))
     (.opt (word_Need.c (((List.length b) : Nat) : Int)) fun z3 =>
      (.bb ((((List.length z1) : Nat) : Int) == z3)
       (.opt (law01_awake.c) fun z4 =>
        (.ret z4))
       (.ret false)))
     (.ret false))
    (.ret false))))
noncomputable def c (b : (List Int)) : Option Bool := (t b).run
def pA : Pt := (.cs (.sl 2) .nl)
def pH : Pt := .nl
def v (l : TA) (y : Bool) : AV U := .im (.bool y)
def hh (l : TA) (y : Bool) : Hp U := []
noncomputable def A : AFun U := mkA (U := U) pA pH (X := Bool) (fun (l : TA) => c l.1.1) sp1 v hh
noncomputable def body : Code := (Go.Func.body Try.f11).getD .skip
noncomputable def Γ : List (FuncId × AFun U) := [(45, word_Pack.A), (43, word_Bytes.A), (47, word_Need.A), (22, law01_awake.A)]
noncomputable def Λ : List (Nat × LFun U) := []
def D : Nat → Lv × Lv := dtab []
noncomputable def E : Env U := { E0 with Γ := Γ, Λ := Λ, C := [], D := D }
theorem hk (R : Type) (l : TA) (K : AV U → Hp U → Option R) : funcA E Try.f11 [] R (pA.mkL l.1) (pH.mkH l.2) K = (t l.1.1).runK fun y => K (v l y) (hh l y) := by kernel_rfl
theorem okF : SoundF Try.prog cc 11 (funcA E Try.f11 []) :=
  funcA_ok (E := E) P_mixed (E0_ok.with Γ Λ [] D) (gam_of (all_cons ⟨word_Pack.ok, ⟨Try.f45, Try.func45, by kernel_rfl, by kernel_rfl⟩⟩ (all_cons ⟨word_Bytes.ok, ⟨Try.f43, Try.func43, by kernel_rfl, by kernel_rfl⟩⟩ (all_cons ⟨word_Need.ok, ⟨Try.f47, Try.func47, by kernel_rfl, by kernel_rfl⟩⟩ (all_cons ⟨law01_awake.ok, ⟨Try.f22, Try.func22, by kernel_rfl, by kernel_rfl⟩⟩ all_nil))))) Try.func11 (c := body) (by kernel_rfl)
    (just_by (by kernel_rfl) (by kernel_rfl) all_nil all_nil) []
theorem ok : SoundF Try.prog cc 11 A :=
  mkA_ok (E := E) (p := pA) (q := pH) (t := fun (l : TA) => t l.1.1) sp1_ok hk okF
end law01_WordBack

end Go.Proofs.Ytadhnolgfhgepaa.Va
