/- The functions of package law08, as plain functions, and that the program computes them. Printed by a program of this work out of the evaluator. -/
import Derived.Test.YtadhnolgfhgepaaEn
import Derived.Tactics
import Derived.Test.YtadhnolgfhgepaaFgeom
import Derived.Test.YtadhnolgfhgepaaFref08
namespace Go.Proofs.Ytadhnolgfhgepaa.Va
open Go
set_option linter.unusedVariables false
set_option maxRecDepth 100000

/-! instar/instarlaw08.awake -/
namespace law08_awake
abbrev TA : Type := (Unit × Unit)
noncomputable def t : Tw Bool :=
 (.opt (geom_Sectors.c (64 : Int) (3 : Int) (8 : Int) (4 : Int) (1 : Int) (9 : Int)) fun z1 =>
  (.bb (z1 == (16 : Int))
   (.opt (geom_Ledger.c (64 : Int) (3 : Int) (8 : Int) (4 : Int) (1 : Int) (9 : Int) (1 : Int)) fun z2 =>
    (.bb (z2 == (5 : Int))
     (.opt (geom_Page.c (64 : Int) (3 : Int) (8 : Int) (4 : Int) (1 : Int) (9 : Int) (0 : Int)) fun z3 =>
      (.bb (z3 == (8 : Int))
       (.opt (geom_Chunks.c (64 : Int) (3 : Int) (8 : Int) (4 : Int) (1 : Int) (9 : Int) (600 : Int)) fun z4 =>
        (.bb (z4 == (0 : Int))
         (.opt (geom_Part.c (64 : Int) (3 : Int) (8 : Int) (4 : Int) (1 : Int) (9 : Int) (500 : Int) (1 : Int)) fun z5 =>
          (.ret (z5 == (244 : Int))))
         (.ret false)))
       (.ret false)))
     (.ret false)))
   (.ret false)))
noncomputable def c : Option Bool := (t).run
def pA : Pt := .nl
def pH : Pt := .nl
def v (l : TA) (y : Bool) : AV U := .im (.bool y)
def hh (l : TA) (y : Bool) : Hp U := []
noncomputable def A : AFun U := mkA (U := U) pA pH (X := Bool) (fun (l : TA) => c) sp1 v hh
noncomputable def body : Code := (Go.Func.body Try.f62).getD .skip
noncomputable def Γ : List (FuncId × AFun U) := [(56, geom_Sectors.A), (58, geom_Ledger.A), (61, geom_Page.A), (73, geom_Chunks.A), (74, geom_Part.A)]
noncomputable def Λ : List (Nat × LFun U) := []
def D : Nat → Lv × Lv := dtab []
noncomputable def E : Env U := { E0 with Γ := Γ, Λ := Λ, C := [], D := D }
theorem hk (R : Type) (l : TA) (K : AV U → Hp U → Option R) : funcA E Try.f62 [] R (pA.mkL l.1) (pH.mkH l.2) K = (t).runK fun y => K (v l y) (hh l y) := by kernel_rfl
theorem okF : SoundF Try.prog cc 62 (funcA E Try.f62 []) :=
  funcA_ok (E := E) P_mixed (E0_ok.with Γ Λ [] D) (gam_of (all_cons ⟨geom_Sectors.ok, ⟨Try.f56, Try.func56, by kernel_rfl, by kernel_rfl⟩⟩ (all_cons ⟨geom_Ledger.ok, ⟨Try.f58, Try.func58, by kernel_rfl, by kernel_rfl⟩⟩ (all_cons ⟨geom_Page.ok, ⟨Try.f61, Try.func61, by kernel_rfl, by kernel_rfl⟩⟩ (all_cons ⟨geom_Chunks.ok, ⟨Try.f73, Try.func73, by kernel_rfl, by kernel_rfl⟩⟩ (all_cons ⟨geom_Part.ok, ⟨Try.f74, Try.func74, by kernel_rfl, by kernel_rfl⟩⟩ all_nil)))))) Try.func62 (c := body) (by kernel_rfl)
    (just_by (by kernel_rfl) (by kernel_rfl) all_nil all_nil) []
theorem ok : SoundF Try.prog cc 62 A :=
  mkA_ok (E := E) (p := pA) (q := pH) (t := fun (l : TA) => t) sp1_ok hk okF
end law08_awake

/-! instar/instarlaw08.GeomPlaces -/
namespace law08_GeomPlaces
abbrev TA : Type := (((Int × (Int × (Int × (Int × (Int × (Int × Unit)))))) × (Int × (Int × Unit))) × Unit)
noncomputable def t (g_0 : Int) (g_1 : Int) (g_2 : Int) (g_3 : Int) (g_4 : Int) (g_5 : Int) (a : Int) (b : Int) : Tw Bool :=
 (.opt (geom_Check.c g_0 g_1 g_2 g_3 g_4 g_5) fun z1 =>
  (.opt (ref08_Right.c g_0 g_1 g_2 g_3 g_4 g_5) fun z2 =>
   (.bb ((z1 == (0 : Int)) == z2)
    (.opt (geom_Check.c g_0 g_1 g_2 g_3 g_4 g_5) fun z3 =>
     (.bb (z3 == (0 : Int))
      (.opt (geom_Sectors.c g_0 g_1 g_2 g_3 g_4 g_5) fun z14 =>
       (.opt (ref08_Map.c g_0 g_1 g_2 g_3 g_4 g_5) fun z15 =>
        (.bb (z14 == (((List.length z15) : Nat) : Int))
         (.opt (geom_Ledger.c g_0 g_1 g_2 g_3 g_4 g_5 a) fun z16 =>
          (.opt (ref08_Find.c g_0 g_1 g_2 g_3 g_4 g_5 (1 : Int) a (0 : Int)) fun z17 =>
           (.bb (z16 == z17)
            (.opt (geom_Chunk.c g_0 g_1 g_2 g_3 g_4 g_5 a b) fun z18 =>
             (.opt (ref08_Find.c g_0 g_1 g_2 g_3 g_4 g_5 (2 : Int) a b) fun z19 =>
              (.bb (z18 == z19)
               (.opt (geom_Page.c g_0 g_1 g_2 g_3 g_4 g_5 b) fun z20 =>
                (.opt (ref08_Find.c g_0 g_1 g_2 g_3 g_4 g_5 (3 : Int) (0 : Int) b) fun z21 =>
                 (.bb (z20 == z21)
                  (.opt (law08_awake.c) fun z22 =>
                   (.ret z22))
                  (.ret false))))
               (.ret false))))
            (.ret false))))
         (.ret false))))
      (.opt (geom_Check.c g_0 g_1 g_2 g_3 g_4 g_5) fun z4 =>
       (.bb (z4 == (2 : Int))
        (.opt (geom_Sectors.c g_0 g_1 g_2 g_3 g_4 g_5) fun z5 =>
         (.opt (ref08_Map.c g_0 g_1 g_2 g_3 g_4 g_5) fun z6 =>
          (.bb (z5 == (((List.length z6) : Nat) : Int))
           (.opt (geom_Ledger.c g_0 g_1 g_2 g_3 g_4 g_5 a) fun z7 =>
            (.opt (ref08_Find.c g_0 g_1 g_2 g_3 g_4 g_5 (1 : Int) a (0 : Int)) fun z8 =>
             (.bb (z7 == z8)
              (.opt (geom_Chunk.c g_0 g_1 g_2 g_3 g_4 g_5 a b) fun z9 =>
               (.opt (ref08_Find.c g_0 g_1 g_2 g_3 g_4 g_5 (2 : Int) a b) fun z10 =>
                (.bb (z9 == z10)
                 (.opt (geom_Page.c g_0 g_1 g_2 g_3 g_4 g_5 b) fun z11 =>
                  (.opt (ref08_Find.c g_0 g_1 g_2 g_3 g_4 g_5 (3 : Int) (0 : Int) b) fun z12 =>
                   (.bb (z11 == z12)
                    (.opt (law08_awake.c) fun z13 =>
                     (.ret z13))
                    (.ret false))))
                 (.ret false))))
              (.ret false))))
           (.ret false))))
        (.ret false)))))
    (.ret false))))
noncomputable def c (g_0 : Int) (g_1 : Int) (g_2 : Int) (g_3 : Int) (g_4 : Int) (g_5 : Int) (a : Int) (b : Int) : Option Bool := (t g_0 g_1 g_2 g_3 g_4 g_5 a b).run
def pA : Pt := (.cs (.agg (.cs (.int .i64) (.cs (.int .i64) (.cs (.int .i64) (.cs (.int .i64) (.cs (.int .i64) (.cs (.int .i64) .nl))))))) (.cs (.int .i64) (.cs (.int .i64) .nl)))
def pH : Pt := .nl
def v (l : TA) (y : Bool) : AV U := .im (.bool y)
def hh (l : TA) (y : Bool) : Hp U := []
noncomputable def A : AFun U := mkA (U := U) pA pH (X := Bool) (fun (l : TA) => c l.1.1.1 l.1.1.2.1 l.1.1.2.2.1 l.1.1.2.2.2.1 l.1.1.2.2.2.2.1 l.1.1.2.2.2.2.2.1 l.1.2.1 l.1.2.2.1) sp1 v hh
noncomputable def body : Code := (Go.Func.body Try.f13).getD .skip
noncomputable def Γ : List (FuncId × AFun U) := [(54, geom_Check.A), (55, ref08_Right.A), (56, geom_Sectors.A), (57, ref08_Map.A), (58, geom_Ledger.A), (59, ref08_Find.A), (60, geom_Chunk.A), (61, geom_Page.A), (62, law08_awake.A)]
noncomputable def Λ : List (Nat × LFun U) := []
def D : Nat → Lv × Lv := dtab []
noncomputable def E : Env U := { E0 with Γ := Γ, Λ := Λ, C := [], D := D }
theorem hk (R : Type) (l : TA) (K : AV U → Hp U → Option R) : funcA E Try.f13 [] R (pA.mkL l.1) (pH.mkH l.2) K = (t l.1.1.1 l.1.1.2.1 l.1.1.2.2.1 l.1.1.2.2.2.1 l.1.1.2.2.2.2.1 l.1.1.2.2.2.2.2.1 l.1.2.1 l.1.2.2.1).runK fun y => K (v l y) (hh l y) := by kernel_rfl
theorem okF : SoundF Try.prog cc 13 (funcA E Try.f13 []) :=
  funcA_ok (E := E) P_mixed (E0_ok.with Γ Λ [] D) (gam_of (all_cons ⟨geom_Check.ok, ⟨Try.f54, Try.func54, by kernel_rfl, by kernel_rfl⟩⟩ (all_cons ⟨ref08_Right.ok, ⟨Try.f55, Try.func55, by kernel_rfl, by kernel_rfl⟩⟩ (all_cons ⟨geom_Sectors.ok, ⟨Try.f56, Try.func56, by kernel_rfl, by kernel_rfl⟩⟩ (all_cons ⟨ref08_Map.ok, ⟨Try.f57, Try.func57, by kernel_rfl, by kernel_rfl⟩⟩ (all_cons ⟨geom_Ledger.ok, ⟨Try.f58, Try.func58, by kernel_rfl, by kernel_rfl⟩⟩ (all_cons ⟨ref08_Find.ok, ⟨Try.f59, Try.func59, by kernel_rfl, by kernel_rfl⟩⟩ (all_cons ⟨geom_Chunk.ok, ⟨Try.f60, Try.func60, by kernel_rfl, by kernel_rfl⟩⟩ (all_cons ⟨geom_Page.ok, ⟨Try.f61, Try.func61, by kernel_rfl, by kernel_rfl⟩⟩ (all_cons ⟨law08_awake.ok, ⟨Try.f62, Try.func62, by kernel_rfl, by kernel_rfl⟩⟩ all_nil)))))))))) Try.func13 (c := body) (by kernel_rfl)
    (just_by (by kernel_rfl) (by kernel_rfl) all_nil all_nil) []
theorem ok : SoundF Try.prog cc 13 A :=
  mkA_ok (E := E) (p := pA) (q := pH) (t := fun (l : TA) => t l.1.1.1 l.1.1.2.1 l.1.1.2.2.1 l.1.1.2.2.2.1 l.1.1.2.2.2.2.1 l.1.1.2.2.2.2.2.1 l.1.2.1 l.1.2.2.1) sp1_ok hk okF
end law08_GeomPlaces

/-! instar/instarlaw08.GeomApart -/
namespace law08_GeomApart
abbrev TA : Type := (((Int × (Int × (Int × (Int × (Int × (Int × Unit)))))) × (Int × Unit)) × Unit)
abbrev T7 : Type := ((Unit × (Int × (Unit × (Unit × (Int × (Int × (Unit × Unit))))))) × ((Int × (Int × (Int × (Int × (Int × (Int × Unit)))))) × Unit))
noncomputable def l7 (total : Int) (n : Int) (h0_0 : Int) (h0_1 : Int) (h0_2 : Int) (h0_3 : Int) (h0_4 : Int) (h0_5 : Int) (s_ : Int) : Tw (Int ⊕ (Unit ⊕ Bool)) :=
 (.bb (decide (s_ < n))
  (.opt (geom_Where.c h0_0 h0_1 h0_2 h0_3 h0_4 h0_5 s_) fun z3 =>
   (.bb (z3.1 == (0 : Int))
    (.bb (z3.2.2 != s_)
     (.ret (.inr (.inr false)))
     (.ret (.inl (w64 (s_ + (1 : Int))))))
    (.bb (z3.1 == (1 : Int))
     (.opt (geom_Ledger.c h0_0 h0_1 h0_2 h0_3 h0_4 h0_5 z3.2.1) fun z6 =>
      (.bb (z6 != s_)
       (.ret (.inr (.inr false)))
       (.ret (.inl (w64 (s_ + (1 : Int)))))))
     (.bb (z3.1 == (2 : Int))
      (.opt (geom_Chunk.c h0_0 h0_1 h0_2 h0_3 h0_4 h0_5 z3.2.1 z3.2.2) fun z5 =>
       (.bb (z5 != s_)
        (.ret (.inr (.inr false)))
        (.ret (.inl (w64 (s_ + (1 : Int)))))))
      (.bb (z3.1 == (3 : Int))
       (.opt (geom_Page.c h0_0 h0_1 h0_2 h0_3 h0_4 h0_5 z3.2.2) fun z4 =>
        (.bb (z4 != s_)
         (.ret (.inr (.inr false)))
         (.ret (.inl (w64 (s_ + (1 : Int)))))))
       (.bb ((-(1 : Int)) != s_)
        (.ret (.inr (.inr false)))
        (.ret (.inl (w64 (s_ + (1 : Int)))))))))))
  (.ret (.inr (.inl ()))))
noncomputable def L7 (total : Int) (n : Int) (s_ : Int) (h0_0 : Int) (h0_1 : Int) (h0_2 : Int) (h0_3 : Int) (h0_4 : Int) (h0_5 : Int) : Option (Unit ⊕ Bool) := Lp (fun s => (l7 total n h0_0 h0_1 h0_2 h0_3 h0_4 h0_5 s).run) s_
def p7 : Pt := (.cs (.bots 1) (.cs (.int .i64) (.cs (.ptr 0 0) (.cs (.bots 2) (.cs (.int .i64) (.cs (.int .i64) (.cs (.bots 103) .nl)))))))
def q7 : Pt := (.cs (.var (.cs (.int .i64) (.cs (.int .i64) (.cs (.int .i64) (.cs (.int .i64) (.cs (.int .i64) (.cs (.int .i64) .nl))))))) .nl)
def ou7 (l : T7) (y : (Unit ⊕ Bool)) : Ex × St U := (Sum.elim (fun a0 => (.exit 0, stOf 110 [(1, .im (.int .i64 l.1.2.1)), (2, .ptr 0 0)] [.var [.im (.int .i64 l.2.1.1), .im (.int .i64 l.2.1.2.1), .im (.int .i64 l.2.1.2.2.1), .im (.int .i64 l.2.1.2.2.2.1), .im (.int .i64 l.2.1.2.2.2.2.1), .im (.int .i64 l.2.1.2.2.2.2.2.1)]] 0)) (fun b0 => (.ret, stOf 110 [(1, .im (.int .i64 l.1.2.1)), (2, .ptr 0 0), (4, .im (.bool b0))] [.var [.im (.int .i64 l.2.1.1), .im (.int .i64 l.2.1.2.1), .im (.int .i64 l.2.1.2.2.1), .im (.int .i64 l.2.1.2.2.2.1), .im (.int .i64 l.2.1.2.2.2.2.1), .im (.int .i64 l.2.1.2.2.2.2.2.1)]] 0)) y)
noncomputable def Λ7 : LFun U := mkLp (U := U) p7 q7 0 (X := (Unit ⊕ Bool)) (fun (l : T7) => L7 l.1.2.1 l.1.2.2.2.2.1 l.1.2.2.2.2.2.1 l.2.1.1 l.2.1.2.1 l.2.1.2.2.1 l.2.1.2.2.2.1 l.2.1.2.2.2.2.1 l.2.1.2.2.2.2.2.1) (spS sp1) ou7
abbrev T25 : Type := ((Unit × (Int × (Unit × (Unit × (Int × (Int × (Int × (Unit × Unit)))))))) × ((Int × (Int × (Int × (Int × (Int × (Int × Unit)))))) × Unit))
noncomputable def l25 (total : Int) (k : Int) (h0_0 : Int) (h0_1 : Int) (h0_2 : Int) (h0_3 : Int) (h0_4 : Int) (h0_5 : Int) (sum : Int) (i : Int) : Tw ((Int × Int) ⊕ (Int ⊕ (Bool × Int))) :=
 (.bb (decide (i < k))
  (.bb (decide (i < (40 : Int)))
   (.opt (geom_Part.c h0_0 h0_1 h0_2 h0_3 h0_4 h0_5 total i) fun z11 =>
    (.bb (decide (z11 < (1 : Int)))
     (.ret (.inr (.inr (false, sum))))
     (.opt (geom_Long.c h0_0 h0_1 h0_2 h0_3 h0_4 h0_5) fun z12 =>
      (.bb (decide (z11 > z12))
       (.ret (.inr (.inr (false, sum))))
       (.opt (geom_Chunk.c h0_0 h0_1 h0_2 h0_3 h0_4 h0_5 (1 : Int) i) fun z13 =>
        (.bb (decide (z13 < (0 : Int)))
         (.ret (.inr (.inr (false, sum))))
         (.ret (.inl ((w64 (sum + z11)), (w64 (i + (1 : Int))))))))))))
   (.ret (.inr (.inl sum))))
  (.ret (.inr (.inl sum))))
noncomputable def L25 (total : Int) (k : Int) (sum : Int) (i : Int) (h0_0 : Int) (h0_1 : Int) (h0_2 : Int) (h0_3 : Int) (h0_4 : Int) (h0_5 : Int) : Option (Int ⊕ (Bool × Int)) := Lp (fun s => (l25 total k h0_0 h0_1 h0_2 h0_3 h0_4 h0_5 s.1 s.2).run) (sum, i)
def p25 : Pt := (.cs (.bots 1) (.cs (.int .i64) (.cs (.ptr 0 0) (.cs (.bots 8) (.cs (.int .i64) (.cs (.int .i64) (.cs (.int .i64) (.cs (.bots 96) .nl))))))))
def q25 : Pt := (.cs (.var (.cs (.int .i64) (.cs (.int .i64) (.cs (.int .i64) (.cs (.int .i64) (.cs (.int .i64) (.cs (.int .i64) .nl))))))) .nl)
def ou25 (l : T25) (y : (Int ⊕ (Bool × Int))) : Ex × St U := (Sum.elim (fun a0 => (.exit 3, stOf 110 [(1, .im (.int .i64 l.1.2.1)), (11, .im (.int .i64 l.1.2.2.2.2.1)), (12, .im (.int .i64 a0))] [] 0)) (fun b0 => (.ret, stOf 110 [(1, .im (.int .i64 l.1.2.1)), (4, .im (.bool b0.1)), (11, .im (.int .i64 l.1.2.2.2.2.1)), (12, .im (.int .i64 b0.2))] [] 0)) y)
noncomputable def Λ25 : LFun U := mkLp (U := U) p25 q25 0 (X := (Int ⊕ (Bool × Int))) (fun (l : T25) => L25 l.1.2.1 l.1.2.2.2.2.1 l.1.2.2.2.2.2.1 l.1.2.2.2.2.2.2.1 l.2.1.1 l.2.1.2.1 l.2.1.2.2.1 l.2.1.2.2.2.1 l.2.1.2.2.2.2.1 l.2.1.2.2.2.2.2.1) (spS sp1) ou25
noncomputable def t (g_0 : Int) (g_1 : Int) (g_2 : Int) (g_3 : Int) (g_4 : Int) (g_5 : Int) (total : Int) : Tw Bool :=
 (.opt (geom_Check.c g_0 g_1 g_2 g_3 g_4 g_5) fun z1 =>
  (.bb (z1 != (0 : Int))
   (.opt (geom_Sectors.c g_0 g_1 g_2 g_3 g_4 g_5) fun z19 =>
    (.bb (z19 == (0 : Int))
     (.opt (law08_awake.c) fun z20 =>
      (.ret z20))
     (.ret false)))
   (.opt (geom_Sectors.c g_0 g_1 g_2 g_3 g_4 g_5) fun z2 =>
    (.bb (decide (z2 < (1 : Int)))
     (.ret false)
     (.bb (decide (z2 > (512 : Int)))
      (.ret false)
      (.opt (L7 total z2 (0 : Int) g_0 g_1 g_2 g_3 g_4 g_5) fun z7 =>
       (.sm z7
        (fun z8 => (.opt (geom_Chunks.c g_0 g_1 g_2 g_3 g_4 g_5 total) fun z10 =>
          (.opt (L25 total z10 (0 : Int) (0 : Int) g_0 g_1 g_2 g_3 g_4 g_5) fun z14 =>
           (.sm z14
            (fun z15 => (.bb (z10 == (0 : Int))
              (.opt (law08_awake.c) fun z18 =>
               (.ret z18))
              (.bb (z15 == total)
               (.opt (law08_awake.c) fun z17 =>
                (.ret z17))
               (.ret false))))
            (fun z16 => (.ret z16.1))))))
        (fun z9 => (.ret z9)))))))))
noncomputable def c (g_0 : Int) (g_1 : Int) (g_2 : Int) (g_3 : Int) (g_4 : Int) (g_5 : Int) (total : Int) : Option Bool := (t g_0 g_1 g_2 g_3 g_4 g_5 total).run
def pA : Pt := (.cs (.agg (.cs (.int .i64) (.cs (.int .i64) (.cs (.int .i64) (.cs (.int .i64) (.cs (.int .i64) (.cs (.int .i64) .nl))))))) (.cs (.int .i64) .nl))
def pH : Pt := .nl
def v (l : TA) (y : Bool) : AV U := .im (.bool y)
def hh (l : TA) (y : Bool) : Hp U := []
noncomputable def A : AFun U := mkA (U := U) pA pH (X := Bool) (fun (l : TA) => c l.1.1.1 l.1.1.2.1 l.1.1.2.2.1 l.1.1.2.2.2.1 l.1.1.2.2.2.2.1 l.1.1.2.2.2.2.2.1 l.1.2.1) sp1 v hh
noncomputable def body : Code := (Go.Func.body Try.f15).getD .skip
noncomputable def Γ : List (FuncId × AFun U) := [(54, geom_Check.A), (56, geom_Sectors.A), (72, geom_Where.A), (61, geom_Page.A), (60, geom_Chunk.A), (58, geom_Ledger.A), (73, geom_Chunks.A), (74, geom_Part.A), (75, geom_Long.A), (62, law08_awake.A)]
noncomputable def Λ : List (Nat × LFun U) := [(7, Λ7), (25, Λ25)]
def D : Nat → Lv × Lv := dtab [(7, ⟨[6, 2, 1, 5], []⟩, ⟨[4, 2, 1], []⟩), (25, ⟨[13, 12, 2, 1, 11], []⟩, ⟨[4, 1, 12, 11], []⟩)]
noncomputable def E : Env U := { E0 with Γ := Γ, Λ := Λ, C := [], D := D }
theorem hf7 (R : Type) (l : T7) (s : Int) (K : Ex → St U → Option R) : codeA E (pick (loopsOf body) 7) ⟨p7.mkL ((((), (l.1.2.1, ((), ((), (l.1.2.2.2.2.1, (s, ((), ()))))))), ((l.2.1.1, (l.2.1.2.1, (l.2.1.2.2.1, (l.2.1.2.2.2.1, (l.2.1.2.2.2.2.1, (l.2.1.2.2.2.2.2.1, ())))))), ())) : T7).1, q7.mkH ((((), (l.1.2.1, ((), ((), (l.1.2.2.2.2.1, (s, ((), ()))))))), ((l.2.1.1, (l.2.1.2.1, (l.2.1.2.2.1, (l.2.1.2.2.2.1, (l.2.1.2.2.2.2.1, (l.2.1.2.2.2.2.2.1, ())))))), ())) : T7).2, 0⟩ (roundK E (pick (loopsOf body) 7) K) =
  (l7 l.1.2.1 l.1.2.2.2.2.1 l.2.1.1 l.2.1.2.1 l.2.1.2.2.1 l.2.1.2.2.2.1 l.2.1.2.2.2.2.1 l.2.1.2.2.2.2.2.1 s).runK (lpK K (fun s => ⟨p7.mkL ((((), (l.1.2.1, ((), ((), (l.1.2.2.2.2.1, (s, ((), ()))))))), ((l.2.1.1, (l.2.1.2.1, (l.2.1.2.2.1, (l.2.1.2.2.2.1, (l.2.1.2.2.2.2.1, (l.2.1.2.2.2.2.2.1, ())))))), ())) : T7).1, q7.mkH ((((), (l.1.2.1, ((), ((), (l.1.2.2.2.2.1, (s, ((), ()))))))), ((l.2.1.1, (l.2.1.2.1, (l.2.1.2.2.1, (l.2.1.2.2.2.1, (l.2.1.2.2.2.2.1, (l.2.1.2.2.2.2.2.1, ())))))), ())) : T7).2, 0⟩) (spS sp1) (ou7 l)) := by kernel_rfl
theorem lk7 (R : Type) (st : St U) (K : Ex → St U → Option R) (r : R) (h : Λ7 R st K = some r) : ∃ n, loopA E (pick (loopsOf body) 7) n st K = some r :=
  lp_ok (U := U) (E := E) (b := pick (loopsOf body) 7) (m := 0) (sp := (spS sp1)) (p := p7) (q := q7) (X := (Unit ⊕ Bool)) (S := Int) (f := fun (l : T7) s => l7 l.1.2.1 l.1.2.2.2.2.1 l.2.1.1 l.2.1.2.1 l.2.1.2.2.1 l.2.1.2.2.2.1 l.2.1.2.2.2.2.1 l.2.1.2.2.2.2.2.1 s) (hd := fun (l : T7) s => (((), (l.1.2.1, ((), ((), (l.1.2.2.2.2.1, (s, ((), ()))))))), ((l.2.1.1, (l.2.1.2.1, (l.2.1.2.2.1, (l.2.1.2.2.2.1, (l.2.1.2.2.2.2.1, (l.2.1.2.2.2.2.2.1, ())))))), ()))) (s0 := fun (l : T7) => l.1.2.2.2.2.2.1) (ou := ou7)
    (fun l => rfl) (fun l x => by repeat' (first | rfl | (cases x with | inl => rfl | inr x => ?_))) (spS_ok sp1_ok) hf7 h
theorem hf25 (R : Type) (l : T25) (s : (Int × Int)) (K : Ex → St U → Option R) : codeA E (pick (loopsOf body) 25) ⟨p25.mkL ((((), (l.1.2.1, ((), ((), (l.1.2.2.2.2.1, (s.1, (s.2, ((), ())))))))), ((l.2.1.1, (l.2.1.2.1, (l.2.1.2.2.1, (l.2.1.2.2.2.1, (l.2.1.2.2.2.2.1, (l.2.1.2.2.2.2.2.1, ())))))), ())) : T25).1, q25.mkH ((((), (l.1.2.1, ((), ((), (l.1.2.2.2.2.1, (s.1, (s.2, ((), ())))))))), ((l.2.1.1, (l.2.1.2.1, (l.2.1.2.2.1, (l.2.1.2.2.2.1, (l.2.1.2.2.2.2.1, (l.2.1.2.2.2.2.2.1, ())))))), ())) : T25).2, 0⟩ (roundK E (pick (loopsOf body) 25) K) =
  (l25 l.1.2.1 l.1.2.2.2.2.1 l.2.1.1 l.2.1.2.1 l.2.1.2.2.1 l.2.1.2.2.2.1 l.2.1.2.2.2.2.1 l.2.1.2.2.2.2.2.1 s.1 s.2).runK (lpK K (fun s => ⟨p25.mkL ((((), (l.1.2.1, ((), ((), (l.1.2.2.2.2.1, (s.1, (s.2, ((), ())))))))), ((l.2.1.1, (l.2.1.2.1, (l.2.1.2.2.1, (l.2.1.2.2.2.1, (l.2.1.2.2.2.2.1, (l.2.1.2.2.2.2.2.1, ())))))), ())) : T25).1, q25.mkH ((((), (l.1.2.1, ((), ((), (l.1.2.2.2.2.1, (s.1, (s.2, ((), ())))))))), ((l.2.1.1, (l.2.1.2.1, (l.2.1.2.2.1, (l.2.1.2.2.2.1, (l.2.1.2.2.2.2.1, (l.2.1.2.2.2.2.2.1, ())))))), ())) : T25).2, 0⟩) (spS sp1) (ou25 l)) := by kernel_rfl
theorem lk25 (R : Type) (st : St U) (K : Ex → St U → Option R) (r : R) (h : Λ25 R st K = some r) : ∃ n, loopA E (pick (loopsOf body) 25) n st K = some r :=
  lp_ok (U := U) (E := E) (b := pick (loopsOf body) 25) (m := 0) (sp := (spS sp1)) (p := p25) (q := q25) (X := (Int ⊕ (Bool × Int))) (S := (Int × Int)) (f := fun (l : T25) s => l25 l.1.2.1 l.1.2.2.2.2.1 l.2.1.1 l.2.1.2.1 l.2.1.2.2.1 l.2.1.2.2.2.1 l.2.1.2.2.2.2.1 l.2.1.2.2.2.2.2.1 s.1 s.2) (hd := fun (l : T25) s => (((), (l.1.2.1, ((), ((), (l.1.2.2.2.2.1, (s.1, (s.2, ((), ())))))))), ((l.2.1.1, (l.2.1.2.1, (l.2.1.2.2.1, (l.2.1.2.2.2.1, (l.2.1.2.2.2.2.1, (l.2.1.2.2.2.2.2.1, ())))))), ()))) (s0 := fun (l : T25) => (l.1.2.2.2.2.2.1, l.1.2.2.2.2.2.2.1)) (ou := ou25)
    (fun l => rfl) (fun l x => by repeat' (first | rfl | (cases x with | inl => rfl | inr x => ?_))) (spS_ok sp1_ok) hf25 h
theorem hk (R : Type) (l : TA) (K : AV U → Hp U → Option R) : funcA E Try.f15 [] R (pA.mkL l.1) (pH.mkH l.2) K = (t l.1.1.1 l.1.1.2.1 l.1.1.2.2.1 l.1.1.2.2.2.1 l.1.1.2.2.2.2.1 l.1.1.2.2.2.2.2.1 l.1.2.1).runK fun y => K (v l y) (hh l y) := by kernel_rfl
theorem okF : SoundF Try.prog cc 15 (funcA E Try.f15 []) :=
  funcA_ok (E := E) P_mixed (E0_ok.with Γ Λ [] D) (gam_of (all_cons ⟨geom_Check.ok, ⟨Try.f54, Try.func54, by kernel_rfl, by kernel_rfl⟩⟩ (all_cons ⟨geom_Sectors.ok, ⟨Try.f56, Try.func56, by kernel_rfl, by kernel_rfl⟩⟩ (all_cons ⟨geom_Where.ok, ⟨Try.f72, Try.func72, by kernel_rfl, by kernel_rfl⟩⟩ (all_cons ⟨geom_Page.ok, ⟨Try.f61, Try.func61, by kernel_rfl, by kernel_rfl⟩⟩ (all_cons ⟨geom_Chunk.ok, ⟨Try.f60, Try.func60, by kernel_rfl, by kernel_rfl⟩⟩ (all_cons ⟨geom_Ledger.ok, ⟨Try.f58, Try.func58, by kernel_rfl, by kernel_rfl⟩⟩ (all_cons ⟨geom_Chunks.ok, ⟨Try.f73, Try.func73, by kernel_rfl, by kernel_rfl⟩⟩ (all_cons ⟨geom_Part.ok, ⟨Try.f74, Try.func74, by kernel_rfl, by kernel_rfl⟩⟩ (all_cons ⟨geom_Long.ok, ⟨Try.f75, Try.func75, by kernel_rfl, by kernel_rfl⟩⟩ (all_cons ⟨law08_awake.ok, ⟨Try.f62, Try.func62, by kernel_rfl, by kernel_rfl⟩⟩ all_nil))))))))))) Try.func15 (c := body) (by kernel_rfl)
    (just_by (by kernel_rfl) (by kernel_rfl) (all_cons lk7 (all_cons lk25 all_nil)) all_nil) []
theorem ok : SoundF Try.prog cc 15 A :=
  mkA_ok (E := E) (p := pA) (q := pH) (t := fun (l : TA) => t l.1.1.1 l.1.1.2.1 l.1.1.2.2.1 l.1.1.2.2.2.1 l.1.1.2.2.2.2.1 l.1.1.2.2.2.2.2.1 l.1.2.1) sp1_ok hk okF
end law08_GeomApart

end Go.Proofs.Ytadhnolgfhgepaa.Va
