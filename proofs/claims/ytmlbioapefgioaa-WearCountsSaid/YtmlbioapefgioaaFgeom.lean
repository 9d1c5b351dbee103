/- The functions of package geom, as plain functions, and that the program computes them. Printed by a program of this work out of the evaluator. -/
import Derived.Test.YtmlbioapefgioaaEn
import Derived.Tactics
namespace Go.Proofs.Ytmlbioapefgioaa.Va
open Go
set_option linter.unusedVariables false
set_option maxRecDepth 100000

/-! instar/geom.Check -/
namespace geom_Check
abbrev TA : Type := (((Int × (Int × (Int × (Int × (Int × (Int × Unit)))))) × Unit) × Unit)
abbrev T2 : Type := ((Unit × (Unit × (Int × (Int × (Unit × Unit))))) × ((List (Int × Int × Int)) × Unit))
abbrev X2 : Type := (Unit ⊕ Int)
noncomputable def l2 (k31 : Int) (h0 : (List (Int × Int × Int))) (k32 : Int) : Tw (Int ⊕ X2) :=
 (.bb (decide (k32 < k31))
  (.dd ((((0 : Int) ≤ k32) ∧ (k32 < (((List.length h0) : Nat) : Int)))) inferInstance
   (.opt (h0)[(Int.toNat k32)]? fun z1 =>
    (.bb (decide (z1.1 < z1.2.1))
     (.ret (.inr (.inr (2 : Int))))
     (.bb (decide (z1.1 > z1.2.2))
      (.ret (.inr (.inr (2 : Int))))
      (.ret (.inl (w64 (k32 + (1 : Int))))))))
   .no)
  (.ret (.inr (.inl ()))))
noncomputable def L2 (k31 k32 : Int) (h0 : (List (Int × Int × Int))) : Option X2 := Lp (fun s => (l2 k31 h0 s).run) k32
def p2 : Pt := (.cs (.bots 30) (.cs (.own 0) (jC (jC (.cs (.bots 16) .nl)))))
def q2 : Pt := (.cs (.row 14 true) .nl)
def ou2 (l : T2) (y : X2) : Ex × St U := (Sum.elim (fun a0 => (.exit 0, stOf 49 [] [] 0)) (fun b0 => (.ret, stOf 49 [(2, jI b0)] [] 0)) y)
noncomputable def Λ2 : LFun U := mkLp (U := U) p2 q2 0 (X := X2) (fun (l : T2) => L2 l.1.2.2.1 l.1.2.2.2.1 l.2.1) (spS sp1) ou2
def hd2 (l : T2) (s : Int) : T2 := (((), ((), (l.1.2.2.1, (s, ((), ()))))), (l.2.1, ()))
noncomputable def fl2 (l : T2) (s : Int) : Tw (Int ⊕ X2) := l2 l.1.2.2.1 l.2.1 s
noncomputable def t (g_0 g_1 g_2 g_3 g_4 g_5 : Int) : Tw Int :=
 (.opt (L2 (((List.length ((Prod.mk g_0 (Prod.mk (64 : Int) (1024 : Int))) :: ((Prod.mk g_1 (Prod.mk (2 : Int) (32 : Int))) :: ((Prod.mk g_3 (Prod.mk (2 : Int) (w64 (g_0 - (8 : Int))))) :: ((Prod.mk g_2 (Prod.mk (w64 ((3 : Int) + (imin g_3 (128 : Int)))) (128 : Int))) :: ((Prod.mk g_4 (Prod.mk (1 : Int) (9 : Int))) :: ((Prod.mk g_5 (Prod.mk (1 : Int) (1073741823 : Int))) :: ([] : List (Int × Int × Int))))))))) : Nat) : Int) (0 : Int) ((Prod.mk g_0 (Prod.mk (64 : Int) (1024 : Int))) :: ((Prod.mk g_1 (Prod.mk (2 : Int) (32 : Int))) :: ((Prod.mk g_3 (Prod.mk (2 : Int) (w64 (g_0 - (8 : Int))))) :: ((Prod.mk g_2 (Prod.mk (w64 ((3 : Int) + (imin g_3 (128 : Int)))) (128 : Int))) :: ((Prod.mk g_4 (Prod.mk (1 : Int) (9 : Int))) :: ((Prod.mk g_5 (Prod.mk (1 : Int) (1073741823 : Int))) :: ([] : List (Int × Int × Int))))))))) fun z2 =>
  (.sm z2
   (fun z3 => (.ret (0 : Int)))
   (fun z4 => (.ret z4))))
noncomputable def c (g_0 g_1 g_2 g_3 g_4 g_5 : Int) : Option Int := (t g_0 g_1 g_2 g_3 g_4 g_5).run
noncomputable def tl (l : TA) : Tw Int := t l.1.1.1 l.1.1.2.1 l.1.1.2.2.1 l.1.1.2.2.2.1 l.1.1.2.2.2.2.1 l.1.1.2.2.2.2.2.1
noncomputable def cl (l : TA) : Option Int := c l.1.1.1 l.1.1.2.1 l.1.1.2.2.1 l.1.1.2.2.2.1 l.1.1.2.2.2.2.1 l.1.1.2.2.2.2.2.1
def pA : Pt := (.cs (.agg (jC (jC (jC (jC (jC (jC .nl))))))) .nl)
def pH : Pt := .nl
def v (l : TA) (y : Int) : AV U := jI y
def hh (l : TA) (y : Int) : Hp U := []
noncomputable def A : AFun U := mkA (U := U) pA pH (X := Int) cl sp1 v hh
noncomputable def body : Code := (Go.Func.body Try.f79).getD .skip
noncomputable def Γ : List (FuncId × AFun U) := []
noncomputable def Λ : List (Nat × LFun U) := [(2, Λ2)]
noncomputable def CT : List (Nat × LFun U) := []
def ro : List FuncId := []
def D : Nat → Lv × Lv := dtab [(2, ⟨[32, 30, 31], []⟩, ⟨[2], []⟩)]
noncomputable def E : Env U := { E0 with Γ := Γ, Λ := Λ, C := CT, D := D, ro := ro }
theorem hf2 (R : Type) (l : T2) (s : Int) (K : Ex → St U → Option R) : codeA E (pick (loopsOf body) 2) ⟨p2.mkL (hd2 l s).1, q2.mkH (hd2 l s).2, 0⟩ (roundK E (pick (loopsOf body) 2) K) =
  (fl2 l s).runK (lpK K (fun s => ⟨p2.mkL (hd2 l s).1, q2.mkH (hd2 l s).2, 0⟩) (spS sp1) (ou2 l)) := by kernel_rfl
theorem lk2 (R : Type) (st : St U) (K : Ex → St U → Option R) (r : R) (h : Λ2 R st K = some r) : ∃ n, loopA E (pick (loopsOf body) 2) n st K = some r :=
  lp_ok (U := U) (E := E) (b := pick (loopsOf body) 2) (m := 0) (sp := (spS sp1)) (p := p2) (q := q2) (X := X2) (S := Int) (f := fl2) (hd := hd2) (s0 := fun (l : T2) => l.1.2.2.2.1) (ou := ou2)
    (fun l => rfl) (fun l x => by repeat' (first | rfl | (cases x with | inl => rfl | inr x => ?_))) (spS_ok sp1_ok) hf2 h
theorem hk (R : Type) (l : TA) (K : AV U → Hp U → Option R) : funcA E Try.f79 [] R (pA.mkL l.1) (pH.mkH l.2) K = (tl l).runK fun y => K (v l y) (hh l y) := by kernel_rfl
theorem okF : SoundF Try.prog cc 79 (funcA E Try.f79 []) :=
  funcA_ok (E := E) P_mixed (E0_ok.with Γ Λ CT D ro) (gam_of all_nil all_nil) Try.func79 (c := body) (by kernel_rfl)
    (just_by (by kernel_rfl) (by kernel_rfl) (all_cons lk2 all_nil) all_nil) []
theorem ok : SoundF Try.prog cc 79 A :=
  mkA_ok (E := E) (p := pA) (q := pH) (t := tl) sp1_ok hk okF
theorem fo : FnOK Try.prog 79 := ⟨Try.f79, Try.func79, by kernel_rfl, by kernel_rfl⟩
theorem keep : KeepA A := mkA_keep (U := U) sp1_ok (fun (l : TA) y => ⟨(hh l y).drop 0, by kernel_rfl⟩)
end geom_Check

/-! instar/geom.fine -/
namespace geom_fine
abbrev TA : Type := (((Int × (Int × (Int × (Int × (Int × (Int × Unit)))))) × (Int × (Int × Unit))) × Unit)
noncomputable def t (g_0 g_1 g_2 g_3 g_4 g_5 i n : Int) : Tw Bool :=
 (.opt (geom_Check.c g_0 g_1 g_2 g_3 g_4 g_5) fun z1 =>
  (.bb (z1 == (0 : Int))
   (.bb (decide (i ≥ (0 : Int)))
    (.ret (decide (i < n)))
    (.ret false))
   (.ret false)))
noncomputable def c (g_0 g_1 g_2 g_3 g_4 g_5 i n : Int) : Option Bool := (t g_0 g_1 g_2 g_3 g_4 g_5 i n).run
noncomputable def tl (l : TA) : Tw Bool := t l.1.1.1 l.1.1.2.1 l.1.1.2.2.1 l.1.1.2.2.2.1 l.1.1.2.2.2.2.1 l.1.1.2.2.2.2.2.1 l.1.2.1 l.1.2.2.1
noncomputable def cl (l : TA) : Option Bool := c l.1.1.1 l.1.1.2.1 l.1.1.2.2.1 l.1.1.2.2.2.1 l.1.1.2.2.2.2.1 l.1.1.2.2.2.2.2.1 l.1.2.1 l.1.2.2.1
def pA : Pt := (.cs (.agg (jC (jC (jC (jC (jC (jC .nl))))))) (jC (jC .nl)))
def pH : Pt := .nl
def v (l : TA) (y : Bool) : AV U := jB y
def hh (l : TA) (y : Bool) : Hp U := []
noncomputable def A : AFun U := mkA (U := U) pA pH (X := Bool) cl sp1 v hh
noncomputable def body : Code := (Go.Func.body Try.f104).getD .skip
noncomputable def Γ : List (FuncId × AFun U) := [(79, geom_Check.A)]
noncomputable def Λ : List (Nat × LFun U) := []
noncomputable def CT : List (Nat × LFun U) := []
def ro : List FuncId := []
def D : Nat → Lv × Lv := dtab []
noncomputable def E : Env U := { E0 with Γ := Γ, Λ := Λ, C := CT, D := D, ro := ro }
theorem hk (R : Type) (l : TA) (K : AV U → Hp U → Option R) : funcA E Try.f104 [] R (pA.mkL l.1) (pH.mkH l.2) K = (tl l).runK fun y => K (v l y) (hh l y) := by kernel_rfl
theorem okF : SoundF Try.prog cc 104 (funcA E Try.f104 []) :=
  funcA_ok (E := E) P_mixed (E0_ok.with Γ Λ CT D ro) (gam_of (all_cons ⟨geom_Check.ok, geom_Check.fo⟩ all_nil) no_ro) Try.func104 (c := body) (by kernel_rfl)
    (just_by (by kernel_rfl) (by kernel_rfl) all_nil all_nil) []
theorem ok : SoundF Try.prog cc 104 A :=
  mkA_ok (E := E) (p := pA) (q := pH) (t := tl) sp1_ok hk okF
theorem fo : FnOK Try.prog 104 := ⟨Try.f104, Try.func104, by kernel_rfl, by kernel_rfl⟩
theorem keep : KeepA A := mkA_keep (U := U) sp1_ok (fun (l : TA) y => ⟨(hh l y).drop 0, by kernel_rfl⟩)
end geom_fine

/-! instar/geom.Sectors -/
namespace geom_Sectors
abbrev TA : Type := (((Int × (Int × (Int × (Int × (Int × (Int × Unit)))))) × Unit) × Unit)
noncomputable def t (g_0 g_1 g_2 g_3 g_4 g_5 : Int) : Tw Int :=
 (.opt (geom_fine.c g_0 g_1 g_2 g_3 g_4 g_5 (0 : Int) (1 : Int)) fun z1 =>
  (.bb (!z1)
   (.ret (0 : Int))
   (.ret (w64 ((w64 ((2 : Int) + (w64 ((2 : Int) * g_1)))) + g_2)))))
noncomputable def c (g_0 g_1 g_2 g_3 g_4 g_5 : Int) : Option Int := (t g_0 g_1 g_2 g_3 g_4 g_5).run
noncomputable def tl (l : TA) : Tw Int := t l.1.1.1 l.1.1.2.1 l.1.1.2.2.1 l.1.1.2.2.2.1 l.1.1.2.2.2.2.1 l.1.1.2.2.2.2.2.1
noncomputable def cl (l : TA) : Option Int := c l.1.1.1 l.1.1.2.1 l.1.1.2.2.1 l.1.1.2.2.2.1 l.1.1.2.2.2.2.1 l.1.1.2.2.2.2.2.1
def pA : Pt := (.cs (.agg (jC (jC (jC (jC (jC (jC .nl))))))) .nl)
def pH : Pt := .nl
def v (l : TA) (y : Int) : AV U := jI y
def hh (l : TA) (y : Int) : Hp U := []
noncomputable def A : AFun U := mkA (U := U) pA pH (X := Int) cl sp1 v hh
noncomputable def body : Code := (Go.Func.body Try.f70).getD .skip
noncomputable def Γ : List (FuncId × AFun U) := [(104, geom_fine.A)]
noncomputable def Λ : List (Nat × LFun U) := []
noncomputable def CT : List (Nat × LFun U) := []
def ro : List FuncId := []
def D : Nat → Lv × Lv := dtab []
noncomputable def E : Env U := { E0 with Γ := Γ, Λ := Λ, C := CT, D := D, ro := ro }
theorem hk (R : Type) (l : TA) (K : AV U → Hp U → Option R) : funcA E Try.f70 [] R (pA.mkL l.1) (pH.mkH l.2) K = (tl l).runK fun y => K (v l y) (hh l y) := by kernel_rfl
theorem okF : SoundF Try.prog cc 70 (funcA E Try.f70 []) :=
  funcA_ok (E := E) P_mixed (E0_ok.with Γ Λ CT D ro) (gam_of (all_cons ⟨geom_fine.ok, geom_fine.fo⟩ all_nil) no_ro) Try.func70 (c := body) (by kernel_rfl)
    (just_by (by kernel_rfl) (by kernel_rfl) all_nil all_nil) []
theorem ok : SoundF Try.prog cc 70 A :=
  mkA_ok (E := E) (p := pA) (q := pH) (t := tl) sp1_ok hk okF
theorem fo : FnOK Try.prog 70 := ⟨Try.f70, Try.func70, by kernel_rfl, by kernel_rfl⟩
theorem keep : KeepA A := mkA_keep (U := U) sp1_ok (fun (l : TA) y => ⟨(hh l y).drop 0, by kernel_rfl⟩)
end geom_Sectors

/-! instar/geom.Where -/
namespace geom_Where
abbrev TA : Type := (((Int × (Int × (Int × (Int × (Int × (Int × Unit)))))) × (Int × Unit)) × Unit)
abbrev XA : Type := (Int × (Int × Int))
noncomputable def t (g_0 g_1 g_2 g_3 g_4 g_5 sector : Int) : Tw XA :=
 (.opt (geom_Sectors.c g_0 g_1 g_2 g_3 g_4 g_5) fun z1 =>
  (.opt (geom_fine.c g_0 g_1 g_2 g_3 g_4 g_5 sector z1) fun z2 =>
   (.bb (!z2)
    (.ret ((-(1 : Int)), ((0 : Int), (0 : Int))))
    (.bb (decide ((w64 (sector - (2 : Int))) < (0 : Int)))
     (.ret ((0 : Int), ((0 : Int), sector)))
     (.bb (decide ((w64 (sector - (2 : Int))) ≥ (w64 ((2 : Int) * g_1))))
      (.ret ((3 : Int), ((0 : Int), (w64 ((w64 (sector - (2 : Int))) - (w64 ((2 : Int) * g_1)))))))
      (.dd ((g_1 = (0 : Int))) inferInstance
       .no
       (.bb ((Int.tmod (w64 (sector - (2 : Int))) g_1) == (0 : Int))
        (.dd ((g_1 = (0 : Int))) inferInstance
         .no
         (.ret ((1 : Int), ((w64 (Int.tdiv (w64 (sector - (2 : Int))) g_1)), (0 : Int)))))
        (.dd ((g_1 = (0 : Int))) inferInstance
         .no
         (.dd ((g_1 = (0 : Int))) inferInstance
          .no
          (.ret ((2 : Int), ((w64 (Int.tdiv (w64 (sector - (2 : Int))) g_1)), (w64 ((Int.tmod (w64 (sector - (2 : Int))) g_1) - (1 : Int)))))))))))))))
noncomputable def c (g_0 g_1 g_2 g_3 g_4 g_5 sector : Int) : Option XA := (t g_0 g_1 g_2 g_3 g_4 g_5 sector).run
noncomputable def tl (l : TA) : Tw XA := t l.1.1.1 l.1.1.2.1 l.1.1.2.2.1 l.1.1.2.2.2.1 l.1.1.2.2.2.2.1 l.1.1.2.2.2.2.2.1 l.1.2.1
noncomputable def cl (l : TA) : Option XA := c l.1.1.1 l.1.1.2.1 l.1.1.2.2.1 l.1.1.2.2.2.1 l.1.1.2.2.2.2.1 l.1.1.2.2.2.2.2.1 l.1.2.1
def pA : Pt := (.cs (.agg (jC (jC (jC (jC (jC (jC .nl))))))) (jC .nl))
def pH : Pt := .nl
def v (l : TA) (y : XA) : AV U := .tup [jI y.1, jI y.2.1, jI y.2.2]
def hh (l : TA) (y : XA) : Hp U := []
noncomputable def A : AFun U := mkA (U := U) pA pH (X := XA) cl sp1 v hh
noncomputable def body : Code := (Go.Func.body Try.f71).getD .skip
noncomputable def Γ : List (FuncId × AFun U) := [(70, geom_Sectors.A), (104, geom_fine.A)]
noncomputable def Λ : List (Nat × LFun U) := []
noncomputable def CT : List (Nat × LFun U) := []
def ro : List FuncId := []
def D : Nat → Lv × Lv := dtab []
noncomputable def E : Env U := { E0 with Γ := Γ, Λ := Λ, C := CT, D := D, ro := ro }
theorem hk (R : Type) (l : TA) (K : AV U → Hp U → Option R) : funcA E Try.f71 [] R (pA.mkL l.1) (pH.mkH l.2) K = (tl l).runK fun y => K (v l y) (hh l y) := by kernel_rfl
theorem okF : SoundF Try.prog cc 71 (funcA E Try.f71 []) :=
  funcA_ok (E := E) P_mixed (E0_ok.with Γ Λ CT D ro) (gam_of (all_cons ⟨geom_Sectors.ok, geom_Sectors.fo⟩ (all_cons ⟨geom_fine.ok, geom_fine.fo⟩ all_nil)) no_ro) Try.func71 (c := body) (by kernel_rfl)
    (just_by (by kernel_rfl) (by kernel_rfl) all_nil all_nil) []
theorem ok : SoundF Try.prog cc 71 A :=
  mkA_ok (E := E) (p := pA) (q := pH) (t := tl) sp1_ok hk okF
theorem fo : FnOK Try.prog 71 := ⟨Try.f71, Try.func71, by kernel_rfl, by kernel_rfl⟩
theorem keep : KeepA A := mkA_keep (U := U) sp1_ok (fun (l : TA) y => ⟨(hh l y).drop 0, by kernel_rfl⟩)
end geom_Where

end Go.Proofs.Ytmlbioapefgioaa.Va
