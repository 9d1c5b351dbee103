/- The functions of package ref01, as plain functions, and that the program computes them. Printed by a program of this work out of the evaluator. -/
import Derived.Test.YtpidbpmkogbdeaaEn
import Derived.Tactics
namespace Go.Proofs.Ytpidbpmkogbdeaa.Va
open Go
set_option linter.unusedVariables false
set_option maxRecDepth 100000

/-! instar/instarref01.bit -/
namespace ref01_bit
abbrev TA : Type := ((Int × (Int × Unit)) × Unit)
abbrev T2 : Type := ((Int × (Int × (Unit × (Int × (Unit × Unit))))) × Unit)
noncomputable def l2 (i : Int) (x : Int) (k : Int) : Tw ((Int × Int) ⊕ Int) :=
 (.bb (decide (k < i))
  (.ret (.inl ((w32 (Int.tdiv x (2 : Int))), (w64 (k + (1 : Int))))))
  (.ret (.inr x)))
noncomputable def L2 (x : Int) (i : Int) (k : Int) : Option Int := Lp (fun s => (l2 i s.1 s.2).run) (x, k)
def p2 : Pt := (.cs (.int .u32) (.cs (.int .i64) (.cs (.bots 3) (.cs (.int .i64) (.cs (.bots 9) .nl)))))
def q2 : Pt := .nl
def ou2 (l : T2) (y : Int) : Ex × St U := (.exit 0, stOf 15 [(0, .im (.int .u32 y))] [] 0)
noncomputable def Λ2 : LFun U := mkLp (U := U) p2 q2 0 (X := Int) (fun (l : T2) => L2 l.1.1 l.1.2.1 l.1.2.2.2.1) sp1 ou2
noncomputable def t (x : Int) (i : Int) : Tw Int :=
 (.opt (L2 x i (0 : Int)) fun z1 =>
  (.ret (Int.tmod z1 (2 : Int))))
noncomputable def c (x : Int) (i : Int) : Option Int := (t x i).run
def pA : Pt := (.cs (.int .u32) (.cs (.int .i64) .nl))
def pH : Pt := .nl
def v (l : TA) (y : Int) : AV U := .im (.int .u32 y)
def hh (l : TA) (y : Int) : Hp U := []
noncomputable def A : AFun U := mkA (U := U) pA pH (X := Int) (fun (l : TA) => c l.1.1 l.1.2.1) sp1 v hh
noncomputable def body : Code := (Go.Func.body Try.f108).getD .skip
noncomputable def Γ : List (FuncId × AFun U) := []
noncomputable def Λ : List (Nat × LFun U) := [(2, Λ2)]
noncomputable def CT : List (Nat × LFun U) := []
def ro : List FuncId := []
def D : Nat → Lv × Lv := dtab [(2, ⟨[5, 0, 1], []⟩, ⟨[4, 0], []⟩)]
noncomputable def E : Env U := { E0 with Γ := Γ, Λ := Λ, C := CT, D := D, ro := ro }
theorem hf2 (R : Type) (l : T2) (s : (Int × Int)) (K : Ex → St U → Option R) : codeA E (pick (loopsOf body) 2) ⟨p2.mkL (((s.1, (l.1.2.1, ((), (s.2, ((), ()))))), ()) : T2).1, q2.mkH (((s.1, (l.1.2.1, ((), (s.2, ((), ()))))), ()) : T2).2, 0⟩ (roundK E (pick (loopsOf body) 2) K) =
  (l2 l.1.2.1 s.1 s.2).runK (lpK K (fun s => ⟨p2.mkL (((s.1, (l.1.2.1, ((), (s.2, ((), ()))))), ()) : T2).1, q2.mkH (((s.1, (l.1.2.1, ((), (s.2, ((), ()))))), ()) : T2).2, 0⟩) sp1 (ou2 l)) := by kernel_rfl
theorem lk2 (R : Type) (st : St U) (K : Ex → St U → Option R) (r : R) (h : Λ2 R st K = some r) : ∃ n, loopA E (pick (loopsOf body) 2) n st K = some r :=
  lp_ok (U := U) (E := E) (b := pick (loopsOf body) 2) (m := 0) (sp := sp1) (p := p2) (q := q2) (X := Int) (S := (Int × Int)) (f := fun (l : T2) s => l2 l.1.2.1 s.1 s.2) (hd := fun (l : T2) s => ((s.1, (l.1.2.1, ((), (s.2, ((), ()))))), ())) (s0 := fun (l : T2) => (l.1.1, l.1.2.2.2.1)) (ou := ou2)
    (fun l => rfl) (fun l x => by rfl) sp1_ok hf2 h
theorem hk (R : Type) (l : TA) (K : AV U → Hp U → Option R) : funcA E Try.f108 [] R (pA.mkL l.1) (pH.mkH l.2) K = (t l.1.1 l.1.2.1).runK fun y => K (v l y) (hh l y) := by kernel_rfl
theorem okF : SoundF Try.prog cc 108 (funcA E Try.f108 []) :=
  funcA_ok (E := E) P_mixed (E0_ok.with Γ Λ CT D ro) (gam_of all_nil all_nil) Try.func108 (c := body) (by kernel_rfl)
    (just_by (by kernel_rfl) (by kernel_rfl) (all_cons lk2 all_nil) all_nil) []
theorem ok : SoundF Try.prog cc 108 A :=
  mkA_ok (E := E) (p := pA) (q := pH) (t := fun (l : TA) => t l.1.1 l.1.2.1) sp1_ok hk okF
theorem keep : KeepA A := mkA_keep (U := U) sp1_ok (fun (l : TA) y => ⟨(hh l y).drop 0, by kernel_rfl⟩)
end ref01_bit

/-! instar/instarref01.Bits -/
namespace ref01_Bits
abbrev TA : Type := ((Int × (Int × (Int × (Int × Unit)))) × Unit)
abbrev T4 : Type := ((Int × (Int × (Int × (Int × (Unit × (Int × (Int × (Int × (Unit × Unit))))))))) × Unit)
noncomputable def l4 (was : Int) (x : Int) (mask : Int) (kind : Int) (out : Int) (worth : Int) (i : Int) : Tw ((Int × (Int × Int)) ⊕ Int) :=
 (.bb (decide (i < (32 : Int)))
  (.opt (ref01_bit.c was i) fun z1 =>
   (.opt (ref01_bit.c x i) fun z2 =>
    (.opt (ref01_bit.c mask i) fun z3 =>
     (.bb (kind == (0 : Int))
      (.bb (z1 == (1 : Int))
       (.bb (z2 == (0 : Int))
        (.ret (.inl ((w32 (out + worth)), ((w32 (worth * (2 : Int))), (w64 (i + (1 : Int)))))))
        (.ret (.inl (out, ((w32 (worth * (2 : Int))), (w64 (i + (1 : Int))))))))
       (.ret (.inl (out, ((w32 (worth * (2 : Int))), (w64 (i + (1 : Int))))))))
      (.bb (kind == (1 : Int))
       (.bb (z1 == (1 : Int))
        (.bb (z2 == (0 : Int))
         (.bb (!(z3 == (1 : Int)))
          (.ret (.inl ((w32 (out + worth)), ((w32 (worth * (2 : Int))), (w64 (i + (1 : Int)))))))
          (.ret (.inl (out, ((w32 (worth * (2 : Int))), (w64 (i + (1 : Int))))))))
         (.ret (.inl ((w32 (out + worth)), ((w32 (worth * (2 : Int))), (w64 (i + (1 : Int))))))))
        (.ret (.inl (out, ((w32 (worth * (2 : Int))), (w64 (i + (1 : Int))))))))
       (.bb (kind == (2 : Int))
        (.bb (z1 == (1 : Int))
         (.ret (.inl ((w32 (out + worth)), ((w32 (worth * (2 : Int))), (w64 (i + (1 : Int)))))))
         (.bb (z3 == (1 : Int))
          (.ret (.inl ((w32 (out + worth)), ((w32 (worth * (2 : Int))), (w64 (i + (1 : Int)))))))
          (.ret (.inl (out, ((w32 (worth * (2 : Int))), (w64 (i + (1 : Int)))))))))
        (.ret (.inl (out, ((w32 (worth * (2 : Int))), (w64 (i + (1 : Int)))))))))))))
  (.ret (.inr out)))
noncomputable def L4 (was : Int) (x : Int) (mask : Int) (kind : Int) (out : Int) (worth : Int) (i : Int) : Option Int := Lp (fun s => (l4 was x mask kind s.1 s.2.1 s.2.2).run) (out, (worth, i))
def p4 : Pt := (.cs (.int .u32) (.cs (.int .u32) (.cs (.int .u32) (.cs (.int .i64) (.cs (.bots 5) (.cs (.int .u32) (.cs (.int .u32) (.cs (.int .i64) (.cs (.bots 54) .nl)))))))))
def q4 : Pt := .nl
def ou4 (l : T4) (y : Int) : Ex × St U := (.exit 0, stOf 66 [(9, .im (.int .u32 y))] [] 0)
noncomputable def Λ4 : LFun U := mkLp (U := U) p4 q4 0 (X := Int) (fun (l : T4) => L4 l.1.1 l.1.2.1 l.1.2.2.1 l.1.2.2.2.1 l.1.2.2.2.2.2.1 l.1.2.2.2.2.2.2.1 l.1.2.2.2.2.2.2.2.1) sp1 ou4
noncomputable def t (was : Int) (x : Int) (mask : Int) (kind : Int) : Tw Int :=
 (.opt (L4 was x mask kind (0 : Int) (1 : Int) (0 : Int)) fun z4 =>
  (.ret z4))
noncomputable def c (was : Int) (x : Int) (mask : Int) (kind : Int) : Option Int := (t was x mask kind).run
def pA : Pt := (.cs (.int .u32) (.cs (.int .u32) (.cs (.int .u32) (.cs (.int .i64) .nl))))
def pH : Pt := .nl
def v (l : TA) (y : Int) : AV U := .im (.int .u32 y)
def hh (l : TA) (y : Int) : Hp U := []
noncomputable def A : AFun U := mkA (U := U) pA pH (X := Int) (fun (l : TA) => c l.1.1 l.1.2.1 l.1.2.2.1 l.1.2.2.2.1) sp1 v hh
noncomputable def body : Code := (Go.Func.body Try.f37).getD .skip
noncomputable def Γ : List (FuncId × AFun U) := [(108, ref01_bit.A)]
noncomputable def Λ : List (Nat × LFun U) := [(4, Λ4)]
noncomputable def CT : List (Nat × LFun U) := []
def ro : List FuncId := []
def D : Nat → Lv × Lv := dtab [(4, ⟨[11, 10, 9, 3, 2, 1, 0], []⟩, ⟨[8, 9], []⟩)]
noncomputable def E : Env U := { E0 with Γ := Γ, Λ := Λ, C := CT, D := D, ro := ro }
theorem hf4 (R : Type) (l : T4) (s : (Int × (Int × Int))) (K : Ex → St U → Option R) : codeA E (pick (loopsOf body) 4) ⟨p4.mkL (((l.1.1, (l.1.2.1, (l.1.2.2.1, (l.1.2.2.2.1, ((), (s.1, (s.2.1, (s.2.2, ((), ()))))))))), ()) : T4).1, q4.mkH (((l.1.1, (l.1.2.1, (l.1.2.2.1, (l.1.2.2.2.1, ((), (s.1, (s.2.1, (s.2.2, ((), ()))))))))), ()) : T4).2, 0⟩ (roundK E (pick (loopsOf body) 4) K) =
  (l4 l.1.1 l.1.2.1 l.1.2.2.1 l.1.2.2.2.1 s.1 s.2.1 s.2.2).runK (lpK K (fun s => ⟨p4.mkL (((l.1.1, (l.1.2.1, (l.1.2.2.1, (l.1.2.2.2.1, ((), (s.1, (s.2.1, (s.2.2, ((), ()))))))))), ()) : T4).1, q4.mkH (((l.1.1, (l.1.2.1, (l.1.2.2.1, (l.1.2.2.2.1, ((), (s.1, (s.2.1, (s.2.2, ((), ()))))))))), ()) : T4).2, 0⟩) sp1 (ou4 l)) := by kernel_rfl
theorem lk4 (R : Type) (st : St U) (K : Ex → St U → Option R) (r : R) (h : Λ4 R st K = some r) : ∃ n, loopA E (pick (loopsOf body) 4) n st K = some r :=
  lp_ok (U := U) (E := E) (b := pick (loopsOf body) 4) (m := 0) (sp := sp1) (p := p4) (q := q4) (X := Int) (S := (Int × (Int × Int))) (f := fun (l : T4) s => l4 l.1.1 l.1.2.1 l.1.2.2.1 l.1.2.2.2.1 s.1 s.2.1 s.2.2) (hd := fun (l : T4) s => ((l.1.1, (l.1.2.1, (l.1.2.2.1, (l.1.2.2.2.1, ((), (s.1, (s.2.1, (s.2.2, ((), ()))))))))), ())) (s0 := fun (l : T4) => (l.1.2.2.2.2.2.1, (l.1.2.2.2.2.2.2.1, l.1.2.2.2.2.2.2.2.1))) (ou := ou4)
    (fun l => rfl) (fun l x => by rfl) sp1_ok hf4 h
theorem hk (R : Type) (l : TA) (K : AV U → Hp U → Option R) : funcA E Try.f37 [] R (pA.mkL l.1) (pH.mkH l.2) K = (t l.1.1 l.1.2.1 l.1.2.2.1 l.1.2.2.2.1).runK fun y => K (v l y) (hh l y) := by kernel_rfl
theorem okF : SoundF Try.prog cc 37 (funcA E Try.f37 []) :=
  funcA_ok (E := E) P_mixed (E0_ok.with Γ Λ CT D ro) (gam_of (all_cons ⟨ref01_bit.ok, ⟨Try.f108, Try.func108, by kernel_rfl, by kernel_rfl⟩⟩ all_nil) (all_cons (no_keep (by kernel_rfl)) all_nil)) Try.func37 (c := body) (by kernel_rfl)
    (just_by (by kernel_rfl) (by kernel_rfl) (all_cons lk4 all_nil) all_nil) []
theorem ok : SoundF Try.prog cc 37 A :=
  mkA_ok (E := E) (p := pA) (q := pH) (t := fun (l : TA) => t l.1.1 l.1.2.1 l.1.2.2.1 l.1.2.2.2.1) sp1_ok hk okF
theorem keep : KeepA A := mkA_keep (U := U) sp1_ok (fun (l : TA) y => ⟨(hh l y).drop 0, by kernel_rfl⟩)
end ref01_Bits

end Go.Proofs.Ytpidbpmkogbdeaa.Va
