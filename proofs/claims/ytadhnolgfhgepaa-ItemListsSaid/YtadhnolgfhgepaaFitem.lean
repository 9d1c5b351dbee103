/- The functions of package item, as plain functions, and that the program computes them. Printed by a program of this work out of the evaluator. -/
import Derived.Test.YtadhnolgfhgepaaEn
import Derived.Tactics
import Derived.Test.YtadhnolgfhgepaaFslices
namespace Go.Proofs.Ytadhnolgfhgepaa.Va
open Go
set_option linter.unusedVariables false
set_option maxRecDepth 100000

/-! instar/item.Main -/
namespace item_Main
abbrev TA : Type := ((Int × (Int × Unit)) × Unit)
noncomputable def t (form : Int) (id : Int) : Tw (Int × Int) :=
 (.bb (decide (form < (0 : Int)))
  (.ret ((0 : Int), (2 : Int)))
  (.bb (decide (form > (200 : Int)))
   (.ret ((0 : Int), (2 : Int)))
   (.bb (decide (id < (0 : Int)))
    (.ret ((0 : Int), (2 : Int)))
    (.bb (decide (id > (65535 : Int)))
     (.ret ((0 : Int), (2 : Int)))
     (.ret ((bOr .u32 (bShl .u32 (w32 form) (16 : Int)) (w32 id)), (0 : Int)))))))
noncomputable def c (form : Int) (id : Int) : Option (Int × Int) := (t form id).run
def pA : Pt := (.cs (.int .i64) (.cs (.int .i64) .nl))
def pH : Pt := .nl
def v (l : TA) (y : (Int × Int)) : AV U := .tup [.im (.int .u32 y.1), .im (.int .i64 y.2)]
def hh (l : TA) (y : (Int × Int)) : Hp U := []
noncomputable def A : AFun U := mkA (U := U) pA pH (X := (Int × Int)) (fun (l : TA) => c l.1.1 l.1.2.1) sp1 v hh
noncomputable def body : Code := (Go.Func.body Try.f35).getD .skip
noncomputable def Γ : List (FuncId × AFun U) := []
noncomputable def Λ : List (Nat × LFun U) := []
def D : Nat → Lv × Lv := dtab []
noncomputable def E : Env U := { E0 with Γ := Γ, Λ := Λ, C := [], D := D }
theorem hk (R : Type) (l : TA) (K : AV U → Hp U → Option R) : funcA E Try.f35 [] R (pA.mkL l.1) (pH.mkH l.2) K = (t l.1.1 l.1.2.1).runK fun y => K (v l y) (hh l y) := by kernel_rfl
theorem okF : SoundF Try.prog cc 35 (funcA E Try.f35 []) :=
  funcA_ok (E := E) P_mixed (E0_ok.with Γ Λ [] D) (gam_of all_nil) Try.func35 (c := body) (by kernel_rfl)
    (just_by (by kernel_rfl) (by kernel_rfl) all_nil all_nil) []
theorem ok : SoundF Try.prog cc 35 A :=
  mkA_ok (E := E) (p := pA) (q := pH) (t := fun (l : TA) => t l.1.1 l.1.2.1) sp1_ok hk okF
end item_Main

/-! instar/item.Side -/
namespace item_Side
abbrev TA : Type := ((Int × (Int × (Int × Unit))) × Unit)
noncomputable def t (n : Int) (form : Int) (id : Int) : Tw (Int × Int) :=
 (.opt (item_Main.c form id) fun z1 =>
  (.bb (z1.2 != (0 : Int))
   (.ret ((0 : Int), (2 : Int)))
   (.bb (decide (n < (0 : Int)))
    (.ret ((0 : Int), (2 : Int)))
    (.bb (decide (n ≥ (200 : Int)))
     (.ret ((0 : Int), (2 : Int)))
     (.ret ((bOr .u32 (bShl .u32 (w32 (w64 (n + (1 : Int)))) (24 : Int)) z1.1), (0 : Int)))))))
noncomputable def c (n : Int) (form : Int) (id : Int) : Option (Int × Int) := (t n form id).run
def pA : Pt := (.cs (.int .i64) (.cs (.int .i64) (.cs (.int .i64) .nl)))
def pH : Pt := .nl
def v (l : TA) (y : (Int × Int)) : AV U := .tup [.im (.int .u32 y.1), .im (.int .i64 y.2)]
def hh (l : TA) (y : (Int × Int)) : Hp U := []
noncomputable def A : AFun U := mkA (U := U) pA pH (X := (Int × Int)) (fun (l : TA) => c l.1.1 l.1.2.1 l.1.2.2.1) sp1 v hh
noncomputable def body : Code := (Go.Func.body Try.f36).getD .skip
noncomputable def Γ : List (FuncId × AFun U) := [(35, item_Main.A)]
noncomputable def Λ : List (Nat × LFun U) := []
def D : Nat → Lv × Lv := dtab []
noncomputable def E : Env U := { E0 with Γ := Γ, Λ := Λ, C := [], D := D }
theorem hk (R : Type) (l : TA) (K : AV U → Hp U → Option R) : funcA E Try.f36 [] R (pA.mkL l.1) (pH.mkH l.2) K = (t l.1.1 l.1.2.1 l.1.2.2.1).runK fun y => K (v l y) (hh l y) := by kernel_rfl
theorem okF : SoundF Try.prog cc 36 (funcA E Try.f36 []) :=
  funcA_ok (E := E) P_mixed (E0_ok.with Γ Λ [] D) (gam_of (all_cons ⟨item_Main.ok, ⟨Try.f35, Try.func35, by kernel_rfl, by kernel_rfl⟩⟩ all_nil)) Try.func36 (c := body) (by kernel_rfl)
    (just_by (by kernel_rfl) (by kernel_rfl) all_nil all_nil) []
theorem ok : SoundF Try.prog cc 36 A :=
  mkA_ok (E := E) (p := pA) (q := pH) (t := fun (l : TA) => t l.1.1 l.1.2.1 l.1.2.2.1) sp1_ok hk okF
end item_Side

/-! instar/item.Told -/
namespace item_Told
abbrev TA : Type := ((Int × Unit) × Unit)
noncomputable def t (k : Int) : Tw (Int × (Int × Int)) :=
 (.ret ((w64 ((w64 (bShr .u32 k (24 : Int))) - (1 : Int))), ((w64 (bAnd .u32 (bShr .u32 k (16 : Int)) (255 : Int))), (w64 (bAnd .u32 k (65535 : Int))))))
noncomputable def c (k : Int) : Option (Int × (Int × Int)) := (t k).run
def pA : Pt := (.cs (.int .u32) .nl)
def pH : Pt := .nl
def v (l : TA) (y : (Int × (Int × Int))) : AV U := .tup [.im (.int .i64 y.1), .im (.int .i64 y.2.1), .im (.int .i64 y.2.2)]
def hh (l : TA) (y : (Int × (Int × Int))) : Hp U := []
noncomputable def A : AFun U := mkA (U := U) pA pH (X := (Int × (Int × Int))) (fun (l : TA) => c l.1.1) sp1 v hh
noncomputable def body : Code := (Go.Func.body Try.f37).getD .skip
noncomputable def Γ : List (FuncId × AFun U) := []
noncomputable def Λ : List (Nat × LFun U) := []
def D : Nat → Lv × Lv := dtab []
noncomputable def E : Env U := { E0 with Γ := Γ, Λ := Λ, C := [], D := D }
theorem hk (R : Type) (l : TA) (K : AV U → Hp U → Option R) : funcA E Try.f37 [] R (pA.mkL l.1) (pH.mkH l.2) K = (t l.1.1).runK fun y => K (v l y) (hh l y) := by kernel_rfl
theorem okF : SoundF Try.prog cc 37 (funcA E Try.f37 []) :=
  funcA_ok (E := E) P_mixed (E0_ok.with Γ Λ [] D) (gam_of all_nil) Try.func37 (c := body) (by kernel_rfl)
    (just_by (by kernel_rfl) (by kernel_rfl) all_nil all_nil) []
theorem ok : SoundF Try.prog cc 37 A :=
  mkA_ok (E := E) (p := pA) (q := pH) (t := fun (l : TA) => t l.1.1) sp1_ok hk okF
end item_Told

/-! instar/item.some -/
namespace item_some_of_item_Put_1_none0
abbrev TA : Type := ((Unit × ((Unit × Unit) × Unit)) × ((Int × (ByteArray × Unit)) × Unit))
abbrev T3 : Type := ((Unit × ((Unit × Unit) × (Unit × (Unit × (Unit × (Unit × (Int × (Int × (Unit × Unit))))))))) × ((Int × (ByteArray × Unit)) × Unit))
noncomputable def l3 (k9 : Int) (k10 : Int) (h0_0 : Int) (h0_1 : ByteArray) : Tw (Unit ⊕ Unit) :=
 (.bb (decide (k10 < k9))
  .no
  (.ret (.inr ())))
noncomputable def L3 (k9 : Int) (k10 : Int) (h0_0 : Int) (h0_1 : ByteArray) : Option Unit := Lp (fun s => (l3 k9 k10 h0_0 h0_1).run) ()
def p3 : Pt := (.cs (.bots 1) (.cs (.clo 80 (.cs (.ptr 0 0) .nl)) (.cs (.bots 3) (.cs .nils (.cs (.bots 2) (.cs .nils (.cs (.int .i64) (.cs (.int .i64) (.cs (.bots 13) .nl)))))))))
def q3 : Pt := (.cs (.var (.cs (.int .u32) (.cs .str .nl))) .nl)
def ou3 (l : T3) (y : Unit) : Ex × St U := (.exit 0, stOf 24 [(5, .im .nils)] [.var [.im (.int .u32 l.2.1.1), .im (.str l.2.1.2.1)]] 1)
noncomputable def Λ3 : LFun U := mkLp (U := U) p3 q3 1 (X := Unit) (fun (l : T3) => L3 l.1.2.2.2.2.2.2.1 l.1.2.2.2.2.2.2.2.1 l.2.1.1 l.2.1.2.1) sp1 ou3
noncomputable def t (h0_0 : Int) (h0_1 : ByteArray) : Tw Unit :=
 (.opt (L3 (0 : Int) (0 : Int) h0_0 h0_1) fun z1 =>
  (.ret ()))
noncomputable def c (h0_0 : Int) (h0_1 : ByteArray) : Option Unit := (t h0_0 h0_1).run
def pA : Pt := (.cs .nils (.cs (.clo 80 (.cs (.ptr 0 0) .nl)) .nl))
def pH : Pt := (.cs (.var (.cs (.int .u32) (.cs .str .nl))) .nl)
def v (l : TA) (y : Unit) : AV U := .im .nils
def hh (l : TA) (y : Unit) : Hp U := [.var [.im (.int .u32 l.2.1.1), .im (.str l.2.1.2.1)]]
noncomputable def A : AFun U := mkA (U := U) pA pH (X := Unit) (fun (l : TA) => c l.2.1.1 l.2.1.2.1) sp1 v hh
noncomputable def body : Code := (Go.Func.body Try.f79).getD .skip
noncomputable def Γ : List (FuncId × AFun U) := []
noncomputable def Λ : List (Nat × LFun U) := [(3, Λ3)]
def D : Nat → Lv × Lv := dtab [(3, ⟨[10, 5, 1, 8, 9], []⟩, ⟨[4, 5], []⟩)]
noncomputable def E : Env U := { E0 with Γ := Γ, Λ := Λ, C := [], D := D }
theorem hf3 (R : Type) (l : T3) (s : Unit) (K : Ex → St U → Option R) : codeA E (pick (loopsOf body) 3) ⟨p3.mkL ((((), (((), ()), ((), ((), ((), ((), (l.1.2.2.2.2.2.2.1, (l.1.2.2.2.2.2.2.2.1, ((), ()))))))))), ((l.2.1.1, (l.2.1.2.1, ())), ())) : T3).1, q3.mkH ((((), (((), ()), ((), ((), ((), ((), (l.1.2.2.2.2.2.2.1, (l.1.2.2.2.2.2.2.2.1, ((), ()))))))))), ((l.2.1.1, (l.2.1.2.1, ())), ())) : T3).2, 1⟩ (roundK E (pick (loopsOf body) 3) K) =
  (l3 l.1.2.2.2.2.2.2.1 l.1.2.2.2.2.2.2.2.1 l.2.1.1 l.2.1.2.1).runK (lpK K (fun s => ⟨p3.mkL ((((), (((), ()), ((), ((), ((), ((), (l.1.2.2.2.2.2.2.1, (l.1.2.2.2.2.2.2.2.1, ((), ()))))))))), ((l.2.1.1, (l.2.1.2.1, ())), ())) : T3).1, q3.mkH ((((), (((), ()), ((), ((), ((), ((), (l.1.2.2.2.2.2.2.1, (l.1.2.2.2.2.2.2.2.1, ((), ()))))))))), ((l.2.1.1, (l.2.1.2.1, ())), ())) : T3).2, 1⟩) sp1 (ou3 l)) := by kernel_rfl
theorem lk3 (R : Type) (st : St U) (K : Ex → St U → Option R) (r : R) (h : Λ3 R st K = some r) : ∃ n, loopA E (pick (loopsOf body) 3) n st K = some r :=
  lp_ok (U := U) (E := E) (b := pick (loopsOf body) 3) (m := 1) (sp := sp1) (p := p3) (q := q3) (X := Unit) (S := Unit) (f := fun (l : T3) s => l3 l.1.2.2.2.2.2.2.1 l.1.2.2.2.2.2.2.2.1 l.2.1.1 l.2.1.2.1) (hd := fun (l : T3) s => (((), (((), ()), ((), ((), ((), ((), (l.1.2.2.2.2.2.2.1, (l.1.2.2.2.2.2.2.2.1, ((), ()))))))))), ((l.2.1.1, (l.2.1.2.1, ())), ()))) (s0 := fun (l : T3) => ()) (ou := ou3)
    (fun l => rfl) (fun l x => by rfl) sp1_ok hf3 h
theorem hk (R : Type) (l : TA) (K : AV U → Hp U → Option R) : funcA E Try.f79 [] R (pA.mkL l.1) (pH.mkH l.2) K = (t l.2.1.1 l.2.1.2.1).runK fun y => K (v l y) (hh l y) := by kernel_rfl
theorem okF : SoundF Try.prog cc 79 (funcA E Try.f79 []) :=
  funcA_ok (E := E) P_mixed (E0_ok.with Γ Λ [] D) (gam_of all_nil) Try.func79 (c := body) (by kernel_rfl)
    (just_by (by kernel_rfl) (by kernel_rfl) (all_cons lk3 all_nil) all_nil) []
theorem ok : SoundF Try.prog cc 79 A :=
  mkA_ok (E := E) (p := pA) (q := pH) (t := fun (l : TA) => t l.2.1.1 l.2.1.2.1) sp1_ok hk okF
end item_some_of_item_Put_1_none0

/-! instar/item.some -/
namespace item_some_of_item_Put_2_none0
abbrev TA : Type := ((Unit × ((Unit × Unit) × Unit)) × ((Int × (ByteArray × Unit)) × Unit))
abbrev T3 : Type := ((Unit × ((Unit × Unit) × (Unit × (Unit × (Unit × (Unit × (Int × (Int × (Unit × Unit))))))))) × ((Int × (ByteArray × Unit)) × Unit))
noncomputable def l3 (k9 : Int) (k10 : Int) (h0_0 : Int) (h0_1 : ByteArray) : Tw (Unit ⊕ Unit) :=
 (.bb (decide (k10 < k9))
  .no
  (.ret (.inr ())))
noncomputable def L3 (k9 : Int) (k10 : Int) (h0_0 : Int) (h0_1 : ByteArray) : Option Unit := Lp (fun s => (l3 k9 k10 h0_0 h0_1).run) ()
def p3 : Pt := (.cs (.bots 1) (.cs (.clo 81 (.cs (.ptr 0 0) .nl)) (.cs (.bots 3) (.cs .nils (.cs (.bots 2) (.cs .nils (.cs (.int .i64) (.cs (.int .i64) (.cs (.bots 13) .nl)))))))))
def q3 : Pt := (.cs (.var (.cs (.int .u32) (.cs .str .nl))) .nl)
def ou3 (l : T3) (y : Unit) : Ex × St U := (.exit 0, stOf 24 [(5, .im .nils)] [.var [.im (.int .u32 l.2.1.1), .im (.str l.2.1.2.1)]] 1)
noncomputable def Λ3 : LFun U := mkLp (U := U) p3 q3 1 (X := Unit) (fun (l : T3) => L3 l.1.2.2.2.2.2.2.1 l.1.2.2.2.2.2.2.2.1 l.2.1.1 l.2.1.2.1) sp1 ou3
noncomputable def t (h0_0 : Int) (h0_1 : ByteArray) : Tw Unit :=
 (.opt (L3 (0 : Int) (0 : Int) h0_0 h0_1) fun z1 =>
  (.ret ()))
noncomputable def c (h0_0 : Int) (h0_1 : ByteArray) : Option Unit := (t h0_0 h0_1).run
def pA : Pt := (.cs .nils (.cs (.clo 81 (.cs (.ptr 0 0) .nl)) .nl))
def pH : Pt := (.cs (.var (.cs (.int .u32) (.cs .str .nl))) .nl)
def v (l : TA) (y : Unit) : AV U := .im .nils
def hh (l : TA) (y : Unit) : Hp U := [.var [.im (.int .u32 l.2.1.1), .im (.str l.2.1.2.1)]]
noncomputable def A : AFun U := mkA (U := U) pA pH (X := Unit) (fun (l : TA) => c l.2.1.1 l.2.1.2.1) sp1 v hh
noncomputable def body : Code := (Go.Func.body Try.f79).getD .skip
noncomputable def Γ : List (FuncId × AFun U) := []
noncomputable def Λ : List (Nat × LFun U) := [(3, Λ3)]
def D : Nat → Lv × Lv := dtab [(3, ⟨[10, 5, 1, 8, 9], []⟩, ⟨[4, 5], []⟩)]
noncomputable def E : Env U := { E0 with Γ := Γ, Λ := Λ, C := [], D := D }
theorem hf3 (R : Type) (l : T3) (s : Unit) (K : Ex → St U → Option R) : codeA E (pick (loopsOf body) 3) ⟨p3.mkL ((((), (((), ()), ((), ((), ((), ((), (l.1.2.2.2.2.2.2.1, (l.1.2.2.2.2.2.2.2.1, ((), ()))))))))), ((l.2.1.1, (l.2.1.2.1, ())), ())) : T3).1, q3.mkH ((((), (((), ()), ((), ((), ((), ((), (l.1.2.2.2.2.2.2.1, (l.1.2.2.2.2.2.2.2.1, ((), ()))))))))), ((l.2.1.1, (l.2.1.2.1, ())), ())) : T3).2, 1⟩ (roundK E (pick (loopsOf body) 3) K) =
  (l3 l.1.2.2.2.2.2.2.1 l.1.2.2.2.2.2.2.2.1 l.2.1.1 l.2.1.2.1).runK (lpK K (fun s => ⟨p3.mkL ((((), (((), ()), ((), ((), ((), ((), (l.1.2.2.2.2.2.2.1, (l.1.2.2.2.2.2.2.2.1, ((), ()))))))))), ((l.2.1.1, (l.2.1.2.1, ())), ())) : T3).1, q3.mkH ((((), (((), ()), ((), ((), ((), ((), (l.1.2.2.2.2.2.2.1, (l.1.2.2.2.2.2.2.2.1, ((), ()))))))))), ((l.2.1.1, (l.2.1.2.1, ())), ())) : T3).2, 1⟩) sp1 (ou3 l)) := by kernel_rfl
theorem lk3 (R : Type) (st : St U) (K : Ex → St U → Option R) (r : R) (h : Λ3 R st K = some r) : ∃ n, loopA E (pick (loopsOf body) 3) n st K = some r :=
  lp_ok (U := U) (E := E) (b := pick (loopsOf body) 3) (m := 1) (sp := sp1) (p := p3) (q := q3) (X := Unit) (S := Unit) (f := fun (l : T3) s => l3 l.1.2.2.2.2.2.2.1 l.1.2.2.2.2.2.2.2.1 l.2.1.1 l.2.1.2.1) (hd := fun (l : T3) s => (((), (((), ()), ((), ((), ((), ((), (l.1.2.2.2.2.2.2.1, (l.1.2.2.2.2.2.2.2.1, ((), ()))))))))), ((l.2.1.1, (l.2.1.2.1, ())), ()))) (s0 := fun (l : T3) => ()) (ou := ou3)
    (fun l => rfl) (fun l x => by rfl) sp1_ok hf3 h
theorem hk (R : Type) (l : TA) (K : AV U → Hp U → Option R) : funcA E Try.f79 [] R (pA.mkL l.1) (pH.mkH l.2) K = (t l.2.1.1 l.2.1.2.1).runK fun y => K (v l y) (hh l y) := by kernel_rfl
theorem okF : SoundF Try.prog cc 79 (funcA E Try.f79 []) :=
  funcA_ok (E := E) P_mixed (E0_ok.with Γ Λ [] D) (gam_of all_nil) Try.func79 (c := body) (by kernel_rfl)
    (just_by (by kernel_rfl) (by kernel_rfl) (all_cons lk3 all_nil) all_nil) []
theorem ok : SoundF Try.prog cc 79 A :=
  mkA_ok (E := E) (p := pA) (q := pH) (t := fun (l : TA) => t l.2.1.1 l.2.1.2.1) sp1_ok hk okF
end item_some_of_item_Put_2_none0

/-! instar/item.Put -/
namespace item_Put_none0
abbrev TA : Type := ((Unit × ((Int × (ByteArray × Unit)) × Unit)) × Unit)
noncomputable def t (x_0 : Int) (x_1 : ByteArray) : Tw (List ItemV) :=
 (.opt (item_some_of_item_Put_1_none0.c x_0 x_1) fun z1 =>
  (.opt (item_some_of_item_Put_2_none0.c x_0 x_1) fun z2 =>
   (.ret ((Go.Proofs.Ytadhnolgfhgepaa.Va.ItemV.mk x_0 x_1) :: []))))
noncomputable def c (x_0 : Int) (x_1 : ByteArray) : Option (List ItemV) := (t x_0 x_1).run
def pA : Pt := (.cs .nils (.cs (.agg (.cs (.int .u32) (.cs .str .nl))) .nl))
def pH : Pt := .nl
def v (l : TA) (y : (List ItemV)) : AV U := .own 0
def hh (l : TA) (y : (List ItemV)) : Hp U := [.row 10 y true]
noncomputable def A : AFun U := mkA (U := U) pA pH (X := (List ItemV)) (fun (l : TA) => c l.1.2.1.1 l.1.2.1.2.1) sp1 v hh
noncomputable def body : Code := (Go.Func.body Try.f50).getD .skip
noncomputable def Γ : List (FuncId × AFun U) := [(79, (orA item_some_of_item_Put_1_none0.pA item_some_of_item_Put_1_none0.pH item_some_of_item_Put_1_none0.A item_some_of_item_Put_2_none0.A))]
noncomputable def Λ : List (Nat × LFun U) := []
def D : Nat → Lv × Lv := dtab []
noncomputable def E : Env U := { E0 with Γ := Γ, Λ := Λ, C := [], D := D }
theorem hk (R : Type) (l : TA) (K : AV U → Hp U → Option R) : funcA E Try.f50 [] R (pA.mkL l.1) (pH.mkH l.2) K = (t l.1.2.1.1 l.1.2.1.2.1).runK fun y => K (v l y) (hh l y) := by kernel_rfl
theorem okF : SoundF Try.prog cc 50 (funcA E Try.f50 []) :=
  funcA_ok (E := E) P_mixed (E0_ok.with Γ Λ [] D) (gam_of (all_cons ⟨(orA_ok item_some_of_item_Put_1_none0.ok item_some_of_item_Put_2_none0.ok), ⟨Try.f79, Try.func79, by kernel_rfl, by kernel_rfl⟩⟩ all_nil)) Try.func50 (c := body) (by kernel_rfl)
    (just_by (by kernel_rfl) (by kernel_rfl) all_nil all_nil) []
theorem ok : SoundF Try.prog cc 50 A :=
  mkA_ok (E := E) (p := pA) (q := pH) (t := fun (l : TA) => t l.1.2.1.1 l.1.2.1.2.1) sp1_ok hk okF
end item_Put_none0

/-! instar/item.Put$1 -/
namespace item_Put_1
abbrev TA : Type := ((Int × (Unit × Unit)) × ((Int × (ByteArray × Unit)) × Unit))
noncomputable def t (k : Int) (h0_0 : Int) (h0_1 : ByteArray) : Tw Bool :=
 (.ret (decide (k < h0_0)))
noncomputable def c (k : Int) (h0_0 : Int) (h0_1 : ByteArray) : Option Bool := (t k h0_0 h0_1).run
def pA : Pt := (.cs (.int .u32) (.cs (.ptr 0 0) .nl))
def pH : Pt := (.cs (.var (.cs (.int .u32) (.cs .str .nl))) .nl)
def v (l : TA) (y : Bool) : AV U := .im (.bool y)
def hh (l : TA) (y : Bool) : Hp U := [.var [.im (.int .u32 l.2.1.1), .im (.str l.2.1.2.1)]]
noncomputable def A : AFun U := mkA (U := U) pA pH (X := Bool) (fun (l : TA) => c l.1.1 l.2.1.1 l.2.1.2.1) sp1 v hh
noncomputable def body : Code := (Go.Func.body Try.f80).getD .skip
noncomputable def Γ : List (FuncId × AFun U) := []
noncomputable def Λ : List (Nat × LFun U) := []
def D : Nat → Lv × Lv := dtab []
noncomputable def E : Env U := { E0 with Γ := Γ, Λ := Λ, C := [], D := D }
theorem hk (R : Type) (l : TA) (K : AV U → Hp U → Option R) : funcA E Try.f80 [] R (pA.mkL l.1) (pH.mkH l.2) K = (t l.1.1 l.2.1.1 l.2.1.2.1).runK fun y => K (v l y) (hh l y) := by kernel_rfl
theorem okF : SoundF Try.prog cc 80 (funcA E Try.f80 []) :=
  funcA_ok (E := E) P_mixed (E0_ok.with Γ Λ [] D) (gam_of all_nil) Try.func80 (c := body) (by kernel_rfl)
    (just_by (by kernel_rfl) (by kernel_rfl) all_nil all_nil) []
theorem ok : SoundF Try.prog cc 80 A :=
  mkA_ok (E := E) (p := pA) (q := pH) (t := fun (l : TA) => t l.1.1 l.2.1.1 l.2.1.2.1) sp1_ok hk okF
end item_Put_1

/-! instar/item.some -/
namespace item_some_of_item_Put_1
abbrev TA : Type := (((List ItemV) × ((Unit × Unit) × Unit)) × ((Int × (ByteArray × Unit)) × Unit))
abbrev T3 : Type := ((Unit × ((Unit × Unit) × (Unit × (Unit × (Unit × ((List ItemV) × (Int × (Int × (Unit × Unit))))))))) × ((Int × (ByteArray × Unit)) × ((List ItemV) × Unit)))
noncomputable def l3 (k8 : (List ItemV)) (k9 : Int) (h0_0 : Int) (h0_1 : ByteArray) (k10 : Int) (h1 : (List ItemV)) : Tw ((Int × (List ItemV)) ⊕ (List ItemV)) :=
 (.bb (decide (k10 < k9))
  (.dd (((0 : Int) ≤ k10)) inferInstance
   (.opt (k8)[(Int.toNat k10)]? fun z1 =>
    (.opt (item_Put_1.c z1.key h0_0 h0_1) fun z2 =>
     (.bb z2
      (.dd ((((((List.length h1) + (List.length ((Go.Proofs.Ytadhnolgfhgepaa.Va.ItemV.mk z1.key z1.data) :: []))) * (24 : Nat)) ≤ (140737488355328 : Nat)) ∧ (((List.length h1) + (List.length ((Go.Proofs.Ytadhnolgfhgepaa.Va.ItemV.mk z1.key z1.data) :: []))) ≤ (140737488355328 : Nat)))) inferInstance
       (.ret (.inl ((w64 (k10 + (1 : Int))), (h1 ++ ((Go.Proofs.Ytadhnolgfhgepaa.Va.ItemV.mk z1.key z1.data) :: [])))))
       .no)
      (.ret (.inl ((w64 (k10 + (1 : Int))), h1))))))
   .no)
  (.ret (.inr h1)))
noncomputable def L3 (k8 : (List ItemV)) (k9 : Int) (k10 : Int) (h0_0 : Int) (h0_1 : ByteArray) (h1 : (List ItemV)) : Option (List ItemV) := Lp (fun s => (l3 k8 k9 h0_0 h0_1 s.1 s.2).run) (k10, h1)
def p3 : Pt := (.cs (.bots 1) (.cs (.clo 80 (.cs (.ptr 0 0) .nl)) (.cs (.bots 3) (.cs (.own 1) (.cs (.bots 2) (.cs (.sl 10) (.cs (.int .i64) (.cs (.int .i64) (.cs (.bots 13) .nl)))))))))
def q3 : Pt := (.cs (.var (.cs (.int .u32) (.cs .str .nl))) (.cs (.row 10 true) .nl))
def ou3 (l : T3) (y : (List ItemV)) : Ex × St U := (.exit 0, stOf 24 [(5, .own 1)] [.var [.im (.int .u32 l.2.1.1), .im (.str l.2.1.2.1)], .row 10 y true] 1)
noncomputable def Λ3 : LFun U := mkLp (U := U) p3 q3 1 (X := (List ItemV)) (fun (l : T3) => L3 l.1.2.2.2.2.2.1 l.1.2.2.2.2.2.2.1 l.1.2.2.2.2.2.2.2.1 l.2.1.1 l.2.1.2.1 l.2.2.1) sp1 ou3
noncomputable def t (l_ : (List ItemV)) (h0_0 : Int) (h0_1 : ByteArray) : Tw (List ItemV) :=
 (.opt (L3 l_ (((List.length l_) : Nat) : Int) (0 : Int) h0_0 h0_1 []) fun z3 =>
  (.ret z3))
noncomputable def c (l_ : (List ItemV)) (h0_0 : Int) (h0_1 : ByteArray) : Option (List ItemV) := (t l_ h0_0 h0_1).run
def pA : Pt := (.cs (.sl 10) (.cs (.clo 80 (.cs (.ptr 0 0) .nl)) .nl))
def pH : Pt := (.cs (.var (.cs (.int .u32) (.cs .str .nl))) .nl)
def v (l : TA) (y : (List ItemV)) : AV U := .own 1
def hh (l : TA) (y : (List ItemV)) : Hp U := [.var [.im (.int .u32 l.2.1.1), .im (.str l.2.1.2.1)], .row 10 y true]
noncomputable def A : AFun U := mkA (U := U) pA pH (X := (List ItemV)) (fun (l : TA) => c l.1.1 l.2.1.1 l.2.1.2.1) sp1 v hh
noncomputable def body : Code := (Go.Func.body Try.f79).getD .skip
noncomputable def Γ : List (FuncId × AFun U) := [(80, item_Put_1.A)]
noncomputable def Λ : List (Nat × LFun U) := [(3, Λ3)]
def D : Nat → Lv × Lv := dtab [(3, ⟨[10, 5, 1, 8, 9], [(5, [], .own 10)]⟩, ⟨[4, 5], []⟩)]
noncomputable def E : Env U := { E0 with Γ := Γ, Λ := Λ, C := [], D := D }
theorem hf3 (R : Type) (l : T3) (s : (Int × (List ItemV))) (K : Ex → St U → Option R) : codeA E (pick (loopsOf body) 3) ⟨p3.mkL ((((), (((), ()), ((), ((), ((), (l.1.2.2.2.2.2.1, (l.1.2.2.2.2.2.2.1, (s.1, ((), ()))))))))), ((l.2.1.1, (l.2.1.2.1, ())), (s.2, ()))) : T3).1, q3.mkH ((((), (((), ()), ((), ((), ((), (l.1.2.2.2.2.2.1, (l.1.2.2.2.2.2.2.1, (s.1, ((), ()))))))))), ((l.2.1.1, (l.2.1.2.1, ())), (s.2, ()))) : T3).2, 1⟩ (roundK E (pick (loopsOf body) 3) K) =
  (l3 l.1.2.2.2.2.2.1 l.1.2.2.2.2.2.2.1 l.2.1.1 l.2.1.2.1 s.1 s.2).runK (lpK K (fun s => ⟨p3.mkL ((((), (((), ()), ((), ((), ((), (l.1.2.2.2.2.2.1, (l.1.2.2.2.2.2.2.1, (s.1, ((), ()))))))))), ((l.2.1.1, (l.2.1.2.1, ())), (s.2, ()))) : T3).1, q3.mkH ((((), (((), ()), ((), ((), ((), (l.1.2.2.2.2.2.1, (l.1.2.2.2.2.2.2.1, (s.1, ((), ()))))))))), ((l.2.1.1, (l.2.1.2.1, ())), (s.2, ()))) : T3).2, 1⟩) sp1 (ou3 l)) := by kernel_rfl
theorem lk3 (R : Type) (st : St U) (K : Ex → St U → Option R) (r : R) (h : Λ3 R st K = some r) : ∃ n, loopA E (pick (loopsOf body) 3) n st K = some r :=
  lp_ok (U := U) (E := E) (b := pick (loopsOf body) 3) (m := 1) (sp := sp1) (p := p3) (q := q3) (X := (List ItemV)) (S := (Int × (List ItemV))) (f := fun (l : T3) s => l3 l.1.2.2.2.2.2.1 l.1.2.2.2.2.2.2.1 l.2.1.1 l.2.1.2.1 s.1 s.2) (hd := fun (l : T3) s => (((), (((), ()), ((), ((), ((), (l.1.2.2.2.2.2.1, (l.1.2.2.2.2.2.2.1, (s.1, ((), ()))))))))), ((l.2.1.1, (l.2.1.2.1, ())), (s.2, ())))) (s0 := fun (l : T3) => (l.1.2.2.2.2.2.2.2.1, l.2.2.1)) (ou := ou3)
    (fun l => rfl) (fun l x => by rfl) sp1_ok hf3 h
theorem hk (R : Type) (l : TA) (K : AV U → Hp U → Option R) : funcA E Try.f79 [] R (pA.mkL l.1) (pH.mkH l.2) K = (t l.1.1 l.2.1.1 l.2.1.2.1).runK fun y => K (v l y) (hh l y) := by kernel_rfl
theorem okF : SoundF Try.prog cc 79 (funcA E Try.f79 []) :=
  funcA_ok (E := E) P_mixed (E0_ok.with Γ Λ [] D) (gam_of (all_cons ⟨item_Put_1.ok, ⟨Try.f80, Try.func80, by kernel_rfl, by kernel_rfl⟩⟩ all_nil)) Try.func79 (c := body) (by kernel_rfl)
    (just_by (by kernel_rfl) (by kernel_rfl) (all_cons lk3 all_nil) all_nil) []
theorem ok : SoundF Try.prog cc 79 A :=
  mkA_ok (E := E) (p := pA) (q := pH) (t := fun (l : TA) => t l.1.1 l.2.1.1 l.2.1.2.1) sp1_ok hk okF
end item_some_of_item_Put_1

/-! instar/item.Put$2 -/
namespace item_Put_2
abbrev TA : Type := ((Int × (Unit × Unit)) × ((Int × (ByteArray × Unit)) × Unit))
noncomputable def t (k : Int) (h0_0 : Int) (h0_1 : ByteArray) : Tw Bool :=
 (.ret (decide (k > h0_0)))
noncomputable def c (k : Int) (h0_0 : Int) (h0_1 : ByteArray) : Option Bool := (t k h0_0 h0_1).run
def pA : Pt := (.cs (.int .u32) (.cs (.ptr 0 0) .nl))
def pH : Pt := (.cs (.var (.cs (.int .u32) (.cs .str .nl))) .nl)
def v (l : TA) (y : Bool) : AV U := .im (.bool y)
def hh (l : TA) (y : Bool) : Hp U := [.var [.im (.int .u32 l.2.1.1), .im (.str l.2.1.2.1)]]
noncomputable def A : AFun U := mkA (U := U) pA pH (X := Bool) (fun (l : TA) => c l.1.1 l.2.1.1 l.2.1.2.1) sp1 v hh
noncomputable def body : Code := (Go.Func.body Try.f81).getD .skip
noncomputable def Γ : List (FuncId × AFun U) := []
noncomputable def Λ : List (Nat × LFun U) := []
def D : Nat → Lv × Lv := dtab []
noncomputable def E : Env U := { E0 with Γ := Γ, Λ := Λ, C := [], D := D }
theorem hk (R : Type) (l : TA) (K : AV U → Hp U → Option R) : funcA E Try.f81 [] R (pA.mkL l.1) (pH.mkH l.2) K = (t l.1.1 l.2.1.1 l.2.1.2.1).runK fun y => K (v l y) (hh l y) := by kernel_rfl
theorem okF : SoundF Try.prog cc 81 (funcA E Try.f81 []) :=
  funcA_ok (E := E) P_mixed (E0_ok.with Γ Λ [] D) (gam_of all_nil) Try.func81 (c := body) (by kernel_rfl)
    (just_by (by kernel_rfl) (by kernel_rfl) all_nil all_nil) []
theorem ok : SoundF Try.prog cc 81 A :=
  mkA_ok (E := E) (p := pA) (q := pH) (t := fun (l : TA) => t l.1.1 l.2.1.1 l.2.1.2.1) sp1_ok hk okF
end item_Put_2

/-! instar/item.some -/
namespace item_some_of_item_Put_2
abbrev TA : Type := (((List ItemV) × ((Unit × Unit) × Unit)) × ((Int × (ByteArray × Unit)) × Unit))
abbrev T3 : Type := ((Unit × ((Unit × Unit) × (Unit × (Unit × (Unit × ((List ItemV) × (Int × (Int × (Unit × Unit))))))))) × ((Int × (ByteArray × Unit)) × ((List ItemV) × Unit)))
noncomputable def l3 (k8 : (List ItemV)) (k9 : Int) (h0_0 : Int) (h0_1 : ByteArray) (k10 : Int) (h1 : (List ItemV)) : Tw ((Int × (List ItemV)) ⊕ (List ItemV)) :=
 (.bb (decide (k10 < k9))
  (.dd (((0 : Int) ≤ k10)) inferInstance
   (.opt (k8)[(Int.toNat k10)]? fun z1 =>
    (.opt (item_Put_2.c z1.key h0_0 h0_1) fun z2 =>
     (.bb z2
      (.dd ((((((List.length h1) + (List.length ((Go.Proofs.Ytadhnolgfhgepaa.Va.ItemV.mk z1.key z1.data) :: []))) * (24 : Nat)) ≤ (140737488355328 : Nat)) ∧ (((List.length h1) + (List.length ((Go.Proofs.Ytadhnolgfhgepaa.Va.ItemV.mk z1.key z1.data) :: []))) ≤ (140737488355328 : Nat)))) inferInstance
       (.ret (.inl ((w64 (k10 + (1 : Int))), (h1 ++ ((Go.Proofs.Ytadhnolgfhgepaa.Va.ItemV.mk z1.key z1.data) :: [])))))
       .no)
      (.ret (.inl ((w64 (k10 + (1 : Int))), h1))))))
   .no)
  (.ret (.inr h1)))
noncomputable def L3 (k8 : (List ItemV)) (k9 : Int) (k10 : Int) (h0_0 : Int) (h0_1 : ByteArray) (h1 : (List ItemV)) : Option (List ItemV) := Lp (fun s => (l3 k8 k9 h0_0 h0_1 s.1 s.2).run) (k10, h1)
def p3 : Pt := (.cs (.bots 1) (.cs (.clo 81 (.cs (.ptr 0 0) .nl)) (.cs (.bots 3) (.cs (.own 1) (.cs (.bots 2) (.cs (.sl 10) (.cs (.int .i64) (.cs (.int .i64) (.cs (.bots 13) .nl)))))))))
def q3 : Pt := (.cs (.var (.cs (.int .u32) (.cs .str .nl))) (.cs (.row 10 true) .nl))
def ou3 (l : T3) (y : (List ItemV)) : Ex × St U := (.exit 0, stOf 24 [(5, .own 1)] [.var [.im (.int .u32 l.2.1.1), .im (.str l.2.1.2.1)], .row 10 y true] 1)
noncomputable def Λ3 : LFun U := mkLp (U := U) p3 q3 1 (X := (List ItemV)) (fun (l : T3) => L3 l.1.2.2.2.2.2.1 l.1.2.2.2.2.2.2.1 l.1.2.2.2.2.2.2.2.1 l.2.1.1 l.2.1.2.1 l.2.2.1) sp1 ou3
noncomputable def t (l_ : (List ItemV)) (h0_0 : Int) (h0_1 : ByteArray) : Tw (List ItemV) :=
 (.opt (L3 l_ (((List.length l_) : Nat) : Int) (0 : Int) h0_0 h0_1 []) fun z3 =>
  (.ret z3))
noncomputable def c (l_ : (List ItemV)) (h0_0 : Int) (h0_1 : ByteArray) : Option (List ItemV) := (t l_ h0_0 h0_1).run
def pA : Pt := (.cs (.sl 10) (.cs (.clo 81 (.cs (.ptr 0 0) .nl)) .nl))
def pH : Pt := (.cs (.var (.cs (.int .u32) (.cs .str .nl))) .nl)
def v (l : TA) (y : (List ItemV)) : AV U := .own 1
def hh (l : TA) (y : (List ItemV)) : Hp U := [.var [.im (.int .u32 l.2.1.1), .im (.str l.2.1.2.1)], .row 10 y true]
noncomputable def A : AFun U := mkA (U := U) pA pH (X := (List ItemV)) (fun (l : TA) => c l.1.1 l.2.1.1 l.2.1.2.1) sp1 v hh
noncomputable def body : Code := (Go.Func.body Try.f79).getD .skip
noncomputable def Γ : List (FuncId × AFun U) := [(81, item_Put_2.A)]
noncomputable def Λ : List (Nat × LFun U) := [(3, Λ3)]
def D : Nat → Lv × Lv := dtab [(3, ⟨[10, 5, 1, 8, 9], [(5, [], .own 10)]⟩, ⟨[4, 5], []⟩)]
noncomputable def E : Env U := { E0 with Γ := Γ, Λ := Λ, C := [], D := D }
theorem hf3 (R : Type) (l : T3) (s : (Int × (List ItemV))) (K : Ex → St U → Option R) : codeA E (pick (loopsOf body) 3) ⟨p3.mkL ((((), (((), ()), ((), ((), ((), (l.1.2.2.2.2.2.1, (l.1.2.2.2.2.2.2.1, (s.1, ((), ()))))))))), ((l.2.1.1, (l.2.1.2.1, ())), (s.2, ()))) : T3).1, q3.mkH ((((), (((), ()), ((), ((), ((), (l.1.2.2.2.2.2.1, (l.1.2.2.2.2.2.2.1, (s.1, ((), ()))))))))), ((l.2.1.1, (l.2.1.2.1, ())), (s.2, ()))) : T3).2, 1⟩ (roundK E (pick (loopsOf body) 3) K) =
  (l3 l.1.2.2.2.2.2.1 l.1.2.2.2.2.2.2.1 l.2.1.1 l.2.1.2.1 s.1 s.2).runK (lpK K (fun s => ⟨p3.mkL ((((), (((), ()), ((), ((), ((), (l.1.2.2.2.2.2.1, (l.1.2.2.2.2.2.2.1, (s.1, ((), ()))))))))), ((l.2.1.1, (l.2.1.2.1, ())), (s.2, ()))) : T3).1, q3.mkH ((((), (((), ()), ((), ((), ((), (l.1.2.2.2.2.2.1, (l.1.2.2.2.2.2.2.1, (s.1, ((), ()))))))))), ((l.2.1.1, (l.2.1.2.1, ())), (s.2, ()))) : T3).2, 1⟩) sp1 (ou3 l)) := by kernel_rfl
theorem lk3 (R : Type) (st : St U) (K : Ex → St U → Option R) (r : R) (h : Λ3 R st K = some r) : ∃ n, loopA E (pick (loopsOf body) 3) n st K = some r :=
  lp_ok (U := U) (E := E) (b := pick (loopsOf body) 3) (m := 1) (sp := sp1) (p := p3) (q := q3) (X := (List ItemV)) (S := (Int × (List ItemV))) (f := fun (l : T3) s => l3 l.1.2.2.2.2.2.1 l.1.2.2.2.2.2.2.1 l.2.1.1 l.2.1.2.1 s.1 s.2) (hd := fun (l : T3) s => (((), (((), ()), ((), ((), ((), (l.1.2.2.2.2.2.1, (l.1.2.2.2.2.2.2.1, (s.1, ((), ()))))))))), ((l.2.1.1, (l.2.1.2.1, ())), (s.2, ())))) (s0 := fun (l : T3) => (l.1.2.2.2.2.2.2.2.1, l.2.2.1)) (ou := ou3)
    (fun l => rfl) (fun l x => by rfl) sp1_ok hf3 h
theorem hk (R : Type) (l : TA) (K : AV U → Hp U → Option R) : funcA E Try.f79 [] R (pA.mkL l.1) (pH.mkH l.2) K = (t l.1.1 l.2.1.1 l.2.1.2.1).runK fun y => K (v l y) (hh l y) := by kernel_rfl
theorem okF : SoundF Try.prog cc 79 (funcA E Try.f79 []) :=
  funcA_ok (E := E) P_mixed (E0_ok.with Γ Λ [] D) (gam_of (all_cons ⟨item_Put_2.ok, ⟨Try.f81, Try.func81, by kernel_rfl, by kernel_rfl⟩⟩ all_nil)) Try.func79 (c := body) (by kernel_rfl)
    (just_by (by kernel_rfl) (by kernel_rfl) (all_cons lk3 all_nil) all_nil) []
theorem ok : SoundF Try.prog cc 79 A :=
  mkA_ok (E := E) (p := pA) (q := pH) (t := fun (l : TA) => t l.1.1 l.2.1.1 l.2.1.2.1) sp1_ok hk okF
end item_some_of_item_Put_2

/-! instar/item.Put -/
namespace item_Put
abbrev TA : Type := (((List ItemV) × ((Int × (ByteArray × Unit)) × Unit)) × Unit)
noncomputable def t (l_ : (List ItemV)) (x_0 : Int) (x_1 : ByteArray) : Tw (List ItemV) :=
 (.opt (item_some_of_item_Put_1.c l_ x_0 x_1) fun z1 =>
  (.opt (item_some_of_item_Put_2.c l_ x_0 x_1) fun z2 =>
   (.dd ((((((List.length z1) + (List.length ((Go.Proofs.Ytadhnolgfhgepaa.Va.ItemV.mk x_0 x_1) :: []))) * (24 : Nat)) ≤ (140737488355328 : Nat)) ∧ (((List.length z1) + (List.length ((Go.Proofs.Ytadhnolgfhgepaa.Va.ItemV.mk x_0 x_1) :: []))) ≤ (140737488355328 : Nat)))) inferInstance
    (.dd ((((((List.length (z1 ++ ((Go.Proofs.Ytadhnolgfhgepaa.Va.ItemV.mk x_0 x_1) :: []))) + (List.length z2)) * (24 : Nat)) ≤ (140737488355328 : Nat)) ∧ (((List.length (z1 ++ ((Go.Proofs.Ytadhnolgfhgepaa.Va.ItemV.mk x_0 x_1) :: []))) + (List.length z2)) ≤ (140737488355328 : Nat)))) inferInstance
     (.ret ((z1 ++ ((Go.Proofs.Ytadhnolgfhgepaa.Va.ItemV.mk x_0 x_1) :: [])) ++ z2))
     .no)
    .no)))
noncomputable def c (l_ : (List ItemV)) (x_0 : Int) (x_1 : ByteArray) : Option (List ItemV) := (t l_ x_0 x_1).run
def pA : Pt := (.cs (.sl 10) (.cs (.agg (.cs (.int .u32) (.cs .str .nl))) .nl))
def pH : Pt := .nl
def v (l : TA) (y : (List ItemV)) : AV U := .own 0
def hh (l : TA) (y : (List ItemV)) : Hp U := [.row 10 y true]
noncomputable def A : AFun U := mkA (U := U) pA pH (X := (List ItemV)) (fun (l : TA) => c l.1.1 l.1.2.1.1 l.1.2.1.2.1) sp1 v hh
noncomputable def body : Code := (Go.Func.body Try.f50).getD .skip
noncomputable def Γ : List (FuncId × AFun U) := [(79, (orA item_some_of_item_Put_1.pA item_some_of_item_Put_1.pH item_some_of_item_Put_1.A item_some_of_item_Put_2.A))]
noncomputable def Λ : List (Nat × LFun U) := []
def D : Nat → Lv × Lv := dtab []
noncomputable def E : Env U := { E0 with Γ := Γ, Λ := Λ, C := [], D := D }
theorem hk (R : Type) (l : TA) (K : AV U → Hp U → Option R) : funcA E Try.f50 [] R (pA.mkL l.1) (pH.mkH l.2) K = (t l.1.1 l.1.2.1.1 l.1.2.1.2.1).runK fun y => K (v l y) (hh l y) := by kernel_rfl
theorem okF : SoundF Try.prog cc 50 (funcA E Try.f50 []) :=
  funcA_ok (E := E) P_mixed (E0_ok.with Γ Λ [] D) (gam_of (all_cons ⟨(orA_ok item_some_of_item_Put_1.ok item_some_of_item_Put_2.ok), ⟨Try.f79, Try.func79, by kernel_rfl, by kernel_rfl⟩⟩ all_nil)) Try.func50 (c := body) (by kernel_rfl)
    (just_by (by kernel_rfl) (by kernel_rfl) all_nil all_nil) []
theorem ok : SoundF Try.prog cc 50 A :=
  mkA_ok (E := E) (p := pA) (q := pH) (t := fun (l : TA) => t l.1.1 l.1.2.1.1 l.1.2.1.2.1) sp1_ok hk okF
end item_Put

/-! instar/item.Cut$1 -/
namespace item_Cut_1
abbrev TA : Type := ((Int × (Unit × Unit)) × ((Int × Unit) × Unit))
noncomputable def t (i : Int) (h0_0 : Int) : Tw Bool :=
 (.ret (i != h0_0))
noncomputable def c (i : Int) (h0_0 : Int) : Option Bool := (t i h0_0).run
def pA : Pt := (.cs (.int .u32) (.cs (.ptr 0 0) .nl))
def pH : Pt := (.cs (.var (.cs (.int .u32) .nl)) .nl)
def v (l : TA) (y : Bool) : AV U := .im (.bool y)
def hh (l : TA) (y : Bool) : Hp U := [.var [.im (.int .u32 l.2.1.1)]]
noncomputable def A : AFun U := mkA (U := U) pA pH (X := Bool) (fun (l : TA) => c l.1.1 l.2.1.1) sp1 v hh
noncomputable def body : Code := (Go.Func.body Try.f82).getD .skip
noncomputable def Γ : List (FuncId × AFun U) := []
noncomputable def Λ : List (Nat × LFun U) := []
def D : Nat → Lv × Lv := dtab []
noncomputable def E : Env U := { E0 with Γ := Γ, Λ := Λ, C := [], D := D }
theorem hk (R : Type) (l : TA) (K : AV U → Hp U → Option R) : funcA E Try.f82 [] R (pA.mkL l.1) (pH.mkH l.2) K = (t l.1.1 l.2.1.1).runK fun y => K (v l y) (hh l y) := by kernel_rfl
theorem okF : SoundF Try.prog cc 82 (funcA E Try.f82 []) :=
  funcA_ok (E := E) P_mixed (E0_ok.with Γ Λ [] D) (gam_of all_nil) Try.func82 (c := body) (by kernel_rfl)
    (just_by (by kernel_rfl) (by kernel_rfl) all_nil all_nil) []
theorem ok : SoundF Try.prog cc 82 A :=
  mkA_ok (E := E) (p := pA) (q := pH) (t := fun (l : TA) => t l.1.1 l.2.1.1) sp1_ok hk okF
end item_Cut_1

/-! instar/item.some -/
namespace item_some_of_item_Cut_1
abbrev TA : Type := (((List ItemV) × ((Unit × Unit) × Unit)) × ((Int × Unit) × Unit))
abbrev T3 : Type := ((Unit × ((Unit × Unit) × (Unit × (Unit × (Unit × ((List ItemV) × (Int × (Int × (Unit × Unit))))))))) × ((Int × Unit) × ((List ItemV) × Unit)))
noncomputable def l3 (k8 : (List ItemV)) (k9 : Int) (h0_0 : Int) (k10 : Int) (h1 : (List ItemV)) : Tw ((Int × (List ItemV)) ⊕ (List ItemV)) :=
 (.bb (decide (k10 < k9))
  (.dd (((0 : Int) ≤ k10)) inferInstance
   (.opt (k8)[(Int.toNat k10)]? fun z1 =>
    (.opt (item_Cut_1.c z1.key h0_0) fun z2 =>
     (.bb z2
      (.dd ((((((List.length h1) + (List.length ((Go.Proofs.Ytadhnolgfhgepaa.Va.ItemV.mk z1.key z1.data) :: []))) * (24 : Nat)) ≤ (140737488355328 : Nat)) ∧ (((List.length h1) + (List.length ((Go.Proofs.Ytadhnolgfhgepaa.Va.ItemV.mk z1.key z1.data) :: []))) ≤ (140737488355328 : Nat)))) inferInstance
       (.ret (.inl ((w64 (k10 + (1 : Int))), (h1 ++ ((Go.Proofs.Ytadhnolgfhgepaa.Va.ItemV.mk z1.key z1.data) :: [])))))
       .no)
      (.ret (.inl ((w64 (k10 + (1 : Int))), h1))))))
   .no)
  (.ret (.inr h1)))
noncomputable def L3 (k8 : (List ItemV)) (k9 : Int) (k10 : Int) (h0_0 : Int) (h1 : (List ItemV)) : Option (List ItemV) := Lp (fun s => (l3 k8 k9 h0_0 s.1 s.2).run) (k10, h1)
def p3 : Pt := (.cs (.bots 1) (.cs (.clo 82 (.cs (.ptr 0 0) .nl)) (.cs (.bots 3) (.cs (.own 1) (.cs (.bots 2) (.cs (.sl 10) (.cs (.int .i64) (.cs (.int .i64) (.cs (.bots 13) .nl)))))))))
def q3 : Pt := (.cs (.var (.cs (.int .u32) .nl)) (.cs (.row 10 true) .nl))
def ou3 (l : T3) (y : (List ItemV)) : Ex × St U := (.exit 0, stOf 24 [(5, .own 1)] [.var [.im (.int .u32 l.2.1.1)], .row 10 y true] 1)
noncomputable def Λ3 : LFun U := mkLp (U := U) p3 q3 1 (X := (List ItemV)) (fun (l : T3) => L3 l.1.2.2.2.2.2.1 l.1.2.2.2.2.2.2.1 l.1.2.2.2.2.2.2.2.1 l.2.1.1 l.2.2.1) sp1 ou3
noncomputable def t (l_ : (List ItemV)) (h0_0 : Int) : Tw (List ItemV) :=
 (.opt (L3 l_ (((List.length l_) : Nat) : Int) (0 : Int) h0_0 []) fun z3 =>
  (.ret z3))
noncomputable def c (l_ : (List ItemV)) (h0_0 : Int) : Option (List ItemV) := (t l_ h0_0).run
def pA : Pt := (.cs (.sl 10) (.cs (.clo 82 (.cs (.ptr 0 0) .nl)) .nl))
def pH : Pt := (.cs (.var (.cs (.int .u32) .nl)) .nl)
def v (l : TA) (y : (List ItemV)) : AV U := .own 1
def hh (l : TA) (y : (List ItemV)) : Hp U := [.var [.im (.int .u32 l.2.1.1)], .row 10 y true]
noncomputable def A : AFun U := mkA (U := U) pA pH (X := (List ItemV)) (fun (l : TA) => c l.1.1 l.2.1.1) sp1 v hh
noncomputable def body : Code := (Go.Func.body Try.f79).getD .skip
noncomputable def Γ : List (FuncId × AFun U) := [(82, item_Cut_1.A)]
noncomputable def Λ : List (Nat × LFun U) := [(3, Λ3)]
def D : Nat → Lv × Lv := dtab [(3, ⟨[10, 5, 1, 8, 9], [(5, [], .own 10)]⟩, ⟨[4, 5], []⟩)]
noncomputable def E : Env U := { E0 with Γ := Γ, Λ := Λ, C := [], D := D }
theorem hf3 (R : Type) (l : T3) (s : (Int × (List ItemV))) (K : Ex → St U → Option R) : codeA E (pick (loopsOf body) 3) ⟨p3.mkL ((((), (((), ()), ((), ((), ((), (l.1.2.2.2.2.2.1, (l.1.2.2.2.2.2.2.1, (s.1, ((), ()))))))))), ((l.2.1.1, ()), (s.2, ()))) : T3).1, q3.mkH ((((), (((), ()), ((), ((), ((), (l.1.2.2.2.2.2.1, (l.1.2.2.2.2.2.2.1, (s.1, ((), ()))))))))), ((l.2.1.1, ()), (s.2, ()))) : T3).2, 1⟩ (roundK E (pick (loopsOf body) 3) K) =
  (l3 l.1.2.2.2.2.2.1 l.1.2.2.2.2.2.2.1 l.2.1.1 s.1 s.2).runK (lpK K (fun s => ⟨p3.mkL ((((), (((), ()), ((), ((), ((), (l.1.2.2.2.2.2.1, (l.1.2.2.2.2.2.2.1, (s.1, ((), ()))))))))), ((l.2.1.1, ()), (s.2, ()))) : T3).1, q3.mkH ((((), (((), ()), ((), ((), ((), (l.1.2.2.2.2.2.1, (l.1.2.2.2.2.2.2.1, (s.1, ((), ()))))))))), ((l.2.1.1, ()), (s.2, ()))) : T3).2, 1⟩) sp1 (ou3 l)) := by kernel_rfl
theorem lk3 (R : Type) (st : St U) (K : Ex → St U → Option R) (r : R) (h : Λ3 R st K = some r) : ∃ n, loopA E (pick (loopsOf body) 3) n st K = some r :=
  lp_ok (U := U) (E := E) (b := pick (loopsOf body) 3) (m := 1) (sp := sp1) (p := p3) (q := q3) (X := (List ItemV)) (S := (Int × (List ItemV))) (f := fun (l : T3) s => l3 l.1.2.2.2.2.2.1 l.1.2.2.2.2.2.2.1 l.2.1.1 s.1 s.2) (hd := fun (l : T3) s => (((), (((), ()), ((), ((), ((), (l.1.2.2.2.2.2.1, (l.1.2.2.2.2.2.2.1, (s.1, ((), ()))))))))), ((l.2.1.1, ()), (s.2, ())))) (s0 := fun (l : T3) => (l.1.2.2.2.2.2.2.2.1, l.2.2.1)) (ou := ou3)
    (fun l => rfl) (fun l x => by rfl) sp1_ok hf3 h
theorem hk (R : Type) (l : TA) (K : AV U → Hp U → Option R) : funcA E Try.f79 [] R (pA.mkL l.1) (pH.mkH l.2) K = (t l.1.1 l.2.1.1).runK fun y => K (v l y) (hh l y) := by kernel_rfl
theorem okF : SoundF Try.prog cc 79 (funcA E Try.f79 []) :=
  funcA_ok (E := E) P_mixed (E0_ok.with Γ Λ [] D) (gam_of (all_cons ⟨item_Cut_1.ok, ⟨Try.f82, Try.func82, by kernel_rfl, by kernel_rfl⟩⟩ all_nil)) Try.func79 (c := body) (by kernel_rfl)
    (just_by (by kernel_rfl) (by kernel_rfl) (all_cons lk3 all_nil) all_nil) []
theorem ok : SoundF Try.prog cc 79 A :=
  mkA_ok (E := E) (p := pA) (q := pH) (t := fun (l : TA) => t l.1.1 l.2.1.1) sp1_ok hk okF
end item_some_of_item_Cut_1

/-! instar/item.Cut -/
namespace item_Cut
abbrev TA : Type := (((List ItemV) × (Int × Unit)) × Unit)
noncomputable def t (l_ : (List ItemV)) (k : Int) : Tw (Bool × (List ItemV)) :=
 (.opt (item_some_of_item_Cut_1.c l_ k) fun z1 =>
  (.ret ((decide ((((List.length z1) : Nat) : Int) < (((List.length l_) : Nat) : Int))), z1)))
noncomputable def c (l_ : (List ItemV)) (k : Int) : Option (Bool × (List ItemV)) := (t l_ k).run
def pA : Pt := (.cs (.sl 10) (.cs (.int .u32) .nl))
def pH : Pt := .nl
def v (l : TA) (y : (Bool × (List ItemV))) : AV U := .tup [.own 0, .im (.bool y.1)]
def hh (l : TA) (y : (Bool × (List ItemV))) : Hp U := [.row 10 y.2 true]
noncomputable def A : AFun U := mkA (U := U) pA pH (X := (Bool × (List ItemV))) (fun (l : TA) => c l.1.1 l.1.2.1) sp1 v hh
noncomputable def body : Code := (Go.Func.body Try.f51).getD .skip
noncomputable def Γ : List (FuncId × AFun U) := [(79, item_some_of_item_Cut_1.A)]
noncomputable def Λ : List (Nat × LFun U) := []
def D : Nat → Lv × Lv := dtab []
noncomputable def E : Env U := { E0 with Γ := Γ, Λ := Λ, C := [], D := D }
theorem hk (R : Type) (l : TA) (K : AV U → Hp U → Option R) : funcA E Try.f51 [] R (pA.mkL l.1) (pH.mkH l.2) K = (t l.1.1 l.1.2.1).runK fun y => K (v l y) (hh l y) := by kernel_rfl
theorem okF : SoundF Try.prog cc 51 (funcA E Try.f51 []) :=
  funcA_ok (E := E) P_mixed (E0_ok.with Γ Λ [] D) (gam_of (all_cons ⟨item_some_of_item_Cut_1.ok, ⟨Try.f79, Try.func79, by kernel_rfl, by kernel_rfl⟩⟩ all_nil)) Try.func51 (c := body) (by kernel_rfl)
    (just_by (by kernel_rfl) (by kernel_rfl) all_nil all_nil) []
theorem ok : SoundF Try.prog cc 51 A :=
  mkA_ok (E := E) (p := pA) (q := pH) (t := fun (l : TA) => t l.1.1 l.1.2.1) sp1_ok hk okF
end item_Cut

/-! instar/item.Find -/
namespace item_Find
abbrev TA : Type := (((List ItemV) × (Int × Unit)) × Unit)
abbrev T2 : Type := ((Unit × (Int × (Unit × ((List ItemV) × (Int × (Int × (Unit × Unit))))))) × Unit)
noncomputable def l2 (k : Int) (k8 : (List ItemV)) (k9 : Int) (k10 : Int) : Tw (Int ⊕ (Unit ⊕ (ByteArray × Bool))) :=
 (.bb (decide (k10 < k9))
  (.dd (((0 : Int) ≤ k10)) inferInstance
   (.opt (k8)[(Int.toNat k10)]? fun z1 =>
    (.bb (z1.key == k)
     (.ret (.inr (.inr (z1.data, true))))
     (.ret (.inl (w64 (k10 + (1 : Int)))))))
   .no)
  (.ret (.inr (.inl ()))))
noncomputable def L2 (k : Int) (k8 : (List ItemV)) (k9 : Int) (k10 : Int) : Option (Unit ⊕ (ByteArray × Bool)) := Lp (fun s => (l2 k k8 k9 s).run) k10
def p2 : Pt := (.cs (.bots 1) (.cs (.int .u32) (.cs (.bots 6) (.cs (.sl 10) (.cs (.int .i64) (.cs (.int .i64) (.cs (.bots 10) .nl)))))))
def q2 : Pt := .nl
def ou2 (l : T2) (y : (Unit ⊕ (ByteArray × Bool))) : Ex × St U := (Sum.elim (fun a0 => (.exit 0, stOf 21 [] [] 0)) (fun b0 => (.ret, stOf 21 [(4, .im (.str b0.1)), (5, .im (.bool b0.2))] [] 0)) y)
noncomputable def Λ2 : LFun U := mkLp (U := U) p2 q2 0 (X := (Unit ⊕ (ByteArray × Bool))) (fun (l : T2) => L2 l.1.2.1 l.1.2.2.2.1 l.1.2.2.2.2.1 l.1.2.2.2.2.2.1) (spS sp1) ou2
noncomputable def t (l_ : (List ItemV)) (k : Int) : Tw (ByteArray × Bool) :=
 (.opt (L2 k l_ (((List.length l_) : Nat) : Int) (0 : Int)) fun z2 =>
  (.sm z2
   (fun z3 => (.ret ((ByteArray.mk (List.toArray [])), false)))
   (fun z4 => (.ret (z4.1, z4.2)))))
noncomputable def c (l_ : (List ItemV)) (k : Int) : Option (ByteArray × Bool) := (t l_ k).run
def pA : Pt := (.cs (.sl 10) (.cs (.int .u32) .nl))
def pH : Pt := .nl
def v (l : TA) (y : (ByteArray × Bool)) : AV U := .tup [.im (.str y.1), .im (.bool y.2)]
def hh (l : TA) (y : (ByteArray × Bool)) : Hp U := []
noncomputable def A : AFun U := mkA (U := U) pA pH (X := (ByteArray × Bool)) (fun (l : TA) => c l.1.1 l.1.2.1) sp1 v hh
noncomputable def body : Code := (Go.Func.body Try.f52).getD .skip
noncomputable def Γ : List (FuncId × AFun U) := []
noncomputable def Λ : List (Nat × LFun U) := [(2, Λ2)]
def D : Nat → Lv × Lv := dtab [(2, ⟨[10, 1, 8, 9], []⟩, ⟨[4, 5], []⟩)]
noncomputable def E : Env U := { E0 with Γ := Γ, Λ := Λ, C := [], D := D }
theorem hf2 (R : Type) (l : T2) (s : Int) (K : Ex → St U → Option R) : codeA E (pick (loopsOf body) 2) ⟨p2.mkL ((((), (l.1.2.1, ((), (l.1.2.2.2.1, (l.1.2.2.2.2.1, (s, ((), ()))))))), ()) : T2).1, q2.mkH ((((), (l.1.2.1, ((), (l.1.2.2.2.1, (l.1.2.2.2.2.1, (s, ((), ()))))))), ()) : T2).2, 0⟩ (roundK E (pick (loopsOf body) 2) K) =
  (l2 l.1.2.1 l.1.2.2.2.1 l.1.2.2.2.2.1 s).runK (lpK K (fun s => ⟨p2.mkL ((((), (l.1.2.1, ((), (l.1.2.2.2.1, (l.1.2.2.2.2.1, (s, ((), ()))))))), ()) : T2).1, q2.mkH ((((), (l.1.2.1, ((), (l.1.2.2.2.1, (l.1.2.2.2.2.1, (s, ((), ()))))))), ()) : T2).2, 0⟩) (spS sp1) (ou2 l)) := by kernel_rfl
theorem lk2 (R : Type) (st : St U) (K : Ex → St U → Option R) (r : R) (h : Λ2 R st K = some r) : ∃ n, loopA E (pick (loopsOf body) 2) n st K = some r :=
  lp_ok (U := U) (E := E) (b := pick (loopsOf body) 2) (m := 0) (sp := (spS sp1)) (p := p2) (q := q2) (X := (Unit ⊕ (ByteArray × Bool))) (S := Int) (f := fun (l : T2) s => l2 l.1.2.1 l.1.2.2.2.1 l.1.2.2.2.2.1 s) (hd := fun (l : T2) s => (((), (l.1.2.1, ((), (l.1.2.2.2.1, (l.1.2.2.2.2.1, (s, ((), ()))))))), ())) (s0 := fun (l : T2) => l.1.2.2.2.2.2.1) (ou := ou2)
    (fun l => rfl) (fun l x => by repeat' (first | rfl | (cases x with | inl => rfl | inr x => ?_))) (spS_ok sp1_ok) hf2 h
theorem hk (R : Type) (l : TA) (K : AV U → Hp U → Option R) : funcA E Try.f52 [] R (pA.mkL l.1) (pH.mkH l.2) K = (t l.1.1 l.1.2.1).runK fun y => K (v l y) (hh l y) := by kernel_rfl
theorem okF : SoundF Try.prog cc 52 (funcA E Try.f52 []) :=
  funcA_ok (E := E) P_mixed (E0_ok.with Γ Λ [] D) (gam_of all_nil) Try.func52 (c := body) (by kernel_rfl)
    (just_by (by kernel_rfl) (by kernel_rfl) (all_cons lk2 all_nil) all_nil) []
theorem ok : SoundF Try.prog cc 52 A :=
  mkA_ok (E := E) (p := pA) (q := pH) (t := fun (l : TA) => t l.1.1 l.1.2.1) sp1_ok hk okF
end item_Find

/-! instar/item.Right -/
namespace item_Right
abbrev TA : Type := (((List ItemV) × Unit) × Unit)
abbrev T2 : Type := (((List ItemV) × (Unit × ((List ItemV) × (Int × (Int × (Unit × Unit)))))) × Unit)
noncomputable def l2 (l_ : (List ItemV)) (k5 : (List ItemV)) (k6 : Int) (k7 : Int) : Tw (Int ⊕ (Unit ⊕ Bool)) :=
 (.bb (decide (k7 < k6))
  (.dd (((0 : Int) ≤ k7)) inferInstance
   (.opt (k5)[(Int.toNat k7)]? fun z1 =>
    (.bb (decide ((((ByteArray.size z1.data) : Nat) : Int) > (64 : Int)))
     (.ret (.inr (.inr false)))
     (.bb (decide (k7 > (0 : Int)))
      (.dd (((0 : Int) ≤ (w64 (k7 - (1 : Int))))) inferInstance
       (.opt (l_)[(Int.toNat (w64 (k7 - (1 : Int))))]? fun z2 =>
        (.bb (decide (z2.key ≥ z1.key))
         (.ret (.inr (.inr false)))
         (.ret (.inl (w64 (k7 + (1 : Int)))))))
       .no)
      (.ret (.inl (w64 (k7 + (1 : Int))))))))
   .no)
  (.ret (.inr (.inl ()))))
noncomputable def L2 (l_ : (List ItemV)) (k5 : (List ItemV)) (k6 : Int) (k7 : Int) : Option (Unit ⊕ Bool) := Lp (fun s => (l2 l_ k5 k6 s).run) k7
def p2 : Pt := (.cs (.sl 10) (.cs (.bots 4) (.cs (.sl 10) (.cs (.int .i64) (.cs (.int .i64) (.cs (.bots 24) .nl))))))
def q2 : Pt := .nl
def ou2 (l : T2) (y : (Unit ⊕ Bool)) : Ex × St U := (Sum.elim (fun a0 => (.exit 0, stOf 32 [] [] 0)) (fun b0 => (.ret, stOf 32 [(2, .im (.bool b0))] [] 0)) y)
noncomputable def Λ2 : LFun U := mkLp (U := U) p2 q2 0 (X := (Unit ⊕ Bool)) (fun (l : T2) => L2 l.1.1 l.1.2.2.1 l.1.2.2.2.1 l.1.2.2.2.2.1) (spS sp1) ou2
noncomputable def t (l_ : (List ItemV)) : Tw Bool :=
 (.opt (L2 l_ l_ (((List.length l_) : Nat) : Int) (0 : Int)) fun z3 =>
  (.sm z3
   (fun z4 => (.ret true))
   (fun z5 => (.ret z5))))
noncomputable def c (l_ : (List ItemV)) : Option Bool := (t l_).run
def pA : Pt := (.cs (.sl 10) .nl)
def pH : Pt := .nl
def v (l : TA) (y : Bool) : AV U := .im (.bool y)
def hh (l : TA) (y : Bool) : Hp U := []
noncomputable def A : AFun U := mkA (U := U) pA pH (X := Bool) (fun (l : TA) => c l.1.1) sp1 v hh
noncomputable def body : Code := (Go.Func.body Try.f53).getD .skip
noncomputable def Γ : List (FuncId × AFun U) := []
noncomputable def Λ : List (Nat × LFun U) := [(2, Λ2)]
def D : Nat → Lv × Lv := dtab [(2, ⟨[7, 0, 5, 6], []⟩, ⟨[2], []⟩)]
noncomputable def E : Env U := { E0 with Γ := Γ, Λ := Λ, C := [], D := D }
theorem hf2 (R : Type) (l : T2) (s : Int) (K : Ex → St U → Option R) : codeA E (pick (loopsOf body) 2) ⟨p2.mkL (((l.1.1, ((), (l.1.2.2.1, (l.1.2.2.2.1, (s, ((), ())))))), ()) : T2).1, q2.mkH (((l.1.1, ((), (l.1.2.2.1, (l.1.2.2.2.1, (s, ((), ())))))), ()) : T2).2, 0⟩ (roundK E (pick (loopsOf body) 2) K) =
  (l2 l.1.1 l.1.2.2.1 l.1.2.2.2.1 s).runK (lpK K (fun s => ⟨p2.mkL (((l.1.1, ((), (l.1.2.2.1, (l.1.2.2.2.1, (s, ((), ())))))), ()) : T2).1, q2.mkH (((l.1.1, ((), (l.1.2.2.1, (l.1.2.2.2.1, (s, ((), ())))))), ()) : T2).2, 0⟩) (spS sp1) (ou2 l)) := by kernel_rfl
theorem lk2 (R : Type) (st : St U) (K : Ex → St U → Option R) (r : R) (h : Λ2 R st K = some r) : ∃ n, loopA E (pick (loopsOf body) 2) n st K = some r :=
  lp_ok (U := U) (E := E) (b := pick (loopsOf body) 2) (m := 0) (sp := (spS sp1)) (p := p2) (q := q2) (X := (Unit ⊕ Bool)) (S := Int) (f := fun (l : T2) s => l2 l.1.1 l.1.2.2.1 l.1.2.2.2.1 s) (hd := fun (l : T2) s => ((l.1.1, ((), (l.1.2.2.1, (l.1.2.2.2.1, (s, ((), ())))))), ())) (s0 := fun (l : T2) => l.1.2.2.2.2.1) (ou := ou2)
    (fun l => rfl) (fun l x => by repeat' (first | rfl | (cases x with | inl => rfl | inr x => ?_))) (spS_ok sp1_ok) hf2 h
theorem hk (R : Type) (l : TA) (K : AV U → Hp U → Option R) : funcA E Try.f53 [] R (pA.mkL l.1) (pH.mkH l.2) K = (t l.1.1).runK fun y => K (v l y) (hh l y) := by kernel_rfl
theorem okF : SoundF Try.prog cc 53 (funcA E Try.f53 []) :=
  funcA_ok (E := E) P_mixed (E0_ok.with Γ Λ [] D) (gam_of all_nil) Try.func53 (c := body) (by kernel_rfl)
    (just_by (by kernel_rfl) (by kernel_rfl) (all_cons lk2 all_nil) all_nil) []
theorem ok : SoundF Try.prog cc 53 A :=
  mkA_ok (E := E) (p := pA) (q := pH) (t := fun (l : TA) => t l.1.1) sp1_ok hk okF
end item_Right

/-! instar/item.Same -/
namespace item_Same
abbrev TA : Type := (((List ItemV) × ((List ItemV) × Unit)) × Unit)
noncomputable def t (a : (List ItemV)) (b : (List ItemV)) : Tw Bool :=
 (.opt (slices_Equal__api_Itemapi_Item.c a b) fun z1 =>
  (.ret z1))
noncomputable def c (a : (List ItemV)) (b : (List ItemV)) : Option Bool := (t a b).run
def pA : Pt := (.cs (.sl 10) (.cs (.sl 10) .nl))
def pH : Pt := .nl
def v (l : TA) (y : Bool) : AV U := .im (.bool y)
def hh (l : TA) (y : Bool) : Hp U := []
noncomputable def A : AFun U := mkA (U := U) pA pH (X := Bool) (fun (l : TA) => c l.1.1 l.1.2.1) sp1 v hh
noncomputable def body : Code := (Go.Func.body Try.f66).getD .skip
noncomputable def Γ : List (FuncId × AFun U) := [(85, slices_Equal__api_Itemapi_Item.A)]
noncomputable def Λ : List (Nat × LFun U) := []
def D : Nat → Lv × Lv := dtab []
noncomputable def E : Env U := { E0 with Γ := Γ, Λ := Λ, C := [], D := D }
theorem hk (R : Type) (l : TA) (K : AV U → Hp U → Option R) : funcA E Try.f66 [] R (pA.mkL l.1) (pH.mkH l.2) K = (t l.1.1 l.1.2.1).runK fun y => K (v l y) (hh l y) := by kernel_rfl
theorem okF : SoundF Try.prog cc 66 (funcA E Try.f66 []) :=
  funcA_ok (E := E) P_mixed (E0_ok.with Γ Λ [] D) (gam_of (all_cons ⟨slices_Equal__api_Itemapi_Item.ok, ⟨Try.f85, Try.func85, by kernel_rfl, by kernel_rfl⟩⟩ all_nil)) Try.func66 (c := body) (by kernel_rfl)
    (just_by (by kernel_rfl) (by kernel_rfl) all_nil all_nil) []
theorem ok : SoundF Try.prog cc 66 A :=
  mkA_ok (E := E) (p := pA) (q := pH) (t := fun (l : TA) => t l.1.1 l.1.2.1) sp1_ok hk okF
end item_Same

/-! instar/item.own -/
namespace item_own
abbrev TA : Type := ((Int × Unit) × Unit)
noncomputable def t (k : Int) : Tw Bool :=
 (.ret ((bShr .u32 k (24 : Int)) == (0 : Int)))
noncomputable def c (k : Int) : Option Bool := (t k).run
def pA : Pt := (.cs (.int .u32) .nl)
def pH : Pt := .nl
def v (l : TA) (y : Bool) : AV U := .im (.bool y)
def hh (l : TA) (y : Bool) : Hp U := []
noncomputable def A : AFun U := mkA (U := U) pA pH (X := Bool) (fun (l : TA) => c l.1.1) sp1 v hh
noncomputable def body : Code := (Go.Func.body Try.f87).getD .skip
noncomputable def Γ : List (FuncId × AFun U) := []
noncomputable def Λ : List (Nat × LFun U) := []
def D : Nat → Lv × Lv := dtab []
noncomputable def E : Env U := { E0 with Γ := Γ, Λ := Λ, C := [], D := D }
theorem hk (R : Type) (l : TA) (K : AV U → Hp U → Option R) : funcA E Try.f87 [] R (pA.mkL l.1) (pH.mkH l.2) K = (t l.1.1).runK fun y => K (v l y) (hh l y) := by kernel_rfl
theorem okF : SoundF Try.prog cc 87 (funcA E Try.f87 []) :=
  funcA_ok (E := E) P_mixed (E0_ok.with Γ Λ [] D) (gam_of all_nil) Try.func87 (c := body) (by kernel_rfl)
    (just_by (by kernel_rfl) (by kernel_rfl) all_nil all_nil) []
theorem ok : SoundF Try.prog cc 87 A :=
  mkA_ok (E := E) (p := pA) (q := pH) (t := fun (l : TA) => t l.1.1) sp1_ok hk okF
end item_own

/-! instar/item.some -/
namespace item_some_of_item_own
abbrev TA : Type := (((List ItemV) × (Unit × Unit)) × Unit)
abbrev T3 : Type := ((Unit × (Unit × (Unit × (Unit × (Unit × ((List ItemV) × (Int × (Int × (Unit × Unit))))))))) × ((List ItemV) × Unit))
noncomputable def l3 (k8 : (List ItemV)) (k9 : Int) (k10 : Int) (h0 : (List ItemV)) : Tw ((Int × (List ItemV)) ⊕ (List ItemV)) :=
 (.bb (decide (k10 < k9))
  (.dd (((0 : Int) ≤ k10)) inferInstance
   (.opt (k8)[(Int.toNat k10)]? fun z1 =>
    (.opt (item_own.c z1.key) fun z2 =>
     (.bb z2
      (.dd ((((((List.length h0) + (List.length ((Go.Proofs.Ytadhnolgfhgepaa.Va.ItemV.mk z1.key z1.data) :: []))) * (24 : Nat)) ≤ (140737488355328 : Nat)) ∧ (((List.length h0) + (List.length ((Go.Proofs.Ytadhnolgfhgepaa.Va.ItemV.mk z1.key z1.data) :: []))) ≤ (140737488355328 : Nat)))) inferInstance
       (.ret (.inl ((w64 (k10 + (1 : Int))), (h0 ++ ((Go.Proofs.Ytadhnolgfhgepaa.Va.ItemV.mk z1.key z1.data) :: [])))))
       .no)
      (.ret (.inl ((w64 (k10 + (1 : Int))), h0))))))
   .no)
  (.ret (.inr h0)))
noncomputable def L3 (k8 : (List ItemV)) (k9 : Int) (k10 : Int) (h0 : (List ItemV)) : Option (List ItemV) := Lp (fun s => (l3 k8 k9 s.1 s.2).run) (k10, h0)
def p3 : Pt := (.cs (.bots 1) (.cs (.clo 87 .nl) (.cs (.bots 3) (.cs (.own 0) (.cs (.bots 2) (.cs (.sl 10) (.cs (.int .i64) (.cs (.int .i64) (.cs (.bots 13) .nl)))))))))
def q3 : Pt := (.cs (.row 10 true) .nl)
def ou3 (l : T3) (y : (List ItemV)) : Ex × St U := (.exit 0, stOf 24 [(5, .own 0)] [.row 10 y true] 0)
noncomputable def Λ3 : LFun U := mkLp (U := U) p3 q3 0 (X := (List ItemV)) (fun (l : T3) => L3 l.1.2.2.2.2.2.1 l.1.2.2.2.2.2.2.1 l.1.2.2.2.2.2.2.2.1 l.2.1) sp1 ou3
noncomputable def t (l_ : (List ItemV)) : Tw (List ItemV) :=
 (.opt (L3 l_ (((List.length l_) : Nat) : Int) (0 : Int) []) fun z3 =>
  (.ret z3))
noncomputable def c (l_ : (List ItemV)) : Option (List ItemV) := (t l_).run
def pA : Pt := (.cs (.sl 10) (.cs (.clo 87 .nl) .nl))
def pH : Pt := .nl
def v (l : TA) (y : (List ItemV)) : AV U := .own 0
def hh (l : TA) (y : (List ItemV)) : Hp U := [.row 10 y true]
noncomputable def A : AFun U := mkA (U := U) pA pH (X := (List ItemV)) (fun (l : TA) => c l.1.1) sp1 v hh
noncomputable def body : Code := (Go.Func.body Try.f79).getD .skip
noncomputable def Γ : List (FuncId × AFun U) := [(87, item_own.A)]
noncomputable def Λ : List (Nat × LFun U) := [(3, Λ3)]
def D : Nat → Lv × Lv := dtab [(3, ⟨[10, 5, 1, 8, 9], [(5, [], .own 10)]⟩, ⟨[4, 5], []⟩)]
noncomputable def E : Env U := { E0 with Γ := Γ, Λ := Λ, C := [], D := D }
theorem hf3 (R : Type) (l : T3) (s : (Int × (List ItemV))) (K : Ex → St U → Option R) : codeA E (pick (loopsOf body) 3) ⟨p3.mkL ((((), ((), ((), ((), ((), (l.1.2.2.2.2.2.1, (l.1.2.2.2.2.2.2.1, (s.1, ((), ()))))))))), (s.2, ())) : T3).1, q3.mkH ((((), ((), ((), ((), ((), (l.1.2.2.2.2.2.1, (l.1.2.2.2.2.2.2.1, (s.1, ((), ()))))))))), (s.2, ())) : T3).2, 0⟩ (roundK E (pick (loopsOf body) 3) K) =
  (l3 l.1.2.2.2.2.2.1 l.1.2.2.2.2.2.2.1 s.1 s.2).runK (lpK K (fun s => ⟨p3.mkL ((((), ((), ((), ((), ((), (l.1.2.2.2.2.2.1, (l.1.2.2.2.2.2.2.1, (s.1, ((), ()))))))))), (s.2, ())) : T3).1, q3.mkH ((((), ((), ((), ((), ((), (l.1.2.2.2.2.2.1, (l.1.2.2.2.2.2.2.1, (s.1, ((), ()))))))))), (s.2, ())) : T3).2, 0⟩) sp1 (ou3 l)) := by kernel_rfl
theorem lk3 (R : Type) (st : St U) (K : Ex → St U → Option R) (r : R) (h : Λ3 R st K = some r) : ∃ n, loopA E (pick (loopsOf body) 3) n st K = some r :=
  lp_ok (U := U) (E := E) (b := pick (loopsOf body) 3) (m := 0) (sp := sp1) (p := p3) (q := q3) (X := (List ItemV)) (S := (Int × (List ItemV))) (f := fun (l : T3) s => l3 l.1.2.2.2.2.2.1 l.1.2.2.2.2.2.2.1 s.1 s.2) (hd := fun (l : T3) s => (((), ((), ((), ((), ((), (l.1.2.2.2.2.2.1, (l.1.2.2.2.2.2.2.1, (s.1, ((), ()))))))))), (s.2, ()))) (s0 := fun (l : T3) => (l.1.2.2.2.2.2.2.2.1, l.2.1)) (ou := ou3)
    (fun l => rfl) (fun l x => by rfl) sp1_ok hf3 h
theorem hk (R : Type) (l : TA) (K : AV U → Hp U → Option R) : funcA E Try.f79 [] R (pA.mkL l.1) (pH.mkH l.2) K = (t l.1.1).runK fun y => K (v l y) (hh l y) := by kernel_rfl
theorem okF : SoundF Try.prog cc 79 (funcA E Try.f79 []) :=
  funcA_ok (E := E) P_mixed (E0_ok.with Γ Λ [] D) (gam_of (all_cons ⟨item_own.ok, ⟨Try.f87, Try.func87, by kernel_rfl, by kernel_rfl⟩⟩ all_nil)) Try.func79 (c := body) (by kernel_rfl)
    (just_by (by kernel_rfl) (by kernel_rfl) (all_cons lk3 all_nil) all_nil) []
theorem ok : SoundF Try.prog cc 79 A :=
  mkA_ok (E := E) (p := pA) (q := pH) (t := fun (l : TA) => t l.1.1) sp1_ok hk okF
end item_some_of_item_own

/-! instar/item.Mains -/
namespace item_Mains
abbrev TA : Type := (((List ItemV) × Unit) × Unit)
noncomputable def t (l_ : (List ItemV)) : Tw (List ItemV) :=
 (.opt (item_some_of_item_own.c l_) fun z1 =>
  (.ret z1))
noncomputable def c (l_ : (List ItemV)) : Option (List ItemV) := (t l_).run
def pA : Pt := (.cs (.sl 10) .nl)
def pH : Pt := .nl
def v (l : TA) (y : (List ItemV)) : AV U := .own 0
def hh (l : TA) (y : (List ItemV)) : Hp U := [.row 10 y true]
noncomputable def A : AFun U := mkA (U := U) pA pH (X := (List ItemV)) (fun (l : TA) => c l.1.1) sp1 v hh
noncomputable def body : Code := (Go.Func.body Try.f68).getD .skip
noncomputable def Γ : List (FuncId × AFun U) := [(79, item_some_of_item_own.A)]
noncomputable def Λ : List (Nat × LFun U) := []
def D : Nat → Lv × Lv := dtab []
noncomputable def E : Env U := { E0 with Γ := Γ, Λ := Λ, C := [], D := D }
theorem hk (R : Type) (l : TA) (K : AV U → Hp U → Option R) : funcA E Try.f68 [] R (pA.mkL l.1) (pH.mkH l.2) K = (t l.1.1).runK fun y => K (v l y) (hh l y) := by kernel_rfl
theorem okF : SoundF Try.prog cc 68 (funcA E Try.f68 []) :=
  funcA_ok (E := E) P_mixed (E0_ok.with Γ Λ [] D) (gam_of (all_cons ⟨item_some_of_item_own.ok, ⟨Try.f79, Try.func79, by kernel_rfl, by kernel_rfl⟩⟩ all_nil)) Try.func68 (c := body) (by kernel_rfl)
    (just_by (by kernel_rfl) (by kernel_rfl) all_nil all_nil) []
theorem ok : SoundF Try.prog cc 68 A :=
  mkA_ok (E := E) (p := pA) (q := pH) (t := fun (l : TA) => t l.1.1) sp1_ok hk okF
end item_Mains

/-! instar/item.Sides$1 -/
namespace item_Sides_1
abbrev TA : Type := ((Int × Unit) × Unit)
noncomputable def t (k : Int) : Tw Bool :=
 (.opt (item_own.c k) fun z1 =>
  (.ret (!z1)))
noncomputable def c (k : Int) : Option Bool := (t k).run
def pA : Pt := (.cs (.int .u32) .nl)
def pH : Pt := .nl
def v (l : TA) (y : Bool) : AV U := .im (.bool y)
def hh (l : TA) (y : Bool) : Hp U := []
noncomputable def A : AFun U := mkA (U := U) pA pH (X := Bool) (fun (l : TA) => c l.1.1) sp1 v hh
noncomputable def body : Code := (Go.Func.body Try.f88).getD .skip
noncomputable def Γ : List (FuncId × AFun U) := [(87, item_own.A)]
noncomputable def Λ : List (Nat × LFun U) := []
def D : Nat → Lv × Lv := dtab []
noncomputable def E : Env U := { E0 with Γ := Γ, Λ := Λ, C := [], D := D }
theorem hk (R : Type) (l : TA) (K : AV U → Hp U → Option R) : funcA E Try.f88 [] R (pA.mkL l.1) (pH.mkH l.2) K = (t l.1.1).runK fun y => K (v l y) (hh l y) := by kernel_rfl
theorem okF : SoundF Try.prog cc 88 (funcA E Try.f88 []) :=
  funcA_ok (E := E) P_mixed (E0_ok.with Γ Λ [] D) (gam_of (all_cons ⟨item_own.ok, ⟨Try.f87, Try.func87, by kernel_rfl, by kernel_rfl⟩⟩ all_nil)) Try.func88 (c := body) (by kernel_rfl)
    (just_by (by kernel_rfl) (by kernel_rfl) all_nil all_nil) []
theorem ok : SoundF Try.prog cc 88 A :=
  mkA_ok (E := E) (p := pA) (q := pH) (t := fun (l : TA) => t l.1.1) sp1_ok hk okF
end item_Sides_1

/-! instar/item.some -/
namespace item_some_of_item_Sides_1
abbrev TA : Type := (((List ItemV) × (Unit × Unit)) × Unit)
abbrev T3 : Type := ((Unit × (Unit × (Unit × (Unit × (Unit × ((List ItemV) × (Int × (Int × (Unit × Unit))))))))) × ((List ItemV) × Unit))
noncomputable def l3 (k8 : (List ItemV)) (k9 : Int) (k10 : Int) (h0 : (List ItemV)) : Tw ((Int × (List ItemV)) ⊕ (List ItemV)) :=
 (.bb (decide (k10 < k9))
  (.dd (((0 : Int) ≤ k10)) inferInstance
   (.opt (k8)[(Int.toNat k10)]? fun z1 =>
    (.opt (item_Sides_1.c z1.key) fun z2 =>
     (.bb z2
      (.dd ((((((List.length h0) + (List.length ((Go.Proofs.Ytadhnolgfhgepaa.Va.ItemV.mk z1.key z1.data) :: []))) * (24 : Nat)) ≤ (140737488355328 : Nat)) ∧ (((List.length h0) + (List.length ((Go.Proofs.Ytadhnolgfhgepaa.Va.ItemV.mk z1.key z1.data) :: []))) ≤ (140737488355328 : Nat)))) inferInstance
       (.ret (.inl ((w64 (k10 + (1 : Int))), (h0 ++ ((Go.Proofs.Ytadhnolgfhgepaa.Va.ItemV.mk z1.key z1.data) :: [])))))
       .no)
      (.ret (.inl ((w64 (k10 + (1 : Int))), h0))))))
   .no)
  (.ret (.inr h0)))
noncomputable def L3 (k8 : (List ItemV)) (k9 : Int) (k10 : Int) (h0 : (List ItemV)) : Option (List ItemV) := Lp (fun s => (l3 k8 k9 s.1 s.2).run) (k10, h0)
def p3 : Pt := (.cs (.bots 1) (.cs (.clo 88 .nl) (.cs (.bots 3) (.cs (.own 0) (.cs (.bots 2) (.cs (.sl 10) (.cs (.int .i64) (.cs (.int .i64) (.cs (.bots 13) .nl)))))))))
def q3 : Pt := (.cs (.row 10 true) .nl)
def ou3 (l : T3) (y : (List ItemV)) : Ex × St U := (.exit 0, stOf 24 [(5, .own 0)] [.row 10 y true] 0)
noncomputable def Λ3 : LFun U := mkLp (U := U) p3 q3 0 (X := (List ItemV)) (fun (l : T3) => L3 l.1.2.2.2.2.2.1 l.1.2.2.2.2.2.2.1 l.1.2.2.2.2.2.2.2.1 l.2.1) sp1 ou3
noncomputable def t (l_ : (List ItemV)) : Tw (List ItemV) :=
 (.opt (L3 l_ (((List.length l_) : Nat) : Int) (0 : Int) []) fun z3 =>
  (.ret z3))
noncomputable def c (l_ : (List ItemV)) : Option (List ItemV) := (t l_).run
def pA : Pt := (.cs (.sl 10) (.cs (.clo 88 .nl) .nl))
def pH : Pt := .nl
def v (l : TA) (y : (List ItemV)) : AV U := .own 0
def hh (l : TA) (y : (List ItemV)) : Hp U := [.row 10 y true]
noncomputable def A : AFun U := mkA (U := U) pA pH (X := (List ItemV)) (fun (l : TA) => c l.1.1) sp1 v hh
noncomputable def body : Code := (Go.Func.body Try.f79).getD .skip
noncomputable def Γ : List (FuncId × AFun U) := [(88, item_Sides_1.A)]
noncomputable def Λ : List (Nat × LFun U) := [(3, Λ3)]
def D : Nat → Lv × Lv := dtab [(3, ⟨[10, 5, 1, 8, 9], [(5, [], .own 10)]⟩, ⟨[4, 5], []⟩)]
noncomputable def E : Env U := { E0 with Γ := Γ, Λ := Λ, C := [], D := D }
theorem hf3 (R : Type) (l : T3) (s : (Int × (List ItemV))) (K : Ex → St U → Option R) : codeA E (pick (loopsOf body) 3) ⟨p3.mkL ((((), ((), ((), ((), ((), (l.1.2.2.2.2.2.1, (l.1.2.2.2.2.2.2.1, (s.1, ((), ()))))))))), (s.2, ())) : T3).1, q3.mkH ((((), ((), ((), ((), ((), (l.1.2.2.2.2.2.1, (l.1.2.2.2.2.2.2.1, (s.1, ((), ()))))))))), (s.2, ())) : T3).2, 0⟩ (roundK E (pick (loopsOf body) 3) K) =
  (l3 l.1.2.2.2.2.2.1 l.1.2.2.2.2.2.2.1 s.1 s.2).runK (lpK K (fun s => ⟨p3.mkL ((((), ((), ((), ((), ((), (l.1.2.2.2.2.2.1, (l.1.2.2.2.2.2.2.1, (s.1, ((), ()))))))))), (s.2, ())) : T3).1, q3.mkH ((((), ((), ((), ((), ((), (l.1.2.2.2.2.2.1, (l.1.2.2.2.2.2.2.1, (s.1, ((), ()))))))))), (s.2, ())) : T3).2, 0⟩) sp1 (ou3 l)) := by kernel_rfl
theorem lk3 (R : Type) (st : St U) (K : Ex → St U → Option R) (r : R) (h : Λ3 R st K = some r) : ∃ n, loopA E (pick (loopsOf body) 3) n st K = some r :=
  lp_ok (U := U) (E := E) (b := pick (loopsOf body) 3) (m := 0) (sp := sp1) (p := p3) (q := q3) (X := (List ItemV)) (S := (Int × (List ItemV))) (f := fun (l : T3) s => l3 l.1.2.2.2.2.2.1 l.1.2.2.2.2.2.2.1 s.1 s.2) (hd := fun (l : T3) s => (((), ((), ((), ((), ((), (l.1.2.2.2.2.2.1, (l.1.2.2.2.2.2.2.1, (s.1, ((), ()))))))))), (s.2, ()))) (s0 := fun (l : T3) => (l.1.2.2.2.2.2.2.2.1, l.2.1)) (ou := ou3)
    (fun l => rfl) (fun l x => by rfl) sp1_ok hf3 h
theorem hk (R : Type) (l : TA) (K : AV U → Hp U → Option R) : funcA E Try.f79 [] R (pA.mkL l.1) (pH.mkH l.2) K = (t l.1.1).runK fun y => K (v l y) (hh l y) := by kernel_rfl
theorem okF : SoundF Try.prog cc 79 (funcA E Try.f79 []) :=
  funcA_ok (E := E) P_mixed (E0_ok.with Γ Λ [] D) (gam_of (all_cons ⟨item_Sides_1.ok, ⟨Try.f88, Try.func88, by kernel_rfl, by kernel_rfl⟩⟩ all_nil)) Try.func79 (c := body) (by kernel_rfl)
    (just_by (by kernel_rfl) (by kernel_rfl) (all_cons lk3 all_nil) all_nil) []
theorem ok : SoundF Try.prog cc 79 A :=
  mkA_ok (E := E) (p := pA) (q := pH) (t := fun (l : TA) => t l.1.1) sp1_ok hk okF
end item_some_of_item_Sides_1

/-! instar/item.Sides -/
namespace item_Sides
abbrev TA : Type := (((List ItemV) × Unit) × Unit)
noncomputable def t (l_ : (List ItemV)) : Tw (List ItemV) :=
 (.opt (item_some_of_item_Sides_1.c l_) fun z1 =>
  (.ret z1))
noncomputable def c (l_ : (List ItemV)) : Option (List ItemV) := (t l_).run
def pA : Pt := (.cs (.sl 10) .nl)
def pH : Pt := .nl
def v (l : TA) (y : (List ItemV)) : AV U := .own 0
def hh (l : TA) (y : (List ItemV)) : Hp U := [.row 10 y true]
noncomputable def A : AFun U := mkA (U := U) pA pH (X := (List ItemV)) (fun (l : TA) => c l.1.1) sp1 v hh
noncomputable def body : Code := (Go.Func.body Try.f70).getD .skip
noncomputable def Γ : List (FuncId × AFun U) := [(79, item_some_of_item_Sides_1.A)]
noncomputable def Λ : List (Nat × LFun U) := []
def D : Nat → Lv × Lv := dtab []
noncomputable def E : Env U := { E0 with Γ := Γ, Λ := Λ, C := [], D := D }
theorem hk (R : Type) (l : TA) (K : AV U → Hp U → Option R) : funcA E Try.f70 [] R (pA.mkL l.1) (pH.mkH l.2) K = (t l.1.1).runK fun y => K (v l y) (hh l y) := by kernel_rfl
theorem okF : SoundF Try.prog cc 70 (funcA E Try.f70 []) :=
  funcA_ok (E := E) P_mixed (E0_ok.with Γ Λ [] D) (gam_of (all_cons ⟨item_some_of_item_Sides_1.ok, ⟨Try.f79, Try.func79, by kernel_rfl, by kernel_rfl⟩⟩ all_nil)) Try.func70 (c := body) (by kernel_rfl)
    (just_by (by kernel_rfl) (by kernel_rfl) all_nil all_nil) []
theorem ok : SoundF Try.prog cc 70 A :=
  mkA_ok (E := E) (p := pA) (q := pH) (t := fun (l : TA) => t l.1.1) sp1_ok hk okF
end item_Sides

end Go.Proofs.Ytadhnolgfhgepaa.Va
