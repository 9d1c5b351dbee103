/- The functions of package store, as plain functions, and that the program computes them. Printed by a program of this work out of the evaluator. -/
import Derived.Test.YtmlbioapefgioaaEn
import Derived.Tactics
import Derived.Test.YtmlbioapefgioaaFitem
import Derived.Test.YtmlbioapefgioaaFpack
import Derived.Test.YtmlbioapefgioaaFrecord
import Derived.Test.YtmlbioapefgioaaFschema
set_option linter.unusedVariables false
namespace Go.Proofs.Ytmlbioapefgioaa.Va
noncomputable section
open Go
set_option maxRecDepth 100000

/-! instar/store.asked -/
namespace store_asked
abbrev TA : Type := (((Int × ((List FormV) × Unit)) × (Int × (Int × Unit))) × Unit)
abbrev XA : Type := (Int × ((List FieldV) × (Int × Int)))
def t (s__0 : Int) (s__1 : (List FormV)) (form id : Int) : Tw XA :=
 (.opt (schema_Form.c s__0 s__1 form) fun z1 =>
 (.opt (item_Main.c form id) fun z2 =>
 (.bb (!z1.2.2)
 (.ret (z1.1, (z1.2.1, ((0 : Int), (2 : Int)))))
 (.bb (z2.2 != (0 : Int))
 (.ret (z1.1, (z1.2.1, ((0 : Int), (2 : Int)))))
 (.ret (z1.1, (z1.2.1, (z2.1, (0 : Int)))))))))
def c (s__0 : Int) (s__1 : (List FormV)) (form id : Int) : Option XA := (t s__0 s__1 form id).run
def tl (l : TA) : Tw XA := t l.1.1.1 l.1.1.2.1 l.1.2.1 l.1.2.2.1
def pA : Pt := (.cs (.agg (jC (.cs (.sl 28) .nl))) (jC (jC .nl)))
def pH : Pt := .nl
def v (l : TA) (y : XA) : AV U := .tup [.agg [jI y.1, .im (.slice 23 y.2.1)], .im (.int .u32 y.2.2.1), jI y.2.2.2]
def hh (l : TA) (y : XA) : Hp U := []
def A : AFun U := mkA pA pH (X := XA) (fun l => (tl l).run) sp1 v hh
def body := bodyOf Try.f81
def E : Env U := E0.mk5 [(94, schema_Form.A), (107, item_Main.A)] [] [] [] []
theorem hk : HK E Try.f81 [] pA pH tl v hh := fun _ _ _ => by kernel_rfl
theorem og : SoundF Try.prog cc 81 A ∧ FnOK Try.prog 81 :=
 og_of (E := E) P_mixed (E0_ok.mk5 _ _ _ _ _) (gam_of (all_cons schema_Form.og (all_cons item_Main.og all_nil)) no_ro) Try.func81 (c := body) (by kernel_rfl)
    (just_by (by kernel_rfl) (by kernel_rfl) all_nil all_nil) [] sp1_ok hk (by kernel_rfl)
end store_asked

/-! instar/store.Put -/
namespace store_Put_none1
abbrev TA : Type := (((Int × ((List FormV) × Unit)) × (Unit × (Int × (Int × ((Int × ((List ValueV) × Unit)) × Unit))))) × Unit)
abbrev XA : Type := (Int × (Int × (Int × (Int × (List (List ItemV))))))
def t (s__0 : Int) (s__1 : (List FormV)) (room id r_0 : Int) (r_1 : (List ValueV)) : Tw XA :=
 (.opt (store_asked.c s__0 s__1 r_0 id) fun z1 =>
 (.bb (z1.2.2.2 != (0 : Int))
 (.ret ((0 : Int), ((0 : Int), ((0 : Int), (z1.2.2.2, ([] : List (List ItemV)))))))
 (.opt (record_Lay.c z1.1 z1.2.1 r_0 r_1) fun z2 =>
 (.bb (z2.1 != (0 : Int))
 (.ret ((0 : Int), ((0 : Int), ((0 : Int), (z2.1, ([] : List (List ItemV)))))))
 (.opt (pack_Put_none0.c room z1.2.2.1 (Go.Proofs.Ytmlbioapefgioaa.Va.l2b z2.2)) fun z3 =>
 (.ret (z3.1, (z3.2.1, (z3.2.2.1, ((0 : Int), z3.2.2.2))))))))))
def c (s__0 : Int) (s__1 : (List FormV)) (room id r_0 : Int) (r_1 : (List ValueV)) : Option XA := (t s__0 s__1 room id r_0 r_1).run
def tl (l : TA) : Tw XA := t l.1.1.1 l.1.1.2.1 l.1.2.2.1 l.1.2.2.2.1 l.1.2.2.2.2.1.1 l.1.2.2.2.2.1.2.1
def pA : Pt := (.cs (.agg (jC (.cs (.sl 28) .nl))) (.cs .nils (jC (jC (.cs (.agg (jC (.cs (.sl 24) .nl))) .nl)))))
def pH : Pt := .nl
def v (l : TA) (y : XA) : AV U := .tup [.own 0, .agg [jI y.1, jI y.2.1, jI y.2.2.1], jI y.2.2.2.1]
def hh (l : TA) (y : XA) : Hp U := [.row 11 (d4 y) true]
def A : AFun U := mkA pA pH (X := XA) (fun l => (tl l).run) sp1 v hh
def body := bodyOf Try.f45
def E : Env U := E0.mk5 [(81, store_asked.A), (82, record_Lay.A), (26, pack_Put_none0.A)] [] [] [] []
theorem hk : HK E Try.f45 [(0, [], .own 11)] pA pH tl v hh := fun _ _ _ => by kernel_rfl
theorem og : SoundF Try.prog cc 45 A ∧ FnOK Try.prog 45 :=
 og_of (E := E) P_mixed (E0_ok.mk5 _ _ _ _ _) (gam_of (all_cons store_asked.og (all_cons record_Lay.og (all_cons pack_Put_none0.og all_nil))) no_ro) Try.func45 (c := body) (by kernel_rfl)
    (just_by (by kernel_rfl) (by kernel_rfl) all_nil all_nil) [(0, [], .own 11)] sp1_ok hk (by kernel_rfl)
end store_Put_none1

/-! instar/store.Delete -/
namespace store_Delete
abbrev TA : Type := (((Int × ((List FormV) × Unit)) × ((List (List ItemV)) × (Int × (Int × (Int × Unit))))) × Unit)
abbrev XA : Type := (Int × (Int × (Int × (Int × (List (List ItemV))))))
def t (s__0 : Int) (s__1 : (List FormV)) (l_ : (List (List ItemV))) (room form id : Int) : Tw XA :=
 (.opt (store_asked.c s__0 s__1 form id) fun z1 =>
 (.bb (z1.2.2.2 != (0 : Int))
 (.ret ((0 : Int), ((0 : Int), ((0 : Int), (z1.2.2.2, ([] : List (List ItemV)))))))
 (.opt (pack_Cut.c l_ room z1.2.2.1) fun z2 =>
 (.bb (!z2.2.2.2.1)
 (.ret ((0 : Int), ((0 : Int), ((0 : Int), ((8 : Int), ([] : List (List ItemV)))))))
 (.ret (z2.1, (z2.2.1, (z2.2.2.1, ((0 : Int), (d4 z2))))))))))
def c (s__0 : Int) (s__1 : (List FormV)) (l_ : (List (List ItemV))) (room form id : Int) : Option XA := (t s__0 s__1 l_ room form id).run
def tl (l : TA) : Tw XA := t l.1.1.1 l.1.1.2.1 l.1.2.1 l.1.2.2.1 l.1.2.2.2.1 (d4 l.1).1
def pA : Pt := (.cs (.agg (jC (.cs (.sl 28) .nl))) (.cs (.sl 11) (jC (jC (jC .nl)))))
def pH : Pt := .nl
def v (l : TA) (y : XA) : AV U := .tup [.own 0, .agg [jI y.1, jI y.2.1, jI y.2.2.1], jI y.2.2.2.1]
def hh (l : TA) (y : XA) : Hp U := [.row 11 (d4 y) true]
def A : AFun U := mkA pA pH (X := XA) (fun l => (tl l).run) sp1 v hh
def body := bodyOf Try.f44
def E : Env U := E0.mk5 [(81, store_asked.A), (24, pack_Cut.A)] [] [] [] []
theorem hk : HK E Try.f44 [(0, [], .own 11)] pA pH tl v hh := fun _ _ _ => by kernel_rfl
theorem og : SoundF Try.prog cc 44 A ∧ FnOK Try.prog 44 :=
 og_of (E := E) P_mixed (E0_ok.mk5 _ _ _ _ _) (gam_of (all_cons store_asked.og (all_cons pack_Cut.og all_nil)) no_ro) Try.func44 (c := body) (by kernel_rfl)
    (just_by (by kernel_rfl) (by kernel_rfl) all_nil all_nil) [(0, [], .own 11)] sp1_ok hk (by kernel_rfl)
end store_Delete

/-! instar/store.read -/
namespace store_read
abbrev TA : Type := (((Int × ((List FieldV) × Unit)) × (ByteArray × Unit)) × Unit)
abbrev XA : Type := (Int × (Int × (List ValueV)))
def t (f_0 : Int) (f_1 : (List FieldV)) (data : ByteArray) : Tw XA :=
 (.opt (record_Take.c f_0 f_1 (Go.Proofs.Ytmlbioapefgioaa.Va.b2l data)) fun z1 =>
 (.bb (z1.2.1 != (0 : Int))
 (.ret ((0 : Int), ((12 : Int), ([] : List (ValueV)))))
 (.ret (z1.1, ((0 : Int), z1.2.2)))))
def c (f_0 : Int) (f_1 : (List FieldV)) (data : ByteArray) : Option XA := (t f_0 f_1 data).run
def tl (l : TA) : Tw XA := t l.1.1.1 l.1.1.2.1 l.1.2.1
def pA : Pt := (.cs (.agg (jC (.cs (.sl 23) .nl))) (.cs .str .nl))
def pH : Pt := .nl
def v (l : TA) (y : XA) : AV U := .tup [.agg [jI y.1, .own 0], jI y.2.1]
def hh (l : TA) (y : XA) : Hp U := [.row 24 y.2.2 true]
def A : AFun U := mkA pA pH (X := XA) (fun l => (tl l).run) sp1 v hh
def body := bodyOf Try.f84
def E : Env U := E0.mk5 [(112, record_Take.A)] [] [] [] []
theorem hk : HK E Try.f84 [(0, [.cell 1], .own 24)] pA pH tl v hh := fun _ _ _ => by kernel_rfl
theorem og : SoundF Try.prog cc 84 A ∧ FnOK Try.prog 84 :=
 og_of (E := E) P_mixed (E0_ok.mk5 _ _ _ _ _) (gam_of (all_cons record_Take.og all_nil) no_ro) Try.func84 (c := body) (by kernel_rfl)
    (just_by (by kernel_rfl) (by kernel_rfl) all_nil all_nil) [(0, [.cell 1], .own 24)] sp1_ok hk (by kernel_rfl)
end store_read

/-! instar/store.Get -/
namespace store_Get
abbrev TA : Type := (((Int × ((List FormV) × Unit)) × ((List (List ItemV)) × (Int × (Int × Unit)))) × Unit)
abbrev XA : Type := (Int × (Int × (List ValueV)))
def t (s__0 : Int) (s__1 : (List FormV)) (l_ : (List (List ItemV))) (form id : Int) : Tw XA :=
 (.opt (store_asked.c s__0 s__1 form id) fun z1 =>
 (.bb (z1.2.2.2 != (0 : Int))
 (.ret ((0 : Int), (z1.2.2.2, ([] : List (ValueV)))))
 (.opt (pack_At.c l_ z1.2.2.1) fun z2 =>
 (.bb (decide (z2 < (0 : Int)))
 (.ret ((0 : Int), ((8 : Int), ([] : List (ValueV)))))
 (.dd (((0 : Int) ≤ z2)) inferInstance
 (.opt (l_)[(Int.toNat z2)]? fun z3 =>
 (.opt (item_Find.c z3 z1.2.2.1) fun z4 =>
 (.bb (!z4.2)
 (.ret ((0 : Int), ((8 : Int), ([] : List (ValueV)))))
 (.opt (store_read.c z1.1 z1.2.1 z4.1) fun z5 =>
 (.ret (z5.1, (z5.2.1, z5.2.2)))))))
 .no)))))
def c (s__0 : Int) (s__1 : (List FormV)) (l_ : (List (List ItemV))) (form id : Int) : Option XA := (t s__0 s__1 l_ form id).run
def tl (l : TA) : Tw XA := t l.1.1.1 l.1.1.2.1 l.1.2.1 l.1.2.2.1 l.1.2.2.2.1
def pA : Pt := (.cs (.agg (jC (.cs (.sl 28) .nl))) (.cs (.sl 11) (jC (jC .nl))))
def pH : Pt := .nl
def v (l : TA) (y : XA) : AV U := .tup [.agg [jI y.1, .own 0], jI y.2.1]
def hh (l : TA) (y : XA) : Hp U := [.row 24 y.2.2 true]
def A : AFun U := mkA pA pH (X := XA) (fun l => (tl l).run) sp1 v hh
def body := bodyOf Try.f46
def E : Env U := E0.mk5 [(81, store_asked.A), (22, pack_At.A), (83, item_Find.A), (84, store_read.A)] [] [] [] []
theorem hk : HK E Try.f46 [(0, [.cell 1], .own 24)] pA pH tl v hh := fun _ _ _ => by kernel_rfl
theorem og : SoundF Try.prog cc 46 A ∧ FnOK Try.prog 46 :=
 og_of (E := E) P_mixed (E0_ok.mk5 _ _ _ _ _) (gam_of (all_cons store_asked.og (all_cons pack_At.og (all_cons item_Find.og (all_cons store_read.og all_nil)))) no_ro) Try.func46 (c := body) (by kernel_rfl)
    (just_by (by kernel_rfl) (by kernel_rfl) all_nil all_nil) [(0, [.cell 1], .own 24)] sp1_ok hk (by kernel_rfl)
end store_Get

/-! instar/store.each$1 -/
namespace store_each_1
def t (l_ : (List (List ItemV))) : Tw (List ItemV) :=
 (.opt (pack_Flat.c l_) fun z1 =>
 (.opt (item_Mains.c z1) fun z2 =>
 (.ret z2)))
def c (l_ : (List (List ItemV))) : Option (List ItemV) := (t l_).run
def pA : Pt := (.cs (.ptr 0 0) .nl)
def pH : Pt := (.cs (.var (.cs (.sl 11) .nl)) .nl)
def A : AFun U := mkA pA pH (X := (List ItemV)) (fun l => c l.2.1.1) sp1 (fun l y => .im (.slice 10 y)) (fun l y => [.var [.im (.slice 11 l.2.1.1)]])
def body := bodyOf Try.f117
def Γ : List (FuncId × AFun U) := [(15, pack_Flat.A), (118, item_Mains.A)]
def E : Env U := { E0 with Γ := Γ, Λ := [], C := [], D := dtab [], ro := [] }
def k2 : Code := partB (partB (partB (partB body)))
def k3 : Code := partB (partA (partB k2))
def g0 : Code := partA body
def g1 : Code := partA (partB (partB (partB body)))
def g2 : Code := partA k3
def g3 : Code := partA (partB k3)
def g4 : Code := partB (partB k2)
def o0 : Array Oper := partO g0
def o1 : Array Oper := partO g1
def o2 : Array Oper := partO g2
def o3 : Array Oper := partO g3
def o4 : Array Oper := partO g4
def oc : Oper := (o3.toList[2]?).getD default
def ts : Array TypeId := #[36]
theorem hE : EnvOK Try.prog E := E0_ok.with Γ [] [] (dtab []) []
theorem hΓ : GamOK Try.prog E := gam_of (all_cons pack_Flat.og (all_cons item_Mains.og all_nil)) (all_cons (no_keep (by kernel_rfl)) (all_cons (no_keep (by kernel_rfl)) all_nil))
theorem h0 (l : List (List ItemV)) (ll : Nat) : opsA E o0.toList o0.toList (stOf 18 [(0, .yl ll), (1, .iptr [.slice 11 l] 0)] [] 0) [] (fun st _ => gc E.cc ⟨[0, 7, 8, 9], []⟩ st) = (t l).runK fun xs => some (stOf 18 [(0, .yl ll), (7, .own 0), (8, .im (.int .i64 (xs : List ItemV).length)), (9, jI 0)] [.row 10 xs true] 0) := by kernel_rfl
theorem h1 (xs : List ItemV) (i : Int) (ll : Nat) : opsA E o1.toList o1.toList (sB 10 ll xs i) [] (fun st _ => gc E.cc ⟨[0, 7, 8, 9, 10], []⟩ st) = some (stOf 18 [(0, .yl ll), (7, .im (.slice 10 xs)), (8, .im (.int .i64 (xs : List ItemV).length)), (9, jI i), (10, .im (.bool (decide (i < (xs : List ItemV).length))))] [] 0) := by kernel_rfl
theorem h2 (xs : List ItemV) (i : Int) (ll : Nat) : opsA E o2.toList o2.toList (sB 10 ll xs i) [] (fun st _ => gc E.cc ⟨[0, 4], []⟩ st) = (Tw.dd (0 ≤ i) inferInstance (.opt xs[i.toNat]? fun x => .ret x) .no).runK fun x => some (stOf 18 [(0, .yl ll), (4, .ptr 0 0)] [.var (((cc 10).enc x).map .im)] 0) := by kernel_rfl
theorem h3 (x : ItemV) (ll : Nat) : opsA E o3.toList (o3.toList.take 2) (stOf 18 [(0, .yl ll), (4, .ptr 0 0)] [.var (((cc 10).enc x).map .im)] 0) [] (fun st _ => gc E.cc ⟨[13, 14], []⟩ st) = some (stOf 18 [(13, .yl ll), (14, elV ((cc 10).enc x))] [] 0) := by kernel_rfl
theorem h5 (b : Bool) : opsA E o3.toList (o3.toList.drop 3) (stOf 18 [(15, jB b)] [] 0) [] (fun st _ => gc E.cc ⟨[16], []⟩ st) = some (stOf 18 [(16, .im (.bool (!b)))] [] 0) := by kernel_rfl
theorem h4 (xs : List ItemV) (i : Int) (ll : Nat) : opsA E o4.toList o4.toList (sB 10 ll xs i) [] (fun st _ => gc E.cc ⟨[0, 7, 8, 9], []⟩ st) = some (sB 10 ll xs (IntKind.wrap .i64 (i + 1))) := by kernel_rfl
theorem it : ItSound Try.prog cc 117 A :=
  each_sound (E := E) (T1 := 11) (T := 10) (c := c) (i0 := partN g0) (i1 := partN g1) (i2 := partN g2) (i3 := partN g3) (i4 := partN g4) (oc := oc) (ts := ts) hE hΓ Try.func117 (by kernel_rfl) (by kernel_rfl) (by kernel_rfl) (hE.cod 10 (Nat.zero_lt_succ _)) (by kernel_rfl)
    (fun l xs ll h => by rw [h0, Tw.runK_eq, show (t l).run = some xs from h]; rfl)
    h1 (fun xs i ll x h hx => by rw [h2, Tw.runK, if_pos h, hx]; rfl) h3 (by kernel_rfl) (by kernel_rfl) (by kernel_rfl) (by kernel_rfl) (by kernel_rfl) h5 h4 (by kernel_rfl)
theorem fo : FnOK Try.prog 117 := ⟨Try.f117, Try.func117, by kernel_rfl, by kernel_rfl⟩
end store_each_1

/-! instar/store.each -/
namespace store_each
abbrev TA : Type := (((List (List ItemV)) × Unit) × Unit)
def t (l_ : (List (List ItemV))) : Tw Unit :=
 (.ret ())
def c (l_ : (List (List ItemV))) : Option Unit := (t l_).run
def tl (l : TA) : Tw Unit := t l.1.1
def pA : Pt := (.cs (.sl 11) .nl)
def pH : Pt := .nl
def v (l : TA) (y : Unit) : AV U := .clo 117 [.ptr 0 0]
def hh (l : TA) (y : Unit) : Hp U := [.var [.im (.slice 11 l.1.1)]]
def A : AFun U := mkA pA pH (X := Unit) (fun l => (tl l).run) sp1 v hh
def body := bodyOf Try.f92
def E : Env U := E0.mk5 [] [] [] [] []
theorem hk : HK E Try.f92 [] pA pH tl v hh := fun _ _ _ => by kernel_rfl
theorem og : SoundF Try.prog cc 92 A ∧ FnOK Try.prog 92 :=
 og_of (E := E) P_mixed (E0_ok.mk5 _ _ _ _ _) (gam_of all_nil all_nil) Try.func92 (c := body) (by kernel_rfl)
    (just_by (by kernel_rfl) (by kernel_rfl) all_nil all_nil) [] sp1_ok hk (by kernel_rfl)
end store_each

/-! instar/store.All -/
namespace store_All
abbrev TA : Type := (((Int × ((List FormV) × Unit)) × ((List (List ItemV)) × Unit)) × Unit)
abbrev XA : Type := (Int × (List KeptV))
abbrev T3 : Type := ((Unit × (Unit × (Unit × (Unit × (Unit × (Unit × (Unit × (((List ItemV) × Int) × (Unit × Unit))))))))) × ((Int × ((List FormV) × Unit)) × ((Unit × Unit) × ((Int × Unit) × ((Unit × Unit) × ((List KeptV) × Unit))))))
abbrev S3 : Type := (Int × (List KeptV))
abbrev X3 : Type := ((List KeptV) ⊕ (Int × (List KeptV)))
def l3 (k16_l : (List ItemV)) (h0_0 : Int) (h0_1 : (List FormV)) (h2_0 k16_i : Int) (h4 : (List KeptV)) : Tw (S3 ⊕ X3) :=
 (.dd ((((0 : Int) ≤ k16_i) ∧ (k16_i < (((List.length k16_l) : Nat) : Int)))) inferInstance
 (.opt (k16_l)[(Int.toNat k16_i)]? fun z3 =>
 (.opt (item_Told.c z3.key) fun z4 =>
 (.opt (schema_Form.c h0_0 h0_1 z4.2.1) fun z5 =>
 (.opt (store_read.c z5.1 z5.2.1 z3.data) fun z6 =>
 (.bb (!z5.2.2)
 (.ret (.inr (.inr ((12 : Int), h4))))
 (.bb (z6.2.1 != (0 : Int))
 (.ret (.inr (.inr ((12 : Int), h4))))
 (.dd ((((((List.length h4) + (List.length ((Go.Proofs.Ytmlbioapefgioaa.Va.KeptV.mk z4.2.2 z6.1 z6.2.2) :: ([] : List (KeptV))))) * (40 : Nat)) ≤ (140737488355328 : Nat)) ∧ (((List.length h4) + (List.length ((Go.Proofs.Ytmlbioapefgioaa.Va.KeptV.mk z4.2.2 z6.1 z6.2.2) :: ([] : List (KeptV))))) ≤ (140737488355328 : Nat)))) inferInstance
 (.ret (.inl ((k16_i + (1 : Int)), (h4 ++ ((Go.Proofs.Ytmlbioapefgioaa.Va.KeptV.mk z4.2.2 z6.1 z6.2.2) :: ([] : List (KeptV)))))))
 .no)))))))
 (.ret (.inr (.inl h4))))
def L3 (k16_l : (List ItemV)) (k16_i h0_0 : Int) (h0_1 : (List FormV)) (h2_0 : Int) (h4 : (List KeptV)) : Option X3 := Lp (fun s => (l3 k16_l h0_0 h0_1 h2_0 s.1 s.2).run) (k16_i, h4)
def p3 : Pt := (.cs (.bots 2) (.cs (.ptr 0 0) (.cs (.bots 1) (.cs (.ptr 1 0) (.cs (.ptr 2 0) (.cs (.ptr 3 0) (.cs (.bots 9) (.cs (.gh 10) (.cs (.bots 34) .nl)))))))))
def q3 : Pt := (.cs (.var (jC (.cs (.sl 28) .nl))) (.cs (.var (.cs .nils .nl)) (.cs (.var (jC .nl)) (.cs (.var (.cs (.own 4) .nl)) (.cs (.row 30 true) .nl)))))
def ou3 (l : T3) (y : X3) : Ex × St U := (Sum.elim (fun a0 => (.exit 1000000, stOf 51 [(4, .ptr 0 0), (5, .ptr 1 0), (6, .ptr 2 0)] [.var [.im .nils], .var [jI l.2.2.2.1.1], .var [.own 3], .row 30 a0 true] 0)) (fun b0 => (.ret, stOf 51 [(4, .ptr 0 0), (5, .ptr 1 0), (6, .ptr 2 0)] [.var [.im .nils], .var [jI b0.1], .var [.own 3], .row 30 b0.2 true] 0)) y)
def Λ3 : LFun U := mkLp p3 q3 0 (X := X3) (fun (l : T3) => L3 l.1.2.2.2.2.2.2.2.1.1 l.1.2.2.2.2.2.2.2.1.2 l.2.1.1 l.2.1.2.1 l.2.2.2.1.1 (d4 l).2.1) (spS sp1) ou3
def hd3 (l : T3) (s : S3) : T3 := (((), ((), ((), ((), ((), ((), ((), ((l.1.2.2.2.2.2.2.2.1.1, s.1), ((), ()))))))))), ((l.2.1.1, (l.2.1.2.1, ())), (((), ()), ((l.2.2.2.1.1, ()), (((), ()), (s.2, ()))))))
def fl3 (l : T3) (s : S3) : Tw (S3 ⊕ X3) := l3 l.1.2.2.2.2.2.2.2.1.1 l.2.1.1 l.2.1.2.1 l.2.2.2.1.1 s.1 s.2
def t (s__0 : Int) (s__1 : (List FormV)) (l_ : (List (List ItemV))) : Tw XA :=
 (.opt (store_each.c l_) fun z1 =>
 (.opt (store_each_1.c l_) fun z2 =>
 (.opt (L3 z2 (0 : Int) s__0 s__1 (0 : Int) ([] : List (KeptV))) fun z7 =>
 (.sm z7
 (fun z8 => (.ret ((0 : Int), z8)))
 (fun z9 => (.ret (z9.1, ([] : List (KeptV)))))))))
def c (s__0 : Int) (s__1 : (List FormV)) (l_ : (List (List ItemV))) : Option XA := (t s__0 s__1 l_).run
def tl (l : TA) : Tw XA := t l.1.1.1 l.1.1.2.1 l.1.2.1
def pA : Pt := (.cs (.agg (jC (.cs (.sl 28) .nl))) (.cs (.sl 11) .nl))
def pH : Pt := .nl
def v (l : TA) (y : XA) : AV U := .tup [.own 0, jI y.1]
def hh (l : TA) (y : XA) : Hp U := [.row 30 y.2 true]
def A : AFun U := mkA pA pH (X := XA) (fun l => (tl l).run) sp1 v hh
def body := bodyOf Try.f52
def IT : List (FuncId × AFun U) := [(117, store_each_1.A)]
def Γ : List (FuncId × AFun U) := [(92, store_each.A), (93, item_Told.A), (94, schema_Form.A), (84, store_read.A)]
def Λ : List (Nat × LFun U) := [(3, Λ3)]
def CT : List (Nat × LFun U) := []
def ro : List FuncId := []
def D : Nat → Lv × Lv := dtab [(3, ⟨[16, 4, 5, 6, 2], [(6, [.to 0], .own 30)]⟩, ⟨[4, 5, 6], []⟩)]
def E : Env U := { E0 with Γ := Γ, Λ := Λ, C := CT, D := D, ro := ro, It := IT }
theorem hf3 : HF E (pick (loopsOf body) 3) p3 q3 0 fl3 hd3 (spS sp1) ou3 := fun _ _ _ _ => by kernel_rfl
theorem lk3 : LK E (pick (loopsOf body) 3) Λ3 := fun R st K r h =>
  lp_ok (E := E) (b := pick (loopsOf body) 3) (m := 0) (sp := (spS sp1)) (p := p3) (q := q3) (X := X3) (S := S3) (f := fl3) (hd := hd3) (s0 := fun (l : T3) => (l.1.2.2.2.2.2.2.2.1.2, (d4 l).2.1)) (ou := ou3)
    (fun l => rfl) (fun l x => by repeat' (first | rfl | (cases x with | inl => rfl | inr x => ?_))) (spS_ok sp1_ok) hf3 h
theorem hk : HK E Try.f52 [(0, [], .own 30)] pA pH tl v hh := fun _ _ _ => by kernel_rfl
theorem okF : SoundF Try.prog cc 52 (funcA E Try.f52 [(0, [], .own 30)]) :=
  funcA_ok (E := E) P_mixed ((E0_ok.with Γ Λ CT D ro).it IT) (gam_of (all_cons store_each.og (all_cons item_Told.og (all_cons schema_Form.og (all_cons store_read.og all_nil)))) no_ro (all_cons ⟨store_each_1.it, store_each_1.fo⟩ all_nil)) Try.func52 (c := body) (by kernel_rfl)
    (just_by (by kernel_rfl) (by kernel_rfl) (all_cons lk3 all_nil) all_nil) [(0, [], .own 30)]
theorem ok : SoundF Try.prog cc 52 A :=
  mkA_ok (E := E) (p := pA) (q := pH) (t := tl) sp1_ok hk okF
theorem fo : FnOK Try.prog 52 := ⟨Try.f52, Try.func52, by kernel_rfl, by kernel_rfl⟩
end store_All

end
end Go.Proofs.Ytmlbioapefgioaa.Va
