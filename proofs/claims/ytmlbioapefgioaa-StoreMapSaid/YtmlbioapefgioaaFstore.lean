/- The functions of package store, as plain functions, and that the program computes them. Printed by a program of this work out of the evaluator. -/
import Derived.Test.YtmlbioapefgioaaEn
import Derived.Tactics
import Derived.Test.YtmlbioapefgioaaFitem
import Derived.Test.YtmlbioapefgioaaFpack
import Derived.Test.YtmlbioapefgioaaFrecord
import Derived.Test.YtmlbioapefgioaaFschema
set_option linter.unusedVariables false
namespace Go.Proofs.Ytmlbioapefgioaa.Va
noncomputable section
open Go
set_option maxRecDepth 100000

/-! instar/store.asked -/
namespace store_asked
abbrev TA : Type := (((Int × ((List FormV) × Unit)) × (Int × (Int × Unit))) × Unit)
abbrev XA : Type := (Int × ((List FieldV) × (Int × Int)))
def t (s__0 : Int) (s__1 : (List FormV)) (form id : Int) : Tw XA :=
 (.opt (schema_Form.c s__0 s__1 form) fun z1 =>
 (.opt (item_Main.c form id) fun z2 =>
 (.bb (!z1.2.2)
 (.ret (z1.1, (z1.2.1, ((0 : Int), (2 : Int)))))
 (.bb (z2.2 != (0 : Int))
 (.ret (z1.1, (z1.2.1, ((0 : Int), (2 : Int)))))
 (.ret (z1.1, (z1.2.1, (z2.1, (0 : Int)))))))))
def c (s__0 : Int) (s__1 : (List FormV)) (form id : Int) : Option XA := (t s__0 s__1 form id).run
def tl (l : TA) : Tw XA := t l.1.1.1 l.1.1.2.1 l.1.2.1 l.1.2.2.1
def pA : Pt := (.cs (.agg (jC (.cs (.sl 28) .nl))) (jC (jC .nl)))
def pH : Pt := .nl
def v (l : TA) (y : XA) : AV U := .tup [.agg [jI y.1, .im (.slice 23 y.2.1)], .im (.int .u32 y.2.2.1), jI y.2.2.2]
def hh (l : TA) (y : XA) : Hp U := []
def A : AFun U := mkA pA pH (X := XA) (fun l => (tl l).run) sp1 v hh
def body := bodyOf Try.f81
def E : Env U := E0.mk5 [(94, schema_Form.A), (107, item_Main.A)] [] [] [] []
theorem hk : HK E Try.f81 [] pA pH tl v hh := fun _ _ _ => by kernel_rfl
theorem og : SoundF Try.prog cc 81 A ∧ FnOK Try.prog 81 :=
 og_of (E := E) P_mixed (E0_ok.mk5 _ _ _ _ _) (gam_of (all_cons schema_Form.og (all_cons item_Main.og all_nil)) no_ro) Try.func81 (c := body) (by kernel_rfl)
    (just_by (by kernel_rfl) (by kernel_rfl) all_nil all_nil) [] sp1_ok hk (by kernel_rfl)
end store_asked

/-! instar/store.Put -/
namespace store_Put_none1
abbrev TA : Type := (((Int × ((List FormV) × Unit)) × (Unit × (Int × (Int × ((Int × ((List ValueV) × Unit)) × Unit))))) × Unit)
abbrev XA : Type := (Int × (Int × (Int × (Int × (List (List ItemV))))))
def t (s__0 : Int) (s__1 : (List FormV)) (room id r_0 : Int) (r_1 : (List ValueV)) : Tw XA :=
 (.opt (store_asked.c s__0 s__1 r_0 id) fun z1 =>
 (.bb (z1.2.2.2 != (0 : Int))
 (.ret ((0 : Int), ((0 : Int), ((0 : Int), (z1.2.2.2, ([] : List (List ItemV)))))))
 (.opt (record_Lay.c z1.1 z1.2.1 r_0 r_1) fun z2 =>
 (.bb (z2.1 != (0 : Int))
 (.ret ((0 : Int), ((0 : Int), ((0 : Int), (z2.1, ([] : List (List ItemV)))))))
 (.opt (pack_Put_none0.c room z1.2.2.1 (Go.Proofs.Ytmlbioapefgioaa.Va.l2b z2.2)) fun z3 =>
 (.ret (z3.1, (z3.2.1, (z3.2.2.1, ((0 : Int), z3.2.2.2))))))))))
def c (s__0 : Int) (s__1 : (List FormV)) (room id r_0 : Int) (r_1 : (List ValueV)) : Option XA := (t s__0 s__1 room id r_0 r_1).run
def tl (l : TA) : Tw XA := t l.1.1.1 l.1.1.2.1 l.1.2.2.1 l.1.2.2.2.1 l.1.2.2.2.2.1.1 l.1.2.2.2.2.1.2.1
def pA : Pt := (.cs (.agg (jC (.cs (.sl 28) .nl))) (.cs .nils (jC (jC (.cs (.agg (jC (.cs (.sl 24) .nl))) .nl)))))
def pH : Pt := .nl
def v (l : TA) (y : XA) : AV U := .tup [.own 0, .agg [jI y.1, jI y.2.1, jI y.2.2.1], jI y.2.2.2.1]
def hh (l : TA) (y : XA) : Hp U := [.row 11 (d4 y) true]
def A : AFun U := mkA pA pH (X := XA) (fun l => (tl l).run) sp1 v hh
def body := bodyOf Try.f45
def E : Env U := E0.mk5 [(81, store_asked.A), (82, record_Lay.A), (26, pack_Put_none0.A)] [] [] [] []
theorem hk : HK E Try.f45 [(0, [], .own 11)] pA pH tl v hh := fun _ _ _ => by kernel_rfl
theorem og : SoundF Try.prog cc 45 A ∧ FnOK Try.prog 45 :=
 og_of (E := E) P_mixed (E0_ok.mk5 _ _ _ _ _) (gam_of (all_cons store_asked.og (all_cons record_Lay.og (all_cons pack_Put_none0.og all_nil))) no_ro) Try.func45 (c := body) (by kernel_rfl)
    (just_by (by kernel_rfl) (by kernel_rfl) all_nil all_nil) [(0, [], .own 11)] sp1_ok hk (by kernel_rfl)
end store_Put_none1

/-! instar/store.Put -/
namespace store_Put
abbrev TA : Type := (((Int × ((List FormV) × Unit)) × ((List (List ItemV)) × (Int × (Int × ((Int × ((List ValueV) × Unit)) × Unit))))) × Unit)
abbrev XA : Type := (Int × (Int × (Int × (Int × (List (List ItemV))))))
def t (s__0 : Int) (s__1 : (List FormV)) (l_ : (List (List ItemV))) (room id r_0 : Int) (r_1 : (List ValueV)) : Tw XA :=
 (.opt (store_asked.c s__0 s__1 r_0 id) fun z1 =>
 (.bb (z1.2.2.2 != (0 : Int))
 (.ret ((0 : Int), ((0 : Int), ((0 : Int), (z1.2.2.2, ([] : List (List ItemV)))))))
 (.opt (record_Lay.c z1.1 z1.2.1 r_0 r_1) fun z2 =>
 (.bb (z2.1 != (0 : Int))
 (.ret ((0 : Int), ((0 : Int), ((0 : Int), (z2.1, ([] : List (List ItemV)))))))
 (.opt (pack_Put.c l_ room z1.2.2.1 (Go.Proofs.Ytmlbioapefgioaa.Va.l2b z2.2)) fun z3 =>
 (.ret (z3.1, (z3.2.1, (z3.2.2.1, ((0 : Int), z3.2.2.2))))))))))
def c (s__0 : Int) (s__1 : (List FormV)) (l_ : (List (List ItemV))) (room id r_0 : Int) (r_1 : (List ValueV)) : Option XA := (t s__0 s__1 l_ room id r_0 r_1).run
def tl (l : TA) : Tw XA := t l.1.1.1 l.1.1.2.1 l.1.2.1 l.1.2.2.1 l.1.2.2.2.1 l.1.2.2.2.2.1.1 l.1.2.2.2.2.1.2.1
def pA : Pt := (.cs (.agg (jC (.cs (.sl 28) .nl))) (.cs (.sl 11) (jC (jC (.cs (.agg (jC (.cs (.sl 24) .nl))) .nl)))))
def pH : Pt := .nl
def v (l : TA) (y : XA) : AV U := .tup [.own 0, .agg [jI y.1, jI y.2.1, jI y.2.2.1], jI y.2.2.2.1]
def hh (l : TA) (y : XA) : Hp U := [.row 11 (d4 y) true]
def A : AFun U := mkA pA pH (X := XA) (fun l => (tl l).run) sp1 v hh
def body := bodyOf Try.f45
def E : Env U := E0.mk5 [(81, store_asked.A), (82, record_Lay.A), (26, pack_Put.A)] [] [] [] []
theorem hk : HK E Try.f45 [(0, [], .own 11)] pA pH tl v hh := fun _ _ _ => by kernel_rfl
theorem og : SoundF Try.prog cc 45 A ∧ FnOK Try.prog 45 :=
 og_of (E := E) P_mixed (E0_ok.mk5 _ _ _ _ _) (gam_of (all_cons store_asked.og (all_cons record_Lay.og (all_cons pack_Put.og all_nil))) no_ro) Try.func45 (c := body) (by kernel_rfl)
    (just_by (by kernel_rfl) (by kernel_rfl) all_nil all_nil) [(0, [], .own 11)] sp1_ok hk (by kernel_rfl)
end store_Put

/-! instar/store.Delete -/
namespace store_Delete
abbrev TA : Type := (((Int × ((List FormV) × Unit)) × ((List (List ItemV)) × (Int × (Int × (Int × Unit))))) × Unit)
abbrev XA : Type := (Int × (Int × (Int × (Int × (List (List ItemV))))))
def t (s__0 : Int) (s__1 : (List FormV)) (l_ : (List (List ItemV))) (room form id : Int) : Tw XA :=
 (.opt (store_asked.c s__0 s__1 form id) fun z1 =>
 (.bb (z1.2.2.2 != (0 : Int))
 (.ret ((0 : Int), ((0 : Int), ((0 : Int), (z1.2.2.2, ([] : List (List ItemV)))))))
 (.opt (pack_Cut.c l_ room z1.2.2.1) fun z2 =>
 (.bb (!z2.2.2.2.1)
 (.ret ((0 : Int), ((0 : Int), ((0 : Int), ((8 : Int), ([] : List (List ItemV)))))))
 (.ret (z2.1, (z2.2.1, (z2.2.2.1, ((0 : Int), (d4 z2))))))))))
def c (s__0 : Int) (s__1 : (List FormV)) (l_ : (List (List ItemV))) (room form id : Int) : Option XA := (t s__0 s__1 l_ room form id).run
def tl (l : TA) : Tw XA := t l.1.1.1 l.1.1.2.1 l.1.2.1 l.1.2.2.1 l.1.2.2.2.1 (d4 l.1).1
def pA : Pt := (.cs (.agg (jC (.cs (.sl 28) .nl))) (.cs (.sl 11) (jC (jC (jC .nl)))))
def pH : Pt := .nl
def v (l : TA) (y : XA) : AV U := .tup [.own 0, .agg [jI y.1, jI y.2.1, jI y.2.2.1], jI y.2.2.2.1]
def hh (l : TA) (y : XA) : Hp U := [.row 11 (d4 y) true]
def A : AFun U := mkA pA pH (X := XA) (fun l => (tl l).run) sp1 v hh
def body := bodyOf Try.f44
def E : Env U := E0.mk5 [(81, store_asked.A), (24, pack_Cut.A)] [] [] [] []
theorem hk : HK E Try.f44 [(0, [], .own 11)] pA pH tl v hh := fun _ _ _ => by kernel_rfl
theorem og : SoundF Try.prog cc 44 A ∧ FnOK Try.prog 44 :=
 og_of (E := E) P_mixed (E0_ok.mk5 _ _ _ _ _) (gam_of (all_cons store_asked.og (all_cons pack_Cut.og all_nil)) no_ro) Try.func44 (c := body) (by kernel_rfl)
    (just_by (by kernel_rfl) (by kernel_rfl) all_nil all_nil) [(0, [], .own 11)] sp1_ok hk (by kernel_rfl)
end store_Delete

/-! instar/store.read -/
namespace store_read
abbrev TA : Type := (((Int × ((List FieldV) × Unit)) × (ByteArray × Unit)) × Unit)
abbrev XA : Type := (Int × (Int × (List ValueV)))
def t (f_0 : Int) (f_1 : (List FieldV)) (data : ByteArray) : Tw XA :=
 (.opt (record_Take.c f_0 f_1 (Go.Proofs.Ytmlbioapefgioaa.Va.b2l data)) fun z1 =>
 (.bb (z1.2.1 != (0 : Int))
 (.ret ((0 : Int), ((12 : Int), ([] : List (ValueV)))))
 (.ret (z1.1, ((0 : Int), z1.2.2)))))
def c (f_0 : Int) (f_1 : (List FieldV)) (data : ByteArray) : Option XA := (t f_0 f_1 data).run
def tl (l : TA) : Tw XA := t l.1.1.1 l.1.1.2.1 l.1.2.1
def pA : Pt := (.cs (.agg (jC (.cs (.sl 23) .nl))) (.cs .str .nl))
def pH : Pt := .nl
def v (l : TA) (y : XA) : AV U := .tup [.agg [jI y.1, .own 0], jI y.2.1]
def hh (l : TA) (y : XA) : Hp U := [.row 24 y.2.2 true]
def A : AFun U := mkA pA pH (X := XA) (fun l => (tl l).run) sp1 v hh
def body := bodyOf Try.f84
def E : Env U := E0.mk5 [(112, record_Take.A)] [] [] [] []
theorem hk : HK E Try.f84 [(0, [.cell 1], .own 24)] pA pH tl v hh := fun _ _ _ => by kernel_rfl
theorem og : SoundF Try.prog cc 84 A ∧ FnOK Try.prog 84 :=
 og_of (E := E) P_mixed (E0_ok.mk5 _ _ _ _ _) (gam_of (all_cons record_Take.og all_nil) no_ro) Try.func84 (c := body) (by kernel_rfl)
    (just_by (by kernel_rfl) (by kernel_rfl) all_nil all_nil) [(0, [.cell 1], .own 24)] sp1_ok hk (by kernel_rfl)
end store_read

/-! instar/store.Get -/
namespace store_Get
abbrev TA : Type := (((Int × ((List FormV) × Unit)) × ((List (List ItemV)) × (Int × (Int × Unit)))) × Unit)
abbrev XA : Type := (Int × (Int × (List ValueV)))
def t (s__0 : Int) (s__1 : (List FormV)) (l_ : (List (List ItemV))) (form id : Int) : Tw XA :=
 (.opt (store_asked.c s__0 s__1 form id) fun z1 =>
 (.bb (z1.2.2.2 != (0 : Int))
 (.ret ((0 : Int), (z1.2.2.2, ([] : List (ValueV)))))
 (.opt (pack_At.c l_ z1.2.2.1) fun z2 =>
 (.bb (decide (z2 < (0 : Int)))
 (.ret ((0 : Int), ((8 : Int), ([] : List (ValueV)))))
 (.dd (((0 : Int) ≤ z2)) inferInstance
 (.opt (l_)[(Int.toNat z2)]? fun z3 =>
 (.opt (item_Find.c z3 z1.2.2.1) fun z4 =>
 (.bb (!z4.2)
 (.ret ((0 : Int), ((8 : Int), ([] : List (ValueV)))))
 (.opt (store_read.c z1.1 z1.2.1 z4.1) fun z5 =>
 (.ret (z5.1, (z5.2.1, z5.2.2)))))))
 .no)))))
def c (s__0 : Int) (s__1 : (List FormV)) (l_ : (List (List ItemV))) (form id : Int) : Option XA := (t s__0 s__1 l_ form id).run
def tl (l : TA) : Tw XA := t l.1.1.1 l.1.1.2.1 l.1.2.1 l.1.2.2.1 l.1.2.2.2.1
def pA : Pt := (.cs (.agg (jC (.cs (.sl 28) .nl))) (.cs (.sl 11) (jC (jC .nl))))
def pH : Pt := .nl
def v (l : TA) (y : XA) : AV U := .tup [.agg [jI y.1, .own 0], jI y.2.1]
def hh (l : TA) (y : XA) : Hp U := [.row 24 y.2.2 true]
def A : AFun U := mkA pA pH (X := XA) (fun l => (tl l).run) sp1 v hh
def body := bodyOf Try.f46
def E : Env U := E0.mk5 [(81, store_asked.A), (22, pack_At.A), (83, item_Find.A), (84, store_read.A)] [] [] [] []
theorem hk : HK E Try.f46 [(0, [.cell 1], .own 24)] pA pH tl v hh := fun _ _ _ => by kernel_rfl
theorem og : SoundF Try.prog cc 46 A ∧ FnOK Try.prog 46 :=
 og_of (E := E) P_mixed (E0_ok.mk5 _ _ _ _ _) (gam_of (all_cons store_asked.og (all_cons pack_At.og (all_cons item_Find.og (all_cons store_read.og all_nil)))) no_ro) Try.func46 (c := body) (by kernel_rfl)
    (just_by (by kernel_rfl) (by kernel_rfl) all_nil all_nil) [(0, [.cell 1], .own 24)] sp1_ok hk (by kernel_rfl)
end store_Get

end
end Go.Proofs.Ytmlbioapefgioaa.Va
