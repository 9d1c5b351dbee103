/- The functions of package book, as plain functions, and that the program computes them. Printed by a program of this work out of the evaluator. -/
import Derived.Test.YtkoidgjgdhpdnaaEn
import Derived.Tactics
import Derived.Test.YtkoidgjgdhpdnaaFjournal
import Derived.Test.YtkoidgjgdhpdnaaFslices
set_option linter.unusedVariables false
namespace Go.Proofs.Ytkoidgjgdhpdnaa.Va
noncomputable section
open Go
set_option maxRecDepth 100000

/-! instar/book.in -/
namespace book_in
abbrev TA : Type := ((Int × (Int × (Int × Unit))) × Unit)
def t (n lo hi : Int) : Tw Bool :=
 (.bb (decide (n ≥ lo))
 (.ret (decide (n ≤ hi)))
 (.ret false))
def c (n lo hi : Int) : Option Bool := (t n lo hi).run
def tl (l : TA) : Tw Bool := t l.1.1 l.1.2.1 l.1.2.2.1
def pA : Pt := (jC (jC (jC .nl)))
def pH : Pt := .nl
def v (l : TA) (y : Bool) : AV U := jB y
def hh (l : TA) (y : Bool) : Hp U := []
def A : AFun U := mkA pA pH (X := Bool) (fun l => (tl l).run) sp1 v hh
def body := bodyOf Try.f68
def E : Env U := E0.mk5 [] [] [] [] []
theorem hk : HK E Try.f68 [] pA pH tl v hh := fun _ _ _ => by kernel_rfl
theorem og : SoundF Try.prog cc 68 A ∧ FnOK Try.prog 68 :=
 og_of (E := E) P_mixed (E0_ok.mk5 _ _ _ _ _) (gam_of all_nil all_nil) Try.func68 (c := body) (by kernel_rfl)
    (just_by (by kernel_rfl) (by kernel_rfl) all_nil all_nil) [] sp1_ok hk (by kernel_rfl)
end book_in

/-! instar/book.there -/
namespace book_there
abbrev TA : Type := (((Int × (Int × (Int × (Int × (Int × (Int × (Int × (Int × (Int × (Int × (Int × Unit))))))))))) × Unit) × Unit)
def t (c__0 c__1 c__2 c__3 c__4 c__5 c__6 c__7 c__8 c__9 c__10 : Int) : Tw Bool :=
 (.opt (book_in.c c__0 (1 : Int) (65535 : Int)) fun z1 =>
 (.bb z1
 (.opt (book_in.c c__1 (1 : Int) (65535 : Int)) fun z2 =>
 (.bb z2
 (.opt (book_in.c c__2 (1 : Int) (131072 : Int)) fun z3 =>
 (.ret z3))
 (.ret false)))
 (.ret false)))
def c (c__0 c__1 c__2 c__3 c__4 c__5 c__6 c__7 c__8 c__9 c__10 : Int) : Option Bool := (t c__0 c__1 c__2 c__3 c__4 c__5 c__6 c__7 c__8 c__9 c__10).run
def tl (l : TA) : Tw Bool := t l.1.1.1 l.1.1.2.1 l.1.1.2.2.1 l.1.1.2.2.2.1 (d4 l.1.1).1 (d4 l.1.1).2.1 (d4 l.1.1).2.2.1 (d4 l.1.1).2.2.2.1 (d8 l.1.1).1 (d8 l.1.1).2.1 (d8 l.1.1).2.2.1
def pA : Pt := (.cs (.agg (jC (jC (jC (.cs (.int .u32) (.cs (.int .u32) (.cs (.int .u32) (.cs (.int .u32) (.cs (.int .u32) (.cs (.int .u32) (.cs (.int .u32) (.cs (.int .u32) .nl)))))))))))) .nl)
def pH : Pt := .nl
def v (l : TA) (y : Bool) : AV U := jB y
def hh (l : TA) (y : Bool) : Hp U := []
def A : AFun U := mkA pA pH (X := Bool) (fun l => (tl l).run) sp1 v hh
def body := bodyOf Try.f69
def E : Env U := E0.mk5 [(68, book_in.A)] [] [] [] []
theorem hk : HK E Try.f69 [] pA pH tl v hh := fun _ _ _ => by kernel_rfl
theorem og : SoundF Try.prog cc 69 A ∧ FnOK Try.prog 69 :=
 og_of (E := E) P_mixed (E0_ok.mk5 _ _ _ _ _) (gam_of (all_cons book_in.og all_nil) no_ro) Try.func69 (c := body) (by kernel_rfl)
    (just_by (by kernel_rfl) (by kernel_rfl) all_nil all_nil) [] sp1_ok hk (by kernel_rfl)
end book_there

/-! instar/book.both -/
namespace book_both
abbrev TA : Type := (((Int × (Int × (Int × (Bool × (Int × (Int × (Int × (Int × (Int × (Int × (Int × (Int × (Int × (Int × (Int × (Int × (Int × (Int × (Int × (Int × (Int × (Int × (Int × (Int × (Int × (Int × (Int × (Int × (Int × (Int × (Int × Unit))))))))))))))))))))))))))))))) × Unit) × Unit)
def t (s__0 s__1 s__2 : Int) (s__3 : Bool) (s__4 s__5 s__6 s__7 s__8 s__9 s__10 s__11 s__12 s__13 s__14 s__15 s__16 s__17 s__18 s__19 s__20 s__21 s__22 s__23 s__24 s__25 s__26 s__27 s__28 s__29 s__30 : Int) : Tw Bool :=
 (.opt (book_in.c s__29 (0 : Int) (127 : Int)) fun z1 =>
 (.bb z1
 (.opt (book_in.c s__30 (1 : Int) (1073741823 : Int)) fun z2 =>
 (.bb z2
 (.ret (s__29 != s__27))
 (.ret false)))
 (.ret false)))
def c (s__0 s__1 s__2 : Int) (s__3 : Bool) (s__4 s__5 s__6 s__7 s__8 s__9 s__10 s__11 s__12 s__13 s__14 s__15 s__16 s__17 s__18 s__19 s__20 s__21 s__22 s__23 s__24 s__25 s__26 s__27 s__28 s__29 s__30 : Int) : Option Bool := (t s__0 s__1 s__2 s__3 s__4 s__5 s__6 s__7 s__8 s__9 s__10 s__11 s__12 s__13 s__14 s__15 s__16 s__17 s__18 s__19 s__20 s__21 s__22 s__23 s__24 s__25 s__26 s__27 s__28 s__29 s__30).run
def tl (l : TA) : Tw Bool := t l.1.1.1 l.1.1.2.1 l.1.1.2.2.1 l.1.1.2.2.2.1 (d4 l.1.1).1 (d4 l.1.1).2.1 (d4 l.1.1).2.2.1 (d4 l.1.1).2.2.2.1 (d8 l.1.1).1 (d8 l.1.1).2.1 (d8 l.1.1).2.2.1 (d8 l.1.1).2.2.2.1 (d12 l.1.1).1 (d12 l.1.1).2.1 (d12 l.1.1).2.2.1 (d12 l.1.1).2.2.2.1 (d16 l.1.1).1 (d16 l.1.1).2.1 (d16 l.1.1).2.2.1 (d16 l.1.1).2.2.2.1 (d20 l.1.1).1 (d20 l.1.1).2.1 (d20 l.1.1).2.2.1 (d20 l.1.1).2.2.2.1 (d24 l.1.1).1 (d24 l.1.1).2.1 (d24 l.1.1).2.2.1 (d24 l.1.1).2.2.2.1 (d28 l.1.1).1 (d28 l.1.1).2.1 (d28 l.1.1).2.2.1
def pA : Pt := (.cs (.agg (jC (jC (jC (.cs .bool (jC (jC (jC (jC (.cs (.int .u32) (.cs (.int .u32) (.cs (.int .u32) (.cs (.int .u32) (.cs (.int .u32) (.cs (.int .u32) (.cs (.int .u32) (.cs (.int .u32) (jC (jC (jC (.cs (.int .u32) (.cs (.int .u32) (.cs (.int .u32) (.cs (.int .u32) (.cs (.int .u32) (.cs (.int .u32) (.cs (.int .u32) (.cs (.int .u32) (jC (jC (jC (jC .nl)))))))))))))))))))))))))))))))) .nl)
def pH : Pt := .nl
def v (l : TA) (y : Bool) : AV U := jB y
def hh (l : TA) (y : Bool) : Hp U := []
def A : AFun U := mkA pA pH (X := Bool) (fun l => (tl l).run) sp1 v hh
def body := bodyOf Try.f72
def E : Env U := E0.mk5 [(68, book_in.A)] [] [] [] []
theorem hk : HK E Try.f72 [] pA pH tl v hh := fun _ _ _ => by kernel_rfl
theorem og : SoundF Try.prog cc 72 A ∧ FnOK Try.prog 72 :=
 og_of (E := E) P_mixed (E0_ok.mk5 _ _ _ _ _) (gam_of (all_cons book_in.og all_nil) no_ro) Try.func72 (c := body) (by kernel_rfl)
    (just_by (by kernel_rfl) (by kernel_rfl) all_nil all_nil) [] sp1_ok hk (by kernel_rfl)
end book_both

/-! instar/book.none -/
namespace book_none
abbrev TA : Type := (((Int × (Int × (Int × (Int × (Int × (Int × (Int × (Int × (Int × (Int × (Int × Unit))))))))))) × Unit) × Unit)
def t (c__0 c__1 c__2 c__3 c__4 c__5 c__6 c__7 c__8 c__9 c__10 : Int) : Tw Bool :=
 (.ret ((c__0 == (0 : Int)) && ((c__1 == (0 : Int)) && ((c__2 == (0 : Int)) && ((c__3 == (0 : Int)) && ((c__4 == (0 : Int)) && ((c__5 == (0 : Int)) && ((c__6 == (0 : Int)) && ((c__7 == (0 : Int)) && ((c__8 == (0 : Int)) && ((c__9 == (0 : Int)) && ((c__10 == (0 : Int)) && true))))))))))))
def c (c__0 c__1 c__2 c__3 c__4 c__5 c__6 c__7 c__8 c__9 c__10 : Int) : Option Bool := (t c__0 c__1 c__2 c__3 c__4 c__5 c__6 c__7 c__8 c__9 c__10).run
def tl (l : TA) : Tw Bool := t l.1.1.1 l.1.1.2.1 l.1.1.2.2.1 l.1.1.2.2.2.1 (d4 l.1.1).1 (d4 l.1.1).2.1 (d4 l.1.1).2.2.1 (d4 l.1.1).2.2.2.1 (d8 l.1.1).1 (d8 l.1.1).2.1 (d8 l.1.1).2.2.1
def pA : Pt := (.cs (.agg (jC (jC (jC (.cs (.int .u32) (.cs (.int .u32) (.cs (.int .u32) (.cs (.int .u32) (.cs (.int .u32) (.cs (.int .u32) (.cs (.int .u32) (.cs (.int .u32) .nl)))))))))))) .nl)
def pH : Pt := .nl
def v (l : TA) (y : Bool) : AV U := jB y
def hh (l : TA) (y : Bool) : Hp U := []
def A : AFun U := mkA pA pH (X := Bool) (fun l => (tl l).run) sp1 v hh
def body := bodyOf Try.f71
def E : Env U := E0.mk5 [] [] [] [] []
theorem hk : HK E Try.f71 [] pA pH tl v hh := fun _ _ _ => by kernel_rfl
theorem og : SoundF Try.prog cc 71 A ∧ FnOK Try.prog 71 :=
 og_of (E := E) P_mixed (E0_ok.mk5 _ _ _ _ _) (gam_of all_nil all_nil) Try.func71 (c := body) (by kernel_rfl)
    (just_by (by kernel_rfl) (by kernel_rfl) all_nil all_nil) [] sp1_ok hk (by kernel_rfl)
end book_none

/-! instar/book.lone -/
namespace book_lone
abbrev TA : Type := (((Int × (Int × (Int × (Bool × (Int × (Int × (Int × (Int × (Int × (Int × (Int × (Int × (Int × (Int × (Int × (Int × (Int × (Int × (Int × (Int × (Int × (Int × (Int × (Int × (Int × (Int × (Int × (Int × (Int × (Int × (Int × Unit))))))))))))))))))))))))))))))) × Unit) × Unit)
def t (s__0 s__1 s__2 : Int) (s__3 : Bool) (s__4 s__5 s__6 s__7 s__8 s__9 s__10 s__11 s__12 s__13 s__14 s__15 s__16 s__17 s__18 s__19 s__20 s__21 s__22 s__23 s__24 s__25 s__26 s__27 s__28 s__29 s__30 : Int) : Tw Bool :=
 (.bb (s__29 == (-(1 : Int)))
 (.ret (s__30 == (0 : Int)))
 (.ret false))
def c (s__0 s__1 s__2 : Int) (s__3 : Bool) (s__4 s__5 s__6 s__7 s__8 s__9 s__10 s__11 s__12 s__13 s__14 s__15 s__16 s__17 s__18 s__19 s__20 s__21 s__22 s__23 s__24 s__25 s__26 s__27 s__28 s__29 s__30 : Int) : Option Bool := (t s__0 s__1 s__2 s__3 s__4 s__5 s__6 s__7 s__8 s__9 s__10 s__11 s__12 s__13 s__14 s__15 s__16 s__17 s__18 s__19 s__20 s__21 s__22 s__23 s__24 s__25 s__26 s__27 s__28 s__29 s__30).run
def tl (l : TA) : Tw Bool := t l.1.1.1 l.1.1.2.1 l.1.1.2.2.1 l.1.1.2.2.2.1 (d4 l.1.1).1 (d4 l.1.1).2.1 (d4 l.1.1).2.2.1 (d4 l.1.1).2.2.2.1 (d8 l.1.1).1 (d8 l.1.1).2.1 (d8 l.1.1).2.2.1 (d8 l.1.1).2.2.2.1 (d12 l.1.1).1 (d12 l.1.1).2.1 (d12 l.1.1).2.2.1 (d12 l.1.1).2.2.2.1 (d16 l.1.1).1 (d16 l.1.1).2.1 (d16 l.1.1).2.2.1 (d16 l.1.1).2.2.2.1 (d20 l.1.1).1 (d20 l.1.1).2.1 (d20 l.1.1).2.2.1 (d20 l.1.1).2.2.2.1 (d24 l.1.1).1 (d24 l.1.1).2.1 (d24 l.1.1).2.2.1 (d24 l.1.1).2.2.2.1 (d28 l.1.1).1 (d28 l.1.1).2.1 (d28 l.1.1).2.2.1
def pA : Pt := (.cs (.agg (jC (jC (jC (.cs .bool (jC (jC (jC (jC (.cs (.int .u32) (.cs (.int .u32) (.cs (.int .u32) (.cs (.int .u32) (.cs (.int .u32) (.cs (.int .u32) (.cs (.int .u32) (.cs (.int .u32) (jC (jC (jC (.cs (.int .u32) (.cs (.int .u32) (.cs (.int .u32) (.cs (.int .u32) (.cs (.int .u32) (.cs (.int .u32) (.cs (.int .u32) (.cs (.int .u32) (jC (jC (jC (jC .nl)))))))))))))))))))))))))))))))) .nl)
def pH : Pt := .nl
def v (l : TA) (y : Bool) : AV U := jB y
def hh (l : TA) (y : Bool) : Hp U := []
def A : AFun U := mkA pA pH (X := Bool) (fun l => (tl l).run) sp1 v hh
def body := bodyOf Try.f70
def E : Env U := E0.mk5 [] [] [] [] []
theorem hk : HK E Try.f70 [] pA pH tl v hh := fun _ _ _ => by kernel_rfl
theorem og : SoundF Try.prog cc 70 A ∧ FnOK Try.prog 70 :=
 og_of (E := E) P_mixed (E0_ok.mk5 _ _ _ _ _) (gam_of all_nil all_nil) Try.func70 (c := body) (by kernel_rfl)
    (just_by (by kernel_rfl) (by kernel_rfl) all_nil all_nil) [] sp1_ok hk (by kernel_rfl)
end book_lone

/-! instar/book.Right -/
namespace book_Right
abbrev TA : Type := (((Int × (Int × (Int × (Bool × (Int × (Int × (Int × (Int × (Int × (Int × (Int × (Int × (Int × (Int × (Int × (Int × (Int × (Int × (Int × (Int × (Int × (Int × (Int × (Int × (Int × (Int × (Int × (Int × (Int × (Int × (Int × Unit))))))))))))))))))))))))))))))) × Unit) × Unit)
abbrev TC3 : Type := ((Unit × (Unit × (Unit × Unit))) × ((Int × (Int × (Int × (Bool × (Int × (Int × (Int × (Int × (Int × (Int × (Int × (Int × (Int × (Int × (Int × (Int × (Int × (Int × (Int × (Int × (Int × (Int × (Int × (Int × (Int × (Int × (Int × (Int × (Int × (Int × (Int × Unit))))))))))))))))))))))))))))))) × Unit))
def c3 (h0_0 h0_1 h0_2 : Int) (h0_3 : Bool) (h0_4 h0_5 h0_6 h0_7 h0_8 h0_9 h0_10 h0_11 h0_12 h0_13 h0_14 h0_15 h0_16 h0_17 h0_18 h0_19 h0_20 h0_21 h0_22 h0_23 h0_24 h0_25 h0_26 h0_27 h0_28 h0_29 h0_30 : Int) : Tw Bool :=
 (.dd (((w64 ((1 : Int) - h0_1)) = (((1 : Nat) : Nat) : Int))) inferInstance
 (.bb (h0_2 == (0 : Int))
 (.bb (h0_0 == (0 : Int))
 (.bb (h0_4 == (0 : Int))
 (.opt (book_lone.c h0_0 h0_1 h0_2 h0_3 h0_4 h0_5 h0_6 h0_7 h0_8 h0_9 h0_10 h0_11 h0_12 h0_13 h0_14 h0_15 h0_16 h0_17 h0_18 h0_19 h0_20 h0_21 h0_22 h0_23 h0_24 h0_25 h0_26 h0_27 h0_28 h0_29 h0_30) fun z41 =>
 (.bb z41
 (.bb h0_3
 (.opt (book_there.c h0_16 h0_17 h0_18 h0_19 h0_20 h0_21 h0_22 h0_23 h0_24 h0_25 h0_26) fun z43 =>
 (.bb z43
 (.ret true)
 (.bb (!h0_3)
 (.opt (book_none.c h0_16 h0_17 h0_18 h0_19 h0_20 h0_21 h0_22 h0_23 h0_24 h0_25 h0_26) fun z44 =>
 (.ret z44))
 (.ret false))))
 (.bb (!h0_3)
 (.opt (book_none.c h0_16 h0_17 h0_18 h0_19 h0_20 h0_21 h0_22 h0_23 h0_24 h0_25 h0_26) fun z42 =>
 (.ret z42))
 (.ret false)))
 (.ret false)))
 (.ret false))
 (.bb (h0_0 == (1 : Int))
 (.bb (h0_2 == (0 : Int))
 (.bb (!h0_3)
 (.opt (book_in.c h0_4 (1 : Int) (131072 : Int)) fun z38 =>
 (.bb z38
 (.opt (book_none.c h0_16 h0_17 h0_18 h0_19 h0_20 h0_21 h0_22 h0_23 h0_24 h0_25 h0_26) fun z39 =>
 (.bb z39
 (.opt (book_lone.c h0_0 h0_1 h0_2 h0_3 h0_4 h0_5 h0_6 h0_7 h0_8 h0_9 h0_10 h0_11 h0_12 h0_13 h0_14 h0_15 h0_16 h0_17 h0_18 h0_19 h0_20 h0_21 h0_22 h0_23 h0_24 h0_25 h0_26 h0_27 h0_28 h0_29 h0_30) fun z40 =>
 (.ret z40))
 (.ret false)))
 (.ret false)))
 (.ret false))
 (.ret false))
 (.bb (h0_0 == (2 : Int))
 (.bb (h0_4 == (0 : Int))
 (.bb (!h0_3)
 (.opt (book_there.c h0_16 h0_17 h0_18 h0_19 h0_20 h0_21 h0_22 h0_23 h0_24 h0_25 h0_26) fun z36 =>
 (.bb z36
 (.opt (book_lone.c h0_0 h0_1 h0_2 h0_3 h0_4 h0_5 h0_6 h0_7 h0_8 h0_9 h0_10 h0_11 h0_12 h0_13 h0_14 h0_15 h0_16 h0_17 h0_18 h0_19 h0_20 h0_21 h0_22 h0_23 h0_24 h0_25 h0_26 h0_27 h0_28 h0_29 h0_30) fun z37 =>
 (.ret z37))
 (.ret false)))
 (.ret false))
 (.ret false))
 (.bb (h0_0 == (3 : Int))
 (.bb (h0_4 == (0 : Int))
 (.bb (!h0_3)
 (.opt (book_there.c h0_16 h0_17 h0_18 h0_19 h0_20 h0_21 h0_22 h0_23 h0_24 h0_25 h0_26) fun z34 =>
 (.bb z34
 (.opt (book_both.c h0_0 h0_1 h0_2 h0_3 h0_4 h0_5 h0_6 h0_7 h0_8 h0_9 h0_10 h0_11 h0_12 h0_13 h0_14 h0_15 h0_16 h0_17 h0_18 h0_19 h0_20 h0_21 h0_22 h0_23 h0_24 h0_25 h0_26 h0_27 h0_28 h0_29 h0_30) fun z35 =>
 (.ret z35))
 (.ret false)))
 (.ret false))
 (.ret false))
 (.bb (h0_0 == (4 : Int))
 (.opt (book_in.c h0_2 (0 : Int) (9 : Int)) fun z31 =>
 (.bb z31
 (.bb (!h0_3)
 (.bb (h0_4 == (0 : Int))
 (.opt (book_there.c h0_16 h0_17 h0_18 h0_19 h0_20 h0_21 h0_22 h0_23 h0_24 h0_25 h0_26) fun z32 =>
 (.bb z32
 (.opt (book_both.c h0_0 h0_1 h0_2 h0_3 h0_4 h0_5 h0_6 h0_7 h0_8 h0_9 h0_10 h0_11 h0_12 h0_13 h0_14 h0_15 h0_16 h0_17 h0_18 h0_19 h0_20 h0_21 h0_22 h0_23 h0_24 h0_25 h0_26 h0_27 h0_28 h0_29 h0_30) fun z33 =>
 (.ret z33))
 (.ret false)))
 (.ret false))
 (.ret false))
 (.ret false)))
 (.ret false))))))
 (.bb (h0_0 == (0 : Int))
 (.ret false)
 (.bb (h0_0 == (1 : Int))
 (.bb (h0_2 == (0 : Int))
 (.bb (!h0_3)
 (.opt (book_in.c h0_4 (1 : Int) (131072 : Int)) fun z28 =>
 (.bb z28
 (.opt (book_none.c h0_16 h0_17 h0_18 h0_19 h0_20 h0_21 h0_22 h0_23 h0_24 h0_25 h0_26) fun z29 =>
 (.bb z29
 (.opt (book_lone.c h0_0 h0_1 h0_2 h0_3 h0_4 h0_5 h0_6 h0_7 h0_8 h0_9 h0_10 h0_11 h0_12 h0_13 h0_14 h0_15 h0_16 h0_17 h0_18 h0_19 h0_20 h0_21 h0_22 h0_23 h0_24 h0_25 h0_26 h0_27 h0_28 h0_29 h0_30) fun z30 =>
 (.ret z30))
 (.ret false)))
 (.ret false)))
 (.ret false))
 (.ret false))
 (.bb (h0_0 == (2 : Int))
 (.ret false)
 (.bb (h0_0 == (3 : Int))
 (.ret false)
 (.bb (h0_0 == (4 : Int))
 (.opt (book_in.c h0_2 (0 : Int) (9 : Int)) fun z25 =>
 (.bb z25
 (.bb (!h0_3)
 (.bb (h0_4 == (0 : Int))
 (.opt (book_there.c h0_16 h0_17 h0_18 h0_19 h0_20 h0_21 h0_22 h0_23 h0_24 h0_25 h0_26) fun z26 =>
 (.bb z26
 (.opt (book_both.c h0_0 h0_1 h0_2 h0_3 h0_4 h0_5 h0_6 h0_7 h0_8 h0_9 h0_10 h0_11 h0_12 h0_13 h0_14 h0_15 h0_16 h0_17 h0_18 h0_19 h0_20 h0_21 h0_22 h0_23 h0_24 h0_25 h0_26 h0_27 h0_28 h0_29 h0_30) fun z27 =>
 (.ret z27))
 (.ret false)))
 (.ret false))
 (.ret false))
 (.ret false)))
 (.ret false)))))))
 (.dd (((w64 ((1 : Int) - h0_1)) = (((0 : Nat) : Nat) : Int))) inferInstance
 (.bb (h0_2 == (0 : Int))
 (.bb (h0_0 == (0 : Int))
 (.bb (h0_4 == (0 : Int))
 (.opt (book_lone.c h0_0 h0_1 h0_2 h0_3 h0_4 h0_5 h0_6 h0_7 h0_8 h0_9 h0_10 h0_11 h0_12 h0_13 h0_14 h0_15 h0_16 h0_17 h0_18 h0_19 h0_20 h0_21 h0_22 h0_23 h0_24 h0_25 h0_26 h0_27 h0_28 h0_29 h0_30) fun z21 =>
 (.bb z21
 (.bb h0_3
 (.opt (book_there.c h0_5 h0_6 h0_7 h0_8 h0_9 h0_10 h0_11 h0_12 h0_13 h0_14 h0_15) fun z23 =>
 (.bb z23
 (.ret true)
 (.bb (!h0_3)
 (.opt (book_none.c h0_5 h0_6 h0_7 h0_8 h0_9 h0_10 h0_11 h0_12 h0_13 h0_14 h0_15) fun z24 =>
 (.ret z24))
 (.ret false))))
 (.bb (!h0_3)
 (.opt (book_none.c h0_5 h0_6 h0_7 h0_8 h0_9 h0_10 h0_11 h0_12 h0_13 h0_14 h0_15) fun z22 =>
 (.ret z22))
 (.ret false)))
 (.ret false)))
 (.ret false))
 (.bb (h0_0 == (1 : Int))
 (.bb (h0_2 == (0 : Int))
 (.bb (!h0_3)
 (.opt (book_in.c h0_4 (1 : Int) (131072 : Int)) fun z18 =>
 (.bb z18
 (.opt (book_none.c h0_5 h0_6 h0_7 h0_8 h0_9 h0_10 h0_11 h0_12 h0_13 h0_14 h0_15) fun z19 =>
 (.bb z19
 (.opt (book_lone.c h0_0 h0_1 h0_2 h0_3 h0_4 h0_5 h0_6 h0_7 h0_8 h0_9 h0_10 h0_11 h0_12 h0_13 h0_14 h0_15 h0_16 h0_17 h0_18 h0_19 h0_20 h0_21 h0_22 h0_23 h0_24 h0_25 h0_26 h0_27 h0_28 h0_29 h0_30) fun z20 =>
 (.ret z20))
 (.ret false)))
 (.ret false)))
 (.ret false))
 (.ret false))
 (.bb (h0_0 == (2 : Int))
 (.bb (h0_4 == (0 : Int))
 (.bb (!h0_3)
 (.opt (book_there.c h0_5 h0_6 h0_7 h0_8 h0_9 h0_10 h0_11 h0_12 h0_13 h0_14 h0_15) fun z16 =>
 (.bb z16
 (.opt (book_lone.c h0_0 h0_1 h0_2 h0_3 h0_4 h0_5 h0_6 h0_7 h0_8 h0_9 h0_10 h0_11 h0_12 h0_13 h0_14 h0_15 h0_16 h0_17 h0_18 h0_19 h0_20 h0_21 h0_22 h0_23 h0_24 h0_25 h0_26 h0_27 h0_28 h0_29 h0_30) fun z17 =>
 (.ret z17))
 (.ret false)))
 (.ret false))
 (.ret false))
 (.bb (h0_0 == (3 : Int))
 (.bb (h0_4 == (0 : Int))
 (.bb (!h0_3)
 (.opt (book_there.c h0_5 h0_6 h0_7 h0_8 h0_9 h0_10 h0_11 h0_12 h0_13 h0_14 h0_15) fun z14 =>
 (.bb z14
 (.opt (book_both.c h0_0 h0_1 h0_2 h0_3 h0_4 h0_5 h0_6 h0_7 h0_8 h0_9 h0_10 h0_11 h0_12 h0_13 h0_14 h0_15 h0_16 h0_17 h0_18 h0_19 h0_20 h0_21 h0_22 h0_23 h0_24 h0_25 h0_26 h0_27 h0_28 h0_29 h0_30) fun z15 =>
 (.ret z15))
 (.ret false)))
 (.ret false))
 (.ret false))
 (.bb (h0_0 == (4 : Int))
 (.opt (book_in.c h0_2 (0 : Int) (9 : Int)) fun z11 =>
 (.bb z11
 (.bb (!h0_3)
 (.bb (h0_4 == (0 : Int))
 (.opt (book_there.c h0_5 h0_6 h0_7 h0_8 h0_9 h0_10 h0_11 h0_12 h0_13 h0_14 h0_15) fun z12 =>
 (.bb z12
 (.opt (book_both.c h0_0 h0_1 h0_2 h0_3 h0_4 h0_5 h0_6 h0_7 h0_8 h0_9 h0_10 h0_11 h0_12 h0_13 h0_14 h0_15 h0_16 h0_17 h0_18 h0_19 h0_20 h0_21 h0_22 h0_23 h0_24 h0_25 h0_26 h0_27 h0_28 h0_29 h0_30) fun z13 =>
 (.ret z13))
 (.ret false)))
 (.ret false))
 (.ret false))
 (.ret false)))
 (.ret false))))))
 (.bb (h0_0 == (0 : Int))
 (.ret false)
 (.bb (h0_0 == (1 : Int))
 (.bb (h0_2 == (0 : Int))
 (.bb (!h0_3)
 (.opt (book_in.c h0_4 (1 : Int) (131072 : Int)) fun z8 =>
 (.bb z8
 (.opt (book_none.c h0_5 h0_6 h0_7 h0_8 h0_9 h0_10 h0_11 h0_12 h0_13 h0_14 h0_15) fun z9 =>
 (.bb z9
 (.opt (book_lone.c h0_0 h0_1 h0_2 h0_3 h0_4 h0_5 h0_6 h0_7 h0_8 h0_9 h0_10 h0_11 h0_12 h0_13 h0_14 h0_15 h0_16 h0_17 h0_18 h0_19 h0_20 h0_21 h0_22 h0_23 h0_24 h0_25 h0_26 h0_27 h0_28 h0_29 h0_30) fun z10 =>
 (.ret z10))
 (.ret false)))
 (.ret false)))
 (.ret false))
 (.ret false))
 (.bb (h0_0 == (2 : Int))
 (.ret false)
 (.bb (h0_0 == (3 : Int))
 (.ret false)
 (.bb (h0_0 == (4 : Int))
 (.opt (book_in.c h0_2 (0 : Int) (9 : Int)) fun z5 =>
 (.bb z5
 (.bb (!h0_3)
 (.bb (h0_4 == (0 : Int))
 (.opt (book_there.c h0_5 h0_6 h0_7 h0_8 h0_9 h0_10 h0_11 h0_12 h0_13 h0_14 h0_15) fun z6 =>
 (.bb z6
 (.opt (book_both.c h0_0 h0_1 h0_2 h0_3 h0_4 h0_5 h0_6 h0_7 h0_8 h0_9 h0_10 h0_11 h0_12 h0_13 h0_14 h0_15 h0_16 h0_17 h0_18 h0_19 h0_20 h0_21 h0_22 h0_23 h0_24 h0_25 h0_26 h0_27 h0_28 h0_29 h0_30) fun z7 =>
 (.ret z7))
 (.ret false)))
 (.ret false))
 (.ret false))
 (.ret false)))
 (.ret false)))))))
 .no))
def C3 (h0_0 h0_1 h0_2 : Int) (h0_3 : Bool) (h0_4 h0_5 h0_6 h0_7 h0_8 h0_9 h0_10 h0_11 h0_12 h0_13 h0_14 h0_15 h0_16 h0_17 h0_18 h0_19 h0_20 h0_21 h0_22 h0_23 h0_24 h0_25 h0_26 h0_27 h0_28 h0_29 h0_30 : Int) : Option Bool := (c3 h0_0 h0_1 h0_2 h0_3 h0_4 h0_5 h0_6 h0_7 h0_8 h0_9 h0_10 h0_11 h0_12 h0_13 h0_14 h0_15 h0_16 h0_17 h0_18 h0_19 h0_20 h0_21 h0_22 h0_23 h0_24 h0_25 h0_26 h0_27 h0_28 h0_29 h0_30).run
def pC3 : Pt := (.cs (.bots 1) (.cs (.ptr 0 0) (.cs (.bots 146) .nl)))
def qC3 : Pt := (.cs (.var (jC (jC (jC (.cs .bool (jC (jC (jC (jC (.cs (.int .u32) (.cs (.int .u32) (.cs (.int .u32) (.cs (.int .u32) (.cs (.int .u32) (.cs (.int .u32) (.cs (.int .u32) (.cs (.int .u32) (jC (jC (jC (.cs (.int .u32) (.cs (.int .u32) (.cs (.int .u32) (.cs (.int .u32) (.cs (.int .u32) (.cs (.int .u32) (.cs (.int .u32) (.cs (.int .u32) (jC (jC (jC (jC .nl)))))))))))))))))))))))))))))))) .nl)
def ouC3 (l : TC3) (y : Bool) : Ex × St U := (.ret, stOf 148 [(2, jB y)] [] 0)
def cl3 (l : TC3) : Tw Bool := c3 l.2.1.1 l.2.1.2.1 l.2.1.2.2.1 l.2.1.2.2.2.1 (d4 l.2.1).1 (d4 l.2.1).2.1 (d4 l.2.1).2.2.1 (d4 l.2.1).2.2.2.1 (d8 l.2.1).1 (d8 l.2.1).2.1 (d8 l.2.1).2.2.1 (d8 l.2.1).2.2.2.1 (d12 l.2.1).1 (d12 l.2.1).2.1 (d12 l.2.1).2.2.1 (d12 l.2.1).2.2.2.1 (d16 l.2.1).1 (d16 l.2.1).2.1 (d16 l.2.1).2.2.1 (d16 l.2.1).2.2.2.1 (d20 l.2.1).1 (d20 l.2.1).2.1 (d20 l.2.1).2.2.1 (d20 l.2.1).2.2.2.1 (d24 l.2.1).1 (d24 l.2.1).2.1 (d24 l.2.1).2.2.1 (d24 l.2.1).2.2.2.1 (d28 l.2.1).1 (d28 l.2.1).2.1 (d28 l.2.1).2.2.1
def ΛC3 : LFun U := mkLp pC3 qC3 0 (X := Bool) (fun (l : TC3) => C3 l.2.1.1 l.2.1.2.1 l.2.1.2.2.1 l.2.1.2.2.2.1 (d4 l.2.1).1 (d4 l.2.1).2.1 (d4 l.2.1).2.2.1 (d4 l.2.1).2.2.2.1 (d8 l.2.1).1 (d8 l.2.1).2.1 (d8 l.2.1).2.2.1 (d8 l.2.1).2.2.2.1 (d12 l.2.1).1 (d12 l.2.1).2.1 (d12 l.2.1).2.2.1 (d12 l.2.1).2.2.2.1 (d16 l.2.1).1 (d16 l.2.1).2.1 (d16 l.2.1).2.2.1 (d16 l.2.1).2.2.2.1 (d20 l.2.1).1 (d20 l.2.1).2.1 (d20 l.2.1).2.2.1 (d20 l.2.1).2.2.2.1 (d24 l.2.1).1 (d24 l.2.1).2.1 (d24 l.2.1).2.2.1 (d24 l.2.1).2.2.2.1 (d28 l.2.1).1 (d28 l.2.1).2.1 (d28 l.2.1).2.2.1) sp1 ouC3
def t (s__0 s__1 s__2 : Int) (s__3 : Bool) (s__4 s__5 s__6 s__7 s__8 s__9 s__10 s__11 s__12 s__13 s__14 s__15 s__16 s__17 s__18 s__19 s__20 s__21 s__22 s__23 s__24 s__25 s__26 s__27 s__28 s__29 s__30 : Int) : Tw Bool :=
 (.opt (book_in.c s__1 (0 : Int) (1 : Int)) fun z1 =>
 (.bb (!z1)
 (.ret false)
 (.dd ((s__1 = (((1 : Nat) : Nat) : Int))) inferInstance
 (.opt (book_there.c s__16 s__17 s__18 s__19 s__20 s__21 s__22 s__23 s__24 s__25 s__26) fun z46 =>
 (.bb (!z46)
 (.ret false)
 (.opt (book_in.c s__27 (0 : Int) (127 : Int)) fun z47 =>
 (.bb (!z47)
 (.ret false)
 (.opt (book_in.c s__28 (1 : Int) (1073741823 : Int)) fun z48 =>
 (.bb (!z48)
 (.ret false)
 (.opt (C3 s__0 s__1 s__2 s__3 s__4 s__5 s__6 s__7 s__8 s__9 s__10 s__11 s__12 s__13 s__14 s__15 s__16 s__17 s__18 s__19 s__20 s__21 s__22 s__23 s__24 s__25 s__26 s__27 s__28 s__29 s__30) fun z49 =>
 (.ret z49))))))))
 (.dd ((s__1 = (((0 : Nat) : Nat) : Int))) inferInstance
 (.opt (book_there.c s__5 s__6 s__7 s__8 s__9 s__10 s__11 s__12 s__13 s__14 s__15) fun z2 =>
 (.bb (!z2)
 (.ret false)
 (.opt (book_in.c s__27 (0 : Int) (127 : Int)) fun z3 =>
 (.bb (!z3)
 (.ret false)
 (.opt (book_in.c s__28 (1 : Int) (1073741823 : Int)) fun z4 =>
 (.bb (!z4)
 (.ret false)
 (.opt (C3 s__0 s__1 s__2 s__3 s__4 s__5 s__6 s__7 s__8 s__9 s__10 s__11 s__12 s__13 s__14 s__15 s__16 s__17 s__18 s__19 s__20 s__21 s__22 s__23 s__24 s__25 s__26 s__27 s__28 s__29 s__30) fun z45 =>
 (.ret z45))))))))
 .no))))
def c (s__0 s__1 s__2 : Int) (s__3 : Bool) (s__4 s__5 s__6 s__7 s__8 s__9 s__10 s__11 s__12 s__13 s__14 s__15 s__16 s__17 s__18 s__19 s__20 s__21 s__22 s__23 s__24 s__25 s__26 s__27 s__28 s__29 s__30 : Int) : Option Bool := (t s__0 s__1 s__2 s__3 s__4 s__5 s__6 s__7 s__8 s__9 s__10 s__11 s__12 s__13 s__14 s__15 s__16 s__17 s__18 s__19 s__20 s__21 s__22 s__23 s__24 s__25 s__26 s__27 s__28 s__29 s__30).run
def tl (l : TA) : Tw Bool := t l.1.1.1 l.1.1.2.1 l.1.1.2.2.1 l.1.1.2.2.2.1 (d4 l.1.1).1 (d4 l.1.1).2.1 (d4 l.1.1).2.2.1 (d4 l.1.1).2.2.2.1 (d8 l.1.1).1 (d8 l.1.1).2.1 (d8 l.1.1).2.2.1 (d8 l.1.1).2.2.2.1 (d12 l.1.1).1 (d12 l.1.1).2.1 (d12 l.1.1).2.2.1 (d12 l.1.1).2.2.2.1 (d16 l.1.1).1 (d16 l.1.1).2.1 (d16 l.1.1).2.2.1 (d16 l.1.1).2.2.2.1 (d20 l.1.1).1 (d20 l.1.1).2.1 (d20 l.1.1).2.2.1 (d20 l.1.1).2.2.2.1 (d24 l.1.1).1 (d24 l.1.1).2.1 (d24 l.1.1).2.2.1 (d24 l.1.1).2.2.2.1 (d28 l.1.1).1 (d28 l.1.1).2.1 (d28 l.1.1).2.2.1
def pA : Pt := (.cs (.agg (jC (jC (jC (.cs .bool (jC (jC (jC (jC (.cs (.int .u32) (.cs (.int .u32) (.cs (.int .u32) (.cs (.int .u32) (.cs (.int .u32) (.cs (.int .u32) (.cs (.int .u32) (.cs (.int .u32) (jC (jC (jC (.cs (.int .u32) (.cs (.int .u32) (.cs (.int .u32) (.cs (.int .u32) (.cs (.int .u32) (.cs (.int .u32) (.cs (.int .u32) (.cs (.int .u32) (jC (jC (jC (jC .nl)))))))))))))))))))))))))))))))) .nl)
def pH : Pt := .nl
def v (l : TA) (y : Bool) : AV U := jB y
def hh (l : TA) (y : Bool) : Hp U := []
def A : AFun U := mkA pA pH (X := Bool) (fun l => (tl l).run) sp1 v hh
def body := bodyOf Try.f45
def E : Env U := E0.mk5 [(68, book_in.A), (69, book_there.A), (72, book_both.A), (71, book_none.A), (70, book_lone.A)] [] [(3, ΛC3)] [(3, ⟨[1], []⟩, ⟨[2], []⟩)] []
theorem hc3 (R : Type) (l : TC3) (K : Ex → St U → Option R) : codeA E (pick (seqsOf body) 3) ⟨pC3.mkL l.1, qC3.mkH l.2, 0⟩ (outK E 3 K) =
  (cl3 l).runK fun y => K (ouC3 l y).1 (ouC3 l y).2 := by kernel_rfl
theorem ck3 (R : Type) (st : St U) (K : Ex → St U → Option R) (r : R) (h : ΛC3 R st K = some r) : codeA E (pick (seqsOf body) 3) st (outK E 3 K) = some r :=
  cut_ok (E := E) (b := pick (seqsOf body) 3) (k := 3) (m := 0) (sp := sp1) (p := pC3) (q := qC3) (X := Bool) (t := cl3) (ou := ouC3) sp1_ok hc3 h
theorem hk : HK E Try.f45 [] pA pH tl v hh := fun _ _ _ => by kernel_rfl
theorem og : SoundF Try.prog cc 45 A ∧ FnOK Try.prog 45 :=
 og_of (E := E) P_mixed (E0_ok.mk5 _ _ _ _ _) (gam_of (all_cons book_in.og (all_cons book_there.og (all_cons book_both.og (all_cons book_none.og (all_cons book_lone.og all_nil))))) no_ro) Try.func45 (c := body) (by kernel_rfl)
    (just_by (by kernel_rfl) (by kernel_rfl) all_nil (all_cons ck3 all_nil)) [] sp1_ok hk (by kernel_rfl)
end book_Right

/-! instar/book.Lay -/
namespace book_Lay
abbrev TA : Type := (((Int × (Int × (Int × (Bool × (Int × (Int × (Int × (Int × (Int × (Int × (Int × (Int × (Int × (Int × (Int × (Int × (Int × (Int × (Int × (Int × (Int × (Int × (Int × (Int × (Int × (Int × (Int × (Int × (Int × (Int × (Int × Unit))))))))))))))))))))))))))))))) × Unit) × Unit)
abbrev XA : Type := (Int × (List Int))
abbrev T10 : Type := ((Unit × (Unit × (Unit × ((Int × (Int × (Int × (Int × (Int × (Int × (Int × (Int × (Int × (Int × (Int × (Int × (Int × (Int × (Int × (Int × (Int × (Int × (Int × (Int × (Int × (Int × Unit)))))))))))))))))))))) × (Int × (Unit × Unit)))))) × ((List Int) × Unit))
abbrev S10 : Type := (Int × (List Int))
def l10 (k59_0 k59_1 k59_2 k59_3 k59_4 k59_5 k59_6 k59_7 k59_8 k59_9 k59_10 k59_11 k59_12 k59_13 k59_14 k59_15 k59_16 k59_17 k59_18 k59_19 k59_20 k59_21 k60 : Int) (h0 : (List Int)) : Tw (S10 ⊕ (List Int)) :=
 (.bb (decide (k60 < (2 : Int)))
 (.dd ((k60 = (((1 : Nat) : Nat) : Int))) inferInstance
 (.dd ((((0 : Int) ≤ (w64 ((6 : Int) + (w64 ((10 : Int) * k60))))) ∧ ((w64 ((6 : Int) + (w64 ((10 : Int) * k60)))) ≤ (((List.length h0) : Nat) : Int)))) inferInstance
 (.dd ((((0 : Int) ≤ (10 : Int)) ∧ ((10 : Int) ≤ ((((List.length h0) - (Int.toNat (w64 ((6 : Int) + (w64 ((10 : Int) * k60)))))) : Nat) : Int)))) inferInstance
 (.opt (h0)[(((Int.toNat (w64 ((6 : Int) + (w64 ((10 : Int) * k60))))) + (0 : Nat)) + (Int.toNat (0 : Int)))]? fun z4 =>
 (.opt ((List.set h0 (((Int.toNat (w64 ((6 : Int) + (w64 ((10 : Int) * k60))))) + (0 : Nat)) + (Int.toNat (0 : Int))) (w32 (bOr .i64 k59_11 (bShl .i64 k59_12 (16 : Int))))))[(((Int.toNat (w64 ((6 : Int) + (w64 ((10 : Int) * k60))))) + (0 : Nat)) + (Int.toNat (1 : Int)))]? fun z5 =>
 (.dd ((((3 : Nat) = (3 : Nat)) ∧ (((1 : Nat) = (1 : Nat)) ∧ (((((Int.toNat (w64 ((6 : Int) + (w64 ((10 : Int) * k60))))) + (0 : Nat)) + (Int.toNat (2 : Int))) + (((Int.toNat (10 : Int)) - (0 : Nat)) - (Int.toNat (2 : Int)))) ≤ (List.length (List.set (List.set h0 (((Int.toNat (w64 ((6 : Int) + (w64 ((10 : Int) * k60))))) + (0 : Nat)) + (Int.toNat (0 : Int))) (w32 (bOr .i64 k59_11 (bShl .i64 k59_12 (16 : Int))))) (((Int.toNat (w64 ((6 : Int) + (w64 ((10 : Int) * k60))))) + (0 : Nat)) + (Int.toNat (1 : Int))) (w32 k59_13))))))) inferInstance
 (.ret (.inl ((w64 (k60 + (1 : Int))), ((List.take (((Int.toNat (w64 ((6 : Int) + (w64 ((10 : Int) * k60))))) + (0 : Nat)) + (Int.toNat (2 : Int))) (List.set (List.set h0 (((Int.toNat (w64 ((6 : Int) + (w64 ((10 : Int) * k60))))) + (0 : Nat)) + (Int.toNat (0 : Int))) (w32 (bOr .i64 k59_11 (bShl .i64 k59_12 (16 : Int))))) (((Int.toNat (w64 ((6 : Int) + (w64 ((10 : Int) * k60))))) + (0 : Nat)) + (Int.toNat (1 : Int))) (w32 k59_13))) ++ ((List.take (((Int.toNat (10 : Int)) - (0 : Nat)) - (Int.toNat (2 : Int))) (k59_14 :: (k59_15 :: (k59_16 :: (k59_17 :: (k59_18 :: (k59_19 :: (k59_20 :: (k59_21 :: ([] : List (Int))))))))))) ++ (List.drop ((((Int.toNat (w64 ((6 : Int) + (w64 ((10 : Int) * k60))))) + (0 : Nat)) + (Int.toNat (2 : Int))) + (min (List.length (k59_14 :: (k59_15 :: (k59_16 :: (k59_17 :: (k59_18 :: (k59_19 :: (k59_20 :: (k59_21 :: ([] : List (Int))))))))))) (((Int.toNat (10 : Int)) - (0 : Nat)) - (Int.toNat (2 : Int))))) (List.set (List.set h0 (((Int.toNat (w64 ((6 : Int) + (w64 ((10 : Int) * k60))))) + (0 : Nat)) + (Int.toNat (0 : Int))) (w32 (bOr .i64 k59_11 (bShl .i64 k59_12 (16 : Int))))) (((Int.toNat (w64 ((6 : Int) + (w64 ((10 : Int) * k60))))) + (0 : Nat)) + (Int.toNat (1 : Int))) (w32 k59_13))))))))
 .no)))
 .no)
 .no)
 (.dd ((k60 = (((0 : Nat) : Nat) : Int))) inferInstance
 (.dd ((((0 : Int) ≤ (w64 ((6 : Int) + (w64 ((10 : Int) * k60))))) ∧ ((w64 ((6 : Int) + (w64 ((10 : Int) * k60)))) ≤ (((List.length h0) : Nat) : Int)))) inferInstance
 (.dd ((((0 : Int) ≤ (10 : Int)) ∧ ((10 : Int) ≤ ((((List.length h0) - (Int.toNat (w64 ((6 : Int) + (w64 ((10 : Int) * k60)))))) : Nat) : Int)))) inferInstance
 (.opt (h0)[(((Int.toNat (w64 ((6 : Int) + (w64 ((10 : Int) * k60))))) + (0 : Nat)) + (Int.toNat (0 : Int)))]? fun z2 =>
 (.opt ((List.set h0 (((Int.toNat (w64 ((6 : Int) + (w64 ((10 : Int) * k60))))) + (0 : Nat)) + (Int.toNat (0 : Int))) (w32 (bOr .i64 k59_0 (bShl .i64 k59_1 (16 : Int))))))[(((Int.toNat (w64 ((6 : Int) + (w64 ((10 : Int) * k60))))) + (0 : Nat)) + (Int.toNat (1 : Int)))]? fun z3 =>
 (.dd ((((3 : Nat) = (3 : Nat)) ∧ (((1 : Nat) = (1 : Nat)) ∧ (((((Int.toNat (w64 ((6 : Int) + (w64 ((10 : Int) * k60))))) + (0 : Nat)) + (Int.toNat (2 : Int))) + (((Int.toNat (10 : Int)) - (0 : Nat)) - (Int.toNat (2 : Int)))) ≤ (List.length (List.set (List.set h0 (((Int.toNat (w64 ((6 : Int) + (w64 ((10 : Int) * k60))))) + (0 : Nat)) + (Int.toNat (0 : Int))) (w32 (bOr .i64 k59_0 (bShl .i64 k59_1 (16 : Int))))) (((Int.toNat (w64 ((6 : Int) + (w64 ((10 : Int) * k60))))) + (0 : Nat)) + (Int.toNat (1 : Int))) (w32 k59_2))))))) inferInstance
 (.ret (.inl ((w64 (k60 + (1 : Int))), ((List.take (((Int.toNat (w64 ((6 : Int) + (w64 ((10 : Int) * k60))))) + (0 : Nat)) + (Int.toNat (2 : Int))) (List.set (List.set h0 (((Int.toNat (w64 ((6 : Int) + (w64 ((10 : Int) * k60))))) + (0 : Nat)) + (Int.toNat (0 : Int))) (w32 (bOr .i64 k59_0 (bShl .i64 k59_1 (16 : Int))))) (((Int.toNat (w64 ((6 : Int) + (w64 ((10 : Int) * k60))))) + (0 : Nat)) + (Int.toNat (1 : Int))) (w32 k59_2))) ++ ((List.take (((Int.toNat (10 : Int)) - (0 : Nat)) - (Int.toNat (2 : Int))) (k59_3 :: (k59_4 :: (k59_5 :: (k59_6 :: (k59_7 :: (k59_8 :: (k59_9 :: (k59_10 :: ([] : List (Int))))))))))) ++ (List.drop ((((Int.toNat (w64 ((6 : Int) + (w64 ((10 : Int) * k60))))) + (0 : Nat)) + (Int.toNat (2 : Int))) + (min (List.length (k59_3 :: (k59_4 :: (k59_5 :: (k59_6 :: (k59_7 :: (k59_8 :: (k59_9 :: (k59_10 :: ([] : List (Int))))))))))) (((Int.toNat (10 : Int)) - (0 : Nat)) - (Int.toNat (2 : Int))))) (List.set (List.set h0 (((Int.toNat (w64 ((6 : Int) + (w64 ((10 : Int) * k60))))) + (0 : Nat)) + (Int.toNat (0 : Int))) (w32 (bOr .i64 k59_0 (bShl .i64 k59_1 (16 : Int))))) (((Int.toNat (w64 ((6 : Int) + (w64 ((10 : Int) * k60))))) + (0 : Nat)) + (Int.toNat (1 : Int))) (w32 k59_2))))))))
 .no)))
 .no)
 .no)
 .no))
 (.ret (.inr h0)))
def L10 (k59_0 k59_1 k59_2 k59_3 k59_4 k59_5 k59_6 k59_7 k59_8 k59_9 k59_10 k59_11 k59_12 k59_13 k59_14 k59_15 k59_16 k59_17 k59_18 k59_19 k59_20 k59_21 k60 : Int) (h0 : (List Int)) : Option (List Int) := Lp (fun s => (l10 k59_0 k59_1 k59_2 k59_3 k59_4 k59_5 k59_6 k59_7 k59_8 k59_9 k59_10 k59_11 k59_12 k59_13 k59_14 k59_15 k59_16 k59_17 k59_18 k59_19 k59_20 k59_21 s.1 s.2).run) (k60, h0)
def p10 : Pt := (.cs (.bots 4) (.cs (.own 0) (.cs (.bots 54) (.cs (.agg (jC (jC (jC (.cs (.int .u32) (.cs (.int .u32) (.cs (.int .u32) (.cs (.int .u32) (.cs (.int .u32) (.cs (.int .u32) (.cs (.int .u32) (.cs (.int .u32) (jC (jC (jC (.cs (.int .u32) (.cs (.int .u32) (.cs (.int .u32) (.cs (.int .u32) (.cs (.int .u32) (.cs (.int .u32) (.cs (.int .u32) (.cs (.int .u32) .nl))))))))))))))))))))))) (jC (.cs (.bots 30) .nl))))))
def q10 : Pt := (.cs (.row 3 true) .nl)
def ou10 (l : T10) (y : (List Int)) : Ex × St U := (.exit 0, stOf 91 [(4, .own 0)] [.row 3 y true] 0)
def Λ10 : LFun U := mkLp p10 q10 0 (X := (List Int)) (fun (l : T10) => L10 l.1.2.2.2.1.1 l.1.2.2.2.1.2.1 l.1.2.2.2.1.2.2.1 l.1.2.2.2.1.2.2.2.1 (d4 l.1.2.2.2.1).1 (d4 l.1.2.2.2.1).2.1 (d4 l.1.2.2.2.1).2.2.1 (d4 l.1.2.2.2.1).2.2.2.1 (d8 l.1.2.2.2.1).1 (d8 l.1.2.2.2.1).2.1 (d8 l.1.2.2.2.1).2.2.1 (d8 l.1.2.2.2.1).2.2.2.1 (d12 l.1.2.2.2.1).1 (d12 l.1.2.2.2.1).2.1 (d12 l.1.2.2.2.1).2.2.1 (d12 l.1.2.2.2.1).2.2.2.1 (d16 l.1.2.2.2.1).1 (d16 l.1.2.2.2.1).2.1 (d16 l.1.2.2.2.1).2.2.1 (d16 l.1.2.2.2.1).2.2.2.1 (d20 l.1.2.2.2.1).1 (d20 l.1.2.2.2.1).2.1 (d4 l.1).1 l.2.1) sp1 ou10
def hd10 (l : T10) (s : S10) : T10 := (((), ((), ((), ((l.1.2.2.2.1.1, (l.1.2.2.2.1.2.1, (l.1.2.2.2.1.2.2.1, (l.1.2.2.2.1.2.2.2.1, ((d4 l.1.2.2.2.1).1, ((d4 l.1.2.2.2.1).2.1, ((d4 l.1.2.2.2.1).2.2.1, ((d4 l.1.2.2.2.1).2.2.2.1, ((d8 l.1.2.2.2.1).1, ((d8 l.1.2.2.2.1).2.1, ((d8 l.1.2.2.2.1).2.2.1, ((d8 l.1.2.2.2.1).2.2.2.1, ((d12 l.1.2.2.2.1).1, ((d12 l.1.2.2.2.1).2.1, ((d12 l.1.2.2.2.1).2.2.1, ((d12 l.1.2.2.2.1).2.2.2.1, ((d16 l.1.2.2.2.1).1, ((d16 l.1.2.2.2.1).2.1, ((d16 l.1.2.2.2.1).2.2.1, ((d16 l.1.2.2.2.1).2.2.2.1, ((d20 l.1.2.2.2.1).1, ((d20 l.1.2.2.2.1).2.1, ())))))))))))))))))))))), (s.1, ((), ())))))), (s.2, ()))
def fl10 (l : T10) (s : S10) : Tw (S10 ⊕ (List Int)) := l10 l.1.2.2.2.1.1 l.1.2.2.2.1.2.1 l.1.2.2.2.1.2.2.1 l.1.2.2.2.1.2.2.2.1 (d4 l.1.2.2.2.1).1 (d4 l.1.2.2.2.1).2.1 (d4 l.1.2.2.2.1).2.2.1 (d4 l.1.2.2.2.1).2.2.2.1 (d8 l.1.2.2.2.1).1 (d8 l.1.2.2.2.1).2.1 (d8 l.1.2.2.2.1).2.2.1 (d8 l.1.2.2.2.1).2.2.2.1 (d12 l.1.2.2.2.1).1 (d12 l.1.2.2.2.1).2.1 (d12 l.1.2.2.2.1).2.2.1 (d12 l.1.2.2.2.1).2.2.2.1 (d16 l.1.2.2.2.1).1 (d16 l.1.2.2.2.1).2.1 (d16 l.1.2.2.2.1).2.2.1 (d16 l.1.2.2.2.1).2.2.2.1 (d20 l.1.2.2.2.1).1 (d20 l.1.2.2.2.1).2.1 s.1 s.2
def t (s__0 s__1 s__2 : Int) (s__3 : Bool) (s__4 s__5 s__6 s__7 s__8 s__9 s__10 s__11 s__12 s__13 s__14 s__15 s__16 s__17 s__18 s__19 s__20 s__21 s__22 s__23 s__24 s__25 s__26 s__27 s__28 s__29 s__30 : Int) : Tw XA :=
 (.opt (book_Right.c s__0 s__1 s__2 s__3 s__4 s__5 s__6 s__7 s__8 s__9 s__10 s__11 s__12 s__13 s__14 s__15 s__16 s__17 s__18 s__19 s__20 s__21 s__22 s__23 s__24 s__25 s__26 s__27 s__28 s__29 s__30) fun z1 =>
 (.bb (!z1)
 (.ret ((2 : Int), ([] : List (Int))))
 (.bb s__3
 (.opt (L10 s__5 s__6 s__7 s__8 s__9 s__10 s__11 s__12 s__13 s__14 s__15 s__16 s__17 s__18 s__19 s__20 s__21 s__22 s__23 s__24 s__25 s__26 (0 : Int) (List.set (List.set (List.set (List.set (List.set (List.set (List.set (List.replicate (Int.toNat (26 : Int)) (0 : Int)) (Int.toNat (0 : Int)) (w32 (bOr .i64 (bOr .i64 s__0 (bShl .i64 s__1 (8 : Int))) (bShl .i64 s__2 (16 : Int))))) (Int.toNat (0 : Int)) (bOr .u32 (w32 (bOr .i64 (bOr .i64 s__0 (bShl .i64 s__1 (8 : Int))) (bShl .i64 s__2 (16 : Int)))) (16777216 : Int))) (Int.toNat (1 : Int)) (w32 s__4)) (Int.toNat (2 : Int)) (w32 s__27)) (Int.toNat (3 : Int)) (w32 s__28)) (Int.toNat (4 : Int)) (w32 (w64 (s__29 + (1 : Int))))) (Int.toNat (5 : Int)) (w32 s__30))) fun z7 =>
 (.ret ((0 : Int), z7)))
 (.opt (L10 s__5 s__6 s__7 s__8 s__9 s__10 s__11 s__12 s__13 s__14 s__15 s__16 s__17 s__18 s__19 s__20 s__21 s__22 s__23 s__24 s__25 s__26 (0 : Int) (List.set (List.set (List.set (List.set (List.set (List.set (List.replicate (Int.toNat (26 : Int)) (0 : Int)) (Int.toNat (0 : Int)) (w32 (bOr .i64 (bOr .i64 s__0 (bShl .i64 s__1 (8 : Int))) (bShl .i64 s__2 (16 : Int))))) (Int.toNat (1 : Int)) (w32 s__4)) (Int.toNat (2 : Int)) (w32 s__27)) (Int.toNat (3 : Int)) (w32 s__28)) (Int.toNat (4 : Int)) (w32 (w64 (s__29 + (1 : Int))))) (Int.toNat (5 : Int)) (w32 s__30))) fun z6 =>
 (.ret ((0 : Int), z6))))))
def c (s__0 s__1 s__2 : Int) (s__3 : Bool) (s__4 s__5 s__6 s__7 s__8 s__9 s__10 s__11 s__12 s__13 s__14 s__15 s__16 s__17 s__18 s__19 s__20 s__21 s__22 s__23 s__24 s__25 s__26 s__27 s__28 s__29 s__30 : Int) : Option XA := (t s__0 s__1 s__2 s__3 s__4 s__5 s__6 s__7 s__8 s__9 s__10 s__11 s__12 s__13 s__14 s__15 s__16 s__17 s__18 s__19 s__20 s__21 s__22 s__23 s__24 s__25 s__26 s__27 s__28 s__29 s__30).run
def tl (l : TA) : Tw XA := t l.1.1.1 l.1.1.2.1 l.1.1.2.2.1 l.1.1.2.2.2.1 (d4 l.1.1).1 (d4 l.1.1).2.1 (d4 l.1.1).2.2.1 (d4 l.1.1).2.2.2.1 (d8 l.1.1).1 (d8 l.1.1).2.1 (d8 l.1.1).2.2.1 (d8 l.1.1).2.2.2.1 (d12 l.1.1).1 (d12 l.1.1).2.1 (d12 l.1.1).2.2.1 (d12 l.1.1).2.2.2.1 (d16 l.1.1).1 (d16 l.1.1).2.1 (d16 l.1.1).2.2.1 (d16 l.1.1).2.2.2.1 (d20 l.1.1).1 (d20 l.1.1).2.1 (d20 l.1.1).2.2.1 (d20 l.1.1).2.2.2.1 (d24 l.1.1).1 (d24 l.1.1).2.1 (d24 l.1.1).2.2.1 (d24 l.1.1).2.2.2.1 (d28 l.1.1).1 (d28 l.1.1).2.1 (d28 l.1.1).2.2.1
def pA : Pt := (.cs (.agg (jC (jC (jC (.cs .bool (jC (jC (jC (jC (.cs (.int .u32) (.cs (.int .u32) (.cs (.int .u32) (.cs (.int .u32) (.cs (.int .u32) (.cs (.int .u32) (.cs (.int .u32) (.cs (.int .u32) (jC (jC (jC (.cs (.int .u32) (.cs (.int .u32) (.cs (.int .u32) (.cs (.int .u32) (.cs (.int .u32) (.cs (.int .u32) (.cs (.int .u32) (.cs (.int .u32) (jC (jC (jC (jC .nl)))))))))))))))))))))))))))))))) .nl)
def pH : Pt := .nl
def v (l : TA) (y : XA) : AV U := .tup [.own 0, jI y.1]
def hh (l : TA) (y : XA) : Hp U := [.row 3 y.2 true]
def A : AFun U := mkA pA pH (X := XA) (fun l => (tl l).run) sp1 v hh
def body := bodyOf Try.f44
def E : Env U := E0.mk5 [(45, book_Right.A)] [(10, Λ10)] [] [(10, ⟨[60, 4, 59], []⟩, ⟨[2, 3, 4], []⟩)] []
theorem hf10 : HF E (pick (loopsOf body) 10) p10 q10 0 fl10 hd10 sp1 ou10 := fun _ _ _ _ => by kernel_rfl
theorem lk10 : LK E (pick (loopsOf body) 10) Λ10 := fun R st K r h =>
  lp_ok (E := E) (b := pick (loopsOf body) 10) (m := 0) (sp := sp1) (p := p10) (q := q10) (X := (List Int)) (S := S10) (f := fl10) (hd := hd10) (s0 := fun (l : T10) => ((d4 l.1).1, l.2.1)) (ou := ou10)
    (fun l => rfl) (fun l x => by rfl) sp1_ok hf10 h
theorem hk : HK E Try.f44 [(0, [], .own 3)] pA pH tl v hh := fun _ _ _ => by kernel_rfl
theorem og : SoundF Try.prog cc 44 A ∧ FnOK Try.prog 44 :=
 og_of (E := E) P_mixed (E0_ok.mk5 _ _ _ _ _) (gam_of (all_cons book_Right.og all_nil) no_ro) Try.func44 (c := body) (by kernel_rfl)
    (just_by (by kernel_rfl) (by kernel_rfl) (all_cons lk10 all_nil) all_nil) [(0, [], .own 3)] sp1_ok hk (by kernel_rfl)
end book_Lay

/-! instar/book.Take -/
namespace book_Take
abbrev TA : Type := (((List Int) × Unit) × Unit)
abbrev XA : Type := (Int × (Int × (Int × (Bool × (Int × (Int × (Int × (Int × (Int × (Int × (Int × (Int × (Int × (Int × (Int × (Int × (Int × (Int × (Int × (Int × (Int × (Int × (Int × (Int × (Int × (Int × (Int × (Int × (Int × (Int × (Int × Int)))))))))))))))))))))))))))))))
abbrev T7 : Type := (((List Int) × (Unit × (Unit × (Unit × (Unit × (Unit × (Int × (Unit × Unit)))))))) × ((Int × (Int × (Int × (Bool × (Int × (Int × (Int × (Int × (Int × (Int × (Int × (Int × (Int × (Int × (Int × (Int × (Int × (Int × (Int × (Int × (Int × (Int × (Int × (Int × (Int × (Int × (Int × (Int × (Int × (Int × (Int × Unit))))))))))))))))))))))))))))))) × ((Int × (Int × (Int × (Bool × (Int × (Int × (Int × (Int × (Int × (Int × (Int × (Int × (Int × (Int × (Int × (Int × (Int × (Int × (Int × (Int × (Int × (Int × (Int × (Int × (Int × (Int × (Int × (Int × (Int × (Int × (Int × Unit))))))))))))))))))))))))))))))) × Unit)))
abbrev S7 : Type := (Int × (Int × (Int × (Int × (Int × (Int × (Int × (Int × (Int × (Int × (Int × (Int × (Int × (Int × (Int × (Int × (Int × (Int × (Int × (Int × (Int × (Int × Int))))))))))))))))))))))
abbrev X7 : Type := (Int × (Int × (Int × (Int × (Int × (Int × (Int × (Int × (Int × (Int × (Int × (Int × (Int × (Int × (Int × (Int × (Int × (Int × (Int × (Int × (Int × Int)))))))))))))))))))))
def l7 (w : (List Int)) (h0_0 h0_1 h0_2 : Int) (h0_3 : Bool) (h0_4 h0_5 h0_6 h0_7 h0_8 h0_9 h0_10 h0_11 h0_12 h0_13 h0_14 h0_15 h0_16 h0_17 h0_18 h0_19 h0_20 h0_21 h0_22 h0_23 h0_24 h0_25 h0_26 h0_27 h0_28 h0_29 h0_30 h1_0 h1_1 h1_2 : Int) (h1_3 : Bool) (h1_4 h1_27 h1_28 h1_29 h1_30 k55 h1_5 h1_6 h1_7 h1_8 h1_9 h1_10 h1_11 h1_12 h1_13 h1_14 h1_15 h1_16 h1_17 h1_18 h1_19 h1_20 h1_21 h1_22 h1_23 h1_24 h1_25 h1_26 : Int) : Tw (S7 ⊕ X7) :=
 (.bb (decide (k55 < (2 : Int)))
 (.dd ((((0 : Int) ≤ (w64 ((6 : Int) + (w64 ((10 : Int) * k55))))) ∧ ((w64 ((6 : Int) + (w64 ((10 : Int) * k55)))) ≤ (((List.length w) : Nat) : Int)))) inferInstance
 (.dd ((((0 : Int) ≤ (10 : Int)) ∧ ((10 : Int) ≤ (((List.length (List.drop (Int.toNat (w64 ((6 : Int) + (w64 ((10 : Int) * k55))))) w)) : Nat) : Int)))) inferInstance
 (.opt ((List.take (Int.toNat (10 : Int)) (List.drop (Int.toNat (w64 ((6 : Int) + (w64 ((10 : Int) * k55))))) w)))[(Int.toNat (0 : Int))]? fun z7 =>
 (.opt ((List.take (Int.toNat (10 : Int)) (List.drop (Int.toNat (w64 ((6 : Int) + (w64 ((10 : Int) * k55))))) w)))[(Int.toNat (0 : Int))]? fun z8 =>
 (.opt ((List.take (Int.toNat (10 : Int)) (List.drop (Int.toNat (w64 ((6 : Int) + (w64 ((10 : Int) * k55))))) w)))[(Int.toNat (1 : Int))]? fun z9 =>
 (.dd ((k55 = (((1 : Nat) : Nat) : Int))) inferInstance
 (.dd ((k55 = (((1 : Nat) : Nat) : Int))) inferInstance
 (.dd ((((0 : Int) ≤ (2 : Int)) ∧ ((2 : Int) ≤ (((List.length (List.take (Int.toNat (10 : Int)) (List.drop (Int.toNat (w64 ((6 : Int) + (w64 ((10 : Int) * k55))))) w))) : Nat) : Int)))) inferInstance
 (.ret (.inl ((w64 (k55 + (1 : Int))), (h1_5, (h1_6, (h1_7, (h1_8, (h1_9, (h1_10, (h1_11, (h1_12, (h1_13, (h1_14, (h1_15, ((w64 (bAnd .u32 z7 (65535 : Int))), ((w64 (bShr .u32 z8 (16 : Int))), ((w64 z9), ((List.getD (List.drop (Int.toNat (2 : Int)) (List.take (Int.toNat (10 : Int)) (List.drop (Int.toNat (w64 ((6 : Int) + (w64 ((10 : Int) * k55))))) w))) (0 : Nat) (0 : Int)), ((List.getD (List.drop (Int.toNat (2 : Int)) (List.take (Int.toNat (10 : Int)) (List.drop (Int.toNat (w64 ((6 : Int) + (w64 ((10 : Int) * k55))))) w))) ((0 : Nat) + (1 : Nat)) (0 : Int)), ((List.getD (List.drop (Int.toNat (2 : Int)) (List.take (Int.toNat (10 : Int)) (List.drop (Int.toNat (w64 ((6 : Int) + (w64 ((10 : Int) * k55))))) w))) (((0 : Nat) + (1 : Nat)) + (1 : Nat)) (0 : Int)), ((List.getD (List.drop (Int.toNat (2 : Int)) (List.take (Int.toNat (10 : Int)) (List.drop (Int.toNat (w64 ((6 : Int) + (w64 ((10 : Int) * k55))))) w))) ((((0 : Nat) + (1 : Nat)) + (1 : Nat)) + (1 : Nat)) (0 : Int)), ((List.getD (List.drop (Int.toNat (2 : Int)) (List.take (Int.toNat (10 : Int)) (List.drop (Int.toNat (w64 ((6 : Int) + (w64 ((10 : Int) * k55))))) w))) (((((0 : Nat) + (1 : Nat)) + (1 : Nat)) + (1 : Nat)) + (1 : Nat)) (0 : Int)), ((List.getD (List.drop (Int.toNat (2 : Int)) (List.take (Int.toNat (10 : Int)) (List.drop (Int.toNat (w64 ((6 : Int) + (w64 ((10 : Int) * k55))))) w))) ((((((0 : Nat) + (1 : Nat)) + (1 : Nat)) + (1 : Nat)) + (1 : Nat)) + (1 : Nat)) (0 : Int)), ((List.getD (List.drop (Int.toNat (2 : Int)) (List.take (Int.toNat (10 : Int)) (List.drop (Int.toNat (w64 ((6 : Int) + (w64 ((10 : Int) * k55))))) w))) (((((((0 : Nat) + (1 : Nat)) + (1 : Nat)) + (1 : Nat)) + (1 : Nat)) + (1 : Nat)) + (1 : Nat)) (0 : Int)), (List.getD (List.drop (Int.toNat (2 : Int)) (List.take (Int.toNat (10 : Int)) (List.drop (Int.toNat (w64 ((6 : Int) + (w64 ((10 : Int) * k55))))) w))) ((((((((0 : Nat) + (1 : Nat)) + (1 : Nat)) + (1 : Nat)) + (1 : Nat)) + (1 : Nat)) + (1 : Nat)) + (1 : Nat)) (0 : Int))))))))))))))))))))))))))
 .no)
 (.dd ((k55 = (((0 : Nat) : Nat) : Int))) inferInstance
 (.dd ((((0 : Int) ≤ (2 : Int)) ∧ ((2 : Int) ≤ (((List.length (List.take (Int.toNat (10 : Int)) (List.drop (Int.toNat (w64 ((6 : Int) + (w64 ((10 : Int) * k55))))) w))) : Nat) : Int)))) inferInstance
 (.ret (.inl ((w64 (k55 + (1 : Int))), (h1_5, (h1_6, (h1_7, ((List.getD (List.drop (Int.toNat (2 : Int)) (List.take (Int.toNat (10 : Int)) (List.drop (Int.toNat (w64 ((6 : Int) + (w64 ((10 : Int) * k55))))) w))) (0 : Nat) h1_8), ((List.getD (List.drop (Int.toNat (2 : Int)) (List.take (Int.toNat (10 : Int)) (List.drop (Int.toNat (w64 ((6 : Int) + (w64 ((10 : Int) * k55))))) w))) ((0 : Nat) + (1 : Nat)) h1_9), ((List.getD (List.drop (Int.toNat (2 : Int)) (List.take (Int.toNat (10 : Int)) (List.drop (Int.toNat (w64 ((6 : Int) + (w64 ((10 : Int) * k55))))) w))) (((0 : Nat) + (1 : Nat)) + (1 : Nat)) h1_10), ((List.getD (List.drop (Int.toNat (2 : Int)) (List.take (Int.toNat (10 : Int)) (List.drop (Int.toNat (w64 ((6 : Int) + (w64 ((10 : Int) * k55))))) w))) ((((0 : Nat) + (1 : Nat)) + (1 : Nat)) + (1 : Nat)) h1_11), ((List.getD (List.drop (Int.toNat (2 : Int)) (List.take (Int.toNat (10 : Int)) (List.drop (Int.toNat (w64 ((6 : Int) + (w64 ((10 : Int) * k55))))) w))) (((((0 : Nat) + (1 : Nat)) + (1 : Nat)) + (1 : Nat)) + (1 : Nat)) h1_12), ((List.getD (List.drop (Int.toNat (2 : Int)) (List.take (Int.toNat (10 : Int)) (List.drop (Int.toNat (w64 ((6 : Int) + (w64 ((10 : Int) * k55))))) w))) ((((((0 : Nat) + (1 : Nat)) + (1 : Nat)) + (1 : Nat)) + (1 : Nat)) + (1 : Nat)) h1_13), ((List.getD (List.drop (Int.toNat (2 : Int)) (List.take (Int.toNat (10 : Int)) (List.drop (Int.toNat (w64 ((6 : Int) + (w64 ((10 : Int) * k55))))) w))) (((((((0 : Nat) + (1 : Nat)) + (1 : Nat)) + (1 : Nat)) + (1 : Nat)) + (1 : Nat)) + (1 : Nat)) h1_14), ((List.getD (List.drop (Int.toNat (2 : Int)) (List.take (Int.toNat (10 : Int)) (List.drop (Int.toNat (w64 ((6 : Int) + (w64 ((10 : Int) * k55))))) w))) ((((((((0 : Nat) + (1 : Nat)) + (1 : Nat)) + (1 : Nat)) + (1 : Nat)) + (1 : Nat)) + (1 : Nat)) + (1 : Nat)) h1_15), ((w64 (bAnd .u32 z7 (65535 : Int))), ((w64 (bShr .u32 z8 (16 : Int))), ((w64 z9), ((0 : Int), ((0 : Int), ((0 : Int), ((0 : Int), ((0 : Int), ((0 : Int), ((0 : Int), (0 : Int)))))))))))))))))))))))))
 .no)
 .no))
 (.dd ((k55 = (((0 : Nat) : Nat) : Int))) inferInstance
 (.dd ((k55 = (((1 : Nat) : Nat) : Int))) inferInstance
 (.dd ((((0 : Int) ≤ (2 : Int)) ∧ ((2 : Int) ≤ (((List.length (List.take (Int.toNat (10 : Int)) (List.drop (Int.toNat (w64 ((6 : Int) + (w64 ((10 : Int) * k55))))) w))) : Nat) : Int)))) inferInstance
 (.ret (.inl ((w64 (k55 + (1 : Int))), ((w64 (bAnd .u32 z7 (65535 : Int))), ((w64 (bShr .u32 z8 (16 : Int))), ((w64 z9), ((0 : Int), ((0 : Int), ((0 : Int), ((0 : Int), ((0 : Int), ((0 : Int), ((0 : Int), ((0 : Int), (h1_16, (h1_17, (h1_18, ((List.getD (List.drop (Int.toNat (2 : Int)) (List.take (Int.toNat (10 : Int)) (List.drop (Int.toNat (w64 ((6 : Int) + (w64 ((10 : Int) * k55))))) w))) (0 : Nat) h1_19), ((List.getD (List.drop (Int.toNat (2 : Int)) (List.take (Int.toNat (10 : Int)) (List.drop (Int.toNat (w64 ((6 : Int) + (w64 ((10 : Int) * k55))))) w))) ((0 : Nat) + (1 : Nat)) h1_20), ((List.getD (List.drop (Int.toNat (2 : Int)) (List.take (Int.toNat (10 : Int)) (List.drop (Int.toNat (w64 ((6 : Int) + (w64 ((10 : Int) * k55))))) w))) (((0 : Nat) + (1 : Nat)) + (1 : Nat)) h1_21), ((List.getD (List.drop (Int.toNat (2 : Int)) (List.take (Int.toNat (10 : Int)) (List.drop (Int.toNat (w64 ((6 : Int) + (w64 ((10 : Int) * k55))))) w))) ((((0 : Nat) + (1 : Nat)) + (1 : Nat)) + (1 : Nat)) h1_22), ((List.getD (List.drop (Int.toNat (2 : Int)) (List.take (Int.toNat (10 : Int)) (List.drop (Int.toNat (w64 ((6 : Int) + (w64 ((10 : Int) * k55))))) w))) (((((0 : Nat) + (1 : Nat)) + (1 : Nat)) + (1 : Nat)) + (1 : Nat)) h1_23), ((List.getD (List.drop (Int.toNat (2 : Int)) (List.take (Int.toNat (10 : Int)) (List.drop (Int.toNat (w64 ((6 : Int) + (w64 ((10 : Int) * k55))))) w))) ((((((0 : Nat) + (1 : Nat)) + (1 : Nat)) + (1 : Nat)) + (1 : Nat)) + (1 : Nat)) h1_24), ((List.getD (List.drop (Int.toNat (2 : Int)) (List.take (Int.toNat (10 : Int)) (List.drop (Int.toNat (w64 ((6 : Int) + (w64 ((10 : Int) * k55))))) w))) (((((((0 : Nat) + (1 : Nat)) + (1 : Nat)) + (1 : Nat)) + (1 : Nat)) + (1 : Nat)) + (1 : Nat)) h1_25), (List.getD (List.drop (Int.toNat (2 : Int)) (List.take (Int.toNat (10 : Int)) (List.drop (Int.toNat (w64 ((6 : Int) + (w64 ((10 : Int) * k55))))) w))) ((((((((0 : Nat) + (1 : Nat)) + (1 : Nat)) + (1 : Nat)) + (1 : Nat)) + (1 : Nat)) + (1 : Nat)) + (1 : Nat)) h1_26)))))))))))))))))))))))))
 .no)
 (.dd ((k55 = (((0 : Nat) : Nat) : Int))) inferInstance
 (.dd ((((0 : Int) ≤ (2 : Int)) ∧ ((2 : Int) ≤ (((List.length (List.take (Int.toNat (10 : Int)) (List.drop (Int.toNat (w64 ((6 : Int) + (w64 ((10 : Int) * k55))))) w))) : Nat) : Int)))) inferInstance
 (.ret (.inl ((w64 (k55 + (1 : Int))), ((w64 (bAnd .u32 z7 (65535 : Int))), ((w64 (bShr .u32 z8 (16 : Int))), ((w64 z9), ((List.getD (List.drop (Int.toNat (2 : Int)) (List.take (Int.toNat (10 : Int)) (List.drop (Int.toNat (w64 ((6 : Int) + (w64 ((10 : Int) * k55))))) w))) (0 : Nat) (0 : Int)), ((List.getD (List.drop (Int.toNat (2 : Int)) (List.take (Int.toNat (10 : Int)) (List.drop (Int.toNat (w64 ((6 : Int) + (w64 ((10 : Int) * k55))))) w))) ((0 : Nat) + (1 : Nat)) (0 : Int)), ((List.getD (List.drop (Int.toNat (2 : Int)) (List.take (Int.toNat (10 : Int)) (List.drop (Int.toNat (w64 ((6 : Int) + (w64 ((10 : Int) * k55))))) w))) (((0 : Nat) + (1 : Nat)) + (1 : Nat)) (0 : Int)), ((List.getD (List.drop (Int.toNat (2 : Int)) (List.take (Int.toNat (10 : Int)) (List.drop (Int.toNat (w64 ((6 : Int) + (w64 ((10 : Int) * k55))))) w))) ((((0 : Nat) + (1 : Nat)) + (1 : Nat)) + (1 : Nat)) (0 : Int)), ((List.getD (List.drop (Int.toNat (2 : Int)) (List.take (Int.toNat (10 : Int)) (List.drop (Int.toNat (w64 ((6 : Int) + (w64 ((10 : Int) * k55))))) w))) (((((0 : Nat) + (1 : Nat)) + (1 : Nat)) + (1 : Nat)) + (1 : Nat)) (0 : Int)), ((List.getD (List.drop (Int.toNat (2 : Int)) (List.take (Int.toNat (10 : Int)) (List.drop (Int.toNat (w64 ((6 : Int) + (w64 ((10 : Int) * k55))))) w))) ((((((0 : Nat) + (1 : Nat)) + (1 : Nat)) + (1 : Nat)) + (1 : Nat)) + (1 : Nat)) (0 : Int)), ((List.getD (List.drop (Int.toNat (2 : Int)) (List.take (Int.toNat (10 : Int)) (List.drop (Int.toNat (w64 ((6 : Int) + (w64 ((10 : Int) * k55))))) w))) (((((((0 : Nat) + (1 : Nat)) + (1 : Nat)) + (1 : Nat)) + (1 : Nat)) + (1 : Nat)) + (1 : Nat)) (0 : Int)), ((List.getD (List.drop (Int.toNat (2 : Int)) (List.take (Int.toNat (10 : Int)) (List.drop (Int.toNat (w64 ((6 : Int) + (w64 ((10 : Int) * k55))))) w))) ((((((((0 : Nat) + (1 : Nat)) + (1 : Nat)) + (1 : Nat)) + (1 : Nat)) + (1 : Nat)) + (1 : Nat)) + (1 : Nat)) (0 : Int)), (h1_16, (h1_17, (h1_18, (h1_19, (h1_20, (h1_21, (h1_22, (h1_23, (h1_24, (h1_25, h1_26))))))))))))))))))))))))
 .no)
 .no))
 .no)))))
 .no)
 .no)
 (.ret (.inr (h1_5, (h1_6, (h1_7, (h1_8, (h1_9, (h1_10, (h1_11, (h1_12, (h1_13, (h1_14, (h1_15, (h1_16, (h1_17, (h1_18, (h1_19, (h1_20, (h1_21, (h1_22, (h1_23, (h1_24, (h1_25, h1_26))))))))))))))))))))))))
def L7 (w : (List Int)) (k55 h0_0 h0_1 h0_2 : Int) (h0_3 : Bool) (h0_4 h0_5 h0_6 h0_7 h0_8 h0_9 h0_10 h0_11 h0_12 h0_13 h0_14 h0_15 h0_16 h0_17 h0_18 h0_19 h0_20 h0_21 h0_22 h0_23 h0_24 h0_25 h0_26 h0_27 h0_28 h0_29 h0_30 h1_0 h1_1 h1_2 : Int) (h1_3 : Bool) (h1_4 h1_5 h1_6 h1_7 h1_8 h1_9 h1_10 h1_11 h1_12 h1_13 h1_14 h1_15 h1_16 h1_17 h1_18 h1_19 h1_20 h1_21 h1_22 h1_23 h1_24 h1_25 h1_26 h1_27 h1_28 h1_29 h1_30 : Int) : Option X7 := Lp (fun s => (l7 w h0_0 h0_1 h0_2 h0_3 h0_4 h0_5 h0_6 h0_7 h0_8 h0_9 h0_10 h0_11 h0_12 h0_13 h0_14 h0_15 h0_16 h0_17 h0_18 h0_19 h0_20 h0_21 h0_22 h0_23 h0_24 h0_25 h0_26 h0_27 h0_28 h0_29 h0_30 h1_0 h1_1 h1_2 h1_3 h1_4 h1_27 h1_28 h1_29 h1_30 s.1 s.2.1 s.2.2.1 s.2.2.2.1 (d4 s).1 (d4 s).2.1 (d4 s).2.2.1 (d4 s).2.2.2.1 (d8 s).1 (d8 s).2.1 (d8 s).2.2.1 (d8 s).2.2.2.1 (d12 s).1 (d12 s).2.1 (d12 s).2.2.1 (d12 s).2.2.2.1 (d16 s).1 (d16 s).2.1 (d16 s).2.2.1 (d16 s).2.2.2.1 (d20 s).1 (d20 s).2.1 (d20 s).2.2).run) (k55, (h1_5, (h1_6, (h1_7, (h1_8, (h1_9, (h1_10, (h1_11, (h1_12, (h1_13, (h1_14, (h1_15, (h1_16, (h1_17, (h1_18, (h1_19, (h1_20, (h1_21, (h1_22, (h1_23, (h1_24, (h1_25, h1_26))))))))))))))))))))))
def p7 : Pt := (.cs (.sl 3) (.cs (.bots 1) (.cs (.ptr 0 0) (.cs (.bots 2) (.cs (.ptr 1 0) (.cs (.bots 49) (jC (.cs (.bots 50) .nl))))))))
def q7 : Pt := (.cs (.var (jC (jC (jC (.cs .bool (jC (jC (jC (jC (.cs (.int .u32) (.cs (.int .u32) (.cs (.int .u32) (.cs (.int .u32) (.cs (.int .u32) (.cs (.int .u32) (.cs (.int .u32) (.cs (.int .u32) (jC (jC (jC (.cs (.int .u32) (.cs (.int .u32) (.cs (.int .u32) (.cs (.int .u32) (.cs (.int .u32) (.cs (.int .u32) (.cs (.int .u32) (.cs (.int .u32) (jC (jC (jC (jC .nl)))))))))))))))))))))))))))))))) (.cs (.var (jC (jC (jC (.cs .bool (jC (jC (jC (jC (.cs (.int .u32) (.cs (.int .u32) (.cs (.int .u32) (.cs (.int .u32) (.cs (.int .u32) (.cs (.int .u32) (.cs (.int .u32) (.cs (.int .u32) (jC (jC (jC (.cs (.int .u32) (.cs (.int .u32) (.cs (.int .u32) (.cs (.int .u32) (.cs (.int .u32) (.cs (.int .u32) (.cs (.int .u32) (.cs (.int .u32) (jC (jC (jC (jC .nl)))))))))))))))))))))))))))))))) .nl))
def ou7 (l : T7) (y : X7) : Ex × St U := (.exit 0, stOf 106 [(0, .im (.slice 3 l.1.1)), (2, .ptr 0 0), (5, .ptr 1 0)] [.var [jI l.2.1.1, jI l.2.1.2.1, jI l.2.1.2.2.1, jB l.2.1.2.2.2.1, jI (d4 l.2.1).1, jI (d4 l.2.1).2.1, jI (d4 l.2.1).2.2.1, jI (d4 l.2.1).2.2.2.1, .im (.int .u32 (d8 l.2.1).1), .im (.int .u32 (d8 l.2.1).2.1), .im (.int .u32 (d8 l.2.1).2.2.1), .im (.int .u32 (d8 l.2.1).2.2.2.1), .im (.int .u32 (d12 l.2.1).1), .im (.int .u32 (d12 l.2.1).2.1), .im (.int .u32 (d12 l.2.1).2.2.1), .im (.int .u32 (d12 l.2.1).2.2.2.1), jI (d16 l.2.1).1, jI (d16 l.2.1).2.1, jI (d16 l.2.1).2.2.1, .im (.int .u32 (d16 l.2.1).2.2.2.1), .im (.int .u32 (d20 l.2.1).1), .im (.int .u32 (d20 l.2.1).2.1), .im (.int .u32 (d20 l.2.1).2.2.1), .im (.int .u32 (d20 l.2.1).2.2.2.1), .im (.int .u32 (d24 l.2.1).1), .im (.int .u32 (d24 l.2.1).2.1), .im (.int .u32 (d24 l.2.1).2.2.1), jI (d24 l.2.1).2.2.2.1, jI (d28 l.2.1).1, jI (d28 l.2.1).2.1, jI (d28 l.2.1).2.2.1], .var [jI l.2.2.1.1, jI l.2.2.1.2.1, jI l.2.2.1.2.2.1, jB l.2.2.1.2.2.2.1, jI (d4 l.2.2.1).1, jI y.1, jI y.2.1, jI y.2.2.1, .im (.int .u32 y.2.2.2.1), .im (.int .u32 (d4 y).1), .im (.int .u32 (d4 y).2.1), .im (.int .u32 (d4 y).2.2.1), .im (.int .u32 (d4 y).2.2.2.1), .im (.int .u32 (d8 y).1), .im (.int .u32 (d8 y).2.1), .im (.int .u32 (d8 y).2.2.1), jI (d8 y).2.2.2.1, jI (d12 y).1, jI (d12 y).2.1, .im (.int .u32 (d12 y).2.2.1), .im (.int .u32 (d12 y).2.2.2.1), .im (.int .u32 (d16 y).1), .im (.int .u32 (d16 y).2.1), .im (.int .u32 (d16 y).2.2.1), .im (.int .u32 (d16 y).2.2.2.1), .im (.int .u32 (d20 y).1), .im (.int .u32 (d20 y).2), jI (d24 l.2.2.1).2.2.2.1, jI (d28 l.2.2.1).1, jI (d28 l.2.2.1).2.1, jI (d28 l.2.2.1).2.2.1]] 0)
def Λ7 : LFun U := mkLp p7 q7 0 (X := X7) (fun (l : T7) => L7 l.1.1 (d4 l.1).2.2.1 l.2.1.1 l.2.1.2.1 l.2.1.2.2.1 l.2.1.2.2.2.1 (d4 l.2.1).1 (d4 l.2.1).2.1 (d4 l.2.1).2.2.1 (d4 l.2.1).2.2.2.1 (d8 l.2.1).1 (d8 l.2.1).2.1 (d8 l.2.1).2.2.1 (d8 l.2.1).2.2.2.1 (d12 l.2.1).1 (d12 l.2.1).2.1 (d12 l.2.1).2.2.1 (d12 l.2.1).2.2.2.1 (d16 l.2.1).1 (d16 l.2.1).2.1 (d16 l.2.1).2.2.1 (d16 l.2.1).2.2.2.1 (d20 l.2.1).1 (d20 l.2.1).2.1 (d20 l.2.1).2.2.1 (d20 l.2.1).2.2.2.1 (d24 l.2.1).1 (d24 l.2.1).2.1 (d24 l.2.1).2.2.1 (d24 l.2.1).2.2.2.1 (d28 l.2.1).1 (d28 l.2.1).2.1 (d28 l.2.1).2.2.1 l.2.2.1.1 l.2.2.1.2.1 l.2.2.1.2.2.1 l.2.2.1.2.2.2.1 (d4 l.2.2.1).1 (d4 l.2.2.1).2.1 (d4 l.2.2.1).2.2.1 (d4 l.2.2.1).2.2.2.1 (d8 l.2.2.1).1 (d8 l.2.2.1).2.1 (d8 l.2.2.1).2.2.1 (d8 l.2.2.1).2.2.2.1 (d12 l.2.2.1).1 (d12 l.2.2.1).2.1 (d12 l.2.2.1).2.2.1 (d12 l.2.2.1).2.2.2.1 (d16 l.2.2.1).1 (d16 l.2.2.1).2.1 (d16 l.2.2.1).2.2.1 (d16 l.2.2.1).2.2.2.1 (d20 l.2.2.1).1 (d20 l.2.2.1).2.1 (d20 l.2.2.1).2.2.1 (d20 l.2.2.1).2.2.2.1 (d24 l.2.2.1).1 (d24 l.2.2.1).2.1 (d24 l.2.2.1).2.2.1 (d24 l.2.2.1).2.2.2.1 (d28 l.2.2.1).1 (d28 l.2.2.1).2.1 (d28 l.2.2.1).2.2.1) sp1 ou7
def hd7 (l : T7) (s : S7) : T7 := ((l.1.1, ((), ((), ((), ((), ((), (s.1, ((), ())))))))), ((l.2.1.1, (l.2.1.2.1, (l.2.1.2.2.1, (l.2.1.2.2.2.1, ((d4 l.2.1).1, ((d4 l.2.1).2.1, ((d4 l.2.1).2.2.1, ((d4 l.2.1).2.2.2.1, ((d8 l.2.1).1, ((d8 l.2.1).2.1, ((d8 l.2.1).2.2.1, ((d8 l.2.1).2.2.2.1, ((d12 l.2.1).1, ((d12 l.2.1).2.1, ((d12 l.2.1).2.2.1, ((d12 l.2.1).2.2.2.1, ((d16 l.2.1).1, ((d16 l.2.1).2.1, ((d16 l.2.1).2.2.1, ((d16 l.2.1).2.2.2.1, ((d20 l.2.1).1, ((d20 l.2.1).2.1, ((d20 l.2.1).2.2.1, ((d20 l.2.1).2.2.2.1, ((d24 l.2.1).1, ((d24 l.2.1).2.1, ((d24 l.2.1).2.2.1, ((d24 l.2.1).2.2.2.1, ((d28 l.2.1).1, ((d28 l.2.1).2.1, ((d28 l.2.1).2.2.1, ()))))))))))))))))))))))))))))))), ((l.2.2.1.1, (l.2.2.1.2.1, (l.2.2.1.2.2.1, (l.2.2.1.2.2.2.1, ((d4 l.2.2.1).1, (s.2.1, (s.2.2.1, (s.2.2.2.1, ((d4 s).1, ((d4 s).2.1, ((d4 s).2.2.1, ((d4 s).2.2.2.1, ((d8 s).1, ((d8 s).2.1, ((d8 s).2.2.1, ((d8 s).2.2.2.1, ((d12 s).1, ((d12 s).2.1, ((d12 s).2.2.1, ((d12 s).2.2.2.1, ((d16 s).1, ((d16 s).2.1, ((d16 s).2.2.1, ((d16 s).2.2.2.1, ((d20 s).1, ((d20 s).2.1, ((d20 s).2.2, ((d24 l.2.2.1).2.2.2.1, ((d28 l.2.2.1).1, ((d28 l.2.2.1).2.1, ((d28 l.2.2.1).2.2.1, ()))))))))))))))))))))))))))))))), ())))
def fl7 (l : T7) (s : S7) : Tw (S7 ⊕ X7) := l7 l.1.1 l.2.1.1 l.2.1.2.1 l.2.1.2.2.1 l.2.1.2.2.2.1 (d4 l.2.1).1 (d4 l.2.1).2.1 (d4 l.2.1).2.2.1 (d4 l.2.1).2.2.2.1 (d8 l.2.1).1 (d8 l.2.1).2.1 (d8 l.2.1).2.2.1 (d8 l.2.1).2.2.2.1 (d12 l.2.1).1 (d12 l.2.1).2.1 (d12 l.2.1).2.2.1 (d12 l.2.1).2.2.2.1 (d16 l.2.1).1 (d16 l.2.1).2.1 (d16 l.2.1).2.2.1 (d16 l.2.1).2.2.2.1 (d20 l.2.1).1 (d20 l.2.1).2.1 (d20 l.2.1).2.2.1 (d20 l.2.1).2.2.2.1 (d24 l.2.1).1 (d24 l.2.1).2.1 (d24 l.2.1).2.2.1 (d24 l.2.1).2.2.2.1 (d28 l.2.1).1 (d28 l.2.1).2.1 (d28 l.2.1).2.2.1 l.2.2.1.1 l.2.2.1.2.1 l.2.2.1.2.2.1 l.2.2.1.2.2.2.1 (d4 l.2.2.1).1 (d24 l.2.2.1).2.2.2.1 (d28 l.2.2.1).1 (d28 l.2.2.1).2.1 (d28 l.2.2.1).2.2.1 s.1 s.2.1 s.2.2.1 s.2.2.2.1 (d4 s).1 (d4 s).2.1 (d4 s).2.2.1 (d4 s).2.2.2.1 (d8 s).1 (d8 s).2.1 (d8 s).2.2.1 (d8 s).2.2.2.1 (d12 s).1 (d12 s).2.1 (d12 s).2.2.1 (d12 s).2.2.2.1 (d16 s).1 (d16 s).2.1 (d16 s).2.2.1 (d16 s).2.2.2.1 (d20 s).1 (d20 s).2.1 (d20 s).2.2
def t (w : (List Int)) : Tw XA :=
 (.bb ((((List.length w) : Nat) : Int) != (26 : Int))
 (.ret ((0 : Int), ((0 : Int), ((0 : Int), (false, ((0 : Int), ((0 : Int), ((0 : Int), ((0 : Int), ((0 : Int), ((0 : Int), ((0 : Int), ((0 : Int), ((0 : Int), ((0 : Int), ((0 : Int), ((0 : Int), ((0 : Int), ((0 : Int), ((0 : Int), ((0 : Int), ((0 : Int), ((0 : Int), ((0 : Int), ((0 : Int), ((0 : Int), ((0 : Int), ((0 : Int), ((0 : Int), ((0 : Int), ((0 : Int), ((0 : Int), (4 : Int)))))))))))))))))))))))))))))))))
 (.opt (w)[(Int.toNat (0 : Int))]? fun z1 =>
 (.opt (w)[(Int.toNat (1 : Int))]? fun z2 =>
 (.opt (w)[(Int.toNat (2 : Int))]? fun z3 =>
 (.opt (w)[(Int.toNat (3 : Int))]? fun z4 =>
 (.opt (w)[(Int.toNat (4 : Int))]? fun z5 =>
 (.opt (w)[(Int.toNat (5 : Int))]? fun z6 =>
 (.opt (L7 w (0 : Int) (0 : Int) (0 : Int) (0 : Int) false (0 : Int) (0 : Int) (0 : Int) (0 : Int) (0 : Int) (0 : Int) (0 : Int) (0 : Int) (0 : Int) (0 : Int) (0 : Int) (0 : Int) (0 : Int) (0 : Int) (0 : Int) (0 : Int) (0 : Int) (0 : Int) (0 : Int) (0 : Int) (0 : Int) (0 : Int) (0 : Int) (0 : Int) (0 : Int) (0 : Int) (0 : Int) (bAnd .i64 (w64 z1) (255 : Int)) (bAnd .i64 (bShr .i64 (w64 z1) (8 : Int)) (255 : Int)) (bAnd .i64 (bShr .i64 (w64 z1) (16 : Int)) (255 : Int)) ((bShr .i64 (w64 z1) (24 : Int)) == (1 : Int)) (w64 z2) (0 : Int) (0 : Int) (0 : Int) (0 : Int) (0 : Int) (0 : Int) (0 : Int) (0 : Int) (0 : Int) (0 : Int) (0 : Int) (0 : Int) (0 : Int) (0 : Int) (0 : Int) (0 : Int) (0 : Int) (0 : Int) (0 : Int) (0 : Int) (0 : Int) (0 : Int) (w64 z3) (w64 z4) (w64 ((w64 z5) - (1 : Int))) (w64 z6)) fun z10 =>
 (.opt (book_Lay.c (bAnd .i64 (w64 z1) (255 : Int)) (bAnd .i64 (bShr .i64 (w64 z1) (8 : Int)) (255 : Int)) (bAnd .i64 (bShr .i64 (w64 z1) (16 : Int)) (255 : Int)) ((bShr .i64 (w64 z1) (24 : Int)) == (1 : Int)) (w64 z2) z10.1 z10.2.1 z10.2.2.1 z10.2.2.2.1 (d4 z10).1 (d4 z10).2.1 (d4 z10).2.2.1 (d4 z10).2.2.2.1 (d8 z10).1 (d8 z10).2.1 (d8 z10).2.2.1 (d8 z10).2.2.2.1 (d12 z10).1 (d12 z10).2.1 (d12 z10).2.2.1 (d12 z10).2.2.2.1 (d16 z10).1 (d16 z10).2.1 (d16 z10).2.2.1 (d16 z10).2.2.2.1 (d20 z10).1 (d20 z10).2 (w64 z3) (w64 z4) (w64 ((w64 z5) - (1 : Int))) (w64 z6)) fun z11 =>
 (.bb (z11.1 != (0 : Int))
 (.ret ((0 : Int), ((0 : Int), ((0 : Int), (false, ((0 : Int), ((0 : Int), ((0 : Int), ((0 : Int), ((0 : Int), ((0 : Int), ((0 : Int), ((0 : Int), ((0 : Int), ((0 : Int), ((0 : Int), ((0 : Int), ((0 : Int), ((0 : Int), ((0 : Int), ((0 : Int), ((0 : Int), ((0 : Int), ((0 : Int), ((0 : Int), ((0 : Int), ((0 : Int), ((0 : Int), ((0 : Int), ((0 : Int), ((0 : Int), ((0 : Int), (4 : Int)))))))))))))))))))))))))))))))))
 (.opt (slices_Equal__uint32uint32.c z11.2 w) fun z12 =>
 (.bb (!z12)
 (.ret ((0 : Int), ((0 : Int), ((0 : Int), (false, ((0 : Int), ((0 : Int), ((0 : Int), ((0 : Int), ((0 : Int), ((0 : Int), ((0 : Int), ((0 : Int), ((0 : Int), ((0 : Int), ((0 : Int), ((0 : Int), ((0 : Int), ((0 : Int), ((0 : Int), ((0 : Int), ((0 : Int), ((0 : Int), ((0 : Int), ((0 : Int), ((0 : Int), ((0 : Int), ((0 : Int), ((0 : Int), ((0 : Int), ((0 : Int), ((0 : Int), (4 : Int)))))))))))))))))))))))))))))))))
 (.ret ((bAnd .i64 (w64 z1) (255 : Int)), ((bAnd .i64 (bShr .i64 (w64 z1) (8 : Int)) (255 : Int)), ((bAnd .i64 (bShr .i64 (w64 z1) (16 : Int)) (255 : Int)), (((bShr .i64 (w64 z1) (24 : Int)) == (1 : Int)), ((w64 z2), (z10.1, (z10.2.1, (z10.2.2.1, (z10.2.2.2.1, ((d4 z10).1, ((d4 z10).2.1, ((d4 z10).2.2.1, ((d4 z10).2.2.2.1, ((d8 z10).1, ((d8 z10).2.1, ((d8 z10).2.2.1, ((d8 z10).2.2.2.1, ((d12 z10).1, ((d12 z10).2.1, ((d12 z10).2.2.1, ((d12 z10).2.2.2.1, ((d16 z10).1, ((d16 z10).2.1, ((d16 z10).2.2.1, ((d16 z10).2.2.2.1, ((d20 z10).1, ((d20 z10).2, ((w64 z3), ((w64 z4), ((w64 ((w64 z5) - (1 : Int))), ((w64 z6), (0 : Int)))))))))))))))))))))))))))))))))))))))))))))
def c (w : (List Int)) : Option XA := (t w).run
def tl (l : TA) : Tw XA := t l.1.1
def pA : Pt := (.cs (.sl 3) .nl)
def pH : Pt := .nl
def v (l : TA) (y : XA) : AV U := .tup [.agg [jI y.1, jI y.2.1, jI y.2.2.1, jB y.2.2.2.1, jI (d4 y).1, jI (d4 y).2.1, jI (d4 y).2.2.1, jI (d4 y).2.2.2.1, .im (.int .u32 (d8 y).1), .im (.int .u32 (d8 y).2.1), .im (.int .u32 (d8 y).2.2.1), .im (.int .u32 (d8 y).2.2.2.1), .im (.int .u32 (d12 y).1), .im (.int .u32 (d12 y).2.1), .im (.int .u32 (d12 y).2.2.1), .im (.int .u32 (d12 y).2.2.2.1), jI (d16 y).1, jI (d16 y).2.1, jI (d16 y).2.2.1, .im (.int .u32 (d16 y).2.2.2.1), .im (.int .u32 (d20 y).1), .im (.int .u32 (d20 y).2.1), .im (.int .u32 (d20 y).2.2.1), .im (.int .u32 (d20 y).2.2.2.1), .im (.int .u32 (d24 y).1), .im (.int .u32 (d24 y).2.1), .im (.int .u32 (d24 y).2.2.1), jI (d24 y).2.2.2.1, jI (d28 y).1, jI (d28 y).2.1, jI (d28 y).2.2.1], jI (d28 y).2.2.2]
def hh (l : TA) (y : XA) : Hp U := []
def A : AFun U := mkA pA pH (X := XA) (fun l => (tl l).run) sp1 v hh
def body := bodyOf Try.f53
def E : Env U := E0.mk5 [(44, book_Lay.A), (81, slices_Equal__uint32uint32.A)] [(7, Λ7)] [] [(7, ⟨[55, 5, 0, 2], []⟩, ⟨[2, 3, 5, 0], []⟩)] []
theorem hf7 : HF E (pick (loopsOf body) 7) p7 q7 0 fl7 hd7 sp1 ou7 := fun _ _ _ _ => by kernel_rfl
theorem lk7 : LK E (pick (loopsOf body) 7) Λ7 := fun R st K r h =>
  lp_ok (E := E) (b := pick (loopsOf body) 7) (m := 0) (sp := sp1) (p := p7) (q := q7) (X := X7) (S := S7) (f := fl7) (hd := hd7) (s0 := fun (l : T7) => ((d4 l.1).2.2.1, ((d4 l.2.2.1).2.1, ((d4 l.2.2.1).2.2.1, ((d4 l.2.2.1).2.2.2.1, ((d8 l.2.2.1).1, ((d8 l.2.2.1).2.1, ((d8 l.2.2.1).2.2.1, ((d8 l.2.2.1).2.2.2.1, ((d12 l.2.2.1).1, ((d12 l.2.2.1).2.1, ((d12 l.2.2.1).2.2.1, ((d12 l.2.2.1).2.2.2.1, ((d16 l.2.2.1).1, ((d16 l.2.2.1).2.1, ((d16 l.2.2.1).2.2.1, ((d16 l.2.2.1).2.2.2.1, ((d20 l.2.2.1).1, ((d20 l.2.2.1).2.1, ((d20 l.2.2.1).2.2.1, ((d20 l.2.2.1).2.2.2.1, ((d24 l.2.2.1).1, ((d24 l.2.2.1).2.1, (d24 l.2.2.1).2.2.1))))))))))))))))))))))) (ou := ou7)
    (fun l => rfl) (fun l x => by rfl) sp1_ok hf7 h
theorem hk : HK E Try.f53 [] pA pH tl v hh := fun _ _ _ => by kernel_rfl
theorem og : SoundF Try.prog cc 53 A ∧ FnOK Try.prog 53 :=
 og_of (E := E) P_mixed (E0_ok.mk5 _ _ _ _ _) (gam_of (all_cons book_Lay.og (all_cons slices_Equal__uint32uint32.og all_nil)) no_ro) Try.func53 (c := body) (by kernel_rfl)
    (just_by (by kernel_rfl) (by kernel_rfl) (all_cons lk7 all_nil) all_nil) [] sp1_ok hk (by kernel_rfl)
end book_Take

/-! instar/book.Apply -/
namespace book_Apply
abbrev TA : Type := (((Int × (Int × (Int × (Bool × (Int × (Int × (Int × (Int × (Int × (Int × (Int × (Int × (Int × (Int × (Int × (Int × (Int × (Int × (Int × (Int × (Int × (Int × (Int × (Int × (Int × (Int × (Int × (Int × (Int × (Int × (Int × Unit))))))))))))))))))))))))))))))) × ((List Int) × Unit)) × Unit)
abbrev XA : Type := (Int × (Int × (Int × (Bool × (Int × (Int × (Int × (Int × (Int × (Int × (Int × (Int × (Int × (Int × (Int × (Int × (Int × (Int × (Int × (Int × (Int × (Int × (Int × (Int × (Int × (Int × (Int × (Int × (Int × (Int × (Int × Int)))))))))))))))))))))))))))))))
def t (s__0 s__1 s__2 : Int) (s__3 : Bool) (s__4 s__5 s__6 s__7 s__8 s__9 s__10 s__11 s__12 s__13 s__14 s__15 s__16 s__17 s__18 s__19 s__20 s__21 s__22 s__23 s__24 s__25 s__26 s__27 s__28 s__29 s__30 : Int) (w : (List Int)) : Tw XA :=
 (.bb ((((List.length w) : Nat) : Int) != (3 : Int))
 (.ret ((0 : Int), ((0 : Int), ((0 : Int), (false, ((0 : Int), ((0 : Int), ((0 : Int), ((0 : Int), ((0 : Int), ((0 : Int), ((0 : Int), ((0 : Int), ((0 : Int), ((0 : Int), ((0 : Int), ((0 : Int), ((0 : Int), ((0 : Int), ((0 : Int), ((0 : Int), ((0 : Int), ((0 : Int), ((0 : Int), ((0 : Int), ((0 : Int), ((0 : Int), ((0 : Int), ((0 : Int), ((0 : Int), ((0 : Int), ((0 : Int), (4 : Int)))))))))))))))))))))))))))))))))
 (.opt (w)[(Int.toNat (0 : Int))]? fun z1 =>
 (.bb (z1 == (1 : Int))
 (.opt (w)[(Int.toNat (2 : Int))]? fun z7 =>
 (.bb (z7 == (0 : Int))
 (.opt (w)[(Int.toNat (1 : Int))]? fun z13 =>
 (.opt (book_Right.c s__0 s__1 (w64 z13) s__3 s__4 s__5 s__6 s__7 s__8 s__9 s__10 s__11 s__12 s__13 s__14 s__15 s__16 s__17 s__18 s__19 s__20 s__21 s__22 s__23 s__24 s__25 s__26 s__27 s__28 s__29 s__30) fun z14 =>
 (.bb (!z14)
 (.ret ((0 : Int), ((0 : Int), ((0 : Int), (false, ((0 : Int), ((0 : Int), ((0 : Int), ((0 : Int), ((0 : Int), ((0 : Int), ((0 : Int), ((0 : Int), ((0 : Int), ((0 : Int), ((0 : Int), ((0 : Int), ((0 : Int), ((0 : Int), ((0 : Int), ((0 : Int), ((0 : Int), ((0 : Int), ((0 : Int), ((0 : Int), ((0 : Int), ((0 : Int), ((0 : Int), ((0 : Int), ((0 : Int), ((0 : Int), ((0 : Int), (4 : Int)))))))))))))))))))))))))))))))))
 (.ret (s__0, (s__1, ((w64 z13), (s__3, (s__4, (s__5, (s__6, (s__7, (s__8, (s__9, (s__10, (s__11, (s__12, (s__13, (s__14, (s__15, (s__16, (s__17, (s__18, (s__19, (s__20, (s__21, (s__22, (s__23, (s__24, (s__25, (s__26, (s__27, (s__28, (s__29, (s__30, (0 : Int))))))))))))))))))))))))))))))))))))
 (.opt (w)[(Int.toNat (0 : Int))]? fun z8 =>
 (.bb (z8 == (2 : Int))
 (.opt (w)[(Int.toNat (1 : Int))]? fun z9 =>
 (.opt (w)[(Int.toNat (2 : Int))]? fun z10 =>
 (.bb (s__0 == (3 : Int))
 (.opt (book_Right.c (2 : Int) s__1 s__2 s__3 s__4 s__5 s__6 s__7 s__8 s__9 s__10 s__11 s__12 s__13 s__14 s__15 s__16 s__17 s__18 s__19 s__20 s__21 s__22 s__23 s__24 s__25 s__26 (w64 z9) (w64 z10) (-(1 : Int)) (0 : Int)) fun z12 =>
 (.bb (!z12)
 (.ret ((0 : Int), ((0 : Int), ((0 : Int), (false, ((0 : Int), ((0 : Int), ((0 : Int), ((0 : Int), ((0 : Int), ((0 : Int), ((0 : Int), ((0 : Int), ((0 : Int), ((0 : Int), ((0 : Int), ((0 : Int), ((0 : Int), ((0 : Int), ((0 : Int), ((0 : Int), ((0 : Int), ((0 : Int), ((0 : Int), ((0 : Int), ((0 : Int), ((0 : Int), ((0 : Int), ((0 : Int), ((0 : Int), ((0 : Int), ((0 : Int), (4 : Int)))))))))))))))))))))))))))))))))
 (.ret ((2 : Int), (s__1, (s__2, (s__3, (s__4, (s__5, (s__6, (s__7, (s__8, (s__9, (s__10, (s__11, (s__12, (s__13, (s__14, (s__15, (s__16, (s__17, (s__18, (s__19, (s__20, (s__21, (s__22, (s__23, (s__24, (s__25, (s__26, ((w64 z9), ((w64 z10), ((-(1 : Int)), ((0 : Int), (0 : Int)))))))))))))))))))))))))))))))))))
 (.opt (book_Right.c s__0 s__1 s__2 s__3 s__4 s__5 s__6 s__7 s__8 s__9 s__10 s__11 s__12 s__13 s__14 s__15 s__16 s__17 s__18 s__19 s__20 s__21 s__22 s__23 s__24 s__25 s__26 (w64 z9) (w64 z10) s__29 s__30) fun z11 =>
 (.bb (!z11)
 (.ret ((0 : Int), ((0 : Int), ((0 : Int), (false, ((0 : Int), ((0 : Int), ((0 : Int), ((0 : Int), ((0 : Int), ((0 : Int), ((0 : Int), ((0 : Int), ((0 : Int), ((0 : Int), ((0 : Int), ((0 : Int), ((0 : Int), ((0 : Int), ((0 : Int), ((0 : Int), ((0 : Int), ((0 : Int), ((0 : Int), ((0 : Int), ((0 : Int), ((0 : Int), ((0 : Int), ((0 : Int), ((0 : Int), ((0 : Int), ((0 : Int), (4 : Int)))))))))))))))))))))))))))))))))
 (.ret (s__0, (s__1, (s__2, (s__3, (s__4, (s__5, (s__6, (s__7, (s__8, (s__9, (s__10, (s__11, (s__12, (s__13, (s__14, (s__15, (s__16, (s__17, (s__18, (s__19, (s__20, (s__21, (s__22, (s__23, (s__24, (s__25, (s__26, ((w64 z9), ((w64 z10), (s__29, (s__30, (0 : Int))))))))))))))))))))))))))))))))))))))
 (.ret ((0 : Int), ((0 : Int), ((0 : Int), (false, ((0 : Int), ((0 : Int), ((0 : Int), ((0 : Int), ((0 : Int), ((0 : Int), ((0 : Int), ((0 : Int), ((0 : Int), ((0 : Int), ((0 : Int), ((0 : Int), ((0 : Int), ((0 : Int), ((0 : Int), ((0 : Int), ((0 : Int), ((0 : Int), ((0 : Int), ((0 : Int), ((0 : Int), ((0 : Int), ((0 : Int), ((0 : Int), ((0 : Int), ((0 : Int), ((0 : Int), (4 : Int)))))))))))))))))))))))))))))))))))))
 (.opt (w)[(Int.toNat (0 : Int))]? fun z2 =>
 (.bb (z2 == (2 : Int))
 (.opt (w)[(Int.toNat (1 : Int))]? fun z3 =>
 (.opt (w)[(Int.toNat (2 : Int))]? fun z4 =>
 (.bb (s__0 == (3 : Int))
 (.opt (book_Right.c (2 : Int) s__1 s__2 s__3 s__4 s__5 s__6 s__7 s__8 s__9 s__10 s__11 s__12 s__13 s__14 s__15 s__16 s__17 s__18 s__19 s__20 s__21 s__22 s__23 s__24 s__25 s__26 (w64 z3) (w64 z4) (-(1 : Int)) (0 : Int)) fun z6 =>
 (.bb (!z6)
 (.ret ((0 : Int), ((0 : Int), ((0 : Int), (false, ((0 : Int), ((0 : Int), ((0 : Int), ((0 : Int), ((0 : Int), ((0 : Int), ((0 : Int), ((0 : Int), ((0 : Int), ((0 : Int), ((0 : Int), ((0 : Int), ((0 : Int), ((0 : Int), ((0 : Int), ((0 : Int), ((0 : Int), ((0 : Int), ((0 : Int), ((0 : Int), ((0 : Int), ((0 : Int), ((0 : Int), ((0 : Int), ((0 : Int), ((0 : Int), ((0 : Int), (4 : Int)))))))))))))))))))))))))))))))))
 (.ret ((2 : Int), (s__1, (s__2, (s__3, (s__4, (s__5, (s__6, (s__7, (s__8, (s__9, (s__10, (s__11, (s__12, (s__13, (s__14, (s__15, (s__16, (s__17, (s__18, (s__19, (s__20, (s__21, (s__22, (s__23, (s__24, (s__25, (s__26, ((w64 z3), ((w64 z4), ((-(1 : Int)), ((0 : Int), (0 : Int)))))))))))))))))))))))))))))))))))
 (.opt (book_Right.c s__0 s__1 s__2 s__3 s__4 s__5 s__6 s__7 s__8 s__9 s__10 s__11 s__12 s__13 s__14 s__15 s__16 s__17 s__18 s__19 s__20 s__21 s__22 s__23 s__24 s__25 s__26 (w64 z3) (w64 z4) s__29 s__30) fun z5 =>
 (.bb (!z5)
 (.ret ((0 : Int), ((0 : Int), ((0 : Int), (false, ((0 : Int), ((0 : Int), ((0 : Int), ((0 : Int), ((0 : Int), ((0 : Int), ((0 : Int), ((0 : Int), ((0 : Int), ((0 : Int), ((0 : Int), ((0 : Int), ((0 : Int), ((0 : Int), ((0 : Int), ((0 : Int), ((0 : Int), ((0 : Int), ((0 : Int), ((0 : Int), ((0 : Int), ((0 : Int), ((0 : Int), ((0 : Int), ((0 : Int), ((0 : Int), ((0 : Int), (4 : Int)))))))))))))))))))))))))))))))))
 (.ret (s__0, (s__1, (s__2, (s__3, (s__4, (s__5, (s__6, (s__7, (s__8, (s__9, (s__10, (s__11, (s__12, (s__13, (s__14, (s__15, (s__16, (s__17, (s__18, (s__19, (s__20, (s__21, (s__22, (s__23, (s__24, (s__25, (s__26, ((w64 z3), ((w64 z4), (s__29, (s__30, (0 : Int))))))))))))))))))))))))))))))))))))))
 (.ret ((0 : Int), ((0 : Int), ((0 : Int), (false, ((0 : Int), ((0 : Int), ((0 : Int), ((0 : Int), ((0 : Int), ((0 : Int), ((0 : Int), ((0 : Int), ((0 : Int), ((0 : Int), ((0 : Int), ((0 : Int), ((0 : Int), ((0 : Int), ((0 : Int), ((0 : Int), ((0 : Int), ((0 : Int), ((0 : Int), ((0 : Int), ((0 : Int), ((0 : Int), ((0 : Int), ((0 : Int), ((0 : Int), ((0 : Int), ((0 : Int), (4 : Int))))))))))))))))))))))))))))))))))))))
def c (s__0 s__1 s__2 : Int) (s__3 : Bool) (s__4 s__5 s__6 s__7 s__8 s__9 s__10 s__11 s__12 s__13 s__14 s__15 s__16 s__17 s__18 s__19 s__20 s__21 s__22 s__23 s__24 s__25 s__26 s__27 s__28 s__29 s__30 : Int) (w : (List Int)) : Option XA := (t s__0 s__1 s__2 s__3 s__4 s__5 s__6 s__7 s__8 s__9 s__10 s__11 s__12 s__13 s__14 s__15 s__16 s__17 s__18 s__19 s__20 s__21 s__22 s__23 s__24 s__25 s__26 s__27 s__28 s__29 s__30 w).run
def tl (l : TA) : Tw XA := t l.1.1.1 l.1.1.2.1 l.1.1.2.2.1 l.1.1.2.2.2.1 (d4 l.1.1).1 (d4 l.1.1).2.1 (d4 l.1.1).2.2.1 (d4 l.1.1).2.2.2.1 (d8 l.1.1).1 (d8 l.1.1).2.1 (d8 l.1.1).2.2.1 (d8 l.1.1).2.2.2.1 (d12 l.1.1).1 (d12 l.1.1).2.1 (d12 l.1.1).2.2.1 (d12 l.1.1).2.2.2.1 (d16 l.1.1).1 (d16 l.1.1).2.1 (d16 l.1.1).2.2.1 (d16 l.1.1).2.2.2.1 (d20 l.1.1).1 (d20 l.1.1).2.1 (d20 l.1.1).2.2.1 (d20 l.1.1).2.2.2.1 (d24 l.1.1).1 (d24 l.1.1).2.1 (d24 l.1.1).2.2.1 (d24 l.1.1).2.2.2.1 (d28 l.1.1).1 (d28 l.1.1).2.1 (d28 l.1.1).2.2.1 l.1.2.1
def pA : Pt := (.cs (.agg (jC (jC (jC (.cs .bool (jC (jC (jC (jC (.cs (.int .u32) (.cs (.int .u32) (.cs (.int .u32) (.cs (.int .u32) (.cs (.int .u32) (.cs (.int .u32) (.cs (.int .u32) (.cs (.int .u32) (jC (jC (jC (.cs (.int .u32) (.cs (.int .u32) (.cs (.int .u32) (.cs (.int .u32) (.cs (.int .u32) (.cs (.int .u32) (.cs (.int .u32) (.cs (.int .u32) (jC (jC (jC (jC .nl)))))))))))))))))))))))))))))))) (.cs (.sl 3) .nl))
def pH : Pt := .nl
def v (l : TA) (y : XA) : AV U := .tup [.agg [jI y.1, jI y.2.1, jI y.2.2.1, jB y.2.2.2.1, jI (d4 y).1, jI (d4 y).2.1, jI (d4 y).2.2.1, jI (d4 y).2.2.2.1, .im (.int .u32 (d8 y).1), .im (.int .u32 (d8 y).2.1), .im (.int .u32 (d8 y).2.2.1), .im (.int .u32 (d8 y).2.2.2.1), .im (.int .u32 (d12 y).1), .im (.int .u32 (d12 y).2.1), .im (.int .u32 (d12 y).2.2.1), .im (.int .u32 (d12 y).2.2.2.1), jI (d16 y).1, jI (d16 y).2.1, jI (d16 y).2.2.1, .im (.int .u32 (d16 y).2.2.2.1), .im (.int .u32 (d20 y).1), .im (.int .u32 (d20 y).2.1), .im (.int .u32 (d20 y).2.2.1), .im (.int .u32 (d20 y).2.2.2.1), .im (.int .u32 (d24 y).1), .im (.int .u32 (d24 y).2.1), .im (.int .u32 (d24 y).2.2.1), jI (d24 y).2.2.2.1, jI (d28 y).1, jI (d28 y).2.1, jI (d28 y).2.2.1], jI (d28 y).2.2.2]
def hh (l : TA) (y : XA) : Hp U := []
def A : AFun U := mkA pA pH (X := XA) (fun l => (tl l).run) sp1 v hh
def body := bodyOf Try.f54
def E : Env U := E0.mk5 [(45, book_Right.A)] [] [] [] []
theorem hk : HK E Try.f54 [] pA pH tl v hh := fun _ _ _ => by kernel_rfl
theorem og : SoundF Try.prog cc 54 A ∧ FnOK Try.prog 54 :=
 og_of (E := E) P_mixed (E0_ok.mk5 _ _ _ _ _) (gam_of (all_cons book_Right.og all_nil) no_ro) Try.func54 (c := body) (by kernel_rfl)
    (just_by (by kernel_rfl) (by kernel_rfl) all_nil all_nil) [] sp1_ok hk (by kernel_rfl)
end book_Apply

/-! instar/book.Fold -/
namespace book_Fold
abbrev TA : Type := ((Unit × Unit) × ((Unit × (Int × (Int × (Bool × (Int × ((List Int) × (Unit × Unit))))))) × ((Unit × (Int × (Int × (Int × (Int × (Int × (Int × Unit))))))) × ((Unit × (Int × (Unit × (Int × (Bool × (Int × (Unit × Unit))))))) × ((List Int) × ((List Int) × ((List Int) × ((List (List Int)) × Unit))))))))
abbrev XA : Type := (Int × (Int × (Int × (Bool × (Int × (Int × (Int × (Int × (Int × (Int × (Int × (Int × (Int × (Int × (Int × (Int × (Int × (Int × (Int × (Int × (Int × (Int × (Int × (Int × (Int × (Int × (Int × (Int × (Int × (Int × (Int × Int)))))))))))))))))))))))))))))))
abbrev T5 : Type := ((Unit × (Unit × (Unit × (Unit × (Unit × (Int × (Unit × (Unit × (Int × (Int × (Unit × Unit))))))))))) × ((Unit × (Int × (Int × (Bool × (Int × ((List Int) × (Unit × Unit))))))) × ((Unit × (Int × (Int × (Int × (Int × (Int × (Int × Unit))))))) × ((Unit × (Int × (Unit × (Int × (Bool × (Int × (Unit × Unit))))))) × ((List Int) × ((List Int) × ((List Int) × ((List (List Int)) × ((Int × (Int × (Int × (Bool × (Int × (Int × (Int × (Int × (Int × (Int × (Int × (Int × (Int × (Int × (Int × (Int × (Int × (Int × (Int × (Int × (Int × (Int × (Int × (Int × (Int × (Int × (Int × (Int × (Int × (Int × (Int × Unit))))))))))))))))))))))))))))))) × ((Int × (Int × (Int × (Bool × (Int × (Int × (Int × (Int × (Int × (Int × (Int × (Int × (Int × (Int × (Int × (Int × (Int × (Int × (Int × (Int × (Int × (Int × (Int × (Int × (Int × (Int × (Int × (Int × (Int × (Int × (Int × Unit))))))))))))))))))))))))))))))) × ((List (List Int)) × Unit)))))))))))
abbrev S5 : Type := (Int × (Int × (Int × (Int × (Int × (Bool × (Int × (Int × (Int × (Int × (Int × (Int × (Int × (Int × (Int × (Int × (Int × (Int × (Int × (Int × (Int × (Int × (Int × (Int × (Int × (Int × (Int × (Int × (Int × (Int × (Int × (Int × Int))))))))))))))))))))))))))))))))
abbrev X5 : Type := (Int × (Int × (Int × (Int × (Bool × (Int × (Int × (Int × (Int × (Int × (Int × (Int × (Int × (Int × (Int × (Int × (Int × (Int × (Int × (Int × (Int × (Int × (Int × (Int × (Int × (Int × (Int × (Int × (Int × (Int × (Int × Int)))))))))))))))))))))))))))))))
def l5 (k19 h0_1 h0_2 : Int) (h0_3 : Bool) (h0_4 : Int) (h0_5 : (List Int)) (h1_1 h1_2 h1_3 h1_4 h1_5 h1_6 h2_1 h2_3 : Int) (h2_4 : Bool) (h2_5 : Int) (h3 : (List Int)) (h4 : (List Int)) (h5 : (List Int)) (h6 : (List (List Int))) (h7_0 h7_1 h7_2 : Int) (h7_3 : Bool) (h7_4 h7_5 h7_6 h7_7 h7_8 h7_9 h7_10 h7_11 h7_12 h7_13 h7_14 h7_15 h7_16 h7_17 h7_18 h7_19 h7_20 h7_21 h7_22 h7_23 h7_24 h7_25 h7_26 h7_27 h7_28 h7_29 h7_30 : Int) (h9 : (List (List Int))) (e k20 h8_0 h8_1 h8_2 : Int) (h8_3 : Bool) (h8_4 h8_5 h8_6 h8_7 h8_8 h8_9 h8_10 h8_11 h8_12 h8_13 h8_14 h8_15 h8_16 h8_17 h8_18 h8_19 h8_20 h8_21 h8_22 h8_23 h8_24 h8_25 h8_26 h8_27 h8_28 h8_29 h8_30 : Int) : Tw (S5 ⊕ X5) :=
 (.bb (decide (k20 < k19))
 (.dd ((((0 : Int) ≤ k20) ∧ (k20 < (((List.length h9) : Nat) : Int)))) inferInstance
 (.opt (h9)[(Int.toNat k20)]? fun z4 =>
 (.bb (e != (0 : Int))
 (.ret (.inr (e, (h8_0, (h8_1, (h8_2, (h8_3, (h8_4, (h8_5, (h8_6, (h8_7, (h8_8, (h8_9, (h8_10, (h8_11, (h8_12, (h8_13, (h8_14, (h8_15, (h8_16, (h8_17, (h8_18, (h8_19, (h8_20, (h8_21, (h8_22, (h8_23, (h8_24, (h8_25, (h8_26, (h8_27, (h8_28, (h8_29, h8_30)))))))))))))))))))))))))))))))))
 (.opt (book_Apply.c h8_0 h8_1 h8_2 h8_3 h8_4 h8_5 h8_6 h8_7 h8_8 h8_9 h8_10 h8_11 h8_12 h8_13 h8_14 h8_15 h8_16 h8_17 h8_18 h8_19 h8_20 h8_21 h8_22 h8_23 h8_24 h8_25 h8_26 h8_27 h8_28 h8_29 h8_30 z4) fun z5 =>
 (.ret (.inl ((d28 z5).2.2.2, ((w64 (k20 + (1 : Int))), (z5.1, (z5.2.1, (z5.2.2.1, (z5.2.2.2.1, ((d4 z5).1, ((d4 z5).2.1, ((d4 z5).2.2.1, ((d4 z5).2.2.2.1, ((d8 z5).1, ((d8 z5).2.1, ((d8 z5).2.2.1, ((d8 z5).2.2.2.1, ((d12 z5).1, ((d12 z5).2.1, ((d12 z5).2.2.1, ((d12 z5).2.2.2.1, ((d16 z5).1, ((d16 z5).2.1, ((d16 z5).2.2.1, ((d16 z5).2.2.2.1, ((d20 z5).1, ((d20 z5).2.1, ((d20 z5).2.2.1, ((d20 z5).2.2.2.1, ((d24 z5).1, ((d24 z5).2.1, ((d24 z5).2.2.1, ((d24 z5).2.2.2.1, ((d28 z5).1, ((d28 z5).2.1, (d28 z5).2.2.1)))))))))))))))))))))))))))))))))))))
 .no)
 (.ret (.inr (e, (h8_0, (h8_1, (h8_2, (h8_3, (h8_4, (h8_5, (h8_6, (h8_7, (h8_8, (h8_9, (h8_10, (h8_11, (h8_12, (h8_13, (h8_14, (h8_15, (h8_16, (h8_17, (h8_18, (h8_19, (h8_20, (h8_21, (h8_22, (h8_23, (h8_24, (h8_25, (h8_26, (h8_27, (h8_28, (h8_29, h8_30))))))))))))))))))))))))))))))))))
def L5 (e k19 k20 h0_1 h0_2 : Int) (h0_3 : Bool) (h0_4 : Int) (h0_5 : (List Int)) (h1_1 h1_2 h1_3 h1_4 h1_5 h1_6 h2_1 h2_3 : Int) (h2_4 : Bool) (h2_5 : Int) (h3 : (List Int)) (h4 : (List Int)) (h5 : (List Int)) (h6 : (List (List Int))) (h7_0 h7_1 h7_2 : Int) (h7_3 : Bool) (h7_4 h7_5 h7_6 h7_7 h7_8 h7_9 h7_10 h7_11 h7_12 h7_13 h7_14 h7_15 h7_16 h7_17 h7_18 h7_19 h7_20 h7_21 h7_22 h7_23 h7_24 h7_25 h7_26 h7_27 h7_28 h7_29 h7_30 h8_0 h8_1 h8_2 : Int) (h8_3 : Bool) (h8_4 h8_5 h8_6 h8_7 h8_8 h8_9 h8_10 h8_11 h8_12 h8_13 h8_14 h8_15 h8_16 h8_17 h8_18 h8_19 h8_20 h8_21 h8_22 h8_23 h8_24 h8_25 h8_26 h8_27 h8_28 h8_29 h8_30 : Int) (h9 : (List (List Int))) : Option X5 := Lp (fun s => (l5 k19 h0_1 h0_2 h0_3 h0_4 h0_5 h1_1 h1_2 h1_3 h1_4 h1_5 h1_6 h2_1 h2_3 h2_4 h2_5 h3 h4 h5 h6 h7_0 h7_1 h7_2 h7_3 h7_4 h7_5 h7_6 h7_7 h7_8 h7_9 h7_10 h7_11 h7_12 h7_13 h7_14 h7_15 h7_16 h7_17 h7_18 h7_19 h7_20 h7_21 h7_22 h7_23 h7_24 h7_25 h7_26 h7_27 h7_28 h7_29 h7_30 h9 s.1 s.2.1 s.2.2.1 s.2.2.2.1 (d4 s).1 (d4 s).2.1 (d4 s).2.2.1 (d4 s).2.2.2.1 (d8 s).1 (d8 s).2.1 (d8 s).2.2.1 (d8 s).2.2.2.1 (d12 s).1 (d12 s).2.1 (d12 s).2.2.1 (d12 s).2.2.2.1 (d16 s).1 (d16 s).2.1 (d16 s).2.2.1 (d16 s).2.2.2.1 (d20 s).1 (d20 s).2.1 (d20 s).2.2.1 (d20 s).2.2.2.1 (d24 s).1 (d24 s).2.1 (d24 s).2.2.1 (d24 s).2.2.2.1 (d28 s).1 (d28 s).2.1 (d28 s).2.2.1 (d28 s).2.2.2.1 (d32 s)).run) (e, (k20, (h8_0, (h8_1, (h8_2, (h8_3, (h8_4, (h8_5, (h8_6, (h8_7, (h8_8, (h8_9, (h8_10, (h8_11, (h8_12, (h8_13, (h8_14, (h8_15, (h8_16, (h8_17, (h8_18, (h8_19, (h8_20, (h8_21, (h8_22, (h8_23, (h8_24, (h8_25, (h8_26, (h8_27, (h8_28, (h8_29, h8_30))))))))))))))))))))))))))))))))
def p5 : Pt := (.cs (.ptr 0 0) (.cs (.bots 1) (.cs (.ptr 7 0) (.cs (.bots 1) (.cs (.ptr 8 0) (jC (.cs (.bots 12) (.cs (.own 9) (jC (jC (.cs (.bots 14) .nl)))))))))))
def q5 : Pt := (.cs (.var (.cs (.ptr 1 0) (jC (jC (.cs .bool (jC (.cs (.sl 3) (.cs (.own 6) .nl)))))))) (.cs (.var (.cs (.ptr 2 0) (jC (jC (jC (jC (jC (jC .nl)))))))) (.cs (.var (.cs (.own 3) (jC (.cs (.own 4) (jC (.cs .bool (jC (.cs (.own 5) .nl)))))))) (.cs (.row 3 true) (.cs (.row 1 true) (.cs (.row 3 true) (.cs (.row 12 true) (.cs (.var (jC (jC (jC (.cs .bool (jC (jC (jC (jC (.cs (.int .u32) (.cs (.int .u32) (.cs (.int .u32) (.cs (.int .u32) (.cs (.int .u32) (.cs (.int .u32) (.cs (.int .u32) (.cs (.int .u32) (jC (jC (jC (.cs (.int .u32) (.cs (.int .u32) (.cs (.int .u32) (.cs (.int .u32) (.cs (.int .u32) (.cs (.int .u32) (.cs (.int .u32) (.cs (.int .u32) (jC (jC (jC (jC .nl)))))))))))))))))))))))))))))))) (.cs (.var (jC (jC (jC (.cs .bool (jC (jC (jC (jC (.cs (.int .u32) (.cs (.int .u32) (.cs (.int .u32) (.cs (.int .u32) (.cs (.int .u32) (.cs (.int .u32) (.cs (.int .u32) (.cs (.int .u32) (jC (jC (jC (.cs (.int .u32) (.cs (.int .u32) (.cs (.int .u32) (.cs (.int .u32) (.cs (.int .u32) (.cs (.int .u32) (.cs (.int .u32) (.cs (.int .u32) (jC (jC (jC (jC .nl)))))))))))))))))))))))))))))))) (.cs (.row 12 true) .nl))))))))))
def ou5 (l : T5) (y : X5) : Ex × St U := (.exit 0, stOf 35 [(0, .ptr 0 0), (2, .ptr 7 0), (4, .ptr 8 0), (5, jI y.1)] [.var [.ptr 1 0, jI l.2.1.2.1, jI l.2.1.2.2.1, jB l.2.1.2.2.2.1, jI (d4 l.2.1).1, .im (.slice 3 (d4 l.2.1).2.1), .own 6], .var [.ptr 2 0, jI l.2.2.1.2.1, jI l.2.2.1.2.2.1, jI l.2.2.1.2.2.2.1, jI (d4 l.2.2.1).1, jI (d4 l.2.2.1).2.1, jI (d4 l.2.2.1).2.2.1], .var [.own 3, jI l.2.2.2.1.2.1, .own 4, jI l.2.2.2.1.2.2.2.1, jB (d4 l.2.2.2.1).1, jI (d4 l.2.2.2.1).2.1, .own 5], .row 3 (d4 l).1 true, .row 1 (d4 l).2.1 true, .row 3 (d4 l).2.2.1 true, .row 12 (d4 l).2.2.2.1 true, .var [jI l.2.2.2.2.2.2.2.2.1.1, jI l.2.2.2.2.2.2.2.2.1.2.1, jI l.2.2.2.2.2.2.2.2.1.2.2.1, jB l.2.2.2.2.2.2.2.2.1.2.2.2.1, jI (d4 l.2.2.2.2.2.2.2.2.1).1, jI (d4 l.2.2.2.2.2.2.2.2.1).2.1, jI (d4 l.2.2.2.2.2.2.2.2.1).2.2.1, jI (d4 l.2.2.2.2.2.2.2.2.1).2.2.2.1, .im (.int .u32 (d8 l.2.2.2.2.2.2.2.2.1).1), .im (.int .u32 (d8 l.2.2.2.2.2.2.2.2.1).2.1), .im (.int .u32 (d8 l.2.2.2.2.2.2.2.2.1).2.2.1), .im (.int .u32 (d8 l.2.2.2.2.2.2.2.2.1).2.2.2.1), .im (.int .u32 (d12 l.2.2.2.2.2.2.2.2.1).1), .im (.int .u32 (d12 l.2.2.2.2.2.2.2.2.1).2.1), .im (.int .u32 (d12 l.2.2.2.2.2.2.2.2.1).2.2.1), .im (.int .u32 (d12 l.2.2.2.2.2.2.2.2.1).2.2.2.1), jI (d16 l.2.2.2.2.2.2.2.2.1).1, jI (d16 l.2.2.2.2.2.2.2.2.1).2.1, jI (d16 l.2.2.2.2.2.2.2.2.1).2.2.1, .im (.int .u32 (d16 l.2.2.2.2.2.2.2.2.1).2.2.2.1), .im (.int .u32 (d20 l.2.2.2.2.2.2.2.2.1).1), .im (.int .u32 (d20 l.2.2.2.2.2.2.2.2.1).2.1), .im (.int .u32 (d20 l.2.2.2.2.2.2.2.2.1).2.2.1), .im (.int .u32 (d20 l.2.2.2.2.2.2.2.2.1).2.2.2.1), .im (.int .u32 (d24 l.2.2.2.2.2.2.2.2.1).1), .im (.int .u32 (d24 l.2.2.2.2.2.2.2.2.1).2.1), .im (.int .u32 (d24 l.2.2.2.2.2.2.2.2.1).2.2.1), jI (d24 l.2.2.2.2.2.2.2.2.1).2.2.2.1, jI (d28 l.2.2.2.2.2.2.2.2.1).1, jI (d28 l.2.2.2.2.2.2.2.2.1).2.1, jI (d28 l.2.2.2.2.2.2.2.2.1).2.2.1], .var [jI y.2.1, jI y.2.2.1, jI y.2.2.2.1, jB (d4 y).1, jI (d4 y).2.1, jI (d4 y).2.2.1, jI (d4 y).2.2.2.1, jI (d8 y).1, .im (.int .u32 (d8 y).2.1), .im (.int .u32 (d8 y).2.2.1), .im (.int .u32 (d8 y).2.2.2.1), .im (.int .u32 (d12 y).1), .im (.int .u32 (d12 y).2.1), .im (.int .u32 (d12 y).2.2.1), .im (.int .u32 (d12 y).2.2.2.1), .im (.int .u32 (d16 y).1), jI (d16 y).2.1, jI (d16 y).2.2.1, jI (d16 y).2.2.2.1, .im (.int .u32 (d20 y).1), .im (.int .u32 (d20 y).2.1), .im (.int .u32 (d20 y).2.2.1), .im (.int .u32 (d20 y).2.2.2.1), .im (.int .u32 (d24 y).1), .im (.int .u32 (d24 y).2.1), .im (.int .u32 (d24 y).2.2.1), .im (.int .u32 (d24 y).2.2.2.1), jI (d28 y).1, jI (d28 y).2.1, jI (d28 y).2.2.1, jI (d28 y).2.2.2]] 7)
def Λ5 : LFun U := mkLp p5 q5 7 (X := X5) (fun (l : T5) => L5 (d4 l.1).2.1 (d8 l.1).1 (d8 l.1).2.1 l.2.1.2.1 l.2.1.2.2.1 l.2.1.2.2.2.1 (d4 l.2.1).1 (d4 l.2.1).2.1 l.2.2.1.2.1 l.2.2.1.2.2.1 l.2.2.1.2.2.2.1 (d4 l.2.2.1).1 (d4 l.2.2.1).2.1 (d4 l.2.2.1).2.2.1 l.2.2.2.1.2.1 l.2.2.2.1.2.2.2.1 (d4 l.2.2.2.1).1 (d4 l.2.2.2.1).2.1 (d4 l).1 (d4 l).2.1 (d4 l).2.2.1 (d4 l).2.2.2.1 l.2.2.2.2.2.2.2.2.1.1 l.2.2.2.2.2.2.2.2.1.2.1 l.2.2.2.2.2.2.2.2.1.2.2.1 l.2.2.2.2.2.2.2.2.1.2.2.2.1 (d4 l.2.2.2.2.2.2.2.2.1).1 (d4 l.2.2.2.2.2.2.2.2.1).2.1 (d4 l.2.2.2.2.2.2.2.2.1).2.2.1 (d4 l.2.2.2.2.2.2.2.2.1).2.2.2.1 (d8 l.2.2.2.2.2.2.2.2.1).1 (d8 l.2.2.2.2.2.2.2.2.1).2.1 (d8 l.2.2.2.2.2.2.2.2.1).2.2.1 (d8 l.2.2.2.2.2.2.2.2.1).2.2.2.1 (d12 l.2.2.2.2.2.2.2.2.1).1 (d12 l.2.2.2.2.2.2.2.2.1).2.1 (d12 l.2.2.2.2.2.2.2.2.1).2.2.1 (d12 l.2.2.2.2.2.2.2.2.1).2.2.2.1 (d16 l.2.2.2.2.2.2.2.2.1).1 (d16 l.2.2.2.2.2.2.2.2.1).2.1 (d16 l.2.2.2.2.2.2.2.2.1).2.2.1 (d16 l.2.2.2.2.2.2.2.2.1).2.2.2.1 (d20 l.2.2.2.2.2.2.2.2.1).1 (d20 l.2.2.2.2.2.2.2.2.1).2.1 (d20 l.2.2.2.2.2.2.2.2.1).2.2.1 (d20 l.2.2.2.2.2.2.2.2.1).2.2.2.1 (d24 l.2.2.2.2.2.2.2.2.1).1 (d24 l.2.2.2.2.2.2.2.2.1).2.1 (d24 l.2.2.2.2.2.2.2.2.1).2.2.1 (d24 l.2.2.2.2.2.2.2.2.1).2.2.2.1 (d28 l.2.2.2.2.2.2.2.2.1).1 (d28 l.2.2.2.2.2.2.2.2.1).2.1 (d28 l.2.2.2.2.2.2.2.2.1).2.2.1 l.2.2.2.2.2.2.2.2.2.1.1 l.2.2.2.2.2.2.2.2.2.1.2.1 l.2.2.2.2.2.2.2.2.2.1.2.2.1 l.2.2.2.2.2.2.2.2.2.1.2.2.2.1 (d4 l.2.2.2.2.2.2.2.2.2.1).1 (d4 l.2.2.2.2.2.2.2.2.2.1).2.1 (d4 l.2.2.2.2.2.2.2.2.2.1).2.2.1 (d4 l.2.2.2.2.2.2.2.2.2.1).2.2.2.1 (d8 l.2.2.2.2.2.2.2.2.2.1).1 (d8 l.2.2.2.2.2.2.2.2.2.1).2.1 (d8 l.2.2.2.2.2.2.2.2.2.1).2.2.1 (d8 l.2.2.2.2.2.2.2.2.2.1).2.2.2.1 (d12 l.2.2.2.2.2.2.2.2.2.1).1 (d12 l.2.2.2.2.2.2.2.2.2.1).2.1 (d12 l.2.2.2.2.2.2.2.2.2.1).2.2.1 (d12 l.2.2.2.2.2.2.2.2.2.1).2.2.2.1 (d16 l.2.2.2.2.2.2.2.2.2.1).1 (d16 l.2.2.2.2.2.2.2.2.2.1).2.1 (d16 l.2.2.2.2.2.2.2.2.2.1).2.2.1 (d16 l.2.2.2.2.2.2.2.2.2.1).2.2.2.1 (d20 l.2.2.2.2.2.2.2.2.2.1).1 (d20 l.2.2.2.2.2.2.2.2.2.1).2.1 (d20 l.2.2.2.2.2.2.2.2.2.1).2.2.1 (d20 l.2.2.2.2.2.2.2.2.2.1).2.2.2.1 (d24 l.2.2.2.2.2.2.2.2.2.1).1 (d24 l.2.2.2.2.2.2.2.2.2.1).2.1 (d24 l.2.2.2.2.2.2.2.2.2.1).2.2.1 (d24 l.2.2.2.2.2.2.2.2.2.1).2.2.2.1 (d28 l.2.2.2.2.2.2.2.2.2.1).1 (d28 l.2.2.2.2.2.2.2.2.2.1).2.1 (d28 l.2.2.2.2.2.2.2.2.2.1).2.2.1 (d8 l).2.2.1) sp1 ou5
def hd5 (l : T5) (s : S5) : T5 := (((), ((), ((), ((), ((), (s.1, ((), ((), ((d8 l.1).1, (s.2.1, ((), ()))))))))))), (((), (l.2.1.2.1, (l.2.1.2.2.1, (l.2.1.2.2.2.1, ((d4 l.2.1).1, ((d4 l.2.1).2.1, ((), ()))))))), (((), (l.2.2.1.2.1, (l.2.2.1.2.2.1, (l.2.2.1.2.2.2.1, ((d4 l.2.2.1).1, ((d4 l.2.2.1).2.1, ((d4 l.2.2.1).2.2.1, ()))))))), (((), (l.2.2.2.1.2.1, ((), (l.2.2.2.1.2.2.2.1, ((d4 l.2.2.2.1).1, ((d4 l.2.2.2.1).2.1, ((), ()))))))), ((d4 l).1, ((d4 l).2.1, ((d4 l).2.2.1, ((d4 l).2.2.2.1, ((l.2.2.2.2.2.2.2.2.1.1, (l.2.2.2.2.2.2.2.2.1.2.1, (l.2.2.2.2.2.2.2.2.1.2.2.1, (l.2.2.2.2.2.2.2.2.1.2.2.2.1, ((d4 l.2.2.2.2.2.2.2.2.1).1, ((d4 l.2.2.2.2.2.2.2.2.1).2.1, ((d4 l.2.2.2.2.2.2.2.2.1).2.2.1, ((d4 l.2.2.2.2.2.2.2.2.1).2.2.2.1, ((d8 l.2.2.2.2.2.2.2.2.1).1, ((d8 l.2.2.2.2.2.2.2.2.1).2.1, ((d8 l.2.2.2.2.2.2.2.2.1).2.2.1, ((d8 l.2.2.2.2.2.2.2.2.1).2.2.2.1, ((d12 l.2.2.2.2.2.2.2.2.1).1, ((d12 l.2.2.2.2.2.2.2.2.1).2.1, ((d12 l.2.2.2.2.2.2.2.2.1).2.2.1, ((d12 l.2.2.2.2.2.2.2.2.1).2.2.2.1, ((d16 l.2.2.2.2.2.2.2.2.1).1, ((d16 l.2.2.2.2.2.2.2.2.1).2.1, ((d16 l.2.2.2.2.2.2.2.2.1).2.2.1, ((d16 l.2.2.2.2.2.2.2.2.1).2.2.2.1, ((d20 l.2.2.2.2.2.2.2.2.1).1, ((d20 l.2.2.2.2.2.2.2.2.1).2.1, ((d20 l.2.2.2.2.2.2.2.2.1).2.2.1, ((d20 l.2.2.2.2.2.2.2.2.1).2.2.2.1, ((d24 l.2.2.2.2.2.2.2.2.1).1, ((d24 l.2.2.2.2.2.2.2.2.1).2.1, ((d24 l.2.2.2.2.2.2.2.2.1).2.2.1, ((d24 l.2.2.2.2.2.2.2.2.1).2.2.2.1, ((d28 l.2.2.2.2.2.2.2.2.1).1, ((d28 l.2.2.2.2.2.2.2.2.1).2.1, ((d28 l.2.2.2.2.2.2.2.2.1).2.2.1, ()))))))))))))))))))))))))))))))), ((s.2.2.1, (s.2.2.2.1, ((d4 s).1, ((d4 s).2.1, ((d4 s).2.2.1, ((d4 s).2.2.2.1, ((d8 s).1, ((d8 s).2.1, ((d8 s).2.2.1, ((d8 s).2.2.2.1, ((d12 s).1, ((d12 s).2.1, ((d12 s).2.2.1, ((d12 s).2.2.2.1, ((d16 s).1, ((d16 s).2.1, ((d16 s).2.2.1, ((d16 s).2.2.2.1, ((d20 s).1, ((d20 s).2.1, ((d20 s).2.2.1, ((d20 s).2.2.2.1, ((d24 s).1, ((d24 s).2.1, ((d24 s).2.2.1, ((d24 s).2.2.2.1, ((d28 s).1, ((d28 s).2.1, ((d28 s).2.2.1, ((d28 s).2.2.2.1, ((d32 s), ()))))))))))))))))))))))))))))))), ((d8 l).2.2.1, ())))))))))))
def fl5 (l : T5) (s : S5) : Tw (S5 ⊕ X5) := l5 (d8 l.1).1 l.2.1.2.1 l.2.1.2.2.1 l.2.1.2.2.2.1 (d4 l.2.1).1 (d4 l.2.1).2.1 l.2.2.1.2.1 l.2.2.1.2.2.1 l.2.2.1.2.2.2.1 (d4 l.2.2.1).1 (d4 l.2.2.1).2.1 (d4 l.2.2.1).2.2.1 l.2.2.2.1.2.1 l.2.2.2.1.2.2.2.1 (d4 l.2.2.2.1).1 (d4 l.2.2.2.1).2.1 (d4 l).1 (d4 l).2.1 (d4 l).2.2.1 (d4 l).2.2.2.1 l.2.2.2.2.2.2.2.2.1.1 l.2.2.2.2.2.2.2.2.1.2.1 l.2.2.2.2.2.2.2.2.1.2.2.1 l.2.2.2.2.2.2.2.2.1.2.2.2.1 (d4 l.2.2.2.2.2.2.2.2.1).1 (d4 l.2.2.2.2.2.2.2.2.1).2.1 (d4 l.2.2.2.2.2.2.2.2.1).2.2.1 (d4 l.2.2.2.2.2.2.2.2.1).2.2.2.1 (d8 l.2.2.2.2.2.2.2.2.1).1 (d8 l.2.2.2.2.2.2.2.2.1).2.1 (d8 l.2.2.2.2.2.2.2.2.1).2.2.1 (d8 l.2.2.2.2.2.2.2.2.1).2.2.2.1 (d12 l.2.2.2.2.2.2.2.2.1).1 (d12 l.2.2.2.2.2.2.2.2.1).2.1 (d12 l.2.2.2.2.2.2.2.2.1).2.2.1 (d12 l.2.2.2.2.2.2.2.2.1).2.2.2.1 (d16 l.2.2.2.2.2.2.2.2.1).1 (d16 l.2.2.2.2.2.2.2.2.1).2.1 (d16 l.2.2.2.2.2.2.2.2.1).2.2.1 (d16 l.2.2.2.2.2.2.2.2.1).2.2.2.1 (d20 l.2.2.2.2.2.2.2.2.1).1 (d20 l.2.2.2.2.2.2.2.2.1).2.1 (d20 l.2.2.2.2.2.2.2.2.1).2.2.1 (d20 l.2.2.2.2.2.2.2.2.1).2.2.2.1 (d24 l.2.2.2.2.2.2.2.2.1).1 (d24 l.2.2.2.2.2.2.2.2.1).2.1 (d24 l.2.2.2.2.2.2.2.2.1).2.2.1 (d24 l.2.2.2.2.2.2.2.2.1).2.2.2.1 (d28 l.2.2.2.2.2.2.2.2.1).1 (d28 l.2.2.2.2.2.2.2.2.1).2.1 (d28 l.2.2.2.2.2.2.2.2.1).2.2.1 (d8 l).2.2.1 s.1 s.2.1 s.2.2.1 s.2.2.2.1 (d4 s).1 (d4 s).2.1 (d4 s).2.2.1 (d4 s).2.2.2.1 (d8 s).1 (d8 s).2.1 (d8 s).2.2.1 (d8 s).2.2.2.1 (d12 s).1 (d12 s).2.1 (d12 s).2.2.1 (d12 s).2.2.2.1 (d16 s).1 (d16 s).2.1 (d16 s).2.2.1 (d16 s).2.2.2.1 (d20 s).1 (d20 s).2.1 (d20 s).2.2.1 (d20 s).2.2.2.1 (d24 s).1 (d24 s).2.1 (d24 s).2.2.1 (d24 s).2.2.2.1 (d28 s).1 (d28 s).2.1 (d28 s).2.2.1 (d28 s).2.2.2.1 (d32 s)
def t (h0_1 h0_2 : Int) (h0_3 : Bool) (h0_4 : Int) (h0_5 : (List Int)) (h1_1 h1_2 h1_3 h1_4 h1_5 h1_6 h2_1 h2_3 : Int) (h2_4 : Bool) (h2_5 : Int) (h3 : (List Int)) (h4 : (List Int)) (h5 : (List Int)) (h6 : (List (List Int))) : Tw XA :=
 (.opt (journal_Journal_Whole.c h0_1 h0_2 h0_3 h0_4 h0_5 h1_1 h1_2 h1_3 h1_4 h1_5 h1_6 h2_1 h2_3 h2_4 h2_5 h3 h4 h5 h6) fun z1 =>
 (.opt (book_Take.c z1) fun z2 =>
 (.opt (journal_Journal_Changes.c h0_1 h0_2 h0_3 h0_4 h0_5 h1_1 h1_2 h1_3 h1_4 h1_5 h1_6 h2_1 h2_3 h2_4 h2_5 h3 h4 h5 h6) fun z3 =>
 (.opt (L5 (d28 z2).2.2.2 (((List.length z3) : Nat) : Int) (0 : Int) h0_1 h0_2 h0_3 h0_4 h0_5 h1_1 h1_2 h1_3 h1_4 h1_5 h1_6 h2_1 h2_3 h2_4 h2_5 h3 h4 h5 h6 (0 : Int) (0 : Int) (0 : Int) false (0 : Int) (0 : Int) (0 : Int) (0 : Int) (0 : Int) (0 : Int) (0 : Int) (0 : Int) (0 : Int) (0 : Int) (0 : Int) (0 : Int) (0 : Int) (0 : Int) (0 : Int) (0 : Int) (0 : Int) (0 : Int) (0 : Int) (0 : Int) (0 : Int) (0 : Int) (0 : Int) (0 : Int) (0 : Int) (0 : Int) (0 : Int) z2.1 z2.2.1 z2.2.2.1 z2.2.2.2.1 (d4 z2).1 (d4 z2).2.1 (d4 z2).2.2.1 (d4 z2).2.2.2.1 (d8 z2).1 (d8 z2).2.1 (d8 z2).2.2.1 (d8 z2).2.2.2.1 (d12 z2).1 (d12 z2).2.1 (d12 z2).2.2.1 (d12 z2).2.2.2.1 (d16 z2).1 (d16 z2).2.1 (d16 z2).2.2.1 (d16 z2).2.2.2.1 (d20 z2).1 (d20 z2).2.1 (d20 z2).2.2.1 (d20 z2).2.2.2.1 (d24 z2).1 (d24 z2).2.1 (d24 z2).2.2.1 (d24 z2).2.2.2.1 (d28 z2).1 (d28 z2).2.1 (d28 z2).2.2.1 z3) fun z6 =>
 (.ret (z6.2.1, (z6.2.2.1, (z6.2.2.2.1, ((d4 z6).1, ((d4 z6).2.1, ((d4 z6).2.2.1, ((d4 z6).2.2.2.1, ((d8 z6).1, ((d8 z6).2.1, ((d8 z6).2.2.1, ((d8 z6).2.2.2.1, ((d12 z6).1, ((d12 z6).2.1, ((d12 z6).2.2.1, ((d12 z6).2.2.2.1, ((d16 z6).1, ((d16 z6).2.1, ((d16 z6).2.2.1, ((d16 z6).2.2.2.1, ((d20 z6).1, ((d20 z6).2.1, ((d20 z6).2.2.1, ((d20 z6).2.2.2.1, ((d24 z6).1, ((d24 z6).2.1, ((d24 z6).2.2.1, ((d24 z6).2.2.2.1, ((d28 z6).1, ((d28 z6).2.1, ((d28 z6).2.2.1, ((d28 z6).2.2.2, z6.1))))))))))))))))))))))))))))))))))))
def c (h0_1 h0_2 : Int) (h0_3 : Bool) (h0_4 : Int) (h0_5 : (List Int)) (h1_1 h1_2 h1_3 h1_4 h1_5 h1_6 h2_1 h2_3 : Int) (h2_4 : Bool) (h2_5 : Int) (h3 : (List Int)) (h4 : (List Int)) (h5 : (List Int)) (h6 : (List (List Int))) : Option XA := (t h0_1 h0_2 h0_3 h0_4 h0_5 h1_1 h1_2 h1_3 h1_4 h1_5 h1_6 h2_1 h2_3 h2_4 h2_5 h3 h4 h5 h6).run
def tl (l : TA) : Tw XA := t l.2.1.2.1 l.2.1.2.2.1 l.2.1.2.2.2.1 (d4 l.2.1).1 (d4 l.2.1).2.1 l.2.2.1.2.1 l.2.2.1.2.2.1 l.2.2.1.2.2.2.1 (d4 l.2.2.1).1 (d4 l.2.2.1).2.1 (d4 l.2.2.1).2.2.1 l.2.2.2.1.2.1 l.2.2.2.1.2.2.2.1 (d4 l.2.2.2.1).1 (d4 l.2.2.2.1).2.1 (d4 l).1 (d4 l).2.1 (d4 l).2.2.1 (d4 l).2.2.2.1
def pA : Pt := (.cs (.ptr 0 0) .nl)
def pH : Pt := (.cs (.var (.cs (.ptr 1 0) (jC (jC (.cs .bool (jC (.cs (.sl 3) (.cs (.own 6) .nl)))))))) (.cs (.var (.cs (.ptr 2 0) (jC (jC (jC (jC (jC (jC .nl)))))))) (.cs (.var (.cs (.own 3) (jC (.cs (.own 4) (jC (.cs .bool (jC (.cs (.own 5) .nl)))))))) (.cs (.row 3 true) (.cs (.row 1 true) (.cs (.row 3 true) (.cs (.row 12 true) .nl)))))))
def v (l : TA) (y : XA) : AV U := .tup [.agg [jI y.1, jI y.2.1, jI y.2.2.1, jB y.2.2.2.1, jI (d4 y).1, jI (d4 y).2.1, jI (d4 y).2.2.1, jI (d4 y).2.2.2.1, .im (.int .u32 (d8 y).1), .im (.int .u32 (d8 y).2.1), .im (.int .u32 (d8 y).2.2.1), .im (.int .u32 (d8 y).2.2.2.1), .im (.int .u32 (d12 y).1), .im (.int .u32 (d12 y).2.1), .im (.int .u32 (d12 y).2.2.1), .im (.int .u32 (d12 y).2.2.2.1), jI (d16 y).1, jI (d16 y).2.1, jI (d16 y).2.2.1, .im (.int .u32 (d16 y).2.2.2.1), .im (.int .u32 (d20 y).1), .im (.int .u32 (d20 y).2.1), .im (.int .u32 (d20 y).2.2.1), .im (.int .u32 (d20 y).2.2.2.1), .im (.int .u32 (d24 y).1), .im (.int .u32 (d24 y).2.1), .im (.int .u32 (d24 y).2.2.1), jI (d24 y).2.2.2.1, jI (d28 y).1, jI (d28 y).2.1, jI (d28 y).2.2.1], jI (d28 y).2.2.2]
def hh (l : TA) (y : XA) : Hp U := [.var [.ptr 1 0, jI l.2.1.2.1, jI l.2.1.2.2.1, jB l.2.1.2.2.2.1, jI (d4 l.2.1).1, .im (.slice 3 (d4 l.2.1).2.1), .own 6], .var [.ptr 2 0, jI l.2.2.1.2.1, jI l.2.2.1.2.2.1, jI l.2.2.1.2.2.2.1, jI (d4 l.2.2.1).1, jI (d4 l.2.2.1).2.1, jI (d4 l.2.2.1).2.2.1], .var [.own 3, jI l.2.2.2.1.2.1, .own 4, jI l.2.2.2.1.2.2.2.1, jB (d4 l.2.2.2.1).1, jI (d4 l.2.2.2.1).2.1, .own 5], .row 3 (d4 l).1 true, .row 1 (d4 l).2.1 true, .row 3 (d4 l).2.2.1 true, .row 12 (d4 l).2.2.2.1 true]
def A : AFun U := mkA pA pH (X := XA) (fun l => (tl l).run) sp1 v hh
def body := bodyOf Try.f27
def E : Env U := E0.mk5 [(10, journal_Journal_Whole.A), (53, book_Take.A), (11, journal_Journal_Changes.A), (54, book_Apply.A)] [(5, Λ5)] [] [(5, ⟨[2, 0, 5, 4, 20, 18, 19], []⟩, ⟨[2, 3, 0, 5, 4], []⟩)] [10, 11]
theorem hf5 : HF E (pick (loopsOf body) 5) p5 q5 7 fl5 hd5 sp1 ou5 := fun _ _ _ _ => by kernel_rfl
theorem lk5 : LK E (pick (loopsOf body) 5) Λ5 := fun R st K r h =>
  lp_ok (E := E) (b := pick (loopsOf body) 5) (m := 7) (sp := sp1) (p := p5) (q := q5) (X := X5) (S := S5) (f := fl5) (hd := hd5) (s0 := fun (l : T5) => ((d4 l.1).2.1, ((d8 l.1).2.1, (l.2.2.2.2.2.2.2.2.2.1.1, (l.2.2.2.2.2.2.2.2.2.1.2.1, (l.2.2.2.2.2.2.2.2.2.1.2.2.1, (l.2.2.2.2.2.2.2.2.2.1.2.2.2.1, ((d4 l.2.2.2.2.2.2.2.2.2.1).1, ((d4 l.2.2.2.2.2.2.2.2.2.1).2.1, ((d4 l.2.2.2.2.2.2.2.2.2.1).2.2.1, ((d4 l.2.2.2.2.2.2.2.2.2.1).2.2.2.1, ((d8 l.2.2.2.2.2.2.2.2.2.1).1, ((d8 l.2.2.2.2.2.2.2.2.2.1).2.1, ((d8 l.2.2.2.2.2.2.2.2.2.1).2.2.1, ((d8 l.2.2.2.2.2.2.2.2.2.1).2.2.2.1, ((d12 l.2.2.2.2.2.2.2.2.2.1).1, ((d12 l.2.2.2.2.2.2.2.2.2.1).2.1, ((d12 l.2.2.2.2.2.2.2.2.2.1).2.2.1, ((d12 l.2.2.2.2.2.2.2.2.2.1).2.2.2.1, ((d16 l.2.2.2.2.2.2.2.2.2.1).1, ((d16 l.2.2.2.2.2.2.2.2.2.1).2.1, ((d16 l.2.2.2.2.2.2.2.2.2.1).2.2.1, ((d16 l.2.2.2.2.2.2.2.2.2.1).2.2.2.1, ((d20 l.2.2.2.2.2.2.2.2.2.1).1, ((d20 l.2.2.2.2.2.2.2.2.2.1).2.1, ((d20 l.2.2.2.2.2.2.2.2.2.1).2.2.1, ((d20 l.2.2.2.2.2.2.2.2.2.1).2.2.2.1, ((d24 l.2.2.2.2.2.2.2.2.2.1).1, ((d24 l.2.2.2.2.2.2.2.2.2.1).2.1, ((d24 l.2.2.2.2.2.2.2.2.2.1).2.2.1, ((d24 l.2.2.2.2.2.2.2.2.2.1).2.2.2.1, ((d28 l.2.2.2.2.2.2.2.2.2.1).1, ((d28 l.2.2.2.2.2.2.2.2.2.1).2.1, (d28 l.2.2.2.2.2.2.2.2.2.1).2.2.1))))))))))))))))))))))))))))))))) (ou := ou5)
    (fun l => rfl) (fun l x => by rfl) sp1_ok hf5 h
theorem hk : HK E Try.f27 [] pA pH tl v hh := fun _ _ _ => by kernel_rfl
theorem okF : SoundF Try.prog cc 27 (funcA E Try.f27 []) :=
  funcA_ok (E := E) P_mixed (E0_ok.mk5 _ _ _ _ _) (gam_of (all_cons journal_Journal_Whole.og (all_cons book_Take.og (all_cons journal_Journal_Changes.og (all_cons book_Apply.og all_nil)))) (all_cons (fun _ => journal_Journal_Whole.keep) (all_cons (no_keep (by kernel_rfl)) (all_cons (fun _ => journal_Journal_Changes.keep) (all_cons (no_keep (by kernel_rfl)) all_nil))))) Try.func27 (c := body) (by kernel_rfl)
    (just_by (by kernel_rfl) (by kernel_rfl) (all_cons lk5 all_nil) all_nil) []
theorem ok : SoundF Try.prog cc 27 A :=
  mkA_ok (E := E) (p := pA) (q := pH) (t := tl) sp1_ok hk okF
theorem fo : FnOK Try.prog 27 := ⟨Try.f27, Try.func27, by kernel_rfl, by kernel_rfl⟩
theorem keep : KeepA A := mkA_keep sp1_ok (fun (l : TA) y => ⟨(hh l y).drop 7, by kernel_rfl⟩)
end book_Fold

/-! instar/book.Fold -/
namespace book_Fold_nil0
abbrev TA : Type := ((Unit × Unit) × Unit)
abbrev XA : Type := (Int × (Int × (Int × (Bool × (Int × (Int × (Int × (Int × (Int × (Int × (Int × (Int × (Int × (Int × (Int × (Int × (Int × (Int × (Int × (Int × (Int × (Int × (Int × (Int × (Int × (Int × (Int × (Int × (Int × (Int × (Int × Int)))))))))))))))))))))))))))))))
def t : Tw XA :=
 (.ret ((0 : Int), ((0 : Int), ((0 : Int), (false, ((0 : Int), ((0 : Int), ((0 : Int), ((0 : Int), ((0 : Int), ((0 : Int), ((0 : Int), ((0 : Int), ((0 : Int), ((0 : Int), ((0 : Int), ((0 : Int), ((0 : Int), ((0 : Int), ((0 : Int), ((0 : Int), ((0 : Int), ((0 : Int), ((0 : Int), ((0 : Int), ((0 : Int), ((0 : Int), ((0 : Int), ((0 : Int), ((0 : Int), ((0 : Int), ((0 : Int), (1 : Int)))))))))))))))))))))))))))))))))
def c : Option XA := (t).run
def tl (l : TA) : Tw XA := t
def cl (l : TA) : Option XA := c
def pA : Pt := (.cs .nilp .nl)
def pH : Pt := .nl
def v (l : TA) (y : XA) : AV U := .tup [.agg [jI y.1, jI y.2.1, jI y.2.2.1, jB y.2.2.2.1, jI (d4 y).1, jI (d4 y).2.1, jI (d4 y).2.2.1, jI (d4 y).2.2.2.1, .im (.int .u32 (d8 y).1), .im (.int .u32 (d8 y).2.1), .im (.int .u32 (d8 y).2.2.1), .im (.int .u32 (d8 y).2.2.2.1), .im (.int .u32 (d12 y).1), .im (.int .u32 (d12 y).2.1), .im (.int .u32 (d12 y).2.2.1), .im (.int .u32 (d12 y).2.2.2.1), jI (d16 y).1, jI (d16 y).2.1, jI (d16 y).2.2.1, .im (.int .u32 (d16 y).2.2.2.1), .im (.int .u32 (d20 y).1), .im (.int .u32 (d20 y).2.1), .im (.int .u32 (d20 y).2.2.1), .im (.int .u32 (d20 y).2.2.2.1), .im (.int .u32 (d24 y).1), .im (.int .u32 (d24 y).2.1), .im (.int .u32 (d24 y).2.2.1), jI (d24 y).2.2.2.1, jI (d28 y).1, jI (d28 y).2.1, jI (d28 y).2.2.1], jI (d28 y).2.2.2]
def hh (l : TA) (y : XA) : Hp U := []
def A : AFun U := mkA pA pH (X := XA) cl sp1 v hh
def body := bodyOf Try.f27
def E : Env U := E0.mk5 [] [] [] [] []
theorem hk : HK E Try.f27 [] pA pH tl v hh := fun _ _ _ => by kernel_rfl
theorem okF : SoundF Try.prog cc 27 (funcA E Try.f27 []) :=
  funcA_ok (E := E) P_mixed (E0_ok.mk5 _ _ _ _ _) (gam_of all_nil all_nil) Try.func27 (c := body) (by kernel_rfl)
    (just_by (by kernel_rfl) (by kernel_rfl) all_nil all_nil) []
theorem ok : SoundF Try.prog cc 27 A :=
  mkA_ok (E := E) (p := pA) (q := pH) (t := tl) sp1_ok hk okF
theorem fo : FnOK Try.prog 27 := ⟨Try.f27, Try.func27, by kernel_rfl, by kernel_rfl⟩
theorem keep : KeepA A := mkA_keep sp1_ok (fun (l : TA) y => ⟨(hh l y).drop 0, by kernel_rfl⟩)
end book_Fold_nil0

end
end Go.Proofs.Ytkoidgjgdhpdnaa.Va
