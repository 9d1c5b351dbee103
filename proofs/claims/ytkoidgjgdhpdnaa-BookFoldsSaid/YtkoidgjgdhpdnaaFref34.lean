/- The functions of package ref34, as plain functions, and that the program computes them. Printed by a program of this work out of the evaluator. -/
import Derived.Test.YtkoidgjgdhpdnaaEn
import Derived.Tactics
set_option linter.unusedVariables false
namespace Go.Proofs.Ytkoidgjgdhpdnaa.Va
noncomputable section
open Go
set_option maxRecDepth 100000

/-! instar/instarref34.between -/
namespace ref34_between
abbrev TA : Type := ((Int × (Int × (Int × Unit))) × Unit)
def t (n lo hi : Int) : Tw Bool :=
 (.bb (decide (n ≥ lo))
 (.ret (decide (n ≤ hi)))
 (.ret false))
def c (n lo hi : Int) : Option Bool := (t n lo hi).run
def tl (l : TA) : Tw Bool := t l.1.1 l.1.2.1 l.1.2.2.1
def pA : Pt := (jC (jC (jC .nl)))
def pH : Pt := .nl
def v (l : TA) (y : Bool) : AV U := jB y
def hh (l : TA) (y : Bool) : Hp U := []
def A : AFun U := mkA pA pH (X := Bool) (fun l => (tl l).run) sp1 v hh
def body := bodyOf Try.f43
def E : Env U := E0.mk5 [] [] [] [] []
theorem hk : HK E Try.f43 [] pA pH tl v hh := fun _ _ _ => by kernel_rfl
theorem og : SoundF Try.prog cc 43 A ∧ FnOK Try.prog 43 :=
 og_of (E := E) P_mixed (E0_ok.mk5 _ _ _ _ _) (gam_of all_nil all_nil) Try.func43 (c := body) (by kernel_rfl)
    (just_by (by kernel_rfl) (by kernel_rfl) all_nil all_nil) [] sp1_ok hk (by kernel_rfl)
end ref34_between

/-! instar/instarref34.there -/
namespace ref34_there
abbrev TA : Type := (((Int × (Int × (Int × (Int × (Int × (Int × (Int × (Int × (Int × (Int × (Int × Unit))))))))))) × Unit) × Unit)
def t (c__0 c__1 c__2 c__3 c__4 c__5 c__6 c__7 c__8 c__9 c__10 : Int) : Tw Bool :=
 (.opt (ref34_between.c c__0 (1 : Int) (65535 : Int)) fun z1 =>
 (.bb z1
 (.opt (ref34_between.c c__1 (1 : Int) (65535 : Int)) fun z2 =>
 (.bb z2
 (.opt (ref34_between.c c__2 (1 : Int) (131072 : Int)) fun z3 =>
 (.ret z3))
 (.ret false)))
 (.ret false)))
def c (c__0 c__1 c__2 c__3 c__4 c__5 c__6 c__7 c__8 c__9 c__10 : Int) : Option Bool := (t c__0 c__1 c__2 c__3 c__4 c__5 c__6 c__7 c__8 c__9 c__10).run
def tl (l : TA) : Tw Bool := t l.1.1.1 l.1.1.2.1 l.1.1.2.2.1 l.1.1.2.2.2.1 (d4 l.1.1).1 (d4 l.1.1).2.1 (d4 l.1.1).2.2.1 (d4 l.1.1).2.2.2.1 (d8 l.1.1).1 (d8 l.1.1).2.1 (d8 l.1.1).2.2.1
def pA : Pt := (.cs (.agg (jC (jC (jC (.cs (.int .u32) (.cs (.int .u32) (.cs (.int .u32) (.cs (.int .u32) (.cs (.int .u32) (.cs (.int .u32) (.cs (.int .u32) (.cs (.int .u32) .nl)))))))))))) .nl)
def pH : Pt := .nl
def v (l : TA) (y : Bool) : AV U := jB y
def hh (l : TA) (y : Bool) : Hp U := []
def A : AFun U := mkA pA pH (X := Bool) (fun l => (tl l).run) sp1 v hh
def body := bodyOf Try.f42
def E : Env U := E0.mk5 [(43, ref34_between.A)] [] [] [] []
theorem hk : HK E Try.f42 [] pA pH tl v hh := fun _ _ _ => by kernel_rfl
theorem og : SoundF Try.prog cc 42 A ∧ FnOK Try.prog 42 :=
 og_of (E := E) P_mixed (E0_ok.mk5 _ _ _ _ _) (gam_of (all_cons ref34_between.og all_nil) no_ro) Try.func42 (c := body) (by kernel_rfl)
    (just_by (by kernel_rfl) (by kernel_rfl) all_nil all_nil) [] sp1_ok hk (by kernel_rfl)
end ref34_there

/-! instar/instarref34.Right -/
namespace ref34_Right
abbrev TA : Type := (((Int × (Int × (Int × (Bool × (Int × (Int × (Int × (Int × (Int × (Int × (Int × (Int × (Int × (Int × (Int × (Int × (Int × (Int × (Int × (Int × (Int × (Int × (Int × (Int × (Int × (Int × (Int × (Int × (Int × (Int × (Int × Unit))))))))))))))))))))))))))))))) × Unit) × Unit)
abbrev TC10 : Type := ((Unit × (Unit × (Unit × (Bool × (Bool × (Bool × (Bool × (Unit × Unit)))))))) × ((Int × (Int × (Int × (Bool × (Int × (Int × (Int × (Int × (Int × (Int × (Int × (Int × (Int × (Int × (Int × (Int × (Int × (Int × (Int × (Int × (Int × (Int × (Int × (Int × (Int × (Int × (Int × (Int × (Int × (Int × (Int × Unit))))))))))))))))))))))))))))))) × Unit))
def c10 (has none two one : Bool) (h0_0 h0_1 h0_2 : Int) (h0_3 : Bool) (h0_4 h0_5 h0_6 h0_7 h0_8 h0_9 h0_10 h0_11 h0_12 h0_13 h0_14 h0_15 h0_16 h0_17 h0_18 h0_19 h0_20 h0_21 h0_22 h0_23 h0_24 h0_25 h0_26 h0_27 h0_28 h0_29 h0_30 : Int) : Tw Bool :=
 (.bb (h0_0 == (0 : Int))
 (.bb one
 (.bb h0_3
 (.bb has
 (.ret true)
 (.bb (!h0_3)
 (.ret none)
 (.ret false)))
 (.bb (!h0_3)
 (.ret none)
 (.ret false)))
 (.ret false))
 (.bb (h0_0 == (1 : Int))
 (.bb one
 (.bb none
 (.opt (ref34_between.c h0_4 (1 : Int) (131072 : Int)) fun z7 =>
 (.ret z7))
 (.ret false))
 (.ret false))
 (.bb (h0_0 == (2 : Int))
 (.bb one
 (.ret has)
 (.ret false))
 (.bb (h0_0 == (3 : Int))
 (.bb two
 (.ret has)
 (.ret false))
 (.bb (h0_0 == (4 : Int))
 (.bb two
 (.bb has
 (.opt (ref34_between.c h0_2 (0 : Int) (9 : Int)) fun z6 =>
 (.ret z6))
 (.ret false))
 (.ret false))
 (.ret false))))))
def C10 (has none two one : Bool) (h0_0 h0_1 h0_2 : Int) (h0_3 : Bool) (h0_4 h0_5 h0_6 h0_7 h0_8 h0_9 h0_10 h0_11 h0_12 h0_13 h0_14 h0_15 h0_16 h0_17 h0_18 h0_19 h0_20 h0_21 h0_22 h0_23 h0_24 h0_25 h0_26 h0_27 h0_28 h0_29 h0_30 : Int) : Option Bool := (c10 has none two one h0_0 h0_1 h0_2 h0_3 h0_4 h0_5 h0_6 h0_7 h0_8 h0_9 h0_10 h0_11 h0_12 h0_13 h0_14 h0_15 h0_16 h0_17 h0_18 h0_19 h0_20 h0_21 h0_22 h0_23 h0_24 h0_25 h0_26 h0_27 h0_28 h0_29 h0_30).run
def pC10 : Pt := (.cs (.bots 1) (.cs (.ptr 0 0) (.cs (.bots 2) (.cs .bool (.cs .bool (.cs .bool (.cs .bool (.cs (.bots 144) .nl))))))))
def qC10 : Pt := (.cs (.var (jC (jC (jC (.cs .bool (jC (jC (jC (jC (.cs (.int .u32) (.cs (.int .u32) (.cs (.int .u32) (.cs (.int .u32) (.cs (.int .u32) (.cs (.int .u32) (.cs (.int .u32) (.cs (.int .u32) (jC (jC (jC (.cs (.int .u32) (.cs (.int .u32) (.cs (.int .u32) (.cs (.int .u32) (.cs (.int .u32) (.cs (.int .u32) (.cs (.int .u32) (.cs (.int .u32) (jC (jC (jC (jC .nl)))))))))))))))))))))))))))))))) .nl)
def ouC10 (l : TC10) (y : Bool) : Ex × St U := (.ret, stOf 152 [(2, jB y)] [] 0)
def cl10 (l : TC10) : Tw Bool := c10 l.1.2.2.2.1 (d4 l.1).1 (d4 l.1).2.1 (d4 l.1).2.2.1 l.2.1.1 l.2.1.2.1 l.2.1.2.2.1 l.2.1.2.2.2.1 (d4 l.2.1).1 (d4 l.2.1).2.1 (d4 l.2.1).2.2.1 (d4 l.2.1).2.2.2.1 (d8 l.2.1).1 (d8 l.2.1).2.1 (d8 l.2.1).2.2.1 (d8 l.2.1).2.2.2.1 (d12 l.2.1).1 (d12 l.2.1).2.1 (d12 l.2.1).2.2.1 (d12 l.2.1).2.2.2.1 (d16 l.2.1).1 (d16 l.2.1).2.1 (d16 l.2.1).2.2.1 (d16 l.2.1).2.2.2.1 (d20 l.2.1).1 (d20 l.2.1).2.1 (d20 l.2.1).2.2.1 (d20 l.2.1).2.2.2.1 (d24 l.2.1).1 (d24 l.2.1).2.1 (d24 l.2.1).2.2.1 (d24 l.2.1).2.2.2.1 (d28 l.2.1).1 (d28 l.2.1).2.1 (d28 l.2.1).2.2.1
def ΛC10 : LFun U := mkLp pC10 qC10 0 (X := Bool) (fun (l : TC10) => C10 l.1.2.2.2.1 (d4 l.1).1 (d4 l.1).2.1 (d4 l.1).2.2.1 l.2.1.1 l.2.1.2.1 l.2.1.2.2.1 l.2.1.2.2.2.1 (d4 l.2.1).1 (d4 l.2.1).2.1 (d4 l.2.1).2.2.1 (d4 l.2.1).2.2.2.1 (d8 l.2.1).1 (d8 l.2.1).2.1 (d8 l.2.1).2.2.1 (d8 l.2.1).2.2.2.1 (d12 l.2.1).1 (d12 l.2.1).2.1 (d12 l.2.1).2.2.1 (d12 l.2.1).2.2.2.1 (d16 l.2.1).1 (d16 l.2.1).2.1 (d16 l.2.1).2.2.1 (d16 l.2.1).2.2.2.1 (d20 l.2.1).1 (d20 l.2.1).2.1 (d20 l.2.1).2.2.1 (d20 l.2.1).2.2.2.1 (d24 l.2.1).1 (d24 l.2.1).2.1 (d24 l.2.1).2.2.1 (d24 l.2.1).2.2.2.1 (d28 l.2.1).1 (d28 l.2.1).2.1 (d28 l.2.1).2.2.1) sp1 ouC10
abbrev TC7 : Type := ((Unit × (Unit × (Unit × (Bool × (Bool × (Bool × (Unit × Unit))))))) × ((Int × (Int × (Int × (Bool × (Int × (Int × (Int × (Int × (Int × (Int × (Int × (Int × (Int × (Int × (Int × (Int × (Int × (Int × (Int × (Int × (Int × (Int × (Int × (Int × (Int × (Int × (Int × (Int × (Int × (Int × (Int × Unit))))))))))))))))))))))))))))))) × Unit))
def c7 (has none two : Bool) (h0_0 h0_1 h0_2 : Int) (h0_3 : Bool) (h0_4 h0_5 h0_6 h0_7 h0_8 h0_9 h0_10 h0_11 h0_12 h0_13 h0_14 h0_15 h0_16 h0_17 h0_18 h0_19 h0_20 h0_21 h0_22 h0_23 h0_24 h0_25 h0_26 h0_27 h0_28 h0_29 h0_30 : Int) : Tw Bool :=
 (.bb (h0_29 == (-(1 : Int)))
 (.bb (h0_0 != (4 : Int))
 (.bb (h0_2 != (0 : Int))
 (.ret false)
 (.bb (h0_0 != (0 : Int))
 (.bb h0_3
 (.ret false)
 (.bb (h0_0 != (1 : Int))
 (.bb (h0_4 != (0 : Int))
 (.ret false)
 (.opt (C10 has none two (h0_30 == (0 : Int)) h0_0 h0_1 h0_2 h0_3 h0_4 h0_5 h0_6 h0_7 h0_8 h0_9 h0_10 h0_11 h0_12 h0_13 h0_14 h0_15 h0_16 h0_17 h0_18 h0_19 h0_20 h0_21 h0_22 h0_23 h0_24 h0_25 h0_26 h0_27 h0_28 h0_29 h0_30) fun z23 =>
 (.ret z23)))
 (.opt (C10 has none two (h0_30 == (0 : Int)) h0_0 h0_1 h0_2 h0_3 h0_4 h0_5 h0_6 h0_7 h0_8 h0_9 h0_10 h0_11 h0_12 h0_13 h0_14 h0_15 h0_16 h0_17 h0_18 h0_19 h0_20 h0_21 h0_22 h0_23 h0_24 h0_25 h0_26 h0_27 h0_28 h0_29 h0_30) fun z22 =>
 (.ret z22))))
 (.bb (h0_0 != (1 : Int))
 (.bb (h0_4 != (0 : Int))
 (.ret false)
 (.opt (C10 has none two (h0_30 == (0 : Int)) h0_0 h0_1 h0_2 h0_3 h0_4 h0_5 h0_6 h0_7 h0_8 h0_9 h0_10 h0_11 h0_12 h0_13 h0_14 h0_15 h0_16 h0_17 h0_18 h0_19 h0_20 h0_21 h0_22 h0_23 h0_24 h0_25 h0_26 h0_27 h0_28 h0_29 h0_30) fun z21 =>
 (.ret z21)))
 (.opt (C10 has none two (h0_30 == (0 : Int)) h0_0 h0_1 h0_2 h0_3 h0_4 h0_5 h0_6 h0_7 h0_8 h0_9 h0_10 h0_11 h0_12 h0_13 h0_14 h0_15 h0_16 h0_17 h0_18 h0_19 h0_20 h0_21 h0_22 h0_23 h0_24 h0_25 h0_26 h0_27 h0_28 h0_29 h0_30) fun z20 =>
 (.ret z20)))))
 (.bb (h0_0 != (0 : Int))
 (.bb h0_3
 (.ret false)
 (.bb (h0_0 != (1 : Int))
 (.bb (h0_4 != (0 : Int))
 (.ret false)
 (.opt (C10 has none two (h0_30 == (0 : Int)) h0_0 h0_1 h0_2 h0_3 h0_4 h0_5 h0_6 h0_7 h0_8 h0_9 h0_10 h0_11 h0_12 h0_13 h0_14 h0_15 h0_16 h0_17 h0_18 h0_19 h0_20 h0_21 h0_22 h0_23 h0_24 h0_25 h0_26 h0_27 h0_28 h0_29 h0_30) fun z19 =>
 (.ret z19)))
 (.opt (C10 has none two (h0_30 == (0 : Int)) h0_0 h0_1 h0_2 h0_3 h0_4 h0_5 h0_6 h0_7 h0_8 h0_9 h0_10 h0_11 h0_12 h0_13 h0_14 h0_15 h0_16 h0_17 h0_18 h0_19 h0_20 h0_21 h0_22 h0_23 h0_24 h0_25 h0_26 h0_27 h0_28 h0_29 h0_30) fun z18 =>
 (.ret z18))))
 (.bb (h0_0 != (1 : Int))
 (.bb (h0_4 != (0 : Int))
 (.ret false)
 (.opt (C10 has none two (h0_30 == (0 : Int)) h0_0 h0_1 h0_2 h0_3 h0_4 h0_5 h0_6 h0_7 h0_8 h0_9 h0_10 h0_11 h0_12 h0_13 h0_14 h0_15 h0_16 h0_17 h0_18 h0_19 h0_20 h0_21 h0_22 h0_23 h0_24 h0_25 h0_26 h0_27 h0_28 h0_29 h0_30) fun z17 =>
 (.ret z17)))
 (.opt (C10 has none two (h0_30 == (0 : Int)) h0_0 h0_1 h0_2 h0_3 h0_4 h0_5 h0_6 h0_7 h0_8 h0_9 h0_10 h0_11 h0_12 h0_13 h0_14 h0_15 h0_16 h0_17 h0_18 h0_19 h0_20 h0_21 h0_22 h0_23 h0_24 h0_25 h0_26 h0_27 h0_28 h0_29 h0_30) fun z16 =>
 (.ret z16)))))
 (.bb (h0_0 != (4 : Int))
 (.bb (h0_2 != (0 : Int))
 (.ret false)
 (.bb (h0_0 != (0 : Int))
 (.bb h0_3
 (.ret false)
 (.bb (h0_0 != (1 : Int))
 (.bb (h0_4 != (0 : Int))
 (.ret false)
 (.opt (C10 has none two false h0_0 h0_1 h0_2 h0_3 h0_4 h0_5 h0_6 h0_7 h0_8 h0_9 h0_10 h0_11 h0_12 h0_13 h0_14 h0_15 h0_16 h0_17 h0_18 h0_19 h0_20 h0_21 h0_22 h0_23 h0_24 h0_25 h0_26 h0_27 h0_28 h0_29 h0_30) fun z15 =>
 (.ret z15)))
 (.opt (C10 has none two false h0_0 h0_1 h0_2 h0_3 h0_4 h0_5 h0_6 h0_7 h0_8 h0_9 h0_10 h0_11 h0_12 h0_13 h0_14 h0_15 h0_16 h0_17 h0_18 h0_19 h0_20 h0_21 h0_22 h0_23 h0_24 h0_25 h0_26 h0_27 h0_28 h0_29 h0_30) fun z14 =>
 (.ret z14))))
 (.bb (h0_0 != (1 : Int))
 (.bb (h0_4 != (0 : Int))
 (.ret false)
 (.opt (C10 has none two false h0_0 h0_1 h0_2 h0_3 h0_4 h0_5 h0_6 h0_7 h0_8 h0_9 h0_10 h0_11 h0_12 h0_13 h0_14 h0_15 h0_16 h0_17 h0_18 h0_19 h0_20 h0_21 h0_22 h0_23 h0_24 h0_25 h0_26 h0_27 h0_28 h0_29 h0_30) fun z13 =>
 (.ret z13)))
 (.opt (C10 has none two false h0_0 h0_1 h0_2 h0_3 h0_4 h0_5 h0_6 h0_7 h0_8 h0_9 h0_10 h0_11 h0_12 h0_13 h0_14 h0_15 h0_16 h0_17 h0_18 h0_19 h0_20 h0_21 h0_22 h0_23 h0_24 h0_25 h0_26 h0_27 h0_28 h0_29 h0_30) fun z12 =>
 (.ret z12)))))
 (.bb (h0_0 != (0 : Int))
 (.bb h0_3
 (.ret false)
 (.bb (h0_0 != (1 : Int))
 (.bb (h0_4 != (0 : Int))
 (.ret false)
 (.opt (C10 has none two false h0_0 h0_1 h0_2 h0_3 h0_4 h0_5 h0_6 h0_7 h0_8 h0_9 h0_10 h0_11 h0_12 h0_13 h0_14 h0_15 h0_16 h0_17 h0_18 h0_19 h0_20 h0_21 h0_22 h0_23 h0_24 h0_25 h0_26 h0_27 h0_28 h0_29 h0_30) fun z11 =>
 (.ret z11)))
 (.opt (C10 has none two false h0_0 h0_1 h0_2 h0_3 h0_4 h0_5 h0_6 h0_7 h0_8 h0_9 h0_10 h0_11 h0_12 h0_13 h0_14 h0_15 h0_16 h0_17 h0_18 h0_19 h0_20 h0_21 h0_22 h0_23 h0_24 h0_25 h0_26 h0_27 h0_28 h0_29 h0_30) fun z10 =>
 (.ret z10))))
 (.bb (h0_0 != (1 : Int))
 (.bb (h0_4 != (0 : Int))
 (.ret false)
 (.opt (C10 has none two false h0_0 h0_1 h0_2 h0_3 h0_4 h0_5 h0_6 h0_7 h0_8 h0_9 h0_10 h0_11 h0_12 h0_13 h0_14 h0_15 h0_16 h0_17 h0_18 h0_19 h0_20 h0_21 h0_22 h0_23 h0_24 h0_25 h0_26 h0_27 h0_28 h0_29 h0_30) fun z9 =>
 (.ret z9)))
 (.opt (C10 has none two false h0_0 h0_1 h0_2 h0_3 h0_4 h0_5 h0_6 h0_7 h0_8 h0_9 h0_10 h0_11 h0_12 h0_13 h0_14 h0_15 h0_16 h0_17 h0_18 h0_19 h0_20 h0_21 h0_22 h0_23 h0_24 h0_25 h0_26 h0_27 h0_28 h0_29 h0_30) fun z8 =>
 (.ret z8))))))
def C7 (has none two : Bool) (h0_0 h0_1 h0_2 : Int) (h0_3 : Bool) (h0_4 h0_5 h0_6 h0_7 h0_8 h0_9 h0_10 h0_11 h0_12 h0_13 h0_14 h0_15 h0_16 h0_17 h0_18 h0_19 h0_20 h0_21 h0_22 h0_23 h0_24 h0_25 h0_26 h0_27 h0_28 h0_29 h0_30 : Int) : Option Bool := (c7 has none two h0_0 h0_1 h0_2 h0_3 h0_4 h0_5 h0_6 h0_7 h0_8 h0_9 h0_10 h0_11 h0_12 h0_13 h0_14 h0_15 h0_16 h0_17 h0_18 h0_19 h0_20 h0_21 h0_22 h0_23 h0_24 h0_25 h0_26 h0_27 h0_28 h0_29 h0_30).run
def pC7 : Pt := (.cs (.bots 1) (.cs (.ptr 0 0) (.cs (.bots 2) (.cs .bool (.cs .bool (.cs .bool (.cs (.bots 145) .nl)))))))
def qC7 : Pt := (.cs (.var (jC (jC (jC (.cs .bool (jC (jC (jC (jC (.cs (.int .u32) (.cs (.int .u32) (.cs (.int .u32) (.cs (.int .u32) (.cs (.int .u32) (.cs (.int .u32) (.cs (.int .u32) (.cs (.int .u32) (jC (jC (jC (.cs (.int .u32) (.cs (.int .u32) (.cs (.int .u32) (.cs (.int .u32) (.cs (.int .u32) (.cs (.int .u32) (.cs (.int .u32) (.cs (.int .u32) (jC (jC (jC (jC .nl)))))))))))))))))))))))))))))))) .nl)
def ouC7 (l : TC7) (y : Bool) : Ex × St U := (.ret, stOf 152 [(2, jB y)] [] 0)
def cl7 (l : TC7) : Tw Bool := c7 l.1.2.2.2.1 (d4 l.1).1 (d4 l.1).2.1 l.2.1.1 l.2.1.2.1 l.2.1.2.2.1 l.2.1.2.2.2.1 (d4 l.2.1).1 (d4 l.2.1).2.1 (d4 l.2.1).2.2.1 (d4 l.2.1).2.2.2.1 (d8 l.2.1).1 (d8 l.2.1).2.1 (d8 l.2.1).2.2.1 (d8 l.2.1).2.2.2.1 (d12 l.2.1).1 (d12 l.2.1).2.1 (d12 l.2.1).2.2.1 (d12 l.2.1).2.2.2.1 (d16 l.2.1).1 (d16 l.2.1).2.1 (d16 l.2.1).2.2.1 (d16 l.2.1).2.2.2.1 (d20 l.2.1).1 (d20 l.2.1).2.1 (d20 l.2.1).2.2.1 (d20 l.2.1).2.2.2.1 (d24 l.2.1).1 (d24 l.2.1).2.1 (d24 l.2.1).2.2.1 (d24 l.2.1).2.2.2.1 (d28 l.2.1).1 (d28 l.2.1).2.1 (d28 l.2.1).2.2.1
def ΛC7 : LFun U := mkLp pC7 qC7 0 (X := Bool) (fun (l : TC7) => C7 l.1.2.2.2.1 (d4 l.1).1 (d4 l.1).2.1 l.2.1.1 l.2.1.2.1 l.2.1.2.2.1 l.2.1.2.2.2.1 (d4 l.2.1).1 (d4 l.2.1).2.1 (d4 l.2.1).2.2.1 (d4 l.2.1).2.2.2.1 (d8 l.2.1).1 (d8 l.2.1).2.1 (d8 l.2.1).2.2.1 (d8 l.2.1).2.2.2.1 (d12 l.2.1).1 (d12 l.2.1).2.1 (d12 l.2.1).2.2.1 (d12 l.2.1).2.2.2.1 (d16 l.2.1).1 (d16 l.2.1).2.1 (d16 l.2.1).2.2.1 (d16 l.2.1).2.2.2.1 (d20 l.2.1).1 (d20 l.2.1).2.1 (d20 l.2.1).2.2.1 (d20 l.2.1).2.2.2.1 (d24 l.2.1).1 (d24 l.2.1).2.1 (d24 l.2.1).2.2.1 (d24 l.2.1).2.2.2.1 (d28 l.2.1).1 (d28 l.2.1).2.1 (d28 l.2.1).2.2.1) sp1 ouC7
abbrev TC3 : Type := ((Unit × (Unit × (Unit × Unit))) × ((Int × (Int × (Int × (Bool × (Int × (Int × (Int × (Int × (Int × (Int × (Int × (Int × (Int × (Int × (Int × (Int × (Int × (Int × (Int × (Int × (Int × (Int × (Int × (Int × (Int × (Int × (Int × (Int × (Int × (Int × (Int × Unit))))))))))))))))))))))))))))))) × Unit))
def c3 (h0_0 h0_1 h0_2 : Int) (h0_3 : Bool) (h0_4 h0_5 h0_6 h0_7 h0_8 h0_9 h0_10 h0_11 h0_12 h0_13 h0_14 h0_15 h0_16 h0_17 h0_18 h0_19 h0_20 h0_21 h0_22 h0_23 h0_24 h0_25 h0_26 h0_27 h0_28 h0_29 h0_30 : Int) : Tw Bool :=
 (.dd (((w64 ((1 : Int) - h0_1)) = (((1 : Nat) : Nat) : Int))) inferInstance
 (.opt (ref34_there.c h0_16 h0_17 h0_18 h0_19 h0_20 h0_21 h0_22 h0_23 h0_24 h0_25 h0_26) fun z28 =>
 (.opt (ref34_between.c h0_29 (0 : Int) (127 : Int)) fun z29 =>
 (.bb z29
 (.opt (ref34_between.c h0_30 (1 : Int) (1073741823 : Int)) fun z31 =>
 (.bb z31
 (.opt (C7 z28 ((h0_16 == (0 : Int)) && ((h0_17 == (0 : Int)) && ((h0_18 == (0 : Int)) && ((h0_19 == (0 : Int)) && ((h0_20 == (0 : Int)) && ((h0_21 == (0 : Int)) && ((h0_22 == (0 : Int)) && ((h0_23 == (0 : Int)) && ((h0_24 == (0 : Int)) && ((h0_25 == (0 : Int)) && ((h0_26 == (0 : Int)) && true))))))))))) (h0_29 != h0_27) h0_0 h0_1 h0_2 h0_3 h0_4 h0_5 h0_6 h0_7 h0_8 h0_9 h0_10 h0_11 h0_12 h0_13 h0_14 h0_15 h0_16 h0_17 h0_18 h0_19 h0_20 h0_21 h0_22 h0_23 h0_24 h0_25 h0_26 h0_27 h0_28 h0_29 h0_30) fun z33 =>
 (.ret z33))
 (.opt (C7 z28 ((h0_16 == (0 : Int)) && ((h0_17 == (0 : Int)) && ((h0_18 == (0 : Int)) && ((h0_19 == (0 : Int)) && ((h0_20 == (0 : Int)) && ((h0_21 == (0 : Int)) && ((h0_22 == (0 : Int)) && ((h0_23 == (0 : Int)) && ((h0_24 == (0 : Int)) && ((h0_25 == (0 : Int)) && ((h0_26 == (0 : Int)) && true))))))))))) false h0_0 h0_1 h0_2 h0_3 h0_4 h0_5 h0_6 h0_7 h0_8 h0_9 h0_10 h0_11 h0_12 h0_13 h0_14 h0_15 h0_16 h0_17 h0_18 h0_19 h0_20 h0_21 h0_22 h0_23 h0_24 h0_25 h0_26 h0_27 h0_28 h0_29 h0_30) fun z32 =>
 (.ret z32))))
 (.opt (C7 z28 ((h0_16 == (0 : Int)) && ((h0_17 == (0 : Int)) && ((h0_18 == (0 : Int)) && ((h0_19 == (0 : Int)) && ((h0_20 == (0 : Int)) && ((h0_21 == (0 : Int)) && ((h0_22 == (0 : Int)) && ((h0_23 == (0 : Int)) && ((h0_24 == (0 : Int)) && ((h0_25 == (0 : Int)) && ((h0_26 == (0 : Int)) && true))))))))))) false h0_0 h0_1 h0_2 h0_3 h0_4 h0_5 h0_6 h0_7 h0_8 h0_9 h0_10 h0_11 h0_12 h0_13 h0_14 h0_15 h0_16 h0_17 h0_18 h0_19 h0_20 h0_21 h0_22 h0_23 h0_24 h0_25 h0_26 h0_27 h0_28 h0_29 h0_30) fun z30 =>
 (.ret z30)))))
 (.dd (((w64 ((1 : Int) - h0_1)) = (((0 : Nat) : Nat) : Int))) inferInstance
 (.opt (ref34_there.c h0_5 h0_6 h0_7 h0_8 h0_9 h0_10 h0_11 h0_12 h0_13 h0_14 h0_15) fun z4 =>
 (.opt (ref34_between.c h0_29 (0 : Int) (127 : Int)) fun z5 =>
 (.bb z5
 (.opt (ref34_between.c h0_30 (1 : Int) (1073741823 : Int)) fun z25 =>
 (.bb z25
 (.opt (C7 z4 ((h0_5 == (0 : Int)) && ((h0_6 == (0 : Int)) && ((h0_7 == (0 : Int)) && ((h0_8 == (0 : Int)) && ((h0_9 == (0 : Int)) && ((h0_10 == (0 : Int)) && ((h0_11 == (0 : Int)) && ((h0_12 == (0 : Int)) && ((h0_13 == (0 : Int)) && ((h0_14 == (0 : Int)) && ((h0_15 == (0 : Int)) && true))))))))))) (h0_29 != h0_27) h0_0 h0_1 h0_2 h0_3 h0_4 h0_5 h0_6 h0_7 h0_8 h0_9 h0_10 h0_11 h0_12 h0_13 h0_14 h0_15 h0_16 h0_17 h0_18 h0_19 h0_20 h0_21 h0_22 h0_23 h0_24 h0_25 h0_26 h0_27 h0_28 h0_29 h0_30) fun z27 =>
 (.ret z27))
 (.opt (C7 z4 ((h0_5 == (0 : Int)) && ((h0_6 == (0 : Int)) && ((h0_7 == (0 : Int)) && ((h0_8 == (0 : Int)) && ((h0_9 == (0 : Int)) && ((h0_10 == (0 : Int)) && ((h0_11 == (0 : Int)) && ((h0_12 == (0 : Int)) && ((h0_13 == (0 : Int)) && ((h0_14 == (0 : Int)) && ((h0_15 == (0 : Int)) && true))))))))))) false h0_0 h0_1 h0_2 h0_3 h0_4 h0_5 h0_6 h0_7 h0_8 h0_9 h0_10 h0_11 h0_12 h0_13 h0_14 h0_15 h0_16 h0_17 h0_18 h0_19 h0_20 h0_21 h0_22 h0_23 h0_24 h0_25 h0_26 h0_27 h0_28 h0_29 h0_30) fun z26 =>
 (.ret z26))))
 (.opt (C7 z4 ((h0_5 == (0 : Int)) && ((h0_6 == (0 : Int)) && ((h0_7 == (0 : Int)) && ((h0_8 == (0 : Int)) && ((h0_9 == (0 : Int)) && ((h0_10 == (0 : Int)) && ((h0_11 == (0 : Int)) && ((h0_12 == (0 : Int)) && ((h0_13 == (0 : Int)) && ((h0_14 == (0 : Int)) && ((h0_15 == (0 : Int)) && true))))))))))) false h0_0 h0_1 h0_2 h0_3 h0_4 h0_5 h0_6 h0_7 h0_8 h0_9 h0_10 h0_11 h0_12 h0_13 h0_14 h0_15 h0_16 h0_17 h0_18 h0_19 h0_20 h0_21 h0_22 h0_23 h0_24 h0_25 h0_26 h0_27 h0_28 h0_29 h0_30) fun z24 =>
 (.ret z24)))))
 .no))
def C3 (h0_0 h0_1 h0_2 : Int) (h0_3 : Bool) (h0_4 h0_5 h0_6 h0_7 h0_8 h0_9 h0_10 h0_11 h0_12 h0_13 h0_14 h0_15 h0_16 h0_17 h0_18 h0_19 h0_20 h0_21 h0_22 h0_23 h0_24 h0_25 h0_26 h0_27 h0_28 h0_29 h0_30 : Int) : Option Bool := (c3 h0_0 h0_1 h0_2 h0_3 h0_4 h0_5 h0_6 h0_7 h0_8 h0_9 h0_10 h0_11 h0_12 h0_13 h0_14 h0_15 h0_16 h0_17 h0_18 h0_19 h0_20 h0_21 h0_22 h0_23 h0_24 h0_25 h0_26 h0_27 h0_28 h0_29 h0_30).run
def pC3 : Pt := (.cs (.bots 1) (.cs (.ptr 0 0) (.cs (.bots 150) .nl)))
def qC3 : Pt := (.cs (.var (jC (jC (jC (.cs .bool (jC (jC (jC (jC (.cs (.int .u32) (.cs (.int .u32) (.cs (.int .u32) (.cs (.int .u32) (.cs (.int .u32) (.cs (.int .u32) (.cs (.int .u32) (.cs (.int .u32) (jC (jC (jC (.cs (.int .u32) (.cs (.int .u32) (.cs (.int .u32) (.cs (.int .u32) (.cs (.int .u32) (.cs (.int .u32) (.cs (.int .u32) (.cs (.int .u32) (jC (jC (jC (jC .nl)))))))))))))))))))))))))))))))) .nl)
def ouC3 (l : TC3) (y : Bool) : Ex × St U := (.ret, stOf 152 [(2, jB y)] [] 0)
def cl3 (l : TC3) : Tw Bool := c3 l.2.1.1 l.2.1.2.1 l.2.1.2.2.1 l.2.1.2.2.2.1 (d4 l.2.1).1 (d4 l.2.1).2.1 (d4 l.2.1).2.2.1 (d4 l.2.1).2.2.2.1 (d8 l.2.1).1 (d8 l.2.1).2.1 (d8 l.2.1).2.2.1 (d8 l.2.1).2.2.2.1 (d12 l.2.1).1 (d12 l.2.1).2.1 (d12 l.2.1).2.2.1 (d12 l.2.1).2.2.2.1 (d16 l.2.1).1 (d16 l.2.1).2.1 (d16 l.2.1).2.2.1 (d16 l.2.1).2.2.2.1 (d20 l.2.1).1 (d20 l.2.1).2.1 (d20 l.2.1).2.2.1 (d20 l.2.1).2.2.2.1 (d24 l.2.1).1 (d24 l.2.1).2.1 (d24 l.2.1).2.2.1 (d24 l.2.1).2.2.2.1 (d28 l.2.1).1 (d28 l.2.1).2.1 (d28 l.2.1).2.2.1
def ΛC3 : LFun U := mkLp pC3 qC3 0 (X := Bool) (fun (l : TC3) => C3 l.2.1.1 l.2.1.2.1 l.2.1.2.2.1 l.2.1.2.2.2.1 (d4 l.2.1).1 (d4 l.2.1).2.1 (d4 l.2.1).2.2.1 (d4 l.2.1).2.2.2.1 (d8 l.2.1).1 (d8 l.2.1).2.1 (d8 l.2.1).2.2.1 (d8 l.2.1).2.2.2.1 (d12 l.2.1).1 (d12 l.2.1).2.1 (d12 l.2.1).2.2.1 (d12 l.2.1).2.2.2.1 (d16 l.2.1).1 (d16 l.2.1).2.1 (d16 l.2.1).2.2.1 (d16 l.2.1).2.2.2.1 (d20 l.2.1).1 (d20 l.2.1).2.1 (d20 l.2.1).2.2.1 (d20 l.2.1).2.2.2.1 (d24 l.2.1).1 (d24 l.2.1).2.1 (d24 l.2.1).2.2.1 (d24 l.2.1).2.2.2.1 (d28 l.2.1).1 (d28 l.2.1).2.1 (d28 l.2.1).2.2.1) sp1 ouC3
def t (s__0 s__1 s__2 : Int) (s__3 : Bool) (s__4 s__5 s__6 s__7 s__8 s__9 s__10 s__11 s__12 s__13 s__14 s__15 s__16 s__17 s__18 s__19 s__20 s__21 s__22 s__23 s__24 s__25 s__26 s__27 s__28 s__29 s__30 : Int) : Tw Bool :=
 (.bb (s__1 != (0 : Int))
 (.bb (s__1 != (1 : Int))
 (.ret false)
 (.dd ((s__1 = (((1 : Nat) : Nat) : Int))) inferInstance
 (.opt (ref34_there.c s__16 s__17 s__18 s__19 s__20 s__21 s__22 s__23 s__24 s__25 s__26) fun z43 =>
 (.bb (!z43)
 (.ret false)
 (.opt (ref34_between.c s__27 (0 : Int) (127 : Int)) fun z44 =>
 (.bb (!z44)
 (.ret false)
 (.opt (ref34_between.c s__28 (1 : Int) (1073741823 : Int)) fun z45 =>
 (.bb (!z45)
 (.ret false)
 (.opt (C3 s__0 s__1 s__2 s__3 s__4 s__5 s__6 s__7 s__8 s__9 s__10 s__11 s__12 s__13 s__14 s__15 s__16 s__17 s__18 s__19 s__20 s__21 s__22 s__23 s__24 s__25 s__26 s__27 s__28 s__29 s__30) fun z46 =>
 (.ret z46))))))))
 (.dd ((s__1 = (((0 : Nat) : Nat) : Int))) inferInstance
 (.opt (ref34_there.c s__5 s__6 s__7 s__8 s__9 s__10 s__11 s__12 s__13 s__14 s__15) fun z39 =>
 (.bb (!z39)
 (.ret false)
 (.opt (ref34_between.c s__27 (0 : Int) (127 : Int)) fun z40 =>
 (.bb (!z40)
 (.ret false)
 (.opt (ref34_between.c s__28 (1 : Int) (1073741823 : Int)) fun z41 =>
 (.bb (!z41)
 (.ret false)
 (.opt (C3 s__0 s__1 s__2 s__3 s__4 s__5 s__6 s__7 s__8 s__9 s__10 s__11 s__12 s__13 s__14 s__15 s__16 s__17 s__18 s__19 s__20 s__21 s__22 s__23 s__24 s__25 s__26 s__27 s__28 s__29 s__30) fun z42 =>
 (.ret z42))))))))
 .no)))
 (.dd ((s__1 = (((1 : Nat) : Nat) : Int))) inferInstance
 (.opt (ref34_there.c s__16 s__17 s__18 s__19 s__20 s__21 s__22 s__23 s__24 s__25 s__26) fun z35 =>
 (.bb (!z35)
 (.ret false)
 (.opt (ref34_between.c s__27 (0 : Int) (127 : Int)) fun z36 =>
 (.bb (!z36)
 (.ret false)
 (.opt (ref34_between.c s__28 (1 : Int) (1073741823 : Int)) fun z37 =>
 (.bb (!z37)
 (.ret false)
 (.opt (C3 s__0 s__1 s__2 s__3 s__4 s__5 s__6 s__7 s__8 s__9 s__10 s__11 s__12 s__13 s__14 s__15 s__16 s__17 s__18 s__19 s__20 s__21 s__22 s__23 s__24 s__25 s__26 s__27 s__28 s__29 s__30) fun z38 =>
 (.ret z38))))))))
 (.dd ((s__1 = (((0 : Nat) : Nat) : Int))) inferInstance
 (.opt (ref34_there.c s__5 s__6 s__7 s__8 s__9 s__10 s__11 s__12 s__13 s__14 s__15) fun z1 =>
 (.bb (!z1)
 (.ret false)
 (.opt (ref34_between.c s__27 (0 : Int) (127 : Int)) fun z2 =>
 (.bb (!z2)
 (.ret false)
 (.opt (ref34_between.c s__28 (1 : Int) (1073741823 : Int)) fun z3 =>
 (.bb (!z3)
 (.ret false)
 (.opt (C3 s__0 s__1 s__2 s__3 s__4 s__5 s__6 s__7 s__8 s__9 s__10 s__11 s__12 s__13 s__14 s__15 s__16 s__17 s__18 s__19 s__20 s__21 s__22 s__23 s__24 s__25 s__26 s__27 s__28 s__29 s__30) fun z34 =>
 (.ret z34))))))))
 .no)))
def c (s__0 s__1 s__2 : Int) (s__3 : Bool) (s__4 s__5 s__6 s__7 s__8 s__9 s__10 s__11 s__12 s__13 s__14 s__15 s__16 s__17 s__18 s__19 s__20 s__21 s__22 s__23 s__24 s__25 s__26 s__27 s__28 s__29 s__30 : Int) : Option Bool := (t s__0 s__1 s__2 s__3 s__4 s__5 s__6 s__7 s__8 s__9 s__10 s__11 s__12 s__13 s__14 s__15 s__16 s__17 s__18 s__19 s__20 s__21 s__22 s__23 s__24 s__25 s__26 s__27 s__28 s__29 s__30).run
def tl (l : TA) : Tw Bool := t l.1.1.1 l.1.1.2.1 l.1.1.2.2.1 l.1.1.2.2.2.1 (d4 l.1.1).1 (d4 l.1.1).2.1 (d4 l.1.1).2.2.1 (d4 l.1.1).2.2.2.1 (d8 l.1.1).1 (d8 l.1.1).2.1 (d8 l.1.1).2.2.1 (d8 l.1.1).2.2.2.1 (d12 l.1.1).1 (d12 l.1.1).2.1 (d12 l.1.1).2.2.1 (d12 l.1.1).2.2.2.1 (d16 l.1.1).1 (d16 l.1.1).2.1 (d16 l.1.1).2.2.1 (d16 l.1.1).2.2.2.1 (d20 l.1.1).1 (d20 l.1.1).2.1 (d20 l.1.1).2.2.1 (d20 l.1.1).2.2.2.1 (d24 l.1.1).1 (d24 l.1.1).2.1 (d24 l.1.1).2.2.1 (d24 l.1.1).2.2.2.1 (d28 l.1.1).1 (d28 l.1.1).2.1 (d28 l.1.1).2.2.1
def pA : Pt := (.cs (.agg (jC (jC (jC (.cs .bool (jC (jC (jC (jC (.cs (.int .u32) (.cs (.int .u32) (.cs (.int .u32) (.cs (.int .u32) (.cs (.int .u32) (.cs (.int .u32) (.cs (.int .u32) (.cs (.int .u32) (jC (jC (jC (.cs (.int .u32) (.cs (.int .u32) (.cs (.int .u32) (.cs (.int .u32) (.cs (.int .u32) (.cs (.int .u32) (.cs (.int .u32) (.cs (.int .u32) (jC (jC (jC (jC .nl)))))))))))))))))))))))))))))))) .nl)
def pH : Pt := .nl
def v (l : TA) (y : Bool) : AV U := jB y
def hh (l : TA) (y : Bool) : Hp U := []
def A : AFun U := mkA pA pH (X := Bool) (fun l => (tl l).run) sp1 v hh
def body := bodyOf Try.f21
def E : Env U := E0.mk5 [(42, ref34_there.A), (43, ref34_between.A)] [] [(10, ΛC10), (7, ΛC7), (3, ΛC3)] [(3, ⟨[1], []⟩, ⟨[2], []⟩), (7, ⟨[5, 1, 4, 6], []⟩, ⟨[2], []⟩), (10, ⟨[5, 1, 4, 7, 6], []⟩, ⟨[2], []⟩)] []
theorem hc10 (R : Type) (l : TC10) (K : Ex → St U → Option R) : codeA E (pick (seqsOf body) 10) ⟨pC10.mkL l.1, qC10.mkH l.2, 0⟩ (outK E 10 K) =
  (cl10 l).runK fun y => K (ouC10 l y).1 (ouC10 l y).2 := by kernel_rfl
theorem ck10 (R : Type) (st : St U) (K : Ex → St U → Option R) (r : R) (h : ΛC10 R st K = some r) : codeA E (pick (seqsOf body) 10) st (outK E 10 K) = some r :=
  cut_ok (E := E) (b := pick (seqsOf body) 10) (k := 10) (m := 0) (sp := sp1) (p := pC10) (q := qC10) (X := Bool) (t := cl10) (ou := ouC10) sp1_ok hc10 h
theorem hc7 (R : Type) (l : TC7) (K : Ex → St U → Option R) : codeA E (pick (seqsOf body) 7) ⟨pC7.mkL l.1, qC7.mkH l.2, 0⟩ (outK E 7 K) =
  (cl7 l).runK fun y => K (ouC7 l y).1 (ouC7 l y).2 := by kernel_rfl
theorem ck7 (R : Type) (st : St U) (K : Ex → St U → Option R) (r : R) (h : ΛC7 R st K = some r) : codeA E (pick (seqsOf body) 7) st (outK E 7 K) = some r :=
  cut_ok (E := E) (b := pick (seqsOf body) 7) (k := 7) (m := 0) (sp := sp1) (p := pC7) (q := qC7) (X := Bool) (t := cl7) (ou := ouC7) sp1_ok hc7 h
theorem hc3 (R : Type) (l : TC3) (K : Ex → St U → Option R) : codeA E (pick (seqsOf body) 3) ⟨pC3.mkL l.1, qC3.mkH l.2, 0⟩ (outK E 3 K) =
  (cl3 l).runK fun y => K (ouC3 l y).1 (ouC3 l y).2 := by kernel_rfl
theorem ck3 (R : Type) (st : St U) (K : Ex → St U → Option R) (r : R) (h : ΛC3 R st K = some r) : codeA E (pick (seqsOf body) 3) st (outK E 3 K) = some r :=
  cut_ok (E := E) (b := pick (seqsOf body) 3) (k := 3) (m := 0) (sp := sp1) (p := pC3) (q := qC3) (X := Bool) (t := cl3) (ou := ouC3) sp1_ok hc3 h
theorem hk : HK E Try.f21 [] pA pH tl v hh := fun _ _ _ => by kernel_rfl
theorem og : SoundF Try.prog cc 21 A ∧ FnOK Try.prog 21 :=
 og_of (E := E) P_mixed (E0_ok.mk5 _ _ _ _ _) (gam_of (all_cons ref34_there.og (all_cons ref34_between.og all_nil)) no_ro) Try.func21 (c := body) (by kernel_rfl)
    (just_by (by kernel_rfl) (by kernel_rfl) all_nil (all_cons ck10 (all_cons ck7 (all_cons ck3 all_nil)))) [] sp1_ok hk (by kernel_rfl)
end ref34_Right

/-! instar/instarref34.Lay -/
namespace ref34_Lay
abbrev TA : Type := (((Int × (Int × (Int × (Bool × (Int × (Int × (Int × (Int × (Int × (Int × (Int × (Int × (Int × (Int × (Int × (Int × (Int × (Int × (Int × (Int × (Int × (Int × (Int × (Int × (Int × (Int × (Int × (Int × (Int × (Int × (Int × Unit))))))))))))))))))))))))))))))) × Unit) × Unit)
abbrev T11 : Type := ((Unit × (Unit × (Unit × (Unit × (Int × (Unit × (Int × (Unit × Unit)))))))) × ((Int × (Int × (Int × (Bool × (Int × (Int × (Int × (Int × (Int × (Int × (Int × (Int × (Int × (Int × (Int × (Int × (Int × (Int × (Int × (Int × (Int × (Int × (Int × (Int × (Int × (Int × (Int × (Int × (Int × (Int × (Int × Unit))))))))))))))))))))))))))))))) × ((List Int) × ((Int × (Int × (Int × (Int × (Int × (Int × (Int × (Int × (Int × (Int × (Int × Unit))))))))))) × Unit))))
abbrev S11 : Type := (Int × (List Int))
def l11 (i h0_0 h0_1 h0_2 : Int) (h0_3 : Bool) (h0_4 h0_5 h0_6 h0_7 h0_8 h0_9 h0_10 h0_11 h0_12 h0_13 h0_14 h0_15 h0_16 h0_17 h0_18 h0_19 h0_20 h0_21 h0_22 h0_23 h0_24 h0_25 h0_26 h0_27 h0_28 h0_29 h0_30 h2_0 h2_1 h2_2 h2_3 h2_4 h2_5 h2_6 h2_7 h2_8 h2_9 h2_10 k : Int) (h1 : (List Int)) : Tw (S11 ⊕ (List Int)) :=
 (.bb (decide (k < (8 : Int)))
 (.dd ((k = (((7 : Nat) : Nat) : Int))) inferInstance
 (.dd ((((((List.length h1) + (List.length (h2_10 :: ([] : List (Int))))) * (4 : Nat)) ≤ (140737488355328 : Nat)) ∧ (((List.length h1) + (List.length (h2_10 :: ([] : List (Int))))) ≤ (140737488355328 : Nat)))) inferInstance
 (.ret (.inl ((w64 (k + (1 : Int))), (h1 ++ (h2_10 :: ([] : List (Int)))))))
 .no)
 (.dd ((k = (((6 : Nat) : Nat) : Int))) inferInstance
 (.dd ((((((List.length h1) + (List.length (h2_9 :: ([] : List (Int))))) * (4 : Nat)) ≤ (140737488355328 : Nat)) ∧ (((List.length h1) + (List.length (h2_9 :: ([] : List (Int))))) ≤ (140737488355328 : Nat)))) inferInstance
 (.ret (.inl ((w64 (k + (1 : Int))), (h1 ++ (h2_9 :: ([] : List (Int)))))))
 .no)
 (.dd ((k = (((5 : Nat) : Nat) : Int))) inferInstance
 (.dd ((((((List.length h1) + (List.length (h2_8 :: ([] : List (Int))))) * (4 : Nat)) ≤ (140737488355328 : Nat)) ∧ (((List.length h1) + (List.length (h2_8 :: ([] : List (Int))))) ≤ (140737488355328 : Nat)))) inferInstance
 (.ret (.inl ((w64 (k + (1 : Int))), (h1 ++ (h2_8 :: ([] : List (Int)))))))
 .no)
 (.dd ((k = (((4 : Nat) : Nat) : Int))) inferInstance
 (.dd ((((((List.length h1) + (List.length (h2_7 :: ([] : List (Int))))) * (4 : Nat)) ≤ (140737488355328 : Nat)) ∧ (((List.length h1) + (List.length (h2_7 :: ([] : List (Int))))) ≤ (140737488355328 : Nat)))) inferInstance
 (.ret (.inl ((w64 (k + (1 : Int))), (h1 ++ (h2_7 :: ([] : List (Int)))))))
 .no)
 (.dd ((k = (((3 : Nat) : Nat) : Int))) inferInstance
 (.dd ((((((List.length h1) + (List.length (h2_6 :: ([] : List (Int))))) * (4 : Nat)) ≤ (140737488355328 : Nat)) ∧ (((List.length h1) + (List.length (h2_6 :: ([] : List (Int))))) ≤ (140737488355328 : Nat)))) inferInstance
 (.ret (.inl ((w64 (k + (1 : Int))), (h1 ++ (h2_6 :: ([] : List (Int)))))))
 .no)
 (.dd ((k = (((2 : Nat) : Nat) : Int))) inferInstance
 (.dd ((((((List.length h1) + (List.length (h2_5 :: ([] : List (Int))))) * (4 : Nat)) ≤ (140737488355328 : Nat)) ∧ (((List.length h1) + (List.length (h2_5 :: ([] : List (Int))))) ≤ (140737488355328 : Nat)))) inferInstance
 (.ret (.inl ((w64 (k + (1 : Int))), (h1 ++ (h2_5 :: ([] : List (Int)))))))
 .no)
 (.dd ((k = (((1 : Nat) : Nat) : Int))) inferInstance
 (.dd ((((((List.length h1) + (List.length (h2_4 :: ([] : List (Int))))) * (4 : Nat)) ≤ (140737488355328 : Nat)) ∧ (((List.length h1) + (List.length (h2_4 :: ([] : List (Int))))) ≤ (140737488355328 : Nat)))) inferInstance
 (.ret (.inl ((w64 (k + (1 : Int))), (h1 ++ (h2_4 :: ([] : List (Int)))))))
 .no)
 (.dd ((k = (((0 : Nat) : Nat) : Int))) inferInstance
 (.dd ((((((List.length h1) + (List.length (h2_3 :: ([] : List (Int))))) * (4 : Nat)) ≤ (140737488355328 : Nat)) ∧ (((List.length h1) + (List.length (h2_3 :: ([] : List (Int))))) ≤ (140737488355328 : Nat)))) inferInstance
 (.ret (.inl ((w64 (k + (1 : Int))), (h1 ++ (h2_3 :: ([] : List (Int)))))))
 .no)
 .no))))))))
 (.ret (.inr h1)))
def L11 (i k h0_0 h0_1 h0_2 : Int) (h0_3 : Bool) (h0_4 h0_5 h0_6 h0_7 h0_8 h0_9 h0_10 h0_11 h0_12 h0_13 h0_14 h0_15 h0_16 h0_17 h0_18 h0_19 h0_20 h0_21 h0_22 h0_23 h0_24 h0_25 h0_26 h0_27 h0_28 h0_29 h0_30 : Int) (h1 : (List Int)) (h2_0 h2_1 h2_2 h2_3 h2_4 h2_5 h2_6 h2_7 h2_8 h2_9 h2_10 : Int) : Option (List Int) := Lp (fun s => (l11 i h0_0 h0_1 h0_2 h0_3 h0_4 h0_5 h0_6 h0_7 h0_8 h0_9 h0_10 h0_11 h0_12 h0_13 h0_14 h0_15 h0_16 h0_17 h0_18 h0_19 h0_20 h0_21 h0_22 h0_23 h0_24 h0_25 h0_26 h0_27 h0_28 h0_29 h0_30 h2_0 h2_1 h2_2 h2_3 h2_4 h2_5 h2_6 h2_7 h2_8 h2_9 h2_10 s.1 s.2).run) (k, h1)
def p11 : Pt := (.cs (.bots 1) (.cs (.ptr 0 0) (.cs (.bots 2) (.cs (.own 1) (jC (.cs (.ptr 2 0) (jC (.cs (.bots 69) .nl))))))))
def q11 : Pt := (.cs (.var (jC (jC (jC (.cs .bool (jC (jC (jC (jC (.cs (.int .u32) (.cs (.int .u32) (.cs (.int .u32) (.cs (.int .u32) (.cs (.int .u32) (.cs (.int .u32) (.cs (.int .u32) (.cs (.int .u32) (jC (jC (jC (.cs (.int .u32) (.cs (.int .u32) (.cs (.int .u32) (.cs (.int .u32) (.cs (.int .u32) (.cs (.int .u32) (.cs (.int .u32) (.cs (.int .u32) (jC (jC (jC (jC .nl)))))))))))))))))))))))))))))))) (.cs (.row 3 true) (.cs (.var (jC (jC (jC (.cs (.int .u32) (.cs (.int .u32) (.cs (.int .u32) (.cs (.int .u32) (.cs (.int .u32) (.cs (.int .u32) (.cs (.int .u32) (.cs (.int .u32) .nl)))))))))))) .nl)))
def ou11 (l : T11) (y : (List Int)) : Ex × St U := (.exit 2, stOf 77 [(1, .ptr 0 0), (4, .own 1), (5, jI (d4 l.1).1)] [.var [jI l.2.1.1, jI l.2.1.2.1, jI l.2.1.2.2.1, jB l.2.1.2.2.2.1, jI (d4 l.2.1).1, jI (d4 l.2.1).2.1, jI (d4 l.2.1).2.2.1, jI (d4 l.2.1).2.2.2.1, .im (.int .u32 (d8 l.2.1).1), .im (.int .u32 (d8 l.2.1).2.1), .im (.int .u32 (d8 l.2.1).2.2.1), .im (.int .u32 (d8 l.2.1).2.2.2.1), .im (.int .u32 (d12 l.2.1).1), .im (.int .u32 (d12 l.2.1).2.1), .im (.int .u32 (d12 l.2.1).2.2.1), .im (.int .u32 (d12 l.2.1).2.2.2.1), jI (d16 l.2.1).1, jI (d16 l.2.1).2.1, jI (d16 l.2.1).2.2.1, .im (.int .u32 (d16 l.2.1).2.2.2.1), .im (.int .u32 (d20 l.2.1).1), .im (.int .u32 (d20 l.2.1).2.1), .im (.int .u32 (d20 l.2.1).2.2.1), .im (.int .u32 (d20 l.2.1).2.2.2.1), .im (.int .u32 (d24 l.2.1).1), .im (.int .u32 (d24 l.2.1).2.1), .im (.int .u32 (d24 l.2.1).2.2.1), jI (d24 l.2.1).2.2.2.1, jI (d28 l.2.1).1, jI (d28 l.2.1).2.1, jI (d28 l.2.1).2.2.1], .row 3 y true] 0)
def Λ11 : LFun U := mkLp p11 q11 0 (X := (List Int)) (fun (l : T11) => L11 (d4 l.1).1 (d4 l.1).2.2.1 l.2.1.1 l.2.1.2.1 l.2.1.2.2.1 l.2.1.2.2.2.1 (d4 l.2.1).1 (d4 l.2.1).2.1 (d4 l.2.1).2.2.1 (d4 l.2.1).2.2.2.1 (d8 l.2.1).1 (d8 l.2.1).2.1 (d8 l.2.1).2.2.1 (d8 l.2.1).2.2.2.1 (d12 l.2.1).1 (d12 l.2.1).2.1 (d12 l.2.1).2.2.1 (d12 l.2.1).2.2.2.1 (d16 l.2.1).1 (d16 l.2.1).2.1 (d16 l.2.1).2.2.1 (d16 l.2.1).2.2.2.1 (d20 l.2.1).1 (d20 l.2.1).2.1 (d20 l.2.1).2.2.1 (d20 l.2.1).2.2.2.1 (d24 l.2.1).1 (d24 l.2.1).2.1 (d24 l.2.1).2.2.1 (d24 l.2.1).2.2.2.1 (d28 l.2.1).1 (d28 l.2.1).2.1 (d28 l.2.1).2.2.1 l.2.2.1 l.2.2.2.1.1 l.2.2.2.1.2.1 l.2.2.2.1.2.2.1 l.2.2.2.1.2.2.2.1 (d4 l.2.2.2.1).1 (d4 l.2.2.2.1).2.1 (d4 l.2.2.2.1).2.2.1 (d4 l.2.2.2.1).2.2.2.1 (d8 l.2.2.2.1).1 (d8 l.2.2.2.1).2.1 (d8 l.2.2.2.1).2.2.1) sp1 ou11
def hd11 (l : T11) (s : S11) : T11 := (((), ((), ((), ((), ((d4 l.1).1, ((), (s.1, ((), ())))))))), ((l.2.1.1, (l.2.1.2.1, (l.2.1.2.2.1, (l.2.1.2.2.2.1, ((d4 l.2.1).1, ((d4 l.2.1).2.1, ((d4 l.2.1).2.2.1, ((d4 l.2.1).2.2.2.1, ((d8 l.2.1).1, ((d8 l.2.1).2.1, ((d8 l.2.1).2.2.1, ((d8 l.2.1).2.2.2.1, ((d12 l.2.1).1, ((d12 l.2.1).2.1, ((d12 l.2.1).2.2.1, ((d12 l.2.1).2.2.2.1, ((d16 l.2.1).1, ((d16 l.2.1).2.1, ((d16 l.2.1).2.2.1, ((d16 l.2.1).2.2.2.1, ((d20 l.2.1).1, ((d20 l.2.1).2.1, ((d20 l.2.1).2.2.1, ((d20 l.2.1).2.2.2.1, ((d24 l.2.1).1, ((d24 l.2.1).2.1, ((d24 l.2.1).2.2.1, ((d24 l.2.1).2.2.2.1, ((d28 l.2.1).1, ((d28 l.2.1).2.1, ((d28 l.2.1).2.2.1, ()))))))))))))))))))))))))))))))), (s.2, ((l.2.2.2.1.1, (l.2.2.2.1.2.1, (l.2.2.2.1.2.2.1, (l.2.2.2.1.2.2.2.1, ((d4 l.2.2.2.1).1, ((d4 l.2.2.2.1).2.1, ((d4 l.2.2.2.1).2.2.1, ((d4 l.2.2.2.1).2.2.2.1, ((d8 l.2.2.2.1).1, ((d8 l.2.2.2.1).2.1, ((d8 l.2.2.2.1).2.2.1, ()))))))))))), ()))))
def fl11 (l : T11) (s : S11) : Tw (S11 ⊕ (List Int)) := l11 (d4 l.1).1 l.2.1.1 l.2.1.2.1 l.2.1.2.2.1 l.2.1.2.2.2.1 (d4 l.2.1).1 (d4 l.2.1).2.1 (d4 l.2.1).2.2.1 (d4 l.2.1).2.2.2.1 (d8 l.2.1).1 (d8 l.2.1).2.1 (d8 l.2.1).2.2.1 (d8 l.2.1).2.2.2.1 (d12 l.2.1).1 (d12 l.2.1).2.1 (d12 l.2.1).2.2.1 (d12 l.2.1).2.2.2.1 (d16 l.2.1).1 (d16 l.2.1).2.1 (d16 l.2.1).2.2.1 (d16 l.2.1).2.2.2.1 (d20 l.2.1).1 (d20 l.2.1).2.1 (d20 l.2.1).2.2.1 (d20 l.2.1).2.2.2.1 (d24 l.2.1).1 (d24 l.2.1).2.1 (d24 l.2.1).2.2.1 (d24 l.2.1).2.2.2.1 (d28 l.2.1).1 (d28 l.2.1).2.1 (d28 l.2.1).2.2.1 l.2.2.2.1.1 l.2.2.2.1.2.1 l.2.2.2.1.2.2.1 l.2.2.2.1.2.2.2.1 (d4 l.2.2.2.1).1 (d4 l.2.2.2.1).2.1 (d4 l.2.2.2.1).2.2.1 (d4 l.2.2.2.1).2.2.2.1 (d8 l.2.2.2.1).1 (d8 l.2.2.2.1).2.1 (d8 l.2.2.2.1).2.2.1 s.1 s.2
abbrev T6 : Type := ((Unit × (Unit × (Unit × (Unit × (Int × (Unit × Unit)))))) × ((Int × (Int × (Int × (Bool × (Int × (Int × (Int × (Int × (Int × (Int × (Int × (Int × (Int × (Int × (Int × (Int × (Int × (Int × (Int × (Int × (Int × (Int × (Int × (Int × (Int × (Int × (Int × (Int × (Int × (Int × (Int × Unit))))))))))))))))))))))))))))))) × ((List Int) × Unit)))
abbrev S6 : Type := (Int × (List Int))
def l6 (h0_0 h0_1 h0_2 : Int) (h0_3 : Bool) (h0_4 h0_5 h0_6 h0_7 h0_8 h0_9 h0_10 h0_11 h0_12 h0_13 h0_14 h0_15 h0_16 h0_17 h0_18 h0_19 h0_20 h0_21 h0_22 h0_23 h0_24 h0_25 h0_26 h0_27 h0_28 h0_29 h0_30 i : Int) (h1 : (List Int)) : Tw (S6 ⊕ (List Int)) :=
 (.bb (decide (i < (2 : Int)))
 (.dd ((i = (((1 : Nat) : Nat) : Int))) inferInstance
 (.dd ((((((List.length h1) + (List.length ((w32 ((w32 h0_16) + (w32 ((65536 : Int) * (w32 h0_17))))) :: ((w32 h0_18) :: ([] : List (Int)))))) * (4 : Nat)) ≤ (140737488355328 : Nat)) ∧ (((List.length h1) + (List.length ((w32 ((w32 h0_16) + (w32 ((65536 : Int) * (w32 h0_17))))) :: ((w32 h0_18) :: ([] : List (Int)))))) ≤ (140737488355328 : Nat)))) inferInstance
 (.opt (L11 i (0 : Int) h0_0 h0_1 h0_2 h0_3 h0_4 h0_5 h0_6 h0_7 h0_8 h0_9 h0_10 h0_11 h0_12 h0_13 h0_14 h0_15 h0_16 h0_17 h0_18 h0_19 h0_20 h0_21 h0_22 h0_23 h0_24 h0_25 h0_26 h0_27 h0_28 h0_29 h0_30 (h1 ++ ((w32 ((w32 h0_16) + (w32 ((65536 : Int) * (w32 h0_17))))) :: ((w32 h0_18) :: ([] : List (Int))))) h0_16 h0_17 h0_18 h0_19 h0_20 h0_21 h0_22 h0_23 h0_24 h0_25 h0_26) fun z2 =>
 (.ret (.inl ((w64 (i + (1 : Int))), z2))))
 .no)
 (.dd ((i = (((0 : Nat) : Nat) : Int))) inferInstance
 (.dd ((((((List.length h1) + (List.length ((w32 ((w32 h0_5) + (w32 ((65536 : Int) * (w32 h0_6))))) :: ((w32 h0_7) :: ([] : List (Int)))))) * (4 : Nat)) ≤ (140737488355328 : Nat)) ∧ (((List.length h1) + (List.length ((w32 ((w32 h0_5) + (w32 ((65536 : Int) * (w32 h0_6))))) :: ((w32 h0_7) :: ([] : List (Int)))))) ≤ (140737488355328 : Nat)))) inferInstance
 (.opt (L11 i (0 : Int) h0_0 h0_1 h0_2 h0_3 h0_4 h0_5 h0_6 h0_7 h0_8 h0_9 h0_10 h0_11 h0_12 h0_13 h0_14 h0_15 h0_16 h0_17 h0_18 h0_19 h0_20 h0_21 h0_22 h0_23 h0_24 h0_25 h0_26 h0_27 h0_28 h0_29 h0_30 (h1 ++ ((w32 ((w32 h0_5) + (w32 ((65536 : Int) * (w32 h0_6))))) :: ((w32 h0_7) :: ([] : List (Int))))) h0_5 h0_6 h0_7 h0_8 h0_9 h0_10 h0_11 h0_12 h0_13 h0_14 h0_15) fun z1 =>
 (.ret (.inl ((w64 (i + (1 : Int))), z1))))
 .no)
 .no))
 (.ret (.inr h1)))
def L6 (i h0_0 h0_1 h0_2 : Int) (h0_3 : Bool) (h0_4 h0_5 h0_6 h0_7 h0_8 h0_9 h0_10 h0_11 h0_12 h0_13 h0_14 h0_15 h0_16 h0_17 h0_18 h0_19 h0_20 h0_21 h0_22 h0_23 h0_24 h0_25 h0_26 h0_27 h0_28 h0_29 h0_30 : Int) (h1 : (List Int)) : Option (List Int) := Lp (fun s => (l6 h0_0 h0_1 h0_2 h0_3 h0_4 h0_5 h0_6 h0_7 h0_8 h0_9 h0_10 h0_11 h0_12 h0_13 h0_14 h0_15 h0_16 h0_17 h0_18 h0_19 h0_20 h0_21 h0_22 h0_23 h0_24 h0_25 h0_26 h0_27 h0_28 h0_29 h0_30 s.1 s.2).run) (i, h1)
def p6 : Pt := (.cs (.bots 1) (.cs (.ptr 0 0) (.cs (.bots 2) (.cs (.own 1) (jC (.cs (.bots 71) .nl))))))
def q6 : Pt := (.cs (.var (jC (jC (jC (.cs .bool (jC (jC (jC (jC (.cs (.int .u32) (.cs (.int .u32) (.cs (.int .u32) (.cs (.int .u32) (.cs (.int .u32) (.cs (.int .u32) (.cs (.int .u32) (.cs (.int .u32) (jC (jC (jC (.cs (.int .u32) (.cs (.int .u32) (.cs (.int .u32) (.cs (.int .u32) (.cs (.int .u32) (.cs (.int .u32) (.cs (.int .u32) (.cs (.int .u32) (jC (jC (jC (jC .nl)))))))))))))))))))))))))))))))) (.cs (.row 3 true) .nl))
def ou6 (l : T6) (y : (List Int)) : Ex × St U := (.exit 0, stOf 77 [(4, .own 0)] [.row 3 y true] 0)
def Λ6 : LFun U := mkLp p6 q6 0 (X := (List Int)) (fun (l : T6) => L6 (d4 l.1).1 l.2.1.1 l.2.1.2.1 l.2.1.2.2.1 l.2.1.2.2.2.1 (d4 l.2.1).1 (d4 l.2.1).2.1 (d4 l.2.1).2.2.1 (d4 l.2.1).2.2.2.1 (d8 l.2.1).1 (d8 l.2.1).2.1 (d8 l.2.1).2.2.1 (d8 l.2.1).2.2.2.1 (d12 l.2.1).1 (d12 l.2.1).2.1 (d12 l.2.1).2.2.1 (d12 l.2.1).2.2.2.1 (d16 l.2.1).1 (d16 l.2.1).2.1 (d16 l.2.1).2.2.1 (d16 l.2.1).2.2.2.1 (d20 l.2.1).1 (d20 l.2.1).2.1 (d20 l.2.1).2.2.1 (d20 l.2.1).2.2.2.1 (d24 l.2.1).1 (d24 l.2.1).2.1 (d24 l.2.1).2.2.1 (d24 l.2.1).2.2.2.1 (d28 l.2.1).1 (d28 l.2.1).2.1 (d28 l.2.1).2.2.1 l.2.2.1) sp1 ou6
def hd6 (l : T6) (s : S6) : T6 := (((), ((), ((), ((), (s.1, ((), ())))))), ((l.2.1.1, (l.2.1.2.1, (l.2.1.2.2.1, (l.2.1.2.2.2.1, ((d4 l.2.1).1, ((d4 l.2.1).2.1, ((d4 l.2.1).2.2.1, ((d4 l.2.1).2.2.2.1, ((d8 l.2.1).1, ((d8 l.2.1).2.1, ((d8 l.2.1).2.2.1, ((d8 l.2.1).2.2.2.1, ((d12 l.2.1).1, ((d12 l.2.1).2.1, ((d12 l.2.1).2.2.1, ((d12 l.2.1).2.2.2.1, ((d16 l.2.1).1, ((d16 l.2.1).2.1, ((d16 l.2.1).2.2.1, ((d16 l.2.1).2.2.2.1, ((d20 l.2.1).1, ((d20 l.2.1).2.1, ((d20 l.2.1).2.2.1, ((d20 l.2.1).2.2.2.1, ((d24 l.2.1).1, ((d24 l.2.1).2.1, ((d24 l.2.1).2.2.1, ((d24 l.2.1).2.2.2.1, ((d28 l.2.1).1, ((d28 l.2.1).2.1, ((d28 l.2.1).2.2.1, ()))))))))))))))))))))))))))))))), (s.2, ())))
def fl6 (l : T6) (s : S6) : Tw (S6 ⊕ (List Int)) := l6 l.2.1.1 l.2.1.2.1 l.2.1.2.2.1 l.2.1.2.2.2.1 (d4 l.2.1).1 (d4 l.2.1).2.1 (d4 l.2.1).2.2.1 (d4 l.2.1).2.2.2.1 (d8 l.2.1).1 (d8 l.2.1).2.1 (d8 l.2.1).2.2.1 (d8 l.2.1).2.2.2.1 (d12 l.2.1).1 (d12 l.2.1).2.1 (d12 l.2.1).2.2.1 (d12 l.2.1).2.2.2.1 (d16 l.2.1).1 (d16 l.2.1).2.1 (d16 l.2.1).2.2.1 (d16 l.2.1).2.2.2.1 (d20 l.2.1).1 (d20 l.2.1).2.1 (d20 l.2.1).2.2.1 (d20 l.2.1).2.2.2.1 (d24 l.2.1).1 (d24 l.2.1).2.1 (d24 l.2.1).2.2.1 (d24 l.2.1).2.2.2.1 (d28 l.2.1).1 (d28 l.2.1).2.1 (d28 l.2.1).2.2.1 s.1 s.2
def t (s__0 s__1 s__2 : Int) (s__3 : Bool) (s__4 s__5 s__6 s__7 s__8 s__9 s__10 s__11 s__12 s__13 s__14 s__15 s__16 s__17 s__18 s__19 s__20 s__21 s__22 s__23 s__24 s__25 s__26 s__27 s__28 s__29 s__30 : Int) : Tw (List Int) :=
 (.bb s__3
 (.opt (L6 (0 : Int) s__0 s__1 s__2 s__3 s__4 s__5 s__6 s__7 s__8 s__9 s__10 s__11 s__12 s__13 s__14 s__15 s__16 s__17 s__18 s__19 s__20 s__21 s__22 s__23 s__24 s__25 s__26 s__27 s__28 s__29 s__30 ((w32 ((w32 ((w32 ((w32 s__0) + (w32 ((256 : Int) * (w32 s__1))))) + (w32 ((65536 : Int) * (w32 s__2))))) + (16777216 : Int))) :: ((w32 s__4) :: ((w32 s__27) :: ((w32 s__28) :: ((w32 (w64 (s__29 + (1 : Int)))) :: ((w32 s__30) :: ([] : List (Int))))))))) fun z4 =>
 (.ret z4))
 (.opt (L6 (0 : Int) s__0 s__1 s__2 s__3 s__4 s__5 s__6 s__7 s__8 s__9 s__10 s__11 s__12 s__13 s__14 s__15 s__16 s__17 s__18 s__19 s__20 s__21 s__22 s__23 s__24 s__25 s__26 s__27 s__28 s__29 s__30 ((w32 ((w32 ((w32 s__0) + (w32 ((256 : Int) * (w32 s__1))))) + (w32 ((65536 : Int) * (w32 s__2))))) :: ((w32 s__4) :: ((w32 s__27) :: ((w32 s__28) :: ((w32 (w64 (s__29 + (1 : Int)))) :: ((w32 s__30) :: ([] : List (Int))))))))) fun z3 =>
 (.ret z3)))
def c (s__0 s__1 s__2 : Int) (s__3 : Bool) (s__4 s__5 s__6 s__7 s__8 s__9 s__10 s__11 s__12 s__13 s__14 s__15 s__16 s__17 s__18 s__19 s__20 s__21 s__22 s__23 s__24 s__25 s__26 s__27 s__28 s__29 s__30 : Int) : Option (List Int) := (t s__0 s__1 s__2 s__3 s__4 s__5 s__6 s__7 s__8 s__9 s__10 s__11 s__12 s__13 s__14 s__15 s__16 s__17 s__18 s__19 s__20 s__21 s__22 s__23 s__24 s__25 s__26 s__27 s__28 s__29 s__30).run
def tl (l : TA) : Tw (List Int) := t l.1.1.1 l.1.1.2.1 l.1.1.2.2.1 l.1.1.2.2.2.1 (d4 l.1.1).1 (d4 l.1.1).2.1 (d4 l.1.1).2.2.1 (d4 l.1.1).2.2.2.1 (d8 l.1.1).1 (d8 l.1.1).2.1 (d8 l.1.1).2.2.1 (d8 l.1.1).2.2.2.1 (d12 l.1.1).1 (d12 l.1.1).2.1 (d12 l.1.1).2.2.1 (d12 l.1.1).2.2.2.1 (d16 l.1.1).1 (d16 l.1.1).2.1 (d16 l.1.1).2.2.1 (d16 l.1.1).2.2.2.1 (d20 l.1.1).1 (d20 l.1.1).2.1 (d20 l.1.1).2.2.1 (d20 l.1.1).2.2.2.1 (d24 l.1.1).1 (d24 l.1.1).2.1 (d24 l.1.1).2.2.1 (d24 l.1.1).2.2.2.1 (d28 l.1.1).1 (d28 l.1.1).2.1 (d28 l.1.1).2.2.1
def pA : Pt := (.cs (.agg (jC (jC (jC (.cs .bool (jC (jC (jC (jC (.cs (.int .u32) (.cs (.int .u32) (.cs (.int .u32) (.cs (.int .u32) (.cs (.int .u32) (.cs (.int .u32) (.cs (.int .u32) (.cs (.int .u32) (jC (jC (jC (.cs (.int .u32) (.cs (.int .u32) (.cs (.int .u32) (.cs (.int .u32) (.cs (.int .u32) (.cs (.int .u32) (.cs (.int .u32) (.cs (.int .u32) (jC (jC (jC (jC .nl)))))))))))))))))))))))))))))))) .nl)
def pH : Pt := .nl
def v (l : TA) (y : (List Int)) : AV U := .own 0
def hh (l : TA) (y : (List Int)) : Hp U := [.row 3 y true]
def A : AFun U := mkA pA pH (X := (List Int)) (fun l => (tl l).run) sp1 v hh
def body := bodyOf Try.f24
def E : Env U := E0.mk5 [] [(11, Λ11), (6, Λ6)] [] [(6, ⟨[5, 4, 1], []⟩, ⟨[2, 4], []⟩), (11, ⟨[7, 6, 4, 1, 5], []⟩, ⟨[2, 4, 1, 5], []⟩)] []
theorem hf11 : HF E (pick (loopsOf body) 11) p11 q11 0 fl11 hd11 sp1 ou11 := fun _ _ _ _ => by kernel_rfl
theorem lk11 : LK E (pick (loopsOf body) 11) Λ11 := fun R st K r h =>
  lp_ok (E := E) (b := pick (loopsOf body) 11) (m := 0) (sp := sp1) (p := p11) (q := q11) (X := (List Int)) (S := S11) (f := fl11) (hd := hd11) (s0 := fun (l : T11) => ((d4 l.1).2.2.1, l.2.2.1)) (ou := ou11)
    (fun l => rfl) (fun l x => by rfl) sp1_ok hf11 h
theorem hf6 : HF E (pick (loopsOf body) 6) p6 q6 0 fl6 hd6 sp1 ou6 := fun _ _ _ _ => by kernel_rfl
theorem lk6 : LK E (pick (loopsOf body) 6) Λ6 := fun R st K r h =>
  lp_ok (E := E) (b := pick (loopsOf body) 6) (m := 0) (sp := sp1) (p := p6) (q := q6) (X := (List Int)) (S := S6) (f := fl6) (hd := hd6) (s0 := fun (l : T6) => ((d4 l.1).1, l.2.2.1)) (ou := ou6)
    (fun l => rfl) (fun l x => by rfl) sp1_ok hf6 h
theorem hk : HK E Try.f24 [] pA pH tl v hh := fun _ _ _ => by kernel_rfl
theorem og : SoundF Try.prog cc 24 A ∧ FnOK Try.prog 24 :=
 og_of (E := E) P_mixed (E0_ok.mk5 _ _ _ _ _) (gam_of all_nil all_nil) Try.func24 (c := body) (by kernel_rfl)
    (just_by (by kernel_rfl) (by kernel_rfl) (all_cons lk11 (all_cons lk6 all_nil)) all_nil) [] sp1_ok hk (by kernel_rfl)
end ref34_Lay

/-! instar/instarref34.Take -/
namespace ref34_Take
abbrev TA : Type := (((List Int) × Unit) × Unit)
abbrev XA : Type := (Int × (Int × (Int × (Bool × (Int × (Int × (Int × (Int × (Int × (Int × (Int × (Int × (Int × (Int × (Int × (Int × (Int × (Int × (Int × (Int × (Int × (Int × (Int × (Int × (Int × (Int × (Int × (Int × (Int × (Int × (Int × Int)))))))))))))))))))))))))))))))
abbrev T15 : Type := (((List Int) × (Unit × (Unit × (Unit × (Unit × (Int × (Int × (Int × (Unit × Unit))))))))) × ((Int × (Int × (Int × (Bool × (Int × (Int × (Int × (Int × (Int × (Int × (Int × (Int × (Int × (Int × (Int × (Int × (Int × (Int × (Int × (Int × (Int × (Int × (Int × (Int × (Int × (Int × (Int × (Int × (Int × (Int × (Int × Unit))))))))))))))))))))))))))))))) × ((Int × (Int × (Int × (Bool × (Int × (Int × (Int × (Int × (Int × (Int × (Int × (Int × (Int × (Int × (Int × (Int × (Int × (Int × (Int × (Int × (Int × (Int × (Int × (Int × (Int × (Int × (Int × (Int × (Int × (Int × (Int × Unit))))))))))))))))))))))))))))))) × Unit)))
abbrev S15 : Type := (Int × (Int × (Int × (Int × (Int × (Int × (Int × (Int × (Int × (Int × (Int × (Int × (Int × (Int × (Int × (Int × Int))))))))))))))))
abbrev X15 : Type := (Int × (Int × (Int × (Int × (Int × (Int × (Int × (Int × (Int × (Int × (Int × (Int × (Int × (Int × (Int × Int)))))))))))))))
def l15 (w : (List Int)) (i at_ h0_0 h0_1 h0_2 : Int) (h0_3 : Bool) (h0_4 h0_5 h0_6 h0_7 h0_8 h0_9 h0_10 h0_11 h0_12 h0_13 h0_14 h0_15 h0_16 h0_17 h0_18 h0_19 h0_20 h0_21 h0_22 h0_23 h0_24 h0_25 h0_26 h0_27 h0_28 h0_29 h0_30 h1_0 h1_1 h1_2 : Int) (h1_3 : Bool) (h1_4 h1_5 h1_6 h1_7 h1_16 h1_17 h1_18 h1_27 h1_28 h1_29 h1_30 k h1_8 h1_9 h1_10 h1_11 h1_12 h1_13 h1_14 h1_15 h1_19 h1_20 h1_21 h1_22 h1_23 h1_24 h1_25 h1_26 : Int) : Tw (S15 ⊕ X15) :=
 (.bb (decide (k < (8 : Int)))
 (.dd (((0 : Int) ≤ (w64 ((w64 (at_ + (2 : Int))) + k)))) inferInstance
 (.opt (w)[(Int.toNat (w64 ((w64 (at_ + (2 : Int))) + k)))]? fun z14 =>
 (.dd ((i = (((1 : Nat) : Nat) : Int))) inferInstance
 (.dd ((k = (((7 : Nat) : Nat) : Int))) inferInstance
 (.ret (.inl ((w64 (k + (1 : Int))), (h1_8, (h1_9, (h1_10, (h1_11, (h1_12, (h1_13, (h1_14, (h1_15, (h1_19, (h1_20, (h1_21, (h1_22, (h1_23, (h1_24, (h1_25, z14))))))))))))))))))
 (.dd ((k = (((6 : Nat) : Nat) : Int))) inferInstance
 (.ret (.inl ((w64 (k + (1 : Int))), (h1_8, (h1_9, (h1_10, (h1_11, (h1_12, (h1_13, (h1_14, (h1_15, (h1_19, (h1_20, (h1_21, (h1_22, (h1_23, (h1_24, (z14, h1_26))))))))))))))))))
 (.dd ((k = (((5 : Nat) : Nat) : Int))) inferInstance
 (.ret (.inl ((w64 (k + (1 : Int))), (h1_8, (h1_9, (h1_10, (h1_11, (h1_12, (h1_13, (h1_14, (h1_15, (h1_19, (h1_20, (h1_21, (h1_22, (h1_23, (z14, (h1_25, h1_26))))))))))))))))))
 (.dd ((k = (((4 : Nat) : Nat) : Int))) inferInstance
 (.ret (.inl ((w64 (k + (1 : Int))), (h1_8, (h1_9, (h1_10, (h1_11, (h1_12, (h1_13, (h1_14, (h1_15, (h1_19, (h1_20, (h1_21, (h1_22, (z14, (h1_24, (h1_25, h1_26))))))))))))))))))
 (.dd ((k = (((3 : Nat) : Nat) : Int))) inferInstance
 (.ret (.inl ((w64 (k + (1 : Int))), (h1_8, (h1_9, (h1_10, (h1_11, (h1_12, (h1_13, (h1_14, (h1_15, (h1_19, (h1_20, (h1_21, (z14, (h1_23, (h1_24, (h1_25, h1_26))))))))))))))))))
 (.dd ((k = (((2 : Nat) : Nat) : Int))) inferInstance
 (.ret (.inl ((w64 (k + (1 : Int))), (h1_8, (h1_9, (h1_10, (h1_11, (h1_12, (h1_13, (h1_14, (h1_15, (h1_19, (h1_20, (z14, (h1_22, (h1_23, (h1_24, (h1_25, h1_26))))))))))))))))))
 (.dd ((k = (((1 : Nat) : Nat) : Int))) inferInstance
 (.ret (.inl ((w64 (k + (1 : Int))), (h1_8, (h1_9, (h1_10, (h1_11, (h1_12, (h1_13, (h1_14, (h1_15, (h1_19, (z14, (h1_21, (h1_22, (h1_23, (h1_24, (h1_25, h1_26))))))))))))))))))
 (.dd ((k = (((0 : Nat) : Nat) : Int))) inferInstance
 (.ret (.inl ((w64 (k + (1 : Int))), (h1_8, (h1_9, (h1_10, (h1_11, (h1_12, (h1_13, (h1_14, (h1_15, (z14, (h1_20, (h1_21, (h1_22, (h1_23, (h1_24, (h1_25, h1_26))))))))))))))))))
 .no))))))))
 (.dd ((i = (((0 : Nat) : Nat) : Int))) inferInstance
 (.dd ((k = (((7 : Nat) : Nat) : Int))) inferInstance
 (.ret (.inl ((w64 (k + (1 : Int))), (h1_8, (h1_9, (h1_10, (h1_11, (h1_12, (h1_13, (h1_14, (z14, (h1_19, (h1_20, (h1_21, (h1_22, (h1_23, (h1_24, (h1_25, h1_26))))))))))))))))))
 (.dd ((k = (((6 : Nat) : Nat) : Int))) inferInstance
 (.ret (.inl ((w64 (k + (1 : Int))), (h1_8, (h1_9, (h1_10, (h1_11, (h1_12, (h1_13, (z14, (h1_15, (h1_19, (h1_20, (h1_21, (h1_22, (h1_23, (h1_24, (h1_25, h1_26))))))))))))))))))
 (.dd ((k = (((5 : Nat) : Nat) : Int))) inferInstance
 (.ret (.inl ((w64 (k + (1 : Int))), (h1_8, (h1_9, (h1_10, (h1_11, (h1_12, (z14, (h1_14, (h1_15, (h1_19, (h1_20, (h1_21, (h1_22, (h1_23, (h1_24, (h1_25, h1_26))))))))))))))))))
 (.dd ((k = (((4 : Nat) : Nat) : Int))) inferInstance
 (.ret (.inl ((w64 (k + (1 : Int))), (h1_8, (h1_9, (h1_10, (h1_11, (z14, (h1_13, (h1_14, (h1_15, (h1_19, (h1_20, (h1_21, (h1_22, (h1_23, (h1_24, (h1_25, h1_26))))))))))))))))))
 (.dd ((k = (((3 : Nat) : Nat) : Int))) inferInstance
 (.ret (.inl ((w64 (k + (1 : Int))), (h1_8, (h1_9, (h1_10, (z14, (h1_12, (h1_13, (h1_14, (h1_15, (h1_19, (h1_20, (h1_21, (h1_22, (h1_23, (h1_24, (h1_25, h1_26))))))))))))))))))
 (.dd ((k = (((2 : Nat) : Nat) : Int))) inferInstance
 (.ret (.inl ((w64 (k + (1 : Int))), (h1_8, (h1_9, (z14, (h1_11, (h1_12, (h1_13, (h1_14, (h1_15, (h1_19, (h1_20, (h1_21, (h1_22, (h1_23, (h1_24, (h1_25, h1_26))))))))))))))))))
 (.dd ((k = (((1 : Nat) : Nat) : Int))) inferInstance
 (.ret (.inl ((w64 (k + (1 : Int))), (h1_8, (z14, (h1_10, (h1_11, (h1_12, (h1_13, (h1_14, (h1_15, (h1_19, (h1_20, (h1_21, (h1_22, (h1_23, (h1_24, (h1_25, h1_26))))))))))))))))))
 (.dd ((k = (((0 : Nat) : Nat) : Int))) inferInstance
 (.ret (.inl ((w64 (k + (1 : Int))), (z14, (h1_9, (h1_10, (h1_11, (h1_12, (h1_13, (h1_14, (h1_15, (h1_19, (h1_20, (h1_21, (h1_22, (h1_23, (h1_24, (h1_25, h1_26))))))))))))))))))
 .no))))))))
 .no)))
 .no)
 (.ret (.inr (h1_8, (h1_9, (h1_10, (h1_11, (h1_12, (h1_13, (h1_14, (h1_15, (h1_19, (h1_20, (h1_21, (h1_22, (h1_23, (h1_24, (h1_25, h1_26))))))))))))))))))
def L15 (w : (List Int)) (i at_ k h0_0 h0_1 h0_2 : Int) (h0_3 : Bool) (h0_4 h0_5 h0_6 h0_7 h0_8 h0_9 h0_10 h0_11 h0_12 h0_13 h0_14 h0_15 h0_16 h0_17 h0_18 h0_19 h0_20 h0_21 h0_22 h0_23 h0_24 h0_25 h0_26 h0_27 h0_28 h0_29 h0_30 h1_0 h1_1 h1_2 : Int) (h1_3 : Bool) (h1_4 h1_5 h1_6 h1_7 h1_8 h1_9 h1_10 h1_11 h1_12 h1_13 h1_14 h1_15 h1_16 h1_17 h1_18 h1_19 h1_20 h1_21 h1_22 h1_23 h1_24 h1_25 h1_26 h1_27 h1_28 h1_29 h1_30 : Int) : Option X15 := Lp (fun s => (l15 w i at_ h0_0 h0_1 h0_2 h0_3 h0_4 h0_5 h0_6 h0_7 h0_8 h0_9 h0_10 h0_11 h0_12 h0_13 h0_14 h0_15 h0_16 h0_17 h0_18 h0_19 h0_20 h0_21 h0_22 h0_23 h0_24 h0_25 h0_26 h0_27 h0_28 h0_29 h0_30 h1_0 h1_1 h1_2 h1_3 h1_4 h1_5 h1_6 h1_7 h1_16 h1_17 h1_18 h1_27 h1_28 h1_29 h1_30 s.1 s.2.1 s.2.2.1 s.2.2.2.1 (d4 s).1 (d4 s).2.1 (d4 s).2.2.1 (d4 s).2.2.2.1 (d8 s).1 (d8 s).2.1 (d8 s).2.2.1 (d8 s).2.2.2.1 (d12 s).1 (d12 s).2.1 (d12 s).2.2.1 (d12 s).2.2.2.1 (d16 s)).run) (k, (h1_8, (h1_9, (h1_10, (h1_11, (h1_12, (h1_13, (h1_14, (h1_15, (h1_19, (h1_20, (h1_21, (h1_22, (h1_23, (h1_24, (h1_25, h1_26))))))))))))))))
def p15 : Pt := (.cs (.sl 3) (.cs (.bots 1) (.cs (.ptr 0 0) (.cs (.bots 1) (.cs (.ptr 1 0) (jC (jC (jC (.cs (.bots 109) .nl)))))))))
def q15 : Pt := (.cs (.var (jC (jC (jC (.cs .bool (jC (jC (jC (jC (.cs (.int .u32) (.cs (.int .u32) (.cs (.int .u32) (.cs (.int .u32) (.cs (.int .u32) (.cs (.int .u32) (.cs (.int .u32) (.cs (.int .u32) (jC (jC (jC (.cs (.int .u32) (.cs (.int .u32) (.cs (.int .u32) (.cs (.int .u32) (.cs (.int .u32) (.cs (.int .u32) (.cs (.int .u32) (.cs (.int .u32) (jC (jC (jC (jC .nl)))))))))))))))))))))))))))))))) (.cs (.var (jC (jC (jC (.cs .bool (jC (jC (jC (jC (.cs (.int .u32) (.cs (.int .u32) (.cs (.int .u32) (.cs (.int .u32) (.cs (.int .u32) (.cs (.int .u32) (.cs (.int .u32) (.cs (.int .u32) (jC (jC (jC (.cs (.int .u32) (.cs (.int .u32) (.cs (.int .u32) (.cs (.int .u32) (.cs (.int .u32) (.cs (.int .u32) (.cs (.int .u32) (.cs (.int .u32) (jC (jC (jC (jC .nl)))))))))))))))))))))))))))))))) .nl))
def ou15 (l : T15) (y : X15) : Ex × St U := (.exit 2, stOf 117 [(0, .im (.slice 3 l.1.1)), (2, .ptr 0 0), (4, .ptr 1 0), (5, jI (d4 l.1).2.1)] [.var [jI l.2.1.1, jI l.2.1.2.1, jI l.2.1.2.2.1, jB l.2.1.2.2.2.1, jI (d4 l.2.1).1, jI (d4 l.2.1).2.1, jI (d4 l.2.1).2.2.1, jI (d4 l.2.1).2.2.2.1, .im (.int .u32 (d8 l.2.1).1), .im (.int .u32 (d8 l.2.1).2.1), .im (.int .u32 (d8 l.2.1).2.2.1), .im (.int .u32 (d8 l.2.1).2.2.2.1), .im (.int .u32 (d12 l.2.1).1), .im (.int .u32 (d12 l.2.1).2.1), .im (.int .u32 (d12 l.2.1).2.2.1), .im (.int .u32 (d12 l.2.1).2.2.2.1), jI (d16 l.2.1).1, jI (d16 l.2.1).2.1, jI (d16 l.2.1).2.2.1, .im (.int .u32 (d16 l.2.1).2.2.2.1), .im (.int .u32 (d20 l.2.1).1), .im (.int .u32 (d20 l.2.1).2.1), .im (.int .u32 (d20 l.2.1).2.2.1), .im (.int .u32 (d20 l.2.1).2.2.2.1), .im (.int .u32 (d24 l.2.1).1), .im (.int .u32 (d24 l.2.1).2.1), .im (.int .u32 (d24 l.2.1).2.2.1), jI (d24 l.2.1).2.2.2.1, jI (d28 l.2.1).1, jI (d28 l.2.1).2.1, jI (d28 l.2.1).2.2.1], .var [jI l.2.2.1.1, jI l.2.2.1.2.1, jI l.2.2.1.2.2.1, jB l.2.2.1.2.2.2.1, jI (d4 l.2.2.1).1, jI (d4 l.2.2.1).2.1, jI (d4 l.2.2.1).2.2.1, jI (d4 l.2.2.1).2.2.2.1, .im (.int .u32 y.1), .im (.int .u32 y.2.1), .im (.int .u32 y.2.2.1), .im (.int .u32 y.2.2.2.1), .im (.int .u32 (d4 y).1), .im (.int .u32 (d4 y).2.1), .im (.int .u32 (d4 y).2.2.1), .im (.int .u32 (d4 y).2.2.2.1), jI (d16 l.2.2.1).1, jI (d16 l.2.2.1).2.1, jI (d16 l.2.2.1).2.2.1, .im (.int .u32 (d8 y).1), .im (.int .u32 (d8 y).2.1), .im (.int .u32 (d8 y).2.2.1), .im (.int .u32 (d8 y).2.2.2.1), .im (.int .u32 (d12 y).1), .im (.int .u32 (d12 y).2.1), .im (.int .u32 (d12 y).2.2.1), .im (.int .u32 (d12 y).2.2.2), jI (d24 l.2.2.1).2.2.2.1, jI (d28 l.2.2.1).1, jI (d28 l.2.2.1).2.1, jI (d28 l.2.2.1).2.2.1]] 0)
def Λ15 : LFun U := mkLp p15 q15 0 (X := X15) (fun (l : T15) => L15 l.1.1 (d4 l.1).2.1 (d4 l.1).2.2.1 (d4 l.1).2.2.2.1 l.2.1.1 l.2.1.2.1 l.2.1.2.2.1 l.2.1.2.2.2.1 (d4 l.2.1).1 (d4 l.2.1).2.1 (d4 l.2.1).2.2.1 (d4 l.2.1).2.2.2.1 (d8 l.2.1).1 (d8 l.2.1).2.1 (d8 l.2.1).2.2.1 (d8 l.2.1).2.2.2.1 (d12 l.2.1).1 (d12 l.2.1).2.1 (d12 l.2.1).2.2.1 (d12 l.2.1).2.2.2.1 (d16 l.2.1).1 (d16 l.2.1).2.1 (d16 l.2.1).2.2.1 (d16 l.2.1).2.2.2.1 (d20 l.2.1).1 (d20 l.2.1).2.1 (d20 l.2.1).2.2.1 (d20 l.2.1).2.2.2.1 (d24 l.2.1).1 (d24 l.2.1).2.1 (d24 l.2.1).2.2.1 (d24 l.2.1).2.2.2.1 (d28 l.2.1).1 (d28 l.2.1).2.1 (d28 l.2.1).2.2.1 l.2.2.1.1 l.2.2.1.2.1 l.2.2.1.2.2.1 l.2.2.1.2.2.2.1 (d4 l.2.2.1).1 (d4 l.2.2.1).2.1 (d4 l.2.2.1).2.2.1 (d4 l.2.2.1).2.2.2.1 (d8 l.2.2.1).1 (d8 l.2.2.1).2.1 (d8 l.2.2.1).2.2.1 (d8 l.2.2.1).2.2.2.1 (d12 l.2.2.1).1 (d12 l.2.2.1).2.1 (d12 l.2.2.1).2.2.1 (d12 l.2.2.1).2.2.2.1 (d16 l.2.2.1).1 (d16 l.2.2.1).2.1 (d16 l.2.2.1).2.2.1 (d16 l.2.2.1).2.2.2.1 (d20 l.2.2.1).1 (d20 l.2.2.1).2.1 (d20 l.2.2.1).2.2.1 (d20 l.2.2.1).2.2.2.1 (d24 l.2.2.1).1 (d24 l.2.2.1).2.1 (d24 l.2.2.1).2.2.1 (d24 l.2.2.1).2.2.2.1 (d28 l.2.2.1).1 (d28 l.2.2.1).2.1 (d28 l.2.2.1).2.2.1) sp1 ou15
def hd15 (l : T15) (s : S15) : T15 := ((l.1.1, ((), ((), ((), ((), ((d4 l.1).2.1, ((d4 l.1).2.2.1, (s.1, ((), ()))))))))), ((l.2.1.1, (l.2.1.2.1, (l.2.1.2.2.1, (l.2.1.2.2.2.1, ((d4 l.2.1).1, ((d4 l.2.1).2.1, ((d4 l.2.1).2.2.1, ((d4 l.2.1).2.2.2.1, ((d8 l.2.1).1, ((d8 l.2.1).2.1, ((d8 l.2.1).2.2.1, ((d8 l.2.1).2.2.2.1, ((d12 l.2.1).1, ((d12 l.2.1).2.1, ((d12 l.2.1).2.2.1, ((d12 l.2.1).2.2.2.1, ((d16 l.2.1).1, ((d16 l.2.1).2.1, ((d16 l.2.1).2.2.1, ((d16 l.2.1).2.2.2.1, ((d20 l.2.1).1, ((d20 l.2.1).2.1, ((d20 l.2.1).2.2.1, ((d20 l.2.1).2.2.2.1, ((d24 l.2.1).1, ((d24 l.2.1).2.1, ((d24 l.2.1).2.2.1, ((d24 l.2.1).2.2.2.1, ((d28 l.2.1).1, ((d28 l.2.1).2.1, ((d28 l.2.1).2.2.1, ()))))))))))))))))))))))))))))))), ((l.2.2.1.1, (l.2.2.1.2.1, (l.2.2.1.2.2.1, (l.2.2.1.2.2.2.1, ((d4 l.2.2.1).1, ((d4 l.2.2.1).2.1, ((d4 l.2.2.1).2.2.1, ((d4 l.2.2.1).2.2.2.1, (s.2.1, (s.2.2.1, (s.2.2.2.1, ((d4 s).1, ((d4 s).2.1, ((d4 s).2.2.1, ((d4 s).2.2.2.1, ((d8 s).1, ((d16 l.2.2.1).1, ((d16 l.2.2.1).2.1, ((d16 l.2.2.1).2.2.1, ((d8 s).2.1, ((d8 s).2.2.1, ((d8 s).2.2.2.1, ((d12 s).1, ((d12 s).2.1, ((d12 s).2.2.1, ((d12 s).2.2.2.1, ((d16 s), ((d24 l.2.2.1).2.2.2.1, ((d28 l.2.2.1).1, ((d28 l.2.2.1).2.1, ((d28 l.2.2.1).2.2.1, ()))))))))))))))))))))))))))))))), ())))
def fl15 (l : T15) (s : S15) : Tw (S15 ⊕ X15) := l15 l.1.1 (d4 l.1).2.1 (d4 l.1).2.2.1 l.2.1.1 l.2.1.2.1 l.2.1.2.2.1 l.2.1.2.2.2.1 (d4 l.2.1).1 (d4 l.2.1).2.1 (d4 l.2.1).2.2.1 (d4 l.2.1).2.2.2.1 (d8 l.2.1).1 (d8 l.2.1).2.1 (d8 l.2.1).2.2.1 (d8 l.2.1).2.2.2.1 (d12 l.2.1).1 (d12 l.2.1).2.1 (d12 l.2.1).2.2.1 (d12 l.2.1).2.2.2.1 (d16 l.2.1).1 (d16 l.2.1).2.1 (d16 l.2.1).2.2.1 (d16 l.2.1).2.2.2.1 (d20 l.2.1).1 (d20 l.2.1).2.1 (d20 l.2.1).2.2.1 (d20 l.2.1).2.2.2.1 (d24 l.2.1).1 (d24 l.2.1).2.1 (d24 l.2.1).2.2.1 (d24 l.2.1).2.2.2.1 (d28 l.2.1).1 (d28 l.2.1).2.1 (d28 l.2.1).2.2.1 l.2.2.1.1 l.2.2.1.2.1 l.2.2.1.2.2.1 l.2.2.1.2.2.2.1 (d4 l.2.2.1).1 (d4 l.2.2.1).2.1 (d4 l.2.2.1).2.2.1 (d4 l.2.2.1).2.2.2.1 (d16 l.2.2.1).1 (d16 l.2.2.1).2.1 (d16 l.2.2.1).2.2.1 (d24 l.2.2.1).2.2.2.1 (d28 l.2.2.1).1 (d28 l.2.2.1).2.1 (d28 l.2.2.1).2.2.1 s.1 s.2.1 s.2.2.1 s.2.2.2.1 (d4 s).1 (d4 s).2.1 (d4 s).2.2.1 (d4 s).2.2.2.1 (d8 s).1 (d8 s).2.1 (d8 s).2.2.1 (d8 s).2.2.2.1 (d12 s).1 (d12 s).2.1 (d12 s).2.2.1 (d12 s).2.2.2.1 (d16 s)
abbrev T10 : Type := (((List Int) × (Unit × (Unit × (Unit × (Unit × (Int × (Unit × Unit))))))) × ((Int × (Int × (Int × (Bool × (Int × (Int × (Int × (Int × (Int × (Int × (Int × (Int × (Int × (Int × (Int × (Int × (Int × (Int × (Int × (Int × (Int × (Int × (Int × (Int × (Int × (Int × (Int × (Int × (Int × (Int × (Int × Unit))))))))))))))))))))))))))))))) × ((Int × (Int × (Int × (Bool × (Int × (Int × (Int × (Int × (Int × (Int × (Int × (Int × (Int × (Int × (Int × (Int × (Int × (Int × (Int × (Int × (Int × (Int × (Int × (Int × (Int × (Int × (Int × (Int × (Int × (Int × (Int × Unit))))))))))))))))))))))))))))))) × Unit)))
abbrev S10 : Type := (Int × (Int × (Int × (Int × (Int × (Int × (Int × (Int × (Int × (Int × (Int × (Int × (Int × (Int × (Int × (Int × (Int × (Int × (Int × (Int × (Int × (Int × Int))))))))))))))))))))))
abbrev X10 : Type := (Int × (Int × (Int × (Int × (Int × (Int × (Int × (Int × (Int × (Int × (Int × (Int × (Int × (Int × (Int × (Int × (Int × (Int × (Int × (Int × (Int × Int)))))))))))))))))))))
def l10 (w : (List Int)) (h0_0 h0_1 h0_2 : Int) (h0_3 : Bool) (h0_4 h0_5 h0_6 h0_7 h0_8 h0_9 h0_10 h0_11 h0_12 h0_13 h0_14 h0_15 h0_16 h0_17 h0_18 h0_19 h0_20 h0_21 h0_22 h0_23 h0_24 h0_25 h0_26 h0_27 h0_28 h0_29 h0_30 h1_0 h1_1 h1_2 : Int) (h1_3 : Bool) (h1_4 h1_27 h1_28 h1_29 h1_30 i h1_5 h1_6 h1_7 h1_8 h1_9 h1_10 h1_11 h1_12 h1_13 h1_14 h1_15 h1_16 h1_17 h1_18 h1_19 h1_20 h1_21 h1_22 h1_23 h1_24 h1_25 h1_26 : Int) : Tw (S10 ⊕ X10) :=
 (.bb (decide (i < (2 : Int)))
 (.dd (((0 : Int) ≤ (w64 ((6 : Int) + (w64 ((10 : Int) * i)))))) inferInstance
 (.opt (w)[(Int.toNat (w64 ((6 : Int) + (w64 ((10 : Int) * i)))))]? fun z11 =>
 (.dd (((0 : Int) ≤ (w64 ((6 : Int) + (w64 ((10 : Int) * i)))))) inferInstance
 (.opt (w)[(Int.toNat (w64 ((6 : Int) + (w64 ((10 : Int) * i)))))]? fun z12 =>
 (.dd (((0 : Int) ≤ (w64 ((w64 ((6 : Int) + (w64 ((10 : Int) * i)))) + (1 : Int))))) inferInstance
 (.opt (w)[(Int.toNat (w64 ((w64 ((6 : Int) + (w64 ((10 : Int) * i)))) + (1 : Int))))]? fun z13 =>
 (.dd ((i = (((1 : Nat) : Nat) : Int))) inferInstance
 (.opt (L15 w i (w64 ((6 : Int) + (w64 ((10 : Int) * i)))) (0 : Int) h0_0 h0_1 h0_2 h0_3 h0_4 h0_5 h0_6 h0_7 h0_8 h0_9 h0_10 h0_11 h0_12 h0_13 h0_14 h0_15 h0_16 h0_17 h0_18 h0_19 h0_20 h0_21 h0_22 h0_23 h0_24 h0_25 h0_26 h0_27 h0_28 h0_29 h0_30 h1_0 h1_1 h1_2 h1_3 h1_4 h1_5 h1_6 h1_7 h1_8 h1_9 h1_10 h1_11 h1_12 h1_13 h1_14 h1_15 (w64 (Int.tmod z11 (65536 : Int))) (w64 (w32 (Int.tdiv z12 (65536 : Int)))) (w64 z13) (0 : Int) (0 : Int) (0 : Int) (0 : Int) (0 : Int) (0 : Int) (0 : Int) (0 : Int) h1_27 h1_28 h1_29 h1_30) fun z16 =>
 (.ret (.inl ((w64 (i + (1 : Int))), (h1_5, (h1_6, (h1_7, (z16.1, (z16.2.1, (z16.2.2.1, (z16.2.2.2.1, ((d4 z16).1, ((d4 z16).2.1, ((d4 z16).2.2.1, ((d4 z16).2.2.2.1, ((w64 (Int.tmod z11 (65536 : Int))), ((w64 (w32 (Int.tdiv z12 (65536 : Int)))), ((w64 z13), ((d8 z16).1, ((d8 z16).2.1, ((d8 z16).2.2.1, ((d8 z16).2.2.2.1, ((d12 z16).1, ((d12 z16).2.1, ((d12 z16).2.2.1, (d12 z16).2.2.2)))))))))))))))))))))))))
 (.dd ((i = (((0 : Nat) : Nat) : Int))) inferInstance
 (.opt (L15 w i (w64 ((6 : Int) + (w64 ((10 : Int) * i)))) (0 : Int) h0_0 h0_1 h0_2 h0_3 h0_4 h0_5 h0_6 h0_7 h0_8 h0_9 h0_10 h0_11 h0_12 h0_13 h0_14 h0_15 h0_16 h0_17 h0_18 h0_19 h0_20 h0_21 h0_22 h0_23 h0_24 h0_25 h0_26 h0_27 h0_28 h0_29 h0_30 h1_0 h1_1 h1_2 h1_3 h1_4 (w64 (Int.tmod z11 (65536 : Int))) (w64 (w32 (Int.tdiv z12 (65536 : Int)))) (w64 z13) (0 : Int) (0 : Int) (0 : Int) (0 : Int) (0 : Int) (0 : Int) (0 : Int) (0 : Int) h1_16 h1_17 h1_18 h1_19 h1_20 h1_21 h1_22 h1_23 h1_24 h1_25 h1_26 h1_27 h1_28 h1_29 h1_30) fun z15 =>
 (.ret (.inl ((w64 (i + (1 : Int))), ((w64 (Int.tmod z11 (65536 : Int))), ((w64 (w32 (Int.tdiv z12 (65536 : Int)))), ((w64 z13), (z15.1, (z15.2.1, (z15.2.2.1, (z15.2.2.2.1, ((d4 z15).1, ((d4 z15).2.1, ((d4 z15).2.2.1, ((d4 z15).2.2.2.1, (h1_16, (h1_17, (h1_18, ((d8 z15).1, ((d8 z15).2.1, ((d8 z15).2.2.1, ((d8 z15).2.2.2.1, ((d12 z15).1, ((d12 z15).2.1, ((d12 z15).2.2.1, (d12 z15).2.2.2)))))))))))))))))))))))))
 .no)))
 .no))
 .no))
 .no)
 (.ret (.inr (h1_5, (h1_6, (h1_7, (h1_8, (h1_9, (h1_10, (h1_11, (h1_12, (h1_13, (h1_14, (h1_15, (h1_16, (h1_17, (h1_18, (h1_19, (h1_20, (h1_21, (h1_22, (h1_23, (h1_24, (h1_25, h1_26))))))))))))))))))))))))
def L10 (w : (List Int)) (i h0_0 h0_1 h0_2 : Int) (h0_3 : Bool) (h0_4 h0_5 h0_6 h0_7 h0_8 h0_9 h0_10 h0_11 h0_12 h0_13 h0_14 h0_15 h0_16 h0_17 h0_18 h0_19 h0_20 h0_21 h0_22 h0_23 h0_24 h0_25 h0_26 h0_27 h0_28 h0_29 h0_30 h1_0 h1_1 h1_2 : Int) (h1_3 : Bool) (h1_4 h1_5 h1_6 h1_7 h1_8 h1_9 h1_10 h1_11 h1_12 h1_13 h1_14 h1_15 h1_16 h1_17 h1_18 h1_19 h1_20 h1_21 h1_22 h1_23 h1_24 h1_25 h1_26 h1_27 h1_28 h1_29 h1_30 : Int) : Option X10 := Lp (fun s => (l10 w h0_0 h0_1 h0_2 h0_3 h0_4 h0_5 h0_6 h0_7 h0_8 h0_9 h0_10 h0_11 h0_12 h0_13 h0_14 h0_15 h0_16 h0_17 h0_18 h0_19 h0_20 h0_21 h0_22 h0_23 h0_24 h0_25 h0_26 h0_27 h0_28 h0_29 h0_30 h1_0 h1_1 h1_2 h1_3 h1_4 h1_27 h1_28 h1_29 h1_30 s.1 s.2.1 s.2.2.1 s.2.2.2.1 (d4 s).1 (d4 s).2.1 (d4 s).2.2.1 (d4 s).2.2.2.1 (d8 s).1 (d8 s).2.1 (d8 s).2.2.1 (d8 s).2.2.2.1 (d12 s).1 (d12 s).2.1 (d12 s).2.2.1 (d12 s).2.2.2.1 (d16 s).1 (d16 s).2.1 (d16 s).2.2.1 (d16 s).2.2.2.1 (d20 s).1 (d20 s).2.1 (d20 s).2.2).run) (i, (h1_5, (h1_6, (h1_7, (h1_8, (h1_9, (h1_10, (h1_11, (h1_12, (h1_13, (h1_14, (h1_15, (h1_16, (h1_17, (h1_18, (h1_19, (h1_20, (h1_21, (h1_22, (h1_23, (h1_24, (h1_25, h1_26))))))))))))))))))))))
def p10 : Pt := (.cs (.sl 3) (.cs (.bots 1) (.cs (.ptr 0 0) (.cs (.bots 1) (.cs (.ptr 1 0) (jC (.cs (.bots 111) .nl)))))))
def q10 : Pt := (.cs (.var (jC (jC (jC (.cs .bool (jC (jC (jC (jC (.cs (.int .u32) (.cs (.int .u32) (.cs (.int .u32) (.cs (.int .u32) (.cs (.int .u32) (.cs (.int .u32) (.cs (.int .u32) (.cs (.int .u32) (jC (jC (jC (.cs (.int .u32) (.cs (.int .u32) (.cs (.int .u32) (.cs (.int .u32) (.cs (.int .u32) (.cs (.int .u32) (.cs (.int .u32) (.cs (.int .u32) (jC (jC (jC (jC .nl)))))))))))))))))))))))))))))))) (.cs (.var (jC (jC (jC (.cs .bool (jC (jC (jC (jC (.cs (.int .u32) (.cs (.int .u32) (.cs (.int .u32) (.cs (.int .u32) (.cs (.int .u32) (.cs (.int .u32) (.cs (.int .u32) (.cs (.int .u32) (jC (jC (jC (.cs (.int .u32) (.cs (.int .u32) (.cs (.int .u32) (.cs (.int .u32) (.cs (.int .u32) (.cs (.int .u32) (.cs (.int .u32) (.cs (.int .u32) (jC (jC (jC (jC .nl)))))))))))))))))))))))))))))))) .nl))
def ou10 (l : T10) (y : X10) : Ex × St U := (.exit 0, stOf 117 [(2, .ptr 0 0), (4, .ptr 1 0)] [.var [jI l.2.1.1, jI l.2.1.2.1, jI l.2.1.2.2.1, jB l.2.1.2.2.2.1, jI (d4 l.2.1).1, jI (d4 l.2.1).2.1, jI (d4 l.2.1).2.2.1, jI (d4 l.2.1).2.2.2.1, .im (.int .u32 (d8 l.2.1).1), .im (.int .u32 (d8 l.2.1).2.1), .im (.int .u32 (d8 l.2.1).2.2.1), .im (.int .u32 (d8 l.2.1).2.2.2.1), .im (.int .u32 (d12 l.2.1).1), .im (.int .u32 (d12 l.2.1).2.1), .im (.int .u32 (d12 l.2.1).2.2.1), .im (.int .u32 (d12 l.2.1).2.2.2.1), jI (d16 l.2.1).1, jI (d16 l.2.1).2.1, jI (d16 l.2.1).2.2.1, .im (.int .u32 (d16 l.2.1).2.2.2.1), .im (.int .u32 (d20 l.2.1).1), .im (.int .u32 (d20 l.2.1).2.1), .im (.int .u32 (d20 l.2.1).2.2.1), .im (.int .u32 (d20 l.2.1).2.2.2.1), .im (.int .u32 (d24 l.2.1).1), .im (.int .u32 (d24 l.2.1).2.1), .im (.int .u32 (d24 l.2.1).2.2.1), jI (d24 l.2.1).2.2.2.1, jI (d28 l.2.1).1, jI (d28 l.2.1).2.1, jI (d28 l.2.1).2.2.1], .var [jI l.2.2.1.1, jI l.2.2.1.2.1, jI l.2.2.1.2.2.1, jB l.2.2.1.2.2.2.1, jI (d4 l.2.2.1).1, jI y.1, jI y.2.1, jI y.2.2.1, .im (.int .u32 y.2.2.2.1), .im (.int .u32 (d4 y).1), .im (.int .u32 (d4 y).2.1), .im (.int .u32 (d4 y).2.2.1), .im (.int .u32 (d4 y).2.2.2.1), .im (.int .u32 (d8 y).1), .im (.int .u32 (d8 y).2.1), .im (.int .u32 (d8 y).2.2.1), jI (d8 y).2.2.2.1, jI (d12 y).1, jI (d12 y).2.1, .im (.int .u32 (d12 y).2.2.1), .im (.int .u32 (d12 y).2.2.2.1), .im (.int .u32 (d16 y).1), .im (.int .u32 (d16 y).2.1), .im (.int .u32 (d16 y).2.2.1), .im (.int .u32 (d16 y).2.2.2.1), .im (.int .u32 (d20 y).1), .im (.int .u32 (d20 y).2), jI (d24 l.2.2.1).2.2.2.1, jI (d28 l.2.2.1).1, jI (d28 l.2.2.1).2.1, jI (d28 l.2.2.1).2.2.1]] 0)
def Λ10 : LFun U := mkLp p10 q10 0 (X := X10) (fun (l : T10) => L10 l.1.1 (d4 l.1).2.1 l.2.1.1 l.2.1.2.1 l.2.1.2.2.1 l.2.1.2.2.2.1 (d4 l.2.1).1 (d4 l.2.1).2.1 (d4 l.2.1).2.2.1 (d4 l.2.1).2.2.2.1 (d8 l.2.1).1 (d8 l.2.1).2.1 (d8 l.2.1).2.2.1 (d8 l.2.1).2.2.2.1 (d12 l.2.1).1 (d12 l.2.1).2.1 (d12 l.2.1).2.2.1 (d12 l.2.1).2.2.2.1 (d16 l.2.1).1 (d16 l.2.1).2.1 (d16 l.2.1).2.2.1 (d16 l.2.1).2.2.2.1 (d20 l.2.1).1 (d20 l.2.1).2.1 (d20 l.2.1).2.2.1 (d20 l.2.1).2.2.2.1 (d24 l.2.1).1 (d24 l.2.1).2.1 (d24 l.2.1).2.2.1 (d24 l.2.1).2.2.2.1 (d28 l.2.1).1 (d28 l.2.1).2.1 (d28 l.2.1).2.2.1 l.2.2.1.1 l.2.2.1.2.1 l.2.2.1.2.2.1 l.2.2.1.2.2.2.1 (d4 l.2.2.1).1 (d4 l.2.2.1).2.1 (d4 l.2.2.1).2.2.1 (d4 l.2.2.1).2.2.2.1 (d8 l.2.2.1).1 (d8 l.2.2.1).2.1 (d8 l.2.2.1).2.2.1 (d8 l.2.2.1).2.2.2.1 (d12 l.2.2.1).1 (d12 l.2.2.1).2.1 (d12 l.2.2.1).2.2.1 (d12 l.2.2.1).2.2.2.1 (d16 l.2.2.1).1 (d16 l.2.2.1).2.1 (d16 l.2.2.1).2.2.1 (d16 l.2.2.1).2.2.2.1 (d20 l.2.2.1).1 (d20 l.2.2.1).2.1 (d20 l.2.2.1).2.2.1 (d20 l.2.2.1).2.2.2.1 (d24 l.2.2.1).1 (d24 l.2.2.1).2.1 (d24 l.2.2.1).2.2.1 (d24 l.2.2.1).2.2.2.1 (d28 l.2.2.1).1 (d28 l.2.2.1).2.1 (d28 l.2.2.1).2.2.1) sp1 ou10
def hd10 (l : T10) (s : S10) : T10 := ((l.1.1, ((), ((), ((), ((), (s.1, ((), ()))))))), ((l.2.1.1, (l.2.1.2.1, (l.2.1.2.2.1, (l.2.1.2.2.2.1, ((d4 l.2.1).1, ((d4 l.2.1).2.1, ((d4 l.2.1).2.2.1, ((d4 l.2.1).2.2.2.1, ((d8 l.2.1).1, ((d8 l.2.1).2.1, ((d8 l.2.1).2.2.1, ((d8 l.2.1).2.2.2.1, ((d12 l.2.1).1, ((d12 l.2.1).2.1, ((d12 l.2.1).2.2.1, ((d12 l.2.1).2.2.2.1, ((d16 l.2.1).1, ((d16 l.2.1).2.1, ((d16 l.2.1).2.2.1, ((d16 l.2.1).2.2.2.1, ((d20 l.2.1).1, ((d20 l.2.1).2.1, ((d20 l.2.1).2.2.1, ((d20 l.2.1).2.2.2.1, ((d24 l.2.1).1, ((d24 l.2.1).2.1, ((d24 l.2.1).2.2.1, ((d24 l.2.1).2.2.2.1, ((d28 l.2.1).1, ((d28 l.2.1).2.1, ((d28 l.2.1).2.2.1, ()))))))))))))))))))))))))))))))), ((l.2.2.1.1, (l.2.2.1.2.1, (l.2.2.1.2.2.1, (l.2.2.1.2.2.2.1, ((d4 l.2.2.1).1, (s.2.1, (s.2.2.1, (s.2.2.2.1, ((d4 s).1, ((d4 s).2.1, ((d4 s).2.2.1, ((d4 s).2.2.2.1, ((d8 s).1, ((d8 s).2.1, ((d8 s).2.2.1, ((d8 s).2.2.2.1, ((d12 s).1, ((d12 s).2.1, ((d12 s).2.2.1, ((d12 s).2.2.2.1, ((d16 s).1, ((d16 s).2.1, ((d16 s).2.2.1, ((d16 s).2.2.2.1, ((d20 s).1, ((d20 s).2.1, ((d20 s).2.2, ((d24 l.2.2.1).2.2.2.1, ((d28 l.2.2.1).1, ((d28 l.2.2.1).2.1, ((d28 l.2.2.1).2.2.1, ()))))))))))))))))))))))))))))))), ())))
def fl10 (l : T10) (s : S10) : Tw (S10 ⊕ X10) := l10 l.1.1 l.2.1.1 l.2.1.2.1 l.2.1.2.2.1 l.2.1.2.2.2.1 (d4 l.2.1).1 (d4 l.2.1).2.1 (d4 l.2.1).2.2.1 (d4 l.2.1).2.2.2.1 (d8 l.2.1).1 (d8 l.2.1).2.1 (d8 l.2.1).2.2.1 (d8 l.2.1).2.2.2.1 (d12 l.2.1).1 (d12 l.2.1).2.1 (d12 l.2.1).2.2.1 (d12 l.2.1).2.2.2.1 (d16 l.2.1).1 (d16 l.2.1).2.1 (d16 l.2.1).2.2.1 (d16 l.2.1).2.2.2.1 (d20 l.2.1).1 (d20 l.2.1).2.1 (d20 l.2.1).2.2.1 (d20 l.2.1).2.2.2.1 (d24 l.2.1).1 (d24 l.2.1).2.1 (d24 l.2.1).2.2.1 (d24 l.2.1).2.2.2.1 (d28 l.2.1).1 (d28 l.2.1).2.1 (d28 l.2.1).2.2.1 l.2.2.1.1 l.2.2.1.2.1 l.2.2.1.2.2.1 l.2.2.1.2.2.2.1 (d4 l.2.2.1).1 (d24 l.2.2.1).2.2.2.1 (d28 l.2.2.1).1 (d28 l.2.2.1).2.1 (d28 l.2.2.1).2.2.1 s.1 s.2.1 s.2.2.1 s.2.2.2.1 (d4 s).1 (d4 s).2.1 (d4 s).2.2.1 (d4 s).2.2.2.1 (d8 s).1 (d8 s).2.1 (d8 s).2.2.1 (d8 s).2.2.2.1 (d12 s).1 (d12 s).2.1 (d12 s).2.2.1 (d12 s).2.2.2.1 (d16 s).1 (d16 s).2.1 (d16 s).2.2.1 (d16 s).2.2.2.1 (d20 s).1 (d20 s).2.1 (d20 s).2.2
def t (w : (List Int)) : Tw XA :=
 (.bb ((((List.length w) : Nat) : Int) != (26 : Int))
 (.ret ((0 : Int), ((0 : Int), ((0 : Int), (false, ((0 : Int), ((0 : Int), ((0 : Int), ((0 : Int), ((0 : Int), ((0 : Int), ((0 : Int), ((0 : Int), ((0 : Int), ((0 : Int), ((0 : Int), ((0 : Int), ((0 : Int), ((0 : Int), ((0 : Int), ((0 : Int), ((0 : Int), ((0 : Int), ((0 : Int), ((0 : Int), ((0 : Int), ((0 : Int), ((0 : Int), ((0 : Int), ((0 : Int), ((0 : Int), ((0 : Int), (4 : Int)))))))))))))))))))))))))))))))))
 (.opt (w)[(Int.toNat (0 : Int))]? fun z1 =>
 (.bb (decide (z1 ≥ (33554432 : Int)))
 (.ret ((0 : Int), ((0 : Int), ((0 : Int), (false, ((0 : Int), ((0 : Int), ((0 : Int), ((0 : Int), ((0 : Int), ((0 : Int), ((0 : Int), ((0 : Int), ((0 : Int), ((0 : Int), ((0 : Int), ((0 : Int), ((0 : Int), ((0 : Int), ((0 : Int), ((0 : Int), ((0 : Int), ((0 : Int), ((0 : Int), ((0 : Int), ((0 : Int), ((0 : Int), ((0 : Int), ((0 : Int), ((0 : Int), ((0 : Int), ((0 : Int), (4 : Int)))))))))))))))))))))))))))))))))
 (.opt (w)[(Int.toNat (0 : Int))]? fun z2 =>
 (.opt (w)[(Int.toNat (0 : Int))]? fun z3 =>
 (.opt (w)[(Int.toNat (0 : Int))]? fun z4 =>
 (.opt (w)[(Int.toNat (0 : Int))]? fun z5 =>
 (.opt (w)[(Int.toNat (1 : Int))]? fun z6 =>
 (.opt (w)[(Int.toNat (2 : Int))]? fun z7 =>
 (.opt (w)[(Int.toNat (3 : Int))]? fun z8 =>
 (.opt (w)[(Int.toNat (4 : Int))]? fun z9 =>
 (.opt (w)[(Int.toNat (5 : Int))]? fun z10 =>
 (.opt (L10 w (0 : Int) (0 : Int) (0 : Int) (0 : Int) false (0 : Int) (0 : Int) (0 : Int) (0 : Int) (0 : Int) (0 : Int) (0 : Int) (0 : Int) (0 : Int) (0 : Int) (0 : Int) (0 : Int) (0 : Int) (0 : Int) (0 : Int) (0 : Int) (0 : Int) (0 : Int) (0 : Int) (0 : Int) (0 : Int) (0 : Int) (0 : Int) (0 : Int) (0 : Int) (0 : Int) (0 : Int) (w64 (Int.tmod z2 (256 : Int))) (w64 (Int.tmod (w32 (Int.tdiv z3 (256 : Int))) (256 : Int))) (w64 (Int.tmod (w32 (Int.tdiv z4 (65536 : Int))) (256 : Int))) (decide (z5 ≥ (16777216 : Int))) (w64 z6) (0 : Int) (0 : Int) (0 : Int) (0 : Int) (0 : Int) (0 : Int) (0 : Int) (0 : Int) (0 : Int) (0 : Int) (0 : Int) (0 : Int) (0 : Int) (0 : Int) (0 : Int) (0 : Int) (0 : Int) (0 : Int) (0 : Int) (0 : Int) (0 : Int) (0 : Int) (w64 z7) (w64 z8) (w64 ((w64 z9) - (1 : Int))) (w64 z10)) fun z17 =>
 (.opt (ref34_Right.c (w64 (Int.tmod z2 (256 : Int))) (w64 (Int.tmod (w32 (Int.tdiv z3 (256 : Int))) (256 : Int))) (w64 (Int.tmod (w32 (Int.tdiv z4 (65536 : Int))) (256 : Int))) (decide (z5 ≥ (16777216 : Int))) (w64 z6) z17.1 z17.2.1 z17.2.2.1 z17.2.2.2.1 (d4 z17).1 (d4 z17).2.1 (d4 z17).2.2.1 (d4 z17).2.2.2.1 (d8 z17).1 (d8 z17).2.1 (d8 z17).2.2.1 (d8 z17).2.2.2.1 (d12 z17).1 (d12 z17).2.1 (d12 z17).2.2.1 (d12 z17).2.2.2.1 (d16 z17).1 (d16 z17).2.1 (d16 z17).2.2.1 (d16 z17).2.2.2.1 (d20 z17).1 (d20 z17).2 (w64 z7) (w64 z8) (w64 ((w64 z9) - (1 : Int))) (w64 z10)) fun z18 =>
 (.bb (!z18)
 (.ret ((0 : Int), ((0 : Int), ((0 : Int), (false, ((0 : Int), ((0 : Int), ((0 : Int), ((0 : Int), ((0 : Int), ((0 : Int), ((0 : Int), ((0 : Int), ((0 : Int), ((0 : Int), ((0 : Int), ((0 : Int), ((0 : Int), ((0 : Int), ((0 : Int), ((0 : Int), ((0 : Int), ((0 : Int), ((0 : Int), ((0 : Int), ((0 : Int), ((0 : Int), ((0 : Int), ((0 : Int), ((0 : Int), ((0 : Int), ((0 : Int), (4 : Int)))))))))))))))))))))))))))))))))
 (.ret ((w64 (Int.tmod z2 (256 : Int))), ((w64 (Int.tmod (w32 (Int.tdiv z3 (256 : Int))) (256 : Int))), ((w64 (Int.tmod (w32 (Int.tdiv z4 (65536 : Int))) (256 : Int))), ((decide (z5 ≥ (16777216 : Int))), ((w64 z6), (z17.1, (z17.2.1, (z17.2.2.1, (z17.2.2.2.1, ((d4 z17).1, ((d4 z17).2.1, ((d4 z17).2.2.1, ((d4 z17).2.2.2.1, ((d8 z17).1, ((d8 z17).2.1, ((d8 z17).2.2.1, ((d8 z17).2.2.2.1, ((d12 z17).1, ((d12 z17).2.1, ((d12 z17).2.2.1, ((d12 z17).2.2.2.1, ((d16 z17).1, ((d16 z17).2.1, ((d16 z17).2.2.1, ((d16 z17).2.2.2.1, ((d20 z17).1, ((d20 z17).2, ((w64 z7), ((w64 z8), ((w64 ((w64 z9) - (1 : Int))), ((w64 z10), (0 : Int))))))))))))))))))))))))))))))))))))))))))))))))
def c (w : (List Int)) : Option XA := (t w).run
def tl (l : TA) : Tw XA := t l.1.1
def pA : Pt := (.cs (.sl 3) .nl)
def pH : Pt := .nl
def v (l : TA) (y : XA) : AV U := .tup [.agg [jI y.1, jI y.2.1, jI y.2.2.1, jB y.2.2.2.1, jI (d4 y).1, jI (d4 y).2.1, jI (d4 y).2.2.1, jI (d4 y).2.2.2.1, .im (.int .u32 (d8 y).1), .im (.int .u32 (d8 y).2.1), .im (.int .u32 (d8 y).2.2.1), .im (.int .u32 (d8 y).2.2.2.1), .im (.int .u32 (d12 y).1), .im (.int .u32 (d12 y).2.1), .im (.int .u32 (d12 y).2.2.1), .im (.int .u32 (d12 y).2.2.2.1), jI (d16 y).1, jI (d16 y).2.1, jI (d16 y).2.2.1, .im (.int .u32 (d16 y).2.2.2.1), .im (.int .u32 (d20 y).1), .im (.int .u32 (d20 y).2.1), .im (.int .u32 (d20 y).2.2.1), .im (.int .u32 (d20 y).2.2.2.1), .im (.int .u32 (d24 y).1), .im (.int .u32 (d24 y).2.1), .im (.int .u32 (d24 y).2.2.1), jI (d24 y).2.2.2.1, jI (d28 y).1, jI (d28 y).2.1, jI (d28 y).2.2.1], jI (d28 y).2.2.2]
def hh (l : TA) (y : XA) : Hp U := []
def A : AFun U := mkA pA pH (X := XA) (fun l => (tl l).run) sp1 v hh
def body := bodyOf Try.f55
def E : Env U := E0.mk5 [(21, ref34_Right.A)] [(15, Λ15), (10, Λ10)] [] [(10, ⟨[4, 0, 5, 2], []⟩, ⟨[2, 3, 4], []⟩), (15, ⟨[7, 4, 6, 0, 5, 2], []⟩, ⟨[2, 3, 4, 0, 5], []⟩)] []
theorem hf15 : HF E (pick (loopsOf body) 15) p15 q15 0 fl15 hd15 sp1 ou15 := fun _ _ _ _ => by kernel_rfl
theorem lk15 : LK E (pick (loopsOf body) 15) Λ15 := fun R st K r h =>
  lp_ok (E := E) (b := pick (loopsOf body) 15) (m := 0) (sp := sp1) (p := p15) (q := q15) (X := X15) (S := S15) (f := fl15) (hd := hd15) (s0 := fun (l : T15) => ((d4 l.1).2.2.2.1, ((d8 l.2.2.1).1, ((d8 l.2.2.1).2.1, ((d8 l.2.2.1).2.2.1, ((d8 l.2.2.1).2.2.2.1, ((d12 l.2.2.1).1, ((d12 l.2.2.1).2.1, ((d12 l.2.2.1).2.2.1, ((d12 l.2.2.1).2.2.2.1, ((d16 l.2.2.1).2.2.2.1, ((d20 l.2.2.1).1, ((d20 l.2.2.1).2.1, ((d20 l.2.2.1).2.2.1, ((d20 l.2.2.1).2.2.2.1, ((d24 l.2.2.1).1, ((d24 l.2.2.1).2.1, (d24 l.2.2.1).2.2.1))))))))))))))))) (ou := ou15)
    (fun l => rfl) (fun l x => by rfl) sp1_ok hf15 h
theorem hf10 : HF E (pick (loopsOf body) 10) p10 q10 0 fl10 hd10 sp1 ou10 := fun _ _ _ _ => by kernel_rfl
theorem lk10 : LK E (pick (loopsOf body) 10) Λ10 := fun R st K r h =>
  lp_ok (E := E) (b := pick (loopsOf body) 10) (m := 0) (sp := sp1) (p := p10) (q := q10) (X := X10) (S := S10) (f := fl10) (hd := hd10) (s0 := fun (l : T10) => ((d4 l.1).2.1, ((d4 l.2.2.1).2.1, ((d4 l.2.2.1).2.2.1, ((d4 l.2.2.1).2.2.2.1, ((d8 l.2.2.1).1, ((d8 l.2.2.1).2.1, ((d8 l.2.2.1).2.2.1, ((d8 l.2.2.1).2.2.2.1, ((d12 l.2.2.1).1, ((d12 l.2.2.1).2.1, ((d12 l.2.2.1).2.2.1, ((d12 l.2.2.1).2.2.2.1, ((d16 l.2.2.1).1, ((d16 l.2.2.1).2.1, ((d16 l.2.2.1).2.2.1, ((d16 l.2.2.1).2.2.2.1, ((d20 l.2.2.1).1, ((d20 l.2.2.1).2.1, ((d20 l.2.2.1).2.2.1, ((d20 l.2.2.1).2.2.2.1, ((d24 l.2.2.1).1, ((d24 l.2.2.1).2.1, (d24 l.2.2.1).2.2.1))))))))))))))))))))))) (ou := ou10)
    (fun l => rfl) (fun l x => by rfl) sp1_ok hf10 h
theorem hk : HK E Try.f55 [] pA pH tl v hh := fun _ _ _ => by kernel_rfl
theorem og : SoundF Try.prog cc 55 A ∧ FnOK Try.prog 55 :=
 og_of (E := E) P_mixed (E0_ok.mk5 _ _ _ _ _) (gam_of (all_cons ref34_Right.og all_nil) no_ro) Try.func55 (c := body) (by kernel_rfl)
    (just_by (by kernel_rfl) (by kernel_rfl) (all_cons lk15 (all_cons lk10 all_nil)) all_nil) [] sp1_ok hk (by kernel_rfl)
end ref34_Take

/-! instar/instarref34.Apply -/
namespace ref34_Apply
abbrev TA : Type := (((Int × (Int × (Int × (Bool × (Int × (Int × (Int × (Int × (Int × (Int × (Int × (Int × (Int × (Int × (Int × (Int × (Int × (Int × (Int × (Int × (Int × (Int × (Int × (Int × (Int × (Int × (Int × (Int × (Int × (Int × (Int × Unit))))))))))))))))))))))))))))))) × ((List Int) × Unit)) × Unit)
abbrev XA : Type := (Int × (Int × (Int × (Bool × (Int × (Int × (Int × (Int × (Int × (Int × (Int × (Int × (Int × (Int × (Int × (Int × (Int × (Int × (Int × (Int × (Int × (Int × (Int × (Int × (Int × (Int × (Int × (Int × (Int × (Int × (Int × Int)))))))))))))))))))))))))))))))
def t (s__0 s__1 s__2 : Int) (s__3 : Bool) (s__4 s__5 s__6 s__7 s__8 s__9 s__10 s__11 s__12 s__13 s__14 s__15 s__16 s__17 s__18 s__19 s__20 s__21 s__22 s__23 s__24 s__25 s__26 s__27 s__28 s__29 s__30 : Int) (w : (List Int)) : Tw XA :=
 (.bb ((((List.length w) : Nat) : Int) != (3 : Int))
 (.ret ((0 : Int), ((0 : Int), ((0 : Int), (false, ((0 : Int), ((0 : Int), ((0 : Int), ((0 : Int), ((0 : Int), ((0 : Int), ((0 : Int), ((0 : Int), ((0 : Int), ((0 : Int), ((0 : Int), ((0 : Int), ((0 : Int), ((0 : Int), ((0 : Int), ((0 : Int), ((0 : Int), ((0 : Int), ((0 : Int), ((0 : Int), ((0 : Int), ((0 : Int), ((0 : Int), ((0 : Int), ((0 : Int), ((0 : Int), ((0 : Int), (4 : Int)))))))))))))))))))))))))))))))))
 (.opt (w)[(Int.toNat (0 : Int))]? fun z1 =>
 (.bb (z1 != (1 : Int))
 (.opt (w)[(Int.toNat (0 : Int))]? fun z18 =>
 (.bb (z18 != (2 : Int))
 (.ret ((0 : Int), ((0 : Int), ((0 : Int), (false, ((0 : Int), ((0 : Int), ((0 : Int), ((0 : Int), ((0 : Int), ((0 : Int), ((0 : Int), ((0 : Int), ((0 : Int), ((0 : Int), ((0 : Int), ((0 : Int), ((0 : Int), ((0 : Int), ((0 : Int), ((0 : Int), ((0 : Int), ((0 : Int), ((0 : Int), ((0 : Int), ((0 : Int), ((0 : Int), ((0 : Int), ((0 : Int), ((0 : Int), ((0 : Int), ((0 : Int), (4 : Int)))))))))))))))))))))))))))))))))
 (.opt (w)[(Int.toNat (0 : Int))]? fun z19 =>
 (.bb (z19 == (1 : Int))
 (.opt (w)[(Int.toNat (2 : Int))]? fun z27 =>
 (.bb (z27 != (0 : Int))
 (.ret ((0 : Int), ((0 : Int), ((0 : Int), (false, ((0 : Int), ((0 : Int), ((0 : Int), ((0 : Int), ((0 : Int), ((0 : Int), ((0 : Int), ((0 : Int), ((0 : Int), ((0 : Int), ((0 : Int), ((0 : Int), ((0 : Int), ((0 : Int), ((0 : Int), ((0 : Int), ((0 : Int), ((0 : Int), ((0 : Int), ((0 : Int), ((0 : Int), ((0 : Int), ((0 : Int), ((0 : Int), ((0 : Int), ((0 : Int), ((0 : Int), (4 : Int)))))))))))))))))))))))))))))))))
 (.opt (w)[(Int.toNat (0 : Int))]? fun z28 =>
 (.bb (z28 == (1 : Int))
 (.opt (w)[(Int.toNat (1 : Int))]? fun z33 =>
 (.opt (ref34_Right.c s__0 s__1 (w64 z33) s__3 s__4 s__5 s__6 s__7 s__8 s__9 s__10 s__11 s__12 s__13 s__14 s__15 s__16 s__17 s__18 s__19 s__20 s__21 s__22 s__23 s__24 s__25 s__26 s__27 s__28 s__29 s__30) fun z34 =>
 (.bb (!z34)
 (.ret ((0 : Int), ((0 : Int), ((0 : Int), (false, ((0 : Int), ((0 : Int), ((0 : Int), ((0 : Int), ((0 : Int), ((0 : Int), ((0 : Int), ((0 : Int), ((0 : Int), ((0 : Int), ((0 : Int), ((0 : Int), ((0 : Int), ((0 : Int), ((0 : Int), ((0 : Int), ((0 : Int), ((0 : Int), ((0 : Int), ((0 : Int), ((0 : Int), ((0 : Int), ((0 : Int), ((0 : Int), ((0 : Int), ((0 : Int), ((0 : Int), (4 : Int)))))))))))))))))))))))))))))))))
 (.ret (s__0, (s__1, ((w64 z33), (s__3, (s__4, (s__5, (s__6, (s__7, (s__8, (s__9, (s__10, (s__11, (s__12, (s__13, (s__14, (s__15, (s__16, (s__17, (s__18, (s__19, (s__20, (s__21, (s__22, (s__23, (s__24, (s__25, (s__26, (s__27, (s__28, (s__29, (s__30, (0 : Int))))))))))))))))))))))))))))))))))))
 (.opt (w)[(Int.toNat (1 : Int))]? fun z29 =>
 (.opt (w)[(Int.toNat (2 : Int))]? fun z30 =>
 (.bb (s__0 == (3 : Int))
 (.opt (ref34_Right.c (2 : Int) s__1 s__2 s__3 s__4 s__5 s__6 s__7 s__8 s__9 s__10 s__11 s__12 s__13 s__14 s__15 s__16 s__17 s__18 s__19 s__20 s__21 s__22 s__23 s__24 s__25 s__26 (w64 z29) (w64 z30) (-(1 : Int)) (0 : Int)) fun z32 =>
 (.bb (!z32)
 (.ret ((0 : Int), ((0 : Int), ((0 : Int), (false, ((0 : Int), ((0 : Int), ((0 : Int), ((0 : Int), ((0 : Int), ((0 : Int), ((0 : Int), ((0 : Int), ((0 : Int), ((0 : Int), ((0 : Int), ((0 : Int), ((0 : Int), ((0 : Int), ((0 : Int), ((0 : Int), ((0 : Int), ((0 : Int), ((0 : Int), ((0 : Int), ((0 : Int), ((0 : Int), ((0 : Int), ((0 : Int), ((0 : Int), ((0 : Int), ((0 : Int), (4 : Int)))))))))))))))))))))))))))))))))
 (.ret ((2 : Int), (s__1, (s__2, (s__3, (s__4, (s__5, (s__6, (s__7, (s__8, (s__9, (s__10, (s__11, (s__12, (s__13, (s__14, (s__15, (s__16, (s__17, (s__18, (s__19, (s__20, (s__21, (s__22, (s__23, (s__24, (s__25, (s__26, ((w64 z29), ((w64 z30), ((-(1 : Int)), ((0 : Int), (0 : Int)))))))))))))))))))))))))))))))))))
 (.opt (ref34_Right.c s__0 s__1 s__2 s__3 s__4 s__5 s__6 s__7 s__8 s__9 s__10 s__11 s__12 s__13 s__14 s__15 s__16 s__17 s__18 s__19 s__20 s__21 s__22 s__23 s__24 s__25 s__26 (w64 z29) (w64 z30) s__29 s__30) fun z31 =>
 (.bb (!z31)
 (.ret ((0 : Int), ((0 : Int), ((0 : Int), (false, ((0 : Int), ((0 : Int), ((0 : Int), ((0 : Int), ((0 : Int), ((0 : Int), ((0 : Int), ((0 : Int), ((0 : Int), ((0 : Int), ((0 : Int), ((0 : Int), ((0 : Int), ((0 : Int), ((0 : Int), ((0 : Int), ((0 : Int), ((0 : Int), ((0 : Int), ((0 : Int), ((0 : Int), ((0 : Int), ((0 : Int), ((0 : Int), ((0 : Int), ((0 : Int), ((0 : Int), (4 : Int)))))))))))))))))))))))))))))))))
 (.ret (s__0, (s__1, (s__2, (s__3, (s__4, (s__5, (s__6, (s__7, (s__8, (s__9, (s__10, (s__11, (s__12, (s__13, (s__14, (s__15, (s__16, (s__17, (s__18, (s__19, (s__20, (s__21, (s__22, (s__23, (s__24, (s__25, (s__26, ((w64 z29), ((w64 z30), (s__29, (s__30, (0 : Int))))))))))))))))))))))))))))))))))))))))))
 (.opt (w)[(Int.toNat (0 : Int))]? fun z20 =>
 (.bb (z20 == (1 : Int))
 (.opt (w)[(Int.toNat (1 : Int))]? fun z25 =>
 (.opt (ref34_Right.c s__0 s__1 (w64 z25) s__3 s__4 s__5 s__6 s__7 s__8 s__9 s__10 s__11 s__12 s__13 s__14 s__15 s__16 s__17 s__18 s__19 s__20 s__21 s__22 s__23 s__24 s__25 s__26 s__27 s__28 s__29 s__30) fun z26 =>
 (.bb (!z26)
 (.ret ((0 : Int), ((0 : Int), ((0 : Int), (false, ((0 : Int), ((0 : Int), ((0 : Int), ((0 : Int), ((0 : Int), ((0 : Int), ((0 : Int), ((0 : Int), ((0 : Int), ((0 : Int), ((0 : Int), ((0 : Int), ((0 : Int), ((0 : Int), ((0 : Int), ((0 : Int), ((0 : Int), ((0 : Int), ((0 : Int), ((0 : Int), ((0 : Int), ((0 : Int), ((0 : Int), ((0 : Int), ((0 : Int), ((0 : Int), ((0 : Int), (4 : Int)))))))))))))))))))))))))))))))))
 (.ret (s__0, (s__1, ((w64 z25), (s__3, (s__4, (s__5, (s__6, (s__7, (s__8, (s__9, (s__10, (s__11, (s__12, (s__13, (s__14, (s__15, (s__16, (s__17, (s__18, (s__19, (s__20, (s__21, (s__22, (s__23, (s__24, (s__25, (s__26, (s__27, (s__28, (s__29, (s__30, (0 : Int))))))))))))))))))))))))))))))))))))
 (.opt (w)[(Int.toNat (1 : Int))]? fun z21 =>
 (.opt (w)[(Int.toNat (2 : Int))]? fun z22 =>
 (.bb (s__0 == (3 : Int))
 (.opt (ref34_Right.c (2 : Int) s__1 s__2 s__3 s__4 s__5 s__6 s__7 s__8 s__9 s__10 s__11 s__12 s__13 s__14 s__15 s__16 s__17 s__18 s__19 s__20 s__21 s__22 s__23 s__24 s__25 s__26 (w64 z21) (w64 z22) (-(1 : Int)) (0 : Int)) fun z24 =>
 (.bb (!z24)
 (.ret ((0 : Int), ((0 : Int), ((0 : Int), (false, ((0 : Int), ((0 : Int), ((0 : Int), ((0 : Int), ((0 : Int), ((0 : Int), ((0 : Int), ((0 : Int), ((0 : Int), ((0 : Int), ((0 : Int), ((0 : Int), ((0 : Int), ((0 : Int), ((0 : Int), ((0 : Int), ((0 : Int), ((0 : Int), ((0 : Int), ((0 : Int), ((0 : Int), ((0 : Int), ((0 : Int), ((0 : Int), ((0 : Int), ((0 : Int), ((0 : Int), (4 : Int)))))))))))))))))))))))))))))))))
 (.ret ((2 : Int), (s__1, (s__2, (s__3, (s__4, (s__5, (s__6, (s__7, (s__8, (s__9, (s__10, (s__11, (s__12, (s__13, (s__14, (s__15, (s__16, (s__17, (s__18, (s__19, (s__20, (s__21, (s__22, (s__23, (s__24, (s__25, (s__26, ((w64 z21), ((w64 z22), ((-(1 : Int)), ((0 : Int), (0 : Int)))))))))))))))))))))))))))))))))))
 (.opt (ref34_Right.c s__0 s__1 s__2 s__3 s__4 s__5 s__6 s__7 s__8 s__9 s__10 s__11 s__12 s__13 s__14 s__15 s__16 s__17 s__18 s__19 s__20 s__21 s__22 s__23 s__24 s__25 s__26 (w64 z21) (w64 z22) s__29 s__30) fun z23 =>
 (.bb (!z23)
 (.ret ((0 : Int), ((0 : Int), ((0 : Int), (false, ((0 : Int), ((0 : Int), ((0 : Int), ((0 : Int), ((0 : Int), ((0 : Int), ((0 : Int), ((0 : Int), ((0 : Int), ((0 : Int), ((0 : Int), ((0 : Int), ((0 : Int), ((0 : Int), ((0 : Int), ((0 : Int), ((0 : Int), ((0 : Int), ((0 : Int), ((0 : Int), ((0 : Int), ((0 : Int), ((0 : Int), ((0 : Int), ((0 : Int), ((0 : Int), ((0 : Int), (4 : Int)))))))))))))))))))))))))))))))))
 (.ret (s__0, (s__1, (s__2, (s__3, (s__4, (s__5, (s__6, (s__7, (s__8, (s__9, (s__10, (s__11, (s__12, (s__13, (s__14, (s__15, (s__16, (s__17, (s__18, (s__19, (s__20, (s__21, (s__22, (s__23, (s__24, (s__25, (s__26, ((w64 z21), ((w64 z22), (s__29, (s__30, (0 : Int))))))))))))))))))))))))))))))))))))))))))))
 (.opt (w)[(Int.toNat (0 : Int))]? fun z2 =>
 (.bb (z2 == (1 : Int))
 (.opt (w)[(Int.toNat (2 : Int))]? fun z10 =>
 (.bb (z10 != (0 : Int))
 (.ret ((0 : Int), ((0 : Int), ((0 : Int), (false, ((0 : Int), ((0 : Int), ((0 : Int), ((0 : Int), ((0 : Int), ((0 : Int), ((0 : Int), ((0 : Int), ((0 : Int), ((0 : Int), ((0 : Int), ((0 : Int), ((0 : Int), ((0 : Int), ((0 : Int), ((0 : Int), ((0 : Int), ((0 : Int), ((0 : Int), ((0 : Int), ((0 : Int), ((0 : Int), ((0 : Int), ((0 : Int), ((0 : Int), ((0 : Int), ((0 : Int), (4 : Int)))))))))))))))))))))))))))))))))
 (.opt (w)[(Int.toNat (0 : Int))]? fun z11 =>
 (.bb (z11 == (1 : Int))
 (.opt (w)[(Int.toNat (1 : Int))]? fun z16 =>
 (.opt (ref34_Right.c s__0 s__1 (w64 z16) s__3 s__4 s__5 s__6 s__7 s__8 s__9 s__10 s__11 s__12 s__13 s__14 s__15 s__16 s__17 s__18 s__19 s__20 s__21 s__22 s__23 s__24 s__25 s__26 s__27 s__28 s__29 s__30) fun z17 =>
 (.bb (!z17)
 (.ret ((0 : Int), ((0 : Int), ((0 : Int), (false, ((0 : Int), ((0 : Int), ((0 : Int), ((0 : Int), ((0 : Int), ((0 : Int), ((0 : Int), ((0 : Int), ((0 : Int), ((0 : Int), ((0 : Int), ((0 : Int), ((0 : Int), ((0 : Int), ((0 : Int), ((0 : Int), ((0 : Int), ((0 : Int), ((0 : Int), ((0 : Int), ((0 : Int), ((0 : Int), ((0 : Int), ((0 : Int), ((0 : Int), ((0 : Int), ((0 : Int), (4 : Int)))))))))))))))))))))))))))))))))
 (.ret (s__0, (s__1, ((w64 z16), (s__3, (s__4, (s__5, (s__6, (s__7, (s__8, (s__9, (s__10, (s__11, (s__12, (s__13, (s__14, (s__15, (s__16, (s__17, (s__18, (s__19, (s__20, (s__21, (s__22, (s__23, (s__24, (s__25, (s__26, (s__27, (s__28, (s__29, (s__30, (0 : Int))))))))))))))))))))))))))))))))))))
 (.opt (w)[(Int.toNat (1 : Int))]? fun z12 =>
 (.opt (w)[(Int.toNat (2 : Int))]? fun z13 =>
 (.bb (s__0 == (3 : Int))
 (.opt (ref34_Right.c (2 : Int) s__1 s__2 s__3 s__4 s__5 s__6 s__7 s__8 s__9 s__10 s__11 s__12 s__13 s__14 s__15 s__16 s__17 s__18 s__19 s__20 s__21 s__22 s__23 s__24 s__25 s__26 (w64 z12) (w64 z13) (-(1 : Int)) (0 : Int)) fun z15 =>
 (.bb (!z15)
 (.ret ((0 : Int), ((0 : Int), ((0 : Int), (false, ((0 : Int), ((0 : Int), ((0 : Int), ((0 : Int), ((0 : Int), ((0 : Int), ((0 : Int), ((0 : Int), ((0 : Int), ((0 : Int), ((0 : Int), ((0 : Int), ((0 : Int), ((0 : Int), ((0 : Int), ((0 : Int), ((0 : Int), ((0 : Int), ((0 : Int), ((0 : Int), ((0 : Int), ((0 : Int), ((0 : Int), ((0 : Int), ((0 : Int), ((0 : Int), ((0 : Int), (4 : Int)))))))))))))))))))))))))))))))))
 (.ret ((2 : Int), (s__1, (s__2, (s__3, (s__4, (s__5, (s__6, (s__7, (s__8, (s__9, (s__10, (s__11, (s__12, (s__13, (s__14, (s__15, (s__16, (s__17, (s__18, (s__19, (s__20, (s__21, (s__22, (s__23, (s__24, (s__25, (s__26, ((w64 z12), ((w64 z13), ((-(1 : Int)), ((0 : Int), (0 : Int)))))))))))))))))))))))))))))))))))
 (.opt (ref34_Right.c s__0 s__1 s__2 s__3 s__4 s__5 s__6 s__7 s__8 s__9 s__10 s__11 s__12 s__13 s__14 s__15 s__16 s__17 s__18 s__19 s__20 s__21 s__22 s__23 s__24 s__25 s__26 (w64 z12) (w64 z13) s__29 s__30) fun z14 =>
 (.bb (!z14)
 (.ret ((0 : Int), ((0 : Int), ((0 : Int), (false, ((0 : Int), ((0 : Int), ((0 : Int), ((0 : Int), ((0 : Int), ((0 : Int), ((0 : Int), ((0 : Int), ((0 : Int), ((0 : Int), ((0 : Int), ((0 : Int), ((0 : Int), ((0 : Int), ((0 : Int), ((0 : Int), ((0 : Int), ((0 : Int), ((0 : Int), ((0 : Int), ((0 : Int), ((0 : Int), ((0 : Int), ((0 : Int), ((0 : Int), ((0 : Int), ((0 : Int), (4 : Int)))))))))))))))))))))))))))))))))
 (.ret (s__0, (s__1, (s__2, (s__3, (s__4, (s__5, (s__6, (s__7, (s__8, (s__9, (s__10, (s__11, (s__12, (s__13, (s__14, (s__15, (s__16, (s__17, (s__18, (s__19, (s__20, (s__21, (s__22, (s__23, (s__24, (s__25, (s__26, ((w64 z12), ((w64 z13), (s__29, (s__30, (0 : Int))))))))))))))))))))))))))))))))))))))))))
 (.opt (w)[(Int.toNat (0 : Int))]? fun z3 =>
 (.bb (z3 == (1 : Int))
 (.opt (w)[(Int.toNat (1 : Int))]? fun z8 =>
 (.opt (ref34_Right.c s__0 s__1 (w64 z8) s__3 s__4 s__5 s__6 s__7 s__8 s__9 s__10 s__11 s__12 s__13 s__14 s__15 s__16 s__17 s__18 s__19 s__20 s__21 s__22 s__23 s__24 s__25 s__26 s__27 s__28 s__29 s__30) fun z9 =>
 (.bb (!z9)
 (.ret ((0 : Int), ((0 : Int), ((0 : Int), (false, ((0 : Int), ((0 : Int), ((0 : Int), ((0 : Int), ((0 : Int), ((0 : Int), ((0 : Int), ((0 : Int), ((0 : Int), ((0 : Int), ((0 : Int), ((0 : Int), ((0 : Int), ((0 : Int), ((0 : Int), ((0 : Int), ((0 : Int), ((0 : Int), ((0 : Int), ((0 : Int), ((0 : Int), ((0 : Int), ((0 : Int), ((0 : Int), ((0 : Int), ((0 : Int), ((0 : Int), (4 : Int)))))))))))))))))))))))))))))))))
 (.ret (s__0, (s__1, ((w64 z8), (s__3, (s__4, (s__5, (s__6, (s__7, (s__8, (s__9, (s__10, (s__11, (s__12, (s__13, (s__14, (s__15, (s__16, (s__17, (s__18, (s__19, (s__20, (s__21, (s__22, (s__23, (s__24, (s__25, (s__26, (s__27, (s__28, (s__29, (s__30, (0 : Int))))))))))))))))))))))))))))))))))))
 (.opt (w)[(Int.toNat (1 : Int))]? fun z4 =>
 (.opt (w)[(Int.toNat (2 : Int))]? fun z5 =>
 (.bb (s__0 == (3 : Int))
 (.opt (ref34_Right.c (2 : Int) s__1 s__2 s__3 s__4 s__5 s__6 s__7 s__8 s__9 s__10 s__11 s__12 s__13 s__14 s__15 s__16 s__17 s__18 s__19 s__20 s__21 s__22 s__23 s__24 s__25 s__26 (w64 z4) (w64 z5) (-(1 : Int)) (0 : Int)) fun z7 =>
 (.bb (!z7)
 (.ret ((0 : Int), ((0 : Int), ((0 : Int), (false, ((0 : Int), ((0 : Int), ((0 : Int), ((0 : Int), ((0 : Int), ((0 : Int), ((0 : Int), ((0 : Int), ((0 : Int), ((0 : Int), ((0 : Int), ((0 : Int), ((0 : Int), ((0 : Int), ((0 : Int), ((0 : Int), ((0 : Int), ((0 : Int), ((0 : Int), ((0 : Int), ((0 : Int), ((0 : Int), ((0 : Int), ((0 : Int), ((0 : Int), ((0 : Int), ((0 : Int), (4 : Int)))))))))))))))))))))))))))))))))
 (.ret ((2 : Int), (s__1, (s__2, (s__3, (s__4, (s__5, (s__6, (s__7, (s__8, (s__9, (s__10, (s__11, (s__12, (s__13, (s__14, (s__15, (s__16, (s__17, (s__18, (s__19, (s__20, (s__21, (s__22, (s__23, (s__24, (s__25, (s__26, ((w64 z4), ((w64 z5), ((-(1 : Int)), ((0 : Int), (0 : Int)))))))))))))))))))))))))))))))))))
 (.opt (ref34_Right.c s__0 s__1 s__2 s__3 s__4 s__5 s__6 s__7 s__8 s__9 s__10 s__11 s__12 s__13 s__14 s__15 s__16 s__17 s__18 s__19 s__20 s__21 s__22 s__23 s__24 s__25 s__26 (w64 z4) (w64 z5) s__29 s__30) fun z6 =>
 (.bb (!z6)
 (.ret ((0 : Int), ((0 : Int), ((0 : Int), (false, ((0 : Int), ((0 : Int), ((0 : Int), ((0 : Int), ((0 : Int), ((0 : Int), ((0 : Int), ((0 : Int), ((0 : Int), ((0 : Int), ((0 : Int), ((0 : Int), ((0 : Int), ((0 : Int), ((0 : Int), ((0 : Int), ((0 : Int), ((0 : Int), ((0 : Int), ((0 : Int), ((0 : Int), ((0 : Int), ((0 : Int), ((0 : Int), ((0 : Int), ((0 : Int), ((0 : Int), (4 : Int)))))))))))))))))))))))))))))))))
 (.ret (s__0, (s__1, (s__2, (s__3, (s__4, (s__5, (s__6, (s__7, (s__8, (s__9, (s__10, (s__11, (s__12, (s__13, (s__14, (s__15, (s__16, (s__17, (s__18, (s__19, (s__20, (s__21, (s__22, (s__23, (s__24, (s__25, (s__26, ((w64 z4), ((w64 z5), (s__29, (s__30, (0 : Int)))))))))))))))))))))))))))))))))))))))))))))
def c (s__0 s__1 s__2 : Int) (s__3 : Bool) (s__4 s__5 s__6 s__7 s__8 s__9 s__10 s__11 s__12 s__13 s__14 s__15 s__16 s__17 s__18 s__19 s__20 s__21 s__22 s__23 s__24 s__25 s__26 s__27 s__28 s__29 s__30 : Int) (w : (List Int)) : Option XA := (t s__0 s__1 s__2 s__3 s__4 s__5 s__6 s__7 s__8 s__9 s__10 s__11 s__12 s__13 s__14 s__15 s__16 s__17 s__18 s__19 s__20 s__21 s__22 s__23 s__24 s__25 s__26 s__27 s__28 s__29 s__30 w).run
def tl (l : TA) : Tw XA := t l.1.1.1 l.1.1.2.1 l.1.1.2.2.1 l.1.1.2.2.2.1 (d4 l.1.1).1 (d4 l.1.1).2.1 (d4 l.1.1).2.2.1 (d4 l.1.1).2.2.2.1 (d8 l.1.1).1 (d8 l.1.1).2.1 (d8 l.1.1).2.2.1 (d8 l.1.1).2.2.2.1 (d12 l.1.1).1 (d12 l.1.1).2.1 (d12 l.1.1).2.2.1 (d12 l.1.1).2.2.2.1 (d16 l.1.1).1 (d16 l.1.1).2.1 (d16 l.1.1).2.2.1 (d16 l.1.1).2.2.2.1 (d20 l.1.1).1 (d20 l.1.1).2.1 (d20 l.1.1).2.2.1 (d20 l.1.1).2.2.2.1 (d24 l.1.1).1 (d24 l.1.1).2.1 (d24 l.1.1).2.2.1 (d24 l.1.1).2.2.2.1 (d28 l.1.1).1 (d28 l.1.1).2.1 (d28 l.1.1).2.2.1 l.1.2.1
def pA : Pt := (.cs (.agg (jC (jC (jC (.cs .bool (jC (jC (jC (jC (.cs (.int .u32) (.cs (.int .u32) (.cs (.int .u32) (.cs (.int .u32) (.cs (.int .u32) (.cs (.int .u32) (.cs (.int .u32) (.cs (.int .u32) (jC (jC (jC (.cs (.int .u32) (.cs (.int .u32) (.cs (.int .u32) (.cs (.int .u32) (.cs (.int .u32) (.cs (.int .u32) (.cs (.int .u32) (.cs (.int .u32) (jC (jC (jC (jC .nl)))))))))))))))))))))))))))))))) (.cs (.sl 3) .nl))
def pH : Pt := .nl
def v (l : TA) (y : XA) : AV U := .tup [.agg [jI y.1, jI y.2.1, jI y.2.2.1, jB y.2.2.2.1, jI (d4 y).1, jI (d4 y).2.1, jI (d4 y).2.2.1, jI (d4 y).2.2.2.1, .im (.int .u32 (d8 y).1), .im (.int .u32 (d8 y).2.1), .im (.int .u32 (d8 y).2.2.1), .im (.int .u32 (d8 y).2.2.2.1), .im (.int .u32 (d12 y).1), .im (.int .u32 (d12 y).2.1), .im (.int .u32 (d12 y).2.2.1), .im (.int .u32 (d12 y).2.2.2.1), jI (d16 y).1, jI (d16 y).2.1, jI (d16 y).2.2.1, .im (.int .u32 (d16 y).2.2.2.1), .im (.int .u32 (d20 y).1), .im (.int .u32 (d20 y).2.1), .im (.int .u32 (d20 y).2.2.1), .im (.int .u32 (d20 y).2.2.2.1), .im (.int .u32 (d24 y).1), .im (.int .u32 (d24 y).2.1), .im (.int .u32 (d24 y).2.2.1), jI (d24 y).2.2.2.1, jI (d28 y).1, jI (d28 y).2.1, jI (d28 y).2.2.1], jI (d28 y).2.2.2]
def hh (l : TA) (y : XA) : Hp U := []
def A : AFun U := mkA pA pH (X := XA) (fun l => (tl l).run) sp1 v hh
def body := bodyOf Try.f56
def E : Env U := E0.mk5 [(21, ref34_Right.A)] [] [] [] []
theorem hk : HK E Try.f56 [] pA pH tl v hh := fun _ _ _ => by kernel_rfl
theorem og : SoundF Try.prog cc 56 A ∧ FnOK Try.prog 56 :=
 og_of (E := E) P_mixed (E0_ok.mk5 _ _ _ _ _) (gam_of (all_cons ref34_Right.og all_nil) no_ro) Try.func56 (c := body) (by kernel_rfl)
    (just_by (by kernel_rfl) (by kernel_rfl) all_nil all_nil) [] sp1_ok hk (by kernel_rfl)
end ref34_Apply

/-! instar/instarref34.Fold -/
namespace ref34_Fold
abbrev TA : Type := (((List Int) × ((List (List Int)) × Unit)) × Unit)
abbrev XA : Type := (Int × (Int × (Int × (Bool × (Int × (Int × (Int × (Int × (Int × (Int × (Int × (Int × (Int × (Int × (Int × (Int × (Int × (Int × (Int × (Int × (Int × (Int × (Int × (Int × (Int × (Int × (Int × (Int × (Int × (Int × (Int × Int)))))))))))))))))))))))))))))))
abbrev T3 : Type := ((Unit × ((List (List Int)) × (Unit × (Unit × (Unit × (Unit × (Int × (Int × (Unit × Unit))))))))) × ((Int × (Int × (Int × (Bool × (Int × (Int × (Int × (Int × (Int × (Int × (Int × (Int × (Int × (Int × (Int × (Int × (Int × (Int × (Int × (Int × (Int × (Int × (Int × (Int × (Int × (Int × (Int × (Int × (Int × (Int × (Int × Unit))))))))))))))))))))))))))))))) × ((Int × (Int × (Int × (Bool × (Int × (Int × (Int × (Int × (Int × (Int × (Int × (Int × (Int × (Int × (Int × (Int × (Int × (Int × (Int × (Int × (Int × (Int × (Int × (Int × (Int × (Int × (Int × (Int × (Int × (Int × (Int × Unit))))))))))))))))))))))))))))))) × Unit)))
abbrev S3 : Type := (Int × (Int × (Int × (Int × (Int × (Bool × (Int × (Int × (Int × (Int × (Int × (Int × (Int × (Int × (Int × (Int × (Int × (Int × (Int × (Int × (Int × (Int × (Int × (Int × (Int × (Int × (Int × (Int × (Int × (Int × (Int × (Int × Int))))))))))))))))))))))))))))))))
abbrev X3 : Type := (Int × (Int × (Int × (Int × (Bool × (Int × (Int × (Int × (Int × (Int × (Int × (Int × (Int × (Int × (Int × (Int × (Int × (Int × (Int × (Int × (Int × (Int × (Int × (Int × (Int × (Int × (Int × (Int × (Int × (Int × (Int × Int)))))))))))))))))))))))))))))))
def l3 (changes : (List (List Int))) (h0_0 h0_1 h0_2 : Int) (h0_3 : Bool) (h0_4 h0_5 h0_6 h0_7 h0_8 h0_9 h0_10 h0_11 h0_12 h0_13 h0_14 h0_15 h0_16 h0_17 h0_18 h0_19 h0_20 h0_21 h0_22 h0_23 h0_24 h0_25 h0_26 h0_27 h0_28 h0_29 h0_30 e i h1_0 h1_1 h1_2 : Int) (h1_3 : Bool) (h1_4 h1_5 h1_6 h1_7 h1_8 h1_9 h1_10 h1_11 h1_12 h1_13 h1_14 h1_15 h1_16 h1_17 h1_18 h1_19 h1_20 h1_21 h1_22 h1_23 h1_24 h1_25 h1_26 h1_27 h1_28 h1_29 h1_30 : Int) : Tw (S3 ⊕ X3) :=
 (.bb (decide (i < (((List.length changes) : Nat) : Int)))
 (.bb (e == (0 : Int))
 (.dd (((0 : Int) ≤ i)) inferInstance
 (.opt (changes)[(Int.toNat i)]? fun z2 =>
 (.opt (ref34_Apply.c h1_0 h1_1 h1_2 h1_3 h1_4 h1_5 h1_6 h1_7 h1_8 h1_9 h1_10 h1_11 h1_12 h1_13 h1_14 h1_15 h1_16 h1_17 h1_18 h1_19 h1_20 h1_21 h1_22 h1_23 h1_24 h1_25 h1_26 h1_27 h1_28 h1_29 h1_30 z2) fun z3 =>
 (.ret (.inl ((d28 z3).2.2.2, ((w64 (i + (1 : Int))), (z3.1, (z3.2.1, (z3.2.2.1, (z3.2.2.2.1, ((d4 z3).1, ((d4 z3).2.1, ((d4 z3).2.2.1, ((d4 z3).2.2.2.1, ((d8 z3).1, ((d8 z3).2.1, ((d8 z3).2.2.1, ((d8 z3).2.2.2.1, ((d12 z3).1, ((d12 z3).2.1, ((d12 z3).2.2.1, ((d12 z3).2.2.2.1, ((d16 z3).1, ((d16 z3).2.1, ((d16 z3).2.2.1, ((d16 z3).2.2.2.1, ((d20 z3).1, ((d20 z3).2.1, ((d20 z3).2.2.1, ((d20 z3).2.2.2.1, ((d24 z3).1, ((d24 z3).2.1, ((d24 z3).2.2.1, ((d24 z3).2.2.2.1, ((d28 z3).1, ((d28 z3).2.1, (d28 z3).2.2.1))))))))))))))))))))))))))))))))))))
 .no)
 (.ret (.inr (e, (h1_0, (h1_1, (h1_2, (h1_3, (h1_4, (h1_5, (h1_6, (h1_7, (h1_8, (h1_9, (h1_10, (h1_11, (h1_12, (h1_13, (h1_14, (h1_15, (h1_16, (h1_17, (h1_18, (h1_19, (h1_20, (h1_21, (h1_22, (h1_23, (h1_24, (h1_25, (h1_26, (h1_27, (h1_28, (h1_29, h1_30))))))))))))))))))))))))))))))))))
 (.ret (.inr (e, (h1_0, (h1_1, (h1_2, (h1_3, (h1_4, (h1_5, (h1_6, (h1_7, (h1_8, (h1_9, (h1_10, (h1_11, (h1_12, (h1_13, (h1_14, (h1_15, (h1_16, (h1_17, (h1_18, (h1_19, (h1_20, (h1_21, (h1_22, (h1_23, (h1_24, (h1_25, (h1_26, (h1_27, (h1_28, (h1_29, h1_30))))))))))))))))))))))))))))))))))
def L3 (changes : (List (List Int))) (e i h0_0 h0_1 h0_2 : Int) (h0_3 : Bool) (h0_4 h0_5 h0_6 h0_7 h0_8 h0_9 h0_10 h0_11 h0_12 h0_13 h0_14 h0_15 h0_16 h0_17 h0_18 h0_19 h0_20 h0_21 h0_22 h0_23 h0_24 h0_25 h0_26 h0_27 h0_28 h0_29 h0_30 h1_0 h1_1 h1_2 : Int) (h1_3 : Bool) (h1_4 h1_5 h1_6 h1_7 h1_8 h1_9 h1_10 h1_11 h1_12 h1_13 h1_14 h1_15 h1_16 h1_17 h1_18 h1_19 h1_20 h1_21 h1_22 h1_23 h1_24 h1_25 h1_26 h1_27 h1_28 h1_29 h1_30 : Int) : Option X3 := Lp (fun s => (l3 changes h0_0 h0_1 h0_2 h0_3 h0_4 h0_5 h0_6 h0_7 h0_8 h0_9 h0_10 h0_11 h0_12 h0_13 h0_14 h0_15 h0_16 h0_17 h0_18 h0_19 h0_20 h0_21 h0_22 h0_23 h0_24 h0_25 h0_26 h0_27 h0_28 h0_29 h0_30 s.1 s.2.1 s.2.2.1 s.2.2.2.1 (d4 s).1 (d4 s).2.1 (d4 s).2.2.1 (d4 s).2.2.2.1 (d8 s).1 (d8 s).2.1 (d8 s).2.2.1 (d8 s).2.2.2.1 (d12 s).1 (d12 s).2.1 (d12 s).2.2.1 (d12 s).2.2.2.1 (d16 s).1 (d16 s).2.1 (d16 s).2.2.1 (d16 s).2.2.2.1 (d20 s).1 (d20 s).2.1 (d20 s).2.2.1 (d20 s).2.2.2.1 (d24 s).1 (d24 s).2.1 (d24 s).2.2.1 (d24 s).2.2.2.1 (d28 s).1 (d28 s).2.1 (d28 s).2.2.1 (d28 s).2.2.2.1 (d32 s)).run) (e, (i, (h1_0, (h1_1, (h1_2, (h1_3, (h1_4, (h1_5, (h1_6, (h1_7, (h1_8, (h1_9, (h1_10, (h1_11, (h1_12, (h1_13, (h1_14, (h1_15, (h1_16, (h1_17, (h1_18, (h1_19, (h1_20, (h1_21, (h1_22, (h1_23, (h1_24, (h1_25, (h1_26, (h1_27, (h1_28, (h1_29, h1_30))))))))))))))))))))))))))))))))
def p3 : Pt := (.cs (.bots 1) (.cs (.sl 12) (.cs (.bots 2) (.cs (.ptr 0 0) (.cs (.bots 1) (.cs (.ptr 1 0) (jC (jC (.cs (.bots 26) .nl)))))))))
def q3 : Pt := (.cs (.var (jC (jC (jC (.cs .bool (jC (jC (jC (jC (.cs (.int .u32) (.cs (.int .u32) (.cs (.int .u32) (.cs (.int .u32) (.cs (.int .u32) (.cs (.int .u32) (.cs (.int .u32) (.cs (.int .u32) (jC (jC (jC (.cs (.int .u32) (.cs (.int .u32) (.cs (.int .u32) (.cs (.int .u32) (.cs (.int .u32) (.cs (.int .u32) (.cs (.int .u32) (.cs (.int .u32) (jC (jC (jC (jC .nl)))))))))))))))))))))))))))))))) (.cs (.var (jC (jC (jC (.cs .bool (jC (jC (jC (jC (.cs (.int .u32) (.cs (.int .u32) (.cs (.int .u32) (.cs (.int .u32) (.cs (.int .u32) (.cs (.int .u32) (.cs (.int .u32) (.cs (.int .u32) (jC (jC (jC (.cs (.int .u32) (.cs (.int .u32) (.cs (.int .u32) (.cs (.int .u32) (.cs (.int .u32) (.cs (.int .u32) (.cs (.int .u32) (.cs (.int .u32) (jC (jC (jC (jC .nl)))))))))))))))))))))))))))))))) .nl))
def ou3 (l : T3) (y : X3) : Ex × St U := (.exit 0, stOf 35 [(4, .ptr 0 0), (6, .ptr 1 0), (7, jI y.1)] [.var [jI l.2.1.1, jI l.2.1.2.1, jI l.2.1.2.2.1, jB l.2.1.2.2.2.1, jI (d4 l.2.1).1, jI (d4 l.2.1).2.1, jI (d4 l.2.1).2.2.1, jI (d4 l.2.1).2.2.2.1, .im (.int .u32 (d8 l.2.1).1), .im (.int .u32 (d8 l.2.1).2.1), .im (.int .u32 (d8 l.2.1).2.2.1), .im (.int .u32 (d8 l.2.1).2.2.2.1), .im (.int .u32 (d12 l.2.1).1), .im (.int .u32 (d12 l.2.1).2.1), .im (.int .u32 (d12 l.2.1).2.2.1), .im (.int .u32 (d12 l.2.1).2.2.2.1), jI (d16 l.2.1).1, jI (d16 l.2.1).2.1, jI (d16 l.2.1).2.2.1, .im (.int .u32 (d16 l.2.1).2.2.2.1), .im (.int .u32 (d20 l.2.1).1), .im (.int .u32 (d20 l.2.1).2.1), .im (.int .u32 (d20 l.2.1).2.2.1), .im (.int .u32 (d20 l.2.1).2.2.2.1), .im (.int .u32 (d24 l.2.1).1), .im (.int .u32 (d24 l.2.1).2.1), .im (.int .u32 (d24 l.2.1).2.2.1), jI (d24 l.2.1).2.2.2.1, jI (d28 l.2.1).1, jI (d28 l.2.1).2.1, jI (d28 l.2.1).2.2.1], .var [jI y.2.1, jI y.2.2.1, jI y.2.2.2.1, jB (d4 y).1, jI (d4 y).2.1, jI (d4 y).2.2.1, jI (d4 y).2.2.2.1, jI (d8 y).1, .im (.int .u32 (d8 y).2.1), .im (.int .u32 (d8 y).2.2.1), .im (.int .u32 (d8 y).2.2.2.1), .im (.int .u32 (d12 y).1), .im (.int .u32 (d12 y).2.1), .im (.int .u32 (d12 y).2.2.1), .im (.int .u32 (d12 y).2.2.2.1), .im (.int .u32 (d16 y).1), jI (d16 y).2.1, jI (d16 y).2.2.1, jI (d16 y).2.2.2.1, .im (.int .u32 (d20 y).1), .im (.int .u32 (d20 y).2.1), .im (.int .u32 (d20 y).2.2.1), .im (.int .u32 (d20 y).2.2.2.1), .im (.int .u32 (d24 y).1), .im (.int .u32 (d24 y).2.1), .im (.int .u32 (d24 y).2.2.1), .im (.int .u32 (d24 y).2.2.2.1), jI (d28 y).1, jI (d28 y).2.1, jI (d28 y).2.2.1, jI (d28 y).2.2.2]] 0)
def Λ3 : LFun U := mkLp p3 q3 0 (X := X3) (fun (l : T3) => L3 l.1.2.1 (d4 l.1).2.2.1 (d4 l.1).2.2.2.1 l.2.1.1 l.2.1.2.1 l.2.1.2.2.1 l.2.1.2.2.2.1 (d4 l.2.1).1 (d4 l.2.1).2.1 (d4 l.2.1).2.2.1 (d4 l.2.1).2.2.2.1 (d8 l.2.1).1 (d8 l.2.1).2.1 (d8 l.2.1).2.2.1 (d8 l.2.1).2.2.2.1 (d12 l.2.1).1 (d12 l.2.1).2.1 (d12 l.2.1).2.2.1 (d12 l.2.1).2.2.2.1 (d16 l.2.1).1 (d16 l.2.1).2.1 (d16 l.2.1).2.2.1 (d16 l.2.1).2.2.2.1 (d20 l.2.1).1 (d20 l.2.1).2.1 (d20 l.2.1).2.2.1 (d20 l.2.1).2.2.2.1 (d24 l.2.1).1 (d24 l.2.1).2.1 (d24 l.2.1).2.2.1 (d24 l.2.1).2.2.2.1 (d28 l.2.1).1 (d28 l.2.1).2.1 (d28 l.2.1).2.2.1 l.2.2.1.1 l.2.2.1.2.1 l.2.2.1.2.2.1 l.2.2.1.2.2.2.1 (d4 l.2.2.1).1 (d4 l.2.2.1).2.1 (d4 l.2.2.1).2.2.1 (d4 l.2.2.1).2.2.2.1 (d8 l.2.2.1).1 (d8 l.2.2.1).2.1 (d8 l.2.2.1).2.2.1 (d8 l.2.2.1).2.2.2.1 (d12 l.2.2.1).1 (d12 l.2.2.1).2.1 (d12 l.2.2.1).2.2.1 (d12 l.2.2.1).2.2.2.1 (d16 l.2.2.1).1 (d16 l.2.2.1).2.1 (d16 l.2.2.1).2.2.1 (d16 l.2.2.1).2.2.2.1 (d20 l.2.2.1).1 (d20 l.2.2.1).2.1 (d20 l.2.2.1).2.2.1 (d20 l.2.2.1).2.2.2.1 (d24 l.2.2.1).1 (d24 l.2.2.1).2.1 (d24 l.2.2.1).2.2.1 (d24 l.2.2.1).2.2.2.1 (d28 l.2.2.1).1 (d28 l.2.2.1).2.1 (d28 l.2.2.1).2.2.1) sp1 ou3
def hd3 (l : T3) (s : S3) : T3 := (((), (l.1.2.1, ((), ((), ((), ((), (s.1, (s.2.1, ((), ()))))))))), ((l.2.1.1, (l.2.1.2.1, (l.2.1.2.2.1, (l.2.1.2.2.2.1, ((d4 l.2.1).1, ((d4 l.2.1).2.1, ((d4 l.2.1).2.2.1, ((d4 l.2.1).2.2.2.1, ((d8 l.2.1).1, ((d8 l.2.1).2.1, ((d8 l.2.1).2.2.1, ((d8 l.2.1).2.2.2.1, ((d12 l.2.1).1, ((d12 l.2.1).2.1, ((d12 l.2.1).2.2.1, ((d12 l.2.1).2.2.2.1, ((d16 l.2.1).1, ((d16 l.2.1).2.1, ((d16 l.2.1).2.2.1, ((d16 l.2.1).2.2.2.1, ((d20 l.2.1).1, ((d20 l.2.1).2.1, ((d20 l.2.1).2.2.1, ((d20 l.2.1).2.2.2.1, ((d24 l.2.1).1, ((d24 l.2.1).2.1, ((d24 l.2.1).2.2.1, ((d24 l.2.1).2.2.2.1, ((d28 l.2.1).1, ((d28 l.2.1).2.1, ((d28 l.2.1).2.2.1, ()))))))))))))))))))))))))))))))), ((s.2.2.1, (s.2.2.2.1, ((d4 s).1, ((d4 s).2.1, ((d4 s).2.2.1, ((d4 s).2.2.2.1, ((d8 s).1, ((d8 s).2.1, ((d8 s).2.2.1, ((d8 s).2.2.2.1, ((d12 s).1, ((d12 s).2.1, ((d12 s).2.2.1, ((d12 s).2.2.2.1, ((d16 s).1, ((d16 s).2.1, ((d16 s).2.2.1, ((d16 s).2.2.2.1, ((d20 s).1, ((d20 s).2.1, ((d20 s).2.2.1, ((d20 s).2.2.2.1, ((d24 s).1, ((d24 s).2.1, ((d24 s).2.2.1, ((d24 s).2.2.2.1, ((d28 s).1, ((d28 s).2.1, ((d28 s).2.2.1, ((d28 s).2.2.2.1, ((d32 s), ()))))))))))))))))))))))))))))))), ())))
def fl3 (l : T3) (s : S3) : Tw (S3 ⊕ X3) := l3 l.1.2.1 l.2.1.1 l.2.1.2.1 l.2.1.2.2.1 l.2.1.2.2.2.1 (d4 l.2.1).1 (d4 l.2.1).2.1 (d4 l.2.1).2.2.1 (d4 l.2.1).2.2.2.1 (d8 l.2.1).1 (d8 l.2.1).2.1 (d8 l.2.1).2.2.1 (d8 l.2.1).2.2.2.1 (d12 l.2.1).1 (d12 l.2.1).2.1 (d12 l.2.1).2.2.1 (d12 l.2.1).2.2.2.1 (d16 l.2.1).1 (d16 l.2.1).2.1 (d16 l.2.1).2.2.1 (d16 l.2.1).2.2.2.1 (d20 l.2.1).1 (d20 l.2.1).2.1 (d20 l.2.1).2.2.1 (d20 l.2.1).2.2.2.1 (d24 l.2.1).1 (d24 l.2.1).2.1 (d24 l.2.1).2.2.1 (d24 l.2.1).2.2.2.1 (d28 l.2.1).1 (d28 l.2.1).2.1 (d28 l.2.1).2.2.1 s.1 s.2.1 s.2.2.1 s.2.2.2.1 (d4 s).1 (d4 s).2.1 (d4 s).2.2.1 (d4 s).2.2.2.1 (d8 s).1 (d8 s).2.1 (d8 s).2.2.1 (d8 s).2.2.2.1 (d12 s).1 (d12 s).2.1 (d12 s).2.2.1 (d12 s).2.2.2.1 (d16 s).1 (d16 s).2.1 (d16 s).2.2.1 (d16 s).2.2.2.1 (d20 s).1 (d20 s).2.1 (d20 s).2.2.1 (d20 s).2.2.2.1 (d24 s).1 (d24 s).2.1 (d24 s).2.2.1 (d24 s).2.2.2.1 (d28 s).1 (d28 s).2.1 (d28 s).2.2.1 (d28 s).2.2.2.1 (d32 s)
def t (whole : (List Int)) (changes : (List (List Int))) : Tw XA :=
 (.opt (ref34_Take.c whole) fun z1 =>
 (.opt (L3 changes (d28 z1).2.2.2 (0 : Int) (0 : Int) (0 : Int) (0 : Int) false (0 : Int) (0 : Int) (0 : Int) (0 : Int) (0 : Int) (0 : Int) (0 : Int) (0 : Int) (0 : Int) (0 : Int) (0 : Int) (0 : Int) (0 : Int) (0 : Int) (0 : Int) (0 : Int) (0 : Int) (0 : Int) (0 : Int) (0 : Int) (0 : Int) (0 : Int) (0 : Int) (0 : Int) (0 : Int) (0 : Int) (0 : Int) z1.1 z1.2.1 z1.2.2.1 z1.2.2.2.1 (d4 z1).1 (d4 z1).2.1 (d4 z1).2.2.1 (d4 z1).2.2.2.1 (d8 z1).1 (d8 z1).2.1 (d8 z1).2.2.1 (d8 z1).2.2.2.1 (d12 z1).1 (d12 z1).2.1 (d12 z1).2.2.1 (d12 z1).2.2.2.1 (d16 z1).1 (d16 z1).2.1 (d16 z1).2.2.1 (d16 z1).2.2.2.1 (d20 z1).1 (d20 z1).2.1 (d20 z1).2.2.1 (d20 z1).2.2.2.1 (d24 z1).1 (d24 z1).2.1 (d24 z1).2.2.1 (d24 z1).2.2.2.1 (d28 z1).1 (d28 z1).2.1 (d28 z1).2.2.1) fun z4 =>
 (.ret (z4.2.1, (z4.2.2.1, (z4.2.2.2.1, ((d4 z4).1, ((d4 z4).2.1, ((d4 z4).2.2.1, ((d4 z4).2.2.2.1, ((d8 z4).1, ((d8 z4).2.1, ((d8 z4).2.2.1, ((d8 z4).2.2.2.1, ((d12 z4).1, ((d12 z4).2.1, ((d12 z4).2.2.1, ((d12 z4).2.2.2.1, ((d16 z4).1, ((d16 z4).2.1, ((d16 z4).2.2.1, ((d16 z4).2.2.2.1, ((d20 z4).1, ((d20 z4).2.1, ((d20 z4).2.2.1, ((d20 z4).2.2.2.1, ((d24 z4).1, ((d24 z4).2.1, ((d24 z4).2.2.1, ((d24 z4).2.2.2.1, ((d28 z4).1, ((d28 z4).2.1, ((d28 z4).2.2.1, ((d28 z4).2.2.2, z4.1))))))))))))))))))))))))))))))))))
def c (whole : (List Int)) (changes : (List (List Int))) : Option XA := (t whole changes).run
def tl (l : TA) : Tw XA := t l.1.1 l.1.2.1
def pA : Pt := (.cs (.sl 3) (.cs (.sl 12) .nl))
def pH : Pt := .nl
def v (l : TA) (y : XA) : AV U := .tup [.agg [jI y.1, jI y.2.1, jI y.2.2.1, jB y.2.2.2.1, jI (d4 y).1, jI (d4 y).2.1, jI (d4 y).2.2.1, jI (d4 y).2.2.2.1, .im (.int .u32 (d8 y).1), .im (.int .u32 (d8 y).2.1), .im (.int .u32 (d8 y).2.2.1), .im (.int .u32 (d8 y).2.2.2.1), .im (.int .u32 (d12 y).1), .im (.int .u32 (d12 y).2.1), .im (.int .u32 (d12 y).2.2.1), .im (.int .u32 (d12 y).2.2.2.1), jI (d16 y).1, jI (d16 y).2.1, jI (d16 y).2.2.1, .im (.int .u32 (d16 y).2.2.2.1), .im (.int .u32 (d20 y).1), .im (.int .u32 (d20 y).2.1), .im (.int .u32 (d20 y).2.2.1), .im (.int .u32 (d20 y).2.2.2.1), .im (.int .u32 (d24 y).1), .im (.int .u32 (d24 y).2.1), .im (.int .u32 (d24 y).2.2.1), jI (d24 y).2.2.2.1, jI (d28 y).1, jI (d28 y).2.1, jI (d28 y).2.2.1], jI (d28 y).2.2.2]
def hh (l : TA) (y : XA) : Hp U := []
def A : AFun U := mkA pA pH (X := XA) (fun l => (tl l).run) sp1 v hh
def body := bodyOf Try.f28
def E : Env U := E0.mk5 [(55, ref34_Take.A), (56, ref34_Apply.A)] [(3, Λ3)] [] [(3, ⟨[8, 6, 1, 4, 7], []⟩, ⟨[4, 5, 7, 6], []⟩)] []
theorem hf3 : HF E (pick (loopsOf body) 3) p3 q3 0 fl3 hd3 sp1 ou3 := fun _ _ _ _ => by kernel_rfl
theorem lk3 : LK E (pick (loopsOf body) 3) Λ3 := fun R st K r h =>
  lp_ok (E := E) (b := pick (loopsOf body) 3) (m := 0) (sp := sp1) (p := p3) (q := q3) (X := X3) (S := S3) (f := fl3) (hd := hd3) (s0 := fun (l : T3) => ((d4 l.1).2.2.1, ((d4 l.1).2.2.2.1, (l.2.2.1.1, (l.2.2.1.2.1, (l.2.2.1.2.2.1, (l.2.2.1.2.2.2.1, ((d4 l.2.2.1).1, ((d4 l.2.2.1).2.1, ((d4 l.2.2.1).2.2.1, ((d4 l.2.2.1).2.2.2.1, ((d8 l.2.2.1).1, ((d8 l.2.2.1).2.1, ((d8 l.2.2.1).2.2.1, ((d8 l.2.2.1).2.2.2.1, ((d12 l.2.2.1).1, ((d12 l.2.2.1).2.1, ((d12 l.2.2.1).2.2.1, ((d12 l.2.2.1).2.2.2.1, ((d16 l.2.2.1).1, ((d16 l.2.2.1).2.1, ((d16 l.2.2.1).2.2.1, ((d16 l.2.2.1).2.2.2.1, ((d20 l.2.2.1).1, ((d20 l.2.2.1).2.1, ((d20 l.2.2.1).2.2.1, ((d20 l.2.2.1).2.2.2.1, ((d24 l.2.2.1).1, ((d24 l.2.2.1).2.1, ((d24 l.2.2.1).2.2.1, ((d24 l.2.2.1).2.2.2.1, ((d28 l.2.2.1).1, ((d28 l.2.2.1).2.1, (d28 l.2.2.1).2.2.1))))))))))))))))))))))))))))))))) (ou := ou3)
    (fun l => rfl) (fun l x => by rfl) sp1_ok hf3 h
theorem hk : HK E Try.f28 [] pA pH tl v hh := fun _ _ _ => by kernel_rfl
theorem og : SoundF Try.prog cc 28 A ∧ FnOK Try.prog 28 :=
 og_of (E := E) P_mixed (E0_ok.mk5 _ _ _ _ _) (gam_of (all_cons ref34_Take.og (all_cons ref34_Apply.og all_nil)) no_ro) Try.func28 (c := body) (by kernel_rfl)
    (just_by (by kernel_rfl) (by kernel_rfl) (all_cons lk3 all_nil) all_nil) [] sp1_ok hk (by kernel_rfl)
end ref34_Fold

end
end Go.Proofs.Ytkoidgjgdhpdnaa.Va
