/- The plain truth of ItemKeys. -/
import Derived.Test.YtadhnolgfhgepaaFlaw18
import Derived.Test.YtadhnolgfhgepaaQAwake18
namespace Go.Proofs.Ytadhnolgfhgepaa.Pure
open Go Go.Proofs.Ytadhnolgfhgepaa.Va
set_option linter.unusedVariables false
set_option linter.unusedSimpArgs false

theorem ItemKeys (a0_0 : Int) (a0_1 : Int) (a0_2 : Int) (a1 : Int) (w0 : InR .i64 a0_0) (w1 : InR .i64 a0_1) (w2 : InR .i64 a0_2) (w3 : InR .u32 a1) : law18_ItemKeys.c a0_0 a0_1 a0_2 a1 = some true := by
  have h0 := w0.i64
  have h1 := w1.i64
  have h2 := w2.i64
  have hk := w3.u32
  simp only [law18_ItemKeys.c, law18_ItemKeys.t, Tw.run_opt, Tw.run_bb, Tw.run_ret, item_Main_eq, item_Side_eq _ _ _ w0, item_Told_eq w3, ref18_Told_eq w3, ref18_Fits_eq, Option.bind_some, awake18]
  by_cases hf : 0 ≤ a0_1 ∧ a0_1 ≤ 200 ∧ 0 ≤ a0_2 ∧ a0_2 ≤ 65535
  · have em : mainR a0_1 a0_2 = (a0_1 * 65536 + a0_2, 0) := if_neg (by omega)
    have hm : InR .u32 (a0_1 * 65536 + a0_2) := inR_u32 (by omega)
    have et : toldK (a0_1 * 65536 + a0_2) = (-1, (a0_1, a0_2)) := by
      unfold toldK
      rw [Prod.mk.injEq, Prod.mk.injEq]
      omega
    simp only [em, item_Told_eq hm, ref18_Main_eq hf, et, Option.bind_some, decide_eq_true hf]
    by_cases hn : 0 ≤ a0_0 ∧ a0_0 ≤ 199
    · have es : sideR a0_0 a0_1 a0_2 = ((a0_0 + 1) * 16777216 + (a0_1 * 65536 + a0_2), 0) := if_neg (by omega)
      have hs : InR .u32 ((a0_0 + 1) * 16777216 + (a0_1 * 65536 + a0_2)) := inR_u32 (by omega)
      have et2 : toldK ((a0_0 + 1) * 16777216 + (a0_1 * 65536 + a0_2)) = (a0_0, (a0_1, a0_2)) := by
        unfold toldK
        rw [Prod.mk.injEq, Prod.mk.injEq]
        omega
      simp only [es, item_Told_eq hs, ref18_Side_eq hf hn, et2, Option.bind_some]
      simp [show ¬ a0_0 < 0 by omega, show ¬ a0_0 > 199 by omega]
    · have es : sideR a0_0 a0_1 a0_2 = (0, 2) := if_pos (by omega)
      simp only [es]
      by_cases hneg : a0_0 < 0
      · simp [hneg]
      · simp [hneg, show a0_0 > 199 by omega]
  · have em : mainR a0_1 a0_2 = (0, 2) := if_pos (by omega)
    have es : sideR a0_0 a0_1 a0_2 = (0, 2) := if_pos (by omega)
    simp [em, es, hf]

end Go.Proofs.Ytadhnolgfhgepaa.Pure
