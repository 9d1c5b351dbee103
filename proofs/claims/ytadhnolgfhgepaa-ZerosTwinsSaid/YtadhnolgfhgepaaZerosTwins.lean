/- The plain truth of ZerosTwins. -/
import Derived.Test.YtadhnolgfhgepaaFlaw02
import Derived.Test.YtadhnolgfhgepaaQAwake02
namespace Go.Proofs.Ytadhnolgfhgepaa.Pure
open Go Go.Proofs.Ytadhnolgfhgepaa.Va
set_option linter.unusedVariables false
set_option linter.unusedSimpArgs false

theorem ZerosTwins (a0 : Int) (a1 : Int) (w0 : InR .i64 a0) (w1 : InR .u32 a1) : law02_ZerosTwins.c a0 a1 = some true := by
  have hn := w0.i64
  simp only [law02_ZerosTwins.c, law02_ZerosTwins.t, Tw.run_opt, Tw.run_bb, Tw.run_ret, zeros_Told_eq w1, ref02_Told_eq w1, zeros_Twin_eq a0 w0, Option.bind_some, awake02, decide_eq_true_eq]
  by_cases h : a0 < 0 ∨ a0 > 65535
  · rw [if_pos h]
    rcases h with h | h
    · simp [h]
    · simp [h]
  · rw [if_neg h]
    have h0 : 0 ≤ a0 := by omega
    have h1 : a0 ≤ 65535 := by omega
    simp only [zeros_Told_eq (twin_range h0 h1), ref02_Twin_eq h0 h1, toldR_twin h0 h1, Option.bind_some]
    simp [show ¬ a0 < 0 by omega, show ¬ 65535 < a0 by omega]

end Go.Proofs.Ytadhnolgfhgepaa.Pure
