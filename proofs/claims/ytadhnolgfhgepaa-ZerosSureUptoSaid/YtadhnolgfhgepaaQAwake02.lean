/- Layer 2: what must come at any rate, comes. -/
import Derived.Test.YtadhnolgfhgepaaQZeros
import Derived.Test.YtadhnolgfhgepaaFlaw02
namespace Go.Proofs.Ytadhnolgfhgepaa.Pure
open Go Go.Proofs.Ytadhnolgfhgepaa.Va
set_option linter.unusedVariables false
set_option linter.unusedSimpArgs false

theorem words2 (a b : Int) (ha : InR .u32 a) (hb : InR .u32 b) : Words [a, b] := by
  intro x hx
  simp only [List.mem_cons, List.not_mem_nil, or_false] at hx
  rcases hx with rfl | rfl
  · exact ha
  · exact hb

theorem awake02 : law02_awake.c = some true := by
  have h1 : zeros_Twin.c 1 = some (4294836225, 0) := (zeros_Twin_eq 1 (by decide)).trans (by decide)
  have h2 : zeros_Sum.c [0, 1] = some 63 := (zeros_Sum_eq (words2 0 1 (by decide) (by decide)) (by decide)).trans (by simp [zs, zsum, zer, pop])
  have h3 : zeros_Right.c [0, 32] = some true := (zeros_Right_eq (words2 0 32 (by decide) (by decide)) (by decide)).trans (by simp [rightB, zs, zsum, zer, pop])
  have h4 : zeros_Right_none0.c = some false := by simp only [zeros_Right_none0.c, zeros_Right_none0.t, Tw.run_ret]
  simp only [law02_awake.c, law02_awake.t, Tw.run_opt, Tw.run_bb, Tw.run_ret, h1, h2, h3, h4, Option.bind_some]
  decide

end Go.Proofs.Ytadhnolgfhgepaa.Pure
