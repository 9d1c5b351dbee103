/- The plain truth of ZerosSums. -/
import Derived.Test.YtadhnolgfhgepaaFlaw02
import Derived.Test.YtadhnolgfhgepaaQAwake02
namespace Go.Proofs.Ytadhnolgfhgepaa.Pure
open Go Go.Proofs.Ytadhnolgfhgepaa.Va
set_option linter.unusedVariables false
set_option linter.unusedSimpArgs false

theorem ZerosSums (a0 : List Int) (w0 : a0.length * 4 ≤ reachBytes) (w1 : ∀ x2 ∈ a0, InR .u32 x2) : law02_ZerosSums.c a0 = some true := by
  have hw : Words a0 := w1
  have hl : a0.length ≤ 140737488351232 := by rw [reach_eq] at w0; omega
  have h5 := ref01_Same_eq (a := a0 ++ [zs a0]) (b := a0 ++ [zs a0]) (by
    rw [reach_eq] at w0
    simp
    omega)
  simp only [law02_ZerosSums.c, law02_ZerosSums.t, Tw.run_opt, Tw.run_bb, Tw.run_ret, zeros_Sum_eq hw hl, ref02_Sum_eq hw hl, zeros_Seal_eq hw w0, ref02_Seal_eq hw w0, h5, zeros_Right_eq hw hl, ref02_Right_eq hw hl, Option.bind_some, awake02]
  simp

end Go.Proofs.Ytadhnolgfhgepaa.Pure
