/- The plain truth of WordPacks. -/
import Derived.Test.YtadhnolgfhgepaaFlaw01
import Derived.Test.YtadhnolgfhgepaaQAwake01
namespace Go.Proofs.Ytadhnolgfhgepaa.Pure
open Go Go.Proofs.Ytadhnolgfhgepaa.Va
set_option linter.unusedVariables false
set_option linter.unusedSimpArgs false

theorem WordPacks (a0 : List Int) (a1 : List Int) (a2 : Int) (w0 : a0.length * 1 ≤ reachBytes) (w1 : ∀ x2 ∈ a0, InR .u8 x2) (w2 : a1.length * 4 ≤ reachBytes) (w3 : ∀ x5 ∈ a1, InR .u32 x5) (w4 : InR .i64 a2) : law01_WordPacks.c a0 a1 a2 = some true := by
  have hb : Bytes a0 := w1
  have hw : Words a1 := w3
  have h1 := word_Bytes_eq hw w2 w4
  have h2 := ref01_Bytes_eq hw w2 w4
  have h3 := word_Pack_eq hb w0
  have h4 := ref01_Pack_eq hb w0
  have h5 := ref01_Same_eq (a := packW a0 (needN a0.length)) (b := packW a0 (needN a0.length)) (by
    have : (packW a0 (needN a0.length)).length = needN a0.length := by simp [packW]
    rw [this]
    rw [reach_eq] at w0
    unfold needN
    omega)
  simp only [law01_WordPacks.c, law01_WordPacks.t, Tw.run_opt, Tw.run_bb, Tw.run_ret, h1, h2, h3, h4, h5, word_Need_eq a2 w4, ref01_Need_eq a2 w4, Option.bind_some, awake01]
  simp

end Go.Proofs.Ytadhnolgfhgepaa.Pure
