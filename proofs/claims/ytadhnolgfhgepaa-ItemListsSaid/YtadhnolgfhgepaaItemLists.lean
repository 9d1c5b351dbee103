/- The plain truth of ItemLists. -/
import Derived.Test.YtadhnolgfhgepaaFlaw18
import Derived.Test.YtadhnolgfhgepaaQAwake18
namespace Go.Proofs.Ytadhnolgfhgepaa.Pure
open Go Go.Proofs.Ytadhnolgfhgepaa.Va
set_option linter.unusedVariables false
set_option linter.unusedSimpArgs false

theorem ItemLists (a0 : List ItemV) (a1 : List ItemV) (a2_0 : Int) (a2_1 : ByteArray) (w0 : a0.length * 24 ≤ reachBytes) (w1 : ∀ x2 ∈ a0, InR .u32 x2.key ∧ x2.data.size ≤ reachBytes) (w2 : a1.length * 24 ≤ reachBytes) (w3 : ∀ x6 ∈ a1, InR .u32 x6.key ∧ x6.data.size ≤ reachBytes) (w4 : InR .u32 a2_0) (w5 : a2_1.size ≤ reachBytes) : law18_ItemLists.c a0 a1 a2_0 a2_1 = some true := by
  have hl0 : a0.length ≤ 140737488351232 := by rw [reach_eq] at w0; omega
  have hi : Its a0 := w1
  have hc : (cutI a0 a2_0).length ≤ 140737488351232 := Nat.le_trans (List.length_filter_le _ _) hl0
  have hp : (putI a0 a2_0 a2_1).length ≤ 140737488351232 := by
    have := put_len a0 a2_0
    rw [reach_eq] at w0
    unfold putI
    simp only [List.length_append, List.length_cons, List.length_nil]
    omega
  have hm : (a0.filter fun x => ownK x.key).length ≤ 140737488351232 := Nat.le_trans (List.length_filter_le _ _) hl0
  have hs : (a0.filter fun x => !ownK x.key).length ≤ 140737488351232 := Nat.le_trans (List.length_filter_le _ _) hl0
  simp only [law18_ItemLists.c, law18_ItemLists.t, Tw.run_opt, Tw.run_bb, Tw.run_ret, item_Find_eq hl0, ref18_Find_eq hl0, item_Cut_eq w0, ref18_Cut_eq w0, ref18_Same_eq hc, item_Right_eq hl0, ref18_Right_eq hl0,
    item_Same_eq hl0, ref18_Same_eq hl0, item_Put_eq w0, ref18_Put_eq hi w0 w4, ref18_Same_eq hp, item_Mains_eq w0, ref18_Mains_eq hi w0, ref18_Same_eq hm, item_Sides_eq w0, ref18_Sides_eq hi w0, ref18_Same_eq hs, Option.bind_some, awake18]
  simp

end Go.Proofs.Ytadhnolgfhgepaa.Pure
