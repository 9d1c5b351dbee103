/- The plain truth of SlotNone. -/
import Derived.Test.YtnlclchlnngdnaaFlaw32
import Derived.Test.YtnlclchlnngdnaaFlaw32SlotNone
import Derived.Test.YtnlclchlnngdnaaQAwake32
namespace Go.Proofs.Ytnlclchlnngdnaa.Pure
open Go Go.Proofs.Ytnlclchlnngdnaa.Va
set_option linter.unusedVariables false
set_option linter.unusedSimpArgs false

theorem SlotNone (a0_0_0 : Int) (a0_0_1 : Int) (a0_0_2 : Int) (a0_0_3 : Int) (a0_0_4 : Int) (a0_0_5 : Int) (a0_1 : Int) (a0_2 : List Act32) (a1_0 : Int) (a1_1 : Int) (a1_2 : Int) (a1_3 : List Int) (a1_4 : List Int) (w0 : InR .i64 a0_0_0) (w1 : InR .i64 a0_0_1) (w2 : InR .i64 a0_0_2) (w3 : InR .i64 a0_0_3) (w4 : InR .i64 a0_0_4) (w5 : InR .i64 a0_0_5) (w6 : InR .i64 a0_1) (w7 : a0_2.length * 72 ≤ reachBytes) (w8 : ∀ x9 ∈ a0_2, InR .i64 x9.kind ∧ InR .i64 x9.slot ∧ InR .i64 x9.i ∧ x9.b.length * 1 ≤ reachBytes ∧ (∀ x14 ∈ x9.b, InR .u8 x14) ∧ x9.masks.length * 4 ≤ reachBytes ∧ (∀ x17 ∈ x9.masks, InR .u32 x17)) (w9 : InR .i64 a1_0) (w10 : InR .i64 a1_1) (w11 : InR .i64 a1_2) (w12 : a1_3.length * 1 ≤ reachBytes) (w13 : ∀ x23 ∈ a1_3, InR .u8 x23) (w14 : a1_4.length * 4 ≤ reachBytes) (w15 : ∀ x26 ∈ a1_4, InR .u32 x26) : law32_SlotNone.c a0_0_0 a0_0_1 a0_0_2 a0_0_3 a0_0_4 a0_0_5 a0_1 a0_2 a1_0 a1_1 a1_2 a1_3 a1_4 = some true := by
  have h0 : ∀ a b : Int, slot_fine_nil0.c a b = some 1 := fun _ _ => rfl
  have h1 : slot_Done_nil0.c a1_1 a0_1 = some (0, 1) := by
    simp only [slot_Done_nil0.c, slot_Done_nil0.t]
    rw [opt_some (h0 ..), bb_pos (by rfl), Tw.run_ret]
  have h2 : slot_Bytes_nil0.c a1_1 a0_1 = some (1, []) := by
    simp only [slot_Bytes_nil0.c, slot_Bytes_nil0.t]
    rw [opt_some (h0 ..), bb_pos (by rfl), Tw.run_ret]
  have h3 : slot_Begin_nil0.c a1_1 = some 1 := by
    simp only [slot_Begin_nil0.c, slot_Begin_nil0.t]
    rw [opt_some (h0 ..), bb_pos (by rfl), Tw.run_ret]
  have h4 : slot_Chunk_nil0.c a1_1 a0_1 a1_2 a1_3 = some 1 := by
    simp only [slot_Chunk_nil0.c, slot_Chunk_nil0.t]
    rw [opt_some (h0 ..), bb_pos (by rfl), Tw.run_ret]
  simp only [law32_SlotNone.c, law32_SlotNone.t]
  rw [opt_some h1, opt_some h2, bb_pos (by rfl), bb_pos (by rfl), bb_pos (by rfl), bb_pos (by rfl), opt_some h3, bb_pos (by rfl), opt_some h4, bb_pos (by rfl), opt_some awake32, Tw.run_ret]

end Go.Proofs.Ytnlclchlnngdnaa.Pure
