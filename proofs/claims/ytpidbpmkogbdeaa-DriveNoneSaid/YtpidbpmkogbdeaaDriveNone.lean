/- The plain truth of DriveNone. -/
import Derived.Test.YtpidbpmkogbdeaaFlaw09
import Derived.Test.YtpidbpmkogbdeaaFlaw09DriveNone
import Derived.Test.YtpidbpmkogbdeaaQDrive2
namespace Go.Proofs.Ytpidbpmkogbdeaa.Pure
open Go Go.Proofs.Ytpidbpmkogbdeaa.Va
set_option linter.unusedVariables false
set_option linter.unusedSimpArgs false

theorem none_read (a b c : Int) : drive_Drive_Read_nil0.c a b c = some (1, []) := by
  simp only [drive_Drive_Read_nil0.c, drive_Drive_Read_nil0.t]
  rw [opt_some (x := ((0 : Int), (1 : Int))) (by rfl), bb_pos (by rfl), Tw.run_ret]
theorem none_blank (a b : Int) : drive_Drive_Blank_nil0.c a b = some (false, 1) := by
  simp only [drive_Drive_Blank_nil0.c, drive_Drive_Blank_nil0.t]
  rw [opt_some (x := (0 : Int)) (by rfl), opt_some (none_read ..), bb_pos (by rfl), Tw.run_ret]
theorem none_write (a b : Int) (w : List Int) : drive_Drive_Write_nil0.c a b w = some 1 := by
  simp only [drive_Drive_Write_nil0.c, drive_Drive_Write_nil0.t]
  rw [opt_some (none_read ..), bb_pos (by rfl), Tw.run_ret]
theorem none_clean (a : Int) : drive_Drive_Clean_nil0.c a = some 1 := by
  simp only [drive_Drive_Clean_nil0.c, drive_Drive_Clean_nil0.t]
  rw [opt_some (none_blank ..), bb_pos (by rfl), Tw.run_ret]
theorem none_fresh (a : Int) (w : List Int) : drive_Drive_Fresh_nil0.c a w = some 1 := by
  simp only [drive_Drive_Fresh_nil0.c, drive_Drive_Fresh_nil0.t]
  rw [opt_some (x := ((0 : Int), (1 : Int))) (by rfl), bb_pos (by rfl), Tw.run_ret]

theorem DriveNone (a0_0 : Int) (a0_1 : Int) (a0_2 : Int) (a0_3 : Int) (a0_4 : Int) (a0_5 : Int) (a1_0 : Int) (a1_1 : Int) (a2_0 : Int) (a2_1 : Int) (a2_2 : Int) (a2_3 : Int) (a2_4 : List Int) (w0 : InR .i64 a0_0) (w1 : InR .i64 a0_1) (w2 : InR .i64 a0_2) (w3 : InR .i64 a0_3) (w4 : InR .i64 a0_4) (w5 : InR .i64 a0_5) (w6 : InR .i64 a1_0) (w7 : InR .i64 a1_1) (w8 : InR .i64 a2_0) (w9 : InR .i64 a2_1) (w10 : InR .i64 a2_2) (w11 : InR .i64 a2_3) (w12 : a2_4.length * 4 ≤ reachBytes) (w13 : ∀ x14 ∈ a2_4, InR .u32 x14) : law09_DriveNone.c a0_0 a0_1 a0_2 a0_3 a0_4 a0_5 a1_0 a1_1 a2_0 a2_1 a2_2 a2_3 a2_4 = some true := by
  have hr : GeoR a0_0 a0_1 a0_2 a0_3 a0_4 a0_5 := ⟨w0, w1, w2, w3, w4, w5⟩
  simp only [law09_DriveNone.c, law09_DriveNone.t]
  by_cases c0 : ((a2_4.length : Nat) : Int) > 200
  · rw [bb_pos (decide_eq_true c0), opt_some awake09, Tw.run_ret]
  rw [bb_neg (decide_eq_false c0)]
  by_cases c1 : a1_0 > 100 <;> by_cases c2 : a1_0 ≤ 512 <;> by_cases c3 : a1_1 > 128 <;> by_cases c4 : a1_1 ≤ 1024
  all_goals
    first | rw [bb_pos (decide_eq_true c1)] | rw [bb_neg (decide_eq_false c1)]
    try (first | rw [bb_pos (decide_eq_true c2)] | rw [bb_neg (decide_eq_false c2)])
    try (first | rw [bb_pos (decide_eq_true c3)] | rw [bb_neg (decide_eq_false c3)])
    try (first | rw [bb_pos (decide_eq_true c4)] | rw [bb_neg (decide_eq_false c4)])
    first
    | rw [opt_some awake09, Tw.run_ret]; done
    | rw [opt_some (none_read ..), opt_some (none_blank ..), bb_neg (by rfl), bb_neg (by rfl), bb_neg (by rfl), bb_neg (by rfl), opt_some (none_write ..), bb_neg (by rfl), opt_some (none_clean ..), bb_neg (by rfl), opt_some (none_fresh ..), bb_neg (by rfl),
        opt_some (x := ((0 : Int), (0 : Int), (0 : Int), (0 : Int), (0 : Int), (0 : Int))) (by rfl), bb_neg (by rfl)]
      by_cases key : 1 ≤ a1_0 ∧ a1_0 ≤ 512 ∧ 1 ≤ a1_1 ∧ a1_1 ≤ 1024
      · have ea : a1_0 = ((a1_0.toNat : Nat) : Int) := by omega
        have eb : a1_1 = ((a1_1.toNat : Nat) : Int) := by omega
        generalize a1_0.toNat = na at ea
        generalize a1_1.toNat = nb at eb
        subst ea eb
        rw [opt_some (flash_New_eq (by omega) (by omega) (by omega) (by omega)), sm_inl, opt_some (drive_New_eq hr ..)]
        have hl : (((flNew na nb).V.length : Nat) : Int) = (na : Int) := by simp [flNew]
        rw [hl]
        by_cases ok : GeoOK a0_0 a0_1 a0_2 a0_3 a0_4 a0_5
        · have hm : ((mapL a0_1.toNat (2 + 2 * a0_1.toNat + a0_2.toNat)).length : Int) = 2 + 2 * a0_1 + a0_2 := by
            have ok' := ok
            unfold GeoOK at ok'
            rw [mapL_len]
            omega
          by_cases h1 : (na : Int) = 2 + 2 * a0_1 + a0_2
          · by_cases h2 : (nb : Int) = a0_0
            · rw [if_pos ⟨ok, h1, h2⟩, sm_inl, opt_some (ref08_Right_eq hr), decide_eq_true ok, bb_neg (by rfl), opt_some (ref08_Map_eq hr), if_pos ok, hm, bb_neg (by rw [h1]; simp), bb_neg (by rw [h2]; simp), bb_pos (by rfl), opt_some awake09, Tw.run_ret]
            · rw [if_neg (fun h => h2 h.2.2), sm_inr, opt_some (ref08_Right_eq hr), decide_eq_true ok, bb_neg (by rfl), opt_some (ref08_Map_eq hr), if_pos ok, hm, bb_neg (by rw [h1]; simp), bb_pos (by simpa using h2), bb_pos (by rfl), opt_some awake09, Tw.run_ret]
          · rw [if_neg (fun h => h1 h.2.1), sm_inr, opt_some (ref08_Right_eq hr), decide_eq_true ok, bb_neg (by rfl), opt_some (ref08_Map_eq hr), if_pos ok, hm, bb_pos (by simpa using h1), bb_pos (by rfl), opt_some awake09, Tw.run_ret]
        · rw [if_neg (fun h => ok h.1), sm_inr, opt_some (ref08_Right_eq hr), decide_eq_false ok, bb_pos (by rfl), bb_pos (by rfl), opt_some awake09, Tw.run_ret]
      · rw [opt_some (flash_New_none key), sm_inr, opt_some (x := (1 : Int)) (by rfl), bb_pos (by rfl), opt_some awake09, Tw.run_ret]

end Go.Proofs.Ytpidbpmkogbdeaa.Pure
