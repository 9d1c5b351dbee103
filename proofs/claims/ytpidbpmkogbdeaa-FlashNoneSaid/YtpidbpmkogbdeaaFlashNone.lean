/- The plain truth of FlashNone. -/
import Derived.Test.YtpidbpmkogbdeaaFlaw07
import Derived.Test.YtpidbpmkogbdeaaFlaw07FlashNone
import Derived.Test.YtpidbpmkogbdeaaQFlash1
namespace Go.Proofs.Ytpidbpmkogbdeaa.Pure
open Go Go.Proofs.Ytpidbpmkogbdeaa.Va
set_option linter.unusedVariables false
set_option linter.unusedSimpArgs false

theorem FlashNone (a0_0 : Int) (a0_1 : Int) (a0_2 : Int) (a0_3 : List Int) (w0 : InR .i64 a0_0) (w1 : InR .i64 a0_1) (w2 : InR .u32 a0_2) (w3 : a0_3.length * 4 ≤ reachBytes) (w4 : ∀ x5 ∈ a0_3, InR .u32 x5) : law07_FlashNone.c a0_0 a0_1 a0_2 a0_3 = some true := by
  have e0 : flash_Flash_Read_nil0.c a0_1 = some (0, 1) := by
    simp only [flash_Flash_Read_nil0.c, flash_Flash_Read_nil0.t]
    rfl
  have e1 : flash_Flash_Program_nil0.c a0_1 a0_2 = some 1 := rfl
  have e2 : flash_Flash_Erase_nil0.c a0_1 = some 1 := rfl
  have e3 : flash_Flash_Wear_nil0.c a0_1 = some 0 := by
    simp only [flash_Flash_Wear_nil0.c, flash_Flash_Wear_nil0.t, flash_Flash_Size_nil0.c, flash_Flash_Size_nil0.t]
    rw [opt_some (Tw.run_ret _)]
    by_cases h : a0_1 < 0
    · rw [bb_pos (decide_eq_true h), Tw.run_ret]
    · rw [bb_neg (decide_eq_false h), bb_pos (decide_eq_true (by simpa using h)), Tw.run_ret]
  simp only [law07_FlashNone.c, law07_FlashNone.t]
  rw [opt_some e0, opt_some (x := ((0 : Int), (0 : Int))) (by rfl), opt_some (x := ()) (by rfl), opt_some (x := ()) (by rfl), bb_pos (by decide), bb_pos (by decide), opt_some e1, bb_pos (by decide), opt_some e2, bb_pos (by decide), opt_some (x := (0 : Int)) (by rfl),
    opt_some e3, opt_some (x := ()) (by rfl), bb_pos (by decide), opt_some (x := true) (by rfl), bb_pos (by decide), opt_some (x := ()) (by rfl), opt_some awake07, Tw.run_ret]

end Go.Proofs.Ytpidbpmkogbdeaa.Pure
