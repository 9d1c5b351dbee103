/- MASKED. New flashes and drives; power and fuses. -/
import Derived.Test.YtmlbioapefgioaaQFlash1
import Derived.Test.YtmlbioapefgioaaQDrive2
namespace Go.Proofs.Ytmlbioapefgioaa.Pure
open Go Go.Proofs.Ytmlbioapefgioaa.Va
set_option linter.unusedVariables false
set_option linter.unusedSimpArgs false

theorem flash_New_eqM {a b : Nat} (ha : 1 ≤ a) (ha' : a ≤ 512) (hb : 1 ≤ b) (hb' : b ≤ 1024) : flash_New.c (a : Int) (b : Int) = some (.inl (0, (flNew a b).C, (flNew a b).D, (flNew a b).A, (flNew a b).W, (flNew a b).V, (flNew a b).M)) := by
  have hN : a * b ≤ 524288 := mul_le ha' hb'
  have he : w64 ((a : Int) * (b : Int)) = ((a * b : Nat) : Int) := by rw [← Int.natCast_mul, w64_of (by omega) (by omega)]
  simp only [flash_New.c, flash_New.t, he, Int.toNat_natCast, List.length_replicate]
  rw [bb_neg (decide_eq_false (by omega)), bb_neg (decide_eq_false (by omega)), bb_neg (decide_eq_false (by omega)), bb_neg (decide_eq_false (by omega)), dd_pos (by omega), dd_pos (by omega), opt_some (flash_L5_eq _ hN ..), Tw.run_ret]
  rfl
end Go.Proofs.Ytmlbioapefgioaa.Pure
