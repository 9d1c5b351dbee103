/- Flash: acts, new flashes, what must come at any rate. -/
import Derived.Test.YtmlbioapefgioaaQFlash
namespace Go.Proofs.Ytmlbioapefgioaa.Pure
open Go Go.Proofs.Ytmlbioapefgioaa.Va
set_option linter.unusedVariables false
set_option linter.unusedSimpArgs false

/-- How often a sector was erased. -/
def wearF (V : List Int) (k : Int) : Int := if k < 0 ∨ k ≥ V.length then 0 else V.getD k.toNat 0
theorem flash_Wear_eq (k n C : Int) (D : Bool) (A : Int) (W V M : List Int) : flash_Flash_Wear.c k n C D A W V M = some (wearF V k) := by
  simp only [flash_Flash_Wear.c, flash_Flash_Wear.t, flash_Flash_Size.c, flash_Flash_Size.t]
  rw [opt_some (Tw.run_ret _)]
  unfold wearF
  by_cases h1 : k < 0
  · rw [bb_pos (decide_eq_true h1), if_pos (Or.inl h1), Tw.run_ret]
  rw [bb_neg (decide_eq_false h1)]
  by_cases h2 : k ≥ (V.length : Int)
  · rw [bb_pos (decide_eq_true h2), if_pos (Or.inr h2), Tw.run_ret]
  rw [bb_neg (decide_eq_false h2), if_neg (by omega), dd_pos (by omega), opt_some (word_some (by omega)), Tw.run_ret]
/-! New flashes. -/
/-- A new flash. -/
def flNew (a b : Nat) : Fl := ⟨0, false, -1, List.replicate (a * b) 4294967295, List.replicate a 0, []⟩
theorem flNew_ok {a b : Nat} (ha : 1 ≤ a) (ha' : a ≤ 512) (hb : 1 ≤ b) (hb' : b ≤ 1024) : FlOK b (flNew a b) :=
  ⟨hb, hb', by simpa [flNew] using ha', by simp [flNew], fun x hx => by rw [List.eq_of_mem_replicate hx]; exact inR_u32 (by decide), words_nil, by simp [flNew], inR_i64 (by simp [flNew])⟩
theorem ones_set (N i : Nat) (h : i < N) : (List.replicate i (4294967295 : Int) ++ List.replicate (N - i) 0).set i 4294967295 = List.replicate (i + 1) 4294967295 ++ List.replicate (N - (i + 1)) 0 := by
  rw [List.set_append_right _ _ (by simp), show N - i = (N - (i + 1)) + 1 by omega, List.replicate_succ, List.length_replicate, Nat.sub_self, List.set_cons_zero, List.replicate_succ', List.append_assoc]
  rfl
theorem flash_L5_eq (N : Nat) (hN : N ≤ 524288) (n C : Int) (D : Bool) (A : Int) (V : List Int) : flash_New.L5 (N : Int) 0 n C D A (List.replicate N 0) V = some (List.replicate N 4294967295) := by
  unfold flash_New.L5
  have := Lp_seq (fun s : Int × List Int => (flash_New.l5 (N : Int) n C D A V s.1 s.2).run) (fun i : Nat => ((i : Int), List.replicate i (4294967295 : Int) ++ List.replicate (N - i) 0)) (x := List.replicate N 4294967295) N 0 (fun i _ hi => by
    have hi' : i < N := by omega
    simp only [flash_New.l5]
    have hl : (List.replicate i (4294967295 : Int) ++ List.replicate (N - i) 0).length = N := by simp; omega
    rw [bb_pos (decide_eq_true (by omega)), dd_pos (by omega), Int.toNat_natCast, opt_some (word_some (by omega)), Tw.run_ret, ones_set N i hi', w64_of (by omega) (by omega)]
    rfl) (by
    simp only [flash_New.l5, Nat.zero_add]
    rw [bb_neg (decide_eq_false (by omega)), Tw.run_ret, Nat.sub_self, List.replicate_zero, List.append_nil])
  simpa using this
/-! Without masks. -/
end Go.Proofs.Ytmlbioapefgioaa.Pure
