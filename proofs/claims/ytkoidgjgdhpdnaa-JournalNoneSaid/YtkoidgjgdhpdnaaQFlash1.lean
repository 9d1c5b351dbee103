/- Flash: acts, new flashes, what must come at any rate. -/
import Derived.Test.YtkoidgjgdhpdnaaQFlash
import Derived.Test.YtkoidgjgdhpdnaaFslices
namespace Go.Proofs.Ytkoidgjgdhpdnaa.Pure
open Go Go.Proofs.Ytkoidgjgdhpdnaa.Va
set_option linter.unusedVariables false
set_option linter.unusedSimpArgs false

theorem clone32_eq {l : List Int} (h : l.length * 4 ≤ 140737488355328) : slices_Clone__uint32uint32.c l = some l := by
  simp only [slices_Clone__uint32uint32.c, slices_Clone__uint32uint32.t]
  rw [dd_pos (by simp; omega)]
  rfl
/-- How often a sector was erased. -/
def wearF (V : List Int) (k : Int) : Int := if k < 0 ∨ k ≥ V.length then 0 else V.getD k.toNat 0
/-! New flashes. -/
/-- A new flash. -/
def flNew (a b : Nat) : Fl := ⟨0, false, -1, List.replicate (a * b) 4294967295, List.replicate a 0, []⟩
theorem flNew_ok {a b : Nat} (ha : 1 ≤ a) (ha' : a ≤ 512) (hb : 1 ≤ b) (hb' : b ≤ 1024) : FlOK b (flNew a b) :=
  ⟨hb, hb', by simpa [flNew] using ha', by simp [flNew], fun x hx => by rw [List.eq_of_mem_replicate hx]; exact inR_u32 (by decide), words_nil, by simp [flNew], inR_i64 (by simp [flNew])⟩
theorem ones_set (N i : Nat) (h : i < N) : (List.replicate i (4294967295 : Int) ++ List.replicate (N - i) 0).set i 4294967295 = List.replicate (i + 1) 4294967295 ++ List.replicate (N - (i + 1)) 0 := by
  rw [List.set_append_right _ _ (by simp), show N - i = (N - (i + 1)) + 1 by omega, List.replicate_succ, List.length_replicate, Nat.sub_self, List.set_cons_zero, List.replicate_succ', List.append_assoc]
  rfl
theorem flash_L5_eq (N : Nat) (hN : N ≤ 524288) (n C : Int) (D : Bool) (A : Int) (V : List Int) : flash_New.L5 (N : Int) 0 n C D A (List.replicate N 0) V = some (List.replicate N 4294967295) := by
  unfold flash_New.L5
  have := Lp_seq (fun s : Int × List Int => (flash_New.l5 (N : Int) n C D A V s.1 s.2).run) (fun i : Nat => ((i : Int), List.replicate i (4294967295 : Int) ++ List.replicate (N - i) 0)) (x := List.replicate N 4294967295) N 0 (fun i _ hi => by
    have hi' : i < N := by omega
    simp only [flash_New.l5]
    have hl : (List.replicate i (4294967295 : Int) ++ List.replicate (N - i) 0).length = N := by simp; omega
    rw [bb_pos (decide_eq_true (by omega)), dd_pos (by omega), Int.toNat_natCast, opt_some (word_some (by omega)), Tw.run_ret, ones_set N i hi', w64_of (by omega) (by omega)]
    rfl) (by
    simp only [flash_New.l5, Nat.zero_add]
    rw [bb_neg (decide_eq_false (by omega)), Tw.run_ret, Nat.sub_self, List.replicate_zero, List.append_nil])
  simpa using this
theorem ref07_L5_eq (a b N : Nat) (hN : N ≤ 524288) (he : w64 ((a : Int) * (b : Int)) = (N : Int)) (n C : Int) (D : Bool) (A : Int) (V : List Int) : ref07_New.L5 (a : Int) (b : Int) 0 n C D A [] V = some (List.replicate N 4294967295) := by
  unfold ref07_New.L5
  have := Lp_seq (fun s : Int × List Int => (ref07_New.l5 (a : Int) (b : Int) n C D A V s.1 s.2).run) (fun i : Nat => ((i : Int), List.replicate i (4294967295 : Int))) (x := List.replicate N 4294967295) N 0 (fun i _ hi => by
    have hi' : i < N := by omega
    simp only [ref07_New.l5, he]
    rw [bb_pos (decide_eq_true (by omega)), dd_pos (by simp; omega), Tw.run_ret, w64_of (by omega) (by omega), ← List.replicate_succ']
    rfl) (by
    simp only [ref07_New.l5, Nat.zero_add, he]
    rw [bb_neg (decide_eq_false (by omega)), Tw.run_ret])
  simpa using this
theorem flash_New_eq {a b : Nat} (ha : 1 ≤ a) (ha' : a ≤ 512) (hb : 1 ≤ b) (hb' : b ≤ 1024) : flash_New.c (a : Int) (b : Int) = some (.inl (0, (flNew a b).C, (flNew a b).D, (flNew a b).A, (flNew a b).W, (flNew a b).V)) := by
  have hN : a * b ≤ 524288 := mul_le ha' hb'
  have he : w64 ((a : Int) * (b : Int)) = ((a * b : Nat) : Int) := by rw [← Int.natCast_mul, w64_of (by omega) (by omega)]
  simp only [flash_New.c, flash_New.t, he, Int.toNat_natCast, List.length_replicate]
  rw [bb_neg (decide_eq_false (by omega)), bb_neg (decide_eq_false (by omega)), bb_neg (decide_eq_false (by omega)), bb_neg (decide_eq_false (by omega)), dd_pos (by omega), dd_pos (by omega), opt_some (flash_L5_eq _ hN ..), Tw.run_ret]
  rfl
theorem ref07_New_eq {a b : Nat} (ha : 1 ≤ a) (ha' : a ≤ 512) (hb : 1 ≤ b) (hb' : b ≤ 1024) : ref07_New.c (a : Int) (b : Int) = some (.inl ((flNew a b).C, (flNew a b).D, (flNew a b).A, (flNew a b).W, (flNew a b).V)) := by
  have hN : a * b ≤ 524288 := mul_le ha' hb'
  have he : w64 ((a : Int) * (b : Int)) = ((a * b : Nat) : Int) := by rw [← Int.natCast_mul, w64_of (by omega) (by omega)]
  simp only [ref07_New.c, ref07_New.t, Int.toNat_natCast]
  rw [bb_neg (decide_eq_false (by omega)), bb_neg (decide_eq_false (by omega)), bb_neg (decide_eq_false (by omega)), bb_neg (decide_eq_false (by omega)), dd_pos (by omega), opt_some (ref07_L5_eq a b _ hN he ..), Tw.run_ret]
  rfl
/-! Without masks. -/
end Go.Proofs.Ytkoidgjgdhpdnaa.Pure
