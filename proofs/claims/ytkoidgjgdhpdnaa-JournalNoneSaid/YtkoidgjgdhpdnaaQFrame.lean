/- Layer 10 (frame): what its printed functions come to. -/
import Derived.Test.YtkoidgjgdhpdnaaQX
import Derived.Test.YtkoidgjgdhpdnaaQFrame0
import Derived.Test.YtkoidgjgdhpdnaaQSure
import Derived.Test.YtkoidgjgdhpdnaaQZeros
import Derived.Test.YtkoidgjgdhpdnaaQWord
import Derived.Test.YtkoidgjgdhpdnaaFframe
import Derived.Test.YtkoidgjgdhpdnaaFref10
import Derived.Test.YtkoidgjgdhpdnaaFslices
namespace Go.Proofs.Ytkoidgjgdhpdnaa.Pure
open Go Go.Proofs.Ytkoidgjgdhpdnaa.Va
set_option linter.unusedVariables false
set_option linter.unusedSimpArgs false

def sealW (l : List Int) : List Int := l ++ [zs l]
theorem zs_u32 (l : List Int) : InR .u32 (zs l) := inR_u32 (by unfold zs; omega)

/-- May a frame be? -/
def frP (k s : Int) (n : Nat) : Prop := (k = 1 ∨ k = 2) ∧ 1 ≤ s ∧ s ≤ 1073741823 ∧ 1 ≤ n ∧ n ≤ 56
instance (k s : Int) (n : Nat) : Decidable (frP k s n) := by unfold frP; infer_instance
/-- A frame's words but the sum. -/
def fraL (k s : Int) (l : List Int) : List Int := twin (l.length : Int) :: (k * 1073741824 + s) :: l
theorem fraL_len (k s : Int) (l : List Int) : (fraL k s l).length = l.length + 2 := by simp [fraL]
theorem fraL_words {k s : Int} {l : List Int} (h : frP k s l.length) (hl : Words l) : Words (fraL k s l) := by
  obtain ⟨hk, h1, h2, h3, h4⟩ := h
  exact words_cons (twin_range (by omega) (by omega)) (words_cons (inR_u32 (by omega)) hl)

theorem frame_Size_eq (n : Int) (h : InR .i64 n) : frame_Size.c n = some (if n < 1 ∨ n > 56 then 0 else n + 3) := by
  have := h.i64
  simp only [frame_Size.c, frame_Size.t, Tw.run_bb, Tw.run_ret, decide_eq_true_eq]
  by_cases h0 : n < 1
  · rw [if_pos h0, if_pos (Or.inl h0)]
  · by_cases h1 : n > 56
    · rw [if_neg h0, if_pos h1, if_pos (Or.inr h1)]
    · rw [if_neg h0, if_neg h1, if_neg (by omega), w64_of (by omega) (by omega)]

theorem frame_Lay_eq (k s : Int) {l : List Int} (hw : Words l) (hl : l.length * 4 ≤ reachBytes) : frame_Lay.c k s l = some (if frP k s l.length then (0, sealW (fraL k s l)) else (2, [])) := by
  rw [reach_eq] at hl
  have hS := frame_Size_eq (l.length : Int) (inR_i64 (by omega))
  simp only [frame_Lay.c, frame_Lay.t, Tw.run_opt, hS, Option.bind_some]
  by_cases h0 : (l.length : Int) < 1 ∨ (l.length : Int) > 56
  · rw [if_pos h0, bb_pos (by rfl), if_neg (by unfold frP; omega)]
    rfl
  rw [if_neg h0, bb_neg (by simp; omega)]
  by_cases h1 : k < 1
  · rw [bb_pos (decide_eq_true h1), if_neg (by unfold frP; omega)]
    rfl
  rw [bb_neg (decide_eq_false h1)]
  by_cases h2 : k > 2
  · rw [bb_pos (decide_eq_true h2), if_neg (by unfold frP; omega)]
    rfl
  rw [bb_neg (decide_eq_false h2)]
  by_cases h3 : s < 1
  · rw [bb_pos (decide_eq_true h3), if_neg (by unfold frP; omega)]
    rfl
  rw [bb_neg (decide_eq_false h3)]
  by_cases h4 : s > 1073741823
  · rw [bb_pos (decide_eq_true h4), if_neg (by unfold frP; omega)]
    rfl
  rw [bb_neg (decide_eq_false h4)]
  have hf : frP k s l.length := by unfold frP; omega
  rw [if_pos hf]
  have e1 : w64 ((2 : Int) + (l.length : Int)) = ((l.length + 2 : Nat) : Int) := by rw [w64_of (by omega) (by omega)]; omega
  have e2 : List.replicate (l.length + 2) (0 : Int) = 0 :: 0 :: List.replicate l.length 0 := rfl
  have e3 : bShl .i64 k 30 = k * 1073741824 := by
    rw [show (30 : Int) = ((30 : Nat) : Int) from rfl, bShl64 k 30 (by omega) (by omega) (by omega)]
    omega
  have e4 : w32 (bOr .i64 (k * 1073741824) s) = k * 1073741824 + s := by
    rw [bOr64_add 30 (by omega) (by omega) (by omega) (by omega) (by omega), w32_of (by omega) (by omega)]
  have hT : zeros_Twin.c (l.length : Int) = some (twin (l.length : Int), 0) := by rw [zeros_Twin_eq _ (inR_i64 (by omega)), if_neg (by omega)]
  have hZ : zeros_Seal.c (fraL k s l) = some (sealW (fraL k s l)) := zeros_Seal_eq (fraL_words hf hw) (by rw [fraL_len, reach_eq]; omega)
  simp only [e1, Int.toNat_natCast, e2]
  rw [dd_pos ⟨by omega, by omega, by omega, by omega⟩]
  simp only [Tw.run_opt, hT, Option.bind_some]
  rw [dd_pos ⟨by omega, by simp; omega⟩]
  simp only [Tw.run_opt, show Int.toNat (0 : Int) = 0 from rfl, show Int.toNat (1 : Int) = 1 from rfl, show Int.toNat (2 : Int) = 2 from rfl, List.getElem?_cons_zero, List.getElem?_cons_succ, List.set_cons_zero, List.set_cons_succ, Option.bind_some]
  rw [dd_pos ⟨by omega, by simp; omega⟩]
  simp only [Tw.run_opt, Option.bind_some, e3, e4]
  rw [dd_pos ⟨by omega, by simp; omega⟩, dd_pos ⟨by rfl, by rfl, by simp; omega⟩]
  simp only [Tw.run_opt, Option.bind_some, List.length_cons, List.length_replicate, show l.length + 1 + 1 - 2 = l.length by omega, List.take_length, Nat.min_self, show 2 + l.length = l.length + 1 + 1 by omega, List.take_succ_cons, List.take_zero, List.drop_succ_cons]
  rw [List.drop_eq_nil_of_le (by simp), List.append_nil]
  show (zeros_Seal.c (fraL k s l)).bind _ = _
  rw [hZ]
  rfl

theorem ref10_Lay_eq {k s : Int} {l : List Int} (h : frP k s l.length) (hw : Words l) : ref10_Lay.c k s l = some (sealW (fraL k s l)) := by
  have hf := h
  obtain ⟨hk, h1, h2, h3, h4⟩ := h
  have e : w32 (w32 (w32 k * 1073741824) + w32 s) = k * 1073741824 + s := by
    rw [w32_of (n := k) (by omega) (by omega), w32_of (n := s) (by omega) (by omega), w32_of (n := k * 1073741824) (by omega) (by omega), w32_of (by omega) (by omega)]
  simp only [ref10_Lay.c, ref10_Lay.t, Tw.run_opt, ref02_Twin_eq (show 0 ≤ (l.length : Int) by omega) (show (l.length : Int) ≤ 65535 by omega), Option.bind_some, e]
  rw [dd_pos (by simp only [List.length_cons, List.length_nil]; omega)]
  have hZ : ref02_Seal.c (fraL k s l) = some (sealW (fraL k s l)) := ref02_Seal_eq (fraL_words hf hw) (by rw [fraL_len, reach_eq]; omega)
  simp only [Tw.run_opt, Tw.run_ret]
  show (ref02_Seal.c (fraL k s l)).bind _ = _
  rw [hZ]
  rfl

/-- What is read. -/
def noF : Int × (Int × (Int × (Bool × List Int))) := (0, 0, 0, false, [])
def lenF (w : List Int) : Nat := (toldR (w.getD 0 0)).1.toNat
def loadF (w : List Int) : List Int := (w.drop 2).take (lenF w)
def mayF (w : List Int) : Prop := (toldR (w.getD 0 0)).2 = true ∧ 1 ≤ lenF w ∧ lenF w ≤ 56 ∧ lenF w + 3 ≤ w.length
instance (w : List Int) : Decidable (mayF w) := by unfold mayF; infer_instance
def fineF (w : List Int) : Prop := (w.getD 1 0 / 1073741824 = 1 ∨ w.getD 1 0 / 1073741824 = 2) ∧ 1 ≤ w.getD 1 0 % 1073741824 ∧ rightB (w.take (lenF w + 3)) = true
instance (w : List Int) : Decidable (fineF w) := by unfold fineF; infer_instance
def readF (w : List Int) : Int × (Int × (Int × (Bool × List Int))) :=
  if mayF w ∧ fineF w then (w.getD 1 0 / 1073741824, w.getD 1 0 % 1073741824, (lenF w : Int) + 3, true, loadF w) else noF

theorem told_range {x : Int} (h : InR .u32 x) : 0 ≤ (toldR x).1 ∧ (toldR x).1 ≤ 65535 := by
  have := h.u32
  unfold toldR
  split
  · exact ⟨by show 0 ≤ x % 65536; omega, by show x % 65536 ≤ 65535; omega⟩
  · exact ⟨Int.le_refl _, by decide⟩
theorem clone_eq {l : List Int} (h : l.length * 4 ≤ 140737488355328) : slices_Clone__uint32uint32.c l = some l := by
  unfold slices_Clone__uint32uint32.c slices_Clone__uint32uint32.t
  rw [dd_pos (by simp; omega)]
  rfl
theorem bShr_30 (a : Int) : bShr .u32 a 30 = a / 1073741824 := by
  rw [show (30 : Int) = ((30 : Nat) : Int) from rfl, bShr_u32 _ _ (by omega)]
  rfl
theorem bAnd_30 {x : Int} (h : 0 ≤ x ∧ x < 4294967296) : bAnd .u32 x 1073741823 = x % 1073741824 := by
  have := bAnd_mask 30 (by omega) h
  exact this

theorem frame_Read_eq {w : List Int} (hw : Words w) (hl : w.length ≤ 35184372088832) : frame_Read.c w = some (readF w) := by
  simp only [frame_Read.c, frame_Read.t, show Int.toNat (0 : Int) = 0 from rfl, show Int.toNat (1 : Int) = 1 from rfl, show Int.toNat (2 : Int) = 2 from rfl]
  by_cases h0 : w.length = 0
  · rw [bb_pos (by simp [h0])]
    unfold readF
    rw [if_neg (by rintro ⟨⟨_, _, _, h⟩, _⟩; omega)]
    rfl
  rw [bb_neg (by rw [beq_eq_false_iff_ne]; omega)]
  have hx := word_in hw 0
  have hr := told_range hx
  have h11 := word_in hw 1
  have h1r := h11.u32
  simp only [Tw.run_opt, word_some (show 0 < w.length by omega), zeros_Told_eq hx, Option.bind_some, frame_Size_eq (toldR (w.getD 0 0)).1 (inR_i64 (by omega))]
  cases ht : (toldR (w.getD 0 0)).2 with
  | false =>
    rw [bb_pos (by rfl)]
    unfold readF
    rw [if_neg (by rintro ⟨⟨h, _⟩, _⟩; rw [ht] at h; cases h)]
    rfl
  | true =>
  rw [bb_neg (by rfl)]
  have el : (toldR (w.getD 0 0)).1 = ((lenF w : Nat) : Int) := by unfold lenF; omega
  rw [el]
  by_cases h1 : ((lenF w : Nat) : Int) < 1 ∨ ((lenF w : Nat) : Int) > 56
  · rw [if_pos h1, bb_pos (by rfl)]
    unfold readF
    rw [if_neg (by rintro ⟨⟨_, h, h', _⟩, _⟩; omega)]
    rfl
  rw [if_neg h1, bb_neg (by simp; omega)]
  by_cases h2 : w.length < lenF w + 3
  · rw [bb_pos (decide_eq_true (by omega))]
    unfold readF
    rw [if_neg (by rintro ⟨⟨_, _, _, h⟩, _⟩; omega)]
    rfl
  have hm : mayF w := ⟨ht, by omega, by omega, by omega⟩
  rw [bb_neg (decide_eq_false (by omega)), dd_pos (by omega)]
  have e3 : (((lenF w : Nat) : Int) + 3).toNat = lenF w + 3 := by omega
  simp only [Tw.run_opt, e3, zeros_Right_eq (words_take hw _) (show (w.take (lenF w + 3)).length ≤ 140737488351232 by rw [List.length_take]; omega), Option.bind_some]
  unfold readF
  cases hR : rightB (w.take (lenF w + 3)) with
  | false =>
    rw [bb_pos (by rfl), if_neg (by rintro ⟨_, _, _, h⟩; rw [hR] at h; cases h)]
    rfl
  | true =>
  rw [bb_neg (by rfl)]
  have e4 : w64 (((lenF w : Nat) : Int) + 3 - 1) = ((lenF w + 2 : Nat) : Int) := by rw [w64_of (by omega) (by omega)]; omega
  have e5 : List.drop 2 (List.take (lenF w + 2) w) = loadF w := by rw [List.drop_take]; rfl
  have hll : (loadF w).length ≤ 56 := by unfold loadF; rw [List.length_take]; omega
  simp only [Tw.run_opt, word_some (show 1 < w.length by omega), Option.bind_some, e4, Int.toNat_natCast, e5]
  rw [dd_pos (by simp only [e4]; omega)]
  simp only [Tw.run_opt, clone_eq (show (loadF w).length * 4 ≤ 140737488355328 by omega), Option.bind_some, bShr_30, bAnd_30 h1r, w64_of (show -9223372036854775808 ≤ w.getD 1 0 / 1073741824 by omega) (show w.getD 1 0 / 1073741824 < 9223372036854775808 by omega),
    w64_of (show -9223372036854775808 ≤ w.getD 1 0 % 1073741824 by omega) (show w.getD 1 0 % 1073741824 < 9223372036854775808 by omega)]
  by_cases h3 : w.getD 1 0 / 1073741824 < 1
  · rw [bb_pos (decide_eq_true h3), if_neg (by rintro ⟨_, h, _⟩; omega)]
    rfl
  rw [bb_neg (decide_eq_false h3)]
  by_cases h4 : w.getD 1 0 / 1073741824 > 2
  · rw [bb_pos (decide_eq_true h4), if_neg (by rintro ⟨_, h, _⟩; omega)]
    rfl
  rw [bb_neg (decide_eq_false h4)]
  by_cases h5 : w.getD 1 0 % 1073741824 < 1
  · rw [bb_pos (decide_eq_true h5), if_neg (by rintro ⟨_, _, h, _⟩; omega)]
    rfl
  rw [bb_neg (decide_eq_false h5), if_pos ⟨hm, by omega, by omega, hR⟩]
  rfl

end Go.Proofs.Ytkoidgjgdhpdnaa.Pure
