/- Flash: words of a sector that are written in turn; masks; what a torn word and a raised one are. -/
import Derived.Test.YtmlbioapefgioaaQBits
import Derived.Test.YtmlbioapefgioaaQWord
import Derived.Test.YtmlbioapefgioaaFflash
namespace Go.Proofs.Ytmlbioapefgioaa.Pure
open Go Go.Proofs.Ytmlbioapefgioaa.Va
set_option linter.unusedVariables false
set_option linter.unusedSimpArgs false

/-! Words as numbers. -/
theorem u32_nat {x : Int} (h : InR .u32 x) : ∃ n : Nat, x = (n : Int) ∧ n < 4294967296 := ⟨x.toNat, by have := h.u32; omega, by have := h.u32; omega⟩
theorem bAndn_in {w m : Int} (hw : InR .u32 w) (hm : InR .u32 m) : InR .u32 (bAndn .u32 w m) := by
  obtain ⟨a, rfl, ha⟩ := u32_nat hw
  obtain ⟨c, rfl, hc⟩ := u32_nat hm
  rw [bAndn_nat]
  have := sub_lt a c
  exact inR_u32 (by omega)
theorem bOr_in {w m : Int} (hw : InR .u32 w) (hm : InR .u32 m) : InR .u32 (bOr .u32 w m) := by
  obtain ⟨a, rfl, ha⟩ := u32_nat hw
  obtain ⟨c, rfl, hc⟩ := u32_nat hm
  rw [bOr_nat a c ha hc]
  have := Nat.or_lt_two_pow (n := 32) (x := a) (y := c) (by omega) (by omega)
  exact inR_u32 (by omega)
theorem bOr_ones {w : Int} (hw : InR .u32 w) : bOr .u32 w 4294967295 = 4294967295 := by
  obtain ⟨a, rfl, ha⟩ := u32_nat hw
  rw [show (4294967295 : Int) = ((4294967295 : Nat) : Int) from rfl, bOr_nat a _ ha (by decide)]
  congr 1
  refine ext32 (Nat.or_lt_two_pow (n := 32) (by omega) (by decide)) (by decide) (fun i hi => ?_)
  rw [Nat.testBit_or, show (4294967295 : Nat) = 2 ^ 32 - 1 from rfl, Nat.testBit_two_pow_sub_one]
  simp [hi]

/-! Words in turn. -/
/-- n words from o on, each made anew out of its number and itself. -/
def upd (W : List Int) (o n : Nat) (g : Nat → Int → Int) : List Int := W.take o ++ ((List.range n).map (fun i => g i (W.getD (o + i) 0)) ++ W.drop (o + n))
theorem upd_len {W : List Int} {o n : Nat} {g : Nat → Int → Int} (h : o + n ≤ W.length) : (upd W o n g).length = W.length := by
  simp [upd]
  omega
theorem upd_zero {W : List Int} {o : Nat} {g : Nat → Int → Int} : upd W o 0 g = W := by simp [upd]
theorem upd_get {W : List Int} {o n i : Nat} {g : Nat → Int → Int} (h : o + n ≤ W.length) : (upd W o n g).getD i 0 = if o ≤ i ∧ i < o + n then g (i - o) (W.getD i 0) else W.getD i 0 := by
  have e : (W.take o).length = o := by rw [List.length_take]; omega
  simp only [upd, List.getD_eq_getElem?_getD]
  by_cases h1 : i < o
  · rw [if_neg (by omega), List.getElem?_append_left (by omega), List.getElem?_take_of_lt h1]
  · rw [List.getElem?_append_right (by omega), e]
    by_cases h2 : i < o + n
    · rw [if_pos ⟨by omega, h2⟩, List.getElem?_append_left (by simp; omega), List.getElem?_map, List.getElem?_range (by omega)]
      simp only [Option.map_some, Option.getD_some]
      rw [show o + (i - o) = i by omega]
    · rw [if_neg (by omega), List.getElem?_append_right (by simp; omega), List.getElem?_drop]
      congr 2
      simp
      omega
theorem upd_set {W : List Int} {o n : Nat} {g : Nat → Int → Int} (h : o + n < W.length) : (upd W o n g).set (o + n) (g n (W.getD (o + n) 0)) = upd W o (n + 1) g := by
  have e : (W.take o).length = o := by rw [List.length_take]; omega
  have e2 : W.drop (o + n) = W.getD (o + n) 0 :: W.drop (o + (n + 1)) := by
    rw [List.getD_eq_getElem?_getD, List.getElem?_eq_getElem h]
    exact List.drop_eq_getElem_cons h
  unfold upd
  rw [List.set_append_right _ _ (by omega), e, show o + n - o = n by omega, List.set_append_right _ _ (by simp), e2]
  simp [List.range_succ]
theorem upd_words {W : List Int} {o n : Nat} {g : Nat → Int → Int} (hW : Words W) (hg : ∀ i x, InR .u32 x → InR .u32 (g i x)) : Words (upd W o n g) := by
  refine words_append (fun x hx => hW x (List.mem_of_mem_take hx)) (words_append (fun x hx => ?_) (words_drop hW _))
  obtain ⟨i, _, rfl⟩ := List.mem_map.1 hx
  exact hg i _ (word_in hW _)
theorem upd_congr {W : List Int} {o n : Nat} {g g' : Nat → Int → Int} (hW : Words W) (h : ∀ i x, InR .u32 x → g i x = g' i x) : upd W o n g = upd W o n g' := by
  unfold upd
  congr 2
  exact List.map_congr_left fun i _ => h i _ (word_in hW _)
/-- A loop that makes words anew. -/
theorem Lp_upd (f : Int × List Int → Option ((Int × List Int) ⊕ List Int)) (W : List Int) (o n : Nat) (g : Nat → Int → Int) (hl : o + n ≤ W.length) (hn : n ≤ 1024)
    (h : ∀ (i : Nat) (U : List Int) (x : Int), i < n → U.length = W.length → U[o + i]? = some x → x = W.getD (o + i) 0 → f ((i : Int), U) = some (.inl (((i + 1 : Nat) : Int), U.set (o + i) (g i x))))
    (he : ∀ U, U.length = W.length → f ((n : Int), U) = some (.inr U)) : Lp f ((0 : Int), W) = some (upd W o n g) := by
  have := Lp_seq f (fun i : Nat => ((i : Int), upd W o i g)) (x := upd W o n g) n 0 (fun i _ hi => by
    have hi' : i < n := by omega
    have el := upd_len (g := g) (show o + i ≤ W.length by omega)
    have eg := upd_get (g := g) (i := o + i) (show o + i ≤ W.length by omega)
    rw [if_neg (by omega)] at eg
    have hs : (upd W o i g)[o + i]? = some (W.getD (o + i) 0) := by rw [word_some (by omega), eg]
    show f ((i : Int), upd W o i g) = _
    rw [h i _ _ hi' el hs rfl, upd_set (by omega)]) (by
    rw [Nat.zero_add]
    exact he _ (upd_len hl))
  rw [show ((0 : Int), W) = ((fun i : Nat => ((i : Int), upd W o i g)) 0) by simp [upd_zero]]
  exact this

/-! Masks. -/
/-- The mask of the i-th word. -/
def fz (M : List Int) (i : Nat) : Int := if M.length = 0 then 0 else M.getD (i % M.length) 0
theorem fz_in {M : List Int} (h : Words M) (i : Nat) : InR .u32 (fz M i) := by
  unfold fz
  split
  · exact inR_u32 (by decide)
  · exact word_in h _
theorem flash_fuse_mask_v2_eq (n C : Int) (D : Bool) (A : Int) (W V M : List Int) (i : Nat) : flash_fuse_mask.c (i : Int) n C D A W V M = some (fz M i) := by
  simp only [flash_fuse_mask.c, flash_fuse_mask.t]
  by_cases h : M.length = 0
  · rw [bb_pos (by rw [h]; rfl)]
    simp [fz, h, Tw.run_ret]
  · rw [bb_neg (beq_eq_false_iff_ne.2 (by omega)), dd_neg (by omega), tmod_nat]
    have := Nat.mod_lt i (show 0 < M.length by omega)
    rw [dd_pos (by omega), Int.toNat_natCast, opt_some (word_some this), Tw.run_ret, fz, if_neg h]
end Go.Proofs.Ytmlbioapefgioaa.Pure
