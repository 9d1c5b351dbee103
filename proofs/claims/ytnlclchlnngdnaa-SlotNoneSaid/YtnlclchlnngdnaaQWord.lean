/- Layer 1 (word): what its printed functions come to. -/
import Derived.Test.YtnlclchlnngdnaaQ
import Derived.Test.YtnlclchlnngdnaaFword
import Derived.Test.YtnlclchlnngdnaaFref01
namespace Go.Proofs.Ytnlclchlnngdnaa.Pure
open Go Go.Proofs.Ytnlclchlnngdnaa.Va
set_option linter.unusedVariables false
set_option linter.unusedSimpArgs false

/-- How many words bytes need. -/
def needN (n : Nat) : Nat := (n + 3) / 4
def need (n : Int) : Int := if n < 1 then 0 else (n + 3) / 4
theorem need_nat (n : Nat) : need (n : Int) = ((needN n : Nat) : Int) := by unfold need needN; split <;> omega

theorem word_Need_eq (n : Int) (h : InR .i64 n) : word_Need.c n = some (need n) := by
  have := h.i64
  simp only [word_Need.c, word_Need.t, Tw.run_bb, Tw.run_ret, decide_eq_true_eq, need]
  split
  · rfl
  · rw [w64_of (n := n - 1) (by omega) (by omega)]
    have e : Int.tdiv (n - 1) 4 = (n - 1) / 4 := Int.tdiv_eq_ediv_of_nonneg (by omega)
    rw [e]
    simp (disch := omega) only [w64_of]
    congr 1
    omega
theorem ref01_Need_eq (n : Int) (h : InR .i64 n) : ref01_Need.c n = some (need n) := by
  have := h.i64
  simp only [ref01_Need.c, ref01_Need.t, Tw.run_bb, Tw.run_ret, decide_eq_true_eq, need]
  split
  · rfl
  · have e : Int.tdiv n 4 = n / 4 := Int.tdiv_eq_ediv_of_nonneg (by omega)
    have e2 : Int.tmod n 4 = n % 4 := Int.tmod_eq_emod_of_nonneg (by omega)
    rw [e, e2, w64_of (n := n % 4 + 3) (by omega) (by omega)]
    have e3 : Int.tdiv (n % 4 + 3) 4 = (n % 4 + 3) / 4 := Int.tdiv_eq_ediv_of_nonneg (by omega)
    rw [e3]
    simp (disch := omega) only [w64_of]
    congr 1
    omega

/-- A byte of a list; behind it noughts. -/
def byt (b : List Int) (i : Nat) : Int := b.getD i 0
/-- A word of bytes. -/
def wordAt (b : List Int) (j : Nat) : Int := byt b (4 * j) * 16777216 + byt b (4 * j + 1) * 65536 + byt b (4 * j + 2) * 256 + byt b (4 * j + 3)
def packW (b : List Int) (n : Nat) : List Int := (List.range n).map (wordAt b)
/-- A byte of words. -/
def byteAt (w : List Int) (i : Nat) : Int := w.getD (i / 4) 0 / 256 ^ (3 - i % 4) % 256

theorem byt_range {b : List Int} (h : Bytes b) (i : Nat) : 0 ≤ byt b i ∧ byt b i < 256 := by
  unfold byt
  rw [List.getD_eq_getElem?_getD]
  cases e : b[i]? with
  | none => simp
  | some x => exact (h x (List.mem_of_getElem? e)).u8
theorem wordAt_range {b : List Int} (h : Bytes b) (j : Nat) : 0 ≤ wordAt b j ∧ wordAt b j < 4294967296 := by
  have h0 := byt_range h (4 * j)
  have h1 := byt_range h (4 * j + 1)
  have h2 := byt_range h (4 * j + 2)
  have h3 := byt_range h (4 * j + 3)
  unfold wordAt
  omega
theorem packW_words {b : List Int} (h : Bytes b) (n : Nat) : Words (packW b n) := by
  intro x hx
  obtain ⟨j, _, rfl⟩ := List.mem_map.1 hx
  exact inR_u32 (wordAt_range h j)
theorem byt_take (b : List Int) (i k : Nat) : byt (b.take i) k = if k < i then byt b k else 0 := by
  unfold byt
  rw [List.getD_eq_getElem?_getD, List.getElem?_take, List.getD_eq_getElem?_getD]
  split <;> rfl
theorem byt_ge {b : List Int} {k : Nat} (h : b.length ≤ k) : byt b k = 0 := by
  unfold byt
  rw [List.getD_eq_getElem?_getD, List.getElem?_eq_none h]
  rfl
theorem byt_some {b : List Int} {k : Nat} (h : k < b.length) : b[k]? = some (byt b k) := by
  unfold byt
  rw [List.getD_eq_getElem?_getD, List.getElem?_eq_getElem h]
  rfl

theorem pack_step {b : List Int} (hb : Bytes b) {i : Nat} (hi : i < b.length) (hl : b.length ≤ 140737488351232) :
    (word_Pack.l3 b (b.length : Int) (i : Int) (packW (b.take i) (needN b.length))).run = some (.inl (((i + 1 : Nat) : Int), packW (b.take (i + 1)) (needN b.length))) := by
  have hn : i / 4 < needN b.length := by unfold needN; omega
  have hget : (packW (b.take i) (needN b.length))[i / 4]? = some (wordAt (b.take i) (i / 4)) := by
    unfold packW
    rw [List.getElem?_map, List.getElem?_range hn]
    rfl
  have hlen : (packW (b.take i) (needN b.length)).length = needN b.length := by simp [packW]
  have e1 : w64 (Int.tdiv (i : Int) 4) = ((i / 4 : Nat) : Int) := by
    rw [show ((4 : Int)) = ((4 : Nat) : Int) from rfl, tdiv_nat, w64_of (by omega) (by omega)]
  have e2 : Int.tmod (i : Int) 4 = ((i % 4 : Nat) : Int) := by
    rw [show ((4 : Int)) = ((4 : Nat) : Int) from rfl, tmod_nat]
  have e3 : wu64 (w64 (8 * w64 (3 - Int.tmod (i : Int) 4))) = ((8 * (3 - i % 4) : Nat) : Int) := by
    rw [e2, w64_of (n := 3 - ((i % 4 : Nat) : Int)) (by omega) (by omega), w64_of (by omega) (by omega), wu64_of (by omega) (by omega)]
    omega
  simp only [word_Pack.l3, Tw.run_bb, Tw.run_dd, Tw.run_opt, Tw.run_ret, Tw.run_no, e1, e3, Int.toNat_natCast, hget, byt_some hi, Option.bind_some, hlen]
  rw [if_pos (by simpa using hi), if_pos ⟨by omega, by omega⟩, if_pos (by omega), if_neg (by omega), if_pos ⟨by omega, by omega⟩]
  congr 3
  · rw [w64_of (by omega) (by omega)]; omega
  · have hbi := byt_range hb i
    have e4 : w32 (byt b i) = byt b i := w32_of hbi.1 (by omega)
    rw [e4, bShl_u32 _ _ (by omega)]
    have hr := wordAt_range (b := b.take i) (fun x hx => hb x (List.mem_of_mem_take hx)) (i / 4)
    -- the new word
    have key : bOr .u32 (wordAt (b.take i) (i / 4)) (byt b i * 2 ^ (8 * (3 - i % 4)) % 4294967296) = wordAt (b.take (i + 1)) (i / 4) := by
      have hw : ∀ k, byt (b.take (i + 1)) k = if k = i then byt b i else byt (b.take i) k := by
        intro k
        rw [byt_take, byt_take]
        by_cases h : k = i
        · subst h; simp
        · rw [if_neg h]
          by_cases h2 : k < i
          · rw [if_pos (by omega), if_pos h2]
          · rw [if_neg (by omega), if_neg h2]
      have hz : ∀ k, i ≤ k → byt (b.take i) k = 0 := fun k hk => by rw [byt_take, if_neg (by omega)]
      have h0 := byt_range (b := b.take i) (fun x hx => hb x (List.mem_of_mem_take hx)) (4 * (i / 4))
      have h1 := byt_range (b := b.take i) (fun x hx => hb x (List.mem_of_mem_take hx)) (4 * (i / 4) + 1)
      have h2 := byt_range (b := b.take i) (fun x hx => hb x (List.mem_of_mem_take hx)) (4 * (i / 4) + 2)
      have h3 := byt_range (b := b.take i) (fun x hx => hb x (List.mem_of_mem_take hx)) (4 * (i / 4) + 3)
      have hm : i % 4 = 0 ∨ i % 4 = 1 ∨ i % 4 = 2 ∨ i % 4 = 3 := by omega
      unfold wordAt
      rw [hw, hw, hw, hw]
      rcases hm with hm | hm | hm | hm
      · have hi4 : i = 4 * (i / 4) := by omega
        have a1 := hz (4 * (i / 4)) (by omega)
        have a2 := hz (4 * (i / 4) + 1) (by omega)
        have a3 := hz (4 * (i / 4) + 2) (by omega)
        have a4 := hz (4 * (i / 4) + 3) (by omega)
        rw [hm, a1, a2, a3, a4, if_pos (by omega), if_neg (by omega), if_neg (by omega), if_neg (by omega)]
        rw [bOr_add 32 (by omega) (by omega) (by omega) (by decide) (by omega) (by omega)]
        omega
      · have a2 := hz (4 * (i / 4) + 1) (by omega)
        have a3 := hz (4 * (i / 4) + 2) (by omega)
        have a4 := hz (4 * (i / 4) + 3) (by omega)
        rw [hm, a2, a3, a4, if_neg (by omega), if_pos (by omega), if_neg (by omega), if_neg (by omega)]
        rw [bOr_add 24 (by omega) (by omega) (by omega) (by omega) (by omega) (by omega)]
        omega
      · have a3 := hz (4 * (i / 4) + 2) (by omega)
        have a4 := hz (4 * (i / 4) + 3) (by omega)
        rw [hm, a3, a4, if_neg (by omega), if_neg (by omega), if_pos (by omega), if_neg (by omega)]
        rw [bOr_add 16 (by omega) (by omega) (by omega) (by omega) (by omega) (by omega)]
        omega
      · have a4 := hz (4 * (i / 4) + 3) (by omega)
        rw [hm, a4, if_neg (by omega), if_neg (by omega), if_neg (by omega), if_pos (by omega)]
        rw [bOr_add 8 (by omega) (by omega) (by omega) (by omega) (by omega) (by omega)]
        omega
    rw [key]
    apply List.ext_getElem?
    intro j
    rw [List.getElem?_set]
    unfold packW
    simp only [List.length_map, List.length_range]
    by_cases hj : i / 4 = j
    · subst hj
      rw [if_pos rfl, if_pos hn, List.getElem?_map, List.getElem?_range hn]
      rfl
    · rw [if_neg hj, List.getElem?_map, List.getElem?_map]
      by_cases hjn : j < needN b.length
      · rw [List.getElem?_range hjn]
        simp only [Option.map_some]
        congr 1
        unfold wordAt
        have hw : ∀ k, k ≠ i → byt (b.take i) k = byt (b.take (i + 1)) k := by
          intro k hk
          rw [byt_take, byt_take]
          by_cases h2 : k < i
          · rw [if_pos h2, if_pos (by omega)]
          · rw [if_neg h2, if_neg (by omega)]
        rw [hw _ (by omega), hw _ (by omega), hw _ (by omega), hw _ (by omega)]
      · rw [List.getElem?_eq_none (by simpa using hjn)]
        rfl

theorem packW_nil (n : Nat) : packW [] n = List.replicate n 0 := by
  unfold packW
  apply List.ext_getElem?
  intro i
  rw [List.getElem?_map, List.getElem?_replicate]
  by_cases h : i < n
  · rw [List.getElem?_range h, if_pos h]; rfl
  · rw [List.getElem?_eq_none (by simpa using h), if_neg h]; rfl
theorem word_Pack_eq {b : List Int} (hb : Bytes b) (hl : b.length * 1 ≤ reachBytes) : word_Pack.c b = some (packW b (needN b.length)) := by
  have hl' : b.length ≤ 140737488351232 := by rw [reach_eq] at hl; omega
  have hn := word_Need_eq (b.length : Int) (inR_i64 ⟨by omega, by omega⟩)
  have hL : word_Pack.L3 b (b.length : Int) 0 (List.replicate (needN b.length) 0) = some (packW b (needN b.length)) := by
    have := Lp_seq (fun s => (word_Pack.l3 b (b.length : Int) s.1 s.2).run) (fun i => ((i : Int), packW (b.take i) (needN b.length))) (x := packW b (needN b.length)) b.length 0
      (fun i _ hi => pack_step hb (by omega) hl') (by
        simp only [word_Pack.l3, Tw.run_bb, Nat.zero_add]
        rw [if_neg (by simp)]
        simp only [Tw.run_ret, List.take_length])
    simp only [List.take_zero, packW_nil] at this
    exact this
  simp only [word_Pack.c, word_Pack.t, Tw.run_opt, Tw.run_dd, Tw.run_ret, Tw.run_no, hn, need_nat, Option.bind_some, Int.toNat_natCast]
  rw [if_pos ⟨by omega, by omega, by unfold needN; omega, by unfold needN; omega⟩, hL]
  rfl

/-- The first bytes of a word. -/
def preW (b : List Int) (i : Nat) : Nat → Int
  | 0 => 0
  | k + 1 => preW b i k * 256 + byt b (i + k)
theorem preW_range {b : List Int} (hb : Bytes b) (i : Nat) : ∀ k, 0 ≤ preW b i k ∧ preW b i k < 256 ^ k
  | 0 => by simp [preW]
  | k + 1 => by
    have h1 := preW_range hb i k
    have h2 := byt_range hb (i + k)
    rw [preW, Int.pow_succ]
    omega
theorem preW_four (b : List Int) (j : Nat) : preW b (4 * j) 4 = wordAt b j := by
  simp only [preW, wordAt, Nat.add_zero]
  omega

theorem ref01_Pack_L7 {b : List Int} (hb : Bytes b) {i : Nat} (hl : b.length ≤ 140737488351232) (hi : i ≤ 140737488355328) (h0 : List Int) : ref01_Pack.L7 b (i : Int) 0 0 h0 = some (preW b i 4) := by
  have := Lp_seq (fun s => (ref01_Pack.l7 b (i : Int) h0 s.1 s.2).run) (fun k => (preW b i k, (k : Int))) (x := preW b i 4) 4 0 (fun k _ hk => ?_) (by
    simp only [ref01_Pack.l7, Tw.run_bb]
    rw [if_neg (by simp)]
    rfl)
  · exact this
  · have hr := preW_range hb i k
    have hb1 := byt_range hb (i + k)
    have hlt : preW b i k < 16777216 := by
      have : (256 : Int) ^ k ≤ 256 ^ 3 := by
        have : k = 0 ∨ k = 1 ∨ k = 2 ∨ k = 3 := by omega
        rcases this with rfl | rfl | rfl | rfl <;> decide
      have e : (256 : Int) ^ 3 = 16777216 := by decide
      omega
    have e1 : w64 ((i : Int) + (k : Int)) = ((i + k : Nat) : Int) := by rw [w64_of (by omega) (by omega)]; omega
    have e2 : w64 ((k : Int) + 1) = ((k + 1 : Nat) : Int) := by rw [w64_of (by omega) (by omega)]; omega
    have e3 : w32 (preW b i k * 256) = preW b i k * 256 := w32_of (by omega) (by omega)
    simp only [ref01_Pack.l7, Tw.run_bb, Tw.run_dd, Tw.run_opt, Tw.run_ret, Tw.run_no, e1, e2, e3, Int.toNat_natCast]
    rw [if_pos (by simp; omega)]
    by_cases h : i + k < b.length
    · rw [if_pos (by simp; omega), if_pos (by omega), byt_some h]
      simp only [Option.bind_some]
      rw [w32_of hb1.1 (by omega), w32_of (by omega) (by omega)]
      rfl
    · rw [if_neg (by simp; omega)]
      simp only [preW, byt_ge (show b.length ≤ i + k by omega), Int.add_zero]

theorem packW_succ (b : List Int) (n : Nat) : packW b (n + 1) = packW b n ++ [wordAt b n] := by simp [packW, List.range_succ]

theorem ref01_Pack_eq {b : List Int} (hb : Bytes b) (hl : b.length * 1 ≤ reachBytes) : ref01_Pack.c b = some (packW b (needN b.length)) := by
  have hl' : b.length ≤ 140737488351232 := by rw [reach_eq] at hl; omega
  have hL : ref01_Pack.L3 b 0 [] = some (packW b (needN b.length)) := by
    have := Lp_seq (fun s => (ref01_Pack.l3 b s.1 s.2).run) (fun j => (((4 * j : Nat) : Int), packW b j)) (x := packW b (needN b.length)) (needN b.length) 0 (fun j _ hj => ?_) (by
      simp only [ref01_Pack.l3, Tw.run_bb, Nat.zero_add]
      rw [if_neg (by rw [decide_eq_true_eq]; unfold needN; omega)]
      rfl)
    · exact this
    · have hj' : 4 * j < b.length := by unfold needN at hj; omega
      have hlen : (packW b j).length = j := by simp [packW]
      simp only [ref01_Pack.l3, Tw.run_bb, Tw.run_dd, Tw.run_opt, Tw.run_ret, Tw.run_no, ref01_Pack_L7 hb (i := 4 * j) hl' (by omega), preW_four, Option.bind_some, hlen, List.length_cons, List.length_nil]
      rw [if_pos (by simp; omega), if_pos ⟨by omega, by omega⟩, packW_succ, w64_of (by omega) (by omega)]
      congr 3
  simp only [ref01_Pack.c, ref01_Pack.t, Tw.run_opt, Tw.run_ret, hL, Option.bind_some]

theorem word_at_eq {w : List Int} (hw : Words w) {i : Nat} (hi : i < 4 * w.length) (hl : w.length ≤ 140737488351232) : word_at.c w (i : Int) = some (byteAt w i) := by
  have e1 : w64 (Int.tdiv (i : Int) 4) = ((i / 4 : Nat) : Int) := by
    rw [show ((4 : Int)) = ((4 : Nat) : Int) from rfl, tdiv_nat, w64_of (by omega) (by omega)]
  have e2 : Int.tmod (i : Int) 4 = ((i % 4 : Nat) : Int) := by
    rw [show ((4 : Int)) = ((4 : Nat) : Int) from rfl, tmod_nat]
  have e3 : wu64 (w64 (8 * w64 (3 - Int.tmod (i : Int) 4))) = ((8 * (3 - i % 4) : Nat) : Int) := by
    rw [e2, w64_of (n := 3 - ((i % 4 : Nat) : Int)) (by omega) (by omega), w64_of (by omega) (by omega), wu64_of (by omega) (by omega)]
    omega
  have hr := word_range hw (i / 4)
  simp only [word_at.c, word_at.t, Tw.run_dd, Tw.run_opt, Tw.run_ret, Tw.run_no, e1, e3, Int.toNat_natCast, word_some (show i / 4 < w.length by omega), Option.bind_some]
  rw [if_pos (by omega), if_neg (by omega), bShr_u32 _ _ (by omega), w8_eq]
  unfold byteAt
  have hm : i % 4 = 0 ∨ i % 4 = 1 ∨ i % 4 = 2 ∨ i % 4 = 3 := by omega
  rcases hm with hm | hm | hm | hm <;> rw [hm] <;> rfl

/-- Is a byte from a place on not nought? -/
def restB (w : List Int) (n : Nat) : Bool := ((List.range' n (4 * w.length - n)).find? fun k => byteAt w k != 0).isSome

theorem word_rest_eq {w : List Int} (hw : Words w) {n : Nat} (hn : n ≤ 4 * w.length) (hl : w.length ≤ 140737488351232) : word_rest.c w (n : Int) = some (restB w n) := by
  have e1 : w64 (w64 (4 * (w.length : Int)) - (n : Int)) = ((4 * w.length - n : Nat) : Int) := by
    rw [w64_of (n := 4 * (w.length : Int)) (by omega) (by omega), w64_of (by omega) (by omega)]
    omega
  have hL : word_rest.L2 w (n : Int) ((4 * w.length - n : Nat) : Int) 0 = some (if restB w n then .inr true else .inl ()) := by
    have := Lp_find (fun s => (word_rest.l2 w (n : Int) ((4 * w.length - n : Nat) : Int) s).run) (fun k => ((k - n : Nat) : Int)) (fun k => byteAt w k != 0) (fun _ => (.inr true : Unit ⊕ Bool)) (.inl ()) (4 * w.length - n) n (fun k h1 h2 => ?_) ?_
    · rw [Nat.sub_self] at this
      refine this.trans ?_
      unfold restB
      cases (List.range' n (4 * w.length - n)).find? fun k => byteAt w k != 0 <;> rfl
    · have e2 : w64 ((n : Int) + ((k - n : Nat) : Int)) = (k : Int) := by rw [w64_of (by omega) (by omega)]; omega
      simp only [word_rest.l2, Tw.run_bb, Tw.run_opt, Tw.run_ret, e2, word_at_eq hw (show k < 4 * w.length by omega) hl, Option.bind_some]
      rw [if_pos (by simp; omega)]
      split
      · rfl
      · rw [w64_of (by omega) (by omega)]
        congr 2
        omega
    · simp only [word_rest.l2, Tw.run_bb, Tw.run_ret]
      rw [if_neg (by simp)]
  simp only [word_rest.c, word_rest.t, Tw.run_opt, Tw.run_sm, Tw.run_ret, e1, hL, Option.bind_some]
  cases restB w n <;> rfl

def bytesW (w : List Int) (n : Nat) : List Int := (List.range n).map (byteAt w)

theorem word_Bytes_L10 {w : List Int} (hw : Words w) {n : Nat} (hn : n ≤ 4 * w.length) (hl : w.length ≤ 140737488351232) : word_Bytes.L10 w (n : Int) 0 (List.replicate n 0) = some (bytesW w n) := by
  have := Lp_seq (fun s => (word_Bytes.l10 w (n : Int) s.1 s.2).run) (fun k => ((k : Int), fillL n (byteAt w) k)) (x := bytesW w n) n 0 (fun k _ hk => ?_) (by
    simp only [word_Bytes.l10, Tw.run_bb, Nat.zero_add]
    rw [if_neg (by simp), fill_all]
    rfl)
  · rw [fill_zero] at this
    exact this
  · simp only [word_Bytes.l10, Tw.run_bb, Tw.run_opt, Tw.run_dd, Tw.run_ret, Tw.run_no, word_at_eq hw (show k < 4 * w.length by omega) hl, Option.bind_some, Int.toNat_natCast, fill_len, fill_get n (byteAt w) k k (by omega)]
    rw [if_pos (by simp; omega), if_pos ⟨by omega, by omega⟩, fill_set, w64_of (by omega) (by omega)]
    congr 3

/-- What 'Bytes' answers: why not, bytes. -/
def bytesR (w : List Int) (n : Int) : Int × List Int :=
  if n < 0 then (2, []) else if (w.length : Int) < need n then (5, []) else if (w.length : Int) > need n then (6, []) else if restB w n.toNat then (6, []) else (0, bytesW w n.toNat)

theorem word_Bytes_eq {w : List Int} (hw : Words w) (hl : w.length * 4 ≤ reachBytes) {n : Int} (hn : InR .i64 n) : word_Bytes.c w n = some (bytesR w n) := by
  have hl' : w.length ≤ 35184372087808 := by rw [reach_eq] at hl; omega
  have hn' := hn.i64
  simp only [word_Bytes.c, word_Bytes.t, Tw.run_opt, Tw.run_bb, Tw.run_dd, Tw.run_ret, Tw.run_no, word_Need_eq n hn, Option.bind_some, decide_eq_true_eq, bytesR]
  by_cases h0 : n < 0
  · rw [if_pos h0, if_pos h0]
  rw [if_neg h0, if_neg h0]
  by_cases h1 : (w.length : Int) < need n
  · rw [if_pos h1, if_pos h1]
  rw [if_neg h1, if_neg h1]
  by_cases h2 : (w.length : Int) > need n
  · rw [if_pos h2, if_pos h2]
  rw [if_neg h2, if_neg h2]
  obtain ⟨m, rfl⟩ := Int.eq_ofNat_of_zero_le (Int.not_lt.1 h0)
  rw [need_nat] at h1 h2
  have hm : m ≤ 4 * w.length := by unfold needN at h1 h2; omega
  have hm2 : 4 * w.length ≤ m + 3 := by unfold needN at h1 h2; omega
  rw [word_rest_eq hw hm (by omega)]
  simp only [Option.bind_some, Int.toNat_natCast, List.length_replicate]
  cases hr : restB w m with
  | true => simp
  | false =>
    simp only [Bool.false_eq_true, if_false]
    rw [if_pos ⟨by omega, by omega, by omega, by omega⟩, word_Bytes_L10 hw hm (by omega)]
    rfl

theorem bytesW_four {w : List Int} (i : Nat) : bytesW w (4 * (i + 1)) = bytesW w (4 * i) ++ [byteAt w (4 * i), byteAt w (4 * i + 1), byteAt w (4 * i + 2), byteAt w (4 * i + 3)] := by
  unfold bytesW
  rw [show 4 * (i + 1) = 4 * i + 1 + 1 + 1 + 1 by omega, List.range_succ, List.range_succ, List.range_succ, List.range_succ]
  simp

theorem ref01_Bytes_L9 {w : List Int} (hw : Words w) (hl : w.length ≤ 35184372087808) (hl4 : w.length * 4 ≤ reachBytes) (n : Int) : ref01_Bytes.L9 w n 0 [] = some (bytesW w (4 * w.length)) := by
  rw [reach_eq] at hl4
  have := Lp_seq (fun s => (ref01_Bytes.l9 w n s.1 s.2).run) (fun i => ((i : Int), bytesW w (4 * i))) (x := bytesW w (4 * w.length)) w.length 0 (fun i _ hi => ?_) (by
    simp only [ref01_Bytes.l9, Tw.run_bb, Nat.zero_add]
    rw [if_neg (by simp)]
    rfl)
  · exact this
  · have hi' : i < w.length := by omega
    have hr := word_range hw i
    have hlen : (bytesW w (4 * i)).length = 4 * i := by simp [bytesW]
    simp only [ref01_Bytes.l9, Tw.run_bb, Tw.run_opt, Tw.run_dd, Tw.run_ret, Tw.run_no, Int.toNat_natCast, word_some hi', Option.bind_some, List.length_cons, List.length_nil, hlen]
    rw [if_pos (by simp; omega), if_pos (by omega), if_pos (by omega), if_pos (by omega), if_pos (by omega), if_pos ⟨by omega, by omega⟩, bytesW_four, w64_of (by omega) (by omega)]
    have d1 : Int.tdiv (w.getD i 0) 16777216 = w.getD i 0 / 16777216 := Int.tdiv_eq_ediv_of_nonneg hr.1
    have d2 : Int.tdiv (w.getD i 0) 65536 = w.getD i 0 / 65536 := Int.tdiv_eq_ediv_of_nonneg hr.1
    have d3 : Int.tdiv (w.getD i 0) 256 = w.getD i 0 / 256 := Int.tdiv_eq_ediv_of_nonneg hr.1
    have d4 : Int.tmod (w.getD i 0) 256 = w.getD i 0 % 256 := Int.tmod_eq_emod_of_nonneg hr.1
    rw [d1, d2, d3, d4, w32_of (n := w.getD i 0 / 16777216) (by omega) (by omega), w32_of (n := w.getD i 0 / 65536) (by omega) (by omega), w32_of (n := w.getD i 0 / 256) (by omega) (by omega)]
    have m1 : Int.tmod (w.getD i 0 / 65536) 256 = w.getD i 0 / 65536 % 256 := Int.tmod_eq_emod_of_nonneg (by omega)
    have m2 : Int.tmod (w.getD i 0 / 256) 256 = w.getD i 0 / 256 % 256 := Int.tmod_eq_emod_of_nonneg (by omega)
    rw [m1, m2, w8_eq, w8_eq, w8_eq, w8_eq]
    have b0 : byteAt w (4 * i) = w.getD i 0 / 16777216 % 256 := by
      unfold byteAt; rw [show 4 * i / 4 = i by omega, show 4 * i % 4 = 0 by omega]; rfl
    have b1 : byteAt w (4 * i + 1) = w.getD i 0 / 65536 % 256 := by
      unfold byteAt; rw [show (4 * i + 1) / 4 = i by omega, show (4 * i + 1) % 4 = 1 by omega]; rfl
    have b2 : byteAt w (4 * i + 2) = w.getD i 0 / 256 % 256 := by
      unfold byteAt; rw [show (4 * i + 2) / 4 = i by omega, show (4 * i + 2) % 4 = 2 by omega]; rfl
    have b3 : byteAt w (4 * i + 3) = w.getD i 0 % 256 := by
      unfold byteAt; rw [show (4 * i + 3) / 4 = i by omega, show (4 * i + 3) % 4 = 3 by omega]; simp
    have k1 : w.getD i 0 / 65536 % 256 % 256 = w.getD i 0 / 65536 % 256 := by omega
    have k2 : w.getD i 0 / 256 % 256 % 256 = w.getD i 0 / 256 % 256 := by omega
    have k3 : w.getD i 0 % 256 % 256 = w.getD i 0 % 256 := by omega
    rw [b0, b1, b2, b3, k1, k2, k3]
    congr 3

theorem bytesW_get {w : List Int} {m k : Nat} (h : k < m) : (bytesW w m)[k]? = some (byteAt w k) := by
  unfold bytesW
  rw [List.getElem?_map, List.getElem?_range h]
  rfl

theorem ref01_Bytes_L13 {w : List Int} (hw : Words w) (hl : w.length ≤ 35184372087808) {n : Nat} (hn : n ≤ 4 * w.length) : ref01_Bytes.L13 (n : Int) (n : Int) (bytesW w (4 * w.length)) = some (if restB w n then .inr 6 else .inl ()) := by
  have hlen : (bytesW w (4 * w.length)).length = 4 * w.length := by simp [bytesW]
  have := Lp_find (fun s => (ref01_Bytes.l13 (n : Int) (bytesW w (4 * w.length)) s).run) (fun k => (k : Int)) (fun k => byteAt w k != 0) (fun _ => (.inr 6 : Unit ⊕ Int)) (.inl ()) (4 * w.length - n) n (fun k h1 h2 => ?_) ?_
  · refine this.trans ?_
    unfold restB
    cases (List.range' n (4 * w.length - n)).find? fun k => byteAt w k != 0 <;> rfl
  · simp only [ref01_Bytes.l13, Tw.run_bb, Tw.run_opt, Tw.run_dd, Tw.run_ret, Tw.run_no, Int.toNat_natCast, bytesW_get (show k < 4 * w.length by omega), Option.bind_some, hlen]
    rw [if_pos (by simp; omega), if_pos ⟨by omega, by omega⟩]
    split
    · rfl
    · rw [w64_of (by omega) (by omega)]
      rfl
  · simp only [ref01_Bytes.l13, Tw.run_bb, Tw.run_ret, hlen]
    rw [if_neg (by simp; omega)]

theorem ref01_Bytes_eq {w : List Int} (hw : Words w) (hl : w.length * 4 ≤ reachBytes) {n : Int} (hn : InR .i64 n) : ref01_Bytes.c w n = some ((bytesR w n).2, (bytesR w n).1) := by
  have hl' : w.length ≤ 35184372087808 := by rw [reach_eq] at hl; omega
  have hn' := hn.i64
  simp only [ref01_Bytes.c, ref01_Bytes.t, Tw.run_opt, Tw.run_bb, Tw.run_dd, Tw.run_ret, Tw.run_no, ref01_Need_eq n hn, Option.bind_some, decide_eq_true_eq, bytesR]
  by_cases h0 : n < 0
  · rw [if_pos h0, if_pos h0]
  rw [if_neg h0, if_neg h0]
  by_cases h1 : (w.length : Int) < need n
  · rw [if_pos h1, if_pos h1]
  rw [if_neg h1, if_neg h1]
  by_cases h2 : (w.length : Int) > need n
  · rw [if_pos h2, if_pos h2]
  rw [if_neg h2, if_neg h2]
  obtain ⟨m, rfl⟩ := Int.eq_ofNat_of_zero_le (Int.not_lt.1 h0)
  rw [need_nat] at h1 h2
  have hm : m ≤ 4 * w.length := by unfold needN at h1 h2; omega
  have hlen : (bytesW w (4 * w.length)).length = 4 * w.length := by simp [bytesW]
  rw [ref01_Bytes_L9 hw hl' hl]
  simp only [Option.bind_some]
  rw [ref01_Bytes_L13 hw hl' hm]
  simp only [Option.bind_some, Tw.run_sm, Int.toNat_natCast]
  cases hr : restB w m with
  | true => simp [Tw.run_ret]
  | false =>
    simp only [Bool.false_eq_true, if_false, Sum.elim_inl, Tw.run_dd, Tw.run_ret, hlen]
    rw [if_pos ⟨by omega, by omega⟩]
    simp only [Nat.sub_zero, List.drop_zero]
    unfold bytesW
    rw [← List.map_take, List.take_range, Nat.min_eq_left hm]

theorem ref01_Same_eq {a b : List Int} (hl : a.length ≤ 140737488351232) : ref01_Same.c a b = some (decide (a = b)) := by
  simp only [ref01_Same.c, ref01_Same.t, Tw.run_bb, Tw.run_opt, Tw.run_ret]
  by_cases hlen : a.length = b.length
  · rw [if_neg (by simp [hlen])]
    have hL : ref01_Same.L4 a b 0 = some (if a = b then .inl () else .inr false) := by
      have := Lp_find (fun s => (ref01_Same.l4 a b s).run) (fun k => (k : Int)) (fun k => a.getD k 0 != b.getD k 0) (fun _ => (.inr false : Unit ⊕ Bool)) (.inl ()) a.length 0 (fun k h1 h2 => ?_) ?_
      · refine this.trans ?_
        cases hf : (List.range' 0 a.length).find? fun k => a.getD k 0 != b.getD k 0 with
        | none =>
          rw [List.find?_eq_none] at hf
          rw [if_pos]
          apply List.ext_getElem? fun i => ?_
          by_cases hi : i < a.length
          · have := hf i (by rw [List.mem_range'_1]; omega)
            simp only [bne_iff_ne, ne_eq, Decidable.not_not] at this
            rw [word_some hi, word_some (show i < b.length by omega), this]
          · rw [List.getElem?_eq_none (by omega), List.getElem?_eq_none (by omega)]
        | some k =>
          have h := List.find?_some hf
          rw [if_neg]
          rintro rfl
          simp at h
      · have hk : k < a.length := by omega
        simp only [ref01_Same.l4, Tw.run_bb, Tw.run_opt, Tw.run_dd, Tw.run_ret, Tw.run_no, Int.toNat_natCast, word_some hk, word_some (show k < b.length by omega), Option.bind_some]
        rw [if_pos (by simp; omega), if_pos (by omega), if_pos (by omega)]
        split
        · rfl
        · rw [w64_of (by omega) (by omega)]
          rfl
      · simp only [ref01_Same.l4, Tw.run_bb, Tw.run_ret]
        rw [if_neg (by simp)]
    rw [hL]
    simp only [Option.bind_some, Tw.run_sm]
    by_cases h : a = b
    · simp [h, Tw.run_ret]
    · simp [h, Tw.run_ret]
  · rw [if_pos (by simp; omega)]
    have : a ≠ b := fun h => hlen (by rw [h])
    simp [this]

end Go.Proofs.Ytnlclchlnngdnaa.Pure
