/- Layer 2 (zeros): what its printed functions come to. -/
import Derived.Test.YtkoidgjgdhpdnaaQAwake01
import Derived.Test.YtkoidgjgdhpdnaaFzeros
import Derived.Test.YtkoidgjgdhpdnaaFref02
namespace Go.Proofs.Ytkoidgjgdhpdnaa.Pure
open Go Go.Proofs.Ytkoidgjgdhpdnaa.Va
set_option linter.unusedVariables false
set_option linter.unusedSimpArgs false

theorem ref01_bit_eq (x : Nat) (h : x < 4294967296) {i : Nat} (hi : i ≤ 64) : ref01_bit.c (x : Int) (i : Int) = some ((x / 2 ^ i % 2 : Nat) : Int) := by
  have hL : ref01_bit.L2 (x : Int) (i : Int) 0 = some ((x / 2 ^ i : Nat) : Int) := by
    have := Lp_seq (fun s => (ref01_bit.l2 (i : Int) s.1 s.2).run) (fun k => (((x / 2 ^ k : Nat) : Int), (k : Int))) (x := ((x / 2 ^ i : Nat) : Int)) i 0 (fun k _ hk => ?_) (by
      simp only [ref01_bit.l2, Tw.run_bb, Nat.zero_add]
      rw [if_neg (by simp)]
      rfl)
    · simp only [Nat.pow_zero, Nat.div_one] at this
      exact this
    · have hle : x / 2 ^ k ≤ x := Nat.div_le_self _ _
      have e3 : x / 2 ^ (k + 1) = x / 2 ^ k / 2 := by rw [Nat.pow_succ, Nat.div_div_eq_div_mul]
      simp only [ref01_bit.l2, Tw.run_bb, Tw.run_ret, e3]
      generalize x / 2 ^ k = y at *
      rw [if_pos (by simp; omega)]
      rw [show Int.tdiv (y : Int) 2 = ((y / 2 : Nat) : Int) from rfl, w32_of (by omega) (by omega), w64_of (by omega) (by omega)]
      congr 3
  simp only [ref01_bit.c, ref01_bit.t, Tw.run_opt, Tw.run_ret, hL, Option.bind_some]
  rfl

/-- The bits up to a place, counted. -/
def bitsTo (x : Nat) : Nat → Nat
  | 0 => 0
  | k + 1 => bitsTo x k + x / 2 ^ k % 2
theorem pop_bits (x : Nat) : ∀ k, pop x = bitsTo x k + pop (x / 2 ^ k)
  | 0 => by simp [bitsTo]
  | k + 1 => by
    rw [pop_bits x k, pop_step (x / 2 ^ k), bitsTo, Nat.pow_succ, Nat.div_div_eq_div_mul]
    omega
theorem bitsTo_le (x : Nat) : ∀ k, bitsTo x k ≤ k
  | 0 => by simp [bitsTo]
  | k + 1 => by
    have := bitsTo_le x k
    rw [bitsTo]
    omega
theorem pop_32 (x : Nat) (h : x < 4294967296) : bitsTo x 32 = pop x := by
  have := pop_bits x 32
  have e : x / 2 ^ 32 = 0 := by omega
  rw [e, pop_zero] at this
  omega

theorem ref01_Ones_eq (x : Nat) (h : x < 4294967296) : ref01_Ones.c (x : Int) = some ((pop x : Nat) : Int) := by
  have hL : ref01_Ones.L3 (x : Int) 0 0 = some ((pop x : Nat) : Int) := by
    have := Lp_seq (fun s => (ref01_Ones.l3 (x : Int) s.1 s.2).run) (fun k => (((bitsTo x k : Nat) : Int), (k : Int))) (x := ((pop x : Nat) : Int)) 32 0 (fun k _ hk => ?_) (by
      simp only [ref01_Ones.l3, Tw.run_bb, Nat.zero_add]
      rw [if_neg (by simp), pop_32 x h]
      rfl)
    · exact this
    · have := bitsTo_le x k
      simp only [ref01_Ones.l3, Tw.run_bb, Tw.run_opt, Tw.run_ret, ref01_bit_eq x h (show k ≤ 64 by omega), Option.bind_some]
      rw [if_pos (by simp; omega), w64_of (n := ((x / 2 ^ k % 2 : Nat) : Int)) (by omega) (by omega), w64_of (by omega) (by omega), w64_of (by omega) (by omega), bitsTo]
      congr 3
  simp only [ref01_Ones.c, ref01_Ones.t, Tw.run_opt, Tw.run_ret, hL, Option.bind_some]

/-- How many noughts. -/
def zer (x : Int) : Nat := 32 - pop x.toNat
def zsum (l : List Int) : Nat := (l.map zer).sum
/-- The sum of words. -/
def zs (l : List Int) : Int := ((zsum l % 4294967296 : Nat) : Int)
theorem zsum_le (l : List Int) : zsum l ≤ 32 * l.length := by
  induction l with
  | nil => simp [zsum]
  | cons x l ih =>
    unfold zsum zer at *
    simp only [List.map_cons, List.sum_cons, List.length_cons]
    omega
theorem zsum_take (l : List Int) {i : Nat} (hi : i < l.length) : zsum (l.take (i + 1)) = zsum (l.take i) + zer (l.getD i 0) := by
  have : l.take (i + 1) = l.take i ++ [l.getD i 0] := by
    rw [List.take_add_one, List.getElem?_eq_getElem hi, List.getD_eq_getElem?_getD, List.getElem?_eq_getElem hi]
    rfl
  rw [this]
  simp [zsum]
theorem pop_u32 {x : Int} (h : InR .u32 x) : pop x.toNat ≤ 32 := pop_le 32 _ (by have := h.u32; omega)
theorem ones_of {x : Int} (h : InR .u32 x) : word_Ones.c x = some ((pop x.toNat : Nat) : Int) := by
  have := h.u32
  have e : x = ((x.toNat : Nat) : Int) := by omega
  have h2 := word_Ones_eq x.toNat (by omega)
  rw [← e] at h2
  exact h2
theorem ref_ones_of {x : Int} (h : InR .u32 x) : ref01_Ones.c x = some ((pop x.toNat : Nat) : Int) := by
  have := h.u32
  have e : x = ((x.toNat : Nat) : Int) := by omega
  have h2 := ref01_Ones_eq x.toNat (by omega)
  rw [← e] at h2
  exact h2
theorem words_get {l : List Int} (hl : Words l) {i : Nat} (hi : i < l.length) : InR .u32 (l.getD i 0) := by
  rw [List.getD_eq_getElem?_getD, List.getElem?_eq_getElem hi]
  exact hl _ (List.getElem_mem hi)
theorem words_take {l : List Int} (hl : Words l) (i : Nat) : Words (l.take i) := fun x hx => hl x (List.mem_of_mem_take hx)

theorem zeros_Sum_eq {l : List Int} (hw : Words l) (hl : l.length ≤ 140737488351232) : zeros_Sum.c l = some (zs l) := by
  have hL : zeros_Sum.L3 0 l (l.length : Int) 0 = some ((zsum l : Nat) : Int) := by
    have := Lp_seq (fun s => (zeros_Sum.l3 l (l.length : Int) s.1 s.2).run) (fun i => (((zsum (l.take i) : Nat) : Int), (i : Int))) (x := ((zsum l : Nat) : Int)) l.length 0 (fun i _ hi => ?_) (by
      simp only [zeros_Sum.l3, Tw.run_bb, Nat.zero_add]
      rw [if_neg (by simp), List.take_length]
      rfl)
    · exact this
    · have hi' : i < l.length := by omega
      have hp := pop_u32 (words_get hw hi')
      have hz := zsum_le (l.take i)
      rw [List.length_take] at hz
      simp only [zeros_Sum.l3, Tw.run_bb, Tw.run_dd, Tw.run_opt, Tw.run_ret, Tw.run_no, Int.toNat_natCast, word_some hi', ones_of (words_get hw hi'), Option.bind_some]
      rw [if_pos (by simp; omega), if_pos (by omega), zsum_take l hi', w64_of (n := 32 - ((pop (l.getD i 0).toNat : Nat) : Int)) (by omega) (by omega), w64_of (by omega) (by omega), w64_of (by omega) (by omega)]
      unfold zer
      congr 3
      omega
  simp only [zeros_Sum.c, zeros_Sum.t, Tw.run_opt, Tw.run_ret, hL, Option.bind_some]
  rw [w32_eq]
  rfl

theorem ref02_Sum_eq {l : List Int} (hw : Words l) (hl : l.length ≤ 140737488351232) : ref02_Sum.c l = some (zs l) := by
  have hL : ref02_Sum.L3 l 0 0 = some (zs l) := by
    have := Lp_seq (fun s => (ref02_Sum.l3 l s.1 s.2).run) (fun i => (zs (l.take i), (i : Int))) (x := zs l) l.length 0 (fun i _ hi => ?_) (by
      simp only [ref02_Sum.l3, Tw.run_bb, Nat.zero_add]
      rw [if_neg (by simp), List.take_length]
      rfl)
    · exact this
    · have hi' : i < l.length := by omega
      have hp := pop_u32 (words_get hw hi')
      simp only [ref02_Sum.l3, Tw.run_bb, Tw.run_dd, Tw.run_opt, Tw.run_ret, Tw.run_no, Int.toNat_natCast, word_some hi', ref_ones_of (words_get hw hi'), Option.bind_some]
      rw [if_pos (by simp; omega), if_pos (by omega), w64_of (by omega) (by omega), w32_eq, w32_eq, w32_eq]
      unfold zs
      rw [zsum_take l hi']
      unfold zer
      congr 3
      omega
  simp only [ref02_Sum.c, ref02_Sum.t, Tw.run_opt, Tw.run_ret, hL, Option.bind_some]

theorem zeros_Seal_eq {l : List Int} (hw : Words l) (hl : l.length * 4 ≤ reachBytes) : zeros_Seal.c l = some (l ++ [zs l]) := by
  rw [reach_eq] at hl
  have e1 : w64 ((l.length : Int) + 1) = ((l.length + 1 : Nat) : Int) := by rw [w64_of (by omega) (by omega)]; omega
  have e2 : List.take (l.length + 1) l ++ List.drop l.length (List.replicate (l.length + 1) (0 : Int)) = l ++ [0] := by
    rw [List.take_of_length_le (by omega), List.drop_replicate, show l.length + 1 - l.length = 1 by omega]
    rfl
  simp only [zeros_Seal.c, zeros_Seal.t, Tw.run_dd, Tw.run_opt, Tw.run_ret, Tw.run_no, e1, Int.toNat_natCast, List.length_replicate, e2, zeros_Sum_eq hw (show l.length ≤ 140737488351232 by omega), Option.bind_some]
  rw [if_pos ⟨by omega, by omega, by omega, by omega⟩, if_pos ⟨by omega, by simp; omega⟩]
  simp

theorem ref02_Seal_eq {l : List Int} (hw : Words l) (hl : l.length * 4 ≤ reachBytes) : ref02_Seal.c l = some (l ++ [zs l]) := by
  rw [reach_eq] at hl
  simp only [ref02_Seal.c, ref02_Seal.t, Tw.run_dd, Tw.run_opt, Tw.run_ret, Tw.run_no, ref02_Sum_eq hw (show l.length ≤ 140737488351232 by omega), Option.bind_some, List.length_cons, List.length_nil]
  rw [if_pos ⟨by omega, by omega⟩, if_pos ⟨by omega, by omega⟩]

/-- Does the sum stand behind? -/
def rightB (l : List Int) : Bool := decide (0 < l.length) && (l.getD (l.length - 1) 0 == zs (l.take (l.length - 1)))

theorem zeros_Right_eq {l : List Int} (hw : Words l) (hl : l.length ≤ 140737488351232) : zeros_Right.c l = some (rightB l) := by
  have e1 : w64 ((l.length : Int) - 1) = (l.length : Int) - 1 := w64_of (by omega) (by omega)
  simp only [zeros_Right.c, zeros_Right.t, Tw.run_bb, Tw.run_dd, Tw.run_opt, Tw.run_ret, Tw.run_no, e1, decide_eq_true_eq]
  unfold rightB
  by_cases h : 0 < l.length
  · have e2 : ((l.length : Int) - 1).toNat = l.length - 1 := by omega
    rw [if_pos (by omega), if_pos (by omega), e2, word_some (show l.length - 1 < l.length by omega)]
    simp only [Option.bind_some]
    rw [if_pos ⟨by omega, by omega⟩, zeros_Sum_eq (words_take hw _) (by rw [List.length_take]; omega)]
    simp [h]
  · rw [if_neg (by omega)]
    simp [h]

/-! Twins. -/
def twin (n : Int) : Int := (65535 - n) * 65536 + n
def toldR (x : Int) : Int × Bool := if x / 65536 = 65535 - x % 65536 then (x % 65536, true) else (0, false)

theorem zeros_Twin_eq (n : Int) (h : InR .i64 n) : zeros_Twin.c n = some (if n < 0 ∨ n > 65535 then (0, 2) else (twin n, 0)) := by
  have := h.i64
  simp only [zeros_Twin.c, zeros_Twin.t, Tw.run_bb, Tw.run_ret, decide_eq_true_eq]
  by_cases h0 : n < 0
  · rw [if_pos h0, if_pos (Or.inl h0)]
  · rw [if_neg h0]
    by_cases h1 : n > 65535
    · rw [if_pos h1, if_pos (Or.inr h1)]
    · rw [if_neg h1, if_neg (by omega)]
      have e1 : w32 n = n := w32_of (by omega) (by omega)
      have e2 : w32 (w64 (65535 - n)) = 65535 - n := by rw [w64_of (by omega) (by omega), w32_of (by omega) (by omega)]
      have e3 : bShl .u32 (65535 - n) 16 = (65535 - n) * 65536 := by
        rw [show (16 : Int) = ((16 : Nat) : Int) from rfl, bShl_u32 _ _ (by omega)]
        omega
      have e4 : bOr .u32 n ((65535 - n) * 65536) = twin n := by
        obtain ⟨m, rfl⟩ := Int.eq_ofNat_of_zero_le (show 0 ≤ n by omega)
        have := bOr_add (a := (65535 - (m : Int)) * 65536) (b := (m : Int)) 16 (by omega) (by omega) (by omega) (by omega) (by omega) (by omega)
        obtain ⟨k, hk⟩ := Int.eq_ofNat_of_zero_le (show 0 ≤ (65535 - (m : Int)) * 65536 by omega)
        rw [hk] at this ⊢
        rw [bOr_nat _ _ (by omega) (by omega)] at this
        rw [bOr_nat _ _ (by omega) (by omega), Nat.or_comm, this]
        unfold twin
        omega
      rw [e1, e2, e3, e4]

theorem bAnd_low {x : Int} (h : 0 ≤ x ∧ x < 4294967296) : bAnd .u32 x 65535 = x % 65536 := by
  obtain ⟨m, rfl⟩ := Int.eq_ofNat_of_zero_le h.1
  rw [show (65535 : Int) = ((65535 : Nat) : Int) from rfl, bAnd_nat _ _ (by omega) (by omega), show (65535 : Nat) = 2 ^ 16 - 1 by decide, Nat.and_two_pow_sub_one_eq_mod]
  omega

theorem zeros_Told_eq {x : Int} (h : InR .u32 x) : zeros_Told.c x = some (toldR x) := by
  have h := h.u32
  have e1 : bShr .u32 x 16 = x / 65536 := by
    rw [show (16 : Int) = ((16 : Nat) : Int) from rfl, bShr_u32 _ _ (by omega)]
    rfl
  have e2 : bNot .u32 x = 4294967295 - x := by
    obtain ⟨m, rfl⟩ := Int.eq_ofNat_of_zero_le h.1
    rw [bNot_nat m (by omega)]
    omega
  simp only [zeros_Told.c, zeros_Told.t, Tw.run_bb, Tw.run_ret, e1, e2, bAnd_low (show 0 ≤ 4294967295 - x ∧ 4294967295 - x < 4294967296 by omega), bAnd_low h]
  unfold toldR
  by_cases hc : x / 65536 = 65535 - x % 65536
  · rw [if_neg (by simp; omega), if_pos hc, w64_of (by omega) (by omega)]
  · rw [if_pos (by simp; omega), if_neg hc]

theorem ref02_Twin_eq {n : Int} (h0 : 0 ≤ n) (h1 : n ≤ 65535) : ref02_Twin.c n = some (twin n) := by
  simp only [ref02_Twin.c, ref02_Twin.t, Tw.run_ret]
  rw [w64_of (by omega) (by omega), w32_of (n := 65535 - n) (by omega) (by omega), w32_of (n := (65535 - n) * 65536) (by omega) (by omega), w32_of (n := n) (by omega) (by omega), w32_of (by omega) (by omega)]
  rfl

theorem twin_range {n : Int} (h0 : 0 ≤ n) (h1 : n ≤ 65535) : InR .u32 (twin n) := inR_u32 (by unfold twin; omega)
end Go.Proofs.Ytkoidgjgdhpdnaa.Pure
