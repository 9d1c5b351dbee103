/- Layer 2 (zeros): what its printed functions come to. -/
import Derived.Test.YtmlbioapefgioaaQAwake01
namespace Go.Proofs.Ytmlbioapefgioaa.Pure
open Go Go.Proofs.Ytmlbioapefgioaa.Va
set_option linter.unusedVariables false
set_option linter.unusedSimpArgs false

/-- The bits up to a place, counted. -/
def bitsTo (x : Nat) : Nat → Nat
  | 0 => 0
  | k + 1 => bitsTo x k + x / 2 ^ k % 2
theorem pop_bits (x : Nat) : ∀ k, pop x = bitsTo x k + pop (x / 2 ^ k)
  | 0 => by simp [bitsTo]
  | k + 1 => by
    rw [pop_bits x k, pop_step (x / 2 ^ k), bitsTo, Nat.pow_succ, Nat.div_div_eq_div_mul]
    omega
theorem bitsTo_le (x : Nat) : ∀ k, bitsTo x k ≤ k
  | 0 => by simp [bitsTo]
  | k + 1 => by
    have := bitsTo_le x k
    rw [bitsTo]
    omega
theorem pop_32 (x : Nat) (h : x < 4294967296) : bitsTo x 32 = pop x := by
  have := pop_bits x 32
  have e : x / 2 ^ 32 = 0 := by omega
  rw [e, pop_zero] at this
  omega

/-- How many noughts. -/
def zer (x : Int) : Nat := 32 - pop x.toNat
def zsum (l : List Int) : Nat := (l.map zer).sum
/-- The sum of words. -/
def zs (l : List Int) : Int := ((zsum l % 4294967296 : Nat) : Int)
theorem zsum_le (l : List Int) : zsum l ≤ 32 * l.length := by
  induction l with
  | nil => simp [zsum]
  | cons x l ih =>
    unfold zsum zer at *
    simp only [List.map_cons, List.sum_cons, List.length_cons]
    omega
theorem zsum_take (l : List Int) {i : Nat} (hi : i < l.length) : zsum (l.take (i + 1)) = zsum (l.take i) + zer (l.getD i 0) := by
  have : l.take (i + 1) = l.take i ++ [l.getD i 0] := by
    rw [List.take_add_one, List.getElem?_eq_getElem hi, List.getD_eq_getElem?_getD, List.getElem?_eq_getElem hi]
    rfl
  rw [this]
  simp [zsum]
theorem pop_u32 {x : Int} (h : InR .u32 x) : pop x.toNat ≤ 32 := pop_le 32 _ (by have := h.u32; omega)
theorem words_get {l : List Int} (hl : Words l) {i : Nat} (hi : i < l.length) : InR .u32 (l.getD i 0) := by
  rw [List.getD_eq_getElem?_getD, List.getElem?_eq_getElem hi]
  exact hl _ (List.getElem_mem hi)
theorem words_take {l : List Int} (hl : Words l) (i : Nat) : Words (l.take i) := fun x hx => hl x (List.mem_of_mem_take hx)

/-- Does the sum stand behind? -/
def rightB (l : List Int) : Bool := decide (0 < l.length) && (l.getD (l.length - 1) 0 == zs (l.take (l.length - 1)))

/-! Twins. -/
def twin (n : Int) : Int := (65535 - n) * 65536 + n
def toldR (x : Int) : Int × Bool := if x / 65536 = 65535 - x % 65536 then (x % 65536, true) else (0, false)

theorem bAnd_low {x : Int} (h : 0 ≤ x ∧ x < 4294967296) : bAnd .u32 x 65535 = x % 65536 := by
  obtain ⟨m, rfl⟩ := Int.eq_ofNat_of_zero_le h.1
  rw [show (65535 : Int) = ((65535 : Nat) : Int) from rfl, bAnd_nat _ _ (by omega) (by omega), show (65535 : Nat) = 2 ^ 16 - 1 by decide, Nat.and_two_pow_sub_one_eq_mod]
  omega

theorem twin_range {n : Int} (h0 : 0 ≤ n) (h1 : n ≤ 65535) : InR .u32 (twin n) := inR_u32 (by unfold twin; omega)
theorem toldR_twin {n : Int} (h0 : 0 ≤ n) (h1 : n ≤ 65535) : toldR (twin n) = (n, true) := by
  unfold toldR twin
  rw [if_pos (by omega)]
  congr 1
  omega

end Go.Proofs.Ytmlbioapefgioaa.Pure
