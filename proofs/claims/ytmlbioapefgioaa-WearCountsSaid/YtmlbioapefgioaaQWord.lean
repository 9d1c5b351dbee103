/- Layer 1 (word): what its printed functions come to. -/
import Derived.Test.YtmlbioapefgioaaQ
import Derived.Test.YtmlbioapefgioaaFword
namespace Go.Proofs.Ytmlbioapefgioaa.Pure
open Go Go.Proofs.Ytmlbioapefgioaa.Va
set_option linter.unusedVariables false
set_option linter.unusedSimpArgs false

/-- How many words bytes need. -/
def needN (n : Nat) : Nat := (n + 3) / 4
def need (n : Int) : Int := if n < 1 then 0 else (n + 3) / 4
theorem need_nat (n : Nat) : need (n : Int) = ((needN n : Nat) : Int) := by unfold need needN; split <;> omega

/-- A byte of a list; behind it noughts. -/
def byt (b : List Int) (i : Nat) : Int := b.getD i 0
/-- A word of bytes. -/
def wordAt (b : List Int) (j : Nat) : Int := byt b (4 * j) * 16777216 + byt b (4 * j + 1) * 65536 + byt b (4 * j + 2) * 256 + byt b (4 * j + 3)
def packW (b : List Int) (n : Nat) : List Int := (List.range n).map (wordAt b)
/-- A byte of words. -/
def byteAt (w : List Int) (i : Nat) : Int := w.getD (i / 4) 0 / 256 ^ (3 - i % 4) % 256

theorem byt_range {b : List Int} (h : Bytes b) (i : Nat) : 0 ≤ byt b i ∧ byt b i < 256 := by
  unfold byt
  rw [List.getD_eq_getElem?_getD]
  cases e : b[i]? with
  | none => simp
  | some x => exact (h x (List.mem_of_getElem? e)).u8
theorem wordAt_range {b : List Int} (h : Bytes b) (j : Nat) : 0 ≤ wordAt b j ∧ wordAt b j < 4294967296 := by
  have h0 := byt_range h (4 * j)
  have h1 := byt_range h (4 * j + 1)
  have h2 := byt_range h (4 * j + 2)
  have h3 := byt_range h (4 * j + 3)
  unfold wordAt
  omega
theorem packW_words {b : List Int} (h : Bytes b) (n : Nat) : Words (packW b n) := by
  intro x hx
  obtain ⟨j, _, rfl⟩ := List.mem_map.1 hx
  exact inR_u32 (wordAt_range h j)
theorem byt_take (b : List Int) (i k : Nat) : byt (b.take i) k = if k < i then byt b k else 0 := by
  unfold byt
  rw [List.getD_eq_getElem?_getD, List.getElem?_take, List.getD_eq_getElem?_getD]
  split <;> rfl
theorem byt_ge {b : List Int} {k : Nat} (h : b.length ≤ k) : byt b k = 0 := by
  unfold byt
  rw [List.getD_eq_getElem?_getD, List.getElem?_eq_none h]
  rfl
theorem byt_some {b : List Int} {k : Nat} (h : k < b.length) : b[k]? = some (byt b k) := by
  unfold byt
  rw [List.getD_eq_getElem?_getD, List.getElem?_eq_getElem h]
  rfl

theorem packW_nil (n : Nat) : packW [] n = List.replicate n 0 := by
  unfold packW
  apply List.ext_getElem?
  intro i
  rw [List.getElem?_map, List.getElem?_replicate]
  by_cases h : i < n
  · rw [List.getElem?_range h, if_pos h]; rfl
  · rw [List.getElem?_eq_none (by simpa using h), if_neg h]; rfl
/-- The first bytes of a word. -/
def preW (b : List Int) (i : Nat) : Nat → Int
  | 0 => 0
  | k + 1 => preW b i k * 256 + byt b (i + k)
theorem preW_range {b : List Int} (hb : Bytes b) (i : Nat) : ∀ k, 0 ≤ preW b i k ∧ preW b i k < 256 ^ k
  | 0 => by simp [preW]
  | k + 1 => by
    have h1 := preW_range hb i k
    have h2 := byt_range hb (i + k)
    rw [preW, Int.pow_succ]
    omega
theorem preW_four (b : List Int) (j : Nat) : preW b (4 * j) 4 = wordAt b j := by
  simp only [preW, wordAt, Nat.add_zero]
  omega

theorem packW_succ (b : List Int) (n : Nat) : packW b (n + 1) = packW b n ++ [wordAt b n] := by simp [packW, List.range_succ]

theorem byteAt_range {w : List Int} (hw : Words w) (i : Nat) : 0 ≤ byteAt w i ∧ byteAt w i < 256 := by
  unfold byteAt
  omega

/-- Is a byte from a place on not nought? -/
def restB (w : List Int) (n : Nat) : Bool := ((List.range' n (4 * w.length - n)).find? fun k => byteAt w k != 0).isSome

def bytesW (w : List Int) (n : Nat) : List Int := (List.range n).map (byteAt w)

/-- What 'Bytes' answers: why not, bytes. -/
def bytesR (w : List Int) (n : Int) : Int × List Int :=
  if n < 0 then (2, []) else if (w.length : Int) < need n then (5, []) else if (w.length : Int) > need n then (6, []) else if restB w n.toNat then (6, []) else (0, bytesW w n.toNat)

theorem bytesW_four {w : List Int} (i : Nat) : bytesW w (4 * (i + 1)) = bytesW w (4 * i) ++ [byteAt w (4 * i), byteAt w (4 * i + 1), byteAt w (4 * i + 2), byteAt w (4 * i + 3)] := by
  unfold bytesW
  rw [show 4 * (i + 1) = 4 * i + 1 + 1 + 1 + 1 by omega, List.range_succ, List.range_succ, List.range_succ, List.range_succ]
  simp

theorem bytesW_get {w : List Int} {m k : Nat} (h : k < m) : (bytesW w m)[k]? = some (byteAt w k) := by
  unfold bytesW
  rw [List.getElem?_map, List.getElem?_range h]
  rfl

theorem byteAt_pack {b : List Int} (hb : Bytes b) {n i : Nat} (hi : i < 4 * n) : byteAt (packW b n) i = byt b i := by
  have h0 := byt_range hb (4 * (i / 4))
  have h1 := byt_range hb (4 * (i / 4) + 1)
  have h2 := byt_range hb (4 * (i / 4) + 2)
  have h3 := byt_range hb (4 * (i / 4) + 3)
  have e : (packW b n).getD (i / 4) 0 = wordAt b (i / 4) := by
    unfold packW
    rw [List.getD_eq_getElem?_getD, List.getElem?_map, List.getElem?_range (by omega)]
    rfl
  unfold byteAt
  rw [e]
  unfold wordAt
  have hm : i % 4 = 0 ∨ i % 4 = 1 ∨ i % 4 = 2 ∨ i % 4 = 3 := by omega
  rcases hm with hm | hm | hm | hm
  · have hi4 : i = 4 * (i / 4) := by omega
    rw [hm, show byt b i = byt b (4 * (i / 4)) by rw [← hi4]]
    omega
  · have hi4 : i = 4 * (i / 4) + 1 := by omega
    rw [hm, show byt b i = byt b (4 * (i / 4) + 1) by rw [← hi4]]
    omega
  · have hi4 : i = 4 * (i / 4) + 2 := by omega
    rw [hm, show byt b i = byt b (4 * (i / 4) + 2) by rw [← hi4]]
    omega
  · have hi4 : i = 4 * (i / 4) + 3 := by omega
    rw [hm, show byt b i = byt b (4 * (i / 4) + 3) by rw [← hi4]]
    omega

theorem bytesR_pack {b : List Int} (hb : Bytes b) : bytesR (packW b (needN b.length)) (b.length : Int) = (0, b) := by
  have hlen : (packW b (needN b.length)).length = needN b.length := by simp [packW]
  unfold bytesR
  rw [if_neg (by omega), need_nat, hlen, if_neg (by omega), if_neg (by omega), Int.toNat_natCast]
  have hr : restB (packW b (needN b.length)) b.length = false := by
    unfold restB
    rw [Option.isSome_eq_false_iff, Option.isNone_iff_eq_none, List.find?_eq_none]
    intro k hk
    rw [List.mem_range'_1, hlen] at hk
    rw [byteAt_pack hb (by omega), byt_ge hk.1]
    simp
  rw [hr]
  simp only [Bool.false_eq_true, if_false]
  congr 1
  unfold bytesW
  apply List.ext_getElem?
  intro i
  rw [List.getElem?_map]
  by_cases hi : i < b.length
  · rw [List.getElem?_range hi, byt_some hi, Option.map_some, byteAt_pack hb (by unfold needN; omega)]
  · rw [List.getElem?_eq_none (by simpa using hi), List.getElem?_eq_none (by omega)]
    rfl


end Go.Proofs.Ytmlbioapefgioaa.Pure
