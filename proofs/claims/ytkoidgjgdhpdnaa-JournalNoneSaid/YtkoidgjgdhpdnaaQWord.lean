/- Layer 1 (word): what its printed functions come to. -/
import Derived.Test.YtkoidgjgdhpdnaaQ
import Derived.Test.YtkoidgjgdhpdnaaFword
import Derived.Test.YtkoidgjgdhpdnaaFref01
namespace Go.Proofs.Ytkoidgjgdhpdnaa.Pure
open Go Go.Proofs.Ytkoidgjgdhpdnaa.Va
set_option linter.unusedVariables false
set_option linter.unusedSimpArgs false

/-- How many words bytes need. -/
def needN (n : Nat) : Nat := (n + 3) / 4
def need (n : Int) : Int := if n < 1 then 0 else (n + 3) / 4
/-- A byte of a list; behind it noughts. -/
def byt (b : List Int) (i : Nat) : Int := b.getD i 0
/-- A word of bytes. -/
def wordAt (b : List Int) (j : Nat) : Int := byt b (4 * j) * 16777216 + byt b (4 * j + 1) * 65536 + byt b (4 * j + 2) * 256 + byt b (4 * j + 3)
def packW (b : List Int) (n : Nat) : List Int := (List.range n).map (wordAt b)
/-- A byte of words. -/
def byteAt (w : List Int) (i : Nat) : Int := w.getD (i / 4) 0 / 256 ^ (3 - i % 4) % 256

/-- The first bytes of a word. -/
def preW (b : List Int) (i : Nat) : Nat → Int
  | 0 => 0
  | k + 1 => preW b i k * 256 + byt b (i + k)
/-- Is a byte from a place on not nought? -/
def restB (w : List Int) (n : Nat) : Bool := ((List.range' n (4 * w.length - n)).find? fun k => byteAt w k != 0).isSome

def bytesW (w : List Int) (n : Nat) : List Int := (List.range n).map (byteAt w)

/-- What 'Bytes' answers: why not, bytes. -/
def bytesR (w : List Int) (n : Int) : Int × List Int :=
  if n < 0 then (2, []) else if (w.length : Int) < need n then (5, []) else if (w.length : Int) > need n then (6, []) else if restB w n.toNat then (6, []) else (0, bytesW w n.toNat)

theorem ref01_Same_eq {a b : List Int} (hl : a.length ≤ 140737488351232) : ref01_Same.c a b = some (decide (a = b)) := by
  simp only [ref01_Same.c, ref01_Same.t, Tw.run_bb, Tw.run_opt, Tw.run_ret]
  by_cases hlen : a.length = b.length
  · rw [if_neg (by simp [hlen])]
    have hL : ref01_Same.L4 a b 0 = some (if a = b then .inl () else .inr false) := by
      have := Lp_find (fun s => (ref01_Same.l4 a b s).run) (fun k => (k : Int)) (fun k => a.getD k 0 != b.getD k 0) (fun _ => (.inr false : Unit ⊕ Bool)) (.inl ()) a.length 0 (fun k h1 h2 => ?_) ?_
      · refine this.trans ?_
        cases hf : (List.range' 0 a.length).find? fun k => a.getD k 0 != b.getD k 0 with
        | none =>
          rw [List.find?_eq_none] at hf
          rw [if_pos]
          apply List.ext_getElem? fun i => ?_
          by_cases hi : i < a.length
          · have := hf i (by rw [List.mem_range'_1]; omega)
            simp only [bne_iff_ne, ne_eq, Decidable.not_not] at this
            rw [word_some hi, word_some (show i < b.length by omega), this]
          · rw [List.getElem?_eq_none (by omega), List.getElem?_eq_none (by omega)]
        | some k =>
          have h := List.find?_some hf
          rw [if_neg]
          rintro rfl
          simp at h
      · have hk : k < a.length := by omega
        simp only [ref01_Same.l4, Tw.run_bb, Tw.run_opt, Tw.run_dd, Tw.run_ret, Tw.run_no, Int.toNat_natCast, word_some hk, word_some (show k < b.length by omega), Option.bind_some]
        rw [if_pos (by simp; omega), if_pos (by omega), if_pos (by omega)]
        split
        · rfl
        · rw [w64_of (by omega) (by omega)]
          rfl
      · simp only [ref01_Same.l4, Tw.run_bb, Tw.run_ret]
        rw [if_neg (by simp)]
    rw [hL]
    simp only [Option.bind_some, Tw.run_sm]
    by_cases h : a = b
    · simp [h, Tw.run_ret]
    · simp [h, Tw.run_ret]
  · rw [if_pos (by simp; omega)]
    have : a ≠ b := fun h => hlen (by rw [h])
    simp [this]

end Go.Proofs.Ytkoidgjgdhpdnaa.Pure
