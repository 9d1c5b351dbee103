/- Plain texts that BookFolds leans on, put together. -/
import Derived.Test.YtkoidgjgdhpdnaaQ
import Derived.Test.YtkoidgjgdhpdnaaFref01
import Derived.Test.YtkoidgjgdhpdnaaFword
import Derived.Test.YtkoidgjgdhpdnaaFflash
import Derived.Test.YtkoidgjgdhpdnaaFref07
import Derived.Test.YtkoidgjgdhpdnaaFslices
import Derived.Test.YtkoidgjgdhpdnaaFgeom
import Derived.Test.YtkoidgjgdhpdnaaFref08
import Derived.Test.YtkoidgjgdhpdnaaFdrive
import Derived.Test.YtkoidgjgdhpdnaaFref09
import Derived.Test.YtkoidgjgdhpdnaaFzeros
import Derived.Test.YtkoidgjgdhpdnaaFref02
import Derived.Test.YtkoidgjgdhpdnaaFframe
import Derived.Test.YtkoidgjgdhpdnaaFref10
import Derived.Test.YtkoidgjgdhpdnaaFjournal
import Derived.Test.YtkoidgjgdhpdnaaFref11
set_option linter.unusedSimpArgs false
set_option linter.unusedVariables false
namespace Go.Proofs.Ytkoidgjgdhpdnaa.Pure
open Go Go.Proofs.Ytkoidgjgdhpdnaa.Va

section
variable {α : Type}
theorem dd_pos {p : Prop} {d : Decidable p} {x y : Tw α} (h : p) : (Tw.dd p d x y).run = x.run := by rw [Tw.run_dd, if_pos h]
theorem dd_neg {p : Prop} {d : Decidable p} {x y : Tw α} (h : ¬ p) : (Tw.dd p d x y).run = y.run := by rw [Tw.run_dd, if_neg h]
theorem bb_pos {b : Bool} {x y : Tw α} (h : b = true) : (Tw.bb b x y).run = x.run := by rw [Tw.run_bb, if_pos h]
theorem bb_neg {b : Bool} {x y : Tw α} (h : b = false) : (Tw.bb b x y).run = y.run := by rw [Tw.run_bb, h]; rfl
theorem opt_some {β : Type} {o : Option β} {f : β → Tw α} {x : β} (h : o = some x) : (Tw.opt o f).run = (f x).run := by rw [Tw.run_opt, h]; rfl
end

section
variable {α β γ : Type}
theorem sm_inl {a : α} {f : α → Tw γ} {g : β → Tw γ} : (Tw.sm (.inl a) f g).run = (f a).run := rfl
theorem sm_inr {b : β} {f : α → Tw γ} {g : β → Tw γ} : (Tw.sm (.inr b) f g).run = (g b).run := rfl
end
theorem word_in {w : List Int} (hw : Words w) (i : Nat) : InR .u32 (w.getD i 0) := inR_u32 (word_range hw i)
theorem words_nil : Words [] := fun _ h => nomatch h
theorem words_cons {x : Int} {l : List Int} (h : InR .u32 x) (g : Words l) : Words (x :: l) := fun y hy => by
 rcases List.mem_cons.1 hy with rfl | hy
 ·exact h
 ·exact g y hy
theorem words_append {a b : List Int} (h : Words a) (g : Words b) : Words (a ++ b) := fun y hy => by
 rcases List.mem_append.1 hy with hy | hy
 ·exact h y hy
 ·exact g y hy
theorem words_drop {l : List Int} (hl : Words l) (i : Nat) : Words (l.drop i) := fun x hx => hl x (List.mem_of_mem_drop hx)
theorem words_set {l : List Int} (hl : Words l) (i : Nat) {x : Int} (h : InR .u32 x) : Words (l.set i x) := fun y hy => by
 rcases List.mem_or_eq_of_mem_set hy with hy | rfl
 ·exact hl y hy
 ·exact h

theorem take_snoc {α : Type} {l : List α} {i : Nat} (d : α) (hi : i < l.length) : l.take (i + 1) = l.take i ++ [l.getD i d] := by
 rw [List.take_add_one, List.getElem?_eq_getElem hi, List.getD_eq_getElem?_getD, List.getElem?_eq_getElem hi]
 rfl
theorem getD_some {α : Type} {l : List α} {i : Nat} (d : α) (hi : i < l.length) : l[i]? = some (l.getD i d) := by
 rw [List.getD_eq_getElem?_getD, List.getElem?_eq_getElem hi]
 rfl
section
variable {S X α β : Type}
end
end Go.Proofs.Ytkoidgjgdhpdnaa.Pure
namespace Go.Proofs.Ytkoidgjgdhpdnaa.Pure
open Go Go.Proofs.Ytkoidgjgdhpdnaa.Va

theorem bit_div (x i : Nat) : x / 2 ^ i % 2 = if x.testBit i then 1 else 0 := by
 rw [Nat.testBit_eq_decide_div_mod_eq]
 by_cases h : x / 2 ^ i % 2 = 1
 ·simp [h]
 ·rw [if_neg (by simpa using h)]; omega

theorem ref01_bits_bit_eq (x i : Nat) (hx : x < 4294967296) (hi : i ≤ 32) : ref01_bit.c (x : Int) (i : Int) = some (if x.testBit i then 1 else 0) := by
 have hl : ref01_bit.L2 (x : Int) (i : Int) 0 = some ((x / 2 ^ i : Nat) : Int) := by
  unfold ref01_bit.L2
  rw [show ((x : Int), (0 : Int)) = (fun k : Nat => (((x / 2 ^ k : Nat) : Int), (k : Int))) 0 by simp]
  refine Lp_seq _ (fun k : Nat => (((x / 2 ^ k : Nat) : Int), (k : Int))) i 0 (fun k _ hk => ?_) ?_
  ·simp only [ref01_bit.l2]
   have hk' : k < i := by omega
   rw [bb_pos (decide_eq_true (by omega))]
   rw [show (2 : Int) = ((2 : Nat) : Int) from rfl, tdiv_nat, Nat.div_div_eq_div_mul, show (2 : Nat) ^ k * 2 = 2 ^ (k + 1) from rfl]
   have : x / 2 ^ (k + 1) ≤ x := Nat.div_le_self _ _
   generalize x / 2 ^ (k + 1) = y at *
   rw [w32_of (by omega) (by omega), w64_of (by omega) (by omega)]
   rfl
  ·simp only [ref01_bit.l2, Nat.zero_add]
   rw [bb_neg (decide_eq_false (by omega))]
   rfl
 simp only [ref01_bit.c, ref01_bit.t, Tw.run_opt, hl, Option.bind_some, Tw.run_ret]
 rw [show (2 : Int) = ((2 : Nat) : Int) from rfl, tmod_nat, bit_div]
 split <;> rfl

def bitsN (a b m kind : Nat) : Nat := if kind = 0 then sub32 a b else if kind = 1 then sub32 a (sub32 m b) else a ||| m
theorem bitsN_lt {a b m kind : Nat} (ha : a < 4294967296) (hm : m < 4294967296) : bitsN a b m kind < 4294967296 := by
 unfold bitsN
 split
 ·exact sub_lt _ _
 ·split
  ·exact sub_lt _ _
  ·exact Nat.or_lt_two_pow (n := 32) (by omega) (by omega)
theorem bitsN_bit {a b m kind i : Nat} (hi : i < 32) : (bitsN a b m kind).testBit i = if kind = 0 then a.testBit i && !b.testBit i else if kind = 1 then a.testBit i && !(m.testBit i && !b.testBit i) else a.testBit i || m.testBit i := by
 unfold bitsN
 split
 ·exact sub_bit _ _ _ hi
 ·split
  ·rw [sub_bit _ _ _ hi, sub_bit _ _ _ hi]
  ·rw [Nat.testBit_or]

theorem ref01_Bits_eq (a b m kind : Nat) (ha : a < 4294967296) (hb : b < 4294967296) (hm : m < 4294967296) (hk : kind ≤ 2) :
    ref01_Bits.c (a : Int) (b : Int) (m : Int) (kind : Int) = some ((bitsN a b m kind : Nat) : Int) := by
  have hN := bitsN_lt (b := b) (kind := kind) ha hm
  have hl : ref01_Bits.L4 (a : Int) (b : Int) (m : Int) (kind : Int) 0 1 0 = some ((bitsN a b m kind : Nat) : Int) := by
    unfold ref01_Bits.L4
    rw [show ((0 : Int), ((1 : Int), (0 : Int))) = (fun i : Nat => (((bitsN a b m kind % 2 ^ i : Nat) : Int), (((2 ^ i % 2 ^ 32 : Nat) : Int), (i : Int)))) 0 by simp [Nat.mod_one]]
    refine Lp_seq _ (fun i : Nat => (((bitsN a b m kind % 2 ^ i : Nat) : Int), (((2 ^ i % 2 ^ 32 : Nat) : Int), (i : Int)))) 32 0 (fun i _ hi => ?_) ?_
    · have hi' : i < 32 := by omega
      have e1 := ref01_bits_bit_eq a i ha (by omega)
      have e2 := ref01_bits_bit_eq b i hb (by omega)
      have e3 := ref01_bits_bit_eq m i hm (by omega)
      have hp : (2 : Nat) ^ (i + 1) ≤ 2 ^ 32 := Nat.pow_le_pow_right (by decide) (by omega)
      have hp0 : (0 : Nat) < 2 ^ i := Nat.pow_pos (by decide)
      have hp2 : (2 : Nat) ^ (i + 1) = 2 * 2 ^ i := by rw [Nat.pow_succ, Nat.mul_comm]
      have hb : bitsN a b m kind % 2 ^ (i + 1) = bitsN a b m kind % 2 ^ i + 2 ^ i * (bitsN a b m kind / 2 ^ i % 2) := Nat.mod_pow_succ
      rw [bit_div, bitsN_bit hi'] at hb
      have hlt : bitsN a b m kind % 2 ^ i < 2 ^ i := Nat.mod_lt _ hp0
      have hw : (2 : Nat) ^ i % 2 ^ 32 = 2 ^ i := Nat.mod_eq_of_lt (by omega)
      have hw2 : w32 (((2 ^ i : Nat) : Int) * 2) = ((2 ^ (i + 1) % 2 ^ 32 : Nat) : Int) := by rw [w32_eq, hp2]; omega
      have hi1 : w64 ((i : Int) + 1) = ((i + 1 : Nat) : Int) := by rw [w64_of (by omega) (by omega)]; rfl
      have hkk : kind = 0 ∨ kind = 1 ∨ kind = 2 := by omega
      generalize hT : bitsN a b m kind % 2 ^ i = T at *
      have ho : w32 ((T : Int) + ((2 ^ i : Nat) : Int)) = ((T + 2 ^ i : Nat) : Int) := by rw [w32_of (by omega) (by omega)]; omega
      simp only [ref01_Bits.l4, hw]
      rw [bb_pos (decide_eq_true (by omega))]
      simp only [Tw.run_opt, e1, e2, e3, Option.bind_some]
      generalize hB : (if kind = 0 then a.testBit i && !b.testBit i else if kind = 1 then a.testBit i && !(m.testBit i && !b.testBit i) else a.testBit i || m.testBit i) = B at hb
      have hF : ∀ (o wq iq : Int), (Tw.bb ((kind : Int) == (0 : Int))
        (Tw.bb ((if a.testBit i = true then (1 : Int) else 0) == (1 : Int))
         (Tw.bb ((if b.testBit i = true then (1 : Int) else 0) == (0 : Int)) (.ret (.inl (o, (wq, iq)))) (.ret (.inl ((T : Int), (wq, iq)))))
         (.ret (.inl ((T : Int), (wq, iq)))))
        (Tw.bb ((kind : Int) == (1 : Int))
         (Tw.bb ((if a.testBit i = true then (1 : Int) else 0) == (1 : Int))
          (Tw.bb ((if b.testBit i = true then (1 : Int) else 0) == (0 : Int))
           (Tw.bb (!((if m.testBit i = true then (1 : Int) else 0) == (1 : Int))) (.ret (.inl (o, (wq, iq)))) (.ret (.inl ((T : Int), (wq, iq)))))
           (.ret (.inl (o, (wq, iq)))))
          (.ret (.inl ((T : Int), (wq, iq)))))
         (Tw.bb ((kind : Int) == (2 : Int))
          (Tw.bb ((if a.testBit i = true then (1 : Int) else 0) == (1 : Int)) (.ret (.inl (o, (wq, iq))))
           (Tw.bb ((if m.testBit i = true then (1 : Int) else 0) == (1 : Int)) (.ret (.inl (o, (wq, iq)))) (.ret (.inl ((T : Int), (wq, iq))))))
          (.ret (.inl ((T : Int), (wq, iq))))))).run = some (Sum.inl (α := Int × (Int × Int)) (β := Int) ((if B then o else (T : Int)), (wq, iq))) := by
        intro o wq iq
        subst hB
        rcases hkk with rfl | rfl | rfl <;> cases a.testBit i <;> cases b.testBit i <;> cases m.testBit i <;> rfl
      rw [hF, hw2, hi1, hb, ho]
      cases B <;> simp
    · simp only [ref01_Bits.l4, Nat.zero_add]
      rw [bb_neg (decide_eq_false (by omega))]
      rw [Nat.mod_eq_of_lt (show bitsN a b m kind < 2 ^ 32 by omega)]
      rfl
  simp only [ref01_Bits.c, ref01_Bits.t, Tw.run_opt, hl, Option.bind_some, Tw.run_ret]

end Go.Proofs.Ytkoidgjgdhpdnaa.Pure
namespace Go.Proofs.Ytkoidgjgdhpdnaa.Pure
open Go Go.Proofs.Ytkoidgjgdhpdnaa.Va

def need (n : Int) : Int := if n < 1 then 0 else (n + 3) / 4
def byteAt (w : List Int) (i : Nat) : Int := w.getD (i / 4) 0 / 256 ^ (3 - i % 4) % 256

def restB (w : List Int) (n : Nat) : Bool := ((List.range' n (4 * w.length - n)).find? fun k => byteAt w k != 0).isSome

def bytesW (w : List Int) (n : Nat) : List Int := (List.range n).map (byteAt w)

def bytesR (w : List Int) (n : Int) : Int × List Int :=
 if n < 0 then (2, []) else if (w.length : Int) < need n then (5, []) else if (w.length : Int) > need n then (6, []) else if restB w n.toNat then (6, []) else (0, bytesW w n.toNat)

end Go.Proofs.Ytkoidgjgdhpdnaa.Pure
namespace Go.Proofs.Ytkoidgjgdhpdnaa.Pure
open Go Go.Proofs.Ytkoidgjgdhpdnaa.Va

theorem u32_nat {x : Int} (h : InR .u32 x) : ∃ n : Nat, x = (n : Int) ∧ n < 4294967296 := ⟨x.toNat, by have := h.u32; omega, by have := h.u32; omega⟩
theorem bits0_eq {x w : Int} (hx : InR .u32 x) (hw : InR .u32 w) : ref01_Bits.c x w 0 0 = some (bAndn .u32 x w) := by
 obtain ⟨a, rfl, ha⟩ := u32_nat hx
 obtain ⟨b, rfl, hb⟩ := u32_nat hw
 exact (ref01_Bits_eq a b 0 0 ha hb (by decide) (by decide)).trans (by rw [bAndn_nat]; rfl)
theorem bits1_eq {w x m : Int} (hw : InR .u32 w) (hx : InR .u32 x) (hm : InR .u32 m) : ref01_Bits.c w x m 1 = some (bAndn .u32 w (bAndn .u32 m x)) := by
 obtain ⟨a, rfl, ha⟩ := u32_nat hw
 obtain ⟨b, rfl, hb⟩ := u32_nat hx
 obtain ⟨c, rfl, hc⟩ := u32_nat hm
 exact (ref01_Bits_eq a b c 1 ha hb hc (by decide)).trans (by rw [bAndn_nat, bAndn_nat]; rfl)
theorem bits2_eq {w m : Int} (hw : InR .u32 w) (hm : InR .u32 m) : ref01_Bits.c w 0 m 2 = some (bOr .u32 w m) := by
 obtain ⟨a, rfl, ha⟩ := u32_nat hw
 obtain ⟨c, rfl, hc⟩ := u32_nat hm
 exact (ref01_Bits_eq a 0 c 2 ha (by decide) hc (by decide)).trans (by rw [bOr_nat a c ha hc]; rfl)
theorem bAndn_in {w m : Int} (hw : InR .u32 w) (hm : InR .u32 m) : InR .u32 (bAndn .u32 w m) := by
 obtain ⟨a, rfl, ha⟩ := u32_nat hw
 obtain ⟨c, rfl, hc⟩ := u32_nat hm
 rw [bAndn_nat]
 have := sub_lt a c
 exact inR_u32 (by omega)
theorem bOr_in {w m : Int} (hw : InR .u32 w) (hm : InR .u32 m) : InR .u32 (bOr .u32 w m) := by
 obtain ⟨a, rfl, ha⟩ := u32_nat hw
 obtain ⟨c, rfl, hc⟩ := u32_nat hm
 rw [bOr_nat a c ha hc]
 have := Nat.or_lt_two_pow (n := 32) (x := a) (y := c) (by omega) (by omega)
 exact inR_u32 (by omega)
theorem bOr_ones {w : Int} (hw : InR .u32 w) : bOr .u32 w 4294967295 = 4294967295 := by
 obtain ⟨a, rfl, ha⟩ := u32_nat hw
 rw [show (4294967295 : Int) = ((4294967295 : Nat) : Int) from rfl, bOr_nat a _ ha (by decide)]
 congr 1
 refine ext32 (Nat.or_lt_two_pow (n := 32) (by omega) (by decide)) (by decide) (fun i hi => ?_)
 rw [Nat.testBit_or, show (4294967295 : Nat) = 2 ^ 32 - 1 from rfl, Nat.testBit_two_pow_sub_one]
 simp [hi]

def upd (W : List Int) (o n : Nat) (g : Nat → Int → Int) : List Int := W.take o ++ ((List.range n).map (fun i => g i (W.getD (o + i) 0)) ++ W.drop (o + n))
theorem upd_len {W : List Int} {o n : Nat} {g : Nat → Int → Int} (h : o + n ≤ W.length) : (upd W o n g).length = W.length := by
 simp [upd]
 omega
theorem upd_zero {W : List Int} {o : Nat} {g : Nat → Int → Int} : upd W o 0 g = W := by simp [upd]
theorem upd_get {W : List Int} {o n i : Nat} {g : Nat → Int → Int} (h : o + n ≤ W.length) : (upd W o n g).getD i 0 = if o ≤ i ∧ i < o + n then g (i - o) (W.getD i 0) else W.getD i 0 := by
 have e : (W.take o).length = o := by rw [List.length_take]; omega
 simp only [upd, List.getD_eq_getElem?_getD]
 by_cases h1 : i < o
 ·rw [if_neg (by omega), List.getElem?_append_left (by omega), List.getElem?_take_of_lt h1]
 ·rw [List.getElem?_append_right (by omega), e]
  by_cases h2 : i < o + n
  ·rw [if_pos ⟨by omega, h2⟩, List.getElem?_append_left (by simp; omega), List.getElem?_map, List.getElem?_range (by omega)]
   simp only [Option.map_some, Option.getD_some]
   rw [show o + (i - o) = i by omega]
  ·rw [if_neg (by omega), List.getElem?_append_right (by simp; omega), List.getElem?_drop]
   congr 2
   simp
   omega
theorem upd_set {W : List Int} {o n : Nat} {g : Nat → Int → Int} (h : o + n < W.length) : (upd W o n g).set (o + n) (g n (W.getD (o + n) 0)) = upd W o (n + 1) g := by
 have e : (W.take o).length = o := by rw [List.length_take]; omega
 have e2 : W.drop (o + n) = W.getD (o + n) 0 :: W.drop (o + (n + 1)) := by
  rw [List.getD_eq_getElem?_getD, List.getElem?_eq_getElem h]
  exact List.drop_eq_getElem_cons h
 unfold upd
 rw [List.set_append_right _ _ (by omega), e, show o + n - o = n by omega, List.set_append_right _ _ (by simp), e2]
 simp [List.range_succ]
theorem upd_words {W : List Int} {o n : Nat} {g : Nat → Int → Int} (hW : Words W) (hg : ∀ i x, InR .u32 x → InR .u32 (g i x)) : Words (upd W o n g) := by
 refine words_append (fun x hx => hW x (List.mem_of_mem_take hx)) (words_append (fun x hx => ?_) (words_drop hW _))
 obtain ⟨i, _, rfl⟩ := List.mem_map.1 hx
 exact hg i _ (word_in hW _)
theorem Lp_upd (f : Int × List Int → Option ((Int × List Int) ⊕ List Int)) (W : List Int) (o n : Nat) (g : Nat → Int → Int) (hl : o + n ≤ W.length) (hn : n ≤ 1024)
  (h : ∀ (i : Nat) (U : List Int) (x : Int), i < n → U.length = W.length → U[o + i]? = some x → x = W.getD (o + i) 0 → f ((i : Int), U) = some (.inl (((i + 1 : Nat) : Int), U.set (o + i) (g i x))))
  (he : ∀ U, U.length = W.length → f ((n : Int), U) = some (.inr U)) : Lp f ((0 : Int), W) = some (upd W o n g) := by
 have := Lp_seq f (fun i : Nat => ((i : Int), upd W o i g)) (x := upd W o n g) n 0 (fun i _ hi => by
  have hi' : i < n := by omega
  have el := upd_len (g := g) (show o + i ≤ W.length by omega)
  have eg := upd_get (g := g) (i := o + i) (show o + i ≤ W.length by omega)
  rw [if_neg (by omega)] at eg
  have hs : (upd W o i g)[o + i]? = some (W.getD (o + i) 0) := by rw [word_some (by omega), eg]
  show f ((i : Int), upd W o i g) = _
  rw [h i _ _ hi' el hs rfl, upd_set (by omega)]) (by
  rw [Nat.zero_add]
  exact he _ (upd_len hl))
 rw [show ((0 : Int), W) = ((fun i : Nat => ((i : Int), upd W o i g)) 0) by simp [upd_zero]]
 exact this

def fz (M : List Int) (i : Nat) : Int := if M.length = 0 then 0 else M.getD (i % M.length) 0
theorem fz_in {M : List Int} (h : Words M) (i : Nat) : InR .u32 (fz M i) := by
 unfold fz
 split
 ·exact inR_u32 (by decide)
 ·exact word_in h _
theorem flash_fuse_mask_v2_eq (n C : Int) (D : Bool) (A : Int) (W V M : List Int) (i : Nat) : flash_fuse_mask.c (i : Int) n C D A W V M = some (fz M i) := by
 simp only [flash_fuse_mask.c, flash_fuse_mask.t]
 by_cases h : M.length = 0
 ·rw [bb_pos (by rw [h]; rfl)]
  simp [fz, h, Tw.run_ret]
 ·rw [bb_neg (beq_eq_false_iff_ne.2 (by omega)), dd_neg (by omega), tmod_nat]
  have := Nat.mod_lt i (show 0 < M.length by omega)
  rw [dd_pos (by omega), Int.toNat_natCast, opt_some (word_some this), Tw.run_ret, fz, if_neg h]
theorem ref07_mask_v2_eq (n C : Int) (D : Bool) (A : Int) (W V M : List Int) (i : Nat) : ref07_Flash_mask.c (i : Int) n C D A W V M = some (fz M i) := flash_fuse_mask_v2_eq n C D A W V M i

end Go.Proofs.Ytkoidgjgdhpdnaa.Pure
namespace Go.Proofs.Ytkoidgjgdhpdnaa.Pure
open Go Go.Proofs.Ytkoidgjgdhpdnaa.Va

structure Fl where
 C : Int
 D : Bool
 A : Int
 W : List Int
 V : List Int
 M : List Int
def burn (A : Int) : Int := if A < 0 then A else A - 1
def Fl.prog (s : Fl) (a x : Int) : Int × Fl :=
 if s.D then (10, s) else if a < 0 ∨ a ≥ s.W.length then (3, s) else if bAndn .u32 x (s.W.getD a.toNat 0) ≠ 0 then (11, s) else
 if s.A = 0 then (10, { s with C := w64 (s.C + 1), D := true, A := -1, W := s.W.set a.toNat (bAndn .u32 (s.W.getD a.toNat 0) (bAndn .u32 (fz s.M 0) x)) })
 else (0, { s with C := w64 (s.C + 1), A := burn s.A, W := s.W.set a.toNat x })
def Fl.erase (n : Nat) (s : Fl) (k : Int) : Int × Fl :=
 if s.D then (10, s) else if k < 0 ∨ k ≥ s.V.length then (3, s) else
 if s.A = 0 then (10, { s with C := w64 (s.C + 1), D := true, A := -1, W := upd s.W (k.toNat * n) n (fun i w => bOr .u32 w (fz s.M i)), V := s.V.set k.toNat (w64 (s.V.getD k.toNat 0 + 1)) })
 else (0, { s with C := w64 (s.C + 1), A := burn s.A, W := upd s.W (k.toNat * n) n (fun _ _ => 4294967295), V := s.V.set k.toNat (w64 (s.V.getD k.toNat 0 + 1)) })
def Fl.read (s : Fl) (a : Int) : Int × Int := if s.D then (0, 10) else if a < 0 ∨ a ≥ s.W.length then (0, 3) else (s.W.getD a.toNat 0, 0)

structure FlOK (n : Nat) (s : Fl) : Prop where
 n1 : 1 ≤ n
 n2 : n ≤ 1024
 vs : s.V.length ≤ 512
 ws : s.W.length = s.V.length * n
 w : Words s.W
 m : Words s.M
 ml : s.M.length ≤ 200
 a : InR .i64 s.A

theorem mul_le {a b n m : Nat} (h1 : a ≤ n) (h2 : b ≤ m) : a * b ≤ n * m := Nat.mul_le_mul h1 h2
theorem FlOK.wl {n : Nat} {s : Fl} (h : FlOK n s) : s.W.length ≤ 524288 := by rw [h.ws]; exact mul_le h.vs h.n2
theorem FlOK.w64w {n : Nat} {s : Fl} (h : FlOK n s) : w64 ((s.V.length : Int) * (n : Int)) = (s.W.length : Int) := by
 have := h.wl
 rw [show (s.V.length : Int) * (n : Int) = ((s.V.length * n : Nat) : Int) by rw [Int.natCast_mul], ← h.ws, w64_of (by omega) (by omega)]
theorem flash_mask0_eq (n C : Int) (D : Bool) (A : Int) (W V M : List Int) : flash_fuse_mask.c 0 n C D A W V M = some (fz M 0) := flash_fuse_mask_v2_eq n C D A W V M 0
theorem ref07_mask0_eq (n C : Int) (D : Bool) (A : Int) (W V M : List Int) : ref07_Flash_mask.c 0 n C D A W V M = some (fz M 0) := flash_fuse_mask_v2_eq n C D A W V M 0

section
variable {n : Nat} {s : Fl} (h : FlOK n s)
include h

theorem flash_words_eq : flash_Flash_words.c (n : Int) s.C s.D s.A s.W s.V s.M = some (s.W.length : Int) := by
 simp only [flash_Flash_words.c, flash_Flash_words.t, flash_Flash_Size.c, flash_Flash_Size.t, Tw.run_opt, Tw.run_ret, Option.bind_some, h.w64w]
omit h in
theorem flash_may_eq (i m : Int) (n' C : Int) (D : Bool) (A : Int) (W V M : List Int) : flash_Flash_may.c i m n' C D A W V M = some (if D then 10 else if i < 0 ∨ i ≥ m then 3 else 0) := by
 simp only [flash_Flash_may.c, flash_Flash_may.t]
 cases D
 ·rw [bb_neg rfl]
  by_cases h1 : i < 0
  ·rw [bb_pos (decide_eq_true h1)]
   simp [h1, Tw.run_ret]
  ·rw [bb_neg (decide_eq_false h1)]
   by_cases h2 : i ≥ m
   ·rw [bb_pos (decide_eq_true h2)]
    simp [h2, Tw.run_ret]
   ·rw [bb_neg (decide_eq_false h2)]
    simp [h1, h2, Tw.run_ret]
 ·rw [bb_pos rfl]
  simp [Tw.run_ret]
theorem flash_Read_eq (a : Int) : flash_Flash_Read.c a (n : Int) s.C s.D s.A s.W s.V s.M = some (s.read a) := by
 simp only [flash_Flash_Read.c, flash_Flash_Read.t]
 rw [opt_some (flash_words_eq h), opt_some (flash_may_eq ..)]
 unfold Fl.read
 by_cases hd : s.D = true
 ·rw [if_pos hd, if_pos hd, bb_pos (by first | rfl | decide), Tw.run_ret]
 rw [if_neg hd, if_neg hd]
 by_cases ha : a < 0 ∨ a ≥ (s.W.length : Int)
 ·rw [if_pos ha, if_pos ha, bb_pos (by first | rfl | decide), Tw.run_ret]
 ·rw [if_neg ha, if_neg ha, bb_neg (by first | rfl | decide), dd_pos (by omega), opt_some (word_some (by omega)), Tw.run_ret]
omit h in
theorem ref07_Read_eq (a : Int) : ref07_Flash_Read.c a (n : Int) s.C s.D s.A s.W s.V s.M = some (s.read a) := by
 simp only [ref07_Flash_Read.c, ref07_Flash_Read.t]
 unfold Fl.read
 by_cases hd : s.D = true
 ·rw [if_pos hd, bb_pos hd, Tw.run_ret]
 rw [if_neg hd, bb_neg (by simpa using hd)]
 by_cases h1 : a < 0
 ·rw [if_pos (Or.inl h1), bb_pos (decide_eq_true h1), Tw.run_ret]
 rw [bb_neg (decide_eq_false h1)]
 by_cases h2 : a ≥ (s.W.length : Int)
 ·rw [if_pos (Or.inr h2), bb_pos (decide_eq_true h2), Tw.run_ret]
 rw [bb_neg (decide_eq_false h2), if_neg (by omega), dd_pos (by omega), opt_some (word_some (by omega)), Tw.run_ret]

theorem flash_write_eq (C : Int) (D : Bool) (W V M : List Int) : flash_Flash_write.c (n : Int) C D s.A W V M = some (if s.A = 0 then (true, w64 (C + 1), true, -1) else (false, w64 (C + 1), false, burn s.A)) := by
 have ha := h.a.i64
 simp only [flash_Flash_write.c, flash_Flash_write.t, flash_fuse_blows.c, flash_fuse_blows.t, Tw.run_opt]
 by_cases h0 : s.A = 0
 ·rw [h0]; rfl
 ·rw [if_neg h0]
  unfold burn
  by_cases h1 : s.A < 0
  ·rw [bb_pos (decide_eq_true h1), if_pos h1]; rfl
  ·rw [bb_neg (decide_eq_false h1), if_neg h1, w64_of (n := s.A - 1) (by omega) (by omega)]
   simp only [Tw.run_ret, Option.bind_some]
   rw [decide_eq_false (by omega)]
theorem ref07_torn_eq (C : Int) (W V M : List Int) : ref07_Flash_torn.c (n : Int) C false s.A W V M = some (if s.A = 0 then (true, w64 (C + 1), true, -1) else (false, w64 (C + 1), false, burn s.A)) := by
 have ha := h.a.i64
 simp only [ref07_Flash_torn.c, ref07_Flash_torn.t]
 by_cases h0 : s.A = 0
 ·rw [h0]; rfl
 ·rw [if_neg h0, bb_neg (beq_eq_false_iff_ne.2 h0)]
  unfold burn
  by_cases h1 : s.A < 0
  ·rw [bb_neg (decide_eq_false (by omega)), if_pos h1, Tw.run_ret]
  ·rw [bb_pos (decide_eq_true (by omega)), if_neg h1, w64_of (n := s.A - 1) (by omega) (by omega), Tw.run_ret]

theorem flash_Program_eq (a x : Int) (hx : InR .u32 x) : flash_Flash_Program.c a x (n : Int) s.C s.D s.A s.W s.V s.M = some ((s.prog a x).1, (s.prog a x).2.C, (s.prog a x).2.D, (s.prog a x).2.A, (s.prog a x).2.W) := by
 simp only [flash_Flash_Program.c, flash_Flash_Program.t]
 rw [opt_some (flash_words_eq h), opt_some (flash_may_eq ..)]
 unfold Fl.prog
 by_cases hd : s.D = true
 ·rw [if_pos hd, if_pos hd, bb_pos (by first | rfl | decide), Tw.run_ret]
 rw [if_neg hd, if_neg hd]
 by_cases ha : a < 0 ∨ a ≥ (s.W.length : Int)
 ·rw [if_pos ha, if_pos ha, bb_pos (by first | rfl | decide), Tw.run_ret]
 rw [if_neg ha, if_neg ha, bb_neg (by first | rfl | decide), dd_pos (by omega)]
 have hs := word_some (w := s.W) (i := a.toNat) (by omega)
 rw [opt_some hs]
 simp only [word_Within.c, word_Within.t, Tw.run_opt, Tw.run_ret, Option.bind_some]
 by_cases hb : bAndn .u32 x (s.W.getD a.toNat 0) ≠ 0
 ·rw [if_pos hb, bb_pos (by rw [beq_eq_false_iff_ne.2 hb]; rfl), Tw.run_ret]
 have hb' : bAndn .u32 x (s.W.getD a.toNat 0) = 0 := by simpa using hb
 rw [if_neg hb, bb_neg (by rw [hb']; rfl), opt_some (flash_write_eq h ..)]
 by_cases h0 : s.A = 0
 ·rw [if_pos h0, if_pos h0, bb_pos (by first | rfl | decide), dd_pos (by omega), opt_some hs, opt_some (flash_mask0_eq ..)]
  simp only [word_Torn.c, word_Torn.t, Tw.run_opt, Tw.run_ret, Option.bind_some]
  rw [dd_pos (by omega), opt_some hs, Tw.run_ret]
 ·rw [if_neg h0, if_neg h0, bb_neg (by first | rfl | decide), dd_pos (by omega), opt_some hs, Tw.run_ret]
  have : s.D = false := by simpa using hd
  rw [this]
theorem ref07_Program_eq (a x : Int) (hx : InR .u32 x) : ref07_Flash_Program.c a x (n : Int) s.C s.D s.A s.W s.V s.M = some ((s.prog a x).1, (s.prog a x).2.C, (s.prog a x).2.D, (s.prog a x).2.A, (s.prog a x).2.W) := by
 simp only [ref07_Flash_Program.c, ref07_Flash_Program.t]
 rw [opt_some (ref07_Read_eq a)]
 unfold Fl.prog Fl.read
 by_cases hd : s.D = true
 ·rw [if_pos hd, if_pos hd, bb_pos (by first | rfl | decide), Tw.run_ret]
 have hd' : s.D = false := by simpa using hd
 rw [if_neg hd, if_neg hd]
 by_cases ha : a < 0 ∨ a ≥ (s.W.length : Int)
 ·rw [if_pos ha, if_pos ha, bb_pos (by first | rfl | decide), Tw.run_ret]
 rw [if_neg ha, if_neg ha, bb_neg (by first | rfl | decide)]
 have hs := word_some (w := s.W) (i := a.toNat) (by omega)
 have hw := word_in h.w a.toNat
 rw [opt_some (bits0_eq hx hw)]
 by_cases hb : bAndn .u32 x (s.W.getD a.toNat 0) ≠ 0
 ·rw [if_pos hb, bb_pos (by simpa using hb), Tw.run_ret]
 have hb' : bAndn .u32 x (s.W.getD a.toNat 0) = 0 := by simpa using hb
 rw [if_neg hb, bb_neg (by rw [hb']; rfl), hd', opt_some (ref07_torn_eq h ..)]
 by_cases h0 : s.A = 0
 ·rw [if_pos h0, if_pos h0, bb_pos (by first | rfl | decide), opt_some (ref07_mask0_eq ..), opt_some (bits1_eq hw hx (fz_in h.m 0)), dd_pos (by omega), opt_some hs, Tw.run_ret]
 ·rw [if_neg h0, if_neg h0, bb_neg (by first | rfl | decide), dd_pos (by omega), opt_some hs, Tw.run_ret]

end

def raise (b : Bool) (M : List Int) (i : Nat) (w : Int) : Int := if b then bOr .u32 w (fz M i) else 4294967295
theorem at_of {n : Nat} {s : Fl} (h : FlOK n s) {k : Int} (h0 : 0 ≤ k) (h1 : k < s.V.length) : ∃ j : Nat, k = j ∧ j * n + n ≤ s.W.length ∧ w64 (k * (n : Int)) = ((j * n : Nat) : Int) ∧ j < s.V.length := by
 refine ⟨k.toNat, by omega, ?_, ?_, by omega⟩
 ·have : (k.toNat + 1) * n ≤ s.V.length * n := Nat.mul_le_mul_right _ (by omega)
  rw [h.ws]
  rw [Nat.add_mul] at this
  omega
 ·have e : k * (n : Int) = ((k.toNat * n : Nat) : Int) := by rw [Int.natCast_mul]; congr 1; omega
  have : k.toNat * n ≤ 512 * 1024 := mul_le (by have := h.vs; omega) h.n2
  rw [e, w64_of (by omega) (by omega)]
theorem flash_L8_eq {n : Nat} {s : Fl} (h : FlOK n s) (b : Bool) (j : Nat) (hj : j * n + n ≤ s.W.length) (C : Int) (D : Bool) (A : Int) (V : List Int) (hM : Words s.M) :
  flash_Flash_Erase.L8 b 0 (j * n) n (n : Int) C D A s.W V s.M = some (upd s.W (j * n) n (raise b s.M)) := by
 have hn := h.n2
 unfold flash_Flash_Erase.L8
 refine Lp_upd _ s.W (j * n) n (raise b s.M) hj hn (fun i U x hi hl hs hx => ?_) (fun U hl => ?_)
 ·have hw : InR .u32 x := by rw [hx]; exact word_in h.w _
  have e : w64 ((i : Int) + 1) = ((i + 1 : Nat) : Int) := by rw [w64_of (by omega) (by omega)]; rfl
  simp only [flash_Flash_Erase.l8]
  rw [bb_pos (decide_eq_true (by omega))]
  cases b
  ·rw [bb_neg rfl, dd_pos (by omega), Int.toNat_natCast, opt_some hs]
   simp only [word_Raised.c, word_Raised.t, Tw.run_opt, Tw.run_ret, Option.bind_some]
   rw [dd_pos (by omega), opt_some hs, Tw.run_ret, bOr_ones hw, e]
   rfl
  ·rw [bb_pos rfl, opt_some (flash_fuse_mask_v2_eq ..), dd_pos (by omega), Int.toNat_natCast, opt_some hs]
   simp only [word_Raised.c, word_Raised.t, Tw.run_opt, Tw.run_ret, Option.bind_some]
   rw [dd_pos (by omega), opt_some hs, Tw.run_ret, e]
   rfl
 ·simp only [flash_Flash_Erase.l8]
  rw [bb_neg (decide_eq_false (by omega)), Tw.run_ret]
theorem ref07_L8_eq {n : Nat} {s : Fl} (h : FlOK n s) (b : Bool) (k : Int) (j : Nat) (hk : w64 (k * (n : Int)) = ((j * n : Nat) : Int)) (hj : j * n + n ≤ s.W.length) (C : Int) (D : Bool) (A : Int) (V : List Int) :
  ref07_Flash_Erase.L8 k b 0 (n : Int) C D A s.W V s.M = some (upd s.W (j * n) n (raise b s.M)) := by
 have hn := h.n2
 have hl := h.wl
 unfold ref07_Flash_Erase.L8
 refine Lp_upd _ s.W (j * n) n (raise b s.M) hj hn (fun i U x hi hl hs hx => ?_) (fun U hl => ?_)
 ·have hw : InR .u32 x := by rw [hx]; exact word_in h.w _
  have e : w64 ((i : Int) + 1) = ((i + 1 : Nat) : Int) := by rw [w64_of (by omega) (by omega)]; rfl
  have e2 : w64 (w64 (k * (n : Int)) + (i : Int)) = ((j * n + i : Nat) : Int) := by rw [hk, w64_of (by omega) (by omega)]; omega
  simp only [ref07_Flash_Erase.l8, e2]
  rw [bb_pos (decide_eq_true (by omega))]
  cases b
  ·rw [bb_neg rfl, dd_pos (by omega), Int.toNat_natCast, opt_some hs, Tw.run_ret, e]
   rfl
  ·rw [bb_pos rfl, dd_pos (by omega), Int.toNat_natCast, opt_some hs, opt_some (ref07_mask_v2_eq ..), opt_some (bits2_eq hw (fz_in h.m i)), dd_pos (by omega), opt_some hs, Tw.run_ret, e]
   rfl
 ·simp only [ref07_Flash_Erase.l8]
  rw [bb_neg (decide_eq_false (by omega)), Tw.run_ret]

theorem flash_Erase_eq {n : Nat} {s : Fl} (h : FlOK n s) (k : Int) : flash_Flash_Erase.c k (n : Int) s.C s.D s.A s.W s.V s.M =
  some ((s.erase n k).1, (s.erase n k).2.C, (s.erase n k).2.D, (s.erase n k).2.A, (s.erase n k).2.W, (s.erase n k).2.V) := by
 simp only [flash_Flash_Erase.c, flash_Flash_Erase.t, flash_Flash_Size.c, flash_Flash_Size.t]
 rw [opt_some (Tw.run_ret _), opt_some (flash_may_eq ..)]
 unfold Fl.erase
 by_cases hd : s.D = true
 ·rw [if_pos hd, if_pos hd, bb_pos (by first | rfl | decide), Tw.run_ret]
 rw [if_neg hd, if_neg hd]
 by_cases ha : k < 0 ∨ k ≥ (s.V.length : Int)
 ·rw [if_pos ha, if_pos ha, bb_pos (by first | rfl | decide), Tw.run_ret]
 have hd' : s.D = false := by simpa using hd
 obtain ⟨j, rfl, hj, he, hv⟩ := at_of h (k := k) (by omega) (by omega)
 have hs := word_some (w := s.V) (i := j) hv
 rw [if_neg ha, if_neg ha, bb_neg (by first | rfl | decide), dd_pos (by omega), Int.toNat_natCast, opt_some hs, dd_pos (by omega), opt_some hs, opt_some (flash_write_eq h ..), he,
  dd_pos (by omega), dd_pos (by rw [Int.toNat_natCast]; omega), Int.toNat_natCast, Int.toNat_natCast, Nat.add_zero, Nat.sub_zero, opt_some (flash_L8_eq h _ j hj _ _ _ _ h.m)]
 by_cases h0 : s.A = 0
 ·rw [if_pos h0, if_pos h0, bb_pos (by first | rfl | decide), Tw.run_ret]
  rfl
 ·rw [if_neg h0, if_neg h0, bb_neg (by first | rfl | decide), Tw.run_ret, hd']
  rfl
theorem ref07_Erase_eq {n : Nat} {s : Fl} (h : FlOK n s) (k : Int) : ref07_Flash_Erase.c k (n : Int) s.C s.D s.A s.W s.V s.M =
  some ((s.erase n k).1, (s.erase n k).2.C, (s.erase n k).2.D, (s.erase n k).2.A, (s.erase n k).2.W, (s.erase n k).2.V) := by
 simp only [ref07_Flash_Erase.c, ref07_Flash_Erase.t]
 unfold Fl.erase
 by_cases hd : s.D = true
 ·rw [if_pos hd, bb_pos hd, Tw.run_ret]
 have hd' : s.D = false := by simpa using hd
 rw [if_neg hd, bb_neg hd']
 by_cases h1 : k < 0
 ·rw [if_pos (Or.inl h1), bb_pos (decide_eq_true h1), Tw.run_ret]
 rw [bb_neg (decide_eq_false h1)]
 by_cases h2 : k ≥ (s.V.length : Int)
 ·rw [if_pos (Or.inr h2), bb_pos (decide_eq_true h2), Tw.run_ret]
 obtain ⟨j, rfl, hj, he, hv⟩ := at_of h (k := k) (by omega) (by omega)
 have hs := word_some (w := s.V) (i := j) hv
 rw [bb_neg (decide_eq_false h2), if_neg (by omega), dd_pos (by omega), Int.toNat_natCast, opt_some hs, dd_pos (by omega), opt_some hs, hd', opt_some (ref07_torn_eq h ..),
  opt_some (ref07_L8_eq h _ _ j he hj _ _ _ _)]
 by_cases h0 : s.A = 0
 ·rw [if_pos h0, if_pos h0, bb_pos (by first | rfl | decide), Tw.run_ret]
  rfl
 ·rw [if_neg h0, if_neg h0, bb_neg (by first | rfl | decide), Tw.run_ret]
  rfl

end Go.Proofs.Ytkoidgjgdhpdnaa.Pure
namespace Go.Proofs.Ytkoidgjgdhpdnaa.Pure
open Go Go.Proofs.Ytkoidgjgdhpdnaa.Va

theorem clone32_eq {l : List Int} (h : l.length * 4 ≤ 140737488355328) : slices_Clone__uint32uint32.c l = some l := by
 simp only [slices_Clone__uint32uint32.c, slices_Clone__uint32uint32.t]
 rw [dd_pos (by simp; omega)]
 rfl
def flNew (a b : Nat) : Fl := ⟨0, false, -1, List.replicate (a * b) 4294967295, List.replicate a 0, []⟩
theorem flNew_ok {a b : Nat} (ha : 1 ≤ a) (ha' : a ≤ 512) (hb : 1 ≤ b) (hb' : b ≤ 1024) : FlOK b (flNew a b) :=
 ⟨hb, hb', by simpa [flNew] using ha', by simp [flNew], fun x hx => by rw [List.eq_of_mem_replicate hx]; exact inR_u32 (by decide), words_nil, by simp [flNew], inR_i64 (by simp [flNew])⟩
theorem ones_set (N i : Nat) (h : i < N) : (List.replicate i (4294967295 : Int) ++ List.replicate (N - i) 0).set i 4294967295 = List.replicate (i + 1) 4294967295 ++ List.replicate (N - (i + 1)) 0 := by
 rw [List.set_append_right _ _ (by simp), show N - i = (N - (i + 1)) + 1 by omega, List.replicate_succ, List.length_replicate, Nat.sub_self, List.set_cons_zero, List.replicate_succ', List.append_assoc]
 rfl
theorem flash_L5_eq (N : Nat) (hN : N ≤ 524288) (n C : Int) (D : Bool) (A : Int) (V : List Int) : flash_New.L5 (N : Int) 0 n C D A (List.replicate N 0) V = some (List.replicate N 4294967295) := by
 unfold flash_New.L5
 have := Lp_seq (fun s : Int × List Int => (flash_New.l5 (N : Int) n C D A V s.1 s.2).run) (fun i : Nat => ((i : Int), List.replicate i (4294967295 : Int) ++ List.replicate (N - i) 0)) (x := List.replicate N 4294967295) N 0 (fun i _ hi => by
  have hi' : i < N := by omega
  simp only [flash_New.l5]
  have hl : (List.replicate i (4294967295 : Int) ++ List.replicate (N - i) 0).length = N := by simp; omega
  rw [bb_pos (decide_eq_true (by omega)), dd_pos (by omega), Int.toNat_natCast, opt_some (word_some (by omega)), Tw.run_ret, ones_set N i hi', w64_of (by omega) (by omega)]
  rfl) (by
  simp only [flash_New.l5, Nat.zero_add]
  rw [bb_neg (decide_eq_false (by omega)), Tw.run_ret, Nat.sub_self, List.replicate_zero, List.append_nil])
 simpa using this
theorem ref07_L5_eq (a b N : Nat) (hN : N ≤ 524288) (he : w64 ((a : Int) * (b : Int)) = (N : Int)) (n C : Int) (D : Bool) (A : Int) (V : List Int) : ref07_New.L5 (a : Int) (b : Int) 0 n C D A [] V = some (List.replicate N 4294967295) := by
 unfold ref07_New.L5
 have := Lp_seq (fun s : Int × List Int => (ref07_New.l5 (a : Int) (b : Int) n C D A V s.1 s.2).run) (fun i : Nat => ((i : Int), List.replicate i (4294967295 : Int))) (x := List.replicate N 4294967295) N 0 (fun i _ hi => by
  have hi' : i < N := by omega
  simp only [ref07_New.l5, he]
  rw [bb_pos (decide_eq_true (by omega)), dd_pos (by simp; omega), Tw.run_ret, w64_of (by omega) (by omega), ← List.replicate_succ']
  rfl) (by
  simp only [ref07_New.l5, Nat.zero_add, he]
  rw [bb_neg (decide_eq_false (by omega)), Tw.run_ret])
 simpa using this
end Go.Proofs.Ytkoidgjgdhpdnaa.Pure
namespace Go.Proofs.Ytkoidgjgdhpdnaa.Pure
open Go Go.Proofs.Ytkoidgjgdhpdnaa.Va

theorem prog_m (s : Fl) (a x : Int) : (s.prog a x).2.V = s.V ∧ (s.prog a x).2.M = s.M ∧ (s.prog a x).2.W.length = s.W.length := by
 unfold Fl.prog
 repeat' split
 all_goals simp
theorem burn_in {A : Int} (h : InR .i64 A) : InR .i64 (burn A) := by
 have := h.i64
 unfold burn
 split
 ·exact h
 ·exact inR_i64 (by omega)
theorem prog_ok {n : Nat} {s : Fl} (h : FlOK n s) (a x : Int) (hx : InR .u32 x) : FlOK n (s.prog a x).2 := by
 unfold Fl.prog
 split
 ·exact h
 split
 ·exact h
 split
 ·exact h
 split
 ·exact ⟨h.n1, h.n2, h.vs, by simpa using h.ws, words_set h.w _ (bAndn_in (word_in h.w _) (bAndn_in (fz_in h.m _) hx)), h.m, h.ml, inR_i64 (by simp)⟩
 ·exact ⟨h.n1, h.n2, h.vs, by simpa using h.ws, words_set h.w _ hx, h.m, h.ml, burn_in h.a⟩
theorem erase_m (n : Nat) (s : Fl) (k : Int) : (s.erase n k).2.M = s.M ∧ (s.erase n k).2.V.length = s.V.length := by
 unfold Fl.erase
 repeat' split
 all_goals simp
theorem erase_ok {n : Nat} {s : Fl} (h : FlOK n s) (k : Int) : FlOK n (s.erase n k).2 := by
 unfold Fl.erase
 split
 ·exact h
 split
 ·exact h
 obtain ⟨j, rfl, hj, he, hv⟩ := at_of h (k := k) (by omega) (by omega)
 split
 ·refine ⟨h.n1, h.n2, by simpa using h.vs, ?_, upd_words h.w (fun i x hx => bOr_in hx (fz_in h.m i)), h.m, h.ml, inR_i64 (by simp)⟩
  simp only [Int.toNat_natCast, List.length_set]
  rw [upd_len hj, h.ws]
 ·refine ⟨h.n1, h.n2, by simpa using h.vs, ?_, upd_words (g := fun _ _ => 4294967295) h.w (fun _ _ _ => inR_u32 (by decide)), h.m, h.ml, burn_in h.a⟩
  simp only [Int.toNat_natCast, List.length_set]
  rw [upd_len hj, h.ws]
def Fl.power (s : Fl) (M : List Int) : Fl := { s with D := false, A := -1, M := M }
section
variable {n : Nat} {s : Fl} (h : FlOK n s)
include h
omit h
end

end Go.Proofs.Ytkoidgjgdhpdnaa.Pure
namespace Go.Proofs.Ytkoidgjgdhpdnaa.Pure
open Go Go.Proofs.Ytkoidgjgdhpdnaa.Va

def GeoOK (g0 g1 g2 g3 g4 g5 : Int) : Prop := (64 ≤ g0 ∧ g0 ≤ 1024) ∧ (2 ≤ g1 ∧ g1 ≤ 32) ∧ (2 ≤ g3 ∧ g3 ≤ g0 - 8) ∧ (g3 + 3 ≤ g2 ∧ g2 ≤ 128) ∧ (1 ≤ g4 ∧ g4 ≤ 9) ∧ (1 ≤ g5 ∧ g5 ≤ 1073741823)
instance (g0 g1 g2 g3 g4 g5 : Int) : Decidable (GeoOK g0 g1 g2 g3 g4 g5) := by unfold GeoOK; infer_instance
abbrev GeoR (g0 g1 g2 g3 g4 g5 : Int) : Prop := InR .i64 g0 ∧ InR .i64 g1 ∧ InR .i64 g2 ∧ InR .i64 g3 ∧ InR .i64 g4 ∧ InR .i64 g5

section
variable {g0 g1 g2 g3 g4 g5 : Int}

theorem w64_sub8 (h : InR .i64 g0) (h2 : 64 ≤ g0) : w64 (g0 - 8) = g0 - 8 := by
 have := h.i64
 exact w64_of (by omega) (by omega)

theorem geom_Check_eq (h : GeoR g0 g1 g2 g3 g4 g5) : geom_Check.c g0 g1 g2 g3 g4 g5 = some (if GeoOK g0 g1 g2 g3 g4 g5 then 0 else 2) := by
 obtain ⟨i0, i1, i2, i3, i4, i5⟩ := h
 have j0 := i0.i64
 have j3 := i3.i64
 obtain ⟨sp, hsp⟩ : ∃ sp : List (Int × Int × Int), sp = [(g0, 64, 1024), (g1, 2, 32), (g3, 2, w64 (g0 - 8)), (g2, w64 (3 + imin g3 128), 128), (g4, 1, 9), (g5, 1, 1073741823)] := ⟨_, rfl⟩
 have hlen : sp.length = 6 := by rw [hsp]; rfl
 have hL : geom_Check.L2 ((sp.length : Nat) : Int) 0 sp = some (pickO (sp.find? fun x => decide (x.1 < x.2.1) || decide (x.1 > x.2.2)) (fun _ => .inr 2) (.inl ())) := by
  refine Lp_list (fun s => (geom_Check.l2 ((sp.length : Nat) : Int) sp s).run) (fun i => (i : Int)) sp (fun x => decide (x.1 < x.2.1) || decide (x.1 > x.2.2)) (fun _ => .inr 2) (.inl ()) (fun i a h => ?_) ?_
  ·have hi := (List.getElem?_eq_some_iff.1 h).1
   simp only [geom_Check.l2, Tw.run_bb, Tw.run_dd, Tw.run_opt, Tw.run_ret, Tw.run_no, Int.toNat_natCast, h, Option.bind_some]
   rw [if_pos (by simp; omega), if_pos ⟨by omega, by omega⟩, w64_of (by omega) (by omega)]
   cases decide (a.1 < a.2.1) <;> cases decide (a.1 > a.2.2) <;> rfl
  ·simp only [geom_Check.l2, Tw.run_bb, Tw.run_ret]
   rw [if_neg (by simp)]
 have e : geom_Check.t g0 g1 g2 g3 g4 g5 = .opt (geom_Check.L2 ((sp.length : Nat) : Int) 0 sp) fun z2 => .sm z2 (fun _ => .ret 0) (fun z4 => .ret z4) := by rw [hsp]; rfl
 unfold geom_Check.c
 rw [e, Tw.run_opt, hL, Option.bind_some, Tw.run_sm]
 have hmin : imin g3 128 = if 128 < g3 then 128 else g3 := rfl
 cases hf : sp.find? fun x => decide (x.1 < x.2.1) || decide (x.1 > x.2.2) with
 | none =>
  rw [List.find?_eq_none, hsp] at hf
  have a0 := hf _ (List.mem_cons_self ..)
  have a1 := hf _ (List.mem_cons_of_mem _ (List.mem_cons_self ..))
  have a2 := hf _ (List.mem_cons_of_mem _ (List.mem_cons_of_mem _ (List.mem_cons_self ..)))
  have a3 := hf _ (List.mem_cons_of_mem _ (List.mem_cons_of_mem _ (List.mem_cons_of_mem _ (List.mem_cons_self ..))))
  have a4 := hf _ (List.mem_cons_of_mem _ (List.mem_cons_of_mem _ (List.mem_cons_of_mem _ (List.mem_cons_of_mem _ (List.mem_cons_self ..)))))
  have a5 := hf _ (List.mem_cons_of_mem _ (List.mem_cons_of_mem _ (List.mem_cons_of_mem _ (List.mem_cons_of_mem _ (List.mem_cons_of_mem _ (List.mem_cons_self ..))))))
  simp only [Bool.or_eq_true, decide_eq_true_eq, not_or, Int.not_lt, gt_iff_lt] at a0 a1 a2 a3 a4 a5
  rw [w64_sub8 i0 (by omega)] at a2
  have hm2 : imin g3 128 ≤ 128 ∧ 2 ≤ imin g3 128 ∧ (imin g3 128 = g3 ∨ imin g3 128 = 128) := by rw [hmin]; split <;> omega
  rw [w64_of (n := 3 + imin g3 128) (by omega) (by omega)] at a3
  have ok : GeoOK g0 g1 g2 g3 g4 g5 := ⟨by omega, by omega, by omega, by omega, by omega, by omega⟩
  rw [if_pos ok]
  rfl
 | some x =>
  rw [if_neg]
  ·rfl
  rintro ⟨k0, k1, k2, k3, k4, k5⟩
  have h1 := List.find?_some hf
  have h2 := List.mem_of_find?_eq_some hf
  rw [hsp] at h2
  have hm2 : imin g3 128 = g3 := by rw [hmin, if_neg (by omega)]
  rw [w64_sub8 i0 (by omega), hm2, w64_of (n := 3 + g3) (by omega) (by omega)] at h2
  simp only [List.mem_cons, List.not_mem_nil, or_false] at h2
  simp only [Bool.or_eq_true, decide_eq_true_eq] at h1
  rcases h2 with rfl | rfl | rfl | rfl | rfl | rfl <;> simp only [] at h1 <;> omega

theorem ref08_between_eq (n lo hi : Int) : ref08_between.c n lo hi = some (decide (lo ≤ n ∧ n ≤ hi)) := by
 simp only [ref08_between.c, ref08_between.t, Tw.run_bb, Tw.run_ret, decide_eq_true_eq]
 by_cases h : lo ≤ n
 ·rw [if_pos h]; simp [h]
 ·rw [if_neg h]; simp [h]

theorem ref08_Right_eq (h : GeoR g0 g1 g2 g3 g4 g5) : ref08_Right.c g0 g1 g2 g3 g4 g5 = some (decide (GeoOK g0 g1 g2 g3 g4 g5)) := by
 obtain ⟨i0, i1, i2, i3, i4, i5⟩ := h
 have j0 := i0.i64
 have j3 := i3.i64
 simp only [ref08_Right.c, ref08_Right.t, Tw.run_opt, Tw.run_bb, Tw.run_ret, ref08_between_eq, Option.bind_some, Bool.not_eq_true', decide_eq_false_iff_not, decide_eq_true_eq]
 have fin (b : Bool) (h : b = true ↔ GeoOK g0 g1 g2 g3 g4 g5) : some b = some (decide (GeoOK g0 g1 g2 g3 g4 g5)) := by
  congr 1
  rw [Bool.eq_iff_iff, decide_eq_true_iff]
  exact h
 by_cases k0 : 64 ≤ g0 ∧ g0 ≤ 1024
 ·rw [if_neg (by omega), w64_sub8 i0 k0.1]
  by_cases k1 : 2 ≤ g1 ∧ g1 ≤ 32
  ·rw [if_neg (by omega)]
   by_cases k2 : 2 ≤ g3 ∧ g3 ≤ g0 - 8
   ·rw [if_neg (by omega), w64_of (by omega) (by omega)]
    by_cases k3 : g3 + 3 ≤ g2 ∧ g2 ≤ 128
    ·rw [if_pos k3]
     by_cases k4 : 1 ≤ g4 ∧ g4 ≤ 9
     ·rw [if_pos k4]
      refine fin _ ?_
      rw [decide_eq_true_iff]
      unfold GeoOK
      omega
     ·rw [if_neg k4]
      refine fin _ ?_
      unfold GeoOK
      simp only [Bool.false_eq_true, false_iff]
      omega
    ·rw [if_neg k3]
     refine fin _ ?_
     unfold GeoOK
     simp only [Bool.false_eq_true, false_iff]
     omega
   ·rw [if_pos k2]
    refine fin _ ?_
    unfold GeoOK
    simp only [Bool.false_eq_true, false_iff]
    omega
  ·rw [if_pos k1]
   refine fin _ ?_
   unfold GeoOK
   simp only [Bool.false_eq_true, false_iff]
   omega
 ·rw [if_pos k0]
  refine fin _ ?_
  unfold GeoOK
  simp only [Bool.false_eq_true, false_iff]
  omega

theorem geom_fine_eq (h : GeoR g0 g1 g2 g3 g4 g5) (i n : Int) : geom_fine.c g0 g1 g2 g3 g4 g5 i n = some (decide (GeoOK g0 g1 g2 g3 g4 g5 ∧ 0 ≤ i ∧ i < n)) := by
 simp only [geom_fine.c, geom_fine.t, Tw.run_opt, Tw.run_bb, Tw.run_ret, geom_Check_eq h, Option.bind_some, decide_eq_true_eq]
 by_cases k : GeoOK g0 g1 g2 g3 g4 g5
 ·rw [if_pos k, if_pos (by decide)]
  by_cases k2 : i ≥ 0
  ·rw [if_pos k2]
   simp [k, k2]
  ·rw [if_neg k2]
   simp [k2]
 ·rw [if_neg k, if_neg (by decide)]
  simp [k]

theorem geom_Sectors_eq (h : GeoR g0 g1 g2 g3 g4 g5) : geom_Sectors.c g0 g1 g2 g3 g4 g5 = some (if GeoOK g0 g1 g2 g3 g4 g5 then 2 + 2 * g1 + g2 else 0) := by
 simp only [geom_Sectors.c, geom_Sectors.t, Tw.run_opt, Tw.run_bb, Tw.run_ret, geom_fine_eq h, Option.bind_some, Bool.not_eq_true', decide_eq_false_iff_not]
 by_cases k : GeoOK g0 g1 g2 g3 g4 g5
 ·have k' := k
  obtain ⟨k0, k1, k2, k3, k4, k5⟩ := k'
  rw [if_neg (by simp [k]), if_pos k]
  simp (disch := omega) only [w64_of]
 ·rw [if_pos (by simp [k]), if_neg k]

end

abbrev P3 : Type := Int × Int × Int
def mapAt (n1 k : Nat) : P3 :=
 if k < 2 then (0, 0, (k : Int)) else if k < 2 + n1 then (if k = 2 then (1, 0, 0) else (2, 0, (k : Int) - 3)) else
 if k < 2 + 2 * n1 then (if k = 2 + n1 then (1, 1, 0) else (2, 1, (k : Int) - 3 - n1)) else (3, 0, (k : Int) - 2 - 2 * n1)
def mapL (n1 m : Nat) : List P3 := (List.range m).map (mapAt n1)
theorem mapL_succ (n1 m : Nat) : mapL n1 (m + 1) = mapL n1 m ++ [mapAt n1 m] := by simp [mapL, List.range_succ]
theorem mapL_len (n1 m : Nat) : (mapL n1 m).length = m := by simp [mapL]
theorem ref08_Map_L9 {n1 : Nat} (h1 : 2 ≤ n1) (h2 : n1 ≤ 32) (s : Int) (m : Nat) (hm : m ≤ 100) (hs : ∀ i, i + 1 < n1 → mapAt n1 (m + i) = (2, s, (i : Int))) (g0 g2 g3 g4 g5 : Int) :
  ref08_Map.L9 s 0 g0 (n1 : Int) g2 g3 g4 g5 (mapL n1 m) = some (mapL n1 (m + (n1 - 1))) := by
 have := Lp_seq (fun q => (ref08_Map.l9 s g0 (n1 : Int) g2 g3 g4 g5 q.1 q.2).run) (fun i => ((i : Int), mapL n1 (m + i))) (x := mapL n1 (m + (n1 - 1))) (n1 - 1) 0 (fun i _ hi => ?_) (by
  simp only [ref08_Map.l9, Tw.run_bb, Nat.zero_add]
  rw [w64_of (by omega) (by omega), if_neg (by rw [decide_eq_true_eq]; omega)]
  rfl)
 ·exact this
 ·simp only [ref08_Map.l9, Tw.run_bb, Tw.run_dd, Tw.run_ret, mapL_len, List.length_cons, List.length_nil]
  rw [w64_of (by omega) (by omega), if_pos (by rw [decide_eq_true_eq]; omega), if_pos ⟨by omega, by omega⟩, show m + (i + 1) = m + i + 1 by omega, mapL_succ, hs i (by omega)]
  rfl

theorem ref08_Map_L5 {n1 : Nat} (h1 : 2 ≤ n1) (h2 : n1 ≤ 32) (g0 g2 g3 g4 g5 : Int) : ref08_Map.L5 0 g0 (n1 : Int) g2 g3 g4 g5 (mapL n1 2) = some (mapL n1 (2 + 2 * n1)) := by
 have := Lp_seq (fun q => (ref08_Map.l5 g0 (n1 : Int) g2 g3 g4 g5 q.1 q.2).run) (fun s => ((s : Int), mapL n1 (2 + s * n1))) (x := mapL n1 (2 + 2 * n1)) 2 0 (fun s _ hs => ?_) (by
  simp only [ref08_Map.l5, Tw.run_bb, Nat.zero_add]
  rw [if_neg (by simp)]
  rfl)
 ·simp only [Nat.zero_mul, Nat.add_zero] at this
  exact this
 ·have hs' : s = 0 ∨ s = 1 := by omega
  rcases hs' with rfl | rfl
  ·have e : mapL n1 (2 + 0 * n1) ++ [(1, ((0 : Nat) : Int), 0)] = mapL n1 3 := by
    rw [mapL_succ, Nat.zero_mul]
    congr 2
    unfold mapAt
    rw [if_neg (by omega), if_pos (by omega), if_pos rfl]
    rfl
   simp only [ref08_Map.l5, Tw.run_bb, Tw.run_dd, Tw.run_opt, Tw.run_ret, mapL_len, List.length_cons, List.length_nil, e]
   rw [if_pos (by simp), if_pos ⟨by omega, by omega⟩, ref08_Map_L9 h1 h2 _ 3 (by omega) (fun i hi => by
    unfold mapAt
    rw [if_neg (by omega), if_pos (by omega), if_neg (by omega)]
    congr 2
    omega)]
   simp only [Option.bind_some]
   rw [show 3 + (n1 - 1) = 2 + (0 + 1) * n1 by omega]
   rfl
  ·have e : mapL n1 (2 + 1 * n1) ++ [(1, ((1 : Nat) : Int), 0)] = mapL n1 (3 + n1) := by
    rw [show 3 + n1 = 2 + 1 * n1 + 1 by omega, mapL_succ]
    congr 2
    unfold mapAt
    rw [if_neg (by omega), if_neg (by omega), if_pos (by omega), if_pos (by omega)]
    rfl
   simp only [ref08_Map.l5, Tw.run_bb, Tw.run_dd, Tw.run_opt, Tw.run_ret, mapL_len, List.length_cons, List.length_nil, e]
   rw [if_pos (by simp), if_pos ⟨by omega, by omega⟩, ref08_Map_L9 h1 h2 _ (3 + n1) (by omega) (fun i hi => by
    unfold mapAt
    rw [if_neg (by omega), if_neg (by omega), if_pos (by omega), if_neg (by omega)]
    congr 2
    omega)]
   simp only [Option.bind_some]
   rw [show 3 + n1 + (n1 - 1) = 2 + (1 + 1) * n1 by omega]
   rfl

theorem ref08_Map_L13 {n1 n2 : Nat} (h2 : n1 ≤ 32) (h3 : n2 ≤ 128) (g0 g1 g3 g4 g5 : Int) : ref08_Map.L13 0 g0 g1 (n2 : Int) g3 g4 g5 (mapL n1 (2 + 2 * n1)) = some (mapL n1 (2 + 2 * n1 + n2)) := by
 have := Lp_seq (fun q => (ref08_Map.l13 g0 g1 (n2 : Int) g3 g4 g5 q.1 q.2).run) (fun p => ((p : Int), mapL n1 (2 + 2 * n1 + p))) (x := mapL n1 (2 + 2 * n1 + n2)) n2 0 (fun p _ hp => ?_) (by
  simp only [ref08_Map.l13, Tw.run_bb, Nat.zero_add]
  rw [if_neg (by simp)]
  rfl)
 ·exact this
 ·have e : mapAt n1 (2 + 2 * n1 + p) = (3, 0, (p : Int)) := by
   unfold mapAt
   rw [if_neg (by omega), if_neg (by omega), if_neg (by omega)]
   congr 2
   omega
  simp only [ref08_Map.l13, Tw.run_bb, Tw.run_dd, Tw.run_ret, mapL_len, List.length_cons, List.length_nil]
  rw [if_pos (by simp; omega), if_pos ⟨by omega, by omega⟩, show 2 + 2 * n1 + (p + 1) = 2 + 2 * n1 + p + 1 by omega, mapL_succ, e, w64_of (by omega) (by omega)]
  rfl

theorem ref08_Map_eq {g0 g1 g2 g3 g4 g5 : Int} (h : GeoR g0 g1 g2 g3 g4 g5) : ref08_Map.c g0 g1 g2 g3 g4 g5 = some (if GeoOK g0 g1 g2 g3 g4 g5 then mapL g1.toNat (2 + 2 * g1.toNat + g2.toNat) else []) := by
 simp only [ref08_Map.c, ref08_Map.t, Tw.run_opt, Tw.run_bb, Tw.run_ret, ref08_Right_eq h, Option.bind_some, Bool.not_eq_true', decide_eq_false_iff_not]
 by_cases k : GeoOK g0 g1 g2 g3 g4 g5
 ·have k' := k
  obtain ⟨k0, k1, k2, k3, k4, k5⟩ := k'
  rw [if_neg (by simp [k]), if_pos k]
  obtain ⟨n1, rfl⟩ := Int.eq_ofNat_of_zero_le (show 0 ≤ g1 by omega)
  obtain ⟨n2, rfl⟩ := Int.eq_ofNat_of_zero_le (show 0 ≤ g2 by omega)
  have e : ([(0, 0, 0), (0, 0, 1)] : List P3) = mapL n1 2 := by simp [mapL, List.range_succ, mapAt]
  rw [e, ref08_Map_L5 (by omega) (by omega)]
  simp only [Option.bind_some]
  rw [ref08_Map_L13 (by omega) (by omega)]
  rfl
 ·rw [if_pos k, if_neg k]

section
variable {g0 g1 g2 g3 g4 g5 : Int}
end

end Go.Proofs.Ytkoidgjgdhpdnaa.Pure
namespace Go.Proofs.Ytkoidgjgdhpdnaa.Pure
open Go Go.Proofs.Ytkoidgjgdhpdnaa.Va

def rd (W : List Int) (a c : Nat) : List Int := (List.range c).map fun i => W.getD (a + i) 0
theorem rd_len (W : List Int) (a c : Nat) : (rd W a c).length = c := by simp [rd]
theorem rd_get {W : List Int} {a c i : Nat} (h : i < c) : (rd W a c)[i]? = some (W.getD (a + i) 0) := by
 simp [rd, h]
theorem rd_words {W : List Int} (h : Words W) (a c : Nat) : Words (rd W a c) := fun x hx => by
 obtain ⟨i, _, rfl⟩ := List.mem_map.1 hx
 exact word_in h _
def Fl.first (n : Nat) (s : Fl) (k at_ c : Int) : Int × Int :=
 if k < 0 ∨ k ≥ s.V.length ∨ at_ < 0 ∨ c < 0 ∨ at_ > n ∨ c > n - at_ then (0, 3) else if s.D then (0, 10) else (((k.toNat * n + at_.toNat : Nat) : Int), 0)
def Fl.dread (n : Nat) (s : Fl) (k at_ c : Int) : Int × List Int :=
 if (s.first n k at_ c).2 ≠ 0 then ((s.first n k at_ c).2, []) else (0, rd s.W (s.first n k at_ c).1.toNat c.toNat)
def viol (W w : List Int) (a : Nat) : Bool := (List.range w.length).any fun i => bAndn .u32 (w.getD i 0) (W.getD (a + i) 0) != 0
def wrL : List Int → Nat → Fl → Int × Fl
 | [], _, s => (0, s)
 | x :: w, a, s => if s.W.getD a 0 = x then wrL w (a + 1) s else if (s.prog (a : Int) x).1 ≠ 0 then s.prog (a : Int) x else wrL w (a + 1) (s.prog (a : Int) x).2
def Fl.dwrite (n : Nat) (s : Fl) (k at_ : Int) (w : List Int) : Int × Fl :=
 if (s.first n k at_ w.length).2 ≠ 0 then ((s.first n k at_ w.length).2, s) else if viol s.W w (s.first n k at_ w.length).1.toNat then (11, s) else wrL w (s.first n k at_ w.length).1.toNat s
def Fl.blank (n : Nat) (s : Fl) (k at_ : Int) : Bool × Int :=
 if at_ < 0 ∨ at_ > n then (false, 3) else if (s.dread n k at_ (n - at_)).1 ≠ 0 then (false, (s.dread n k at_ (n - at_)).1) else ((s.dread n k at_ (n - at_)).2.all (· == 4294967295), 0)
def Fl.clean (n : Nat) (s : Fl) (k : Int) : Int × Fl :=
 if (s.blank n k 0).2 ≠ 0 then ((s.blank n k 0).2, s) else if (s.blank n k 0).1 then ((s.blank n k 0).2, s) else s.erase n k
def Fl.fresh (n : Nat) (s : Fl) (k : Int) (w : List Int) : Int × Fl :=
 if (s.first n k 0 w.length).2 ≠ 0 then ((s.first n k 0 w.length).2, s) else if (s.clean n k).1 ≠ 0 then s.clean n k else (s.clean n k).2.dwrite n k 0 w

theorem Lp_any {X : Type} (f : Int → Option (Int ⊕ (Unit ⊕ X))) (n : Nat) (p : Nat → Bool) (x : X) (h : ∀ i : Nat, i < n → f (i : Int) = some (if p i then .inr (.inr x) else .inl ((i + 1 : Nat) : Int))) (he : f (n : Int) = some (.inr (.inl ()))) :
  Lp f 0 = some (if (List.range n).any p then .inr x else .inl ()) := by
 suffices ∀ (m i : Nat), i + m = n → Lp f (i : Int) = some (if (List.range' i m).any p then .inr x else .inl ()) by
  have := this n 0 (by omega)
  rw [← List.range_eq_range'] at this
  exact this
 intro m
 induction m with
 | zero =>
  intro i hi
  have : i = n := by omega
  subst this
  exact (Lp_end he).trans (by simp)
 | succ m ih =>
  intro i hi
  have h1 := h i (by omega)
  cases hp : p i with
  | true =>
   rw [hp] at h1
   exact (Lp_end h1).trans (by simp [List.range'_succ, hp])
  | false =>
   rw [hp] at h1
   rw [Lp_next h1, ih (i + 1) (by omega), List.range'_succ, List.any_cons, hp, Bool.false_or]

abbrev S4 : Type := Int × (Bool × (Int × List Int))
def s4 (s : Fl) : S4 := (s.C, s.D, s.A, s.W)
theorem prog_at {n : Nat} {s : Fl} (a x : Int) {j : Nat} (hj : (j : Int) ≠ a) : (s.prog a x).2.W.getD j 0 = s.W.getD j 0 := by
 unfold Fl.prog
 repeat' split
 ·rfl
 ·rfl
 ·rfl
 ·simp only [List.getD_eq_getElem?_getD]; rw [List.getElem?_set_ne (by omega)]
 ·simp only [List.getD_eq_getElem?_getD]; rw [List.getElem?_set_ne (by omega)]
theorem Lp_wr {n : Nat} (w : List Int) (a : Nat) (W0 V M : List Int) (hw : Words w) (f : Int × S4 → Option ((Int × S4) ⊕ (S4 ⊕ (Int × S4)))) (hf : ∀ (i : Nat) (x : Int) (s : Fl), w[i]? = some x → FlOK n s → s.V = V → s.M = M → s.W.length = W0.length → s.W.getD (a + i) 0 = W0.getD (a + i) 0 →
   f ((i : Int), s4 s) = some (if s.W.getD (a + i) 0 = x then .inl (((i + 1 : Nat) : Int), s4 s) else if (s.prog ((a + i : Nat) : Int) x).1 ≠ 0 then .inr (.inr ((s.prog ((a + i : Nat) : Int) x).1, s4 (s.prog ((a + i : Nat) : Int) x).2)) else .inl (((i + 1 : Nat) : Int), s4 (s.prog ((a + i : Nat) : Int) x).2)))
  (he : ∀ s, f ((w.length : Int), s4 s) = some (.inr (.inl (s4 s)))) : ∀ (m i : Nat) (s : Fl), i + m = w.length → FlOK n s → s.V = V → s.M = M → s.W.length = W0.length → (∀ j, i ≤ j → s.W.getD (a + j) 0 = W0.getD (a + j) 0) →
  Lp f ((i : Int), s4 s) = some (if (wrL (w.drop i) (a + i) s).1 = 0 then .inl (s4 (wrL (w.drop i) (a + i) s).2) else .inr ((wrL (w.drop i) (a + i) s).1, s4 (wrL (w.drop i) (a + i) s).2)) := by
 intro m
 induction m with
 | zero =>
  intro i s hi hs hV hM hl hj
  have : i = w.length := by omega
  subst this
  rw [Lp_end (he s), List.drop_length]
  simp [wrL]
 | succ m ih =>
  intro i s hi hs hV hM hl hj
  have hlt : i < w.length := by omega
  have hx : w[i]? = some w[i] := List.getElem?_eq_getElem hlt
  have h1 := hf i _ s hx hs hV hM hl (hj i (Nat.le_refl _))
  rw [List.drop_eq_getElem_cons hlt]
  by_cases hc : s.W.getD (a + i) 0 = w[i]
  ·rw [if_pos hc] at h1
   rw [Lp_next h1, ih (i + 1) s (by omega) hs hV hM hl (fun j hj' => hj j (by omega))]
   simp only [wrL, if_pos hc, Nat.add_assoc]
  ·rw [if_neg hc] at h1
   by_cases hd : (s.prog ((a + i : Nat) : Int) w[i]).1 ≠ 0
   ·rw [if_pos hd] at h1
    rw [Lp_end h1]
    simp only [wrL, if_neg hc, if_pos hd]
    rw [if_neg hd]
   ·rw [if_neg hd] at h1
    have hm := prog_m s ((a + i : Nat) : Int) w[i]
    rw [Lp_next h1, ih (i + 1) _ (by omega) (prog_ok hs _ _ (hw _ (List.getElem_mem hlt))) (by rw [hm.1, hV]) (by rw [hm.2.1, hM]) (by rw [hm.2.2, hl]) (fun j hj' => by
     rw [prog_at (n := n) _ _ (by omega)]
     exact hj j (by omega))]
    simp only [wrL, if_neg hc, if_neg hd, Nat.add_assoc]

section
variable {n : Nat} {g1 g2 g3 g4 g5 : Int} (hr : GeoR (n : Int) g1 g2 g3 g4 g5) (ok : GeoOK (n : Int) g1 g2 g3 g4 g5) {s : Fl} (hs : FlOK n s) (hv : (s.V.length : Int) = 2 + 2 * g1 + g2)
include hr ok hs hv
omit hr ok in
theorem first_at {k at_ c : Int} (h : (s.first n k at_ c).2 = 0) : s.D = false ∧ ∃ (j b d : Nat), k = j ∧ at_ = b ∧ c = d ∧ (s.first n k at_ c).1 = ((j * n + b : Nat) : Int) ∧ b + d ≤ n ∧ j * n + n ≤ s.W.length ∧ j < s.V.length := by
 unfold Fl.first at h ⊢
 by_cases h1 : k < 0 ∨ k ≥ s.V.length ∨ at_ < 0 ∨ c < 0 ∨ at_ > n ∨ c > n - at_
 ·rw [if_pos h1] at h
  exact absurd h (by decide)
 ·rw [if_neg h1] at h ⊢
  by_cases h2 : s.D = true
  ·rw [if_pos h2] at h
   exact absurd h (by decide)
  ·obtain ⟨j, rfl, hj, _, hjv⟩ := at_of hs (k := k) (by omega) (by omega)
   refine ⟨by simpa using h2, j, at_.toNat, c.toNat, rfl, by omega, by omega, ?_, by omega, hj, hjv⟩
   rw [if_neg h2, Int.toNat_natCast]
theorem drive_first_eq {k at_ c : Int} (ha : InR .i64 at_) : drive_Drive_first.c k at_ c (n : Int) g1 g2 g3 g4 g5 (n : Int) s.C s.D s.A s.W s.V s.M = some (s.first n k at_ c) := by
 have hn := hs.n2
 have hat := ha.i64
 simp only [drive_Drive_first.c, drive_Drive_first.t]
 unfold Fl.first
 by_cases h1 : k < 0
 ·rw [bb_pos (decide_eq_true h1), if_pos (Or.inl h1), Tw.run_ret]
 rw [bb_neg (decide_eq_false h1), opt_some (geom_Sectors_eq hr), if_pos ok]
 by_cases h2 : k ≥ 2 + 2 * g1 + g2
 ·rw [bb_pos (decide_eq_true h2), if_pos (by omega), Tw.run_ret]
 rw [bb_neg (decide_eq_false h2)]
 by_cases h3 : at_ < 0
 ·rw [bb_pos (decide_eq_true h3), if_pos (by omega), Tw.run_ret]
 rw [bb_neg (decide_eq_false h3)]
 by_cases h4 : c < 0
 ·rw [bb_pos (decide_eq_true h4), if_pos (by omega), Tw.run_ret]
 rw [bb_neg (decide_eq_false h4)]
 by_cases h5 : at_ > n
 ·rw [bb_pos (decide_eq_true h5), if_pos (by omega), Tw.run_ret]
 rw [bb_neg (decide_eq_false h5), w64_of (n := (n : Int) - at_) (by omega) (by omega)]
 by_cases h6 : c > n - at_
 ·rw [bb_pos (decide_eq_true h6), if_pos (by omega), Tw.run_ret]
 rw [bb_neg (decide_eq_false h6), opt_some (x := ()) (by rfl), if_neg (by omega)]
 by_cases h7 : s.D = true
 ·rw [bb_pos h7, if_pos h7, Tw.run_ret]
 obtain ⟨j, rfl, hj, he, hjv⟩ := at_of hs (k := k) (by omega) (by omega)
 have hl := hs.wl
 rw [bb_neg (by simpa using h7), if_neg h7, Tw.run_ret, he, w64_of (by omega) (by omega), Int.toNat_natCast]
 congr 2
 omega
theorem ref09_bad_eq {k at_ c : Int} (ha : InR .i64 at_) : ref09_Drive_bad.c k at_ c (n : Int) g1 g2 g3 g4 g5 (n : Int) s.C s.D s.A s.W s.V s.M = some (s.first n k at_ c).2 := by
 have hn := hs.n2
 have hat := ha.i64
 simp only [ref09_Drive_bad.c, ref09_Drive_bad.t]
 unfold Fl.first
 by_cases h1 : k < 0
 ·rw [bb_pos (decide_eq_true h1), if_pos (Or.inl h1), Tw.run_ret]
 rw [bb_neg (decide_eq_false h1), opt_some (ref08_Map_eq hr), if_pos ok, mapL_len]
 have ok' := ok
 unfold GeoOK at ok'
 by_cases h2 : k ≥ 2 + 2 * g1 + g2
 ·rw [bb_pos (decide_eq_true (by omega)), if_pos (by omega), Tw.run_ret]
 rw [bb_neg (decide_eq_false (by omega))]
 by_cases h3 : at_ < 0
 ·rw [bb_pos (decide_eq_true h3), if_pos (by omega), Tw.run_ret]
 rw [bb_neg (decide_eq_false h3)]
 by_cases h5 : at_ > n
 ·rw [bb_pos (decide_eq_true h5), if_pos (by omega), Tw.run_ret]
 rw [bb_neg (decide_eq_false h5), w64_of (n := (n : Int) - at_) (by omega) (by omega)]
 by_cases h4 : c < 0
 ·rw [bb_pos (decide_eq_true h4), if_pos (by omega), Tw.run_ret]
 rw [bb_neg (decide_eq_false h4)]
 by_cases h6 : c > n - at_
 ·rw [bb_pos (decide_eq_true h6), if_pos (by omega), Tw.run_ret]
 rw [bb_neg (decide_eq_false h6), if_neg (by omega)]
 by_cases h7 : s.D = true
 ·rw [bb_pos h7, if_pos h7, Tw.run_ret]
 rw [bb_neg (by simpa using h7), if_neg h7, Tw.run_ret]

theorem drive_Read_eq {k at_ c : Int} (ha : InR .i64 at_) : drive_Drive_Read.c k at_ c (n : Int) g1 g2 g3 g4 g5 (n : Int) s.C s.D s.A s.W s.V s.M = some (s.dread n k at_ c) := by
 simp only [drive_Drive_Read.c, drive_Drive_Read.t]
 rw [opt_some (drive_first_eq hr ok hs hv ha)]
 unfold Fl.dread
 by_cases h0 : (s.first n k at_ c).2 ≠ 0
 ·rw [if_pos h0, bb_pos (by simpa using h0), Tw.run_ret]
 have h0' : (s.first n k at_ c).2 = 0 := by simpa using h0
 obtain ⟨hd, j, b, d, rfl, rfl, rfl, he, hbd, hj, hjv⟩ := first_at hs hv h0'
 have hn := hs.n2
 have hl := hs.wl
 rw [if_neg h0, bb_neg (by rw [h0']; rfl), he, Int.toNat_natCast, Int.toNat_natCast, dd_pos (by omega), List.length_replicate]
 have : drive_Drive_Read.L6 ((j * n + b : Nat) : Int) (d : Int) 0 (n : Int) g1 g2 g3 g4 g5 (n : Int) s.C s.D s.A s.W s.V s.M (List.replicate d 0) = some (rd s.W (j * n + b) d) := by
  unfold drive_Drive_Read.L6
  refine (Lp_upd _ (List.replicate d 0) 0 d (fun i _ => s.W.getD (j * n + b + i) 0) (by simp) (by omega) (fun i U x hi hlU hsU hx => ?_) (fun U hlU => ?_)).trans (by
   congr 1
   unfold upd rd
   simp)
  ·rw [List.length_replicate] at hlU
   rw [Nat.zero_add] at hsU ⊢
   simp only [drive_Drive_Read.l6]
   have hread : s.read ((j * n + b + i : Nat) : Int) = (s.W.getD (j * n + b + i) 0, 0) := by
    unfold Fl.read
    rw [hd, if_neg (by decide), if_neg (by omega), Int.toNat_natCast]
   rw [bb_pos (decide_eq_true (by omega)), w64_of (n := ((j * n + b : Nat) : Int) + (i : Int)) (by omega) (by omega), show ((j * n + b : Nat) : Int) + (i : Int) = ((j * n + b + i : Nat) : Int) by omega,
    opt_some (flash_Read_eq hs _), hread, dd_pos (by omega), Int.toNat_natCast, opt_some hsU, Tw.run_ret, w64_of (by omega) (by omega)]
   rfl
  ·simp only [drive_Drive_Read.l6]
   rw [bb_neg (decide_eq_false (by omega)), Tw.run_ret]
 rw [opt_some this, Tw.run_ret]
theorem ref09_Read_eq {k at_ c : Int} (ha : InR .i64 at_) : ref09_Drive_Read.c k at_ c (n : Int) g1 g2 g3 g4 g5 (n : Int) s.C s.D s.A s.W s.V s.M = some (s.dread n k at_ c) := by
 simp only [ref09_Drive_Read.c, ref09_Drive_Read.t]
 rw [opt_some (ref09_bad_eq hr ok hs hv ha)]
 unfold Fl.dread
 by_cases h0 : (s.first n k at_ c).2 ≠ 0
 ·rw [if_pos h0, bb_pos (by simpa using h0), Tw.run_ret]
 have h0' : (s.first n k at_ c).2 = 0 := by simpa using h0
 obtain ⟨hd, j, b, d, rfl, rfl, rfl, he, hbd, hj, hjv⟩ := first_at hs hv h0'
 have hn := hs.n2
 have hl := hs.wl
 obtain ⟨j', hjj, _, hwj, _⟩ := at_of hs (k := (j : Int)) (by omega) (by omega)
 have hjj' : j' = j := by omega
 subst hjj'
 rw [if_neg h0, bb_neg (by rw [h0']; rfl), he, Int.toNat_natCast, Int.toNat_natCast]
 have : ref09_Drive_Read.L6 (j' : Int) (b : Int) (d : Int) 0 (n : Int) g1 g2 g3 g4 g5 (n : Int) s.C s.D s.A s.W s.V s.M [] = some (rd s.W (j' * n + b) d) := by
  unfold ref09_Drive_Read.L6
  have := Lp_seq (fun z : Int × List Int => (ref09_Drive_Read.l6 (j' : Int) (b : Int) (d : Int) (n : Int) g1 g2 g3 g4 g5 (n : Int) s.C s.D s.A s.W s.V s.M z.1 z.2).run) (fun i : Nat => ((i : Int), rd s.W (j' * n + b) i)) (x := rd s.W (j' * n + b) d) d 0 (fun i _ hi => by
   have hi' : i < d := by omega
   simp only [ref09_Drive_Read.l6]
   rw [hwj, w64_of (n := ((j' * n : Nat) : Int) + (b : Int)) (by omega) (by omega), w64_of (n := ((j' * n : Nat) : Int) + (b : Int) + (i : Int)) (by omega) (by omega), show ((j' * n : Nat) : Int) + (b : Int) + (i : Int) = ((j' * n + b + i : Nat) : Int) by omega,
    bb_pos (decide_eq_true (by omega)), dd_pos (by omega), Int.toNat_natCast, opt_some (word_some (by omega)), dd_pos (by rw [rd_len]; simp; omega), Tw.run_ret, w64_of (by omega) (by omega)]
   congr 3
   simp [rd, List.range_succ]) (by
   simp only [ref09_Drive_Read.l6, Nat.zero_add]
   rw [bb_neg (decide_eq_false (by omega)), Tw.run_ret])
  simpa [rd] using this
 rw [opt_some this, Tw.run_ret]
end

end Go.Proofs.Ytkoidgjgdhpdnaa.Pure
namespace Go.Proofs.Ytkoidgjgdhpdnaa.Pure
open Go Go.Proofs.Ytkoidgjgdhpdnaa.Va

section
variable {n : Nat} {g1 g2 g3 g4 g5 : Int} (hr : GeoR (n : Int) g1 g2 g3 g4 g5) (ok : GeoOK (n : Int) g1 g2 g3 g4 g5) {s : Fl} (hs : FlOK n s) (hv : (s.V.length : Int) = 2 + 2 * g1 + g2)
include hr ok hs hv
theorem drive_Write_eq {k at_ : Int} (ha : InR .i64 at_) {w : List Int} (hw : Words w) : drive_Drive_Write.c k at_ w (n : Int) g1 g2 g3 g4 g5 (n : Int) s.C s.D s.A s.W s.V s.M = some ((s.dwrite n k at_ w).1, s4 (s.dwrite n k at_ w).2) := by
 simp only [drive_Drive_Write.c, drive_Drive_Write.t]
 rw [opt_some (drive_Read_eq hr ok hs hv ha)]
 unfold Fl.dread Fl.dwrite
 by_cases h0 : (s.first n k at_ (w.length : Int)).2 ≠ 0
 ·rw [if_pos h0, if_pos h0, bb_pos (by simpa using h0), Tw.run_ret]
  rfl
 have h0' : (s.first n k at_ (w.length : Int)).2 = 0 := by simpa using h0
 obtain ⟨hd, j, b, d, rfl, rfl, hwd, he, hbd, hj, hjv⟩ := first_at hs hv h0'
 have hwd : w.length = d := by omega
 subst hwd
 have hn := hs.n2
 have hl := hs.wl
 have hf0 : s.first n (j : Int) (b : Int) 0 = (((j * n + b : Nat) : Int), 0) := by
  unfold Fl.first
  rw [if_neg (by omega), hd, if_neg (by decide)]
  simp
 rw [if_neg h0, if_neg h0, bb_neg (by rfl), he, Int.toNat_natCast, Int.toNat_natCast]
 have hL5 : drive_Drive_Write.L5 (j : Int) (b : Int) w w (w.length : Int) 0 (n : Int) g1 g2 g3 g4 g5 (n : Int) s.C s.D s.A s.W s.V s.M (rd s.W (j * n + b) w.length) = some (if viol s.W w (j * n + b) then .inr 11 else .inl ()) := by
  unfold drive_Drive_Write.L5
  refine Lp_any _ w.length (fun i => bAndn .u32 (w.getD i 0) (s.W.getD (j * n + b + i) 0) != 0) 11 (fun i hi => ?_) ?_
  ·simp only [drive_Drive_Write.l5]
   rw [bb_pos (decide_eq_true (by omega)), dd_pos (by omega), Int.toNat_natCast, opt_some (word_some hi), dd_pos (by rw [rd_len]; omega), opt_some (rd_get hi)]
   simp only [word_Within.c, word_Within.t, Tw.run_opt, Tw.run_ret, Option.bind_some]
   by_cases hb : bAndn .u32 (w.getD i 0) (s.W.getD (j * n + b + i) 0) = 0
   ·rw [bb_neg (by rw [hb]; rfl), Tw.run_ret, hb, w64_of (by omega) (by omega)]
    rfl
   ·rw [bb_pos (by rw [beq_eq_false_iff_ne.2 hb]; rfl), Tw.run_ret, if_pos (by simpa using hb)]
  ·simp only [drive_Drive_Write.l5]
   rw [bb_neg (decide_eq_false (by omega)), Tw.run_ret]
 rw [opt_some hL5]
 by_cases hvi : viol s.W w (j * n + b) = true
 ·rw [if_pos hvi, if_pos hvi, sm_inr, Tw.run_ret]
  rfl
 rw [if_neg hvi, if_neg hvi, sm_inl, opt_some (drive_first_eq hr ok hs hv ha), hf0]
 have hL12 : drive_Drive_Write.L12 ((j * n + b : Nat) : Int) w (w.length : Int) 0 (n : Int) g1 g2 g3 g4 g5 (n : Int) s.C s.D s.A s.W s.V s.M (rd s.W (j * n + b) w.length) =
   some (if (wrL w (j * n + b) s).1 = 0 then .inl (s4 (wrL w (j * n + b) s).2) else .inr ((wrL w (j * n + b) s).1, s4 (wrL w (j * n + b) s).2)) := by
  unfold drive_Drive_Write.L12
  refine Lp_wr (n := n) w (j * n + b) s.W s.V s.M hw (fun z : Int × S4 => (drive_Drive_Write.l12 ((j * n + b : Nat) : Int) w (w.length : Int) (n : Int) g1 g2 g3 g4 g5 (n : Int) s.V s.M (rd s.W (j * n + b) w.length) z.1 z.2.1 z.2.2.1 z.2.2.2.1 z.2.2.2.2).run) (fun i x s' hx hs' hV hM hl' hg => ?_) (fun s' => ?_) w.length 0 s (by omega) hs rfl rfl rfl (fun _ _ => rfl)
  ·have hi := (List.getElem?_eq_some_iff.1 hx).1
   simp only [drive_Drive_Write.l12, s4]
   rw [bb_pos (decide_eq_true (by omega)), dd_pos (by omega), Int.toNat_natCast, opt_some hx, dd_pos (by rw [rd_len]; omega), opt_some (rd_get hi), ← hg]
   by_cases hc : s'.W.getD (j * n + b + i) 0 = x
   ·rw [bb_pos (by rw [hc]; simp), Tw.run_ret, if_pos hc, w64_of (by omega) (by omega)]
    rfl
   ·rw [bb_neg (beq_eq_false_iff_ne.2 (fun h => hc h.symm)), w64_of (by omega) (by omega), show ((j * n + b : Nat) : Int) + (i : Int) = ((j * n + b + i : Nat) : Int) by omega, ← hV, ← hM,
     opt_some (flash_Program_eq hs' _ _ (hw _ (List.mem_of_getElem? hx))), if_neg hc]
    by_cases hp : (s'.prog ((j * n + b + i : Nat) : Int) x).1 ≠ 0
    ·rw [bb_pos (by simpa using hp), if_pos hp, Tw.run_ret]
    ·rw [bb_neg (by simpa using hp), if_neg hp, Tw.run_ret, w64_of (by omega) (by omega)]
     rfl
  ·simp only [drive_Drive_Write.l12, s4]
   rw [bb_neg (decide_eq_false (by omega)), Tw.run_ret]
 rw [opt_some hL12]
 by_cases hz : (wrL w (j * n + b) s).1 = 0
 ·rw [if_pos hz, sm_inl, Tw.run_ret, hz]
 ·rw [if_neg hz, sm_inr, Tw.run_ret]
theorem ref09_Write_eq {k at_ : Int} (ha : InR .i64 at_) {w : List Int} (hw : Words w) : ref09_Drive_Write.c k at_ w (n : Int) g1 g2 g3 g4 g5 (n : Int) s.C s.D s.A s.W s.V s.M = some ((s.dwrite n k at_ w).1, s4 (s.dwrite n k at_ w).2) := by
 simp only [ref09_Drive_Write.c, ref09_Drive_Write.t]
 rw [opt_some (ref09_bad_eq hr ok hs hv ha)]
 unfold Fl.dwrite
 by_cases h0 : (s.first n k at_ (w.length : Int)).2 ≠ 0
 ·rw [if_pos h0, bb_pos (by simpa using h0), Tw.run_ret]
  rfl
 have h0' : (s.first n k at_ (w.length : Int)).2 = 0 := by simpa using h0
 obtain ⟨hd, j, b, d, rfl, rfl, hwd, he, hbd, hj, hjv⟩ := first_at hs hv h0'
 have hwd : w.length = d := by omega
 subst hwd
 have hn := hs.n2
 have hl := hs.wl
 obtain ⟨j', hjj, _, hwj, _⟩ := at_of hs (k := (j : Int)) (by omega) (by omega)
 have hjj' : j' = j := by omega
 subst hjj'
 have hwa : w64 (w64 ((j' : Int) * (n : Int)) + (b : Int)) = ((j' * n + b : Nat) : Int) := by rw [hwj, w64_of (by omega) (by omega)]; omega
 rw [if_neg h0, bb_neg (by rw [h0']; rfl), he, Int.toNat_natCast, hwa]
 have hL6 : ref09_Drive_Write.L6 w ((j' * n + b : Nat) : Int) 0 (n : Int) g1 g2 g3 g4 g5 (n : Int) s.C s.D s.A s.W s.V s.M = some (if viol s.W w (j' * n + b) then .inr 11 else .inl ()) := by
  unfold ref09_Drive_Write.L6
  refine Lp_any _ w.length (fun i => bAndn .u32 (w.getD i 0) (s.W.getD (j' * n + b + i) 0) != 0) 11 (fun i hi => ?_) ?_
  ·simp only [ref09_Drive_Write.l6]
   rw [w64_of (n := ((j' * n + b : Nat) : Int) + (i : Int)) (by omega) (by omega), show ((j' * n + b : Nat) : Int) + (i : Int) = ((j' * n + b + i : Nat) : Int) by omega,
    bb_pos (decide_eq_true (by omega)), dd_pos (by omega), Int.toNat_natCast, opt_some (word_some hi), dd_pos (by omega), Int.toNat_natCast, opt_some (word_some (by omega)), opt_some (bits0_eq (word_in hw _) (word_in hs.w _))]
   by_cases hb : bAndn .u32 (w.getD i 0) (s.W.getD (j' * n + b + i) 0) = 0
   ·rw [bb_neg (by rw [hb]; rfl), Tw.run_ret, hb, w64_of (by omega) (by omega)]
    rfl
   ·rw [bb_pos (by simpa using hb), Tw.run_ret, if_pos (by simpa using hb)]
  ·simp only [ref09_Drive_Write.l6]
   rw [bb_neg (decide_eq_false (by omega)), Tw.run_ret]
 rw [opt_some hL6]
 by_cases hvi : viol s.W w (j' * n + b) = true
 ·rw [if_pos hvi, if_pos hvi, sm_inr, Tw.run_ret]
  rfl
 rw [if_neg hvi, if_neg hvi, sm_inl]
 have hL11 : ref09_Drive_Write.L11 w ((j' * n + b : Nat) : Int) 0 (n : Int) g1 g2 g3 g4 g5 (n : Int) s.C s.D s.A s.W s.V s.M =
   some (if (wrL w (j' * n + b) s).1 = 0 then .inl (s4 (wrL w (j' * n + b) s).2) else .inr ((wrL w (j' * n + b) s).1, s4 (wrL w (j' * n + b) s).2)) := by
  unfold ref09_Drive_Write.L11
  refine Lp_wr (n := n) w (j' * n + b) s.W s.V s.M hw (fun z : Int × S4 => (ref09_Drive_Write.l11 w ((j' * n + b : Nat) : Int) (n : Int) g1 g2 g3 g4 g5 (n : Int) s.V s.M z.1 z.2.1 z.2.2.1 z.2.2.2.1 z.2.2.2.2).run) (fun i x s' hx hs' hV hM hl' hg => ?_) (fun s' => ?_) w.length 0 s (by omega) hs rfl rfl rfl (fun _ _ => rfl)
  ·have hi := (List.getElem?_eq_some_iff.1 hx).1
   simp only [ref09_Drive_Write.l11, s4]
   rw [w64_of (n := ((j' * n + b : Nat) : Int) + (i : Int)) (by omega) (by omega), show ((j' * n + b : Nat) : Int) + (i : Int) = ((j' * n + b + i : Nat) : Int) by omega,
    bb_pos (decide_eq_true (by omega)), dd_pos (by omega), Int.toNat_natCast, opt_some (word_some (by omega)), dd_pos (by omega), Int.toNat_natCast, opt_some hx]
   by_cases hc : s'.W.getD (j' * n + b + i) 0 = x
   ·rw [bb_neg (by rw [hc]; simp), Tw.run_ret, if_pos hc, w64_of (by omega) (by omega)]
    rfl
   ·rw [bb_pos (by simpa using hc), dd_pos (by omega), opt_some hx, ← hV, ← hM,
     opt_some (ref07_Program_eq hs' _ _ (hw _ (List.mem_of_getElem? hx))), if_neg hc]
    by_cases hp : (s'.prog ((j' * n + b + i : Nat) : Int) x).1 ≠ 0
    ·rw [bb_pos (by simpa using hp), if_pos hp, Tw.run_ret]
    ·rw [bb_neg (by simpa using hp), if_neg hp, Tw.run_ret, w64_of (by omega) (by omega)]
     rfl
  ·simp only [ref09_Drive_Write.l11, s4]
   rw [bb_neg (decide_eq_false (by omega)), Tw.run_ret]
 rw [opt_some hL11]
 by_cases hz : (wrL w (j' * n + b) s).1 = 0
 ·rw [if_pos hz, sm_inl, Tw.run_ret, hz]
 ·rw [if_neg hz, sm_inr, Tw.run_ret]
end

theorem index_ones {l : List Int} (hl : l.length ≤ 1024) : slices_ContainsFunc__uint32uint32_of_drive_Drive_Blank_1.c l = some (!(l.all (· == 4294967295))) := by
 have hL : ∃ r, slices_IndexFunc__uint32uint32_of_drive_Drive_Blank_1.L2 l (l.length : Int) 0 = some r ∧ (match r with | .inl () => l.all (· == 4294967295) = true | .inr i => 0 ≤ i ∧ l.all (· == 4294967295) = false) := by
  unfold slices_IndexFunc__uint32uint32_of_drive_Drive_Blank_1.L2
  refine Lp_inv _ (fun i : Int => 0 ≤ i ∧ i ≤ l.length ∧ (l.take i.toNat).all (· == 4294967295) = true) (fun i : Int => l.length - i.toNat) _ (fun i hi => ?_) l.length 0 (by omega) ⟨by decide, by omega, by simp⟩
  obtain ⟨h0, h1, h2⟩ := hi
  simp only [slices_IndexFunc__uint32uint32_of_drive_Drive_Blank_1.l2]
  by_cases h : i < (l.length : Int)
  ·have hs := word_some (w := l) (i := i.toNat) (by omega)
   rw [bb_pos (decide_eq_true h), dd_pos h0, opt_some hs]
   simp only [drive_Drive_Blank_1.c, drive_Drive_Blank_1.t, Tw.run_opt, Tw.run_ret, Option.bind_some]
   by_cases hb : l.getD i.toNat 0 = 4294967295
   ·refine Or.inl ⟨i + 1, by rw [bb_neg (by rw [hb]; rfl), Tw.run_ret, w64_of (by omega) (by omega)], ⟨by omega, by omega, ?_⟩, by omega⟩
    rw [show (i + 1).toNat = i.toNat + 1 by omega, take_snoc 0 (by omega), List.all_append, h2, hb]
    rfl
   ·refine Or.inr ⟨.inr i, by rw [bb_pos (by simpa using hb), Tw.run_ret], h0, ?_⟩
    cases ha : l.all (· == 4294967295) with
    | false => rfl
    | true =>
     have := List.all_eq_true.1 ha _ (List.mem_of_getElem? hs)
     exact absurd (by simpa using this) hb
  ·refine Or.inr ⟨.inl (), by rw [bb_neg (decide_eq_false h), Tw.run_ret], ?_⟩
   rw [show i.toNat = l.length by omega, List.take_length] at h2
   exact h2
 obtain ⟨r, hr, hm⟩ := hL
 simp only [slices_ContainsFunc__uint32uint32_of_drive_Drive_Blank_1.c, slices_ContainsFunc__uint32uint32_of_drive_Drive_Blank_1.t, slices_IndexFunc__uint32uint32_of_drive_Drive_Blank_1.c, slices_IndexFunc__uint32uint32_of_drive_Drive_Blank_1.t]
 rw [Tw.run_opt, opt_some hr]
 cases r with
 | inl u =>
  have hm : l.all (· == 4294967295) = true := hm
  rw [sm_inl, hm]
  rfl
 | inr i =>
  obtain ⟨h1, h2⟩ := hm
  rw [sm_inr, h2, Tw.run_ret, Option.bind_some, Tw.run_ret, decide_eq_true h1]
  rfl

abbrev S5 : Type := Int × (Bool × (Int × (List Int × List Int)))
def s5 (s : Fl) : S5 := (s.C, s.D, s.A, s.W, s.V)
theorem dread_len {n : Nat} {s : Fl} {k at_ c : Int} (hs : FlOK n s) : (s.dread n k at_ c).2.length ≤ 1024 := by
 unfold Fl.dread
 split
 ·simp
 ·rename_i h
  have h' : (s.first n k at_ c).2 = 0 := by simpa using h
  obtain ⟨hd, j, b, d, rfl, rfl, rfl, he, hbd, hj, hjv⟩ := first_at hs (g1 := 0) (g2 := (s.V.length : Int) - 2) (by omega) h'
  have := hs.n2
  rw [rd_len]
  omega

section
variable {n : Nat} {g1 g2 g3 g4 g5 : Int} (hr : GeoR (n : Int) g1 g2 g3 g4 g5) (ok : GeoOK (n : Int) g1 g2 g3 g4 g5) {s : Fl} (hs : FlOK n s) (hv : (s.V.length : Int) = 2 + 2 * g1 + g2)
include hr ok hs hv
omit hr ok hs hv in
theorem first_bad (k at_ : Int) (c : Int) (h : at_ < 0 ∨ at_ > n) : s.first n k at_ c = (0, 3) := by
 unfold Fl.first
 rw [if_pos (by omega)]
theorem drive_Blank_eq {k at_ : Int} (ha : InR .i64 at_) : drive_Drive_Blank.c k at_ (n : Int) g1 g2 g3 g4 g5 (n : Int) s.C s.D s.A s.W s.V s.M = some (s.blank n k at_) := by
 have hn := hs.n2
 have hat := ha.i64
 simp only [drive_Drive_Blank.c, drive_Drive_Blank.t]
 rw [opt_some (x := ()) (by rfl), opt_some (drive_Read_eq hr ok hs hv ha)]
 unfold Fl.blank
 by_cases h1 : at_ < 0 ∨ at_ > n
 ·rw [if_pos h1]
  unfold Fl.dread
  rw [first_bad k at_ _ h1, if_pos (by decide), bb_pos (by rfl), Tw.run_ret]
 rw [if_neg h1]
 have e : imax (w64 ((n : Int) - imax at_ 0)) 0 = (n : Int) - at_ := by
  unfold imax
  have : (if (0 : Int) > at_ then (0 : Int) else at_) = at_ := by split <;> omega
  rw [this, w64_of (by omega) (by omega)]
  split <;> omega
 rw [e]
 by_cases h2 : (s.dread n k at_ (n - at_)).1 ≠ 0
 ·rw [if_pos h2, bb_pos (by simpa using h2), Tw.run_ret]
 rw [if_neg h2, bb_neg (by simpa using h2), opt_some (index_ones (dread_len hs)), Tw.run_ret, Bool.not_not]
theorem ref09_Blank_eq {k at_ : Int} (ha : InR .i64 at_) : ref09_Drive_Blank.c k at_ (n : Int) g1 g2 g3 g4 g5 (n : Int) s.C s.D s.A s.W s.V s.M = some (s.blank n k at_) := by
 have hn := hs.n2
 have hat := ha.i64
 simp only [ref09_Drive_Blank.c, ref09_Drive_Blank.t]
 unfold Fl.blank
 by_cases h1 : at_ < 0
 ·rw [bb_pos (decide_eq_true h1), if_pos (Or.inl h1), Tw.run_ret]
 rw [bb_neg (decide_eq_false h1)]
 by_cases h2 : at_ > n
 ·rw [bb_pos (decide_eq_true h2), if_pos (Or.inr h2), Tw.run_ret]
 rw [bb_neg (decide_eq_false h2), if_neg (by omega), w64_of (n := (n : Int) - at_) (by omega) (by omega), opt_some (ref09_Read_eq hr ok hs hv ha)]
 have hlen := dread_len (k := k) (at_ := at_) (c := (n : Int) - at_) hs
 have hL : ∀ (e : Int) (l : List Int), l.length ≤ 1024 → ref09_Drive_Blank.L5 e 0 (n : Int) g1 g2 g3 g4 g5 (n : Int) s.C s.D s.A s.W s.V s.M l = some (if l.all (· == 4294967295) then .inl () else .inr false) := by
  intro e l hl
  unfold ref09_Drive_Blank.L5
  refine (Lp_any _ l.length (fun i => l.getD i 0 != 4294967295) false (fun i hi => ?_) ?_).trans ?_
  ·simp only [ref09_Drive_Blank.l5]
   rw [bb_pos (decide_eq_true (by omega)), dd_pos (by omega), Int.toNat_natCast, opt_some (word_some hi)]
   by_cases hb : l.getD i 0 = 4294967295
   ·rw [bb_neg (by rw [hb]; rfl), Tw.run_ret, hb, w64_of (by omega) (by omega)]
    rfl
   ·rw [bb_pos (by simpa using hb), Tw.run_ret, if_pos (by simpa using hb)]
  ·simp only [ref09_Drive_Blank.l5]
   rw [bb_neg (decide_eq_false (by omega)), Tw.run_ret]
  ·congr 1
   by_cases ha : l.all (· == 4294967295) = true
   ·have : ((List.range l.length).any fun i => l.getD i 0 != 4294967295) = false := by
     rw [List.any_eq_false]
     intro i hi
     have := List.all_eq_true.1 ha _ (List.mem_of_getElem? (word_some (w := l) (List.mem_range.1 hi)))
     simpa using this
    rw [this, ha]
    rfl
   ·have ha' : l.all (· == 4294967295) = false := by simpa using ha
    rw [List.all_eq_false] at ha'
    obtain ⟨x, hx, hne⟩ := ha'
    obtain ⟨i, hi⟩ := List.mem_iff_getElem?.1 hx
    have hlt := (List.getElem?_eq_some_iff.1 hi).1
    have : ((List.range l.length).any fun i => l.getD i 0 != 4294967295) = true := by
     rw [List.any_eq_true]
     refine ⟨i, List.mem_range.2 hlt, ?_⟩
     rw [List.getD_eq_getElem?_getD, hi]
     simpa using hne
    rw [this, if_pos rfl, if_neg ha]
 rw [opt_some (hL _ _ hlen)]
 by_cases h3 : (s.dread n k at_ (n - at_)).1 ≠ 0
 ·have he : (s.dread n k at_ (n - at_)).2 = [] := by
   unfold Fl.dread at h3 ⊢
   split
   ·rfl
   ·rename_i h
    rw [if_neg h] at h3
    exact absurd rfl h3
  rw [if_pos h3, he, if_pos (by rfl), sm_inl, Tw.run_ret, beq_eq_false_iff_ne.2 h3]
 ·have h3' : (s.dread n k at_ (n - at_)).1 = 0 := by simpa using h3
  rw [if_neg h3, h3']
  cases hx : (s.dread n k at_ (n - at_)).2.all (· == 4294967295) with
  | true => rw [if_pos rfl, sm_inl, Tw.run_ret]; rfl
  | false => rw [if_neg (by decide), sm_inr, Tw.run_ret]
theorem drive_Clean_eq {k : Int} : drive_Drive_Clean.c k (n : Int) g1 g2 g3 g4 g5 (n : Int) s.C s.D s.A s.W s.V s.M = some ((s.clean n k).1, s5 (s.clean n k).2) := by
 simp only [drive_Drive_Clean.c, drive_Drive_Clean.t]
 rw [opt_some (drive_Blank_eq hr ok hs hv (inR_i64 (by decide)))]
 unfold Fl.clean
 by_cases h1 : (s.blank n k 0).2 ≠ 0
 ·rw [if_pos h1, bb_pos (by simpa using h1), Tw.run_ret]
  rfl
 rw [if_neg h1, bb_neg (by simpa using h1)]
 by_cases h2 : (s.blank n k 0).1 = true
 ·rw [if_pos h2, bb_pos h2, Tw.run_ret]
  rfl
 rw [if_neg h2, bb_neg (by simpa using h2), opt_some (flash_Erase_eq hs k), Tw.run_ret]
 rfl
theorem ref09_Clean_eq {k : Int} : ref09_Drive_Clean.c k (n : Int) g1 g2 g3 g4 g5 (n : Int) s.C s.D s.A s.W s.V s.M = some ((s.clean n k).1, s5 (s.clean n k).2) := by
 simp only [ref09_Drive_Clean.c, ref09_Drive_Clean.t]
 rw [opt_some (ref09_Blank_eq hr ok hs hv (inR_i64 (by decide)))]
 unfold Fl.clean
 by_cases h1 : (s.blank n k 0).2 ≠ 0
 ·rw [if_pos h1, bb_pos (by simpa using h1), Tw.run_ret]
  rfl
 rw [if_neg h1, bb_neg (by simpa using h1)]
 by_cases h2 : (s.blank n k 0).1 = true
 ·rw [if_pos h2, bb_pos h2, Tw.run_ret]
  rfl
 rw [if_neg h2, bb_neg (by simpa using h2), opt_some (ref07_Erase_eq hs k), Tw.run_ret]
 rfl
omit hr ok hv in
theorem clean_ok (k : Int) : FlOK n (s.clean n k).2 ∧ (s.clean n k).2.V.length = s.V.length ∧ (s.clean n k).2.M = s.M := by
 unfold Fl.clean
 split
 ·exact ⟨hs, rfl, rfl⟩
 split
 ·exact ⟨hs, rfl, rfl⟩
 ·exact ⟨erase_ok hs k, (erase_m n s k).2, (erase_m n s k).1⟩
omit hr ok hs hv in
theorem wrL_ok : ∀ {w : List Int} (hw : Words w) (a : Nat) {s : Fl}, FlOK n s → FlOK n (wrL w a s).2 ∧ (wrL w a s).2.V = s.V ∧ (wrL w a s).2.M = s.M ∧ (wrL w a s).2.W.length = s.W.length
 | [], _, a, s, hs => ⟨hs, rfl, rfl, rfl⟩
 | x :: w, hw, a, s, hs => by
  have hx := hw x (List.mem_cons_self ..)
  have hw' : Words w := fun y hy => hw y (List.mem_cons_of_mem _ hy)
  have hm := prog_m s (a : Int) x
  have hp := prog_ok hs (a : Int) x hx
  unfold wrL
  split
  ·exact wrL_ok hw' (a + 1) hs
  split
  ·exact ⟨hp, hm⟩
  ·have := wrL_ok hw' (a + 1) hp
   exact ⟨this.1, by rw [this.2.1, hm.1], by rw [this.2.2.1, hm.2.1], by rw [this.2.2.2, hm.2.2]⟩
omit hr ok hv in
theorem dwrite_ok (k at_ : Int) {w : List Int} (hw : Words w) : FlOK n (s.dwrite n k at_ w).2 ∧ (s.dwrite n k at_ w).2.V = s.V ∧ (s.dwrite n k at_ w).2.M = s.M := by
 unfold Fl.dwrite
 split
 ·exact ⟨hs, rfl, rfl⟩
 split
 ·exact ⟨hs, rfl, rfl⟩
 ·have := wrL_ok hw (s.first n k at_ w.length).1.toNat hs
  exact ⟨this.1, this.2.1, this.2.2.1⟩
omit hr ok hv in
theorem fresh_ok (k : Int) {w : List Int} (hw : Words w) : FlOK n (s.fresh n k w).2 ∧ (s.fresh n k w).2.V.length = s.V.length ∧ (s.fresh n k w).2.M = s.M := by
 unfold Fl.fresh
 split
 ·exact ⟨hs, rfl, rfl⟩
 have hc := clean_ok hs k
 split
 ·exact hc
 ·have := dwrite_ok hc.1 k 0 hw
  exact ⟨this.1, by rw [this.2.1, hc.2.1], by rw [this.2.2, hc.2.2]⟩
theorem drive_Fresh_eq {k : Int} {w : List Int} (hw : Words w) : drive_Drive_Fresh.c k w (n : Int) g1 g2 g3 g4 g5 (n : Int) s.C s.D s.A s.W s.V s.M = some ((s.fresh n k w).1, s5 (s.fresh n k w).2) := by
 simp only [drive_Drive_Fresh.c, drive_Drive_Fresh.t]
 rw [opt_some (drive_first_eq hr ok hs hv (inR_i64 (by decide)))]
 unfold Fl.fresh
 by_cases h1 : (s.first n k 0 w.length).2 ≠ 0
 ·rw [if_pos h1, bb_pos (by simpa using h1), Tw.run_ret]
  rfl
 rw [if_neg h1, bb_neg (by simpa using h1), opt_some (show drive_Drive_Clean.c k (n : Int) g1 g2 g3 g4 g5 (n : Int) s.C s.D s.A s.W s.V s.M = some ((s.clean n k).1, (s.clean n k).2.C, (s.clean n k).2.D, (s.clean n k).2.A, (s.clean n k).2.W, (s.clean n k).2.V) from drive_Clean_eq hr ok hs hv)]
 have hc := clean_ok hs k
 by_cases h2 : (s.clean n k).1 ≠ 0
 ·rw [if_pos h2, bb_pos (by simpa using h2), Tw.run_ret]
  try rfl
 rw [if_neg h2, bb_neg (by simpa using h2), ← hc.2.2, opt_some (drive_Write_eq hr ok hc.1 (by rw [hc.2.1]; exact hv) (inR_i64 (by decide)) hw), Tw.run_ret, ← (dwrite_ok hc.1 k 0 hw).2.1]
 rfl
theorem ref09_Fresh_eq {k : Int} {w : List Int} (hw : Words w) : ref09_Drive_Fresh.c k w (n : Int) g1 g2 g3 g4 g5 (n : Int) s.C s.D s.A s.W s.V s.M = some ((s.fresh n k w).1, s5 (s.fresh n k w).2) := by
 simp only [ref09_Drive_Fresh.c, ref09_Drive_Fresh.t]
 rw [opt_some (ref09_bad_eq hr ok hs hv (inR_i64 (by decide)))]
 unfold Fl.fresh
 by_cases h1 : (s.first n k 0 w.length).2 ≠ 0
 ·rw [if_pos h1, bb_pos (by simpa using h1), Tw.run_ret]
  rfl
 rw [if_neg h1, bb_neg (by simpa using h1), opt_some (show ref09_Drive_Clean.c k (n : Int) g1 g2 g3 g4 g5 (n : Int) s.C s.D s.A s.W s.V s.M = some ((s.clean n k).1, (s.clean n k).2.C, (s.clean n k).2.D, (s.clean n k).2.A, (s.clean n k).2.W, (s.clean n k).2.V) from ref09_Clean_eq hr ok hs hv)]
 have hc := clean_ok hs k
 by_cases h2 : (s.clean n k).1 ≠ 0
 ·rw [if_pos h2, bb_pos (by simpa using h2), Tw.run_ret]
  try rfl
 rw [if_neg h2, bb_neg (by simpa using h2), ← hc.2.2, opt_some (ref09_Write_eq hr ok hc.1 (by rw [hc.2.1]; exact hv) (inR_i64 (by decide)) hw), Tw.run_ret, ← (dwrite_ok hc.1 k 0 hw).2.1]
 rfl
end

end Go.Proofs.Ytkoidgjgdhpdnaa.Pure
namespace Go.Proofs.Ytkoidgjgdhpdnaa.Pure
open Go Go.Proofs.Ytkoidgjgdhpdnaa.Va

def Fl.setM (s : Fl) (M : List Int) : Fl := { s with M := M }
section
variable {s : Fl} (M : List Int)
theorem prog_setM (h : s.A < 0) (a x : Int) : (s.setM M).prog a x = ((s.prog a x).1, (s.prog a x).2.setM M) ∧ (s.prog a x).2.A < 0 := by
 obtain ⟨C, D, A, W, V, M'⟩ := s
 have h : A < 0 := h
 have h0 : A ≠ 0 := by omega
 unfold Fl.setM Fl.prog burn
 simp only [h0, h, if_false, if_true]
 repeat' split
 all_goals exact ⟨rfl, h⟩
theorem erase_setM (n : Nat) (h : s.A < 0) (k : Int) : (s.setM M).erase n k = ((s.erase n k).1, (s.erase n k).2.setM M) ∧ (s.erase n k).2.A < 0 := by
 obtain ⟨C, D, A, W, V, M'⟩ := s
 have h : A < 0 := h
 have h0 : A ≠ 0 := by omega
 unfold Fl.setM Fl.erase burn
 simp only [h0, h, if_false, if_true]
 repeat' split
 all_goals exact ⟨rfl, h⟩
theorem wrL_setM : ∀ (w : List Int) (a : Nat) {s : Fl}, s.A < 0 → wrL w a (s.setM M) = ((wrL w a s).1, (wrL w a s).2.setM M) ∧ (wrL w a s).2.A < 0
 | [], a, s, h => ⟨rfl, h⟩
 | x :: w, a, s, h => by
  obtain ⟨e1, e2⟩ := prog_setM (s := s) M h (a : Int) x
  have hW : (s.setM M).W = s.W := rfl
  unfold wrL
  rw [hW, e1]
  split
  ·exact wrL_setM w (a + 1) h
  split
  ·exact ⟨rfl, e2⟩
  ·exact wrL_setM w (a + 1) e2
theorem dwrite_setM (n : Nat) (h : s.A < 0) (k at_ : Int) (w : List Int) : (s.setM M).dwrite n k at_ w = ((s.dwrite n k at_ w).1, (s.dwrite n k at_ w).2.setM M) ∧ (s.dwrite n k at_ w).2.A < 0 := by
 have e1 : ∀ c, (s.setM M).first n k at_ c = s.first n k at_ c := fun _ => rfl
 have hW : (s.setM M).W = s.W := rfl
 unfold Fl.dwrite
 rw [e1, hW]
 split
 ·exact ⟨rfl, h⟩
 split
 ·exact ⟨rfl, h⟩
 ·exact wrL_setM M w _ h
theorem clean_setM (n : Nat) (h : s.A < 0) (k : Int) : (s.setM M).clean n k = ((s.clean n k).1, (s.clean n k).2.setM M) ∧ (s.clean n k).2.A < 0 := by
 have e1 : (s.setM M).blank n k 0 = s.blank n k 0 := rfl
 unfold Fl.clean
 rw [e1]
 split
 ·exact ⟨rfl, h⟩
 split
 ·exact ⟨rfl, h⟩
 ·exact erase_setM M n h k
theorem fresh_setM (n : Nat) (h : s.A < 0) (k : Int) (w : List Int) : (s.setM M).fresh n k w = ((s.fresh n k w).1, (s.fresh n k w).2.setM M) ∧ (s.fresh n k w).2.A < 0 := by
 have e1 : ∀ c, (s.setM M).first n k 0 c = s.first n k 0 c := fun _ => rfl
 obtain ⟨c1, c2⟩ := clean_setM (s := s) M n h k
 unfold Fl.fresh
 rw [e1, c1]
 split
 ·exact ⟨rfl, h⟩
 split
 ·exact ⟨rfl, c2⟩
 ·exact dwrite_setM M n c2 k 0 w
end

section
variable {n : Nat} {g1 g2 g3 g4 g5 : Int} (hr : GeoR (n : Int) g1 g2 g3 g4 g5) (ok : GeoOK (n : Int) g1 g2 g3 g4 g5) {s : Fl} (hs : FlOK n s) (hv : (s.V.length : Int) = 2 + 2 * g1 + g2)
include hr ok hs hv
end
end Go.Proofs.Ytkoidgjgdhpdnaa.Pure
namespace Go.Proofs.Ytkoidgjgdhpdnaa.Pure
open Go Go.Proofs.Ytkoidgjgdhpdnaa.Va

theorem andn_ones {w : Int} (hw : InR .u32 w) : bAndn .u32 w 4294967295 = 0 := by
 obtain ⟨a, rfl, ha⟩ := u32_nat hw
 have : sub32 a 4294967295 = 0 := ext32 (sub_lt _ _) (by decide) (fun i hi => by
  rw [sub_bit _ _ _ hi, Nat.zero_testBit, show (4294967295 : Nat) = 2 ^ 32 - 1 by decide, Nat.testBit_two_pow_sub_one]
  simp [hi])
 rw [show (4294967295 : Int) = ((4294967295 : Nat) : Int) from rfl, bAndn_nat, this]
 rfl
theorem set_get {W : List Int} {j : Nat} (y : Int) (i : Nat) (hj : j < W.length) : (W.set j y).getD i 0 = if i = j then y else W.getD i 0 := by
 simp only [List.getD_eq_getElem?_getD]
 by_cases h : i = j
 ·subst h
  rw [if_pos rfl, List.getElem?_set_self hj]
  rfl
 ·rw [if_neg h, List.getElem?_set_ne (by omega)]
theorem viol_of {W w : List Int} {a : Nat} (h : ∀ i, i < w.length → bAndn .u32 (w.getD i 0) (W.getD (a + i) 0) = 0) : viol W w a = false := by
 unfold viol
 rw [List.any_eq_false]
 intro i hi
 rw [h i (List.mem_range.1 hi)]
 simp
theorem first_ok {n : Nat} {s : Fl} (hD : s.D = false) {j b c : Nat} (hj : j < s.V.length) (hb : b + c ≤ n) : s.first n (j : Int) (b : Int) (c : Int) = (((j * n + b : Nat) : Int), 0) := by
 unfold Fl.first
 rw [if_neg (by omega), hD, if_neg (by simp), Int.toNat_natCast, Int.toNat_natCast]
section
variable {n : Nat} {s : Fl} (hs : FlOK n s) (hD : s.D = false) (hA : s.A < 0) {w : List Int} (hw : Words w)
include hs hD hA hw
end

end Go.Proofs.Ytkoidgjgdhpdnaa.Pure
namespace Go.Proofs.Ytkoidgjgdhpdnaa.Pure
open Go Go.Proofs.Ytkoidgjgdhpdnaa.Va

def chkF (n : Nat) (g1 t : Int) : Int := if 1 ≤ t ∧ t ≤ 4 * (n : Int) * (g1 - 1) then (t - 1) / (4 * (n : Int)) + 1 else 0
def prtF (n : Nat) (t i : Int) : Int := imin (4 * (n : Int)) (t - i * (4 * (n : Int)))
def ledF (g1 slot : Int) : Int := 2 + slot * g1
def chnF (g1 slot i : Int) : Int := 2 + slot * g1 + 1 + i
def sfine (n : Nat) (g1 slot t : Int) : Int := if ¬(0 ≤ slot ∧ slot < 2) then 3 else if chkF n g1 t = 0 then 2 else 0
def cnt0 (w : List Int) : Nat := (w.takeWhile fun x => x == 0).length
def Fl.sdone (n : Nat) (g1 : Int) (s : Fl) (slot t : Int) : Int × Int :=
 if sfine n g1 slot t ≠ 0 then (0, sfine n g1 slot t) else if (s.dread n (ledF g1 slot) 0 (chkF n g1 t)).1 ≠ 0 then (0, (s.dread n (ledF g1 slot) 0 (chkF n g1 t)).1)
 else ((cnt0 (s.dread n (ledF g1 slot) 0 (chkF n g1 t)).2 : Int), 0)
abbrev SbX : Type := (List Int) ⊕ (Int × List Int)
def Fl.sbl (n : Nat) (g1 : Int) (s : Fl) (slot t : Int) : Nat → Nat → List Int → SbX
 | 0, _, acc => .inl acc
 | m + 1, i, acc =>
  if (s.dread n (chnF g1 slot i) 0 (need (prtF n t i))).1 ≠ 0 then .inr ((s.dread n (chnF g1 slot i) 0 (need (prtF n t i))).1, acc)
  else if (bytesR (s.dread n (chnF g1 slot i) 0 (need (prtF n t i))).2 (prtF n t i)).1 ≠ 0 then .inr (12, acc)
  else s.sbl n g1 slot t m (i + 1) (acc ++ (bytesR (s.dread n (chnF g1 slot i) 0 (need (prtF n t i))).2 (prtF n t i)).2)
def Fl.sbytes (n : Nat) (g1 : Int) (s : Fl) (slot t : Int) : Int × List Int :=
 if sfine n g1 slot t ≠ 0 then (sfine n g1 slot t, []) else match s.sbl n g1 slot t (chkF n g1 t).toNat 0 [] with | .inl l => (0, l) | .inr z => (z.1, [])

section
variable {n : Nat} {g1 g2 g3 g4 g5 : Int} (hr : GeoR (n : Int) g1 g2 g3 g4 g5) (ok : GeoOK (n : Int) g1 g2 g3 g4 g5)
include ok
include hr
variable {s : Fl} (hs : FlOK n s) (hv : (s.V.length : Int) = 2 + 2 * g1 + g2)
include hs hv
end

end Go.Proofs.Ytkoidgjgdhpdnaa.Pure
namespace Go.Proofs.Ytkoidgjgdhpdnaa.Pure
open Go Go.Proofs.Ytkoidgjgdhpdnaa.Va

def Lit (s : Fl) : Prop := s.D = false ∧ s.A < 0
theorem prog_Lit {s : Fl} (h : Lit s) (a x : Int) : Lit (s.prog a x).2 := by
 obtain ⟨hD, hA⟩ := h
 unfold Fl.prog
 rw [if_neg (by rw [hD]; simp)]
 split
 ·exact ⟨hD, hA⟩
 split
 ·exact ⟨hD, hA⟩
 rw [if_neg (by omega)]
 exact ⟨hD, by show burn s.A < 0; unfold burn; rw [if_pos hA]; exact hA⟩
theorem erase_Lit {n : Nat} {s : Fl} (h : Lit s) (k : Int) : Lit (s.erase n k).2 := by
 obtain ⟨hD, hA⟩ := h
 unfold Fl.erase
 rw [if_neg (by rw [hD]; simp)]
 split
 ·exact ⟨hD, hA⟩
 rw [if_neg (by omega)]
 exact ⟨hD, by show burn s.A < 0; unfold burn; rw [if_pos hA]; exact hA⟩
theorem wrL_Lit : ∀ (w : List Int) (a : Nat) {s : Fl}, Lit s → Lit (wrL w a s).2
 | [], _, _, h => h
 | x :: w, a, s, h => by
  unfold wrL
  split
  ·exact wrL_Lit w _ h
  split
  ·exact prog_Lit h _ _
  ·exact wrL_Lit w _ (prog_Lit h _ _)
theorem dwrite_Lit {n : Nat} {s : Fl} (h : Lit s) (k at_ : Int) (w : List Int) : Lit (s.dwrite n k at_ w).2 := by
 unfold Fl.dwrite
 split
 ·exact h
 split
 ·exact h
 ·exact wrL_Lit w _ h
theorem clean_Lit {n : Nat} {s : Fl} (h : Lit s) (k : Int) : Lit (s.clean n k).2 := by
 unfold Fl.clean
 split
 ·exact h
 split
 ·exact h
 ·exact erase_Lit h k
theorem fresh_Lit {n : Nat} {s : Fl} (h : Lit s) (k : Int) (w : List Int) : Lit (s.fresh n k w).2 := by
 unfold Fl.fresh
 split
 ·exact h
 split
 ·exact clean_Lit h k
 ·exact dwrite_Lit (clean_Lit h k) k 0 w
theorem dread_yes {n : Nat} {s : Fl} (hD : s.D = false) {j b c : Nat} (hj : j < s.V.length) (hl : b + c ≤ n) : s.dread n (j : Int) (b : Int) (c : Int) = (0, rd s.W (j * n + b) c) := by
 have hf := first_ok (n := n) hD (j := j) (b := b) (c := c) hj hl
 unfold Fl.dread
 rw [hf, if_neg (fun h => h rfl), Int.toNat_natCast, Int.toNat_natCast]

def Nr (s t : Fl) : Prop := t = s ∨ (s.A < 0 ∧ ∃ M, t = s.setM M)
section
variable {s : Fl} (M : List Int)
end
theorem sbl_setM (s : Fl) (M : List Int) (n : Nat) (g1 slot t : Int) : ∀ (m i : Nat) (acc : List Int), (s.setM M).sbl n g1 slot t m i acc = s.sbl n g1 slot t m i acc
 | 0, _, _ => rfl
 | m + 1, i, acc => by
  unfold Fl.sbl
  rw [show (s.setM M).dread n (chnF g1 slot i) 0 (need (prtF n t i)) = s.dread n (chnF g1 slot i) 0 (need (prtF n t i)) from rfl]
  split
  ·rfl
  split
  ·rfl
  ·exact sbl_setM s M n g1 slot t m (i + 1) _
theorem Nr.reads {n : Nat} {g1 : Int} {s t : Fl} (h : Nr s t) (slot tt : Int) : t.sdone n g1 slot tt = s.sdone n g1 slot tt ∧ t.sbytes n g1 slot tt = s.sbytes n g1 slot tt := by
 rcases h with rfl | ⟨h, M, rfl⟩
 ·exact ⟨rfl, rfl⟩
 ·refine ⟨rfl, ?_⟩
  unfold Fl.sbytes
  rw [sbl_setM]
end Go.Proofs.Ytkoidgjgdhpdnaa.Pure
namespace Go.Proofs.Ytkoidgjgdhpdnaa.Pure
open Go Go.Proofs.Ytkoidgjgdhpdnaa.Va

section
variable {n : Nat} {g1 g2 g3 g4 g5 : Int} (hr : GeoR (n : Int) g1 g2 g3 g4 g5) (ok : GeoOK (n : Int) g1 g2 g3 g4 g5) {s t : Fl} (hs : FlOK n s) (ht : FlOK n t) (hv : (s.V.length : Int) = 2 + 2 * g1 + g2) (hvt : (t.V.length : Int) = 2 + 2 * g1 + g2)
include hr ok hs ht hv hvt
end

end Go.Proofs.Ytkoidgjgdhpdnaa.Pure
namespace Go.Proofs.Ytkoidgjgdhpdnaa.Pure
open Go Go.Proofs.Ytkoidgjgdhpdnaa.Va

theorem getD_in {n : Nat} {s : Fl} (hs : FlOK n s) (i : Nat) : InR .u32 (s.W.getD i 0) := by
 by_cases h : i < s.W.length
 ·exact hs.w _ (List.mem_of_getElem? (getD_some 0 h))
 ·rw [List.getD_eq_getElem?_getD, List.getElem?_eq_none (by omega)]
  exact inR_u32 (by decide)
theorem dwrite_arm {n : Nat} {s : Fl} (hD : s.D = false) {j b : Nat} (hj : j < s.V.length) {w : List Int} (hl : b + w.length ≤ n) (hjn : j * n + n ≤ s.W.length) (hv : ∀ i, i < w.length → bAndn .u32 (w.getD i 0) (s.W.getD (j * n + b + i) 0) = 0) :
  s.dwrite n (j : Int) (b : Int) w = wrL w (j * n + b) s := by
 have hf := first_ok (n := n) hD (j := j) (b := b) (c := w.length) hj hl
 unfold Fl.dwrite
 simp only [hf]
 rw [if_neg (fun h => h rfl), Int.toNat_natCast, viol_of hv, if_neg (by decide)]
end Go.Proofs.Ytkoidgjgdhpdnaa.Pure
namespace Go.Proofs.Ytkoidgjgdhpdnaa.Pure
open Go Go.Proofs.Ytkoidgjgdhpdnaa.Va

theorem bOr64_nat (a b : Nat) (ha : a < 9223372036854775808) (hb : b < 9223372036854775808) : bOr .i64 (a : Int) (b : Int) = ((a ||| b : Nat) : Int) := by
 have hx : a ||| b < 2 ^ 63 := Nat.or_lt_two_pow (by omega) (by omega)
 show w64 ((BitVec.ofInt 64 (a : Int) ||| BitVec.ofInt 64 (b : Int)).toNat : Int) = _
 rw [BitVec.ofInt_natCast, BitVec.ofInt_natCast, BitVec.toNat_or, BitVec.toNat_ofNat, BitVec.toNat_ofNat, Nat.mod_eq_of_lt (by omega), Nat.mod_eq_of_lt (by omega)]
 exact w64_of (by omega) (by omega)
theorem bOr64_add {a b : Int} (k : Nat) (ha : 0 ≤ a) (hab : a + b < 9223372036854775808) (hd : a % 2 ^ k = 0) (hb : 0 ≤ b) (hb2 : b < 2 ^ k) : bOr .i64 a b = a + b := by
 obtain ⟨x, rfl⟩ := Int.eq_ofNat_of_zero_le ha
 obtain ⟨y, rfl⟩ := Int.eq_ofNat_of_zero_le hb
 rw [bOr64_nat x y (by omega) (by omega)]
 have hb2' : y < 2 ^ k := by exact_mod_cast hb2
 have hd' : x % 2 ^ k = 0 := by exact_mod_cast hd
 have e : x = 2 ^ k * (x / 2 ^ k) := by
  have := Nat.div_add_mod x (2 ^ k)
  omega
 have : x ||| y = x + y := by
  rw [e]
  exact (Nat.two_pow_add_eq_or_of_lt hb2' _).symm
 rw [this]
 omega
theorem bShl64 (a : Int) (k : Nat) (hk : k ≤ 64) (h1 : -9223372036854775808 ≤ a * 2 ^ k) (h2 : a * 2 ^ k < 9223372036854775808) : bShl .i64 a (k : Int) = a * 2 ^ k := by
 show w64 (a * 2 ^ min ((k : Int).toNat) 64) = _
 rw [Int.toNat_natCast, Nat.min_eq_left hk]
 exact w64_of h1 h2

end Go.Proofs.Ytkoidgjgdhpdnaa.Pure
namespace Go.Proofs.Ytkoidgjgdhpdnaa.Pure
open Go Go.Proofs.Ytkoidgjgdhpdnaa.Va

def pop (x : Nat) : Nat := if h : x = 0 then 0 else x % 2 + pop (x / 2)
decreasing_by omega
theorem pop_zero : pop 0 = 0 := by rw [pop]; simp
theorem pop_step (x : Nat) : pop x = x % 2 + pop (x / 2) := by
 by_cases h : x = 0
 ·subst h; simp [pop_zero]
 ·rw [pop]; simp [h]

theorem pop_clear : ∀ (n x : Nat), x ≤ n → x ≠ 0 → pop (x &&& (x - 1)) + 1 = pop x ∧ x &&& (x - 1) < x := by
 intro n
 induction n with
 | zero => intro x h h0; omega
 | succ n ih =>
  intro x h h0
  have hlt : x &&& (x - 1) < x := Nat.lt_of_le_of_lt Nat.and_le_right (by omega)
  refine ⟨?_, hlt⟩
  rw [pop_step x, pop_step (x &&& (x - 1))]
  have hm : (x &&& (x - 1)) % 2 = 0 := by
   have := Nat.and_mod_two_pow (a := x) (b := x - 1) (n := 1)
   simp only [Nat.pow_one] at this
   rw [this]
   have h2 : x % 2 = 0 ∨ x % 2 = 1 := by omega
   rcases h2 with h2 | h2
   ·rw [h2, Nat.zero_and]
   ·have : (x - 1) % 2 = 0 := by omega
    rw [this, Nat.and_zero]
  have hd : (x &&& (x - 1)) / 2 = x / 2 &&& (x - 1) / 2 := by
   have := Nat.and_div_two_pow (a := x) (b := x - 1) (n := 1)
   simpa using this
  rw [hm, hd]
  rcases Nat.mod_two_eq_zero_or_one x with h2 | h2
  ·have e : (x - 1) / 2 = x / 2 - 1 := by omega
   rw [e, h2]
   have := (ih (x / 2) (by omega) (by omega)).1
   omega
  ·have e : (x - 1) / 2 = x / 2 := by omega
   rw [e, h2, Nat.and_self]
   omega
theorem pop_le : ∀ (k x : Nat), x < 2 ^ k → pop x ≤ k
 | 0, x, h => by
  have : x = 0 := by simpa using h
  subst this
  rw [pop_zero]; omega
 | k + 1, x, h => by
  rw [pop_step]
  have := pop_le k (x / 2) (by rw [Nat.pow_succ] at h; omega)
  omega

theorem word_Ones_L2 : ∀ (n x : Nat), x ≤ n → x < 4294967296 → ∀ m : Nat, m + pop x < 4611686018427387904 → word_Ones.L2 (x : Int) (m : Int) = some ((m + pop x : Nat) : Int) := by
 have stop (m : Nat) : word_Ones.L2 ((0 : Nat) : Int) (m : Int) = some ((m + pop 0 : Nat) : Int) := by
  refine Lp_end ?_
  simp [word_Ones.l2, Tw.run_bb, Tw.run_ret, pop_zero]
 intro n
 induction n with
 | zero =>
  intro x hx _ m _
  have : x = 0 := by omega
  subst this
  exact stop m
 | succ n ih =>
  intro x hx hlt m hm
  by_cases h0 : x = 0
  ·subst h0
   exact stop m
  ·obtain ⟨h1, h2⟩ := pop_clear x x (Nat.le_refl _) h0
   have e1 : w32 ((x : Int) - 1) = ((x - 1 : Nat) : Int) := by rw [w32_of (by omega) (by omega)]; omega
   have e2 : w64 ((m : Int) + 1) = ((m + 1 : Nat) : Int) := by rw [w64_of (by omega) (by omega)]; omega
   refine (Lp_next (s' := (((x &&& (x - 1) : Nat) : Int), ((m + 1 : Nat) : Int))) ?_).trans ?_
   ·simp only [word_Ones.l2, Tw.run_bb, Tw.run_ret, e1, e2, bAnd_nat x (x - 1) hlt (by omega)]
    rw [if_pos (by simp; omega)]
   ·refine (ih _ (by omega) (by omega) (m + 1) (by omega)).trans ?_
    congr 2
    omega
theorem word_Ones_eq (x : Nat) (h : x < 4294967296) : word_Ones.c (x : Int) = some ((pop x : Nat) : Int) := by
 have hp := pop_le 32 x (by simpa using h)
 have := word_Ones_L2 x x (Nat.le_refl _) h 0 (by omega)
 simp only [word_Ones.c, word_Ones.t, Tw.run_opt, Tw.run_ret]
 rw [show (0 : Int) = ((0 : Nat) : Int) from rfl, this]
 simp

end Go.Proofs.Ytkoidgjgdhpdnaa.Pure
namespace Go.Proofs.Ytkoidgjgdhpdnaa.Pure
open Go Go.Proofs.Ytkoidgjgdhpdnaa.Va

theorem ref01_bit_eq (x : Nat) (h : x < 4294967296) {i : Nat} (hi : i ≤ 64) : ref01_bit.c (x : Int) (i : Int) = some ((x / 2 ^ i % 2 : Nat) : Int) := by
 have hL : ref01_bit.L2 (x : Int) (i : Int) 0 = some ((x / 2 ^ i : Nat) : Int) := by
  have := Lp_seq (fun s => (ref01_bit.l2 (i : Int) s.1 s.2).run) (fun k => (((x / 2 ^ k : Nat) : Int), (k : Int))) (x := ((x / 2 ^ i : Nat) : Int)) i 0 (fun k _ hk => ?_) (by
   simp only [ref01_bit.l2, Tw.run_bb, Nat.zero_add]
   rw [if_neg (by simp)]
   rfl)
  ·simp only [Nat.pow_zero, Nat.div_one] at this
   exact this
  ·have hle : x / 2 ^ k ≤ x := Nat.div_le_self _ _
   have e3 : x / 2 ^ (k + 1) = x / 2 ^ k / 2 := by rw [Nat.pow_succ, Nat.div_div_eq_div_mul]
   simp only [ref01_bit.l2, Tw.run_bb, Tw.run_ret, e3]
   generalize x / 2 ^ k = y at *
   rw [if_pos (by simp; omega)]
   rw [show Int.tdiv (y : Int) 2 = ((y / 2 : Nat) : Int) from rfl, w32_of (by omega) (by omega), w64_of (by omega) (by omega)]
   congr 3
 simp only [ref01_bit.c, ref01_bit.t, Tw.run_opt, Tw.run_ret, hL, Option.bind_some]
 rfl

def bitsTo (x : Nat) : Nat → Nat
 | 0 => 0
 | k + 1 => bitsTo x k + x / 2 ^ k % 2
theorem pop_bits (x : Nat) : ∀ k, pop x = bitsTo x k + pop (x / 2 ^ k)
 | 0 => by simp [bitsTo]
 | k + 1 => by
  rw [pop_bits x k, pop_step (x / 2 ^ k), bitsTo, Nat.pow_succ, Nat.div_div_eq_div_mul]
  omega
theorem bitsTo_le (x : Nat) : ∀ k, bitsTo x k ≤ k
 | 0 => by simp [bitsTo]
 | k + 1 => by
  have := bitsTo_le x k
  rw [bitsTo]
  omega
theorem pop_32 (x : Nat) (h : x < 4294967296) : bitsTo x 32 = pop x := by
 have := pop_bits x 32
 have e : x / 2 ^ 32 = 0 := by omega
 rw [e, pop_zero] at this
 omega

theorem ref01_Ones_eq (x : Nat) (h : x < 4294967296) : ref01_Ones.c (x : Int) = some ((pop x : Nat) : Int) := by
 have hL : ref01_Ones.L3 (x : Int) 0 0 = some ((pop x : Nat) : Int) := by
  have := Lp_seq (fun s => (ref01_Ones.l3 (x : Int) s.1 s.2).run) (fun k => (((bitsTo x k : Nat) : Int), (k : Int))) (x := ((pop x : Nat) : Int)) 32 0 (fun k _ hk => ?_) (by
   simp only [ref01_Ones.l3, Tw.run_bb, Nat.zero_add]
   rw [if_neg (by simp), pop_32 x h]
   rfl)
  ·exact this
  ·have := bitsTo_le x k
   simp only [ref01_Ones.l3, Tw.run_bb, Tw.run_opt, Tw.run_ret, ref01_bit_eq x h (show k ≤ 64 by omega), Option.bind_some]
   rw [if_pos (by simp; omega), w64_of (n := ((x / 2 ^ k % 2 : Nat) : Int)) (by omega) (by omega), w64_of (by omega) (by omega), w64_of (by omega) (by omega), bitsTo]
   congr 3
 simp only [ref01_Ones.c, ref01_Ones.t, Tw.run_opt, Tw.run_ret, hL, Option.bind_some]

def zer (x : Int) : Nat := 32 - pop x.toNat
def zsum (l : List Int) : Nat := (l.map zer).sum
def zs (l : List Int) : Int := ((zsum l % 4294967296 : Nat) : Int)
theorem zsum_le (l : List Int) : zsum l ≤ 32 * l.length := by
 induction l with
 | nil => simp [zsum]
 | cons x l ih =>
  unfold zsum zer at *
  simp only [List.map_cons, List.sum_cons, List.length_cons]
  omega
theorem zsum_take (l : List Int) {i : Nat} (hi : i < l.length) : zsum (l.take (i + 1)) = zsum (l.take i) + zer (l.getD i 0) := by
 have : l.take (i + 1) = l.take i ++ [l.getD i 0] := by
  rw [List.take_add_one, List.getElem?_eq_getElem hi, List.getD_eq_getElem?_getD, List.getElem?_eq_getElem hi]
  rfl
 rw [this]
 simp [zsum]
theorem pop_u32 {x : Int} (h : InR .u32 x) : pop x.toNat ≤ 32 := pop_le 32 _ (by have := h.u32; omega)
theorem ones_of {x : Int} (h : InR .u32 x) : word_Ones.c x = some ((pop x.toNat : Nat) : Int) := by
 have := h.u32
 have e : x = ((x.toNat : Nat) : Int) := by omega
 have h2 := word_Ones_eq x.toNat (by omega)
 rw [← e] at h2
 exact h2
theorem ref_ones_of {x : Int} (h : InR .u32 x) : ref01_Ones.c x = some ((pop x.toNat : Nat) : Int) := by
 have := h.u32
 have e : x = ((x.toNat : Nat) : Int) := by omega
 have h2 := ref01_Ones_eq x.toNat (by omega)
 rw [← e] at h2
 exact h2
theorem words_get {l : List Int} (hl : Words l) {i : Nat} (hi : i < l.length) : InR .u32 (l.getD i 0) := by
 rw [List.getD_eq_getElem?_getD, List.getElem?_eq_getElem hi]
 exact hl _ (List.getElem_mem hi)
theorem words_take {l : List Int} (hl : Words l) (i : Nat) : Words (l.take i) := fun x hx => hl x (List.mem_of_mem_take hx)

theorem zeros_Sum_eq {l : List Int} (hw : Words l) (hl : l.length ≤ 140737488351232) : zeros_Sum.c l = some (zs l) := by
 have hL : zeros_Sum.L3 0 l (l.length : Int) 0 = some ((zsum l : Nat) : Int) := by
  have := Lp_seq (fun s => (zeros_Sum.l3 l (l.length : Int) s.1 s.2).run) (fun i => (((zsum (l.take i) : Nat) : Int), (i : Int))) (x := ((zsum l : Nat) : Int)) l.length 0 (fun i _ hi => ?_) (by
   simp only [zeros_Sum.l3, Tw.run_bb, Nat.zero_add]
   rw [if_neg (by simp), List.take_length]
   rfl)
  ·exact this
  ·have hi' : i < l.length := by omega
   have hp := pop_u32 (words_get hw hi')
   have hz := zsum_le (l.take i)
   rw [List.length_take] at hz
   simp only [zeros_Sum.l3, Tw.run_bb, Tw.run_dd, Tw.run_opt, Tw.run_ret, Tw.run_no, Int.toNat_natCast, word_some hi', ones_of (words_get hw hi'), Option.bind_some]
   rw [if_pos (by simp; omega), if_pos (by omega), zsum_take l hi', w64_of (n := 32 - ((pop (l.getD i 0).toNat : Nat) : Int)) (by omega) (by omega), w64_of (by omega) (by omega), w64_of (by omega) (by omega)]
   unfold zer
   congr 3
   omega
 simp only [zeros_Sum.c, zeros_Sum.t, Tw.run_opt, Tw.run_ret, hL, Option.bind_some]
 rw [w32_eq]
 rfl

theorem ref02_Sum_eq {l : List Int} (hw : Words l) (hl : l.length ≤ 140737488351232) : ref02_Sum.c l = some (zs l) := by
 have hL : ref02_Sum.L3 l 0 0 = some (zs l) := by
  have := Lp_seq (fun s => (ref02_Sum.l3 l s.1 s.2).run) (fun i => (zs (l.take i), (i : Int))) (x := zs l) l.length 0 (fun i _ hi => ?_) (by
   simp only [ref02_Sum.l3, Tw.run_bb, Nat.zero_add]
   rw [if_neg (by simp), List.take_length]
   rfl)
  ·exact this
  ·have hi' : i < l.length := by omega
   have hp := pop_u32 (words_get hw hi')
   simp only [ref02_Sum.l3, Tw.run_bb, Tw.run_dd, Tw.run_opt, Tw.run_ret, Tw.run_no, Int.toNat_natCast, word_some hi', ref_ones_of (words_get hw hi'), Option.bind_some]
   rw [if_pos (by simp; omega), if_pos (by omega), w64_of (by omega) (by omega), w32_eq, w32_eq, w32_eq]
   unfold zs
   rw [zsum_take l hi']
   unfold zer
   congr 3
   omega
 simp only [ref02_Sum.c, ref02_Sum.t, Tw.run_opt, Tw.run_ret, hL, Option.bind_some]

theorem zeros_Seal_eq {l : List Int} (hw : Words l) (hl : l.length * 4 ≤ reachBytes) : zeros_Seal.c l = some (l ++ [zs l]) := by
 rw [reach_eq] at hl
 have e1 : w64 ((l.length : Int) + 1) = ((l.length + 1 : Nat) : Int) := by rw [w64_of (by omega) (by omega)]; omega
 have e2 : List.take (l.length + 1) l ++ List.drop l.length (List.replicate (l.length + 1) (0 : Int)) = l ++ [0] := by
  rw [List.take_of_length_le (by omega), List.drop_replicate, show l.length + 1 - l.length = 1 by omega]
  rfl
 simp only [zeros_Seal.c, zeros_Seal.t, Tw.run_dd, Tw.run_opt, Tw.run_ret, Tw.run_no, e1, Int.toNat_natCast, List.length_replicate, e2, zeros_Sum_eq hw (show l.length ≤ 140737488351232 by omega), Option.bind_some]
 rw [if_pos ⟨by omega, by omega, by omega, by omega⟩, if_pos ⟨by omega, by simp; omega⟩]
 simp

theorem ref02_Seal_eq {l : List Int} (hw : Words l) (hl : l.length * 4 ≤ reachBytes) : ref02_Seal.c l = some (l ++ [zs l]) := by
 rw [reach_eq] at hl
 simp only [ref02_Seal.c, ref02_Seal.t, Tw.run_dd, Tw.run_opt, Tw.run_ret, Tw.run_no, ref02_Sum_eq hw (show l.length ≤ 140737488351232 by omega), Option.bind_some, List.length_cons, List.length_nil]
 rw [if_pos ⟨by omega, by omega⟩, if_pos ⟨by omega, by omega⟩]

def rightB (l : List Int) : Bool := decide (0 < l.length) && (l.getD (l.length - 1) 0 == zs (l.take (l.length - 1)))

theorem zeros_Right_eq {l : List Int} (hw : Words l) (hl : l.length ≤ 140737488351232) : zeros_Right.c l = some (rightB l) := by
 have e1 : w64 ((l.length : Int) - 1) = (l.length : Int) - 1 := w64_of (by omega) (by omega)
 simp only [zeros_Right.c, zeros_Right.t, Tw.run_bb, Tw.run_dd, Tw.run_opt, Tw.run_ret, Tw.run_no, e1, decide_eq_true_eq]
 unfold rightB
 by_cases h : 0 < l.length
 ·have e2 : ((l.length : Int) - 1).toNat = l.length - 1 := by omega
  rw [if_pos (by omega), if_pos (by omega), e2, word_some (show l.length - 1 < l.length by omega)]
  simp only [Option.bind_some]
  rw [if_pos ⟨by omega, by omega⟩, zeros_Sum_eq (words_take hw _) (by rw [List.length_take]; omega)]
  simp [h]
 ·rw [if_neg (by omega)]
  simp [h]

def twin (n : Int) : Int := (65535 - n) * 65536 + n
def toldR (x : Int) : Int × Bool := if x / 65536 = 65535 - x % 65536 then (x % 65536, true) else (0, false)

theorem zeros_Twin_eq (n : Int) (h : InR .i64 n) : zeros_Twin.c n = some (if n < 0 ∨ n > 65535 then (0, 2) else (twin n, 0)) := by
 have := h.i64
 simp only [zeros_Twin.c, zeros_Twin.t, Tw.run_bb, Tw.run_ret, decide_eq_true_eq]
 by_cases h0 : n < 0
 ·rw [if_pos h0, if_pos (Or.inl h0)]
 ·rw [if_neg h0]
  by_cases h1 : n > 65535
  ·rw [if_pos h1, if_pos (Or.inr h1)]
  ·rw [if_neg h1, if_neg (by omega)]
   have e1 : w32 n = n := w32_of (by omega) (by omega)
   have e2 : w32 (w64 (65535 - n)) = 65535 - n := by rw [w64_of (by omega) (by omega), w32_of (by omega) (by omega)]
   have e3 : bShl .u32 (65535 - n) 16 = (65535 - n) * 65536 := by
    rw [show (16 : Int) = ((16 : Nat) : Int) from rfl, bShl_u32 _ _ (by omega)]
    omega
   have e4 : bOr .u32 n ((65535 - n) * 65536) = twin n := by
    obtain ⟨m, rfl⟩ := Int.eq_ofNat_of_zero_le (show 0 ≤ n by omega)
    have := bOr_add (a := (65535 - (m : Int)) * 65536) (b := (m : Int)) 16 (by omega) (by omega) (by omega) (by omega) (by omega) (by omega)
    obtain ⟨k, hk⟩ := Int.eq_ofNat_of_zero_le (show 0 ≤ (65535 - (m : Int)) * 65536 by omega)
    rw [hk] at this ⊢
    rw [bOr_nat _ _ (by omega) (by omega)] at this
    rw [bOr_nat _ _ (by omega) (by omega), Nat.or_comm, this]
    unfold twin
    omega
   rw [e1, e2, e3, e4]

theorem bAnd_low {x : Int} (h : 0 ≤ x ∧ x < 4294967296) : bAnd .u32 x 65535 = x % 65536 := by
 obtain ⟨m, rfl⟩ := Int.eq_ofNat_of_zero_le h.1
 rw [show (65535 : Int) = ((65535 : Nat) : Int) from rfl, bAnd_nat _ _ (by omega) (by omega), show (65535 : Nat) = 2 ^ 16 - 1 by decide, Nat.and_two_pow_sub_one_eq_mod]
 omega

theorem zeros_Told_eq {x : Int} (h : InR .u32 x) : zeros_Told.c x = some (toldR x) := by
 have h := h.u32
 have e1 : bShr .u32 x 16 = x / 65536 := by
  rw [show (16 : Int) = ((16 : Nat) : Int) from rfl, bShr_u32 _ _ (by omega)]
  rfl
 have e2 : bNot .u32 x = 4294967295 - x := by
  obtain ⟨m, rfl⟩ := Int.eq_ofNat_of_zero_le h.1
  rw [bNot_nat m (by omega)]
  omega
 simp only [zeros_Told.c, zeros_Told.t, Tw.run_bb, Tw.run_ret, e1, e2, bAnd_low (show 0 ≤ 4294967295 - x ∧ 4294967295 - x < 4294967296 by omega), bAnd_low h]
 unfold toldR
 by_cases hc : x / 65536 = 65535 - x % 65536
 ·rw [if_neg (by simp; omega), if_pos hc, w64_of (by omega) (by omega)]
 ·rw [if_pos (by simp; omega), if_neg hc]

theorem ref02_Twin_eq {n : Int} (h0 : 0 ≤ n) (h1 : n ≤ 65535) : ref02_Twin.c n = some (twin n) := by
 simp only [ref02_Twin.c, ref02_Twin.t, Tw.run_ret]
 rw [w64_of (by omega) (by omega), w32_of (n := 65535 - n) (by omega) (by omega), w32_of (n := (65535 - n) * 65536) (by omega) (by omega), w32_of (n := n) (by omega) (by omega), w32_of (by omega) (by omega)]
 rfl

theorem twin_range {n : Int} (h0 : 0 ≤ n) (h1 : n ≤ 65535) : InR .u32 (twin n) := inR_u32 (by unfold twin; omega)
theorem toldR_twin {n : Int} (h0 : 0 ≤ n) (h1 : n ≤ 65535) : toldR (twin n) = (n, true) := by
 unfold toldR twin
 rw [if_pos (by omega)]
 congr 1
 omega

end Go.Proofs.Ytkoidgjgdhpdnaa.Pure
namespace Go.Proofs.Ytkoidgjgdhpdnaa.Pure
open Go Go.Proofs.Ytkoidgjgdhpdnaa.Va

theorem pop_or : ∀ (k x y : Nat), x < 2 ^ k → y < 2 ^ k → pop x ≤ pop (x ||| y) ∧ (pop x = pop (x ||| y) → x ||| y = x)
 | 0, x, y, hx, hy => by
  have h1 : x = 0 := by simpa using hx
  have h2 : y = 0 := by simpa using hy
  subst h1; subst h2
  simp
 | k + 1, x, y, hx, hy => by
  rw [Nat.pow_succ] at hx hy
  obtain ⟨i1, i2⟩ := pop_or k (x / 2) (y / 2) (by omega) (by omega)
  have hm : (x ||| y) % 2 = (x % 2) ||| (y % 2) := by
   have := Nat.or_mod_two_pow (a := x) (b := y) (n := 1)
   simpa using this
  have hd : (x ||| y) / 2 = x / 2 ||| y / 2 := by
   have := Nat.or_div_two_pow (a := x) (b := y) (n := 1)
   simpa using this
  have e1 := pop_step x
  have e2 := pop_step (x ||| y)
  rw [hm, hd] at e2
  have hc : x % 2 ≤ (x % 2 ||| y % 2) ∧ (x % 2 ||| y % 2) ≤ 1 := by
   rcases Nat.mod_two_eq_zero_or_one x with h | h <;> rcases Nat.mod_two_eq_zero_or_one y with h' | h' <;> rw [h, h'] <;> decide
  refine ⟨by omega, fun h => ?_⟩
  have e3 : pop (x / 2) = pop (x / 2 ||| y / 2) := by omega
  have e4 := i2 e3
  have e5 := Nat.div_add_mod (x ||| y) 2
  have e6 := Nat.div_add_mod x 2
  rw [hm, hd, e4] at e5
  omega

theorem zsum_cmp : ∀ (A B : List Int), A.length = B.length → (∀ (j : Nat) (a b : Int), A[j]? = some a → B[j]? = some b → zer a ≤ zer b ∧ (zer a = zer b → a = b)) → zsum A ≤ zsum B ∧ (zsum A = zsum B → A = B)
 | [], [], _, _ => ⟨Nat.le_refl _, fun _ => rfl⟩
 | a :: A, b :: B, hl, h => by
  obtain ⟨h1, h2⟩ := h 0 a b rfl rfl
  obtain ⟨i1, i2⟩ := zsum_cmp A B (by simpa using hl) fun j x y hx hy => h (j + 1) x y (by simpa using hx) (by simpa using hy)
  have ea : zsum (a :: A) = zer a + zsum A := by simp [zsum]
  have eb : zsum (b :: B) = zer b + zsum B := by simp [zsum]
  refine ⟨by omega, fun e => ?_⟩
  rw [h2 (by omega), i2 (by omega)]
 | [], _ :: _, hl, _ => by simp at hl
 | _ :: _, [], hl, _ => by simp at hl

theorem bOr_range {a b : Int} (ha : 0 ≤ a ∧ a < 4294967296) (hb : 0 ≤ b ∧ b < 4294967296) : (0 ≤ bOr .u32 a b ∧ bOr .u32 a b < 4294967296) ∧ a ≤ bOr .u32 a b ∧ zer (bOr .u32 a b) ≤ zer a ∧ (zer (bOr .u32 a b) = zer a → bOr .u32 a b = a) := by
 obtain ⟨x, rfl⟩ := Int.eq_ofNat_of_zero_le ha.1
 obtain ⟨y, rfl⟩ := Int.eq_ofNat_of_zero_le hb.1
 rw [bOr_nat x y (by omega) (by omega)]
 have h1 : x ||| y < 2 ^ 32 := Nat.or_lt_two_pow (by omega) (by omega)
 have h2 : x ≤ x ||| y := Nat.left_le_or
 obtain ⟨p1, p2⟩ := pop_or 32 x y (by omega) (by omega)
 have q1 := pop_le 32 (x ||| y) h1
 unfold zer
 rw [Int.toNat_natCast, Int.toNat_natCast]
 refine ⟨by omega, by omega, by omega, fun e => ?_⟩
 rw [p2 (by omega)]

def Up (a b : Int) : Prop := (0 ≤ b ∧ b < 4294967296) ∧ a ≤ b ∧ zer b ≤ zer a ∧ (zer b = zer a → b = a)
theorem Up.refl {a : Int} (h : 0 ≤ a ∧ a < 4294967296) : Up a a := ⟨h, Int.le_refl _, Nat.le_refl _, fun _ => rfl⟩
theorem Up.or {a b : Int} (ha : 0 ≤ a ∧ a < 4294967296) (hb : 0 ≤ b ∧ b < 4294967296) : Up a (bOr .u32 a b) := bOr_range ha hb

theorem sure_seal {A B : List Int} (hlen : A.length = B.length) (hl : A.length ≤ 100000000) (hu : ∀ j, j < A.length → Up (A.getD j 0) (B.getD j 0)) (ra : rightB A = true) (rb : rightB B = true) : A = B := by
 unfold rightB at ra rb
 rw [Bool.and_eq_true, decide_eq_true_iff, beq_iff_eq] at ra rb
 rw [← hlen] at rb
 obtain ⟨n, hn⟩ : ∃ n, A.length = n + 1 := ⟨A.length - 1, by omega⟩
 rw [hn, Nat.add_sub_cancel] at ra rb
 have z1 : zs (A.take n) = ((zsum (A.take n) : Nat) : Int) := by
  have := zsum_le (A.take n)
  rw [List.length_take] at this
  unfold zs
  rw [Nat.mod_eq_of_lt (by omega)]
 have z2 : zs (B.take n) = ((zsum (B.take n) : Nat) : Int) := by
  have := zsum_le (B.take n)
  rw [List.length_take] at this
  unfold zs
  rw [Nat.mod_eq_of_lt (by omega)]
 have hc := zsum_cmp (B.take n) (A.take n) (by rw [List.length_take, List.length_take]; omega) fun j a b ha hb => by
  have hj : j < n := by
   have := (List.getElem?_eq_some_iff.1 ha).1
   rw [List.length_take] at this
   omega
  rw [List.getElem?_take, if_pos hj, getD_some 0 (show j < B.length by omega)] at ha
  rw [List.getElem?_take, if_pos hj, getD_some 0 (show j < A.length by omega)] at hb
  cases ha; cases hb
  exact (hu j (by omega)).2.2
 have h3 := (hu n (by omega)).2.1
 have e := hc.2 (by omega)
 have eA : A = A.take n ++ [A.getD n 0] := by rw [← take_snoc 0 (show n < A.length by omega), List.take_of_length_le (by omega)]
 have eB : B = B.take n ++ [B.getD n 0] := by rw [← take_snoc 0 (show n < B.length by omega), List.take_of_length_le (by omega)]
 rw [eA, eB, e]
 congr 2
 omega

section
variable {P : Nat → Bool} {s u : List Int} {m j : Nat}
end

end Go.Proofs.Ytkoidgjgdhpdnaa.Pure
namespace Go.Proofs.Ytkoidgjgdhpdnaa.Pure
open Go Go.Proofs.Ytkoidgjgdhpdnaa.Va

def sealW (l : List Int) : List Int := l ++ [zs l]
theorem rightB_sealW (l : List Int) : rightB (sealW l) = true := by
 unfold rightB sealW
 rw [List.length_append, List.length_singleton, Nat.add_sub_cancel, List.getD_eq_getElem?_getD, List.getElem?_append_right (Nat.le_refl _), Nat.sub_self]
 simp
theorem zs_u32 (l : List Int) : InR .u32 (zs l) := inR_u32 (by unfold zs; omega)

def frP (k s : Int) (n : Nat) : Prop := (k = 1 ∨ k = 2) ∧ 1 ≤ s ∧ s ≤ 1073741823 ∧ 1 ≤ n ∧ n ≤ 56
instance (k s : Int) (n : Nat) : Decidable (frP k s n) := by unfold frP; infer_instance
def fraL (k s : Int) (l : List Int) : List Int := twin (l.length : Int) :: (k * 1073741824 + s) :: l
theorem fraL_len (k s : Int) (l : List Int) : (fraL k s l).length = l.length + 2 := by simp [fraL]
theorem fraL_words {k s : Int} {l : List Int} (h : frP k s l.length) (hl : Words l) : Words (fraL k s l) := by
 obtain ⟨hk, h1, h2, h3, h4⟩ := h
 exact words_cons (twin_range (by omega) (by omega)) (words_cons (inR_u32 (by omega)) hl)

theorem frame_Size_eq (n : Int) (h : InR .i64 n) : frame_Size.c n = some (if n < 1 ∨ n > 56 then 0 else n + 3) := by
 have := h.i64
 simp only [frame_Size.c, frame_Size.t, Tw.run_bb, Tw.run_ret, decide_eq_true_eq]
 by_cases h0 : n < 1
 ·rw [if_pos h0, if_pos (Or.inl h0)]
 ·by_cases h1 : n > 56
  ·rw [if_neg h0, if_pos h1, if_pos (Or.inr h1)]
  ·rw [if_neg h0, if_neg h1, if_neg (by omega), w64_of (by omega) (by omega)]

theorem frame_Lay_eq (k s : Int) {l : List Int} (hw : Words l) (hl : l.length * 4 ≤ reachBytes) : frame_Lay.c k s l = some (if frP k s l.length then (0, sealW (fraL k s l)) else (2, [])) := by
 rw [reach_eq] at hl
 have hS := frame_Size_eq (l.length : Int) (inR_i64 (by omega))
 simp only [frame_Lay.c, frame_Lay.t, Tw.run_opt, hS, Option.bind_some]
 by_cases h0 : (l.length : Int) < 1 ∨ (l.length : Int) > 56
 ·rw [if_pos h0, bb_pos (by rfl), if_neg (by unfold frP; omega)]
  rfl
 rw [if_neg h0, bb_neg (beq_eq_false_iff_ne.2 (by omega))]
 by_cases h1 : k < 1
 ·rw [bb_pos (decide_eq_true h1), if_neg (by unfold frP; omega)]
  rfl
 rw [bb_neg (decide_eq_false h1)]
 by_cases h2 : k > 2
 ·rw [bb_pos (decide_eq_true h2), if_neg (by unfold frP; omega)]
  rfl
 rw [bb_neg (decide_eq_false h2)]
 by_cases h3 : s < 1
 ·rw [bb_pos (decide_eq_true h3), if_neg (by unfold frP; omega)]
  rfl
 rw [bb_neg (decide_eq_false h3)]
 by_cases h4 : s > 1073741823
 ·rw [bb_pos (decide_eq_true h4), if_neg (by unfold frP; omega)]
  rfl
 rw [bb_neg (decide_eq_false h4)]
 have hf : frP k s l.length := by unfold frP; omega
 rw [if_pos hf]
 have e1 : w64 ((2 : Int) + (l.length : Int)) = ((l.length + 2 : Nat) : Int) := by rw [w64_of (by omega) (by omega)]; omega
 have e2 : List.replicate (l.length + 2) (0 : Int) = 0 :: 0 :: List.replicate l.length 0 := rfl
 have e3 : bShl .i64 k 30 = k * 1073741824 := by
  rw [show (30 : Int) = ((30 : Nat) : Int) from rfl, bShl64 k 30 (by omega) (by omega) (by omega)]
  omega
 have e4 : w32 (bOr .i64 (k * 1073741824) s) = k * 1073741824 + s := by
  rw [bOr64_add 30 (by omega) (by omega) (by omega) (by omega) (by omega), w32_of (by omega) (by omega)]
 have hT : zeros_Twin.c (l.length : Int) = some (twin (l.length : Int), 0) := by rw [zeros_Twin_eq _ (inR_i64 (by omega)), if_neg (by omega)]
 have hZ : zeros_Seal.c (fraL k s l) = some (sealW (fraL k s l)) := zeros_Seal_eq (fraL_words hf hw) (by rw [fraL_len, reach_eq]; omega)
 simp only [e1, Int.toNat_natCast, e2]
 rw [dd_pos ⟨by omega, by omega, by omega, by omega⟩]
 simp only [Tw.run_opt, hT, Option.bind_some]
 rw [dd_pos ⟨by omega, by simp; omega⟩]
 simp only [Tw.run_opt, show Int.toNat (0 : Int) = 0 from rfl, show Int.toNat (1 : Int) = 1 from rfl, show Int.toNat (2 : Int) = 2 from rfl, List.getElem?_cons_zero, List.getElem?_cons_succ, List.set_cons_zero, List.set_cons_succ, Option.bind_some]
 rw [dd_pos ⟨by omega, by simp; omega⟩]
 simp only [Tw.run_opt, Option.bind_some, e3, e4]
 rw [dd_pos ⟨by omega, by simp; omega⟩, dd_pos ⟨by rfl, by rfl, by simp; omega⟩]
 simp only [Tw.run_opt, Option.bind_some, List.length_cons, List.length_replicate, show l.length + 1 + 1 - 2 = l.length by omega, List.take_length, Nat.min_self, show 2 + l.length = l.length + 1 + 1 by omega, List.take_succ_cons, List.take_zero, List.drop_succ_cons]
 rw [List.drop_eq_nil_of_le (by simp), List.append_nil]
 show (zeros_Seal.c (fraL k s l)).bind _ = _
 rw [hZ]
 rfl

theorem ref10_Lay_eq {k s : Int} {l : List Int} (h : frP k s l.length) (hw : Words l) : ref10_Lay.c k s l = some (sealW (fraL k s l)) := by
 have hf := h
 obtain ⟨hk, h1, h2, h3, h4⟩ := h
 have e : w32 (w32 (w32 k * 1073741824) + w32 s) = k * 1073741824 + s := by
  rw [w32_of (n := k) (by omega) (by omega), w32_of (n := s) (by omega) (by omega), w32_of (n := k * 1073741824) (by omega) (by omega), w32_of (by omega) (by omega)]
 simp only [ref10_Lay.c, ref10_Lay.t, Tw.run_opt, ref02_Twin_eq (show 0 ≤ (l.length : Int) by omega) (show (l.length : Int) ≤ 65535 by omega), Option.bind_some, e]
 rw [dd_pos (by simp only [List.length_cons, List.length_nil]; omega)]
 have hZ : ref02_Seal.c (fraL k s l) = some (sealW (fraL k s l)) := ref02_Seal_eq (fraL_words hf hw) (by rw [fraL_len, reach_eq]; omega)
 simp only [Tw.run_opt, Tw.run_ret]
 show (ref02_Seal.c (fraL k s l)).bind _ = _
 rw [hZ]
 rfl

def noF : Int × (Int × (Int × (Bool × List Int))) := (0, 0, 0, false, [])
def lenF (w : List Int) : Nat := (toldR (w.getD 0 0)).1.toNat
def loadF (w : List Int) : List Int := (w.drop 2).take (lenF w)
def mayF (w : List Int) : Prop := (toldR (w.getD 0 0)).2 = true ∧ 1 ≤ lenF w ∧ lenF w ≤ 56 ∧ lenF w + 3 ≤ w.length
instance (w : List Int) : Decidable (mayF w) := by unfold mayF; infer_instance
def fineF (w : List Int) : Prop := (w.getD 1 0 / 1073741824 = 1 ∨ w.getD 1 0 / 1073741824 = 2) ∧ 1 ≤ w.getD 1 0 % 1073741824 ∧ rightB (w.take (lenF w + 3)) = true
instance (w : List Int) : Decidable (fineF w) := by unfold fineF; infer_instance
def readF (w : List Int) : Int × (Int × (Int × (Bool × List Int))) :=
 if mayF w ∧ fineF w then (w.getD 1 0 / 1073741824, w.getD 1 0 % 1073741824, (lenF w : Int) + 3, true, loadF w) else noF

theorem told_range {x : Int} (h : InR .u32 x) : 0 ≤ (toldR x).1 ∧ (toldR x).1 ≤ 65535 := by
 have := h.u32
 unfold toldR
 split
 ·exact ⟨by show 0 ≤ x % 65536; omega, by show x % 65536 ≤ 65535; omega⟩
 ·exact ⟨Int.le_refl _, by decide⟩
theorem clone_eq {l : List Int} (h : l.length * 4 ≤ 140737488355328) : slices_Clone__uint32uint32.c l = some l := by
 unfold slices_Clone__uint32uint32.c slices_Clone__uint32uint32.t
 rw [dd_pos (by simp; omega)]
 rfl
theorem bShr_30 (a : Int) : bShr .u32 a 30 = a / 1073741824 := by
 rw [show (30 : Int) = ((30 : Nat) : Int) from rfl, bShr_u32 _ _ (by omega)]
 rfl
theorem bAnd_30 {x : Int} (h : 0 ≤ x ∧ x < 4294967296) : bAnd .u32 x 1073741823 = x % 1073741824 := by
 have := bAnd_mask 30 (by omega) h
 exact this

theorem frame_Read_eq {w : List Int} (hw : Words w) (hl : w.length ≤ 35184372088832) : frame_Read.c w = some (readF w) := by
 simp only [frame_Read.c, frame_Read.t, show Int.toNat (0 : Int) = 0 from rfl, show Int.toNat (1 : Int) = 1 from rfl, show Int.toNat (2 : Int) = 2 from rfl]
 by_cases h0 : w.length = 0
 ·rw [bb_pos (by simp [h0])]
  unfold readF
  rw [if_neg (by rintro ⟨⟨_, _, _, h⟩, _⟩; omega)]
  rfl
 rw [bb_neg (by rw [beq_eq_false_iff_ne]; omega)]
 have hx := word_in hw 0
 have hr := told_range hx
 have h11 := word_in hw 1
 have h1r := h11.u32
 simp only [Tw.run_opt, word_some (show 0 < w.length by omega), zeros_Told_eq hx, Option.bind_some, frame_Size_eq (toldR (w.getD 0 0)).1 (inR_i64 (by omega))]
 cases ht : (toldR (w.getD 0 0)).2 with
 | false =>
  rw [bb_pos (by rfl)]
  unfold readF
  rw [if_neg (by rintro ⟨⟨h, _⟩, _⟩; rw [ht] at h; cases h)]
  rfl
 | true =>
 rw [bb_neg (by rfl)]
 have el : (toldR (w.getD 0 0)).1 = ((lenF w : Nat) : Int) := by unfold lenF; omega
 rw [el]
 by_cases h1 : ((lenF w : Nat) : Int) < 1 ∨ ((lenF w : Nat) : Int) > 56
 ·rw [if_pos h1, bb_pos (by rfl)]
  unfold readF
  rw [if_neg (by rintro ⟨⟨_, h, h', _⟩, _⟩; omega)]
  rfl
 rw [if_neg h1, bb_neg (beq_eq_false_iff_ne.2 (by omega))]
 by_cases h2 : w.length < lenF w + 3
 ·rw [bb_pos (decide_eq_true (by omega))]
  unfold readF
  rw [if_neg (by rintro ⟨⟨_, _, _, h⟩, _⟩; omega)]
  rfl
 have hm : mayF w := ⟨ht, by omega, by omega, by omega⟩
 rw [bb_neg (decide_eq_false (by omega)), dd_pos (by omega)]
 have e3 : (((lenF w : Nat) : Int) + 3).toNat = lenF w + 3 := by omega
 simp only [Tw.run_opt, e3, zeros_Right_eq (words_take hw _) (show (w.take (lenF w + 3)).length ≤ 140737488351232 by rw [List.length_take]; omega), Option.bind_some]
 unfold readF
 cases hR : rightB (w.take (lenF w + 3)) with
 | false =>
  rw [bb_pos (by rfl), if_neg (by rintro ⟨_, _, _, h⟩; rw [hR] at h; cases h)]
  rfl
 | true =>
 rw [bb_neg (by rfl)]
 have e4 : w64 (((lenF w : Nat) : Int) + 3 - 1) = ((lenF w + 2 : Nat) : Int) := by rw [w64_of (by omega) (by omega)]; omega
 have e5 : List.drop 2 (List.take (lenF w + 2) w) = loadF w := by rw [List.drop_take]; rfl
 have hll : (loadF w).length ≤ 56 := by unfold loadF; rw [List.length_take]; omega
 simp only [Tw.run_opt, word_some (show 1 < w.length by omega), Option.bind_some, e4, Int.toNat_natCast, e5]
 rw [dd_pos (by simp only [e4]; omega)]
 simp only [Tw.run_opt, clone_eq (show (loadF w).length * 4 ≤ 140737488355328 by omega), Option.bind_some, bShr_30, bAnd_30 h1r, w64_of (show -9223372036854775808 ≤ w.getD 1 0 / 1073741824 by omega) (show w.getD 1 0 / 1073741824 < 9223372036854775808 by omega),
  w64_of (show -9223372036854775808 ≤ w.getD 1 0 % 1073741824 by omega) (show w.getD 1 0 % 1073741824 < 9223372036854775808 by omega)]
 by_cases h3 : w.getD 1 0 / 1073741824 < 1
 ·rw [bb_pos (decide_eq_true h3), if_neg (by rintro ⟨_, h, _⟩; omega)]
  rfl
 rw [bb_neg (decide_eq_false h3)]
 by_cases h4 : w.getD 1 0 / 1073741824 > 2
 ·rw [bb_pos (decide_eq_true h4), if_neg (by rintro ⟨_, h, _⟩; omega)]
  rfl
 rw [bb_neg (decide_eq_false h4)]
 by_cases h5 : w.getD 1 0 % 1073741824 < 1
 ·rw [bb_pos (decide_eq_true h5), if_neg (by rintro ⟨_, _, h, _⟩; omega)]
  rfl
 rw [bb_neg (decide_eq_false h5), if_pos ⟨hm, by omega, by omega, hR⟩]
 rfl

theorem read_seal {k s : Int} {l : List Int} (h : frP k s l.length) (more : List Int) : readF (sealW (fraL k s l) ++ more) = (k, s, (l.length : Int) + 3, true, l) := by
 have hf := h
 obtain ⟨hk, h1, h2, h3, h4⟩ := h
 have hs : sealW (fraL k s l) ++ more = twin (l.length : Int) :: (k * 1073741824 + s) :: (l ++ (zs (fraL k s l) :: more)) := by
  unfold sealW
  generalize zs (fraL k s l) = z
  unfold fraL
  simp
 have g0 : (sealW (fraL k s l) ++ more).getD 0 0 = twin (l.length : Int) := by rw [hs]; rfl
 have g1 : (sealW (fraL k s l) ++ more).getD 1 0 = k * 1073741824 + s := by rw [hs]; rfl
 have hT := toldR_twin (n := (l.length : Int)) (by omega) (by omega)
 have hn : lenF (sealW (fraL k s l) ++ more) = l.length := by unfold lenF; rw [g0, hT]; rfl
 have hsl : (sealW (fraL k s l)).length = l.length + 3 := by unfold sealW; rw [List.length_append, fraL_len]; rfl
 have hld : loadF (sealW (fraL k s l) ++ more) = l := by
  unfold loadF
  rw [hn, hs]
  simp
 unfold readF
 rw [if_pos, g1, hn, hld]
 ·rw [show (k * 1073741824 + s) / 1073741824 = k by omega, show (k * 1073741824 + s) % 1073741824 = s by omega]
 ·refine ⟨⟨by rw [g0, hT], by omega, by omega, by rw [hn, List.length_append, hsl]; omega⟩, by rw [g1]; omega, by rw [g1]; omega, ?_⟩
  rw [hn, List.take_append_of_le_length (by omega), List.take_of_length_le (by omega)]
  exact rightB_sealW _

end Go.Proofs.Ytkoidgjgdhpdnaa.Pure
namespace Go.Proofs.Ytkoidgjgdhpdnaa.Pure
open Go Go.Proofs.Ytkoidgjgdhpdnaa.Va

def UpO (a b : Int) : Prop := InR .u32 a ∧ ∃ u, InR .u32 u ∧ b = bOr .u32 a u
theorem UpO.refl {a : Int} (h : InR .u32 a) : UpO a a := ⟨h, a, h, by
 obtain ⟨x, rfl, hx⟩ := u32_nat h
 rw [bOr_nat x x hx hx, Nat.or_self]⟩
theorem UpO.trans {a b c : Int} (h : UpO a b) (g : UpO b c) : UpO a c := by
 obtain ⟨ha, u, hu, rfl⟩ := h
 obtain ⟨hb, v, hv, rfl⟩ := g
 refine ⟨ha, bOr .u32 u v, bOr_in hu hv, ?_⟩
 obtain ⟨x, rfl, hx⟩ := u32_nat ha
 obtain ⟨y, rfl, hy⟩ := u32_nat hu
 obtain ⟨z, rfl, hz⟩ := u32_nat hv
 have h1 : x ||| y < 4294967296 := Nat.or_lt_two_pow (n := 32) (by omega) (by omega)
 have h2 : y ||| z < 4294967296 := Nat.or_lt_two_pow (n := 32) (by omega) (by omega)
 rw [bOr_nat x y hx hy, bOr_nat (x ||| y) z h1 hz, bOr_nat y z hy hz, bOr_nat x (y ||| z) hx h2, Nat.or_assoc]
theorem UpO.up {a b : Int} (h : UpO a b) : Up a b := by
 obtain ⟨ha, u, hu, rfl⟩ := h
 exact Up.or ha.u32 hu.u32
theorem UpO.anti {a b : Int} (h : UpO a b) (g : UpO b a) : a = b := Int.le_antisymm h.up.2.1 g.up.2.1
theorem UpO.ones {b : Int} (h : UpO 4294967295 b) : b = 4294967295 := by
 have h1 := h.up
 have := h1.1.2
 have := h1.2.1
 omega
theorem UpO.to_ones {a : Int} (h : InR .u32 a) : UpO a 4294967295 := ⟨h, 4294967295, inR_u32 (by decide), (bOr_ones h).symm⟩
theorem UpO.or {a u : Int} (h : InR .u32 a) (hu : InR .u32 u) : UpO a (bOr .u32 a u) := ⟨h, u, hu, rfl⟩
theorem UpO.torn {x m : Int} (hx : InR .u32 x) (hm : InR .u32 m) : UpO x (bAndn .u32 4294967295 (bAndn .u32 m x)) := by
 refine ⟨hx, bAndn .u32 4294967295 m, bAndn_in (inR_u32 (by decide)) hm, ?_⟩
 obtain ⟨a, rfl, ha⟩ := u32_nat hx
 obtain ⟨b, rfl, hb⟩ := u32_nat hm
 have e : (4294967295 : Int) = ((4294967295 : Nat) : Int) := rfl
 rw [e, bAndn_nat, bAndn_nat, bAndn_nat, bOr_nat _ _ ha (sub_lt _ _)]
 congr 1
 refine ext32 (sub_lt _ _) (Nat.or_lt_two_pow (n := 32) (by omega) (sub_lt _ _)) (fun i hi => ?_)
 rw [Nat.testBit_or, sub_bit _ _ _ hi, sub_bit _ _ _ hi, sub_bit _ _ _ hi, show (4294967295 : Nat) = 2 ^ 32 - 1 by decide, Nat.testBit_two_pow_sub_one]
 simp only [hi, decide_true, Bool.true_and]
 cases a.testBit i <;> cases b.testBit i <;> rfl
theorem twin_upJ {n u : Int} (h0 : 0 ≤ n) (h1 : n ≤ 65535) (hu : 0 ≤ u ∧ u < 4294967296) (h : (toldR (bOr .u32 (twin n) u)).2 = true) : bOr .u32 (twin n) u = twin n := by
 obtain ⟨n, rfl⟩ := Int.eq_ofNat_of_zero_le h0
 obtain ⟨u, rfl⟩ := Int.eq_ofNat_of_zero_le hu.1
 have et : twin (n : Int) = (((65535 - n) * 65536 + n : Nat) : Int) := by unfold twin; omega
 have hx : (65535 - n) * 65536 + n < 4294967296 := by omega
 rw [et] at h ⊢
 rw [bOr_nat _ u hx (show u < 4294967296 by omega)] at h ⊢
 obtain ⟨y, hy⟩ : ∃ y, y = ((65535 - n) * 65536 + n) ||| u := ⟨_, rfl⟩
 rw [← hy] at h ⊢
 have hy1 : y < 2 ^ 32 := by rw [hy]; exact Nat.or_lt_two_pow (by omega) (by omega)
 have hlo : ((65535 - n) * 65536 + n) % 65536 ≤ y % 65536 := by
  have := Nat.or_mod_two_pow (a := (65535 - n) * 65536 + n) (b := u) (n := 16)
  rw [← hy] at this
  rw [show (65536 : Nat) = 2 ^ 16 by decide] at *
  rw [this]
  exact Nat.left_le_or
 have hhi : ((65535 - n) * 65536 + n) / 65536 ≤ y / 65536 := by
  have := Nat.or_div_two_pow (a := (65535 - n) * 65536 + n) (b := u) (n := 16)
  rw [← hy] at this
  rw [show (65536 : Nat) = 2 ^ 16 by decide] at *
  rw [this]
  exact Nat.left_le_or
 unfold toldR at h
 split at h
 ·omega
 ·cases h

structure Fm where
 k : Int
 s : Int
 l : List Int
def Fm.ok (f : Fm) : Prop := frP f.k f.s f.l.length ∧ Words f.l
def Fm.w (f : Fm) : List Int := sealW (fraL f.k f.s f.l)
theorem Fm.len (f : Fm) : f.w.length = f.l.length + 3 := by unfold Fm.w sealW; rw [List.length_append, fraL_len]; rfl
theorem Fm.words {f : Fm} (h : f.ok) : Words f.w := words_append (fraL_words h.1 h.2) (words_cons (zs_u32 _) words_nil)
theorem Fm.one {f : Fm} (h : f.ok) : 1 ≤ f.s ∧ 1 ≤ f.l.length ∧ f.l.length ≤ 56 := by
 obtain ⟨⟨_, h1, _, h2, h3⟩, _⟩ := h
 exact ⟨h1, h2, h3⟩
theorem readF_ok {f : Fm} (h : f.ok) (more : List Int) : readF (f.w ++ more) = (f.k, f.s, (f.l.length : Int) + 3, true, f.l) := read_seal h.1 more
theorem readF_up {f : Fm} (h : f.ok) {w : List Int} (hl : f.w.length ≤ w.length) (hu : ∀ i, i < f.w.length → UpO (f.w.getD i 0) (w.getD i 0)) (hn : ∃ i, i < f.w.length ∧ w.getD i 0 ≠ f.w.getD i 0) : readF w = noF := by
 unfold readF
 refine if_neg (fun hm => ?_)
 obtain ⟨⟨m1, m2, m3, m4⟩, f1, f2, f3⟩ := hm
 obtain ⟨o1, o2, o3⟩ := Fm.one h
 have el := f.len
 have g0 : f.w.getD 0 0 = twin (f.l.length : Int) := by
  unfold Fm.w sealW fraL
  rfl
 have h0 := hu 0 (by omega)
 rw [g0] at h0
 obtain ⟨_, u, hu1, e⟩ := h0
 rw [e] at m1
 have ht := twin_upJ (n := (f.l.length : Int)) (by omega) (by omega) hu1.u32 m1
 have hlen : lenF w = f.l.length := by
  unfold lenF
  rw [e, ht, toldR_twin (by omega) (by omega)]
  rfl
 rw [hlen] at f3 m4
 have hA : rightB f.w = true := rightB_sealW _
 have htl : (w.take (f.l.length + 3)).length = f.l.length + 3 := by rw [List.length_take]; omega
 have hg : ∀ j, j < f.l.length + 3 → (w.take (f.l.length + 3)).getD j 0 = w.getD j 0 := fun j hj => by
  rw [List.getD_eq_getElem?_getD, List.getElem?_take_of_lt hj, ← List.getD_eq_getElem?_getD]
 have := sure_seal (A := f.w) (B := w.take (f.l.length + 3)) (by omega) (by omega) (fun j hj => by rw [hg j (by omega)]; exact (hu j hj).up) hA f3
 obtain ⟨i, hi, hne⟩ := hn
 apply hne
 rw [this, hg i (by omega)]
theorem readF_blank {w : List Int} (h : w = [] ∨ w.getD 0 0 = 4294967295) : readF w = noF := by
 unfold readF
 refine if_neg (fun hm => ?_)
 rcases h with h | h
 ·have := hm.1.2.2.2
  rw [h, List.length_nil] at this
  omega
 ·have := hm.1.1
  rw [h] at this
  exact absurd this (by decide)

structure JS where
 tail : Nat
 seq : Int
 whole : List Int
 chg : List (List Int)
def JS.add (j : JS) (f : Fm) : JS := if f.k = 1 then ⟨j.tail + (f.l.length + 3), f.s, f.l, []⟩ else ⟨j.tail + (f.l.length + 3), f.s, j.whole, j.chg ++ [f.l]⟩
def j0 : JS := ⟨0, 0, [], []⟩
def stJ (fs : List Fm) : JS := fs.foldl JS.add j0
def JS.goes (j : JS) (f : Fm) : Prop := (j.seq = 0 → f.k = 1) ∧ (j.seq ≠ 0 → f.s = j.seq + 1)
def layJ (fs : List Fm) : List Int := fs.flatMap Fm.w
def ChainJ (fs : List Fm) : Prop := ∀ i f, fs[i]? = some f → (stJ (fs.take i)).goes f
theorem add_tail (j : JS) (f : Fm) : (j.add f).tail = j.tail + (f.l.length + 3) := by unfold JS.add; split <;> rfl
theorem add_seq (j : JS) (f : Fm) : (j.add f).seq = f.s := by unfold JS.add; split <;> rfl
theorem stJ_snoc (fs : List Fm) (f : Fm) : stJ (fs ++ [f]) = (stJ fs).add f := by unfold stJ; rw [List.foldl_append]; rfl
theorem take_snocJ {fs : List Fm} {i : Nat} {f : Fm} (h : fs[i]? = some f) : fs.take (i + 1) = fs.take i ++ [f] := by rw [List.take_add_one, h]; rfl
theorem stJ_next {fs : List Fm} {i : Nat} {f : Fm} (h : fs[i]? = some f) : stJ (fs.take (i + 1)) = (stJ (fs.take i)).add f := by rw [take_snocJ h, stJ_snoc]
theorem layJ_append (a b : List Fm) : layJ (a ++ b) = layJ a ++ layJ b := List.flatMap_append
theorem layJ_one (f : Fm) : layJ [f] = f.w := by simp [layJ]
theorem stJ_tail (fs : List Fm) : (stJ fs).tail = (layJ fs).length := by
 suffices ∀ (fs : List Fm) (j : JS), (fs.foldl JS.add j).tail = j.tail + (layJ fs).length by
  have := this fs j0
  unfold stJ
  rw [this]
  exact Nat.zero_add _
 intro fs
 induction fs with
 | nil => intro j; rfl
 | cons f fs ih =>
  intro j
  rw [List.foldl_cons, ih, add_tail, show layJ (f :: fs) = f.w ++ layJ fs from rfl, List.length_append, f.len]
  omega
theorem layJ_split (fs : List Fm) (i : Nat) : layJ fs = layJ (fs.take i) ++ layJ (fs.drop i) := by
 rw [← layJ_append, List.take_append_drop]
theorem layJ_take_le (fs : List Fm) {i j : Nat} (h : i ≤ j) : (layJ (fs.take i)).length ≤ (layJ (fs.take j)).length := by
 have := layJ_split (fs.take j) i
 rw [List.take_take, Nat.min_eq_left h] at this
 rw [this, List.length_append]
 omega
theorem layJ_take_all (fs : List Fm) (i : Nat) : (layJ (fs.take i)).length ≤ (layJ fs).length := by
 rw [layJ_split fs i, List.length_append]
 omega
theorem ChainJ.take {fs : List Fm} (h : ChainJ fs) (m : Nat) : ChainJ (fs.take m) := fun i f hf => by
 have hi := (List.getElem?_eq_some_iff.1 hf).1
 rw [List.length_take] at hi
 rw [List.getElem?_take_of_lt (by omega)] at hf
 rw [List.take_take, Nat.min_eq_left (by omega)]
 exact h i f hf
theorem ChainJ.snoc {fs : List Fm} (h : ChainJ fs) {f : Fm} (hf : (stJ fs).goes f) : ChainJ (fs ++ [f]) := fun i g hg => by
 by_cases hi : i < fs.length
 ·rw [List.getElem?_append_left hi] at hg
  rw [List.take_append_of_le_length (by omega)]
  exact h i g hg
 ·have hi2 := (List.getElem?_eq_some_iff.1 hg).1
  rw [List.length_append, List.length_singleton] at hi2
  have : i = fs.length := by omega
  subst this
  rw [List.getElem?_append_right (by omega), Nat.sub_self] at hg
  have : f = g := by simpa using hg
  subst this
  rw [List.take_append_of_le_length (by omega), List.take_length]
  exact hf
theorem ChainJ.nil : ChainJ [] := fun i f hf => by simp at hf
theorem seq_step {fs : List Fm} (ok : ∀ f ∈ fs, f.ok) (ch : ChainJ fs) {i : Nat} (hi : i < fs.length) : 0 ≤ (stJ (fs.take i)).seq → (stJ (fs.take i)).seq < (stJ (fs.take (i + 1))).seq := fun h0 => by
 have hf : fs[i]? = some fs[i] := List.getElem?_eq_getElem hi
 have := ch i _ hf
 have o := (Fm.one (ok _ (List.getElem_mem hi))).1
 rw [stJ_next hf, add_seq]
 by_cases hz : (stJ (fs.take i)).seq = 0
 ·omega
 ·have := this.2 hz
  omega
theorem seq_nonneg {fs : List Fm} (ok : ∀ f ∈ fs, f.ok) (ch : ChainJ fs) : ∀ i, i ≤ fs.length → 0 ≤ (stJ (fs.take i)).seq
 | 0, _ => by simp [stJ, j0]
 | i + 1, h => by
  have h0 := seq_nonneg ok ch i (by omega)
  have := seq_step ok ch (i := i) (by omega) h0
  omega
theorem seq_mono {fs : List Fm} (ok : ∀ f ∈ fs, f.ok) (ch : ChainJ fs) {i : Nat} : ∀ d, i + d ≤ fs.length → (stJ (fs.take i)).seq + d ≤ (stJ (fs.take (i + d))).seq
 | 0, _ => by simp
 | d + 1, h => by
  have h0 := seq_mono ok ch (i := i) d (by omega)
  have := seq_step ok ch (i := i + d) (by omega) (seq_nonneg ok ch _ (by omega))
  rw [show i + (d + 1) = i + d + 1 by omega]
  omega
theorem seq_pos {fs : List Fm} (ok : ∀ f ∈ fs, f.ok) (ch : ChainJ fs) {i : Nat} (h : 1 ≤ i) (hi : i ≤ fs.length) : 1 ≤ (stJ (fs.take i)).seq := by
 have := seq_mono ok ch (i := 0) i (by omega)
 have h0 := seq_nonneg ok ch 0 (by omega)
 rw [Nat.zero_add] at this
 omega

def shw (fs : List Fm) (i : Nat) : Int := (layJ fs).getD i 4294967295
theorem shw_lt {fs : List Fm} {i : Nat} (m : Nat) (h : i < (layJ (fs.take m)).length) : shw fs i = shw (fs.take m) i := by
 unfold shw
 rw [layJ_split fs m, List.getD_eq_getElem?_getD, List.getElem?_append_left h, ← List.getD_eq_getElem?_getD]
theorem shw_ge {fs : List Fm} {i : Nat} (h : (layJ fs).length ≤ i) : shw fs i = 4294967295 := by
 unfold shw
 rw [List.getD_eq_getElem?_getD, List.getElem?_eq_none h]
 rfl
theorem shw_frame {fs : List Fm} {i j : Nat} {f : Fm} (hf : fs[i]? = some f) (hj : j < f.w.length) : shw fs ((layJ (fs.take i)).length + j) = f.w.getD j 0 := by
 have e := take_snocJ hf
 have hl : (layJ (fs.take (i + 1))).length = (layJ (fs.take i)).length + f.w.length := by rw [e, layJ_append, layJ_one, List.length_append]
 rw [shw_lt (i + 1) (by omega)]
 unfold shw
 rw [e, layJ_append, layJ_one, List.getD_eq_getElem?_getD, List.getElem?_append_right (by omega), Nat.add_sub_cancel_left, getD_some 0 hj]
 rfl
theorem shw_in {fs : List Fm} (ok : ∀ f ∈ fs, f.ok) (i : Nat) : InR .u32 (shw fs i) := by
 unfold shw
 by_cases h : i < (layJ fs).length
 ·have := List.mem_of_getElem? (getD_some 4294967295 h)
  obtain ⟨f, hf, hx⟩ := List.mem_flatMap.1 this
  exact Fm.words (ok f hf) _ hx
 ·rw [List.getD_eq_getElem?_getD, List.getElem?_eq_none (by omega)]
  exact inR_u32 (by decide)
structure Sh (n : Nat) (u : Nat → Int) (fs : List Fm) (m : Nat) : Prop where
 ok : ∀ f ∈ fs, f.ok
 ch : ChainJ fs
 le : (layJ fs).length ≤ n
 ml : m ≤ fs.length
 up : ∀ i, i < n → UpO (shw fs i) (u i)
 got : ∀ i, i < (layJ (fs.take m)).length → u i = shw fs i
 no : m < fs.length → ∃ i, i < (layJ (fs.take (m + 1))).length ∧ u i ≠ shw fs i
section
variable {n : Nat} {u : Nat → Int} {fs : List Fm} {m : Nat}
theorem Sh.cut (ok : ∀ f ∈ fs, f.ok) (ch : ChainJ fs) (le : (layJ fs).length ≤ n) (up : ∀ i, i < n → UpO (shw fs i) (u i)) : ∀ d m, m + d = fs.length → (∀ i, i < (layJ (fs.take m)).length → u i = shw fs i) → ∃ m', m ≤ m' ∧ Sh n u fs m'
 | 0, m, hm, h => ⟨m, Nat.le_refl _, ok, ch, le, by omega, up, h, fun hl => by omega⟩
 | d + 1, m, hm, h => by
  by_cases hn : ∀ i, i < (layJ (fs.take (m + 1))).length → u i = shw fs i
  ·obtain ⟨m', h1, h2⟩ := Sh.cut ok ch le up d (m + 1) (by omega) hn
   exact ⟨m', by omega, h2⟩
  ·refine ⟨m, Nat.le_refl _, ok, ch, le, by omega, up, h, fun _ => ?_⟩
   obtain ⟨i, hi⟩ := Classical.not_forall.1 hn
   obtain ⟨h1, h2⟩ := Classical.not_imp.1 hi
   exact ⟨i, h1, h2⟩
theorem Sh.raise (h : Sh n u fs m) {u' : Nat → Int} (hu : ∀ i, i < n → UpO (u i) (u' i)) : ∃ m', m' ≤ m ∧ Sh n u' fs m' := by
 obtain ⟨m', _, h'⟩ := Sh.cut h.ok h.ch h.le (fun i hi => (h.up i hi).trans (hu i hi)) fs.length 0 (by omega) (fun i hi => by simp [layJ] at hi)
 refine ⟨m', ?_, h'⟩
 by_cases hlt : m < m'
 ·exfalso
  obtain ⟨i, h1, h2⟩ := h.no (by have := h'.ml; omega)
  have h3 := layJ_take_le fs (show m + 1 ≤ m' by omega)
  have h4 := layJ_take_all fs m'
  have hin : i < n := by have := h.le; omega
  have h5 := h'.got i (by omega)
  apply h2
  have := hu i hin
  rw [h5] at this
  exact (UpO.anti (h.up i hin) this).symm
 ·omega
theorem Sh.fit (h : Sh n u fs m) (hb : ∀ i, (layJ (fs.take m)).length ≤ i → i < n → u i = 4294967295) : Sh n u (fs.take m) m := by
  have e : (fs.take m).take m = fs.take m := by rw [List.take_take, Nat.min_self]
  refine ⟨fun f hf => h.ok f (List.mem_of_mem_take hf), h.ch.take m, ?_, ?_, fun i hi => ?_, fun i hi => ?_, fun hl => ?_⟩
  · have := layJ_take_all fs m
    have := h.le
    omega
  · rw [List.length_take]
    have := h.ml
    omega
  · by_cases hlt : i < (layJ (fs.take m)).length
    · rw [← shw_lt m hlt]
      exact h.up i hi
    · rw [shw_ge (by omega), hb i (by omega) hi]
      exact UpO.refl (inR_u32 (by decide))
  · rw [e] at hi
    rw [← shw_lt m hi]
    exact h.got i hi
  · rw [List.length_take] at hl
    omega
theorem Sh.app (h : Sh n u fs fs.length) (hb : ∀ i, (layJ fs).length ≤ i → i < n → u i = 4294967295) {f : Fm} (hf : f.ok) (hg : (stJ fs).goes f) (hl : (layJ fs).length + f.w.length ≤ n) {u' : Nat → Int}
  (hu : ∀ i, i < n → ((layJ fs).length ≤ i ∧ i < (layJ fs).length + f.w.length → UpO (f.w.getD (i - (layJ fs).length) 0) (u' i)) ∧ (¬((layJ fs).length ≤ i ∧ i < (layJ fs).length + f.w.length) → u' i = u i)) :
  ∃ m', (m' = fs.length ∨ m' = fs.length + 1) ∧ Sh n u' (fs ++ [f]) m' ∧ ((∀ i, i < f.w.length → u' ((layJ fs).length + i) = f.w.getD i 0) → m' = fs.length + 1) := by
 have ok : ∀ g ∈ fs ++ [f], g.ok := fun g hg => by
  rcases List.mem_append.1 hg with hg | hg
  ·exact h.ok g hg
  ·rw [List.mem_singleton.1 hg]; exact hf
 have ch := h.ch.snoc hg
 have elay : (layJ (fs ++ [f])).length = (layJ fs).length + f.w.length := by rw [layJ_append, layJ_one, List.length_append]
 have et : (fs ++ [f]).take fs.length = fs := by rw [List.take_append_of_le_length (by omega), List.take_length]
 have hfr : (fs ++ [f])[fs.length]? = some f := by simp
 have hlo : ∀ i, i < (layJ fs).length → shw (fs ++ [f]) i = shw fs i := fun i hi => by
  have := shw_lt (fs := fs ++ [f]) fs.length (by rw [et]; exact hi)
  rw [et] at this
  exact this
 have hgot : ∀ i, i < (layJ fs).length → u i = shw fs i := fun i hi => h.got i (by rw [List.take_length]; exact hi)
 obtain ⟨m', h1, h2⟩ := Sh.cut (n := n) (u := u') ok ch (by omega) (fun i hi => by
  obtain ⟨a, b⟩ := hu i hi
  by_cases hr : (layJ fs).length ≤ i ∧ i < (layJ fs).length + f.w.length
  ·have := shw_frame (j := i - (layJ fs).length) hfr (by omega)
   rw [et, show (layJ fs).length + (i - (layJ fs).length) = i by omega] at this
   rw [this]
   exact a hr
  ·rw [b hr]
   by_cases hlt : i < (layJ fs).length
   ·rw [hlo i hlt, hgot i hlt]
    exact UpO.refl (shw_in h.ok i)
   ·rw [shw_ge (by omega), hb i (by omega) hi]
    exact UpO.refl (inR_u32 (by decide))) 1 fs.length (by simp) (fun i hi => by
  rw [et] at hi
  rw [(hu i (by omega)).2 (by omega), hgot i hi, hlo i hi])
 have h3 := h2.ml
 rw [List.length_append, List.length_singleton] at h3
 refine ⟨m', by omega, h2, fun hall => ?_⟩
 by_cases hm : m' = fs.length
 ·exfalso
  subst hm
  obtain ⟨i, h4, h5⟩ := h2.no (by simp)
  rw [show fs.length + 1 = (fs ++ [f]).length by simp, List.take_length, elay] at h4
  apply h5
  by_cases hlt : i < (layJ fs).length
  ·rw [hlo i hlt, (hu i (by omega)).2 (by omega), hgot i hlt]
  ·have := shw_frame (j := i - (layJ fs).length) hfr (by omega)
   rw [et, show (layJ fs).length + (i - (layJ fs).length) = i by omega] at this
   have h6 := hall (i - (layJ fs).length) (by omega)
   rw [show (layJ fs).length + (i - (layJ fs).length) = i by omega] at h6
   rw [this, h6]
 ·omega
theorem Sh.blank (hb : ∀ i, i < n → u i = 4294967295) : Sh n u [] 0 :=
 ⟨fun f hf => by simp at hf, ChainJ.nil, by simp [layJ], Nat.le_refl _, fun i hi => by rw [shw_ge (by simp [layJ]), hb i hi]; exact UpO.refl (inR_u32 (by decide)), fun i hi => by simp [layJ] at hi, fun h => by simp at h⟩

theorem rd_drop {W : List Int} {a t i : Nat} (h : t + i < n) : ((rd W a n).drop t).getD i 0 = W.getD (a + (t + i)) 0 := by
 rw [List.getD_eq_getElem?_getD, List.getElem?_drop, rd_get h]
 rfl
variable {W : List Int} {a : Nat} (h : Sh n (fun i => W.getD (a + i) 0) fs m)
include h
theorem Sh.reads {i : Nat} {f : Fm} (hi : i < m) (hf : fs[i]? = some f) : readF ((rd W a n).drop (stJ (fs.take i)).tail) = (f.k, f.s, (f.l.length : Int) + 3, true, f.l) ∧ (stJ (fs.take i)).tail + (f.l.length + 3) ≤ n := by
 have hfo := h.ok f (List.mem_of_getElem? hf)
 have e := take_snocJ hf
 have hl : (layJ (fs.take (i + 1))).length = (layJ (fs.take i)).length + f.w.length := by rw [e, layJ_append, layJ_one, List.length_append]
 have h1 := layJ_take_le fs (show i + 1 ≤ m by omega)
 have h2 := layJ_take_all fs m
 have h3 := h.le
 have h4 := f.len
 rw [stJ_tail]
 refine ⟨?_, by omega⟩
 have : (rd W a n).drop (layJ (fs.take i)).length = f.w ++ (rd W a n).drop ((layJ (fs.take i)).length + f.w.length) := by
  rw [← List.take_append_drop f.w.length ((rd W a n).drop (layJ (fs.take i)).length), List.drop_drop]
  congr 1
  apply List.ext_getElem?
  intro j
  by_cases hj : j < f.w.length
  ·rw [List.getElem?_take_of_lt hj, List.getElem?_drop, rd_get (by omega), getD_some 0 hj]
   have g := h.got ((layJ (fs.take i)).length + j) (by omega)
   rw [shw_frame hf hj] at g
   exact congrArg some g
  ·rw [List.getElem?_eq_none (by rw [List.length_take]; omega), List.getElem?_eq_none (by omega)]
 rw [this]
 exact readF_ok hfo _
theorem Sh.stops : readF ((rd W a n).drop (stJ (fs.take m)).tail) = noF ∧ (stJ (fs.take m)).tail ≤ n := by
 have h2 := layJ_take_all fs m
 have h3 := h.le
 rw [stJ_tail]
 refine ⟨?_, by omega⟩
 by_cases hm : m < fs.length
 ·have hf : fs[m]? = some fs[m] := List.getElem?_eq_getElem hm
  generalize fs[m] = f at hf
  have hfo := h.ok f (List.mem_of_getElem? hf)
  have e := take_snocJ hf
  have hl : (layJ (fs.take (m + 1))).length = (layJ (fs.take m)).length + f.w.length := by rw [e, layJ_append, layJ_one, List.length_append]
  have h5 := layJ_take_all fs (m + 1)
  obtain ⟨i, h6, h7⟩ := h.no hm
  refine readF_up hfo (by rw [List.length_drop, rd_len]; omega) (fun j hj => ?_) ?_
  ·rw [rd_drop (by omega)]
   have := h.up ((layJ (fs.take m)).length + j) (by omega)
   rw [shw_frame hf hj] at this
   exact this
  ·have h8 : ¬ i < (layJ (fs.take m)).length := fun hc => h7 (h.got i hc)
   refine ⟨i - (layJ (fs.take m)).length, by omega, ?_⟩
   rw [rd_drop (by omega), show (layJ (fs.take m)).length + (i - (layJ (fs.take m)).length) = i by omega]
   have := shw_frame (j := i - (layJ (fs.take m)).length) hf (by omega)
   rw [show (layJ (fs.take m)).length + (i - (layJ (fs.take m)).length) = i by omega] at this
   rw [← this]
   exact h7
 ·have hml := h.ml
  have hm' : m = fs.length := by omega
  subst hm'
  rw [List.take_length] at *
  refine readF_blank ?_
  by_cases hlt : (layJ fs).length < n
  ·refine Or.inr ?_
   have := rd_drop (W := W) (a := a) (t := (layJ fs).length) (i := 0) (n := n) (by omega)
   rw [this]
   have := h.up (layJ fs).length hlt
   rw [shw_ge (Nat.le_refl _)] at this
   exact this.ones
  ·refine Or.inl ?_
   exact List.drop_eq_nil_of_le (by rw [rd_len]; omega)
end

end Go.Proofs.Ytkoidgjgdhpdnaa.Pure
namespace Go.Proofs.Ytkoidgjgdhpdnaa.Pure
open Go Go.Proofs.Ytkoidgjgdhpdnaa.Va

theorem wrL_up : ∀ (w : List Int) (a : Nat) (s : Fl), s.D = false → Words s.M → Words w → a + w.length ≤ s.W.length → (∀ i, i < w.length → s.W.getD (a + i) 0 = 4294967295) →
  (wrL w a s).2.W.length = s.W.length ∧ (∀ i, ¬(a ≤ i ∧ i < a + w.length) → (wrL w a s).2.W.getD i 0 = s.W.getD i 0) ∧ (∀ i, i < w.length → UpO (w.getD i 0) ((wrL w a s).2.W.getD (a + i) 0)) ∧
  (((wrL w a s).1 = 0 ∧ (wrL w a s).2.D = false ∧ ∀ i, i < w.length → (wrL w a s).2.W.getD (a + i) 0 = w.getD i 0) ∨ ((wrL w a s).1 = 10 ∧ (wrL w a s).2.D = true))
 | [], a, s, hD, hM, hw, hl, h1 => ⟨rfl, fun i _ => rfl, fun i hi => by simp at hi, Or.inl ⟨rfl, hD, fun i hi => by simp at hi⟩⟩
 | x :: w, a, s, hD, hM, hw, hl, h1 => by
  rw [List.length_cons] at hl
  have hx : InR .u32 x := hw x (by simp)
  have hw' : Words w := fun y hy => hw y (by simp [hy])
  have h0 := h1 0 (by simp)
  rw [Nat.add_zero] at h0
  have hlt : a < s.W.length := by omega
  -- what is behind, when the first word stands
  have key : ∀ s1 : Fl, s1.D = false → s1.M = s.M → s1.W.length = s.W.length → s1.W.getD a 0 = x → (∀ i, i ≠ a → s1.W.getD i 0 = s.W.getD i 0) →
    (wrL w (a + 1) s1).2.W.length = s.W.length ∧ (∀ i, ¬(a ≤ i ∧ i < a + (x :: w).length) → (wrL w (a + 1) s1).2.W.getD i 0 = s.W.getD i 0) ∧ (∀ i, i < (x :: w).length → UpO ((x :: w).getD i 0) ((wrL w (a + 1) s1).2.W.getD (a + i) 0)) ∧
    (((wrL w (a + 1) s1).1 = 0 ∧ (wrL w (a + 1) s1).2.D = false ∧ ∀ i, i < (x :: w).length → (wrL w (a + 1) s1).2.W.getD (a + i) 0 = (x :: w).getD i 0) ∨ ((wrL w (a + 1) s1).1 = 10 ∧ (wrL w (a + 1) s1).2.D = true)) := fun s1 d1 m1 l1 g1 g2 => by
   obtain ⟨e1, e2, e3, e4⟩ := wrL_up w (a + 1) s1 d1 (by rw [m1]; exact hM) hw' (by omega) (fun i hi => by
    rw [g2 _ (by omega)]
    have := h1 (i + 1) (by simpa using hi)
    rw [show a + (i + 1) = a + 1 + i by omega] at this
    exact this)
   have ea : (wrL w (a + 1) s1).2.W.getD a 0 = x := by rw [e2 a (by omega), g1]
   refine ⟨by rw [e1, l1], fun i hi => ?_, fun i hi => ?_, ?_⟩
   ·rw [List.length_cons] at hi
    rw [e2 i (by omega), g2 i (by omega)]
   ·cases i with
    | zero =>
     have ea : (wrL w (a + 1) s1).2.W.getD (a + 0) 0 = x := ea
     rw [ea]
     exact UpO.refl hx
    | succ i =>
     have := e3 i (by simpa using hi)
     rw [show a + 1 + i = a + (i + 1) by omega] at this
     exact this
   ·rcases e4 with ⟨q1, q2, q3⟩ | q
    ·refine Or.inl ⟨q1, q2, fun i hi => ?_⟩
     cases i with
     | zero => exact ea
     | succ i =>
      have := q3 i (by simpa using hi)
      rw [show a + 1 + i = a + (i + 1) by omega] at this
      exact this
    ·exact Or.inr q
  unfold wrL
  by_cases hc : s.W.getD a 0 = x
  ·rw [if_pos hc]
   exact key s hD rfl rfl hc (fun i _ => rfl)
  rw [if_neg hc]
  have hand : bAndn .u32 x (s.W.getD a 0) = 0 := by rw [h0]; exact andn_ones hx
  have hp : s.prog (a : Int) x = if s.A = 0 then (10, { s with C := w64 (s.C + 1), D := true, A := -1, W := s.W.set a (bAndn .u32 4294967295 (bAndn .u32 (fz s.M 0) x)) }) else (0, { s with C := w64 (s.C + 1), A := burn s.A, W := s.W.set a x }) := by
   unfold Fl.prog
   rw [hD, if_neg (by simp), if_neg (by omega), Int.toNat_natCast, hand, if_neg (by simp), h0]
  rw [hp]
  by_cases hA : s.A = 0
  ·rw [if_pos hA, if_pos (show (10 : Int) ≠ 0 by decide)]
   refine ⟨by simp only [List.length_set], fun i hi => ?_, fun i hi => ?_, Or.inr ⟨rfl, rfl⟩⟩
   ·rw [List.length_cons] at hi
    simp only
    rw [set_get _ _ hlt, if_neg (by omega)]
   ·simp only
    cases i with
    | zero =>
     have e : (s.W.set a (bAndn .u32 4294967295 (bAndn .u32 (fz s.M 0) x))).getD (a + 0) 0 = bAndn .u32 4294967295 (bAndn .u32 (fz s.M 0) x) := by
      rw [Nat.add_zero a, set_get _ _ hlt, if_pos rfl]
     rw [e]
     exact UpO.torn hx (fz_in hM 0)
    | succ i =>
     rw [set_get _ _ hlt, if_neg (by omega), h1 (i + 1) hi]
     refine UpO.to_ones ?_
     have : i < w.length := by simpa using hi
     exact hw' _ (List.mem_of_getElem? (getD_some 0 this))
  ·rw [if_neg hA, if_neg (by simp)]
   exact key _ hD rfl (by simp only [List.length_set]) (by simp only; rw [set_get _ _ hlt, if_pos rfl]) (fun i hi => by simp only; rw [set_get _ _ hlt, if_neg hi])

def sec (s : Fl) (n k : Nat) : Nat → Int := fun i => s.W.getD (k * n + i) 0
theorem sec_of {W W' : List Int} {n p q : Nat} (h : p ≠ q) (hW : ∀ i, ¬(p * n ≤ i ∧ i < p * n + n) → W'.getD i 0 = W.getD i 0) {x : Nat} (hx : x < n) : W'.getD (q * n + x) 0 = W.getD (q * n + x) 0 := by
 refine hW _ (fun hc => ?_)
 rcases Nat.lt_or_gt_of_ne h with hl | hl
 ·have := Nat.mul_le_mul_right n (show p + 1 ≤ q by omega)
  rw [Nat.add_mul, Nat.one_mul] at this
  omega
 ·have := Nat.mul_le_mul_right n (show q + 1 ≤ p by omega)
  rw [Nat.add_mul, Nat.one_mul] at this
  omega
theorem sec_in {n : Nat} {s : Fl} (hs : FlOK n s) (k i : Nat) : InR .u32 (sec s n k i) := getD_in hs _
theorem clean_up {n : Nat} {s : Fl} (hs : FlOK n s) (hD : s.D = false) {j : Nat} (hj : j < s.V.length) :
  (s.clean n (j : Int)).2.W.length = s.W.length ∧ (∀ i, ¬(j * n ≤ i ∧ i < j * n + n) → (s.clean n (j : Int)).2.W.getD i 0 = s.W.getD i 0) ∧
  (∀ i, i < n → UpO (sec s n j i) (sec (s.clean n (j : Int)).2 n j i)) ∧
  (((s.clean n (j : Int)).1 = 0 ∧ (s.clean n (j : Int)).2.D = false ∧ ∀ i, i < n → sec (s.clean n (j : Int)).2 n j i = 4294967295) ∨ ((s.clean n (j : Int)).1 = 10 ∧ (s.clean n (j : Int)).2.D = true)) := by
 have hjn : j * n + n ≤ s.W.length := by
  rw [hs.ws]
  have := Nat.mul_le_mul_right n (show j + 1 ≤ s.V.length by omega)
  rw [Nat.add_mul, Nat.one_mul] at this
  exact this
 have hf : s.first n (j : Int) 0 ((n : Int) - 0) = (((j * n + 0 : Nat) : Int), 0) := by
  have := first_ok (n := n) hD (j := j) (b := 0) (c := n) hj (by omega)
  rw [show ((n : Int) - 0) = (n : Int) by omega]
  exact this
 have hr : s.dread n (j : Int) 0 ((n : Int) - 0) = (0, rd s.W (j * n) n) := by
  unfold Fl.dread
  rw [hf, if_neg (by simp), Int.toNat_natCast, show ((n : Int) - 0).toNat = n by omega, Nat.add_zero]
 have hb : s.blank n (j : Int) 0 = ((rd s.W (j * n) n).all (· == 4294967295), 0) := by
  unfold Fl.blank
  rw [if_neg (by omega), hr, if_neg (by simp)]
 unfold Fl.clean
 rw [hb]
 simp only
 rw [if_neg (by simp)]
 by_cases hall : (rd s.W (j * n) n).all (· == 4294967295) = true
 ·rw [if_pos hall]
  refine ⟨rfl, fun i _ => rfl, fun i hi => UpO.refl (sec_in hs j i), Or.inl ⟨rfl, hD, fun i hi => ?_⟩⟩
  rw [List.all_eq_true] at hall
  have := hall (s.W.getD (j * n + i) 0) (List.mem_of_getElem? (i := i) (rd_get hi))
  exact of_decide_eq_true this
 ·rw [if_neg hall]
  unfold Fl.erase
  rw [hD, if_neg (by simp), if_neg (by omega), Int.toNat_natCast]
  by_cases hA : s.A = 0
  ·rw [if_pos hA]
   refine ⟨by simp only; exact upd_len hjn, fun i hi => ?_, fun i hi => ?_, Or.inr ⟨rfl, rfl⟩⟩
   ·simp only
    rw [upd_get hjn, if_neg hi]
   ·unfold sec
    simp only
    rw [upd_get hjn, if_pos ⟨by omega, by omega⟩]
    exact UpO.or (getD_in hs _) (fz_in hs.m _)
  ·rw [if_neg hA]
   refine ⟨by simp only; exact upd_len hjn, fun i hi => ?_, fun i hi => ?_, Or.inl ⟨rfl, rfl, fun i hi => ?_⟩⟩
   ·simp only
    rw [upd_get hjn, if_neg hi]
   ·unfold sec
    simp only
    rw [upd_get hjn, if_pos ⟨by omega, by omega⟩]
    exact UpO.to_ones (getD_in hs _)
   ·unfold sec
    simp only
    rw [upd_get hjn, if_pos ⟨by omega, by omega⟩]
theorem dwrite_up {n : Nat} {s : Fl} (hs : FlOK n s) (hD : s.D = false) {j b : Nat} (hj : j < s.V.length) {w : List Int} (hw : Words w) (hl : b + w.length ≤ n) (h1 : ∀ i, i < w.length → sec s n j (b + i) = 4294967295) :
  (s.dwrite n (j : Int) (b : Int) w).2.W.length = s.W.length ∧ (∀ i, ¬(j * n ≤ i ∧ i < j * n + n) → (s.dwrite n (j : Int) (b : Int) w).2.W.getD i 0 = s.W.getD i 0) ∧
  (∀ i, i < n → (b ≤ i ∧ i < b + w.length → UpO (w.getD (i - b) 0) (sec (s.dwrite n (j : Int) (b : Int) w).2 n j i)) ∧ (¬(b ≤ i ∧ i < b + w.length) → sec (s.dwrite n (j : Int) (b : Int) w).2 n j i = sec s n j i)) ∧
  (((s.dwrite n (j : Int) (b : Int) w).1 = 0 ∧ (s.dwrite n (j : Int) (b : Int) w).2.D = false ∧ ∀ i, i < w.length → sec (s.dwrite n (j : Int) (b : Int) w).2 n j (b + i) = w.getD i 0) ∨ ((s.dwrite n (j : Int) (b : Int) w).1 = 10 ∧ (s.dwrite n (j : Int) (b : Int) w).2.D = true)) := by
 have hjn : j * n + n ≤ s.W.length := by
  rw [hs.ws]
  have := Nat.mul_le_mul_right n (show j + 1 ≤ s.V.length by omega)
  rw [Nat.add_mul, Nat.one_mul] at this
  exact this
 have h1' : ∀ i, i < w.length → s.W.getD (j * n + b + i) 0 = 4294967295 := fun i hi => by
  have := h1 i hi
  unfold sec at this
  rw [show j * n + b + i = j * n + (b + i) by omega]
  exact this
 have e := dwrite_arm (n := n) hD hj (b := b) (w := w) hl hjn (fun i hi => by
  rw [h1' i hi]
  exact andn_ones (hw _ (List.mem_of_getElem? (getD_some 0 hi))))
 obtain ⟨e1, e2, e3, e4⟩ := wrL_up w (j * n + b) s hD hs.m hw (by omega) h1'
 rw [e]
 refine ⟨e1, fun i hi => e2 i (by omega), fun i hi => ⟨fun hr => ?_, fun hr => ?_⟩, ?_⟩
 ·have := e3 (i - b) (by omega)
  rw [show j * n + b + (i - b) = j * n + i by omega] at this
  exact this
 ·exact e2 (j * n + i) (by omega)
 ·rcases e4 with ⟨q1, q2, q3⟩ | q
  ·refine Or.inl ⟨q1, q2, fun i hi => ?_⟩
   have := q3 i hi
   rw [show j * n + b + i = j * n + (b + i) by omega] at this
   exact this
  ·exact Or.inr q

structure JIn (n : Nat) (s : Fl) (c : Nat) (t : Bool) (j : JS) : Prop where
 lt : c < 2
 sh : ∃ fs m, Sh n (sec s n c) fs m ∧ 1 ≤ m ∧ j = stJ (fs.take m)
 ot : ∃ fs m, Sh n (sec s n (1 - c)) fs m ∧ (stJ (fs.take m)).seq < j.seq
 t : t = false ↔ ∀ i, j.tail ≤ i → i < n → sec s n c i = 4294967295
theorem JIn.congr {n : Nat} {s s' : Fl} {c : Nat} {t : Bool} {j : JS} (h : JIn n s c t j) (hW : s'.W = s.W) : JIn n s' c t j := by
 have e : ∀ k, sec s' n k = sec s n k := fun k => by unfold sec; rw [hW]
 refine ⟨h.lt, ?_, ?_, ?_⟩
 ·rw [e]; exact h.sh
 ·rw [e]; exact h.ot
 ·rw [e]; exact h.t
noncomputable def tornB (s : Fl) (n c tail : Nat) : Bool := @decide (¬ ∀ i, tail ≤ i → i < n → sec s n c i = 4294967295) (Classical.propDecidable _)
theorem tornB_iff (s : Fl) (n c tail : Nat) : tornB s n c tail = false ↔ ∀ i, tail ≤ i → i < n → sec s n c i = 4294967295 := by
 unfold tornB
 rw [decide_eq_false_iff_not, Classical.not_not]
def sayJ (a b : JS) : Prop := a.seq = b.seq ∧ a.whole = b.whole ∧ a.chg = b.chg
def loadOK (l : List Int) : Prop := 1 ≤ l.length ∧ l.length ≤ 56
instance (l : List Int) : Decidable (loadOK l) := by unfold loadOK; infer_instance
abbrev J5 : Type := Int × (Fl × (Nat × (Bool × JS)))
def Fl.jover (n : Nat) (s : Fl) (c : Nat) (t : Bool) (j : JS) (l : List Int) : J5 :=
 if (s.fresh n ((1 - c : Nat) : Int) (Fm.w ⟨1, j.seq + 1, l⟩)).1 ≠ 0 then ((s.fresh n ((1 - c : Nat) : Int) (Fm.w ⟨1, j.seq + 1, l⟩)).1, (s.fresh n ((1 - c : Nat) : Int) (Fm.w ⟨1, j.seq + 1, l⟩)).2, c, t, j)
 else (0, (s.fresh n ((1 - c : Nat) : Int) (Fm.w ⟨1, j.seq + 1, l⟩)).2, 1 - c, false, ⟨l.length + 3, j.seq + 1, l, []⟩)
def Fl.jput (n : Nat) (life : Int) (s : Fl) (c : Nat) (t : Bool) (j : JS) (kind : Int) (l whole : List Int) : J5 :=
 if ¬(loadOK l ∧ loadOK whole) then (2, s, c, t, j) else if j.seq ≥ life then (13, s, c, t, j) else if t = true ∨ j.tail + (l.length + 3) > n then s.jover n c t j whole
 else if (s.dwrite n (c : Int) (j.tail : Int) (Fm.w ⟨kind, j.seq + 1, l⟩)).1 ≠ 0 then ((s.dwrite n (c : Int) (j.tail : Int) (Fm.w ⟨kind, j.seq + 1, l⟩)).1, (s.dwrite n (c : Int) (j.tail : Int) (Fm.w ⟨kind, j.seq + 1, l⟩)).2, c, t, j)
 else (0, (s.dwrite n (c : Int) (j.tail : Int) (Fm.w ⟨kind, j.seq + 1, l⟩)).2, c, t, j.add ⟨kind, j.seq + 1, l⟩)
def JEnd (n : Nat) (s : Fl) (r : J5) (j full : JS) : Prop :=
 FlOK n r.2.1 ∧ r.2.1.V.length = s.V.length ∧ r.2.1.M = s.M ∧
 ((r.1 ≠ 10 ∧ r.2.1.D = false ∧ JIn n r.2.1 r.2.2.1 r.2.2.2.1 r.2.2.2.2 ∧ r.2.2.2.2 = full) ∨
  (r.1 = 10 ∧ r.2.1.D = true ∧ ∃ c t j', JIn n r.2.1 c t j' ∧ (sayJ j' j ∨ sayJ j' full)))
theorem sayJ.refl (j : JS) : sayJ j j := ⟨rfl, rfl, rfl⟩

section
variable {n : Nat} {s : Fl} (hs : FlOK n s) (hD : s.D = false) (h64 : 59 ≤ n) (hv : 2 ≤ s.V.length) {c : Nat} {t : Bool} {j : JS} (hI : JIn n s c t j) {life : Int} (hlife : life ≤ 1073741823)
include hs hD h64 hv hI
theorem jover_end {l : List Int} (hw : Words l) (hl : loadOK l) (hq : j.seq < 1073741823) : JEnd n s (s.jover n c t j l) j ⟨l.length + 3, j.seq + 1, l, []⟩ := by
 obtain ⟨fs, m, hS, hm, hj⟩ := hI.sh
 obtain ⟨fo, mo, hO, hseq⟩ := hI.ot
 have hc := hI.lt
 have hcne : 1 - c ≠ c := by omega
 have hpos : 1 ≤ j.seq := by rw [hj]; exact seq_pos hS.ok hS.ch hm hS.ml
 obtain ⟨f, hf⟩ : ∃ f : Fm, f = ⟨1, j.seq + 1, l⟩ := ⟨_, rfl⟩
 have fok : f.ok := by
  rw [hf]
  obtain ⟨l1, l2⟩ := hl
  exact ⟨⟨Or.inl rfl, by show 1 ≤ j.seq + 1; omega, by show j.seq + 1 ≤ 1073741823; omega, l1, l2⟩, hw⟩
 have flen : f.w.length = l.length + 3 := by rw [f.len, hf]
 have hll := hl.2
 have hF : s.fresh n ((1 - c : Nat) : Int) f.w = if (s.clean n ((1 - c : Nat) : Int)).1 ≠ 0 then s.clean n ((1 - c : Nat) : Int) else (s.clean n ((1 - c : Nat) : Int)).2.dwrite n ((1 - c : Nat) : Int) 0 f.w := by
  have hfi := first_ok (n := n) hD (j := 1 - c) (b := 0) (c := f.w.length) (by omega) (by omega)
  unfold Fl.fresh
  rw [show s.first n ((1 - c : Nat) : Int) 0 (f.w.length : Int) = _ from hfi, if_neg (fun h => h rfl)]
 have hfok := fresh_ok hs ((1 - c : Nat) : Int) (Fm.words fok)
 obtain ⟨c1, c2, c3, c4⟩ := clean_up hs hD (j := 1 - c) (by omega)
 have cok := clean_ok hs ((1 - c : Nat) : Int)
 have hsecC : ∀ i, i < n → sec (s.clean n ((1 - c : Nat) : Int)).2 n c i = sec s n c i := fun i hi => sec_of hcne c2 hi
 unfold Fl.jover
 rw [← hf]
 rcases c4 with ⟨ce, cD, cb⟩ | ⟨ce, cD⟩
 rotate_left
 ·-- the power went while it was cleaned
  have hcne0 : (s.clean n ((1 - c : Nat) : Int)).1 ≠ 0 := by rw [ce]; decide
  rw [hF.trans (if_pos hcne0), if_pos hcne0]
  refine ⟨cok.1, cok.2.1, cok.2.2, Or.inr ⟨ce, cD, c, t, j, ⟨hc, ?_, ?_, ?_⟩, Or.inl (sayJ.refl j)⟩⟩
  ·refine ⟨fs, m, ⟨hS.ok, hS.ch, hS.le, hS.ml, fun i hi => ?_, fun i hi => ?_, fun hlt => ?_⟩, hm, hj⟩
   ·show UpO (shw fs i) (sec (s.clean n ((1 - c : Nat) : Int)).2 n c i)
    rw [hsecC i hi]
    exact hS.up i hi
   ·show sec (s.clean n ((1 - c : Nat) : Int)).2 n c i = _
    have := layJ_take_all fs m
    have := hS.le
    rw [hsecC i (by omega)]
    exact hS.got i hi
   ·obtain ⟨i, h1, h2⟩ := hS.no hlt
    refine ⟨i, h1, ?_⟩
    have := layJ_take_all fs (m + 1)
    have := hS.le
    show sec (s.clean n ((1 - c : Nat) : Int)).2 n c i ≠ _
    rw [hsecC i (by omega)]
    exact h2
  ·obtain ⟨m', hm', hO'⟩ := hO.raise c3
   refine ⟨fo, m', hO', ?_⟩
   obtain ⟨d, rfl⟩ : ∃ d, mo = m' + d := ⟨mo - m', by omega⟩
   have := seq_mono hO.ok hO.ch (i := m') d hO.ml
   omega
  ·rw [hI.t]
   exact ⟨fun h i h1 h2 => by rw [hsecC i h2]; exact h i h1 h2, fun h i h1 h2 => by rw [← hsecC i h2]; exact h i h1 h2⟩
 ·have hne : ¬((s.clean n ((1 - c : Nat) : Int)).1 ≠ 0) := by rw [ce]; simp
  rw [if_neg hne] at hF
  rw [hF] at hfok ⊢
  generalize (s.clean n ((1 - c : Nat) : Int)).2 = s1 at *
  have cb' : ∀ i, i < n → sec s1 n (1 - c) i = 4294967295 := cb
  obtain ⟨d1, d2, d3, d4⟩ := dwrite_up cok.1 cD (j := 1 - c) (b := 0) (by rw [cok.2.1]; omega) (Fm.words fok) (by omega) (fun i hi => cb' _ (by omega))
  have e0 : ((0 : Nat) : Int) = 0 := rfl
  rw [e0] at d1 d2 d3 d4
  generalize hr : s1.dwrite n ((1 - c : Nat) : Int) 0 f.w = r at *
  have hsecD : ∀ i, i < n → sec r.2 n c i = sec s n c i := fun i hi => by
   rw [← hsecC i hi]
   exact sec_of hcne d2 hi
  obtain ⟨m', hm', hS', hall⟩ := Sh.app (Sh.blank (n := n) (u := sec s1 n (1 - c)) cb') (fun i _ hi => cb' i hi) fok (by rw [hf]; exact ⟨fun _ => rfl, fun h => absurd rfl h⟩) (by simp only [layJ, List.flatMap_nil, List.length_nil]; omega) (u' := sec r.2 n (1 - c)) (fun i hi => by
   have := d3 i hi
   simp only [layJ, List.flatMap_nil, List.length_nil]
   exact this)
  rw [List.nil_append] at hS'
  have hst : stJ [f] = ⟨l.length + 3, j.seq + 1, l, []⟩ := by
   rw [hf]
   unfold stJ
   rw [List.foldl_cons, List.foldl_nil]
   unfold JS.add j0
   rw [if_pos rfl, Nat.zero_add]
  have hold : JIn n r.2 c t j ∨ True := Or.inr trivial
  -- the sector that was in use, as it was
  have hSk : Sh n (sec r.2 n c) fs m := ⟨hS.ok, hS.ch, hS.le, hS.ml, fun i hi => by rw [hsecD i hi]; exact hS.up i hi, fun i hi => by
    have := layJ_take_all fs m
    have := hS.le
    rw [hsecD i (by omega)]
    exact hS.got i hi, fun hlt => by
    obtain ⟨i, h1, h2⟩ := hS.no hlt
    have := layJ_take_all fs (m + 1)
    have := hS.le
    exact ⟨i, h1, by rw [hsecD i (by omega)]; exact h2⟩⟩
  have hnew : m' = 1 → ∃ tt, JIn n r.2 (1 - c) tt ⟨l.length + 3, j.seq + 1, l, []⟩ := fun he => by
   subst he
   refine ⟨tornB r.2 n (1 - c) (l.length + 3), by omega, ⟨[f], 1, hS', Nat.le_refl _, by rw [List.take_of_length_le (by simp), hst]⟩, ⟨fs, m, by rw [show 1 - (1 - c) = c by omega]; exact hSk, by rw [← hj]; show j.seq < j.seq + 1; omega⟩, tornB_iff ..⟩
  rcases d4 with ⟨q1, q2, q3⟩ | ⟨q1, q2⟩
  ·-- it is done
   have hm1 : m' = 1 := by
    have := hall (fun i hi => by
     have := q3 i hi
     simp only [layJ, List.flatMap_nil, List.length_nil]
     exact this)
    simpa using this
   rw [if_neg (by rw [q1]; simp)]
   refine ⟨hfok.1, hfok.2.1, hfok.2.2, Or.inl ⟨by simp, q2, ?_, rfl⟩⟩
   subst hm1
   refine ⟨by show 1 - c < 2; omega, ⟨[f], 1, hS', Nat.le_refl _, by rw [List.take_of_length_le (by simp), hst]⟩, ⟨fs, m, by show Sh n (sec r.2 n (1 - (1 - c))) fs m; rw [show 1 - (1 - c) = c by omega]; exact hSk, by rw [← hj]; show j.seq < j.seq + 1; omega⟩, ?_⟩
   refine ⟨fun _ i h1 h2 => ?_, fun _ => rfl⟩
   have h1 : l.length + 3 ≤ i := h1
   show sec r.2 n (1 - c) i = 4294967295
   rw [(d3 i h2).2 (by omega)]
   exact cb' i h2
  ·-- the power went
   rw [if_pos (by rw [q1]; decide)]
   refine ⟨hfok.1, hfok.2.1, hfok.2.2, Or.inr ⟨q1, q2, ?_⟩⟩
   rcases hm' with hm0 | hm1
   ·refine ⟨c, t, j, ⟨hc, ⟨fs, m, hSk, hm, hj⟩, ⟨[f], m', hS', ?_⟩, ?_⟩, Or.inl (sayJ.refl j)⟩
    ·rw [hm0]
     show (0 : Int) < j.seq
     omega
    ·rw [hI.t]
     exact ⟨fun h i h1 h2 => by show sec r.2 n c i = _; rw [hsecD i h2]; exact h i h1 h2, fun h i h1 h2 => by rw [← hsecD i h2]; exact h i h1 h2⟩
   ·obtain ⟨tt, h⟩ := hnew (by simpa using hm1)
    exact ⟨1 - c, tt, _, h, Or.inr (sayJ.refl _)⟩
include hlife
theorem jput_end {kind : Int} (hk : kind = 1 ∨ kind = 2) {l whole : List Int} (hw : Words l) (hw2 : Words whole) : JEnd n s (s.jput n life c t j kind l whole) j
  (if ¬(loadOK l ∧ loadOK whole) ∨ j.seq ≥ life then j else if t = true ∨ j.tail + (l.length + 3) > n then ⟨whole.length + 3, j.seq + 1, whole, []⟩ else j.add ⟨kind, j.seq + 1, l⟩) := by
 unfold Fl.jput
 by_cases h1 : loadOK l ∧ loadOK whole
 rotate_left
 ·rw [if_pos h1, if_pos (Or.inl h1)]
  exact ⟨hs, rfl, rfl, Or.inl ⟨by show (2 : Int) ≠ 10; decide, hD, hI, rfl⟩⟩
 rw [if_neg (fun h => h h1)]
 by_cases h2 : j.seq ≥ life
 ·rw [if_pos h2, if_pos (Or.inr h2)]
  exact ⟨hs, rfl, rfl, Or.inl ⟨by show (13 : Int) ≠ 10; decide, hD, hI, rfl⟩⟩
 rw [if_neg h2, if_neg (show ¬(¬(loadOK l ∧ loadOK whole) ∨ j.seq ≥ life) from fun h => h.elim (fun h => h h1) h2)]
 by_cases h3 : t = true ∨ j.tail + (l.length + 3) > n
 ·rw [if_pos h3, if_pos h3]
  exact jover_end hs hD h64 hv hI hw2 h1.2 (by omega)
 rw [if_neg h3, if_neg h3]
 have ht : t = false := by
  cases t with
  | false => rfl
  | true => exact absurd (Or.inl rfl) h3
 have hfit : j.tail + (l.length + 3) ≤ n := by omega
 have hblank := hI.t.1 ht
 obtain ⟨fs, m, hS, hm, hj⟩ := hI.sh
 obtain ⟨fo, mo, hO, hseq⟩ := hI.ot
 have hc := hI.lt
 have hpos : 1 ≤ j.seq := by rw [hj]; exact seq_pos hS.ok hS.ch hm hS.ml
 obtain ⟨f, hf⟩ : ∃ f : Fm, f = ⟨kind, j.seq + 1, l⟩ := ⟨_, rfl⟩
 have fok : f.ok := by
  rw [hf]
  exact ⟨⟨hk, by show 1 ≤ j.seq + 1; omega, by show j.seq + 1 ≤ 1073741823; omega, h1.1.1, h1.1.2⟩, hw⟩
 have flen : f.w.length = l.length + 3 := by rw [f.len, hf]
 have htl : j.tail = (layJ (fs.take m)).length := by rw [hj, stJ_tail]
 have hS1 := hS.fit (fun i h4 h5 => hblank i (by omega) h5)
 have hml : (fs.take m).length = m := by rw [List.length_take]; have := hS.ml; omega
 generalize fs.take m = gs at *
 rw [← hml] at hS1
 rw [← hf]
 have hwo := dwrite_ok hs (c : Int) (j.tail : Int) (Fm.words fok)
 obtain ⟨d1, d2, d3, d4⟩ := dwrite_up hs hD (j := c) (b := j.tail) (by omega) (Fm.words fok) (by omega) (fun i hi => hblank _ (by omega) (by omega))
 generalize hr : s.dwrite n (c : Int) (j.tail : Int) f.w = r at *
 have hsecO : ∀ i, i < n → sec r.2 n (1 - c) i = sec s n (1 - c) i := fun i hi => sec_of (show c ≠ 1 - c by omega) d2 hi
 have hOk : Sh n (sec r.2 n (1 - c)) fo mo := ⟨hO.ok, hO.ch, hO.le, hO.ml, fun i hi => by rw [hsecO i hi]; exact hO.up i hi, fun i hi => by
   have := layJ_take_all fo mo
   have := hO.le
   rw [hsecO i (by omega)]
   exact hO.got i hi, fun hlt => by
   obtain ⟨i, h1, h2⟩ := hO.no hlt
   have := layJ_take_all fo (mo + 1)
   have := hO.le
   exact ⟨i, h1, by rw [hsecO i (by omega)]; exact h2⟩⟩
 have hgo : (stJ gs).goes f := by
  rw [← hj, hf]
  exact ⟨fun h => by omega, fun _ => rfl⟩
 obtain ⟨m', hm', hS', hall⟩ := Sh.app hS1 (fun i h4 h5 => hblank i (by omega) h5) fok hgo (by omega) (u' := sec r.2 n c) (fun i hi => by
  have := d3 i hi
  rw [htl] at this
  exact this)
 have hadd : stJ (gs ++ [f]) = j.add f := by rw [stJ_snoc, ← hj]
 have hnew : m' = gs.length + 1 → ∃ tt, JIn n r.2 c tt (j.add f) := fun he =>
  ⟨tornB r.2 n c (j.add f).tail, hc, ⟨gs ++ [f], m', hS', by omega, by rw [List.take_of_length_le (by rw [List.length_append, List.length_singleton]; omega), hadd]⟩, ⟨fo, mo, hOk, by rw [add_seq, hf]; show _ < j.seq + 1; omega⟩, tornB_iff ..⟩
 rcases d4 with ⟨q1, q2, q3⟩ | ⟨q1, q2⟩
 ·have hm1 : m' = gs.length + 1 := hall (fun i hi => by
   have := q3 i hi
   rw [htl] at this
   exact this)
  rw [if_neg (by rw [q1]; simp)]
  refine ⟨hwo.1, by rw [hwo.2.1], hwo.2.2, Or.inl ⟨by show (0 : Int) ≠ 10; decide, q2, ?_, rfl⟩⟩
  refine ⟨hc, ⟨gs ++ [f], m', hS', by omega, by rw [List.take_of_length_le (by rw [List.length_append, List.length_singleton]; omega), hadd]⟩, ⟨fo, mo, hOk, by rw [add_seq, hf]; show _ < j.seq + 1; omega⟩, ?_⟩
  refine ⟨fun _ i h4 h5 => ?_, fun _ => ht⟩
  have h4 : (j.add f).tail ≤ i := h4
  rw [add_tail, hf] at h4
  have h4 : j.tail + (l.length + 3) ≤ i := h4
  show sec r.2 n c i = 4294967295
  rw [(d3 i h5).2 (by omega)]
  exact hblank i (by omega) h5
 ·rw [if_pos (by rw [q1]; decide)]
  refine ⟨hwo.1, by rw [hwo.2.1], hwo.2.2, Or.inr ⟨q1, q2, ?_⟩⟩
  rcases hm' with hm0 | hm1
  ·refine ⟨c, tornB r.2 n c j.tail, j, ⟨hc, ⟨gs ++ [f], m', hS', by omega, by rw [hm0, List.take_append_of_le_length (by omega), List.take_length]; exact hj⟩, ⟨fo, mo, hOk, hseq⟩, tornB_iff ..⟩, Or.inl (sayJ.refl j)⟩
  ·obtain ⟨tt, h⟩ := hnew hm1
   exact ⟨c, tt, _, h, Or.inr (sayJ.refl _)⟩
end

theorem jover_Lit {n : Nat} {s : Fl} (h : Lit s) (c : Nat) (t : Bool) (j : JS) (l : List Int) : Lit (s.jover n c t j l).2.1 := by
 unfold Fl.jover
 split <;> exact fresh_Lit h _ _
theorem jput_Lit {n : Nat} {s : Fl} (h : Lit s) (life : Int) (c : Nat) (t : Bool) (j : JS) (kind : Int) (l whole : List Int) : Lit (s.jput n life c t j kind l whole).2.1 := by
 unfold Fl.jput
 repeat' split
 ·exact h
 ·exact h
 ·exact jover_Lit h ..
 ·exact dwrite_Lit h _ _ _
 ·exact dwrite_Lit h _ _ _
theorem Nr.fresh {n : Nat} {s t : Fl} (h : Nr s t) (k : Int) (w : List Int) : (t.fresh n k w).1 = (s.fresh n k w).1 ∧ Nr (s.fresh n k w).2 (t.fresh n k w).2 := by
 rcases h with rfl | ⟨hA, M, rfl⟩
 ·exact ⟨rfl, Or.inl rfl⟩
 ·obtain ⟨e1, e2⟩ := fresh_setM (s := s) M n hA k w
  rw [e1]
  exact ⟨rfl, Or.inr ⟨e2, M, rfl⟩⟩
theorem Nr.dwrite {n : Nat} {s t : Fl} (h : Nr s t) (k a : Int) (w : List Int) : (t.dwrite n k a w).1 = (s.dwrite n k a w).1 ∧ Nr (s.dwrite n k a w).2 (t.dwrite n k a w).2 := by
 rcases h with rfl | ⟨hA, M, rfl⟩
 ·exact ⟨rfl, Or.inl rfl⟩
 ·obtain ⟨e1, e2⟩ := dwrite_setM (s := s) M n hA k a w
  rw [e1]
  exact ⟨rfl, Or.inr ⟨e2, M, rfl⟩⟩
theorem Nr.jover {n : Nat} {s u : Fl} (h : Nr s u) (c : Nat) (t : Bool) (j : JS) (l : List Int) : (u.jover n c t j l).1 = (s.jover n c t j l).1 ∧ (u.jover n c t j l).2.2 = (s.jover n c t j l).2.2 ∧ Nr (s.jover n c t j l).2.1 (u.jover n c t j l).2.1 := by
 unfold Fl.jover
 obtain ⟨e1, e2⟩ := h.fresh (n := n) ((1 - c : Nat) : Int) (Fm.w ⟨1, j.seq + 1, l⟩)
 rw [e1]
 split
 ·exact ⟨rfl, rfl, e2⟩
 ·exact ⟨rfl, rfl, e2⟩
theorem Nr.jput {n : Nat} {s u : Fl} (h : Nr s u) (life : Int) (c : Nat) (t : Bool) (j : JS) (kind : Int) (l whole : List Int) : (u.jput n life c t j kind l whole).1 = (s.jput n life c t j kind l whole).1 ∧ (u.jput n life c t j kind l whole).2.2 = (s.jput n life c t j kind l whole).2.2 ∧ Nr (s.jput n life c t j kind l whole).2.1 (u.jput n life c t j kind l whole).2.1 := by
 unfold Fl.jput
 obtain ⟨e1, e2⟩ := h.dwrite (n := n) (c : Int) (j.tail : Int) (Fm.w ⟨kind, j.seq + 1, l⟩)
 rw [e1]
 repeat' split
 ·exact ⟨rfl, rfl, h⟩
 ·exact ⟨rfl, rfl, h⟩
 ·exact h.jover ..
 ·exact ⟨rfl, rfl, e2⟩
 ·exact ⟨rfl, rfl, e2⟩
end Go.Proofs.Ytkoidgjgdhpdnaa.Pure
namespace Go.Proofs.Ytkoidgjgdhpdnaa.Pure
open Go Go.Proofs.Ytkoidgjgdhpdnaa.Va

structure JB (n : Nat) (j : JS) : Prop where
 tail : j.tail ≤ n
 s0 : 0 ≤ j.seq
 s1 : j.seq ≤ 1073741823
 whole : j.whole.length ≤ 56
 chg : j.chg.length ≤ 1024
 each : ∀ l ∈ j.chg, l.length ≤ 56
abbrev J12 : Type := Int × (Int × (Int × (Bool × (Int × (List Int × (Int × (Bool × (Int × (List Int × (List Int × List (List Int)))))))))))
def outJ (r : J5) : J12 := (r.1, (r.2.2.1 : Int), (r.2.2.2.2.tail : Int), r.2.2.2.1, r.2.2.2.2.seq, r.2.2.2.2.whole, r.2.1.C, r.2.1.D, r.2.1.A, r.2.1.W, r.2.1.V, r.2.2.2.2.chg)
theorem may_eq {ls : List (List Int)} (hl : ls.length ≤ 5) (h : ∀ l ∈ ls, l.length ≤ 1000) : journal_may.c ls = some (ls.all fun l => decide (loadOK l)) := by
 have hL : journal_may.L2 ls (ls.length : Int) 0 = some (if (List.range ls.length).any (fun i => !decide (loadOK (ls.getD i []))) then .inr false else .inl ()) := by
  unfold journal_may.L2
  refine Lp_any _ ls.length _ false (fun i hi => ?_) ?_
  ·have hg : ls[i]? = some (ls.getD i []) := getD_some [] hi
   have hb := h _ (List.mem_of_getElem? hg)
   simp only [journal_may.l2]
   rw [bb_pos (decide_eq_true (by omega)), dd_pos (by omega), Int.toNat_natCast, opt_some hg, opt_some (frame_Size_eq _ (inR_i64 (by omega)))]
   by_cases hk : loadOK (ls.getD i [])
   ·have hk' := hk
    unfold loadOK at hk'
    rw [if_neg (by omega), bb_neg (beq_eq_false_iff_ne.2 (by omega)), Tw.run_ret, decide_eq_true hk, w64_of (by omega) (by omega)]
    rfl
   ·have hk' := hk
    unfold loadOK at hk'
    rw [if_pos (by omega), bb_pos (by rfl), Tw.run_ret, decide_eq_false hk]
    rfl
  ·simp only [journal_may.l2]
   rw [bb_neg (decide_eq_false (by omega)), Tw.run_ret]
 have e : (List.range ls.length).any (fun i => !decide (loadOK (ls.getD i []))) = !(ls.all fun l => decide (loadOK l)) := by
  rw [Bool.eq_iff_iff, List.any_eq_true, Bool.not_eq_true', List.all_eq_false]
  constructor
  ·rintro ⟨i, hi, hx⟩
   exact ⟨ls.getD i [], List.mem_of_getElem? (getD_some [] (List.mem_range.1 hi)), by simpa using hx⟩
  ·rintro ⟨l, hl, hx⟩
   obtain ⟨i, hi⟩ := List.mem_iff_getElem?.1 hl
   have hlt := (List.getElem?_eq_some_iff.1 hi).1
   refine ⟨i, List.mem_range.2 hlt, ?_⟩
   have : ls.getD i [] = l := by rw [List.getD_eq_getElem?_getD, hi]; rfl
   rw [this]
   simpa using hx
 rw [e] at hL
 simp only [journal_may.c, journal_may.t]
 rw [opt_some hL]
 cases ls.all fun l => decide (loadOK l)
 ·exact Tw.run_ret _
 ·exact Tw.run_ret _
theorem may1_eq {l : List Int} (h : l.length ≤ 1000) : journal_may.c [l] = some (decide (loadOK l)) :=
 (may_eq (by simp) (fun x hx => by rw [List.mem_singleton.1 hx]; exact h)).trans (by simp)
theorem may2_eq {l m : List Int} (h : l.length ≤ 1000) (h' : m.length ≤ 1000) : journal_may.c [l, m] = some (decide (loadOK l ∧ loadOK m)) :=
 (may_eq (by simp) (fun x hx => by
  rcases List.mem_cons.1 hx with rfl | hx
  ·exact h
  ·rw [List.mem_singleton.1 hx]; exact h')).trans (by
  by_cases h1 : loadOK l <;> by_cases h2 : loadOK m <;> simp [h1, h2])
theorem load_eq {l : List Int} : ref11_load.c l = some (decide (loadOK l)) := by
 simp only [ref11_load.c, ref11_load.t]
 by_cases h : (l.length : Int) ≥ 1
 ·rw [bb_pos (decide_eq_true h), Tw.run_ret]
  congr 1
  rw [decide_eq_decide]
  unfold loadOK
  omega
 ·rw [bb_neg (decide_eq_false h), Tw.run_ret, decide_eq_false (by unfold loadOK; omega)]

section
variable {n : Nat} {g1 g2 g3 g4 g5 : Int} (hr : GeoR (n : Int) g1 g2 g3 g4 g5) (ok : GeoOK (n : Int) g1 g2 g3 g4 g5) {s : Fl} (hs : FlOK n s) (hv : (s.V.length : Int) = 2 + 2 * g1 + g2)
 {c : Nat} (hc : c < 2) {t : Bool} {j : JS} (hb : JB n j)
omit hr ok hs hv hc in
theorem said_eq {f : Fm} (hf : f.ok) (hb : JB n j) (tl : Nat) (htl : tl ≤ 2000) (se : Int) (h0_1 : Int) (h0_3 : Bool) (C : Int) (D : Bool) (A : Int) (W V M : List Int) (m : Int) :
  journal_Journal_said_v2.c f.k f.s f.l (f.w.length : Int) h0_1 (tl : Int) h0_3 se j.whole (n : Int) g1 g2 g3 g4 g5 m C D A W V M j.chg =
   some (((tl + (f.l.length + 3) : Nat) : Int), (j.add f).whole, (j.add f).chg) := by
 have o := Fm.one hf
 have e : w64 ((tl : Int) + (f.w.length : Int)) = ((tl + (f.l.length + 3) : Nat) : Int) := by rw [f.len, w64_of (by omega) (by omega)]; omega
 have hcl := hb.chg
 simp only [journal_Journal_said_v2.c, journal_Journal_said_v2.t]
 unfold JS.add
 by_cases hk : f.k = 1
 ·rw [bb_pos (by rw [hk]; rfl), Tw.run_ret, if_pos hk, e]
 ·rw [bb_neg (beq_eq_false_iff_ne.2 hk), dd_pos (by simp only [List.length_cons, List.length_nil]; omega), Tw.run_ret, if_neg hk, e]
omit hr ok hs hv hc in
theorem add_eq {f : Fm} (hf : f.ok) (hb : JB n j) (tl : Nat) (htl : tl ≤ 2000) (se : Int) (h0_1 : Int) (h0_3 : Bool) (C : Int) (D : Bool) (A : Int) (W V M : List Int) (m : Int) :
  ref11_Journal_add_v2.c f.k f.s f.l (f.w.length : Int) h0_1 (tl : Int) h0_3 se j.whole (n : Int) g1 g2 g3 g4 g5 m C D A W V M j.chg =
   some (((tl + (f.l.length + 3) : Nat) : Int), (j.add f).whole, (j.add f).chg) := by
 have o := Fm.one hf
 have e : w64 ((tl : Int) + (f.w.length : Int)) = ((tl + (f.l.length + 3) : Nat) : Int) := by rw [f.len, w64_of (by omega) (by omega)]; omega
 have hcl := hb.chg
 simp only [ref11_Journal_add_v2.c, ref11_Journal_add_v2.t]
 unfold JS.add
 by_cases hk : f.k = 1
 ·rw [bb_pos (by rw [hk]; rfl), Tw.run_ret, if_pos hk, e]
 ·rw [bb_neg (beq_eq_false_iff_ne.2 hk), dd_pos (by omega), dd_pos (by simp only [List.length_cons, List.length_nil]; omega), Tw.run_ret, if_neg hk, e]
include hr ok hs hv hc hb
theorem over_eq {l : List Int} (hw : Words l) (hl : loadOK l) (hq : j.seq < 1073741823) :
  journal_Journal_over_v2.c l (j.seq + 1) (c : Int) (j.tail : Int) t j.seq j.whole (n : Int) g1 g2 g3 g4 g5 (n : Int) s.C s.D s.A s.W s.V s.M j.chg = some (outJ (s.jover n c t j l)) := by
 have ok' := ok
 unfold GeoOK at ok'
 have rb := reach_eq
 obtain ⟨l1, l2⟩ := hl
 have hs0 := hb.s0
 have fok : Fm.ok ⟨1, j.seq + 1, l⟩ := ⟨⟨Or.inl rfl, by show 1 ≤ j.seq + 1; omega, by show j.seq + 1 ≤ 1073741823; omega, l1, l2⟩, hw⟩
 have e1 : w64 (1 - (c : Int)) = ((1 - c : Nat) : Int) := by rw [w64_of (by omega) (by omega)]; omega
 have hF : drive_Drive_Fresh.c ((1 - c : Nat) : Int) (sealW (fraL 1 (j.seq + 1) l)) (n : Int) g1 g2 g3 g4 g5 (n : Int) s.C s.D s.A s.W s.V s.M = some ((s.fresh n ((1 - c : Nat) : Int) (Fm.w ⟨1, j.seq + 1, l⟩)).1, s5 (s.fresh n ((1 - c : Nat) : Int) (Fm.w ⟨1, j.seq + 1, l⟩)).2) := drive_Fresh_eq hr ok hs hv (Fm.words fok)
 have hfr : frP 1 (j.seq + 1) l.length := fok.1
 simp only [journal_Journal_over_v2.c, journal_Journal_over_v2.t]
 rw [opt_some (clone32_eq (by omega)), opt_some (frame_Lay_eq 1 (j.seq + 1) hw (by rw [rb]; omega)), if_pos hfr, bb_neg (by rfl), e1, opt_some hF]
 unfold Fl.jover
 generalize s.fresh n ((1 - c : Nat) : Int) (Fm.w ⟨1, j.seq + 1, l⟩) = r
 by_cases he : r.1 = 0
 ·rw [bb_neg (by rw [he]; rfl), if_neg (by rw [he]; simp), opt_some (x := (((0 + (l.length + 3) : Nat) : Int), (j.add ⟨1, j.seq + 1, l⟩).whole, (j.add ⟨1, j.seq + 1, l⟩).chg)) (by exact said_eq (f := ⟨1, j.seq + 1, l⟩) fok hb 0 (by omega) ..), Tw.run_ret]
  simp only [outJ, JS.add, if_true, Nat.zero_add]
  rfl
 ·rw [bb_pos (by rw [bne_iff_ne]; exact he), if_pos he, Tw.run_ret]
  rfl
theorem turn_eq {l : List Int} (hw : Words l) (hl : loadOK l) (hq : j.seq < 1073741823) :
  ref11_Journal_turn_v2.c l (j.seq + 1) (c : Int) (j.tail : Int) t j.seq j.whole (n : Int) g1 g2 g3 g4 g5 (n : Int) s.C s.D s.A s.W s.V s.M j.chg = some (outJ (s.jover n c t j l)) := by
 have ok' := ok
 unfold GeoOK at ok'
 have rb := reach_eq
 obtain ⟨l1, l2⟩ := hl
 have hs0 := hb.s0
 have fok : Fm.ok ⟨1, j.seq + 1, l⟩ := ⟨⟨Or.inl rfl, by show 1 ≤ j.seq + 1; omega, by show j.seq + 1 ≤ 1073741823; omega, l1, l2⟩, hw⟩
 have e1 : w64 (1 - (c : Int)) = ((1 - c : Nat) : Int) := by rw [w64_of (by omega) (by omega)]; omega
 have hF : ref09_Drive_Fresh.c ((1 - c : Nat) : Int) (sealW (fraL 1 (j.seq + 1) l)) (n : Int) g1 g2 g3 g4 g5 (n : Int) s.C s.D s.A s.W s.V s.M = some ((s.fresh n ((1 - c : Nat) : Int) (Fm.w ⟨1, j.seq + 1, l⟩)).1, s5 (s.fresh n ((1 - c : Nat) : Int) (Fm.w ⟨1, j.seq + 1, l⟩)).2) := ref09_Fresh_eq hr ok hs hv (Fm.words fok)
 have hfr : frP 1 (j.seq + 1) l.length := fok.1
 simp only [ref11_Journal_turn_v2.c, ref11_Journal_turn_v2.t]
 rw [dd_pos (by omega), opt_some (ref10_Lay_eq hfr hw), e1, opt_some hF]
 unfold Fl.jover
 generalize s.fresh n ((1 - c : Nat) : Int) (Fm.w ⟨1, j.seq + 1, l⟩) = r
 by_cases he : r.1 = 0
 ·rw [bb_neg (by rw [he]; rfl), if_neg (by rw [he]; simp), opt_some (x := (((0 + (l.length + 3) : Nat) : Int), (j.add ⟨1, j.seq + 1, l⟩).whole, (j.add ⟨1, j.seq + 1, l⟩).chg)) (by exact add_eq (f := ⟨1, j.seq + 1, l⟩) fok hb 0 (by omega) ..), Tw.run_ret]
  simp only [outJ, JS.add, if_true, Nat.zero_add]
  rfl
 ·rw [bb_pos (by rw [bne_iff_ne]; exact he), if_pos he, Tw.run_ret]
  rfl
theorem put_eq {kind : Int} (hk : kind = 1 ∨ kind = 2) {l whole : List Int} (hw : Words l) (hw2 : Words whole) (hl : l.length ≤ 1000) (hl2 : whole.length ≤ 1000) :
  journal_Journal_put.c kind l whole (c : Int) (j.tail : Int) t j.seq j.whole (n : Int) g1 g2 g3 g4 g5 (n : Int) s.C s.D s.A s.W s.V s.M j.chg = some (outJ (s.jput n g5 c t j kind l whole)) := by
 have ok' := ok
 unfold GeoOK at ok'
 have rb := reach_eq
 have hs0 := hb.s0
 have hs1 := hb.s1
 have htl := hb.tail
 simp only [journal_Journal_put.c, journal_Journal_put.t]
 rw [opt_some (may2_eq hl hl2)]
 unfold Fl.jput
 by_cases h1 : loadOK l ∧ loadOK whole
 rotate_left
 ·rw [decide_eq_false h1, bb_pos (by rfl), Tw.run_ret, if_pos h1]
  rfl
 have hl1 := h1.1
 unfold loadOK at hl1
 rw [decide_eq_true h1, bb_neg (by rfl), if_neg (fun h => h h1), opt_some (x := ()) (by rfl)]
 by_cases h2 : j.seq ≥ g5
 ·rw [bb_pos (decide_eq_true h2), Tw.run_ret, if_pos h2]
  rfl
 have e2 : w64 (j.seq + 1) = j.seq + 1 := w64_of (by omega) (by omega)
 have hO := over_eq hr ok hs hv hc (t := t) hb hw2 h1.2 (by omega)
 rw [bb_neg (decide_eq_false h2), if_neg h2, e2]
 cases t with
 | true =>
  rw [bb_pos (by rfl), opt_some hO, Tw.run_ret, if_pos (Or.inl rfl)]
 | false =>
 rw [bb_neg (by rfl), opt_some (frame_Size_eq _ (inR_i64 (by omega))), if_neg (by omega), opt_some (x := ()) (by rfl), w64_of (n := (j.tail : Int) + ((l.length : Int) + 3)) (by omega) (by omega)]
 by_cases h3 : j.tail + (l.length + 3) > n
 ·rw [bb_pos (decide_eq_true (by omega)), opt_some hO, Tw.run_ret, if_pos (Or.inr h3)]
 have fok : Fm.ok ⟨kind, j.seq + 1, l⟩ := ⟨⟨hk, by show 1 ≤ j.seq + 1; omega, by show j.seq + 1 ≤ 1073741823; omega, hl1.1, hl1.2⟩, hw⟩
 have hfr : frP kind (j.seq + 1) l.length := fok.1
 have hF : drive_Drive_Write.c (c : Int) (j.tail : Int) (sealW (fraL kind (j.seq + 1) l)) (n : Int) g1 g2 g3 g4 g5 (n : Int) s.C s.D s.A s.W s.V s.M = some ((s.dwrite n (c : Int) (j.tail : Int) (Fm.w ⟨kind, j.seq + 1, l⟩)).1, s4 (s.dwrite n (c : Int) (j.tail : Int) (Fm.w ⟨kind, j.seq + 1, l⟩)).2) := drive_Write_eq hr ok hs hv (inR_i64 (by omega)) (Fm.words fok)
 rw [bb_neg (decide_eq_false (by omega)), if_neg (by simpa using h3), opt_some (clone32_eq (by omega)), opt_some (frame_Lay_eq kind (j.seq + 1) hw (by rw [rb]; omega)), if_pos hfr, bb_neg (by rfl), opt_some hF]
 have hV := (dwrite_ok hs (c : Int) (j.tail : Int) (Fm.words fok)).2.1
 generalize s.dwrite n (c : Int) (j.tail : Int) (Fm.w ⟨kind, j.seq + 1, l⟩) = r at *
 by_cases he : r.1 = 0
 ·rw [bb_neg (by rw [he]; rfl), if_neg (by rw [he]; simp), opt_some (x := (((j.tail + (l.length + 3) : Nat) : Int), (j.add ⟨kind, j.seq + 1, l⟩).whole, (j.add ⟨kind, j.seq + 1, l⟩).chg)) (by exact said_eq (f := ⟨kind, j.seq + 1, l⟩) fok hb j.tail (by omega) ..), Tw.run_ret]
  simp only [outJ, add_tail, add_seq, s4, hV]
 ·rw [bb_pos (by rw [bne_iff_ne]; exact he), if_pos he, Tw.run_ret]
  simp only [outJ, s4, hV]
theorem rput_eq {kind : Int} (hk : kind = 1 ∨ kind = 2) {l whole : List Int} (hw : Words l) (hw2 : Words whole) (hl : l.length ≤ 1000) (hl2 : whole.length ≤ 1000) :
  ref11_Journal_Put.c kind l whole (c : Int) (j.tail : Int) t j.seq j.whole (n : Int) g1 g2 g3 g4 g5 (n : Int) s.C s.D s.A s.W s.V s.M j.chg = some (outJ (s.jput n g5 c t j kind l whole)) := by
 have ok' := ok
 unfold GeoOK at ok'
 have rb := reach_eq
 have hs0 := hb.s0
 have hs1 := hb.s1
 have htl := hb.tail
 simp only [ref11_Journal_Put.c, ref11_Journal_Put.t]
 rw [opt_some load_eq]
 unfold Fl.jput
 by_cases h0 : loadOK l
 rotate_left
 ·rw [decide_eq_false h0, bb_pos (by rfl), Tw.run_ret, if_pos (fun h => h0 h.1)]
  rfl
 rw [decide_eq_true h0, bb_neg (by rfl), opt_some load_eq]
 by_cases h0' : loadOK whole
 rotate_left
 ·rw [decide_eq_false h0', bb_pos (by rfl), Tw.run_ret, if_pos (fun h => h0' h.2)]
  rfl
 have hl1 := h0
 unfold loadOK at hl1
 rw [decide_eq_true h0', bb_neg (by rfl), if_neg (fun h => h ⟨h0, h0'⟩)]
 by_cases h2 : j.seq ≥ g5
 ·rw [bb_pos (decide_eq_true h2), Tw.run_ret, if_pos h2]
  rfl
 have e2 : w64 (j.seq + 1) = j.seq + 1 := w64_of (by omega) (by omega)
 have hO := turn_eq hr ok hs hv hc (t := t) hb hw2 h0' (by omega)
 have fok : Fm.ok ⟨kind, j.seq + 1, l⟩ := ⟨⟨hk, by show 1 ≤ j.seq + 1; omega, by show j.seq + 1 ≤ 1073741823; omega, hl1.1, hl1.2⟩, hw⟩
 have hfr : frP kind (j.seq + 1) l.length := fok.1
 rw [bb_neg (decide_eq_false h2), if_neg h2, dd_pos (by omega), e2, opt_some (ref10_Lay_eq hfr hw)]
 cases t with
 | true =>
  rw [bb_pos (by rfl), opt_some hO, Tw.run_ret, if_pos (Or.inl rfl)]
 | false =>
 have el : (sealW (fraL kind (j.seq + 1) l)).length = l.length + 3 := (Fm.len ⟨kind, j.seq + 1, l⟩)
 rw [bb_neg (by rfl), el, w64_of (n := (j.tail : Int) + ((l.length + 3 : Nat) : Int)) (by omega) (by omega)]
 by_cases h3 : j.tail + (l.length + 3) > n
 ·rw [bb_pos (decide_eq_true (by omega)), opt_some hO, Tw.run_ret, if_pos (Or.inr h3)]
 have hF : ref09_Drive_Write.c (c : Int) (j.tail : Int) (sealW (fraL kind (j.seq + 1) l)) (n : Int) g1 g2 g3 g4 g5 (n : Int) s.C s.D s.A s.W s.V s.M = some ((s.dwrite n (c : Int) (j.tail : Int) (Fm.w ⟨kind, j.seq + 1, l⟩)).1, s4 (s.dwrite n (c : Int) (j.tail : Int) (Fm.w ⟨kind, j.seq + 1, l⟩)).2) := ref09_Write_eq hr ok hs hv (inR_i64 (by omega)) (Fm.words fok)
 rw [bb_neg (decide_eq_false (by omega)), if_neg (by simpa using h3), opt_some hF]
 have hV := (dwrite_ok hs (c : Int) (j.tail : Int) (Fm.words fok)).2.1
 generalize s.dwrite n (c : Int) (j.tail : Int) (Fm.w ⟨kind, j.seq + 1, l⟩) = r at *
 by_cases he : r.1 = 0
 ·have hA := add_eq (n := n) (g1 := g1) (g2 := g2) (g3 := g3) (g4 := g4) (g5 := g5) (f := ⟨kind, j.seq + 1, l⟩) fok hb j.tail (by omega) j.seq (c : Int) false r.2.C r.2.D r.2.A r.2.W s.V s.M (n : Int)
  rw [show (Fm.w ⟨kind, j.seq + 1, l⟩).length = l.length + 3 from el] at hA
  rw [bb_neg (by rw [he]; rfl), if_neg (by rw [he]; simp), opt_some (x := (((j.tail + (l.length + 3) : Nat) : Int), (j.add ⟨kind, j.seq + 1, l⟩).whole, (j.add ⟨kind, j.seq + 1, l⟩).chg)) (by exact hA), Tw.run_ret]
  simp only [outJ, add_tail, add_seq, s4, hV]
 ·rw [bb_pos (by rw [bne_iff_ne]; exact he), if_pos he, Tw.run_ret]
  simp only [outJ, s4, hV]
theorem change_eq {l whole : List Int} (hw : Words l) (hw2 : Words whole) (hl : l.length ≤ 1000) (hl2 : whole.length ≤ 1000) :
  journal_Journal_Change.c l whole (c : Int) (j.tail : Int) t j.seq j.whole (n : Int) g1 g2 g3 g4 g5 (n : Int) s.C s.D s.A s.W s.V s.M j.chg = some (outJ (s.jput n g5 c t j 2 l whole)) := by
 simp only [journal_Journal_Change.c, journal_Journal_Change.t]
 rw [opt_some (put_eq hr ok hs hv hc hb (Or.inr rfl) hw hw2 hl hl2), Tw.run_ret]
end

end Go.Proofs.Ytkoidgjgdhpdnaa.Pure
namespace Go.Proofs.Ytkoidgjgdhpdnaa.Pure
open Go Go.Proofs.Ytkoidgjgdhpdnaa.Va

theorem flash_New_eqM {a b : Nat} (ha : 1 ≤ a) (ha' : a ≤ 512) (hb : 1 ≤ b) (hb' : b ≤ 1024) : flash_New.c (a : Int) (b : Int) = some (.inl (0, (flNew a b).C, (flNew a b).D, (flNew a b).A, (flNew a b).W, (flNew a b).V, (flNew a b).M)) := by
 have hN : a * b ≤ 524288 := mul_le ha' hb'
 have he : w64 ((a : Int) * (b : Int)) = ((a * b : Nat) : Int) := by rw [← Int.natCast_mul, w64_of (by omega) (by omega)]
 simp only [flash_New.c, flash_New.t, he, Int.toNat_natCast, List.length_replicate]
 rw [bb_neg (decide_eq_false (by omega)), bb_neg (decide_eq_false (by omega)), bb_neg (decide_eq_false (by omega)), bb_neg (decide_eq_false (by omega)), dd_pos (by omega), dd_pos (by omega), opt_some (flash_L5_eq _ hN ..), Tw.run_ret]
 rfl
theorem ref07_New_eqM {a b : Nat} (ha : 1 ≤ a) (ha' : a ≤ 512) (hb : 1 ≤ b) (hb' : b ≤ 1024) : ref07_New.c (a : Int) (b : Int) = some (.inl ((flNew a b).C, (flNew a b).D, (flNew a b).A, (flNew a b).W, (flNew a b).V, (flNew a b).M)) := by
 have hN : a * b ≤ 524288 := mul_le ha' hb'
 have he : w64 ((a : Int) * (b : Int)) = ((a * b : Nat) : Int) := by rw [← Int.natCast_mul, w64_of (by omega) (by omega)]
 simp only [ref07_New.c, ref07_New.t, Int.toNat_natCast]
 rw [bb_neg (decide_eq_false (by omega)), bb_neg (decide_eq_false (by omega)), bb_neg (decide_eq_false (by omega)), bb_neg (decide_eq_false (by omega)), dd_pos (by omega), opt_some (ref07_L5_eq a b _ hN he ..), Tw.run_ret]
 rfl
theorem drive_New_eqM {g0 g1 g2 g3 g4 g5 : Int} (hr : GeoR g0 g1 g2 g3 g4 g5) (m C : Int) (D : Bool) (A : Int) (W V M : List Int) : drive_New.c g0 g1 g2 g3 g4 g5 m C D A W V M =
  some (if GeoOK g0 g1 g2 g3 g4 g5 ∧ (V.length : Int) = 2 + 2 * g1 + g2 ∧ m = g0 then .inl 0 else .inr 2) := by
 simp only [drive_New.c, drive_New.t]
 rw [opt_some (geom_Check_eq hr)]
 by_cases ok : GeoOK g0 g1 g2 g3 g4 g5
 ·rw [if_pos ok, bb_neg (by rfl), opt_some (x := ((V.length : Nat) : Int)) (by rfl), opt_some (geom_Sectors_eq hr), if_pos ok]
  by_cases h1 : (V.length : Int) = 2 + 2 * g1 + g2
  ·rw [bb_neg (by rw [h1]; simp)]
   by_cases h2 : m = g0
   ·rw [bb_neg (by rw [h2]; simp), if_pos ⟨ok, h1, h2⟩, Tw.run_ret]
   ·rw [bb_pos (by simpa using h2), if_neg (fun h => h2 h.2.2), Tw.run_ret]
  ·rw [bb_pos (by simpa using h1), if_neg (fun h => h1 h.2.1), Tw.run_ret]
 ·rw [if_neg ok, bb_pos (by rfl), if_neg (fun h => ok h.1), Tw.run_ret]
theorem ref09_New_eqM {n : Nat} {g1 g2 g3 g4 g5 : Int} (hr : GeoR (n : Int) g1 g2 g3 g4 g5) (ok : GeoOK (n : Int) g1 g2 g3 g4 g5) {m : Nat} (hm : 2 + 2 * g1.toNat + g2.toNat = m) :
  ref09_New.c (n : Int) g1 g2 g3 g4 g5 = some (.inl ((flNew m n).C, (flNew m n).D, (flNew m n).A, (flNew m n).W, (flNew m n).V, (flNew m n).M)) := by
 have ok' := ok
 unfold GeoOK at ok'
 have hmap : ref08_Map.c (n : Int) g1 g2 g3 g4 g5 = some (mapL g1.toNat m) := (ref08_Map_eq hr).trans (by rw [if_pos ok, hm])
 simp only [ref09_New.c, ref09_New.t]
 rw [opt_some hmap, mapL_len, opt_some (ref07_New_eqM (a := m) (b := n) (by omega) (by omega) (by omega) (by omega)), sm_inl, Tw.run_ret]

end Go.Proofs.Ytkoidgjgdhpdnaa.Pure
namespace Go.Proofs.Ytkoidgjgdhpdnaa.Pure
open Go Go.Proofs.Ytkoidgjgdhpdnaa.Va

theorem lay_many (fs : List Fm) : fs.length ≤ (layJ fs).length := by
 induction fs with
 | nil => simp [layJ]
 | cons f fs ih =>
  rw [show layJ (f :: fs) = f.w ++ layJ fs from rfl, List.length_append, f.len, List.length_cons]
  omega
theorem stJ_bounds {fs : List Fm} (ok : ∀ f ∈ fs, f.ok) (ch : ChainJ fs) : ∀ i, i ≤ fs.length → (1 ≤ i → loadOK (stJ (fs.take i)).whole ∧ Words (stJ (fs.take i)).whole) ∧ (i = 0 → (stJ (fs.take i)).whole = []) ∧ (stJ (fs.take i)).chg.length ≤ i ∧ (∀ l ∈ (stJ (fs.take i)).chg, l.length ≤ 56) ∧ (stJ (fs.take i)).seq ≤ 1073741823
 | 0, _ => by simp [stJ, j0]
 | i + 1, h => by
  obtain ⟨h1, _, h2, h3, h4⟩ := stJ_bounds ok ch i (by omega)
  have hf : fs[i]? = some fs[i] := List.getElem?_eq_getElem (by omega)
  have hfo := ok _ (List.getElem_mem (show i < fs.length by omega))
  have hg := ch i _ hf
  rw [stJ_next hf]
  generalize fs[i] = f at *
  obtain ⟨⟨p1, p2, p3, p4, p5⟩, p6⟩ := hfo
  rw [add_seq]
  unfold JS.add
  by_cases hk : f.k = 1
  ·rw [if_pos hk]
   exact ⟨fun _ => ⟨⟨p4, p5⟩, p6⟩, fun h => by omega, by simp, by simp, p3⟩
  ·rw [if_neg hk]
   have hi : 1 ≤ i := by
    by_cases h0 : i = 0
    ·subst h0
     exact absurd (hg.1 (by simp [stJ, j0])) hk
    ·omega
   refine ⟨fun _ => h1 hi, fun h => by omega, by simp only [List.length_append, List.length_singleton]; omega, fun l hl => ?_, p3⟩
   rcases List.mem_append.1 hl with hl | hl
   ·exact h3 l hl
   ·rw [List.mem_singleton.1 hl]; exact p5
theorem Sh.jb {n : Nat} {u : Nat → Int} {fs : List Fm} {m : Nat} (h : Sh n u fs m) (hn : n ≤ 1024) {i : Nat} (hi : i ≤ m) : JB n (stJ (fs.take i)) := by
 have hl := h.ml
 obtain ⟨h1, h0, h2, h3, h4⟩ := stJ_bounds h.ok h.ch i (by omega)
 have h5 := layJ_take_all fs i
 have h6 := h.le
 have h7 := lay_many (fs.take i)
 rw [List.length_take] at h7
 refine ⟨by rw [stJ_tail]; omega, seq_nonneg h.ok h.ch i (by omega), h4, ?_, by omega, h3⟩
 by_cases hi0 : i = 0
 ·rw [h0 hi0]; simp
 ·exact (h1 (by omega)).1.2
theorem JIn.jb {n : Nat} {s : Fl} {c : Nat} {t : Bool} {j : JS} (h : JIn n s c t j) (hn : n ≤ 1024) : JB n j ∧ 1 ≤ j.seq ∧ loadOK j.whole ∧ Words j.whole := by
 obtain ⟨fs, m, hS, hm, hj⟩ := h.sh
 rw [hj]
 have := stJ_bounds hS.ok hS.ch m hS.ml
 exact ⟨hS.jb hn (Nat.le_refl _), seq_pos hS.ok hS.ch hm hS.ml, this.1 hm⟩

theorem torn_eq {n : Nat} {s : Fl} {k tl : Nat} (hl : tl ≤ n) : (!((rd s.W (k * n + tl) (n - tl)).all (· == 4294967295))) = tornB s n k tl := by
 have e : (rd s.W (k * n + tl) (n - tl)).all (· == 4294967295) = true ↔ ∀ i, tl ≤ i → i < n → sec s n k i = 4294967295 := by
  rw [List.all_eq_true]
  constructor
  ·intro h i h1 h2
   have := h (s.W.getD (k * n + i) 0) (List.mem_of_getElem? (i := i - tl) (by rw [rd_get (by omega), show k * n + tl + (i - tl) = k * n + i by omega]))
   exact of_decide_eq_true this
  ·intro h x hx
   obtain ⟨i, hi, rfl⟩ := List.mem_map.1 hx
   have hi := List.mem_range.1 hi
   have := h (tl + i) (by omega) (by omega)
   unfold sec at this
   rw [show k * n + tl + i = k * n + (tl + i) by omega, this]
   rfl
 have e2 := tornB_iff s n k tl
 cases hb : (rd s.W (k * n + tl) (n - tl)).all (· == 4294967295)
 ·cases ht : tornB s n k tl
  ·exact absurd (e.2 (e2.1 ht)) (by rw [hb]; simp)
  ·rfl
 ·rw [e2.2 (e.1 hb)]
  rfl
theorem blank_at {n : Nat} {s : Fl} (hD : s.D = false) {k tl : Nat} (hk : k < s.V.length) (hl : tl ≤ n) : s.blank n (k : Int) (tl : Int) = (!(tornB s n k tl), 0) := by
 have hd : s.dread n (k : Int) (tl : Int) ((n : Int) - (tl : Int)) = (0, rd s.W (k * n + tl) (n - tl)) := by
  have := dread_yes (n := n) hD (j := k) (b := tl) (c := n - tl) hk (by omega)
  rw [show ((n : Int) - (tl : Int)) = ((n - tl : Nat) : Int) by omega]
  exact this
 unfold Fl.blank
 rw [if_neg (by omega), hd, if_neg (by simp), ← torn_eq hl, Bool.not_not]
abbrev X4J : Type := Int × (Int × (List Int × List (List Int)))
def x4 (j : JS) : X4J := ((j.tail : Int), j.seq, j.whole, j.chg)
section
variable {n : Nat} {g1 g2 g3 g4 g5 : Int} (hr : GeoR (n : Int) g1 g2 g3 g4 g5) (ok : GeoOK (n : Int) g1 g2 g3 g4 g5) {s : Fl} (hs : FlOK n s) (hv : (s.V.length : Int) = 2 + 2 * g1 + g2) (hD : s.D = false)
include hr ok hs hv hD
theorem read_eq {k : Nat} (hk : k < s.V.length) {fs : List Fm} {m : Nat} (hS : Sh n (sec s n k) fs m) :
  journal_read.c (k : Int) (n : Int) g1 g2 g3 g4 g5 (n : Int) s.C s.D s.A s.W s.V s.M = some (((stJ (fs.take m)).tail : Int), tornB s n k (stJ (fs.take m)).tail, (stJ (fs.take m)).seq, (stJ (fs.take m)).whole, 0, (stJ (fs.take m)).chg) := by
 have ok' := ok
 unfold GeoOK at ok'
 have hS' : Sh n (fun i => s.W.getD (k * n + i) 0) fs m := hS
 obtain ⟨hst, htl⟩ := hS'.stops
 have hrl : (rd s.W (k * n) n).length = n := rd_len _ _ _
 have hw : Words (rd s.W (k * n) n) := rd_words hs.w _ _
 have hd : s.dread n (k : Int) 0 (n : Int) = (0, rd s.W (k * n) n) := by
  have := dread_yes (n := n) hD (j := k) (b := 0) (c := n) hk (by omega)
  exact this
 have hL : ∀ (p1 p2 : Int) (p3 : Bool) (p4 p5 : Int) (p6 : Bool), journal_read.L5 (k : Int) (n : Int) g1 g2 g3 g4 g5 (n : Int) s.C s.D s.A s.W s.V s.M p1 p2 p3 p4 p5 0 p6 0 [] [] (rd s.W (k * n) n) = some (x4 (stJ (fs.take m))) := fun p1 p2 p3 p4 p5 p6 => by
  unfold journal_read.L5
  have key := Lp_seq (fun z : X4J => (journal_read.l5 (k : Int) (n : Int) g1 g2 g3 g4 g5 (n : Int) s.C s.D s.A s.W s.V s.M p1 p2 p3 p4 p5 p6 (rd s.W (k * n) n) z.1 z.2.1 z.2.2.1 z.2.2.2).run) (fun i => x4 (stJ (fs.take i))) (x := x4 (stJ (fs.take m))) m 0 (fun i _ hi => ?_) ?_
  ·exact key
  ·have hi : i < m := by omega
   have hml := hS.ml
   have hf : fs[i]? = some fs[i] := List.getElem?_eq_getElem (by omega)
   obtain ⟨hrd, hle⟩ := hS'.reads hi hf
   have hfo := hS.ok _ (List.getElem_mem (show i < fs.length by omega))
   have hg := hS.ch i _ hf
   have hjb := hS.jb (show n ≤ 1024 by omega) (show i ≤ m by omega)
   have hnx := stJ_next hf
   generalize fs[i] = f at *
   rw [hnx]
   generalize stJ (fs.take i) = j at *
   have hp := hjb.s0
   have hp1 := hjb.s1
   have hfr : frame_Read.c (List.take ((rd s.W (k * n) n).length - Int.toNat (j.tail : Int)) (List.drop (Int.toNat (j.tail : Int)) (rd s.W (k * n) n))) = some (f.k, f.s, (f.l.length : Int) + 3, true, f.l) := by
    rw [Int.toNat_natCast, List.take_of_length_le (by rw [List.length_drop]; omega)]
    exact (frame_Read_eq (words_drop hw _) (by rw [List.length_drop]; omega)).trans (by rw [hrd])
   have hsd := said_eq (n := n) (g1 := g1) (g2 := g2) (g3 := g3) (g4 := g4) (g5 := g5) (f := f) hfo hjb j.tail (by omega) j.seq p5 p6 s.C s.D s.A s.W s.V s.M (n : Int)
   rw [show (f.w.length : Int) = (f.l.length : Int) + 3 by rw [f.len]; rfl] at hsd
   show (journal_read.l5 (k : Int) (n : Int) g1 g2 g3 g4 g5 (n : Int) s.C s.D s.A s.W s.V s.M p1 p2 p3 p4 p5 p6 (rd s.W (k * n) n) (j.tail : Int) j.seq j.whole j.chg).run = some (.inl (((j.add f).tail : Int), (j.add f).seq, (j.add f).whole, (j.add f).chg))
   simp only [journal_read.l5]
   rw [dd_pos (by omega), opt_some hfr, bb_neg (by rfl)]
   by_cases h0 : j.seq = 0
   ·have hk1 := hg.1 h0
    rw [bb_pos (by rw [h0]; rfl), bb_neg (by simp only; rw [hk1]; rfl), bb_neg (decide_eq_false (show ¬(j.seq > 0) by omega)), opt_some hsd, Tw.run_ret]
    simp only [add_tail, add_seq]
   ·have hk1 := hg.2 h0
    have e : w64 (j.seq + 1) = j.seq + 1 := w64_of (by omega) (by omega)
    rw [bb_neg (beq_eq_false_iff_ne.2 h0), bb_pos (decide_eq_true (show j.seq > 0 by omega)), bb_neg (by simp only; rw [hk1, e]; simp), opt_some hsd, Tw.run_ret]
    simp only [add_tail, add_seq]
  ·rw [Nat.zero_add]
   have hfr : frame_Read.c (List.take ((rd s.W (k * n) n).length - Int.toNat ((stJ (fs.take m)).tail : Int)) (List.drop (Int.toNat ((stJ (fs.take m)).tail : Int)) (rd s.W (k * n) n))) = some noF := by
    rw [Int.toNat_natCast, List.take_of_length_le (by rw [List.length_drop]; omega)]
    exact (frame_Read_eq (words_drop hw _) (by rw [List.length_drop]; omega)).trans (by rw [hst])
   simp only [x4, journal_read.l5]
   rw [dd_pos (by omega), opt_some hfr, bb_pos (by rfl), Tw.run_ret]
 simp only [journal_read.c, journal_read.t]
 rw [opt_some (x := ()) (by rfl), opt_some (drive_Read_eq hr ok hs hv (inR_i64 (by decide))), hd, bb_neg (by rfl), opt_some (by exact hL ..), opt_some (x := (!(tornB s n k (stJ (fs.take m)).tail), 0)) (by
  refine (drive_Blank_eq hr ok hs hv (inR_i64 (by simp only [x4]; omega))).trans ?_
  exact congrArg some (blank_at hD hk htl)), Tw.run_ret]
 simp only [x4, Bool.not_not]
theorem jopen_eq {c : Nat} {t : Bool} {j : JS} (hI : JIn n s c t j) (hv2 : 2 ≤ s.V.length) :
  journal_Open.c (n : Int) g1 g2 g3 g4 g5 (n : Int) s.C s.D s.A s.W s.V s.M = some (.inr (0, (c : Int), (j.tail : Int), t, j.seq, j.whole, j.chg)) := by
 obtain ⟨fs, m, hS, hm, hj⟩ := hI.sh
 obtain ⟨fo, mo, hO, hseq⟩ := hI.ot
 have hc := hI.lt
 have hpos : 1 ≤ j.seq := by rw [hj]; exact seq_pos hS.ok hS.ch hm hS.ml
 have hop := seq_nonneg hO.ok hO.ch mo hO.ml
 have ht : tornB s n c j.tail = t := by
  have e1 := tornB_iff s n c j.tail
  have e2 := hI.t
  cases t
  ·exact e1.2 (e2.1 rfl)
  ·cases hb : tornB s n c j.tail
   ·exact absurd (e2.2 (e1.1 hb)) (by simp)
   ·rfl
 have hRc := read_eq hr ok hs hv hD (k := c) (by omega) hS
 have hRo := read_eq hr ok hs hv hD (k := 1 - c) (by omega) hO
 rw [← hj, ht] at hRc
 generalize stJ (fo.take mo) = o at *
 generalize tornB s n (1 - c) o.tail = t' at *
 have e2 : ∀ (i : Nat), i ≤ 2 → w64 ((i : Int) + 1) = ((i + 1 : Nat) : Int) := fun i hi => by rw [w64_of (by omega) (by omega)]; rfl
 have e21 : w64 (0 + 1) = 1 := e2 0 (by omega)
 have e22 : w64 (1 + 1) = 2 := e2 1 (by omega)
 -- the last round
 have hEnd : ∀ (a b : Int) (d : Bool) (q : Int) (w : List Int) (l : List (List Int)), journal_Open.L5v2 2 (n : Int) g1 g2 g3 g4 g5 (n : Int) s.C s.D s.A s.W s.V s.M a b d q w l = some (.inl (a, b, d, q, w, l)) := fun a b d q w l => by
  unfold journal_Open.L5v2
  exact Lp_end (by simp only [journal_Open.l5v2]; rw [bb_neg (by rfl), Tw.run_ret])
 rcases Nat.lt_or_ge 0 c with h1 | h0
 ·-- the second sector is in use
  have hc1 : c = 1 := by omega
  subst hc1
  have hRo : journal_read.c 0 (n : Int) g1 g2 g3 g4 g5 (n : Int) s.C s.D s.A s.W s.V s.M = some ((o.tail : Int), t', o.seq, o.whole, 0, o.chg) := hRo
  have hRc : journal_read.c 1 (n : Int) g1 g2 g3 g4 g5 (n : Int) s.C s.D s.A s.W s.V s.M = some ((j.tail : Int), t, j.seq, j.whole, 0, j.chg) := hRc
  ·simp only [journal_Open.c, journal_Open.t]
   by_cases hz : o.seq = 0
   ·have hL : journal_Open.L5 0 (n : Int) g1 g2 g3 g4 g5 (n : Int) s.C s.D s.A s.W s.V s.M = some (.inr (.inl (2, 1, (j.tail : Int), t, j.seq, j.whole, j.chg))) := by
     unfold journal_Open.L5
     rw [Lp_next (s' := (1 : Int)) (by
      simp only [journal_Open.l5]
      rw [bb_pos (by rfl), opt_some hRo, bb_neg (by rfl), opt_some (x := 0) (by rfl), bb_neg (decide_eq_false (by simp only; omega)), Tw.run_ret, e21])]
     exact Lp_end (by
      simp only [journal_Open.l5]
      rw [bb_pos (by rfl), opt_some hRc, bb_neg (by rfl), opt_some (x := 0) (by rfl), bb_pos (decide_eq_true (by simp only; omega)), Tw.run_ret, e22])
    rw [opt_some hL, sm_inr, sm_inl, opt_some (by exact hEnd ..), sm_inl, Tw.run_ret]
    rfl
   ·have hL : journal_Open.L5 0 (n : Int) g1 g2 g3 g4 g5 (n : Int) s.C s.D s.A s.W s.V s.M = some (.inr (.inl (1, 0, (o.tail : Int), t', o.seq, o.whole, o.chg))) := by
     unfold journal_Open.L5
     exact Lp_end (by
      simp only [journal_Open.l5]
      rw [bb_pos (by rfl), opt_some hRo, bb_neg (by rfl), opt_some (x := 0) (by rfl), bb_pos (decide_eq_true (by simp only; omega)), Tw.run_ret, e21])
    have hL2 : journal_Open.L5v2 1 (n : Int) g1 g2 g3 g4 g5 (n : Int) s.C s.D s.A s.W s.V s.M 0 (o.tail : Int) t' o.seq o.whole o.chg = some (.inl (1, (j.tail : Int), t, j.seq, j.whole, j.chg)) := by
     have := hEnd 1 (j.tail : Int) t j.seq j.whole j.chg
     unfold journal_Open.L5v2 at this ⊢
     rw [Lp_next (s' := ((2 : Int), (1 : Int), (j.tail : Int), t, j.seq, j.whole, j.chg)) (by
      simp only [journal_Open.l5v2]
      rw [bb_pos (by rfl), opt_some hRc, bb_neg (by rfl), opt_some (x := ()) (by rfl), bb_pos (decide_eq_true (by simp only; omega)), Tw.run_ret, e22])]
     exact this
    rw [opt_some hL, sm_inr, sm_inl, opt_some (by exact hL2), sm_inl, Tw.run_ret]
    rfl
 ·have hc0 : c = 0 := by omega
  subst hc0
  have hRo : journal_read.c 1 (n : Int) g1 g2 g3 g4 g5 (n : Int) s.C s.D s.A s.W s.V s.M = some ((o.tail : Int), t', o.seq, o.whole, 0, o.chg) := hRo
  have hRc : journal_read.c 0 (n : Int) g1 g2 g3 g4 g5 (n : Int) s.C s.D s.A s.W s.V s.M = some ((j.tail : Int), t, j.seq, j.whole, 0, j.chg) := hRc
  ·simp only [journal_Open.c, journal_Open.t]
   have hL : journal_Open.L5 0 (n : Int) g1 g2 g3 g4 g5 (n : Int) s.C s.D s.A s.W s.V s.M = some (.inr (.inl (1, 0, (j.tail : Int), t, j.seq, j.whole, j.chg))) := by
    unfold journal_Open.L5
    exact Lp_end (by
     simp only [journal_Open.l5]
     rw [bb_pos (by rfl), opt_some hRc, bb_neg (by rfl), opt_some (x := 0) (by rfl), bb_pos (decide_eq_true (by simp only; omega)), Tw.run_ret, e21])
   have hL2 : journal_Open.L5v2 1 (n : Int) g1 g2 g3 g4 g5 (n : Int) s.C s.D s.A s.W s.V s.M 0 (j.tail : Int) t j.seq j.whole j.chg = some (.inl (0, (j.tail : Int), t, j.seq, j.whole, j.chg)) := by
    have := hEnd 0 (j.tail : Int) t j.seq j.whole j.chg
    unfold journal_Open.L5v2 at this ⊢
    rw [Lp_next (s' := ((2 : Int), (0 : Int), (j.tail : Int), t, j.seq, j.whole, j.chg)) (by
     simp only [journal_Open.l5v2]
     rw [bb_pos (by rfl), opt_some hRo, bb_neg (by rfl), opt_some (x := ()) (by rfl), bb_neg (decide_eq_false (by simp only; omega)), Tw.run_ret, e22])]
    exact this
   rw [opt_some hL, sm_inr, sm_inl, opt_some (by exact hL2), sm_inl, Tw.run_ret]
   rfl
end

end Go.Proofs.Ytkoidgjgdhpdnaa.Pure
namespace Go.Proofs.Ytkoidgjgdhpdnaa.Pure
open Go Go.Proofs.Ytkoidgjgdhpdnaa.Va

section
variable {n : Nat} {g1 g2 g3 g4 g5 : Int} {C : Int} {D : Bool} {A : Int} {W V M : List Int} {c : Int} {t : Bool} {j : JS} (hb : JB n j)
include hb
theorem changes_eq (tl se : Int) (wh : List Int) : journal_Journal_Changes.c c tl t se wh (n : Int) g1 g2 g3 g4 g5 (n : Int) C D A W V M j.chg = some j.chg := by
 have hcl := hb.chg
 have hL : journal_Journal_Changes.L5 (j.chg.length : Int) 0 c tl t se wh (n : Int) g1 g2 g3 g4 g5 (n : Int) C D A W V M j.chg [] = some j.chg := by
  unfold journal_Journal_Changes.L5
  have := Lp_seq (fun z : Int × List (List Int) => (journal_Journal_Changes.l5 (j.chg.length : Int) c tl t se wh (n : Int) g1 g2 g3 g4 g5 (n : Int) C D A W V M j.chg z.1 z.2).run) (fun i : Nat => ((i : Int), j.chg.take i)) (x := j.chg) j.chg.length 0 (fun i _ hi => ?_) ?_
  ·exact this
  ·have hi : i < j.chg.length := by omega
   have hg : j.chg[i]? = some j.chg[i] := List.getElem?_eq_getElem hi
   have hb1 := hb.each _ (List.mem_of_getElem? hg)
   simp only [journal_Journal_Changes.l5]
   rw [bb_pos (decide_eq_true (by omega)), dd_pos (by omega), Int.toNat_natCast, opt_some hg, opt_some (clone32_eq (by omega)), dd_pos (by simp only [List.length_take, List.length_cons, List.length_nil]; omega), Tw.run_ret, w64_of (by omega) (by omega), List.take_add_one, hg]
   rfl
  ·simp only [journal_Journal_Changes.l5, Nat.zero_add]
   rw [bb_neg (decide_eq_false (by omega)), Tw.run_ret, List.take_length]
 simp only [journal_Journal_Changes.c, journal_Journal_Changes.t]
 rw [opt_some hL, Tw.run_ret]
theorem whole_eq (tl se : Int) (ch : List (List Int)) : journal_Journal_Whole.c c tl t se j.whole (n : Int) g1 g2 g3 g4 g5 (n : Int) C D A W V M ch = some j.whole := by
 have := hb.whole
 simp only [journal_Journal_Whole.c, journal_Journal_Whole.t]
 rw [opt_some (clone32_eq (by omega)), Tw.run_ret]
end

section
variable {n : Nat} {g1 g2 g3 g4 g5 : Int} (hr : GeoR (n : Int) g1 g2 g3 g4 g5) (ok : GeoOK (n : Int) g1 g2 g3 g4 g5)
include hr ok
omit hr in
theorem first_in {s : Fl} (hs : FlOK n s) (hL : Lit s) (hv2 : 2 ≤ s.V.length) (h0 : ∀ i, i < n → sec s n 0 i = 4294967295) (h1 : ∀ i, i < n → sec s n 1 i = 4294967295) {l : List Int} (hw : Words l) (hl : loadOK l) :
  (s.fresh n 0 (Fm.w ⟨1, 1, l⟩)).1 = 0 ∧ JIn n (s.fresh n 0 (Fm.w ⟨1, 1, l⟩)).2 0 false ⟨l.length + 3, 1, l, []⟩ := by
 have ok' := ok
 unfold GeoOK at ok'
 obtain ⟨f, hf⟩ : ∃ f : Fm, f = ⟨1, 1, l⟩ := ⟨_, rfl⟩
 have fok : f.ok := by
  rw [hf]
  exact ⟨⟨Or.inl rfl, by show (1 : Int) ≤ 1; omega, by show (1 : Int) ≤ 1073741823; omega, hl.1, hl.2⟩, hw⟩
 have flen : f.w.length = l.length + 3 := by rw [f.len, hf]
 have hll := hl.2
 rw [← hf]
 have e0 : ((0 : Nat) : Int) = 0 := rfl
 have hfi := first_ok (n := n) hL.1 (j := 0) (b := 0) (c := f.w.length) (by omega) (by omega)
 have hF : s.fresh n 0 f.w = if (s.clean n 0).1 ≠ 0 then s.clean n 0 else (s.clean n 0).2.dwrite n 0 0 f.w := by
  unfold Fl.fresh
  rw [show s.first n 0 0 (f.w.length : Int) = _ from hfi, if_neg (fun h => h rfl)]
 obtain ⟨c1, c2, c3, c4⟩ := clean_up hs hL.1 (j := 0) (by omega)
 have cok := clean_ok hs ((0 : Nat) : Int)
 have cL := clean_Lit (n := n) hL ((0 : Nat) : Int)
 rw [e0] at c1 c2 c3 c4 cok cL
 rcases c4 with ⟨ce, cD, cb⟩ | ⟨_, cD⟩
 rotate_left
 ·rw [cL.1] at cD
  cases cD
 rw [if_neg (by rw [ce]; simp)] at hF
 rw [hF]
 have k1 : ∀ i, i < n → sec (s.clean n 0).2 n 1 i = 4294967295 := fun i hi => by
  rw [← h1 i hi]
  exact sec_of (show 0 ≠ 1 by omega) c2 hi
 generalize (s.clean n 0).2 = s1 at *
 obtain ⟨d1, d2, d3, d4⟩ := dwrite_up cok.1 cD (j := 0) (b := 0) (by rw [cok.2.1]; omega) (Fm.words fok) (by omega) (fun i hi => cb _ (by omega))
 have dL := dwrite_Lit (n := n) cL ((0 : Nat) : Int) ((0 : Nat) : Int) f.w
 rw [e0] at d1 d2 d3 d4 dL
 rcases d4 with ⟨q1, q2, q3⟩ | ⟨_, q2⟩
 rotate_left
 ·rw [dL.1] at q2
  cases q2
 refine ⟨q1, ?_⟩
 generalize hr : s1.dwrite n 0 0 f.w = r at *
 have k2 : ∀ i, i < n → sec r.2 n 1 i = 4294967295 := fun i hi => by
  rw [← k1 i hi]
  exact sec_of (show 0 ≠ 1 by omega) d2 hi
 obtain ⟨m', hm', hS', hall⟩ := Sh.app (Sh.blank (n := n) (u := sec s1 n 0) cb) (fun i _ hi => cb i hi) fok (by rw [hf]; exact ⟨fun _ => rfl, fun h => absurd rfl h⟩) (by simp only [layJ, List.flatMap_nil, List.length_nil]; omega) (u' := sec r.2 n 0) (fun i hi => by
  have := d3 i hi
  simp only [layJ, List.flatMap_nil, List.length_nil]
  exact this)
 rw [List.nil_append] at hS'
 have hm1 : m' = 1 := by
  have := hall (fun i hi => by
   have := q3 i hi
   simp only [layJ, List.flatMap_nil, List.length_nil]
   exact this)
  simpa using this
 subst hm1
 have hst : stJ [f] = ⟨l.length + 3, 1, l, []⟩ := by
  rw [hf]
  unfold stJ
  rw [List.foldl_cons, List.foldl_nil]
  unfold JS.add j0
  rw [if_pos rfl, Nat.zero_add]
 refine ⟨by omega, ⟨[f], 1, hS', Nat.le_refl _, by rw [List.take_of_length_le (by simp), hst]⟩, ⟨[], 0, Sh.blank k2, by show (0 : Int) < 1; decide⟩, ?_⟩
 refine ⟨fun _ i h1 h2 => ?_, fun _ => rfl⟩
 have h1 : l.length + 3 ≤ i := h1
 rw [(d3 i h2).2 (by omega)]
 exact cb i h2

noncomputable def newS (m n : Nat) (l : List Int) : Fl := (((flNew m n).clean n 1).2.fresh n 0 (Fm.w ⟨1, 1, l⟩)).2
omit hr in
theorem new_in {m : Nat} (hm : 2 + 2 * g1.toNat + g2.toNat = m) {l : List Int} (hw : Words l) (hl : loadOK l) :
  FlOK n (newS m n l) ∧ Lit (newS m n l) ∧ (newS m n l).V.length = m ∧ (newS m n l).M = [] ∧ JIn n (newS m n l) 0 false ⟨l.length + 3, 1, l, []⟩ ∧
  ((flNew m n).clean n 1).1 = 0 ∧ (((flNew m n).clean n 1).2.fresh n 0 (Fm.w ⟨1, 1, l⟩)).1 = 0 ∧ FlOK n ((flNew m n).clean n 1).2 ∧ ((flNew m n).clean n 1).2.V.length = m ∧ ((flNew m n).clean n 1).2.M = [] := by
 have ok' := ok
 unfold GeoOK at ok'
 have okN := flNew_ok (a := m) (b := n) (by omega) (by omega) (by omega) (by omega)
 have hNL : Lit (flNew m n) := ⟨rfl, by show (-1 : Int) < 0; decide⟩
 have hones : ∀ k i, k < m → i < n → sec (flNew m n) n k i = 4294967295 := fun k i hk hi => by
  unfold sec
  have : (k + 1) * n ≤ m * n := Nat.mul_le_mul_right n (by omega)
  rw [Nat.add_mul, Nat.one_mul] at this
  rw [List.getD_eq_getElem?_getD]
  show ((List.replicate (m * n) (4294967295 : Int))[k * n + i]?).getD 0 = _
  rw [List.getElem?_replicate, if_pos (by omega)]
  rfl
 have hVl : (flNew m n).V.length = m := by simp [flNew]
 obtain ⟨c1, c2, c3, c4⟩ := clean_up okN hNL.1 (j := 1) (by rw [hVl]; omega)
 have cok := clean_ok okN ((1 : Nat) : Int)
 have cL := clean_Lit (n := n) hNL ((1 : Nat) : Int)
 rw [show ((1 : Nat) : Int) = 1 from rfl] at c1 c2 c3 c4 cok cL
 rcases c4 with ⟨ce, cD, cb⟩ | ⟨_, cD⟩
 rotate_left
 ·rw [cL.1] at cD
  cases cD
 have k0 : ∀ i, i < n → sec ((flNew m n).clean n 1).2 n 0 i = 4294967295 := fun i hi => by
  rw [← hones 0 i (by omega) hi]
  exact sec_of (show 1 ≠ 0 by omega) c2 hi
 have fok : Fm.ok ⟨1, 1, l⟩ := ⟨⟨Or.inl rfl, by show (1 : Int) ≤ 1; omega, by show (1 : Int) ≤ 1073741823; omega, hl.1, hl.2⟩, hw⟩
 obtain ⟨f1, f2⟩ := first_in ok cok.1 cL (by rw [cok.2.1, hVl]; omega) k0 cb hw hl
 have fo := fresh_ok cok.1 0 (Fm.words fok)
 exact ⟨fo.1, fresh_Lit cL _ _, by rw [show (newS m n l).V.length = _ from fo.2.1, cok.2.1, hVl], (show (newS m n l).M = _ from fo.2.2).trans cok.2.2, f2, ce, f1, cok.1, cok.2.1.trans hVl, cok.2.2⟩
end

end Go.Proofs.Ytkoidgjgdhpdnaa.Pure
namespace Go.Proofs.Ytkoidgjgdhpdnaa.Pure
open Go Go.Proofs.Ytkoidgjgdhpdnaa.Va

section
variable {n : Nat} {g1 g2 g3 g4 g5 : Int} (hr : GeoR (n : Int) g1 g2 g3 g4 g5) (ok : GeoOK (n : Int) g1 g2 g3 g4 g5) {m : Nat} (hm : 2 + 2 * g1.toNat + g2.toNat = m)
include hr ok hm
theorem new_eq {l : List Int} (hw : Words l) (hll : l.length ≤ 1000) : journal_New.c l (n : Int) g1 g2 g3 g4 g5 (n : Int) (flNew m n).C (flNew m n).D (flNew m n).A (flNew m n).W (flNew m n).V (flNew m n).M =
  some (if loadOK l then .inl (0, (newS m n l).C, (newS m n l).D, (newS m n l).A, (newS m n l).W, (newS m n l).V, 0, ((l.length + 3 : Nat) : Int), false, 1, l, []) else .inr (2, (flNew m n).C, (flNew m n).D, (flNew m n).A, (flNew m n).W, (flNew m n).V)) := by
 have ok' := ok
 unfold GeoOK at ok'
 have rb := reach_eq
 have okN := flNew_ok (a := m) (b := n) (by omega) (by omega) (by omega) (by omega)
 have hvN : (((flNew m n).V.length : Nat) : Int) = 2 + 2 * g1 + g2 := by simp [flNew]; omega
 simp only [journal_New.c, journal_New.t]
 rw [opt_some (may1_eq hll)]
 by_cases hl : loadOK l
 rotate_left
 ·rw [decide_eq_false hl, bb_pos (by rfl), Tw.run_ret, if_neg hl]
 obtain ⟨i1, i2, i3, i4, i5, i6, i7, i8, i9, i10⟩ := new_in ok hm hw hl
 have hcl := drive_Clean_eq hr ok okN hvN (k := 1)
 have fok : Fm.ok ⟨1, 1, l⟩ := ⟨⟨Or.inl rfl, by show (1 : Int) ≤ 1; omega, by show (1 : Int) ≤ 1073741823; omega, hl.1, hl.2⟩, hw⟩
 have hfr := drive_Fresh_eq hr ok i8 (by rw [i9]; omega) (k := 0) (Fm.words fok)
 rw [i10, i7] at hfr
 rw [i6] at hcl
 have hfr : drive_Drive_Fresh.c (w64 (1 - 1)) (sealW (fraL 1 1 l)) (n : Int) g1 g2 g3 g4 g5 (n : Int) ((flNew m n).clean n 1).2.C ((flNew m n).clean n 1).2.D ((flNew m n).clean n 1).2.A ((flNew m n).clean n 1).2.W ((flNew m n).clean n 1).2.V (flNew m n).M = some (0, s5 (newS m n l)) := hfr
 have el : (sealW (fraL 1 1 l)).length = l.length + 3 := (Fm.len ⟨1, 1, l⟩)
 have hll2 := hl.2
 have e1 : w64 ((0 : Int) + ((l.length + 3 : Nat) : Int)) = ((l.length + 3 : Nat) : Int) := by rw [w64_of (by omega) (by omega)]; omega
 have hO : journal_Journal_over.c l 1 1 0 false 0 (n : Int) g1 g2 g3 g4 g5 (n : Int) ((flNew m n).clean n 1).2.C ((flNew m n).clean n 1).2.D ((flNew m n).clean n 1).2.A ((flNew m n).clean n 1).2.W ((flNew m n).clean n 1).2.V (flNew m n).M =
   some (.inr (0, 0, ((l.length + 3 : Nat) : Int), false, l, (newS m n l).C, (newS m n l).D, (newS m n l).A, (newS m n l).W, (newS m n l).V, [])) := by
  simp only [journal_Journal_over.c, journal_Journal_over.t]
  rw [opt_some (clone32_eq (by omega)), opt_some (frame_Lay_eq 1 1 hw (by rw [rb]; omega)), if_pos fok.1, bb_neg (by rfl), opt_some (by exact hfr), bb_neg (by rfl), opt_some (x := .inr (w64 ((0 : Int) + ((l.length + 3 : Nat) : Int)), [])) (by
   simp only [journal_Journal_said.c, journal_Journal_said.t]
   rw [bb_pos (by rfl), Tw.run_ret, el]), sm_inr, Tw.run_ret, e1]
  rfl
 rw [decide_eq_true hl, bb_neg (by rfl), opt_some hcl, bb_neg (by rfl), opt_some (by exact hO), sm_inr, bb_neg (by rfl), Tw.run_ret, if_pos hl]
theorem rnew_eq {l : List Int} (hw : Words l) (hll : l.length ≤ 1000) : ref11_New.c l (n : Int) g1 g2 g3 g4 g5 (n : Int) (flNew m n).C (flNew m n).D (flNew m n).A (flNew m n).W (flNew m n).V (flNew m n).M =
  some (if loadOK l then .inl (0, (newS m n l).C, (newS m n l).D, (newS m n l).A, (newS m n l).W, (newS m n l).V, 0, ((l.length + 3 : Nat) : Int), false, 1, l, []) else .inr (2, (flNew m n).C, (flNew m n).D, (flNew m n).A, (flNew m n).W, (flNew m n).V)) := by
 have ok' := ok
 unfold GeoOK at ok'
 have rb := reach_eq
 have okN := flNew_ok (a := m) (b := n) (by omega) (by omega) (by omega) (by omega)
 have hvN : (((flNew m n).V.length : Nat) : Int) = 2 + 2 * g1 + g2 := by simp [flNew]; omega
 simp only [ref11_New.c, ref11_New.t]
 rw [opt_some load_eq]
 by_cases hl : loadOK l
 rotate_left
 ·rw [decide_eq_false hl, bb_pos (by rfl), Tw.run_ret, if_neg hl]
 obtain ⟨i1, i2, i3, i4, i5, i6, i7, i8, i9, i10⟩ := new_in ok hm hw hl
 have hcl := ref09_Clean_eq hr ok okN hvN (k := 1)
 have fok : Fm.ok ⟨1, 1, l⟩ := ⟨⟨Or.inl rfl, by show (1 : Int) ≤ 1; omega, by show (1 : Int) ≤ 1073741823; omega, hl.1, hl.2⟩, hw⟩
 have hfr := ref09_Fresh_eq hr ok i8 (by rw [i9]; omega) (k := 0) (Fm.words fok)
 rw [i10, i7] at hfr
 rw [i6] at hcl
 have hfr : ref09_Drive_Fresh.c (w64 (1 - 1)) (sealW (fraL 1 1 l)) (n : Int) g1 g2 g3 g4 g5 (n : Int) ((flNew m n).clean n 1).2.C ((flNew m n).clean n 1).2.D ((flNew m n).clean n 1).2.A ((flNew m n).clean n 1).2.W ((flNew m n).clean n 1).2.V (flNew m n).M = some (0, s5 (newS m n l)) := hfr
 have el : (sealW (fraL 1 1 l)).length = l.length + 3 := (Fm.len ⟨1, 1, l⟩)
 have hll2 := hl.2
 have e1 : w64 ((0 : Int) + ((l.length + 3 : Nat) : Int)) = ((l.length + 3 : Nat) : Int) := by rw [w64_of (by omega) (by omega)]; omega
 have hO : ref11_Journal_turn.c l 1 1 0 false 0 (n : Int) g1 g2 g3 g4 g5 (n : Int) ((flNew m n).clean n 1).2.C ((flNew m n).clean n 1).2.D ((flNew m n).clean n 1).2.A ((flNew m n).clean n 1).2.W ((flNew m n).clean n 1).2.V (flNew m n).M =
   some (.inr (0, 0, ((l.length + 3 : Nat) : Int), false, (newS m n l).C, (newS m n l).D, (newS m n l).A, (newS m n l).W, (newS m n l).V, [])) := by
  simp only [ref11_Journal_turn.c, ref11_Journal_turn.t]
  rw [dd_pos (by omega), opt_some (ref10_Lay_eq fok.1 hw), opt_some (by exact hfr), bb_neg (by rfl), opt_some (x := .inr (w64 ((0 : Int) + ((l.length + 3 : Nat) : Int)), [])) (by
   simp only [ref11_Journal_add.c, ref11_Journal_add.t]
   rw [bb_pos (by rfl), Tw.run_ret, el]), sm_inr, Tw.run_ret, e1]
  rfl
 rw [decide_eq_true hl, bb_neg (by rfl), opt_some hcl, bb_neg (by rfl), opt_some (by exact hO), sm_inr, bb_neg (by rfl), Tw.run_ret, if_pos hl]
end

end Go.Proofs.Ytkoidgjgdhpdnaa.Pure
