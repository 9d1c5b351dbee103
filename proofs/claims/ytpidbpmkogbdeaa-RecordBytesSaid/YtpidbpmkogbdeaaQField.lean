/- Layer 12 (field): what its printed functions come to. -/
import Derived.Test.YtpidbpmkogbdeaaQX
import Derived.Test.YtpidbpmkogbdeaaQFrame0
import Derived.Test.YtpidbpmkogbdeaaFfield
import Derived.Test.YtpidbpmkogbdeaaFref12
namespace Go.Proofs.Ytpidbpmkogbdeaa.Pure
open Go Go.Proofs.Ytpidbpmkogbdeaa.Va
set_option linter.unusedVariables false
set_option linter.unusedSimpArgs false

/-- May a field be? -/
def rgtF (d k lo hi m : Int) : Prop := (0 ≤ d ∧ d ≤ 255) ∧ ((k = 1 ∧ -1099511627776 ≤ lo ∧ lo ≤ hi ∧ hi ≤ 1099511627776 ∧ m = 0) ∨ (k = 2 ∧ lo = 0 ∧ hi = 0 ∧ m = 0) ∨
  (k = 3 ∧ lo = 0 ∧ hi = 0 ∧ 1 ≤ m ∧ m ≤ 1000) ∨ (k = 4 ∧ lo = 0 ∧ hi = 0 ∧ 0 ≤ m ∧ m ≤ 32))
instance (d k lo hi m : Int) : Decidable (rgtF d k lo hi m) := by unfold rgtF; infer_instance
def loF (k lo : Int) : Int := if k = 1 then lo else 0
def hiF (k hi m : Int) : Int := if k = 1 then hi else if k = 2 then 1 else if k = 3 then w64 (m - 1) else 0
def moF (k m : Int) : Int := if k = 4 then m else 0

theorem field_Right_eq (d k lo hi m : Int) : field_Right.c d k lo hi m = some (decide (rgtF d k lo hi m)) := by
  simp only [field_Right.c, field_Right.t, Tw.run_bb, Tw.run_ret, decide_eq_true_eq, beq_iff_eq]
  repeat' split
  all_goals (congr 1; rw [Bool.eq_iff_iff]; simp only [Bool.false_eq_true, false_iff, decide_eq_true_eq, beq_iff_eq]; unfold rgtF; omega)

theorem field_bounds_eq (d k lo hi m : Int) : field_bounds.c d k lo hi m = some (loF k lo, hiF k hi m) := by
  simp only [field_bounds.c, field_bounds.t, Tw.run_bb, Tw.run_ret, beq_iff_eq, loF, hiF]
  by_cases h1 : k = 1
  · simp only [h1, if_true]
  by_cases h2 : k = 2
  · simp only [h1, h2, if_true, if_false]; rfl
  by_cases h3 : k = 3
  · simp only [h1, h2, h3, if_true, if_false]; rfl
  · simp only [h1, h2, h3, if_false]

theorem ref12_Span_eq (d k lo hi m : Int) : ref12_Span.c d k lo hi m = some (loF k lo, hiF k hi m, moF k m, decide (rgtF d k lo hi m)) := by
  have key : ref12_Span.c d k lo hi m = some (loF k lo, hiF k hi m, moF k m, ((ref12_Span.c d k lo hi m).map fun x => x.2.2.2).getD false) ∧ ((ref12_Span.c d k lo hi m).map fun x => x.2.2.2) = some (decide (rgtF d k lo hi m)) := by
    simp only [ref12_Span.c, ref12_Span.t, Tw.run_bb, Tw.run_ret, decide_eq_true_eq, beq_iff_eq]
    constructor
    · repeat' split
      all_goals (simp only [loF, hiF, moF, Option.map_some, Option.getD_some]; simp_all)
    · repeat' split
      all_goals (simp only [Option.map_some]; congr 1; rw [Bool.eq_iff_iff]; simp only [Bool.false_eq_true, false_iff, decide_eq_true_eq, beq_iff_eq]; unfold rgtF; omega)
  rw [key.1, key.2]
  rfl

theorem ref12_Right_eq (d k lo hi m : Int) : ref12_Right.c d k lo hi m = some (decide (rgtF d k lo hi m)) := by
  simp only [ref12_Right.c, ref12_Right.t, Tw.run_opt, Tw.run_ret, ref12_Span_eq, Option.bind_some]

/-- Is a value of it? -/
def hasF (d k lo hi m n : Int) (s : ByteArray) : Prop := rgtF d k lo hi m ∧ loF k lo ≤ n ∧ n ≤ hiF k hi m ∧ (s.size : Int) ≤ moF k m
instance (d k lo hi m n : Int) (s : ByteArray) : Decidable (hasF d k lo hi m n s) := by unfold hasF; infer_instance

theorem field_Has_eq (d k lo hi m n : Int) (s : ByteArray) : field_Has.c d k lo hi m n s = some (decide (hasF d k lo hi m n s)) := by
  simp only [field_Has.c, field_Has.t, Tw.run_opt, Tw.run_bb, Tw.run_ret, field_bounds_eq, field_Right_eq, Option.bind_some, decide_eq_true_eq, beq_iff_eq]
  by_cases h : k = 4
  · have e : moF k m = m := by unfold moF; rw [if_pos h]
    rw [if_pos h]
    repeat' split
    all_goals (congr 1; rw [Bool.eq_iff_iff]; simp only [Bool.false_eq_true, false_iff, decide_eq_true_eq, hasF]; simp_all <;> (intros; omega))
  · have e : moF k m = 0 := by unfold moF; rw [if_neg h]
    rw [if_neg h]
    repeat' split
    all_goals (congr 1; rw [Bool.eq_iff_iff]; simp only [Bool.false_eq_true, false_iff, decide_eq_true_eq, hasF]; simp_all <;> (intros; omega))
theorem ref12_Has_eq (d k lo hi m n : Int) (s : ByteArray) : ref12_Has.c d k lo hi m n s = some (decide (hasF d k lo hi m n s)) := by
  simp only [ref12_Has.c, ref12_Has.t, Tw.run_opt, Tw.run_bb, Tw.run_ret, ref12_Span_eq, Option.bind_some, decide_eq_true_eq]
  repeat' split
  all_goals (congr 1; rw [Bool.eq_iff_iff]; simp only [Bool.false_eq_true, false_iff, decide_eq_true_eq, hasF]; simp_all <;> (intros; omega))

def lstF (d k lo hi m : Int) : Int × ByteArray := (if rgtF d k lo hi m then loF k lo else 0, ByteArray.empty)
theorem field_Least_eq (d k lo hi m : Int) : field_Least.c d k lo hi m = some (lstF d k lo hi m) := by
  simp only [field_Least.c, field_Least.t, Tw.run_opt, Tw.run_bb, Tw.run_ret, field_bounds_eq, field_Right_eq, Option.bind_some]
  unfold lstF
  by_cases h : rgtF d k lo hi m
  · rw [decide_eq_true h, if_pos h]; rfl
  · rw [decide_eq_false h, if_neg h]; rfl
/-- How many bytes hold numbers up to one. -/
def wid (n : Nat) : Nat := if h : n = 0 then 0 else wid (n / 256) + 1
decreasing_by omega
theorem wid_zero : wid 0 = 0 := by rw [wid]; simp
theorem wid_pos {n : Nat} (h : n ≠ 0) : wid n = wid (n / 256) + 1 := by rw [wid]; simp [h]
theorem wid_lt (n : Nat) : n < 256 ^ wid n := by
  induction n using Nat.strongRecOn with
  | _ n ih =>
    by_cases h : n = 0
    · subst h; rw [wid_zero]; decide
    · rw [wid_pos h, Nat.pow_succ]
      have := ih (n / 256) (by omega)
      omega
theorem wid_le : ∀ (k n : Nat), n < 256 ^ k → wid n ≤ k
  | 0, n, h => by
    have : n = 0 := by simpa using h
    subst this
    rw [wid_zero]
    exact Nat.le_refl _
  | k + 1, n, h => by
    by_cases h0 : n = 0
    · subst h0; rw [wid_zero]; omega
    · rw [wid_pos h0]
      have := wid_le k (n / 256) (by rw [Nat.pow_succ] at h; omega)
      omega

theorem bShr_8 {n : Nat} : bShr .i64 (n : Int) 8 = ((n / 256 : Nat) : Int) := by
  show Int.fdiv (n : Int) (2 ^ min ((8 : Int).toNat) 64) = _
  rw [show min ((8 : Int).toNat) 64 = 8 from rfl, Int.fdiv_eq_ediv_of_nonneg _ (by decide)]
  rfl
theorem field_width_L2 : ∀ (n w : Nat), w + wid n < 4611686018427387904 → field_width.L2 (n : Int) (w : Int) = some ((w + wid n : Nat) : Int) := by
  intro n
  induction n using Nat.strongRecOn with
  | _ n ih =>
    intro w hw
    by_cases h : n = 0
    · subst h
      refine Lp_end ?_
      simp only [field_width.l2, Tw.run_bb]
      rw [if_neg (by simp), wid_zero]
      rfl
    · rw [wid_pos h] at hw
      refine (Lp_next (s' := (((n / 256 : Nat) : Int), ((w + 1 : Nat) : Int))) ?_).trans ?_
      · simp only [field_width.l2, Tw.run_bb, Tw.run_ret, bShr_8]
        rw [if_pos (by simp; omega), w64_of (by omega) (by omega)]
        rfl
      · have := ih (n / 256) (by omega) (w + 1) (by omega)
        unfold field_width.L2 at this
        rw [this, wid_pos h]
        congr 2
        omega
theorem field_width_eq (n : Nat) (h : n < 9223372036854775808) : field_width.c (n : Int) = some ((wid n : Nat) : Int) := by
  have := wid_le 8 n (by omega)
  have := field_width_L2 n 0 (by omega)
  rw [Nat.zero_add] at this
  simp only [field_width.c, field_width.t, Tw.run_opt, Tw.run_ret]
  rw [show field_width.L2 (n : Int) 0 = some ((wid n : Nat) : Int) from this]
  rfl
theorem ref12_wide_L2 : ∀ (n w : Nat), n < 9223372036854775808 → w + wid n < 4611686018427387904 → ref12_wide.L2 (n : Int) (w : Int) = some ((w + wid n : Nat) : Int) := by
  intro n
  induction n using Nat.strongRecOn with
  | _ n ih =>
    intro w hn hw
    by_cases h : n = 0
    · subst h
      refine Lp_end ?_
      simp only [ref12_wide.l2, Tw.run_bb]
      rw [if_neg (by simp), wid_zero]
      rfl
    · rw [wid_pos h] at hw
      refine (Lp_next (s' := (((n / 256 : Nat) : Int), ((w + 1 : Nat) : Int))) ?_).trans ?_
      · simp only [ref12_wide.l2, Tw.run_bb, Tw.run_ret]
        rw [if_pos (by simp; omega), show Int.tdiv (n : Int) 256 = ((n / 256 : Nat) : Int) from rfl, w64_of (by omega) (by omega), w64_of (by omega) (by omega)]
        rfl
      · have := ih (n / 256) (by omega) (w + 1) (by omega) (by omega)
        unfold ref12_wide.L2 at this
        rw [this, wid_pos h]
        congr 2
        omega
theorem ref12_wide_eq (n : Nat) (h : n < 9223372036854775808) : ref12_wide.c (n : Int) = some ((wid n : Nat) : Int) := by
  have := wid_le 8 n (by omega)
  have := ref12_wide_L2 n 0 h (by omega)
  rw [Nat.zero_add] at this
  simp only [ref12_wide.c, ref12_wide.t, Tw.run_opt, Tw.run_ret]
  rw [show ref12_wide.L2 (n : Int) 0 = some ((wid n : Nat) : Int) from this]
  rfl

/-- How many numbers a field has, less one; how many bytes they take. -/
def rngF (k lo hi m : Int) : Nat := (hiF k hi m - loF k lo).toNat
def widF (k lo hi m : Int) : Nat := wid (rngF k lo hi m)
theorem rng_of {d k lo hi m : Int} (h : rgtF d k lo hi m) : hiF k hi m - loF k lo = ((rngF k lo hi m : Nat) : Int) ∧ rngF k lo hi m ≤ 2199023255552 ∧ w64 (hiF k hi m - loF k lo) = ((rngF k lo hi m : Nat) : Int) := by
  obtain ⟨_, h⟩ := h
  have key : 0 ≤ hiF k hi m - loF k lo ∧ hiF k hi m - loF k lo ≤ 2199023255552 := by
    unfold hiF loF
    rcases h with ⟨rfl, h⟩ | ⟨rfl, h⟩ | ⟨rfl, h⟩ | ⟨rfl, h⟩
    · simp only [if_true]; omega
    · simp
    · simp only [if_true, show ¬ (3 : Int) = 1 by decide, show ¬ (3 : Int) = 2 by decide, if_false]
      rw [w64_of (by omega) (by omega)]
      omega
    · simp
  unfold rngF
  refine ⟨by omega, by omega, ?_⟩
  rw [w64_of (by omega) (by omega)]
  omega
theorem widF_le {d k lo hi m : Int} (h : rgtF d k lo hi m) : widF k lo hi m ≤ 6 := wid_le 6 _ (by have := (rng_of h).2.1; omega)
theorem field_wide_eq {d k lo hi m : Int} (h : rgtF d k lo hi m) : field_wide.c d k lo hi m = some ((widF k lo hi m : Nat) : Int) := by
  obtain ⟨_, h2, h3⟩ := rng_of h
  simp only [field_wide.c, field_wide.t, Tw.run_opt, Tw.run_ret, field_bounds_eq, Option.bind_some, h3, field_width_eq _ (show rngF k lo hi m < 9223372036854775808 by omega)]
  rfl

def sizF (d k lo hi m : Int) : Int := if rgtF d k lo hi m then if k = 4 then m + 1 else ((widF k lo hi m : Nat) : Int) else 0
theorem field_Size_eq (d k lo hi m : Int) : field_Size.c d k lo hi m = some (sizF d k lo hi m) := by
  simp only [field_Size.c, field_Size.t, Tw.run_opt, field_Right_eq, Option.bind_some]
  unfold sizF
  by_cases h : rgtF d k lo hi m
  rotate_left
  · rw [decide_eq_false h, if_neg h]; rfl
  rw [decide_eq_true h, if_pos h, bb_neg (by rfl)]
  by_cases h4 : k = 4
  · rw [bb_pos (by simpa using h4), if_pos h4]
    obtain ⟨_, h⟩ := h
    rw [Tw.run_ret, w64_of (by omega) (by omega)]
  rw [bb_neg (by simpa using h4), if_neg h4]
  by_cases h2 : k = 2
  · rw [bb_pos (by simpa using h2)]
    have : rngF k lo hi m = 1 := by
      subst h2
      unfold rngF hiF loF
      rfl
    unfold widF
    rw [this]
    have : wid 1 = 1 := by rw [wid_pos (by decide)]; simp [wid_zero]
    rw [this]
    rfl
  rw [bb_neg (by simpa using h2)]
  simp only [Tw.run_opt, field_wide_eq h, Option.bind_some]
  rfl
theorem ref12_Size_eq (d k lo hi m : Int) : ref12_Size.c d k lo hi m = some (sizF d k lo hi m) := by
  simp only [ref12_Size.c, ref12_Size.t, Tw.run_opt, ref12_Span_eq, Option.bind_some]
  unfold sizF
  by_cases h : rgtF d k lo hi m
  rotate_left
  · rw [decide_eq_false h, if_neg h]; rfl
  rw [decide_eq_true h, if_pos h, bb_neg (by rfl)]
  by_cases h4 : k = 4
  · rw [bb_pos (by simpa using h4), if_pos h4]
    obtain ⟨_, h⟩ := h
    have : moF k m = m := by unfold moF; rw [if_pos h4]
    rw [Tw.run_ret, this, w64_of (by omega) (by omega), Int.add_comm]
  rw [bb_neg (by simpa using h4), if_neg h4]
  obtain ⟨_, h2, h3⟩ := rng_of h
  simp only [Tw.run_opt, h3, ref12_wide_eq _ (show rngF k lo hi m < 9223372036854775808 by omega), Option.bind_some]
  rfl

/-- Are all values of the one those of the other? -/
def widr (d k lo hi m d' k' lo' hi' m' : Int) : Prop := rgtF d k lo hi m ∧ rgtF d' k' lo' hi' m' ∧ k = k' ∧ loF k' lo' ≤ loF k lo ∧ hiF k hi m ≤ hiF k' hi' m' ∧ moF k m ≤ moF k' m'
instance (d k lo hi m d' k' lo' hi' m' : Int) : Decidable (widr d k lo hi m d' k' lo' hi' m') := by unfold widr; infer_instance
/-! Numbers in bytes, the greatest first. -/
def digs (x : Nat) : Nat → List Int
  | 0 => []
  | k + 1 => ((x / 256 ^ k % 256 : Nat) : Int) :: digs x k
theorem digs_len (x : Nat) : ∀ k, (digs x k).length = k
  | 0 => rfl
  | k + 1 => by rw [digs, List.length_cons, digs_len x k]
theorem digs_bytes (x : Nat) : ∀ k, Bytes (digs x k)
  | 0 => fun _ h => nomatch h
  | k + 1 => fun y hy => by
    rcases List.mem_cons.1 hy with rfl | hy
    · exact inR_u8 (by omega)
    · exact digs_bytes x k y hy
def valB (l : List Int) : Nat := l.foldl (fun u c => 256 * u + c.toNat) 0
theorem valB_snoc (l : List Int) (c : Int) : valB (l ++ [c]) = 256 * valB l + c.toNat := by simp [valB]
theorem byte_nat {c : Int} (h : InR .u8 c) : c.toNat < 256 := by have := h.u8; omega
theorem valB_lt {l : List Int} (h : Bytes l) : valB l < 256 ^ l.length := by
  unfold valB
  have key : ∀ (l : List Int) (u k : Nat), Bytes l → u < 256 ^ k → l.foldl (fun u c => 256 * u + c.toNat) u < 256 ^ (k + l.length) := by
    intro l
    induction l with
    | nil => intro u k _ hu; exact hu
    | cons c l ih =>
      intro u k hb hu
      have hc := byte_nat (hb c (by simp))
      rw [List.foldl_cons, List.length_cons, show k + (l.length + 1) = (k + 1) + l.length by omega]
      exact ih _ _ (fun x hx => hb x (List.mem_cons_of_mem _ hx)) (by rw [Nat.pow_succ]; omega)
  simpa using key l 0 0 h (by decide)
theorem val_digs (x : Nat) : ∀ k, valB (digs x k) = x % 256 ^ k := by
  unfold valB
  have key : ∀ (k u : Nat), (digs x k).foldl (fun u c => 256 * u + c.toNat) u = u * 256 ^ k + x % 256 ^ k := by
    intro k
    induction k with
    | zero => intro u; simp [digs, Nat.mod_one]
    | succ k ih =>
      intro u
      rw [digs, List.foldl_cons, ih, Int.toNat_natCast, Nat.pow_succ, Nat.mod_mul, Nat.add_mul]
      have e1 : u * (256 ^ k * 256) = 256 * u * 256 ^ k := by rw [Nat.mul_comm (256 ^ k) 256, ← Nat.mul_assoc, Nat.mul_comm u 256]
      rw [e1, Nat.mul_comm (256 ^ k) (x / 256 ^ k % 256)]
      omega
  intro k
  simpa using key k 0
theorem digs_snoc (x : Nat) : ∀ k, digs x (k + 1) = digs (x / 256) k ++ [((x % 256 : Nat) : Int)]
  | 0 => by simp [digs]
  | k + 1 => by
    rw [digs, digs_snoc x k, digs, Nat.div_div_eq_div_mul, Nat.pow_succ, Nat.mul_comm (256 ^ k) 256]
    rfl
theorem digs_val : ∀ (n : Nat) (l : List Int), l.length = n → Bytes l → digs (valB l) n = l
  | 0, l, hl, _ => by
    have : l = [] := List.eq_nil_of_length_eq_zero hl
    subst this
    rfl
  | n + 1, l, hl, hb => by
    obtain ⟨l', c, rfl⟩ : ∃ l' c, l = l' ++ [c] := by
      refine ⟨l.dropLast, l.getLast (by intro h; rw [h] at hl; cases hl), ?_⟩
      exact (List.dropLast_concat_getLast _).symm
    have hl' : l'.length = n := by simpa using hl
    have hc := byte_nat (hb c (by simp))
    have hc2 := (hb c (by simp)).u8
    rw [digs_snoc, valB_snoc, show (256 * valB l' + c.toNat) / 256 = valB l' by omega, show (256 * valB l' + c.toNat) % 256 = c.toNat by omega,
      digs_val n l' hl' (fun x hx => hb x (List.mem_append_left _ hx))]
    congr 2
    omega

/-- A value's bytes. -/
def layF (k lo hi m n : Int) (s : ByteArray) : List Int := if k = 4 then (s.size : Int) :: b2l s else digs (n - loF k lo).toNat (widF k lo hi m)
theorem bAnd_255 (x : Nat) (h : x < 9223372036854775808) : bAnd .i64 (x : Int) 255 = ((x % 256 : Nat) : Int) := by
  have hx : x &&& 255 < 2 ^ 63 := Nat.and_lt_two_pow _ (by decide)
  show w64 ((BitVec.ofInt 64 (x : Int) &&& BitVec.ofInt 64 ((255 : Nat) : Int)).toNat : Int) = _
  rw [BitVec.ofInt_natCast, BitVec.ofInt_natCast, BitVec.toNat_and, BitVec.toNat_ofNat, BitVec.toNat_ofNat, Nat.mod_eq_of_lt (by omega), Nat.mod_eq_of_lt (by omega)]
  rw [w64_of (by omega) (by omega), show (255 : Nat) = 2 ^ 8 - 1 by decide, Nat.and_two_pow_sub_one_eq_mod]

theorem field_Lay_eq (d k lo hi m n : Int) (s : ByteArray) : field_Lay.c d k lo hi m n s = some (if rgtF d k lo hi m then if hasF d k lo hi m n s then (0, layF k lo hi m n s) else (16, []) else (2, [])) := by
  simp only [field_Lay.c, field_Lay.t, Tw.run_opt, field_Right_eq, field_Has_eq, Option.bind_some]
  by_cases h : rgtF d k lo hi m
  rotate_left
  · rw [decide_eq_false h, if_neg h]; rfl
  rw [decide_eq_true h, if_pos h, bb_neg (by rfl)]
  simp only [Tw.run_opt, Option.bind_some]
  by_cases hh : hasF d k lo hi m n s
  rotate_left
  · rw [decide_eq_false hh, if_neg hh]; rfl
  rw [decide_eq_true hh, if_pos hh, bb_neg (by rfl)]
  unfold layF
  obtain ⟨_, h1, h2, h3⟩ := hh
  by_cases h4 : k = 4
  · have hm : moF k m = m := by unfold moF; rw [if_pos h4]
    have hs : s.size ≤ 32 := by rw [hm] at h3; obtain ⟨_, h⟩ := h; omega
    rw [bb_pos (by simpa using h4), if_pos h4, dd_pos (by simp only [List.length_cons, List.length_nil, b2l_len]; omega), w8_of (by omega) (by omega)]
    rfl
  · rw [bb_neg (by simpa using h4), if_neg h4]
    obtain ⟨r1, r2, r3⟩ := rng_of h
    have hw := widF_le h
    have hlt : rngF k lo hi m < 256 ^ widF k lo hi m := wid_lt _
    obtain ⟨x, hx⟩ : ∃ x : Nat, n - loF k lo = (x : Int) := ⟨(n - loF k lo).toNat, by omega⟩
    have hxr : x ≤ rngF k lo hi m := by omega
    simp only [Tw.run_opt, field_bounds_eq, field_wide_eq h, Option.bind_some, hx, Int.toNat_natCast, List.length_replicate]
    obtain ⟨w, hwe⟩ : ∃ w, w = widF k lo hi m := ⟨_, rfl⟩
    rw [← hwe] at hw hlt ⊢
    rw [dd_pos (by omega), w64_of (n := (x : Int)) (by omega) (by omega), w64_of (n := (w : Int) - 1) (by omega) (by omega)]
    have hL : field_Lay.L10 ((w : Int) - 1) (x : Int) (List.replicate w 0) = some (digs x w) := by
      have := Lp_seq (fun q => (field_Lay.l10 q.1 q.2.1 q.2.2).run) (fun j => ((w : Int) - 1 - (j : Int), (((x / 256 ^ j : Nat) : Int), List.replicate (w - j) (0 : Int) ++ digs x j))) (x := digs x w) w 0 (fun j _ hj => ?_) ?_
      · simp only [digs, Nat.pow_zero, Nat.div_one, Nat.sub_zero, List.append_nil] at this
        simp at this
        exact this
      · have hj' : j < w := by omega
        have e1 : (w : Int) - 1 - (j : Int) = ((w - 1 - j : Nat) : Int) := by omega
        have hdl : x / 256 ^ j ≤ x := Nat.div_le_self _ _
        have hlen : (List.replicate (w - j) (0 : Int) ++ digs x j).length = w := by rw [List.length_append, List.length_replicate, digs_len]; omega
        simp only [field_Lay.l10]
        rw [bb_pos (decide_eq_true (by omega)), dd_pos (by rw [hlen]; omega), e1, Int.toNat_natCast, getD_some 0 (show w - 1 - j < _ by rw [hlen]; omega)]
        simp only [Tw.run_opt, Option.bind_some, Tw.run_ret]
        rw [bAnd_255 _ (by omega), w8_of (by omega) (by omega), w64_of (by omega) (by omega), bShr_8]
        have e2 : ((w - 1 - j : Nat) : Int) - 1 = (w : Int) - 1 - ((j + 1 : Nat) : Int) := by omega
        have e3 : x / 256 ^ j / 256 = x / 256 ^ (j + 1) := by rw [Nat.pow_succ, Nat.div_div_eq_div_mul]
        have e4 : (List.replicate (w - j) (0 : Int) ++ digs x j).set (w - 1 - j) ((x / 256 ^ j % 256 : Nat) : Int) = List.replicate (w - (j + 1)) (0 : Int) ++ digs x (j + 1) := by
          rw [show w - j = (w - (j + 1)) + 1 by omega, List.replicate_succ', List.append_assoc, List.set_append_right _ _ (by rw [List.length_replicate]; omega), List.length_replicate, show w - 1 - j - (w - (j + 1)) = 0 by omega]
          rfl
        rw [e2, e3, e4]
      · simp only [field_Lay.l10, Nat.zero_add]
        rw [bb_neg (decide_eq_false (by omega)), Nat.sub_self]
        rfl
    simp only [Tw.run_opt, hL, Option.bind_some, Tw.run_ret]

theorem ref12_Lay_eq {d k lo hi m n : Int} {s : ByteArray} (hh : hasF d k lo hi m n s) : ref12_Lay.c d k lo hi m n s = some (layF k lo hi m n s) := by
  simp only [ref12_Lay.c, ref12_Lay.t, Tw.run_opt, ref12_Span_eq, Option.bind_some]
  unfold layF
  obtain ⟨h, h1, h2, h3⟩ := hh
  by_cases h4 : k = 4
  · have hm : moF k m = m := by unfold moF; rw [if_pos h4]
    have hs : s.size ≤ 32 := by rw [hm] at h3; obtain ⟨_, h⟩ := h; omega
    rw [bb_pos (by simpa using h4), if_pos h4, dd_pos (by simp only [List.length_cons, List.length_nil, b2l_len]; omega), w8_of (by omega) (by omega)]
    rfl
  · rw [bb_neg (by simpa using h4), if_neg h4]
    obtain ⟨r1, r2, r3⟩ := rng_of h
    have hw := widF_le h
    have hlt : rngF k lo hi m < 256 ^ widF k lo hi m := wid_lt _
    obtain ⟨x, hx⟩ : ∃ x : Nat, n - loF k lo = (x : Int) := ⟨(n - loF k lo).toNat, by omega⟩
    have hxr : x ≤ rngF k lo hi m := by omega
    have hsz : ref12_Size.c d k lo hi m = some ((widF k lo hi m : Nat) : Int) := by rw [ref12_Size_eq]; unfold sizF; rw [if_pos h, if_neg h4]
    obtain ⟨w, hwe⟩ : ∃ w, w = widF k lo hi m := ⟨_, rfl⟩
    rw [← hwe] at hw hlt hsz ⊢
    rw [hx, w64_of (n := (x : Int)) (by omega) (by omega), Int.toNat_natCast]
    have hq : ∀ y : Nat, y ≤ 2199023255552 → w64 ((y / 256 : Nat) : Int) = ((y / 256 : Nat) : Int) ∧ w8 ((y % 256 : Nat) : Int) = ((y % 256 : Nat) : Int) := fun y hy => ⟨w64_of (by omega) (by omega), w8_of (by omega) (by omega)⟩
    have hL : ref12_Lay.L7 (x : Int) 0 d k lo hi m [] = some (digs x w) := by
      have := Lp_seq (fun q => (ref12_Lay.l7 d k lo hi m q.1 q.2.1 q.2.2).run) (fun j => (((x / 256 ^ j : Nat) : Int), ((j : Int), digs x j))) (x := digs x w) w 0 (fun j _ hj => ?_) ?_
      · simp only [digs, Nat.pow_zero, Nat.div_one, Nat.sub_zero, List.append_nil] at this
        simp at this
        exact this
      · have hj' : j < w := by omega
        have hdl : x / 256 ^ j ≤ x := Nat.div_le_self _ _
        simp only [ref12_Lay.l7, Tw.run_opt, hsz, Option.bind_some]
        rw [bb_pos (decide_eq_true (by omega)), dd_pos (by rw [digs_len]; simp only [List.length_cons, List.length_nil]; omega)]
        simp only [Tw.run_ret]
        rw [show Int.tdiv ((x / 256 ^ j : Nat) : Int) 256 = ((x / 256 ^ j / 256 : Nat) : Int) from rfl, show Int.tmod ((x / 256 ^ j : Nat) : Int) 256 = ((x / 256 ^ j % 256 : Nat) : Int) from rfl, (hq _ (Nat.le_trans hdl (by omega))).1, w64_of (n := (j : Int) + 1) (by omega) (by omega), (hq _ (Nat.le_trans hdl (by omega))).2]
        have e3 : x / 256 ^ j / 256 = x / 256 ^ (j + 1) := by rw [Nat.pow_succ, Nat.div_div_eq_div_mul]
        rw [e3]
        rfl
      · simp only [ref12_Lay.l7, Nat.zero_add, Tw.run_opt, hsz, Option.bind_some]
        rw [bb_neg (decide_eq_false (by omega))]
        rfl
    simp only [Tw.run_opt, hL, Option.bind_some, Tw.run_ret]

/-- What is read of bytes. -/
def cntF (k lo hi m : Int) : Nat := if k = 4 then 1 else widF k lo hi m
def takF (d k lo hi m : Int) (b : List Int) : Int × (ByteArray × (Int × Int)) :=
  if rgtF d k lo hi m then
    if b.length < cntF k lo hi m then (0, ByteArray.empty, 0, 5)
    else if k = 4 then
      if valB (b.take 1) > m.toNat then (0, ByteArray.empty, 0, 16)
      else if b.length < 1 + valB (b.take 1) then (0, ByteArray.empty, 0, 5)
      else (0, l2b ((b.drop 1).take (valB (b.take 1))), ((1 + valB (b.take 1) : Nat) : Int), 0)
    else if valB (b.take (cntF k lo hi m)) > rngF k lo hi m then (0, ByteArray.empty, 0, 16)
    else (loF k lo + ((valB (b.take (cntF k lo hi m)) : Nat) : Int), ByteArray.empty, ((cntF k lo hi m : Nat) : Int), 0)
  else (0, ByteArray.empty, 0, 2)

theorem valB_take {b : List Int} {i : Nat} (h : i < b.length) : valB (b.take (i + 1)) = 256 * valB (b.take i) + (b.getD i 0).toNat := by rw [take_snoc 0 h, valB_snoc]
theorem valB_le {l : List Int} (h : Bytes l) (hl : l.length ≤ 6) : valB l < 281474976710656 := by
  have h1 := valB_lt h
  have h2 : 256 ^ l.length ≤ 256 ^ 6 := Nat.pow_le_pow_right (by decide) hl
  omega
theorem byte_getD {b : List Int} (hb : Bytes b) (i : Nat) : 0 ≤ b.getD i 0 ∧ b.getD i 0 < 256 := by
  rw [List.getD_eq_getElem?_getD]
  cases e : b[i]? with
  | none => simp
  | some x => exact (hb x (List.mem_of_getElem? e)).u8

theorem field_Take_L10 {b : List Int} (hb : Bytes b) {n : Nat} (hn : n ≤ b.length) (hn6 : n ≤ 6) (y : Int) (t : Bool) (a1 a2 a3 a4 a5 a6 : Int) (a7 : ByteArray) :
    field_Take.L10 b y t 0 (b.take n) ((b.take n).length : Int) 0 a1 a2 a3 a4 a5 a6 a7 = some ((valB (b.take n) : Nat) : Int) := by
  have hl : (b.take n).length = n := by rw [List.length_take]; omega
  have := Lp_seq (fun q => (field_Take.l10 b y t (b.take n) ((b.take n).length : Int) a1 a2 a3 a4 a5 a6 a7 q.1 q.2).run) (fun j => (((valB (b.take j) : Nat) : Int), (j : Int))) (x := ((valB (b.take n) : Nat) : Int)) n 0 (fun j _ hj => ?_) ?_
  · exact this
  · have hj' : j < n := by omega
    have hv := valB_le (bytes_take hb j) (by rw [List.length_take]; omega)
    have hc := byte_getD hb j
    have hg : (b.take n)[j]? = some (b.getD j 0) := by rw [List.getElem?_take, if_pos hj', getD_some 0 (by omega)]
    simp only [field_Take.l10]
    rw [bb_pos (decide_eq_true (by rw [hl]; omega)), dd_pos (by omega), Int.toNat_natCast, hg]
    simp only [Tw.run_opt, Option.bind_some, Tw.run_ret]
    rw [w64_of (n := b.getD j 0) (by omega) (by omega), w64_of (n := (j : Int) + 1) (by omega) (by omega), show (8 : Int) = ((8 : Nat) : Int) from rfl, bShl64 _ 8 (by omega) (by omega) (by omega), bOr64_add 8 (by omega) (by omega) (by omega) (by omega) (by omega), valB_take (show j < b.length by omega)]
    congr 3
    omega
  · simp only [field_Take.l10, Nat.zero_add]
    rw [bb_neg (decide_eq_false (by rw [hl]; omega))]
    rfl
theorem ref12_Take_L9 {b : List Int} (hb : Bytes b) {n : Nat} (hn : n ≤ b.length) (hn6 : n ≤ 6) (a8 a9 a0 a1 a2 a3 a4 a5 a6 : Int) (a7 : ByteArray) :
    ref12_Take.L9 b a8 a9 a0 (n : Int) 0 0 a1 a2 a3 a4 a5 a6 a7 = some ((valB (b.take n) : Nat) : Int) := by
  have := Lp_seq (fun q => (ref12_Take.l9 b a8 a9 a0 (n : Int) a1 a2 a3 a4 a5 a6 a7 q.1 q.2).run) (fun j => (((valB (b.take j) : Nat) : Int), (j : Int))) (x := ((valB (b.take n) : Nat) : Int)) n 0 (fun j _ hj => ?_) ?_
  · exact this
  · have hj' : j < n := by omega
    have hv := valB_le (bytes_take hb j) (by rw [List.length_take]; omega)
    have hc := byte_getD hb j
    simp only [ref12_Take.l9]
    rw [bb_pos (decide_eq_true (by omega)), dd_pos (by omega), Int.toNat_natCast, getD_some 0 (show j < b.length by omega)]
    simp only [Tw.run_opt, Option.bind_some, Tw.run_ret]
    rw [w64_of (n := b.getD j 0) (by omega) (by omega), w64_of (n := (j : Int) + 1) (by omega) (by omega), w64_of (n := 256 * ((valB (b.take j) : Nat) : Int)) (by omega) (by omega), w64_of (by omega) (by omega), valB_take (show j < b.length by omega)]
    congr 3
    omega
  · simp only [ref12_Take.l9, Nat.zero_add]
    rw [bb_neg (decide_eq_false (by omega))]
    rfl

theorem field_Take_eq (d k lo hi m : Int) {b : List Int} (hb : Bytes b) (hl : b.length ≤ 140737488355328) : field_Take.c d k lo hi m b = some (takF d k lo hi m b) := by
  simp only [field_Take.c, field_Take.t, Tw.run_opt, field_Right_eq, Option.bind_some]
  unfold takF
  by_cases h : rgtF d k lo hi m
  rotate_left
  · rw [decide_eq_false h, if_neg h]; rfl
  obtain ⟨r1, r2, r3⟩ := rng_of h
  have hw := widF_le h
  rw [decide_eq_true h, if_pos h, bb_neg (by rfl)]
  simp only [Tw.run_opt, field_wide_eq h, Option.bind_some, field_bounds_eq]
  by_cases h4 : k = 4
  · have hc : cntF k lo hi m = 1 := by unfold cntF; rw [if_pos h4]
    have h4' : (k == 4) = true := by simpa using h4
    rw [bb_pos h4', if_pos h4, hc]
    by_cases h5 : b.length < 1
    · rw [bb_pos (decide_eq_true (by omega)), if_pos h5]; rfl
    rw [bb_neg (decide_eq_false (by omega)), if_neg h5, dd_pos (by omega)]
    have hv := valB_lt (bytes_take hb 1)
    rw [List.length_take, show min 1 b.length = 1 by omega] at hv
    simp only [Tw.run_opt, show Int.toNat (1 : Int) = 1 from rfl, field_Take_L10 hb (show 1 ≤ b.length by omega) (by omega), Option.bind_some]
    obtain ⟨v, hve⟩ : ∃ v, v = valB (b.take 1) := ⟨_, rfl⟩
    rw [← hve] at hv ⊢
    rw [bb_pos h4']
    have hm := h.2
    by_cases h6 : (v : Int) > m
    · rw [bb_pos (decide_eq_true h6), if_pos (by omega)]; rfl
    rw [bb_neg (decide_eq_false h6), if_neg (by omega), bb_neg (by rw [h4']; rfl), bb_neg (by rw [h4']; rfl), w64_of (n := (b.length : Int) - 1) (by omega) (by omega), w64_of (n := 1 + (v : Int)) (by omega) (by omega)]
    by_cases h7 : b.length < 1 + v
    · rw [bb_pos (decide_eq_true (by omega)), if_pos h7]; rfl
    rw [bb_neg (decide_eq_false (by omega)), if_neg h7, dd_pos (by omega)]
    rw [show (1 + (v : Int)).toNat = 1 + v by omega, List.drop_take, show 1 + v - 1 = v by omega]
    simp only [Tw.run_ret]
    congr 3
  · have hc : cntF k lo hi m = widF k lo hi m := by unfold cntF; rw [if_neg h4]
    have h4' : (k == 4) = false := by simpa using h4
    rw [bb_neg h4', if_neg h4, hc]
    by_cases h5 : b.length < widF k lo hi m
    · rw [bb_pos (decide_eq_true (by omega)), if_pos h5]; rfl
    rw [bb_neg (decide_eq_false (by omega)), if_neg h5, dd_pos (by omega)]
    have hv := valB_le (bytes_take hb (widF k lo hi m)) (by rw [List.length_take]; omega)
    simp only [Tw.run_opt, Int.toNat_natCast, field_Take_L10 hb (show widF k lo hi m ≤ b.length by omega) hw, Option.bind_some, r3]
    obtain ⟨v, hve⟩ : ∃ v, v = valB (b.take (widF k lo hi m)) := ⟨_, rfl⟩
    rw [← hve] at hv ⊢
    rw [bb_neg h4', bb_pos (by rw [h4']; rfl)]
    by_cases h6 : v > rngF k lo hi m
    · rw [bb_pos (decide_eq_true (by omega)), if_pos h6]; rfl
    rw [bb_neg (decide_eq_false (by omega)), if_neg h6, bb_pos (by rw [h4']; rfl)]
    have hlo : -1099511627776 ≤ loF k lo ∧ loF k lo ≤ 1099511627776 := by
      have := h.2
      unfold loF
      split <;> omega
    rw [Tw.run_ret, w64_of (by omega) (by omega)]

theorem ref12_Take_eq {d k lo hi m : Int} (h : rgtF d k lo hi m) {b : List Int} (hb : Bytes b) (hl : b.length ≤ 140737488355328) : ref12_Take.c d k lo hi m b = some (takF d k lo hi m b) := by
  simp only [ref12_Take.c, ref12_Take.t, Tw.run_opt, ref12_Span_eq, ref12_Size_eq, Option.bind_some]
  unfold takF
  obtain ⟨r1, r2, r3⟩ := rng_of h
  have hw := widF_le h
  rw [if_pos h]
  by_cases h4 : k = 4
  · have hc : cntF k lo hi m = 1 := by unfold cntF; rw [if_pos h4]
    have hmo : moF k m = m := by unfold moF; rw [if_pos h4]
    have h4' : (k == 4) = true := by simpa using h4
    rw [bb_pos h4', if_pos h4, hc]
    by_cases h5 : b.length < 1
    · rw [bb_pos (decide_eq_true (by omega)), if_pos h5]; rfl
    rw [bb_neg (decide_eq_false (by omega)), if_neg h5]
    have hv := valB_lt (bytes_take hb 1)
    rw [List.length_take, show min 1 b.length = 1 by omega] at hv
    have hL := ref12_Take_L9 hb (show 1 ≤ b.length by omega) (by omega) (loF k lo) (hiF k hi m) (moF k m) d k lo hi m 0 ByteArray.empty
    simp only [Tw.run_opt, show Int.toNat (1 : Int) = 1 from rfl, show (1 : Int) = ((1 : Nat) : Int) from rfl] at hL ⊢
    simp only [hL, Option.bind_some]
    obtain ⟨v, hve⟩ : ∃ v, v = valB (b.take 1) := ⟨_, rfl⟩
    rw [← hve] at hv ⊢
    rw [bb_pos h4', hmo]
    have hm := h.2
    by_cases h6 : (v : Int) > m
    · rw [bb_pos (decide_eq_true h6), if_pos (by omega)]; rfl
    rw [bb_neg (decide_eq_false h6), if_neg (by omega), w64_of (n := ((1 : Nat) : Int) + (v : Int)) (by omega) (by omega)]
    by_cases h7 : b.length < 1 + v
    · rw [bb_pos (decide_eq_true (by omega)), if_pos h7]; rfl
    rw [bb_neg (decide_eq_false (by omega)), if_neg h7, dd_pos (by rw [w64_of (by omega) (by omega)]; omega)]
    rw [show (((1 : Nat) : Int) + (v : Int)).toNat = 1 + v by omega, Int.toNat_natCast, List.drop_take, show 1 + v - 1 = v by omega]
    simp only [Tw.run_ret]
    congr 3
  · have hc : cntF k lo hi m = widF k lo hi m := by unfold cntF; rw [if_neg h4]
    have hsz : sizF d k lo hi m = ((widF k lo hi m : Nat) : Int) := by unfold sizF; rw [if_pos h, if_neg h4]
    have h4' : (k == 4) = false := by simpa using h4
    rw [bb_neg h4', if_neg h4, hc, hsz]
    by_cases h5 : b.length < widF k lo hi m
    · rw [bb_pos (decide_eq_true (by omega)), if_pos h5]; rfl
    rw [bb_neg (decide_eq_false (by omega)), if_neg h5]
    have hv := valB_le (bytes_take hb (widF k lo hi m)) (by rw [List.length_take]; omega)
    simp only [Tw.run_opt, ref12_Take_L9 hb (show widF k lo hi m ≤ b.length by omega) hw, Option.bind_some, r3]
    obtain ⟨v, hve⟩ : ∃ v, v = valB (b.take (widF k lo hi m)) := ⟨_, rfl⟩
    rw [← hve] at hv ⊢
    rw [bb_neg h4']
    by_cases h6 : v > rngF k lo hi m
    · rw [bb_pos (decide_eq_true (by omega)), if_pos h6]; rfl
    rw [bb_neg (decide_eq_false (by omega)), if_neg h6]
    have hlo : -1099511627776 ≤ loF k lo ∧ loF k lo ≤ 1099511627776 := by
      have := h.2
      unfold loF
      split <;> omega
    rw [Tw.run_ret, w64_of (by omega) (by omega)]

end Go.Proofs.Ytpidbpmkogbdeaa.Pure
