/- Plain facts for the printed functions: ranges, wraps, loops. -/
import Derived.Test.YtmlbioapefgioaaV6
import Derived.Test.YtmlbioapefgioaaVc
import GoSem.ClaimJoined
set_option linter.unusedSimpArgs false
set_option linter.unusedVariables false
namespace Go.Proofs.Ytmlbioapefgioaa.Pure
open Go Go.Proofs.Ytmlbioapefgioaa.Va

abbrev InR (k : IntKind) (n : Int) : Prop := (Lit.int k n).wf = true

theorem InR.u32 {n : Int} (h : InR .u32 n) : 0 ≤ n ∧ n < 4294967296 := by
 simp only [InR, Lit.wf, Bool.and_eq_true, decide_eq_true_eq] at h
 have h2 : IntKind.u32.min = 0 := rfl
 have h3 : IntKind.u32.max = 4294967295 := rfl
 omega
theorem InR.u8 {n : Int} (h : InR .u8 n) : 0 ≤ n ∧ n < 256 := by
 simp only [InR, Lit.wf, Bool.and_eq_true, decide_eq_true_eq] at h
 have h2 : IntKind.u8.min = 0 := rfl
 have h3 : IntKind.u8.max = 255 := rfl
 omega
theorem InR.i64 {n : Int} (h : InR .i64 n) : -9223372036854775808 ≤ n ∧ n < 9223372036854775808 := by
 simp only [InR, Lit.wf, Bool.and_eq_true, decide_eq_true_eq] at h
 have h2 : IntKind.i64.min = -9223372036854775808 := rfl
 have h3 : IntKind.i64.max = 9223372036854775807 := rfl
 omega
theorem reach_eq : reachBytes = 140737488351232 := rfl

theorem w32_eq (n : Int) : w32 n = n % 4294967296 := by simp [IntKind.wrap, IntKind.bits, IntKind.signed]
theorem w8_eq (n : Int) : w8 n = n % 256 := by simp [IntKind.wrap, IntKind.bits, IntKind.signed]
theorem w64_of {n : Int} (h1 : -9223372036854775808 ≤ n) (h2 : n < 9223372036854775808) : w64 n = n := by
 have e : w64 n = if n % 18446744073709551616 ≥ 9223372036854775808 then n % 18446744073709551616 - 18446744073709551616 else n % 18446744073709551616 := by
  simp [IntKind.wrap, IntKind.bits, IntKind.signed]
 rw [e]
 split <;> omega
theorem w32_of {n : Int} (h1 : 0 ≤ n) (h2 : n < 4294967296) : w32 n = n := by rw [w32_eq]; omega
theorem w8_of {n : Int} (h1 : 0 ≤ n) (h2 : n < 256) : w8 n = n := by rw [w8_eq]; omega
theorem ofInt_nat (a : Nat) (ha : a < 4294967296) : (BitVec.ofInt 32 (a : Int)).toNat = a := by
 rw [BitVec.ofInt_natCast, BitVec.toNat_ofNat]; exact Nat.mod_eq_of_lt (by omega)
theorem bAnd_nat (a b : Nat) (ha : a < 4294967296) (hb : b < 4294967296) : bAnd .u32 (a : Int) (b : Int) = ((a &&& b : Nat) : Int) := by
 have hx : a &&& b < 2 ^ 32 := Nat.and_lt_two_pow _ (by omega)
 show w32 ((BitVec.ofInt 32 (a : Int) &&& BitVec.ofInt 32 (b : Int)).toNat : Int) = _
 rw [BitVec.toNat_and, ofInt_nat a ha, ofInt_nat b hb, w32_eq]
 omega
theorem bOr_nat (a b : Nat) (ha : a < 4294967296) (hb : b < 4294967296) : bOr .u32 (a : Int) (b : Int) = ((a ||| b : Nat) : Int) := by
 have hx : a ||| b < 2 ^ 32 := Nat.or_lt_two_pow (by omega) (by omega)
 show w32 ((BitVec.ofInt 32 (a : Int) ||| BitVec.ofInt 32 (b : Int)).toNat : Int) = _
 rw [BitVec.toNat_or, ofInt_nat a ha, ofInt_nat b hb, w32_eq]
 omega
theorem bShl_u32 (a : Int) (k : Nat) (hk : k ≤ 32) : bShl .u32 a (k : Int) = (a * 2 ^ k) % 4294967296 := by
 show w32 (a * 2 ^ min ((k : Int).toNat) 32) = _
 rw [w32_eq, Int.toNat_natCast, Nat.min_eq_left hk]
theorem bShr_u32 (a : Int) (k : Nat) (hk : k ≤ 32) : bShr .u32 a (k : Int) = a / 2 ^ k := by
 show a.fdiv (2 ^ min ((k : Int).toNat) 32) = _
 rw [Int.toNat_natCast, Nat.min_eq_left hk, Int.fdiv_eq_ediv_of_nonneg]
 exact Int.le_of_lt (Int.pow_pos (by decide))

section
variable {S X : Type}
theorem Lp_next {f : S → Option (S ⊕ X)} {s s' : S} (h : f s = some (.inl s')) : Lp f s = Lp f s' := by rw [Lp_eq, h]; rfl
theorem Lp_end {f : S → Option (S ⊕ X)} {s : S} {x : X} (h : f s = some (.inr x)) : Lp f s = some x := by rw [Lp_eq, h]; rfl
theorem Lp_seq (f : S → Option (S ⊕ X)) (st : Nat → S) {x : X} : ∀ (n a : Nat), (∀ i, a ≤ i → i < a + n → f (st i) = some (.inl (st (i + 1)))) → f (st (a + n)) = some (.inr x) → Lp f (st a) = some x
 | 0, a, _, h => by rw [Lp_eq, show st a = st (a + 0) from rfl, h]; rfl
 | n + 1, a, hs, h => by
  rw [Lp_eq, hs a (Nat.le_refl _) (by omega)]
  show Lp f (st (a + 1)) = some x
  exact Lp_seq f st n (a + 1) (fun i h1 h2 => hs i (by omega) (by omega)) (by rw [show a + 1 + n = a + (n + 1) by omega]; exact h)
theorem Lp_inv (f : S → Option (S ⊕ X)) (I : S → Prop) (m : S → Nat) (Q : X → Prop) (h : ∀ s, I s → (∃ s', f s = some (.inl s') ∧ I s' ∧ m s' < m s) ∨ (∃ x, f s = some (.inr x) ∧ Q x)) :
  ∀ (k : Nat) (s : S), m s ≤ k → I s → ∃ x, Lp f s = some x ∧ Q x := by
 intro k
 induction k with
 | zero =>
  intro s hm hi
  rcases h s hi with ⟨s', _, _, hlt⟩ | ⟨x, hx, hq⟩
  ·omega
  ·exact ⟨x, by rw [Lp_eq, hx]; rfl, hq⟩
 | succ k ih =>
  intro s hm hi
  rcases h s hi with ⟨s', hs, hi', hlt⟩ | ⟨x, hx, hq⟩
  ·obtain ⟨x, h1, h2⟩ := ih s' (by omega) hi'
   exact ⟨x, by rw [Lp_eq, hs]; exact h1, h2⟩
  ·exact ⟨x, by rw [Lp_eq, hx]; rfl, hq⟩
theorem Lp_find (f : S → Option (S ⊕ X)) (st : Nat → S) (p : Nat → Bool) (x : Nat → X) (y : X) : ∀ (n a : Nat), (∀ k, a ≤ k → k < a + n → f (st k) = some (if p k then .inr (x k) else .inl (st (k + 1)))) → f (st (a + n)) = some (.inr y) →
  Lp f (st a) = some (match (List.range' a n).find? p with | some k => x k | none => y)
 | 0, a, _, h => by rw [Lp_eq, show st a = st (a + 0) from rfl, h]; rfl
 | n + 1, a, hs, h => by
  rw [Lp_eq, hs a (Nat.le_refl _) (by omega), List.range'_succ, List.find?_cons]
  cases hp : p a with
  | true => rfl
  | false =>
   show Lp f (st (a + 1)) = _
   exact Lp_find f st p x y n (a + 1) (fun k h1 h2 => hs k (by omega) (by omega)) (by rw [show a + 1 + n = a + (n + 1) by omega]; exact h)
end

theorem tdiv_nat (a b : Nat) : Int.tdiv (a : Int) (b : Int) = ((a / b : Nat) : Int) := rfl
abbrev Bytes (b : List Int) : Prop := ∀ x ∈ b, InR .u8 x
theorem inR_u32 {n : Int} (h : 0 ≤ n ∧ n < 4294967296) : InR .u32 n := by
 simp only [InR, Lit.wf, Bool.and_eq_true, decide_eq_true_eq]
 have h2 : IntKind.u32.min = 0 := rfl
 have h3 : IntKind.u32.max = 4294967295 := rfl
 omega
theorem inR_u8 {n : Int} (h : 0 ≤ n ∧ n < 256) : InR .u8 n := by
 simp only [InR, Lit.wf, Bool.and_eq_true, decide_eq_true_eq]
 have h2 : IntKind.u8.min = 0 := rfl
 have h3 : IntKind.u8.max = 255 := rfl
 omega
theorem inR_i64 {n : Int} (h : -9223372036854775808 ≤ n ∧ n < 9223372036854775808) : InR .i64 n := by
 simp only [InR, Lit.wf, Bool.and_eq_true, decide_eq_true_eq]
 have h2 : IntKind.i64.min = -9223372036854775808 := rfl
 have h3 : IntKind.i64.max = 9223372036854775807 := rfl
 omega
theorem bOr_add {a b : Int} (k : Nat) (hk : k ≤ 32) (ha : 0 ≤ a) (hab : a + b < 4294967296) (hd : a % 2 ^ k = 0) (hb : 0 ≤ b) (hb2 : b < 2 ^ k) : bOr .u32 a b = a + b := by
 obtain ⟨x, rfl⟩ := Int.eq_ofNat_of_zero_le ha
 obtain ⟨y, rfl⟩ := Int.eq_ofNat_of_zero_le hb
 rw [bOr_nat x y (by omega) (by omega)]
 have hb2' : y < 2 ^ k := by exact_mod_cast hb2
 have hd' : x % 2 ^ k = 0 := by exact_mod_cast hd
 have e : x = 2 ^ k * (x / 2 ^ k) := by
  have := Nat.div_add_mod x (2 ^ k)
  omega
 have : x ||| y = x + y := by
  rw [e]
  exact (Nat.two_pow_add_eq_or_of_lt hb2' _).symm
 rw [this]
 omega

theorem bAnd_mask (k : Nat) (hk : k ≤ 32) {x : Int} (h : 0 ≤ x ∧ x < 4294967296) : bAnd .u32 x (((2 ^ k - 1 : Nat)) : Int) = x % 2 ^ k := by
 obtain ⟨m, rfl⟩ := Int.eq_ofNat_of_zero_le h.1
 have hle : (2 : Nat) ^ k ≤ 2 ^ 32 := Nat.pow_le_pow_right (by decide) hk
 rw [bAnd_nat _ _ (by omega) (by omega), Nat.and_two_pow_sub_one_eq_mod]
 push_cast
 rfl
theorem ba_size (bs : ByteArray) : bs.size = bs.data.toList.length := by rw [Array.length_toList]; rfl
theorem loop_eq (bs : ByteArray) : ∀ (n i : Nat) (r : List UInt8), bs.size - i = n → ByteArray.toList.loop bs i r = r.reverse ++ bs.data.toList.drop i := by
 intro n
 induction n with
 | zero =>
  intro i r h
  rw [ByteArray.toList.loop]
  have hs := ba_size bs
  rw [if_neg (by omega), List.drop_eq_nil_of_le (by omega), List.append_nil]
 | succ n ih =>
  intro i r h
  rw [ByteArray.toList.loop]
  have hs := ba_size bs
  have hi : i < bs.data.toList.length := by omega
  rw [if_pos (by omega), ih (i + 1) _ (by omega)]
  have e : bs.get! i = bs.data.toList[i] := by
   cases bs with | mk d => simp [ByteArray.get!]; rw [getElem!_pos]
  rw [List.drop_eq_getElem_cons hi, e]
  simp
theorem toList_eq (bs : ByteArray) : bs.toList = bs.data.toList := by
 unfold ByteArray.toList
 rw [loop_eq bs _ 0 [] rfl]
 simp
theorem ba_beq (a b : ByteArray) : (a.toList == b.toList) = decide (a = b) := by
 rw [Bool.eq_iff_iff, beq_iff_eq, decide_eq_true_iff, toList_eq, toList_eq]
 constructor
 ·intro h
  cases a; cases b
  simp only [ByteArray.mk.injEq]
  exact Array.ext' h
 ·rintro rfl; rfl

section
variable {S X α : Type}
theorem find_get (q : α → Bool) (d : α) : ∀ (l pre : List α), ((List.range' pre.length l.length).find? fun i => q ((pre ++ l).getD i d)).map (fun i => (pre ++ l).getD i d) = l.find? q
 | [], pre => by simp
 | a :: l, pre => by
  have ea : (pre ++ a :: l).getD pre.length d = a := by simp [List.getD_eq_getElem?_getD]
  rw [List.length_cons, List.range'_succ, List.find?_cons, List.find?_cons, ea]
  cases hq : q a with
  | true => simp [ea]
  | false =>
   have := find_get q d l (pre ++ [a])
   simpa [List.append_assoc] using this
def pickO (o : Option α) (x : α → X) (y : X) : X := match o with | some a => x a | none => y
theorem Lp_list (f : S → Option (S ⊕ X)) (st : Nat → S) (l : List α) (q : α → Bool) (x : α → X) (y : X) (h : ∀ (i : Nat) (a : α), l[i]? = some a → f (st i) = some (if q a then .inr (x a) else .inl (st (i + 1)))) (he : f (st l.length) = some (.inr y)) :
  Lp f (st 0) = some (pickO (l.find? q) x y) := by
 cases l with
 | nil => exact Lp_end he
 | cons a0 l0 =>
  have hlen : 0 < (a0 :: l0).length := by simp
  generalize a0 :: l0 = l at *
  have h1 := Lp_find f st (fun i => q (l.getD i a0)) (fun i => x (l.getD i a0)) y l.length 0 (fun k _ hk => by
   have hk' : k < l.length := by omega
   have e : l[k]? = some (l.getD k a0) := by rw [List.getD_eq_getElem?_getD, List.getElem?_eq_getElem hk']; rfl
   exact h k _ e) (by rw [Nat.zero_add]; exact he)
  rw [h1]
  have h2 := find_get q a0 l []
  simp only [List.nil_append, List.length_nil] at h2
  rw [← h2]
  cases (List.range' 0 l.length).find? fun i => q (l.getD i a0) <;> rfl
theorem take_filter (l : List α) (p : α → Bool) {i : Nat} {a : α} (h : l[i]? = some a) : (l.take (i + 1)).filter p = (l.take i).filter p ++ if p a then [a] else [] := by
 rw [List.take_add_one, h]
 simp only [Option.toList_some, List.filter_append, List.filter_cons, List.filter_nil]
theorem Lp_filter (f : S → Option (S ⊕ X)) (st : Nat → List α → S) (l : List α) (p : α → Bool) (x : X) (h : ∀ (i : Nat) (a : α), l[i]? = some a → f (st i ((l.take i).filter p)) = some (.inl (st (i + 1) ((l.take i).filter p ++ if p a then [a] else [])))) (he : f (st l.length (l.filter p)) = some (.inr x)) :
  Lp f (st 0 []) = some x := by
 have := Lp_seq f (fun i => st i ((l.take i).filter p)) (x := x) l.length 0 (fun i _ hi => by
  have hi' : i < l.length := by omega
  have e : l[i]? = some l[i] := List.getElem?_eq_getElem hi'
  show f (st i ((l.take i).filter p)) = some (.inl (st (i + 1) ((l.take (i + 1)).filter p)))
  rw [h i _ e, take_filter l p e]) (by
  show f (st (0 + l.length) ((l.take (0 + l.length)).filter p)) = _
  rw [Nat.zero_add, List.take_length]
  exact he)
 exact this
end

end Go.Proofs.Ytmlbioapefgioaa.Pure
