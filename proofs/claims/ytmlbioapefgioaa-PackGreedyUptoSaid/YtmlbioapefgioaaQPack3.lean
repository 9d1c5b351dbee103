/- Layer 24 (pack): leaves that fit, and the list of all items. -/
import Derived.Test.YtmlbioapefgioaaQPack2
namespace Go.Proofs.Ytmlbioapefgioaa.Pure
open Go Go.Proofs.Ytmlbioapefgioaa.Va
set_option linter.unusedVariables false
set_option linter.unusedSimpArgs false

abbrev SortI (l : List ItemV) : Prop := l.Pairwise fun x y => x.key < y.key
theorem badAt_none {l : List ItemV} : rightI l = true ↔ ∀ i, i < l.length → badAt l i = false := by
  unfold rightI
  rw [Option.isNone_iff_eq_none, List.find?_eq_none]
  constructor
  · intro h i hi
    simpa using h i (by simp [List.mem_range'_1]; omega)
  · intro h i hi
    have := h i (by simp [List.mem_range'_1] at hi; omega)
    simp [this]
theorem badAt_eq {l : List ItemV} {i : Nat} (hi : i < l.length) : badAt l i = false ↔ l[i].data.size ≤ 64 ∧ (∀ h : 0 < i, l[i - 1].key < l[i].key) := by
  unfold badAt
  rw [List.getElem?_eq_getElem hi]
  simp only [Bool.or_eq_false_iff, decide_eq_false_iff_not, Nat.not_lt, Bool.and_eq_false_imp, decide_eq_true_eq]
  rw [List.getElem?_eq_getElem (show i - 1 < l.length by omega)]
  simp only [decide_eq_false_iff_not]
  constructor
  · rintro ⟨h1, h2⟩
    exact ⟨h1, fun h => by have := h2 h; omega⟩
  · rintro ⟨h1, h2⟩
    exact ⟨h1, fun h => by have := h2 h; omega⟩
theorem sort_of_steps {l : List ItemV} (h : ∀ i (hi : i + 1 < l.length), l[i].key < l[i + 1].key) : SortI l := by
  have key : ∀ (d i : Nat) (hi : i + 1 + d < l.length), l[i].key < l[i + 1 + d].key := by
    intro d
    induction d with
    | zero => intro i hi; exact h i hi
    | succ d ih =>
      intro i hi
      have h1 := ih i (by omega)
      have h2 := h (i + 1 + d) (by omega)
      have e : l[i + 1 + d + 1] = l[i + 1 + (d + 1)] := rfl
      rw [e] at h2
      omega
  rw [SortI, List.pairwise_iff_getElem]
  intro i j hi hj hij
  have := key (j - i - 1) i (by omega)
  have e : l[i + 1 + (j - i - 1)] = l[j] := by congr 1; omega
  rw [e] at this
  exact this
theorem rightI_iff {l : List ItemV} : rightI l = true ↔ (∀ x ∈ l, x.data.size ≤ 64) ∧ SortI l := by
  rw [badAt_none]
  constructor
  · intro h
    refine ⟨fun x hx => ?_, sort_of_steps fun i hi => ?_⟩
    · obtain ⟨i, hi, rfl⟩ := List.getElem_of_mem hx
      exact ((badAt_eq hi).1 (h i hi)).1
    · exact ((badAt_eq hi).1 (h (i + 1) hi)).2 (by omega)
  · rintro ⟨h1, h2⟩ i hi
    refine (badAt_eq hi).2 ⟨h1 _ (List.getElem_mem hi), fun h => ?_⟩
    exact List.pairwise_iff_getElem.1 h2 (i - 1) i (by omega) hi (by omega)
theorem putI_sort {l : List ItemV} (h : SortI l) (a : Int) (b : ByteArray) : SortI (putI l a b) := by
  unfold putI
  rw [SortI, List.pairwise_append, List.pairwise_append]
  refine ⟨⟨h.filter _, List.pairwise_singleton _ _, fun x hx y hy => ?_⟩, h.filter _, fun x hx y hy => ?_⟩
  · rw [List.mem_singleton] at hy
    subst hy
    exact of_decide_eq_true (List.mem_filter.1 hx).2
  · have h2 : a < y.key := of_decide_eq_true (List.mem_filter.1 hy).2
    rw [List.mem_append, List.mem_singleton] at hx
    rcases hx with hx | hx
    · have h1 : x.key < a := of_decide_eq_true (List.mem_filter.1 hx).2
      omega
    · subst hx; exact h2
theorem cutI_sort {l : List ItemV} (h : SortI l) (a : Int) : SortI (cutI l a) := h.filter _
theorem totI_filters (l : List ItemV) (p q : ItemV → Bool) (h : ∀ x, p x = true → q x = false) : totI (l.filter p) + totI (l.filter q) ≤ totI l := by
  induction l with
  | nil => simp [totI]
  | cons x l ih =>
    simp only [List.filter_cons, totI_cons]
    cases hp : p x with
    | true => rw [h x hp]; simp only [if_true, totI_cons, Bool.false_eq_true, if_false]; omega
    | false => cases q x <;> simp only [if_true, totI_cons, Bool.false_eq_true, if_false] <;> omega
theorem totI_putI {l : List ItemV} {a : Int} {b : ByteArray} (hb : b.size ≤ 64) : totI (putI l a b) ≤ totI l + 18 := by
  unfold putI
  have h1 := totI_filters l (fun x => decide (x.key < a)) (fun x => decide (x.key > a)) (fun x h => by simp at h ⊢; omega)
  have h2 : totI [⟨a, b⟩] ≤ 18 := by
    simp only [totI, List.map_cons, List.map_nil, List.sum_cons, List.sum_nil, cstI, needN]
    omega
  rw [totI_append, totI_append]
  omega
theorem totI_cutI {l : List ItemV} (a : Int) : totI (cutI l a) ≤ totI l := by
  have := totI_filters l (fun x => x.key != a) (fun _ => false) (fun _ _ => rfl)
  unfold cutI
  omega
theorem putM_fit {R : Nat} (hR : 62 ≤ R) {p : List ItemV} (hg : Gd p) (ht : totI p ≤ R + 18) : ∀ l ∈ putM R p, totI l ≤ R := by
  intro l hl
  unfold putM at hl
  split at hl
  · rw [List.mem_singleton] at hl; subst hl; assumption
  · next h =>
    obtain ⟨h1, h2, h3⟩ := front_half hg hR (by omega)
    have hs : totI p = totI (p.take (frontN p ((totI p / 2 : Nat) : Int))) + totI (p.drop (frontN p ((totI p / 2 : Nat) : Int))) := by
      rw [← totI_append, List.take_append_drop]
    simp only [List.mem_cons, List.not_mem_nil, or_false] at hl
    rcases hl with rfl | rfl
    · omega
    · omega

/-! The leaf of a key. -/
theorem hle_cons {x : ItemV} {l : List ItemV} {key : Int} : hle (x :: l) key = decide (x.key ≤ key) := rfl
theorem atN_prop (ls : List (List ItemV)) (key : Int) : ∀ n, (0 < atN ls key n → hle (ls.getD (atN ls key n) []) key = true) ∧ ∀ j, atN ls key n < j → j < n → hle (ls.getD j []) key = false
  | 0 => by rw [atN]; exact ⟨fun h => absurd h (by omega), fun j _ h => absurd h (by omega)⟩
  | n + 1 => by
    obtain ⟨h1, h2⟩ := atN_prop ls key n
    rw [atN]
    split
    · next h => exact ⟨fun _ => h, fun j hj hj2 => absurd hj (by omega)⟩
    · next h =>
      refine ⟨h1, fun j hj hj2 => ?_⟩
      by_cases e : j = n
      · subst e; simpa using h
      · exact h2 j hj (by omega)
theorem at_ahead {ls : List (List ItemV)} (hs : SortI ls.flatten) (hne : ∀ l ∈ ls, l ≠ []) {key : Int} {k : Nat} (hk : k < ls.length) (h : 0 < k → hle (ls.getD k []) key = true) : ∀ x ∈ (ls.take k).flatten, x.key < key := by
  intro x hx
  by_cases h0 : k = 0
  · subst h0; simp at hx
  have h := h (by omega)
  rw [leaf_get hk] at h
  have hm : ls[k] ≠ [] := hne _ (List.getElem_mem hk)
  obtain ⟨y, r, hy⟩ := List.exists_cons_of_ne_nil hm
  rw [hy, hle_cons] at h
  have h := of_decide_eq_true h
  have e : ls.flatten = (ls.take k).flatten ++ (ls.drop k).flatten := by rw [← List.flatten_append, List.take_append_drop]
  rw [e, SortI, List.pairwise_append] at hs
  have := hs.2.2 x hx y (by rw [List.drop_eq_getElem_cons hk, hy]; simp)
  omega
theorem at_behind {ls : List (List ItemV)} (hs : SortI ls.flatten) (hne : ∀ l ∈ ls, l ≠ []) {key : Int} {k : Nat} (h : ∀ j, k < j → j < ls.length → hle (ls.getD j []) key = false) : ∀ x ∈ (ls.drop (k + 1)).flatten, key < x.key := by
  intro x hx
  by_cases h0 : k + 1 < ls.length
  · have h := h (k + 1) (by omega) h0
    rw [leaf_get h0] at h
    have hm : ls[k + 1] ≠ [] := hne _ (List.getElem_mem h0)
    obtain ⟨y, r, hy⟩ := List.exists_cons_of_ne_nil hm
    rw [hy, hle_cons] at h
    have h := of_decide_eq_false h
    have e : ls.flatten = (ls.take (k + 1)).flatten ++ (ls.drop (k + 1)).flatten := by rw [← List.flatten_append, List.take_append_drop]
    rw [e, SortI, List.pairwise_append] at hs
    have hs := hs.2.1
    rw [List.drop_eq_getElem_cons h0, hy, List.flatten_cons, List.cons_append] at hs hx
    rw [List.pairwise_cons] at hs
    rcases List.mem_cons.1 hx with rfl | hx
    · omega
    · have := hs.1 x hx; omega
  · rw [List.drop_of_length_le (by omega)] at hx
    simp at hx
theorem putI_mid {A L B : List ItemV} {a : Int} {b : ByteArray} (hA : ∀ x ∈ A, x.key < a) (hB : ∀ x ∈ B, a < x.key) : putI (A ++ L ++ B) a b = A ++ putI L a b ++ B := by
  have e1 : A.filter (fun x => decide (x.key < a)) = A := List.filter_eq_self.2 (fun x hx => decide_eq_true (hA x hx))
  have e2 : A.filter (fun x => decide (x.key > a)) = [] := List.filter_eq_nil_iff.2 (fun x hx => by have := hA x hx; simp; omega)
  have e3 : B.filter (fun x => decide (x.key < a)) = [] := List.filter_eq_nil_iff.2 (fun x hx => by have := hB x hx; simp; omega)
  have e4 : B.filter (fun x => decide (x.key > a)) = B := List.filter_eq_self.2 (fun x hx => decide_eq_true (hB x hx))
  unfold putI
  simp only [List.filter_append, e1, e2, e3, e4, List.append_nil, List.nil_append, List.append_assoc]
theorem cutI_mid {A L B : List ItemV} {a : Int} (hA : ∀ x ∈ A, x.key < a) (hB : ∀ x ∈ B, a < x.key) : cutI (A ++ L ++ B) a = A ++ cutI L a ++ B := by
  have e1 : A.filter (fun x => x.key != a) = A := List.filter_eq_self.2 (fun x hx => by have := hA x hx; simp; omega)
  have e2 : B.filter (fun x => x.key != a) = B := List.filter_eq_self.2 (fun x hx => by have := hB x hx; simp; omega)
  unfold cutI
  simp only [List.filter_append, e1, e2]

/-! Leaves that fit. -/
structure Ft (R n : Nat) (ls : List (List ItemV)) : Prop where
  pk : Pk n ls
  st : SortI ls.flatten
  fit : ∀ l ∈ ls, totI l ≤ R
theorem Ft.nil (R n : Nat) : Ft R n [] := ⟨Pk.nil n, List.Pairwise.nil, (fun _ h => nomatch h)⟩
theorem Ft.mono {R n m : Nat} {ls : List (List ItemV)} (h : Ft R n ls) (hm : n ≤ m) : Ft R m ls := ⟨⟨h.pk.ne, h.pk.gd, by have := h.pk.len; omega⟩, h.st, h.fit⟩
/-- What becomes of leaves: some are taken out, and others put in their place. -/
def Became (ls : List (List ItemV)) (f o m : Int) (q : List (List ItemV)) : Prop :=
  ∃ (f' o' : Nat) (more : List (List ItemV)), f = (f' : Int) ∧ o = (o' : Int) ∧ m = (more.length : Int) ∧ q = putAt ls f' o' more ∧ f' + o' ≤ ls.length ∧ o' ≤ 2 ∧ more.length ≤ 2
theorem putAt_none (ls : List (List ItemV)) : putAt ls 0 0 [] = ls := by simp [putAt]
section
variable {R n : Nat} (hR : 62 ≤ R) {ls : List (List ItemV)} (h : Ft R n ls)
include hR h
omit hR in
theorem Ft.leaves {key : Int} {k : Nat} (hk : k < ls.length) (he : k = atN ls key ls.length) : (∀ x ∈ (ls.take k).flatten, x.key < key) ∧ (∀ x ∈ (ls.drop (k + 1)).flatten, key < x.key) ∧ ls.flatten = (ls.take k).flatten ++ ls[k] ++ (ls.drop (k + 1)).flatten := by
  obtain ⟨h1, h2⟩ := atN_prop ls key ls.length
  rw [← he] at h1 h2
  refine ⟨at_ahead h.st h.pk.ne hk h1, at_behind h.st h.pk.ne h2, ?_⟩
  have := parts_flat ls k 1
  rw [drop_one hk] at this
  simpa using this
theorem Ft.put {a : Int} {b : ByteArray} (ha : InR .u32 a) (hb : b.size ≤ 64) : Ft R (n + 1) (putS R ls a b).2.2.2 ∧ (putS R ls a b).2.2.2.flatten = putI ls.flatten a b ∧ Became ls (putS R ls a b).1 (putS R ls a b).2.1 (putS R ls a b).2.2.1 (putS R ls a b).2.2.2 := by
  have hp := putS_pk h.pk ha hb hR
  unfold putS at hp ⊢
  by_cases h0 : ls.length = 0
  · rw [if_pos h0] at hp ⊢
    have : ls = [] := List.eq_nil_of_length_eq_zero h0
    subst this
    refine ⟨⟨hp, by simp [SortI], fun l hl => ?_⟩, by simp [putI], 0, 0, [[⟨a, b⟩]], rfl, rfl, rfl, rfl, by simp, by simp, by simp⟩
    rw [List.mem_singleton] at hl
    subst hl
    simp only [totI, List.map_cons, List.map_nil, List.sum_cons, List.sum_nil, cstI, needN]
    omega
  rw [if_neg h0] at hp ⊢
  have hk : atN ls a ls.length < ls.length := by have := atN_le ls a ls.length; omega
  obtain ⟨h1, h2, h3⟩ := h.leaves hk rfl
  generalize atN ls a ls.length = k at *
  have hm := List.getElem_mem hk
  rw [leaf_get hk] at hp ⊢
  have hpl := putI_len ls[k] a b
  have hgd := putI_gd (h.pk.gd _ hm) ha hb
  have hfl : (putAt ls k 1 (putM R (putI ls[k] a b))).flatten = putI ls.flatten a b := by
    rw [putAt_flat, putM_flat, h3, putI_mid h1 h2]
  refine ⟨⟨hp, ?_, fun l hl => ?_⟩, hfl, k, 1, putM R (putI ls[k] a b), rfl, rfl, rfl, rfl, by omega, by omega, (putM_ok hR hgd hpl.2).1⟩
  · show SortI (putAt ls k 1 (putM R (putI ls[k] a b))).flatten
    rw [hfl]
    exact putI_sort h.st a b
  · rcases putAt_mem hl with hl | hl
    · exact h.fit _ hl
    · refine putM_fit hR hgd ?_ l hl
      have := totI_putI (l := ls[k]) (a := a) hb
      have := h.fit _ hm
      omega
omit hR in
theorem Ft.cut (key : Int) : Ft R n (cutS R ls key).2.2.2.2 ∧ (cutS R ls key).2.2.2.2.flatten = cutI ls.flatten key ∧ (cutS R ls key).2.2.2.1 = decide ((cutI ls.flatten key).length < ls.flatten.length) ∧ Became ls (cutS R ls key).1 (cutS R ls key).2.1 (cutS R ls key).2.2.1 (cutS R ls key).2.2.2.2 := by
  have hp := cutS_pk h.pk key R
  unfold cutS at hp ⊢
  by_cases h0 : ls.length = 0
  · have : ls = [] := List.eq_nil_of_length_eq_zero h0
    subst this
    rw [if_pos h0]
    exact ⟨h, rfl, rfl, 0, 0, [], rfl, rfl, rfl, rfl, by simp, by simp, by simp⟩
  rw [if_neg h0] at hp ⊢
  have hk : atN ls key ls.length < ls.length := by have := atN_le ls key ls.length; omega
  obtain ⟨h1, h2, h3⟩ := h.leaves hk rfl
  generalize atN ls key ls.length = k at *
  have hm := List.getElem_mem hk
  rw [leaf_get hk] at hp ⊢
  have hc : cutI ls.flatten key = (ls.take k).flatten ++ cutI ls[k] key ++ (ls.drop (k + 1)).flatten := by rw [h3, cutI_mid h1 h2]
  have hcl : (cutI ls[k] key).length < ls[k].length ↔ (cutI ls.flatten key).length < ls.flatten.length := by
    rw [hc]
    conv => rhs; rw [h3]
    simp only [List.length_append]
    omega
  have htc : totI (cutI ls[k] key) ≤ totI ls[k] := totI_cutI key
  have hfit := h.fit _ hm
  by_cases g : (cutI ls[k] key).length < ls[k].length
  · rw [if_pos g] at hp ⊢
    have hd : true = decide ((cutI ls.flatten key).length < ls.flatten.length) := (decide_eq_true (hcl.1 g)).symm
    have hst := cutI_sort h.st key
    generalize cutI ls[k] key = c at *
    have fin : ∀ (f o : Nat) (more : List (List ItemV)), f + o ≤ ls.length → o ≤ 2 → more.length ≤ 2 → (putAt ls f o more).flatten = cutI ls.flatten key → (∀ l ∈ more, totI l ≤ R) → Pk n (putAt ls f o more) → Ft R n (putAt ls f o more) ∧ (putAt ls f o more).flatten = cutI ls.flatten key ∧ true = decide ((cutI ls.flatten key).length < ls.flatten.length) ∧ Became ls (f : Int) (o : Int) (more.length : Int) (putAt ls f o more) := by
      intro f o more q1 q2 q3 q4 q5 q6
      refine ⟨⟨q6, by rw [q4]; exact hst, fun l hl => ?_⟩, q4, hd, f, o, more, rfl, rfl, rfl, rfl, q1, q2, q3⟩
      rcases putAt_mem hl with hl | hl
      · exact h.fit _ hl
      · exact q5 l hl
    unfold cutT at hp ⊢
    by_cases g1 : c.length = 0
    · rw [if_pos g1] at hp ⊢
      have : c = [] := List.eq_nil_of_length_eq_zero g1
      subst this
      exact fin k 1 [] (by omega) (by omega) (by simp) (by rw [putAt_flat, hc]; simp) (fun _ h => nomatch h) hp
    rw [if_neg g1] at hp ⊢
    by_cases g2 : k + 1 < ls.length ∧ totI c + totI (ls.getD (k + 1) []) ≤ R / 2
    · rw [if_pos g2] at hp ⊢
      rw [leaf_get g2.1] at g2 hp ⊢
      refine fin k 2 [c ++ ls[k + 1]] (by omega) (by omega) (by simp) ?_ (fun l hl => ?_) hp
      · have e : (ls.drop (k + 1)).flatten = ls[k + 1] ++ (ls.drop (k + 2)).flatten := by rw [List.drop_eq_getElem_cons g2.1]; rfl
        rw [putAt_flat, hc, e]
        simp
      · rw [List.mem_singleton] at hl; subst hl; rw [totI_append]; omega
    rw [if_neg g2] at hp ⊢
    by_cases g3 : 0 < k ∧ totI c + totI (ls.getD (k - 1) []) ≤ R / 2
    · rw [if_pos g3] at hp ⊢
      have hk1 : k - 1 < ls.length := by omega
      rw [leaf_get hk1] at g3 hp ⊢
      refine fin (k - 1) 2 [ls[k - 1] ++ c] (by omega) (by omega) (by simp) ?_ (fun l hl => ?_) hp
      · rw [putAt_flat, hc, show k - 1 + 2 = k + 1 by omega]
        have e : (ls.take k).flatten = (ls.take (k - 1)).flatten ++ ls[k - 1] := by
          have := flat_take hk1
          rwa [show k - 1 + 1 = k by omega] at this
        rw [e]
        simp
      · rw [List.mem_singleton] at hl; subst hl; rw [totI_append]; omega
    rw [if_neg g3] at hp ⊢
    refine fin k 1 [c] (by omega) (by omega) (by simp) ?_ (fun l hl => ?_) hp
    · rw [putAt_flat, hc]; simp
    · rw [List.mem_singleton] at hl; subst hl; omega
  · rw [if_neg g] at hp ⊢
    have e : cutI ls[k] key = ls[k] := by
      have hl := cutI_len ls[k] key
      exact (List.filter_sublist (l := ls[k])).eq_of_length (by show (cutI ls[k] key).length = _; omega)
    refine ⟨h, ?_, (decide_eq_false (fun q => g (hcl.2 q))).symm, 0, 0, [], rfl, rfl, rfl, (putAt_none ls).symm, by simp, by simp, by simp⟩
    show ls.flatten = _
    rw [hc, e]
    exact h3
end

/-! Two lists of leaves, the one become of the other. -/
theorem putAt_len2 {ls more : List (List ItemV)} {f o : Nat} (h : f + o ≤ ls.length) : (putAt ls f o more).length = ls.length - o + more.length := by
  unfold putAt
  simp only [List.length_append, List.length_take, List.length_drop]
  omega
theorem putAt_get1 {ls more : List (List ItemV)} {f o i : Nat} (h : f + o ≤ ls.length) (hi : i < f) : (putAt ls f o more)[i]? = ls[i]? := by
  unfold putAt
  rw [List.append_assoc, List.getElem?_append_left (by rw [List.length_take]; omega), List.getElem?_take_of_lt hi]
theorem putAt_get2 {ls more : List (List ItemV)} {f o i : Nat} (h : f + o ≤ ls.length) (hi : f + o ≤ i) : (putAt ls f o more)[i - o + more.length]? = ls[i]? := by
  unfold putAt
  rw [List.getElem?_append_right (by rw [List.length_append, List.length_take]; omega), List.getElem?_drop, List.length_append, List.length_take]
  congr 1
  omega
theorem Ft.fits {R n : Nat} {ls : List (List ItemV)} (h : Ft R n ls) : fitsL (R : Int) ls = true := by
  unfold fitsL
  have : ls.find? (badL (R : Int)) = none := by
    rw [List.find?_eq_none]
    intro l hl
    have h1 := h.pk.ne _ hl
    have h2 := h.fit _ hl
    unfold badL
    simp only [Bool.or_eq_true, decide_eq_true_eq, not_or]
    refine ⟨fun e => h1 (List.eq_nil_of_length_eq_zero e), by omega⟩
  rw [this]
  refine rightI_iff.2 ⟨fun x hx => ?_, h.st⟩
  obtain ⟨l, hl, hx⟩ := List.mem_flatten.1 hx
  exact (h.pk.gd _ hl x hx).2
theorem Pk.sz {n : Nat} {ls : List (List ItemV)} (h : Pk n ls) (hn : n ≤ 1000) : Sz ls := fun l hl => by
  have h1 := h.leaf hl
  have h2 := totI_le64 (fun x hx => (h.gd _ hl x hx).2)
  exact ⟨(h.gd _ hl).its, by omega, by omega⟩

end Go.Proofs.Ytmlbioapefgioaa.Pure
