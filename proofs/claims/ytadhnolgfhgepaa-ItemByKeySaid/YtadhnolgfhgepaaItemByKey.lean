/- The plain truth of ItemByKey. -/
import Derived.Test.YtadhnolgfhgepaaFlaw18
import Derived.Test.YtadhnolgfhgepaaQAwake18
namespace Go.Proofs.Ytadhnolgfhgepaa.Pure
open Go Go.Proofs.Ytadhnolgfhgepaa.Va
set_option linter.unusedVariables false
set_option linter.unusedSimpArgs false

theorem rightI_iff {l : List ItemV} : rightI l = true ↔ (∀ x ∈ l, x.data.size ≤ 64) ∧ l.Pairwise (fun x y => x.key < y.key) := by
  unfold rightI
  rw [Option.isNone_iff_eq_none, List.find?_eq_none]
  have hb : ∀ i (hi : i < l.length), ¬ badAt l i = true ↔ (l[i].data.size ≤ 64 ∧ ∀ (h : 0 < i), (l[i - 1]'(by omega)).key < l[i].key) := by
    intro i hi
    have e : l[i]? = some l[i] := List.getElem?_eq_getElem hi
    unfold badAt
    rw [e]
    by_cases h0 : 0 < i
    · have e3 : l[i - 1]? = some (l[i - 1]'(by omega)) := List.getElem?_eq_getElem _
      rw [e3]
      simp [h0]
    · simp [h0]
  constructor
  · intro h
    have h' : ∀ i (hi : i < l.length), l[i].data.size ≤ 64 ∧ ∀ (h : 0 < i), (l[i - 1]'(by omega)).key < l[i].key := fun i hi => (hb i hi).1 (h i (by rw [List.mem_range'_1]; omega))
    refine ⟨fun x hx => ?_, ?_⟩
    · obtain ⟨i, hi, rfl⟩ := List.getElem_of_mem hx
      exact (h' i hi).1
    · rw [List.pairwise_iff_getElem]
      intro i j hi hj hij
      have : ∀ d, ∀ j (hj : j < l.length), j = i + d + 1 → l[i].key < l[j].key := by
        intro d
        induction d with
        | zero =>
          intro j hj e
          have := (h' j hj).2 (by omega)
          simp only [show j - 1 = i by omega] at this
          exact this
        | succ d ih =>
          intro j hj e
          have h1 := ih (j - 1) (by omega) (by omega)
          have h2 := (h' j hj).2 (by omega)
          exact Int.lt_trans h1 h2
      exact this (j - i - 1) j hj (by omega)
  · rintro ⟨h1, h2⟩ i hi
    rw [List.mem_range'_1] at hi
    refine (hb i (by omega)).2 ⟨h1 _ (List.getElem_mem _), fun h0 => ?_⟩
    exact List.pairwise_iff_getElem.1 h2 (i - 1) i (by omega) (by omega) (by omega)

theorem rightI_put {l : List ItemV} {a : Int} {b : ByteArray} (h1 : ∀ x ∈ l, x.data.size ≤ 64) (h2 : l.Pairwise (fun x y => x.key < y.key)) (hb : b.size ≤ 64) : rightI (putI l a b) = true := by
  refine rightI_iff.2 ⟨fun x hx => ?_, ?_⟩
  · unfold putI at hx
    rcases List.mem_append.1 hx with hx | hx
    · rcases List.mem_append.1 hx with hx | hx
      · exact h1 x (List.mem_filter.1 hx).1
      · rw [List.mem_singleton] at hx
        subst hx
        exact hb
    · exact h1 x (List.mem_filter.1 hx).1
  · unfold putI
    rw [List.pairwise_append, List.pairwise_append]
    refine ⟨⟨h2.filter _, List.pairwise_singleton _ _, ?_⟩, h2.filter _, ?_⟩
    · intro x hx y hy
      rw [List.mem_singleton] at hy
      subst hy
      simpa using (List.mem_filter.1 hx).2
    · intro x hx y hy
      have hy' : y.key > a := by simpa using (List.mem_filter.1 hy).2
      rcases List.mem_append.1 hx with hx | hx
      · have hx' : x.key < a := by simpa using (List.mem_filter.1 hx).2
        omega
      · rw [List.mem_singleton] at hx
        subst hx
        exact hy'

theorem cut_parts {l : List ItemV} {a : Int} (h2 : l.Pairwise (fun x y => x.key < y.key)) : (cutI l a).length = (l.filter fun x => decide (x.key < a)).length + (l.filter fun x => decide (x.key > a)).length := by
  unfold cutI
  clear h2
  simp only [gt_iff_lt]
  induction l with
  | nil => rfl
  | cons x l ih =>
    simp only [List.filter_cons]
    rcases Int.lt_trichotomy x.key a with h | h | h
    · simp [h, show x.key ≠ a by omega, show ¬ a < x.key by omega]; omega
    · simp [h]; omega
    · simp [h, show x.key ≠ a by omega, show ¬ x.key < a by omega]; omega

theorem cut_count {l : List ItemV} {k : Int} (h2 : l.Pairwise (fun x y => x.key < y.key)) : ((cutI l k).length < l.length) = (∃ x ∈ l, x.key = k) := by
  unfold cutI
  rw [List.length_filter_lt_length_iff_exists]
  simp

theorem cut_one {l : List ItemV} {k : Int} (h2 : l.Pairwise (fun x y => x.key < y.key)) : (cutI l k).length < l.length ↔ (cutI l k).length + 1 = l.length := by
  constructor
  · intro h
    unfold cutI at *
    induction l with
    | nil => simp at h
    | cons x l ih =>
      rw [List.pairwise_cons] at h2
      simp only [List.filter_cons] at h ⊢
      by_cases hx : x.key = k
      · have : (l.filter fun x => x.key != k) = l := by
          rw [List.filter_eq_self]
          intro y hy
          have := h2.1 y hy
          simp
          omega
        simp [hx, this]
      · have hx' : (x.key != k) = true := by simpa using hx
        rw [if_pos hx'] at h ⊢
        simp only [List.length_cons] at h ⊢
        have := ih h2.2 (by omega)
        omega
  · omega

theorem find_put (l : List ItemV) (a : Int) (b : ByteArray) (k : Int) : findR (putI l a b) k = if k = a then (b, true) else findR l k := by
  unfold findR putI
  have h1 : ∀ (p : ItemV → Bool) , (∀ x, x.key = k → p x = true) → ((l.filter p).find? fun x => x.key == k) = l.find? fun x => x.key == k := by
    intro p hp
    rw [List.find?_filter]
    congr 1
    funext x
    by_cases h : x.key = k
    · simp [h, hp x h]
    · simp [h]
  have h0 : ∀ (p : ItemV → Bool), (∀ x, x.key = k → p x = false) → ((l.filter p).find? fun x => x.key == k) = none := by
    intro p hp
    rw [List.find?_eq_none]
    intro x hx h
    have := (List.mem_filter.1 hx).2
    rw [hp x (by simpa using h)] at this
    cases this
  rw [List.find?_append, List.find?_append]
  rcases Int.lt_trichotomy k a with h | h | h
  · rw [h1 (fun x => decide (x.key < a)) (fun x hx => by simp; omega), h0 (fun x => decide (x.key > a)) (fun x hx => by simp; omega), if_neg (by omega)]
    have : ([(⟨a, b⟩ : ItemV)].find? fun x => x.key == k) = none := by
      rw [List.find?_eq_none]
      intro x hx
      rw [List.mem_singleton] at hx
      subst hx
      simp
      omega
    rw [this]
    simp
  · rw [h0 (fun x => decide (x.key < a)) (fun x hx => by simp; omega), if_pos h]
    subst h
    simp [pickO]
  · rw [h0 (fun x => decide (x.key < a)) (fun x hx => by simp; omega), h1 (fun x => decide (x.key > a)) (fun x hx => by simp; omega), if_neg (by omega)]
    have : ([(⟨a, b⟩ : ItemV)].find? fun x => x.key == k) = none := by
      rw [List.find?_eq_none]
      intro x hx
      rw [List.mem_singleton] at hx
      subst hx
      simp
      omega
    rw [this]
    simp
theorem find_cut (l : List ItemV) (a : Int) (k : Int) : findR (cutI l a) k = if k = a then (nob, false) else findR l k := by
  unfold findR cutI
  by_cases h : k = a
  · rw [if_pos h]
    have : ((l.filter fun x => x.key != a).find? fun x => x.key == k) = none := by
      rw [List.find?_eq_none]
      intro x hx hk
      have := (List.mem_filter.1 hx).2
      simp at this hk
      omega
    rw [this]
    rfl
  · rw [if_neg h, List.find?_filter]
    congr 2
    funext x
    by_cases hx : x.key = k
    · simp [hx, h]
    · simp [hx]

theorem ItemByKey (a0 : List ItemV) (a1_0 : Int) (a1_1 : ByteArray) (a2 : Int) (w0 : a0.length * 24 ≤ reachBytes) (w1 : ∀ x2 ∈ a0, InR .u32 x2.key ∧ x2.data.size ≤ reachBytes) (w2 : InR .u32 a1_0) (w3 : a1_1.size ≤ reachBytes) (w4 : InR .u32 a2) : law18_ItemByKey.c a0 a1_0 a1_1 a2 = some true := by
  have hl0 : a0.length ≤ 140737488351232 := by rw [reach_eq] at w0; omega
  have hi : Its a0 := w1
  have hcl : (cutI a0 a1_0).length ≤ a0.length := List.length_filter_le _ _
  have hpl : (putI a0 a1_0 a1_1).length = (a0.filter fun x => decide (x.key < a1_0)).length + 1 + (a0.filter fun x => decide (x.key > a1_0)).length := by
    unfold putI
    simp only [List.length_append, List.length_cons, List.length_nil]
  have hplen := put_len a0 a1_0
  have hp : (putI a0 a1_0 a1_1).length ≤ 140737488351232 := by
    rw [reach_eq] at w0
    omega
  simp only [law18_ItemByKey.c, law18_ItemByKey.t, Tw.run_opt, Tw.run_bb, Tw.run_ret, ref18_Right_eq hl0, item_Put_eq w0, item_Cut_eq w0, item_Find_eq hl0, item_Find_eq hp, item_Find_eq (Nat.le_trans hcl hl0), item_Right_eq hp, item_Right_eq (Nat.le_trans hcl hl0), Option.bind_some, awake18, ba_beq]
  cases hr : rightI a0 with
  | false => simp
  | true =>
    by_cases hs : a1_1.size > 64
    · have hs2 : (64 : Int) < (a1_1.size : Int) := by omega
      simp [hs2]
    have hs' : ¬ ((a1_1.size : Int) > 64) := by omega
    obtain ⟨r1, r2⟩ := rightI_iff.1 hr
    have hpr : rightI (putI a0 a1_0 a1_1) = true := rightI_put r1 r2 (by omega)
    have hcr : rightI (cutI a0 a1_0) = true := rightI_iff.2 ⟨fun x hx => r1 x (List.mem_filter.1 hx).1, r2.filter _⟩
    have hcp : (putI a0 a1_0 a1_1).length = (cutI a0 a1_0).length + 1 := by rw [hpl, cut_parts r2]; omega
    have hcn := cut_count r2 (k := a1_0)
    have fput := find_put a0 a1_0 a1_1 a2
    have fcut := find_cut a0 a1_0 a2
    simp only [Bool.not_true, Bool.false_eq_true, if_false, decide_eq_true_eq, hpr, hcr, fput, fcut]
    rw [if_neg hs']
    have e1 : w64 ((a0.length : Int) - 1) = (a0.length : Int) - 1 := w64_of (by omega) (by omega)
    have e2 : w64 (((cutI a0 a1_0).length : Int) + 1) = ((cutI a0 a1_0).length : Int) + 1 := w64_of (by omega) (by omega)
    have hfk : (findR a0 a1_0).2 = decide ((cutI a0 a1_0).length < a0.length) := by
      rw [Bool.eq_iff_iff, decide_eq_true_iff, hcn]
      unfold findR
      cases hf : a0.find? fun x => x.key == a1_0 with
      | none =>
        rw [List.find?_eq_none] at hf
        constructor
        · intro h
          cases h
        · rintro ⟨x, hx, hk⟩
          exact absurd (by simp [hk]) (hf x hx)
      | some x =>
        constructor
        · intro _
          exact ⟨x, List.mem_of_find?_eq_some hf, by simpa using List.find?_some hf⟩
        · intro _
          rfl
    have hlen1 : ((cutI a0 a1_0).length < a0.length) ↔ (cutI a0 a1_0).length + 1 = a0.length := cut_one r2
    rw [e1, e2, hcp]
    have hbb : (decide ((cutI a0 a1_0).length < a0.length) == (((cutI a0 a1_0).length : Int) == (a0.length : Int) - 1)) = true := by
      rw [beq_iff_eq, Bool.eq_iff_iff, decide_eq_true_iff, beq_iff_eq, hlen1]
      omega
    rw [hbb]
    by_cases hk : a2 = a1_0
    · subst hk
      simp [hfk]
      rfl
    · have hk' : ¬ a1_0 = a2 := fun e => hk e.symm
      simp [hk]

end Go.Proofs.Ytadhnolgfhgepaa.Pure
