/- Layer 23 (leaf): what its printed functions come to. -/
import Derived.Test.YtmlbioapefgioaaQX
import Derived.Test.YtmlbioapefgioaaQZeros
import Derived.Test.YtmlbioapefgioaaQWord
import Derived.Test.YtmlbioapefgioaaQItem
import Derived.Test.YtmlbioapefgioaaFleaf
import Derived.Test.YtmlbioapefgioaaFref23
namespace Go.Proofs.Ytmlbioapefgioaa.Pure
open Go Go.Proofs.Ytmlbioapefgioaa.Va
set_option linter.unusedVariables false
set_option linter.unusedSimpArgs false

/-- An item's words. -/
def encI (x : ItemV) : List Int := x.key :: (x.data.size : Int) :: packW (b2l x.data) (needN x.data.size)
def cstI (x : ItemV) : Nat := 2 + needN x.data.size
def totI (l : List ItemV) : Nat := (l.map cstI).sum
def bodI (l : List ItemV) : List Int := l.flatMap encI
def leafL (l : List ItemV) : List Int := (l.length : Int) :: bodI l
theorem encI_len (x : ItemV) : (encI x).length = cstI x := by simp [encI, cstI, packW]; omega
theorem bodI_len (l : List ItemV) : (bodI l).length = totI l := by
  unfold bodI totI
  induction l with
  | nil => rfl
  | cons x l ih => rw [List.flatMap_cons, List.length_append, encI_len, ih, List.map_cons, List.sum_cons]
theorem totI_cons (x : ItemV) (l : List ItemV) : totI (x :: l) = cstI x + totI l := by simp [totI]
theorem totI_append (a b : List ItemV) : totI (a ++ b) = totI a + totI b := by simp [totI]
theorem bodI_append (a b : List ItemV) : bodI (a ++ b) = bodI a ++ bodI b := by simp [bodI]
theorem bodI_one (x : ItemV) : bodI [x] = encI x := by simp [bodI]
theorem cstI_le {x : ItemV} (h : x.data.size ≤ reachBytes) : cstI x ≤ 35184372087811 := by rw [reach_eq] at h; unfold cstI needN; omega
theorem totI_le {l : List ItemV} (h : ∀ x ∈ l, x.data.size ≤ reachBytes) : totI l ≤ 35184372087811 * l.length := by
  induction l with
  | nil => simp [totI]
  | cons x l ih =>
    have h1 := cstI_le (h x (by simp))
    have h2 := ih fun y hy => h y (List.mem_cons_of_mem _ hy)
    rw [totI_cons, List.length_cons]
    omega
theorem totI_le64 {l : List ItemV} (h : ∀ x ∈ l, x.data.size ≤ 64) : totI l ≤ 18 * l.length := by
  induction l with
  | nil => simp [totI]
  | cons x l ih =>
    have h1 := h x (by simp)
    have h2 := ih fun y hy => h y (List.mem_cons_of_mem _ hy)
    rw [totI_cons, List.length_cons]
    unfold cstI needN
    omega
theorem totI_take {l : List ItemV} {i : Nat} (hi : i < l.length) : totI (l.take (i + 1)) = totI (l.take i) + cstI l[i] := by
  rw [List.take_succ_eq_append_getElem hi, totI_append]
  simp [totI]
theorem totI_mono {l : List ItemV} (i : Nat) : totI (l.take i) ≤ totI l := by
  have := totI_append (l.take i) (l.drop i)
  rw [List.take_append_drop] at this
  omega

theorem leaf_Cost_eq {x : ItemV} (h : x.data.size ≤ reachBytes) : leaf_Cost.c x.key x.data = some ((cstI x : Nat) : Int) := by
  have h' := cstI_le h
  rw [reach_eq] at h
  simp only [leaf_Cost.c, leaf_Cost.t, Tw.run_opt, Tw.run_ret, word_Need_eq _ (inR_i64 (show -9223372036854775808 ≤ ((x.data.size : Nat) : Int) ∧ ((x.data.size : Nat) : Int) < 9223372036854775808 by omega)), Option.bind_some, need_nat]
  unfold cstI at *
  rw [w64_of (by omega) (by omega)]
  rfl
theorem ref23_Cost_eq {x : ItemV} (h : x.data.size ≤ reachBytes) : ref23_Cost.c x.key x.data = some ((cstI x : Nat) : Int) := by
  have h' := cstI_le h
  rw [reach_eq] at h
  simp only [ref23_Cost.c, ref23_Cost.t, Tw.run_opt, Tw.run_ret, ref01_Need_eq _ (inR_i64 (show -9223372036854775808 ≤ ((x.data.size : Nat) : Int) ∧ ((x.data.size : Nat) : Int) < 9223372036854775808 by omega)), Option.bind_some, need_nat]
  unfold cstI at *
  rw [w64_of (by omega) (by omega)]
  rfl

theorem leaf_Total_eq {l : List ItemV} (hi : Its l) (hl : totI l < 4611686018427387904) (hn : l.length < 4611686018427387904) : leaf_Total.c l = some ((totI l : Nat) : Int) := by
  have hL : leaf_Total.L3 0 l (l.length : Int) 0 = some ((totI l : Nat) : Int) := by
    have := Lp_seq (fun s => (leaf_Total.l3 l (l.length : Int) s.1 s.2).run) (fun i => (((totI (l.take i) : Nat) : Int), (i : Int))) (x := ((totI l : Nat) : Int)) l.length 0 (fun i _ hi' => ?_) (by
      simp only [leaf_Total.l3, Nat.zero_add]
      rw [bb_neg (decide_eq_false (by omega)), List.take_length]
      rfl)
    · exact this
    · have hi2 : i < l.length := by omega
      have h1 := totI_mono (l := l) (i + 1)
      have h2 := totI_take hi2
      simp only [leaf_Total.l3, Int.toNat_natCast, List.getElem?_eq_getElem hi2]
      rw [bb_pos (decide_eq_true (by omega)), dd_pos (by omega)]
      simp only [Tw.run_opt, leaf_Cost_eq (hi l[i] (List.getElem_mem hi2)).2, Option.bind_some, Tw.run_ret]
      rw [w64_of (by omega) (by omega), w64_of (by omega) (by omega), h2]
      congr 3
  simp only [leaf_Total.c, leaf_Total.t, Tw.run_opt, hL, Option.bind_some, Tw.run_ret]
theorem ref23_Total_eq {l : List ItemV} (hi : Its l) (hl : totI l < 4611686018427387904) (hn : l.length < 4611686018427387904) : ref23_Total.c l = some ((totI l : Nat) : Int) := by
  have hL : ref23_Total.L3 l 0 0 = some ((totI l : Nat) : Int) := by
    have := Lp_seq (fun s => (ref23_Total.l3 l s.1 s.2).run) (fun i => (((totI (l.take i) : Nat) : Int), (i : Int))) (x := ((totI l : Nat) : Int)) l.length 0 (fun i _ hi' => ?_) (by
      simp only [ref23_Total.l3, Nat.zero_add]
      rw [bb_neg (decide_eq_false (by omega)), List.take_length]
      rfl)
    · exact this
    · have hi2 : i < l.length := by omega
      have h1 := totI_mono (l := l) (i + 1)
      have h2 := totI_take hi2
      simp only [ref23_Total.l3, Int.toNat_natCast, List.getElem?_eq_getElem hi2]
      rw [bb_pos (decide_eq_true (by omega)), dd_pos (by omega)]
      simp only [Tw.run_opt, ref23_Cost_eq (hi l[i] (List.getElem_mem hi2)).2, Option.bind_some, Tw.run_ret]
      rw [w64_of (by omega) (by omega), w64_of (by omega) (by omega), h2]
      congr 3
  simp only [ref23_Total.c, ref23_Total.t, Tw.run_opt, hL, Option.bind_some, Tw.run_ret]

theorem rightI_small {l : List ItemV} (h : rightI l = true) : ∀ x ∈ l, x.data.size ≤ 64 := by
  unfold rightI at h
  rw [Option.isNone_iff_eq_none, List.find?_eq_none] at h
  intro x hx
  obtain ⟨i, hi, rfl⟩ := List.getElem_of_mem hx
  have := h i (by rw [List.mem_range'_1]; omega)
  unfold badAt at this
  rw [List.getElem?_eq_getElem hi] at this
  by_cases h0 : 0 < i
  · have e3 : l[i - 1]? = some (l[i - 1]'(by omega)) := List.getElem?_eq_getElem _
    rw [e3] at this
    simp [h0] at this
    omega
  · simp [h0] at this
    omega

theorem encI_words {x : ItemV} (h : InR .u32 x.key) (h2 : x.data.size ≤ 64) : Words (encI x) :=
  words_cons h (words_cons (inR_u32 (by omega)) (packW_words (b2l_bytes _) _))
theorem bodI_words {l : List ItemV} (hi : Its l) (h : ∀ x ∈ l, x.data.size ≤ 64) : Words (bodI l) := by
  intro y hy
  unfold bodI at hy
  obtain ⟨x, hx, hy⟩ := List.mem_flatMap.1 hy
  exact encI_words (hi x hx).1 (h x hx) y hy
theorem leafL_words {l : List ItemV} (hi : Its l) (h : ∀ x ∈ l, x.data.size ≤ 64) (hn : l.length < 4294967296) : Words (leafL l) :=
  words_cons (inR_u32 (by omega)) (bodI_words hi h)
theorem leafL_len (l : List ItemV) : (leafL l).length = totI l + 1 := by unfold leafL; rw [List.length_cons, bodI_len]

theorem bodI_take {l : List ItemV} {i : Nat} (hi : i < l.length) : bodI (l.take (i + 1)) = bodI (l.take i) ++ encI l[i] := by
  rw [List.take_succ_eq_append_getElem hi, bodI_append, bodI_one]

/-- A leaf's words, or why there are none. -/
def layL (l : List ItemV) (room : Int) : Int × List Int :=
  if l.length = 0 ∨ rightI l = false then (2, []) else if (totI l : Int) > room then (14, []) else (0, leafL l ++ [zs (leafL l)])
/-! What is read of words. -/
def endI (w : List Int) : Nat := 2 + needN (w.getD 1 0).toNat
def mayI (w : List Int) : Prop := 2 ≤ w.length ∧ w.getD 1 0 ≤ 64 ∧ endI w ≤ w.length
instance (w : List Int) : Decidable (mayI w) := by unfold mayI; infer_instance
def bytI (w : List Int) : Int × List Int := bytesR ((w.drop 2).take (needN (w.getD 1 0).toNat)) (w.getD 1 0)
/-- An item, and what is behind it. -/
def takeI (w : List Int) : Option (ItemV × List Int) := if mayI w ∧ (bytI w).1 = 0 then some (⟨w.getD 0 0, l2b (bytI w).2⟩, w.drop (endI w)) else none

theorem takeI_rest {w : List Int} {x : ItemV} {r : List Int} (h : takeI w = some (x, r)) : r = w.drop (endI w) ∧ endI w ≤ w.length ∧ 2 ≤ endI w ∧ x.data.size ≤ 64 ∧ x.key = w.getD 0 0 := by
  unfold takeI at h
  split at h
  · rename_i hc
    obtain ⟨⟨h1, h2, h3⟩, h4⟩ := hc
    simp only [Option.some.injEq, Prod.mk.injEq] at h
    obtain ⟨rfl, rfl⟩ := h
    refine ⟨rfl, h3, by unfold endI; omega, ?_, rfl⟩
    show (l2b (bytI w).2).size ≤ 64
    rw [l2b_size]
    unfold bytI bytesR
    split
    · simp
    · split
      · simp
      · split
        · simp
        · split
          · simp
          · show ((List.range (w.getD 1 0).toNat).map _).length ≤ 64
            rw [List.length_map, List.length_range]
            omega
  · cases h

def parI : Nat → List Int → Option (List ItemV × List Int)
  | 0, w => some ([], w)
  | n + 1, w => match takeI w with
    | none => none
    | some (x, r) => match parI n r with
      | none => none
      | some (l, r') => some (x :: l, r')
theorem parI_len : ∀ {n : Nat} {w : List Int} {l : List ItemV} {r : List Int}, parI n w = some (l, r) → l.length = n ∧ r.length + 2 * n ≤ w.length ∧ (∀ x ∈ l, x.data.size ≤ 64) ∧ (Words w → Its l ∧ Words r) ∧ ∃ m, m ≤ w.length ∧ r = w.drop m
  | 0, w, l, r, h => by
    simp only [parI, Option.some.injEq, Prod.mk.injEq] at h
    obtain ⟨rfl, rfl⟩ := h
    exact ⟨rfl, by omega, by simp, fun hw => ⟨(fun _ h => nomatch h), hw⟩, 0, by omega, rfl⟩
  | n + 1, w, l, r, h => by
    rw [parI] at h
    split at h
    · cases h
    rename_i x q hq
    split at h
    · cases h
    rename_i l' r' hr
    simp only [Option.some.injEq, Prod.mk.injEq] at h
    obtain ⟨rfl, rfl⟩ := h
    obtain ⟨h1, h2, h3, h4, h5⟩ := takeI_rest hq
    obtain ⟨i1, i2, i3, i4, m, hm, i5⟩ := parI_len hr
    have hql : q.length = w.length - endI w := by rw [h1, List.length_drop]
    refine ⟨by rw [List.length_cons, i1], by omega, fun y hy => ?_, fun hw => ?_, endI w + m, by omega, ?_⟩
    · rcases List.mem_cons.1 hy with rfl | hy
      · exact h4
      · exact i3 y hy
    · obtain ⟨g1, g2⟩ := i4 (by rw [h1]; exact words_drop hw _)
      refine ⟨fun y hy => ?_, g2⟩
      rcases List.mem_cons.1 hy with rfl | hy
      · rw [h5]
        exact ⟨word_in hw 0, by rw [reach_eq]; omega⟩
      · exact g1 y hy
    · rw [i5, h1, List.drop_drop]

/-- What is read. -/
def takL (w : List Int) : Int × List ItemV :=
  if w.length < 2 ∨ w.getD 0 0 = 0 ∨ w.getD 0 0 > (w.length : Int) then (12, []) else
  match parI (w.getD 0 0).toNat (w.drop 1) with
  | none => (12, [])
  | some (l, r) => if r.length = 0 ∨ rightI l = false ∨ rightB (w.take (w.length - r.length + 1)) = false then (12, []) else (0, l)

/-! There and back. -/
theorem takeI_enc {x : ItemV} (hk : x.data.size ≤ 64) (rest : List Int) : takeI (encI x ++ rest) = some (x, rest) := by
  have h1 : (encI x ++ rest).getD 1 0 = (x.data.size : Int) := rfl
  have h0 : (encI x ++ rest).getD 0 0 = x.key := rfl
  have he : endI (encI x ++ rest) = cstI x := by unfold endI cstI; rw [h1, Int.toNat_natCast]
  have hb : bytI (encI x ++ rest) = (0, b2l x.data) := by
    unfold bytI
    rw [h1, Int.toNat_natCast]
    have e : ((encI x ++ rest).drop 2).take (needN x.data.size) = packW (b2l x.data) (needN x.data.size) := by
      show (packW (b2l x.data) (needN x.data.size) ++ rest).take (needN x.data.size) = _
      have hl : (packW (b2l x.data) (needN x.data.size)).length = needN x.data.size := by simp [packW]
      rw [List.take_append_of_le_length (by omega), List.take_of_length_le (by omega)]
    rw [e]
    have := bytesR_pack (b2l_bytes x.data)
    rw [b2l_len] at this
    exact this
  unfold takeI
  rw [if_pos ⟨⟨by rw [List.length_append, encI_len]; unfold cstI; omega, by rw [h1]; omega, by rw [he, List.length_append, encI_len]; omega⟩, by rw [hb]⟩, hb, h0, he]
  have : (encI x ++ rest).drop (cstI x) = rest := by rw [← encI_len, List.drop_left]
  rw [this, l2b_b2l]
theorem parI_enc : ∀ {l : List ItemV}, (∀ x ∈ l, x.data.size ≤ 64) → ∀ rest, parI l.length (bodI l ++ rest) = some (l, rest)
  | [], _, rest => rfl
  | x :: l, h, rest => by
    have e : bodI (x :: l) ++ rest = encI x ++ (bodI l ++ rest) := by simp [bodI]
    rw [e, List.length_cons, parI, takeI_enc (h x (by simp))]
    simp only []
    rw [parI_enc (fun y hy => h y (List.mem_cons_of_mem _ hy)) rest]

theorem takL_lay {l : List ItemV} (hl : 0 < l.length) (hr : rightI l = true) (hn : l.length ≤ 300) (more : List Int) : takL (leafL l ++ [zs (leafL l)] ++ more) = (0, l) := by
  have hs := rightI_small hr
  have h0 : (leafL l ++ [zs (leafL l)] ++ more).getD 0 0 = (l.length : Int) := rfl
  have hlen : (leafL l ++ [zs (leafL l)] ++ more).length = totI l + 2 + more.length := by
    rw [List.length_append, List.length_append, leafL_len]
    simp only [List.length_cons, List.length_nil]
  have htot : l.length ≤ totI l := by
    unfold totI
    clear h0 hlen hn hs hr hl
    induction l with
    | nil => simp
    | cons x l ih =>
      have : 2 ≤ cstI x := by unfold cstI; omega
      rw [List.map_cons, List.sum_cons, List.length_cons]
      omega
  unfold takL
  rw [if_neg (by rw [h0, hlen]; omega), h0, Int.toNat_natCast]
  have hd : (leafL l ++ [zs (leafL l)] ++ more).drop 1 = bodI l ++ (zs (leafL l) :: more) := by
    generalize zs (leafL l) = z
    simp [leafL]
  rw [hd, parI_enc hs]
  simp only []
  rw [if_neg]
  rintro (h | h | h)
  · simp at h
  · rw [hr] at h; cases h
  · rw [hlen, List.length_cons, show totI l + 2 + more.length - (more.length + 1) + 1 = totI l + 2 by omega,
      List.take_append_of_le_length (by rw [List.length_append, leafL_len]; simp), List.take_of_length_le (by rw [List.length_append, leafL_len]; simp)] at h
    have : rightB (leafL l ++ [zs (leafL l)]) = true := by
      unfold rightB
      rw [List.length_append, List.length_singleton, Nat.add_sub_cancel, List.getD_eq_getElem?_getD, List.getElem?_append_right (Nat.le_refl _), Nat.sub_self]
      simp
    rw [this] at h
    cases h

end Go.Proofs.Ytmlbioapefgioaa.Pure
