/- Layer 23 (leaf): what its printed functions come to. -/
import Derived.Test.YtpidbpmkogbdeaaQX
import Derived.Test.YtpidbpmkogbdeaaQZeros
import Derived.Test.YtpidbpmkogbdeaaQWord
import Derived.Test.YtpidbpmkogbdeaaQItem
import Derived.Test.YtpidbpmkogbdeaaFleaf
import Derived.Test.YtpidbpmkogbdeaaFref23
namespace Go.Proofs.Ytpidbpmkogbdeaa.Pure
open Go Go.Proofs.Ytpidbpmkogbdeaa.Va
set_option linter.unusedVariables false
set_option linter.unusedSimpArgs false

/-- An item's words. -/
def encI (x : ItemV) : List Int := x.key :: (x.data.size : Int) :: packW (b2l x.data) (needN x.data.size)
def cstI (x : ItemV) : Nat := 2 + needN x.data.size
def totI (l : List ItemV) : Nat := (l.map cstI).sum
def bodI (l : List ItemV) : List Int := l.flatMap encI
def leafL (l : List ItemV) : List Int := (l.length : Int) :: bodI l
theorem encI_len (x : ItemV) : (encI x).length = cstI x := by simp [encI, cstI, packW]; omega
theorem bodI_len (l : List ItemV) : (bodI l).length = totI l := by
  unfold bodI totI
  induction l with
  | nil => rfl
  | cons x l ih => rw [List.flatMap_cons, List.length_append, encI_len, ih, List.map_cons, List.sum_cons]
theorem totI_cons (x : ItemV) (l : List ItemV) : totI (x :: l) = cstI x + totI l := by simp [totI]
theorem totI_append (a b : List ItemV) : totI (a ++ b) = totI a + totI b := by simp [totI]
theorem bodI_append (a b : List ItemV) : bodI (a ++ b) = bodI a ++ bodI b := by simp [bodI]
theorem bodI_one (x : ItemV) : bodI [x] = encI x := by simp [bodI]
theorem cstI_le {x : ItemV} (h : x.data.size ≤ reachBytes) : cstI x ≤ 35184372087811 := by rw [reach_eq] at h; unfold cstI needN; omega
theorem totI_le {l : List ItemV} (h : ∀ x ∈ l, x.data.size ≤ reachBytes) : totI l ≤ 35184372087811 * l.length := by
  induction l with
  | nil => simp [totI]
  | cons x l ih =>
    have h1 := cstI_le (h x (by simp))
    have h2 := ih fun y hy => h y (List.mem_cons_of_mem _ hy)
    rw [totI_cons, List.length_cons]
    omega
theorem totI_le64 {l : List ItemV} (h : ∀ x ∈ l, x.data.size ≤ 64) : totI l ≤ 18 * l.length := by
  induction l with
  | nil => simp [totI]
  | cons x l ih =>
    have h1 := h x (by simp)
    have h2 := ih fun y hy => h y (List.mem_cons_of_mem _ hy)
    rw [totI_cons, List.length_cons]
    unfold cstI needN
    omega
theorem totI_take {l : List ItemV} {i : Nat} (hi : i < l.length) : totI (l.take (i + 1)) = totI (l.take i) + cstI l[i] := by
  rw [List.take_succ_eq_append_getElem hi, totI_append]
  simp [totI]
theorem totI_mono {l : List ItemV} (i : Nat) : totI (l.take i) ≤ totI l := by
  have := totI_append (l.take i) (l.drop i)
  rw [List.take_append_drop] at this
  omega

theorem leaf_Cost_eq {x : ItemV} (h : x.data.size ≤ reachBytes) : leaf_Cost.c x.key x.data = some ((cstI x : Nat) : Int) := by
  have h' := cstI_le h
  rw [reach_eq] at h
  simp only [leaf_Cost.c, leaf_Cost.t, Tw.run_opt, Tw.run_ret, word_Need_eq _ (inR_i64 (show -9223372036854775808 ≤ ((x.data.size : Nat) : Int) ∧ ((x.data.size : Nat) : Int) < 9223372036854775808 by omega)), Option.bind_some, need_nat]
  unfold cstI at *
  rw [w64_of (by omega) (by omega)]
  rfl
theorem ref23_Cost_eq {x : ItemV} (h : x.data.size ≤ reachBytes) : ref23_Cost.c x.key x.data = some ((cstI x : Nat) : Int) := by
  have h' := cstI_le h
  rw [reach_eq] at h
  simp only [ref23_Cost.c, ref23_Cost.t, Tw.run_opt, Tw.run_ret, ref01_Need_eq _ (inR_i64 (show -9223372036854775808 ≤ ((x.data.size : Nat) : Int) ∧ ((x.data.size : Nat) : Int) < 9223372036854775808 by omega)), Option.bind_some, need_nat]
  unfold cstI at *
  rw [w64_of (by omega) (by omega)]
  rfl

theorem leaf_Total_eq {l : List ItemV} (hi : Its l) (hl : totI l < 4611686018427387904) (hn : l.length < 4611686018427387904) : leaf_Total.c l = some ((totI l : Nat) : Int) := by
  have hL : leaf_Total.L3 0 l (l.length : Int) 0 = some ((totI l : Nat) : Int) := by
    have := Lp_seq (fun s => (leaf_Total.l3 l (l.length : Int) s.1 s.2).run) (fun i => (((totI (l.take i) : Nat) : Int), (i : Int))) (x := ((totI l : Nat) : Int)) l.length 0 (fun i _ hi' => ?_) (by
      simp only [leaf_Total.l3, Nat.zero_add]
      rw [bb_neg (decide_eq_false (by omega)), List.take_length]
      rfl)
    · exact this
    · have hi2 : i < l.length := by omega
      have h1 := totI_mono (l := l) (i + 1)
      have h2 := totI_take hi2
      simp only [leaf_Total.l3, Int.toNat_natCast, List.getElem?_eq_getElem hi2]
      rw [bb_pos (decide_eq_true (by omega)), dd_pos (by omega)]
      simp only [Tw.run_opt, leaf_Cost_eq (hi l[i] (List.getElem_mem hi2)).2, Option.bind_some, Tw.run_ret]
      rw [w64_of (by omega) (by omega), w64_of (by omega) (by omega), h2]
      congr 3
  simp only [leaf_Total.c, leaf_Total.t, Tw.run_opt, hL, Option.bind_some, Tw.run_ret]
theorem ref23_Total_eq {l : List ItemV} (hi : Its l) (hl : totI l < 4611686018427387904) (hn : l.length < 4611686018427387904) : ref23_Total.c l = some ((totI l : Nat) : Int) := by
  have hL : ref23_Total.L3 l 0 0 = some ((totI l : Nat) : Int) := by
    have := Lp_seq (fun s => (ref23_Total.l3 l s.1 s.2).run) (fun i => (((totI (l.take i) : Nat) : Int), (i : Int))) (x := ((totI l : Nat) : Int)) l.length 0 (fun i _ hi' => ?_) (by
      simp only [ref23_Total.l3, Nat.zero_add]
      rw [bb_neg (decide_eq_false (by omega)), List.take_length]
      rfl)
    · exact this
    · have hi2 : i < l.length := by omega
      have h1 := totI_mono (l := l) (i + 1)
      have h2 := totI_take hi2
      simp only [ref23_Total.l3, Int.toNat_natCast, List.getElem?_eq_getElem hi2]
      rw [bb_pos (decide_eq_true (by omega)), dd_pos (by omega)]
      simp only [Tw.run_opt, ref23_Cost_eq (hi l[i] (List.getElem_mem hi2)).2, Option.bind_some, Tw.run_ret]
      rw [w64_of (by omega) (by omega), w64_of (by omega) (by omega), h2]
      congr 3
  simp only [ref23_Total.c, ref23_Total.t, Tw.run_opt, hL, Option.bind_some, Tw.run_ret]

theorem leaf_Room_eq {n : Int} (h : InR .i64 n) : leaf_Room.c n = some (if n > 2 then n - 2 else 0) := by
  have := h.i64
  simp only [leaf_Room.c, leaf_Room.t, Tw.run_ret]
  unfold imax
  by_cases h1 : n > 2
  · rw [if_neg (by omega), if_pos h1, w64_of (by omega) (by omega)]
  · rw [if_neg h1]
    by_cases h2 : (2 : Int) > n
    · rw [if_pos h2, w64_of (by omega) (by omega)]; rfl
    · rw [if_neg h2, w64_of (by omega) (by omega)]
      congr 1
      omega
theorem ref23_May_eq {l : List ItemV} (hl : l.length ≤ 140737488351232) : ref23_May.c l = some (decide (0 < l.length) && rightI l) := by
  simp only [ref23_May.c, ref23_May.t]
  by_cases h : 0 < l.length
  · rw [bb_pos (decide_eq_true (by omega)), decide_eq_true h]
    simp only [Tw.run_opt, ref18_Right_eq hl, Option.bind_some, Tw.run_ret]
    rfl
  · rw [bb_neg (decide_eq_false (by omega)), decide_eq_false h]
    rfl

theorem rightI_small {l : List ItemV} (h : rightI l = true) : ∀ x ∈ l, x.data.size ≤ 64 := by
  unfold rightI at h
  rw [Option.isNone_iff_eq_none, List.find?_eq_none] at h
  intro x hx
  obtain ⟨i, hi, rfl⟩ := List.getElem_of_mem hx
  have := h i (by rw [List.mem_range'_1]; omega)
  unfold badAt at this
  rw [List.getElem?_eq_getElem hi] at this
  by_cases h0 : 0 < i
  · have e3 : l[i - 1]? = some (l[i - 1]'(by omega)) := List.getElem?_eq_getElem _
    rw [e3] at this
    simp [h0] at this
    omega
  · simp [h0] at this
    omega

theorem encI_words {x : ItemV} (h : InR .u32 x.key) (h2 : x.data.size ≤ 64) : Words (encI x) :=
  words_cons h (words_cons (inR_u32 (by omega)) (packW_words (b2l_bytes _) _))
theorem bodI_words {l : List ItemV} (hi : Its l) (h : ∀ x ∈ l, x.data.size ≤ 64) : Words (bodI l) := by
  intro y hy
  unfold bodI at hy
  obtain ⟨x, hx, hy⟩ := List.mem_flatMap.1 hy
  exact encI_words (hi x hx).1 (h x hx) y hy
theorem leafL_words {l : List ItemV} (hi : Its l) (h : ∀ x ∈ l, x.data.size ≤ 64) (hn : l.length < 4294967296) : Words (leafL l) :=
  words_cons (inR_u32 (by omega)) (bodI_words hi h)
theorem leafL_len (l : List ItemV) : (leafL l).length = totI l + 1 := by unfold leafL; rw [List.length_cons, bodI_len]

theorem bodI_take {l : List ItemV} {i : Nat} (hi : i < l.length) : bodI (l.take (i + 1)) = bodI (l.take i) ++ encI l[i] := by
  rw [List.take_succ_eq_append_getElem hi, bodI_append, bodI_one]

theorem leaf_Lay_L7 {l : List ItemV} (hi : Its l) (h : ∀ x ∈ l, x.data.size ≤ 64) (hn : l.length ≤ 300) : leaf_Lay.L7 l (l.length : Int) 0 [w32 (l.length : Int)] = some (leafL l) := by
  have ht := totI_le64 h
  have hw : w32 (l.length : Int) = (l.length : Int) := w32_of (by omega) (by omega)
  rw [hw]
  have := Lp_seq (fun s => (leaf_Lay.l7 l (l.length : Int) s.1 s.2).run) (fun i => ((i : Int), (l.length : Int) :: bodI (l.take i))) (x := leafL l) l.length 0 (fun i _ hi' => ?_) (by
    simp only [leaf_Lay.l7, Nat.zero_add]
    rw [bb_neg (decide_eq_false (by omega)), List.take_length]
    rfl)
  · exact this
  · have hi2 : i < l.length := by omega
    have h1 := totI_mono (l := l) (i + 1)
    have h2 := totI_take hi2
    have hs := h l[i] (List.getElem_mem hi2)
    have hP : word_Pack.c (b2l l[i].data) = some (packW (b2l l[i].data) (needN l[i].data.size)) := by
      rw [word_Pack_eq (b2l_bytes _) (by rw [b2l_len, reach_eq]; omega), b2l_len]
    have hpl : (packW (b2l l[i].data) (needN l[i].data.size)).length = needN l[i].data.size := by simp [packW]
    have hc : cstI l[i] = 2 + needN l[i].data.size := rfl
    simp only [leaf_Lay.l7, Int.toNat_natCast, List.getElem?_eq_getElem hi2]
    rw [bb_pos (decide_eq_true (by omega)), dd_pos (by omega)]
    simp only [Tw.run_opt, Option.bind_some]
    rw [dd_pos (by simp only [List.length_cons, List.length_nil, bodI_len]; omega)]
    simp only [Tw.run_opt, hP, Option.bind_some]
    rw [dd_pos (by simp only [List.length_append, List.length_cons, List.length_nil, bodI_len, hpl]; omega), w64_of (by omega) (by omega), w32_of (n := ((l[i].data.size : Nat) : Int)) (by omega) (by omega), bodI_take hi2]
    simp only [Tw.run_ret, encI, List.cons_append, List.append_assoc, List.nil_append]
    rfl

/-- A leaf's words, or why there are none. -/
def layL (l : List ItemV) (room : Int) : Int × List Int :=
  if l.length = 0 ∨ rightI l = false then (2, []) else if (totI l : Int) > room then (14, []) else (0, leafL l ++ [zs (leafL l)])
theorem leaf_Lay_eq {l : List ItemV} (hi : Its l) (hn : l.length ≤ 300) {n : Int} (h : InR .i64 n) : leaf_Lay.c l n = some (layL l (if n > 2 then n - 2 else 0)) := by
  simp only [leaf_Lay.c, leaf_Lay.t]
  unfold layL
  by_cases h0 : l.length = 0
  · rw [bb_pos (by rw [beq_iff_eq]; omega), if_pos (Or.inl h0)]; rfl
  rw [bb_neg (by rw [beq_eq_false_iff_ne]; omega)]
  simp only [Tw.run_opt, item_Right_eq (show l.length ≤ 140737488351232 by omega), Option.bind_some]
  cases hr : rightI l with
  | false => rw [bb_pos (by rfl), if_pos (Or.inr rfl)]; rfl
  | true =>
    have hs := rightI_small hr
    have ht := totI_le64 hs
    rw [bb_neg (by rfl), if_neg (by rintro (h | h); exact h0 h; cases h)]
    simp only [Tw.run_opt, leaf_Total_eq hi (show totI l < 4611686018427387904 by omega) (show l.length < 4611686018427387904 by omega), leaf_Room_eq h, Option.bind_some]
    by_cases hx : ((totI l : Nat) : Int) > (if n > 2 then n - 2 else 0)
    · rw [bb_pos (decide_eq_true hx), if_pos hx]; rfl
    · rw [bb_neg (decide_eq_false hx), if_neg hx]
      simp only [Tw.run_opt, leaf_Lay_L7 hi hs hn, zeros_Seal_eq (leafL_words hi hs (by omega)) (show (leafL l).length * 4 ≤ reachBytes by rw [leafL_len, reach_eq]; omega), Option.bind_some, Tw.run_ret]

theorem ref23_Lay_eq {l : List ItemV} (hi : Its l) (h : ∀ x ∈ l, x.data.size ≤ 64) (hn : l.length ≤ 300) : ref23_Lay.c l = some (leafL l ++ [zs (leafL l)]) := by
  have ht := totI_le64 h
  have hL : ref23_Lay.L3 l 0 [w32 (l.length : Int)] = some (leafL l) := by
    have hw : w32 (l.length : Int) = (l.length : Int) := w32_of (by omega) (by omega)
    rw [hw]
    have := Lp_seq (fun s => (ref23_Lay.l3 l s.1 s.2).run) (fun i => ((i : Int), (l.length : Int) :: bodI (l.take i))) (x := leafL l) l.length 0 (fun i _ hi' => ?_) (by
      simp only [ref23_Lay.l3, Nat.zero_add]
      rw [bb_neg (decide_eq_false (by omega)), List.take_length]
      rfl)
    · exact this
    · have hi2 : i < l.length := by omega
      have h1 := totI_mono (l := l) (i + 1)
      have h2 := totI_take hi2
      have hs := h l[i] (List.getElem_mem hi2)
      have hP : ref01_Pack.c (b2l l[i].data) = some (packW (b2l l[i].data) (needN l[i].data.size)) := by
        rw [ref01_Pack_eq (b2l_bytes _) (by rw [b2l_len, reach_eq]; omega), b2l_len]
      have hpl : (packW (b2l l[i].data) (needN l[i].data.size)).length = needN l[i].data.size := by simp [packW]
      have hc : cstI l[i] = 2 + needN l[i].data.size := rfl
      simp only [ref23_Lay.l3, Int.toNat_natCast, List.getElem?_eq_getElem hi2]
      rw [bb_pos (decide_eq_true (by omega)), dd_pos (by omega)]
      simp only [Tw.run_opt, Option.bind_some]
      rw [dd_pos (by omega)]
      simp only [Tw.run_opt, Option.bind_some]
      rw [dd_pos (by simp only [List.length_cons, List.length_nil, bodI_len]; omega), dd_pos (by omega)]
      simp only [Tw.run_opt, hP, Option.bind_some]
      rw [dd_pos (by simp only [List.length_append, List.length_cons, List.length_nil, bodI_len, hpl]; omega), w64_of (by omega) (by omega), w32_of (n := ((l[i].data.size : Nat) : Int)) (by omega) (by omega), bodI_take hi2]
      simp only [Tw.run_ret, encI, List.cons_append, List.append_assoc, List.nil_append]
      rfl
  simp only [ref23_Lay.c, ref23_Lay.t, Tw.run_opt, hL, ref02_Seal_eq (leafL_words hi h (by omega)) (show (leafL l).length * 4 ≤ reachBytes by rw [leafL_len, reach_eq]; omega), Option.bind_some, Tw.run_ret]

/-! What is read of words. -/
def endI (w : List Int) : Nat := 2 + needN (w.getD 1 0).toNat
def mayI (w : List Int) : Prop := 2 ≤ w.length ∧ w.getD 1 0 ≤ 64 ∧ endI w ≤ w.length
instance (w : List Int) : Decidable (mayI w) := by unfold mayI; infer_instance
def bytI (w : List Int) : Int × List Int := bytesR ((w.drop 2).take (needN (w.getD 1 0).toNat)) (w.getD 1 0)
/-- An item, and what is behind it. -/
def takeI (w : List Int) : Option (ItemV × List Int) := if mayI w ∧ (bytI w).1 = 0 then some (⟨w.getD 0 0, l2b (bytI w).2⟩, w.drop (endI w)) else none

theorem leaf_take_eq {w : List Int} (hw : Words w) (hl : w.length ≤ 35184372088832) : ∃ r, leaf_take.c w = some r ∧ match takeI w with
    | some (x, rest) => r = (x.key, x.data, rest, true)
    | none => r.2.2.2 = false := by
  simp only [leaf_take.c, leaf_take.t, show Int.toNat (0 : Int) = 0 from rfl, show Int.toNat (1 : Int) = 1 from rfl, show Int.toNat (2 : Int) = 2 from rfl]
  unfold takeI
  by_cases h0 : w.length < 2
  · rw [bb_pos (decide_eq_true (by omega)), if_neg (by rintro ⟨⟨h, _⟩, _⟩; omega)]
    exact ⟨_, rfl, rfl⟩
  rw [bb_neg (decide_eq_false (by omega))]
  have h1r := (word_in hw 1).u32
  simp only [Tw.run_opt, word_some (show 1 < w.length by omega), Option.bind_some]
  by_cases h1 : w.getD 1 0 > 64
  · rw [bb_pos (decide_eq_true h1), if_neg (by rintro ⟨⟨_, h, _⟩, _⟩; omega)]
    exact ⟨_, rfl, rfl⟩
  rw [bb_neg (decide_eq_false h1)]
  obtain ⟨n, hn⟩ : ∃ n : Nat, w.getD 1 0 = (n : Int) := ⟨(w.getD 1 0).toNat, by omega⟩
  have hnd : needN n ≤ 16 := by unfold needN; omega
  have he : endI w = 2 + needN n := by unfold endI; rw [hn]; rfl
  have k1 : w64 (w.getD 1 0) = (n : Int) := by rw [hn]; exact w64_of (by omega) (by omega)
  have k2 : w64 (2 + ((needN n : Nat) : Int)) = ((2 + needN n : Nat) : Int) := by rw [w64_of (by omega) (by omega)]; omega
  simp only [Tw.run_opt, k1, word_Need_eq _ (inR_i64 (show -9223372036854775808 ≤ ((n : Nat) : Int) ∧ ((n : Nat) : Int) < 9223372036854775808 by omega)), need_nat, Option.bind_some, k2, Int.toNat_natCast]
  by_cases h2 : w.length < 2 + needN n
  · rw [bb_pos (decide_eq_true (by omega)), if_neg (by rintro ⟨⟨_, _, h⟩, _⟩; omega)]
    exact ⟨_, rfl, rfl⟩
  rw [bb_neg (decide_eq_false (by omega)), dd_pos (by simp only [k1, k2]; omega)]
  have e1 : List.drop 2 (List.take (2 + needN n) w) = (w.drop 2).take (needN n) := by rw [List.drop_take, show 2 + needN n - 2 = needN n by omega]
  have hB : word_Bytes.c ((w.drop 2).take (needN n)) (n : Int) = some (bytI w) := by
    rw [word_Bytes_eq (words_take (words_drop hw 2) _) (by rw [List.length_take, reach_eq]; omega) (inR_i64 (by omega))]
    unfold bytI
    rw [hn]
    rfl
  simp only [Tw.run_opt, e1, hB, Option.bind_some, word_some (show 0 < w.length by omega)]
  rw [dd_pos (by omega), Tw.run_ret]
  refine ⟨_, rfl, ?_⟩
  by_cases hb : (bytI w).1 = 0
  · rw [if_pos ⟨⟨by omega, by omega, by omega⟩, hb⟩, he]
    simp [hb]
  · rw [if_neg (fun h => hb h.2)]
    simpa using hb

theorem takeI_rest {w : List Int} {x : ItemV} {r : List Int} (h : takeI w = some (x, r)) : r = w.drop (endI w) ∧ endI w ≤ w.length ∧ 2 ≤ endI w ∧ x.data.size ≤ 64 ∧ x.key = w.getD 0 0 := by
  unfold takeI at h
  split at h
  · rename_i hc
    obtain ⟨⟨h1, h2, h3⟩, h4⟩ := hc
    simp only [Option.some.injEq, Prod.mk.injEq] at h
    obtain ⟨rfl, rfl⟩ := h
    refine ⟨rfl, h3, by unfold endI; omega, ?_, rfl⟩
    show (l2b (bytI w).2).size ≤ 64
    rw [l2b_size]
    unfold bytI bytesR
    split
    · simp
    · split
      · simp
      · split
        · simp
        · split
          · simp
          · show ((List.range (w.getD 1 0).toNat).map _).length ≤ 64
            rw [List.length_map, List.length_range]
            omega
  · cases h

def parI : Nat → List Int → Option (List ItemV × List Int)
  | 0, w => some ([], w)
  | n + 1, w => match takeI w with
    | none => none
    | some (x, r) => match parI n r with
      | none => none
      | some (l, r') => some (x :: l, r')
theorem parI_len : ∀ {n : Nat} {w : List Int} {l : List ItemV} {r : List Int}, parI n w = some (l, r) → l.length = n ∧ r.length + 2 * n ≤ w.length ∧ (∀ x ∈ l, x.data.size ≤ 64) ∧ (Words w → Its l ∧ Words r) ∧ ∃ m, m ≤ w.length ∧ r = w.drop m
  | 0, w, l, r, h => by
    simp only [parI, Option.some.injEq, Prod.mk.injEq] at h
    obtain ⟨rfl, rfl⟩ := h
    exact ⟨rfl, by omega, by simp, fun hw => ⟨(fun _ h => nomatch h), hw⟩, 0, by omega, rfl⟩
  | n + 1, w, l, r, h => by
    rw [parI] at h
    split at h
    · cases h
    rename_i x q hq
    split at h
    · cases h
    rename_i l' r' hr
    simp only [Option.some.injEq, Prod.mk.injEq] at h
    obtain ⟨rfl, rfl⟩ := h
    obtain ⟨h1, h2, h3, h4, h5⟩ := takeI_rest hq
    obtain ⟨i1, i2, i3, i4, m, hm, i5⟩ := parI_len hr
    have hql : q.length = w.length - endI w := by rw [h1, List.length_drop]
    refine ⟨by rw [List.length_cons, i1], by omega, fun y hy => ?_, fun hw => ?_, endI w + m, by omega, ?_⟩
    · rcases List.mem_cons.1 hy with rfl | hy
      · exact h4
      · exact i3 y hy
    · obtain ⟨g1, g2⟩ := i4 (by rw [h1]; exact words_drop hw _)
      refine ⟨fun y hy => ?_, g2⟩
      rcases List.mem_cons.1 hy with rfl | hy
      · rw [h5]
        exact ⟨word_in hw 0, by rw [reach_eq]; omega⟩
      · exact g1 y hy
    · rw [i5, h1, List.drop_drop]

/-- What is read. -/
def takL (w : List Int) : Int × List ItemV :=
  if w.length < 2 ∨ w.getD 0 0 = 0 ∨ w.getD 0 0 > (w.length : Int) then (12, []) else
  match parI (w.getD 0 0).toNat (w.drop 1) with
  | none => (12, [])
  | some (l, r) => if r.length = 0 ∨ rightI l = false ∨ rightB (w.take (w.length - r.length + 1)) = false then (12, []) else (0, l)

theorem leaf_Take_L6 {w0 : List Int} {k33 : Nat} (hk : k33 < 4294967296) (hk2 : k33 ≤ 1000000) : ∀ (n : Nat) (k : Nat) (rest : List Int) (acc : List ItemV), k + n = k33 → Words rest → rest.length ≤ 35184372088832 → acc.length = k →
    ∃ x, leaf_Take.L6 w0 rest (k33 : Int) (k : Int) acc = some x ∧ match parI n rest with
      | some (l, r) => x = .inl (r, acc ++ l)
      | none => ∃ y, x = .inr (12, y)
  | 0, k, rest, acc, h, hw, hl, ha => by
    refine ⟨.inl (rest, acc), Lp_end ?_, by simp [parI]⟩
    simp only [leaf_Take.l6]
    rw [bb_neg (decide_eq_false (by omega))]
    rfl
  | n + 1, k, rest, acc, h, hw, hl, ha => by
    obtain ⟨r, h1, h2⟩ := leaf_take_eq hw hl
    rw [parI]
    cases hq : takeI rest with
    | none =>
      rw [hq] at h2
      refine ⟨.inr (12, (rest, acc)), Lp_end ?_, ⟨_, rfl⟩⟩
      simp only [leaf_Take.l6]
      rw [bb_pos (decide_eq_true (by omega))]
      simp only [Tw.run_opt, h1, Option.bind_some]
      rw [bb_pos (by rw [h2]; rfl)]
      rfl
    | some q =>
      obtain ⟨x, q⟩ := q
      rw [hq] at h2
      simp only [] at h2
      subst h2
      obtain ⟨e1, e2, e3, e4, e5⟩ := takeI_rest hq
      have hqw : Words q := by rw [e1]; exact words_drop hw _
      obtain ⟨y, i1, i2⟩ := leaf_Take_L6 hk hk2 (w0 := w0) n (k + 1) q (acc ++ [x]) (by omega) hqw (by rw [e1, List.length_drop]; omega) (by simp [ha])
      refine ⟨y, ?_, ?_⟩
      · refine (Lp_next (s' := (q, (((k + 1 : Nat) : Int), acc ++ [x]))) ?_).trans i1
        simp only [leaf_Take.l6]
        rw [bb_pos (decide_eq_true (by omega))]
        simp only [Tw.run_opt, h1, Option.bind_some]
        rw [bb_neg (by rfl), dd_pos (by simp only [List.length_cons, List.length_nil]; omega), w32_of (by omega) (by omega)]
        rfl
      · cases hp : parI n q with
        | none => simp only [hp] at i2 ⊢; exact i2
        | some p =>
          obtain ⟨l, r'⟩ := p
          simp only [hp] at i2 ⊢
          rw [i2]
          simp

theorem leaf_Take_eq {w : List Int} (hw : Words w) (hl : w.length ≤ 35184372088832) (h0 : w.getD 0 0 ≤ 1000000 ∨ w.length ≤ 1000000) : leaf_Take.c w = some (takL w) := by
  simp only [leaf_Take.c, leaf_Take.t, show Int.toNat (0 : Int) = 0 from rfl, show Int.toNat (1 : Int) = 1 from rfl]
  unfold takL
  by_cases g0 : w.length < 2
  · rw [bb_pos (decide_eq_true (by omega)), if_pos (Or.inl g0)]; rfl
  rw [bb_neg (decide_eq_false (by omega))]
  have hr := (word_in hw 0).u32
  simp only [Tw.run_opt, word_some (show 0 < w.length by omega), Option.bind_some]
  by_cases g1 : w.getD 0 0 = 0
  · rw [bb_pos (by simpa using g1), if_pos (Or.inr (Or.inl g1))]; rfl
  rw [bb_neg (by rw [beq_eq_false_iff_ne]; exact g1)]
  simp only [Tw.run_opt, Option.bind_some]
  rw [wu64_of (n := w.getD 0 0) (by omega) (by omega), wu64_of (n := ((w.length : Nat) : Int)) (by omega) (by omega)]
  by_cases g2 : w.getD 0 0 > (w.length : Int)
  · rw [bb_pos (decide_eq_true g2), if_pos (Or.inr (Or.inr g2))]; rfl
  rw [bb_neg (decide_eq_false g2), if_neg (by rintro (h | h | h); exact g0 h; exact g1 h; exact g2 h), dd_pos (by omega)]
  obtain ⟨n, hn⟩ : ∃ n : Nat, w.getD 0 0 = (n : Int) := ⟨(w.getD 0 0).toNat, by omega⟩
  obtain ⟨x, i1, i2⟩ := leaf_Take_L6 (w0 := w) (k33 := n) (by omega) (by omega) n 0 (w.drop 1) [] (by omega) (words_drop hw 1) (by rw [List.length_drop]; omega) rfl
  simp only [Tw.run_opt, hn, Option.bind_some]
  rw [show leaf_Take.L6 w (List.drop 1 w) (n : Int) 0 [] = some x from i1, Int.toNat_natCast]
  simp only [Option.bind_some]
  cases hp : parI n (w.drop 1) with
  | none =>
    rw [hp] at i2
    obtain ⟨y, rfl⟩ := i2
    rfl
  | some p =>
    obtain ⟨l, r⟩ := p
    rw [hp] at i2
    simp only [List.nil_append] at i2
    subst i2
    obtain ⟨p1, p2, p3, p4, m, p5, p6⟩ := parI_len hp
    rw [List.length_drop] at p2 p5
    simp only [Tw.run_sm, Sum.elim_inl]
    by_cases g3 : r.length = 0
    · rw [bb_pos (by rw [beq_iff_eq]; omega), if_pos (Or.inl g3)]; rfl
    rw [bb_neg (by rw [beq_eq_false_iff_ne]; omega)]
    simp only [Tw.run_opt, item_Right_eq (show l.length ≤ 140737488351232 by omega), Option.bind_some]
    cases hri : rightI l with
    | false => rw [bb_pos (by rfl), if_pos (Or.inr (Or.inl rfl))]; rfl
    | true =>
      have e1 : w64 (w64 ((w.length : Int) - (r.length : Int)) + 1) = ((w.length - r.length + 1 : Nat) : Int) := by
        rw [w64_of (n := (w.length : Int) - (r.length : Int)) (by omega) (by omega), w64_of (by omega) (by omega)]; omega
      rw [bb_neg (by rfl), e1, Int.toNat_natCast, dd_pos (by omega)]
      simp only [Tw.run_opt, zeros_Right_eq (words_take hw _) (show (w.take (w.length - r.length + 1)).length ≤ 140737488351232 by rw [List.length_take]; omega), Option.bind_some]
      cases hrb : rightB (w.take (w.length - r.length + 1)) with
      | false => rw [bb_pos (by rfl), if_pos (Or.inr (Or.inr rfl))]; rfl
      | true =>
        rw [bb_neg (by rfl), if_neg (by rintro (h | h | h); exact g3 h; cases h; cases h)]
        rfl

theorem ref23_step {w : List Int} (hw : Words w) (hl : w.length ≤ 1000000) (at' k : Nat) (ha : 1 ≤ at' ∧ at' ≤ w.length) (hk : (k : Int) < w.getD 0 0) (acc : List ItemV) (hacc : acc.length ≤ 1000000) :
    match takeI (w.drop at') with
    | some (x, _) => (ref23_Take.l6 w (at' : Int) (k : Int) acc).run = some (.inl (((at' + endI (w.drop at') : Nat) : Int), ((k + 1 : Nat) : Int), acc ++ [x]))
    | none => ∃ y, (ref23_Take.l6 w (at' : Int) (k : Int) acc).run = some (.inr (.inr (12, y))) := by
  have h0r := (word_in hw 0).u32
  simp only [ref23_Take.l6, show Int.toNat (0 : Int) = 0 from rfl, Tw.run_opt, word_some (show 0 < w.length by omega), Option.bind_some]
  rw [bb_pos (decide_eq_true hk)]
  have k2 : w64 ((at' : Int) + 2) = ((at' + 2 : Nat) : Int) := by rw [w64_of (by omega) (by omega)]; omega
  have k1 : w64 ((at' : Int) + 1) = ((at' + 1 : Nat) : Int) := by rw [w64_of (by omega) (by omega)]; omega
  have hdl : (w.drop at').length = w.length - at' := List.length_drop ..
  unfold takeI
  rw [k2]
  by_cases g0 : at' + 2 > w.length
  · rw [bb_pos (decide_eq_true (by omega)), if_neg (by rintro ⟨⟨h, _⟩, _⟩; omega)]
    exact ⟨_, rfl⟩
  rw [bb_neg (decide_eq_false (by omega)), dd_pos (by omega)]
  have hg1 : (w.drop at').getD 1 0 = w.getD (at' + 1) 0 := by rw [List.getD_eq_getElem?_getD, List.getElem?_drop, ← List.getD_eq_getElem?_getD]
  have hg0 : (w.drop at').getD 0 0 = w.getD at' 0 := by rw [List.getD_eq_getElem?_getD, List.getElem?_drop, Nat.add_zero, ← List.getD_eq_getElem?_getD]
  have h1r := (word_in hw (at' + 1)).u32
  simp only [k1, Int.toNat_natCast, Tw.run_opt, word_some (show at' + 1 < w.length by omega), Option.bind_some]
  by_cases g1 : w.getD (at' + 1) 0 > 64
  · rw [bb_pos (decide_eq_true g1), if_neg (by rintro ⟨⟨_, h, _⟩, _⟩; rw [hg1] at h; omega)]
    exact ⟨_, rfl⟩
  rw [bb_neg (decide_eq_false g1), dd_pos (by omega)]
  obtain ⟨n, hn⟩ : ∃ n : Nat, w.getD (at' + 1) 0 = (n : Int) := ⟨(w.getD (at' + 1) 0).toNat, by omega⟩
  have hnd : needN n ≤ 16 := by unfold needN; omega
  have he : endI (w.drop at') = 2 + needN n := by unfold endI; rw [hg1, hn]; rfl
  have k3 : w64 (w.getD (at' + 1) 0) = (n : Int) := by rw [hn]; exact w64_of (by omega) (by omega)
  have k4 : w64 (((at' + 2 : Nat) : Int) + ((needN n : Nat) : Int)) = ((at' + (2 + needN n) : Nat) : Int) := by rw [w64_of (by omega) (by omega)]; omega
  simp only [Tw.run_opt, k3, ref01_Need_eq _ (inR_i64 (show -9223372036854775808 ≤ ((n : Nat) : Int) ∧ ((n : Nat) : Int) < 9223372036854775808 by omega)), need_nat, Option.bind_some, k2, k4, Int.toNat_natCast]
  by_cases g2 : at' + (2 + needN n) > w.length
  · rw [bb_pos (decide_eq_true (by omega)), if_neg (by rintro ⟨⟨_, _, h⟩, _⟩; rw [he, hdl] at h; omega)]
    exact ⟨_, rfl⟩
  rw [bb_neg (decide_eq_false (by omega)), dd_pos (by simp only [k2, k3, k4]; omega)]
  have e1 : List.drop (at' + 2) (List.take (at' + (2 + needN n)) w) = ((w.drop at').drop 2).take (needN n) := by rw [List.drop_take, List.drop_drop, show at' + (2 + needN n) - (at' + 2) = needN n by omega]
  have hB : ref01_Bytes.c (((w.drop at').drop 2).take (needN n)) (n : Int) = some ((bytI (w.drop at')).2, (bytI (w.drop at')).1) := by
    rw [ref01_Bytes_eq (words_take (words_drop (words_drop hw _) 2) _) (by rw [List.length_take, reach_eq]; omega) (inR_i64 (by omega))]
    unfold bytI
    rw [hg1, hn]
    rfl
  simp only [Tw.run_opt, e1, hB, Option.bind_some]
  by_cases hb : (bytI (w.drop at')).1 = 0
  · rw [bb_neg (by simpa using hb), if_pos ⟨⟨by omega, by rw [hg1]; omega, by rw [he, hdl]; omega⟩, hb⟩, dd_pos (by omega)]
    simp only [Int.toNat_natCast, Tw.run_opt, word_some (show at' < w.length by omega), Option.bind_some]
    rw [dd_pos (by simp only [List.length_cons, List.length_nil]; omega), w32_of (by omega) (by omega), he, hg0]
    rfl
  · rw [bb_pos (by simpa using hb), if_neg (fun h => hb h.2)]
    exact ⟨_, rfl⟩

theorem ref23_Take_L6 {w : List Int} (hw : Words w) (hl : w.length ≤ 1000000) (N : Nat) (hN : w.getD 0 0 = (N : Int)) : ∀ (n k at' : Nat) (acc : List ItemV), k + n = N → 1 ≤ at' ∧ at' ≤ w.length → acc.length = k → 2 * k + 1 ≤ at' →
    ∃ x, ref23_Take.L6 w (at' : Int) (k : Int) acc = some x ∧ match parI n (w.drop at') with
      | some (l, r) => x = .inl (((w.length - r.length : Nat) : Int), acc ++ l)
      | none => ∃ y, x = .inr (12, y)
  | 0, k, at', acc, h, ha, hacc, hb => by
    refine ⟨.inl ((at' : Int), acc), Lp_end ?_, ?_⟩
    · simp only [ref23_Take.l6, show Int.toNat (0 : Int) = 0 from rfl, Tw.run_opt, word_some (show 0 < w.length by omega), Option.bind_some]
      rw [bb_neg (decide_eq_false (by omega))]
      rfl
    · simp only [parI, List.append_nil, List.length_drop]
      rw [show w.length - (w.length - at') = at' by omega]
  | n + 1, k, at', acc, h, ha, hacc, hb => by
    have hs := ref23_step hw hl at' k ha (by omega) acc (by omega)
    rw [parI]
    cases hq : takeI (w.drop at') with
    | none =>
      simp only [hq] at hs
      obtain ⟨y, hy⟩ := hs
      exact ⟨.inr (12, y), Lp_end hy, ⟨_, rfl⟩⟩
    | some q =>
      obtain ⟨x, q⟩ := q
      simp only [hq] at hs
      obtain ⟨e1, e2, e3, e4, e5⟩ := takeI_rest hq
      rw [List.length_drop] at e2
      obtain ⟨y, i1, i2⟩ := ref23_Take_L6 hw hl N hN n (k + 1) (at' + endI (w.drop at')) (acc ++ [x]) (by omega) (by omega) (by simp [hacc]) (by omega)
      refine ⟨y, (Lp_next hs).trans i1, ?_⟩
      rw [← List.drop_drop, ← e1] at i2
      cases hp : parI n q with
      | none => simp only [hp] at i2 ⊢; exact i2
      | some p =>
        obtain ⟨l, r'⟩ := p
        simp only [hp] at i2 ⊢
        rw [i2]
        simp

theorem ref23_Take_eq {w : List Int} (hw : Words w) (hl : w.length ≤ 1000000) : ref23_Take.c w = some (takL w) := by
  simp only [ref23_Take.c, ref23_Take.t]
  unfold takL
  by_cases g : w.length = 0
  · rw [bb_pos (by rw [beq_iff_eq]; omega), if_pos (Or.inl (by omega))]; rfl
  rw [bb_neg (by rw [beq_eq_false_iff_ne]; omega)]
  have hr := (word_in hw 0).u32
  obtain ⟨n, hn⟩ : ∃ n : Nat, w.getD 0 0 = (n : Int) := ⟨(w.getD 0 0).toNat, by omega⟩
  obtain ⟨x, i1, i2⟩ := ref23_Take_L6 hw hl n hn n 0 1 [] (by omega) (by omega) rfl (by omega)
  simp only [Tw.run_opt]
  rw [show ref23_Take.L6 w 1 0 [] = some x from i1]
  simp only [Option.bind_some]
  have hne : (parI n (w.drop 1) = none → (if w.length < 2 ∨ w.getD 0 0 = 0 ∨ w.getD 0 0 > (w.length : Int) then ((12, []) : Int × List ItemV) else
      match parI (w.getD 0 0).toNat (w.drop 1) with
      | none => (12, [])
      | some (l, r) => if r.length = 0 ∨ rightI l = false ∨ rightB (w.take (w.length - r.length + 1)) = false then (12, []) else (0, l)) = (12, [])) := by
    intro h
    rw [hn, Int.toNat_natCast, h]
    simp
  cases hp : parI n (w.drop 1) with
  | none =>
    rw [hne hp]
    simp only [hp] at i2
    obtain ⟨y, rfl⟩ := i2
    rfl
  | some p =>
    obtain ⟨l, r⟩ := p
    simp only [hp, List.nil_append] at i2
    subst i2
    obtain ⟨p1, p2, p3, p4, m, p5, p6⟩ := parI_len hp
    rw [List.length_drop] at p2 p5
    simp only [Tw.run_sm, Sum.elim_inl]
    rw [hn, Int.toNat_natCast, hp]
    simp only []
    by_cases g3 : r.length = 0
    · rw [bb_pos (decide_eq_true (by omega)), if_pos (Or.inl g3)]
      simp [Tw.run_ret]
    rw [bb_neg (decide_eq_false (by omega))]
    simp only [Tw.run_opt, ref23_May_eq (show l.length ≤ 140737488351232 by omega), Option.bind_some]
    by_cases g4 : n = 0
    · subst g4
      rw [decide_eq_false (by omega), bb_pos (by rfl), if_pos (show w.length < 2 ∨ ((0 : Nat) : Int) = 0 ∨ ((0 : Nat) : Int) > (w.length : Int) from Or.inr (Or.inl rfl))]
      rfl
    rw [decide_eq_true (by omega : 0 < l.length), Bool.true_and]
    rw [if_neg (show ¬ (w.length < 2 ∨ (n : Int) = 0 ∨ (n : Int) > (w.length : Int)) by omega)]
    cases hri : rightI l with
    | false => rw [bb_pos (by rfl), if_pos (Or.inr (Or.inl rfl))]; rfl
    | true =>
      have e1 : w64 (((w.length - r.length : Nat) : Int) + 1) = ((w.length - r.length + 1 : Nat) : Int) := by rw [w64_of (by omega) (by omega)]; omega
      rw [bb_neg (by rfl), e1, Int.toNat_natCast, dd_pos (by omega)]
      simp only [Tw.run_opt, ref02_Right_eq (words_take hw _) (show (w.take (w.length - r.length + 1)).length ≤ 140737488351232 by rw [List.length_take]; omega), Option.bind_some]
      cases hrb : rightB (w.take (w.length - r.length + 1)) with
      | false => rw [bb_pos (by rfl), if_pos (Or.inr (Or.inr rfl))]; rfl
      | true =>
        rw [bb_neg (by rfl), if_neg (by rintro (h | h | h); exact g3 h; cases h; cases h)]
        rfl

/-! There and back. -/
theorem takeI_enc {x : ItemV} (hk : x.data.size ≤ 64) (rest : List Int) : takeI (encI x ++ rest) = some (x, rest) := by
  have h1 : (encI x ++ rest).getD 1 0 = (x.data.size : Int) := rfl
  have h0 : (encI x ++ rest).getD 0 0 = x.key := rfl
  have he : endI (encI x ++ rest) = cstI x := by unfold endI cstI; rw [h1, Int.toNat_natCast]
  have hb : bytI (encI x ++ rest) = (0, b2l x.data) := by
    unfold bytI
    rw [h1, Int.toNat_natCast]
    have e : ((encI x ++ rest).drop 2).take (needN x.data.size) = packW (b2l x.data) (needN x.data.size) := by
      show (packW (b2l x.data) (needN x.data.size) ++ rest).take (needN x.data.size) = _
      have hl : (packW (b2l x.data) (needN x.data.size)).length = needN x.data.size := by simp [packW]
      rw [List.take_append_of_le_length (by omega), List.take_of_length_le (by omega)]
    rw [e]
    have := bytesR_pack (b2l_bytes x.data)
    rw [b2l_len] at this
    exact this
  unfold takeI
  rw [if_pos ⟨⟨by rw [List.length_append, encI_len]; unfold cstI; omega, by rw [h1]; omega, by rw [he, List.length_append, encI_len]; omega⟩, by rw [hb]⟩, hb, h0, he]
  have : (encI x ++ rest).drop (cstI x) = rest := by rw [← encI_len, List.drop_left]
  rw [this, l2b_b2l]
theorem parI_enc : ∀ {l : List ItemV}, (∀ x ∈ l, x.data.size ≤ 64) → ∀ rest, parI l.length (bodI l ++ rest) = some (l, rest)
  | [], _, rest => rfl
  | x :: l, h, rest => by
    have e : bodI (x :: l) ++ rest = encI x ++ (bodI l ++ rest) := by simp [bodI]
    rw [e, List.length_cons, parI, takeI_enc (h x (by simp))]
    simp only []
    rw [parI_enc (fun y hy => h y (List.mem_cons_of_mem _ hy)) rest]

theorem takL_lay {l : List ItemV} (hl : 0 < l.length) (hr : rightI l = true) (hn : l.length ≤ 300) (more : List Int) : takL (leafL l ++ [zs (leafL l)] ++ more) = (0, l) := by
  have hs := rightI_small hr
  have h0 : (leafL l ++ [zs (leafL l)] ++ more).getD 0 0 = (l.length : Int) := rfl
  have hlen : (leafL l ++ [zs (leafL l)] ++ more).length = totI l + 2 + more.length := by
    rw [List.length_append, List.length_append, leafL_len]
    simp only [List.length_cons, List.length_nil]
  have htot : l.length ≤ totI l := by
    unfold totI
    clear h0 hlen hn hs hr hl
    induction l with
    | nil => simp
    | cons x l ih =>
      have : 2 ≤ cstI x := by unfold cstI; omega
      rw [List.map_cons, List.sum_cons, List.length_cons]
      omega
  unfold takL
  rw [if_neg (by rw [h0, hlen]; omega), h0, Int.toNat_natCast]
  have hd : (leafL l ++ [zs (leafL l)] ++ more).drop 1 = bodI l ++ (zs (leafL l) :: more) := by
    generalize zs (leafL l) = z
    simp [leafL]
  rw [hd, parI_enc hs]
  simp only []
  rw [if_neg]
  rintro (h | h | h)
  · simp at h
  · rw [hr] at h; cases h
  · rw [hlen, List.length_cons, show totI l + 2 + more.length - (more.length + 1) + 1 = totI l + 2 by omega,
      List.take_append_of_le_length (by rw [List.length_append, leafL_len]; simp), List.take_of_length_le (by rw [List.length_append, leafL_len]; simp)] at h
    have : rightB (leafL l ++ [zs (leafL l)]) = true := by
      unfold rightB
      rw [List.length_append, List.length_singleton, Nat.add_sub_cancel, List.getD_eq_getElem?_getD, List.getElem?_append_right (Nat.le_refl _), Nat.sub_self]
      simp
    rw [this] at h
    cases h

end Go.Proofs.Ytpidbpmkogbdeaa.Pure
