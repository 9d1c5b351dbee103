/- Layer 25 (table): what its printed functions come to. -/
import Derived.Test.YtcnomgpbkimmeaaQX
import Derived.Test.YtcnomgpbkimmeaaQZeros
import Derived.Test.YtcnomgpbkimmeaaQWord
import Derived.Test.YtcnomgpbkimmeaaFtable
import Derived.Test.YtcnomgpbkimmeaaFref25
namespace Go.Proofs.Ytcnomgpbkimmeaa.Pure
open Go Go.Proofs.Ytcnomgpbkimmeaa.Va
set_option linter.unusedVariables false
set_option linter.unusedSimpArgs false

/-- Pages seen. -/
def seenP (l : List Int) : List Bool := (List.range 128).map fun (j : Nat) => decide ((j : Int) ∈ l)
theorem seenP_nil : seenP [] = List.replicate 128 false := by
  unfold seenP
  apply List.ext_getElem?
  intro i
  rw [List.getElem?_map, List.getElem?_replicate]
  by_cases h : i < 128
  · rw [List.getElem?_range h, if_pos h]; rfl
  · rw [List.getElem?_eq_none (by simpa using h), if_neg h]; rfl
theorem seenP_len (l : List Int) : (seenP l).length = 128 := by simp [seenP]
theorem seenP_get (l : List Int) {x : Int} (h0 : 0 ≤ x) (h1 : x < 128) : (seenP l)[x.toNat]? = some (decide (x ∈ l)) := by
  unfold seenP
  rw [List.getElem?_map, List.getElem?_range (by omega), Option.map_some]
  congr 2
  rw [show ((x.toNat : Nat) : Int) = x by omega]
theorem seenP_set (l : List Int) {x : Int} (h0 : 0 ≤ x) (h1 : x < 128) : (seenP l).set x.toNat true = seenP (l ++ [x]) := by
  apply List.ext_getElem?
  intro i
  rw [List.getElem?_set, seenP_len]
  unfold seenP
  rw [List.getElem?_map, List.getElem?_map]
  by_cases h : i < 128
  · rw [List.getElem?_range h]
    by_cases hk : x.toNat = i
    · rw [if_pos hk, if_pos (by omega)]
      simp only [Option.map_some, List.mem_append, List.mem_singleton]
      congr 1
      exact (decide_eq_true (Or.inr (by omega))).symm
    · rw [if_neg hk]
      simp only [Option.map_some, List.mem_append, List.mem_singleton]
      congr 1
      rw [decide_eq_decide]
      constructor
      · exact Or.inl
      · rintro (h | h)
        · exact h
        · omega
  · rw [List.getElem?_eq_none (by simpa using h)]
    by_cases hk : x.toNat = i
    · omega
    · rw [if_neg hk]; rfl

/-- May this page not be? -/
def badP (p : List Int) (i : Nat) : Bool := decide (p.getD i 0 < 0) || (decide (p.getD i 0 > 127) || decide (p.getD i 0 ∈ p.take i))
def pagesOK (p : List Int) : Bool := ((List.range' 0 p.length).find? (badP p)).isNone
def rightT (g v : Int) (p : List Int) : Bool := decide (1 ≤ g ∧ g ≤ 1073741823 ∧ 1 ≤ v ∧ v ≤ 65535) && pagesOK p

theorem table_Right_eq (g v : Int) {p : List Int} (hl : p.length ≤ 140737488351232) : table_Right.c g v p = some (rightT g v p) := by
  have hL : table_Right.L3 0 p (p.length : Int) 0 g v p (List.replicate 128 false) = some (if pagesOK p then .inl () else .inr false) := by
    have := Lp_find (fun s => (table_Right.l3 0 p (p.length : Int) g v p s.1 s.2).run) (fun i => ((i : Int), seenP (p.take i))) (badP p) (fun _ => (.inr false : Unit ⊕ Bool)) (.inl ()) p.length 0 (fun k _ hk => ?_) (by
      simp only [table_Right.l3, Tw.run_bb, Nat.zero_add]
      rw [if_neg (by simp)]
      rfl)
    · unfold table_Right.L3
      rw [List.take_zero, seenP_nil] at this
      refine this.trans ?_
      unfold pagesOK
      cases (List.range' 0 p.length).find? (badP p) <;> rfl
    · have hk' : k < p.length := by omega
      simp only [table_Right.l3, Tw.run_opt, Int.toNat_natCast, word_some hk', Option.bind_some]
      rw [bb_pos (by simp; omega), dd_pos (by omega)]
      simp only [Tw.run_opt, Option.bind_some]
      unfold badP
      rw [take_snoc 0 hk']
      generalize p.getD k 0 = x
      by_cases h0 : x < 0
      · rw [bb_pos (by simpa using h0)]
        simp [h0, Tw.run_ret]
      rw [bb_neg (by simpa using h0)]
      by_cases h1 : x > 127
      · rw [bb_pos (by simp; omega)]
        simp [h1, Tw.run_ret]
      rw [bb_neg (by simp; omega), dd_pos (by omega)]
      simp only [Tw.run_opt, Nat.zero_add, seenP_get (p.take k) (show 0 ≤ x by omega) (show x < 128 by omega), Option.bind_some, Tw.run_bb, Tw.run_ret]
      by_cases hm : x ∈ p.take k
      · simp [hm, Tw.run_ret]
      · rw [if_neg (by simpa using hm), dd_pos (by omega), seenP_set (p.take k) (by omega) (by omega), w64_of (by omega) (by omega)]
        simp [hm, h0, h1, Tw.run_ret, Tw.run_opt]
  simp only [table_Right.c, table_Right.t, Tw.run_opt, hL, Option.bind_some]
  unfold rightT
  cases pagesOK p
  · simp [Tw.run_sm, Tw.run_ret]
  · simp only [if_true, Tw.run_sm, Sum.elim_inl, Tw.run_bb, Tw.run_ret, decide_eq_true_eq, Bool.and_true]
    by_cases h1 : g ≥ 1
    · by_cases h2 : g ≤ 1073741823
      · by_cases h3 : v ≥ 1
        · rw [if_pos h1, if_pos h2, if_pos h3]
          congr 1
          rw [decide_eq_decide]
          omega
        · rw [if_pos h1, if_pos h2, if_neg h3]
          congr 1
          exact (decide_eq_false (by omega)).symm
      · rw [if_pos h1, if_neg h2]
        congr 1
        exact (decide_eq_false (by omega)).symm
    · rw [if_neg h1]
      congr 1
      exact (decide_eq_false (by omega)).symm

theorem table_Size_eq (n : Int) (h : InR .i64 n) : table_Size.c n = some (if n < 0 ∨ n > 128 then 0 else n + 4) := by
  have := h.i64
  simp only [table_Size.c, table_Size.t, Tw.run_bb, Tw.run_ret, decide_eq_true_eq]
  by_cases h0 : n < 0
  · rw [if_pos h0, if_pos (Or.inl h0)]
  · by_cases h1 : n > 128
    · rw [if_neg h0, if_pos h1, if_pos (Or.inr h1)]
    · rw [if_neg h0, if_neg h1, if_neg (by omega), w64_of (n := 3 + n) (by omega) (by omega), w64_of (by omega) (by omega)]
      congr 1
      omega

theorem ref25_Right_eq (g v : Int) {p : List Int} (hl : p.length ≤ 140737488351232) : ref25_Right.c g v p = some (rightT g v p) := by
  have hI : ∀ i, i < p.length → ref25_Right.L9 (i : Int) 0 g v p = some (if p.getD i 0 ∈ p.take i then .inr false else .inl ()) := by
    intro i hi
    have := Lp_find (fun s => (ref25_Right.l9 (i : Int) g v p s).run) (fun k => ((k : Nat) : Int)) (fun k => p.getD k 0 == p.getD i 0) (fun _ => (.inr false : Unit ⊕ Bool)) (.inl ()) i 0 (fun k _ hk => ?_) (by
      simp only [ref25_Right.l9, Tw.run_bb, Nat.zero_add]
      rw [if_neg (by simp)]
      rfl)
    · refine this.trans ?_
      have e : (p.getD i 0 ∈ p.take i) = ∃ k, k < i ∧ p.getD k 0 = p.getD i 0 := by
        apply propext
        rw [List.mem_take_iff_getElem]
        constructor
        · rintro ⟨k, hk, e⟩
          refine ⟨k, by omega, ?_⟩
          rw [← e, List.getD_eq_getElem?_getD, List.getElem?_eq_getElem (by omega)]
          rfl
        · rintro ⟨k, hk, e⟩
          refine ⟨k, by omega, ?_⟩
          rw [← e, List.getD_eq_getElem?_getD, List.getElem?_eq_getElem (by omega)]
          rfl
      cases hf : (List.range' 0 i).find? fun k => p.getD k 0 == p.getD i 0 with
      | none =>
        rw [List.find?_eq_none] at hf
        rw [if_neg]
        rw [e]
        rintro ⟨k, hk, h⟩
        exact hf k (by rw [List.mem_range'_1]; omega) (by simpa using h)
      | some k =>
        have h1 := List.mem_of_find?_eq_some hf
        have h2 := List.find?_some hf
        rw [List.mem_range'_1] at h1
        rw [if_pos]
        rw [e]
        exact ⟨k, by omega, by simpa using h2⟩
    · have hk' : k < p.length := by omega
      simp only [ref25_Right.l9, Tw.run_opt, Int.toNat_natCast, word_some hk', word_some hi, Option.bind_some]
      rw [bb_pos (by simp; omega), dd_pos (by omega)]
      simp only [Tw.run_opt, Option.bind_some]
      rw [dd_pos (by omega)]
      simp only [Tw.run_opt, Option.bind_some, Tw.run_bb, Tw.run_ret]
      rw [w64_of (by omega) (by omega)]
      cases (p.getD k 0 == p.getD i 0) <;> rfl
  have hL : ref25_Right.L4 0 g v p = some (if pagesOK p then .inl () else .inr false) := by
    have := Lp_find (fun s => (ref25_Right.l4 g v p s).run) (fun i => ((i : Nat) : Int)) (badP p) (fun _ => (.inr false : Unit ⊕ Bool)) (.inl ()) p.length 0 (fun k _ hk => ?_) (by
      simp only [ref25_Right.l4, Tw.run_bb, Nat.zero_add]
      rw [if_neg (by simp)]
      rfl)
    · refine this.trans ?_
      unfold pagesOK
      cases (List.range' 0 p.length).find? (badP p) <;> rfl
    · have hk' : k < p.length := by omega
      simp only [ref25_Right.l4, Tw.run_opt, Int.toNat_natCast, word_some hk', hI k hk', Option.bind_some]
      rw [bb_pos (by simp; omega), dd_pos (by omega)]
      simp only [Tw.run_opt, Option.bind_some]
      unfold badP
      generalize p.getD k 0 = x
      by_cases h0 : x < 0
      · rw [bb_pos (by simpa using h0)]
        simp [h0, Tw.run_ret]
      rw [bb_neg (by simpa using h0), dd_pos (by omega)]
      simp only [Tw.run_opt, Option.bind_some]
      by_cases h1 : x > 127
      · rw [bb_pos (by simp; omega)]
        simp [h1, Tw.run_ret]
      rw [bb_neg (by simp; omega)]
      simp only [Tw.run_opt, Option.bind_some]
      by_cases hm : x ∈ p.take k
      · simp [hm, Tw.run_ret, Tw.run_sm]
      · rw [if_neg hm]
        simp only [Tw.run_sm, Sum.elim_inl, Tw.run_ret]
        rw [w64_of (by omega) (by omega)]
        simp [hm, h0, h1]
  simp only [ref25_Right.c, ref25_Right.t, Tw.run_bb, Tw.run_opt, Tw.run_ret, hL, Option.bind_some, decide_eq_true_eq]
  unfold rightT
  by_cases h1 : g < 1
  · rw [if_pos h1, decide_eq_false (by omega)]; rfl
  by_cases h2 : g > 1073741823
  · rw [if_neg h1, if_pos h2, decide_eq_false (by omega)]; rfl
  by_cases h3 : v < 1
  · rw [if_neg h1, if_neg h2, if_pos h3, decide_eq_false (by omega)]; rfl
  by_cases h4 : v > 65535
  · rw [if_neg h1, if_neg h2, if_neg h3, if_pos h4, decide_eq_false (by omega)]; rfl
  rw [if_neg h1, if_neg h2, if_neg h3, if_neg h4, decide_eq_true (by omega)]
  cases pagesOK p <;> simp [Tw.run_sm, Tw.run_ret]

theorem w32_inR (n : Int) : InR .u32 (w32 n) := inR_u32 (by rw [w32_eq]; omega)
/-- A table's words but the sum. -/
def tabL (g v : Int) (p : List Int) : List Int := w32 g :: w32 v :: w32 (p.length : Int) :: p.map w32
def sealL (l : List Int) : List Int := l ++ [zs l]
theorem tabL_len (g v : Int) (p : List Int) : (tabL g v p).length = p.length + 3 := by simp [tabL]
theorem tabL_words (g v : Int) (p : List Int) : Words (tabL g v p) :=
  words_cons (w32_inR _) (words_cons (w32_inR _) (words_cons (w32_inR _) fun x hx => by
    obtain ⟨y, _, rfl⟩ := List.mem_map.1 hx
    exact w32_inR y))
theorem zs_inR (l : List Int) : InR .u32 (zs l) := inR_u32 (by unfold zs; omega)

theorem table_Lay_L6 (g v : Int) {p : List Int} (hl : p.length ≤ 140737488351232) :
    table_Lay.L6 p (p.length : Int) 0 (w32 g :: w32 v :: w32 (p.length : Int) :: List.replicate p.length 0) = some (tabL g v p) := by
  have := Lp_seq (fun s => (table_Lay.l6 p (p.length : Int) s.1 s.2).run) (fun k => ((k : Int), [w32 g, w32 v, w32 (p.length : Int)] ++ ((p.take k).map w32 ++ List.replicate (p.length - k) 0))) (x := tabL g v p) p.length 0 (fun k _ hk => ?_) (by
    simp only [table_Lay.l6, Tw.run_bb, Nat.zero_add]
    rw [if_neg (by simp), List.take_length, Nat.sub_self]
    simp [tabL, Tw.run_ret])
  · exact this
  · have hk' : k < p.length := by omega
    have hm : ((p.take k).map w32).length = k := by rw [List.length_map, List.length_take]; omega
    have e1 : w64 (3 + (k : Int)) = ((3 + k : Nat) : Int) := by rw [w64_of (by omega) (by omega)]; omega
    simp only [table_Lay.l6, Tw.run_opt, Int.toNat_natCast, word_some hk', Option.bind_some, e1]
    have hlen : ([w32 g, w32 v, w32 (p.length : Int)] ++ ((p.take k).map w32 ++ List.replicate (p.length - k) (0 : Int))).length = p.length + 3 := by
      rw [List.length_append, List.length_append, hm, List.length_replicate]
      simp
      omega
    rw [bb_pos (by simp; omega), dd_pos (by omega)]
    simp only [Tw.run_opt, Option.bind_some]
    rw [dd_pos (by rw [hlen]; omega), getD_some 0 (show 3 + k < _ by rw [hlen]; omega)]
    simp only [Tw.run_opt, Option.bind_some, Tw.run_ret]
    rw [w64_of (by omega) (by omega)]
    have := set_fill [w32 g, w32 v, w32 (p.length : Int)] ((p.take k).map w32) k p.length (w32 (p.getD k 0)) hk' hm
    rw [show [w32 g, w32 v, w32 (p.length : Int)].length + k = 3 + k from rfl] at this
    rw [this, take_snoc 0 hk', List.map_append]
    rfl
theorem table_Lay_eq (g v : Int) {p : List Int} (hl : p.length * 8 ≤ reachBytes) : table_Lay.c g v p = some (if rightT g v p then (0, sealL (tabL g v p)) else (2, [])) := by
  rw [reach_eq] at hl
  have e1 : w64 ((3 : Int) + (p.length : Int)) = ((p.length + 3 : Nat) : Int) := by rw [w64_of (by omega) (by omega)]; omega
  have e2 : List.replicate (p.length + 3) (0 : Int) = 0 :: 0 :: 0 :: List.replicate p.length 0 := rfl
  simp only [table_Lay.c, table_Lay.t, Tw.run_opt, table_Right_eq g v (show p.length ≤ 140737488351232 by omega), Option.bind_some, e1, Int.toNat_natCast, e2]
  cases rightT g v p
  · rfl
  · rw [bb_neg (by rfl), dd_pos ⟨by omega, by omega, by omega, by omega⟩]
    rw [dd_pos ⟨by omega, by simp; omega⟩]
    simp only [Tw.run_opt, show Int.toNat (0 : Int) = 0 from rfl, show Int.toNat (1 : Int) = 1 from rfl, show Int.toNat (2 : Int) = 2 from rfl, List.getElem?_cons_zero, List.getElem?_cons_succ, List.set_cons_zero, List.set_cons_succ, Option.bind_some]
    rw [dd_pos ⟨by omega, by simp; omega⟩]
    simp only [Tw.run_opt, Option.bind_some]
    rw [dd_pos ⟨by omega, by simp; omega⟩]
    simp only [Tw.run_opt, Option.bind_some, table_Lay_L6 g v (show p.length ≤ 140737488351232 by omega), zeros_Seal_eq (tabL_words g v p) (show (tabL g v p).length * 4 ≤ reachBytes by rw [tabL_len, reach_eq]; omega), Tw.run_ret]
    rfl

theorem ref25_Lay_eq (g v : Int) {p : List Int} (hl : p.length * 8 ≤ reachBytes) : ref25_Lay.c g v p = some (sealL (tabL g v p)) := by
  rw [reach_eq] at hl
  have hL : ref25_Lay.L3 0 g v p [w32 g, w32 v, w32 (p.length : Int)] = some (tabL g v p) := by
    refine Lp_grow (fun s => (ref25_Lay.l3 g v p s.1 s.2).run) (fun i a => ((i : Int), a)) p w32 _ [w32 g, w32 v, w32 (p.length : Int)] (fun i a h => ?_) (by
      simp only [ref25_Lay.l3, Tw.run_bb]
      rw [if_neg (by simp)]
      rfl)
    have hi := (List.getElem?_eq_some_iff.1 h).1
    have hm : ((p.take i).map w32).length = i := by rw [List.length_map, List.length_take]; omega
    have hlen : ([w32 g, w32 v, w32 (p.length : Int)] ++ (p.take i).map w32).length = 3 + i := by rw [List.length_append, hm]; rfl
    simp only [ref25_Lay.l3, Tw.run_opt, Int.toNat_natCast, h, Option.bind_some]
    rw [bb_pos (by simp; omega), dd_pos (by omega)]
    simp only [Tw.run_opt, Option.bind_some]
    rw [dd_pos (by rw [hlen]; simp only [List.length_cons, List.length_nil]; omega), w64_of (by omega) (by omega)]
    rfl
  simp only [ref25_Lay.c, ref25_Lay.t, Tw.run_opt, hL, ref02_Seal_eq (tabL_words g v p) (show (tabL g v p).length * 4 ≤ reachBytes by rw [tabL_len, reach_eq]; omega), Option.bind_some, Tw.run_ret]
  rfl

theorem map_w64 {l : List Int} (hl : Words l) : l.map w64 = l := by
  conv => rhs; rw [← List.map_id l]
  exact List.map_congr_left fun x hx => w64_u32 (hl x hx)
theorem map_w32 {l : List Int} (hl : Words l) : l.map w32 = l := by
  conv => rhs; rw [← List.map_id l]
  exact List.map_congr_left fun x hx => w32_in (hl x hx)

/-- What is read of words. -/
def cntT (w : List Int) : Nat := (w.getD 2 0).toNat
def pagT (w : List Int) : List Int := (w.drop 3).take (cntT w)
def badT (w : List Int) : Prop := w.length ≤ 3 ∨ w.getD 2 0 > 128 ∨ w.length < cntT w + 4
def noT : Int × (Int × (Int × List Int)) := (0, 0, 12, [])
open Classical in
noncomputable def takeT (w : List Int) : Int × (Int × (Int × List Int)) :=
  if badT w then noT else if rightT (w.getD 0 0) (w.getD 1 0) (pagT w) && rightB (w.take (cntT w + 4)) then (w.getD 0 0, w.getD 1 0, 0, pagT w) else noT

theorem pagT_words {w : List Int} (hw : Words w) : Words (pagT w) := words_take (words_drop hw 3) _

theorem table_Take_eq {w : List Int} (hw : Words w) (hl : w.length ≤ 35184372088832) : table_Take.c w = some (takeT w) := by
  simp only [table_Take.c, table_Take.t, show Int.toNat (0 : Int) = 0 from rfl, show Int.toNat (1 : Int) = 1 from rfl, show Int.toNat (2 : Int) = 2 from rfl, show Int.toNat (3 : Int) = 3 from rfl]
  unfold takeT
  by_cases h0 : w.length ≤ 3
  · rw [bb_pos (decide_eq_true (by omega)), if_pos (show badT w from Or.inl h0)]
    rfl
  rw [bb_neg (decide_eq_false (by omega))]
  have hn := word_in hw 2
  have hnr := hn.u32
  have h00 := word_in hw 0
  have h11 := word_in hw 1
  have k0 := w64_u32 h00
  have k1 := w64_u32 h11
  have k2 := w64_u32 hn
  simp only [Tw.run_opt, word_some (show 2 < w.length by omega), word_some (show 1 < w.length by omega), word_some (show 0 < w.length by omega), Option.bind_some, k0, k1, k2]
  by_cases h1 : w.getD 2 0 > 128
  · rw [bb_pos (by simpa using h1), if_pos (show badT w from Or.inr (Or.inl h1))]
    rfl
  rw [bb_neg (decide_eq_false (by omega))]
  have ec : w.getD 2 0 = ((cntT w : Nat) : Int) := by unfold cntT; omega
  have hS : table_Size.c (w.getD 2 0) = some (w.getD 2 0 + 4) := by rw [table_Size_eq (w.getD 2 0) (inR_i64 (by omega)), if_neg (by omega)]
  simp only [Tw.run_opt, Option.bind_some, k0, k1, k2, hS]
  by_cases h2 : w.length < cntT w + 4
  · rw [bb_pos (decide_eq_true (by omega)), if_pos (show badT w from Or.inr (Or.inr h2))]
    rfl
  rw [bb_neg (decide_eq_false (by omega))]
  have hb : ¬ badT w := by
    rintro (h | h | h)
    · exact h0 h
    · exact h1 h
    · exact h2 h
  rw [if_neg hb]
  have e1 : w64 (3 + w.getD 2 0) = ((cntT w + 3 : Nat) : Int) := by rw [w64_of (by omega) (by omega)]; omega
  have e2 : List.drop 3 (List.take (cntT w + 3) w) = pagT w := by rw [List.drop_take]; rfl
  have hpl : (pagT w).length = cntT w := by unfold pagT; rw [List.length_take, List.length_drop]; omega
  have hL : ∀ a b c d n, table_Take.L6 w n (pagT w) ((pagT w).length : Int) 0 a b c d [] = some (pagT w) := by
    intro a b c d n
    refine Lp_grow (fun s => (table_Take.l6 w n (pagT w) ((pagT w).length : Int) a b c d s.1 s.2).run) (fun i a => ((i : Int), a)) (pagT w) w64 _ [] (fun i x h => ?_) (by
      simp only [table_Take.l6, Tw.run_bb]
      rw [if_neg (by simp), map_w64 (pagT_words hw)]
      rfl)
    have hi := (List.getElem?_eq_some_iff.1 h).1
    have hm : (([] : List Int) ++ ((pagT w).take i).map w64).length = i := by rw [List.nil_append, List.length_map, List.length_take]; omega
    simp only [table_Take.l6, Tw.run_opt, Int.toNat_natCast, h, Option.bind_some]
    rw [bb_pos (decide_eq_true (by omega)), dd_pos (by omega)]
    simp only [Tw.run_opt, Option.bind_some, k0, k1, k2]
    rw [dd_pos (by rw [hm]; simp only [List.length_cons, List.length_nil]; omega), w64_of (n := (i : Int) + 1) (by omega) (by omega)]
    rfl
  simp only [Tw.run_opt, Option.bind_some, k0, k1, k2, e1, Int.toNat_natCast, e2]
  rw [dd_pos (by simp only [k2, e1]; omega)]
  simp only [Tw.run_opt, Option.bind_some, k0, k1, k2, hL, table_Right_eq _ _ (show (pagT w).length ≤ 140737488351232 by omega)]
  cases rightT (w.getD 0 0) (w.getD 1 0) (pagT w)
  · rfl
  rw [bb_neg (by rfl)]
  have e4 : (w.getD 2 0 + 4).toNat = cntT w + 4 := by omega
  simp only [Tw.run_opt, Option.bind_some, k0, k1, k2, hS]
  rw [dd_pos ⟨by omega, by omega⟩]
  simp only [Tw.run_opt, Option.bind_some, k0, k1, k2, e4, zeros_Right_eq (words_take hw _) (show (w.take (cntT w + 4)).length ≤ 140737488351232 by rw [List.length_take]; omega)]
  cases rightB (w.take (cntT w + 4)) <;> rfl

/-- The words are the table's, if the sum is. -/
theorem seal_take {w : List Int} (hw : Words w) (hb : ¬ badT w) : tabL (w.getD 0 0) (w.getD 1 0) (pagT w) = w.take (cntT w + 3) ∧
    (decide (sealL (tabL (w.getD 0 0) (w.getD 1 0) (pagT w)) = w.take (cntT w + 4)) = rightB (w.take (cntT w + 4))) := by
  have h0 : ¬ w.length ≤ 3 := fun h => hb (.inl h)
  have h1 : ¬ w.getD 2 0 > 128 := fun h => hb (.inr (.inl h))
  have h2 : ¬ w.length < cntT w + 4 := fun h => hb (.inr (.inr h))
  have hpl : (pagT w).length = cntT w := by unfold pagT; rw [List.length_take, List.length_drop]; omega
  have hnr := (word_in hw 2).u32
  have ec : w.getD 2 0 = ((cntT w : Nat) : Int) := by unfold cntT; omega
  have e : tabL (w.getD 0 0) (w.getD 1 0) (pagT w) = w.take (cntT w + 3) := by
    unfold tabL
    rw [hpl, ← ec, w32_in (word_in hw 0), w32_in (word_in hw 1), w32_in (word_in hw 2), map_w32 (pagT_words hw)]
    match w, h0 with
    | [], h => simp at h
    | [_], h => simp at h
    | [_, _], h => simp at h
    | [_, _, _], h => simp at h
    | a :: b :: c :: d :: l, _ => rfl
  refine ⟨e, ?_⟩
  rw [e]
  have e3 : w.take (cntT w + 4) = w.take (cntT w + 3) ++ [w.getD (cntT w + 3) 0] := take_snoc 0 (by omega)
  have hl3 : (w.take (cntT w + 3)).length = cntT w + 3 := by rw [List.length_take]; omega
  unfold rightB sealL
  rw [e3, List.length_append, hl3, List.length_singleton, Nat.add_sub_cancel]
  rw [List.take_append_of_le_length (by omega), List.take_of_length_le (l := w.take (cntT w + 3)) (by omega)]
  have e5 : (w.take (cntT w + 3) ++ [w.getD (cntT w + 3) 0]).getD (cntT w + 3) 0 = w.getD (cntT w + 3) 0 := by
    rw [List.getD_eq_getElem?_getD, List.getElem?_append_right (by omega), hl3, Nat.sub_self]
    rfl
  rw [e5, decide_eq_true (by omega : 0 < cntT w + 3 + 1), Bool.true_and, Bool.eq_iff_iff, decide_eq_true_iff, beq_iff_eq, List.append_cancel_left_eq]
  simp only [List.cons.injEq, and_true]
  exact eq_comm

theorem ref25_Take_eq {w : List Int} (hw : Words w) (hl : w.length ≤ 35184372088832) : ref25_Take.c w = some (takeT w) := by
  simp only [ref25_Take.c, ref25_Take.t, show Int.toNat (0 : Int) = 0 from rfl, show Int.toNat (1 : Int) = 1 from rfl, show Int.toNat (2 : Int) = 2 from rfl, show Int.toNat (3 : Int) = 3 from rfl]
  unfold takeT
  by_cases h0 : w.length ≤ 3
  · rw [bb_pos (decide_eq_true (by omega)), if_pos (show badT w from Or.inl h0)]
    rfl
  rw [bb_neg (decide_eq_false (by omega))]
  have hn := word_in hw 2
  have hnr := hn.u32
  have h00 := word_in hw 0
  have h11 := word_in hw 1
  have k0 := w64_u32 h00
  have k1 := w64_u32 h11
  have k2 := w64_u32 hn
  simp only [Tw.run_opt, word_some (show 2 < w.length by omega), word_some (show 1 < w.length by omega), word_some (show 0 < w.length by omega), Option.bind_some, k0, k1, k2]
  by_cases h1 : w.getD 2 0 > 128
  · rw [bb_pos (by simpa using h1), if_pos (show badT w from Or.inr (Or.inl h1))]
    rfl
  rw [bb_neg (decide_eq_false (by omega))]
  have ec : w.getD 2 0 = ((cntT w : Nat) : Int) := by unfold cntT; omega
  have e1 : w64 (4 + w.getD 2 0) = ((cntT w + 4 : Nat) : Int) := by rw [w64_of (by omega) (by omega)]; omega
  simp only [Tw.run_opt, Option.bind_some, k0, k1, k2, e1]
  by_cases h2 : w.length < cntT w + 4
  · rw [bb_pos (decide_eq_true (by omega)), if_pos (show badT w from Or.inr (Or.inr h2))]
    rfl
  rw [bb_neg (decide_eq_false (by omega))]
  have hb : ¬ badT w := by
    rintro (h | h | h)
    · exact h0 h
    · exact h1 h
    · exact h2 h
  rw [if_neg hb]
  have hpl : (pagT w).length = cntT w := by unfold pagT; rw [List.length_take, List.length_drop]; omega
  have hL : ∀ a b c d, ref25_Take.L6 w (w.getD 2 0) 0 a b c d [] = some (pagT w) := by
    intro a b c d
    refine Lp_grow (fun s => (ref25_Take.l6 w (w.getD 2 0) a b c d s.1 s.2).run) (fun i a => ((i : Int), a)) (pagT w) w64 _ [] (fun i x h => ?_) (by
      simp only [ref25_Take.l6, Tw.run_bb]
      rw [if_neg (by rw [hpl, ec]; simp), map_w64 (pagT_words hw)]
      rfl)
    have hi := (List.getElem?_eq_some_iff.1 h).1
    have hm : (([] : List Int) ++ ((pagT w).take i).map w64).length = i := by rw [List.nil_append, List.length_map, List.length_take]; omega
    have hx : w[3 + i]? = some x := by
      unfold pagT at h
      rw [List.getElem?_take_of_lt (by omega), List.getElem?_drop] at h
      exact h
    have e3 : w64 (3 + (i : Int)) = ((3 + i : Nat) : Int) := by rw [w64_of (by omega) (by omega)]; omega
    simp only [ref25_Take.l6, Tw.run_opt, e3, Int.toNat_natCast, hx, Option.bind_some]
    rw [bb_pos (decide_eq_true (by omega)), dd_pos (by omega)]
    simp only [Tw.run_opt, Option.bind_some, k0, k1, k2]
    rw [dd_pos (by rw [hm]; simp only [List.length_cons, List.length_nil]; omega), w64_of (n := (i : Int) + 1) (by omega) (by omega)]
    rfl
  simp only [Tw.run_opt, Option.bind_some, k0, k1, k2, hL, ref25_Right_eq _ _ (show (pagT w).length ≤ 140737488351232 by omega)]
  cases rightT (w.getD 0 0) (w.getD 1 0) (pagT w)
  · rfl
  rw [bb_neg (by rfl)]
  simp only [Tw.run_opt, Option.bind_some, k0, k1, k2, ref25_Lay_eq _ _ (show (pagT w).length * 8 ≤ reachBytes by rw [reach_eq]; omega), Int.toNat_natCast]
  have hS2 : ref01_Same.c (sealL (tabL (w.getD 0 0) (w.getD 1 0) (pagT w))) (w.take (w64 (4 + w.getD 2 0)).toNat) = some (rightB (w.take (cntT w + 4))) := by
    rw [e1, Int.toNat_natCast, ref01_Same_eq (by unfold sealL; rw [List.length_append, tabL_len, hpl]; simp; omega), (seal_take hw hb).2]
  rw [dd_pos (by simp only [k2, e1]; omega)]
  simp only [Tw.run_opt, Option.bind_some, k0, k1, k2, hS2]
  cases rightB (w.take (cntT w + 4)) <;> rfl

theorem ref25_Same_eq (a b : Int) {p : List Int} (c d : Int) (q : List Int) (hl : p.length ≤ 140737488351232) : ref25_Same.c a b p c d q = some (decide (a = c ∧ b = d ∧ p = q)) := by
  simp only [ref25_Same.c, ref25_Same.t]
  by_cases h0 : a = c
  rotate_left
  · rw [bb_pos (by simpa using h0), decide_eq_false (fun h => h0 h.1)]; rfl
  rw [bb_neg (by simpa using h0)]
  by_cases h1 : b = d
  rotate_left
  · rw [bb_pos (by simpa using h1), decide_eq_false (fun h => h1 h.2.1)]; rfl
  rw [bb_neg (by simpa using h1)]
  by_cases h2 : p.length = q.length
  rotate_left
  · rw [bb_pos (by simp; omega), decide_eq_false (fun h => h2 (by rw [h.2.2]))]; rfl
  rw [bb_neg (by simp; omega)]
  have hL : ref25_Same.L4 0 a b p c d q = some (if p = q then .inl () else .inr false) := by
    have := Lp_find (fun s => (ref25_Same.l4 a b p c d q s).run) (fun k => ((k : Nat) : Int)) (fun k => p.getD k 0 != q.getD k 0) (fun _ => (.inr false : Unit ⊕ Bool)) (.inl ()) p.length 0 (fun k _ hk => ?_) (by
      simp only [ref25_Same.l4, Tw.run_bb, Nat.zero_add]
      rw [if_neg (by simp)]
      rfl)
    · refine this.trans ?_
      congr 1
      cases hf : (List.range' 0 p.length).find? fun k => p.getD k 0 != q.getD k 0 with
      | none =>
        rw [List.find?_eq_none] at hf
        rw [if_pos]
        apply List.ext_getElem h2
        intro i hi hi'
        have := hf i (by rw [List.mem_range'_1]; omega)
        simpa [List.getD_eq_getElem?_getD, List.getElem?_eq_getElem hi, List.getElem?_eq_getElem hi'] using this
      | some k =>
        have h3 := List.find?_some hf
        rw [if_neg]
        rintro rfl
        simp at h3
    · have hk' : k < p.length := by omega
      simp only [ref25_Same.l4, Tw.run_opt, Int.toNat_natCast, word_some hk', word_some (show k < q.length by omega), Option.bind_some]
      rw [bb_pos (by simp; omega), dd_pos (by omega)]
      simp only [Tw.run_opt, Option.bind_some]
      rw [dd_pos (by omega)]
      simp only [Tw.run_opt, Option.bind_some, Tw.run_bb, Tw.run_ret]
      rw [w64_of (by omega) (by omega)]
      cases (p.getD k 0 != q.getD k 0) <;> rfl
  simp only [Tw.run_opt, hL, Option.bind_some]
  by_cases h3 : p = q
  · rw [if_pos h3, decide_eq_true ⟨h0, h1, h3⟩]; rfl
  · rw [if_neg h3, decide_eq_false (fun h => h3 h.2.2)]; rfl

end Go.Proofs.Ytcnomgpbkimmeaa.Pure
