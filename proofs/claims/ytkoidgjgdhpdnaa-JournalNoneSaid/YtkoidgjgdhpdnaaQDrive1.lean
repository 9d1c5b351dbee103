/- Drives: writes, blanks, cleans, fresh runs, of the code and of the document. -/
import Derived.Test.YtkoidgjgdhpdnaaQDrive
namespace Go.Proofs.Ytkoidgjgdhpdnaa.Pure
open Go Go.Proofs.Ytkoidgjgdhpdnaa.Va
set_option linter.unusedVariables false
set_option linter.unusedSimpArgs false

section
variable {n : Nat} {g1 g2 g3 g4 g5 : Int} (hr : GeoR (n : Int) g1 g2 g3 g4 g5) (ok : GeoOK (n : Int) g1 g2 g3 g4 g5) {s : Fl} (hs : FlOK n s) (hv : (s.V.length : Int) = 2 + 2 * g1 + g2)
include hr ok hs hv
theorem drive_Write_eq {k at_ : Int} (ha : InR .i64 at_) {w : List Int} (hw : Words w) : drive_Drive_Write_v2.c k at_ w (n : Int) g1 g2 g3 g4 g5 (n : Int) s.C s.D s.A s.W s.V s.M = some ((s.dwrite n k at_ w).1, s4 (s.dwrite n k at_ w).2) := by
  simp only [drive_Drive_Write_v2.c, drive_Drive_Write_v2.t]
  rw [opt_some (drive_Read_eq hr ok hs hv ha)]
  unfold Fl.dread Fl.dwrite
  by_cases h0 : (s.first n k at_ (w.length : Int)).2 ≠ 0
  · rw [if_pos h0, if_pos h0, bb_pos (by simpa using h0), Tw.run_ret]
    rfl
  have h0' : (s.first n k at_ (w.length : Int)).2 = 0 := by simpa using h0
  obtain ⟨hd, j, b, d, rfl, rfl, hwd, he, hbd, hj, hjv⟩ := first_at hs hv h0'
  have hwd : w.length = d := by omega
  subst hwd
  have hn := hs.n2
  have hl := hs.wl
  have hf0 : s.first n (j : Int) (b : Int) 0 = (((j * n + b : Nat) : Int), 0) := by
    unfold Fl.first
    rw [if_neg (by omega), hd, if_neg (by decide)]
    simp
  rw [if_neg h0, if_neg h0, bb_neg (by rfl), he, Int.toNat_natCast, Int.toNat_natCast]
  have hL5 : drive_Drive_Write_v2.L5 (j : Int) (b : Int) w w (w.length : Int) 0 (n : Int) g1 g2 g3 g4 g5 (n : Int) s.C s.D s.A s.W s.V s.M (rd s.W (j * n + b) w.length) = some (if viol s.W w (j * n + b) then .inr 11 else .inl ()) := by
    unfold drive_Drive_Write_v2.L5
    refine Lp_any _ w.length (fun i => bAndn .u32 (w.getD i 0) (s.W.getD (j * n + b + i) 0) != 0) 11 (fun i hi => ?_) ?_
    · simp only [drive_Drive_Write_v2.l5]
      rw [bb_pos (decide_eq_true (by omega)), dd_pos (by omega), Int.toNat_natCast, opt_some (word_some hi), dd_pos (by rw [rd_len]; omega), opt_some (rd_get hi)]
      simp only [word_Within.c, word_Within.t, Tw.run_opt, Tw.run_ret, Option.bind_some]
      by_cases hb : bAndn .u32 (w.getD i 0) (s.W.getD (j * n + b + i) 0) = 0
      · rw [bb_neg (by rw [hb]; rfl), Tw.run_ret, hb, w64_of (by omega) (by omega)]
        rfl
      · rw [bb_pos (by rw [beq_eq_false_iff_ne.2 hb]; rfl), Tw.run_ret, if_pos (by simpa using hb)]
    · simp only [drive_Drive_Write_v2.l5]
      rw [bb_neg (decide_eq_false (by omega)), Tw.run_ret]
  rw [opt_some hL5]
  by_cases hvi : viol s.W w (j * n + b) = true
  · rw [if_pos hvi, if_pos hvi, sm_inr, Tw.run_ret]
    rfl
  rw [if_neg hvi, if_neg hvi, sm_inl, opt_some (drive_first_eq hr ok hs hv ha), hf0]
  have hL12 : drive_Drive_Write_v2.L12 ((j * n + b : Nat) : Int) w (w.length : Int) 0 (n : Int) g1 g2 g3 g4 g5 (n : Int) s.C s.D s.A s.W s.V s.M (rd s.W (j * n + b) w.length) =
      some (if (wrL w (j * n + b) s).1 = 0 then .inl (s4 (wrL w (j * n + b) s).2) else .inr ((wrL w (j * n + b) s).1, s4 (wrL w (j * n + b) s).2)) := by
    unfold drive_Drive_Write_v2.L12
    refine Lp_wr (n := n) w (j * n + b) s.W s.V s.M hw (fun z : Int × S4 => (drive_Drive_Write_v2.l12 ((j * n + b : Nat) : Int) w (w.length : Int) (n : Int) g1 g2 g3 g4 g5 (n : Int) s.V s.M (rd s.W (j * n + b) w.length) z.1 z.2.1 z.2.2.1 z.2.2.2.1 z.2.2.2.2).run) (fun i x s' hx hs' hV hM hl' hg => ?_) (fun s' => ?_) w.length 0 s (by omega) hs rfl rfl rfl (fun _ _ => rfl)
    · have hi := (List.getElem?_eq_some_iff.1 hx).1
      simp only [drive_Drive_Write_v2.l12, s4]
      rw [bb_pos (decide_eq_true (by omega)), dd_pos (by omega), Int.toNat_natCast, opt_some hx, dd_pos (by rw [rd_len]; omega), opt_some (rd_get hi), ← hg]
      by_cases hc : s'.W.getD (j * n + b + i) 0 = x
      · rw [bb_pos (by rw [hc]; simp), Tw.run_ret, if_pos hc, w64_of (by omega) (by omega)]
        rfl
      · rw [bb_neg (beq_eq_false_iff_ne.2 (fun h => hc h.symm)), w64_of (by omega) (by omega), show ((j * n + b : Nat) : Int) + (i : Int) = ((j * n + b + i : Nat) : Int) by omega, ← hV, ← hM,
          opt_some (flash_Program_eq hs' _ _ (hw _ (List.mem_of_getElem? hx))), if_neg hc]
        by_cases hp : (s'.prog ((j * n + b + i : Nat) : Int) x).1 ≠ 0
        · rw [bb_pos (by simpa using hp), if_pos hp, Tw.run_ret]
        · rw [bb_neg (by simpa using hp), if_neg hp, Tw.run_ret, w64_of (by omega) (by omega)]
          rfl
    · simp only [drive_Drive_Write_v2.l12, s4]
      rw [bb_neg (decide_eq_false (by omega)), Tw.run_ret]
  rw [opt_some hL12]
  by_cases hz : (wrL w (j * n + b) s).1 = 0
  · rw [if_pos hz, sm_inl, Tw.run_ret, hz]
  · rw [if_neg hz, sm_inr, Tw.run_ret]
theorem ref09_Write_eq {k at_ : Int} (ha : InR .i64 at_) {w : List Int} (hw : Words w) : ref09_Drive_Write_v2.c k at_ w (n : Int) g1 g2 g3 g4 g5 (n : Int) s.C s.D s.A s.W s.V s.M = some ((s.dwrite n k at_ w).1, s4 (s.dwrite n k at_ w).2) := by
  simp only [ref09_Drive_Write_v2.c, ref09_Drive_Write_v2.t]
  rw [opt_some (ref09_bad_eq hr ok hs hv ha)]
  unfold Fl.dwrite
  by_cases h0 : (s.first n k at_ (w.length : Int)).2 ≠ 0
  · rw [if_pos h0, bb_pos (by simpa using h0), Tw.run_ret]
    rfl
  have h0' : (s.first n k at_ (w.length : Int)).2 = 0 := by simpa using h0
  obtain ⟨hd, j, b, d, rfl, rfl, hwd, he, hbd, hj, hjv⟩ := first_at hs hv h0'
  have hwd : w.length = d := by omega
  subst hwd
  have hn := hs.n2
  have hl := hs.wl
  obtain ⟨j', hjj, _, hwj, _⟩ := at_of hs (k := (j : Int)) (by omega) (by omega)
  have hjj' : j' = j := by omega
  subst hjj'
  have hwa : w64 (w64 ((j' : Int) * (n : Int)) + (b : Int)) = ((j' * n + b : Nat) : Int) := by rw [hwj, w64_of (by omega) (by omega)]; omega
  rw [if_neg h0, bb_neg (by rw [h0']; rfl), he, Int.toNat_natCast, hwa]
  have hL6 : ref09_Drive_Write_v2.L6 w ((j' * n + b : Nat) : Int) 0 (n : Int) g1 g2 g3 g4 g5 (n : Int) s.C s.D s.A s.W s.V s.M = some (if viol s.W w (j' * n + b) then .inr 11 else .inl ()) := by
    unfold ref09_Drive_Write_v2.L6
    refine Lp_any _ w.length (fun i => bAndn .u32 (w.getD i 0) (s.W.getD (j' * n + b + i) 0) != 0) 11 (fun i hi => ?_) ?_
    · simp only [ref09_Drive_Write_v2.l6]
      rw [w64_of (n := ((j' * n + b : Nat) : Int) + (i : Int)) (by omega) (by omega), show ((j' * n + b : Nat) : Int) + (i : Int) = ((j' * n + b + i : Nat) : Int) by omega,
        bb_pos (decide_eq_true (by omega)), dd_pos (by omega), Int.toNat_natCast, opt_some (word_some hi), dd_pos (by omega), Int.toNat_natCast, opt_some (word_some (by omega)), opt_some (bits0_eq (word_in hw _) (word_in hs.w _))]
      by_cases hb : bAndn .u32 (w.getD i 0) (s.W.getD (j' * n + b + i) 0) = 0
      · rw [bb_neg (by rw [hb]; rfl), Tw.run_ret, hb, w64_of (by omega) (by omega)]
        rfl
      · rw [bb_pos (by simpa using hb), Tw.run_ret, if_pos (by simpa using hb)]
    · simp only [ref09_Drive_Write_v2.l6]
      rw [bb_neg (decide_eq_false (by omega)), Tw.run_ret]
  rw [opt_some hL6]
  by_cases hvi : viol s.W w (j' * n + b) = true
  · rw [if_pos hvi, if_pos hvi, sm_inr, Tw.run_ret]
    rfl
  rw [if_neg hvi, if_neg hvi, sm_inl]
  have hL11 : ref09_Drive_Write_v2.L11 w ((j' * n + b : Nat) : Int) 0 (n : Int) g1 g2 g3 g4 g5 (n : Int) s.C s.D s.A s.W s.V s.M =
      some (if (wrL w (j' * n + b) s).1 = 0 then .inl (s4 (wrL w (j' * n + b) s).2) else .inr ((wrL w (j' * n + b) s).1, s4 (wrL w (j' * n + b) s).2)) := by
    unfold ref09_Drive_Write_v2.L11
    refine Lp_wr (n := n) w (j' * n + b) s.W s.V s.M hw (fun z : Int × S4 => (ref09_Drive_Write_v2.l11 w ((j' * n + b : Nat) : Int) (n : Int) g1 g2 g3 g4 g5 (n : Int) s.V s.M z.1 z.2.1 z.2.2.1 z.2.2.2.1 z.2.2.2.2).run) (fun i x s' hx hs' hV hM hl' hg => ?_) (fun s' => ?_) w.length 0 s (by omega) hs rfl rfl rfl (fun _ _ => rfl)
    · have hi := (List.getElem?_eq_some_iff.1 hx).1
      simp only [ref09_Drive_Write_v2.l11, s4]
      rw [w64_of (n := ((j' * n + b : Nat) : Int) + (i : Int)) (by omega) (by omega), show ((j' * n + b : Nat) : Int) + (i : Int) = ((j' * n + b + i : Nat) : Int) by omega,
        bb_pos (decide_eq_true (by omega)), dd_pos (by omega), Int.toNat_natCast, opt_some (word_some (by omega)), dd_pos (by omega), Int.toNat_natCast, opt_some hx]
      by_cases hc : s'.W.getD (j' * n + b + i) 0 = x
      · rw [bb_neg (by rw [hc]; simp), Tw.run_ret, if_pos hc, w64_of (by omega) (by omega)]
        rfl
      · rw [bb_pos (by simpa using hc), dd_pos (by omega), opt_some hx, ← hV, ← hM,
          opt_some (ref07_Program_eq hs' _ _ (hw _ (List.mem_of_getElem? hx))), if_neg hc]
        by_cases hp : (s'.prog ((j' * n + b + i : Nat) : Int) x).1 ≠ 0
        · rw [bb_pos (by simpa using hp), if_pos hp, Tw.run_ret]
        · rw [bb_neg (by simpa using hp), if_neg hp, Tw.run_ret, w64_of (by omega) (by omega)]
          rfl
    · simp only [ref09_Drive_Write_v2.l11, s4]
      rw [bb_neg (decide_eq_false (by omega)), Tw.run_ret]
  rw [opt_some hL11]
  by_cases hz : (wrL w (j' * n + b) s).1 = 0
  · rw [if_pos hz, sm_inl, Tw.run_ret, hz]
  · rw [if_neg hz, sm_inr, Tw.run_ret]
end

theorem index_ones {l : List Int} (hl : l.length ≤ 1024) : slices_ContainsFunc__uint32uint32_of_drive_Drive_Blank_1.c l = some (!(l.all (· == 4294967295))) := by
  have hL : ∃ r, slices_IndexFunc__uint32uint32_of_drive_Drive_Blank_1.L2 l (l.length : Int) 0 = some r ∧ (match r with | .inl () => l.all (· == 4294967295) = true | .inr i => 0 ≤ i ∧ l.all (· == 4294967295) = false) := by
    unfold slices_IndexFunc__uint32uint32_of_drive_Drive_Blank_1.L2
    refine Lp_inv _ (fun i : Int => 0 ≤ i ∧ i ≤ l.length ∧ (l.take i.toNat).all (· == 4294967295) = true) (fun i : Int => l.length - i.toNat) _ (fun i hi => ?_) l.length 0 (by omega) ⟨by decide, by omega, by simp⟩
    obtain ⟨h0, h1, h2⟩ := hi
    simp only [slices_IndexFunc__uint32uint32_of_drive_Drive_Blank_1.l2]
    by_cases h : i < (l.length : Int)
    · have hs := word_some (w := l) (i := i.toNat) (by omega)
      rw [bb_pos (decide_eq_true h), dd_pos h0, opt_some hs]
      simp only [drive_Drive_Blank_1.c, drive_Drive_Blank_1.t, Tw.run_opt, Tw.run_ret, Option.bind_some]
      by_cases hb : l.getD i.toNat 0 = 4294967295
      · refine Or.inl ⟨i + 1, by rw [bb_neg (by rw [hb]; rfl), Tw.run_ret, w64_of (by omega) (by omega)], ⟨by omega, by omega, ?_⟩, by omega⟩
        rw [show (i + 1).toNat = i.toNat + 1 by omega, take_snoc 0 (by omega), List.all_append, h2, hb]
        rfl
      · refine Or.inr ⟨.inr i, by rw [bb_pos (by simpa using hb), Tw.run_ret], h0, ?_⟩
        cases ha : l.all (· == 4294967295) with
        | false => rfl
        | true =>
          have := List.all_eq_true.1 ha _ (List.mem_of_getElem? hs)
          exact absurd (by simpa using this) hb
    · refine Or.inr ⟨.inl (), by rw [bb_neg (decide_eq_false h), Tw.run_ret], ?_⟩
      rw [show i.toNat = l.length by omega, List.take_length] at h2
      exact h2
  obtain ⟨r, hr, hm⟩ := hL
  simp only [slices_ContainsFunc__uint32uint32_of_drive_Drive_Blank_1.c, slices_ContainsFunc__uint32uint32_of_drive_Drive_Blank_1.t, slices_IndexFunc__uint32uint32_of_drive_Drive_Blank_1.c, slices_IndexFunc__uint32uint32_of_drive_Drive_Blank_1.t]
  rw [Tw.run_opt, opt_some hr]
  cases r with
  | inl u =>
    have hm : l.all (· == 4294967295) = true := hm
    rw [sm_inl, hm]
    rfl
  | inr i =>
    obtain ⟨h1, h2⟩ := hm
    rw [sm_inr, h2, Tw.run_ret, Option.bind_some, Tw.run_ret, decide_eq_true h1]
    rfl

/-- The words of a state and its wear, as the printed functions carry them. -/
abbrev S5 : Type := Int × (Bool × (Int × (List Int × List Int)))
def s5 (s : Fl) : S5 := (s.C, s.D, s.A, s.W, s.V)
theorem dread_len {n : Nat} {s : Fl} {k at_ c : Int} (hs : FlOK n s) : (s.dread n k at_ c).2.length ≤ 1024 := by
  unfold Fl.dread
  split
  · simp
  · rename_i h
    have h' : (s.first n k at_ c).2 = 0 := by simpa using h
    obtain ⟨hd, j, b, d, rfl, rfl, rfl, he, hbd, hj, hjv⟩ := first_at hs (g1 := 0) (g2 := (s.V.length : Int) - 2) (by omega) h'
    have := hs.n2
    rw [rd_len]
    omega

section
variable {n : Nat} {g1 g2 g3 g4 g5 : Int} (hr : GeoR (n : Int) g1 g2 g3 g4 g5) (ok : GeoOK (n : Int) g1 g2 g3 g4 g5) {s : Fl} (hs : FlOK n s) (hv : (s.V.length : Int) = 2 + 2 * g1 + g2)
include hr ok hs hv
omit hr ok hs hv in
theorem first_bad (k at_ : Int) (c : Int) (h : at_ < 0 ∨ at_ > n) : s.first n k at_ c = (0, 3) := by
  unfold Fl.first
  rw [if_pos (by omega)]
theorem drive_Blank_eq {k at_ : Int} (ha : InR .i64 at_) : drive_Drive_Blank_v2.c k at_ (n : Int) g1 g2 g3 g4 g5 (n : Int) s.C s.D s.A s.W s.V s.M = some (s.blank n k at_) := by
  have hn := hs.n2
  have hat := ha.i64
  simp only [drive_Drive_Blank_v2.c, drive_Drive_Blank_v2.t]
  rw [opt_some (x := ()) (by rfl), opt_some (drive_Read_eq hr ok hs hv ha)]
  unfold Fl.blank
  by_cases h1 : at_ < 0 ∨ at_ > n
  · rw [if_pos h1]
    unfold Fl.dread
    rw [first_bad k at_ _ h1, if_pos (by decide), bb_pos (by rfl), Tw.run_ret]
  rw [if_neg h1]
  have e : imax (w64 ((n : Int) - imax at_ 0)) 0 = (n : Int) - at_ := by
    unfold imax
    have : (if (0 : Int) > at_ then (0 : Int) else at_) = at_ := by split <;> omega
    rw [this, w64_of (by omega) (by omega)]
    split <;> omega
  rw [e]
  by_cases h2 : (s.dread n k at_ (n - at_)).1 ≠ 0
  · rw [if_pos h2, bb_pos (by simpa using h2), Tw.run_ret]
  rw [if_neg h2, bb_neg (by simpa using h2), opt_some (index_ones (dread_len hs)), Tw.run_ret, Bool.not_not]
theorem ref09_Blank_eq {k at_ : Int} (ha : InR .i64 at_) : ref09_Drive_Blank_v2.c k at_ (n : Int) g1 g2 g3 g4 g5 (n : Int) s.C s.D s.A s.W s.V s.M = some (s.blank n k at_) := by
  have hn := hs.n2
  have hat := ha.i64
  simp only [ref09_Drive_Blank_v2.c, ref09_Drive_Blank_v2.t]
  unfold Fl.blank
  by_cases h1 : at_ < 0
  · rw [bb_pos (decide_eq_true h1), if_pos (Or.inl h1), Tw.run_ret]
  rw [bb_neg (decide_eq_false h1)]
  by_cases h2 : at_ > n
  · rw [bb_pos (decide_eq_true h2), if_pos (Or.inr h2), Tw.run_ret]
  rw [bb_neg (decide_eq_false h2), if_neg (by omega), w64_of (n := (n : Int) - at_) (by omega) (by omega), opt_some (ref09_Read_eq hr ok hs hv ha)]
  have hlen := dread_len (k := k) (at_ := at_) (c := (n : Int) - at_) hs
  have hL : ∀ (e : Int) (l : List Int), l.length ≤ 1024 → ref09_Drive_Blank_v2.L5 e 0 (n : Int) g1 g2 g3 g4 g5 (n : Int) s.C s.D s.A s.W s.V s.M l = some (if l.all (· == 4294967295) then .inl () else .inr false) := by
    intro e l hl
    unfold ref09_Drive_Blank_v2.L5
    refine (Lp_any _ l.length (fun i => l.getD i 0 != 4294967295) false (fun i hi => ?_) ?_).trans ?_
    · simp only [ref09_Drive_Blank_v2.l5]
      rw [bb_pos (decide_eq_true (by omega)), dd_pos (by omega), Int.toNat_natCast, opt_some (word_some hi)]
      by_cases hb : l.getD i 0 = 4294967295
      · rw [bb_neg (by rw [hb]; rfl), Tw.run_ret, hb, w64_of (by omega) (by omega)]
        rfl
      · rw [bb_pos (by simpa using hb), Tw.run_ret, if_pos (by simpa using hb)]
    · simp only [ref09_Drive_Blank_v2.l5]
      rw [bb_neg (decide_eq_false (by omega)), Tw.run_ret]
    · congr 1
      by_cases ha : l.all (· == 4294967295) = true
      · have : ((List.range l.length).any fun i => l.getD i 0 != 4294967295) = false := by
          rw [List.any_eq_false]
          intro i hi
          have := List.all_eq_true.1 ha _ (List.mem_of_getElem? (word_some (w := l) (List.mem_range.1 hi)))
          simpa using this
        rw [this, ha]
        rfl
      · have ha' : l.all (· == 4294967295) = false := by simpa using ha
        rw [List.all_eq_false] at ha'
        obtain ⟨x, hx, hne⟩ := ha'
        obtain ⟨i, hi⟩ := List.mem_iff_getElem?.1 hx
        have hlt := (List.getElem?_eq_some_iff.1 hi).1
        have : ((List.range l.length).any fun i => l.getD i 0 != 4294967295) = true := by
          rw [List.any_eq_true]
          refine ⟨i, List.mem_range.2 hlt, ?_⟩
          rw [List.getD_eq_getElem?_getD, hi]
          simpa using hne
        rw [this, if_pos rfl, if_neg ha]
  rw [opt_some (hL _ _ hlen)]
  by_cases h3 : (s.dread n k at_ (n - at_)).1 ≠ 0
  · have he : (s.dread n k at_ (n - at_)).2 = [] := by
      unfold Fl.dread at h3 ⊢
      split
      · rfl
      · rename_i h
        rw [if_neg h] at h3
        exact absurd rfl h3
    rw [if_pos h3, he, if_pos (by rfl), sm_inl, Tw.run_ret, beq_eq_false_iff_ne.2 h3]
  · have h3' : (s.dread n k at_ (n - at_)).1 = 0 := by simpa using h3
    rw [if_neg h3, h3']
    cases hx : (s.dread n k at_ (n - at_)).2.all (· == 4294967295) with
    | true => rw [if_pos rfl, sm_inl, Tw.run_ret]; rfl
    | false => rw [if_neg (by decide), sm_inr, Tw.run_ret]
theorem drive_Clean_eq {k : Int} : drive_Drive_Clean_v2.c k (n : Int) g1 g2 g3 g4 g5 (n : Int) s.C s.D s.A s.W s.V s.M = some ((s.clean n k).1, s5 (s.clean n k).2) := by
  simp only [drive_Drive_Clean_v2.c, drive_Drive_Clean_v2.t]
  rw [opt_some (drive_Blank_eq hr ok hs hv (inR_i64 (by decide)))]
  unfold Fl.clean
  by_cases h1 : (s.blank n k 0).2 ≠ 0
  · rw [if_pos h1, bb_pos (by simpa using h1), Tw.run_ret]
    rfl
  rw [if_neg h1, bb_neg (by simpa using h1)]
  by_cases h2 : (s.blank n k 0).1 = true
  · rw [if_pos h2, bb_pos h2, Tw.run_ret]
    rfl
  rw [if_neg h2, bb_neg (by simpa using h2), opt_some (flash_Erase_eq hs k), Tw.run_ret]
  rfl
theorem ref09_Clean_eq {k : Int} : ref09_Drive_Clean_v2.c k (n : Int) g1 g2 g3 g4 g5 (n : Int) s.C s.D s.A s.W s.V s.M = some ((s.clean n k).1, s5 (s.clean n k).2) := by
  simp only [ref09_Drive_Clean_v2.c, ref09_Drive_Clean_v2.t]
  rw [opt_some (ref09_Blank_eq hr ok hs hv (inR_i64 (by decide)))]
  unfold Fl.clean
  by_cases h1 : (s.blank n k 0).2 ≠ 0
  · rw [if_pos h1, bb_pos (by simpa using h1), Tw.run_ret]
    rfl
  rw [if_neg h1, bb_neg (by simpa using h1)]
  by_cases h2 : (s.blank n k 0).1 = true
  · rw [if_pos h2, bb_pos h2, Tw.run_ret]
    rfl
  rw [if_neg h2, bb_neg (by simpa using h2), opt_some (ref07_Erase_eq hs k), Tw.run_ret]
  rfl
omit hr ok hv in
theorem clean_ok (k : Int) : FlOK n (s.clean n k).2 ∧ (s.clean n k).2.V.length = s.V.length ∧ (s.clean n k).2.M = s.M := by
  unfold Fl.clean
  split
  · exact ⟨hs, rfl, rfl⟩
  split
  · exact ⟨hs, rfl, rfl⟩
  · exact ⟨erase_ok hs k, (erase_m n s k).2, (erase_m n s k).1⟩
omit hr ok hs hv in
theorem wrL_ok : ∀ {w : List Int} (hw : Words w) (a : Nat) {s : Fl}, FlOK n s → FlOK n (wrL w a s).2 ∧ (wrL w a s).2.V = s.V ∧ (wrL w a s).2.M = s.M ∧ (wrL w a s).2.W.length = s.W.length
  | [], _, a, s, hs => ⟨hs, rfl, rfl, rfl⟩
  | x :: w, hw, a, s, hs => by
    have hx := hw x (List.mem_cons_self ..)
    have hw' : Words w := fun y hy => hw y (List.mem_cons_of_mem _ hy)
    have hm := prog_m s (a : Int) x
    have hp := prog_ok hs (a : Int) x hx
    unfold wrL
    split
    · exact wrL_ok hw' (a + 1) hs
    split
    · exact ⟨hp, hm⟩
    · have := wrL_ok hw' (a + 1) hp
      exact ⟨this.1, by rw [this.2.1, hm.1], by rw [this.2.2.1, hm.2.1], by rw [this.2.2.2, hm.2.2]⟩
omit hr ok hv in
theorem dwrite_ok (k at_ : Int) {w : List Int} (hw : Words w) : FlOK n (s.dwrite n k at_ w).2 ∧ (s.dwrite n k at_ w).2.V = s.V ∧ (s.dwrite n k at_ w).2.M = s.M := by
  unfold Fl.dwrite
  split
  · exact ⟨hs, rfl, rfl⟩
  split
  · exact ⟨hs, rfl, rfl⟩
  · have := wrL_ok hw (s.first n k at_ w.length).1.toNat hs
    exact ⟨this.1, this.2.1, this.2.2.1⟩
omit hr ok hv in
theorem fresh_ok (k : Int) {w : List Int} (hw : Words w) : FlOK n (s.fresh n k w).2 ∧ (s.fresh n k w).2.V.length = s.V.length ∧ (s.fresh n k w).2.M = s.M := by
  unfold Fl.fresh
  split
  · exact ⟨hs, rfl, rfl⟩
  have hc := clean_ok hs k
  split
  · exact hc
  · have := dwrite_ok hc.1 k 0 hw
    exact ⟨this.1, by rw [this.2.1, hc.2.1], by rw [this.2.2, hc.2.2]⟩
theorem drive_Fresh_eq {k : Int} {w : List Int} (hw : Words w) : drive_Drive_Fresh_v2.c k w (n : Int) g1 g2 g3 g4 g5 (n : Int) s.C s.D s.A s.W s.V s.M = some ((s.fresh n k w).1, s5 (s.fresh n k w).2) := by
  simp only [drive_Drive_Fresh_v2.c, drive_Drive_Fresh_v2.t]
  rw [opt_some (drive_first_eq hr ok hs hv (inR_i64 (by decide)))]
  unfold Fl.fresh
  by_cases h1 : (s.first n k 0 w.length).2 ≠ 0
  · rw [if_pos h1, bb_pos (by simpa using h1), Tw.run_ret]
    rfl
  rw [if_neg h1, bb_neg (by simpa using h1), opt_some (show drive_Drive_Clean_v2.c k (n : Int) g1 g2 g3 g4 g5 (n : Int) s.C s.D s.A s.W s.V s.M = some ((s.clean n k).1, (s.clean n k).2.C, (s.clean n k).2.D, (s.clean n k).2.A, (s.clean n k).2.W, (s.clean n k).2.V) from drive_Clean_eq hr ok hs hv)]
  have hc := clean_ok hs k
  by_cases h2 : (s.clean n k).1 ≠ 0
  · rw [if_pos h2, bb_pos (by simpa using h2), Tw.run_ret]
    try rfl
  rw [if_neg h2, bb_neg (by simpa using h2), ← hc.2.2, opt_some (drive_Write_eq hr ok hc.1 (by rw [hc.2.1]; exact hv) (inR_i64 (by decide)) hw), Tw.run_ret, ← (dwrite_ok hc.1 k 0 hw).2.1]
  rfl
theorem ref09_Fresh_eq {k : Int} {w : List Int} (hw : Words w) : ref09_Drive_Fresh_v2.c k w (n : Int) g1 g2 g3 g4 g5 (n : Int) s.C s.D s.A s.W s.V s.M = some ((s.fresh n k w).1, s5 (s.fresh n k w).2) := by
  simp only [ref09_Drive_Fresh_v2.c, ref09_Drive_Fresh_v2.t]
  rw [opt_some (ref09_bad_eq hr ok hs hv (inR_i64 (by decide)))]
  unfold Fl.fresh
  by_cases h1 : (s.first n k 0 w.length).2 ≠ 0
  · rw [if_pos h1, bb_pos (by simpa using h1), Tw.run_ret]
    rfl
  rw [if_neg h1, bb_neg (by simpa using h1), opt_some (show ref09_Drive_Clean_v2.c k (n : Int) g1 g2 g3 g4 g5 (n : Int) s.C s.D s.A s.W s.V s.M = some ((s.clean n k).1, (s.clean n k).2.C, (s.clean n k).2.D, (s.clean n k).2.A, (s.clean n k).2.W, (s.clean n k).2.V) from ref09_Clean_eq hr ok hs hv)]
  have hc := clean_ok hs k
  by_cases h2 : (s.clean n k).1 ≠ 0
  · rw [if_pos h2, bb_pos (by simpa using h2), Tw.run_ret]
    try rfl
  rw [if_neg h2, bb_neg (by simpa using h2), ← hc.2.2, opt_some (ref09_Write_eq hr ok hc.1 (by rw [hc.2.1]; exact hv) (inR_i64 (by decide)) hw), Tw.run_ret, ← (dwrite_ok hc.1 k 0 hw).2.1]
  rfl
end

end Go.Proofs.Ytkoidgjgdhpdnaa.Pure
