/- Layer 24 (pack): Greedy, Fits, Same, what the laws leave out, and what must come at any rate. -/
import Derived.Test.YtmlbioapefgioaaQPack1
import Derived.Test.YtmlbioapefgioaaFlaw24
namespace Go.Proofs.Ytmlbioapefgioaa.Pure
open Go Go.Proofs.Ytmlbioapefgioaa.Va
set_option linter.unusedVariables false
set_option linter.unusedSimpArgs false

/-! Greedy. -/
def grd (R : Int) (l : List ItemV) : List (List ItemV) := if h : l.length = 0 then [] else l.take (frontN l R) :: grd R (l.drop (frontN l R))
termination_by l.length
decreasing_by
  have := (front_in (p := l) (by omega) R).1
  rw [List.length_drop]
  omega
theorem grd_nil (R : Int) : grd R [] = [] := by rw [grd]; rfl
theorem grd_cons {R : Int} {l : List ItemV} (h : 0 < l.length) : grd R l = l.take (frontN l R) :: grd R (l.drop (frontN l R)) := by rw [grd, dif_neg (by omega)]
theorem pack_Greedy_L3 (R : Int) : ∀ (f : Nat) (l : List ItemV) (acc : List (List ItemV)), l.length ≤ f → Gd l → l.length + acc.length ≤ 1000 → pack_Greedy.L3 R l acc = some (acc ++ grd R l)
  | f, l, acc, hf, hg, hn => by
    by_cases h0 : l.length = 0
    · have : l = [] := List.eq_nil_of_length_eq_zero h0
      subst this
      rw [grd_nil, List.append_nil]
      refine Lp_end ?_
      simp only [pack_Greedy.l3]
      rw [bb_neg (decide_eq_false (by simp))]
      rfl
    · obtain ⟨h1, h2⟩ := front_in (p := l) (by omega) R
      have hs : (pack_Greedy.l3 R l acc).run = some (.inl (l.drop (frontN l R), acc ++ [l.take (frontN l R)]) : (List ItemV × List (List ItemV)) ⊕ (List (List ItemV))) := by
        simp only [pack_Greedy.l3]
        rw [bb_pos (decide_eq_true (by omega))]
        simp only [Tw.run_opt, pack_front_eq hg (show l.length ≤ 1000 by omega) (show 0 < l.length by omega), Option.bind_some]
        generalize frontN l R = z at *
        rw [dd_pos (by omega)]
        simp only [Int.toNat_natCast, Tw.run_opt, clone_eq (l := l.take z) (by rw [List.length_take]; omega), Option.bind_some]
        rw [dd_pos (by simp only [List.length_cons, List.length_nil]; omega), dd_pos (by omega)]
        rfl
      match f, hf with
      | 0, hf => omega
      | f + 1, hf =>
        have ih := pack_Greedy_L3 R f (l.drop (frontN l R)) (acc ++ [l.take (frontN l R)]) (by rw [List.length_drop]; omega) (hg.drop _) (by rw [List.length_drop, List.length_append, List.length_singleton]; omega)
        refine (Lp_next hs).trans (ih.trans ?_)
        rw [grd_cons (show 0 < l.length by omega)]
        simp
theorem pack_Greedy_eq {l : List ItemV} (hg : Gd l) (hn : l.length ≤ 1000) (R : Int) : pack_Greedy.c l R = some (grd R l) := by
  have := pack_Greedy_L3 R l.length l [] (Nat.le_refl _) hg (by simpa using hn)
  rw [List.nil_append] at this
  simp only [pack_Greedy.c, pack_Greedy.t, Tw.run_opt, Tw.run_ret, this, Option.bind_some]

/-! Fits. -/
def badL (R : Int) (l : List ItemV) : Bool := decide (l.length = 0) || decide (((totI l : Nat) : Int) > R)
def fitsL (R : Int) (ls : List (List ItemV)) : Bool := match ls.find? (badL R) with | some _ => false | none => rightI ls.flatten
abbrev Sz (ls : List (List ItemV)) : Prop := ∀ l ∈ ls, Its l ∧ totI l < 4611686018427387904 ∧ l.length < 4611686018427387904
theorem pack_Fits_eq {ls : List (List ItemV)} (hs : Sz ls) (h : ls.flatten.length * 24 ≤ 140737488351232) (hl : ls.length < 4611686018427387904) (R : Int) : pack_Fits.c ls R = some (fitsL R ls) := by
  have hL : pack_Fits.L2 ls R ls (ls.length : Int) 0 = some (pickO (ls.find? (badL R)) (fun _ => .inr false) (.inl ())) := by
    refine Lp_list (fun s => (pack_Fits.l2 ls R ls (ls.length : Int) s).run) (fun i => (i : Int)) ls (badL R) (fun _ => .inr false) (.inl ()) (fun i a ha => ?_) ?_
    · have hi := (List.getElem?_eq_some_iff.1 ha).1
      obtain ⟨s1, s2, s3⟩ := hs a (List.mem_of_getElem? ha)
      have e1 : w64 ((i : Int) + 1) = ((i + 1 : Nat) : Int) := by rw [w64_of (by omega) (by omega)]; omega
      simp only [pack_Fits.l2]
      rw [bb_pos (decide_eq_true (by omega)), dd_pos (by omega)]
      simp only [Int.toNat_natCast, Tw.run_opt, ha, Option.bind_some, e1]
      unfold badL
      by_cases g : a.length = 0
      · rw [bb_pos (by rw [beq_iff_eq]; omega), decide_eq_true g]
        rfl
      rw [bb_neg (by rw [beq_eq_false_iff_ne]; omega), decide_eq_false g, Bool.false_or]
      simp only [Tw.run_opt, leaf_Total_eq s1 s2 s3, Option.bind_some]
      by_cases g2 : ((totI a : Nat) : Int) > R
      · rw [bb_pos (decide_eq_true g2), decide_eq_true g2]
        rfl
      · rw [bb_neg (decide_eq_false g2), decide_eq_false g2]
        rfl
    · simp only [pack_Fits.l2]
      rw [bb_neg (decide_eq_false (by omega))]
      rfl
  simp only [pack_Fits.c, pack_Fits.t, Tw.run_opt, hL, Option.bind_some]
  unfold fitsL
  cases ls.find? (badL R) with
  | some x => rfl
  | none =>
    simp only [pickO, sm_inl, Tw.run_opt, Tw.run_ret, pack_Flat_eq (show ls.flatten.length * 24 ≤ 140737488355328 by omega) hl, item_Right_eq (show ls.flatten.length ≤ 140737488351232 by omega), Option.bind_some]
theorem ref24_Fits_eq {ls : List (List ItemV)} (hs : Sz ls) (h : ls.flatten.length * 24 ≤ 140737488351232) (hl : ls.length < 4611686018427387904) (R : Int) : ref24_Fits.c ls R = some (fitsL R ls) := by
  have hL : ref24_Fits.L2 ls R 0 = some (pickO (ls.find? (badL R)) (fun _ => .inr false) (.inl ())) := by
    refine Lp_list (fun s => (ref24_Fits.l2 ls R s).run) (fun i => (i : Int)) ls (badL R) (fun _ => .inr false) (.inl ()) (fun i a ha => ?_) ?_
    · have hi := (List.getElem?_eq_some_iff.1 ha).1
      obtain ⟨s1, s2, s3⟩ := hs a (List.mem_of_getElem? ha)
      have e1 : w64 ((i : Int) + 1) = ((i + 1 : Nat) : Int) := by rw [w64_of (by omega) (by omega)]; omega
      simp only [ref24_Fits.l2]
      rw [bb_pos (decide_eq_true (by omega)), dd_pos (by omega)]
      simp only [Int.toNat_natCast, Tw.run_opt, ha, Option.bind_some, e1]
      unfold badL
      by_cases g : a.length = 0
      · rw [bb_pos (by rw [beq_iff_eq]; omega), decide_eq_true g]
        rfl
      rw [bb_neg (by rw [beq_eq_false_iff_ne]; omega), decide_eq_false g, Bool.false_or, dd_pos (by omega)]
      simp only [Tw.run_opt, ref23_Total_eq s1 s2 s3, Option.bind_some]
      by_cases g2 : ((totI a : Nat) : Int) > R
      · rw [bb_pos (decide_eq_true g2), decide_eq_true g2]
        rfl
      · rw [bb_neg (decide_eq_false g2), decide_eq_false g2]
        rfl
    · simp only [ref24_Fits.l2]
      rw [bb_neg (decide_eq_false (by omega))]
      rfl
  simp only [ref24_Fits.c, ref24_Fits.t, Tw.run_opt, hL, Option.bind_some]
  unfold fitsL
  cases ls.find? (badL R) with
  | some x => rfl
  | none =>
    simp only [pickO, sm_inl, Tw.run_opt, Tw.run_ret, ref24_Flat_eq (show ls.flatten.length * 24 ≤ 140737488355328 by omega) hl, ref18_Right_eq (show ls.flatten.length ≤ 140737488351232 by omega), Option.bind_some]

/-! Same. -/
/-! What the laws leave out. -/
theorem great24_eq {l : List Act24} (hl : l.length * 32 ≤ 140737488351232) : ∃ b, law24_great.c l = some b ∧ (b = false → l.length ≤ 80 ∧ ∀ x ∈ l, x.data.size ≤ 64) := by
  have hL : ∃ r, law24_great.L2 l 0 = some r ∧ (∀ u, r = .inl u → ∀ i, i < l.length → i < 81 → ∀ x, l[i]? = some x → x.data.size ≤ 64) ∧ (∀ b, r = .inr b → b = true) := by
    unfold law24_great.L2
    refine Lp_inv _ (fun s : Int => 0 ≤ s ∧ s ≤ 81 ∧ s ≤ l.length ∧ ∀ i : Nat, (i : Int) < s → ∀ x, l[i]? = some x → x.data.size ≤ 64) (fun s : Int => 81 - s.toNat) _ (fun s hs => ?_) 81 0 (by decide) ⟨by decide, by decide, by omega, fun i hi => by omega⟩
    obtain ⟨h0, h1, h2, h3⟩ := hs
    simp only [law24_great.l2]
    by_cases ha : s < (l.length : Int)
    · rw [bb_pos (decide_eq_true ha)]
      by_cases hb : s < 81
      · rw [bb_pos (decide_eq_true hb), dd_pos h0]
        have hs' : l[s.toNat]? = some l[s.toNat] := List.getElem?_eq_getElem (by omega)
        rw [opt_some hs']
        by_cases hc : ((l[s.toNat].data.size : Nat) : Int) > 64
        · exact Or.inr ⟨.inr true, by rw [bb_pos (decide_eq_true hc), Tw.run_ret], (fun u hu => by cases hu), (fun b hb => by injection hb with hb; exact hb.symm)⟩
        · refine Or.inl ⟨s + 1, by rw [bb_neg (decide_eq_false hc), Tw.run_ret, w64_of (by omega) (by omega)], ⟨by omega, by omega, by omega, fun i hi x hx => ?_⟩, by omega⟩
          by_cases he : (i : Int) = s
          · have : i = s.toNat := by omega
            subst this
            rw [hs'] at hx
            injection hx with hx
            rw [← hx]
            omega
          · exact h3 i (by omega) x hx
      · exact Or.inr ⟨.inl (), by rw [bb_neg (decide_eq_false hb), Tw.run_ret], (fun u hu i hi1 hi2 x hx => h3 i (by omega) x hx), (fun b hb => by cases hb)⟩
    · exact Or.inr ⟨.inl (), by rw [bb_neg (decide_eq_false ha), Tw.run_ret], (fun u hu i hi1 hi2 x hx => h3 i (by omega) x hx), (fun b hb => by cases hb)⟩
  obtain ⟨r, hr', h1, h2⟩ := hL
  simp only [law24_great.c, law24_great.t, Tw.run_opt, hr', Option.bind_some]
  cases r with
  | inl u =>
    refine ⟨_, rfl, fun hb => ?_⟩
    have hb := of_decide_eq_false hb
    refine ⟨by omega, fun x hx => ?_⟩
    obtain ⟨i, hi, rfl⟩ := List.getElem_of_mem hx
    exact h1 u rfl i hi (by omega) _ (List.getElem?_eq_getElem hi)
  | inr b =>
    refine ⟨b, rfl, fun hb => ?_⟩
    rw [h2 b rfl] at hb
    cases hb

end Go.Proofs.Ytmlbioapefgioaa.Pure
