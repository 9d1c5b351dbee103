/- Layer 24 (pack): Greedy, Fits, Same, what the laws leave out, and what must come at any rate. -/
import Derived.Test.YtmlbioapefgioaaQPack1
import Derived.Test.YtmlbioapefgioaaFlaw24
namespace Go.Proofs.Ytmlbioapefgioaa.Pure
open Go Go.Proofs.Ytmlbioapefgioaa.Va
set_option linter.unusedVariables false
set_option linter.unusedSimpArgs false

/-! Greedy. -/
def grd (R : Int) (l : List ItemV) : List (List ItemV) := if h : l.length = 0 then [] else l.take (frontN l R) :: grd R (l.drop (frontN l R))
termination_by l.length
decreasing_by
  have := (front_in (p := l) (by omega) R).1
  rw [List.length_drop]
  omega
theorem grd_nil (R : Int) : grd R [] = [] := by rw [grd]; rfl
theorem grd_cons {R : Int} {l : List ItemV} (h : 0 < l.length) : grd R l = l.take (frontN l R) :: grd R (l.drop (frontN l R)) := by rw [grd, dif_neg (by omega)]
theorem pack_Greedy_L3 (R : Int) : ∀ (f : Nat) (l : List ItemV) (acc : List (List ItemV)), l.length ≤ f → Gd l → l.length + acc.length ≤ 1000 → pack_Greedy.L3 R l acc = some (acc ++ grd R l)
  | f, l, acc, hf, hg, hn => by
    by_cases h0 : l.length = 0
    · have : l = [] := List.eq_nil_of_length_eq_zero h0
      subst this
      rw [grd_nil, List.append_nil]
      refine Lp_end ?_
      simp only [pack_Greedy.l3]
      rw [bb_neg (decide_eq_false (by simp))]
      rfl
    · obtain ⟨h1, h2⟩ := front_in (p := l) (by omega) R
      have hs : (pack_Greedy.l3 R l acc).run = some (.inl (l.drop (frontN l R), acc ++ [l.take (frontN l R)]) : (List ItemV × List (List ItemV)) ⊕ (List (List ItemV))) := by
        simp only [pack_Greedy.l3]
        rw [bb_pos (decide_eq_true (by omega))]
        simp only [Tw.run_opt, pack_front_eq hg (show l.length ≤ 1000 by omega) (show 0 < l.length by omega), Option.bind_some]
        generalize frontN l R = z at *
        rw [dd_pos (by omega)]
        simp only [Int.toNat_natCast, Tw.run_opt, clone_eq (l := l.take z) (by rw [List.length_take]; omega), Option.bind_some]
        rw [dd_pos (by simp only [List.length_cons, List.length_nil]; omega), dd_pos (by omega)]
        rfl
      match f, hf with
      | 0, hf => omega
      | f + 1, hf =>
        have ih := pack_Greedy_L3 R f (l.drop (frontN l R)) (acc ++ [l.take (frontN l R)]) (by rw [List.length_drop]; omega) (hg.drop _) (by rw [List.length_drop, List.length_append, List.length_singleton]; omega)
        refine (Lp_next hs).trans (ih.trans ?_)
        rw [grd_cons (show 0 < l.length by omega)]
        simp
theorem pack_Greedy_eq {l : List ItemV} (hg : Gd l) (hn : l.length ≤ 1000) (R : Int) : pack_Greedy.c l R = some (grd R l) := by
  have := pack_Greedy_L3 R l.length l [] (Nat.le_refl _) hg (by simpa using hn)
  rw [List.nil_append] at this
  simp only [pack_Greedy.c, pack_Greedy.t, Tw.run_opt, Tw.run_ret, this, Option.bind_some]

/-! Fits. -/
def badL (R : Int) (l : List ItemV) : Bool := decide (l.length = 0) || decide (((totI l : Nat) : Int) > R)
def fitsL (R : Int) (ls : List (List ItemV)) : Bool := match ls.find? (badL R) with | some _ => false | none => rightI ls.flatten
abbrev Sz (ls : List (List ItemV)) : Prop := ∀ l ∈ ls, Its l ∧ totI l < 4611686018427387904 ∧ l.length < 4611686018427387904
theorem pack_Fits_eq {ls : List (List ItemV)} (hs : Sz ls) (h : ls.flatten.length * 24 ≤ 140737488351232) (hl : ls.length < 4611686018427387904) (R : Int) : pack_Fits.c ls R = some (fitsL R ls) := by
  have hL : pack_Fits.L2 ls R ls (ls.length : Int) 0 = some (pickO (ls.find? (badL R)) (fun _ => .inr false) (.inl ())) := by
    refine Lp_list (fun s => (pack_Fits.l2 ls R ls (ls.length : Int) s).run) (fun i => (i : Int)) ls (badL R) (fun _ => .inr false) (.inl ()) (fun i a ha => ?_) ?_
    · have hi := (List.getElem?_eq_some_iff.1 ha).1
      obtain ⟨s1, s2, s3⟩ := hs a (List.mem_of_getElem? ha)
      have e1 : w64 ((i : Int) + 1) = ((i + 1 : Nat) : Int) := by rw [w64_of (by omega) (by omega)]; omega
      simp only [pack_Fits.l2]
      rw [bb_pos (decide_eq_true (by omega)), dd_pos (by omega)]
      simp only [Int.toNat_natCast, Tw.run_opt, ha, Option.bind_some, e1]
      unfold badL
      by_cases g : a.length = 0
      · rw [bb_pos (by rw [beq_iff_eq]; omega), decide_eq_true g]
        rfl
      rw [bb_neg (by rw [beq_eq_false_iff_ne]; omega), decide_eq_false g, Bool.false_or]
      simp only [Tw.run_opt, leaf_Total_eq s1 s2 s3, Option.bind_some]
      by_cases g2 : ((totI a : Nat) : Int) > R
      · rw [bb_pos (decide_eq_true g2), decide_eq_true g2]
        rfl
      · rw [bb_neg (decide_eq_false g2), decide_eq_false g2]
        rfl
    · simp only [pack_Fits.l2]
      rw [bb_neg (decide_eq_false (by omega))]
      rfl
  simp only [pack_Fits.c, pack_Fits.t, Tw.run_opt, hL, Option.bind_some]
  unfold fitsL
  cases ls.find? (badL R) with
  | some x => rfl
  | none =>
    simp only [pickO, sm_inl, Tw.run_opt, Tw.run_ret, pack_Flat_eq (show ls.flatten.length * 24 ≤ 140737488355328 by omega) hl, item_Right_eq (show ls.flatten.length ≤ 140737488351232 by omega), Option.bind_some]
theorem ref24_Fits_eq {ls : List (List ItemV)} (hs : Sz ls) (h : ls.flatten.length * 24 ≤ 140737488351232) (hl : ls.length < 4611686018427387904) (R : Int) : ref24_Fits.c ls R = some (fitsL R ls) := by
  have hL : ref24_Fits.L2 ls R 0 = some (pickO (ls.find? (badL R)) (fun _ => .inr false) (.inl ())) := by
    refine Lp_list (fun s => (ref24_Fits.l2 ls R s).run) (fun i => (i : Int)) ls (badL R) (fun _ => .inr false) (.inl ()) (fun i a ha => ?_) ?_
    · have hi := (List.getElem?_eq_some_iff.1 ha).1
      obtain ⟨s1, s2, s3⟩ := hs a (List.mem_of_getElem? ha)
      have e1 : w64 ((i : Int) + 1) = ((i + 1 : Nat) : Int) := by rw [w64_of (by omega) (by omega)]; omega
      simp only [ref24_Fits.l2]
      rw [bb_pos (decide_eq_true (by omega)), dd_pos (by omega)]
      simp only [Int.toNat_natCast, Tw.run_opt, ha, Option.bind_some, e1]
      unfold badL
      by_cases g : a.length = 0
      · rw [bb_pos (by rw [beq_iff_eq]; omega), decide_eq_true g]
        rfl
      rw [bb_neg (by rw [beq_eq_false_iff_ne]; omega), decide_eq_false g, Bool.false_or, dd_pos (by omega)]
      simp only [Tw.run_opt, ref23_Total_eq s1 s2 s3, Option.bind_some]
      by_cases g2 : ((totI a : Nat) : Int) > R
      · rw [bb_pos (decide_eq_true g2), decide_eq_true g2]
        rfl
      · rw [bb_neg (decide_eq_false g2), decide_eq_false g2]
        rfl
    · simp only [ref24_Fits.l2]
      rw [bb_neg (decide_eq_false (by omega))]
      rfl
  simp only [ref24_Fits.c, ref24_Fits.t, Tw.run_opt, hL, Option.bind_some]
  unfold fitsL
  cases ls.find? (badL R) with
  | some x => rfl
  | none =>
    simp only [pickO, sm_inl, Tw.run_opt, Tw.run_ret, ref24_Flat_eq (show ls.flatten.length * 24 ≤ 140737488355328 by omega) hl, ref18_Right_eq (show ls.flatten.length ≤ 140737488351232 by omega), Option.bind_some]

/-! Same. -/
theorem ref24_Same_refl {a : List (List ItemV)} (hn : a.length ≤ 1000) (hl : ∀ l ∈ a, l.length ≤ 1000) : ref24_Same.c a a = some true := by
  have hL : ref24_Same.L4 a a 0 = some (.inl ()) := by
    refine Lp_seq (fun s => (ref24_Same.l4 a a s).run) (fun i => (i : Int)) a.length 0 (fun i _ hi => ?_) ?_
    · rw [Nat.zero_add] at hi
      have e1 : w64 ((i : Int) + 1) = ((i + 1 : Nat) : Int) := by rw [w64_of (by omega) (by omega)]; omega
      have := hl _ (List.getElem_mem hi)
      simp only [ref24_Same.l4]
      rw [bb_pos (decide_eq_true (by omega)), dd_pos (by omega)]
      simp only [Int.toNat_natCast, Tw.run_opt, List.getElem?_eq_getElem hi, Option.bind_some]
      rw [dd_pos (by omega)]
      simp only [Tw.run_opt, List.getElem?_eq_getElem hi, Option.bind_some, ref18_Same_eq (show a[i].length ≤ 140737488351232 by omega), e1]
      rw [bb_neg (by simp)]
      rfl
    · rw [Nat.zero_add]
      simp only [ref24_Same.l4]
      rw [bb_neg (decide_eq_false (by omega))]
      rfl
  simp only [ref24_Same.c, ref24_Same.t, Tw.run_opt, hL, Option.bind_some]
  rw [bb_neg (by simp)]
  rfl

/-! What the laws leave out. -/
end Go.Proofs.Ytmlbioapefgioaa.Pure
