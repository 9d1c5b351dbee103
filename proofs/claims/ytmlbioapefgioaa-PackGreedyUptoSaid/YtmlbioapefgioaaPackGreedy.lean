/- The plain truth of PackGreedy. -/
import Derived.Test.YtmlbioapefgioaaFlaw24PackGreedy
import Derived.Test.YtmlbioapefgioaaQAwake24
import Derived.Test.YtmlbioapefgioaaQPack3
namespace Go.Proofs.Ytmlbioapefgioaa.Pure
open Go Go.Proofs.Ytmlbioapefgioaa.Va
set_option linter.unusedVariables false
set_option linter.unusedSimpArgs false

/-! Greedy of the document. -/
theorem frontF_eq {l : List ItemV} {most : Int} : ∀ (k n m : Nat), k + n = l.length → n ≤ m → m ≤ l.length → (∀ j, n ≤ j → j < m → ((totI (l.take (j + 1)) : Nat) : Int) ≤ most) → (m < l.length → ((totI (l.take (m + 1)) : Nat) : Int) > most) → frontF l most k n = m
  | 0, n, m, h, h1, h2, h3, h4 => by rw [frontF]; omega
  | k + 1, n, m, h, h1, h2, h3, h4 => by
    rw [frontF]
    by_cases e : n = m
    · subst e
      rw [if_pos (h4 (by omega))]
    · rw [if_neg (by have := h3 n (by omega) (by omega); omega)]
      exact frontF_eq k (n + 1) m (by omega) (by omega) h2 (fun j hj => h3 j (by omega)) h4
/-- Items that lie in one leaf. -/
def PreI (R : Int) (now : List ItemV) : Prop := ∀ j, 1 ≤ j → j < now.length → ((totI (now.take (j + 1)) : Nat) : Int) ≤ R
theorem grd_step {R : Int} {now r : List ItemV} (h0 : 0 < now.length) (hp : PreI R now) (hr : ∀ x r', r = x :: r' → ((totI now + cstI x : Nat) : Int) > R) : grd R (now ++ r) = now :: grd R r := by
  have hl : 0 < (now ++ r).length := by rw [List.length_append]; omega
  have hf : frontN (now ++ r) R = now.length := by
    refine frontF_eq ((now ++ r).length - 1) 1 now.length (by omega) (by omega) (by rw [List.length_append]; omega) (fun j h1 h2 => ?_) (fun h => ?_)
    · rw [List.take_append_of_le_length (by omega)]
      exact hp j h1 h2
    · cases r with
      | nil => rw [List.append_nil] at h; omega
      | cons x r' =>
        have := hr x r' rfl
        rw [show (now ++ x :: r').take (now.length + 1) = now ++ [x] by
          rw [List.take_append, List.take_of_length_le (by omega)]
          simp, totI_append]
        simp only [totI, List.map_cons, List.map_nil, List.sum_cons, List.sum_nil] at *
        omega
  rw [grd_cons hl, hf, List.take_left, List.drop_left]
/-- What is left behind the loop, in its last leaf. -/
def lastL (now : List ItemV) : List (List ItemV) := if now.length = 0 then [] else [now]
theorem refG_L4 {items : List ItemV} (hg : Gd items) (hn : items.length ≤ 200) {R : Int} : ∀ (k i : Nat) (acc : List (List ItemV)) (now : List ItemV), k + i = items.length → now.length + acc.length ≤ i → Gd now → PreI R now → ∃ acc' now', ref24_Greedy.L4 items R (i : Int) acc now = some (acc', now') ∧ acc' ++ lastL now' = acc ++ grd R (now ++ items.drop i) ∧ acc'.length ≤ 200
  | 0, i, acc, now, h, hs, hgn, hp => by
    refine ⟨acc, now, Lp_end ?_, ?_, by omega⟩
    · simp only [ref24_Greedy.l4]
      rw [bb_neg (decide_eq_false (by omega))]
      rfl
    · rw [List.drop_of_length_le (by omega)]
      unfold lastL
      by_cases h0 : now.length = 0
      · have : now = [] := List.eq_nil_of_length_eq_zero h0
        subst this
        rw [if_pos h0, List.nil_append, grd_nil]
      · rw [if_neg h0, grd_step (by omega) hp (fun x r' h => by cases h), grd_nil]
  | k + 1, i, acc, now, h, hs, hgn, hp => by
    have hi : i < items.length := by omega
    have hx := hg _ (List.getElem_mem hi)
    have ed : items.drop i = items[i] :: items.drop (i + 1) := List.drop_eq_getElem_cons hi
    have e1 : w64 ((i : Int) + 1) = ((i + 1 : Nat) : Int) := by rw [w64_of (by omega) (by omega)]; omega
    have hc : cstI items[i] ≤ 18 := by have := hx.2; unfold cstI needN; omega
    have ht := totI_le64 (fun x hx => (hgn x hx).2)
    have emk : (⟨items[i].key, items[i].data⟩ : ItemV) = items[i] := rfl
    by_cases h0 : now.length = 0
    · have : now = [] := List.eq_nil_of_length_eq_zero h0
      subst this
      have hs1 : (ref24_Greedy.l4 items R (i : Int) acc []).run = some (.inl (((i + 1 : Nat) : Int), (acc, [items[i]])) : (Int × (List (List ItemV) × List ItemV)) ⊕ (List (List ItemV) × List ItemV)) := by
        simp only [ref24_Greedy.l4]
        rw [bb_pos (decide_eq_true (by omega)), bb_neg (decide_eq_false (by simp)), dd_pos (by simp), dd_pos (by omega)]
        simp only [Int.toNat_natCast, Tw.run_opt, List.getElem?_eq_getElem hi, Option.bind_some, e1, emk]
        rw [dd_pos (by simp)]
        rfl
      obtain ⟨acc', now', r1, r2, r3⟩ := refG_L4 hg hn k (i + 1) acc [items[i]] (by omega) (by simp at hs ⊢; omega) (fun x hx' => by rw [List.mem_singleton] at hx'; subst hx'; exact hx) (R := R) (fun j h1 h2 => by simp at h2; omega)
      refine ⟨acc', now', (Lp_next hs1).trans r1, ?_, r3⟩
      rw [r2, ed]
      rfl
    have e2 : w64 (((totI now : Nat) : Int) + ((cstI items[i] : Nat) : Int)) = ((totI now + cstI items[i] : Nat) : Int) := by rw [w64_of (by omega) (by omega)]; omega
    by_cases g : ((totI now + cstI items[i] : Nat) : Int) > R
    · have hs1 : (ref24_Greedy.l4 items R (i : Int) acc now).run = some (.inl (((i + 1 : Nat) : Int), (acc ++ [now], [items[i]])) : (Int × (List (List ItemV) × List ItemV)) ⊕ (List (List ItemV) × List ItemV)) := by
        simp only [ref24_Greedy.l4]
        rw [bb_pos (decide_eq_true (by omega)), bb_pos (decide_eq_true (by omega))]
        simp only [Tw.run_opt, refT hgn (show now.length ≤ 1000 by omega), Option.bind_some]
        rw [dd_pos (by omega)]
        simp only [Int.toNat_natCast, Tw.run_opt, List.getElem?_eq_getElem hi, Option.bind_some, refC hx.2, e2]
        rw [bb_pos (decide_eq_true g), dd_pos (by simp only [List.length_cons, List.length_nil]; omega), dd_pos (by omega)]
        simp only [Int.toNat_natCast, Tw.run_opt, List.getElem?_eq_getElem hi, Option.bind_some, e1, emk]
        rfl
      obtain ⟨acc', now', r1, r2, r3⟩ := refG_L4 hg hn k (i + 1) (acc ++ [now]) [items[i]] (by omega) (by simp; omega) (fun x hx' => by rw [List.mem_singleton] at hx'; subst hx'; exact hx) (R := R) (fun j h1 h2 => by simp at h2; omega)
      refine ⟨acc', now', (Lp_next hs1).trans r1, ?_, r3⟩
      rw [r2, ed, grd_step (now := now) (by omega) hp (fun x r' h => by injection h with h _; subst h; exact g)]
      simp
    · have hs1 : (ref24_Greedy.l4 items R (i : Int) acc now).run = some (.inl (((i + 1 : Nat) : Int), (acc, now ++ [items[i]])) : (Int × (List (List ItemV) × List ItemV)) ⊕ (List (List ItemV) × List ItemV)) := by
        simp only [ref24_Greedy.l4]
        rw [bb_pos (decide_eq_true (by omega)), bb_pos (decide_eq_true (by omega))]
        simp only [Tw.run_opt, refT hgn (show now.length ≤ 1000 by omega), Option.bind_some]
        rw [dd_pos (by omega)]
        simp only [Int.toNat_natCast, Tw.run_opt, List.getElem?_eq_getElem hi, Option.bind_some, refC hx.2, e2]
        rw [bb_neg (decide_eq_false g), dd_pos (by omega), dd_pos (by omega)]
        simp only [Int.toNat_natCast, Tw.run_opt, List.getElem?_eq_getElem hi, Option.bind_some, e1, emk]
        rw [dd_pos (by simp only [List.length_cons, List.length_nil]; omega)]
        rfl
      obtain ⟨acc', now', r1, r2, r3⟩ := refG_L4 hg hn k (i + 1) acc (now ++ [items[i]]) (by omega) (by simp; omega) (hgn.app (fun x hx' => by rw [List.mem_singleton] at hx'; subst hx'; exact hx)) (R := R) (fun j h1 h2 => by
        rw [List.length_append, List.length_singleton] at h2
        by_cases e : j = now.length
        · rw [List.take_of_length_le (by simp; omega), totI_append]
          simp only [totI, List.map_cons, List.map_nil, List.sum_cons, List.sum_nil] at *
          omega
        · rw [List.take_append_of_le_length (by omega)]
          exact hp j h1 (by omega))
      refine ⟨acc', now', (Lp_next hs1).trans r1, ?_, r3⟩
      rw [r2, ed]
      simp
theorem ref24_Greedy_eq {l : List ItemV} (hg : Gd l) (hn : l.length ≤ 200) (R : Int) : ref24_Greedy.c l R = some (grd R l) := by
  obtain ⟨acc, now, h1, h2, h3⟩ := refG_L4 hg hn (R := R) l.length 0 [] [] (by omega) (by simp) (fun _ h => nomatch h) (fun j h1 h2 => by simp at h2)
  rw [List.nil_append, List.nil_append, List.drop_zero] at h2
  simp only [ref24_Greedy.c, ref24_Greedy.t, Tw.run_opt]
  rw [show ref24_Greedy.L4 l R 0 [] [] = some (acc, now) from h1, ← h2]
  simp only [Option.bind_some]
  unfold lastL
  by_cases h0 : now.length = 0
  · rw [bb_neg (decide_eq_false (by omega)), if_pos h0, List.append_nil]
    rfl
  · rw [bb_pos (decide_eq_true (by omega)), if_neg h0, dd_pos (by simp only [List.length_cons, List.length_nil]; omega)]
    rfl
/-- Packed items are the items, in leaves that fit. -/
theorem grd_ft {R : Nat} (hR : 62 ≤ R) : ∀ (f : Nat) (l : List ItemV), l.length ≤ f → Gd l → (grd (R : Int) l).flatten = l ∧ ∀ x ∈ grd (R : Int) l, x ≠ [] ∧ totI x ≤ R ∧ Gd x
  | f, l, hf, hg => by
    by_cases h0 : l.length = 0
    · have : l = [] := List.eq_nil_of_length_eq_zero h0
      subst this
      rw [grd_nil]
      exact ⟨rfl, fun _ h => nomatch h⟩
    match f, hf with
    | 0, hf => omega
    | f + 1, hf =>
      obtain ⟨h1, h2⟩ := front_in (p := l) (by omega) (R : Int)
      obtain ⟨_, _, _, h5⟩ := frontF_prop (l := l) (most := (R : Int)) (l.length - 1) 1 (by omega)
      have e : frontF l (R : Int) (l.length - 1) 1 = frontN l (R : Int) := rfl
      rw [e] at h5
      rw [grd_cons (by omega)]
      generalize frontN l (R : Int) = n at *
      obtain ⟨q1, q2⟩ := grd_ft hR f (l.drop n) (by rw [List.length_drop]; omega) (hg.drop n)
      refine ⟨by rw [List.flatten_cons, q1, List.take_append_drop], fun x hx => ?_⟩
      rcases List.mem_cons.1 hx with rfl | hx
      · refine ⟨fun e => ?_, ?_, hg.take n⟩
        · have := congrArg List.length e
          rw [List.length_take, List.length_nil] at this
          omega
        · rcases h5 with h5 | h5
          · have := totI_le64 (fun x hx => (hg.take n x hx).2)
            rw [List.length_take] at this
            omega
          · omega
      · exact q2 x hx

/-! How much there is. -/
theorem bk_items : ∀ l : List ItemV, bk E0 2 (.slice 10 l) = (l.map fun x => x.data.size + 2).sum + 1 := by
  intro l
  show (l.map fun x => (1 + ((x.data.size + 1) + 0))).sum + 1 = _
  rw [show (fun x : ItemV => 1 + ((x.data.size + 1) + 0)) = fun x => x.data.size + 2 from funext fun x => by omega]
theorem bk_leaves : ∀ ls : List (List ItemV), bk E0 3 (.slice 11 ls) = (ls.map fun l => bk E0 2 (.slice 10 l)).sum + 1 := by
  intro ls
  show (ls.map fun l => (bk E0 2 (.slice 10 l) + 0)).sum + 1 = _
  rfl
theorem tot_bk (l : List ItemV) : totI l ≤ bk E0 2 (.slice 10 l) ∧ l.length ≤ bk E0 2 (.slice 10 l) := by
  rw [bk_items]
  induction l with
  | nil => simp [totI]
  | cons x l ih =>
    rw [totI_cons]
    simp only [List.map_cons, List.sum_cons, List.length_cons]
    have : cstI x ≤ x.data.size + 2 := by unfold cstI needN; omega
    omega
theorem leaves_bk (ls : List (List ItemV)) : (∀ l ∈ ls, totI l ≤ bk E0 3 (.slice 11 ls) ∧ l.length ≤ bk E0 3 (.slice 11 ls)) ∧ ls.flatten.length ≤ bk E0 3 (.slice 11 ls) := by
  rw [bk_leaves]
  induction ls with
  | nil => simp
  | cons l ls ih =>
    obtain ⟨i1, i2⟩ := ih
    have := tot_bk l
    simp only [List.map_cons, List.sum_cons, List.flatten_cons, List.length_append]
    refine ⟨fun x hx => ?_, by omega⟩
    rcases List.mem_cons.1 hx with rfl | hx
    · omega
    · have := i1 x hx
      omega

theorem PackGreedy (a0 : List ItemV) (a1 : List (List ItemV)) (a2 : Int) (w0 : a0.length * 24 ≤ reachBytes) (w1 : ∀ x2 ∈ a0, InR .u32 x2.key ∧ x2.data.size ≤ reachBytes) (w2 : a1.length * 24 ≤ reachBytes) (w3 : ∀ x6 ∈ a1, x6.length * 24 ≤ reachBytes ∧ (∀ x8 ∈ x6, InR .u32 x8.key ∧ x8.data.size ≤ reachBytes)) (w4 : InR .i64 a2) (wb : ∀ k, bkL E0 k [.slice 10 a0, .slice 11 a1, .int .i64 a2] ≤ 1048576) : law24_PackGreedy.c a0 a1 a2 = some true := by
  have aw : ∀ {k : Bool → Tw Bool}, (Tw.opt law24_awake.c k).run = (k true).run := fun {k} => by rw [opt_some awake24]
  simp only [law24_PackGreedy.c, law24_PackGreedy.t]
  by_cases g0 : (a0.length : Int) > 200
  · rw [bb_pos (decide_eq_true g0), aw, Tw.run_ret]
  rw [bb_neg (decide_eq_false g0)]
  by_cases g1 : (a1.length : Int) > 40
  · rw [bb_pos (decide_eq_true g1), aw, Tw.run_ret]
  rw [bb_neg (decide_eq_false g1)]
  by_cases g2 : a2 < 62
  · rw [bb_pos (decide_eq_true g2), aw, Tw.run_ret]
  rw [bb_neg (decide_eq_false g2)]
  by_cases g3 : a2 > 1022
  · rw [bb_pos (decide_eq_true g3), aw, Tw.run_ret]
  rw [bb_neg (decide_eq_false g3)]
  obtain ⟨R, rfl⟩ : ∃ R : Nat, a2 = (R : Int) := ⟨a2.toNat, by omega⟩
  have hb : bk E0 3 (.slice 11 a1) ≤ 1048576 := by
    have := wb 3
    simp only [bkL, List.map_cons, List.map_nil, List.sum_cons, List.sum_nil] at this
    omega
  obtain ⟨b1, b2⟩ := leaves_bk a1
  have hsz : Sz a1 := fun l hl => ⟨(w3 l hl).2, by have := b1 l hl; omega, by have := b1 l hl; omega⟩
  rw [opt_some (pack_Fits_eq hsz (by omega) (by omega) _), opt_some (ref24_Fits_eq hsz (by omega) (by omega) _), bb_neg (by simp), opt_some (pack_Flat_eq (by omega) (by omega)), opt_some (ref24_Flat_eq (by omega) (by omega)), opt_some (ref18_Same_eq (by omega)), bb_neg (by simp), opt_some (ref18_Right_eq (by omega))]
  cases hr : rightI a0 with
  | false => rw [bb_pos (by rfl), aw, Tw.run_ret]
  | true =>
  rw [bb_neg (by rfl)]
  obtain ⟨r1, r2⟩ := rightI_iff.1 hr
  have hg : Gd a0 := fun x hx => ⟨(w1 x hx).1, r1 x hx⟩
  obtain ⟨f1, f2⟩ := grd_ft (show 62 ≤ R by omega) a0.length a0 (Nat.le_refl _) hg
  have hF : Ft R 200 (grd (R : Int) a0) := ⟨⟨fun l hl => (f2 l hl).1, fun l hl => (f2 l hl).2.2, by rw [f1]; omega⟩, by rw [f1]; exact r2, fun l hl => (f2 l hl).2.1⟩
  have hc := hF.pk.count
  rw [opt_some (pack_Greedy_eq hg (by omega) _), opt_some (ref24_Greedy_eq hg (by omega) _), opt_some (ref24_Same_refl (by omega) (fun l hl => by have := hF.pk.leaf hl; omega)), bb_pos (by rfl),
    opt_some ((ref24_Fits_eq (hF.pk.sz (by omega)) (by rw [f1]; omega) (by omega) _).trans (congrArg some hF.fits)), bb_pos (by rfl), opt_some (ref24_Flat_eq (by rw [f1]; omega) (by omega)), f1, opt_some (ref18_Same_eq (by omega)), bb_pos (by simp), aw, Tw.run_ret]

end Go.Proofs.Ytmlbioapefgioaa.Pure
