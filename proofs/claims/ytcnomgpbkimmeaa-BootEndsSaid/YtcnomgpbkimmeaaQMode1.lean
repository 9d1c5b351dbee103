/- Layer 35: the steps, of the code and of the document, as one plain step. (printed by gen1.py and mkmode.py) -/
import Derived.Test.YtcnomgpbkimmeaaQMode
import Derived.Test.YtcnomgpbkimmeaaFmode
import Derived.Test.YtcnomgpbkimmeaaFslices
namespace Go.Proofs.Ytcnomgpbkimmeaa.Pure
open Go Go.Proofs.Ytcnomgpbkimmeaa.Va
set_option linter.unusedVariables false
set_option linter.unusedSimpArgs false

theorem index_eq {l : List Int} (hl : l.length ≤ 1000) (x : Int) : slices_Index__intint.c l x = some (match (List.range' 0 l.length).find? (fun i => x == l.getD i 0) with | some i => (i : Int) | none => -1) := by
  have : slices_Index__intint.L2 l x (l.length : Int) 0 = some (match (List.range' 0 l.length).find? (fun i => x == l.getD i 0) with | some i => .inr (i : Int) | none => .inl ()) := by
    unfold slices_Index__intint.L2
    refine Lp_find (fun s => (slices_Index__intint.l2 l x (l.length : Int) s).run) (fun i : Nat => (i : Int)) (fun i => x == l.getD i 0) (fun i => (Sum.inr (i : Int) : Unit ⊕ Int)) (.inl ()) l.length 0 (fun i _ hi => ?_) ?_
    · have e : w64 ((i : Int) + 1) = ((i + 1 : Nat) : Int) := by rw [w64_of (by omega) (by omega)]; rfl
      simp only [slices_Index__intint.l2]
      rw [bb_pos (decide_eq_true (by omega)), dd_pos (by omega), Int.toNat_natCast, opt_some (getD_some 0 (by omega : i < l.length))]
      cases hk : (x == l.getD i 0)
      · rw [bb_neg (by rfl), Tw.run_ret, e]; rfl
      · rw [bb_pos (by rfl), Tw.run_ret]; rfl
    · simp only [slices_Index__intint.l2, Nat.zero_add]
      rw [bb_neg (decide_eq_false (by omega)), Tw.run_ret]
  simp only [slices_Index__intint.c, slices_Index__intint.t]
  rw [opt_some this]
  cases (List.range' 0 l.length).find? (fun i => x == l.getD i 0) with
  | none => rw [sm_inl, Tw.run_ret]
  | some i => rw [sm_inr, Tw.run_ret]
theorem contains_eq {l : List Int} (hl : l.length ≤ 1000) (x : Int) : slices_Contains__intint.c l x = some (decide (x ∈ l)) := by
  simp only [slices_Contains__intint.c, slices_Contains__intint.t]
  rw [opt_some (index_eq hl x), Tw.run_ret]
  apply sd
  rw [decide_eq_true_iff]
  cases e : (List.range' 0 l.length).find? (fun i => x == l.getD i 0) with
  | none =>
    rw [List.find?_eq_none] at e
    constructor
    · intro h
      simp at h
    · intro h
      obtain ⟨i, hi, hx⟩ := List.getElem_of_mem h
      have := e i (List.mem_range'.2 ⟨i, by omega, by omega⟩)
      rw [List.getD_eq_getElem?_getD, List.getElem?_eq_getElem hi] at this
      simp [hx] at this
  | some i =>
    have h1 := List.find?_some e
    have h2 := List.mem_of_find?_eq_some e
    obtain ⟨j, hj, rfl⟩ := List.mem_range'.1 h2
    simp only [beq_iff_eq] at h1
    constructor
    · intro _
      rw [h1]
      exact List.mem_of_getElem? (getD_some 0 (by omega))
    · intro _
      simp only
      omega

def SA.setOth (s : SA) (c : Cd) : Cd × Cd := if s.a = 1 then (c, s.c1) else (s.c0, c)
def SA.setCur (s : SA) (c : Cd) : Cd × Cd := if s.a = 1 then (s.c0, c) else (c, s.c1)
/-- What comes of a state by a step. -/
def nextS (k : Int) (s : SA) (n0 n1 : Int) (c : Cd) : SA :=
  if k = 1 then ⟨1, s.a, 0, false, n0, (s.setOth cd0).1, (s.setOth cd0).2, s.r, s.g, -1, 0⟩
  else if k = 2 then ⟨2, s.a, s.l, s.f, 0, (s.setOth c).1, (s.setOth c).2, s.r, s.g, s.r2, s.g2⟩
  else if k = 3 then ⟨0, s.a, 0, false, 0, (s.setOth cd0).1, (s.setOth cd0).2, s.r, s.g, -1, 0⟩
  else if k = 4 then ⟨3, s.a, s.l, s.f, s.t, s.c0, s.c1, s.r, s.g, n0, n1⟩
  else if k = 5 then ⟨4, 1 - s.a, n0, false, 0, s.c0, s.c1, s.r2, s.g2, s.r, s.g⟩
  else if k = 6 then ⟨0, s.a, 0, true, 0, s.c0, s.c1, s.r, s.g, -1, 0⟩
  else if k = 7 then ⟨0, 1 - s.a, 0, false, 0, (s.setCur cd0).1, (s.setCur cd0).2, s.r2, s.g2, -1, 0⟩
  else ⟨0, 1 - s.a, 0, false, 0, (s.setCur cd0).1, (s.setCur cd0).2, n0, n1, -1, 0⟩
/-- In which modes a step may be taken. -/
def fromS (k m : Int) : Prop := (k = 1 ∧ m = 0) ∨ (k = 2 ∧ m = 1) ∨ (k = 3 ∧ 1 ≤ m ∧ m ≤ 3) ∨ (k = 4 ∧ m = 2) ∨ (k = 5 ∧ m = 3) ∨ (k = 6 ∧ m = 4) ∨ (k = 7 ∧ m = 4) ∨ (k = 8 ∧ m = 0)
instance (k m : Int) : Decidable (fromS k m) := by unfold fromS; infer_instance
/-- A step. -/
def stepS (k : Int) (s : SA) (n0 n1 : Int) (c : Cd) : T32 :=
  if RightS s then if fromS k s.m then if k = 8 ∧ s.f = false then sa0.out 8 else if RightS (nextS k s n0 n1 c) then (nextS k s n0 n1 c).out 0 else sa0.out 2 else sa0.out 23 else sa0.out 2
theorem stepS_cases (k : Int) (s : SA) (n0 n1 : Int) (c : Cd) : (∃ e : Int, e ≠ 0 ∧ stepS k s n0 n1 c = sa0.out e) ∨ (RightS s ∧ fromS k s.m ∧ ¬(k = 8 ∧ s.f = false) ∧ RightS (nextS k s n0 n1 c) ∧ stepS k s n0 n1 c = (nextS k s n0 n1 c).out 0) := by
  unfold stepS
  by_cases h1 : RightS s
  · by_cases h2 : fromS k s.m
    · by_cases h3 : k = 8 ∧ s.f = false
      · exact Or.inl ⟨8, by decide, by rw [if_pos h1, if_pos h2, if_pos h3]⟩
      · by_cases h4 : RightS (nextS k s n0 n1 c)
        · exact Or.inr ⟨h1, h2, h3, h4, by rw [if_pos h1, if_pos h2, if_neg h3, if_pos h4]⟩
        · exact Or.inl ⟨2, by decide, by rw [if_pos h1, if_pos h2, if_neg h3, if_neg h4]⟩
    · exact Or.inl ⟨23, by decide, by rw [if_pos h1, if_neg h2]⟩
  · exact Or.inl ⟨2, by decide, by rw [if_neg h1]⟩

theorem right0 {s : SA} (h : RightS s) (hm : s.m = 0) : s.l = 0 ∧ s.t = 0 ∧ s.r2 = -1 ∧ s.g2 = 0 := by
  have := h.2.2.2.2
  unfold BodyS Lone at this
  grind
theorem right1 {s : SA} (h : RightS s) (hm : s.m = 1) : s.l = 0 ∧ s.f = false ∧ s.r2 = -1 ∧ s.g2 = 0 := by
  have := h.2.2.2.2
  unfold BodyS Lone at this
  grind
theorem right2 {s : SA} (h : RightS s) (hm : s.m = 2) : s.l = 0 ∧ s.t = 0 ∧ s.f = false ∧ s.r2 = -1 ∧ s.g2 = 0 := by
  have := h.2.2.2.2
  unfold BodyS Lone at this
  grind
theorem right3 {s : SA} (h : RightS s) (hm : s.m = 3) : s.l = 0 ∧ s.t = 0 ∧ s.f = false := by
  have := h.2.2.2.2
  unfold BodyS Lone at this
  grind
theorem right4 {s : SA} (h : RightS s) (hm : s.m = 4) : s.t = 0 ∧ s.f = false := by
  have := h.2.2.2.2
  unfold BodyS Lone at this
  grind
theorem mode_Rollback_eq (s : SA) (n0 n1 : Int) (c : Cd) : mode_Rollback.c s.m s.a s.l s.f s.t s.c0.x0 s.c0.x1 s.c0.x2 s.c0.x3 s.c0.x4 s.c0.x5 s.c0.x6 s.c0.x7 s.c0.x8 s.c0.x9 s.c0.x10 s.c1.x0 s.c1.x1 s.c1.x2 s.c1.x3 s.c1.x4 s.c1.x5 s.c1.x6 s.c1.x7 s.c1.x8 s.c1.x9 s.c1.x10 s.r s.g s.r2 s.g2  = some (stepS 7 s n0 n1 c) := by
  have h : mode_step_of_mode_Rollback_1.c s.m s.a s.l s.f s.t s.c0.x0 s.c0.x1 s.c0.x2 s.c0.x3 s.c0.x4 s.c0.x5 s.c0.x6 s.c0.x7 s.c0.x8 s.c0.x9 s.c0.x10 s.c1.x0 s.c1.x1 s.c1.x2 s.c1.x3 s.c1.x4 s.c1.x5 s.c1.x6 s.c1.x7 s.c1.x8 s.c1.x9 s.c1.x10 s.r s.g s.r2 s.g2 (4 :: [])  = some (stepS 7 s n0 n1 c) := by
    simp only [mode_step_of_mode_Rollback_1.c, mode_step_of_mode_Rollback_1.t]
    rw [opt_some (book_Right_eq s)]
    unfold stepS
    by_cases hR : RightS s
    rotate_left
    · rw [decide_eq_false hR, bb_pos (by rfl), Tw.run_ret, if_neg hR]; rfl
    rw [decide_eq_true hR, bb_neg (by rfl), if_pos hR, opt_some (contains_eq (by decide) _)]
    have ha := hR.1
    by_cases hm : s.m = 4
    rotate_left
    · rw [decide_eq_false (by simpa using hm), bb_pos (by rfl), Tw.run_ret, if_neg (by unfold fromS; omega)]; rfl
    rw [decide_eq_true (by simpa using hm), bb_neg (by rfl), if_pos (by unfold fromS; omega)]
    have hf := right4 hR hm
    obtain ⟨m, a, l, f, t, c0, c1, r, g, r2, g2⟩ := s
    simp only at hm hf ha
    obtain ⟨ht, hf⟩ := hf
    subst hm ht hf
    rcases ha with ha | ha
    · subst ha
      rw [if_neg (fun h => absurd h.1 (by decide))]
      obtain ⟨T, hT⟩ : ∃ T, T = nextS 7 ⟨4, 0, l, false, 0, c0, c1, r, g, r2, g2⟩ n0 n1 c := ⟨_, rfl⟩
      have hx : mode_Rollback_1.c 4 0 l false 0 c0.x0 c0.x1 c0.x2 c0.x3 c0.x4 c0.x5 c0.x6 c0.x7 c0.x8 c0.x9 c0.x10 c1.x0 c1.x1 c1.x2 c1.x3 c1.x4 c1.x5 c1.x6 c1.x7 c1.x8 c1.x9 c1.x10 r g (r2) g2  = some (0, T.m, T.a, T.l, T.c0.x0, T.c0.x1, T.c0.x2, T.c0.x3, T.c0.x4, T.c0.x5, T.c0.x6, T.c0.x7, T.c0.x8, T.c0.x9, T.c0.x10, T.c1.x0, T.c1.x1, T.c1.x2, T.c1.x3, T.c1.x4, T.c1.x5, T.c1.x6, T.c1.x7, T.c1.x8, T.c1.x9, T.c1.x10, T.r2, T.g2) := by rw [hT]; rfl
      have hb : some (decide (RightS T)) = some (decide (RightS (nextS 7 ⟨4, 0, l, false, 0, c0, c1, r, g, r2, g2⟩ n0 n1 c))) := by rw [hT]
      rw [opt_some hx, bb_pos (by rfl), opt_some (x := decide (RightS T)) (by rw [hT]; exact book_Right_eq (nextS 7 ⟨4, 0, l, false, 0, c0, c1, r, g, r2, g2⟩ n0 n1 c)), ← hT]
      by_cases hr : RightS T
      · rw [decide_eq_true hr, bb_neg (by rfl), bb_neg (by rfl), Tw.run_ret, if_pos hr, hT]; rfl
      · rw [decide_eq_false hr, bb_pos (by rfl), Tw.run_ret, if_neg hr]; rfl
    · subst ha
      rw [if_neg (fun h => absurd h.1 (by decide))]
      obtain ⟨T, hT⟩ : ∃ T, T = nextS 7 ⟨4, 1, l, false, 0, c0, c1, r, g, r2, g2⟩ n0 n1 c := ⟨_, rfl⟩
      have hx : mode_Rollback_1.c 4 1 l false 0 c0.x0 c0.x1 c0.x2 c0.x3 c0.x4 c0.x5 c0.x6 c0.x7 c0.x8 c0.x9 c0.x10 c1.x0 c1.x1 c1.x2 c1.x3 c1.x4 c1.x5 c1.x6 c1.x7 c1.x8 c1.x9 c1.x10 r g (r2) g2  = some (0, T.m, T.a, T.l, T.c0.x0, T.c0.x1, T.c0.x2, T.c0.x3, T.c0.x4, T.c0.x5, T.c0.x6, T.c0.x7, T.c0.x8, T.c0.x9, T.c0.x10, T.c1.x0, T.c1.x1, T.c1.x2, T.c1.x3, T.c1.x4, T.c1.x5, T.c1.x6, T.c1.x7, T.c1.x8, T.c1.x9, T.c1.x10, T.r2, T.g2) := by rw [hT]; rfl
      have hb : some (decide (RightS T)) = some (decide (RightS (nextS 7 ⟨4, 1, l, false, 0, c0, c1, r, g, r2, g2⟩ n0 n1 c))) := by rw [hT]
      rw [opt_some hx, bb_pos (by rfl), opt_some (x := decide (RightS T)) (by rw [hT]; exact book_Right_eq (nextS 7 ⟨4, 1, l, false, 0, c0, c1, r, g, r2, g2⟩ n0 n1 c)), ← hT]
      by_cases hr : RightS T
      · rw [decide_eq_true hr, bb_neg (by rfl), bb_neg (by rfl), Tw.run_ret, if_pos hr, hT]; rfl
      · rw [decide_eq_false hr, bb_pos (by rfl), Tw.run_ret, if_neg hr]; rfl
  simp only [mode_Rollback.c, mode_Rollback.t]
  rw [opt_some h, Tw.run_ret]
/-! The document's steps. -/
abbrev T32' : Type := Int × (Int × (Int × (Int × (Bool × (Int × (Int × (Int × (Int × (Int × (Int × (Int × (Int × (Int × (Int × (Int × (Int × (Int × (Int × (Int × (Int × (Int × (Int × (Int × (Int × (Int × (Int × (Int × (Int × (Int × (Int × Int))))))))))))))))))))))))))))))
def SA.inp (s : SA) (e : Int) : T32' := (e, s.m, s.a, s.l, s.f, s.t, s.c0.x0, s.c0.x1, s.c0.x2, s.c0.x3, s.c0.x4, s.c0.x5, s.c0.x6, s.c0.x7, s.c0.x8, s.c0.x9, s.c0.x10, s.c1.x0, s.c1.x1, s.c1.x2, s.c1.x3, s.c1.x4, s.c1.x5, s.c1.x6, s.c1.x7, s.c1.x8, s.c1.x9, s.c1.x10, s.r, s.g, s.r2, s.g2)
def flip32 (z : T32') : T32 := (z.2.1, z.2.2.1, z.2.2.2.1, z.2.2.2.2.1, z.2.2.2.2.2.1, z.2.2.2.2.2.2.1, z.2.2.2.2.2.2.2.1, z.2.2.2.2.2.2.2.2.1, z.2.2.2.2.2.2.2.2.2.1, z.2.2.2.2.2.2.2.2.2.2.1, z.2.2.2.2.2.2.2.2.2.2.2.1, z.2.2.2.2.2.2.2.2.2.2.2.2.1, z.2.2.2.2.2.2.2.2.2.2.2.2.2.1, z.2.2.2.2.2.2.2.2.2.2.2.2.2.2.1, z.2.2.2.2.2.2.2.2.2.2.2.2.2.2.2.1, z.2.2.2.2.2.2.2.2.2.2.2.2.2.2.2.2.1, z.2.2.2.2.2.2.2.2.2.2.2.2.2.2.2.2.2.1, z.2.2.2.2.2.2.2.2.2.2.2.2.2.2.2.2.2.2.1, z.2.2.2.2.2.2.2.2.2.2.2.2.2.2.2.2.2.2.2.1, z.2.2.2.2.2.2.2.2.2.2.2.2.2.2.2.2.2.2.2.2.1, z.2.2.2.2.2.2.2.2.2.2.2.2.2.2.2.2.2.2.2.2.2.1, z.2.2.2.2.2.2.2.2.2.2.2.2.2.2.2.2.2.2.2.2.2.2.1, z.2.2.2.2.2.2.2.2.2.2.2.2.2.2.2.2.2.2.2.2.2.2.2.1, z.2.2.2.2.2.2.2.2.2.2.2.2.2.2.2.2.2.2.2.2.2.2.2.2.1, z.2.2.2.2.2.2.2.2.2.2.2.2.2.2.2.2.2.2.2.2.2.2.2.2.2.1, z.2.2.2.2.2.2.2.2.2.2.2.2.2.2.2.2.2.2.2.2.2.2.2.2.2.2.1, z.2.2.2.2.2.2.2.2.2.2.2.2.2.2.2.2.2.2.2.2.2.2.2.2.2.2.2.1, z.2.2.2.2.2.2.2.2.2.2.2.2.2.2.2.2.2.2.2.2.2.2.2.2.2.2.2.2.1, z.2.2.2.2.2.2.2.2.2.2.2.2.2.2.2.2.2.2.2.2.2.2.2.2.2.2.2.2.2.1, z.2.2.2.2.2.2.2.2.2.2.2.2.2.2.2.2.2.2.2.2.2.2.2.2.2.2.2.2.2.2.1, z.2.2.2.2.2.2.2.2.2.2.2.2.2.2.2.2.2.2.2.2.2.2.2.2.2.2.2.2.2.2.2, z.1)
end Go.Proofs.Ytcnomgpbkimmeaa.Pure
