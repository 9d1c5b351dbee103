/- Drives: what the code's drive and the document's drive do, on the plain machine of a flash. -/
import Derived.Test.YtmlbioapefgioaaQFlash2
import Derived.Test.YtmlbioapefgioaaQGeom
namespace Go.Proofs.Ytmlbioapefgioaa.Pure
open Go Go.Proofs.Ytmlbioapefgioaa.Va
set_option linter.unusedVariables false
set_option linter.unusedSimpArgs false

/-- Words from a place on. -/
def rd (W : List Int) (a c : Nat) : List Int := (List.range c).map fun i => W.getD (a + i) 0
theorem rd_len (W : List Int) (a c : Nat) : (rd W a c).length = c := by simp [rd]
theorem rd_get {W : List Int} {a c i : Nat} (h : i < c) : (rd W a c)[i]? = some (W.getD (a + i) 0) := by
  simp [rd, h]
theorem rd_words {W : List Int} (h : Words W) (a c : Nat) : Words (rd W a c) := fun x hx => by
  obtain ⟨i, _, rfl⟩ := List.mem_map.1 hx
  exact word_in h _
/-- Where a run lies, or why it does not. -/
def Fl.first (n : Nat) (s : Fl) (k at_ c : Int) : Int × Int :=
  if k < 0 ∨ k ≥ s.V.length ∨ at_ < 0 ∨ c < 0 ∨ at_ > n ∨ c > n - at_ then (0, 3) else if s.D then (0, 10) else (((k.toNat * n + at_.toNat : Nat) : Int), 0)
/-- A run is read. -/
def Fl.dread (n : Nat) (s : Fl) (k at_ c : Int) : Int × List Int :=
  if (s.first n k at_ c).2 ≠ 0 then ((s.first n k at_ c).2, []) else (0, rd s.W (s.first n k at_ c).1.toNat c.toNat)
/-- Would a bit be set? -/
def viol (W w : List Int) (a : Nat) : Bool := (List.range w.length).any fun i => bAndn .u32 (w.getD i 0) (W.getD (a + i) 0) != 0
/-- Words are written in turn; what stands there is not written again. -/
def wrL : List Int → Nat → Fl → Int × Fl
  | [], _, s => (0, s)
  | x :: w, a, s => if s.W.getD a 0 = x then wrL w (a + 1) s else if (s.prog (a : Int) x).1 ≠ 0 then s.prog (a : Int) x else wrL w (a + 1) (s.prog (a : Int) x).2
/-- A run is written. -/
def Fl.dwrite (n : Nat) (s : Fl) (k at_ : Int) (w : List Int) : Int × Fl :=
  if (s.first n k at_ w.length).2 ≠ 0 then ((s.first n k at_ w.length).2, s) else if viol s.W w (s.first n k at_ w.length).1.toNat then (11, s) else wrL w (s.first n k at_ w.length).1.toNat s
/-- Are all words from a place on ones? -/
def Fl.blank (n : Nat) (s : Fl) (k at_ : Int) : Bool × Int :=
  if at_ < 0 ∨ at_ > n then (false, 3) else if (s.dread n k at_ (n - at_)).1 ≠ 0 then (false, (s.dread n k at_ (n - at_)).1) else ((s.dread n k at_ (n - at_)).2.all (· == 4294967295), 0)
/-- Erased, unless it is blank. -/
def Fl.clean (n : Nat) (s : Fl) (k : Int) : Int × Fl :=
  if (s.blank n k 0).2 ≠ 0 then ((s.blank n k 0).2, s) else if (s.blank n k 0).1 then ((s.blank n k 0).2, s) else s.erase n k
/-- Cleaned, and written. -/
def Fl.fresh (n : Nat) (s : Fl) (k : Int) (w : List Int) : Int × Fl :=
  if (s.first n k 0 w.length).2 ≠ 0 then ((s.first n k 0 w.length).2, s) else if (s.clean n k).1 ≠ 0 then s.clean n k else (s.clean n k).2.dwrite n k 0 w

theorem Lp_any {X : Type} (f : Int → Option (Int ⊕ (Unit ⊕ X))) (n : Nat) (p : Nat → Bool) (x : X) (h : ∀ i : Nat, i < n → f (i : Int) = some (if p i then .inr (.inr x) else .inl ((i + 1 : Nat) : Int))) (he : f (n : Int) = some (.inr (.inl ()))) :
    Lp f 0 = some (if (List.range n).any p then .inr x else .inl ()) := by
  suffices ∀ (m i : Nat), i + m = n → Lp f (i : Int) = some (if (List.range' i m).any p then .inr x else .inl ()) by
    have := this n 0 (by omega)
    rw [← List.range_eq_range'] at this
    exact this
  intro m
  induction m with
  | zero =>
    intro i hi
    have : i = n := by omega
    subst this
    exact (Lp_end he).trans (by simp)
  | succ m ih =>
    intro i hi
    have h1 := h i (by omega)
    cases hp : p i with
    | true =>
      rw [hp] at h1
      exact (Lp_end h1).trans (by simp [List.range'_succ, hp])
    | false =>
      rw [hp] at h1
      rw [Lp_next h1, ih (i + 1) (by omega), List.range'_succ, List.any_cons, hp, Bool.false_or]

/-- The words of a state, as the printed functions carry them. -/
abbrev S4 : Type := Int × (Bool × (Int × List Int))
def s4 (s : Fl) : S4 := (s.C, s.D, s.A, s.W)
theorem prog_at {n : Nat} {s : Fl} (a x : Int) {j : Nat} (hj : (j : Int) ≠ a) : (s.prog a x).2.W.getD j 0 = s.W.getD j 0 := by
  unfold Fl.prog
  repeat' split
  · rfl
  · rfl
  · rfl
  · simp only [List.getD_eq_getElem?_getD]; rw [List.getElem?_set_ne (by omega)]
  · simp only [List.getD_eq_getElem?_getD]; rw [List.getElem?_set_ne (by omega)]
theorem Lp_wr {n : Nat} (w : List Int) (a : Nat) (W0 V M : List Int) (hw : Words w) (f : Int × S4 → Option ((Int × S4) ⊕ (S4 ⊕ (Int × S4)))) (hf : ∀ (i : Nat) (x : Int) (s : Fl), w[i]? = some x → FlOK n s → s.V = V → s.M = M → s.W.length = W0.length → s.W.getD (a + i) 0 = W0.getD (a + i) 0 →
      f ((i : Int), s4 s) = some (if s.W.getD (a + i) 0 = x then .inl (((i + 1 : Nat) : Int), s4 s) else if (s.prog ((a + i : Nat) : Int) x).1 ≠ 0 then .inr (.inr ((s.prog ((a + i : Nat) : Int) x).1, s4 (s.prog ((a + i : Nat) : Int) x).2)) else .inl (((i + 1 : Nat) : Int), s4 (s.prog ((a + i : Nat) : Int) x).2)))
    (he : ∀ s, f ((w.length : Int), s4 s) = some (.inr (.inl (s4 s)))) : ∀ (m i : Nat) (s : Fl), i + m = w.length → FlOK n s → s.V = V → s.M = M → s.W.length = W0.length → (∀ j, i ≤ j → s.W.getD (a + j) 0 = W0.getD (a + j) 0) →
    Lp f ((i : Int), s4 s) = some (if (wrL (w.drop i) (a + i) s).1 = 0 then .inl (s4 (wrL (w.drop i) (a + i) s).2) else .inr ((wrL (w.drop i) (a + i) s).1, s4 (wrL (w.drop i) (a + i) s).2)) := by
  intro m
  induction m with
  | zero =>
    intro i s hi hs hV hM hl hj
    have : i = w.length := by omega
    subst this
    rw [Lp_end (he s), List.drop_length]
    simp [wrL]
  | succ m ih =>
    intro i s hi hs hV hM hl hj
    have hlt : i < w.length := by omega
    have hx : w[i]? = some w[i] := List.getElem?_eq_getElem hlt
    have h1 := hf i _ s hx hs hV hM hl (hj i (Nat.le_refl _))
    rw [List.drop_eq_getElem_cons hlt]
    by_cases hc : s.W.getD (a + i) 0 = w[i]
    · rw [if_pos hc] at h1
      rw [Lp_next h1, ih (i + 1) s (by omega) hs hV hM hl (fun j hj' => hj j (by omega))]
      simp only [wrL, if_pos hc, Nat.add_assoc]
    · rw [if_neg hc] at h1
      by_cases hd : (s.prog ((a + i : Nat) : Int) w[i]).1 ≠ 0
      · rw [if_pos hd] at h1
        rw [Lp_end h1]
        simp only [wrL, if_neg hc, if_pos hd]
        rw [if_neg hd]
      · rw [if_neg hd] at h1
        have hm := prog_m s ((a + i : Nat) : Int) w[i]
        rw [Lp_next h1, ih (i + 1) _ (by omega) (prog_ok hs _ _ (hw _ (List.getElem_mem hlt))) (by rw [hm.1, hV]) (by rw [hm.2.1, hM]) (by rw [hm.2.2, hl]) (fun j hj' => by
          rw [prog_at (n := n) _ _ (by omega)]
          exact hj j (by omega))]
        simp only [wrL, if_neg hc, if_neg hd, Nat.add_assoc]

section
variable {n : Nat} {g1 g2 g3 g4 g5 : Int} (hr : GeoR (n : Int) g1 g2 g3 g4 g5) (ok : GeoOK (n : Int) g1 g2 g3 g4 g5) {s : Fl} (hs : FlOK n s) (hv : (s.V.length : Int) = 2 + 2 * g1 + g2)
include hr ok hs hv
omit hr ok in
theorem first_at {k at_ c : Int} (h : (s.first n k at_ c).2 = 0) : s.D = false ∧ ∃ (j b d : Nat), k = j ∧ at_ = b ∧ c = d ∧ (s.first n k at_ c).1 = ((j * n + b : Nat) : Int) ∧ b + d ≤ n ∧ j * n + n ≤ s.W.length ∧ j < s.V.length := by
  unfold Fl.first at h ⊢
  by_cases h1 : k < 0 ∨ k ≥ s.V.length ∨ at_ < 0 ∨ c < 0 ∨ at_ > n ∨ c > n - at_
  · rw [if_pos h1] at h
    exact absurd h (by decide)
  · rw [if_neg h1] at h ⊢
    by_cases h2 : s.D = true
    · rw [if_pos h2] at h
      exact absurd h (by decide)
    · obtain ⟨j, rfl, hj, _, hjv⟩ := at_of hs (k := k) (by omega) (by omega)
      refine ⟨by simpa using h2, j, at_.toNat, c.toNat, rfl, by omega, by omega, ?_, by omega, hj, hjv⟩
      rw [if_neg h2, Int.toNat_natCast]
end

end Go.Proofs.Ytmlbioapefgioaa.Pure
