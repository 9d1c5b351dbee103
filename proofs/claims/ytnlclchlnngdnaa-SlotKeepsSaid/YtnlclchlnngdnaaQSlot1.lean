/- Slots: with power, and no fuse; acts; what must come at any rate. -/
import Derived.Test.YtnlclchlnngdnaaQSlot
namespace Go.Proofs.Ytnlclchlnngdnaa.Pure
open Go Go.Proofs.Ytnlclchlnngdnaa.Va
set_option linter.unusedVariables false
set_option linter.unusedSimpArgs false

/-! With power, and no fuse, these stay. -/
def Lit (s : Fl) : Prop := s.D = false ∧ s.A < 0
theorem prog_Lit {s : Fl} (h : Lit s) (a x : Int) : Lit (s.prog a x).2 := by
  obtain ⟨hD, hA⟩ := h
  unfold Fl.prog
  rw [if_neg (by rw [hD]; simp)]
  split
  · exact ⟨hD, hA⟩
  split
  · exact ⟨hD, hA⟩
  rw [if_neg (by omega)]
  exact ⟨hD, by show burn s.A < 0; unfold burn; rw [if_pos hA]; exact hA⟩
theorem erase_Lit {n : Nat} {s : Fl} (h : Lit s) (k : Int) : Lit (s.erase n k).2 := by
  obtain ⟨hD, hA⟩ := h
  unfold Fl.erase
  rw [if_neg (by rw [hD]; simp)]
  split
  · exact ⟨hD, hA⟩
  rw [if_neg (by omega)]
  exact ⟨hD, by show burn s.A < 0; unfold burn; rw [if_pos hA]; exact hA⟩
theorem wrL_Lit : ∀ (w : List Int) (a : Nat) {s : Fl}, Lit s → Lit (wrL w a s).2
  | [], _, _, h => h
  | x :: w, a, s, h => by
    unfold wrL
    split
    · exact wrL_Lit w _ h
    split
    · exact prog_Lit h _ _
    · exact wrL_Lit w _ (prog_Lit h _ _)
theorem dwrite_Lit {n : Nat} {s : Fl} (h : Lit s) (k at_ : Int) (w : List Int) : Lit (s.dwrite n k at_ w).2 := by
  unfold Fl.dwrite
  split
  · exact h
  split
  · exact h
  · exact wrL_Lit w _ h
theorem clean_Lit {n : Nat} {s : Fl} (h : Lit s) (k : Int) : Lit (s.clean n k).2 := by
  unfold Fl.clean
  split
  · exact h
  split
  · exact h
  · exact erase_Lit h k
theorem fresh_Lit {n : Nat} {s : Fl} (h : Lit s) (k : Int) (w : List Int) : Lit (s.fresh n k w).2 := by
  unfold Fl.fresh
  split
  · exact h
  split
  · exact clean_Lit h k
  · exact dwrite_Lit (clean_Lit h k) k 0 w
/-- A sector that is there is made fresh. -/
theorem fresh_yes {n : Nat} {s : Fl} (hs : FlOK n s) (h : Lit s) {j : Nat} (hj : j < s.V.length) {w : List Int} (hw : Words w) (hl : w.length ≤ n) : (s.fresh n (j : Int) w).1 = 0 := by
  obtain ⟨h1, h2⟩ := fresh_lit hs h.1 h.2 hw (j : Int)
  by_cases h0 : (s.fresh n (j : Int) w).1 = 0
  · exact h0
  · exfalso
    have h3 := (h1 h0).2
    have hf := first_ok (n := n) h.1 (j := j) (b := 0) (c := w.length) hj (by omega)
    have hf : s.first n (j : Int) 0 (w.length : Int) = (((j * n + 0 : Nat) : Int), 0) := hf
    have hb : j * n + n ≤ s.W.length := by
      rw [hs.ws]
      have := Nat.mul_le_mul_right n (show j + 1 ≤ s.V.length by omega)
      rw [Nat.add_mul, Nat.one_mul] at this
      exact this
    obtain ⟨c1, c2, c3, c4, c5⟩ := clean_lit (n := n) h.1 h.2 hj hb
    have cok := (clean_ok hs (j : Int)).1
    have cV := (clean_ok hs (j : Int)).2.1
    have e : s.fresh n (j : Int) w = (s.clean n (j : Int)).2.dwrite n (j : Int) 0 w := by
      unfold Fl.fresh
      rw [hf, if_neg (fun h => h rfl), c1, if_neg (by decide)]
    rw [e] at h3
    generalize (s.clean n (j : Int)).2 = s' at *
    have hf2 := first_ok (n := n) c2 (j := j) (b := 0) (c := w.length) (by omega) (by omega)
    have hf2 : s'.first n (j : Int) 0 (w.length : Int) = (((j * n + 0 : Nat) : Int), 0) := hf2
    have hvf : ∀ i, i < w.length → bAndn .u32 (w.getD i 0) (s'.W.getD (j * n + 0 + i) 0) = 0 := fun i hi => by
      rw [c5, if_pos (by omega)]
      exact andn_ones (hw _ (List.mem_of_getElem? (getD_some 0 hi)))
    obtain ⟨s'', f1, _⟩ := wrL_lit w (j * n + 0) s' c2 (by rw [c3]; exact h.2) (by omega) hvf
    have e2 : s'.dwrite n (j : Int) 0 w = wrL w (j * n + 0) s' := by
      unfold Fl.dwrite
      simp only [hf2]
      rw [if_neg (by decide), Int.toNat_natCast, viol_of hvf, if_neg (by decide)]
    rw [e2, f1] at h3
    exact absurd (show (0 : Int) = 3 from h3) (by decide)
/-- A word that may be written is written. -/
theorem dwrite_yes {n : Nat} {s : Fl} (h : Lit s) {j b : Nat} (hj : j < s.V.length) {w : List Int} (hl : b + w.length ≤ n) (hb : j * n + n ≤ s.W.length)
    (hv : ∀ i, i < w.length → bAndn .u32 (w.getD i 0) (s.W.getD (j * n + b + i) 0) = 0) : (s.dwrite n (j : Int) (b : Int) w).1 = 0 := by
  have hf := first_ok (n := n) h.1 (j := j) (b := b) (c := w.length) hj hl
  obtain ⟨s'', f1, _⟩ := wrL_lit w (j * n + b) s h.1 h.2 (by omega) hv
  unfold Fl.dwrite
  simp only [hf]
  rw [if_neg (by decide), Int.toNat_natCast, viol_of hv, if_neg (by decide), f1]
theorem dread_yes {n : Nat} {s : Fl} (hD : s.D = false) {j b c : Nat} (hj : j < s.V.length) (hl : b + c ≤ n) : s.dread n (j : Int) (b : Int) (c : Int) = (0, rd s.W (j * n + b) c) := by
  have hf := first_ok (n := n) hD (j := j) (b := b) (c := c) hj hl
  unfold Fl.dread
  rw [hf, if_neg (fun h => h rfl), Int.toNat_natCast, Int.toNat_natCast]

/-! The code's flash and the document's: alike, but for masks that no fuse will ask for. -/
def Nr (s t : Fl) : Prop := t = s ∨ (s.A < 0 ∧ ∃ M, t = s.setM M)
theorem Nr.same {s t : Fl} (h : Nr s t) : t.C = s.C ∧ t.D = s.D ∧ t.A = s.A ∧ t.W = s.W ∧ t.V = s.V := by
  rcases h with rfl | ⟨h, M, rfl⟩
  · exact ⟨rfl, rfl, rfl, rfl, rfl⟩
  · exact ⟨rfl, rfl, rfl, rfl, rfl⟩
section
variable {s : Fl} (M : List Int)
theorem sbegin_setM (n : Nat) (g1 : Int) (h : s.A < 0) (slot : Int) : (s.setM M).sbegin n g1 slot = ((s.sbegin n g1 slot).1, (s.sbegin n g1 slot).2.setM M) ∧ (s.sbegin n g1 slot).2.A < 0 := by
  unfold Fl.sbegin
  split
  · exact clean_setM M n h _
  · exact ⟨rfl, h⟩
theorem schunk_setM (n : Nat) (g1 : Int) (h : s.A < 0) (slot t i : Int) (b : List Int) : (s.setM M).schunk n g1 slot t i b = ((s.schunk n g1 slot t i b).1, (s.schunk n g1 slot t i b).2.setM M) ∧ (s.schunk n g1 slot t i b).2.A < 0 := by
  obtain ⟨e1, e2⟩ := fresh_setM (s := s) M n h (chnF g1 slot i) (packW b (needN b.length))
  unfold Fl.schunk
  rw [e1]
  split
  · exact ⟨rfl, h⟩
  split
  · exact ⟨rfl, h⟩
  split
  · exact ⟨rfl, e2⟩
  · exact dwrite_setM M n e2 _ _ _
end
theorem Nr.sbegin {n : Nat} {g1 : Int} {s t : Fl} (h : Nr s t) (slot : Int) : (t.sbegin n g1 slot).1 = (s.sbegin n g1 slot).1 ∧ Nr (s.sbegin n g1 slot).2 (t.sbegin n g1 slot).2 := by
  rcases h with rfl | ⟨h, M, rfl⟩
  · exact ⟨rfl, Or.inl rfl⟩
  · obtain ⟨e1, e2⟩ := sbegin_setM (s := s) M n g1 h slot
    rw [e1]
    exact ⟨rfl, Or.inr ⟨e2, M, rfl⟩⟩
theorem Nr.schunk {n : Nat} {g1 : Int} {s t : Fl} (h : Nr s t) (slot tt i : Int) (b : List Int) : (t.schunk n g1 slot tt i b).1 = (s.schunk n g1 slot tt i b).1 ∧ Nr (s.schunk n g1 slot tt i b).2 (t.schunk n g1 slot tt i b).2 := by
  rcases h with rfl | ⟨h, M, rfl⟩
  · exact ⟨rfl, Or.inl rfl⟩
  · obtain ⟨e1, e2⟩ := schunk_setM (s := s) M n g1 h slot tt i b
    rw [e1]
    exact ⟨rfl, Or.inr ⟨e2, M, rfl⟩⟩
theorem sbl_setM (s : Fl) (M : List Int) (n : Nat) (g1 slot t : Int) : ∀ (m i : Nat) (acc : List Int), (s.setM M).sbl n g1 slot t m i acc = s.sbl n g1 slot t m i acc
  | 0, _, _ => rfl
  | m + 1, i, acc => by
    unfold Fl.sbl
    rw [show (s.setM M).dread n (chnF g1 slot i) 0 (need (prtF n t i)) = s.dread n (chnF g1 slot i) 0 (need (prtF n t i)) from rfl]
    split
    · rfl
    split
    · rfl
    · exact sbl_setM s M n g1 slot t m (i + 1) _
theorem Nr.reads {n : Nat} {g1 : Int} {s t : Fl} (h : Nr s t) (slot tt : Int) : t.sdone n g1 slot tt = s.sdone n g1 slot tt ∧ t.sbytes n g1 slot tt = s.sbytes n g1 slot tt := by
  rcases h with rfl | ⟨h, M, rfl⟩
  · exact ⟨rfl, rfl⟩
  · refine ⟨rfl, ?_⟩
    unfold Fl.sbytes
    rw [sbl_setM]
theorem sbegin_ok {n : Nat} {g1 : Int} {s : Fl} (hs : FlOK n s) (slot : Int) : FlOK n (s.sbegin n g1 slot).2 ∧ (s.sbegin n g1 slot).2.V.length = s.V.length ∧ (s.sbegin n g1 slot).2.M = s.M := by
  unfold Fl.sbegin
  split
  · exact clean_ok hs _
  · exact ⟨hs, rfl, rfl⟩
theorem schunk_ok {n : Nat} {g1 : Int} {s : Fl} (hs : FlOK n s) (slot t i : Int) {b : List Int} (hb : Bytes b) : FlOK n (s.schunk n g1 slot t i b).2 ∧ (s.schunk n g1 slot t i b).2.V.length = s.V.length ∧ (s.schunk n g1 slot t i b).2.M = s.M := by
  have hw := packW_words hb (needN b.length)
  have hw0 : Words [0] := words_cons (inR_u32 (by decide)) words_nil
  have hf := fresh_ok hs (chnF g1 slot i) hw
  unfold Fl.schunk
  split
  · exact ⟨hs, rfl, rfl⟩
  split
  · exact ⟨hs, rfl, rfl⟩
  split
  · exact hf
  · have := dwrite_ok hf.1 (ledF g1 slot) i hw0
    exact ⟨this.1, by rw [this.2.1, hf.2.1], by rw [this.2.2, hf.2.2]⟩
theorem sbegin_Lit {n : Nat} {g1 : Int} {s : Fl} (h : Lit s) (slot : Int) : Lit (s.sbegin n g1 slot).2 := by
  unfold Fl.sbegin
  split
  · exact clean_Lit h _
  · exact h
theorem schunk_Lit {n : Nat} {g1 : Int} {s : Fl} (h : Lit s) (slot t i : Int) (b : List Int) : Lit (s.schunk n g1 slot t i b).2 := by
  have hf := fresh_Lit (n := n) h (chnF g1 slot i) (packW b (needN b.length))
  unfold Fl.schunk
  split
  · exact h
  split
  · exact h
  split
  · exact hf
  · exact dwrite_Lit hf _ _ _

end Go.Proofs.Ytnlclchlnngdnaa.Pure
