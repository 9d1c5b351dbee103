/- Slots: with power, and no fuse; acts; what must come at any rate. -/
import Derived.Test.YtnlclchlnngdnaaQSlot
namespace Go.Proofs.Ytnlclchlnngdnaa.Pure
open Go Go.Proofs.Ytnlclchlnngdnaa.Va
set_option linter.unusedVariables false
set_option linter.unusedSimpArgs false

/-! With power, and no fuse, these stay. -/
def Lit (s : Fl) : Prop := s.D = false ∧ s.A < 0
/-! The code's flash and the document's: alike, but for masks that no fuse will ask for. -/
def Nr (s t : Fl) : Prop := t = s ∨ (s.A < 0 ∧ ∃ M, t = s.setM M)
theorem Nr.same {s t : Fl} (h : Nr s t) : t.C = s.C ∧ t.D = s.D ∧ t.A = s.A ∧ t.W = s.W ∧ t.V = s.V := by
  rcases h with rfl | ⟨h, M, rfl⟩
  · exact ⟨rfl, rfl, rfl, rfl, rfl⟩
  · exact ⟨rfl, rfl, rfl, rfl, rfl⟩
section
variable {s : Fl} (M : List Int)
theorem sbegin_setM (n : Nat) (g1 : Int) (h : s.A < 0) (slot : Int) : (s.setM M).sbegin n g1 slot = ((s.sbegin n g1 slot).1, (s.sbegin n g1 slot).2.setM M) ∧ (s.sbegin n g1 slot).2.A < 0 := by
  unfold Fl.sbegin
  split
  · exact clean_setM M n h _
  · exact ⟨rfl, h⟩
theorem schunk_setM (n : Nat) (g1 : Int) (h : s.A < 0) (slot t i : Int) (b : List Int) : (s.setM M).schunk n g1 slot t i b = ((s.schunk n g1 slot t i b).1, (s.schunk n g1 slot t i b).2.setM M) ∧ (s.schunk n g1 slot t i b).2.A < 0 := by
  obtain ⟨e1, e2⟩ := fresh_setM (s := s) M n h (chnF g1 slot i) (packW b (needN b.length))
  unfold Fl.schunk
  rw [e1]
  split
  · exact ⟨rfl, h⟩
  split
  · exact ⟨rfl, h⟩
  split
  · exact ⟨rfl, e2⟩
  · exact dwrite_setM M n e2 _ _ _
end
theorem Nr.sbegin {n : Nat} {g1 : Int} {s t : Fl} (h : Nr s t) (slot : Int) : (t.sbegin n g1 slot).1 = (s.sbegin n g1 slot).1 ∧ Nr (s.sbegin n g1 slot).2 (t.sbegin n g1 slot).2 := by
  rcases h with rfl | ⟨h, M, rfl⟩
  · exact ⟨rfl, Or.inl rfl⟩
  · obtain ⟨e1, e2⟩ := sbegin_setM (s := s) M n g1 h slot
    rw [e1]
    exact ⟨rfl, Or.inr ⟨e2, M, rfl⟩⟩
theorem Nr.schunk {n : Nat} {g1 : Int} {s t : Fl} (h : Nr s t) (slot tt i : Int) (b : List Int) : (t.schunk n g1 slot tt i b).1 = (s.schunk n g1 slot tt i b).1 ∧ Nr (s.schunk n g1 slot tt i b).2 (t.schunk n g1 slot tt i b).2 := by
  rcases h with rfl | ⟨h, M, rfl⟩
  · exact ⟨rfl, Or.inl rfl⟩
  · obtain ⟨e1, e2⟩ := schunk_setM (s := s) M n g1 h slot tt i b
    rw [e1]
    exact ⟨rfl, Or.inr ⟨e2, M, rfl⟩⟩
theorem sbl_setM (s : Fl) (M : List Int) (n : Nat) (g1 slot t : Int) : ∀ (m i : Nat) (acc : List Int), (s.setM M).sbl n g1 slot t m i acc = s.sbl n g1 slot t m i acc
  | 0, _, _ => rfl
  | m + 1, i, acc => by
    unfold Fl.sbl
    rw [show (s.setM M).dread n (chnF g1 slot i) 0 (need (prtF n t i)) = s.dread n (chnF g1 slot i) 0 (need (prtF n t i)) from rfl]
    split
    · rfl
    split
    · rfl
    · exact sbl_setM s M n g1 slot t m (i + 1) _
theorem Nr.reads {n : Nat} {g1 : Int} {s t : Fl} (h : Nr s t) (slot tt : Int) : t.sdone n g1 slot tt = s.sdone n g1 slot tt ∧ t.sbytes n g1 slot tt = s.sbytes n g1 slot tt := by
  rcases h with rfl | ⟨h, M, rfl⟩
  · exact ⟨rfl, rfl⟩
  · refine ⟨rfl, ?_⟩
    unfold Fl.sbytes
    rw [sbl_setM]
theorem sbegin_ok {n : Nat} {g1 : Int} {s : Fl} (hs : FlOK n s) (slot : Int) : FlOK n (s.sbegin n g1 slot).2 ∧ (s.sbegin n g1 slot).2.V.length = s.V.length ∧ (s.sbegin n g1 slot).2.M = s.M := by
  unfold Fl.sbegin
  split
  · exact clean_ok hs _
  · exact ⟨hs, rfl, rfl⟩
theorem schunk_ok {n : Nat} {g1 : Int} {s : Fl} (hs : FlOK n s) (slot t i : Int) {b : List Int} (hb : Bytes b) : FlOK n (s.schunk n g1 slot t i b).2 ∧ (s.schunk n g1 slot t i b).2.V.length = s.V.length ∧ (s.schunk n g1 slot t i b).2.M = s.M := by
  have hw := packW_words hb (needN b.length)
  have hw0 : Words [0] := words_cons (inR_u32 (by decide)) words_nil
  have hf := fresh_ok hs (chnF g1 slot i) hw
  unfold Fl.schunk
  split
  · exact ⟨hs, rfl, rfl⟩
  split
  · exact ⟨hs, rfl, rfl⟩
  split
  · exact hf
  · have := dwrite_ok hf.1 (ledF g1 slot) i hw0
    exact ⟨this.1, by rw [this.2.1, hf.2.1], by rw [this.2.2, hf.2.2]⟩
end Go.Proofs.Ytnlclchlnngdnaa.Pure
