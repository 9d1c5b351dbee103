/- Drives: writes, blanks, cleans, fresh runs, of the code and of the document. -/
import Derived.Test.YtmlbioapefgioaaQDrive
namespace Go.Proofs.Ytmlbioapefgioaa.Pure
open Go Go.Proofs.Ytmlbioapefgioaa.Va
set_option linter.unusedVariables false
set_option linter.unusedSimpArgs false

section
variable {n : Nat} {g1 g2 g3 g4 g5 : Int} (hr : GeoR (n : Int) g1 g2 g3 g4 g5) (ok : GeoOK (n : Int) g1 g2 g3 g4 g5) {s : Fl} (hs : FlOK n s) (hv : (s.V.length : Int) = 2 + 2 * g1 + g2)
include hr ok hs hv
end

/-- The words of a state and its wear, as the printed functions carry them. -/
abbrev S5 : Type := Int × (Bool × (Int × (List Int × List Int)))
def s5 (s : Fl) : S5 := (s.C, s.D, s.A, s.W, s.V)
theorem dread_len {n : Nat} {s : Fl} {k at_ c : Int} (hs : FlOK n s) : (s.dread n k at_ c).2.length ≤ 1024 := by
  unfold Fl.dread
  split
  · simp
  · rename_i h
    have h' : (s.first n k at_ c).2 = 0 := by simpa using h
    obtain ⟨hd, j, b, d, rfl, rfl, rfl, he, hbd, hj, hjv⟩ := first_at hs (g1 := 0) (g2 := (s.V.length : Int) - 2) (by omega) h'
    have := hs.n2
    rw [rd_len]
    omega

section
variable {n : Nat} {g1 g2 g3 g4 g5 : Int} (hr : GeoR (n : Int) g1 g2 g3 g4 g5) (ok : GeoOK (n : Int) g1 g2 g3 g4 g5) {s : Fl} (hs : FlOK n s) (hv : (s.V.length : Int) = 2 + 2 * g1 + g2)
include hr ok hs hv
omit hr ok hs hv in
theorem first_bad (k at_ : Int) (c : Int) (h : at_ < 0 ∨ at_ > n) : s.first n k at_ c = (0, 3) := by
  unfold Fl.first
  rw [if_pos (by omega)]
omit hr ok hv in
theorem clean_ok (k : Int) : FlOK n (s.clean n k).2 ∧ (s.clean n k).2.V.length = s.V.length ∧ (s.clean n k).2.M = s.M := by
  unfold Fl.clean
  split
  · exact ⟨hs, rfl, rfl⟩
  split
  · exact ⟨hs, rfl, rfl⟩
  · exact ⟨erase_ok hs k, (erase_m n s k).2, (erase_m n s k).1⟩
omit hr ok hs hv in
theorem wrL_ok : ∀ {w : List Int} (hw : Words w) (a : Nat) {s : Fl}, FlOK n s → FlOK n (wrL w a s).2 ∧ (wrL w a s).2.V = s.V ∧ (wrL w a s).2.M = s.M ∧ (wrL w a s).2.W.length = s.W.length
  | [], _, a, s, hs => ⟨hs, rfl, rfl, rfl⟩
  | x :: w, hw, a, s, hs => by
    have hx := hw x (List.mem_cons_self ..)
    have hw' : Words w := fun y hy => hw y (List.mem_cons_of_mem _ hy)
    have hm := prog_m s (a : Int) x
    have hp := prog_ok hs (a : Int) x hx
    unfold wrL
    split
    · exact wrL_ok hw' (a + 1) hs
    split
    · exact ⟨hp, hm⟩
    · have := wrL_ok hw' (a + 1) hp
      exact ⟨this.1, by rw [this.2.1, hm.1], by rw [this.2.2.1, hm.2.1], by rw [this.2.2.2, hm.2.2]⟩
omit hr ok hv in
theorem dwrite_ok (k at_ : Int) {w : List Int} (hw : Words w) : FlOK n (s.dwrite n k at_ w).2 ∧ (s.dwrite n k at_ w).2.V = s.V ∧ (s.dwrite n k at_ w).2.M = s.M := by
  unfold Fl.dwrite
  split
  · exact ⟨hs, rfl, rfl⟩
  split
  · exact ⟨hs, rfl, rfl⟩
  · have := wrL_ok hw (s.first n k at_ w.length).1.toNat hs
    exact ⟨this.1, this.2.1, this.2.2.1⟩
omit hr ok hv in
theorem fresh_ok (k : Int) {w : List Int} (hw : Words w) : FlOK n (s.fresh n k w).2 ∧ (s.fresh n k w).2.V.length = s.V.length ∧ (s.fresh n k w).2.M = s.M := by
  unfold Fl.fresh
  split
  · exact ⟨hs, rfl, rfl⟩
  have hc := clean_ok hs k
  split
  · exact hc
  · have := dwrite_ok hc.1 k 0 hw
    exact ⟨this.1, by rw [this.2.1, hc.2.1], by rw [this.2.2, hc.2.2]⟩
end

end Go.Proofs.Ytmlbioapefgioaa.Pure
