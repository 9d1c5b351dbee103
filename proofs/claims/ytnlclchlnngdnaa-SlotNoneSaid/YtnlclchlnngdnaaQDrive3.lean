/- Drives: what is done with one, act by act. -/
import Derived.Test.YtnlclchlnngdnaaQDrive2
namespace Go.Proofs.Ytnlclchlnngdnaa.Pure
open Go Go.Proofs.Ytnlclchlnngdnaa.Va
set_option linter.unusedVariables false
set_option linter.unusedSimpArgs false

/-- An act that neither arms nor gives power. -/
def Fl.dact (n : Nat) (s : Fl) (kind k at_ c : Int) (w : List Int) : (Bool × Int × List Int) × Fl :=
  if kind = 0 then ((false, (s.dread n k at_ c).1, (s.dread n k at_ c).2), s)
  else if kind = 1 ∨ kind = 2 then ((false, (s.dwrite n k at_ w).1, []), (s.dwrite n k at_ w).2)
  else if kind = 3 then (((s.blank n k at_).1, (s.blank n k at_).2, []), s)
  else if kind = 4 then ((false, (s.clean n k).1, []), (s.clean n k).2)
  else if kind = 5 then ((false, (s.fresh n k w).1, []), (s.fresh n k w).2)
  else ((false, 0, []), s)
/-! Masks that no fuse asks for. -/
def Fl.setM (s : Fl) (M : List Int) : Fl := { s with M := M }
section
variable {s : Fl} (M : List Int)
theorem prog_setM (h : s.A < 0) (a x : Int) : (s.setM M).prog a x = ((s.prog a x).1, (s.prog a x).2.setM M) ∧ (s.prog a x).2.A < 0 := by
  obtain ⟨C, D, A, W, V, M'⟩ := s
  have h : A < 0 := h
  have h0 : A ≠ 0 := by omega
  unfold Fl.setM Fl.prog burn
  simp only [h0, h, if_false, if_true]
  repeat' split
  all_goals exact ⟨rfl, h⟩
theorem erase_setM (n : Nat) (h : s.A < 0) (k : Int) : (s.setM M).erase n k = ((s.erase n k).1, (s.erase n k).2.setM M) ∧ (s.erase n k).2.A < 0 := by
  obtain ⟨C, D, A, W, V, M'⟩ := s
  have h : A < 0 := h
  have h0 : A ≠ 0 := by omega
  unfold Fl.setM Fl.erase burn
  simp only [h0, h, if_false, if_true]
  repeat' split
  all_goals exact ⟨rfl, h⟩
theorem wrL_setM : ∀ (w : List Int) (a : Nat) {s : Fl}, s.A < 0 → wrL w a (s.setM M) = ((wrL w a s).1, (wrL w a s).2.setM M) ∧ (wrL w a s).2.A < 0
  | [], a, s, h => ⟨rfl, h⟩
  | x :: w, a, s, h => by
    obtain ⟨e1, e2⟩ := prog_setM (s := s) M h (a : Int) x
    have hW : (s.setM M).W = s.W := rfl
    unfold wrL
    rw [hW, e1]
    split
    · exact wrL_setM w (a + 1) h
    split
    · exact ⟨rfl, e2⟩
    · exact wrL_setM w (a + 1) e2
theorem dwrite_setM (n : Nat) (h : s.A < 0) (k at_ : Int) (w : List Int) : (s.setM M).dwrite n k at_ w = ((s.dwrite n k at_ w).1, (s.dwrite n k at_ w).2.setM M) ∧ (s.dwrite n k at_ w).2.A < 0 := by
  have e1 : ∀ c, (s.setM M).first n k at_ c = s.first n k at_ c := fun _ => rfl
  have hW : (s.setM M).W = s.W := rfl
  unfold Fl.dwrite
  rw [e1, hW]
  split
  · exact ⟨rfl, h⟩
  split
  · exact ⟨rfl, h⟩
  · exact wrL_setM M w _ h
theorem clean_setM (n : Nat) (h : s.A < 0) (k : Int) : (s.setM M).clean n k = ((s.clean n k).1, (s.clean n k).2.setM M) ∧ (s.clean n k).2.A < 0 := by
  have e1 : (s.setM M).blank n k 0 = s.blank n k 0 := rfl
  unfold Fl.clean
  rw [e1]
  split
  · exact ⟨rfl, h⟩
  split
  · exact ⟨rfl, h⟩
  · exact erase_setM M n h k
theorem fresh_setM (n : Nat) (h : s.A < 0) (k : Int) (w : List Int) : (s.setM M).fresh n k w = ((s.fresh n k w).1, (s.fresh n k w).2.setM M) ∧ (s.fresh n k w).2.A < 0 := by
  have e1 : ∀ c, (s.setM M).first n k 0 c = s.first n k 0 c := fun _ => rfl
  obtain ⟨c1, c2⟩ := clean_setM (s := s) M n h k
  unfold Fl.fresh
  rw [e1, c1]
  split
  · exact ⟨rfl, h⟩
  split
  · exact ⟨rfl, c2⟩
  · exact dwrite_setM M n c2 k 0 w
end

section
variable {n : Nat} {g1 g2 g3 g4 g5 : Int} (hr : GeoR (n : Int) g1 g2 g3 g4 g5) (ok : GeoOK (n : Int) g1 g2 g3 g4 g5) {s : Fl} (hs : FlOK n s) (hv : (s.V.length : Int) = 2 + 2 * g1 + g2)
include hr ok hs hv
end
/-! Too many acts, or words. -/
end Go.Proofs.Ytnlclchlnngdnaa.Pure
