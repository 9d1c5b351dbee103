/- Drives: what is done with one, act by act. -/
import Derived.Test.YtmlbioapefgioaaQDrive2
namespace Go.Proofs.Ytmlbioapefgioaa.Pure
open Go Go.Proofs.Ytmlbioapefgioaa.Va
set_option linter.unusedVariables false
set_option linter.unusedSimpArgs false

/-- An act that neither arms nor gives power. -/
def Fl.dact (n : Nat) (s : Fl) (kind k at_ c : Int) (w : List Int) : (Bool × Int × List Int) × Fl :=
  if kind = 0 then ((false, (s.dread n k at_ c).1, (s.dread n k at_ c).2), s)
  else if kind = 1 ∨ kind = 2 then ((false, (s.dwrite n k at_ w).1, []), (s.dwrite n k at_ w).2)
  else if kind = 3 then (((s.blank n k at_).1, (s.blank n k at_).2, []), s)
  else if kind = 4 then ((false, (s.clean n k).1, []), (s.clean n k).2)
  else if kind = 5 then ((false, (s.fresh n k w).1, []), (s.fresh n k w).2)
  else ((false, 0, []), s)
theorem dact_ok {n : Nat} {s : Fl} (hs : FlOK n s) (kind k at_ c : Int) {w : List Int} (hw : Words w) : FlOK n (s.dact n kind k at_ c w).2 ∧ (s.dact n kind k at_ c w).2.V.length = s.V.length ∧ (s.dact n kind k at_ c w).2.M = s.M := by
  unfold Fl.dact
  split
  · exact ⟨hs, rfl, rfl⟩
  split
  · have := dwrite_ok hs k at_ hw
    exact ⟨this.1, by rw [this.2.1], this.2.2⟩
  split
  · exact ⟨hs, rfl, rfl⟩
  split
  · exact clean_ok hs k
  split
  · exact fresh_ok hs k hw
  · exact ⟨hs, rfl, rfl⟩

/-! Masks that no fuse asks for. -/
def Fl.setM (s : Fl) (M : List Int) : Fl := { s with M := M }
section
variable {s : Fl} (M : List Int)
theorem prog_setM (h : s.A < 0) (a x : Int) : (s.setM M).prog a x = ((s.prog a x).1, (s.prog a x).2.setM M) ∧ (s.prog a x).2.A < 0 := by
  obtain ⟨C, D, A, W, V, M'⟩ := s
  have h : A < 0 := h
  have h0 : A ≠ 0 := by omega
  unfold Fl.setM Fl.prog burn
  simp only [h0, h, if_false, if_true]
  repeat' split
  all_goals exact ⟨rfl, h⟩
theorem erase_setM (n : Nat) (h : s.A < 0) (k : Int) : (s.setM M).erase n k = ((s.erase n k).1, (s.erase n k).2.setM M) ∧ (s.erase n k).2.A < 0 := by
  obtain ⟨C, D, A, W, V, M'⟩ := s
  have h : A < 0 := h
  have h0 : A ≠ 0 := by omega
  unfold Fl.setM Fl.erase burn
  simp only [h0, h, if_false, if_true]
  repeat' split
  all_goals exact ⟨rfl, h⟩
theorem wrL_setM : ∀ (w : List Int) (a : Nat) {s : Fl}, s.A < 0 → wrL w a (s.setM M) = ((wrL w a s).1, (wrL w a s).2.setM M) ∧ (wrL w a s).2.A < 0
  | [], a, s, h => ⟨rfl, h⟩
  | x :: w, a, s, h => by
    obtain ⟨e1, e2⟩ := prog_setM (s := s) M h (a : Int) x
    have hW : (s.setM M).W = s.W := rfl
    unfold wrL
    rw [hW, e1]
    split
    · exact wrL_setM w (a + 1) h
    split
    · exact ⟨rfl, e2⟩
    · exact wrL_setM w (a + 1) e2
theorem dwrite_setM (n : Nat) (h : s.A < 0) (k at_ : Int) (w : List Int) : (s.setM M).dwrite n k at_ w = ((s.dwrite n k at_ w).1, (s.dwrite n k at_ w).2.setM M) ∧ (s.dwrite n k at_ w).2.A < 0 := by
  have e1 : ∀ c, (s.setM M).first n k at_ c = s.first n k at_ c := fun _ => rfl
  have hW : (s.setM M).W = s.W := rfl
  unfold Fl.dwrite
  rw [e1, hW]
  split
  · exact ⟨rfl, h⟩
  split
  · exact ⟨rfl, h⟩
  · exact wrL_setM M w _ h
theorem clean_setM (n : Nat) (h : s.A < 0) (k : Int) : (s.setM M).clean n k = ((s.clean n k).1, (s.clean n k).2.setM M) ∧ (s.clean n k).2.A < 0 := by
  have e1 : (s.setM M).blank n k 0 = s.blank n k 0 := rfl
  unfold Fl.clean
  rw [e1]
  split
  · exact ⟨rfl, h⟩
  split
  · exact ⟨rfl, h⟩
  · exact erase_setM M n h k
theorem fresh_setM (n : Nat) (h : s.A < 0) (k : Int) (w : List Int) : (s.setM M).fresh n k w = ((s.fresh n k w).1, (s.fresh n k w).2.setM M) ∧ (s.fresh n k w).2.A < 0 := by
  have e1 : ∀ c, (s.setM M).first n k 0 c = s.first n k 0 c := fun _ => rfl
  obtain ⟨c1, c2⟩ := clean_setM (s := s) M n h k
  unfold Fl.fresh
  rw [e1, c1]
  split
  · exact ⟨rfl, h⟩
  split
  · exact ⟨rfl, c2⟩
  · exact dwrite_setM M n c2 k 0 w
theorem dact_setM (n : Nat) (h : s.A < 0) (kind k at_ c : Int) (w : List Int) : (s.setM M).dact n kind k at_ c w = ((s.dact n kind k at_ c w).1, (s.dact n kind k at_ c w).2.setM M) ∧ (s.dact n kind k at_ c w).2.A < 0 := by
  have e1 : (s.setM M).dread n k at_ c = s.dread n k at_ c := rfl
  have e2 : (s.setM M).blank n k at_ = s.blank n k at_ := rfl
  obtain ⟨c1, c2⟩ := clean_setM (s := s) M n h k
  obtain ⟨d1, d2⟩ := dwrite_setM (s := s) M n h k at_ w
  obtain ⟨f1, f2⟩ := fresh_setM (s := s) M n h k w
  unfold Fl.dact
  rw [e1, e2, c1, d1, f1]
  repeat' split
  · exact ⟨rfl, h⟩
  · exact ⟨rfl, d2⟩
  · exact ⟨rfl, h⟩
  · exact ⟨rfl, c2⟩
  · exact ⟨rfl, f2⟩
  · exact ⟨rfl, h⟩
end

section
variable {n : Nat} {g1 g2 g3 g4 g5 : Int} (hr : GeoR (n : Int) g1 g2 g3 g4 g5) (ok : GeoOK (n : Int) g1 g2 g3 g4 g5) {s : Fl} (hs : FlOK n s) (hv : (s.V.length : Int) = 2 + 2 * g1 + g2)
include hr ok hs hv
end
/-! Too many acts, or words. -/
theorem ref08_Small_eq {g0 g1 g2 g3 g4 g5 : Int} (hr : GeoR g0 g1 g2 g3 g4 g5) : ∃ b, ref08_Small.c g0 g1 g2 g3 g4 g5 = some b ∧ (b = true → GeoOK g0 g1 g2 g3 g4 g5) := by
  simp only [ref08_Small.c, ref08_Small.t]
  rw [opt_some (ref08_Right_eq hr)]
  by_cases ok : GeoOK g0 g1 g2 g3 g4 g5
  · rw [decide_eq_true ok, bb_pos rfl]
    by_cases h : g0 ≤ 128
    · rw [bb_pos (decide_eq_true h), opt_some (ref08_Map_eq hr)]
      exact ⟨_, by rw [Tw.run_ret], fun _ => ok⟩
    · exact ⟨false, by rw [bb_neg (decide_eq_false h), Tw.run_ret], fun h => nomatch h⟩
  · exact ⟨false, by rw [decide_eq_false ok, bb_neg rfl, Tw.run_ret], fun h => nomatch h⟩

end Go.Proofs.Ytmlbioapefgioaa.Pure
