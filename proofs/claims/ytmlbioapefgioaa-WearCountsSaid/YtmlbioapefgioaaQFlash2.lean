/- Flash: what is done with it, act by act; the document's flash goes beside it. -/
import Derived.Test.YtmlbioapefgioaaQFlash1
namespace Go.Proofs.Ytmlbioapefgioaa.Pure
open Go Go.Proofs.Ytmlbioapefgioaa.Va
set_option linter.unusedVariables false
set_option linter.unusedSimpArgs false

/-- An act is in order: its words are words, and its masks are few. -/
def ActOK (x : Act7) : Prop := InR .i64 x.kind ∧ InR .i64 x.a ∧ InR .u32 x.x ∧ x.masks.length ≤ 100 ∧ Words x.masks

/-- Masks that are written anew: the fuse. -/
def Fl.arm (s : Fl) (a : Int) (M : List Int) : Fl := { s with A := imax a (-1), M := M }
/-- An act that neither arms nor gives power. -/
def Fl.act (n : Nat) (s : Fl) (kind a x : Int) : (Int × Int) × Fl :=
  if kind = 2 then ((0, (s.erase n a).1), (s.erase n a).2)
  else if kind = 3 then (s.read a, s)
  else if kind = 0 ∨ kind = 1 then ((0, (s.prog a x).1), (s.prog a x).2)
  else ((0, 0), s)

theorem prog_m (s : Fl) (a x : Int) : (s.prog a x).2.V = s.V ∧ (s.prog a x).2.M = s.M ∧ (s.prog a x).2.W.length = s.W.length := by
  unfold Fl.prog
  repeat' split
  all_goals simp
theorem burn_in {A : Int} (h : InR .i64 A) : InR .i64 (burn A) := by
  have := h.i64
  unfold burn
  split
  · exact h
  · exact inR_i64 (by omega)
theorem prog_ok {n : Nat} {s : Fl} (h : FlOK n s) (a x : Int) (hx : InR .u32 x) : FlOK n (s.prog a x).2 := by
  unfold Fl.prog
  split
  · exact h
  split
  · exact h
  split
  · exact h
  split
  · exact ⟨h.n1, h.n2, h.vs, by simpa using h.ws, words_set h.w _ (bAndn_in (word_in h.w _) (bAndn_in (fz_in h.m _) hx)), h.m, h.ml, inR_i64 (by simp)⟩
  · exact ⟨h.n1, h.n2, h.vs, by simpa using h.ws, words_set h.w _ hx, h.m, h.ml, burn_in h.a⟩
theorem erase_m (n : Nat) (s : Fl) (k : Int) : (s.erase n k).2.M = s.M ∧ (s.erase n k).2.V.length = s.V.length := by
  unfold Fl.erase
  repeat' split
  all_goals simp
theorem erase_ok {n : Nat} {s : Fl} (h : FlOK n s) (k : Int) : FlOK n (s.erase n k).2 := by
  unfold Fl.erase
  split
  · exact h
  split
  · exact h
  obtain ⟨j, rfl, hj, he, hv⟩ := at_of h (k := k) (by omega) (by omega)
  split
  · refine ⟨h.n1, h.n2, by simpa using h.vs, ?_, upd_words h.w (fun i x hx => bOr_in hx (fz_in h.m i)), h.m, h.ml, inR_i64 (by simp)⟩
    simp only [Int.toNat_natCast, List.length_set]
    rw [upd_len hj, h.ws]
  · refine ⟨h.n1, h.n2, by simpa using h.vs, ?_, upd_words (g := fun _ _ => 4294967295) h.w (fun _ _ _ => inR_u32 (by decide)), h.m, h.ml, burn_in h.a⟩
    simp only [Int.toNat_natCast, List.length_set]
    rw [upd_len hj, h.ws]
theorem act_ok {n : Nat} {s : Fl} (h : FlOK n s) (kind a x : Int) (hx : InR .u32 x) : FlOK n (s.act n kind a x).2 := by
  unfold Fl.act
  repeat' split
  · exact erase_ok h a
  · exact h
  · exact prog_ok h a x hx
  · exact h
theorem act_m {n : Nat} {s : Fl} (kind a x : Int) : (s.act n kind a x).2.M = s.M ∧ (s.act n kind a x).2.V.length = s.V.length := by
  unfold Fl.act
  repeat' split
  · exact erase_m n s a
  · exact ⟨rfl, rfl⟩
  · exact ⟨(prog_m s a x).2.1, by rw [(prog_m s a x).1]⟩
  · exact ⟨rfl, rfl⟩
theorem imax_in {a : Int} (h : InR .i64 a) : InR .i64 (imax a (-1)) := by
  have := h.i64
  unfold imax
  split <;> exact inR_i64 (by omega)
theorem arm_ok {n : Nat} {s : Fl} (h : FlOK n s) {a : Int} (ha : InR .i64 a) {M : List Int} (hM : Words M) (hl : M.length ≤ 200) : FlOK n (s.arm a M) :=
  ⟨h.n1, h.n2, h.vs, h.ws, h.w, hM, hl, imax_in ha⟩
/-- With power, without a fuse. -/
def Fl.power (s : Fl) (M : List Int) : Fl := { s with D := false, A := -1, M := M }
theorem power_ok {n : Nat} {s : Fl} (h : FlOK n s) {M : List Int} (hM : Words M) (hl : M.length ≤ 200) : FlOK n (s.power M) :=
  ⟨h.n1, h.n2, h.vs, h.ws, h.w, hM, hl, inR_i64 (by simp [Fl.power])⟩

section
variable {n : Nat} {s : Fl} (h : FlOK n s)
include h
omit h
end

/-! Too many acts, or masks. -/
end Go.Proofs.Ytmlbioapefgioaa.Pure
