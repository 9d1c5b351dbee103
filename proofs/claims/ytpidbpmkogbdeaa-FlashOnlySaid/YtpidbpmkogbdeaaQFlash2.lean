/- Flash: what is done with it, act by act; the document's flash goes beside it. -/
import Derived.Test.YtpidbpmkogbdeaaQFlash1
namespace Go.Proofs.Ytpidbpmkogbdeaa.Pure
open Go Go.Proofs.Ytpidbpmkogbdeaa.Va
set_option linter.unusedVariables false
set_option linter.unusedSimpArgs false

/-- An act is in order: its words are words, and its masks are few. -/
def ActOK (x : Act7) : Prop := InR .i64 x.kind ∧ InR .i64 x.a ∧ InR .u32 x.x ∧ x.masks.length ≤ 100 ∧ Words x.masks

/-- Masks that are written anew: the fuse. -/
def Fl.arm (s : Fl) (a : Int) (M : List Int) : Fl := { s with A := imax a (-1), M := M }
/-- An act that neither arms nor gives power. -/
def Fl.act (n : Nat) (s : Fl) (kind a x : Int) : (Int × Int) × Fl :=
  if kind = 2 then ((0, (s.erase n a).1), (s.erase n a).2)
  else if kind = 3 then (s.read a, s)
  else if kind = 0 ∨ kind = 1 then ((0, (s.prog a x).1), (s.prog a x).2)
  else ((0, 0), s)

theorem prog_m (s : Fl) (a x : Int) : (s.prog a x).2.V = s.V ∧ (s.prog a x).2.M = s.M ∧ (s.prog a x).2.W.length = s.W.length := by
  unfold Fl.prog
  repeat' split
  all_goals simp
theorem burn_in {A : Int} (h : InR .i64 A) : InR .i64 (burn A) := by
  have := h.i64
  unfold burn
  split
  · exact h
  · exact inR_i64 (by omega)
theorem prog_ok {n : Nat} {s : Fl} (h : FlOK n s) (a x : Int) (hx : InR .u32 x) : FlOK n (s.prog a x).2 := by
  unfold Fl.prog
  split
  · exact h
  split
  · exact h
  split
  · exact h
  split
  · exact ⟨h.n1, h.n2, h.vs, by simpa using h.ws, words_set h.w _ (bAndn_in (word_in h.w _) (bAndn_in (fz_in h.m _) hx)), h.m, h.ml, inR_i64 (by simp)⟩
  · exact ⟨h.n1, h.n2, h.vs, by simpa using h.ws, words_set h.w _ hx, h.m, h.ml, burn_in h.a⟩
theorem erase_m (n : Nat) (s : Fl) (k : Int) : (s.erase n k).2.M = s.M ∧ (s.erase n k).2.V.length = s.V.length := by
  unfold Fl.erase
  repeat' split
  all_goals simp
theorem erase_ok {n : Nat} {s : Fl} (h : FlOK n s) (k : Int) : FlOK n (s.erase n k).2 := by
  unfold Fl.erase
  split
  · exact h
  split
  · exact h
  obtain ⟨j, rfl, hj, he, hv⟩ := at_of h (k := k) (by omega) (by omega)
  split
  · refine ⟨h.n1, h.n2, by simpa using h.vs, ?_, upd_words h.w (fun i x hx => bOr_in hx (fz_in h.m i)), h.m, h.ml, inR_i64 (by simp)⟩
    simp only [Int.toNat_natCast, List.length_set]
    rw [upd_len hj, h.ws]
  · refine ⟨h.n1, h.n2, by simpa using h.vs, ?_, upd_words (g := fun _ _ => 4294967295) h.w (fun _ _ _ => inR_u32 (by decide)), h.m, h.ml, burn_in h.a⟩
    simp only [Int.toNat_natCast, List.length_set]
    rw [upd_len hj, h.ws]
theorem act_ok {n : Nat} {s : Fl} (h : FlOK n s) (kind a x : Int) (hx : InR .u32 x) : FlOK n (s.act n kind a x).2 := by
  unfold Fl.act
  repeat' split
  · exact erase_ok h a
  · exact h
  · exact prog_ok h a x hx
  · exact h
theorem act_m {n : Nat} {s : Fl} (kind a x : Int) : (s.act n kind a x).2.M = s.M ∧ (s.act n kind a x).2.V.length = s.V.length := by
  unfold Fl.act
  repeat' split
  · exact erase_m n s a
  · exact ⟨rfl, rfl⟩
  · exact ⟨(prog_m s a x).2.1, by rw [(prog_m s a x).1]⟩
  · exact ⟨rfl, rfl⟩
theorem imax_in {a : Int} (h : InR .i64 a) : InR .i64 (imax a (-1)) := by
  have := h.i64
  unfold imax
  split <;> exact inR_i64 (by omega)
theorem arm_ok {n : Nat} {s : Fl} (h : FlOK n s) {a : Int} (ha : InR .i64 a) {M : List Int} (hM : Words M) (hl : M.length ≤ 200) : FlOK n (s.arm a M) :=
  ⟨h.n1, h.n2, h.vs, h.ws, h.w, hM, hl, imax_in ha⟩
/-- With power, without a fuse. -/
def Fl.power (s : Fl) (M : List Int) : Fl := { s with D := false, A := -1, M := M }
theorem power_ok {n : Nat} {s : Fl} (h : FlOK n s) {M : List Int} (hM : Words M) (hl : M.length ≤ 200) : FlOK n (s.power M) :=
  ⟨h.n1, h.n2, h.vs, h.ws, h.w, hM, hl, inR_i64 (by simp [Fl.power])⟩

section
variable {n : Nat} {s : Fl} (h : FlOK n s)
include h
theorem do_other {kind a x : Int} (M' : List Int) (hx : InR .u32 x) (h4 : kind ≠ 4) (h5 : kind ≠ 5) : law07_do_v2.c kind a x M' (n : Int) s.C s.D s.A s.W s.V s.M =
    some (.inl ((s.act n kind a x).1.1, (s.act n kind a x).1.2, (s.act n kind a x).2.C, (s.act n kind a x).2.D, (s.act n kind a x).2.A, (s.act n kind a x).2.W, (s.act n kind a x).2.V)) := by
  simp only [law07_do_v2.c, law07_do_v2.t]
  unfold Fl.act
  by_cases h2 : kind = 2
  · rw [if_pos h2, bb_pos (by rw [h2]; decide), opt_some (flash_Erase_eq h a), Tw.run_ret]
  rw [if_neg h2, bb_neg (beq_eq_false_iff_ne.2 h2)]
  by_cases h3 : kind = 3
  · rw [if_pos h3, bb_pos (by rw [h3]; decide), opt_some (flash_Read_eq h a), Tw.run_ret]
  rw [if_neg h3, bb_neg (beq_eq_false_iff_ne.2 h3), bb_neg (beq_eq_false_iff_ne.2 h4), bb_neg (beq_eq_false_iff_ne.2 h5)]
  by_cases h0 : kind = 0
  · rw [if_pos (Or.inl h0), bb_pos (by rw [h0]; decide), bb_pos (by rw [h0]; decide), opt_some (flash_Program_eq h a x hx), Tw.run_ret]
    simp only [(prog_m s a x).1]
  rw [bb_neg (beq_eq_false_iff_ne.2 h0)]
  by_cases h1 : kind = 1
  · rw [if_pos (Or.inr h1), bb_pos (by rw [h1]; decide), opt_some (flash_Program_eq h a x hx), Tw.run_ret]
    simp only [(prog_m s a x).1]
  rw [if_neg (by omega), bb_neg (beq_eq_false_iff_ne.2 h1), Tw.run_ret]
omit h
theorem do_arm {a x : Int} {M' : List Int} (hl : M'.length ≤ 200) (n C : Int) (D : Bool) (A : Int) (W V M : List Int) : law07_do_v2.c 4 a x M' n C D A W V M = some (.inr (.inr (0, 0, imax a (-1), M'))) := by
  simp only [law07_do_v2.c, law07_do_v2.t]
  rw [bb_neg (by decide), bb_neg (by decide), bb_pos (by decide)]
  simp only [flash_Flash_Arm_v2.c, flash_Flash_Arm_v2.t]
  rw [Tw.run_opt, opt_some (clone32_eq (by omega)), Tw.run_ret]
  rfl
theorem do_power {a x : Int} {M' : List Int} (n C : Int) (D : Bool) (A : Int) (W V M : List Int) : law07_do_v2.c 5 a x M' n C D A W V M = some (.inr (.inl (0, 0, false, -1))) := by
  simp only [law07_do_v2.c, law07_do_v2.t]
  rw [bb_neg (by decide), bb_neg (by decide), bb_neg (by decide), bb_pos (by decide)]
  rfl
end

/-! Too many acts, or masks. -/
theorem law07_great_eq {l : List Act7} (hl : l.length * 48 ≤ 140737488351232) : ∃ b, law07_great.c l = some b ∧ (b = false → l.length ≤ 100 ∧ ∀ x ∈ l, x.masks.length ≤ 100) := by
  have hL : ∃ r, law07_great.L2 l 0 = some r ∧ (∀ u, r = .inl u → ∀ i, i < l.length → i < 101 → ∀ x, l[i]? = some x → x.masks.length ≤ 100) ∧ (∀ b, r = .inr b → b = true) := by
    unfold law07_great.L2
    refine Lp_inv _ (fun s : Int => 0 ≤ s ∧ s ≤ 101 ∧ s ≤ l.length ∧ ∀ i : Nat, (i : Int) < s → ∀ x, l[i]? = some x → x.masks.length ≤ 100) (fun s : Int => 101 - s.toNat) _ (fun s hs => ?_) 101 0 (by decide) ⟨by decide, by decide, by omega, fun i hi => by omega⟩
    obtain ⟨h0, h1, h2, h3⟩ := hs
    simp only [law07_great.l2]
    by_cases ha : s < (l.length : Int)
    · rw [bb_pos (decide_eq_true ha)]
      by_cases hb : s < 101
      · rw [bb_pos (decide_eq_true hb), dd_pos h0]
        have hs' : l[s.toNat]? = some l[s.toNat] := List.getElem?_eq_getElem (by omega)
        rw [opt_some hs']
        by_cases hc : ((l[s.toNat].masks.length : Nat) : Int) > 100
        · exact Or.inr ⟨.inr true, by rw [bb_pos (decide_eq_true hc), Tw.run_ret], (fun u hu => by cases hu), (fun b hb => by injection hb with hb; exact hb.symm)⟩
        · refine Or.inl ⟨s + 1, by rw [bb_neg (decide_eq_false hc), Tw.run_ret, w64_of (by omega) (by omega)], ⟨by omega, by omega, by omega, fun i hi x hx => ?_⟩, by omega⟩
          by_cases he : (i : Int) = s
          · have : i = s.toNat := by omega
            subst this
            rw [hs'] at hx
            injection hx with hx
            rw [← hx]
            omega
          · exact h3 i (by omega) x hx
      · exact Or.inr ⟨.inl (), by rw [bb_neg (decide_eq_false hb), Tw.run_ret], (fun u hu i hi1 hi2 x hx => h3 i (by omega) x hx), (fun b hb => by cases hb)⟩
    · exact Or.inr ⟨.inl (), by rw [bb_neg (decide_eq_false ha), Tw.run_ret], (fun u hu i hi1 hi2 x hx => h3 i (by omega) x hx), (fun b hb => by cases hb)⟩
  obtain ⟨r, hr, h1, h2⟩ := hL
  simp only [law07_great.c, law07_great.t]
  rw [opt_some hr]
  cases r with
  | inl u =>
    refine ⟨_, by rw [sm_inl, Tw.run_ret], fun hb => ?_⟩
    have hb := of_decide_eq_false hb
    refine ⟨by omega, fun x hx => ?_⟩
    obtain ⟨i, hi⟩ := List.mem_iff_getElem?.1 hx
    have hlt := (List.getElem?_eq_some_iff.1 hi).1
    exact h1 u rfl i hlt (by omega) x hi
  | inr b =>
    refine ⟨b, by rw [sm_inr, Tw.run_ret], fun hb => ?_⟩
    rw [h2 b rfl] at hb
    exact nomatch hb

end Go.Proofs.Ytpidbpmkogbdeaa.Pure
