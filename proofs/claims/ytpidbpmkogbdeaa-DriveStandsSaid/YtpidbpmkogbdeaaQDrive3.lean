/- Drives: what is done with one, act by act. -/
import Derived.Test.YtpidbpmkogbdeaaQDrive2
namespace Go.Proofs.Ytpidbpmkogbdeaa.Pure
open Go Go.Proofs.Ytpidbpmkogbdeaa.Va
set_option linter.unusedVariables false
set_option linter.unusedSimpArgs false

/-- An act that neither arms nor gives power. -/
def Fl.dact (n : Nat) (s : Fl) (kind k at_ c : Int) (w : List Int) : (Bool × Int × List Int) × Fl :=
  if kind = 0 then ((false, (s.dread n k at_ c).1, (s.dread n k at_ c).2), s)
  else if kind = 1 ∨ kind = 2 then ((false, (s.dwrite n k at_ w).1, []), (s.dwrite n k at_ w).2)
  else if kind = 3 then (((s.blank n k at_).1, (s.blank n k at_).2, []), s)
  else if kind = 4 then ((false, (s.clean n k).1, []), (s.clean n k).2)
  else if kind = 5 then ((false, (s.fresh n k w).1, []), (s.fresh n k w).2)
  else ((false, 0, []), s)
theorem dact_ok {n : Nat} {s : Fl} (hs : FlOK n s) (kind k at_ c : Int) {w : List Int} (hw : Words w) : FlOK n (s.dact n kind k at_ c w).2 ∧ (s.dact n kind k at_ c w).2.V.length = s.V.length ∧ (s.dact n kind k at_ c w).2.M = s.M := by
  unfold Fl.dact
  split
  · exact ⟨hs, rfl, rfl⟩
  split
  · have := dwrite_ok hs k at_ hw
    exact ⟨this.1, by rw [this.2.1], this.2.2⟩
  split
  · exact ⟨hs, rfl, rfl⟩
  split
  · exact clean_ok hs k
  split
  · exact fresh_ok hs k hw
  · exact ⟨hs, rfl, rfl⟩

/-! Masks that no fuse asks for. -/
def Fl.setM (s : Fl) (M : List Int) : Fl := { s with M := M }
section
variable {s : Fl} (M : List Int)
theorem prog_setM (h : s.A < 0) (a x : Int) : (s.setM M).prog a x = ((s.prog a x).1, (s.prog a x).2.setM M) ∧ (s.prog a x).2.A < 0 := by
  obtain ⟨C, D, A, W, V, M'⟩ := s
  have h : A < 0 := h
  have h0 : A ≠ 0 := by omega
  unfold Fl.setM Fl.prog burn
  simp only [h0, h, if_false, if_true]
  repeat' split
  all_goals exact ⟨rfl, h⟩
theorem erase_setM (n : Nat) (h : s.A < 0) (k : Int) : (s.setM M).erase n k = ((s.erase n k).1, (s.erase n k).2.setM M) ∧ (s.erase n k).2.A < 0 := by
  obtain ⟨C, D, A, W, V, M'⟩ := s
  have h : A < 0 := h
  have h0 : A ≠ 0 := by omega
  unfold Fl.setM Fl.erase burn
  simp only [h0, h, if_false, if_true]
  repeat' split
  all_goals exact ⟨rfl, h⟩
theorem wrL_setM : ∀ (w : List Int) (a : Nat) {s : Fl}, s.A < 0 → wrL w a (s.setM M) = ((wrL w a s).1, (wrL w a s).2.setM M) ∧ (wrL w a s).2.A < 0
  | [], a, s, h => ⟨rfl, h⟩
  | x :: w, a, s, h => by
    obtain ⟨e1, e2⟩ := prog_setM (s := s) M h (a : Int) x
    have hW : (s.setM M).W = s.W := rfl
    unfold wrL
    rw [hW, e1]
    split
    · exact wrL_setM w (a + 1) h
    split
    · exact ⟨rfl, e2⟩
    · exact wrL_setM w (a + 1) e2
theorem dwrite_setM (n : Nat) (h : s.A < 0) (k at_ : Int) (w : List Int) : (s.setM M).dwrite n k at_ w = ((s.dwrite n k at_ w).1, (s.dwrite n k at_ w).2.setM M) ∧ (s.dwrite n k at_ w).2.A < 0 := by
  have e1 : ∀ c, (s.setM M).first n k at_ c = s.first n k at_ c := fun _ => rfl
  have hW : (s.setM M).W = s.W := rfl
  unfold Fl.dwrite
  rw [e1, hW]
  split
  · exact ⟨rfl, h⟩
  split
  · exact ⟨rfl, h⟩
  · exact wrL_setM M w _ h
theorem clean_setM (n : Nat) (h : s.A < 0) (k : Int) : (s.setM M).clean n k = ((s.clean n k).1, (s.clean n k).2.setM M) ∧ (s.clean n k).2.A < 0 := by
  have e1 : (s.setM M).blank n k 0 = s.blank n k 0 := rfl
  unfold Fl.clean
  rw [e1]
  split
  · exact ⟨rfl, h⟩
  split
  · exact ⟨rfl, h⟩
  · exact erase_setM M n h k
theorem fresh_setM (n : Nat) (h : s.A < 0) (k : Int) (w : List Int) : (s.setM M).fresh n k w = ((s.fresh n k w).1, (s.fresh n k w).2.setM M) ∧ (s.fresh n k w).2.A < 0 := by
  have e1 : ∀ c, (s.setM M).first n k 0 c = s.first n k 0 c := fun _ => rfl
  obtain ⟨c1, c2⟩ := clean_setM (s := s) M n h k
  unfold Fl.fresh
  rw [e1, c1]
  split
  · exact ⟨rfl, h⟩
  split
  · exact ⟨rfl, c2⟩
  · exact dwrite_setM M n c2 k 0 w
theorem dact_setM (n : Nat) (h : s.A < 0) (kind k at_ c : Int) (w : List Int) : (s.setM M).dact n kind k at_ c w = ((s.dact n kind k at_ c w).1, (s.dact n kind k at_ c w).2.setM M) ∧ (s.dact n kind k at_ c w).2.A < 0 := by
  have e1 : (s.setM M).dread n k at_ c = s.dread n k at_ c := rfl
  have e2 : (s.setM M).blank n k at_ = s.blank n k at_ := rfl
  obtain ⟨c1, c2⟩ := clean_setM (s := s) M n h k
  obtain ⟨d1, d2⟩ := dwrite_setM (s := s) M n h k at_ w
  obtain ⟨f1, f2⟩ := fresh_setM (s := s) M n h k w
  unfold Fl.dact
  rw [e1, e2, c1, d1, f1]
  repeat' split
  · exact ⟨rfl, h⟩
  · exact ⟨rfl, d2⟩
  · exact ⟨rfl, h⟩
  · exact ⟨rfl, c2⟩
  · exact ⟨rfl, f2⟩
  · exact ⟨rfl, h⟩
end

section
variable {n : Nat} {g1 g2 g3 g4 g5 : Int} (hr : GeoR (n : Int) g1 g2 g3 g4 g5) (ok : GeoOK (n : Int) g1 g2 g3 g4 g5) {s : Fl} (hs : FlOK n s) (hv : (s.V.length : Int) = 2 + 2 * g1 + g2)
include hr ok hs hv
theorem ddo_other {kind k at_ c : Int} {w : List Int} (ha : InR .i64 at_) (hw : Words w) (h6 : kind ≠ 6) (h7 : kind ≠ 7) : law09_do_v2.c kind k at_ c w (n : Int) s.C s.D s.A s.W s.V s.M (n : Int) g1 g2 g3 g4 g5 =
    some (.inl ((s.dact n kind k at_ c w).1.1, (s.dact n kind k at_ c w).1.2.1, (s.dact n kind k at_ c w).2.C, (s.dact n kind k at_ c w).2.D, (s.dact n kind k at_ c w).2.A, (s.dact n kind k at_ c w).2.W, (s.dact n kind k at_ c w).2.V, (s.dact n kind k at_ c w).1.2.2)) := by
  simp only [law09_do_v2.c, law09_do_v2.t]
  have hwr := drive_Write_eq hr ok hs hv (k := k) ha hw
  have hwr : drive_Drive_Write_v2.c k at_ w (n : Int) g1 g2 g3 g4 g5 (n : Int) s.C s.D s.A s.W s.V s.M = some ((s.dwrite n k at_ w).1, (s.dwrite n k at_ w).2.C, (s.dwrite n k at_ w).2.D, (s.dwrite n k at_ w).2.A, (s.dwrite n k at_ w).2.W) := hwr
  have hcl : drive_Drive_Clean_v2.c k (n : Int) g1 g2 g3 g4 g5 (n : Int) s.C s.D s.A s.W s.V s.M = some ((s.clean n k).1, (s.clean n k).2.C, (s.clean n k).2.D, (s.clean n k).2.A, (s.clean n k).2.W, (s.clean n k).2.V) := drive_Clean_eq hr ok hs hv
  have hfr : drive_Drive_Fresh_v2.c k w (n : Int) g1 g2 g3 g4 g5 (n : Int) s.C s.D s.A s.W s.V s.M = some ((s.fresh n k w).1, (s.fresh n k w).2.C, (s.fresh n k w).2.D, (s.fresh n k w).2.A, (s.fresh n k w).2.W, (s.fresh n k w).2.V) := drive_Fresh_eq hr ok hs hv hw
  have hV := (dwrite_ok hs k at_ hw).2.1
  unfold Fl.dact
  by_cases h0 : kind = 0
  · rw [if_pos h0, bb_pos (by rw [h0]; rfl), opt_some (drive_Read_eq hr ok hs hv ha), Tw.run_ret]
  rw [if_neg h0, bb_neg (beq_eq_false_iff_ne.2 h0)]
  by_cases h1 : kind = 1
  · rw [if_pos (Or.inl h1), bb_pos (by rw [h1]; rfl), bb_pos (by rw [h1]; rfl), opt_some hwr, Tw.run_ret]
    simp only [hV]
  rw [bb_neg (beq_eq_false_iff_ne.2 h1)]
  by_cases h2 : kind = 2
  · rw [if_pos (Or.inr h2), bb_pos (by rw [h2]; rfl), opt_some hwr, Tw.run_ret]
    simp only [hV]
  rw [if_neg (by omega), bb_neg (beq_eq_false_iff_ne.2 h2)]
  by_cases h3 : kind = 3
  · rw [if_pos h3, bb_pos (by rw [h3]; rfl), opt_some (drive_Blank_eq hr ok hs hv ha), Tw.run_ret]
  rw [if_neg h3, bb_neg (beq_eq_false_iff_ne.2 h3)]
  by_cases h4 : kind = 4
  · rw [if_pos h4, bb_pos (by rw [h4]; rfl), opt_some hcl, Tw.run_ret]
  rw [if_neg h4, bb_neg (beq_eq_false_iff_ne.2 h4)]
  by_cases h5 : kind = 5
  · rw [if_pos h5, bb_pos (by rw [h5]; rfl), opt_some hfr, Tw.run_ret]
  rw [if_neg h5, bb_neg (beq_eq_false_iff_ne.2 h5), bb_neg (beq_eq_false_iff_ne.2 h6), bb_neg (beq_eq_false_iff_ne.2 h7), Tw.run_ret]
end
theorem ddo_arm {k at_ c : Int} {w : List Int} (hl : w.length ≤ 200) (n C : Int) (D : Bool) (A : Int) (W V M : List Int) (g0 g1 g2 g3 g4 g5 : Int) : law09_do_v2.c 6 k at_ c w n C D A W V M g0 g1 g2 g3 g4 g5 = some (.inr (.inr (false, 0, imax c (-1), [], w))) := by
  have e : flash_Flash_Arm_v2.c c w n C D A W V M = some (imax c (-1), w) := by
    simp only [flash_Flash_Arm_v2.c, flash_Flash_Arm_v2.t]
    rw [opt_some (clone32_eq (by omega)), Tw.run_ret]
  simp only [law09_do_v2.c, law09_do_v2.t]
  rw [bb_neg (by decide), bb_neg (by decide), bb_neg (by decide), bb_neg (by decide), bb_neg (by decide), bb_neg (by decide), bb_pos (by decide), opt_some e, Tw.run_ret]
theorem ddo_power {k at_ c : Int} {w : List Int} (n C : Int) (D : Bool) (A : Int) (W V M : List Int) (g0 g1 g2 g3 g4 g5 : Int) : law09_do_v2.c 7 k at_ c w n C D A W V M g0 g1 g2 g3 g4 g5 = some (.inr (.inl (false, 0, false, -1, []))) := by
  simp only [law09_do_v2.c, law09_do_v2.t]
  rw [bb_neg (by decide), bb_neg (by decide), bb_neg (by decide), bb_neg (by decide), bb_neg (by decide), bb_neg (by decide), bb_neg (by decide), bb_pos (by decide)]
  rfl
/-! Too many acts, or words. -/
theorem law09_great_eq {l : List Act9} (hl : l.length * 56 ≤ 140737488351232) : ∃ b, law09_great.c l = some b ∧ (b = false → l.length ≤ 60 ∧ ∀ x ∈ l, x.w.length ≤ 200) := by
  have hL : ∃ r, law09_great.L2 l 0 = some r ∧ (∀ u, r = .inl u → ∀ i, i < l.length → i < 61 → ∀ x, l[i]? = some x → x.w.length ≤ 200) ∧ (∀ b, r = .inr b → b = true) := by
    unfold law09_great.L2
    refine Lp_inv _ (fun s : Int => 0 ≤ s ∧ s ≤ 61 ∧ s ≤ l.length ∧ ∀ i : Nat, (i : Int) < s → ∀ x, l[i]? = some x → x.w.length ≤ 200) (fun s : Int => 61 - s.toNat) _ (fun s hs => ?_) 61 0 (by decide) ⟨by decide, by decide, by omega, fun i hi => by omega⟩
    obtain ⟨h0, h1, h2, h3⟩ := hs
    simp only [law09_great.l2]
    by_cases ha : s < (l.length : Int)
    · rw [bb_pos (decide_eq_true ha)]
      by_cases hb : s < 61
      · rw [bb_pos (decide_eq_true hb), dd_pos h0]
        have hs' : l[s.toNat]? = some l[s.toNat] := List.getElem?_eq_getElem (by omega)
        rw [opt_some hs']
        by_cases hc : ((l[s.toNat].w.length : Nat) : Int) > 200
        · exact Or.inr ⟨.inr true, by rw [bb_pos (decide_eq_true hc), Tw.run_ret], (fun u hu => by cases hu), (fun b hb => by injection hb with hb; exact hb.symm)⟩
        · refine Or.inl ⟨s + 1, by rw [bb_neg (decide_eq_false hc), Tw.run_ret, w64_of (by omega) (by omega)], ⟨by omega, by omega, by omega, fun i hi x hx => ?_⟩, by omega⟩
          by_cases he : (i : Int) = s
          · have : i = s.toNat := by omega
            subst this
            rw [hs'] at hx
            injection hx with hx
            rw [← hx]
            omega
          · exact h3 i (by omega) x hx
      · exact Or.inr ⟨.inl (), by rw [bb_neg (decide_eq_false hb), Tw.run_ret], (fun u hu i hi1 hi2 x hx => h3 i (by omega) x hx), (fun b hb => by cases hb)⟩
    · exact Or.inr ⟨.inl (), by rw [bb_neg (decide_eq_false ha), Tw.run_ret], (fun u hu i hi1 hi2 x hx => h3 i (by omega) x hx), (fun b hb => by cases hb)⟩
  obtain ⟨r, hr, h1, h2⟩ := hL
  simp only [law09_great.c, law09_great.t]
  rw [opt_some hr]
  cases r with
  | inl u =>
    refine ⟨_, by rw [sm_inl, Tw.run_ret], fun hb => ?_⟩
    have hb := of_decide_eq_false hb
    refine ⟨by omega, fun x hx => ?_⟩
    obtain ⟨i, hi⟩ := List.mem_iff_getElem?.1 hx
    have hlt := (List.getElem?_eq_some_iff.1 hi).1
    exact h1 u rfl i hlt (by omega) x hi
  | inr b =>
    refine ⟨b, by rw [sm_inr, Tw.run_ret], fun hb => ?_⟩
    rw [h2 b rfl] at hb
    exact nomatch hb
theorem ref08_Small_eq {g0 g1 g2 g3 g4 g5 : Int} (hr : GeoR g0 g1 g2 g3 g4 g5) : ∃ b, ref08_Small.c g0 g1 g2 g3 g4 g5 = some b ∧ (b = true → GeoOK g0 g1 g2 g3 g4 g5) := by
  simp only [ref08_Small.c, ref08_Small.t]
  rw [opt_some (ref08_Right_eq hr)]
  by_cases ok : GeoOK g0 g1 g2 g3 g4 g5
  · rw [decide_eq_true ok, bb_pos rfl]
    by_cases h : g0 ≤ 128
    · rw [bb_pos (decide_eq_true h), opt_some (ref08_Map_eq hr)]
      exact ⟨_, by rw [Tw.run_ret], fun _ => ok⟩
    · exact ⟨false, by rw [bb_neg (decide_eq_false h), Tw.run_ret], fun h => nomatch h⟩
  · exact ⟨false, by rw [decide_eq_false ok, bb_neg rfl, Tw.run_ret], fun h => nomatch h⟩

end Go.Proofs.Ytpidbpmkogbdeaa.Pure
