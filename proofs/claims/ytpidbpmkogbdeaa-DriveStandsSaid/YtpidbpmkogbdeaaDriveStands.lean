/- The plain truth of DriveStands. -/
import Derived.Test.YtpidbpmkogbdeaaFlaw09
import Derived.Test.YtpidbpmkogbdeaaFlaw09DriveStands
import Derived.Test.YtpidbpmkogbdeaaQDrive4
namespace Go.Proofs.Ytpidbpmkogbdeaa.Pure
open Go Go.Proofs.Ytpidbpmkogbdeaa.Va
set_option linter.unusedVariables false
set_option linter.unusedSimpArgs false

/-- An act of a drive is in order. -/
def ActS (x : Act9) : Prop := InR .i64 x.at_ ∧ InR .i64 x.n ∧ x.w.length ≤ 200 ∧ Words x.w
abbrev S6d : Type := Int × (Bool × (Int × (List Int × (List Int × List Int))))
def s6d (s : Fl) : S6d := (s.C, s.D, s.A, s.W, s.V, s.M)
theorem same_refl {l : List Int} (h : l.length ≤ 140737488351232) : ref01_Same.c l l = some true := (ref01_Same_eq h).trans (by simp)

section
variable {n : Nat} {g1 g2 g3 g4 g5 : Int} (hr : GeoR (n : Int) g1 g2 g3 g4 g5) (ok : GeoOK (n : Int) g1 g2 g3 g4 g5)
include hr ok
theorem stepS {s : Fl} (hs : FlOK n s) (hv : (s.V.length : Int) = 2 + 2 * g1 + g2) {l : List Act9} {i : Nat} {x : Act9} (hi : l[i]? = some x) (hx : ActS x) (hl : l.length ≤ 60) (b0 b1 b2 b3 : Int) (bw : List Int) : ∃ s', FlOK n s' ∧ (s'.V.length : Int) = 2 + 2 * g1 + g2 ∧
    (law09_DriveStands.l8 l (n : Int) g1 g2 g3 g4 g5 b0 b1 b2 b3 bw (n : Int) (n : Int) g1 g2 g3 g4 g5 (i : Int) s.C s.D s.A s.W s.V s.M).run = some (.inl (((i + 1 : Nat) : Int), s6d s')) := by
  obtain ⟨kind, k, at_, c, w⟩ := x
  obtain ⟨ha, hn, hlw, hw⟩ := hx
  have hlt := (List.getElem?_eq_some_iff.1 hi).1
  have hi0 : l[(i : Int).toNat]? = some ⟨kind, k, at_, c, w⟩ := by rw [Int.toNat_natCast]; exact hi
  have e : w64 ((i : Int) + 1) = ((i + 1 : Nat) : Int) := by rw [w64_of (by omega) (by omega)]; rfl
  simp only at ha hn hlw hw
  simp only [law09_DriveStands.l8]
  rw [bb_pos (decide_eq_true (by omega)), dd_pos (by omega), opt_some hi0]
  by_cases h6 : kind = 6
  · subst h6
    refine ⟨s.arm c w, arm_ok hs hn hw hlw, hv, ?_⟩
    rw [opt_some (ddo_arm (w := w) hlw ..), sm_inr, sm_inr, Tw.run_ret, e]
    rfl
  by_cases h7 : kind = 7
  · subst h7
    refine ⟨s.power [], power_ok hs words_nil (by simp), hv, ?_⟩
    rw [opt_some (ddo_power ..), sm_inr, sm_inl, Tw.run_ret, e]
    rfl
  have hd := dact_ok hs kind k at_ c hw
  refine ⟨_, hd.1, by rw [hd.2.1]; exact hv, ?_⟩
  rw [opt_some (ddo_other hr ok hs hv (c := c) ha hw h6 h7), sm_inl, Tw.run_ret, e]
  simp only [s6d, hd.2.2]
theorem loopS {s : Fl} (hs : FlOK n s) (hv : (s.V.length : Int) = 2 + 2 * g1 + g2) {l : List Act9} (hx : ∀ x ∈ l, ActS x) (hl : l.length ≤ 60) (b0 b1 b2 b3 : Int) (bw : List Int) : ∃ s', FlOK n s' ∧ (s'.V.length : Int) = 2 + 2 * g1 + g2 ∧
    law09_DriveStands.L8 l 0 (n : Int) g1 g2 g3 g4 g5 b0 b1 b2 b3 bw (n : Int) s.C s.D s.A s.W s.V s.M (n : Int) g1 g2 g3 g4 g5 = some (s6d s') := by
  unfold law09_DriveStands.L8
  obtain ⟨x, h1, s', h2, h3, rfl⟩ := Lp_inv (fun z : Int × S6d => (law09_DriveStands.l8 l (n : Int) g1 g2 g3 g4 g5 b0 b1 b2 b3 bw (n : Int) (n : Int) g1 g2 g3 g4 g5 z.1 z.2.1 z.2.2.1 z.2.2.2.1 z.2.2.2.2.1 z.2.2.2.2.2.1 z.2.2.2.2.2.2).run)
    (fun z => ∃ (i : Nat) (s' : Fl), i ≤ l.length ∧ FlOK n s' ∧ (s'.V.length : Int) = 2 + 2 * g1 + g2 ∧ z = ((i : Int), s6d s')) (fun z => l.length - z.1.toNat)
    (fun x => ∃ s', FlOK n s' ∧ (s'.V.length : Int) = 2 + 2 * g1 + g2 ∧ x = s6d s') (fun z hz => by
      obtain ⟨i, s', hi, h1, h4, rfl⟩ := hz
      by_cases h : i < l.length
      · have hi' : l[i]? = some l[i] := List.getElem?_eq_getElem h
        obtain ⟨s'', g1', g4', g5'⟩ := stepS hr ok h1 h4 hi' (hx _ (List.getElem_mem h)) hl b0 b1 b2 b3 bw
        exact Or.inl ⟨_, g5', ⟨i + 1, s'', by omega, g1', g4', rfl⟩, by simp only [Int.toNat_natCast]; omega⟩
      · refine Or.inr ⟨_, ?_, s', h1, h4, rfl⟩
        simp only [law09_DriveStands.l8]
        rw [bb_neg (decide_eq_false (by omega)), Tw.run_ret]) l.length (0, s6d s) (by simp) ⟨0, s, by omega, hs, hv, rfl⟩
  exact ⟨s', h2, h3, h1⟩
end

/-- What a word is to be. -/
def wantS (kind : Int) (j n b : Nat) (w W : List Int) (i : Nat) : Int :=
  if j * n + b ≤ i ∧ i < j * n + b + w.length then w.getD (i - (j * n + b)) 0 else if kind = 5 ∧ j * n ≤ i ∧ i < j * n + n then 4294967295 else W.getD i 0
section
variable {kind c : Int} {n j b : Nat} {w W W' V : List Int} (C C' : Int) (D : Bool) (A : Int) (g1 g2 g3 g4 g5 k h1 h2 h3 h4 h5 m : Int)
theorem c31_eq {i : Nat} (hi : i < W'.length) (want : Int) (hw : W'.getD i 0 = want) : law09_DriveStands.C31 C C' ((j * n : Nat) : Int) (i : Int) want (n : Int) g1 g2 g3 g4 g5 kind k (b : Int) c w m C' D A W' V m h1 h2 h3 h4 h5 W W' = some (.inl ()) := by
  simp only [law09_DriveStands.C31, law09_DriveStands.c31]
  rw [dd_pos (by omega), Int.toNat_natCast, opt_some (word_some hi), bb_neg (by rw [hw]; simp), Tw.run_ret]
theorem c29_eq {i : Nat} (hi : i < W'.length) (hl : W'.length ≤ 524288) (hj : j * n + n ≤ W'.length) (hb : b ≤ n) (hwl : w.length ≤ 200) (want : Int) (hw : W'.getD i 0 = if j * n + b ≤ i ∧ i < j * n + b + w.length then w.getD (i - (j * n + b)) 0 else want) :
    law09_DriveStands.C29 C C' ((j * n : Nat) : Int) (i : Int) want (n : Int) g1 g2 g3 g4 g5 kind k (b : Int) c w m C' D A W' V m h1 h2 h3 h4 h5 W W' = some (.inl ()) := by
  simp only [law09_DriveStands.C29, law09_DriveStands.c29]
  have e1 : w64 ((i : Int) - ((j * n : Nat) : Int)) = (i : Int) - ((j * n : Nat) : Int) := w64_of (by omega) (by omega)
  have e2 : w64 ((i : Int) - ((j * n : Nat) : Int) - (b : Int)) = (i : Int) - ((j * n : Nat) : Int) - (b : Int) := w64_of (by omega) (by omega)
  rw [e1, e2]
  by_cases q1 : (i : Int) ≥ ((j * n : Nat) : Int)
  rotate_left
  · rw [bb_neg (decide_eq_false q1), opt_some (c31_eq (b := b) C C' D A g1 g2 g3 g4 g5 k h1 h2 h3 h4 h5 m hi want (by rw [hw, if_neg (by omega)])), sm_inl, Tw.run_ret]
  rw [bb_pos (decide_eq_true q1)]
  by_cases q2 : (i : Int) - ((j * n : Nat) : Int) ≥ (b : Int)
  rotate_left
  · rw [bb_neg (decide_eq_false q2), opt_some (c31_eq (b := b) C C' D A g1 g2 g3 g4 g5 k h1 h2 h3 h4 h5 m hi want (by rw [hw, if_neg (by omega)])), sm_inl, Tw.run_ret]
  rw [bb_pos (decide_eq_true q2)]
  by_cases q3 : (i : Int) - ((j * n : Nat) : Int) - (b : Int) < ((w.length : Nat) : Int)
  rotate_left
  · rw [bb_neg (decide_eq_false q3), opt_some (c31_eq (b := b) C C' D A g1 g2 g3 g4 g5 k h1 h2 h3 h4 h5 m hi want (by rw [hw, if_neg (by omega)])), sm_inl, Tw.run_ret]
  rw [bb_pos (decide_eq_true q3), dd_pos (by omega), show ((i : Int) - ((j * n : Nat) : Int) - (b : Int)).toNat = i - (j * n + b) by omega, opt_some (word_some (by omega)),
    opt_some (c31_eq (b := b) C C' D A g1 g2 g3 g4 g5 k h1 h2 h3 h4 h5 m hi _ (by rw [hw, if_pos (by omega)])), sm_inl, Tw.run_ret]
theorem l24_eq (hlen : W'.length = W.length) (hl : W'.length ≤ 524288) (hj : j * n + n ≤ W'.length) (hb : b ≤ n) (hwl : w.length ≤ 200) (hw : ∀ i, i < W'.length → W'.getD i 0 = wantS kind j n b w W i) :
    law09_DriveStands.L24 C C' ((j * n : Nat) : Int) 0 (n : Int) g1 g2 g3 g4 g5 kind k (b : Int) c w m C' D A W' V m h1 h2 h3 h4 h5 W W' = some (.inl ()) := by
  unfold law09_DriveStands.L24
  refine Lp_seq _ (fun i : Nat => (i : Int)) W'.length 0 (fun i _ hi => ?_) ?_
  · have hi : i < W'.length := by omega
    have e : w64 ((i : Int) + 1) = ((i + 1 : Nat) : Int) := by rw [w64_of (by omega) (by omega)]; rfl
    have e1 : w64 ((i : Int) - ((j * n : Nat) : Int)) = (i : Int) - ((j * n : Nat) : Int) := w64_of (by omega) (by omega)
    have hws := hw i hi
    unfold wantS at hws
    have hc := fun want h => c29_eq (kind := kind) (c := c) (W := W) (V := V) C C' D A g1 g2 g3 g4 g5 k h1 h2 h3 h4 h5 m hi hl hj hb hwl want h
    simp only [law09_DriveStands.l24]
    rw [e1, bb_pos (decide_eq_true (by omega)), dd_pos (by omega), Int.toNat_natCast, opt_some (word_some (by omega))]
    by_cases q5 : kind = 5
    rotate_left
    · rw [if_neg (c := kind = 5 ∧ _) (fun h => q5 h.1)] at hws
      rw [bb_neg (beq_eq_false_iff_ne.2 q5), opt_some (hc _ hws), sm_inl, Tw.run_ret, e]
    rw [bb_pos (by simpa using q5)]
    by_cases q1 : (i : Int) ≥ ((j * n : Nat) : Int)
    rotate_left
    · rw [if_neg (c := kind = 5 ∧ _) (fun h => by omega)] at hws
      rw [bb_neg (decide_eq_false q1), opt_some (hc _ hws), sm_inl, Tw.run_ret, e]
    rw [bb_pos (decide_eq_true q1)]
    by_cases q2 : (i : Int) - ((j * n : Nat) : Int) < (n : Int)
    rotate_left
    · rw [if_neg (c := kind = 5 ∧ _) (fun h => by omega)] at hws
      rw [bb_neg (decide_eq_false q2), opt_some (hc _ hws), sm_inl, Tw.run_ret, e]
    rw [if_pos (c := kind = 5 ∧ _) ⟨q5, by omega, by omega⟩] at hws
    rw [bb_pos (decide_eq_true q2), opt_some (hc _ hws), sm_inl, Tw.run_ret, e]
  · simp only [law09_DriveStands.l24]
    rw [bb_neg (decide_eq_false (by omega)), Tw.run_ret]
end

theorem drive_Fresh1_eq (k : Int) (w : List Int) (g0 g1 g2 g3 g4 g5 m C : Int) (D : Bool) (A : Int) (W V : List Int) : drive_Drive_Fresh.c k w g0 g1 g2 g3 g4 g5 m C D A W V = drive_Drive_Fresh_v2.c k w g0 g1 g2 g3 g4 g5 m C D A W V [] := rfl
section
variable {n : Nat} {g1 g2 g3 g4 g5 : Int} (hr : GeoR (n : Int) g1 g2 g3 g4 g5) (ok : GeoOK (n : Int) g1 g2 g3 g4 g5) {s : Fl} (hs : FlOK n s) (hM : s.M = []) (hv : (s.V.length : Int) = 2 + 2 * g1 + g2)
include hr ok hs hM hv
theorem do_write (k at_ c : Int) {w : List Int} (ha : InR .i64 at_) (hw : Words w) : law09_do.c 1 k at_ c w (n : Int) s.C s.D s.A s.W s.V (n : Int) g1 g2 g3 g4 g5 =
    some (.inl (false, (s.dwrite n k at_ w).1, (s.dwrite n k at_ w).2.C, (s.dwrite n k at_ w).2.D, (s.dwrite n k at_ w).2.A, (s.dwrite n k at_ w).2.W, s.V, [])) := by
  have hwr : drive_Drive_Write.c k at_ w (n : Int) g1 g2 g3 g4 g5 (n : Int) s.C s.D s.A s.W s.V = some ((s.dwrite n k at_ w).1, (s.dwrite n k at_ w).2.C, (s.dwrite n k at_ w).2.D, (s.dwrite n k at_ w).2.A, (s.dwrite n k at_ w).2.W) := by
    rw [drive_Write1_eq, ← hM]
    exact drive_Write_eq hr ok hs hv (k := k) ha hw
  simp only [law09_do.c, law09_do.t]
  rw [bb_neg (by rfl), bb_pos (by rfl), bb_pos (by rfl), opt_some hwr, Tw.run_ret]
theorem do_fresh (k at_ c : Int) {w : List Int} (hw : Words w) : law09_do.c 5 k at_ c w (n : Int) s.C s.D s.A s.W s.V (n : Int) g1 g2 g3 g4 g5 =
    some (.inl (false, (s.fresh n k w).1, (s.fresh n k w).2.C, (s.fresh n k w).2.D, (s.fresh n k w).2.A, (s.fresh n k w).2.W, (s.fresh n k w).2.V, [])) := by
  have hwr : drive_Drive_Fresh.c k w (n : Int) g1 g2 g3 g4 g5 (n : Int) s.C s.D s.A s.W s.V = some ((s.fresh n k w).1, (s.fresh n k w).2.C, (s.fresh n k w).2.D, (s.fresh n k w).2.A, (s.fresh n k w).2.W, (s.fresh n k w).2.V) := by
    rw [drive_Fresh1_eq, ← hM]
    exact drive_Fresh_eq hr ok hs hv (k := k) hw
  simp only [law09_do.c, law09_do.t]
  rw [bb_neg (by rfl), bb_neg (by rfl), bb_neg (by rfl), bb_neg (by rfl), bb_neg (by rfl), bb_pos (by rfl), opt_some hwr, Tw.run_ret]
end
section
variable {n : Nat} {g1 g2 g3 g4 g5 : Int} (hr : GeoR (n : Int) g1 g2 g3 g4 g5) (ok : GeoOK (n : Int) g1 g2 g3 g4 g5) {s : Fl} (hs : FlOK n s) (hM : s.M = []) (hD : s.D = false) (hA : s.A < 0) (hv : (s.V.length : Int) = 2 + 2 * g1 + g2)
include hr ok hs hM hD hA hv
theorem c15_write (k at_ c : Int) {w : List Int} (ha : InR .i64 at_) (hw : Words w) (hwl : w.length ≤ 200) : law09_DriveStands.C15 (n : Int) g1 g2 g3 g4 g5 1 k at_ c w (n : Int) s.C s.D s.A s.W s.V (n : Int) g1 g2 g3 g4 g5 = some true := by
  have hwl2 := hs.wl
  have words : ∀ {s' : Fl} (n C : Int) (D : Bool) (A : Int) (V : List Int), s'.W.length ≤ 524288 → flash_Flash_Words_v2.c n C D A s'.W V = some s'.W := fun n C D A V hl => by
    simp only [flash_Flash_Words_v2.c, flash_Flash_Words_v2.t]
    rw [opt_some (clone32_eq (by omega)), Tw.run_ret]
  obtain ⟨hbad, hok⟩ := dwrite_lit hs hD hA hw k at_
  have hdo := do_write hr ok hs hM hv k at_ c ha hw
  have okr := dwrite_ok hs k at_ hw
  have wlr := okr.1.wl
  simp only [law09_DriveStands.C15, law09_DriveStands.c15]
  rw [opt_some (words _ _ _ _ _ hwl2), opt_some (x := ()) (by rfl), opt_some hdo, sm_inl]
  generalize hrr : s.dwrite n k at_ w = r at *
  rw [opt_some (words _ _ _ _ _ wlr), opt_some (x := ()) (by rfl)]
  by_cases h0 : r.1 = 0
  rotate_left
  · obtain ⟨e1, e2⟩ := hbad h0
    rw [e1] at wlr ⊢
    rw [bb_neg (by simp), bb_pos (by simpa using h0), opt_some (same_refl (by omega)), bb_pos (by rfl), bb_pos (by simp)]
    rcases e2 with e2 | e2
    · rw [bb_pos (by simpa using e2), opt_some awake09, Tw.run_ret]
    · rw [bb_neg (by rw [e2]; rfl), bb_pos (by simpa using e2), bb_pos (by rfl), opt_some awake09, Tw.run_ret]
  obtain ⟨j, b, rfl, rfl, hb, hjn, hlen, hget, hagain, cc, hc1, hc2⟩ := hok h0
  have e64 : w64 ((j : Int) * (n : Int)) = ((j * n : Nat) : Int) := by rw [← Int.natCast_mul, w64_of (by omega) (by omega)]
  have hL := l24_eq (kind := 1) (c := c) (n := n) (j := j) (b := b) (w := w) (W := s.W) (W' := r.2.W) (V := s.V) s.C r.2.C r.2.D r.2.A g1 g2 g3 g4 g5 (j : Int) g1 g2 g3 g4 g5 (n : Int) hlen (by omega) (by omega) (by omega) hwl (fun i hi => by
    rw [hget]
    unfold putAt wantS
    rw [if_neg (c := (1 : Int) = 5 ∧ _) (fun h => absurd h.1 (by decide))])
  rw [bb_neg (by rw [hlen]; simp), bb_neg (by rw [h0]; rfl), e64, opt_some hL, sm_inl, bb_pos (by rfl)]
  have hdo2 := do_write hr ok okr.1 (by rw [okr.2.2]; exact hM) (by rw [okr.2.1]; exact hv) (j : Int) (b : Int) c ha hw
  rw [hagain, okr.2.1] at hdo2
  have hm : (w64 (r.2.C - s.C) - (cc : Int)) % 18446744073709551616 = 0 := by
    have := w64_mod (r.2.C - s.C)
    omega
  have hm2 : w64 (r.2.C - s.C) = (cc : Int) := by
    have e : w64 (r.2.C - s.C) = w64 (cc : Int) := by
      have e : ∀ x : Int, w64 x = if x % 18446744073709551616 ≥ 9223372036854775808 then x % 18446744073709551616 - 18446744073709551616 else x % 18446744073709551616 := fun x => by
        simp [IntKind.wrap, IntKind.bits, IntKind.signed]
      rw [e, e]
      have : (r.2.C - s.C) % 18446744073709551616 = (cc : Int) % 18446744073709551616 := by omega
      rw [this]
    rw [e, w64_of (by omega) (by omega)]
  rw [opt_some hdo2, sm_inl, opt_some (x := ()) (by rfl), bb_pos (by simp), hm2, bb_pos (decide_eq_true (by omega)), opt_some awake09, Tw.run_ret]
theorem c15_fresh (k c : Int) {w : List Int} (hw : Words w) (hwl : w.length ≤ 200) : law09_DriveStands.C15 (n : Int) g1 g2 g3 g4 g5 5 k 0 c w (n : Int) s.C s.D s.A s.W s.V (n : Int) g1 g2 g3 g4 g5 = some true := by
  have hwl2 := hs.wl
  have words : ∀ {s' : Fl} (n C : Int) (D : Bool) (A : Int) (V : List Int), s'.W.length ≤ 524288 → flash_Flash_Words_v2.c n C D A s'.W V = some s'.W := fun n C D A V hl => by
    simp only [flash_Flash_Words_v2.c, flash_Flash_Words_v2.t]
    rw [opt_some (clone32_eq (by omega)), Tw.run_ret]
  obtain ⟨hbad, hok⟩ := fresh_lit hs hD hA hw k
  have hdo := do_fresh hr ok hs hM hv k 0 c hw
  have okr := fresh_ok hs k hw
  have wlr := okr.1.wl
  simp only [law09_DriveStands.C15, law09_DriveStands.c15]
  rw [opt_some (words _ _ _ _ _ hwl2), opt_some (x := ()) (by rfl), opt_some hdo, sm_inl]
  generalize hrr : s.fresh n k w = r at *
  rw [opt_some (words _ _ _ _ _ wlr), opt_some (x := ()) (by rfl)]
  by_cases h0 : r.1 = 0
  rotate_left
  · obtain ⟨e1, e2⟩ := hbad h0
    rw [e1] at wlr ⊢
    rw [bb_neg (by simp), bb_pos (by simpa using h0), opt_some (same_refl (by omega)), bb_pos (by rfl), bb_pos (by simp), bb_pos (by simpa using e2), opt_some awake09, Tw.run_ret]
  obtain ⟨j, rfl, hb, hjn, hlen, hget⟩ := hok h0
  have e64 : w64 ((j : Int) * (n : Int)) = ((j * n : Nat) : Int) := by rw [← Int.natCast_mul, w64_of (by omega) (by omega)]
  have hL := l24_eq (kind := 5) (c := c) (n := n) (j := j) (b := 0) (w := w) (W := s.W) (W' := r.2.W) (V := r.2.V) s.C r.2.C r.2.D r.2.A g1 g2 g3 g4 g5 (j : Int) g1 g2 g3 g4 g5 (n : Int) hlen (by omega) (by omega) (by omega) hwl (fun i hi => by
    rw [hget]
    unfold wantS
    rw [Nat.add_zero]
    congr 1
    simp only [true_and])
  rw [show ((0 : Nat) : Int) = 0 from rfl] at hL
  rw [bb_neg (by rw [hlen]; simp), bb_neg (by rw [h0]; rfl), e64, opt_some hL, sm_inl, bb_neg (by rfl), opt_some awake09, Tw.run_ret]
end

theorem kind_of (a : Int) : bAnd .i64 a 1 = 0 ∨ bAnd .i64 a 1 = 1 := by
  have e : (BitVec.ofInt 64 a &&& BitVec.ofInt 64 1).toNat = (BitVec.ofInt 64 a).toNat % 2 := by
    rw [BitVec.toNat_and, show (BitVec.ofInt 64 1).toNat = 1 by decide, Nat.and_one_is_mod]
  have h2 : bAnd .i64 a 1 = w64 ((((BitVec.ofInt 64 a).toNat % 2 : Nat)) : Int) := by
    show w64 ((BitVec.ofInt 64 a &&& BitVec.ofInt 64 1).toNat : Int) = _
    rw [e]
  rw [h2, w64_of (by omega) (by omega)]
  omega

theorem DriveStands (a0_0 : Int) (a0_1 : Int) (a0_2 : Int) (a0_3 : Int) (a0_4 : Int) (a0_5 : Int) (a1 : List Act9) (a2_0 : Int) (a2_1 : Int) (a2_2 : Int) (a2_3 : Int) (a2_4 : List Int) (w0 : InR .i64 a0_0) (w1 : InR .i64 a0_1) (w2 : InR .i64 a0_2) (w3 : InR .i64 a0_3) (w4 : InR .i64 a0_4) (w5 : InR .i64 a0_5) (w6 : a1.length * 56 ≤ reachBytes) (w7 : ∀ x8 ∈ a1, InR .i64 x8.kind ∧ InR .i64 x8.s ∧ InR .i64 x8.at_ ∧ InR .i64 x8.n ∧ x8.w.length * 4 ≤ reachBytes ∧ (∀ x14 ∈ x8.w, InR .u32 x14)) (w8 : InR .i64 a2_0) (w9 : InR .i64 a2_1) (w10 : InR .i64 a2_2) (w11 : InR .i64 a2_3) (w12 : a2_4.length * 4 ≤ reachBytes) (w13 : ∀ x21 ∈ a2_4, InR .u32 x21) : law09_DriveStands.c a0_0 a0_1 a0_2 a0_3 a0_4 a0_5 a1 a2_0 a2_1 a2_2 a2_3 a2_4 = some true := by
  have rb := reach_eq
  have hr : GeoR a0_0 a0_1 a0_2 a0_3 a0_4 a0_5 := ⟨w0, w1, w2, w3, w4, w5⟩
  obtain ⟨b0, hsm, hok⟩ := ref08_Small_eq hr
  obtain ⟨b1, hg, hgb⟩ := law09_great_eq (l := a1) (by omega)
  simp only [law09_DriveStands.c, law09_DriveStands.t]
  rw [opt_some hsm]
  cases b0 with
  | false => rw [bb_pos (by rfl), opt_some awake09, Tw.run_ret]
  | true =>
    have ok := hok rfl
    rw [bb_neg (by rfl), opt_some hg]
    cases b1 with
    | true => rw [bb_pos (by rfl), opt_some awake09, Tw.run_ret]
    | false =>
      obtain ⟨q1, q2⟩ := hgb rfl
      rw [bb_neg (by rfl)]
      by_cases hwl : ((a2_4.length : Nat) : Int) > 200
      · rw [bb_pos (decide_eq_true hwl), opt_some awake09, Tw.run_ret]
      have hx : ∀ x ∈ a1, ActS x := fun x hx => ⟨(w7 x hx).2.2.1, (w7 x hx).2.2.2.1, q2 x hx, (w7 x hx).2.2.2.2.2⟩
      have ok' := ok
      unfold GeoOK at ok'
      obtain ⟨n, rfl⟩ : ∃ n : Nat, a0_0 = (n : Int) := ⟨a0_0.toNat, by omega⟩
      obtain ⟨m, hm⟩ : ∃ m : Nat, 2 + 2 * a0_1.toNat + a0_2.toNat = m := ⟨_, rfl⟩
      have hmap : ref08_Map.c (n : Int) a0_1 a0_2 a0_3 a0_4 a0_5 = some (mapL a0_1.toNat m) := (ref08_Map_eq hr).trans (by rw [if_pos ok, hm])
      have hN := flash_New_eq (a := m) (b := n) (by omega) (by omega) (by omega) (by omega)
      have okN := flNew_ok (a := m) (b := n) (by omega) (by omega) (by omega) (by omega)
      have hv : (((flNew m n).V.length : Nat) : Int) = 2 + 2 * a0_1 + a0_2 := by simp [flNew]; omega
      obtain ⟨s', h1, h3, h4⟩ := loopS hr ok okN hv hx q1 a2_0 a2_1 a2_2 a2_3 a2_4
      rw [show (flNew m n).M = [] from rfl] at h4
      have hP : FlOK n (s'.power []) := power_ok h1 words_nil (by simp)
      have hs6 : s6d s' = (s'.C, s'.D, s'.A, s'.W, s'.V, s'.M) := rfl
      rw [hs6] at h4
      rw [bb_neg (decide_eq_false hwl), opt_some hmap, mapL_len, opt_some hN, sm_inl, opt_some (drive_New_eq hr ..), if_pos ⟨ok, hv, rfl⟩, sm_inl, bb_neg (by rfl), bb_neg (by rfl), opt_some h4,
        opt_some (x := (false, -1)) (by rfl)]
      have hC1 := c15_write hr ok hP rfl rfl (by show (-1 : Int) < 0; decide) h3 a2_1 a2_2 a2_3 w10 w13 (by omega)
      have hC5 := c15_fresh hr ok hP rfl rfl (by show (-1 : Int) < 0; decide) h3 a2_1 a2_3 w13 (by omega)
      rcases kind_of a2_0 with hk | hk
      · rw [hk, show w64 (1 + w64 (4 * 0)) = 1 by decide, bb_neg (by rfl), opt_some (x := true) (by exact hC1), Tw.run_ret]
      · rw [hk, show w64 (1 + w64 (4 * 1)) = 5 by decide, bb_pos (by rfl), opt_some (x := true) (by exact hC5), Tw.run_ret]

end Go.Proofs.Ytpidbpmkogbdeaa.Pure
