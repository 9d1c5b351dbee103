/- MASKED. The plain truth of BookFolds. -/
import Derived.Test.YtkoidgjgdhpdnaaFlaw34BookFolds
import Derived.Test.YtkoidgjgdhpdnaaQAll2
set_option linter.unusedSimpArgs false
set_option linter.unusedVariables false
namespace Go.Proofs.Ytkoidgjgdhpdnaa.Pure
open Go Go.Proofs.Ytkoidgjgdhpdnaa.Va

section
variable {n : Nat} {g1 g2 g3 g4 g5 : Int} {C : Int} {D : Bool} {A : Int} {W V M : List Int} {c : Int} {t : Bool} {j : JS} (hb : JB n j)
include hb
/-- Both fold alike. -/
theorem fold_both (hw : Words j.whole) (tl se : Int) : ∃ v : T32, book_Fold.c c tl t se j.whole (n : Int) g1 g2 g3 g4 g5 (n : Int) C D A W V M j.chg = some v ∧ ref34_Fold.c j.whole j.chg = some v := by
 obtain ⟨v, p, q⟩ := take_both hw
 refine ⟨_, ?_, ref34_Fold_eq hw hb.chg q⟩
 have hL := book_L5_eq hb.chg (c := c) (tl := tl) (t := t) (sq := se) (wh := j.whole) (a1 := (n : Int)) (a2 := g1) (a3 := g2) (a4 := g3) (a5 := g4) (a6 := g5) (b1 := (n : Int)) (b3 := C) (b4 := D) (b5 := A) (W := W) (V := V) (M := M) (cc := j.chg) sa0 j.chg.length 0 (saOf v) (eOf v) (by omega)
 rw [List.drop_zero] at hL
 simp only [book_Fold.c, book_Fold.t]
 rw [opt_some (x := j.whole) (by exact whole_eq hb ..), opt_some p, opt_some (x := j.chg) (by exact changes_eq hb ..), opt_some (by exact hL), Tw.run_ret]
 rfl
end

theorem gF : GeoR ((64 : Nat) : Int) 2 5 2 1 1000 ∧ GeoOK ((64 : Nat) : Int) 2 5 2 1 1000 := ⟨by refine ⟨?_, ?_, ?_, ?_, ?_, ?_⟩ <;> decide, by decide⟩
theorem folds_loop {l : List (Int × Int × Int)} (hl : l.length ≤ 30) (hlw : ∀ x ∈ l, InR .u32 x.1 ∧ InR .u32 x.2.1 ∧ InR .u32 x.2.2) {wh : List Int} (hw : Words wh) (hwl : wh.length ≤ 56) : ∀ (k i : Nat) (s : Fl) (c : Nat) (t : Bool) (j : JS), k + i = l.length → FlOK 64 s → Lit s → s.V.length = 11 → JIn 64 s c t j →
  law34_BookFolds.L12 l wh (i : Int) 64 2 5 2 1 1000 64 s.C s.D s.A s.W s.V s.M (c : Int) (j.tail : Int) t j.seq j.whole j.chg (c : Int) (j.tail : Int) t j.seq j.whole 64 2 5 2 1 1000 64 s.C s.D s.A s.W s.V s.M j.chg = some (.inl ())
 | 0, i, s, c, t, j, h, hs, hL, hv, hI => by
  refine Lp_end ?_
  simp only [law34_BookFolds.l12]
  rw [bb_neg (decide_eq_false (by omega))]
  rfl
 | k + 1, i, s, c, t, j, h, hs, hL, hv, hI => by
  have hi : i < l.length := by omega
  have hg : l[(i : Int).toNat]? = some l[i] := by rw [Int.toNat_natCast]; exact List.getElem?_eq_getElem hi
  obtain ⟨x1, x2, x3⟩ := hlw _ (List.getElem_mem hi)
  have e1 : w64 ((i : Int) + 1) = ((i + 1 : Nat) : Int) := by rw [w64_of (by omega) (by omega)]; omega
  obtain ⟨hjb, _⟩ := hI.jb (show 64 ≤ 1024 by decide)
  have hx : Words [l[i].1, l[i].2.1, l[i].2.2] := words_cons x1 (words_cons x2 (words_cons x3 words_nil))
  have hv2 : (s.V.length : Int) = 2 + 2 * 2 + 5 := by rw [hv]; rfl
  have hC := change_eq gF.1 gF.2 hs hv2 hI.lt (t := t) hjb hx hw (by simp) (show wh.length ≤ 1000 by omega)
  have hP := rput_eq gF.1 gF.2 hs hv2 hI.lt (t := t) hjb (kind := 2) (Or.inr rfl) hx hw (by simp) (show wh.length ≤ 1000 by omega)
  have hE := jput_end hs hL.1 (show 59 ≤ 64 by decide) (show 2 ≤ s.V.length by omega) hI (life := 1000) (by decide) (Or.inr rfl) hx hw
  have hL2 := jput_Lit (n := 64) hL 1000 c t j 2 [l[i].1, l[i].2.1, l[i].2.2] wh
  generalize s.jput 64 1000 c t j 2 [l[i].1, l[i].2.1, l[i].2.2] wh = r at *
  obtain ⟨er, s', c', t', j'⟩ := r
  obtain ⟨r1, r2, r3, r4⟩ := hE
  simp only at r1 r2 r3 r4 hL2
  rcases r4 with ⟨_, _, hI', _⟩ | ⟨_, q, _⟩
  rotate_left
  ·rw [hL2.1] at q
   cases q
  obtain ⟨hjb', _, _, hww⟩ := hI'.jb (show 64 ≤ 1024 by decide)
  have hv' : s'.V.length = 11 := by rw [r2]; exact hv
  have hO := jopen_eq gF.1 gF.2 r1 (by rw [hv']; rfl) hL2.1 hI' (show 2 ≤ s'.V.length by omega)
  have hF := fold_both (g1 := 2) (g2 := 5) (g3 := 2) (g4 := 1) (g5 := 1000) (C := s'.C) (D := s'.D) (A := s'.A) (W := s'.W) (V := s'.V) (M := s.M) (c := (c' : Int)) (t := t') hjb' hww (j'.tail : Int) j'.seq
  obtain ⟨v, f1, f2⟩ := hF
  rw [r3] at hO
  have ih := folds_loop hl hlw hw hwl k (i + 1) s' c' t' j' (by omega) r1 hL2 hv' hI'
  rw [r3] at ih
  refine (Lp_next (s' := (((i + 1 : Nat) : Int), s'.C, s'.D, s'.A, s'.W, s'.V, (c' : Int), (j'.tail : Int), t', j'.seq, j'.whole, j'.chg, (c' : Int), (j'.tail : Int), t', j'.seq, j'.whole, s'.C, s'.D, s'.A, s'.W, s'.V, j'.chg)) ?_).trans ih
  simp only [law34_BookFolds.l12]
  rw [bb_pos (decide_eq_true (by omega)), dd_pos (by omega), opt_some hg, dd_pos (by omega), opt_some hg, dd_pos (by omega), opt_some hg, opt_some (by exact hC), opt_some (by exact hP)]
  by_cases h5 : Int.tmod (i : Int) 5 = 4
  ·rw [bb_pos (by rw [beq_iff_eq]; exact h5), opt_some (by exact hO), sm_inr, bb_neg (by rfl), opt_some (x := v) (by exact f1), opt_some (x := v) (by exact f2), bb_neg (by simp), bb_neg (by simp only [beq_self_eq_true, Bool.true_and, Bool.and_true, Bool.not_true]), Tw.run_ret, e1]
   rfl
  ·rw [bb_neg (beq_eq_false_iff_ne.2 h5), opt_some (x := v) (by exact f1), opt_some (x := v) (by exact f2), bb_neg (by simp), bb_neg (by simp only [beq_self_eq_true, Bool.true_and, Bool.and_true, Bool.not_true]), Tw.run_ret, e1]
   rfl

theorem bookFolds (s : SA) (k0 : CdW s.c0) (k1 : CdW s.c1) {l : List (Int × Int × Int)} (hlw : ∀ x ∈ l, InR .u32 x.1 ∧ InR .u32 x.2.1 ∧ InR .u32 x.2.2) {wh : List Int} (hw : Words wh) : law34_BookFolds.c s.m s.a s.l s.f s.t s.c0.x0 s.c0.x1 s.c0.x2 s.c0.x3 s.c0.x4 s.c0.x5 s.c0.x6 s.c0.x7 s.c0.x8 s.c0.x9 s.c0.x10 s.c1.x0 s.c1.x1 s.c1.x2 s.c1.x3 s.c1.x4 s.c1.x5 s.c1.x6 s.c1.x7 s.c1.x8 s.c1.x9 s.c1.x10 s.r s.g s.r2 s.g2 l wh = some true := by
 simp only [law34_BookFolds.c, law34_BookFolds.t]
 rw [opt_some (ref34_Right_eq s)]
 by_cases h : RightS s
 rotate_left
 ·rw [decide_eq_false h, bb_pos (by rfl), opt_some awake34, Tw.run_ret]
 rw [decide_eq_true h, bb_neg (by rfl)]
 by_cases h1 : (l.length : Int) > 30
 ·rw [bb_pos (decide_eq_true h1), opt_some awake34, Tw.run_ret]
 rw [bb_neg (decide_eq_false h1)]
 by_cases h2 : (wh.length : Int) < 1
 ·rw [bb_pos (decide_eq_true h2), opt_some awake34, Tw.run_ret]
 rw [bb_neg (decide_eq_false h2)]
 by_cases h3 : (wh.length : Int) > 56
 ·rw [bb_pos (decide_eq_true h3), opt_some awake34, Tw.run_ret]
 rw [bb_neg (decide_eq_false h3)]
 have hLay := ref34_Lay_eq h
 have hBw := layB_words h k0 k1
 have hBl : loadOK (layB s) := by show 1 ≤ 26 ∧ 26 ≤ 56; decide
 have hm : 2 + 2 * (2 : Int).toNat + (5 : Int).toNat = 11 := by decide
 have hN := new_eq gF.1 gF.2 hm hBw (show (layB s).length ≤ 1000 by show 26 ≤ 1000; decide)
 have hR := rnew_eq gF.1 gF.2 hm hBw (show (layB s).length ≤ 1000 by show 26 ≤ 1000; decide)
 rw [if_pos hBl] at hN hR
 obtain ⟨i1, i2, i3, i4, i5, _⟩ := new_in (n := 64) gF.2 hm hBw hBl
 have hFl := flash_New_eqM (a := 11) (b := 64) (by decide) (by decide) (by decide) (by decide)
 have hD := drive_New_eqM gF.1 ((64 : Nat) : Int) (flNew 11 64).C (flNew 11 64).D (flNew 11 64).A (flNew 11 64).W (flNew 11 64).V (flNew 11 64).M
 rw [if_pos ⟨gF.2, by decide, rfl⟩] at hD
 have h9 := ref09_New_eqM gF.1 gF.2 hm
 have hL := folds_loop (show l.length ≤ 30 by omega) hlw hw (by omega) l.length 0 (newS 11 64 (layB s)) 0 false ⟨(layB s).length + 3, 1, layB s, []⟩ (by omega) i1 i2 (by rw [i3]) i5
 rw [i4] at hL
 rw [opt_some (by exact hFl), sm_inl, opt_some (by exact hD), sm_inl, opt_some (by exact h9), sm_inl, opt_some hLay, opt_some (by exact hN), sm_inl, opt_some hLay, opt_some (by exact hR), sm_inl, bb_neg (by rfl), bb_neg (by rfl), opt_some (x := .inl ()) (by exact hL), sm_inl, opt_some (x := sa0.out 1) (by rfl), bb_pos (by rfl), bb_pos (by rfl), opt_some awake34, Tw.run_ret]

theorem BookFolds (a0_0 : Int) (a0_1 : Int) (a0_2 : Int) (a0_3 : Bool) (a0_4 : Int) (a0_5_0_0 : Int) (a0_5_0_1 : Int) (a0_5_0_2 : Int) (a0_5_0_3_0 : Int) (a0_5_0_3_1 : Int) (a0_5_0_3_2 : Int) (a0_5_0_3_3 : Int) (a0_5_0_3_4 : Int) (a0_5_0_3_5 : Int) (a0_5_0_3_6 : Int) (a0_5_0_3_7 : Int) (a0_5_1_0 : Int) (a0_5_1_1 : Int) (a0_5_1_2 : Int) (a0_5_1_3_0 : Int) (a0_5_1_3_1 : Int) (a0_5_1_3_2 : Int) (a0_5_1_3_3 : Int) (a0_5_1_3_4 : Int) (a0_5_1_3_5 : Int) (a0_5_1_3_6 : Int) (a0_5_1_3_7 : Int) (a0_6 : Int) (a0_7 : Int) (a0_8 : Int) (a0_9 : Int) (a1 : List (Int × Int × Int)) (a2 : List Int) (w0 : InR .i64 a0_0) (w1 : InR .i64 a0_1) (w2 : InR .i64 a0_2) (w3 : InR .i64 a0_4) (w4 : InR .i64 a0_5_0_0) (w5 : InR .i64 a0_5_0_1) (w6 : InR .i64 a0_5_0_2) (w7 : InR .u32 a0_5_0_3_0) (w8 : InR .u32 a0_5_0_3_1) (w9 : InR .u32 a0_5_0_3_2) (w10 : InR .u32 a0_5_0_3_3) (w11 : InR .u32 a0_5_0_3_4) (w12 : InR .u32 a0_5_0_3_5) (w13 : InR .u32 a0_5_0_3_6) (w14 : InR .u32 a0_5_0_3_7) (w15 : InR .i64 a0_5_1_0) (w16 : InR .i64 a0_5_1_1) (w17 : InR .i64 a0_5_1_2) (w18 : InR .u32 a0_5_1_3_0) (w19 : InR .u32 a0_5_1_3_1) (w20 : InR .u32 a0_5_1_3_2) (w21 : InR .u32 a0_5_1_3_3) (w22 : InR .u32 a0_5_1_3_4) (w23 : InR .u32 a0_5_1_3_5) (w24 : InR .u32 a0_5_1_3_6) (w25 : InR .u32 a0_5_1_3_7) (w26 : InR .i64 a0_6) (w27 : InR .i64 a0_7) (w28 : InR .i64 a0_8) (w29 : InR .i64 a0_9) (w30 : a1.length * 12 ≤ reachBytes) (w31 : ∀ x32 ∈ a1, InR .u32 x32.1 ∧ InR .u32 x32.2.1 ∧ InR .u32 x32.2.2) (w32 : a2.length * 4 ≤ reachBytes) (w33 : ∀ x37 ∈ a2, InR .u32 x37) : law34_BookFolds.c a0_0 a0_1 a0_2 a0_3 a0_4 a0_5_0_0 a0_5_0_1 a0_5_0_2 a0_5_0_3_0 a0_5_0_3_1 a0_5_0_3_2 a0_5_0_3_3 a0_5_0_3_4 a0_5_0_3_5 a0_5_0_3_6 a0_5_0_3_7 a0_5_1_0 a0_5_1_1 a0_5_1_2 a0_5_1_3_0 a0_5_1_3_1 a0_5_1_3_2 a0_5_1_3_3 a0_5_1_3_4 a0_5_1_3_5 a0_5_1_3_6 a0_5_1_3_7 a0_6 a0_7 a0_8 a0_9 a1 a2 = some true := by
 exact bookFolds ⟨a0_0, a0_1, a0_2, a0_3, a0_4, ⟨a0_5_0_0, a0_5_0_1, a0_5_0_2, a0_5_0_3_0, a0_5_0_3_1, a0_5_0_3_2, a0_5_0_3_3, a0_5_0_3_4, a0_5_0_3_5, a0_5_0_3_6, a0_5_0_3_7⟩, ⟨a0_5_1_0, a0_5_1_1, a0_5_1_2, a0_5_1_3_0, a0_5_1_3_1, a0_5_1_3_2, a0_5_1_3_3, a0_5_1_3_4, a0_5_1_3_5, a0_5_1_3_6, a0_5_1_3_7⟩, a0_6, a0_7, a0_8, a0_9⟩ ⟨w7, w8, w9, w10, w11, w12, w13, w14⟩ ⟨w18, w19, w20, w21, w22, w23, w24, w25⟩ w31 w33

end Go.Proofs.Ytkoidgjgdhpdnaa.Pure
