/- Plain texts that JournalKeeps leans on, put together. -/
import Derived.Test.YtkoidgjgdhpdnaaGreatQAll1
import Derived.Test.YtkoidgjgdhpdnaaGreatFlaw11
set_option linter.unusedSimpArgs false
set_option linter.unusedVariables false
namespace Go.Proofs.YtkoidgjgdhpdnaaGreat.Pure
open Go Go.Proofs.YtkoidgjgdhpdnaaGreat.Va

theorem lay_many (fs : List Fm) : fs.length ≤ (layJ fs).length := by
 induction fs with
 | nil => simp [layJ]
 | cons f fs ih =>
  rw [show layJ (f :: fs) = f.w ++ layJ fs from rfl, List.length_append, f.len, List.length_cons]
  omega
theorem stJ_bounds {fs : List Fm} (ok : ∀ f ∈ fs, f.ok) (ch : ChainJ fs) : ∀ i, i ≤ fs.length → (1 ≤ i → loadOK (stJ (fs.take i)).whole ∧ Words (stJ (fs.take i)).whole) ∧ (i = 0 → (stJ (fs.take i)).whole = []) ∧ (stJ (fs.take i)).chg.length ≤ i ∧ (∀ l ∈ (stJ (fs.take i)).chg, l.length ≤ 56) ∧ (stJ (fs.take i)).seq ≤ 1073741823
 | 0, _ => by simp [stJ, j0]
 | i + 1, h => by
  obtain ⟨h1, _, h2, h3, h4⟩ := stJ_bounds ok ch i (by omega)
  have hf : fs[i]? = some fs[i] := List.getElem?_eq_getElem (by omega)
  have hfo := ok _ (List.getElem_mem (show i < fs.length by omega))
  have hg := ch i _ hf
  rw [stJ_next hf]
  generalize fs[i] = f at *
  obtain ⟨⟨p1, p2, p3, p4, p5⟩, p6⟩ := hfo
  rw [add_seq]
  unfold JS.add
  by_cases hk : f.k = 1
  ·rw [if_pos hk]
   exact ⟨fun _ => ⟨⟨p4, p5⟩, p6⟩, fun h => by omega, by simp, by simp, p3⟩
  ·rw [if_neg hk]
   have hi : 1 ≤ i := by
    by_cases h0 : i = 0
    ·subst h0
     exact absurd (hg.1 (by simp [stJ, j0])) hk
    ·omega
   refine ⟨fun _ => h1 hi, fun h => by omega, by simp only [List.length_append, List.length_singleton]; omega, fun l hl => ?_, p3⟩
   rcases List.mem_append.1 hl with hl | hl
   ·exact h3 l hl
   ·rw [List.mem_singleton.1 hl]; exact p5
theorem Sh.jb {n : Nat} {u : Nat → Int} {fs : List Fm} {m : Nat} (h : Sh n u fs m) (hn : n ≤ 1024) {i : Nat} (hi : i ≤ m) : JB n (stJ (fs.take i)) := by
 have hl := h.ml
 obtain ⟨h1, h0, h2, h3, h4⟩ := stJ_bounds h.ok h.ch i (by omega)
 have h5 := layJ_take_all fs i
 have h6 := h.le
 have h7 := lay_many (fs.take i)
 rw [List.length_take] at h7
 refine ⟨by rw [stJ_tail]; omega, seq_nonneg h.ok h.ch i (by omega), h4, ?_, by omega, h3⟩
 by_cases hi0 : i = 0
 ·rw [h0 hi0]; simp
 ·exact (h1 (by omega)).1.2
theorem JIn.jb {n : Nat} {s : Fl} {c : Nat} {t : Bool} {j : JS} (h : JIn n s c t j) (hn : n ≤ 1024) : JB n j ∧ 1 ≤ j.seq ∧ loadOK j.whole ∧ Words j.whole := by
 obtain ⟨fs, m, hS, hm, hj⟩ := h.sh
 rw [hj]
 have := stJ_bounds hS.ok hS.ch m hS.ml
 exact ⟨hS.jb hn (Nat.le_refl _), seq_pos hS.ok hS.ch hm hS.ml, this.1 hm⟩

theorem torn_eq {n : Nat} {s : Fl} {k tl : Nat} (hl : tl ≤ n) : (!((rd s.W (k * n + tl) (n - tl)).all (· == 4294967295))) = tornB s n k tl := by
 have e : (rd s.W (k * n + tl) (n - tl)).all (· == 4294967295) = true ↔ ∀ i, tl ≤ i → i < n → sec s n k i = 4294967295 := by
  rw [List.all_eq_true]
  constructor
  ·intro h i h1 h2
   have := h (s.W.getD (k * n + i) 0) (List.mem_of_getElem? (i := i - tl) (by rw [rd_get (by omega), show k * n + tl + (i - tl) = k * n + i by omega]))
   exact of_decide_eq_true this
  ·intro h x hx
   obtain ⟨i, hi, rfl⟩ := List.mem_map.1 hx
   have hi := List.mem_range.1 hi
   have := h (tl + i) (by omega) (by omega)
   unfold sec at this
   rw [show k * n + tl + i = k * n + (tl + i) by omega, this]
   rfl
 have e2 := tornB_iff s n k tl
 cases hb : (rd s.W (k * n + tl) (n - tl)).all (· == 4294967295)
 ·cases ht : tornB s n k tl
  ·exact absurd (e.2 (e2.1 ht)) (by rw [hb]; simp)
  ·rfl
 ·rw [e2.2 (e.1 hb)]
  rfl
theorem blank_at {n : Nat} {s : Fl} (hD : s.D = false) {k tl : Nat} (hk : k < s.V.length) (hl : tl ≤ n) : s.blank n (k : Int) (tl : Int) = (!(tornB s n k tl), 0) := by
 have hd : s.dread n (k : Int) (tl : Int) ((n : Int) - (tl : Int)) = (0, rd s.W (k * n + tl) (n - tl)) := by
  have := dread_yes (n := n) hD (j := k) (b := tl) (c := n - tl) hk (by omega)
  rw [show ((n : Int) - (tl : Int)) = ((n - tl : Nat) : Int) by omega]
  exact this
 unfold Fl.blank
 rw [if_neg (by omega), hd, if_neg (by simp), ← torn_eq hl, Bool.not_not]
abbrev X4J : Type := Int × (Int × (List Int × List (List Int)))
def x4 (j : JS) : X4J := ((j.tail : Int), j.seq, j.whole, j.chg)
section
variable {n : Nat} {g1 g2 g3 g4 g5 : Int} (hr : GeoR (n : Int) g1 g2 g3 g4 g5) (ok : GeoOK (n : Int) g1 g2 g3 g4 g5) {s : Fl} (hs : FlOK n s) (hv : (s.V.length : Int) = 2 + 2 * g1 + g2) (hD : s.D = false)
include hr ok hs hv hD
theorem read_eq {k : Nat} (hk : k < s.V.length) {fs : List Fm} {m : Nat} (hS : Sh n (sec s n k) fs m) :
  journal_read.c (k : Int) (n : Int) g1 g2 g3 g4 g5 (n : Int) s.C s.D s.A s.W s.V s.M = some (((stJ (fs.take m)).tail : Int), tornB s n k (stJ (fs.take m)).tail, (stJ (fs.take m)).seq, (stJ (fs.take m)).whole, 0, (stJ (fs.take m)).chg) := by
 have ok' := ok
 unfold GeoOK at ok'
 have hS' : Sh n (fun i => s.W.getD (k * n + i) 0) fs m := hS
 obtain ⟨hst, htl⟩ := hS'.stops
 have hrl : (rd s.W (k * n) n).length = n := rd_len _ _ _
 have hw : Words (rd s.W (k * n) n) := rd_words hs.w _ _
 have hd : s.dread n (k : Int) 0 (n : Int) = (0, rd s.W (k * n) n) := by
  have := dread_yes (n := n) hD (j := k) (b := 0) (c := n) hk (by omega)
  exact this
 have hL : ∀ (p1 p2 : Int) (p3 : Bool) (p4 p5 : Int) (p6 : Bool), journal_read.L5 (k : Int) (n : Int) g1 g2 g3 g4 g5 (n : Int) s.C s.D s.A s.W s.V s.M p1 p2 p3 p4 p5 0 p6 0 [] [] (rd s.W (k * n) n) = some (x4 (stJ (fs.take m))) := fun p1 p2 p3 p4 p5 p6 => by
  unfold journal_read.L5
  have key := Lp_seq (fun z : X4J => (journal_read.l5 (k : Int) (n : Int) g1 g2 g3 g4 g5 (n : Int) s.C s.D s.A s.W s.V s.M p1 p2 p3 p4 p5 p6 (rd s.W (k * n) n) z.1 z.2.1 z.2.2.1 z.2.2.2).run) (fun i => x4 (stJ (fs.take i))) (x := x4 (stJ (fs.take m))) m 0 (fun i _ hi => ?_) ?_
  ·exact key
  ·have hi : i < m := by omega
   have hml := hS.ml
   have hf : fs[i]? = some fs[i] := List.getElem?_eq_getElem (by omega)
   obtain ⟨hrd, hle⟩ := hS'.reads hi hf
   have hfo := hS.ok _ (List.getElem_mem (show i < fs.length by omega))
   have hg := hS.ch i _ hf
   have hjb := hS.jb (show n ≤ 1024 by omega) (show i ≤ m by omega)
   have hnx := stJ_next hf
   generalize fs[i] = f at *
   rw [hnx]
   generalize stJ (fs.take i) = j at *
   have hp := hjb.s0
   have hp1 := hjb.s1
   have hfr : frame_Read.c (List.take ((rd s.W (k * n) n).length - Int.toNat (j.tail : Int)) (List.drop (Int.toNat (j.tail : Int)) (rd s.W (k * n) n))) = some (f.k, f.s, (f.l.length : Int) + 3, true, f.l) := by
    rw [Int.toNat_natCast, List.take_of_length_le (by rw [List.length_drop]; omega)]
    exact (frame_Read_eq (words_drop hw _) (by rw [List.length_drop]; omega)).trans (by rw [hrd])
   have hsd := said_eq (n := n) (g1 := g1) (g2 := g2) (g3 := g3) (g4 := g4) (g5 := g5) (f := f) hfo hjb j.tail (by omega) j.seq p5 p6 s.C s.D s.A s.W s.V s.M (n : Int)
   rw [show (f.w.length : Int) = (f.l.length : Int) + 3 by rw [f.len]; rfl] at hsd
   show (journal_read.l5 (k : Int) (n : Int) g1 g2 g3 g4 g5 (n : Int) s.C s.D s.A s.W s.V s.M p1 p2 p3 p4 p5 p6 (rd s.W (k * n) n) (j.tail : Int) j.seq j.whole j.chg).run = some (.inl (((j.add f).tail : Int), (j.add f).seq, (j.add f).whole, (j.add f).chg))
   simp only [journal_read.l5]
   rw [dd_pos (by omega), opt_some hfr, bb_neg (by rfl)]
   by_cases h0 : j.seq = 0
   ·have hk1 := hg.1 h0
    rw [bb_pos (by rw [h0]; rfl), bb_neg (by simp only; rw [hk1]; rfl), bb_neg (decide_eq_false (show ¬(j.seq > 0) by omega)), opt_some hsd, Tw.run_ret]
    simp only [add_tail, add_seq]
   ·have hk1 := hg.2 h0
    have e : w64 (j.seq + 1) = j.seq + 1 := w64_of (by omega) (by omega)
    rw [bb_neg (beq_eq_false_iff_ne.2 h0), bb_pos (decide_eq_true (show j.seq > 0 by omega)), bb_neg (by simp only; rw [hk1, e]; simp), opt_some hsd, Tw.run_ret]
    simp only [add_tail, add_seq]
  ·rw [Nat.zero_add]
   have hfr : frame_Read.c (List.take ((rd s.W (k * n) n).length - Int.toNat ((stJ (fs.take m)).tail : Int)) (List.drop (Int.toNat ((stJ (fs.take m)).tail : Int)) (rd s.W (k * n) n))) = some noF := by
    rw [Int.toNat_natCast, List.take_of_length_le (by rw [List.length_drop]; omega)]
    exact (frame_Read_eq (words_drop hw _) (by rw [List.length_drop]; omega)).trans (by rw [hst])
   simp only [x4, journal_read.l5]
   rw [dd_pos (by omega), opt_some hfr, bb_pos (by rfl), Tw.run_ret]
 simp only [journal_read.c, journal_read.t]
 rw [opt_some (x := ()) (by rfl), opt_some (drive_Read_eq hr ok hs hv (inR_i64 (by decide))), hd, bb_neg (by rfl), opt_some (by exact hL ..), opt_some (x := (!(tornB s n k (stJ (fs.take m)).tail), 0)) (by
  refine (drive_Blank_eq hr ok hs hv (inR_i64 (by simp only [x4]; omega))).trans ?_
  exact congrArg some (blank_at hD hk htl)), Tw.run_ret]
 simp only [x4, Bool.not_not]
theorem scan_eq {k : Nat} (hk : k < s.V.length) {fs : List Fm} {m : Nat} (hS : Sh n (sec s n k) fs m) :
  ref11_scan.c (k : Int) (n : Int) g1 g2 g3 g4 g5 (n : Int) s.C s.D s.A s.W s.V s.M = some (((stJ (fs.take m)).tail : Int), tornB s n k (stJ (fs.take m)).tail, (stJ (fs.take m)).seq, (stJ (fs.take m)).whole, (stJ (fs.take m)).chg) := by
 have ok' := ok
 unfold GeoOK at ok'
 have hS' : Sh n (fun i => s.W.getD (k * n + i) 0) fs m := hS
 obtain ⟨hst, htl⟩ := hS'.stops
 have hrl : (rd s.W (k * n) n).length = n := rd_len _ _ _
 have hw : Words (rd s.W (k * n) n) := rd_words hs.w _ _
 have hmn : 4 * m ≤ n := by
  have hml := hS.ml
  have h5 := layJ_take_all fs m
  have h6 := hS.le
  have : ∀ gs : List Fm, (∀ f ∈ gs, f.ok) → 4 * gs.length ≤ (layJ gs).length := fun gs => by
   induction gs with
   | nil => intro _; simp [layJ]
   | cons f gs ih =>
    intro hok
    have := ih (fun f hf => hok f (by simp [hf]))
    have o := Fm.one (hok f (by simp))
    rw [show layJ (f :: gs) = f.w ++ layJ gs from rfl, List.length_append, f.len, List.length_cons]
    omega
  have := this (fs.take m) (fun f hf => hS.ok f (List.mem_of_mem_take hf))
  rw [List.length_take, Nat.min_eq_left hml] at this
  omega
 have hd : s.dread n (k : Int) 0 (n : Int) = (0, rd s.W (k * n) n) := by
  have := dread_yes (n := n) hD (j := k) (b := 0) (c := n) hk (by omega)
  exact this
 have hL : ∀ (p1 p2 : Int) (p3 : Bool) (p4 p5 : Int) (p6 : Bool), ref11_scan.L4 (k : Int) 0 (n : Int) g1 g2 g3 g4 g5 (n : Int) s.C s.D s.A s.W s.V s.M p1 p2 p3 p4 p5 0 p6 0 [] [] (rd s.W (k * n) n) = some (x4 (stJ (fs.take m))) := fun p1 p2 p3 p4 p5 p6 => by
  unfold ref11_scan.L4
  have key := Lp_seq (fun z : Int × X4J => (ref11_scan.l4 (k : Int) (n : Int) g1 g2 g3 g4 g5 (n : Int) s.C s.D s.A s.W s.V s.M p1 p2 p3 p4 p5 p6 (rd s.W (k * n) n) z.1 z.2.1 z.2.2.1 z.2.2.2.1 z.2.2.2.2).run) (fun i : Nat => ((i : Int), x4 (stJ (fs.take i)))) (x := x4 (stJ (fs.take m))) m 0 (fun i _ hi => ?_) ?_
  ·exact key
  ·have hi : i < m := by omega
   have hml := hS.ml
   have hf : fs[i]? = some fs[i] := List.getElem?_eq_getElem (by omega)
   obtain ⟨hrd, hle⟩ := hS'.reads hi hf
   have hfo := hS.ok _ (List.getElem_mem (show i < fs.length by omega))
   have hg := hS.ch i _ hf
   have hjb := hS.jb (show n ≤ 1024 by omega) (show i ≤ m by omega)
   have hnx := stJ_next hf
   generalize fs[i] = f at *
   rw [hnx]
   generalize stJ (fs.take i) = j at *
   have hp := hjb.s0
   have hp1 := hjb.s1
   have e1 : w64 ((i : Int) + 1) = ((i + 1 : Nat) : Int) := by rw [w64_of (by omega) (by omega)]; rfl
   have hfr : ref10_Read.c (List.take ((rd s.W (k * n) n).length - Int.toNat (j.tail : Int)) (List.drop (Int.toNat (j.tail : Int)) (rd s.W (k * n) n))) = some (f.k, f.s, (f.l.length : Int) + 3, true, f.l) := by
    rw [Int.toNat_natCast, List.take_of_length_le (by rw [List.length_drop]; omega)]
    exact (ref10_Read_eq (words_drop hw _) (by rw [List.length_drop]; omega)).trans (by rw [hrd])
   have hsd := add_eq (n := n) (g1 := g1) (g2 := g2) (g3 := g3) (g4 := g4) (g5 := g5) (f := f) hfo hjb j.tail (by omega) j.seq p5 p6 s.C s.D s.A s.W s.V s.M (n : Int)
   rw [show (f.w.length : Int) = (f.l.length : Int) + 3 by rw [f.len]; rfl] at hsd
   show (ref11_scan.l4 (k : Int) (n : Int) g1 g2 g3 g4 g5 (n : Int) s.C s.D s.A s.W s.V s.M p1 p2 p3 p4 p5 p6 (rd s.W (k * n) n) (i : Int) (j.tail : Int) j.seq j.whole j.chg).run = some (.inl (((i + 1 : Nat) : Int), ((j.add f).tail : Int), (j.add f).seq, (j.add f).whole, (j.add f).chg))
   simp only [ref11_scan.l4]
   rw [bb_pos (decide_eq_true (by omega)), dd_pos (by omega), opt_some hfr, bb_neg (by rfl)]
   by_cases h0 : j.seq = 0
   ·have hk1 := hg.1 h0
    rw [bb_pos (by rw [h0]; rfl), bb_neg (by simp only; rw [hk1]; rfl), bb_neg (by rw [h0]; rfl), opt_some hsd, Tw.run_ret, e1]
    simp only [add_tail, add_seq]
   ·have hk1 := hg.2 h0
    have e : w64 (j.seq + 1) = j.seq + 1 := w64_of (by omega) (by omega)
    rw [bb_neg (beq_eq_false_iff_ne.2 h0), bb_pos (by rw [bne_iff_ne]; exact h0), bb_neg (by simp only; rw [hk1, e]; simp), opt_some hsd, Tw.run_ret, e1]
    simp only [add_tail, add_seq]
  ·rw [Nat.zero_add]
   have hfr : ref10_Read.c (List.take ((rd s.W (k * n) n).length - Int.toNat ((stJ (fs.take m)).tail : Int)) (List.drop (Int.toNat ((stJ (fs.take m)).tail : Int)) (rd s.W (k * n) n))) = some noF := by
    rw [Int.toNat_natCast, List.take_of_length_le (by rw [List.length_drop]; omega)]
    exact (ref10_Read_eq (words_drop hw _) (by rw [List.length_drop]; omega)).trans (by rw [hst])
   simp only [x4, ref11_scan.l4]
   rw [bb_pos (decide_eq_true (by omega)), dd_pos (by omega), opt_some hfr, bb_pos (by rfl), Tw.run_ret]
 simp only [ref11_scan.c, ref11_scan.t]
 rw [opt_some (ref09_Read_eq hr ok hs hv (inR_i64 (by decide))), hd, opt_some (by exact hL ..), opt_some (x := (!(tornB s n k (stJ (fs.take m)).tail), 0)) (by
  refine (ref09_Blank_eq hr ok hs hv (inR_i64 (by simp only [x4]; omega))).trans ?_
  exact congrArg some (blank_at hD hk htl)), Tw.run_ret]
 simp only [x4, Bool.not_not]
theorem open_eq {c : Nat} {t : Bool} {j : JS} (hI : JIn n s c t j) (hv2 : 2 ≤ s.V.length) :
  journal_Open.c (n : Int) g1 g2 g3 g4 g5 (n : Int) s.C s.D s.A s.W s.V s.M = some (.inr (0, (c : Int), (j.tail : Int), t, j.seq, j.whole, j.chg)) ∧
  ref11_Open.c (n : Int) g1 g2 g3 g4 g5 (n : Int) s.C s.D s.A s.W s.V s.M = some (.inl (0, (c : Int), (j.tail : Int), t, j.seq, j.whole, j.chg)) := by
 obtain ⟨fs, m, hS, hm, hj⟩ := hI.sh
 obtain ⟨fo, mo, hO, hseq⟩ := hI.ot
 have hc := hI.lt
 have hpos : 1 ≤ j.seq := by rw [hj]; exact seq_pos hS.ok hS.ch hm hS.ml
 have hop := seq_nonneg hO.ok hO.ch mo hO.ml
 have ht : tornB s n c j.tail = t := by
  have e1 := tornB_iff s n c j.tail
  have e2 := hI.t
  cases t
  ·exact e1.2 (e2.1 rfl)
  ·cases hb : tornB s n c j.tail
   ·exact absurd (e2.2 (e1.1 hb)) (by simp)
   ·rfl
 have hRc := read_eq hr ok hs hv hD (k := c) (by omega) hS
 have hSc := scan_eq hr ok hs hv hD (k := c) (by omega) hS
 have hRo := read_eq hr ok hs hv hD (k := 1 - c) (by omega) hO
 have hSo := scan_eq hr ok hs hv hD (k := 1 - c) (by omega) hO
 rw [← hj, ht] at hRc hSc
 generalize stJ (fo.take mo) = o at *
 generalize tornB s n (1 - c) o.tail = t' at *
 have e2 : ∀ (i : Nat), i ≤ 2 → w64 ((i : Int) + 1) = ((i + 1 : Nat) : Int) := fun i hi => by rw [w64_of (by omega) (by omega)]; rfl
 have e21 : w64 (0 + 1) = 1 := e2 0 (by omega)
 have e22 : w64 (1 + 1) = 2 := e2 1 (by omega)
 -- the last round
 have hEnd : ∀ (a b : Int) (d : Bool) (q : Int) (w : List Int) (l : List (List Int)), journal_Open.L5v2 2 (n : Int) g1 g2 g3 g4 g5 (n : Int) s.C s.D s.A s.W s.V s.M a b d q w l = some (.inl (a, b, d, q, w, l)) := fun a b d q w l => by
  unfold journal_Open.L5v2
  exact Lp_end (by simp only [journal_Open.l5v2]; rw [bb_neg (by rfl), Tw.run_ret])
 rcases Nat.lt_or_ge 0 c with h1 | h0
 ·-- the second sector is in use
  have hc1 : c = 1 := by omega
  subst hc1
  have hRo : journal_read.c 0 (n : Int) g1 g2 g3 g4 g5 (n : Int) s.C s.D s.A s.W s.V s.M = some ((o.tail : Int), t', o.seq, o.whole, 0, o.chg) := hRo
  have hSo : ref11_scan.c 0 (n : Int) g1 g2 g3 g4 g5 (n : Int) s.C s.D s.A s.W s.V s.M = some ((o.tail : Int), t', o.seq, o.whole, o.chg) := hSo
  have hRc : journal_read.c 1 (n : Int) g1 g2 g3 g4 g5 (n : Int) s.C s.D s.A s.W s.V s.M = some ((j.tail : Int), t, j.seq, j.whole, 0, j.chg) := hRc
  have hSc : ref11_scan.c 1 (n : Int) g1 g2 g3 g4 g5 (n : Int) s.C s.D s.A s.W s.V s.M = some ((j.tail : Int), t, j.seq, j.whole, j.chg) := hSc
  constructor
  ·simp only [journal_Open.c, journal_Open.t]
   by_cases hz : o.seq = 0
   ·have hL : journal_Open.L5 0 (n : Int) g1 g2 g3 g4 g5 (n : Int) s.C s.D s.A s.W s.V s.M = some (.inr (.inl (2, 1, (j.tail : Int), t, j.seq, j.whole, j.chg))) := by
     unfold journal_Open.L5
     rw [Lp_next (s' := (1 : Int)) (by
      simp only [journal_Open.l5]
      rw [bb_pos (by rfl), opt_some hRo, bb_neg (by rfl), opt_some (x := 0) (by rfl), bb_neg (decide_eq_false (by simp only; omega)), Tw.run_ret, e21])]
     exact Lp_end (by
      simp only [journal_Open.l5]
      rw [bb_pos (by rfl), opt_some hRc, bb_neg (by rfl), opt_some (x := 0) (by rfl), bb_pos (decide_eq_true (by simp only; omega)), Tw.run_ret, e22])
    rw [opt_some hL, sm_inr, sm_inl, opt_some (by exact hEnd ..), sm_inl, Tw.run_ret]
    rfl
   ·have hL : journal_Open.L5 0 (n : Int) g1 g2 g3 g4 g5 (n : Int) s.C s.D s.A s.W s.V s.M = some (.inr (.inl (1, 0, (o.tail : Int), t', o.seq, o.whole, o.chg))) := by
     unfold journal_Open.L5
     exact Lp_end (by
      simp only [journal_Open.l5]
      rw [bb_pos (by rfl), opt_some hRo, bb_neg (by rfl), opt_some (x := 0) (by rfl), bb_pos (decide_eq_true (by simp only; omega)), Tw.run_ret, e21])
    have hL2 : journal_Open.L5v2 1 (n : Int) g1 g2 g3 g4 g5 (n : Int) s.C s.D s.A s.W s.V s.M 0 (o.tail : Int) t' o.seq o.whole o.chg = some (.inl (1, (j.tail : Int), t, j.seq, j.whole, j.chg)) := by
     have := hEnd 1 (j.tail : Int) t j.seq j.whole j.chg
     unfold journal_Open.L5v2 at this ⊢
     rw [Lp_next (s' := ((2 : Int), (1 : Int), (j.tail : Int), t, j.seq, j.whole, j.chg)) (by
      simp only [journal_Open.l5v2]
      rw [bb_pos (by rfl), opt_some hRc, bb_neg (by rfl), opt_some (x := ()) (by rfl), bb_pos (decide_eq_true (by simp only; omega)), Tw.run_ret, e22])]
     exact this
    rw [opt_some hL, sm_inr, sm_inl, opt_some (by exact hL2), sm_inl, Tw.run_ret]
    rfl
  ·simp only [ref11_Open.c, ref11_Open.t]
   rw [bb_neg hD, opt_some hSo, opt_some hSc]
   by_cases hz : o.seq = 0
   ·rw [bb_pos (by simp only; rw [hz]; rfl), bb_neg (beq_eq_false_iff_ne.2 (by simp only; omega)), bb_pos (decide_eq_true (by simp only; omega)), Tw.run_ret]
    rfl
   ·rw [bb_neg (beq_eq_false_iff_ne.2 hz), bb_pos (decide_eq_true (by simp only; omega)), Tw.run_ret]
    rfl
 ·have hc0 : c = 0 := by omega
  subst hc0
  have hRo : journal_read.c 1 (n : Int) g1 g2 g3 g4 g5 (n : Int) s.C s.D s.A s.W s.V s.M = some ((o.tail : Int), t', o.seq, o.whole, 0, o.chg) := hRo
  have hSo : ref11_scan.c 1 (n : Int) g1 g2 g3 g4 g5 (n : Int) s.C s.D s.A s.W s.V s.M = some ((o.tail : Int), t', o.seq, o.whole, o.chg) := hSo
  have hRc : journal_read.c 0 (n : Int) g1 g2 g3 g4 g5 (n : Int) s.C s.D s.A s.W s.V s.M = some ((j.tail : Int), t, j.seq, j.whole, 0, j.chg) := hRc
  have hSc : ref11_scan.c 0 (n : Int) g1 g2 g3 g4 g5 (n : Int) s.C s.D s.A s.W s.V s.M = some ((j.tail : Int), t, j.seq, j.whole, j.chg) := hSc
  constructor
  ·simp only [journal_Open.c, journal_Open.t]
   have hL : journal_Open.L5 0 (n : Int) g1 g2 g3 g4 g5 (n : Int) s.C s.D s.A s.W s.V s.M = some (.inr (.inl (1, 0, (j.tail : Int), t, j.seq, j.whole, j.chg))) := by
    unfold journal_Open.L5
    exact Lp_end (by
     simp only [journal_Open.l5]
     rw [bb_pos (by rfl), opt_some hRc, bb_neg (by rfl), opt_some (x := 0) (by rfl), bb_pos (decide_eq_true (by simp only; omega)), Tw.run_ret, e21])
   have hL2 : journal_Open.L5v2 1 (n : Int) g1 g2 g3 g4 g5 (n : Int) s.C s.D s.A s.W s.V s.M 0 (j.tail : Int) t j.seq j.whole j.chg = some (.inl (0, (j.tail : Int), t, j.seq, j.whole, j.chg)) := by
    have := hEnd 0 (j.tail : Int) t j.seq j.whole j.chg
    unfold journal_Open.L5v2 at this ⊢
    rw [Lp_next (s' := ((2 : Int), (0 : Int), (j.tail : Int), t, j.seq, j.whole, j.chg)) (by
     simp only [journal_Open.l5v2]
     rw [bb_pos (by rfl), opt_some hRo, bb_neg (by rfl), opt_some (x := ()) (by rfl), bb_neg (decide_eq_false (by simp only; omega)), Tw.run_ret, e22])]
    exact this
   rw [opt_some hL, sm_inr, sm_inl, opt_some (by exact hL2), sm_inl, Tw.run_ret]
   rfl
  ·simp only [ref11_Open.c, ref11_Open.t]
   rw [bb_neg hD, opt_some hSc, opt_some hSo, bb_neg (beq_eq_false_iff_ne.2 (by simp only; omega)), bb_neg (decide_eq_false (by simp only; omega)), Tw.run_ret]
   rfl
end

end Go.Proofs.YtkoidgjgdhpdnaaGreat.Pure
namespace Go.Proofs.YtkoidgjgdhpdnaaGreat.Pure
open Go Go.Proofs.YtkoidgjgdhpdnaaGreat.Va

theorem loads_eq {a b : List (List Int)} (hl : a.length ≤ 1024) (he : ∀ l ∈ a, l.length ≤ 1000) : ref11_SameLoads.c a b = some (decide (a = b)) := by
 simp only [ref11_SameLoads.c, ref11_SameLoads.t]
 by_cases h : a.length = b.length
 rotate_left
 ·rw [bb_pos (by rw [bne_iff_ne]; omega), Tw.run_ret, decide_eq_false (fun e => h (by rw [e]))]
 have hL : ref11_SameLoads.L4 a b 0 = some (if (List.range a.length).any (fun i => !decide (a.getD i [] = b.getD i [])) then .inr false else .inl ()) := by
  unfold ref11_SameLoads.L4
  refine Lp_any _ a.length _ false (fun i hi => ?_) ?_
  ·have hg : a[i]? = some (a.getD i []) := getD_some [] hi
   have hg2 : b[i]? = some (b.getD i []) := getD_some [] (by omega)
   have hb := he _ (List.mem_of_getElem? hg)
   simp only [ref11_SameLoads.l4]
   rw [bb_pos (decide_eq_true (by omega)), dd_pos (by omega), Int.toNat_natCast, opt_some hg, dd_pos (by omega), opt_some hg2, opt_some (ref01_Same_eq (by omega))]
   by_cases hk : a.getD i [] = b.getD i []
   ·rw [decide_eq_true hk, bb_neg (by rfl), Tw.run_ret, w64_of (by omega) (by omega)]
    rfl
   ·rw [decide_eq_false hk, bb_pos (by rfl), Tw.run_ret]
    rfl
  ·simp only [ref11_SameLoads.l4]
   rw [bb_neg (decide_eq_false (by omega)), Tw.run_ret]
 have e : (List.range a.length).any (fun i => !decide (a.getD i [] = b.getD i [])) = !decide (a = b) := by
  rw [Bool.eq_iff_iff, List.any_eq_true, Bool.not_eq_true', decide_eq_false_iff_not]
  constructor
  ·rintro ⟨i, hi, hx⟩ e
   rw [e] at hx
   simp at hx
  ·intro hne
   apply Classical.byContradiction
   intro hno
   apply hne
   apply List.ext_getElem?
   intro i
   by_cases hi : i < a.length
   ·rw [getD_some [] hi, getD_some [] (show i < b.length by omega)]
    congr 1
    apply Classical.byContradiction
    intro hx
    exact hno ⟨i, List.mem_range.2 hi, by simpa using hx⟩
   ·rw [List.getElem?_eq_none (by omega), List.getElem?_eq_none (by omega)]
 rw [e] at hL
 rw [bb_neg (by rw [h]; simp), opt_some hL]
 by_cases hab : a = b
 ·rw [decide_eq_true hab]
  exact Tw.run_ret _
 ·rw [decide_eq_false hab]
  exact Tw.run_ret _

section
variable {n : Nat} {g1 g2 g3 g4 g5 : Int} {C : Int} {D : Bool} {A : Int} {W V M : List Int} {c : Int} {t : Bool} {j : JS} (hb : JB n j)
include hb
theorem changes_eq (tl se : Int) (wh : List Int) : journal_Journal_Changes.c c tl t se wh (n : Int) g1 g2 g3 g4 g5 (n : Int) C D A W V M j.chg = some j.chg := by
 have hcl := hb.chg
 have hL : journal_Journal_Changes.L5 (j.chg.length : Int) 0 c tl t se wh (n : Int) g1 g2 g3 g4 g5 (n : Int) C D A W V M j.chg [] = some j.chg := by
  unfold journal_Journal_Changes.L5
  have := Lp_seq (fun z : Int × List (List Int) => (journal_Journal_Changes.l5 (j.chg.length : Int) c tl t se wh (n : Int) g1 g2 g3 g4 g5 (n : Int) C D A W V M j.chg z.1 z.2).run) (fun i : Nat => ((i : Int), j.chg.take i)) (x := j.chg) j.chg.length 0 (fun i _ hi => ?_) ?_
  ·exact this
  ·have hi : i < j.chg.length := by omega
   have hg : j.chg[i]? = some j.chg[i] := List.getElem?_eq_getElem hi
   have hb1 := hb.each _ (List.mem_of_getElem? hg)
   simp only [journal_Journal_Changes.l5]
   rw [bb_pos (decide_eq_true (by omega)), dd_pos (by omega), Int.toNat_natCast, opt_some hg, opt_some (clone32_eq (by omega)), dd_pos (by simp only [List.length_take, List.length_cons, List.length_nil]; omega), Tw.run_ret, w64_of (by omega) (by omega), List.take_add_one, hg]
   rfl
  ·simp only [journal_Journal_Changes.l5, Nat.zero_add]
   rw [bb_neg (decide_eq_false (by omega)), Tw.run_ret, List.take_length]
 simp only [journal_Journal_Changes.c, journal_Journal_Changes.t]
 rw [opt_some hL, Tw.run_ret]
theorem whole_eq (tl se : Int) (ch : List (List Int)) : journal_Journal_Whole.c c tl t se j.whole (n : Int) g1 g2 g3 g4 g5 (n : Int) C D A W V M ch = some j.whole := by
 have := hb.whole
 simp only [journal_Journal_Whole.c, journal_Journal_Whole.t]
 rw [opt_some (clone32_eq (by omega)), Tw.run_ret]
theorem same_eq (C' : Int) (D' : Bool) (A' : Int) (W' V' M' : List Int) :
  law11_same.c c (j.tail : Int) t j.seq j.whole (n : Int) g1 g2 g3 g4 g5 (n : Int) C D A W V M j.chg c (j.tail : Int) t j.seq j.whole j.chg (n : Int) g1 g2 g3 g4 g5 (n : Int) C' D' A' W' V' M' = some true := by
 have h1 := hb.whole
 simp only [law11_same.c, law11_same.t]
 rw [opt_some (x := ()) (by rfl), opt_some (x := ()) (by rfl), bb_pos (by simp), opt_some (whole_eq hb ..), opt_some (ref01_Same_eq (by omega)), bb_pos (by simp), opt_some (changes_eq hb ..), opt_some (loads_eq hb.chg (fun l hl => by have := hb.each l hl; omega)), bb_pos (by simp), opt_some (x := ()) (by rfl), bb_pos (by simp), bb_pos (by simp), Tw.run_ret]
 simp
end

section
variable {n : Nat} {g1 g2 g3 g4 g5 : Int} (hr : GeoR (n : Int) g1 g2 g3 g4 g5) (ok : GeoOK (n : Int) g1 g2 g3 g4 g5)
include hr ok
theorem opened_eq {s u : Fl} (hs : FlOK n s) (hu : FlOK n u) (hW : u.W = s.W) (hV : u.V = s.V) (hC : u.C = s.C) (hv : (s.V.length : Int) = 2 + 2 * g1 + g2) {c : Nat} {t : Bool} {j : JS} (hI : JIn n s c t j)
  (a1 a2 : Int) (a3 : Bool) (a4 : Int) (a5 : List Int) (a6 : List (List Int)) (b1 b2 : Int) (b3 : Bool) (b4 : Int) (b5 : List Int) (b6 : List (List Int)) :
  law11_pair_opened.c (n : Int) s.C s.D s.A s.W s.V s.M (n : Int) g1 g2 g3 g4 g5 a1 a2 a3 a4 a5 a6 b1 b2 b3 b4 b5 b6 (n : Int) g1 g2 g3 g4 g5 (n : Int) u.C u.D u.A u.W u.V u.M =
   some (.inr (true, false, -1, false, -1, (c : Int), (j.tail : Int), t, j.seq, j.whole, j.chg, (c : Int), (j.tail : Int), t, j.seq, j.whole, j.chg, [])) := by
 have ok' := ok
 unfold GeoOK at ok'
 have hsp := power_ok hs words_nil (show ([] : List Int).length ≤ 200 by simp)
 have hup := power_ok hu hu.m hu.ml
 have hO := (open_eq hr ok hsp hv rfl (hI.congr rfl) (show 2 ≤ s.V.length by omega)).1
 have hO2 := (open_eq hr ok (s := u.power u.M) hup (by show ((u.V.length : Nat) : Int) = _; rw [hV]; exact hv) rfl (hI.congr (s' := u.power u.M) hW) (show 2 ≤ u.V.length by rw [hV]; omega)).2
 have hjb := (hI.jb (show n ≤ 1024 by omega)).1
 simp only [law11_pair_opened.c, law11_pair_opened.t]
 rw [opt_some (x := (false, -1, [])) (by rfl), opt_some (x := (false, -1)) (by rfl), opt_some (by exact hO), sm_inr, opt_some (by exact hO2), sm_inl, bb_neg (by rfl), opt_some (by exact same_eq hjb ..), Tw.run_ret]

omit hr in
theorem first_in {s : Fl} (hs : FlOK n s) (hL : Lit s) (hv2 : 2 ≤ s.V.length) (h0 : ∀ i, i < n → sec s n 0 i = 4294967295) (h1 : ∀ i, i < n → sec s n 1 i = 4294967295) {l : List Int} (hw : Words l) (hl : loadOK l) :
  (s.fresh n 0 (Fm.w ⟨1, 1, l⟩)).1 = 0 ∧ JIn n (s.fresh n 0 (Fm.w ⟨1, 1, l⟩)).2 0 false ⟨l.length + 3, 1, l, []⟩ := by
 have ok' := ok
 unfold GeoOK at ok'
 obtain ⟨f, hf⟩ : ∃ f : Fm, f = ⟨1, 1, l⟩ := ⟨_, rfl⟩
 have fok : f.ok := by
  rw [hf]
  exact ⟨⟨Or.inl rfl, by show (1 : Int) ≤ 1; omega, by show (1 : Int) ≤ 1073741823; omega, hl.1, hl.2⟩, hw⟩
 have flen : f.w.length = l.length + 3 := by rw [f.len, hf]
 have hll := hl.2
 rw [← hf]
 have e0 : ((0 : Nat) : Int) = 0 := rfl
 have hfi := first_ok (n := n) hL.1 (j := 0) (b := 0) (c := f.w.length) (by omega) (by omega)
 have hF : s.fresh n 0 f.w = if (s.clean n 0).1 ≠ 0 then s.clean n 0 else (s.clean n 0).2.dwrite n 0 0 f.w := by
  unfold Fl.fresh
  rw [show s.first n 0 0 (f.w.length : Int) = _ from hfi, if_neg (fun h => h rfl)]
 obtain ⟨c1, c2, c3, c4⟩ := clean_up hs hL.1 (j := 0) (by omega)
 have cok := clean_ok hs ((0 : Nat) : Int)
 have cL := clean_Lit (n := n) hL ((0 : Nat) : Int)
 rw [e0] at c1 c2 c3 c4 cok cL
 rcases c4 with ⟨ce, cD, cb⟩ | ⟨_, cD⟩
 rotate_left
 ·rw [cL.1] at cD
  cases cD
 rw [if_neg (by rw [ce]; simp)] at hF
 rw [hF]
 have k1 : ∀ i, i < n → sec (s.clean n 0).2 n 1 i = 4294967295 := fun i hi => by
  rw [← h1 i hi]
  exact sec_of (show 0 ≠ 1 by omega) c2 hi
 generalize (s.clean n 0).2 = s1 at *
 obtain ⟨d1, d2, d3, d4⟩ := dwrite_up cok.1 cD (j := 0) (b := 0) (by rw [cok.2.1]; omega) (Fm.words fok) (by omega) (fun i hi => cb _ (by omega))
 have dL := dwrite_Lit (n := n) cL ((0 : Nat) : Int) ((0 : Nat) : Int) f.w
 rw [e0] at d1 d2 d3 d4 dL
 rcases d4 with ⟨q1, q2, q3⟩ | ⟨_, q2⟩
 rotate_left
 ·rw [dL.1] at q2
  cases q2
 refine ⟨q1, ?_⟩
 generalize hr : s1.dwrite n 0 0 f.w = r at *
 have k2 : ∀ i, i < n → sec r.2 n 1 i = 4294967295 := fun i hi => by
  rw [← k1 i hi]
  exact sec_of (show 0 ≠ 1 by omega) d2 hi
 obtain ⟨m', hm', hS', hall⟩ := Sh.app (Sh.blank (n := n) (u := sec s1 n 0) cb) (fun i _ hi => cb i hi) fok (by rw [hf]; exact ⟨fun _ => rfl, fun h => absurd rfl h⟩) (by simp only [layJ, List.flatMap_nil, List.length_nil]; omega) (u' := sec r.2 n 0) (fun i hi => by
  have := d3 i hi
  simp only [layJ, List.flatMap_nil, List.length_nil]
  exact this)
 rw [List.nil_append] at hS'
 have hm1 : m' = 1 := by
  have := hall (fun i hi => by
   have := q3 i hi
   simp only [layJ, List.flatMap_nil, List.length_nil]
   exact this)
  simpa using this
 subst hm1
 have hst : stJ [f] = ⟨l.length + 3, 1, l, []⟩ := by
  rw [hf]
  unfold stJ
  rw [List.foldl_cons, List.foldl_nil]
  unfold JS.add j0
  rw [if_pos rfl, Nat.zero_add]
 refine ⟨by omega, ⟨[f], 1, hS', Nat.le_refl _, by rw [List.take_of_length_le (by simp), hst]⟩, ⟨[], 0, Sh.blank k2, by show (0 : Int) < 1; decide⟩, ?_⟩
 refine ⟨fun _ i h1 h2 => ?_, fun _ => rfl⟩
 have h1 : l.length + 3 ≤ i := h1
 rw [(d3 i h2).2 (by omega)]
 exact cb i h2

noncomputable def newS (m n : Nat) (l : List Int) : Fl := (((flNew m n).clean n 1).2.fresh n 0 (Fm.w ⟨1, 1, l⟩)).2
omit hr in
theorem new_in {m : Nat} (hm : 2 + 2 * g1.toNat + g2.toNat = m) {l : List Int} (hw : Words l) (hl : loadOK l) :
  FlOK n (newS m n l) ∧ Lit (newS m n l) ∧ (newS m n l).V.length = m ∧ (newS m n l).M = [] ∧ JIn n (newS m n l) 0 false ⟨l.length + 3, 1, l, []⟩ ∧
  ((flNew m n).clean n 1).1 = 0 ∧ (((flNew m n).clean n 1).2.fresh n 0 (Fm.w ⟨1, 1, l⟩)).1 = 0 ∧ FlOK n ((flNew m n).clean n 1).2 ∧ ((flNew m n).clean n 1).2.V.length = m ∧ ((flNew m n).clean n 1).2.M = [] := by
 have ok' := ok
 unfold GeoOK at ok'
 have okN := flNew_ok (a := m) (b := n) (by omega) (by omega) (by omega) (by omega)
 have hNL : Lit (flNew m n) := ⟨rfl, by show (-1 : Int) < 0; decide⟩
 have hones : ∀ k i, k < m → i < n → sec (flNew m n) n k i = 4294967295 := fun k i hk hi => by
  unfold sec
  have : (k + 1) * n ≤ m * n := Nat.mul_le_mul_right n (by omega)
  rw [Nat.add_mul, Nat.one_mul] at this
  rw [List.getD_eq_getElem?_getD]
  show ((List.replicate (m * n) (4294967295 : Int))[k * n + i]?).getD 0 = _
  rw [List.getElem?_replicate, if_pos (by omega)]
  rfl
 have hVl : (flNew m n).V.length = m := by simp [flNew]
 obtain ⟨c1, c2, c3, c4⟩ := clean_up okN hNL.1 (j := 1) (by rw [hVl]; omega)
 have cok := clean_ok okN ((1 : Nat) : Int)
 have cL := clean_Lit (n := n) hNL ((1 : Nat) : Int)
 rw [show ((1 : Nat) : Int) = 1 from rfl] at c1 c2 c3 c4 cok cL
 rcases c4 with ⟨ce, cD, cb⟩ | ⟨_, cD⟩
 rotate_left
 ·rw [cL.1] at cD
  cases cD
 have k0 : ∀ i, i < n → sec ((flNew m n).clean n 1).2 n 0 i = 4294967295 := fun i hi => by
  rw [← hones 0 i (by omega) hi]
  exact sec_of (show 1 ≠ 0 by omega) c2 hi
 have fok : Fm.ok ⟨1, 1, l⟩ := ⟨⟨Or.inl rfl, by show (1 : Int) ≤ 1; omega, by show (1 : Int) ≤ 1073741823; omega, hl.1, hl.2⟩, hw⟩
 obtain ⟨f1, f2⟩ := first_in ok cok.1 cL (by rw [cok.2.1, hVl]; omega) k0 cb hw hl
 have fo := fresh_ok cok.1 0 (Fm.words fok)
 exact ⟨fo.1, fresh_Lit cL _ _, by rw [show (newS m n l).V.length = _ from fo.2.1, cok.2.1, hVl], (show (newS m n l).M = _ from fo.2.2).trans cok.2.2, f2, ce, f1, cok.1, cok.2.1.trans hVl, cok.2.2⟩
end

end Go.Proofs.YtkoidgjgdhpdnaaGreat.Pure
namespace Go.Proofs.YtkoidgjgdhpdnaaGreat.Pure
open Go Go.Proofs.YtkoidgjgdhpdnaaGreat.Va

section
variable {n : Nat} {g1 g2 g3 g4 g5 : Int} (hr : GeoR (n : Int) g1 g2 g3 g4 g5) (ok : GeoOK (n : Int) g1 g2 g3 g4 g5) {m : Nat} (hm : 2 + 2 * g1.toNat + g2.toNat = m)
include hr ok hm
theorem new_eq {l : List Int} (hw : Words l) (hll : l.length ≤ 1000) : journal_New.c l (n : Int) g1 g2 g3 g4 g5 (n : Int) (flNew m n).C (flNew m n).D (flNew m n).A (flNew m n).W (flNew m n).V (flNew m n).M =
  some (if loadOK l then .inl (0, (newS m n l).C, (newS m n l).D, (newS m n l).A, (newS m n l).W, (newS m n l).V, 0, ((l.length + 3 : Nat) : Int), false, 1, l, []) else .inr (2, (flNew m n).C, (flNew m n).D, (flNew m n).A, (flNew m n).W, (flNew m n).V)) := by
 have ok' := ok
 unfold GeoOK at ok'
 have rb := reach_eq
 have okN := flNew_ok (a := m) (b := n) (by omega) (by omega) (by omega) (by omega)
 have hvN : (((flNew m n).V.length : Nat) : Int) = 2 + 2 * g1 + g2 := by simp [flNew]; omega
 simp only [journal_New.c, journal_New.t]
 rw [opt_some (may1_eq hll)]
 by_cases hl : loadOK l
 rotate_left
 ·rw [decide_eq_false hl, bb_pos (by rfl), Tw.run_ret, if_neg hl]
 obtain ⟨i1, i2, i3, i4, i5, i6, i7, i8, i9, i10⟩ := new_in ok hm hw hl
 have hcl := drive_Clean_eq hr ok okN hvN (k := 1)
 have fok : Fm.ok ⟨1, 1, l⟩ := ⟨⟨Or.inl rfl, by show (1 : Int) ≤ 1; omega, by show (1 : Int) ≤ 1073741823; omega, hl.1, hl.2⟩, hw⟩
 have hfr := drive_Fresh_eq hr ok i8 (by rw [i9]; omega) (k := 0) (Fm.words fok)
 rw [i10, i7] at hfr
 rw [i6] at hcl
 have hfr : drive_Drive_Fresh.c (w64 (1 - 1)) (sealW (fraL 1 1 l)) (n : Int) g1 g2 g3 g4 g5 (n : Int) ((flNew m n).clean n 1).2.C ((flNew m n).clean n 1).2.D ((flNew m n).clean n 1).2.A ((flNew m n).clean n 1).2.W ((flNew m n).clean n 1).2.V (flNew m n).M = some (0, s5 (newS m n l)) := hfr
 have el : (sealW (fraL 1 1 l)).length = l.length + 3 := (Fm.len ⟨1, 1, l⟩)
 have hll2 := hl.2
 have e1 : w64 ((0 : Int) + ((l.length + 3 : Nat) : Int)) = ((l.length + 3 : Nat) : Int) := by rw [w64_of (by omega) (by omega)]; omega
 have hO : journal_Journal_over.c l 1 1 0 false 0 (n : Int) g1 g2 g3 g4 g5 (n : Int) ((flNew m n).clean n 1).2.C ((flNew m n).clean n 1).2.D ((flNew m n).clean n 1).2.A ((flNew m n).clean n 1).2.W ((flNew m n).clean n 1).2.V (flNew m n).M =
   some (.inr (0, 0, ((l.length + 3 : Nat) : Int), false, l, (newS m n l).C, (newS m n l).D, (newS m n l).A, (newS m n l).W, (newS m n l).V, [])) := by
  simp only [journal_Journal_over.c, journal_Journal_over.t]
  rw [opt_some (clone32_eq (by omega)), opt_some (frame_Lay_eq 1 1 hw (by rw [rb]; omega)), if_pos fok.1, bb_neg (by rfl), opt_some (by exact hfr), bb_neg (by rfl), opt_some (x := .inr (w64 ((0 : Int) + ((l.length + 3 : Nat) : Int)), [])) (by
   simp only [journal_Journal_said.c, journal_Journal_said.t]
   rw [bb_pos (by rfl), Tw.run_ret, el]), sm_inr, Tw.run_ret, e1]
  rfl
 rw [decide_eq_true hl, bb_neg (by rfl), opt_some hcl, bb_neg (by rfl), opt_some (by exact hO), sm_inr, bb_neg (by rfl), Tw.run_ret, if_pos hl]
theorem rnew_eq {l : List Int} (hw : Words l) (hll : l.length ≤ 1000) : ref11_New.c l (n : Int) g1 g2 g3 g4 g5 (n : Int) (flNew m n).C (flNew m n).D (flNew m n).A (flNew m n).W (flNew m n).V (flNew m n).M =
  some (if loadOK l then .inl (0, (newS m n l).C, (newS m n l).D, (newS m n l).A, (newS m n l).W, (newS m n l).V, 0, ((l.length + 3 : Nat) : Int), false, 1, l, []) else .inr (2, (flNew m n).C, (flNew m n).D, (flNew m n).A, (flNew m n).W, (flNew m n).V)) := by
 have ok' := ok
 unfold GeoOK at ok'
 have rb := reach_eq
 have okN := flNew_ok (a := m) (b := n) (by omega) (by omega) (by omega) (by omega)
 have hvN : (((flNew m n).V.length : Nat) : Int) = 2 + 2 * g1 + g2 := by simp [flNew]; omega
 simp only [ref11_New.c, ref11_New.t]
 rw [opt_some load_eq]
 by_cases hl : loadOK l
 rotate_left
 ·rw [decide_eq_false hl, bb_pos (by rfl), Tw.run_ret, if_neg hl]
 obtain ⟨i1, i2, i3, i4, i5, i6, i7, i8, i9, i10⟩ := new_in ok hm hw hl
 have hcl := ref09_Clean_eq hr ok okN hvN (k := 1)
 have fok : Fm.ok ⟨1, 1, l⟩ := ⟨⟨Or.inl rfl, by show (1 : Int) ≤ 1; omega, by show (1 : Int) ≤ 1073741823; omega, hl.1, hl.2⟩, hw⟩
 have hfr := ref09_Fresh_eq hr ok i8 (by rw [i9]; omega) (k := 0) (Fm.words fok)
 rw [i10, i7] at hfr
 rw [i6] at hcl
 have hfr : ref09_Drive_Fresh.c (w64 (1 - 1)) (sealW (fraL 1 1 l)) (n : Int) g1 g2 g3 g4 g5 (n : Int) ((flNew m n).clean n 1).2.C ((flNew m n).clean n 1).2.D ((flNew m n).clean n 1).2.A ((flNew m n).clean n 1).2.W ((flNew m n).clean n 1).2.V (flNew m n).M = some (0, s5 (newS m n l)) := hfr
 have el : (sealW (fraL 1 1 l)).length = l.length + 3 := (Fm.len ⟨1, 1, l⟩)
 have hll2 := hl.2
 have e1 : w64 ((0 : Int) + ((l.length + 3 : Nat) : Int)) = ((l.length + 3 : Nat) : Int) := by rw [w64_of (by omega) (by omega)]; omega
 have hO : ref11_Journal_turn.c l 1 1 0 false 0 (n : Int) g1 g2 g3 g4 g5 (n : Int) ((flNew m n).clean n 1).2.C ((flNew m n).clean n 1).2.D ((flNew m n).clean n 1).2.A ((flNew m n).clean n 1).2.W ((flNew m n).clean n 1).2.V (flNew m n).M =
   some (.inr (0, 0, ((l.length + 3 : Nat) : Int), false, [], (newS m n l).C, (newS m n l).D, (newS m n l).A, (newS m n l).W, (newS m n l).V)) := by
  simp only [ref11_Journal_turn.c, ref11_Journal_turn.t]
  rw [dd_pos (by omega), opt_some (ref10_Lay_eq fok.1 hw), opt_some (by exact hfr), bb_neg (by rfl), opt_some (x := .inr (w64 ((0 : Int) + ((l.length + 3 : Nat) : Int)), [])) (by
   simp only [ref11_Journal_add.c, ref11_Journal_add.t]
   rw [bb_pos (by rfl), Tw.run_ret, el]), sm_inr, Tw.run_ret, e1]
  rfl
 rw [decide_eq_true hl, bb_neg (by rfl), opt_some hcl, bb_neg (by rfl), opt_some (by exact hO), sm_inr, bb_neg (by rfl), Tw.run_ret, if_pos hl]
theorem begin_eq {l : List Int} (hw : Words l) (hll : l.length ≤ 1000) (hl : loadOK l) : law11_begin.c (n : Int) g1 g2 g3 g4 g5 l =
  some (.inl (true, (newS m n l).C, (newS m n l).D, (newS m n l).A, (newS m n l).W, (newS m n l).V, [], 0, ((l.length + 3 : Nat) : Int), false, 1, l, [], 0, ((l.length + 3 : Nat) : Int), false, 1, l, [], (newS m n l).C, (newS m n l).D, (newS m n l).A, (newS m n l).W, (newS m n l).V, [])) := by
 have ok' := ok
 unfold GeoOK at ok'
 have hmap : ref08_Map.c (n : Int) g1 g2 g3 g4 g5 = some (mapL g1.toNat m) := (ref08_Map_eq hr).trans (by rw [if_pos ok, hm])
 have hvN : (((flNew m n).V.length : Nat) : Int) = 2 + 2 * g1 + g2 := by simp [flNew]; omega
 have h1 := new_eq hr ok hm hw hll
 have h2 := rnew_eq hr ok hm hw hll
 rw [if_pos hl] at h1 h2
 simp only [law11_begin.c, law11_begin.t]
 rw [opt_some hmap, mapL_len, opt_some (flash_New_eqM (a := m) (b := n) (by omega) (by omega) (by omega) (by omega)), sm_inl, opt_some (drive_New_eqM hr ..), if_pos ⟨ok, hvN, rfl⟩, sm_inl, bb_neg (by rfl), bb_neg (by rfl), opt_some (by exact h1), sm_inl, opt_some (ref09_New_eqM hr ok hm), sm_inl, opt_some (by exact h2), sm_inl, bb_pos (by rfl), Tw.run_ret]
 rfl
end

end Go.Proofs.YtkoidgjgdhpdnaaGreat.Pure
namespace Go.Proofs.YtkoidgjgdhpdnaaGreat.Pure
open Go Go.Proofs.YtkoidgjgdhpdnaaGreat.Va

theorem great11_eq {l : List Act11} (hl : l.length * 64 ≤ 140737488351232) : ∃ b, law11_great.c l = some b ∧ (b = false → l.length ≤ 60 ∧ ∀ x ∈ l, x.load.length ≤ 100 ∧ x.whole.length ≤ 100) := by
 have hL : ∃ r, law11_great.L2 l 0 = some r ∧ (∀ u, r = .inl u → ∀ i, i < l.length → i < 61 → ∀ x, l[i]? = some x → x.load.length ≤ 100 ∧ x.whole.length ≤ 100) ∧ (∀ b, r = .inr b → b = true) := by
  unfold law11_great.L2
  refine Lp_inv _ (fun s : Int => 0 ≤ s ∧ s ≤ 61 ∧ s ≤ l.length ∧ ∀ i : Nat, (i : Int) < s → ∀ x, l[i]? = some x → x.load.length ≤ 100 ∧ x.whole.length ≤ 100) (fun s : Int => 61 - s.toNat) _ (fun s hs => ?_) 61 0 (by decide) ⟨by decide, by decide, by omega, fun i hi => by omega⟩
  obtain ⟨h0, h1, h2, h3⟩ := hs
  simp only [law11_great.l2]
  by_cases ha : s < (l.length : Int)
  ·rw [bb_pos (decide_eq_true ha)]
   by_cases hb : s < 61
   ·rw [bb_pos (decide_eq_true hb), dd_pos h0]
    have hs' : l[s.toNat]? = some l[s.toNat] := List.getElem?_eq_getElem (by omega)
    rw [opt_some hs']
    by_cases hc : ((l[s.toNat].load.length : Nat) : Int) > 100
    ·exact Or.inr ⟨.inr true, by rw [bb_pos (decide_eq_true hc), Tw.run_ret], (fun u hu => by cases hu), (fun b hb => by injection hb with hb; exact hb.symm)⟩
    by_cases hd : ((l[s.toNat].whole.length : Nat) : Int) > 100
    ·exact Or.inr ⟨.inr true, by rw [bb_neg (decide_eq_false hc), dd_pos h0, opt_some hs', bb_pos (decide_eq_true hd), Tw.run_ret], (fun u hu => by cases hu), (fun b hb => by injection hb with hb; exact hb.symm)⟩
    ·refine Or.inl ⟨s + 1, by rw [bb_neg (decide_eq_false hc), dd_pos h0, opt_some hs', bb_neg (decide_eq_false hd), Tw.run_ret, w64_of (by omega) (by omega)], ⟨by omega, by omega, by omega, fun i hi x hx => ?_⟩, by omega⟩
     by_cases he : (i : Int) = s
     ·have : i = s.toNat := by omega
      subst this
      rw [hs'] at hx
      injection hx with hx
      rw [← hx]
      omega
     ·exact h3 i (by omega) x hx
   ·exact Or.inr ⟨.inl (), by rw [bb_neg (decide_eq_false hb), Tw.run_ret], (fun u hu i hi1 hi2 x hx => h3 i (by omega) x hx), (fun b hb => by cases hb)⟩
  ·exact Or.inr ⟨.inl (), by rw [bb_neg (decide_eq_false ha), Tw.run_ret], (fun u hu i hi1 hi2 x hx => h3 i (by omega) x hx), (fun b hb => by cases hb)⟩
 obtain ⟨r, hr', h1, h2⟩ := hL
 simp only [law11_great.c, law11_great.t]
 rw [opt_some hr']
 cases r with
 | inl u =>
  rw [sm_inl]
  refine ⟨decide ((l.length : Int) > 60), Tw.run_ret _, fun hb => ?_⟩
  have hb := of_decide_eq_false hb
  refine ⟨by omega, fun x hx => ?_⟩
  obtain ⟨i, hi⟩ := List.mem_iff_getElem?.1 hx
  have hlt := (List.getElem?_eq_some_iff.1 hi).1
  exact h1 u rfl i hlt (by omega) x hi
 | inr b =>
  refine ⟨b, by rw [sm_inr, Tw.run_ret], fun hb => ?_⟩
  rw [h2 b rfl] at hb
  exact nomatch hb

section
variable {n : Nat} {g1 g2 g3 g4 g5 : Int} (hr : GeoR (n : Int) g1 g2 g3 g4 g5) (ok : GeoOK (n : Int) g1 g2 g3 g4 g5) {s : Fl} (hs : FlOK n s) (hv : (s.V.length : Int) = 2 + 2 * g1 + g2)
 {c : Nat} (hc : c < 2) {t : Bool} {j : JS} (hb : JB n j)
include hr ok hs hv hc hb
theorem do_eq (kind nn : Int) {l whole : List Int} (hw : Words l) (hw2 : Words whole) (hl : l.length ≤ 1000) (hl2 : whole.length ≤ 1000) :
  law11_do.c kind nn l whole (c : Int) (j.tail : Int) t j.seq j.whole (n : Int) g1 g2 g3 g4 g5 (n : Int) s.C s.D s.A s.W s.V s.M j.chg = some (outJ (s.jact n g5 c t j kind l whole)) := by
 have h1 := change_eq hr ok hs hv hc (t := t) hb hw hw2 hl hl2
 have h2 := putw_eq hr ok hs hv hc (t := t) hb hw2 hl2
 have h3 := mend_eq hr ok hs hv hc (t := t) hb hw2 hl2
 simp only [law11_do.c, law11_do.t]
 unfold Fl.jact
 by_cases k0 : kind = 0
 ·rw [bb_pos (by rw [k0]; rfl), bb_pos (by rw [k0]; rfl), opt_some h1, Tw.run_ret, if_pos (Or.inl k0)]
 rw [bb_neg (beq_eq_false_iff_ne.2 k0)]
 by_cases k1 : kind = 1
 ·rw [bb_pos (by rw [k1]; rfl), opt_some h1, Tw.run_ret, if_pos (Or.inr k1)]
 rw [bb_neg (beq_eq_false_iff_ne.2 k1), if_neg (by omega)]
 by_cases k2 : kind = 2
 ·rw [bb_pos (by rw [k2]; rfl), opt_some h2, Tw.run_ret, if_pos k2]
 rw [bb_neg (beq_eq_false_iff_ne.2 k2), if_neg k2]
 by_cases k3 : kind = 3
 ·rw [bb_pos (by rw [k3]; rfl), opt_some h3, Tw.run_ret, if_pos k3]
 rw [bb_neg (beq_eq_false_iff_ne.2 k3), if_neg k3, Tw.run_ret]
 rfl
theorem told_eq (kind nn : Int) {l whole : List Int} (hw : Words l) (hw2 : Words whole) (hl : l.length ≤ 1000) (hl2 : whole.length ≤ 1000) :
  law11_told.c kind nn l whole (c : Int) (j.tail : Int) t j.seq j.whole j.chg (n : Int) g1 g2 g3 g4 g5 (n : Int) s.C s.D s.A s.W s.V s.M = some (outR (s.jact n g5 c t j kind l whole)) := by
 have h1 := rput_eq hr ok hs hv hc (t := t) hb (Or.inr rfl) hw hw2 hl hl2
 have h2 := rput_eq hr ok hs hv hc (t := t) hb (Or.inl rfl) hw2 hw2 hl2 hl2
 have h3 := rmend_eq hr ok hs hv hc (t := t) hb hw2
 simp only [law11_told.c, law11_told.t]
 unfold Fl.jact
 by_cases k0 : kind = 0
 ·rw [bb_pos (by rw [k0]; rfl), bb_pos (by rw [k0]; rfl), opt_some h1, Tw.run_ret, if_pos (Or.inl k0)]
 rw [bb_neg (beq_eq_false_iff_ne.2 k0)]
 by_cases k1 : kind = 1
 ·rw [bb_pos (by rw [k1]; rfl), opt_some h1, Tw.run_ret, if_pos (Or.inr k1)]
 rw [bb_neg (beq_eq_false_iff_ne.2 k1), if_neg (by omega)]
 by_cases k2 : kind = 2
 ·rw [bb_pos (by rw [k2]; rfl), opt_some h2, Tw.run_ret, if_pos k2]
 rw [bb_neg (beq_eq_false_iff_ne.2 k2), if_neg k2]
 by_cases k3 : kind = 3
 ·rw [bb_pos (by rw [k3]; rfl), opt_some h3, Tw.run_ret, if_pos k3]
 rw [bb_neg (beq_eq_false_iff_ne.2 k3), if_neg k3, Tw.run_ret]
 rfl
end

abbrev P24 : Type := Int × (Bool × (Int × (List Int × (List Int × (Int × (Bool × (Int × (List Int × (List Int × (Int × (Int × (Bool × (Int × (List Int × (List (List Int) × (Int × (Int × (Bool × (Int × (List Int × (List (List Int) × (List Int × List Int))))))))))))))))))))))
def pairJ (s u : Fl) (c : Nat) (t : Bool) (j : JS) : P24 := (s.C, s.D, s.A, s.W, s.V, u.C, u.D, u.A, u.W, u.V, (c : Int), (j.tail : Int), t, j.seq, j.whole, j.chg, (c : Int), (j.tail : Int), t, j.seq, j.whole, j.chg, s.M, u.M)
structure Good (n : Nat) (v : Int) (s u : Fl) (c : Nat) (t : Bool) (j : JS) : Prop where
 fs : FlOK n s
 fu : FlOK n u
 nr : Nr s u
 vl : (s.V.length : Int) = v
 dk : s.D = false
 jn : JIn n s c t j
def ActJ (x : Act11) : Prop := InR .i64 x.n ∧ x.load.length ≤ 100 ∧ Words x.load ∧ x.whole.length ≤ 100 ∧ Words x.whole
theorem words_smM {s : Fl} {n : Nat} (hs : FlOK n s) : flash_Flash_Words.c (n : Int) s.C s.D s.A s.W s.V s.M = some s.W ∧ ref01_Same.c s.W s.W = some true := by
 have := hs.wl
 refine ⟨?_, ?_⟩
 ·simp only [flash_Flash_Words.c, flash_Flash_Words.t]
  rw [opt_some (clone32_eq (by omega)), Tw.run_ret]
 ·exact (ref01_Same_eq (by omega)).trans (by simp)

section
variable {n : Nat} {g1 g2 g3 g4 g5 : Int} (hr : GeoR (n : Int) g1 g2 g3 g4 g5) (ok : GeoOK (n : Int) g1 g2 g3 g4 g5)
include hr ok
omit hr ok in
theorem Good.opened {s u : Fl} (hs : FlOK n s) (hu : FlOK n u) (hN : Nr s u) (hv : (s.V.length : Int) = 2 + 2 * g1 + g2) {c : Nat} {t : Bool} {j : JS} (hI : JIn n s c t j) : Good n (2 + 2 * g1 + g2) (s.power []) (u.power u.M) c t j := by
 obtain ⟨b1, b2, b3, b4, b5⟩ := hN.same
 exact ⟨power_ok hs words_nil (by simp), power_ok hu hu.m hu.ml, Or.inr ⟨by simp [Fl.power], u.M, by simp only [Fl.power, Fl.setM, b1, b4, b5]⟩, hv, rfl, hI.congr rfl⟩
theorem stepJ {s u : Fl} {c : Nat} {t : Bool} {j : JS} (h : Good n (2 + 2 * g1 + g2) s u c t j) {l : List Act11} {i : Nat} {x : Act11} (hi : l[i]? = some x) (hx : ActJ x) (hl : l.length ≤ 60) :
  ∃ s' u' c' t' j', Good n (2 + 2 * g1 + g2) s' u' c' t' j' ∧
  (law11_pair_run.l2 l (n : Int) (n : Int) g1 g2 g3 g4 g5 (n : Int) g1 g2 g3 g4 g5 (n : Int) (i : Int) s.C s.D s.A s.W s.V u.C u.D u.A u.W u.V (c : Int) (j.tail : Int) t j.seq j.whole j.chg (c : Int) (j.tail : Int) t j.seq j.whole j.chg s.M u.M).run = some (.inl (((i + 1 : Nat) : Int), pairJ s' u' c' t' j')) := by
 have ok' := ok
 unfold GeoOK at ok'
 obtain ⟨kind, nn, ld, wh⟩ := x
 obtain ⟨hn, hl1, hw1, hl2, hw2⟩ := hx
 simp only at hn hl1 hw1 hl2 hw2
 have hlt := (List.getElem?_eq_some_iff.1 hi).1
 have hi0 : l[(i : Int).toNat]? = some ⟨kind, nn, ld, wh⟩ := by rw [Int.toNat_natCast]; exact hi
 have e : w64 ((i : Int) + 1) = ((i + 1 : Nat) : Int) := by rw [w64_of (by omega) (by omega)]; rfl
 obtain ⟨b1, b2, b3, b4, b5⟩ := h.nr.same
 have hvu : (u.V.length : Int) = 2 + 2 * g1 + g2 := by rw [b5]; exact h.vl
 have hjb := (h.jn.jb (show n ≤ 1024 by omega)).1
 have hc := h.jn.lt
 simp only [law11_pair_run.l2]
 rw [bb_pos (decide_eq_true (by omega)), dd_pos (by omega), opt_some hi0]
 by_cases h5 : kind = 5
 ·-- a fuse
  subst h5
  have hs' := arm_ok h.fs hn hw1 (show ld.length ≤ 200 by omega)
  have hu' := arm_ok h.fu hn hw1 (show ld.length ≤ 200 by omega)
  have hI' : JIn n (s.arm nn ld) c t j := h.jn.congr rfl
  have hA : flash_Flash_Arm.c nn ld (n : Int) s.C s.D s.A s.W s.V s.M = some (imax nn (-1), ld) := by
   simp only [flash_Flash_Arm.c, flash_Flash_Arm.t]
   rw [opt_some (clone32_eq (by omega)), Tw.run_ret]
  have hA' : ref07_Flash_Arm.c nn ld (n : Int) u.C u.D u.A u.W u.V u.M = some (imax nn (-1)) := by
   simp only [ref07_Flash_Arm.c, ref07_Flash_Arm.t]
   rw [dd_pos (by omega), Tw.run_ret]
  have hd := do_eq hr ok hs' h.vl hc (t := t) hjb 5 nn hw1 hw2 (by omega) (by omega)
  have ht := told_eq hr ok hu' hvu hc (t := t) hjb 5 nn hw1 hw2 (by omega) (by omega)
  have e5 : ∀ f : Fl, f.jact n g5 c t j 5 ld wh = (0, f, c, t, j) := fun f => by
   unfold Fl.jact
   rw [if_neg (by decide), if_neg (by decide), if_neg (by decide)]
  rw [e5] at hd ht
  obtain ⟨w1, w3⟩ := words_smM hs'
  have hsm := same_eq (t := t) (c := (c : Int)) (g1 := g1) (g2 := g2) (g3 := g3) (g4 := g4) (g5 := g5) (C := s.C) (D := s.D) (A := imax nn (-1)) (W := s.W) (V := s.V) (M := ld) hjb u.C u.D (imax nn (-1)) u.W u.V ld
  refine ⟨s.arm nn ld, u.arm nn ld, c, t, j, ⟨hs', hu', Or.inl (by simp only [Fl.arm, b1, b2, b4, b5]), h.vl, h.dk, hI'⟩, ?_⟩
  rw [bb_pos (by rfl), opt_some hA, opt_some hA', opt_some (by exact hd), opt_some (by exact ht), bb_neg (by simp [outJ, outR]), opt_some (x := s.W) (by exact w1), opt_some (x := true) (by
   show ref01_Same.c s.W u.W = _
   rw [b4]
   exact w3), bb_neg (by rfl), bb_neg (by rfl), opt_some (x := true) (by exact hsm), bb_neg (by rfl), bb_neg (by rfl), bb_neg (by rfl), Tw.run_ret, e]
  rfl
 -- an act
 rw [bb_neg (beq_eq_false_iff_ne.2 h5)]
 have hd := do_eq hr ok h.fs h.vl hc (t := t) hjb kind nn hw1 hw2 (show ld.length ≤ 1000 by omega) (show wh.length ≤ 1000 by omega)
 have ht := told_eq hr ok h.fu hvu hc (t := t) hjb kind nn hw1 hw2 (show ld.length ≤ 1000 by omega) (show wh.length ≤ 1000 by omega)
 obtain ⟨n1, n2, n3⟩ := h.nr.jact (n := n) g5 c t j kind ld wh
 have hE := jact_end h.fs h.dk (show 59 ≤ n by omega) (by have := h.vl; omega) h.jn (show g5 ≤ 1073741823 by omega) kind hw1 hw2
 have hEu : FlOK n (u.jact n g5 c t j kind ld wh).2.1 ∧ (u.jact n g5 c t j kind ld wh).2.1.M = u.M := by
  have hIu : JIn n u c t j := h.jn.congr b4
  have := jact_end h.fu (by rw [b2]; exact h.dk) (show 59 ≤ n by omega) (by omega) hIu (show g5 ≤ 1073741823 by omega) kind hw1 hw2
  exact ⟨this.1, this.2.2.1⟩
 have hk4 : kind = 4 → (s.jact n g5 c t j kind ld wh).1 = 0 := fun hk => by
  subst hk
  unfold Fl.jact
  rw [if_neg (by decide), if_neg (by decide), if_neg (by decide)]
 obtain ⟨r1, r2, r3, r4⟩ := hE
 obtain ⟨s', hs'⟩ : ∃ s', s' = (s.jact n g5 c t j kind ld wh).2.1 := ⟨_, rfl⟩
 obtain ⟨u', hu'⟩ : ∃ u', u' = (u.jact n g5 c t j kind ld wh).2.1 := ⟨_, rfl⟩
 obtain ⟨er, her⟩ : ∃ er, er = (s.jact n g5 c t j kind ld wh).1 := ⟨_, rfl⟩
 obtain ⟨c', hc'⟩ : ∃ c', c' = (s.jact n g5 c t j kind ld wh).2.2.1 := ⟨_, rfl⟩
 obtain ⟨t', ht'⟩ : ∃ t', t' = (s.jact n g5 c t j kind ld wh).2.2.2.1 := ⟨_, rfl⟩
 obtain ⟨j', hj'⟩ : ∃ j', j' = (s.jact n g5 c t j kind ld wh).2.2.2.2 := ⟨_, rfl⟩
 have od : outJ (s.jact n g5 c t j kind ld wh) = (er, (c' : Int), (j'.tail : Int), t', j'.seq, j'.whole, s'.C, s'.D, s'.A, s'.W, s'.V, j'.chg) := by
  simp only [outJ, ← hs', ← her, ← hc', ← ht', ← hj']
 have ot : outR (u.jact n g5 c t j kind ld wh) = (er, (c' : Int), (j'.tail : Int), t', j'.seq, j'.whole, j'.chg, u'.C, u'.D, u'.A, u'.W, u'.V) := by
  simp only [outR, n1, n2, ← hu', ← her, ← hc', ← ht', ← hj']
 rw [← her] at hk4
 rw [← hs'] at r1 r2 r3 n3
 rw [← her, ← hs', ← hc', ← ht', ← hj'] at r4
 rw [← hu'] at n3 hEu
 rw [od] at hd
 rw [ot] at ht
 have hv' : (s'.V.length : Int) = 2 + 2 * g1 + g2 := by rw [r2]; exact h.vl
 obtain ⟨d1, d2, d3, d4, d5⟩ := n3.same
 obtain ⟨w1, w3⟩ := words_smM r1
 rw [r3] at w1
 have w3' : ref01_Same.c s'.W u'.W = some true := by rw [d4]; exact w3
 rw [opt_some hd, opt_some ht, bb_neg (by simp), opt_some (x := s'.W) (by exact w1), opt_some (x := true) (by exact w3'), bb_neg (by rfl)]
 -- both are opened anew
 have hop : ∀ (c2 : Nat) (t2 : Bool) (j2 : JS), JIn n s' c2 t2 j2 → ∀ (a1 a2 : Int) (a3 : Bool) (a4 : Int) (a5 : List Int) (a6 : List (List Int)) (q1 q2 : Int) (q3 : Bool) (q4 : Int) (q5 : List Int) (q6 : List (List Int)),
   law11_pair_opened.c (n : Int) s'.C s'.D s'.A s'.W s'.V s.M (n : Int) g1 g2 g3 g4 g5 a1 a2 a3 a4 a5 a6 q1 q2 q3 q4 q5 q6 (n : Int) g1 g2 g3 g4 g5 (n : Int) u'.C u'.D u'.A u'.W u'.V u.M =
    some (.inr (true, false, -1, false, -1, (c2 : Int), (j2.tail : Int), t2, j2.seq, j2.whole, j2.chg, (c2 : Int), (j2.tail : Int), t2, j2.seq, j2.whole, j2.chg, [])) := fun c2 t2 j2 hI2 a1 a2 a3 a4 a5 a6 q1 q2 q3 q4 q5 q6 => by
  have := opened_eq hr ok r1 hEu.1 d4 d5 d1 hv' hI2 a1 a2 a3 a4 a5 a6 q1 q2 q3 q4 q5 q6
  rw [r3, hEu.2] at this
  exact this
 rcases r4 with ⟨k1, k2, k3, k4⟩ | ⟨k1, k2, c2, t2, j2, k3, _⟩
 ·-- done
  have hjb' := (k3.jb (show n ≤ 1024 by omega)).1
  have hsm := same_eq (t := t') (c := (c' : Int)) (g1 := g1) (g2 := g2) (g3 := g3) (g4 := g4) (g5 := g5) (C := s'.C) (D := s'.D) (A := s'.A) (W := s'.W) (V := s'.V) (M := s.M) hjb' u'.C u'.D u'.A u'.W u'.V u.M
  rw [bb_neg (beq_eq_false_iff_ne.2 k1), opt_some (x := true) (by exact hsm)]
  by_cases h4 : kind = 4
  ·rw [bb_pos (by rw [h4]; rfl), opt_some (by exact hop c' t' j' k3 ..), sm_inr, bb_neg (by rfl), Tw.run_ret, e]
   exact ⟨_, _, _, _, _, Good.opened r1 hEu.1 n3 hv' k3, by simp only [pairJ, Fl.power, hEu.2]⟩
  ·rw [bb_neg (beq_eq_false_iff_ne.2 h4), bb_neg (beq_eq_false_iff_ne.2 k1), bb_neg (by rfl), Tw.run_ret, e]
   exact ⟨s', u', c', t', j', ⟨r1, hEu.1, n3, hv', k2, k3⟩, by simp only [pairJ, r3, hEu.2]⟩
 ·-- the power went
  have h4 : kind ≠ 4 := fun hk => by
   have := hk4 hk
   omega
  rw [bb_pos (by rw [k1]; rfl), bb_neg (beq_eq_false_iff_ne.2 h4), bb_pos (by rw [k1]; rfl), opt_some (by exact hop c2 t2 j2 k3 ..), sm_inr, bb_neg (by rfl), Tw.run_ret, e]
  exact ⟨_, _, _, _, _, Good.opened r1 hEu.1 n3 hv' k3, by simp only [pairJ, Fl.power, hEu.2]⟩
theorem loopJ {s u : Fl} {c : Nat} {t : Bool} {j : JS} (h : Good n (2 + 2 * g1 + g2) s u c t j) {l : List Act11} (hx : ∀ x ∈ l, ActJ x) (hl : l.length ≤ 60) :
  ∃ s' u' c' t' j', Good n (2 + 2 * g1 + g2) s' u' c' t' j' ∧
  law11_pair_run.L2 l 0 (n : Int) s.C s.D s.A s.W s.V (n : Int) g1 g2 g3 g4 g5 (n : Int) g1 g2 g3 g4 g5 (n : Int) u.C u.D u.A u.W u.V (c : Int) (j.tail : Int) t j.seq j.whole j.chg (c : Int) (j.tail : Int) t j.seq j.whole j.chg s.M u.M = some (.inl (pairJ s' u' c' t' j')) := by
 unfold law11_pair_run.L2
 obtain ⟨x, h1, s', u', c', t', j', h2, rfl⟩ := Lp_inv (fun z : Int × P24 => (law11_pair_run.l2 l (n : Int) (n : Int) g1 g2 g3 g4 g5 (n : Int) g1 g2 g3 g4 g5 (n : Int) z.1 z.2.1 z.2.2.1 z.2.2.2.1 z.2.2.2.2.1 z.2.2.2.2.2.1 z.2.2.2.2.2.2.1 z.2.2.2.2.2.2.2.1 z.2.2.2.2.2.2.2.2.1 z.2.2.2.2.2.2.2.2.2.1 z.2.2.2.2.2.2.2.2.2.2.1 z.2.2.2.2.2.2.2.2.2.2.2.1 z.2.2.2.2.2.2.2.2.2.2.2.2.1 z.2.2.2.2.2.2.2.2.2.2.2.2.2.1 z.2.2.2.2.2.2.2.2.2.2.2.2.2.2.1 z.2.2.2.2.2.2.2.2.2.2.2.2.2.2.2.1 z.2.2.2.2.2.2.2.2.2.2.2.2.2.2.2.2.1 z.2.2.2.2.2.2.2.2.2.2.2.2.2.2.2.2.2.1 z.2.2.2.2.2.2.2.2.2.2.2.2.2.2.2.2.2.2.1 z.2.2.2.2.2.2.2.2.2.2.2.2.2.2.2.2.2.2.2.1 z.2.2.2.2.2.2.2.2.2.2.2.2.2.2.2.2.2.2.2.2.1 z.2.2.2.2.2.2.2.2.2.2.2.2.2.2.2.2.2.2.2.2.2.1 z.2.2.2.2.2.2.2.2.2.2.2.2.2.2.2.2.2.2.2.2.2.2.1 z.2.2.2.2.2.2.2.2.2.2.2.2.2.2.2.2.2.2.2.2.2.2.2.1 z.2.2.2.2.2.2.2.2.2.2.2.2.2.2.2.2.2.2.2.2.2.2.2.2).run)
  (fun z => ∃ (i : Nat) (s' u' : Fl) (c' : Nat) (t' : Bool) (j' : JS), i ≤ l.length ∧ Good n (2 + 2 * g1 + g2) s' u' c' t' j' ∧ z = ((i : Int), pairJ s' u' c' t' j')) (fun z => l.length - z.1.toNat)
  (fun x => ∃ s' u' c' t' j', Good n (2 + 2 * g1 + g2) s' u' c' t' j' ∧ x = .inl (pairJ s' u' c' t' j')) (fun z hz => by
   obtain ⟨i, s', u', c', t', j', hi, h1, rfl⟩ := hz
   by_cases hlt : i < l.length
   ·have hi' : l[i]? = some l[i] := List.getElem?_eq_getElem hlt
    obtain ⟨s2, u2, c2, t2, j2, k1, k2⟩ := stepJ hr ok h1 hi' (hx _ (List.getElem_mem hlt)) hl
    exact Or.inl ⟨_, k2, ⟨i + 1, s2, u2, c2, t2, j2, by omega, k1, rfl⟩, by simp only [Int.toNat_natCast]; omega⟩
   ·refine Or.inr ⟨_, ?_, s', u', c', t', j', h1, rfl⟩
    simp only [law11_pair_run.l2]
    rw [bb_neg (decide_eq_false (by omega)), Tw.run_ret]) l.length (0, pairJ s u c t j) (by simp) ⟨0, s, u, c, t, j, by omega, h, rfl⟩
 exact ⟨s', u', c', t', j', h2, h1⟩
theorem runJ {s u : Fl} {c : Nat} {t : Bool} {j : JS} (h : Good n (2 + 2 * g1 + g2) s u c t j) {l : List Act11} (hx : ∀ x ∈ l, ActJ x) (hl : l.length ≤ 60) :
  ∃ s' u' c' t' j', Good n (2 + 2 * g1 + g2) s' u' c' t' j' ∧
  law11_pair_run.c l (n : Int) s.C s.D s.A s.W s.V s.M (n : Int) g1 g2 g3 g4 g5 (c : Int) (j.tail : Int) t j.seq j.whole j.chg (c : Int) (j.tail : Int) t j.seq j.whole j.chg (n : Int) g1 g2 g3 g4 g5 (n : Int) u.C u.D u.A u.W u.V u.M = some (true, pairJ s' u' c' t' j') := by
 obtain ⟨s', u', c', t', j', h1, h2⟩ := loopJ hr ok h hx hl
 refine ⟨s', u', c', t', j', h1, ?_⟩
 simp only [law11_pair_run.c, law11_pair_run.t]
 rw [opt_some h2, sm_inl, Tw.run_ret]
omit hr in
theorem begin_good {m : Nat} (hm : 2 + 2 * g1.toNat + g2.toNat = m) {l : List Int} (hw : Words l) (hl : loadOK l) : Good n (2 + 2 * g1 + g2) (newS m n l) (newS m n l) 0 false ⟨l.length + 3, 1, l, []⟩ := by
 have ok' := ok
 unfold GeoOK at ok'
 obtain ⟨i1, i2, i3, i4, i5, _⟩ := new_in ok hm hw hl
 exact ⟨i1, i1, Or.inl rfl, by rw [i3]; omega, i2.1, i5⟩
end

theorem awakeJ : law11_awake.c = some true := by
 have hG : GeoR ((64 : Nat) : Int) 2 5 2 1 9 ∧ GeoOK ((64 : Nat) : Int) 2 5 2 1 9 := ⟨by refine ⟨?_, ?_, ?_, ?_, ?_, ?_⟩ <;> decide, by decide⟩
 have w5 : Words [5] := words_cons (inR_u32 (by decide)) words_nil
 have w6 : Words [6] := words_cons (inR_u32 (by decide)) words_nil
 have w7 : Words [7] := words_cons (inR_u32 (by decide)) words_nil
 have hl5 : loadOK [5] := by decide
 have hB := begin_eq hG.1 hG.2 (m := 11) (by decide) w5 (by decide) hl5
 obtain ⟨i1, i2, i3, i4, i5, _⟩ := new_in (n := 64) hG.2 (m := 11) (by decide) w5 hl5
 have hg := begin_good hG.2 (m := 11) (by decide) w5 hl5
 generalize newS 11 64 [5] = s at *
 have hjb := (i5.jb (by decide)).1
 have hC := change_eq hG.1 hG.2 i1 (by rw [i3]; decide) (c := 0) (by decide) (t := false) hjb w7 w6 (by decide) (by decide)
 have hE := jput_end i1 i2.1 (by decide) (by rw [i3]; decide) i5 (life := 9) (by decide) (Or.inr rfl) w7 w6
 have hL := jput_Lit (n := 64) i2 9 0 false ⟨([5] : List Int).length + 3, 1, [5], []⟩ 2 [7] [6]
 obtain ⟨e1, e2, e3, e4⟩ := hE
 rcases e4 with ⟨k1, k2, k3, k4⟩ | ⟨_, k2, _⟩
 rotate_left
 ·rw [hL.1] at k2
  cases k2
 have hfull : (if ¬(loadOK [7] ∧ loadOK [6]) ∨ (⟨([5] : List Int).length + 3, 1, [5], []⟩ : JS).seq ≥ 9 then (⟨([5] : List Int).length + 3, 1, [5], []⟩ : JS) else if false = true ∨ (⟨([5] : List Int).length + 3, 1, [5], []⟩ : JS).tail + (([7] : List Int).length + 3) > 64 then ⟨([6] : List Int).length + 3, (⟨([5] : List Int).length + 3, 1, [5], []⟩ : JS).seq + 1, [6], []⟩ else (⟨([5] : List Int).length + 3, 1, [5], []⟩ : JS).add ⟨2, (⟨([5] : List Int).length + 3, 1, [5], []⟩ : JS).seq + 1, [7]⟩) = ⟨8, 2, [5], [[7]]⟩ := by
  rw [if_neg (by decide), if_neg (by decide)]
  rfl
 rw [hfull] at k4
 have k5 : (s.jput 64 9 0 false ⟨([5] : List Int).length + 3, 1, [5], []⟩ 2 [7] [6]).1 = 0 ∧ (s.jput 64 9 0 false ⟨([5] : List Int).length + 3, 1, [5], []⟩ 2 [7] [6]).2.2.1 = 0 ∧ (s.jput 64 9 0 false ⟨([5] : List Int).length + 3, 1, [5], []⟩ 2 [7] [6]).2.2.2.1 = false := by
  unfold Fl.jput at k4 ⊢
  rw [if_neg (by decide), if_neg (by decide), if_neg (by decide)] at k4 ⊢
  by_cases hz : (s.dwrite 64 ((0 : Nat) : Int) (((⟨([5] : List Int).length + 3, 1, [5], []⟩ : JS).tail : Nat) : Int) (Fm.w ⟨2, (⟨([5] : List Int).length + 3, 1, [5], []⟩ : JS).seq + 1, [7]⟩)).1 ≠ 0
  ·rw [if_pos hz] at k4
   exact absurd (show (1 : Int) = 2 from congrArg JS.seq k4) (by decide)
  ·rw [if_neg hz]
   exact ⟨rfl, rfl, rfl⟩
 generalize s.jput 64 9 0 false ⟨([5] : List Int).length + 3, 1, [5], []⟩ 2 [7] [6] = r at *
 obtain ⟨k5, k6, k7⟩ := k5
 have ho : outJ r = (0, 0, 8, false, 2, [5], r.2.1.C, r.2.1.D, r.2.1.A, r.2.1.W, r.2.1.V, [[7]]) := by
  simp only [outJ, k4, k5, k6, k7]
  rfl
 rw [ho, i4] at hC
 have jb2 : JB 64 ⟨8, 2, [5], [[7]]⟩ := ⟨by decide, by decide, by decide, by decide, by decide, fun l hl => by rw [List.mem_singleton.1 hl]; decide⟩
 simp only [law11_awake.c, law11_awake.t]
 rw [opt_some (by exact hB), sm_inl, bb_neg (by rfl), opt_some (by exact hC), opt_some (by exact changes_eq jb2 ..), bb_pos (by rfl), opt_some (x := ()) (by rfl), bb_pos (by rfl), opt_some (by exact whole_eq jb2 ..), opt_some (x := true) (by exact (ref01_Same_eq (by decide)).trans (by simp)), bb_pos (by rfl), bb_pos (by rfl), dd_pos (by decide), opt_some (x := [7]) (by rfl), opt_some (x := true) (by exact (ref01_Same_eq (by decide)).trans (by simp)), Tw.run_ret]

end Go.Proofs.YtkoidgjgdhpdnaaGreat.Pure
