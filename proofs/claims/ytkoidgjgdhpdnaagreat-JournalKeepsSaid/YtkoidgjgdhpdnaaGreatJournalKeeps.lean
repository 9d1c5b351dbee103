/- MASKED. The plain truth of JournalKeeps. -/
import Derived.Test.YtkoidgjgdhpdnaaGreatFlaw11JournalKeeps
import Derived.Test.YtkoidgjgdhpdnaaGreatQAll2
set_option linter.unusedSimpArgs false
set_option linter.unusedVariables false
namespace Go.Proofs.YtkoidgjgdhpdnaaGreat.Pure
open Go Go.Proofs.YtkoidgjgdhpdnaaGreat.Va

section
variable {n : Nat} {g1 g2 g3 g4 g5 : Int} (hr : GeoR (n : Int) g1 g2 g3 g4 g5) (ok : GeoOK (n : Int) g1 g2 g3 g4 g5)
include hr ok
/-- Opened once more it says the same, and mended it is mended without a write. -/
theorem keeps28 {s : Fl} (hs : FlOK n s) (hD : s.D = false) (hv : (s.V.length : Int) = 2 + 2 * g1 + g2) {c : Nat} {t : Bool} {j : JS} (hI : JIn n s c t j) (ht : t = false ∨ j.seq ≥ g5)
  (a1 a2 : Int) (a3 : Bool) (a4 : Int) (a5 : List Int) (a6 : List (List Int)) (b1 b2 : Int) (b3 : Bool) (b4 : Int) (b5 : List Int) (b6 : List (List Int)) (d1 d2 d3 d4 d5 d6 e1 e2 : Int) (e3 : Bool) (e4 : Int) (f1 f2 f3 : List Int) :
  law11_JournalKeeps.C28 (n : Int) s.C s.D s.A s.W s.V s.M (n : Int) g1 g2 g3 g4 g5 a1 a2 a3 a4 a5 a6 b1 b2 b3 b4 b5 b6 d1 d2 d3 d4 d5 d6 e1 e2 e3 e4 f1 f2 f3 (c : Int) (j.tail : Int) t j.seq j.whole j.chg = some true := by
 have ok' := ok
 unfold GeoOK at ok'
 have hO := (open_eq hr ok hs hv hD hI (show 2 ≤ s.V.length by omega)).1
 obtain ⟨hjb, _⟩ := hI.jb (show n ≤ 1024 by omega)
 have hM := mend_eq hr ok hs hv hI.lt (t := t) hjb (whole := [1]) (words_cons (inR_u32 (by decide)) words_nil) (by decide)
 have hm : s.jmend n g5 c t j [1] = (0, s, c, t, j) := by
  unfold Fl.jmend
  rw [if_neg (by decide), if_pos ht]
 rw [hm] at hM
 have hw := hjb.whole
 unfold law11_JournalKeeps.C28
 simp only [law11_JournalKeeps.c28]
 rw [opt_some (x := ()) (by rfl), opt_some (by exact hO), sm_inr, bb_pos (by rfl), opt_some (x := ()) (by rfl), opt_some (x := ()) (by rfl), bb_pos (by simp), opt_some (by exact hM), bb_pos (by rfl), opt_some (x := ()) (by rfl), bb_pos (by simp [outJ]),
  opt_some (x := ()) (by rfl), opt_some (x := ()) (by rfl), bb_pos (by simp [outJ]), opt_some (x := j.whole) (by exact whole_eq hjb ..), opt_some (x := j.whole) (by exact whole_eq hjb ..), opt_some (x := true) (by exact (ref01_Same_eq (by omega)).trans (by simp)), bb_pos (by rfl), opt_some awakeJ, Tw.run_ret]
/-- What it says is mended. -/
theorem keeps25 {s : Fl} (hs : FlOK n s) (hL : Lit s) (hv : (s.V.length : Int) = 2 + 2 * g1 + g2) {c : Nat} {t : Bool} {j : JS} (hI : JIn n s c t j)
  (a1 a2 : Int) (a3 : Bool) (a4 : Int) (a5 : List Int) (a6 : List (List Int)) (b1 b2 : Int) (b3 : Bool) (b4 : Int) (b5 : List Int) (b6 : List (List Int)) (d1 d2 d3 d4 d5 d6 e1 e2 : Int) (e3 : Bool) (e4 : Int) (f1 f2 f3 : List Int) :
  law11_JournalKeeps.C25 (n : Int) g1 g2 g3 g4 g5 (n : Int) s.C s.D s.A s.W s.V s.M (n : Int) g1 g2 g3 g4 g5 a1 a2 a3 a4 a5 a6 b1 b2 b3 b4 b5 b6 d1 d2 d3 d4 d5 d6 e1 e2 e3 e4 f1 f2 f3 (c : Int) (j.tail : Int) t j.seq j.whole j.chg = some true := by
 have ok' := ok
 unfold GeoOK at ok'
 obtain ⟨hjb, _, hlo, hww⟩ := hI.jb (show n ≤ 1024 by omega)
 have hM := mend_eq hr ok hs hv hI.lt (t := t) hjb hww (by have := hjb.whole; omega)
 have hE := jmend_end hs hL.1 (show 59 ≤ n by omega) (show 2 ≤ s.V.length by omega) hI (show g5 ≤ 1073741823 by omega) hww
 have hLit := jmend_Lit (n := n) hL g5 c t j j.whole
 have h0 : (s.jmend n g5 c t j j.whole).1 = 0 ∧ ((s.jmend n g5 c t j j.whole).2.2.2.1 = false ∨ (s.jmend n g5 c t j j.whole).2.2.2.2.seq ≥ g5) := by
  obtain ⟨_, _, _, q⟩ := hE
  unfold Fl.jmend at q hLit ⊢
  rw [if_neg (fun h => h hlo)] at q hLit ⊢
  by_cases h2 : t = false ∨ j.seq ≥ g5
  ·rw [if_pos h2]
   exact ⟨rfl, h2⟩
  ·rw [if_neg h2] at q hLit ⊢
   rw [if_neg (show ¬(¬loadOK j.whole ∨ t = false ∨ j.seq ≥ g5) from fun h => h.elim (fun h => h hlo) h2)] at q
   unfold Fl.jover at q hLit ⊢
   split at q
   ·next hz =>
    rw [if_pos hz] at hLit
    rcases q with ⟨_, _, _, q⟩ | ⟨_, q, _⟩
    ·have := congrArg JS.seq q
     simp only at this
     omega
    ·rw [hLit.1] at q
     cases q
   ·next hz =>
    rw [if_neg hz]
    exact ⟨rfl, Or.inl rfl⟩
 obtain ⟨r1, r2, r3, r4⟩ := hE
 obtain ⟨h0, hT⟩ := h0
 generalize s.jmend n g5 c t j j.whole = r at *
 obtain ⟨er, s', c', t', j'⟩ := r
 simp only at h0 hT r1 r2 r3 r4 hLit
 subst h0
 rcases r4 with ⟨_, q2, q3, _⟩ | ⟨q1, _⟩
 rotate_left
 ·exact absurd q1 (by decide)
 have h28 := keeps28 hr ok r1 q2 (by rw [r2]; exact hv) q3 hT
 rw [r3] at h28
 unfold law11_JournalKeeps.C25
 simp only [law11_JournalKeeps.c25]
 rw [opt_some (x := j.whole) (by exact whole_eq hjb ..), opt_some (by exact hM), bb_neg (by rfl), opt_some (x := ()) (by rfl)]
 cases t' with
 | false =>
  rw [bb_neg (by rfl), opt_some (x := true) (by exact h28 ..), Tw.run_ret]
 | true =>
  have hT : j'.seq ≥ g5 := by
   rcases hT with h | h
   ·cases h
   ·exact h
  rw [bb_pos (by rfl), opt_some (x := ()) (by rfl), bb_neg (decide_eq_false (by show ¬ j'.seq < g5; omega)), opt_some (x := true) (by exact h28 ..), Tw.run_ret]
theorem keeps23 {s : Fl} (hs : FlOK n s) (hL : Lit s) (hv : (s.V.length : Int) = 2 + 2 * g1 + g2) {c : Nat} {t : Bool} {j : JS} (hI : JIn n s c t j) {e : Int} {was is_ : Bool} (h1 : e ≠ 10 → is_ = true) (h2 : was = true ∨ is_ = true)
  (a1 a2 : Int) (a3 : Bool) (a4 : Int) (a5 : List Int) (a6 : List (List Int)) (b1 b2 : Int) (b3 : Bool) (b4 : Int) (b5 : List Int) (b6 : List (List Int)) (d1 d2 d3 d4 d5 d6 e1 e2 : Int) (e3 : Bool) (e4 : Int) (f1 f2 f3 : List Int) :
  law11_JournalKeeps.C23 e was is_ (n : Int) g1 g2 g3 g4 g5 (n : Int) s.C s.D s.A s.W s.V s.M (n : Int) g1 g2 g3 g4 g5 a1 a2 a3 a4 a5 a6 b1 b2 b3 b4 b5 b6 d1 d2 d3 d4 d5 d6 e1 e2 e3 e4 f1 f2 f3 (c : Int) (j.tail : Int) t j.seq j.whole j.chg = some true := by
 have h25 := keeps25 hr ok hs hL hv hI
 unfold law11_JournalKeeps.C23
 simp only [law11_JournalKeeps.c23]
 by_cases he : e = 10
 ·rw [bb_neg (by rw [he]; rfl)]
  cases was with
  | true => rw [bb_neg (by rfl), opt_some (x := true) (by exact h25 ..), Tw.run_ret]
  | false =>
   have : is_ = true := h2.elim (fun h => nomatch h) id
   subst this
   rw [bb_pos (by rfl), bb_neg (by rfl), opt_some (x := true) (by exact h25 ..), Tw.run_ret]
 ·have := h1 he
  subst this
  rw [bb_pos (by rw [bne_iff_ne]; exact he), bb_neg (by rfl)]
  cases was with
  | true => rw [bb_neg (by rfl), opt_some (x := true) (by exact h25 ..), Tw.run_ret]
  | false => rw [bb_pos (by rfl), bb_neg (by rfl), opt_some (x := true) (by exact h25 ..), Tw.run_ret]
theorem keeps22 {s : Fl} (hs : FlOK n s) (hL : Lit s) (hv : (s.V.length : Int) = 2 + 2 * g1 + g2) {c : Nat} {t : Bool} {j full : JS} (hI : JIn n s c t j) {e : Int} {was : Bool} (h1 : e ≠ 10 → sayJ j full) (h2 : was = true ∨ sayJ j full)
  (a1 a2 : Int) (a3 : Bool) (a4 : Int) (a5 : List Int) (a6 : List (List Int)) (b1 b2 : Int) (b3 : Bool) (d1 d2 d3 d4 d5 d6 e1 e2 : Int) (e3 : Bool) (e4 : Int) (f1 f2 f3 : List Int) :
  law11_JournalKeeps.C22 e was (n : Int) g1 g2 g3 g4 g5 (n : Int) s.C s.D s.A s.W s.V s.M (n : Int) g1 g2 g3 g4 g5 a1 a2 a3 a4 a5 a6 b1 b2 b3 full.seq full.whole full.chg d1 d2 d3 d4 d5 d6 e1 e2 e3 e4 f1 f2 f3 (c : Int) (j.tail : Int) t j.seq j.whole j.chg = some true := by
 have ok' := ok
 unfold GeoOK at ok'
 obtain ⟨hjb, _⟩ := hI.jb (show n ≤ 1024 by omega)
 have hjw := hjb.whole
 have hloads := loads_eq (a := j.chg) (b := full.chg) hjb.chg (fun l hl => by have := hjb.each l hl; omega)
 have key : ∀ is_ : Bool, (is_ = true ↔ sayJ j full) → (e ≠ 10 → is_ = true) ∧ (was = true ∨ is_ = true) := fun is_ hi => ⟨fun he => hi.2 (h1 he), h2.imp id hi.2⟩
 unfold law11_JournalKeeps.C22
 simp only [law11_JournalKeeps.c22]
 rw [opt_some (x := ()) (by rfl)]
 by_cases q1 : j.seq = full.seq
 rotate_left
 ·obtain ⟨k1, k2⟩ := key false (by simp [sayJ, q1])
  rw [bb_neg (beq_eq_false_iff_ne.2 q1), opt_some (x := true) (by exact keeps23 hr ok hs hL hv hI k1 k2 ..), Tw.run_ret]
 rw [bb_pos (by rw [beq_iff_eq]; exact q1), opt_some (x := j.whole) (by exact whole_eq hjb ..), opt_some (x := decide (j.whole = full.whole)) (by exact ref01_Same_eq (by omega))]
 by_cases q2 : j.whole = full.whole
 rotate_left
 ·obtain ⟨k1, k2⟩ := key false (by simp [sayJ, q2])
  rw [bb_neg (decide_eq_false q2), opt_some (x := true) (by exact keeps23 hr ok hs hL hv hI k1 k2 ..), Tw.run_ret]
 obtain ⟨k1, k2⟩ := key (decide (j.chg = full.chg)) (by simp [sayJ, q1, q2])
 rw [bb_pos (decide_eq_true q2), opt_some (x := j.chg) (by exact changes_eq hjb ..), opt_some (x := decide (j.chg = full.chg)) (by exact hloads), opt_some (x := true) (by exact keeps23 hr ok hs hL hv hI k1 k2 ..), Tw.run_ret]
end

theorem JournalKeeps (a0_0 : Int) (a0_1 : Int) (a0_2 : Int) (a0_3 : Int) (a0_4 : Int) (a0_5 : Int) (a1 : List Act11) (a2_0_0 : Int) (a2_0_1 : Int) (a2_0_2 : List Int) (a2_0_3 : List Int) (a2_1 : Int) (a2_2 : List Int) (w0 : InR .i64 a0_0) (w1 : InR .i64 a0_1) (w2 : InR .i64 a0_2) (w3 : InR .i64 a0_3) (w4 : InR .i64 a0_4) (w5 : InR .i64 a0_5) (w6 : a1.length * 64 ≤ reachBytes) (w7 : ∀ x8 ∈ a1, InR .i64 x8.kind ∧ InR .i64 x8.n ∧ x8.load.length * 4 ≤ reachBytes ∧ (∀ x12 ∈ x8.load, InR .u32 x12) ∧ x8.whole.length * 4 ≤ reachBytes ∧ (∀ x15 ∈ x8.whole, InR .u32 x15)) (w8 : InR .i64 a2_0_0) (w9 : InR .i64 a2_0_1) (w10 : a2_0_2.length * 4 ≤ reachBytes) (w11 : ∀ x20 ∈ a2_0_2, InR .u32 x20) (w12 : a2_0_3.length * 4 ≤ reachBytes) (w13 : ∀ x23 ∈ a2_0_3, InR .u32 x23) (w14 : InR .i64 a2_1) (w15 : a2_2.length * 4 ≤ reachBytes) (w16 : ∀ x27 ∈ a2_2, InR .u32 x27) : law11_JournalKeeps.c a0_0 a0_1 a0_2 a0_3 a0_4 a0_5 a1 a2_0_0 a2_0_1 a2_0_2 a2_0_3 a2_1 a2_2 = some true := by
 have rb := reach_eq
 have hr : GeoR a0_0 a0_1 a0_2 a0_3 a0_4 a0_5 := ⟨w0, w1, w2, w3, w4, w5⟩
 obtain ⟨b0, hsm, hok⟩ := ref08_Small_eq hr
 obtain ⟨b1, hg, hgb⟩ := great11_eq (l := a1) (by omega)
 obtain ⟨b2, hg2, hgb2⟩ := great11_eq (l := [⟨a2_0_0, a2_0_1, a2_0_2, a2_0_3⟩]) (by simp)
 simp only [law11_JournalKeeps.c, law11_JournalKeeps.t]
 rw [opt_some hsm]
 cases b0 with
 | false => rw [bb_pos (by rfl), opt_some awakeJ, Tw.run_ret]
 | true =>
 have ok := hok rfl
 rw [bb_neg (by rfl), opt_some hg]
 cases b1 with
 | true => rw [bb_pos (by rfl), opt_some awakeJ, Tw.run_ret]
 | false =>
 obtain ⟨q1, q2⟩ := hgb rfl
 rw [bb_neg (by rfl), opt_some hg2]
 cases b2 with
 | true => rw [bb_pos (by rfl), opt_some awakeJ, Tw.run_ret]
 | false =>
 obtain ⟨_, p2⟩ := hgb2 rfl
 obtain ⟨hl1, hl2⟩ := p2 _ (List.mem_singleton.2 rfl)
 simp only at hl1 hl2
 rw [bb_neg (by rfl)]
 by_cases hml : (a2_2.length : Int) > 100
 ·rw [bb_pos (decide_eq_true hml), opt_some awakeJ, Tw.run_ret]
 rw [bb_neg (decide_eq_false hml)]
 have hx : ∀ x ∈ a1, ActJ x := fun x hx => ⟨(w7 x hx).2.1, (q2 x hx).1, (w7 x hx).2.2.2.1, (q2 x hx).2, (w7 x hx).2.2.2.2.2⟩
 have ok' := ok
 unfold GeoOK at ok'
 obtain ⟨n, rfl⟩ : ∃ n : Nat, a0_0 = (n : Int) := ⟨a0_0.toNat, by omega⟩
 have hw1 : Words a2_0_2 := w11
 have hw2 : Words a2_0_3 := w13
 have hwm : Words a2_2 := w16
 have w5' : Words [5] := words_cons (inR_u32 (by decide)) words_nil
 have hl5 : loadOK [5] := by decide
 have hB := begin_eq hr ok (m := 2 + 2 * a0_1.toNat + a0_2.toNat) rfl w5' (by decide) hl5
 have hG := begin_good ok (m := 2 + 2 * a0_1.toNat + a0_2.toNat) rfl w5' hl5
 have hM := (new_in (n := n) ok (m := 2 + 2 * a0_1.toNat + a0_2.toNat) rfl w5' hl5).2.2.2.1
 obtain ⟨s, u, c, t, j, hGd, hR⟩ := runJ hr ok hG hx q1
 rw [hM] at hR
 obtain ⟨b1, b2, b3, b4, b5⟩ := hGd.nr.same
 have hvu : (u.V.length : Int) = 2 + 2 * a0_1 + a0_2 := by rw [b5]; exact hGd.vl
 have hOp := opened_eq hr ok hGd.fs hGd.fu b4 b5 b1 hGd.vl hGd.jn
 obtain ⟨hjb, _⟩ := hGd.jn.jb (show n ≤ 1024 by omega)
 have hjw := hjb.whole
 have hc := hGd.jn.lt
 -- the document's journal, with power
 obtain ⟨kind, hkind⟩ : ∃ k, k = w64 (1 + (w64 (Int.tmod (wu64 a2_0_0) 3))) := ⟨_, rfl⟩
 have hup := power_ok hGd.fu hGd.fu.m hGd.fu.ml
 have hIu : JIn n (u.power u.M) c t j := hGd.jn.congr b4
 have hT := told_eq hr ok hup hvu hc (t := t) hjb kind a2_0_1 hw1 hw2 (by omega) (by omega)
 have hTE := jact_end hup rfl (show 59 ≤ n by omega) (show 2 ≤ (u.power u.M).V.length by show 2 ≤ u.V.length; omega) hIu (show a0_5 ≤ 1073741823 by omega) kind hw1 hw2
 have hTL := jact_Lit (n := n) (s := u.power u.M) ⟨rfl, by show (-1 : Int) < 0; decide⟩ a0_5 c t j kind a2_0_2 a2_0_3
 have hfull : ((u.power u.M).jact n a0_5 c t j kind a2_0_2 a2_0_3).2.2.2.2 = fullJ n a0_5 t j kind a2_0_2 a2_0_3 := by
  obtain ⟨_, _, _, q⟩ := hTE
  rcases q with ⟨_, _, _, q⟩ | ⟨_, q, _⟩
  ·exact q
  ·rw [hTL.1] at q
   cases q
 -- the program's, in which the power goes
 have hsp := power_ok hGd.fs words_nil (show ([] : List Int).length ≤ 200 by simp)
 have hsa := arm_ok hsp w14 hwm (show a2_2.length ≤ 200 by omega)
 have hIs : JIn n ((s.power []).arm a2_1 a2_2) c t j := hGd.jn.congr rfl
 have hA : flash_Flash_Arm.c a2_1 a2_2 (n : Int) s.C false (-1) s.W s.V [] = some (imax a2_1 (-1), a2_2) := by
  simp only [flash_Flash_Arm.c, flash_Flash_Arm.t]
  rw [opt_some (clone32_eq (by omega)), Tw.run_ret]
 have hDo := do_eq hr ok hsa hGd.vl hc (t := t) hjb kind a2_0_1 hw1 hw2 (by omega) (by omega)
 have hDE := jact_end hsa rfl (show 59 ≤ n by omega) (show 2 ≤ ((s.power []).arm a2_1 a2_2).V.length by show 2 ≤ s.V.length; have := hGd.vl; omega) hIs (show a0_5 ≤ 1073741823 by omega) kind hw1 hw2
 rw [← hfull] at hDE
 generalize ((s.power []).arm a2_1 a2_2).jact n a0_5 c t j kind a2_0_2 a2_0_3 = r at *
 generalize (u.power u.M).jact n a0_5 c t j kind a2_0_2 a2_0_3 = ru at *
 obtain ⟨er, s', c1, t1, j1⟩ := r
 obtain ⟨eu, u', cu, tu, ju⟩ := ru
 obtain ⟨d1, d2, d3, d4⟩ := hDE
 simp only at d1 d2 d3 d4
 have hs'p := power_ok d1 words_nil (show ([] : List Int).length ≤ 200 by simp)
 have hs'L : Lit (s'.power []) := ⟨rfl, by show (-1 : Int) < 0; decide⟩
 have hs'v : ((s'.power []).V.length : Int) = 2 + 2 * a0_1 + a0_2 := by show (s'.V.length : Int) = _; rw [d2]; exact hGd.vl
 -- opened anew it says what it said, or would say
 obtain ⟨c2, t2, j2, hI2, hE1, hE2⟩ : ∃ c2 t2 j2, JIn n (s'.power []) c2 t2 j2 ∧ (er ≠ 10 → sayJ j2 ju) ∧ (sayJ j2 j ∨ sayJ j2 ju) := by
  rcases d4 with ⟨_, _, k3, k4⟩ | ⟨k1, _, c2, t2, j2, k3, k4⟩
  ·exact ⟨c1, t1, j1, k3.congr rfl, fun _ => by rw [k4]; exact sayJ.refl _, Or.inr (by rw [k4]; exact sayJ.refl _)⟩
  ·exact ⟨c2, t2, j2, k3.congr rfl, fun h => absurd k1 h, k4⟩
 have hO2 := (open_eq hr ok hs'p hs'v rfl hI2 (show 2 ≤ (s'.power []).V.length by omega)).1
 obtain ⟨hjb2, _⟩ := hI2.jb (show n ≤ 1024 by omega)
 have hjw2 := hjb2.whole
 have hloads := loads_eq (a := j2.chg) (b := j.chg) hjb2.chg (fun l hl => by have := hjb2.each l hl; omega)
 have fin := fun (was : Bool) (hwas : was = true ↔ sayJ j2 j) => keeps22 hr ok hs'p hs'L hs'v hI2 (full := ju) (e := er) (was := was) hE1 (hE2.imp hwas.2 id)
 have h3 : law11_JournalKeeps.C3 a1 (n : Int) a0_1 a0_2 a0_3 a0_4 a0_5 a2_0_0 a2_0_1 a2_0_2 a2_0_3 a2_1 a2_2 = some true := by
  unfold law11_JournalKeeps.C3
  simp only [law11_JournalKeeps.c3, ← hkind]
  rw [opt_some hB, sm_inl, bb_neg (by rfl), opt_some (x := (true, pairJ s u c t j)) (by exact hR), bb_neg (by rfl), opt_some (by exact hOp ..), sm_inr, bb_neg (by rfl), opt_some (by exact hT), opt_some (by exact hA), opt_some (by exact hDo), opt_some (x := (false, -1, [])) (by rfl), opt_some (by exact hO2), sm_inr, bb_neg (by rfl), opt_some (x := ()) (by rfl)]
  by_cases q1 : j2.seq = j.seq
  rotate_left
  ·rw [bb_neg (beq_eq_false_iff_ne.2 q1), opt_some (x := true) (by exact fin false (by simp [sayJ, q1]) ..), Tw.run_ret]
  rw [bb_pos (by rw [beq_iff_eq]; exact q1), opt_some (x := j2.whole) (by exact whole_eq hjb2 ..), opt_some (x := decide (j2.whole = j.whole)) (by exact ref01_Same_eq (by omega))]
  by_cases q2 : j2.whole = j.whole
  rotate_left
  ·rw [bb_neg (decide_eq_false q2), opt_some (x := true) (by exact fin false (by simp [sayJ, q2]) ..), Tw.run_ret]
  rw [bb_pos (decide_eq_true q2), opt_some (x := j2.chg) (by exact changes_eq hjb2 ..), opt_some (x := decide (j2.chg = j.chg)) (by exact hloads), opt_some (x := true) (by exact fin (decide (j2.chg = j.chg)) (by simp [sayJ, q1, q2]) ..), Tw.run_ret]
 rw [opt_some h3, Tw.run_ret]

end Go.Proofs.YtkoidgjgdhpdnaaGreat.Pure
