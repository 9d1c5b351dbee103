/- The plain truth of SlotKeeps. -/
import Derived.Test.YtnlclchlnngdnaaFlaw32
import Derived.Test.YtnlclchlnngdnaaFlaw32SlotKeeps
import Derived.Test.YtnlclchlnngdnaaQSlot5
namespace Go.Proofs.Ytnlclchlnngdnaa.Pure
open Go Go.Proofs.Ytnlclchlnngdnaa.Va
set_option linter.unusedVariables false
set_option linter.unusedSimpArgs false

/-- What a crash leaves, as the law asks. -/
theorem keepsC16 {n : Nat} {g1 g2 g3 g4 g5 : Int} (hr : GeoR (n : Int) g1 g2 g3 g4 g5) (ok : GeoOK (n : Int) g1 g2 g3 g4 g5) {s t : Fl} (hs : FlOK n s) (ht : FlOK n t) (hsD : s.D = false) (hL : Lit t) (hv : (s.V.length : Int) = 2 + 2 * g1 + g2) (hvt : (t.V.length : Int) = 2 + 2 * g1 + g2) (hW : t.W = s.W)
    {T : Int} (hT : InR .i64 T) {l : List Act32} {k0 kind slot i N : Int} {b masks Ms : List Int} (hi : InR .i64 i) (hN : InR .i64 N) (hb : Bytes b) (hbl : b.length ≤ 1000) (hMs : Words Ms) (hMl : Ms.length ≤ 200) (hkind : kind = 0 ∨ kind = 1) (hf : sfine n g1 slot T = 0) {K jl : Nat} (hK : chkF n g1 T = (K : Int)) (hjl : ledF g1 slot = (jl : Int)) :
    law32_SlotKeeps.C16 ((cnt0 (rd s.W (jl * n) K) : Nat) : Int) (n : Int) g1 g2 g3 g4 g5 T l k0 slot i b masks N Ms T (n : Int) s.C s.D s.A s.W s.V (n : Int) g1 g2 g3 g4 g5 (n : Int) g1 g2 g3 g4 g5 (n : Int) t.C t.D t.A t.W t.V t.M kind slot i b masks (prts n T K) (n : Int) g1 g2 g3 g4 g5 0 0 false 0 t.W = some true := by
  have rb := reach_eq
  have ok' := ok
  unfold GeoOK at ok'
  have hck := chk_le ok T
  have hsl : 0 ≤ slot ∧ slot < 2 := by
    unfold sfine at hf
    split at hf
    · cases hf
    · omega
  have hjK : jl + K < s.V.length := by
    unfold ledF at hjl
    have : slot = 0 ∨ slot = 1 := by omega
    rcases this with rfl | rfl <;> omega
  have hu : FlOK n (s.arm N Ms) := arm_ok hs hN hMs hMl
  have hd := sdo_other (masks := masks) hr ok hu ht hv hvt T kind slot i hT hi hb hbl (by omega) (by omega)
  have hru := sact_ok (g1 := g1) hu T kind slot i hb
  have hqt := sact_ok (g1 := g1) ht T kind slot i hb
  have hqL := sact_Lit (n := n) (g1 := g1) hL T kind slot i b
  have hVV : t.V.length = (s.arm N Ms).V.length := by show t.V.length = s.V.length; omega
  have key : ((s.arm N Ms).sact n g1 T kind slot i b).2.W.length = s.W.length ∧ (kind = 0 → cnt0 (rd ((s.arm N Ms).sact n g1 T kind slot i b).2.W (jl * n) K) ≤ cnt0 (rd s.W (jl * n) K)) ∧
      (kind ≠ 0 → cnt0 (rd ((s.arm N Ms).sact n g1 T kind slot i b).2.W (jl * n) K) = cnt0 (rd s.W (jl * n) K) ∨ cnt0 (rd ((s.arm N Ms).sact n g1 T kind slot i b).2.W (jl * n) K) = cnt0 (rd (t.sact n g1 T kind slot i b).2.W (jl * n) K)) ∧
      (((s.arm N Ms).sact n g1 T kind slot i b).1.2.1 = 0 → cnt0 (rd ((s.arm N Ms).sact n g1 T kind slot i b).2.W (jl * n) K) = cnt0 (rd (t.sact n g1 T kind slot i b).2.W (jl * n) K)) ∧
      (kind ≠ 0 → ∀ x : Nat, x < K → (x : Int) ≠ i → rd ((s.arm N Ms).sact n g1 T kind slot i b).2.W ((jl + 1 + x) * n) n = rd s.W ((jl + 1 + x) * n) n) ∧
      (kind ≠ 0 → cnt0 (rd ((s.arm N Ms).sact n g1 T kind slot i b).2.W (jl * n) K) > cnt0 (rd s.W (jl * n) K) → ∃ x : Nat, i = (x : Int) ∧ x < K ∧ needN b.length ≤ n ∧ rd ((s.arm N Ms).sact n g1 T kind slot i b).2.W ((jl + 1 + x) * n) (needN b.length) = packW b (needN b.length)) := by
    rcases hkind with rfl | rfl
    · have hc := crash_begin (n := n) (g1 := g1) (slot := slot) (jl := jl) (K := K) hjl (by omega) hu ht hsD hL hW hVV hsl (by show jl < s.V.length; omega)
      exact ⟨hc.1, fun _ => hc.2.1, fun h => absurd rfl h, hc.2.2, fun h => absurd rfl h, fun h => absurd rfl h⟩
    · have hc := crash_chunk (n := n) (g1 := g1) (slot := slot) (T := T) (jl := jl) (K := K) hjl hK (by omega) hu ht hsD hL hW hVV hsl hjK hf (fun x h0 h1 => (prt_le ok h0 h1).2) i hb
      exact ⟨hc.1, fun h => absurd h (by decide), fun _ => hc.2.1, hc.2.2.1, fun _ => hc.2.2.2.1, fun _ => hc.2.2.2.2⟩
  generalize (s.arm N Ms).sact n g1 T kind slot i b = r at *
  generalize t.sact n g1 T kind slot i b = q at *
  obtain ⟨k1, k2, k3, k4, k5, k6⟩ := key
  have hvr : (r.2.V.length : Int) = 2 + 2 * g1 + g2 := by rw [hru.2.1]; exact hv
  have hvq : (q.2.V.length : Int) = 2 + 2 * g1 + g2 := by rw [hqt.2.1]; exact hvt
  have hrp := power_ok hru.1 words_nil (show ([] : List Int).length ≤ 200 by simp)
  have e1 : flash_Flash_Arm.c N Ms (n : Int) s.C s.D s.A s.W s.V = some (imax N (-1), Ms) := by
    simp only [flash_Flash_Arm.c, flash_Flash_Arm.t]
    rw [opt_some (clone32_eq (by omega)), Tw.run_ret]
  have e2 : slot_Done.c slot T (n : Int) g1 g2 g3 g4 g5 (n : Int) r.2.C false (-1) r.2.W r.2.V = some (((cnt0 (rd r.2.W (jl * n) K) : Nat) : Int), 0) := by
    rw [slot_Done1_eq]
    have := slot_Done_eq hr ok hrp hvr slot T hT
    rw [sdone_of hjl hK (by omega) (s := r.2.power []) rfl hf (by show jl < r.2.V.length; omega)] at this
    exact this
  have e3 : ref32_Done_v2.c slot T (n : Int) g1 g2 g3 g4 g5 (n : Int) q.2.C q.2.D q.2.A q.2.W q.2.V t.M = some (((cnt0 (rd q.2.W (jl * n) K) : Nat) : Int), 0) := by
    have := ref32_Done_eq hr ok hqt.1 hvq slot T hT
    rw [sdone_of hjl hK (by omega) (s := q.2) hqL.1 hf (by omega), hqt.2.2] at this
    exact this
  have e4 := (words_sm hrp).2.1
  have hC := keepsC26 hr ok (before := cnt0 (rd s.W (jl * n) K)) (done := cnt0 (rd r.2.W (jl * n) K)) (behind := cnt0 (rd q.2.W (jl * n) K)) (K := K) (jl := jl) (m := s.V.length) (T := T) (l := l) (kind := kind) (slot := slot) (i := i) (b := b) (masks := masks) (W0 := t.W) (W1 := r.2.W) hsl hjl (by omega) hv (by rw [hW]; exact hs.ws) (by rw [k1]; exact hs.ws) hb hbl k2 k3 (fun h x hx hxi => by rw [hW]; exact k5 h x hx hxi) k6
  unfold law32_SlotKeeps.C16
  simp only [law32_SlotKeeps.c16]
  rw [opt_some e1, opt_some (by exact hd), sm_inl, opt_some (x := (false, -1)) (by rfl), opt_some (x := r.2.W) (by exact e4), bb_neg (by rw [k1, hW]; simp), opt_some (x := (((cnt0 (rd r.2.W (jl * n) K) : Nat) : Int), 0)) (by exact e2), opt_some (x := (((cnt0 (rd q.2.W (jl * n) K) : Nat) : Int), 0)) (by exact e3), bb_neg (by rfl)]
  by_cases h : r.1.2.1 = 0
  · rw [bb_pos (by simpa using h), bb_neg (by rw [k4 h]; simp), opt_some (by exact hC), Tw.run_ret]
  · rw [bb_neg (by simpa using h), opt_some (by exact hC), Tw.run_ret]
theorem SlotKeeps (a0_0_0 : Int) (a0_0_1 : Int) (a0_0_2 : Int) (a0_0_3 : Int) (a0_0_4 : Int) (a0_0_5 : Int) (a0_1 : Int) (a0_2 : List Act32) (a1_0_0 : Int) (a1_0_1 : Int) (a1_0_2 : Int) (a1_0_3 : List Int) (a1_0_4 : List Int) (a1_1 : Int) (a1_2 : List Int) (w0 : InR .i64 a0_0_0) (w1 : InR .i64 a0_0_1) (w2 : InR .i64 a0_0_2) (w3 : InR .i64 a0_0_3) (w4 : InR .i64 a0_0_4) (w5 : InR .i64 a0_0_5) (w6 : InR .i64 a0_1) (w7 : a0_2.length * 72 ≤ reachBytes) (w8 : ∀ x9 ∈ a0_2, InR .i64 x9.kind ∧ InR .i64 x9.slot ∧ InR .i64 x9.i ∧ x9.b.length * 1 ≤ reachBytes ∧ (∀ x14 ∈ x9.b, InR .u8 x14) ∧ x9.masks.length * 4 ≤ reachBytes ∧ (∀ x17 ∈ x9.masks, InR .u32 x17)) (w9 : InR .i64 a1_0_0) (w10 : InR .i64 a1_0_1) (w11 : InR .i64 a1_0_2) (w12 : a1_0_3.length * 1 ≤ reachBytes) (w13 : ∀ x23 ∈ a1_0_3, InR .u8 x23) (w14 : a1_0_4.length * 4 ≤ reachBytes) (w15 : ∀ x26 ∈ a1_0_4, InR .u32 x26) (w16 : InR .i64 a1_1) (w17 : a1_2.length * 4 ≤ reachBytes) (w18 : ∀ x30 ∈ a1_2, InR .u32 x30) : law32_SlotKeeps.c a0_0_0 a0_0_1 a0_0_2 a0_0_3 a0_0_4 a0_0_5 a0_1 a0_2 a1_0_0 a1_0_1 a1_0_2 a1_0_3 a1_0_4 a1_1 a1_2 = some true := by
  have rb := reach_eq
  have hr : GeoR a0_0_0 a0_0_1 a0_0_2 a0_0_3 a0_0_4 a0_0_5 := ⟨w0, w1, w2, w3, w4, w5⟩
  obtain ⟨b1, hg, hgb⟩ := law32_great_eq hr a0_1 (l := a0_2) (by omega)
  obtain ⟨b2, hg2, hgb2⟩ := law32_great_eq hr 0 (l := [⟨a1_0_0, a1_0_1, a1_0_2, a1_0_3, a1_0_4⟩]) (by simp)
  simp only [law32_SlotKeeps.c, law32_SlotKeeps.t]
  rw [opt_some hg]
  cases b1 with
  | true => rw [bb_pos (by rfl), opt_some awake32, Tw.run_ret]
  | false =>
  rw [bb_neg (by rfl), opt_some hg2]
  cases b2 with
  | true => rw [bb_pos (by rfl), opt_some awake32, Tw.run_ret]
  | false =>
  rw [bb_neg (by rfl)]
  by_cases h100 : (a1_2.length : Int) > 100
  · rw [bb_pos (decide_eq_true h100), opt_some awake32, Tw.run_ret]
  rw [bb_neg (decide_eq_false h100)]
  obtain ⟨q1, q2, ok⟩ := hgb rfl
  obtain ⟨_, p2, _⟩ := hgb2 rfl
  have hbl : a1_0_3.length ≤ 1000 := (p2 _ (List.mem_singleton.2 rfl)).1
  have hx : ∀ x ∈ a0_2, ActS x := fun x hx => ⟨(w8 x hx).2.2.1, (q2 x hx).1, (w8 x hx).2.2.2.2.1, (q2 x hx).2, (w8 x hx).2.2.2.2.2.2⟩
  have ok' := ok
  unfold GeoOK at ok'
  obtain ⟨n, rfl⟩ : ∃ n : Nat, a0_0_0 = (n : Int) := ⟨a0_0_0.toNat, by omega⟩
  obtain ⟨okN, hv, hb, _⟩ := beginS hr ok rfl a0_1 a0_2
  obtain ⟨s', t', h0, h1, h2, h3, h4, h5⟩ := runS hr ok okN rfl hv w6 hx q1
  have hsp := power_ok h1 words_nil (show ([] : List Int).length ≤ 200 by simp)
  have htp := power_ok h2 h2.m h2.ml
  obtain ⟨c1, c2, c3, c4, c5⟩ := h3.same
  have hvt : ((t'.power t'.M).V.length : Int) = 2 + 2 * a0_0_1 + a0_0_2 := by
    show (t'.V.length : Int) = _
    rw [c5]
    exact h4
  have hDn := (slot_Done1_eq a1_0_1 a0_1 (n : Int) a0_0_1 a0_0_2 a0_0_3 a0_0_4 a0_0_5 (n : Int) (s'.power []).C (s'.power []).D (s'.power []).A (s'.power []).W (s'.power []).V).trans (slot_Done_eq hr ok hsp h4 a1_0_1 a0_1 w6)
  have hC3 : law32_SlotKeeps.C3 (n : Int) a0_0_1 a0_0_2 a0_0_3 a0_0_4 a0_0_5 a0_1 a0_2 a1_0_0 a1_0_1 a1_0_2 a1_0_3 a1_0_4 a1_1 a1_2 = some true := by
    unfold law32_SlotKeeps.C3
    simp only [law32_SlotKeeps.c3]
    rw [opt_some hb, sm_inl, bb_neg (by rfl), opt_some (x := .inl (true, pairS s' t')) (by exact h5), sm_inl, bb_neg (by rfl), opt_some (x := (false, -1)) (by rfl), opt_some (x := (false, -1)) (by rfl), opt_some (parts_eq hr ok a0_1 w6), opt_some (x := (s'.power []).sdone n a0_0_1 a1_0_1 a0_1) (by exact hDn)]
    have hck := chk_le ok a0_1
    by_cases hf : sfine n a0_0_1 a1_0_1 a0_1 = 0
    rotate_left
    · have e : (s'.power []).sdone n a0_0_1 a1_0_1 a0_1 = (0, sfine n a0_0_1 a1_0_1 a0_1) := if_pos hf
      have hz : (0 ≤ a1_0_1 ∧ a1_0_1 < 2) → chkF n a0_0_1 a0_1 = 0 := fun h => by
        unfold sfine at hf
        rw [if_neg (by omega)] at hf
        split at hf
        · assumption
        · exact absurd rfl hf
      rw [e, bb_pos (by simpa using hf)]
      by_cases hs0 : a1_0_1 = 0
      · rw [bb_neg (by simpa using hs0), hz (by omega), bb_pos (by rfl), opt_some awake32, Tw.run_ret]
      rw [bb_pos (by simpa using hs0)]
      by_cases hs1 : a1_0_1 = 1
      · rw [bb_neg (by simpa using hs1), hz (by omega), bb_pos (by rfl), opt_some awake32, Tw.run_ret]
      · rw [bb_pos (by simpa using hs1), opt_some awake32, Tw.run_ret]
    have hsl : 0 ≤ a1_0_1 ∧ a1_0_1 < 2 := by
      unfold sfine at hf
      split at hf
      · cases hf
      · omega
    obtain ⟨K, hK⟩ := Int.eq_ofNat_of_zero_le hck.1
    obtain ⟨jl, hjl⟩ : ∃ jl : Nat, ledF a0_0_1 a1_0_1 = (jl : Int) := by
      have : a1_0_1 = 0 ∨ a1_0_1 = 1 := by omega
      refine ⟨(ledF a0_0_1 a1_0_1).toNat, ?_⟩
      unfold ledF
      rcases this with h | h <;> rw [h] <;> omega
    have hjs : jl < s'.V.length := by
      unfold ledF at hjl
      have : a1_0_1 = 0 ∨ a1_0_1 = 1 := by omega
      rcases this with h | h <;> rw [h] at hjl <;> omega
    have e : (s'.power []).sdone n a0_0_1 a1_0_1 a0_1 = (((cnt0 (rd s'.W (jl * n) K) : Nat) : Int), 0) := sdone_of hjl hK (by omega) (s := s'.power []) rfl hf hjs
    have hwl := h2.wl
    have hKn : (chkF n a0_0_1 a0_1).toNat = K := by omega
    rw [e, bb_neg (by rfl), hKn, dd_pos (by show (t'.W.length * 4 ≤ 140737488355328 ∧ t'.W.length ≤ 140737488355328); omega)]
    have hC := fun (kind : Int) (hk : kind = 0 ∨ kind = 1) => keepsC16 hr ok hsp htp rfl (show Lit (t'.power t'.M) from ⟨rfl, by simp [Fl.power]⟩) h4 hvt c4 w6 (l := a0_2) (k0 := a1_0_0) (kind := kind) (slot := a1_0_1) (i := a1_0_2) (N := a1_1) (b := a1_0_3) (masks := a1_0_4) (Ms := a1_2) w11 w16 w13 hbl w18 (by omega) hk hf hK hjl
    by_cases hk : a1_0_0 = 0
    · rw [bb_neg (by simpa using hk), opt_some (x := true) (by exact hC a1_0_0 (Or.inl hk)), Tw.run_ret]
    · rw [bb_pos (by simpa using hk), opt_some (x := true) (by exact hC 1 (Or.inr rfl)), Tw.run_ret]
  rw [opt_some hC3, Tw.run_ret]

end Go.Proofs.Ytnlclchlnngdnaa.Pure
