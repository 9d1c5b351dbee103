/- Slots: what the law asks of a crash. -/
import Derived.Test.YtnlclchlnngdnaaQSlot4
import Derived.Test.YtnlclchlnngdnaaQAwake32
import Derived.Test.YtnlclchlnngdnaaFlaw32SlotKeeps
namespace Go.Proofs.Ytnlclchlnngdnaa.Pure
open Go Go.Proofs.Ytnlclchlnngdnaa.Va
set_option linter.unusedVariables false
set_option linter.unusedSimpArgs false

section
variable {n : Nat} {g1 g2 g3 g4 g5 : Int} (hr : GeoR (n : Int) g1 g2 g3 g4 g5) (ok : GeoOK (n : Int) g1 g2 g3 g4 g5)
include hr ok
theorem read_v4 {W : List Int} {j c m : Nat} (hm : (m : Int) = 2 + 2 * g1 + g2) (hj : j < m) (hc : c ≤ n) (hW : W.length = m * n) : ref09_Drive_Read_v4.c (j : Int) 0 (c : Int) (n : Int) g1 g2 g3 g4 g5 0 0 false 0 W = some (0, rd W (j * n) c) := by
  have ok' := ok
  unfold GeoOK at ok'
  have hmap : ref08_Map.c (n : Int) g1 g2 g3 g4 g5 = some (mapL g1.toNat (2 + 2 * g1.toNat + g2.toNat)) := (ref08_Map_eq hr).trans (by rw [if_pos ok])
  have hb : ref09_Drive_bad_v4.c (j : Int) 0 (c : Int) (n : Int) g1 g2 g3 g4 g5 0 0 false 0 W = some 0 := by
    simp only [ref09_Drive_bad_v4.c, ref09_Drive_bad_v4.t]
    rw [bb_neg (decide_eq_false (by omega)), opt_some hmap, mapL_len, bb_neg (decide_eq_false (by omega)), bb_neg (by rfl), bb_neg (decide_eq_false (by omega)), bb_neg (decide_eq_false (by omega)), w64_of (by omega) (by omega), bb_neg (decide_eq_false (by omega)), bb_neg (by rfl), Tw.run_ret]
  have hjn : j * n + n ≤ m * n := by
    have := Nat.mul_le_mul_right n (show j + 1 ≤ m by omega)
    rw [Nat.add_mul, Nat.one_mul] at this
    exact this
  have hmn : m * n ≤ 512 * 1024 := Nat.mul_le_mul (by omega) (by omega)
  have hL : ref09_Drive_Read_v4.L6 (j : Int) 0 (c : Int) 0 (n : Int) g1 g2 g3 g4 g5 0 0 false 0 W [] = some (rd W (j * n) c) := by
    unfold ref09_Drive_Read_v4.L6
    have key := Lp_seq (fun z : Int × List Int => (ref09_Drive_Read_v4.l6 (j : Int) 0 (c : Int) (n : Int) g1 g2 g3 g4 g5 0 0 false 0 W z.1 z.2).run) (fun i : Nat => ((i : Int), rd W (j * n) i)) (x := rd W (j * n) c) c 0 (fun i _ hi => by
      have hi : i < c := by omega
      have e : w64 (w64 (w64 ((j : Int) * (n : Int)) + 0) + (i : Int)) = ((j * n + i : Nat) : Int) := by
        have : (j : Int) * (n : Int) = ((j * n : Nat) : Int) := by push_cast; rfl
        rw [this, w64_of (n := ((j * n : Nat) : Int)) (by omega) (by omega), w64_of (n := ((j * n : Nat) : Int) + 0) (by omega) (by omega), w64_of (by omega) (by omega)]
        push_cast
        omega
      simp only [ref09_Drive_Read_v4.l6]
      rw [e, bb_pos (decide_eq_true (by omega)), dd_pos (by omega), Int.toNat_natCast, opt_some (getD_some 0 (show j * n + i < W.length by omega)), dd_pos (by rw [rd_len]; simp only [List.length_cons, List.length_nil]; omega), Tw.run_ret, w64_of (by omega) (by omega)]
      have : rd W (j * n) (i + 1) = rd W (j * n) i ++ [W.getD (j * n + i) 0] := by simp [rd, List.range_succ]
      rw [this]
      rfl) (by
      simp only [ref09_Drive_Read_v4.l6, Nat.zero_add]
      rw [bb_neg (by simp), Tw.run_ret])
    exact key
  simp only [ref09_Drive_Read_v4.c, ref09_Drive_Read_v4.t]
  rw [opt_some hb, bb_neg (by rfl), opt_some hL, Tw.run_ret]
omit hr ok in
theorem rd_small (W : List Int) (a : Nat) {c : Nat} (hc : c ≤ 1024) : ref01_Same.c (rd W a c) (rd W a c) = some true := (ref01_Same_eq (by rw [rd_len]; omega)).trans (by simp)
theorem keepsC26 {before done behind K jl m : Nat} {T : Int} {l : List Act32} {kind slot i : Int} {b masks W0 W1 : List Int} (hs : 0 ≤ slot ∧ slot < 2) (hjl : ledF g1 slot = (jl : Int)) (hK : (K : Int) ≤ g1 - 1) (hm : (m : Int) = 2 + 2 * g1 + g2) (hW0 : W0.length = m * n) (hW1 : W1.length = m * n) (hb : Bytes b) (hbl : b.length ≤ 1000)
    (h0 : kind = 0 → done ≤ before) (h1 : kind ≠ 0 → done = before ∨ done = behind) (h2 : kind ≠ 0 → ∀ x : Nat, x < K → (x : Int) ≠ i → rd W1 ((jl + 1 + x) * n) n = rd W0 ((jl + 1 + x) * n) n)
    (h3 : kind ≠ 0 → done > before → ∃ x : Nat, i = (x : Int) ∧ x < K ∧ needN b.length ≤ n ∧ rd W1 ((jl + 1 + x) * n) (needN b.length) = packW b (needN b.length)) :
    law32_SlotKeeps.C26 (before : Int) (done : Int) (behind : Int) (n : Int) g1 g2 g3 g4 g5 T l kind slot i b masks (prts n T K) (n : Int) g1 g2 g3 g4 g5 0 0 false 0 W0 (n : Int) g1 g2 g3 g4 g5 0 0 false 0 W1 = some true := by
  have rb := reach_eq
  have ok' := ok
  unfold GeoOK at ok'
  have hg : ∀ x : Nat, x < K → chnF g1 slot (x : Int) = ((jl + 1 + x : Nat) : Int) ∧ jl + 1 + x < m := fun x hx => by
    unfold ledF at hjl
    unfold chnF
    have : slot = 0 ∨ slot = 1 := by omega
    rcases this with rfl | rfl <;> omega
  have hL : kind ≠ 0 → law32_SlotKeeps.L31 (before : Int) (done : Int) 0 (n : Int) g1 g2 g3 g4 g5 T l kind slot i b masks (prts n T K) (n : Int) g1 g2 g3 g4 g5 0 0 false 0 W0 (n : Int) g1 g2 g3 g4 g5 0 0 false 0 W1 = some (.inl ()) := fun hk => by
    unfold law32_SlotKeeps.L31
    have hpl : (prts n T K).length = K := by simp [prts]
    refine Lp_seq _ (fun x : Nat => (x : Int)) (min before K) 0 (fun x _ hx => ?_) ?_
    · have hx : x < min before K := by omega
      obtain ⟨hc, hlt⟩ := hg x (by omega)
      have hr0 := read_v4 hr ok (W := W0) hm hlt (Nat.le_refl n) hW0
      have hr1 := read_v4 hr ok (W := W1) hm hlt (Nat.le_refl n) hW1
      have e : w64 ((x : Int) + 1) = ((x + 1 : Nat) : Int) := by rw [w64_of (by omega) (by omega)]; rfl
      simp only [law32_SlotKeeps.l31]
      rw [bb_pos (decide_eq_true (by omega)), hpl, bb_pos (decide_eq_true (by omega)), opt_some (find_chn hr ok hs (by omega) (by omega)), hc, opt_some hr0, opt_some hr1]
      by_cases hxi : (x : Int) = i
      · rw [bb_neg (by simpa using hxi), Tw.run_ret, e]
      · rw [bb_pos (by simpa using hxi), h2 hk x (by omega) hxi, opt_some (rd_small _ _ (by omega)), bb_neg (by rfl), Tw.run_ret, e]
    · simp only [law32_SlotKeeps.l31, Nat.zero_add]
      by_cases hx : before ≤ K
      · rw [bb_neg (decide_eq_false (by omega)), Tw.run_ret]
      · rw [bb_pos (decide_eq_true (by omega)), hpl, bb_neg (decide_eq_false (by omega)), Tw.run_ret]
  have hend : kind ≠ 0 → done > before → i = (before : Int) → ∃ z : Int, ref08_Find.c (n : Int) g1 g2 g3 g4 g5 2 slot i = some z ∧ ref01_Need.c (b.length : Int) = some ((needN b.length : Nat) : Int) ∧ ref09_Drive_Read_v4.c z 0 ((needN b.length : Nat) : Int) (n : Int) g1 g2 g3 g4 g5 0 0 false 0 W1 = some (0, packW b (needN b.length)) ∧ ref01_Pack.c b = some (packW b (needN b.length)) ∧ ref01_Same.c (packW b (needN b.length)) (packW b (needN b.length)) = some true := fun hk hd hi => by
    obtain ⟨x, hx, hxK, hn, hp⟩ := h3 hk hd
    obtain ⟨hc, hlt⟩ := hg x hxK
    subst hx
    refine ⟨_, find_chn hr ok hs (by omega) (by omega), ?_, ?_, ref01_Pack_eq hb (by omega), ?_⟩
    · rw [ref01_Need_eq _ (inR_i64 (by omega)), need_nat]
    · rw [hc, read_v4 hr ok (W := W1) hm hlt hn hW1, hp]
    · rw [← hp]
      exact rd_small _ _ (by omega)
  unfold law32_SlotKeeps.C26
  simp only [law32_SlotKeeps.c26]
  by_cases hk : kind = 0
  · rw [bb_pos (by simpa using hk), bb_pos (decide_eq_true (by have := h0 hk; omega)), opt_some awake32, Tw.run_ret]
  rw [bb_neg (by simpa using hk)]
  by_cases hdb : done = before
  · rw [bb_neg (by rw [hdb]; simp), opt_some (hL hk), sm_inl, bb_neg (decide_eq_false (by omega)), opt_some awake32, Tw.run_ret]
  have hdh : done = behind := (h1 hk).resolve_left hdb
  rw [bb_pos (by rw [bne_iff_ne]; omega), bb_neg (by rw [hdh]; simp), opt_some (hL hk), sm_inl]
  by_cases hgt : done > before
  rotate_left
  · rw [bb_neg (decide_eq_false (by omega)), opt_some awake32, Tw.run_ret]
  rw [bb_pos (decide_eq_true (by omega))]
  by_cases hib : i = (before : Int)
  · obtain ⟨z, z1, z2, z3, z4, z5⟩ := hend hk hgt hib
    rw [bb_pos (by simpa using hib), opt_some z1, opt_some z2, opt_some z3, opt_some z4, opt_some z5, bb_pos (by rfl), opt_some awake32, Tw.run_ret]
  · rw [bb_neg (by simpa using hib), opt_some awake32, Tw.run_ret]
end
theorem slot_Done1_eq (slot T g0 g1 g2 g3 g4 g5 m C : Int) (D : Bool) (A : Int) (W V : List Int) : slot_Done.c slot T g0 g1 g2 g3 g4 g5 m C D A W V = slot_Done_v2.c slot T g0 g1 g2 g3 g4 g5 m C D A W V [] := rfl

end Go.Proofs.Ytnlclchlnngdnaa.Pure
