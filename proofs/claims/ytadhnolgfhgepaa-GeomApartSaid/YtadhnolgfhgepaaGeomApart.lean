/- The plain truth of GeomApart. -/
import Derived.Test.YtadhnolgfhgepaaFlaw08
import Derived.Test.YtadhnolgfhgepaaQAwake08
namespace Go.Proofs.Ytadhnolgfhgepaa.Pure
open Go Go.Proofs.Ytadhnolgfhgepaa.Va
set_option linter.unusedVariables false
set_option linter.unusedSimpArgs false

theorem apart_L7 {g0 g3 g4 g5 t : Int} {n1 n2 : Nat} (h : GeoR g0 (n1 : Int) (n2 : Int) g3 g4 g5) (k : GeoOK g0 (n1 : Int) (n2 : Int) g3 g4 g5) :
    law08_GeomApart.L7 t (2 + 2 * (n1 : Int) + (n2 : Int)) 0 g0 (n1 : Int) (n2 : Int) g3 g4 g5 = some (.inl ()) := by
  have k' := k
  obtain ⟨k0, k1, k2, k3, k4, k5⟩ := k'
  refine Lp_seq (fun s => (law08_GeomApart.l7 t (2 + 2 * (n1 : Int) + (n2 : Int)) g0 (n1 : Int) (n2 : Int) g3 g4 g5 s).run) (fun s => (s : Int)) (2 + 2 * n1 + n2) 0 (fun s _ hs => ?_) ?_
  · have hs' : s < 2 + 2 * n1 + n2 := by omega
    have e1 : w64 ((s : Int) + 1) = ((s + 1 : Nat) : Int) := by rw [w64_of (by omega) (by omega)]; omega
    simp only [law08_GeomApart.l7, Tw.run_bb, Tw.run_opt, Tw.run_ret, geom_Where_eq h k hs', geom_Ledger_eq h, geom_Chunk_eq h, geom_Page_eq h, Option.bind_some, e1]
    rw [if_pos (by rw [decide_eq_true_eq]; omega)]
    unfold mapAt
    by_cases c1 : s < 2
    · simp [c1]
    by_cases c2 : s < 2 + n1
    · by_cases c3 : s = 2
      · subst c3
        simp [c1, c2, k]
      · have d1 : (0 : Int) ≤ (s : Int) - 3 ∧ (s : Int) - 3 < (n1 : Int) - 1 := by omega
        have d2 : (2 : Int) + 0 * (n1 : Int) + 1 + ((s : Int) - 3) = (s : Int) := by omega
        have hv : (if GeoOK g0 (n1 : Int) (n2 : Int) g3 g4 g5 ∧ ((0 : Int) ≤ 0 ∧ (0 : Int) < 2) ∧ 0 ≤ (s : Int) - 3 ∧ (s : Int) - 3 < (n1 : Int) - 1 then 2 + 0 * (n1 : Int) + 1 + ((s : Int) - 3) else -1) = (s : Int) := by
          rw [if_pos ⟨k, by decide, d1⟩, d2]
        simp only [c1, c2, c3, if_true, if_false, hv]
        simp
    · by_cases c3 : s < 2 + 2 * n1
      · by_cases c4 : s = 2 + n1
        · subst c4
          have d2 : (2 : Int) + 1 * (n1 : Int) = ((2 + n1 : Nat) : Int) := by omega
          have hv : (if GeoOK g0 (n1 : Int) (n2 : Int) g3 g4 g5 ∧ (0 : Int) ≤ 1 ∧ (1 : Int) < 2 then 2 + 1 * (n1 : Int) else -1) = ((2 + n1 : Nat) : Int) := by
            rw [if_pos ⟨k, by decide, by decide⟩, d2]
          simp only [c1, c2, c3, if_true, if_false, hv]
          simp
        · have d1 : (0 : Int) ≤ (s : Int) - 3 - n1 ∧ (s : Int) - 3 - n1 < (n1 : Int) - 1 := by omega
          have d2 : (2 : Int) + 1 * (n1 : Int) + 1 + ((s : Int) - 3 - n1) = (s : Int) := by omega
          have hv : (if GeoOK g0 (n1 : Int) (n2 : Int) g3 g4 g5 ∧ ((0 : Int) ≤ 1 ∧ (1 : Int) < 2) ∧ 0 ≤ (s : Int) - 3 - n1 ∧ (s : Int) - 3 - n1 < (n1 : Int) - 1 then 2 + 1 * (n1 : Int) + 1 + ((s : Int) - 3 - n1) else -1) = (s : Int) := by
            rw [if_pos ⟨k, by decide, d1⟩, d2]
          simp only [c1, c2, c3, c4, if_true, if_false, hv]
          simp
      · have d1 : (0 : Int) ≤ (s : Int) - 2 - 2 * n1 ∧ (s : Int) - 2 - 2 * n1 < (n2 : Int) := by omega
        have d2 : (2 : Int) + 2 * (n1 : Int) + ((s : Int) - 2 - 2 * n1) = (s : Int) := by omega
        have hv : (if GeoOK g0 (n1 : Int) (n2 : Int) g3 g4 g5 ∧ 0 ≤ (s : Int) - 2 - 2 * n1 ∧ (s : Int) - 2 - 2 * n1 < (n2 : Int) then 2 + 2 * (n1 : Int) + ((s : Int) - 2 - 2 * n1) else -1) = (s : Int) := by
          rw [if_pos ⟨k, d1⟩, d2]
        simp only [c1, c2, c3, if_true, if_false, hv]
        simp
  · simp only [law08_GeomApart.l7, Tw.run_bb, Tw.run_ret]
    rw [if_neg (by rw [decide_eq_true_eq]; omega)]

theorem apart_L25 {g0 g3 g4 g5 t : Int} {n1 n2 : Nat} (h : GeoR g0 (n1 : Int) (n2 : Int) g3 g4 g5) (k : GeoOK g0 (n1 : Int) (n2 : Int) g3 g4 g5) (ht : InR .i64 t) (h1 : 1 ≤ t) (h2 : t ≤ 4 * g0 * ((n1 : Int) - 1)) :
    law08_GeomApart.L25 t ((t - 1) / (4 * g0) + 1) 0 0 g0 (n1 : Int) (n2 : Int) g3 g4 g5 = some (.inl t) := by
  have k' := k
  obtain ⟨k0, k1, k2, k3, k4, k5⟩ := k'
  have hq0 : 0 ≤ (t - 1) / (4 * g0) := Int.ediv_nonneg (by omega) (by omega)
  have hq1 : (t - 1) / (4 * g0) * (4 * g0) ≤ t - 1 := Int.ediv_mul_le _ (by omega)
  have hq2 : t - 1 < ((t - 1) / (4 * g0) + 1) * (4 * g0) := Int.lt_ediv_add_one_mul_self _ (by omega)
  have hq3 : (t - 1) / (4 * g0) < (n1 : Int) - 1 := Int.ediv_lt_of_lt_mul (by omega) (by rw [Int.mul_comm ((n1 : Int) - 1)]; omega)
  have hpart : ∀ i : Int, 0 ≤ i → i < (t - 1) / (4 * g0) + 1 → geom_Part.c g0 (n1 : Int) (n2 : Int) g3 g4 g5 t i = some (imin (4 * g0) (t - i * (4 * g0))) := fun i a b => geom_Part_eq h ht k h1 h2 a b
  obtain ⟨q, hq⟩ := Int.eq_ofNat_of_zero_le hq0
  rw [hq] at hq1 hq2 hq3 hpart ⊢
  obtain ⟨L, hL⟩ : ∃ L, L = 4 * g0 := ⟨_, rfl⟩
  rw [← hL] at hq1 hq2 hpart
  have key := Lp_seq (fun s => (law08_GeomApart.l25 t ((q : Int) + 1) g0 (n1 : Int) (n2 : Int) g3 g4 g5 s.1 s.2).run) (fun i => (if i ≤ q then (i : Int) * L else t, (i : Int))) (x := .inl t) (q + 1) 0 (fun i _ hi => ?_) ?_
  · rw [if_pos (Nat.zero_le q), show ((0 : Nat) : Int) * L = 0 by simp] at key
    exact key
  · have hi' : i ≤ q := by omega
    have hm : (i : Int) * L ≤ (q : Int) * L := Int.mul_le_mul_of_nonneg_right (by omega) (by omega)
    have hm0 : 0 ≤ (i : Int) * L := Int.mul_nonneg (by omega) (by omega)
    have htb : t ≤ 4096 * 31 := by
      have := (prod_bounds (a := 4 * g0) (b := (n1 : Int) - 1) (m := 4096) (n := 31) (by omega) (by omega) (by omega) (by omega)).2
      omega
    have e1 : w64 ((i : Int) + 1) = ((i + 1 : Nat) : Int) := by rw [w64_of (by omega) (by omega)]; omega
    have hp1 : 1 ≤ imin L (t - (i : Int) * L) ∧ imin L (t - (i : Int) * L) ≤ L ∧ (i : Int) * L + imin L (t - (i : Int) * L) = if i + 1 ≤ q then ((i + 1 : Nat) : Int) * L else t := by
      have hs : ((i + 1 : Nat) : Int) * L = (i : Int) * L + L := by
        rw [show ((i + 1 : Nat) : Int) = (i : Int) + 1 by omega, Int.add_mul, Int.one_mul]
      unfold imin
      by_cases c : i + 1 ≤ q
      · have hm2 : ((i + 1 : Nat) : Int) * L ≤ (q : Int) * L := Int.mul_le_mul_of_nonneg_right (by omega) (by omega)
        rw [if_pos c, if_neg (by omega)]
        omega
      · have : i = q := by omega
        subst this
        have hs2 : ((i : Int) + 1) * L = (i : Int) * L + L := by rw [Int.add_mul, Int.one_mul]
        rw [if_neg c]
        split <;> omega
    have hcv : (if GeoOK g0 (n1 : Int) (n2 : Int) g3 g4 g5 ∧ ((0 : Int) ≤ 1 ∧ (1 : Int) < 2) ∧ 0 ≤ (i : Int) ∧ (i : Int) < (n1 : Int) - 1 then 2 + 1 * (n1 : Int) + 1 + (i : Int) else -1) = 2 + 1 * (n1 : Int) + 1 + (i : Int) := if_pos ⟨k, by decide, by omega, by omega⟩
    simp only [law08_GeomApart.l25, Tw.run_bb, Tw.run_opt, Tw.run_ret, hpart i (by omega) (by omega), geom_Long_eq h, geom_Chunk_eq h, Option.bind_some, e1, if_pos k, if_pos hi', decide_eq_true_eq, ← hL, hcv]
    rw [if_pos (by omega), if_pos (by omega), if_neg (by omega), if_neg (by omega), if_neg (by omega), w64_of (by omega) (by omega), hp1.2.2]
  · simp only [law08_GeomApart.l25, Tw.run_bb, Tw.run_ret, Nat.zero_add]
    rw [if_neg (by rw [decide_eq_true_eq]; omega), if_neg (by omega)]

theorem GeomApart (a0_0 : Int) (a0_1 : Int) (a0_2 : Int) (a0_3 : Int) (a0_4 : Int) (a0_5 : Int) (a1 : Int) (w0 : InR .i64 a0_0) (w1 : InR .i64 a0_1) (w2 : InR .i64 a0_2) (w3 : InR .i64 a0_3) (w4 : InR .i64 a0_4) (w5 : InR .i64 a0_5) (w6 : InR .i64 a1) : law08_GeomApart.c a0_0 a0_1 a0_2 a0_3 a0_4 a0_5 a1 = some true := by
  have h : GeoR a0_0 a0_1 a0_2 a0_3 a0_4 a0_5 := ⟨w0, w1, w2, w3, w4, w5⟩
  simp only [law08_GeomApart.c, law08_GeomApart.t, Tw.run_opt, Tw.run_bb, Tw.run_ret, geom_Check_eq h, geom_Sectors_eq h, Option.bind_some, awake08]
  by_cases k : GeoOK a0_0 a0_1 a0_2 a0_3 a0_4 a0_5
  · have k' := k
    obtain ⟨k0, k1, k2, k3, k4, k5⟩ := k'
    obtain ⟨n1, rfl⟩ := Int.eq_ofNat_of_zero_le (show 0 ≤ a0_1 by omega)
    obtain ⟨n2, rfl⟩ := Int.eq_ofNat_of_zero_le (show 0 ≤ a0_2 by omega)
    have hch := geom_Chunks_eq h w6
    simp only [k, if_true, decide_eq_true_eq, apart_L7 h k, Option.bind_some, Tw.run_sm, Sum.elim_inl, Tw.run_opt, hch, true_and]
    rw [if_neg (by decide), if_neg (by omega), if_neg (by omega)]
    by_cases ht : 1 ≤ a1 ∧ a1 ≤ 4 * a0_0 * ((n1 : Int) - 1)
    · simp only [ht, and_self, if_true, apart_L25 h k w6 ht.1 ht.2, Option.bind_some, Tw.run_sm, Sum.elim_inl, Tw.run_bb, Tw.run_opt, Tw.run_ret, awake08]
      simp
    · have hL : law08_GeomApart.L25 a1 0 0 0 a0_0 (n1 : Int) (n2 : Int) a0_3 a0_4 a0_5 = some (.inl 0) := Lp_end (by simp [law08_GeomApart.l25, Tw.run_bb, Tw.run_ret])
      simp only [ht, if_false, hL, Option.bind_some, Tw.run_sm, Sum.elim_inl, Tw.run_bb, Tw.run_opt, Tw.run_ret, awake08]
      simp
  · simp [k]

end Go.Proofs.Ytadhnolgfhgepaa.Pure
