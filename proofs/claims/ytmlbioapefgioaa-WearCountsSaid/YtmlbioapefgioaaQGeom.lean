/- Layer 8 (geom): what its printed functions come to. -/
import Derived.Test.YtmlbioapefgioaaQ
import Derived.Test.YtmlbioapefgioaaFgeom
import Derived.Test.YtmlbioapefgioaaFref08
namespace Go.Proofs.Ytmlbioapefgioaa.Pure
open Go Go.Proofs.Ytmlbioapefgioaa.Va
set_option linter.unusedVariables false
set_option linter.unusedSimpArgs false

/-- May a geometry be? -/
def GeoOK (g0 g1 g2 g3 g4 g5 : Int) : Prop := (64 ≤ g0 ∧ g0 ≤ 1024) ∧ (2 ≤ g1 ∧ g1 ≤ 32) ∧ (2 ≤ g3 ∧ g3 ≤ g0 - 8) ∧ (g3 + 3 ≤ g2 ∧ g2 ≤ 128) ∧ (1 ≤ g4 ∧ g4 ≤ 9) ∧ (1 ≤ g5 ∧ g5 ≤ 1073741823)
instance (g0 g1 g2 g3 g4 g5 : Int) : Decidable (GeoOK g0 g1 g2 g3 g4 g5) := by unfold GeoOK; infer_instance
abbrev GeoR (g0 g1 g2 g3 g4 g5 : Int) : Prop := InR .i64 g0 ∧ InR .i64 g1 ∧ InR .i64 g2 ∧ InR .i64 g3 ∧ InR .i64 g4 ∧ InR .i64 g5

section
variable {g0 g1 g2 g3 g4 g5 : Int}

theorem w64_sub8 (h : InR .i64 g0) (h2 : 64 ≤ g0) : w64 (g0 - 8) = g0 - 8 := by
  have := h.i64
  exact w64_of (by omega) (by omega)

theorem geom_Check_eq (h : GeoR g0 g1 g2 g3 g4 g5) : geom_Check.c g0 g1 g2 g3 g4 g5 = some (if GeoOK g0 g1 g2 g3 g4 g5 then 0 else 2) := by
  obtain ⟨i0, i1, i2, i3, i4, i5⟩ := h
  have j0 := i0.i64
  have j3 := i3.i64
  obtain ⟨sp, hsp⟩ : ∃ sp : List (Int × Int × Int), sp = [(g0, 64, 1024), (g1, 2, 32), (g3, 2, w64 (g0 - 8)), (g2, w64 (3 + imin g3 128), 128), (g4, 1, 9), (g5, 1, 1073741823)] := ⟨_, rfl⟩
  have hlen : sp.length = 6 := by rw [hsp]; rfl
  have hL : geom_Check.L2 ((sp.length : Nat) : Int) 0 sp = some (pickO (sp.find? fun x => decide (x.1 < x.2.1) || decide (x.1 > x.2.2)) (fun _ => .inr 2) (.inl ())) := by
    refine Lp_list (fun s => (geom_Check.l2 ((sp.length : Nat) : Int) sp s).run) (fun i => (i : Int)) sp (fun x => decide (x.1 < x.2.1) || decide (x.1 > x.2.2)) (fun _ => .inr 2) (.inl ()) (fun i a h => ?_) ?_
    · have hi := (List.getElem?_eq_some_iff.1 h).1
      simp only [geom_Check.l2, Tw.run_bb, Tw.run_dd, Tw.run_opt, Tw.run_ret, Tw.run_no, Int.toNat_natCast, h, Option.bind_some]
      rw [if_pos (by simp; omega), if_pos ⟨by omega, by omega⟩, w64_of (by omega) (by omega)]
      cases decide (a.1 < a.2.1) <;> cases decide (a.1 > a.2.2) <;> rfl
    · simp only [geom_Check.l2, Tw.run_bb, Tw.run_ret]
      rw [if_neg (by simp)]
  have e : geom_Check.t g0 g1 g2 g3 g4 g5 = .opt (geom_Check.L2 ((sp.length : Nat) : Int) 0 sp) fun z2 => .sm z2 (fun _ => .ret 0) (fun z4 => .ret z4) := by rw [hsp]; rfl
  unfold geom_Check.c
  rw [e, Tw.run_opt, hL, Option.bind_some, Tw.run_sm]
  have hmin : imin g3 128 = if 128 < g3 then 128 else g3 := rfl
  cases hf : sp.find? fun x => decide (x.1 < x.2.1) || decide (x.1 > x.2.2) with
  | none =>
    rw [List.find?_eq_none, hsp] at hf
    have a0 := hf _ (List.mem_cons_self ..)
    have a1 := hf _ (List.mem_cons_of_mem _ (List.mem_cons_self ..))
    have a2 := hf _ (List.mem_cons_of_mem _ (List.mem_cons_of_mem _ (List.mem_cons_self ..)))
    have a3 := hf _ (List.mem_cons_of_mem _ (List.mem_cons_of_mem _ (List.mem_cons_of_mem _ (List.mem_cons_self ..))))
    have a4 := hf _ (List.mem_cons_of_mem _ (List.mem_cons_of_mem _ (List.mem_cons_of_mem _ (List.mem_cons_of_mem _ (List.mem_cons_self ..)))))
    have a5 := hf _ (List.mem_cons_of_mem _ (List.mem_cons_of_mem _ (List.mem_cons_of_mem _ (List.mem_cons_of_mem _ (List.mem_cons_of_mem _ (List.mem_cons_self ..))))))
    simp only [Bool.or_eq_true, decide_eq_true_eq, not_or, Int.not_lt, gt_iff_lt] at a0 a1 a2 a3 a4 a5
    rw [w64_sub8 i0 (by omega)] at a2
    have hm2 : imin g3 128 ≤ 128 ∧ 2 ≤ imin g3 128 ∧ (imin g3 128 = g3 ∨ imin g3 128 = 128) := by rw [hmin]; split <;> omega
    rw [w64_of (n := 3 + imin g3 128) (by omega) (by omega)] at a3
    have ok : GeoOK g0 g1 g2 g3 g4 g5 := ⟨by omega, by omega, by omega, by omega, by omega, by omega⟩
    rw [if_pos ok]
    rfl
  | some x =>
    rw [if_neg]
    · rfl
    rintro ⟨k0, k1, k2, k3, k4, k5⟩
    have h1 := List.find?_some hf
    have h2 := List.mem_of_find?_eq_some hf
    rw [hsp] at h2
    have hm2 : imin g3 128 = g3 := by rw [hmin, if_neg (by omega)]
    rw [w64_sub8 i0 (by omega), hm2, w64_of (n := 3 + g3) (by omega) (by omega)] at h2
    simp only [List.mem_cons, List.not_mem_nil, or_false] at h2
    simp only [Bool.or_eq_true, decide_eq_true_eq] at h1
    rcases h2 with rfl | rfl | rfl | rfl | rfl | rfl <;> simp only [] at h1 <;> omega

theorem ref08_between_eq (n lo hi : Int) : ref08_between.c n lo hi = some (decide (lo ≤ n ∧ n ≤ hi)) := by
  simp only [ref08_between.c, ref08_between.t, Tw.run_bb, Tw.run_ret, decide_eq_true_eq]
  by_cases h : lo ≤ n
  · rw [if_pos h]; simp [h]
  · rw [if_neg h]; simp [h]

theorem ref08_Right_eq (h : GeoR g0 g1 g2 g3 g4 g5) : ref08_Right.c g0 g1 g2 g3 g4 g5 = some (decide (GeoOK g0 g1 g2 g3 g4 g5)) := by
  obtain ⟨i0, i1, i2, i3, i4, i5⟩ := h
  have j0 := i0.i64
  have j3 := i3.i64
  simp only [ref08_Right.c, ref08_Right.t, Tw.run_opt, Tw.run_bb, Tw.run_ret, ref08_between_eq, Option.bind_some, Bool.not_eq_true', decide_eq_false_iff_not, decide_eq_true_eq]
  have fin (b : Bool) (h : b = true ↔ GeoOK g0 g1 g2 g3 g4 g5) : some b = some (decide (GeoOK g0 g1 g2 g3 g4 g5)) := by
    congr 1
    rw [Bool.eq_iff_iff, decide_eq_true_iff]
    exact h
  by_cases k0 : 64 ≤ g0 ∧ g0 ≤ 1024
  · rw [if_neg (by omega), w64_sub8 i0 k0.1]
    by_cases k1 : 2 ≤ g1 ∧ g1 ≤ 32
    · rw [if_neg (by omega)]
      by_cases k2 : 2 ≤ g3 ∧ g3 ≤ g0 - 8
      · rw [if_neg (by omega), w64_of (by omega) (by omega)]
        by_cases k3 : g3 + 3 ≤ g2 ∧ g2 ≤ 128
        · rw [if_pos k3]
          by_cases k4 : 1 ≤ g4 ∧ g4 ≤ 9
          · rw [if_pos k4]
            refine fin _ ?_
            rw [decide_eq_true_iff]
            unfold GeoOK
            omega
          · rw [if_neg k4]
            refine fin _ ?_
            unfold GeoOK
            simp only [Bool.false_eq_true, false_iff]
            omega
        · rw [if_neg k3]
          refine fin _ ?_
          unfold GeoOK
          simp only [Bool.false_eq_true, false_iff]
          omega
      · rw [if_pos k2]
        refine fin _ ?_
        unfold GeoOK
        simp only [Bool.false_eq_true, false_iff]
        omega
    · rw [if_pos k1]
      refine fin _ ?_
      unfold GeoOK
      simp only [Bool.false_eq_true, false_iff]
      omega
  · rw [if_pos k0]
    refine fin _ ?_
    unfold GeoOK
    simp only [Bool.false_eq_true, false_iff]
    omega

theorem geom_fine_eq (h : GeoR g0 g1 g2 g3 g4 g5) (i n : Int) : geom_fine.c g0 g1 g2 g3 g4 g5 i n = some (decide (GeoOK g0 g1 g2 g3 g4 g5 ∧ 0 ≤ i ∧ i < n)) := by
  simp only [geom_fine.c, geom_fine.t, Tw.run_opt, Tw.run_bb, Tw.run_ret, geom_Check_eq h, Option.bind_some, decide_eq_true_eq]
  by_cases k : GeoOK g0 g1 g2 g3 g4 g5
  · rw [if_pos k, if_pos (by decide)]
    by_cases k2 : i ≥ 0
    · rw [if_pos k2]
      simp [k, k2]
    · rw [if_neg k2]
      simp [k2]
  · rw [if_neg k, if_neg (by decide)]
    simp [k]

theorem geom_Sectors_eq (h : GeoR g0 g1 g2 g3 g4 g5) : geom_Sectors.c g0 g1 g2 g3 g4 g5 = some (if GeoOK g0 g1 g2 g3 g4 g5 then 2 + 2 * g1 + g2 else 0) := by
  simp only [geom_Sectors.c, geom_Sectors.t, Tw.run_opt, Tw.run_bb, Tw.run_ret, geom_fine_eq h, Option.bind_some, Bool.not_eq_true', decide_eq_false_iff_not]
  by_cases k : GeoOK g0 g1 g2 g3 g4 g5
  · have k' := k
    obtain ⟨k0, k1, k2, k3, k4, k5⟩ := k'
    rw [if_neg (by simp [k]), if_pos k]
    simp (disch := omega) only [w64_of]
  · rw [if_pos (by simp [k]), if_neg k]

end

/-! The map. -/
abbrev P3 : Type := Int × Int × Int
def mapAt (n1 k : Nat) : P3 :=
  if k < 2 then (0, 0, (k : Int)) else if k < 2 + n1 then (if k = 2 then (1, 0, 0) else (2, 0, (k : Int) - 3)) else
  if k < 2 + 2 * n1 then (if k = 2 + n1 then (1, 1, 0) else (2, 1, (k : Int) - 3 - n1)) else (3, 0, (k : Int) - 2 - 2 * n1)
def mapL (n1 m : Nat) : List P3 := (List.range m).map (mapAt n1)
theorem mapL_succ (n1 m : Nat) : mapL n1 (m + 1) = mapL n1 m ++ [mapAt n1 m] := by simp [mapL, List.range_succ]
theorem mapL_len (n1 m : Nat) : (mapL n1 m).length = m := by simp [mapL]
theorem mapL_get {n1 m k : Nat} (h : k < m) : (mapL n1 m)[k]? = some (mapAt n1 k) := by
  unfold mapL
  rw [List.getElem?_map, List.getElem?_range h]
  rfl

theorem ref08_Map_L9 {n1 : Nat} (h1 : 2 ≤ n1) (h2 : n1 ≤ 32) (s : Int) (m : Nat) (hm : m ≤ 100) (hs : ∀ i, i + 1 < n1 → mapAt n1 (m + i) = (2, s, (i : Int))) (g0 g2 g3 g4 g5 : Int) :
    ref08_Map.L9 s 0 g0 (n1 : Int) g2 g3 g4 g5 (mapL n1 m) = some (mapL n1 (m + (n1 - 1))) := by
  have := Lp_seq (fun q => (ref08_Map.l9 s g0 (n1 : Int) g2 g3 g4 g5 q.1 q.2).run) (fun i => ((i : Int), mapL n1 (m + i))) (x := mapL n1 (m + (n1 - 1))) (n1 - 1) 0 (fun i _ hi => ?_) (by
    simp only [ref08_Map.l9, Tw.run_bb, Nat.zero_add]
    rw [w64_of (by omega) (by omega), if_neg (by rw [decide_eq_true_eq]; omega)]
    rfl)
  · exact this
  · simp only [ref08_Map.l9, Tw.run_bb, Tw.run_dd, Tw.run_ret, mapL_len, List.length_cons, List.length_nil]
    rw [w64_of (by omega) (by omega), if_pos (by rw [decide_eq_true_eq]; omega), if_pos ⟨by omega, by omega⟩, show m + (i + 1) = m + i + 1 by omega, mapL_succ, hs i (by omega)]
    rfl

theorem ref08_Map_L5 {n1 : Nat} (h1 : 2 ≤ n1) (h2 : n1 ≤ 32) (g0 g2 g3 g4 g5 : Int) : ref08_Map.L5 0 g0 (n1 : Int) g2 g3 g4 g5 (mapL n1 2) = some (mapL n1 (2 + 2 * n1)) := by
  have := Lp_seq (fun q => (ref08_Map.l5 g0 (n1 : Int) g2 g3 g4 g5 q.1 q.2).run) (fun s => ((s : Int), mapL n1 (2 + s * n1))) (x := mapL n1 (2 + 2 * n1)) 2 0 (fun s _ hs => ?_) (by
    simp only [ref08_Map.l5, Tw.run_bb, Nat.zero_add]
    rw [if_neg (by simp)]
    rfl)
  · simp only [Nat.zero_mul, Nat.add_zero] at this
    exact this
  · have hs' : s = 0 ∨ s = 1 := by omega
    rcases hs' with rfl | rfl
    · have e : mapL n1 (2 + 0 * n1) ++ [(1, ((0 : Nat) : Int), 0)] = mapL n1 3 := by
        rw [mapL_succ, Nat.zero_mul]
        congr 2
        unfold mapAt
        rw [if_neg (by omega), if_pos (by omega), if_pos rfl]
        rfl
      simp only [ref08_Map.l5, Tw.run_bb, Tw.run_dd, Tw.run_opt, Tw.run_ret, mapL_len, List.length_cons, List.length_nil, e]
      rw [if_pos (by simp), if_pos ⟨by omega, by omega⟩, ref08_Map_L9 h1 h2 _ 3 (by omega) (fun i hi => by
        unfold mapAt
        rw [if_neg (by omega), if_pos (by omega), if_neg (by omega)]
        congr 2
        omega)]
      simp only [Option.bind_some]
      rw [show 3 + (n1 - 1) = 2 + (0 + 1) * n1 by omega]
      rfl
    · have e : mapL n1 (2 + 1 * n1) ++ [(1, ((1 : Nat) : Int), 0)] = mapL n1 (3 + n1) := by
        rw [show 3 + n1 = 2 + 1 * n1 + 1 by omega, mapL_succ]
        congr 2
        unfold mapAt
        rw [if_neg (by omega), if_neg (by omega), if_pos (by omega), if_pos (by omega)]
        rfl
      simp only [ref08_Map.l5, Tw.run_bb, Tw.run_dd, Tw.run_opt, Tw.run_ret, mapL_len, List.length_cons, List.length_nil, e]
      rw [if_pos (by simp), if_pos ⟨by omega, by omega⟩, ref08_Map_L9 h1 h2 _ (3 + n1) (by omega) (fun i hi => by
        unfold mapAt
        rw [if_neg (by omega), if_neg (by omega), if_pos (by omega), if_neg (by omega)]
        congr 2
        omega)]
      simp only [Option.bind_some]
      rw [show 3 + n1 + (n1 - 1) = 2 + (1 + 1) * n1 by omega]
      rfl

theorem ref08_Map_L13 {n1 n2 : Nat} (h2 : n1 ≤ 32) (h3 : n2 ≤ 128) (g0 g1 g3 g4 g5 : Int) : ref08_Map.L13 0 g0 g1 (n2 : Int) g3 g4 g5 (mapL n1 (2 + 2 * n1)) = some (mapL n1 (2 + 2 * n1 + n2)) := by
  have := Lp_seq (fun q => (ref08_Map.l13 g0 g1 (n2 : Int) g3 g4 g5 q.1 q.2).run) (fun p => ((p : Int), mapL n1 (2 + 2 * n1 + p))) (x := mapL n1 (2 + 2 * n1 + n2)) n2 0 (fun p _ hp => ?_) (by
    simp only [ref08_Map.l13, Tw.run_bb, Nat.zero_add]
    rw [if_neg (by simp)]
    rfl)
  · exact this
  · have e : mapAt n1 (2 + 2 * n1 + p) = (3, 0, (p : Int)) := by
      unfold mapAt
      rw [if_neg (by omega), if_neg (by omega), if_neg (by omega)]
      congr 2
      omega
    simp only [ref08_Map.l13, Tw.run_bb, Tw.run_dd, Tw.run_ret, mapL_len, List.length_cons, List.length_nil]
    rw [if_pos (by simp; omega), if_pos ⟨by omega, by omega⟩, show 2 + 2 * n1 + (p + 1) = 2 + 2 * n1 + p + 1 by omega, mapL_succ, e, w64_of (by omega) (by omega)]
    rfl

theorem ref08_Map_eq {g0 g1 g2 g3 g4 g5 : Int} (h : GeoR g0 g1 g2 g3 g4 g5) : ref08_Map.c g0 g1 g2 g3 g4 g5 = some (if GeoOK g0 g1 g2 g3 g4 g5 then mapL g1.toNat (2 + 2 * g1.toNat + g2.toNat) else []) := by
  simp only [ref08_Map.c, ref08_Map.t, Tw.run_opt, Tw.run_bb, Tw.run_ret, ref08_Right_eq h, Option.bind_some, Bool.not_eq_true', decide_eq_false_iff_not]
  by_cases k : GeoOK g0 g1 g2 g3 g4 g5
  · have k' := k
    obtain ⟨k0, k1, k2, k3, k4, k5⟩ := k'
    rw [if_neg (by simp [k]), if_pos k]
    obtain ⟨n1, rfl⟩ := Int.eq_ofNat_of_zero_le (show 0 ≤ g1 by omega)
    obtain ⟨n2, rfl⟩ := Int.eq_ofNat_of_zero_le (show 0 ≤ g2 by omega)
    have e : ([(0, 0, 0), (0, 0, 1)] : List P3) = mapL n1 2 := by simp [mapL, List.range_succ, mapAt]
    rw [e, ref08_Map_L5 (by omega) (by omega)]
    simp only [Option.bind_some]
    rw [ref08_Map_L13 (by omega) (by omega)]
    rfl
  · rw [if_pos k, if_neg k]

theorem find_one {n : Nat} {p : Nat → Bool} {k0 : Nat} (hk : k0 < n) (h : ∀ k, k < n → (p k = true ↔ k = k0)) : (List.range' 0 n).find? p = some k0 := by
  cases hf : (List.range' 0 n).find? p with
  | none =>
    rw [List.find?_eq_none] at hf
    exact absurd ((h k0 hk).2 rfl) (hf k0 (by rw [List.mem_range'_1]; omega))
  | some k =>
    have h1 := List.find?_some hf
    have h2 := List.mem_of_find?_eq_some hf
    rw [List.mem_range'_1] at h2
    rw [(h k (by omega)).1 h1]
theorem find_zero {n : Nat} {p : Nat → Bool} (h : ∀ k, k < n → p k = false) : (List.range' 0 n).find? p = none := by
  rw [List.find?_eq_none]
  intro k hk
  rw [List.mem_range'_1] at hk
  rw [h k (by omega)]
  decide

/-! What is found in the map. -/
theorem find_ledger {n1 n2 : Nat} (h1 : 2 ≤ n1) (a : Int) : pickO ((List.range' 0 (2 + 2 * n1 + n2)).find? fun k => (mapAt n1 k).1 == 1 && ((mapAt n1 k).2.1 == a && (mapAt n1 k).2.2 == 0)) (fun k => (k : Int)) (-1) = if 0 ≤ a ∧ a < 2 then 2 + a * (n1 : Int) else -1 := by
  by_cases h : 0 ≤ a ∧ a < 2
  · rw [if_pos h]
    have ha : a = 0 ∨ a = 1 := by omega
    rcases ha with rfl | rfl
    · rw [find_one (k0 := 2) (by omega) (fun k hk => by
        simp only [Bool.and_eq_true, beq_iff_eq]
        unfold mapAt
        repeat' split
        all_goals (first | (simp only []; omega) | (simp; done) | (simp; omega)))]
      simp [pickO]
    · rw [find_one (k0 := 2 + n1) (by omega) (fun k hk => by
        simp only [Bool.and_eq_true, beq_iff_eq]
        unfold mapAt
        repeat' split
        all_goals (first | (simp only []; omega) | (simp; done) | (simp; omega)))]
      simp only [pickO]
      omega
  · rw [if_neg h, find_zero (fun k hk => by
      rw [← Bool.not_eq_true]
      simp only [Bool.and_eq_true, beq_iff_eq]
      unfold mapAt
      repeat' split
      all_goals (first | (simp only []; omega) | (simp; done) | (simp; omega)))]
    rfl
theorem find_chunk {n1 n2 : Nat} (h1 : 2 ≤ n1) (a b : Int) : pickO ((List.range' 0 (2 + 2 * n1 + n2)).find? fun k => (mapAt n1 k).1 == 2 && ((mapAt n1 k).2.1 == a && (mapAt n1 k).2.2 == b)) (fun k => (k : Int)) (-1) = if (0 ≤ a ∧ a < 2) ∧ 0 ≤ b ∧ b < (n1 : Int) - 1 then 2 + a * (n1 : Int) + 1 + b else -1 := by
  by_cases h : (0 ≤ a ∧ a < 2) ∧ 0 ≤ b ∧ b < (n1 : Int) - 1
  · rw [if_pos h]
    obtain ⟨m, rfl⟩ := Int.eq_ofNat_of_zero_le h.2.1
    have ha : a = 0 ∨ a = 1 := by omega
    rcases ha with rfl | rfl
    · rw [find_one (k0 := 3 + m) (by omega) (fun k hk => by
        simp only [Bool.and_eq_true, beq_iff_eq]
        unfold mapAt
        repeat' split
        all_goals (first | (simp only []; omega) | (simp; done) | (simp; omega)))]
      simp only [pickO]
      omega
    · rw [find_one (k0 := 3 + n1 + m) (by omega) (fun k hk => by
        simp only [Bool.and_eq_true, beq_iff_eq]
        unfold mapAt
        repeat' split
        all_goals (first | (simp only []; omega) | (simp; done) | (simp; omega)))]
      simp only [pickO]
      omega
  · rw [if_neg h, find_zero (fun k hk => by
      rw [← Bool.not_eq_true]
      simp only [Bool.and_eq_true, beq_iff_eq]
      unfold mapAt
      repeat' split
      all_goals (first | (simp only []; omega) | (simp; done) | (simp; omega)))]
    rfl
theorem find_page {n1 n2 : Nat} (h1 : 2 ≤ n1) (b : Int) : pickO ((List.range' 0 (2 + 2 * n1 + n2)).find? fun k => (mapAt n1 k).1 == 3 && ((mapAt n1 k).2.1 == 0 && (mapAt n1 k).2.2 == b)) (fun k => (k : Int)) (-1) = if 0 ≤ b ∧ b < (n2 : Int) then 2 + 2 * (n1 : Int) + b else -1 := by
  by_cases h : 0 ≤ b ∧ b < (n2 : Int)
  · rw [if_pos h]
    obtain ⟨m, rfl⟩ := Int.eq_ofNat_of_zero_le h.1
    rw [find_one (k0 := 2 + 2 * n1 + m) (by omega) (fun k hk => by
      simp only [Bool.and_eq_true, beq_iff_eq]
      unfold mapAt
      repeat' split
      all_goals (first | (simp only []; omega) | (simp; done) | (simp; omega)))]
    simp only [pickO]
    omega
  · rw [if_neg h, find_zero (fun k hk => by
      rw [← Bool.not_eq_true]
      simp only [Bool.and_eq_true, beq_iff_eq]
      unfold mapAt
      repeat' split
      all_goals (first | (simp only []; omega) | (simp; done) | (simp; omega)))]
    rfl

/-! Parts. -/
section
variable {g0 g1 g2 g3 g4 g5 : Int}
theorem prod_bounds {a b m n : Int} (h1 : 0 ≤ a) (h2 : a ≤ m) (h3 : 0 ≤ b) (h4 : b ≤ n) : 0 ≤ a * b ∧ a * b ≤ m * n :=
  ⟨Int.mul_nonneg h1 h3, Int.mul_le_mul h2 h4 h3 (by omega)⟩

end

theorem geom_Where_eq {g0 g3 g4 g5 : Int} {n1 n2 : Nat} (h : GeoR g0 (n1 : Int) (n2 : Int) g3 g4 g5) (k : GeoOK g0 (n1 : Int) (n2 : Int) g3 g4 g5) {s : Nat} (hs : s < 2 + 2 * n1 + n2) :
    geom_Where.c g0 (n1 : Int) (n2 : Int) g3 g4 g5 (s : Int) = some (mapAt n1 s) := by
  have k' := k
  obtain ⟨k0, k1, k2, k3, k4, k5⟩ := k'
  simp only [geom_Where.c, geom_Where.t, Tw.run_opt, Tw.run_bb, Tw.run_dd, Tw.run_ret, Tw.run_no, geom_Sectors_eq h, geom_fine_eq h, Option.bind_some, if_pos k, Bool.not_eq_true', decide_eq_false_iff_not, decide_eq_true_eq]
  rw [if_neg (fun x => x ⟨k, by omega, by omega⟩), w64_of (n := (s : Int) - 2) (by omega) (by omega), w64_of (n := 2 * (n1 : Int)) (by omega) (by omega)]
  unfold mapAt
  by_cases h1 : s < 2
  · rw [if_pos (by omega), if_pos h1]
  rw [if_neg (by omega), if_neg h1]
  obtain ⟨m, rfl⟩ : ∃ m, s = 2 + m := ⟨s - 2, by omega⟩
  have em : ((2 + m : Nat) : Int) - 2 = (m : Int) := by omega
  rw [em]
  have hz : ¬ ((n1 : Int) = 0) := by omega
  simp only [if_neg hz]
  by_cases h2 : m < 2 * n1
  · rw [if_neg (show ¬ ((m : Int) ≥ 2 * (n1 : Int)) by omega)]
    have ed : Int.tdiv (m : Int) (n1 : Int) = ((m / n1 : Nat) : Int) := tdiv_nat m n1
    have er : Int.tmod (m : Int) (n1 : Int) = ((m % n1 : Nat) : Int) := tmod_nat m n1
    rw [ed, er]
    by_cases h3 : m < n1
    · rw [Nat.div_eq_of_lt h3, Nat.mod_eq_of_lt h3, if_pos (show 2 + m < 2 + n1 by omega)]
      by_cases h4 : m = 0
      · subst h4
        rfl
      · rw [if_neg (show ¬ (((m : Int) == 0) = true) by simpa using h4), if_neg (show ¬ 2 + m = 2 by omega), w64_of (n := (m : Int) - 1) (by omega) (by omega)]
        congr 3
        omega
    · obtain ⟨r, rfl⟩ : ∃ r, m = n1 + r := ⟨m - n1, by omega⟩
      have hn : 0 < n1 := by omega
      rw [Nat.add_div_left _ hn, Nat.add_mod_left, Nat.div_eq_of_lt (show r < n1 by omega), Nat.mod_eq_of_lt (show r < n1 by omega), if_neg (show ¬ 2 + (n1 + r) < 2 + n1 by omega), if_pos (show 2 + (n1 + r) < 2 + 2 * n1 by omega)]
      by_cases h4 : r = 0
      · subst h4
        rw [if_pos (show 2 + (n1 + 0) = 2 + n1 by omega)]
        rfl
      · rw [if_neg (show ¬ (((r : Int) == 0) = true) by simpa using h4), if_neg (show ¬ 2 + (n1 + r) = 2 + n1 by omega), w64_of (n := (r : Int) - 1) (by omega) (by omega)]
        congr 3
        omega
  · rw [if_pos (by omega), if_neg (by omega), if_neg (by omega), w64_of (by omega) (by omega)]

end Go.Proofs.Ytmlbioapefgioaa.Pure
