/- Slots: what a slot says when the power went in a chunk, or in a Begin. -/
import Derived.Test.YtnlclchlnngdnaaQSlot3
namespace Go.Proofs.Ytnlclchlnngdnaa.Pure
open Go Go.Proofs.Ytnlclchlnngdnaa.Va
set_option linter.unusedVariables false
set_option linter.unusedSimpArgs false

theorem sec_out {p q n x : Nat} (h : p ≠ q) (hx : x < n) : ¬(p * n ≤ q * n + x ∧ q * n + x < p * n + n) := by
  rintro ⟨h1, h2⟩
  rcases Nat.lt_or_gt_of_ne h with h3 | h3
  · have := Nat.mul_le_mul_right n (show p + 1 ≤ q by omega)
    rw [Nat.add_mul, Nat.one_mul] at this
    omega
  · have := Nat.mul_le_mul_right n (show q + 1 ≤ p by omega)
    rw [Nat.add_mul, Nat.one_mul] at this
    omega
theorem rd_congr {W W' : List Int} {a c : Nat} (h : ∀ i, i < c → W'.getD (a + i) 0 = W.getD (a + i) 0) : rd W' a c = rd W a c := by
  unfold rd
  exact List.map_congr_left fun i hi => h i (List.mem_range.1 hi)
theorem rd_set {W : List Int} {a m K : Nat} (y : Int) (hm : m < K) (hl : a + m < W.length) : rd (W.set (a + m) y) a K = (rd W a K).set m y := by
  apply List.ext_getElem?
  intro i
  by_cases hi : i < K
  · rw [rd_get hi, set_get y _ hl, List.getElem?_set, rd_len]
    by_cases h : i = m
    · subst h
      rw [if_pos rfl, if_pos rfl, if_pos hm]
    · rw [if_neg (by omega), if_neg (by omega), rd_get hi]
  · rw [List.getElem?_eq_none (by rw [rd_len]; omega), List.getElem?_eq_none (by rw [List.length_set, rd_len]; omega)]
theorem cnt0_set : ∀ (L : List Int) (m : Nat) (x y : Int), L[m]? = some x → x ≠ 0 → y ≠ 0 → cnt0 (L.set m y) = cnt0 L
  | [], m, x, y, h, _, _ => by simp at h
  | z :: L, 0, x, y, h, hx, hy => by
    have hz : z = x := by simpa using h
    subst hz
    show ((y :: L).takeWhile fun x => x == 0).length = ((z :: L).takeWhile fun x => x == 0).length
    rw [List.takeWhile_cons, List.takeWhile_cons, if_neg (by simpa using hy), if_neg (by simpa using hx)]
  | z :: L, m + 1, x, y, h, hx, hy => by
    have ih := cnt0_set L m x y (by simpa using h) hx hy
    show ((z :: L.set m y).takeWhile fun x => x == 0).length = ((z :: L).takeWhile fun x => x == 0).length
    rw [List.takeWhile_cons, List.takeWhile_cons]
    split
    · rw [List.length_cons, List.length_cons]
      exact congrArg (· + 1) ih
    · rfl
theorem cnt0_mono : ∀ (L L' : List Int), L'.length = L.length → (∀ i : Nat, L'[i]? = some 0 → L[i]? = some 0) → cnt0 L' ≤ cnt0 L
  | [], L', hl, _ => by
    have : L' = [] := List.length_eq_zero_iff.1 hl
    subst this
    exact Nat.le_refl _
  | z :: L, [], hl, _ => by simp at hl
  | z :: L, z' :: L', hl, h => by
    show ((z' :: L').takeWhile fun x => x == 0).length ≤ ((z :: L).takeWhile fun x => x == 0).length
    rw [List.takeWhile_cons, List.takeWhile_cons]
    by_cases h0 : z' = 0
    · have : z = 0 := by simpa using h 0 (by rw [h0]; rfl)
      rw [if_pos (by simpa using h0), if_pos (by simpa using this), List.length_cons, List.length_cons]
      exact Nat.succ_le_succ (cnt0_mono L L' (by simpa using hl) fun i hi => by simpa using h (i + 1) (by simpa using hi))
    · rw [if_neg (by simpa using h0)]
      exact Nat.zero_le _

theorem schunk_bad {n : Nat} {g1 slot T i : Int} {b : List Int} (s : Fl) (hf : sfine n g1 slot T = 0) (h : i < 0 ∨ i ≥ chkF n g1 T ∨ (b.length : Int) ≠ prtF n T i) : s.schunk n g1 slot T i b = (2, s) := by
  unfold Fl.schunk
  rw [if_neg (fun h => h hf), if_pos h]
theorem schunk_good {n : Nat} {g1 slot T i : Int} {b : List Int} (s : Fl) (hf : sfine n g1 slot T = 0) (h : ¬(i < 0 ∨ i ≥ chkF n g1 T ∨ (b.length : Int) ≠ prtF n T i)) : s.schunk n g1 slot T i b =
    if (s.fresh n (chnF g1 slot i) (packW b (needN b.length))).1 ≠ 0 then s.fresh n (chnF g1 slot i) (packW b (needN b.length)) else (s.fresh n (chnF g1 slot i) (packW b (needN b.length))).2.dwrite n (ledF g1 slot) i [0] := by
  unfold Fl.schunk
  rw [if_neg (fun h => h hf), if_neg h]
theorem sbegin_good {n : Nat} {g1 slot : Int} (s : Fl) (h : 0 ≤ slot ∧ slot < 2) : s.sbegin n g1 slot = s.clean n (ledF g1 slot) := if_pos h
section
variable {n : Nat} {g1 slot T : Int} {jl K : Nat} (hjl : ledF g1 slot = (jl : Int)) (hK : chkF n g1 T = (K : Int)) (hKn : K ≤ n)
include hjl hK hKn
theorem sdone_of {s : Fl} (hD : s.D = false) (hf : sfine n g1 slot T = 0) (hj : jl < s.V.length) : s.sdone n g1 slot T = ((cnt0 (rd s.W (jl * n) K) : Int), 0) := by
  have hr : s.dread n (jl : Int) 0 (K : Int) = (0, rd s.W (jl * n + 0) K) := dread_yes (b := 0) hD hj (by omega)
  unfold Fl.sdone
  rw [if_neg (by simpa using hf), hjl, hK, hr, if_neg (fun h => h rfl), Nat.add_zero]
omit hK in
theorem crash_begin {u t : Fl} (hu : FlOK n u) (ht : FlOK n t) (hD : u.D = false) (hL : Lit t) (hW : t.W = u.W) (hV : t.V.length = u.V.length) (hs : 0 ≤ slot ∧ slot < 2) (hj : jl < u.V.length) :
    (u.sbegin n g1 slot).2.W.length = u.W.length ∧ cnt0 (rd (u.sbegin n g1 slot).2.W (jl * n) K) ≤ cnt0 (rd u.W (jl * n) K) ∧
    ((u.sbegin n g1 slot).1 = 0 → cnt0 (rd (u.sbegin n g1 slot).2.W (jl * n) K) = cnt0 (rd (t.sbegin n g1 slot).2.W (jl * n) K)) := by
  rw [sbegin_good u hs, sbegin_good t hs, hjl]
  obtain ⟨a1, a2, a3, a4⟩ := clean_arm hu hD hj
  have hjn : jl * n + n ≤ t.W.length := by
    rw [ht.ws]
    have := Nat.mul_le_mul_right n (show jl + 1 ≤ t.V.length by omega)
    rw [Nat.add_mul, Nat.one_mul] at this
    exact this
  obtain ⟨b1, b2, b3, b4, b5⟩ := clean_lit (n := n) hL.1 hL.2 (j := jl) (by omega) hjn
  refine ⟨a1, cnt0_mono _ _ (by rw [rd_len, rd_len]) fun i hi => ?_, fun h => ?_⟩
  · by_cases hik : i < K
    · rw [rd_get hik] at hi ⊢
      injection hi with hi
      rw [a3 _ hi]
    · rw [List.getElem?_eq_none (by rw [rd_len]; omega)] at hi
      cases hi
  · congr 1
    refine rd_congr fun i hi => ?_
    rw [(a4 h).2, b5, if_pos (by omega), if_pos (by omega)]
theorem crash_chunk {u t : Fl} (hu : FlOK n u) (ht : FlOK n t) (hD : u.D = false) (hL : Lit t) (hW : t.W = u.W) (hV : t.V.length = u.V.length) (hs : 0 ≤ slot ∧ slot < 2) (hjm : jl + K < u.V.length) (hf : sfine n g1 slot T = 0) (hp : ∀ i : Int, 0 ≤ i → i < chkF n g1 T → prtF n T i ≤ 4 * (n : Int)) (i : Int) {b : List Int} (hb : Bytes b) :
    (u.schunk n g1 slot T i b).2.W.length = u.W.length ∧
    (cnt0 (rd (u.schunk n g1 slot T i b).2.W (jl * n) K) = cnt0 (rd u.W (jl * n) K) ∨ cnt0 (rd (u.schunk n g1 slot T i b).2.W (jl * n) K) = cnt0 (rd (t.schunk n g1 slot T i b).2.W (jl * n) K)) ∧
    ((u.schunk n g1 slot T i b).1 = 0 → cnt0 (rd (u.schunk n g1 slot T i b).2.W (jl * n) K) = cnt0 (rd (t.schunk n g1 slot T i b).2.W (jl * n) K)) ∧
    (∀ m : Nat, m < K → (m : Int) ≠ i → rd (u.schunk n g1 slot T i b).2.W ((jl + 1 + m) * n) n = rd u.W ((jl + 1 + m) * n) n) ∧
    (cnt0 (rd (u.schunk n g1 slot T i b).2.W (jl * n) K) > cnt0 (rd u.W (jl * n) K) → ∃ m : Nat, i = (m : Int) ∧ m < K ∧ needN b.length ≤ n ∧ rd (u.schunk n g1 slot T i b).2.W ((jl + 1 + m) * n) (needN b.length) = packW b (needN b.length)) := by
  by_cases hbad : i < 0 ∨ i ≥ chkF n g1 T ∨ (b.length : Int) ≠ prtF n T i
  · rw [schunk_bad u hf hbad, schunk_bad t hf hbad]
    refine ⟨rfl, Or.inl rfl, fun h => absurd (show (2 : Int) = 0 from h) (by decide), fun m _ _ => rfl, fun h => absurd h (Nat.lt_irrefl _)⟩
  rw [schunk_good u hf hbad, schunk_good t hf hbad, hjl]
  obtain ⟨m, rfl⟩ := Int.eq_ofNat_of_zero_le (show 0 ≤ i by omega)
  have hmK : m < K := by omega
  have hjc : chnF g1 slot (m : Int) = ((jl + 1 + m : Nat) : Int) := by
    unfold ledF at hjl
    unfold chnF
    omega
  have hpr := hp (m : Int) (by omega) (by omega)
  have hn : needN b.length ≤ n := by unfold needN; omega
  have hw := packW_words hb (needN b.length)
  have hwl : (packW b (needN b.length)).length = needN b.length := by simp [packW]
  rw [hjc]
  have hjn : ∀ j, j < u.V.length → j * n + n ≤ u.W.length := fun j hj => by
    rw [hu.ws]
    have := Nat.mul_le_mul_right n (show j + 1 ≤ u.V.length by omega)
    rw [Nat.add_mul, Nat.one_mul] at this
    exact this
  obtain ⟨a1, a2, a3⟩ := fresh_arm hu hD (j := jl + 1 + m) (by omega) hw (by rw [hwl]; exact hn)
  obtain ⟨b1, b2, b3⟩ := fresh_arm ht hL.1 (j := jl + 1 + m) (by omega) hw (by rw [hwl]; exact hn)
  have by0 := fresh_yes ht hL (j := jl + 1 + m) (by omega) hw (by rw [hwl]; exact hn)
  have uo := fresh_ok hu ((jl + 1 + m : Nat) : Int) hw
  have to := fresh_ok ht ((jl + 1 + m : Nat) : Int) hw
  have tL := fresh_Lit (n := n) hL ((jl + 1 + m : Nat) : Int) (packW b (needN b.length))
  have hls := hjn jl (by omega)
  rw [if_neg (show ¬((t.fresh n ((jl + 1 + m : Nat) : Int) (packW b (needN b.length))).1 ≠ 0) from fun h => h by0)]
  -- the document's
  have q : rd ((t.fresh n ((jl + 1 + m : Nat) : Int) (packW b (needN b.length))).2.dwrite n (jl : Int) (m : Int) [0]).2.W (jl * n) K = (rd u.W (jl * n) K).set m 0 := by
    generalize (t.fresh n ((jl + 1 + m : Nat) : Int) (packW b (needN b.length))).2 = t1 at *
    obtain ⟨y, m1, m2, m3⟩ := mark_arm to.1 tL.1 (j := jl) (b := m) (by omega) (by omega) (by rw [b1, hW]; exact hls)
    have hz : ∀ k, k < ([0] : List Int).length → bAndn .u32 (([0] : List Int).getD k 0) (t1.W.getD (jl * n + m + k) 0) = 0 := fun k hk => by
      have : k = 0 := by simpa using hk
      subst this
      exact andn_zero (getD_in to.1 _)
    have := dwrite_yes (n := n) tL (j := jl) (b := m) (by omega) (w := [0]) (by simp only [List.length_cons, List.length_nil]; omega) (by rw [b1, hW]; exact hls) hz
    rw [m1, m2 this, rd_set 0 hmK (by rw [b1, hW]; omega)]
    congr 1
    exact rd_congr fun k hk => by rw [b2 _ (sec_out (by omega) (by omega)), hW]
  by_cases hf0 : (u.fresh n ((jl + 1 + m : Nat) : Int) (packW b (needN b.length))).1 = 0
  rotate_left
  · rw [if_pos hf0]
    have e : rd (u.fresh n ((jl + 1 + m : Nat) : Int) (packW b (needN b.length))).2.W (jl * n) K = rd u.W (jl * n) K := rd_congr fun k hk => a2 _ (sec_out (by omega) (by omega))
    refine ⟨a1, Or.inl (by rw [e]), fun h => absurd h hf0, fun k hk hne => rd_congr fun x hx => a2 _ (sec_out (by omega) hx), fun h => ?_⟩
    rw [e] at h
    exact absurd h (Nat.lt_irrefl _)
  rw [if_neg (show ¬((u.fresh n ((jl + 1 + m : Nat) : Int) (packW b (needN b.length))).1 ≠ 0) from fun h => h hf0)]
  obtain ⟨c1, c2⟩ := a3 hf0
  generalize (u.fresh n ((jl + 1 + m : Nat) : Int) (packW b (needN b.length))).2 = u1 at *
  obtain ⟨y, m1, m2, m3⟩ := mark_arm uo.1 c1 (j := jl) (b := m) (by omega) (by omega) (by rw [a1]; exact hls)
  have e : rd (u1.dwrite n (jl : Int) (m : Int) [0]).2.W (jl * n) K = (rd u.W (jl * n) K).set m y := by
    rw [m1, rd_set y hmK (by rw [a1]; omega)]
    congr 1
    exact rd_congr fun k hk => a2 _ (sec_out (by omega) (by omega))
  have hx : (rd u.W (jl * n) K)[m]? = some (u1.W.getD (jl * n + m) 0) := by rw [rd_get hmK, a2 _ (sec_out (by omega) (by omega))]
  refine ⟨by rw [m1, List.length_set, a1], ?_, fun h => by rw [e, q, m2 h], fun k hk hne => ?_, fun h => ⟨m, rfl, hmK, hn, ?_⟩⟩
  · rw [e, q]
    by_cases hy : y = 0
    · rw [hy]
      exact Or.inr rfl
    · exact Or.inl (cnt0_set _ m _ y hx (fun h => hy (m3 h)) hy)
  · rw [m1]
    refine rd_congr fun x hx => ?_
    rw [set_get y _ (by rw [a1]; omega), if_neg (fun h => sec_out (p := jl) (q := jl + 1 + k) (n := n) (x := x) (by omega) hx (by omega)), a2 _ (sec_out (by omega) hx)]
  · rw [m1]
    apply List.ext_getElem?
    intro x
    by_cases hx : x < needN b.length
    · rw [rd_get hx, set_get y _ (by rw [a1]; omega), if_neg (fun h => sec_out (p := jl) (q := jl + 1 + m) (n := n) (x := x) (by omega) (by omega) (by omega)), c2 x (by rw [hwl]; exact hx), ← getD_some 0 (show x < (packW b (needN b.length)).length by rw [hwl]; exact hx)]
    · rw [List.getElem?_eq_none (by rw [rd_len]; omega), List.getElem?_eq_none (by rw [hwl]; omega)]
end

end Go.Proofs.Ytnlclchlnngdnaa.Pure
