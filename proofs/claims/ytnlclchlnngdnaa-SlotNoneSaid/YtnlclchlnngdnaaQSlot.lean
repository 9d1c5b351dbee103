/- Slots: what the code's and the document's functions do, on the plain machine of a flash. -/
import Derived.Test.YtnlclchlnngdnaaQDrive4
import Derived.Test.YtnlclchlnngdnaaQWord
import Derived.Test.YtnlclchlnngdnaaFslot
import Derived.Test.YtnlclchlnngdnaaFref32
namespace Go.Proofs.Ytnlclchlnngdnaa.Pure
open Go Go.Proofs.Ytnlclchlnngdnaa.Va
set_option linter.unusedVariables false
set_option linter.unusedSimpArgs false

/-- How many chunks so many bytes take. -/
def chkF (n : Nat) (g1 t : Int) : Int := if 1 ≤ t ∧ t ≤ 4 * (n : Int) * (g1 - 1) then (t - 1) / (4 * (n : Int)) + 1 else 0
/-- How many bytes a chunk has. -/
def prtF (n : Nat) (t i : Int) : Int := imin (4 * (n : Int)) (t - i * (4 * (n : Int)))
def prts (n : Nat) (t : Int) (k : Nat) : List Int := (List.range k).map fun (i : Nat) => prtF n t (i : Int)
def ledF (g1 slot : Int) : Int := 2 + slot * g1
def chnF (g1 slot i : Int) : Int := 2 + slot * g1 + 1 + i
/-- Why a slot may not be asked. -/
def sfine (n : Nat) (g1 slot t : Int) : Int := if ¬(0 ≤ slot ∧ slot < 2) then 3 else if chkF n g1 t = 0 then 2 else 0
def cnt0 (w : List Int) : Nat := (w.takeWhile fun x => x == 0).length
def Fl.sbegin (n : Nat) (g1 : Int) (s : Fl) (slot : Int) : Int × Fl := if 0 ≤ slot ∧ slot < 2 then s.clean n (ledF g1 slot) else (3, s)
def Fl.sdone (n : Nat) (g1 : Int) (s : Fl) (slot t : Int) : Int × Int :=
  if sfine n g1 slot t ≠ 0 then (0, sfine n g1 slot t) else if (s.dread n (ledF g1 slot) 0 (chkF n g1 t)).1 ≠ 0 then (0, (s.dread n (ledF g1 slot) 0 (chkF n g1 t)).1)
  else ((cnt0 (s.dread n (ledF g1 slot) 0 (chkF n g1 t)).2 : Int), 0)
def Fl.schunk (n : Nat) (g1 : Int) (s : Fl) (slot t i : Int) (b : List Int) : Int × Fl :=
  if sfine n g1 slot t ≠ 0 then (sfine n g1 slot t, s) else if i < 0 ∨ i ≥ chkF n g1 t ∨ (b.length : Int) ≠ prtF n t i then (2, s)
  else if (s.fresh n (chnF g1 slot i) (packW b (needN b.length))).1 ≠ 0 then s.fresh n (chnF g1 slot i) (packW b (needN b.length))
  else (s.fresh n (chnF g1 slot i) (packW b (needN b.length))).2.dwrite n (ledF g1 slot) i [0]
abbrev SbX : Type := (List Int) ⊕ (Int × List Int)
/-- Chunks read from one on. -/
def Fl.sbl (n : Nat) (g1 : Int) (s : Fl) (slot t : Int) : Nat → Nat → List Int → SbX
  | 0, _, acc => .inl acc
  | m + 1, i, acc =>
    if (s.dread n (chnF g1 slot i) 0 (need (prtF n t i))).1 ≠ 0 then .inr ((s.dread n (chnF g1 slot i) 0 (need (prtF n t i))).1, acc)
    else if (bytesR (s.dread n (chnF g1 slot i) 0 (need (prtF n t i))).2 (prtF n t i)).1 ≠ 0 then .inr (12, acc)
    else s.sbl n g1 slot t m (i + 1) (acc ++ (bytesR (s.dread n (chnF g1 slot i) 0 (need (prtF n t i))).2 (prtF n t i)).2)
def Fl.sbytes (n : Nat) (g1 : Int) (s : Fl) (slot t : Int) : Int × List Int :=
  if sfine n g1 slot t ≠ 0 then (sfine n g1 slot t, []) else match s.sbl n g1 slot t (chkF n g1 t).toNat 0 [] with | .inl l => (0, l) | .inr z => (z.1, [])

theorem cnt0_le (w : List Int) : cnt0 w ≤ w.length := (List.takeWhile_sublist _).length_le
theorem cnt0_zero : ∀ (w : List Int) (i : Nat), i < cnt0 w → w[i]? = some 0
  | [], i, h => absurd h (by simp [cnt0])
  | x :: w, i, h => by
    unfold cnt0 at h
    rw [List.takeWhile_cons] at h
    by_cases hx : x = 0
    · subst hx
      cases i with
      | zero => rfl
      | succ i =>
        rw [List.getElem?_cons_succ]
        exact cnt0_zero w i (by simpa [cnt0] using h)
    · rw [if_neg (by simpa using hx)] at h
      simp at h
theorem cnt0_next : ∀ (w : List Int), cnt0 w < w.length → ∃ x, w[cnt0 w]? = some x ∧ x ≠ 0
  | [], h => absurd h (by simp)
  | x :: w, h => by
    by_cases hx : x = 0
    · subst hx
      have e : cnt0 ((0 : Int) :: w) = cnt0 w + 1 := by simp [cnt0]
      rw [e] at h ⊢
      rw [List.getElem?_cons_succ]
      exact cnt0_next w (by simpa using h)
    · have e : cnt0 (x :: w) = 0 := by simp [cnt0, hx]
      rw [e]
      exact ⟨x, rfl, hx⟩

section
variable {n : Nat} {g1 g2 g3 g4 g5 : Int} (hr : GeoR (n : Int) g1 g2 g3 g4 g5) (ok : GeoOK (n : Int) g1 g2 g3 g4 g5)
include ok
theorem prod31 : 0 ≤ 4 * (n : Int) * (g1 - 1) ∧ 4 * (n : Int) * (g1 - 1) ≤ 126976 := by
  unfold GeoOK at ok
  exact prod_bounds (m := 4096) (n := 31) (by omega) (by omega) (by omega) (by omega)
theorem chk_le (t : Int) : 0 ≤ chkF n g1 t ∧ chkF n g1 t ≤ g1 - 1 := by
  have hp := prod31 ok
  unfold GeoOK at ok
  unfold chkF
  split
  · rename_i h
    have h1 : (t - 1) / (4 * (n : Int)) < g1 - 1 := by
      rw [Int.ediv_lt_iff_lt_mul (by omega)]
      rw [Int.mul_comm (g1 - 1)]
      omega
    have h2 : 0 ≤ (t - 1) / (4 * (n : Int)) := Int.ediv_nonneg (by omega) (by omega)
    omega
  · omega
/-- A part's bounds. -/
theorem prt_le {t i : Int} (h0 : 0 ≤ i) (hi : i < chkF n g1 t) : 1 ≤ prtF n t i ∧ prtF n t i ≤ 4 * (n : Int) := by
  unfold GeoOK at ok
  unfold chkF at hi
  split at hi
  rotate_left
  · omega
  rename_i h
  have h1 : i * (4 * (n : Int)) ≤ t - 1 := by
    have := (Int.le_ediv_iff_mul_le (show 0 < 4 * (n : Int) by omega)).1 (show i ≤ (t - 1) / (4 * (n : Int)) by omega)
    exact this
  unfold prtF imin
  split <;> omega
include hr
theorem chunks_eq (t : Int) (ht : InR .i64 t) : geom_Chunks.c (n : Int) g1 g2 g3 g4 g5 t = some (chkF n g1 t) := by
  rw [geom_Chunks_eq hr ht]
  unfold chkF
  by_cases h : 1 ≤ t ∧ t ≤ 4 * (n : Int) * (g1 - 1)
  · rw [if_pos ⟨ok, h⟩, if_pos h]
  · rw [if_neg (fun g => h g.2), if_neg h]
theorem ledger_eq (slot : Int) : geom_Ledger.c (n : Int) g1 g2 g3 g4 g5 slot = some (if 0 ≤ slot ∧ slot < 2 then ledF g1 slot else -1) := by
  rw [geom_Ledger_eq hr]
  by_cases h : 0 ≤ slot ∧ slot < 2
  · rw [if_pos ⟨ok, h⟩, if_pos h]; rfl
  · rw [if_neg (fun g => h g.2), if_neg h]
theorem part_eq {t i : Int} (ht : InR .i64 t) (h0 : 0 ≤ i) (hi : i < chkF n g1 t) : geom_Part.c (n : Int) g1 g2 g3 g4 g5 t i = some (prtF n t i) := by
  have hc := hi
  unfold chkF at hc
  split at hc
  rotate_left
  · omega
  rename_i h
  rw [geom_Part_eq hr ht ok h.1 h.2 h0 hc]
  rfl
theorem part_none {t i : Int} (ht : InR .i64 t) (h : i < 0 ∨ i ≥ chkF n g1 t) : geom_Part.c (n : Int) g1 g2 g3 g4 g5 t i = some 0 := by
  simp only [geom_Part.c, geom_Part.t]
  by_cases h0 : i < 0
  · rw [bb_pos (decide_eq_true h0), Tw.run_ret]
  · rw [bb_neg (decide_eq_false h0), opt_some (chunks_eq hr ok t ht), bb_pos (decide_eq_true (by omega)), Tw.run_ret]
theorem chunk_eq {slot i : Int} (hs : 0 ≤ slot ∧ slot < 2) (h0 : 0 ≤ i) (hi : i < g1 - 1) : geom_Chunk.c (n : Int) g1 g2 g3 g4 g5 slot i = some (chnF g1 slot i) := by
  rw [geom_Chunk_eq hr, if_pos ⟨ok, hs, h0, hi⟩]
  rfl
theorem find_led {slot : Int} (hs : 0 ≤ slot ∧ slot < 2) : ref08_Find.c (n : Int) g1 g2 g3 g4 g5 1 slot 0 = some (ledF g1 slot) := by
  have ok' := ok
  unfold GeoOK at ok'
  obtain ⟨n1, rfl⟩ : ∃ n1 : Nat, g1 = (n1 : Int) := ⟨g1.toNat, by omega⟩
  obtain ⟨n2, rfl⟩ : ∃ n2 : Nat, g2 = (n2 : Int) := ⟨g2.toNat, by omega⟩
  rw [ref08_Find_eq hr, if_pos ok, Int.toNat_natCast, Int.toNat_natCast]
  have := find_ledger (n1 := n1) (n2 := n2) (by omega) slot
  rw [if_pos hs] at this
  exact congrArg some this
theorem find_chn {slot i : Int} (hs : 0 ≤ slot ∧ slot < 2) (h0 : 0 ≤ i) (hi : i < g1 - 1) : ref08_Find.c (n : Int) g1 g2 g3 g4 g5 2 slot i = some (chnF g1 slot i) := by
  have ok' := ok
  unfold GeoOK at ok'
  obtain ⟨n1, rfl⟩ : ∃ n1 : Nat, g1 = (n1 : Int) := ⟨g1.toNat, by omega⟩
  obtain ⟨n2, rfl⟩ : ∃ n2 : Nat, g2 = (n2 : Int) := ⟨g2.toNat, by omega⟩
  rw [ref08_Find_eq hr, if_pos ok, Int.toNat_natCast, Int.toNat_natCast]
  have := find_chunk (n1 := n1) (n2 := n2) (by omega) slot i
  rw [if_pos ⟨hs, h0, hi⟩] at this
  exact congrArg some this
theorem parts_eq (t : Int) (ht : InR .i64 t) : ref08_Parts.c (n : Int) g1 g2 g3 g4 g5 t = some (prts n t (chkF n g1 t).toNat) := by
  have hp := prod31 ok
  have hc := chk_le ok t
  have ok' := ok
  unfold GeoOK at ok'
  have hti := ht.i64
  simp only [ref08_Parts.c, ref08_Parts.t]
  rw [opt_some (ref08_Right_eq hr), decide_eq_true ok, bb_neg (by rfl)]
  by_cases h1 : t < 1
  · have e : chkF n g1 t = 0 := by unfold chkF; rw [if_neg (by omega)]
    rw [bb_pos (decide_eq_true h1), Tw.run_ret, e]
    rfl
  have ew : w64 (w64 (4 * (n : Int)) * w64 (g1 - 1)) = 4 * (n : Int) * (g1 - 1) := by rw [w64_of (n := 4 * (n : Int)) (by omega) (by omega), w64_of (n := g1 - 1) (by omega) (by omega), w64_of (by omega) (by omega)]
  rw [bb_neg (decide_eq_false h1), ew]
  by_cases h2 : t > 4 * (n : Int) * (g1 - 1)
  · have e : chkF n g1 t = 0 := by unfold chkF; rw [if_neg (by omega)]
    rw [bb_pos (decide_eq_true h2), Tw.run_ret, e]
    rfl
  have e : chkF n g1 t = (t - 1) / (4 * (n : Int)) + 1 := by unfold chkF; rw [if_pos (by omega)]
  have h4 : w64 (4 * (n : Int)) = 4 * (n : Int) := w64_of (by omega) (by omega)
  obtain ⟨k, hk⟩ := Int.eq_ofNat_of_zero_le hc.1
  have hq0 : 0 ≤ (t - 1) / (4 * (n : Int)) := Int.ediv_nonneg (by omega) (by omega)
  have hL : ref08_Parts.L4 t (n : Int) g1 g2 g3 g4 g5 [] = some (prts n t k) := by
    unfold ref08_Parts.L4
    have hdm := Int.mul_ediv_add_emod (t - 1) (4 * (n : Int))
    have hm := Int.emod_lt_of_pos (t - 1) (show 0 < 4 * (n : Int) by omega)
    have hm0 := Int.emod_nonneg (t - 1) (show 4 * (n : Int) ≠ 0 by omega)
    have hq : (t - 1) / (4 * (n : Int)) = (k : Int) - 1 := by omega
    rw [hq] at hdm
    have key := Lp_seq (fun z : Int × List Int => (ref08_Parts.l4 (n : Int) g1 g2 g3 g4 g5 z.1 z.2).run) (fun i : Nat => (if i < k then t - (i : Int) * (4 * (n : Int)) else 0, prts n t i)) (x := prts n t k) k 0 (fun i _ hi => by
      have hi : i < k := by omega
      have hpl := prt_le ok (t := t) (i := (i : Int)) (by omega) (by omega)
      have hlen : (prts n t i).length = i := by simp [prts]
      have hib : (i : Int) * (4 * (n : Int)) ≤ ((k : Int) - 1) * (4 * (n : Int)) := Int.mul_le_mul_of_nonneg_right (by omega) (by omega)
      have hib2 : 0 ≤ (i : Int) * (4 * (n : Int)) := Int.mul_nonneg (by omega) (by omega)
      rw [Int.mul_comm ((k : Int) - 1)] at hib
      have hrem : 0 < t - (i : Int) * (4 * (n : Int)) := by omega
      have hmin : imin (t - (i : Int) * (4 * (n : Int))) (4 * (n : Int)) = prtF n t (i : Int) := by unfold prtF imin; split <;> split <;> omega
      simp only [ref08_Parts.l4]
      rw [if_pos hi, h4, hmin, bb_pos (decide_eq_true hrem), dd_pos (by rw [hlen]; simp only [List.length_cons, List.length_nil]; omega), Tw.run_ret]
      have e1 : prts n t i ++ [prtF n t (i : Int)] = prts n t (i + 1) := by simp [prts, List.range_succ]
      have e2 : w64 (t - (i : Int) * (4 * (n : Int)) - prtF n t (i : Int)) = if i + 1 < k then t - ((i + 1 : Nat) : Int) * (4 * (n : Int)) else 0 := by
        rw [w64_of (by omega) (by omega)]
        have e3 : ((i + 1 : Nat) : Int) * (4 * (n : Int)) = (i : Int) * (4 * (n : Int)) + 4 * (n : Int) := by push_cast; rw [Int.add_mul, Int.one_mul]
        by_cases hl : i + 1 < k
        · have hib3 : ((i + 1 : Nat) : Int) * (4 * (n : Int)) ≤ ((k : Int) - 1) * (4 * (n : Int)) := Int.mul_le_mul_of_nonneg_right (by omega) (by omega)
          rw [Int.mul_comm ((k : Int) - 1)] at hib3
          rw [if_pos hl, e3]
          unfold prtF imin
          split <;> omega
        · have hik : (i : Int) = (k : Int) - 1 := by omega
          rw [if_neg hl]
          have : (i : Int) * (4 * (n : Int)) = 4 * (n : Int) * ((k : Int) - 1) := by rw [hik, Int.mul_comm]
          unfold prtF imin
          split <;> omega
      rw [e1, e2]) (by
      simp only [ref08_Parts.l4, Nat.zero_add]
      rw [if_neg (by omega), bb_neg (by simp), Tw.run_ret])
    have e0 : (if 0 < k then t - ((0 : Nat) : Int) * (4 * (n : Int)) else 0) = t := by rw [if_pos (by omega)]; simp
    rw [e0] at key
    exact key
  rw [bb_neg (decide_eq_false h2), opt_some hL, Tw.run_ret, hk]
  rfl
omit hr ok in
theorem prts_get {t : Int} {k i : Nat} (h : i < k) : (prts n t k)[i]? = some (prtF n t (i : Int)) := by simp [prts, h]

variable {s : Fl} (hs : FlOK n s) (hv : (s.V.length : Int) = 2 + 2 * g1 + g2)
omit hs hv in
theorem slot_fine_eq (slot t : Int) (ht : InR .i64 t) : slot_fine_v2.c slot t (n : Int) g1 g2 g3 g4 g5 (n : Int) s.C s.D s.A s.W s.V s.M = some (sfine n g1 slot t) := by
  have ok' := ok
  unfold GeoOK at ok'
  simp only [slot_fine_v2.c, slot_fine_v2.t]
  unfold sfine
  rw [opt_some (x := ()) (by rfl), opt_some (ledger_eq hr ok slot)]
  by_cases h : 0 ≤ slot ∧ slot < 2
  · have hl : 0 ≤ slot * g1 := Int.mul_nonneg h.1 (by omega)
    rw [if_pos h, if_neg (by omega), bb_neg (decide_eq_false (by unfold ledF; omega)), opt_some (chunks_eq hr ok t ht)]
    by_cases hc : chkF n g1 t = 0
    · rw [bb_pos (by simpa using hc), Tw.run_ret, if_pos hc]
    · rw [bb_neg (by simpa using hc), Tw.run_ret, if_neg hc]
  · rw [if_neg h, if_pos h, bb_pos (by rfl), Tw.run_ret]
omit hs hv in
theorem ref32_bad_eq (slot t : Int) (ht : InR .i64 t) : ref32_bad_v2.c slot t (n : Int) g1 g2 g3 g4 g5 (n : Int) s.C s.D s.A s.W s.V s.M = some (sfine n g1 slot t) := by
  have hc := chk_le ok t
  simp only [ref32_bad_v2.c, ref32_bad_v2.t]
  unfold sfine
  by_cases h0 : slot < 0
  · rw [bb_pos (decide_eq_true h0), Tw.run_ret, if_pos (by omega)]
  by_cases h1 : slot > 1
  · rw [bb_neg (decide_eq_false h0), bb_pos (decide_eq_true h1), Tw.run_ret, if_pos (by omega)]
  rw [bb_neg (decide_eq_false h0), bb_neg (decide_eq_false h1), opt_some (parts_eq hr ok t ht), if_neg (by omega)]
  have hl : (prts n t (chkF n g1 t).toNat).length = (chkF n g1 t).toNat := by simp [prts]
  rw [hl]
  by_cases hz : chkF n g1 t = 0
  · rw [bb_pos (by rw [hz]; rfl), Tw.run_ret, if_pos hz]
  · rw [bb_neg (by rw [beq_eq_false_iff_ne]; omega), Tw.run_ret, if_neg hz]
include hs hv
theorem slot_Begin_eq (slot : Int) : slot_Begin_v2.c slot (n : Int) g1 g2 g3 g4 g5 (n : Int) s.C s.D s.A s.W s.V s.M = some ((s.sbegin n g1 slot).1, s5 (s.sbegin n g1 slot).2) := by
  have ok' := ok
  unfold GeoOK at ok'
  have hp : 1 ≤ 4 * (n : Int) * (g1 - 1) := by
    have := Int.mul_le_mul (show (4 : Int) ≤ 4 * (n : Int) by omega) (show (1 : Int) ≤ g1 - 1 by omega) (by omega) (by omega)
    omega
  have hc : chkF n g1 1 = 1 := by
    unfold chkF
    rw [if_pos ⟨by omega, hp⟩]
    simp
  simp only [slot_Begin_v2.c, slot_Begin_v2.t]
  rw [opt_some (slot_fine_eq hr ok slot 1 (inR_i64 (by decide)))]
  unfold Fl.sbegin sfine
  by_cases h : 0 ≤ slot ∧ slot < 2
  · rw [if_neg (by omega), hc, if_neg (by decide), if_pos h, bb_neg (by rfl), opt_some (x := ()) (by rfl), opt_some (ledger_eq hr ok slot), if_pos h, opt_some (drive_Clean_eq hr ok hs hv), Tw.run_ret]
  · rw [if_pos h, if_neg h, bb_pos (by rfl), Tw.run_ret]
    rfl
theorem ref32_Begin_eq (slot : Int) : ref32_Begin_v2.c slot (n : Int) g1 g2 g3 g4 g5 (n : Int) s.C s.D s.A s.W s.V s.M = some ((s.sbegin n g1 slot).1, s5 (s.sbegin n g1 slot).2) := by
  simp only [ref32_Begin_v2.c, ref32_Begin_v2.t]
  unfold Fl.sbegin
  by_cases h0 : slot < 0
  · rw [bb_pos (decide_eq_true h0), Tw.run_ret, if_neg (by omega)]
    rfl
  by_cases h1 : slot > 1
  · rw [bb_neg (decide_eq_false h0), bb_pos (decide_eq_true h1), Tw.run_ret, if_neg (by omega)]
    rfl
  rw [bb_neg (decide_eq_false h0), bb_neg (decide_eq_false h1), if_pos (by omega), opt_some (find_led hr ok (by omega)), opt_some (ref09_Clean_eq hr ok hs hv), Tw.run_ret]
theorem slot_Done_eq (slot t : Int) (ht : InR .i64 t) : slot_Done_v2.c slot t (n : Int) g1 g2 g3 g4 g5 (n : Int) s.C s.D s.A s.W s.V s.M = some (s.sdone n g1 slot t) := by
  simp only [slot_Done_v2.c, slot_Done_v2.t]
  rw [opt_some (slot_fine_eq hr ok slot t ht)]
  unfold Fl.sdone
  by_cases hf : sfine n g1 slot t = 0
  rotate_left
  · rw [bb_pos (by simpa using hf), Tw.run_ret, if_pos hf]
  have hsl : 0 ≤ slot ∧ slot < 2 := by
    unfold sfine at hf
    split at hf
    · cases hf
    · omega
  rw [bb_neg (by simpa using hf), if_neg (by simpa using hf), opt_some (x := ()) (by rfl), opt_some (ledger_eq hr ok slot), if_pos hsl, opt_some (chunks_eq hr ok t ht), opt_some (drive_Read_eq hr ok hs hv (inR_i64 (by decide)))]
  have hll := dread_len (k := ledF g1 slot) (at_ := 0) (c := chkF n g1 t) hs
  generalize s.dread n (ledF g1 slot) 0 (chkF n g1 t) = r at *
  by_cases he : r.1 = 0
  rotate_left
  · rw [bb_pos (by simpa using he), Tw.run_ret, if_pos he]
  rw [bb_neg (by simpa using he), if_neg (by simpa using he)]
  have hle := cnt0_le r.2
  have hL : slot_Done_v2.L9 (r.2.length : Int) 0 (n : Int) g1 g2 g3 g4 g5 (n : Int) s.C s.D s.A s.W s.V s.M r.2 = some (if cnt0 r.2 < r.2.length then .inr ((cnt0 r.2 : Int), 0) else .inl ()) := by
    unfold slot_Done_v2.L9
    refine Lp_seq _ (fun i : Nat => (i : Int)) (cnt0 r.2) 0 (fun i _ hi => ?_) ?_
    · have hz := cnt0_zero r.2 i (by omega)
      simp only [slot_Done_v2.l9]
      rw [bb_pos (decide_eq_true (by omega)), dd_pos (by omega), Int.toNat_natCast, opt_some hz, bb_neg (by rfl), Tw.run_ret, w64_of (by omega) (by omega)]
      rfl
    · simp only [slot_Done_v2.l9, Nat.zero_add]
      by_cases hlt : cnt0 r.2 < r.2.length
      · obtain ⟨x, hx, hx0⟩ := cnt0_next r.2 hlt
        rw [bb_pos (decide_eq_true (by omega)), dd_pos (by omega), Int.toNat_natCast, opt_some hx, bb_pos (by simpa using hx0), Tw.run_ret, if_pos hlt]
      · rw [bb_neg (decide_eq_false (by omega)), Tw.run_ret, if_neg hlt]
  rw [opt_some hL]
  by_cases hlt : cnt0 r.2 < r.2.length
  · rw [if_pos hlt, sm_inr, Tw.run_ret]
  · rw [if_neg hlt, sm_inl, Tw.run_ret, show cnt0 r.2 = r.2.length by omega]
theorem ref32_Done_eq (slot t : Int) (ht : InR .i64 t) : ref32_Done_v2.c slot t (n : Int) g1 g2 g3 g4 g5 (n : Int) s.C s.D s.A s.W s.V s.M = some (s.sdone n g1 slot t) := by
  have hc := chk_le ok t
  simp only [ref32_Done_v2.c, ref32_Done_v2.t]
  rw [opt_some (ref32_bad_eq hr ok slot t ht)]
  unfold Fl.sdone
  by_cases hf : sfine n g1 slot t = 0
  rotate_left
  · rw [bb_pos (by simpa using hf), Tw.run_ret, if_pos hf]
  have hsl : 0 ≤ slot ∧ slot < 2 := by
    unfold sfine at hf
    split at hf
    · cases hf
    · omega
  have hpl : (((prts n t (chkF n g1 t).toNat).length : Nat) : Int) = chkF n g1 t := by simp [prts]; omega
  rw [bb_neg (by simpa using hf), if_neg (by simpa using hf), opt_some (find_led hr ok hsl), opt_some (parts_eq hr ok t ht), hpl, opt_some (ref09_Read_eq hr ok hs hv (inR_i64 (by decide)))]
  have hll := dread_len (k := ledF g1 slot) (at_ := 0) (c := chkF n g1 t) hs
  have hbad : (s.dread n (ledF g1 slot) 0 (chkF n g1 t)).1 ≠ 0 → (s.dread n (ledF g1 slot) 0 (chkF n g1 t)).2 = [] := by
    unfold Fl.dread
    split
    · intro _; rfl
    · intro h; exact absurd rfl h
  generalize s.dread n (ledF g1 slot) 0 (chkF n g1 t) = r at *
  have hle := cnt0_le r.2
  have hL : ref32_Done_v2.L6 r.1 0 (n : Int) g1 g2 g3 g4 g5 (n : Int) s.C s.D s.A s.W s.V s.M r.2 = some ((cnt0 r.2 : Nat) : Int) := by
    unfold ref32_Done_v2.L6
    refine Lp_seq _ (fun i : Nat => (i : Int)) (cnt0 r.2) 0 (fun i _ hi => ?_) ?_
    · have hz := cnt0_zero r.2 i (by omega)
      simp only [ref32_Done_v2.l6]
      rw [bb_pos (decide_eq_true (by omega)), dd_pos (by omega), Int.toNat_natCast, opt_some hz, bb_pos (by rfl), Tw.run_ret, w64_of (by omega) (by omega)]
      rfl
    · simp only [ref32_Done_v2.l6, Nat.zero_add]
      by_cases hlt : cnt0 r.2 < r.2.length
      · obtain ⟨x, hx, hx0⟩ := cnt0_next r.2 hlt
        rw [bb_pos (decide_eq_true (by omega)), dd_pos (by omega), Int.toNat_natCast, opt_some hx, bb_neg (by simpa using hx0), Tw.run_ret]
      · rw [bb_neg (decide_eq_false (by omega)), Tw.run_ret]
  rw [opt_some hL, Tw.run_ret]
  by_cases he : r.1 = 0
  · rw [if_neg (by simpa using he), he]
  · rw [if_pos he, hbad he]
    rfl
theorem slot_Chunk_eq (slot t i : Int) {b : List Int} (ht : InR .i64 t) (hi : InR .i64 i) (hb : Bytes b) (hbl : b.length ≤ 1000) : slot_Chunk_v2.c slot t i b (n : Int) g1 g2 g3 g4 g5 (n : Int) s.C s.D s.A s.W s.V s.M = some ((s.schunk n g1 slot t i b).1, s5 (s.schunk n g1 slot t i b).2) := by
  have rb := reach_eq
  have hc := chk_le ok t
  have hw := packW_words hb (needN b.length)
  have hw0 : Words [0] := words_cons (inR_u32 (by decide)) words_nil
  simp only [slot_Chunk_v2.c, slot_Chunk_v2.t]
  rw [opt_some (slot_fine_eq hr ok slot t ht)]
  unfold Fl.schunk
  by_cases hf : sfine n g1 slot t = 0
  rotate_left
  · rw [bb_pos (by simpa using hf), Tw.run_ret, if_pos hf]
    rfl
  have hsl : 0 ≤ slot ∧ slot < 2 := by
    unfold sfine at hf
    split at hf
    · cases hf
    · omega
  rw [bb_neg (by simpa using hf), if_neg (by simpa using hf), opt_some (x := ()) (by rfl)]
  by_cases hb1 : i < 0 ∨ i ≥ chkF n g1 t
  · rw [opt_some (part_none hr ok ht hb1), bb_pos (by rfl), Tw.run_ret, if_pos (by omega)]
    rfl
  have hpl := prt_le ok (t := t) (i := i) (by omega) (by omega)
  rw [opt_some (part_eq hr ok ht (by omega) (by omega)), bb_neg (by rw [beq_eq_false_iff_ne]; omega)]
  by_cases hb2 : (b.length : Int) = prtF n t i
  rotate_left
  · rw [bb_pos (by rw [bne_iff_ne]; omega), Tw.run_ret, if_pos (by omega)]
    rfl
  rw [bb_neg (by rw [hb2]; simp), if_neg (by omega), opt_some (chunk_eq hr ok hsl (by omega) (by omega)), opt_some (word_Pack_eq hb (by omega)), opt_some (drive_Fresh_eq hr ok hs hv hw)]
  have hfo := fresh_ok hs (chnF g1 slot i) hw
  generalize s.fresh n (chnF g1 slot i) (packW b (needN b.length)) = r at *
  by_cases he : r.1 = 0
  rotate_left
  · rw [bb_pos (by simpa using he), Tw.run_ret, if_pos he]
  have hwr := drive_Write_eq hr ok hfo.1 (by rw [hfo.2.1]; exact hv) (k := ledF g1 slot) hi hw0
  have hwo := dwrite_ok hfo.1 (ledF g1 slot) i hw0
  rw [hfo.2.2] at hwr
  rw [bb_neg (by simpa using he), if_neg (by simpa using he), opt_some (ledger_eq hr ok slot), if_pos hsl, opt_some (x := ((r.2.dwrite n (ledF g1 slot) i [0]).1, s4 (r.2.dwrite n (ledF g1 slot) i [0]).2)) (by exact hwr), Tw.run_ret]
  unfold s5 s4
  rw [hwo.2.1]
theorem ref32_Chunk_eq (slot t i : Int) {b : List Int} (ht : InR .i64 t) (hi : InR .i64 i) (hb : Bytes b) (hbl : b.length ≤ 1000) : ref32_Chunk_v2.c slot t i b (n : Int) g1 g2 g3 g4 g5 (n : Int) s.C s.D s.A s.W s.V s.M = some ((s.schunk n g1 slot t i b).1, s5 (s.schunk n g1 slot t i b).2) := by
  have rb := reach_eq
  have hc := chk_le ok t
  have hw := packW_words hb (needN b.length)
  have hw0 : Words [0] := words_cons (inR_u32 (by decide)) words_nil
  simp only [ref32_Chunk_v2.c, ref32_Chunk_v2.t]
  rw [opt_some (ref32_bad_eq hr ok slot t ht)]
  unfold Fl.schunk
  by_cases hf : sfine n g1 slot t = 0
  rotate_left
  · rw [bb_pos (by simpa using hf), Tw.run_ret, if_pos hf]
    rfl
  have hsl : 0 ≤ slot ∧ slot < 2 := by
    unfold sfine at hf
    split at hf
    · cases hf
    · omega
  have hpl : (((prts n t (chkF n g1 t).toNat).length : Nat) : Int) = chkF n g1 t := by simp [prts]; omega
  rw [bb_neg (by simpa using hf), if_neg (by simpa using hf), opt_some (parts_eq hr ok t ht)]
  by_cases h0 : i < 0
  · rw [bb_pos (decide_eq_true h0), Tw.run_ret, if_pos (by omega)]
    rfl
  by_cases h1 : i ≥ chkF n g1 t
  · rw [bb_neg (decide_eq_false h0), bb_pos (decide_eq_true (by omega)), Tw.run_ret, if_pos (by omega)]
    rfl
  obtain ⟨j, rfl⟩ := Int.eq_ofNat_of_zero_le (show 0 ≤ i by omega)
  have hj : j < (chkF n g1 t).toNat := by omega
  rw [bb_neg (decide_eq_false h0), bb_neg (decide_eq_false (by omega)), dd_pos (by omega), Int.toNat_natCast, opt_some (prts_get hj)]
  by_cases hb2 : (b.length : Int) = prtF n t (j : Int)
  rotate_left
  · rw [bb_pos (by rw [bne_iff_ne]; omega), Tw.run_ret, if_pos (by omega)]
    rfl
  rw [bb_neg (by rw [hb2]; simp), if_neg (by omega), opt_some (find_chn hr ok hsl (by omega) (by omega)), opt_some (ref01_Pack_eq hb (by omega)), opt_some (ref09_Fresh_eq hr ok hs hv hw)]
  have hfo := fresh_ok hs (chnF g1 slot (j : Int)) hw
  generalize s.fresh n (chnF g1 slot (j : Int)) (packW b (needN b.length)) = r at *
  by_cases he : r.1 = 0
  rotate_left
  · rw [bb_pos (by simpa using he), Tw.run_ret, if_pos he]
  have hwr := ref09_Write_eq hr ok hfo.1 (by rw [hfo.2.1]; exact hv) (k := ledF g1 slot) hi hw0
  have hwo := dwrite_ok hfo.1 (ledF g1 slot) (j : Int) hw0
  rw [hfo.2.2] at hwr
  rw [bb_neg (by simpa using he), if_neg (by simpa using he), opt_some (find_led hr ok hsl), opt_some (x := ((r.2.dwrite n (ledF g1 slot) (j : Int) [0]).1, s4 (r.2.dwrite n (ledF g1 slot) (j : Int) [0]).2)) (by exact hwr), Tw.run_ret]
  unfold s5 s4
  rw [hwo.2.1]
omit hr ok hs hv in
theorem bytesR_len (w : List Int) (m : Int) : ((bytesR w m).2.length : Int) ≤ max m 0 := by
  unfold bytesR
  repeat' split
  all_goals simp [bytesW]
  all_goals omega
omit hr ok hs hv in
theorem need_in {m : Int} (h1 : 1 ≤ m) (h2 : m ≤ 4 * (n : Int)) : 0 ≤ need m ∧ need m ≤ (n : Int) := by
  unfold need
  rw [if_neg (by omega)]
  omega
theorem slot_Bytes_L7 (slot t : Int) (ht : InR .i64 t) (hsl : 0 ≤ slot ∧ slot < 2) : ∀ (m i : Nat) (acc : List Int), ((i + m : Nat) : Int) = chkF n g1 t → acc.length ≤ 4096 * i →
    slot_Bytes_v2.L7 slot t (chkF n g1 t) (i : Int) (n : Int) g1 g2 g3 g4 g5 (n : Int) s.C s.D s.A s.W s.V s.M (n : Int) g1 g2 g3 g4 g5 acc = some (s.sbl n g1 slot t m i acc) := by
  have rb := reach_eq
  have hc := chk_le ok t
  have ok' := ok
  unfold GeoOK at ok'
  intro m
  induction m with
  | zero =>
    intro i acc hi ha
    unfold slot_Bytes_v2.L7
    refine Lp_end ?_
    simp only [slot_Bytes_v2.l7]
    rw [bb_neg (decide_eq_false (by omega)), Tw.run_ret]
    rfl
  | succ m ih =>
    intro i acc hi ha
    have hpl := prt_le ok (t := t) (i := (i : Int)) (by omega) (by omega)
    have hnd := need_in hpl.1 hpl.2
    have hip : InR .i64 (prtF n t (i : Int)) := inR_i64 (by omega)
    have step : (slot_Bytes_v2.l7 slot t (chkF n g1 t) (n : Int) g1 g2 g3 g4 g5 (n : Int) s.C s.D s.A s.W s.V s.M (n : Int) g1 g2 g3 g4 g5 (i : Int) acc).run = some (
        if (s.dread n (chnF g1 slot i) 0 (need (prtF n t i))).1 ≠ 0 then .inr (.inr ((s.dread n (chnF g1 slot i) 0 (need (prtF n t i))).1, acc))
        else if (bytesR (s.dread n (chnF g1 slot i) 0 (need (prtF n t i))).2 (prtF n t i)).1 ≠ 0 then .inr (.inr (12, acc))
        else .inl (((i + 1 : Nat) : Int), acc ++ (bytesR (s.dread n (chnF g1 slot i) 0 (need (prtF n t i))).2 (prtF n t i)).2)) := by
      simp only [slot_Bytes_v2.l7]
      rw [bb_pos (decide_eq_true (by omega)), opt_some (part_eq hr ok ht (by omega) (by omega)), opt_some (chunk_eq hr ok hsl (by omega) (by omega)), opt_some (word_Need_eq _ hip), opt_some (drive_Read_eq hr ok hs hv (inR_i64 (by decide)))]
      have hll := dread_len (k := chnF g1 slot i) (at_ := 0) (c := need (prtF n t i)) hs
      have hlw : Words (s.dread n (chnF g1 slot i) 0 (need (prtF n t i))).2 := by
        unfold Fl.dread
        split
        · exact words_nil
        · exact rd_words hs.w _ _
      generalize s.dread n (chnF g1 slot i) 0 (need (prtF n t i)) = r at *
      by_cases he : r.1 = 0
      rotate_left
      · rw [bb_pos (by simpa using he), Tw.run_ret, if_pos he]
      rw [bb_neg (by simpa using he), if_neg (by simpa using he), opt_some (word_Bytes_eq hlw (by omega) hip)]
      have hbl := bytesR_len r.2 (prtF n t i)
      generalize bytesR r.2 (prtF n t i) = q at *
      by_cases hq : q.1 = 0
      rotate_left
      · rw [bb_pos (by simpa using hq), Tw.run_ret, if_pos hq]
      rw [bb_neg (by simpa using hq), if_neg (by simpa using hq), dd_pos (by omega), Tw.run_ret, w64_of (by omega) (by omega)]
      rfl
    show slot_Bytes_v2.L7 slot t (chkF n g1 t) (i : Int) (n : Int) g1 g2 g3 g4 g5 (n : Int) s.C s.D s.A s.W s.V s.M (n : Int) g1 g2 g3 g4 g5 acc = some (
        if (s.dread n (chnF g1 slot i) 0 (need (prtF n t i))).1 ≠ 0 then .inr ((s.dread n (chnF g1 slot i) 0 (need (prtF n t i))).1, acc)
        else if (bytesR (s.dread n (chnF g1 slot i) 0 (need (prtF n t i))).2 (prtF n t i)).1 ≠ 0 then .inr (12, acc)
        else s.sbl n g1 slot t m (i + 1) (acc ++ (bytesR (s.dread n (chnF g1 slot i) 0 (need (prtF n t i))).2 (prtF n t i)).2))
    unfold slot_Bytes_v2.L7
    by_cases he : (s.dread n (chnF g1 slot i) 0 (need (prtF n t i))).1 = 0
    rotate_left
    · rw [if_pos he] at step ⊢
      exact Lp_end step
    rw [if_neg (by simpa using he)] at step ⊢
    by_cases hq : (bytesR (s.dread n (chnF g1 slot i) 0 (need (prtF n t i))).2 (prtF n t i)).1 = 0
    rotate_left
    · rw [if_pos hq] at step ⊢
      exact Lp_end step
    rw [if_neg (by simpa using hq)] at step ⊢
    have hbl := bytesR_len (s.dread n (chnF g1 slot i) 0 (need (prtF n t i))).2 (prtF n t i)
    rw [Lp_next step]
    exact ih (i + 1) _ (by omega) (by rw [List.length_append]; omega)
theorem slot_Bytes_eq (slot t : Int) (ht : InR .i64 t) : slot_Bytes_v2.c slot t (n : Int) g1 g2 g3 g4 g5 (n : Int) s.C s.D s.A s.W s.V s.M = some (s.sbytes n g1 slot t) := by
  have hc := chk_le ok t
  have hp := prod31 ok
  simp only [slot_Bytes_v2.c, slot_Bytes_v2.t]
  rw [opt_some (slot_fine_eq hr ok slot t ht)]
  unfold Fl.sbytes
  by_cases hf : sfine n g1 slot t = 0
  rotate_left
  · rw [bb_pos (by simpa using hf), Tw.run_ret, if_pos hf]
  have hsl : (0 ≤ slot ∧ slot < 2) ∧ chkF n g1 t ≠ 0 := by
    unfold sfine at hf
    split at hf
    · cases hf
    · split at hf
      · cases hf
      · omega
  have htt : 1 ≤ t ∧ t ≤ 4 * (n : Int) * (g1 - 1) := by
    have := hsl.2
    unfold chkF at this
    split at this
    · assumption
    · exact absurd rfl this
  have hL := slot_Bytes_L7 hr ok hs hv slot t ht hsl.1 (chkF n g1 t).toNat 0 [] (by omega) (by simp)
  rw [show ((0 : Nat) : Int) = 0 from rfl] at hL
  rw [bb_neg (by simpa using hf), if_neg (by simpa using hf), opt_some (x := ()) (by rfl), dd_pos (by omega), opt_some (chunks_eq hr ok t ht), show (List.replicate (Int.toNat (0 : Int)) (0 : Int)) = [] from rfl, opt_some hL]
  cases s.sbl n g1 slot t (chkF n g1 t).toNat 0 [] with
  | inl l => rw [sm_inl, Tw.run_ret]
  | inr z => rw [sm_inr, Tw.run_ret]
theorem ref32_Bytes_L7 (slot t : Int) (ht : InR .i64 t) (hsl : 0 ≤ slot ∧ slot < 2) : ∀ (m i : Nat) (acc : List Int), ((i + m : Nat) : Int) = chkF n g1 t → acc.length ≤ 4096 * i →
    ref32_Bytes_v2.L7 slot (i : Int) (n : Int) g1 g2 g3 g4 g5 (n : Int) s.C s.D s.A s.W s.V s.M (prts n t (chkF n g1 t).toNat) acc = some (s.sbl n g1 slot t m i acc) := by
  have rb := reach_eq
  have hc := chk_le ok t
  have ok' := ok
  unfold GeoOK at ok'
  have hpp : (((prts n t (chkF n g1 t).toNat).length : Nat) : Int) = chkF n g1 t := by simp [prts]; omega
  intro m
  induction m with
  | zero =>
    intro i acc hi ha
    unfold ref32_Bytes_v2.L7
    refine Lp_end ?_
    simp only [ref32_Bytes_v2.l7]
    rw [bb_neg (decide_eq_false (by omega)), Tw.run_ret]
    rfl
  | succ m ih =>
    intro i acc hi ha
    have hpl := prt_le ok (t := t) (i := (i : Int)) (by omega) (by omega)
    have hnd := need_in hpl.1 hpl.2
    have hip : InR .i64 (prtF n t (i : Int)) := inR_i64 (by omega)
    have hget := prts_get (n := n) (t := t) (k := (chkF n g1 t).toNat) (i := i) (by omega)
    have step : (ref32_Bytes_v2.l7 slot (n : Int) g1 g2 g3 g4 g5 (n : Int) s.C s.D s.A s.W s.V s.M (prts n t (chkF n g1 t).toNat) (i : Int) acc).run = some (
        if (s.dread n (chnF g1 slot i) 0 (need (prtF n t i))).1 ≠ 0 then .inr (.inr ((s.dread n (chnF g1 slot i) 0 (need (prtF n t i))).1, acc))
        else if (bytesR (s.dread n (chnF g1 slot i) 0 (need (prtF n t i))).2 (prtF n t i)).1 ≠ 0 then .inr (.inr (12, acc))
        else .inl (((i + 1 : Nat) : Int), acc ++ (bytesR (s.dread n (chnF g1 slot i) 0 (need (prtF n t i))).2 (prtF n t i)).2)) := by
      simp only [ref32_Bytes_v2.l7]
      rw [bb_pos (decide_eq_true (by omega)), opt_some (find_chn hr ok hsl (by omega) (by omega)), dd_pos (by omega), Int.toNat_natCast, opt_some hget, opt_some (ref01_Need_eq _ hip), opt_some (ref09_Read_eq hr ok hs hv (inR_i64 (by decide)))]
      have hll := dread_len (k := chnF g1 slot i) (at_ := 0) (c := need (prtF n t i)) hs
      have hlw : Words (s.dread n (chnF g1 slot i) 0 (need (prtF n t i))).2 := by
        unfold Fl.dread
        split
        · exact words_nil
        · exact rd_words hs.w _ _
      generalize s.dread n (chnF g1 slot i) 0 (need (prtF n t i)) = r at *
      by_cases he : r.1 = 0
      rotate_left
      · rw [bb_pos (by simpa using he), Tw.run_ret, if_pos he]
      rw [bb_neg (by simpa using he), if_neg (by simpa using he), dd_pos (by omega), opt_some hget, opt_some (ref01_Bytes_eq hlw (by omega) hip)]
      have hbl := bytesR_len r.2 (prtF n t i)
      generalize bytesR r.2 (prtF n t i) = q at *
      by_cases hq : q.1 = 0
      rotate_left
      · rw [bb_pos (by simpa using hq), Tw.run_ret, if_pos hq]
      rw [bb_neg (by simpa using hq), if_neg (by simpa using hq), dd_pos (by simp only; omega), Tw.run_ret, w64_of (by omega) (by omega)]
      rfl
    show ref32_Bytes_v2.L7 slot (i : Int) (n : Int) g1 g2 g3 g4 g5 (n : Int) s.C s.D s.A s.W s.V s.M (prts n t (chkF n g1 t).toNat) acc = some (
        if (s.dread n (chnF g1 slot i) 0 (need (prtF n t i))).1 ≠ 0 then .inr ((s.dread n (chnF g1 slot i) 0 (need (prtF n t i))).1, acc)
        else if (bytesR (s.dread n (chnF g1 slot i) 0 (need (prtF n t i))).2 (prtF n t i)).1 ≠ 0 then .inr (12, acc)
        else s.sbl n g1 slot t m (i + 1) (acc ++ (bytesR (s.dread n (chnF g1 slot i) 0 (need (prtF n t i))).2 (prtF n t i)).2))
    unfold ref32_Bytes_v2.L7
    by_cases he : (s.dread n (chnF g1 slot i) 0 (need (prtF n t i))).1 = 0
    rotate_left
    · rw [if_pos he] at step ⊢
      exact Lp_end step
    rw [if_neg (by simpa using he)] at step ⊢
    by_cases hq : (bytesR (s.dread n (chnF g1 slot i) 0 (need (prtF n t i))).2 (prtF n t i)).1 = 0
    rotate_left
    · rw [if_pos hq] at step ⊢
      exact Lp_end step
    rw [if_neg (by simpa using hq)] at step ⊢
    have hbl := bytesR_len (s.dread n (chnF g1 slot i) 0 (need (prtF n t i))).2 (prtF n t i)
    rw [Lp_next step]
    exact ih (i + 1) _ (by omega) (by rw [List.length_append]; omega)
theorem ref32_Bytes_eq (slot t : Int) (ht : InR .i64 t) : ref32_Bytes_v2.c slot t (n : Int) g1 g2 g3 g4 g5 (n : Int) s.C s.D s.A s.W s.V s.M = some (s.sbytes n g1 slot t) := by
  have hc := chk_le ok t
  simp only [ref32_Bytes_v2.c, ref32_Bytes_v2.t]
  rw [opt_some (ref32_bad_eq hr ok slot t ht)]
  unfold Fl.sbytes
  by_cases hf : sfine n g1 slot t = 0
  rotate_left
  · rw [bb_pos (by simpa using hf), Tw.run_ret, if_pos hf]
  have hsl : 0 ≤ slot ∧ slot < 2 := by
    unfold sfine at hf
    split at hf
    · cases hf
    · omega
  have hL := ref32_Bytes_L7 hr ok hs hv slot t ht hsl (chkF n g1 t).toNat 0 [] (by omega) (by simp)
  rw [show ((0 : Nat) : Int) = 0 from rfl] at hL
  rw [bb_neg (by simpa using hf), if_neg (by simpa using hf), opt_some (parts_eq hr ok t ht), opt_some hL]
  cases s.sbl n g1 slot t (chkF n g1 t).toNat 0 [] with
  | inl l => rw [sm_inl, Tw.run_ret]
  | inr z => rw [sm_inr, Tw.run_ret]
end

end Go.Proofs.Ytnlclchlnngdnaa.Pure
