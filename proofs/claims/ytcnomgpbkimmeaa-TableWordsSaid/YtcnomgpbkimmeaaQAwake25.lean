/- Layer 25: what must come at any rate, comes; a table's words. -/
import Derived.Test.YtcnomgpbkimmeaaQTable
import Derived.Test.YtcnomgpbkimmeaaFlaw25
namespace Go.Proofs.Ytcnomgpbkimmeaa.Pure
open Go Go.Proofs.Ytcnomgpbkimmeaa.Va
set_option linter.unusedVariables false
set_option linter.unusedSimpArgs false

theorem rightB_seal (l : List Int) : rightB (sealL l) = true := by
  unfold rightB sealL
  rw [List.length_append, List.length_singleton, Nat.add_sub_cancel, List.getD_eq_getElem?_getD, List.getElem?_append_right (Nat.le_refl _), Nat.sub_self]
  simp

theorem pages_iff {p : List Int} : pagesOK p = true ↔ ∀ i, i < p.length → badP p i = false := by
  unfold pagesOK
  rw [Option.isNone_iff_eq_none, List.find?_eq_none]
  constructor
  · intro h i hi
    have := h i (by rw [List.mem_range'_1]; omega)
    simpa using this
  · intro h i hi
    rw [List.mem_range'_1] at hi
    rw [h i (by omega)]
    decide
theorem page_range {p : List Int} (h : pagesOK p = true) {x : Int} (hx : x ∈ p) : 0 ≤ x ∧ x ≤ 127 := by
  obtain ⟨i, hi, rfl⟩ := List.getElem_of_mem hx
  have := pages_iff.1 h i hi
  unfold badP at this
  rw [getD_eq hi] at this
  simp only [Bool.or_eq_false_iff, decide_eq_false_iff_not] at this
  omega
where
  getD_eq {p : List Int} {i : Nat} (hi : i < p.length) : p.getD i 0 = p[i] := by
    rw [List.getD_eq_getElem?_getD, List.getElem?_eq_getElem hi]
    rfl
theorem pages_le {p : List Int} (h : pagesOK p = true) : p.length ≤ 128 := by
  have := nodup_le 128 (p.map Int.toNat) (by
    rw [List.nodup_iff_pairwise_ne, List.pairwise_iff_getElem]
    intro i j hi hj hij e
    simp only [List.length_map] at hi hj
    simp only [List.getElem_map] at e
    have h1 := page_range h (List.getElem_mem hi)
    have h2 := page_range h (List.getElem_mem hj)
    have h3 := pages_iff.1 h j hj
    unfold badP at h3
    simp only [Bool.or_eq_false_iff, decide_eq_false_iff_not] at h3
    apply h3.2.2
    rw [page_range.getD_eq hj, List.mem_take_iff_getElem]
    exact ⟨i, by omega, by omega⟩) (fun x hx => by
    obtain ⟨y, hy, rfl⟩ := List.mem_map.1 hx
    have := page_range h hy
    omega)
  simpa using this

theorem right_parts {g v : Int} {p : List Int} (h : rightT g v p = true) : (1 ≤ g ∧ g ≤ 1073741823 ∧ 1 ≤ v ∧ v ≤ 65535) ∧ pagesOK p = true := by
  unfold rightT at h
  rw [Bool.and_eq_true, decide_eq_true_iff] at h
  exact h

/-- What is read of a table's words. -/
theorem take_seal {g v : Int} {p : List Int} (h : rightT g v p = true) (more : List Int) : takeT (sealL (tabL g v p) ++ more) = (g, v, 0, p) := by
  obtain ⟨hr, hp⟩ := right_parts h
  have hl := pages_le hp
  have e : tabL g v p = g :: v :: (p.length : Int) :: p := by
    unfold tabL
    rw [w32_of (by omega) (by omega), w32_of (n := v) (by omega) (by omega), w32_of (n := (p.length : Int)) (by omega) (by omega)]
    congr 3
    conv => rhs; rw [← List.map_id p]
    exact List.map_congr_left fun x hx => w32_of (by have := page_range hp hx; omega) (by have := page_range hp hx; omega)
  have hs : sealL (tabL g v p) ++ more = g :: v :: (p.length : Int) :: (p ++ (zs (tabL g v p) :: more)) := by
    unfold sealL
    generalize zs (tabL g v p) = z
    rw [e]
    simp
  have h0 : (sealL (tabL g v p) ++ more).getD 0 0 = g := by rw [hs]; rfl
  have h1 : (sealL (tabL g v p) ++ more).getD 1 0 = v := by rw [hs]; rfl
  have h2 : (sealL (tabL g v p) ++ more).getD 2 0 = (p.length : Int) := by rw [hs]; rfl
  have hc : cntT (sealL (tabL g v p) ++ more) = p.length := by unfold cntT; rw [h2]; rfl
  have hpg : pagT (sealL (tabL g v p) ++ more) = p := by
    unfold pagT
    rw [hc, hs]
    simp
  have hsl : (sealL (tabL g v p)).length = p.length + 4 := by unfold sealL; rw [List.length_append, tabL_len]; rfl
  have hb : ¬ badT (sealL (tabL g v p) ++ more) := by
    rintro (h | h | h)
    · rw [List.length_append, hsl] at h; omega
    · rw [h2] at h; omega
    · rw [hc, List.length_append, hsl] at h; omega
  unfold takeT
  rw [if_neg hb, h0, h1, hpg, h, hc, List.take_append_of_le_length (by omega), List.take_of_length_le (by omega), rightB_seal]
  rfl

theorem awake25 : law25_awake.c = some true := by
  have h1 : table_Lay.c 1 2 [3] = some (0, [1, 2, 1, 3, 123]) := (table_Lay_eq 1 2 (p := [3]) (by decide)).trans (by
    have e1 : rightT 1 2 [3] = true := by decide
    rw [e1]
    have e2 : tabL 1 2 [3] = [1, 2, 1, 3] := by decide
    rw [e2]
    simp [sealL, zs, zsum, zer, pop])
  have h2 : table_Size.c 1 = some 5 := (table_Size_eq 1 (by decide)).trans (by decide)
  have h3 : table_Size.c 129 = some 0 := (table_Size_eq 129 (by decide)).trans (by decide)
  simp only [law25_awake.c, law25_awake.t, Tw.run_opt, Tw.run_bb, Tw.run_ret, h1, h2, h3, Option.bind_some, ref01_Same_eq (show ([1, 2, 1, 3, 123] : List Int).length ≤ 140737488351232 by decide)]
  decide

end Go.Proofs.Ytcnomgpbkimmeaa.Pure
