/- Slots: what is done, played by the code and by the document. -/
import Derived.Test.YtnlclchlnngdnaaQSlot1
import Derived.Test.YtnlclchlnngdnaaFlaw32
namespace Go.Proofs.Ytnlclchlnngdnaa.Pure
open Go Go.Proofs.Ytnlclchlnngdnaa.Va
set_option linter.unusedVariables false
set_option linter.unusedSimpArgs false

/-! Too much to be looked at? -/
abbrev A3 : Type := Int × (Int × List Int)
/-- What is done, when it is no fuse and no power. -/
def Fl.sact (n : Nat) (g1 : Int) (s : Fl) (T kind slot i : Int) (b : List Int) : A3 × Fl :=
  if kind = 0 then ((0, (s.sbegin n g1 slot).1, []), (s.sbegin n g1 slot).2)
  else if kind = 3 then (((s.sdone n g1 slot T).1, (s.sdone n g1 slot T).2, []), s)
  else if kind = 4 then ((0, (s.sbytes n g1 slot T).1, (s.sbytes n g1 slot T).2), s)
  else if kind = 1 ∨ kind = 2 then ((0, (s.schunk n g1 slot T i b).1, []), (s.schunk n g1 slot T i b).2)
  else ((0, 0, []), s)
def Fl.splay (n : Nat) (g1 T : Int) (s : Fl) (x : Act32) : Fl := if x.kind = 5 then s.arm x.i x.masks else if x.kind = 6 then s.power [] else (s.sact n g1 T x.kind x.slot x.i x.b).2
/-- An act is in order. -/
def ActS (x : Act32) : Prop := InR .i64 x.i ∧ x.b.length ≤ 1000 ∧ Bytes x.b ∧ x.masks.length ≤ 100 ∧ Words x.masks
abbrev S12s : Type := Int × (Bool × (Int × (List Int × (List Int × (Int × (Bool × (Int × (List Int × (List Int × (List Int × List Int))))))))))
def pairS (s t : Fl) : S12s := (s.C, s.D, s.A, s.W, s.V, t.C, t.D, t.A, t.W, t.V, s.M, t.M)
theorem sact_ok {n : Nat} {g1 : Int} {s : Fl} (hs : FlOK n s) (T kind slot i : Int) {b : List Int} (hb : Bytes b) : FlOK n (s.sact n g1 T kind slot i b).2 ∧ (s.sact n g1 T kind slot i b).2.V.length = s.V.length ∧ (s.sact n g1 T kind slot i b).2.M = s.M := by
  unfold Fl.sact
  split
  · exact sbegin_ok hs _
  split
  · exact ⟨hs, rfl, rfl⟩
  split
  · exact ⟨hs, rfl, rfl⟩
  split
  · exact schunk_ok hs _ _ _ hb
  · exact ⟨hs, rfl, rfl⟩
theorem Nr.sact {n : Nat} {g1 : Int} {s t : Fl} (h : Nr s t) (T kind slot i : Int) (b : List Int) : (t.sact n g1 T kind slot i b).1 = (s.sact n g1 T kind slot i b).1 ∧ Nr (s.sact n g1 T kind slot i b).2 (t.sact n g1 T kind slot i b).2 := by
  unfold Fl.sact
  have hd := h.reads (n := n) (g1 := g1) slot T
  split
  · have := h.sbegin (n := n) (g1 := g1) slot
    exact ⟨by rw [this.1], this.2⟩
  split
  · exact ⟨by rw [hd.1], h⟩
  split
  · exact ⟨by rw [hd.2], h⟩
  split
  · have := h.schunk (n := n) (g1 := g1) slot T i b
    exact ⟨by rw [this.1], this.2⟩
  · exact ⟨rfl, h⟩
theorem words_sm {s : Fl} {n : Nat} (hs : FlOK n s) : flash_Flash_Words_v2.c (n : Int) s.C s.D s.A s.W s.V s.M = some s.W ∧ flash_Flash_Words.c (n : Int) s.C s.D s.A s.W s.V = some s.W ∧ ref01_Same.c s.W s.W = some true := by
  have := hs.wl
  refine ⟨?_, ?_, ?_⟩
  · simp only [flash_Flash_Words_v2.c, flash_Flash_Words_v2.t]
    rw [opt_some (clone32_eq (by omega)), Tw.run_ret]
  · simp only [flash_Flash_Words.c, flash_Flash_Words.t]
    rw [opt_some (clone32_eq (by omega)), Tw.run_ret]
  · exact (ref01_Same_eq (by omega)).trans (by simp)

section
variable {n : Nat} {g1 g2 g3 g4 g5 : Int} (hr : GeoR (n : Int) g1 g2 g3 g4 g5) (ok : GeoOK (n : Int) g1 g2 g3 g4 g5) {s t : Fl} (hs : FlOK n s) (ht : FlOK n t) (hv : (s.V.length : Int) = 2 + 2 * g1 + g2) (hvt : (t.V.length : Int) = 2 + 2 * g1 + g2)
include hr ok hs ht hv hvt
theorem sdo_other (T kind slot i : Int) {b masks : List Int} (hT : InR .i64 T) (hi : InR .i64 i) (hb : Bytes b) (hbl : b.length ≤ 1000) (h5 : kind ≠ 5) (h6 : kind ≠ 6) :
    law32_desk_do_v2.c T kind slot i b masks (n : Int) s.C s.D s.A s.W s.V s.M (n : Int) g1 g2 g3 g4 g5 (n : Int) g1 g2 g3 g4 g5 (n : Int) t.C t.D t.A t.W t.V t.M =
    some (.inl ((s.sact n g1 T kind slot i b).1.1, (s.sact n g1 T kind slot i b).1.2.1, (t.sact n g1 T kind slot i b).1.1, (t.sact n g1 T kind slot i b).1.2.1,
      (s.sact n g1 T kind slot i b).2.C, (s.sact n g1 T kind slot i b).2.D, (s.sact n g1 T kind slot i b).2.A, (s.sact n g1 T kind slot i b).2.W, (s.sact n g1 T kind slot i b).2.V,
      (t.sact n g1 T kind slot i b).2.C, (t.sact n g1 T kind slot i b).2.D, (t.sact n g1 T kind slot i b).2.A, (t.sact n g1 T kind slot i b).2.W, (t.sact n g1 T kind slot i b).2.V,
      (s.sact n g1 T kind slot i b).1.2.2, (t.sact n g1 T kind slot i b).1.2.2)) := by
  have rb := reach_eq
  simp only [law32_desk_do_v2.c, law32_desk_do_v2.t]
  unfold Fl.sact
  by_cases h0 : kind = 0
  · rw [bb_pos (by simpa using h0), if_pos h0, if_pos h0, opt_some (slot_Begin_eq hr ok hs hv slot), opt_some (ref32_Begin_eq hr ok ht hvt slot), Tw.run_ret]
    rfl
  rw [bb_neg (by simpa using h0), if_neg h0, if_neg h0]
  by_cases h3 : kind = 3
  · rw [bb_pos (by simpa using h3), if_pos h3, if_pos h3, opt_some (slot_Done_eq hr ok hs hv slot T hT), opt_some (ref32_Done_eq hr ok ht hvt slot T hT), Tw.run_ret]
  rw [bb_neg (by simpa using h3), if_neg h3, if_neg h3]
  by_cases h4 : kind = 4
  · rw [bb_pos (by simpa using h4), if_pos h4, if_pos h4, opt_some (slot_Bytes_eq hr ok hs hv slot T hT), opt_some (ref32_Bytes_eq hr ok ht hvt slot T hT), Tw.run_ret]
  rw [bb_neg (by simpa using h4), if_neg h4, if_neg h4, bb_neg (by simpa using h5), bb_neg (by simpa using h6)]
  by_cases h1 : kind = 1
  · rw [bb_pos (by simpa using h1), bb_pos (by simpa using h1), if_pos (Or.inl h1), if_pos (Or.inl h1), opt_some (slot_Chunk_eq hr ok hs hv slot T i hT hi hb hbl), opt_some (ref32_Chunk_eq hr ok ht hvt slot T i hT hi hb hbl), Tw.run_ret]
    rfl
  rw [bb_neg (by simpa using h1)]
  by_cases h2 : kind = 2
  · rw [bb_pos (by simpa using h2), if_pos (Or.inr h2), if_pos (Or.inr h2), opt_some (slot_Chunk_eq hr ok hs hv slot T i hT hi hb hbl), opt_some (ref32_Chunk_eq hr ok ht hvt slot T i hT hi hb hbl), Tw.run_ret]
    rfl
  · rw [bb_neg (by simpa using h2), if_neg (by omega), if_neg (by omega), Tw.run_ret]
omit hr ok hs ht hv hvt in
theorem sdo_arm (T slot i : Int) {b masks : List Int} (hl : masks.length ≤ 200) (g0 : Int) : law32_desk_do_v2.c T 5 slot i b masks (n : Int) s.C s.D s.A s.W s.V s.M (n : Int) g1 g2 g3 g4 g5 g0 g1 g2 g3 g4 g5 (n : Int) t.C t.D t.A t.W t.V t.M =
    some (.inr (.inr (0, 0, 0, 0, imax i (-1), imax i (-1), [], [], masks))) := by
  have e : flash_Flash_Arm_v2.c i masks (n : Int) s.C s.D s.A s.W s.V s.M = some (imax i (-1), masks) := by
    simp only [flash_Flash_Arm_v2.c, flash_Flash_Arm_v2.t]
    rw [opt_some (clone32_eq (by omega)), Tw.run_ret]
  have e' : ref07_Flash_Arm_v2.c i masks (n : Int) t.C t.D t.A t.W t.V t.M = some (imax i (-1)) := by
    simp only [ref07_Flash_Arm_v2.c, ref07_Flash_Arm_v2.t]
    rw [dd_pos (by omega), Tw.run_ret]
  simp only [law32_desk_do_v2.c, law32_desk_do_v2.t]
  rw [bb_neg (by decide), bb_neg (by decide), bb_neg (by decide), bb_pos (by decide), opt_some e, opt_some e', Tw.run_ret]
omit hr ok hs ht hv hvt in
theorem sdo_power (T slot i : Int) {b masks : List Int} (g0 : Int) : law32_desk_do_v2.c T 6 slot i b masks (n : Int) s.C s.D s.A s.W s.V s.M (n : Int) g1 g2 g3 g4 g5 g0 g1 g2 g3 g4 g5 (n : Int) t.C t.D t.A t.W t.V t.M =
    some (.inr (.inl (0, 0, 0, 0, false, -1, false, -1, [], []))) := by
  simp only [law32_desk_do_v2.c, law32_desk_do_v2.t]
  rw [bb_neg (by decide), bb_neg (by decide), bb_neg (by decide), bb_neg (by decide), bb_pos (by decide)]
  rfl
end

theorem stepS {n : Nat} {g1 g2 g3 g4 g5 : Int} (hr : GeoR (n : Int) g1 g2 g3 g4 g5) (ok : GeoOK (n : Int) g1 g2 g3 g4 g5) {s t : Fl} (hs : FlOK n s) (ht : FlOK n t) (hb : Nr s t) (hv : (s.V.length : Int) = 2 + 2 * g1 + g2) {T : Int} (hT : InR .i64 T) {l : List Act32} {i : Nat} {x : Act32} (hi : l[i]? = some x) (hx : ActS x) (hl : l.length ≤ 40) : ∃ t', FlOK n (s.splay n g1 T x) ∧ FlOK n t' ∧ Nr (s.splay n g1 T x) t' ∧ ((s.splay n g1 T x).V.length : Int) = 2 + 2 * g1 + g2 ∧
    (law32_desk_run.l2 l (n : Int) (n : Int) g1 g2 g3 g4 g5 (n : Int) g1 g2 g3 g4 g5 (n : Int) T (i : Int) s.C s.D s.A s.W s.V t.C t.D t.A t.W t.V s.M t.M).run = some (.inl (((i + 1 : Nat) : Int), pairS (s.splay n g1 T x) t')) := by
  obtain ⟨kind, slot, j, b, masks⟩ := x
  obtain ⟨hj, hbl, hby, hml, hm⟩ := hx
  have hlt := (List.getElem?_eq_some_iff.1 hi).1
  have hi0 : l[(i : Int).toNat]? = some ⟨kind, slot, j, b, masks⟩ := by rw [Int.toNat_natCast]; exact hi
  have e : w64 ((i : Int) + 1) = ((i + 1 : Nat) : Int) := by rw [w64_of (by omega) (by omega)]; rfl
  obtain ⟨b1, b2, b3, b4, b5⟩ := hb.same
  have hvt : (t.V.length : Int) = 2 + 2 * g1 + g2 := by rw [b5]; exact hv
  simp only at hj hbl hby hml hm
  simp only [law32_desk_run.l2]
  rw [bb_pos (decide_eq_true (by omega)), dd_pos (by omega), opt_some hi0]
  by_cases h5 : kind = 5
  · subst h5
    rw [show s.splay n g1 T ⟨5, slot, j, b, masks⟩ = s.arm j masks from if_pos rfl]
    have hs' := arm_ok hs hj hm (show masks.length ≤ 200 by omega)
    have ht' := arm_ok ht hj hm (show masks.length ≤ 200 by omega)
    obtain ⟨w1, w2, w3⟩ := words_sm hs'
    refine ⟨t.arm j masks, hs', ht', Or.inl (by simp only [Fl.arm, b1, b2, b4, b5]), hv, ?_⟩
    rw [opt_some (sdo_arm T slot j (show masks.length ≤ 200 by omega) (n : Int)), sm_inr, sm_inr, bb_neg (by rfl), bb_neg (by simp), bb_neg (by rfl), opt_some (x := s.W) (by exact w1), b4, opt_some (x := true) (by exact w3), bb_neg (by rfl), Tw.run_ret, e]
    simp only [pairS, Fl.arm, b2, b4, b5]
  · by_cases h6 : kind = 6
    · subst h6
      rw [show s.splay n g1 T ⟨6, slot, j, b, masks⟩ = s.power [] from (if_neg (show ¬ ((6 : Int) = 5) by decide)).trans (if_pos rfl)]
      have hs' := power_ok hs words_nil (show ([] : List Int).length ≤ 200 by simp)
      have ht' := power_ok ht ht.m ht.ml
      obtain ⟨w1, w2, w3⟩ := words_sm hs'
      refine ⟨t.power t.M, hs', ht', Or.inr ⟨by simp [Fl.power], t.M, by simp only [Fl.power, Fl.setM, b1, b4, b5]⟩, hv, ?_⟩
      rw [opt_some (sdo_power T slot j (n : Int)), sm_inr, sm_inl, bb_neg (by rfl), bb_neg (by simp), bb_neg (by rfl), opt_some (x := s.W) (by exact w2), b4, opt_some (x := true) (by exact w3), bb_neg (by rfl), Tw.run_ret, e]
      simp only [pairS, Fl.power, b1, b4, b5]
    · rw [show s.splay n g1 T ⟨kind, slot, j, b, masks⟩ = (s.sact n g1 T kind slot j b).2 from (if_neg h5).trans (if_neg h6)]
      obtain ⟨e1, e2⟩ := hb.sact (n := n) (g1 := g1) T kind slot j b
      have hs' := sact_ok (g1 := g1) hs T kind slot j hby
      have ht' := sact_ok (g1 := g1) ht T kind slot j hby
      have hd := sdo_other (masks := masks) hr ok hs ht hv hvt T kind slot j hT hj hby hbl h5 h6
      rw [e1] at hd
      refine ⟨_, hs'.1, ht'.1, e2, by rw [hs'.2.1]; exact hv, ?_⟩
      obtain ⟨w1, w2, w3⟩ := words_sm hs'.1
      rw [hs'.2.2] at w1
      rw [opt_some hd, sm_inl]
      have hM1 := hs'.2.2
      have hM2 := ht'.2.2
      generalize s.sact n g1 T kind slot j b = r at *
      generalize t.sact n g1 T kind slot j b = r2 at *
      obtain ⟨q1, q2, q3, q4, q5⟩ := e2.same
      rw [bb_neg (by simp), bb_neg (by simp), bb_neg (by simp), opt_some w1, q4, opt_some w3, bb_neg (by rfl), Tw.run_ret, e]
      simp only [pairS, hM1, hM2, q4]
theorem loopS {n : Nat} {g1 g2 g3 g4 g5 : Int} (hr : GeoR (n : Int) g1 g2 g3 g4 g5) (ok : GeoOK (n : Int) g1 g2 g3 g4 g5) {s t : Fl} (hs : FlOK n s) (ht : FlOK n t) (hb : Nr s t) (hv : (s.V.length : Int) = 2 + 2 * g1 + g2) {T : Int} (hT : InR .i64 T) {l : List Act32} (hx : ∀ x ∈ l, ActS x) (hl : l.length ≤ 40) : ∃ s' t', s' = l.foldl (fun a x => a.splay n g1 T x) s ∧ FlOK n s' ∧ FlOK n t' ∧ Nr s' t' ∧ (s'.V.length : Int) = 2 + 2 * g1 + g2 ∧
    law32_desk_run.L2 l 0 (n : Int) s.C s.D s.A s.W s.V (n : Int) g1 g2 g3 g4 g5 (n : Int) g1 g2 g3 g4 g5 (n : Int) t.C t.D t.A t.W t.V T s.M t.M = some (.inl (pairS s' t')) := by
  unfold law32_desk_run.L2
  obtain ⟨x, h1, s', t', h0, h2, h3, h4, h5, rfl⟩ := Lp_inv (fun z : Int × S12s => (law32_desk_run.l2 l (n : Int) (n : Int) g1 g2 g3 g4 g5 (n : Int) g1 g2 g3 g4 g5 (n : Int) T z.1 z.2.1 z.2.2.1 z.2.2.2.1 z.2.2.2.2.1 z.2.2.2.2.2.1 z.2.2.2.2.2.2.1 z.2.2.2.2.2.2.2.1 z.2.2.2.2.2.2.2.2.1 z.2.2.2.2.2.2.2.2.2.1 z.2.2.2.2.2.2.2.2.2.2.1 z.2.2.2.2.2.2.2.2.2.2.2.1 z.2.2.2.2.2.2.2.2.2.2.2.2).run)
    (fun z => ∃ (i : Nat) (s' t' : Fl), i ≤ l.length ∧ s' = (l.take i).foldl (fun a x => a.splay n g1 T x) s ∧ FlOK n s' ∧ FlOK n t' ∧ Nr s' t' ∧ (s'.V.length : Int) = 2 + 2 * g1 + g2 ∧ z = ((i : Int), pairS s' t')) (fun z => l.length - z.1.toNat)
    (fun x => ∃ s' t', s' = l.foldl (fun a x => a.splay n g1 T x) s ∧ FlOK n s' ∧ FlOK n t' ∧ Nr s' t' ∧ (s'.V.length : Int) = 2 + 2 * g1 + g2 ∧ x = .inl (pairS s' t')) (fun z hz => by
      obtain ⟨i, s', t', hi, h0, h1, h2, h3, h4, rfl⟩ := hz
      by_cases h : i < l.length
      · have hi' : l[i]? = some l[i] := List.getElem?_eq_getElem h
        obtain ⟨t'', g1', g2', g3', g4', g5'⟩ := stepS hr ok h1 h2 h3 h4 hT hi' (hx _ (List.getElem_mem h)) hl
        exact Or.inl ⟨_, g5', ⟨i + 1, _, t'', by omega, by rw [List.take_add_one, hi', List.foldl_append, ← h0]; rfl, g1', g2', g3', g4', rfl⟩, by simp only [Int.toNat_natCast]; omega⟩
      · refine Or.inr ⟨_, ?_, s', t', by rw [h0, List.take_of_length_le (by omega)], h1, h2, h3, h4, rfl⟩
        simp only [law32_desk_run.l2]
        rw [bb_neg (decide_eq_false (by omega)), Tw.run_ret]) l.length (0, pairS s t) (by simp) ⟨0, s, t, by omega, rfl, hs, ht, hb, hv, rfl⟩
  exact ⟨s', t', h0, h2, h3, h4, h5, h1⟩
theorem runS {n : Nat} {g1 g2 g3 g4 g5 : Int} (hr : GeoR (n : Int) g1 g2 g3 g4 g5) (ok : GeoOK (n : Int) g1 g2 g3 g4 g5) {s : Fl} (hs : FlOK n s) (hM : s.M = []) (hv : (s.V.length : Int) = 2 + 2 * g1 + g2) {T : Int} (hT : InR .i64 T) {l : List Act32} (hx : ∀ x ∈ l, ActS x) (hl : l.length ≤ 40) : ∃ s' t', s' = l.foldl (fun a x => a.splay n g1 T x) s ∧ FlOK n s' ∧ FlOK n t' ∧ Nr s' t' ∧ (s'.V.length : Int) = 2 + 2 * g1 + g2 ∧
    law32_desk_run.c T l (n : Int) s.C s.D s.A s.W s.V (n : Int) g1 g2 g3 g4 g5 (n : Int) g1 g2 g3 g4 g5 (n : Int) s.C s.D s.A s.W s.V = some (.inl (true, pairS s' t')) := by
  obtain ⟨s', t', h0, h1, h2, h3, h4, h5⟩ := loopS hr ok hs hs (Or.inl rfl) hv hT hx hl
  refine ⟨s', t', h0, h1, h2, h3, h4, ?_⟩
  rw [hM] at h5
  simp only [law32_desk_run.c, law32_desk_run.t]
  rw [opt_some h5, sm_inl, Tw.run_ret]
theorem beginS {n : Nat} {g1 g2 g3 g4 g5 : Int} (hr : GeoR (n : Int) g1 g2 g3 g4 g5) (ok : GeoOK (n : Int) g1 g2 g3 g4 g5) {m : Nat} (hm : 2 + 2 * g1.toNat + g2.toNat = m) (T : Int) (l : List Act32) : FlOK n (flNew m n) ∧ (((flNew m n).V.length : Nat) : Int) = 2 + 2 * g1 + g2 ∧
    law32_begin.c (n : Int) g1 g2 g3 g4 g5 T l = some (.inl (true, (flNew m n).C, (flNew m n).D, (flNew m n).A, (flNew m n).W, (flNew m n).V, (flNew m n).C, (flNew m n).D, (flNew m n).A, (flNew m n).W, (flNew m n).V)) ∧
    law32_begin_v2.c (n : Int) g1 g2 g3 g4 g5 T = law32_begin.c (n : Int) g1 g2 g3 g4 g5 T l := by
  have ok' := ok
  unfold GeoOK at ok'
  have hmap : ref08_Map.c (n : Int) g1 g2 g3 g4 g5 = some (mapL g1.toNat m) := (ref08_Map_eq hr).trans (by rw [if_pos ok, hm])
  have hN := flash_New_eq (a := m) (b := n) (by omega) (by omega) (by omega) (by omega)
  have hR := ref07_New_eq (a := m) (b := n) (by omega) (by omega) (by omega) (by omega)
  have okN := flNew_ok (a := m) (b := n) (by omega) (by omega) (by omega) (by omega)
  have hv : (((flNew m n).V.length : Nat) : Int) = 2 + 2 * g1 + g2 := by simp [flNew]; omega
  have hD : ref09_New.c (n : Int) g1 g2 g3 g4 g5 = some (.inl ((flNew m n).C, (flNew m n).D, (flNew m n).A, (flNew m n).W, (flNew m n).V)) := by
    simp only [ref09_New.c, ref09_New.t]
    rw [opt_some hmap, mapL_len, opt_some hR, sm_inl, Tw.run_ret]
  refine ⟨okN, hv, ?_, rfl⟩
  simp only [law32_begin.c, law32_begin.t]
  rw [opt_some hmap, mapL_len, opt_some hN, sm_inl, opt_some (drive_New_eq hr ..), if_pos ⟨ok, hv, rfl⟩, sm_inl, opt_some hD, sm_inl, bb_pos (by rfl), Tw.run_ret]
  rfl

end Go.Proofs.Ytnlclchlnngdnaa.Pure
