/- The plain truth of LeafSure. -/
import Derived.Test.YtpidbpmkogbdeaaFlaw23
import Derived.Test.YtpidbpmkogbdeaaQAwake23
import Derived.Test.YtpidbpmkogbdeaaQSure
namespace Go.Proofs.Ytpidbpmkogbdeaa.Pure
open Go Go.Proofs.Ytpidbpmkogbdeaa.Va
set_option linter.unusedVariables false
set_option linter.unusedSimpArgs false

/-- Where an item's words begin. -/
def posI (l : List ItemV) (i : Nat) : Nat := 1 + totI (l.take i)
/-- Words that tell how many there are. -/
def cntI (l : List ItemV) (k : Nat) : List Bool := (List.range (totI l + 2)).map fun j => decide (j = 0 ∨ ∃ i, i < k ∧ j = posI l i + 1)
theorem cntI_len (l : List ItemV) (k : Nat) : (cntI l k).length = totI l + 2 := by simp [cntI]
theorem cntI_get (l : List ItemV) (k : Nat) {j : Nat} (h : j < totI l + 2) : (cntI l k)[j]? = some (decide (j = 0 ∨ ∃ i, i < k ∧ j = posI l i + 1)) := by
  unfold cntI
  rw [List.getElem?_map, List.getElem?_range h]
  rfl
theorem cntI_zero (l : List ItemV) : (List.replicate (totI l + 2) false).set 0 true = cntI l 0 := by
  apply List.ext_getElem?
  intro j
  rw [List.getElem?_set, List.length_replicate]
  by_cases h : j < totI l + 2
  · rw [cntI_get l 0 h, List.getElem?_replicate, if_pos h]
    by_cases h0 : 0 = j
    · rw [if_pos h0, if_pos (by omega), decide_eq_true (Or.inl h0.symm)]
    · rw [if_neg h0, decide_eq_false (by rintro (h | ⟨i, h, _⟩) <;> omega)]
  · rw [if_neg (by omega), List.getElem?_eq_none (l := List.replicate (totI l + 2) false) (by rw [List.length_replicate]; omega), List.getElem?_eq_none (by rw [cntI_len]; omega)]
theorem cntI_set (l : List ItemV) (k : Nat) : (cntI l k).set (posI l k + 1) true = cntI l (k + 1) := by
  apply List.ext_getElem?
  intro j
  rw [List.getElem?_set, cntI_len]
  by_cases h : j < totI l + 2
  · rw [cntI_get l k h, cntI_get l (k + 1) h]
    by_cases h0 : posI l k + 1 = j
    · rw [if_pos h0, if_pos (by omega), decide_eq_true (Or.inr ⟨k, by omega, h0.symm⟩)]
    · rw [if_neg h0]
      congr 1
      rw [decide_eq_decide]
      constructor
      · rintro (h | ⟨i, h1, h2⟩)
        · exact Or.inl h
        · exact Or.inr ⟨i, by omega, h2⟩
      · rintro (h | ⟨i, h1, h2⟩)
        · exact Or.inl h
        · refine Or.inr ⟨i, ?_, h2⟩
          by_cases e : i = k
          · subst e; exact absurd h2.symm h0
          · omega
  · rw [List.getElem?_eq_none (by rw [cntI_len]; omega), List.getElem?_eq_none (by rw [cntI_len]; omega)]
    split <;> first | rfl | (rw [if_neg (by omega)])

theorem bodI_size {l : List ItemV} {i : Nat} (h : i < l.length) : (bodI l).getD (totI (l.take i) + 1) 0 = (l[i].data.size : Int) := by
  have e : bodI l = bodI (l.take i) ++ (encI l[i] ++ bodI (l.drop (i + 1))) := by
    rw [← bodI_one l[i], ← bodI_append, ← bodI_append]
    congr 1
    rw [List.singleton_append, ← List.drop_eq_getElem_cons h, List.take_append_drop]
  rw [e, List.getD_eq_getElem?_getD, List.getElem?_append_right (by rw [bodI_len]; omega), bodI_len, show totI (l.take i) + 1 - totI (l.take i) = 1 by omega]
  rfl

theorem parI_shape : ∀ {l : List ItemV} {B : List Int} {l' : List ItemV} {r : List Int}, (∀ i (h : i < l.length), B.getD (totI (l.take i) + 1) 0 = (l[i].data.size : Int)) → parI l.length B = some (l', r) → r = B.drop (totI l)
  | [], B, l', r, _, h => by
    simp only [List.length_nil, parI, Option.some.injEq, Prod.mk.injEq] at h
    rw [← h.2]
    rfl
  | x :: l, B, l', r, hs, h => by
    rw [List.length_cons, parI] at h
    split at h
    · cases h
    rename_i x' q hq
    split at h
    · cases h
    rename_i l2 r2 hr
    simp only [Option.some.injEq, Prod.mk.injEq] at h
    obtain ⟨rfl, rfl⟩ := h
    obtain ⟨e1, e2, e3, e4, e5⟩ := takeI_rest hq
    have h0 : B.getD 1 0 = (x.data.size : Int) := hs 0 (by simp)
    have he : endI B = cstI x := by unfold endI cstI; rw [h0, Int.toNat_natCast]
    have := parI_shape (l := l) (B := q) (fun i hi => by
      have h1 := hs (i + 1) (by simpa using hi)
      rw [e1, he, List.getD_eq_getElem?_getD, List.getElem?_drop, ← List.getD_eq_getElem?_getD]
      rw [List.take_succ_cons, totI_cons] at h1
      rw [show cstI x + (totI (l.take i) + 1) = cstI x + totI (l.take i) + 1 by omega, h1]
      rfl) hr
    rw [this, e1, he, List.drop_drop, totI_cons]

theorem LeafSure (a0 : List ItemV) (a1 : List Int) (w0 : a0.length * 24 ≤ reachBytes) (w1 : ∀ x2 ∈ a0, InR .u32 x2.key ∧ x2.data.size ≤ reachBytes) (w2 : a1.length * 4 ≤ reachBytes) (w3 : ∀ x6 ∈ a1, InR .u32 x6) : law23_LeafSure.c a0 a1 = some true := by
  simp only [law23_LeafSure.c, law23_LeafSure.t, awake23]
  by_cases g0 : (a0.length : Int) > 300
  · rw [bb_pos (decide_eq_true g0)]; rfl
  rw [bb_neg (decide_eq_false g0)]
  have hi : Its a0 := w1
  simp only [Tw.run_opt, leaf_Lay_eq hi (show a0.length ≤ 300 by omega) (show InR .i64 1048576 by decide), Option.bind_some]
  rw [if_pos (show (1048576 : Int) > 2 by decide)]
  by_cases g1 : a0.length = 0 ∨ rightI a0 = false
  · have : layL a0 (1048576 - 2) = (2, []) := by unfold layL; rw [if_pos g1]
    rw [this]; rfl
  have g2 : 0 < a0.length := by omega
  have g3 : rightI a0 = true := by
    cases h : rightI a0 with
    | true => rfl
    | false => exact absurd (Or.inr h) g1
  have hs := rightI_small g3
  have ht := totI_le64 hs
  obtain ⟨s, hsd⟩ : ∃ s, s = leafL a0 ++ [zs (leafL a0)] := ⟨_, rfl⟩
  have hL : s.length = totI a0 + 2 := by rw [hsd, List.length_append, leafL_len]; rfl
  have hlay : layL a0 (1048576 - 2) = (0, s) := by unfold layL; rw [if_neg g1, if_neg (by omega), hsd]
  have hsw : Words s := by rw [hsd]; exact words_append (leafL_words hi hs (by omega)) (words_cons (inR_u32 (by unfold zs; omega)) words_nil)
  have hu : Words a1 := w3
  have hul : a1.length ≤ 35184372088832 := by rw [reach_eq] at w2; omega
  rw [hlay, bb_neg (by rfl), bb_neg (by rw [beq_eq_false_iff_ne]; show ((s.length : Nat) : Int) ≠ 0; omega)]
  simp only [Int.toNat_natCast, show Int.toNat (0 : Int) = 0 from rfl]
  rw [dd_pos (by show 0 ≤ ((s.length : Nat) : Int) ∧ ((s.length : Nat) : Int) ≤ ((s.length : Nat) : Int) ∧ ((s.length : Nat) : Int) ≤ 140737488355328 ∧ ((s.length : Nat) : Int) * (((1 : Nat) : Nat) : Int) ≤ 140737488355328; omega),
    dd_pos (by show (0 : Int) ≤ 0 ∧ (0 : Int) < (((List.replicate (((s.length : Nat) : Int)).toNat false).length : Nat) : Int); rw [Int.toNat_natCast, List.length_replicate]; omega)]
  have hrep : (List.replicate s.length false)[0]? = some false := by rw [List.getElem?_replicate, if_pos (by omega)]
  have hcz := cntI_zero a0
  rw [← hL] at hcz
  simp only [Tw.run_opt, hrep, Option.bind_some, hcz]
  have hpos : ∀ i, i < a0.length → posI a0 i + 1 < s.length := fun i h => by
    have h1 := totI_take h
    have h2 := totI_mono (l := a0) (i + 1)
    have h3 : 2 ≤ cstI a0[i] := by unfold cstI; omega
    unfold posI
    omega
  have hC : law23_LeafSure.L12 a0 a1 1 0 s (cntI a0 0) = some (.inl (cntI a0 a0.length)) := by
    have := Lp_seq (fun q => (law23_LeafSure.l12 a0 a1 s q.1 q.2.1 q.2.2).run) (fun i => (((posI a0 i : Nat) : Int), ((i : Int), cntI a0 i))) (x := .inl (cntI a0 a0.length)) a0.length 0 (fun i _ hi' => ?_) ?_
    · exact this
    · have hi2 : i < a0.length := by omega
      have hp := hpos i hi2
      have k1 : w64 (((posI a0 i : Nat) : Int) + 1) = ((posI a0 i + 1 : Nat) : Int) := by rw [w64_of (by omega) (by omega)]; omega
      have hc : cstI a0[i] ≤ totI a0 := by
        have h1 := totI_take hi2
        have h2 := totI_mono (l := a0) (i + 1)
        omega
      have hpn : posI a0 (i + 1) = posI a0 i + cstI a0[i] := by unfold posI; rw [totI_take hi2]; omega
      simp only [law23_LeafSure.l12, k1, Int.toNat_natCast]
      rw [bb_pos (decide_eq_true (by omega)), bb_neg (decide_eq_false (by omega)), dd_pos (by rw [k1, cntI_len]; omega)]
      simp only [Tw.run_opt, cntI_get a0 i (show posI a0 i + 1 < totI a0 + 2 by omega), Option.bind_some]
      rw [dd_pos (by omega)]
      simp only [Tw.run_opt, List.getElem?_eq_getElem hi2, Option.bind_some, ref23_Cost_eq (w1 a0[i] (List.getElem_mem hi2)).2, Tw.run_ret]
      rw [w64_of (by omega) (by omega), w64_of (by omega) (by omega), cntI_set, hpn]
      rfl
    · simp only [law23_LeafSure.l12, Nat.zero_add]
      rw [bb_neg (decide_eq_false (by omega))]
      rfl
  simp only [hC, Option.bind_some, Tw.run_sm, Sum.elim_inl]
  obtain ⟨C, hCd⟩ : ∃ C, C = cntI a0 a0.length := ⟨_, rfl⟩
  have hCl : C.length = s.length := by rw [hCd, cntI_len, hL]
  rw [← hCd]
  obtain ⟨P, hP⟩ : ∃ P : Nat → Bool, P = fun i => !(C.getD i false) := ⟨_, rfl⟩
  obtain ⟨m, hm⟩ : ∃ m, m = min s.length a1.length := ⟨_, rfl⟩
  have hLp : law23_LeafSure.L20 a0 a1 true 0 s C = some (sameP P s a1 m, orP P s a1 m) := by
    have := Lp_seq (fun q => (law23_LeafSure.l20 a0 a1 C q.1 q.2.1 q.2.2).run) (fun i => (sameP P s a1 i, ((i : Int), orP P s a1 i))) (x := (sameP P s a1 m, orP P s a1 m)) m 0 (fun i _ hi => ?_) ?_
    · rw [orP_zero] at this
      exact this
    · have h1 : i < s.length := by omega
      have h2 : i < a1.length := by omega
      have hlt : ((0 : Int) ≤ (i : Int) ∧ (i : Int) < (((orP P s a1 i).length : Nat) : Int)) := ⟨by omega, by rw [orP_len]; omega⟩
      have e0 : raisP P s a1 i i = s.getD i 0 := by unfold raisP; rw [if_neg (by omega)]
      have hPi : P i = !(C.getD i false) := by rw [hP]
      simp only [law23_LeafSure.l20, Int.toNat_natCast]
      rw [bb_pos (decide_eq_true (by rw [orP_len]; omega)), bb_pos (decide_eq_true (by omega)), w64_of (by omega) (by omega), dd_pos (by rw [hCl]; omega)]
      simp only [Tw.run_opt, getD_some false (show i < C.length by omega), Option.bind_some]
      rw [← hPi]
      cases hp : P i with
      | false =>
        rw [bb_neg rfl, ← orP_keep (.inl hp), sameP, hp]
        simp [Tw.run_ret]
      | true =>
        rw [bb_pos rfl, dd_pos hlt]
        simp only [Tw.run_opt, orP_get h1, word_some h2, Option.bind_some, e0]
        rw [dd_pos hlt.1]
        simp only [Tw.run_opt, Option.bind_some]
        rw [dd_pos hlt]
        simp only [Tw.run_opt, Option.bind_some]
        by_cases hc : bOr .u32 (s.getD i 0) (a1.getD i 0) = s.getD i 0
        · rw [bb_neg (by simp only [hc]; simp), ← orP_keep (.inr hc)]
          rw [sameP, hp, hc]
          simp [Tw.run_ret]
        · rw [bb_pos (by simpa using hc), dd_pos hlt]
          simp only [Tw.run_opt, Option.bind_some]
          rw [dd_pos hlt.1]
          simp only [Tw.run_opt, Option.bind_some]
          rw [dd_pos hlt]
          simp only [Tw.run_opt, Option.bind_some, Tw.run_ret]
          rw [orP_set h1 hp, sameP, hp, show (bOr .u32 (s.getD i 0) (a1.getD i 0) == s.getD i 0) = false from by simpa using hc]
          simp
    · simp only [law23_LeafSure.l20, Tw.run_bb, Tw.run_ret, Nat.zero_add, orP_len]
      by_cases h : m < s.length
      · rw [if_pos (decide_eq_true (by omega)), if_neg (by rw [decide_eq_true_eq]; omega)]
      · rw [if_neg (by rw [decide_eq_true_eq]; omega)]
  have how : Words (orP P s a1 m) := orP_words hsw hu
  have hol : (orP P s a1 m).length = totI a0 + 2 := by rw [orP_len, hL]
  have hsure : ∀ j, j < s.length → (j = 0 ∨ ∃ i, i < a0.length ∧ j = posI a0 i + 1) → (orP P s a1 m).getD j 0 = s.getD j 0 := by
    intro j hj h
    rw [orP_getD hj]
    unfold raisP
    rw [if_neg]
    rintro ⟨_, h2⟩
    rw [hP] at h2
    have : C.getD j false = true := by
      rw [hCd, List.getD_eq_getElem?_getD, cntI_get a0 a0.length (by omega), decide_eq_true h]
      rfl
    have h3 : (!(C.getD j false)) = true := h2
    rw [this] at h3
    cases h3
  have hT0 : (orP P s a1 m).getD 0 0 = (a0.length : Int) := by
    rw [hsure 0 (by omega) (Or.inl rfl), hsd]
    rfl
  have hT := leaf_Take_eq how (by omega) (Or.inl (by rw [hT0]; omega))
  have hbad : sameP P s a1 m = false → takL (orP P s a1 m) = (12, []) := by
    intro hf
    have hne := sameP_ne (P := P) (u := a1) (show m ≤ s.length by omega) hf
    unfold takL
    by_cases g : (orP P s a1 m).length < 2 ∨ (orP P s a1 m).getD 0 0 = 0 ∨ (orP P s a1 m).getD 0 0 > ((orP P s a1 m).length : Int)
    · rw [if_pos g]
    rw [if_neg g, hT0, Int.toNat_natCast]
    cases hp : parI a0.length ((orP P s a1 m).drop 1) with
    | none => rfl
    | some p =>
      obtain ⟨l', r⟩ := p
      simp only []
      have hr := parI_shape (l := a0) (B := (orP P s a1 m).drop 1) (fun i hi => by
        have hp := hpos i hi
        have hq := totI_take hi
        have hq2 := totI_mono (l := a0) (i + 1)
        have hq3 : 2 ≤ cstI a0[i] := by unfold cstI; omega
        rw [List.getD_eq_getElem?_getD, List.getElem?_drop, ← List.getD_eq_getElem?_getD]
        have : 1 + (totI (a0.take i) + 1) = posI a0 i + 1 := by unfold posI; omega
        rw [this, hsure _ hp (Or.inr ⟨i, hi, rfl⟩), hsd, ← bodI_size hi, ← this, List.getD_eq_getElem?_getD, List.getElem?_append_left (by rw [leafL_len]; unfold posI at hp; omega), List.getD_eq_getElem?_getD]
        unfold leafL
        rw [show 1 + (totI (a0.take i) + 1) = (totI (a0.take i) + 1) + 1 by omega, List.getElem?_cons_succ]) hp
      have hrl : r.length = 1 := by rw [hr, List.drop_drop, List.length_drop, hol]; omega
      by_cases g4 : r.length = 0 ∨ rightI l' = false ∨ rightB ((orP P s a1 m).take ((orP P s a1 m).length - r.length + 1)) = false
      · rw [if_pos g4]
      · exfalso
        have hrb : rightB ((orP P s a1 m).take ((orP P s a1 m).length - r.length + 1)) = true := by
          cases h : rightB ((orP P s a1 m).take ((orP P s a1 m).length - r.length + 1)) with
          | true => rfl
          | false => exact absurd (Or.inr (Or.inr h)) g4
        rw [hrl, hol, show totI a0 + 2 - 1 + 1 = totI a0 + 2 by omega, List.take_of_length_le (by omega)] at hrb
        have := sure_seal (A := s) (B := orP P s a1 m) orP_len.symm (by omega) (fun j hj => by
          rw [orP_getD hj]
          exact raisP_up hsw hu) (by
            rw [hsd]
            unfold rightB
            rw [List.length_append, List.length_singleton, Nat.add_sub_cancel, List.getD_eq_getElem?_getD, List.getElem?_append_right (Nat.le_refl _), Nat.sub_self]
            simp) hrb
        exact hne this.symm
  simp only [Tw.run_opt, hLp, hT, Option.bind_some]
  cases hsm : sameP P s a1 m with
  | true =>
    have htk := takL_lay g2 g3 (by omega) []
    rw [List.append_nil, ← hsd] at htk
    rw [sameP_eq hsm, htk, bb_pos rfl]
    simp only [Tw.run_opt, ref18_Same_eq (show a0.length ≤ 140737488351232 by omega), Option.bind_some]
    rw [bb_pos (by simp), bb_pos (by rfl)]
    rfl
  | false =>
    rw [hbad hsm]
    rfl

end Go.Proofs.Ytpidbpmkogbdeaa.Pure
