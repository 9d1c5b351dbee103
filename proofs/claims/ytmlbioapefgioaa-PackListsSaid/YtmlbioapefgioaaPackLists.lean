/- The plain truth of PackLists. -/
import Derived.Test.YtmlbioapefgioaaFlaw24PackLists
import Derived.Test.YtmlbioapefgioaaQAwake24
import Derived.Test.YtmlbioapefgioaaQPack3
namespace Go.Proofs.Ytmlbioapefgioaa.Pure
open Go Go.Proofs.Ytmlbioapefgioaa.Va
set_option linter.unusedVariables false
set_option linter.unusedSimpArgs false

theorem PackLists_loop {l : List Act24} {R : Nat} (hR : 62 ≤ R) (hR2 : R ≤ 1022) (hl : l.length ≤ 80) (hg : ∀ x ∈ l, InR .u32 x.key ∧ x.data.size ≤ 64) (a0 a1 : Int) (a2 : ByteArray) : ∀ (k i : Nat) (ls : List (List ItemV)), k + i = l.length → Ft R i ls → ∃ q, law24_PackLists.L5 (R : Int) l (i : Int) a0 a1 a2 ls = some q ∧ Ft R l.length q
  | 0, i, ls, h, hp => by
    refine ⟨ls, Lp_end ?_, hp.mono (by omega)⟩
    simp only [law24_PackLists.l5]
    rw [bb_neg (decide_eq_false (by omega))]
    rfl
  | k + 1, i, ls, h, hp => by
    have hi : i < l.length := by omega
    obtain ⟨g1, g2⟩ := hg _ (List.getElem_mem hi)
    have e1 : w64 ((i : Int) + 1) = ((i + 1 : Nat) : Int) := by rw [w64_of (by omega) (by omega)]; omega
    have step : ∃ ls', Ft R (i + 1) ls' ∧ (law24_PackLists.l5 (R : Int) l a0 a1 a2 (i : Int) ls).run = some (.inl (((i + 1 : Nat) : Int), ls')) := by
      simp only [law24_PackLists.l5]
      rw [bb_pos (decide_eq_true (by omega)), dd_pos (by omega)]
      simp only [Int.toNat_natCast, Tw.run_opt, List.getElem?_eq_getElem hi, Option.bind_some]
      by_cases hk : l[i].kind = 2
      · refine ⟨_, (hp.cut l[i].key).1.mono (Nat.le_succ i), ?_⟩
        rw [bb_pos (by rw [beq_iff_eq]; exact hk), dd_pos (by omega)]
        simp only [Tw.run_opt, List.getElem?_eq_getElem hi, Option.bind_some, pack_Cut_eq hp.pk (show i ≤ 300 by omega) l[i].key hR2, e1]
        rfl
      · refine ⟨_, (hp.put hR g1 g2).1, ?_⟩
        rw [bb_neg (by rw [beq_eq_false_iff_ne]; exact hk), dd_pos (by omega)]
        simp only [Tw.run_opt, List.getElem?_eq_getElem hi, Option.bind_some, pack_Put_eq hp.pk (show i ≤ 300 by omega) g1 g2 hR, e1]
        rfl
    obtain ⟨ls', s1, s2⟩ := step
    obtain ⟨q, q1, q2⟩ := PackLists_loop hR hR2 hl hg a0 a1 a2 k (i + 1) ls' (by omega) s1
    exact ⟨q, (Lp_next s2).trans q1, q2⟩

theorem lists_L24 {p more : List (List ItemV)} {f o : Nat} (h : f + o ≤ p.length) (hn : p.length ≤ 1000) (hl : ∀ l ∈ p, l.length ≤ 1000) (b c : Int) : law24_PackLists.L24 0 p (putAt p f o more) (f : Int) b c = some (.inl ()) := by
  refine Lp_seq (fun s => (law24_PackLists.l24 p (putAt p f o more) (f : Int) b c s).run) (fun i => (i : Int)) f 0 (fun i _ hi => ?_) ?_
  · rw [Nat.zero_add] at hi
    have e1 : w64 ((i : Int) + 1) = ((i + 1 : Nat) : Int) := by rw [w64_of (by omega) (by omega)]; omega
    have hi2 : i < p.length := by omega
    have hg : (putAt p f o more)[i]? = some p[i] := by rw [putAt_get1 h hi, List.getElem?_eq_getElem hi2]
    have hlt := (List.getElem?_eq_some_iff.1 hg).1
    have := hl _ (List.getElem_mem hi2)
    simp only [law24_PackLists.l24]
    rw [bb_pos (decide_eq_true (by omega)), dd_pos (by omega)]
    simp only [Int.toNat_natCast, Tw.run_opt, List.getElem?_eq_getElem hi2, Option.bind_some]
    rw [dd_pos (by omega)]
    simp only [Tw.run_opt, hg, Option.bind_some, ref18_Same_eq (show p[i].length ≤ 140737488351232 by omega), e1]
    rw [bb_neg (by simp)]
    rfl
  · rw [Nat.zero_add]
    simp only [law24_PackLists.l24]
    rw [bb_neg (decide_eq_false (by omega))]
    rfl
theorem lists_L29 {p more : List (List ItemV)} {f o : Nat} (h : f + o ≤ p.length) (ho : o ≤ 2) (hm : more.length ≤ 2) (hn : p.length ≤ 1000) (hl : ∀ l ∈ p, l.length ≤ 1000) : law24_PackLists.L29 (w64 ((f : Int) + (o : Int))) p (putAt p f o more) (f : Int) (o : Int) (more.length : Int) = some (.inl ()) := by
  have e : w64 ((f : Int) + (o : Int)) = ((f + o : Nat) : Int) := by rw [w64_of (by omega) (by omega)]; omega
  rw [e]
  refine Lp_seq (fun s => (law24_PackLists.l29 p (putAt p f o more) (f : Int) (o : Int) (more.length : Int) s).run) (fun i => (i : Int)) (p.length - (f + o)) (f + o) (fun i h0 hi => ?_) ?_
  · have e1 : w64 ((i : Int) + 1) = ((i + 1 : Nat) : Int) := by rw [w64_of (by omega) (by omega)]; omega
    have hi2 : i < p.length := by omega
    have hg : (putAt p f o more)[i - o + more.length]? = some p[i] := by rw [putAt_get2 h h0, List.getElem?_eq_getElem hi2]
    have hlt := (List.getElem?_eq_some_iff.1 hg).1
    have := hl _ (List.getElem_mem hi2)
    have e2 : w64 (w64 ((i : Int) - (o : Int)) + (more.length : Int)) = ((i - o + more.length : Nat) : Int) := by
      rw [w64_of (n := (i : Int) - (o : Int)) (by omega) (by omega), w64_of (by omega) (by omega)]; omega
    simp only [law24_PackLists.l29, e2]
    rw [bb_pos (decide_eq_true (by omega)), dd_pos (by omega)]
    simp only [Int.toNat_natCast, Tw.run_opt, List.getElem?_eq_getElem hi2, Option.bind_some]
    rw [dd_pos (by omega)]
    simp only [Tw.run_opt, hg, Option.bind_some, ref18_Same_eq (show p[i].length ≤ 140737488351232 by omega), e1]
    rw [bb_neg (by simp)]
    rfl
  · rw [show f + o + (p.length - (f + o)) = p.length by omega]
    simp only [law24_PackLists.l29]
    rw [bb_neg (decide_eq_false (by omega))]
    rfl

theorem PackLists (a0 : Int) (a1 : List Act24) (a2_0 : Int) (a2_1_0 : Int) (a2_1_1 : ByteArray) (w0 : InR .i64 a0) (w1 : a1.length * 32 ≤ reachBytes) (w2 : ∀ x3 ∈ a1, InR .i64 x3.kind ∧ InR .u32 x3.key ∧ x3.data.size ≤ reachBytes) (w3 : InR .i64 a2_0) (w4 : InR .u32 a2_1_0) (w5 : a2_1_1.size ≤ reachBytes) : law24_PackLists.c a0 a1 a2_0 a2_1_0 a2_1_1 = some true := by
  simp only [law24_PackLists.c, law24_PackLists.t]
  by_cases g0 : a0 < 62
  · rw [bb_pos (decide_eq_true g0)]
    simp only [Tw.run_opt, awake24, Option.bind_some]
    rfl
  rw [bb_neg (decide_eq_false g0)]
  by_cases g1 : a0 > 1022
  · rw [bb_pos (decide_eq_true g1)]
    simp only [Tw.run_opt, awake24, Option.bind_some]
    rfl
  rw [bb_neg (decide_eq_false g1)]
  obtain ⟨b, hb, hb2⟩ := great24_eq (l := a1) (by rw [reach_eq] at w1; exact w1)
  simp only [Tw.run_opt, hb, Option.bind_some]
  cases b with
  | true =>
    rw [bb_pos (by rfl)]
    simp only [Tw.run_opt, awake24, Option.bind_some]
    rfl
  | false =>
  obtain ⟨h1, h2⟩ := hb2 rfl
  rw [bb_neg (by rfl)]
  by_cases g2 : ((a2_1_1.size : Nat) : Int) > 64
  · rw [bb_pos (decide_eq_true g2)]
    simp only [Tw.run_opt, awake24, Option.bind_some]
    rfl
  rw [bb_neg (decide_eq_false g2)]
  obtain ⟨R, rfl⟩ : ∃ R : Nat, a0 = (R : Int) := ⟨a0.toNat, by omega⟩
  have hR : 62 ≤ R := by omega
  have hR2 : R ≤ 1022 := by omega
  have hd : a2_1_1.size ≤ 64 := by omega
  obtain ⟨p, hL, hF⟩ := PackLists_loop hR hR2 h1 (fun x hx => ⟨(w2 x hx).2.1, h2 x hx⟩) a2_0 a2_1_0 a2_1_1 a1.length 0 [] (by omega) (Ft.nil R 0)
  have hF := hF.mono (m := 80) h1
  have hc := hF.pk.count
  have hfl := hF.pk.len
  have hleaf : ∀ l ∈ p, l.length ≤ 1000 := fun l hl => by have := hF.pk.leaf hl; omega
  have hits : Its p.flatten := fun x hx => by
    obtain ⟨l, hl, hx⟩ := List.mem_flatten.1 hx
    exact (hF.pk.gd _ hl).its x hx
  have rb := reach_eq
  have hputl := (putI_len p.flatten a2_1_0 a2_1_1).1
  have hcutl := cutI_len p.flatten a2_1_0
  simp only [Tw.run_opt]
  rw [show law24_PackLists.L5 (R : Int) a1 0 a2_0 a2_1_0 a2_1_1 [] = some p from hL]
  simp only [Option.bind_some, Tw.run_opt, pack_Flat_eq (show p.flatten.length * 24 ≤ 140737488355328 by omega) (show p.length < 4611686018427387904 by omega), ref18_Put_eq hits (show p.flatten.length * 24 ≤ reachBytes by omega) w4, pack_Put_eq hF.pk (show 80 ≤ 300 by omega) w4 hd hR]
  have tail : ∀ {n : Nat} {q : List (List ItemV)} (hq : Ft R n q) (hn : n ≤ 300), ref24_Fits.c q (R : Int) = some true ∧ ref24_Flat.c q = some q.flatten := fun {n q} hq hn => by
    have c1 := hq.pk.count
    have c2 := hq.pk.len
    refine ⟨?_, ref24_Flat_eq (by omega) (by omega)⟩
    rw [ref24_Fits_eq (hq.pk.sz (by omega)) (by omega) (by omega), hq.fits]
  by_cases g3 : a2_0 = 2
  · rw [bb_pos (by rw [beq_iff_eq]; exact g3)]
    obtain ⟨q1, q2, q3, q4⟩ := hF.cut a2_1_0
    have hl2 := q1.pk.len
    simp only [Tw.run_opt, ref18_Cut_eq (show p.flatten.length * 24 ≤ reachBytes by omega) a2_1_0, pack_Cut_eq hF.pk (show 80 ≤ 300 by omega) a2_1_0 hR2, Option.bind_some]
    generalize cutS R p a2_1_0 = r at *
    obtain ⟨rf, ro, rm, rk, rq⟩ := r
    simp only at q1 q2 q3 q4 hl2 ⊢
    obtain ⟨t1, t2⟩ := tail q1 (by omega)
    obtain ⟨f, o, more, rfl, rfl, rfl, rfl, b1, b2, b3⟩ := q4
    have el : (((putAt p f o more).length : Nat) : Int) = w64 (w64 ((p.length : Int) - (o : Int)) + (more.length : Int)) := by
      rw [putAt_len2 b1, w64_of (n := (p.length : Int) - (o : Int)) (by omega) (by omega), w64_of (by omega) (by omega)]; omega
    rw [bb_neg (by rw [q3]; simp)]
    simp only [Tw.run_opt, t1, Option.bind_some]
    rw [bb_neg (by rfl)]
    simp only [Tw.run_opt, t2, Option.bind_some, ref18_Same_eq (show (putAt p f o more).flatten.length ≤ 140737488351232 by omega)]
    rw [bb_neg (by simp [q2]), bb_neg (by rw [el]; simp), bb_neg (decide_eq_false (by omega)), bb_neg (decide_eq_false (by omega)), bb_neg (decide_eq_false (by omega)), bb_neg (decide_eq_false (by omega)), bb_neg (decide_eq_false (by omega)), bb_neg (decide_eq_false (by rw [w64_of (by omega) (by omega)]; omega))]
    simp only [Tw.run_opt, lists_L24 b1 (by omega) hleaf, lists_L29 b1 b2 b3 (by omega) hleaf, Option.bind_some, sm_inl, awake24]
    rfl
  · rw [bb_neg (by rw [beq_eq_false_iff_ne]; exact g3)]
    obtain ⟨q1, q2, q4⟩ := hF.put hR w4 hd
    have hl2 := q1.pk.len
    generalize putS R p a2_1_0 a2_1_1 = r at *
    obtain ⟨rf, ro, rm, rq⟩ := r
    simp only at q1 q2 q4 hl2 ⊢
    obtain ⟨t1, t2⟩ := tail q1 (by omega)
    obtain ⟨f, o, more, rfl, rfl, rfl, rfl, b1, b2, b3⟩ := q4
    have el : (((putAt p f o more).length : Nat) : Int) = w64 (w64 ((p.length : Int) - (o : Int)) + (more.length : Int)) := by
      rw [putAt_len2 b1, w64_of (n := (p.length : Int) - (o : Int)) (by omega) (by omega), w64_of (by omega) (by omega)]; omega
    simp only [Tw.run_opt, t1, Option.bind_some]
    rw [bb_neg (by rfl)]
    simp only [Tw.run_opt, t2, Option.bind_some, ref18_Same_eq (show (putAt p f o more).flatten.length ≤ 140737488351232 by omega)]
    rw [bb_neg (by simp [q2]), bb_neg (by rw [el]; simp), bb_neg (decide_eq_false (by omega)), bb_neg (decide_eq_false (by omega)), bb_neg (decide_eq_false (by omega)), bb_neg (decide_eq_false (by omega)), bb_neg (decide_eq_false (by omega)), bb_neg (decide_eq_false (by rw [w64_of (by omega) (by omega)]; omega))]
    simp only [Tw.run_opt, lists_L24 b1 (by omega) hleaf, lists_L29 b1 b2 b3 (by omega) hleaf, Option.bind_some, sm_inl, awake24]
    rfl

end Go.Proofs.Ytmlbioapefgioaa.Pure
