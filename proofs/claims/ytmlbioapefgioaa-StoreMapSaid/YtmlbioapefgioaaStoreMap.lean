/- The plain truth of StoreMap. (MASKED) -/
import Derived.Test.YtmlbioapefgioaaFlaw28
import Derived.Test.YtmlbioapefgioaaFlaw28StoreMap
import Derived.Test.YtmlbioapefgioaaQAll1
set_option linter.unusedSimpArgs false
set_option linter.unusedVariables false
namespace Go.Proofs.Ytmlbioapefgioaa.Pure
open Go Go.Proofs.Ytmlbioapefgioaa.Va

/-- What is known of the record asked for. -/
structure Kn28 (fs : List FormV) (l : List ItemV) (form id : Int) (has : Bool) (gf : Int) (gv : List ValueV) : Prop where
 yes : has = true → ∃ x, frm fs form = some x ∧ ¬ badN form id ∧ hasR x.id x.fields form gv ∧ gf = form ∧ findR l (keyN form id) = (layD x gv, true)
 no : has = false → ∀ x, frm fs form = some x → ¬ badN form id → (findR l (keyN form id)).2 = false
theorem StoreMap_loop {v : Int} {fs : List FormV} (hs : rightS v fs) {l : List Act28} (hl : l.length ≤ 80) (hg : ∀ x ∈ l, x.vals.length ≤ 40) (kd id form : Int) (vs : List ValueV) : ∀ (k i : Nat) (ls : List (List ItemV)) (has : Bool) (gf : Int) (gv : List ValueV), k + i = l.length → Ft 62 i ls → gv.length ≤ 40 → Kn28 fs ls.flatten form id has gf gv →
  ∃ q has' gf' gv', law28_StoreMap.L7 l ls has (i : Int) v fs kd id form vs gf gv = some (.inl (q, (has', (gf', gv')))) ∧ Ft 62 l.length q ∧ gv'.length ≤ 40 ∧ Kn28 fs q.flatten form id has' gf' gv'
 | 0, i, ls, has, gf, gv, h, hp, hv, hk => by
  refine ⟨ls, has, gf, gv, Lp_end ?_, hp.mono (by omega), hv, hk⟩
  simp only [law28_StoreMap.l7]
  rw [bb_neg (decide_eq_false (by omega)), Tw.run_ret]
 | k + 1, i, ls, has, gf, gv, h, hp, hv, hk => by
  have hi : i < l.length := by omega
  have hfs : fs.length ≤ 1000 := by have := hs.2.1; omega
  have hx : l[i]? = some l[i] := List.getElem?_eq_getElem hi
  have hxv := hg _ (List.getElem_mem hi)
  have e1 : w64 ((i : Int) + 1) = ((i + 1 : Nat) : Int) := by rw [w64_of (by omega) (by omega)]; omega
  have step : ∃ q has' gf' gv', Ft 62 (i + 1) q ∧ gv'.length ≤ 40 ∧ Kn28 fs q.flatten form id has' gf' gv' ∧ (law28_StoreMap.l7 l v fs kd id form vs ls has (i : Int) gf gv).run = some (.inl (q, (has', (((i + 1 : Nat) : Int), (gf', gv'))))) := by
   generalize l[i] = a at hx hxv
   simp only [law28_StoreMap.l7]
   rw [bb_pos (decide_eq_true (by omega)), dd_pos (by omega), Int.toNat_natCast, opt_some hx]
   by_cases hd : a.kind = 2
   ·-- a record is deleted
    have hdel := store_Delete_eq v hfs hp.pk (show i ≤ 300 by omega) a.form a.id
    -- what comes of it
    have key : (delR fs ls a.form a.id).2.2.2.1 = 0 → Ft 62 (i + 1) (delR fs ls a.form a.id).2.2.2.2 ∧ (∃ x, frm fs a.form = some x ∧ ¬ badN a.form a.id) ∧ (findR ls.flatten (keyN a.form a.id)).2 = true ∧ (delR fs ls a.form a.id).2.2.2.2.flatten = cutI ls.flatten (keyN a.form a.id) := by
     unfold delR
     cases hf : frm fs a.form with
     | none => intro h; cases h
     | some x =>
      simp only []
      by_cases hb : badN a.form a.id
      ·rw [if_pos hb]; intro h; cases h
      rw [if_neg hb]
      obtain ⟨c1, c2, c3, _⟩ := hp.cut (keyN a.form a.id)
      rw [cut_has] at c3
      cases hc : (cutS 62 ls (keyN a.form a.id)).2.2.2.1 with
      | false => intro h; cases h
      | true =>
       intro _
       rw [if_pos rfl]
       exact ⟨c1.mono (by omega), ⟨x, rfl, hb⟩, by rw [← c3, hc], c2⟩
    have key2 : (delR fs ls a.form a.id).2.2.2.1 ≠ 0 → ∀ x, frm fs a.form = some x → ¬ badN a.form a.id → (findR ls.flatten (keyN a.form a.id)).2 = false := by
     intro h x hx hb
     unfold delR at h
     rw [hx] at h
     simp only [] at h
     rw [if_neg hb] at h
     obtain ⟨_, _, c3, _⟩ := hp.cut (keyN a.form a.id)
     rw [cut_has] at c3
     rw [← c3]
     cases hc : (cutS 62 ls (keyN a.form a.id)).2.2.2.1 with
     | false => rfl
     | true => rw [hc, if_pos rfl] at h; exact absurd rfl h
    generalize delR fs ls a.form a.id = r at hdel key key2
    by_cases hform : a.form = form
    ·rw [bb_pos (by rw [beq_iff_eq]; exact hform), bb_pos (by rw [beq_iff_eq]; exact hd), opt_some hdel]
     by_cases hid : a.id = id
     ·rw [bb_pos (by rw [beq_iff_eq]; exact hid)]
      rw [hform, hid] at key key2
      by_cases hr : r.2.2.2.1 = 0
      ·obtain ⟨q1, ⟨x, q2, q3⟩, q4, q5⟩ := key hr
       have hh : has = true := by
        cases has with
        | true => rfl
        | false => have := hk.no rfl x q2 q3; rw [q4] at this; cases this
       subst hh
       refine ⟨r.2.2.2.2, false, gf, gv, q1, hv, ⟨(fun h => nomatch h), fun _ y _ _ => ?_⟩, ?_⟩
       ·rw [q5, find_cut, if_pos rfl]
       ·rw [bb_neg (by rw [hr]; rfl), bb_pos (by rw [hr]; rfl), bb_pos (by rfl), Tw.run_ret, e1, beq_iff_eq.2 hid]
        rfl
      ·have hh : has = false := by
        cases has with
        | false => rfl
        | true =>
         obtain ⟨x, y1, y2, _, _, y5⟩ := hk.yes rfl
         have := key2 hr x y1 y2
         rw [y5] at this
         cases this
       subst hh
       refine ⟨ls, false, gf, gv, hp.mono (by omega), hv, hk, ?_⟩
       rw [bb_neg (by rw [beq_eq_false_iff_ne.2 hr]; rfl), bb_neg (by rw [beq_eq_false_iff_ne]; exact hr), Tw.run_ret, e1]
     ·rw [bb_neg (by rw [beq_eq_false_iff_ne]; exact hid)]
      by_cases hr : r.2.2.2.1 = 0
      ·obtain ⟨q1, ⟨x, q2, q3⟩, q4, q5⟩ := key hr
       have hkk : Kn28 fs r.2.2.2.2.flatten form id has gf gv := by
        have hne : ¬ badN form id → keyN form id ≠ keyN a.form a.id := fun hb e => hid ((keyN_inj hb q3).1 e).2.symm
        refine ⟨fun h => ?_, fun h y hy1 hy2 => ?_⟩
        ·obtain ⟨x, y1, y2, y3, y4, y5⟩ := hk.yes h
         exact ⟨x, y1, y2, y3, y4, by rw [q5, find_cut, if_neg (hne y2), y5]⟩
        ·rw [q5, find_cut, if_neg (hne hy2)]
         exact hk.no h y hy1 hy2
       refine ⟨r.2.2.2.2, has, gf, gv, q1, hv, hkk, ?_⟩
       rw [bb_pos (by rw [hr]; rfl)]
       cases has with
       | true => rw [bb_pos (by rfl), Tw.run_ret, e1, beq_eq_false_iff_ne.2 hid]; rfl
       | false => rw [bb_neg (by rfl), Tw.run_ret, e1]
      ·refine ⟨ls, has, gf, gv, hp.mono (by omega), hv, hk, ?_⟩
       rw [bb_neg (by rw [beq_eq_false_iff_ne]; exact hr), Tw.run_ret, e1]
    ·rw [bb_neg (by rw [beq_eq_false_iff_ne]; exact hform), bb_pos (by rw [beq_iff_eq]; exact hd), opt_some hdel]
     by_cases hr : r.2.2.2.1 = 0
     ·obtain ⟨q1, ⟨x, q2, q3⟩, q4, q5⟩ := key hr
      have hkk : Kn28 fs r.2.2.2.2.flatten form id has gf gv := by
       have hne : ¬ badN form id → keyN form id ≠ keyN a.form a.id := fun hb e => hform ((keyN_inj hb q3).1 e).1.symm
       refine ⟨fun h => ?_, fun h y hy1 hy2 => ?_⟩
       ·obtain ⟨x, y1, y2, y3, y4, y5⟩ := hk.yes h
        exact ⟨x, y1, y2, y3, y4, by rw [q5, find_cut, if_neg (hne y2), y5]⟩
       ·rw [q5, find_cut, if_neg (hne hy2)]
        exact hk.no h y hy1 hy2
      refine ⟨r.2.2.2.2, has, gf, gv, q1, hv, hkk, ?_⟩
      rw [bb_pos (by rw [hr]; rfl)]
      cases has with
      | true => rw [bb_pos (by rfl), Tw.run_ret, e1]; rfl
      | false => rw [bb_neg (by rfl), Tw.run_ret, e1]
     ·refine ⟨ls, has, gf, gv, hp.mono (by omega), hv, hk, ?_⟩
      rw [bb_neg (by rw [beq_eq_false_iff_ne]; exact hr), Tw.run_ret, e1]
   ·-- a record is put
    have hput := store_Put_eq v hs hp.pk (show i ≤ 300 by omega) a.id a.form (vs := a.vals) (by omega)
    have key : (putR fs ls a.id a.form a.vals).2.2.2.1 = 0 → Ft 62 (i + 1) (putR fs ls a.id a.form a.vals).2.2.2.2 ∧ ∃ x, frm fs a.form = some x ∧ ¬ badN a.form a.id ∧ hasR x.id x.fields a.form a.vals ∧ (putR fs ls a.id a.form a.vals).2.2.2.2.flatten = putI ls.flatten (keyN a.form a.id) (layD x a.vals) := by
     unfold putR
     cases hf : frm fs a.form with
     | none => intro h; cases h
     | some x =>
      simp only []
      by_cases hb : badN a.form a.id
      ·rw [if_pos hb]; intro h; cases h
      rw [if_neg hb]
      by_cases hr : hasR x.id x.fields a.form a.vals
      ·rw [if_pos hr]
       intro _
       obtain ⟨c1, c2, _⟩ := hp.put (show 62 ≤ 62 by omega) (keyN_u32 hb) (layD_size hr)
       exact ⟨c1, x, rfl, hb, hr, c2⟩
      ·rw [if_neg hr]; intro h; cases h
    generalize putR fs ls a.id a.form a.vals = r at hput key
    by_cases hform : a.form = form
    ·rw [bb_pos (by rw [beq_iff_eq]; exact hform), bb_neg (by rw [beq_eq_false_iff_ne]; exact hd), opt_some hput]
     by_cases hr : r.2.2.2.1 = 0
     ·obtain ⟨q1, x, q2, q3, q4, q5⟩ := key hr
      rw [bb_pos (by rw [hr]; rfl)]
      by_cases hid : a.id = id
      ·refine ⟨r.2.2.2.2, true, a.form, a.vals, q1, hxv, ⟨fun _ => ⟨x, ?_, ?_, ?_, hform, ?_⟩, fun h => nomatch h⟩, ?_⟩
       ·rw [← hform]; exact q2
       ·rw [← hform, ← hid]; exact q3
       ·rw [← hform]; exact q4
       ·rw [q5, find_put, if_pos (by rw [hform, hid])]
       ·rw [bb_pos (by rw [beq_iff_eq]; exact hid), Tw.run_ret, e1]
      ·have hne : ¬ badN form id → keyN form id ≠ keyN a.form a.id := fun hb e => hid ((keyN_inj hb q3).1 e).2.symm
       refine ⟨r.2.2.2.2, has, gf, gv, q1, hv, ⟨fun h => ?_, fun h y hy1 hy2 => ?_⟩, ?_⟩
       ·obtain ⟨x, y1, y2, y3, y4, y5⟩ := hk.yes h
        exact ⟨x, y1, y2, y3, y4, by rw [q5, find_put, if_neg (hne y2), y5]⟩
       ·rw [q5, find_put, if_neg (hne hy2)]
        exact hk.no h y hy1 hy2
       ·rw [bb_neg (by rw [beq_eq_false_iff_ne]; exact hid), Tw.run_ret, e1]
     ·refine ⟨ls, has, gf, gv, hp.mono (by omega), hv, hk, ?_⟩
      rw [bb_neg (by rw [beq_eq_false_iff_ne]; exact hr), Tw.run_ret, e1]
    ·rw [bb_neg (by rw [beq_eq_false_iff_ne]; exact hform), bb_neg (by rw [beq_eq_false_iff_ne]; exact hd), opt_some hput]
     by_cases hr : r.2.2.2.1 = 0
     ·obtain ⟨q1, x, q2, q3, q4, q5⟩ := key hr
      have hne : ¬ badN form id → keyN form id ≠ keyN a.form a.id := fun hb e => hform ((keyN_inj hb q3).1 e).1.symm
      refine ⟨r.2.2.2.2, has, gf, gv, q1, hv, ⟨fun h => ?_, fun h y hy1 hy2 => ?_⟩, ?_⟩
      ·obtain ⟨x, y1, y2, y3, y4, y5⟩ := hk.yes h
       exact ⟨x, y1, y2, y3, y4, by rw [q5, find_put, if_neg (hne y2), y5]⟩
      ·rw [q5, find_put, if_neg (hne hy2)]
       exact hk.no h y hy1 hy2
      ·rw [bb_pos (by rw [hr]; rfl), Tw.run_ret, e1]
     ·refine ⟨ls, has, gf, gv, hp.mono (by omega), hv, hk, ?_⟩
      rw [bb_neg (by rw [beq_eq_false_iff_ne]; exact hr), Tw.run_ret, e1]
  obtain ⟨q, h', gf', gv', s1, s2, s3, s4⟩ := step
  obtain ⟨q2, h2, gf2, gv2, t1, t2, t3, t4⟩ := StoreMap_loop hs hl hg kd id form vs k (i + 1) q h' gf' gv' (by omega) s1 s2 s3
  exact ⟨q2, h2, gf2, gv2, (Lp_next s4).trans t1, t2, t3, t4⟩

theorem StoreMap (a0_0 : Int) (a0_1 : List FormV) (a1 : List Act28) (a2_0 : Int) (a2_1 : Int) (a2_2_0 : Int) (a2_2_1 : List ValueV) (w0 : InR .i64 a0_0) (w1 : a0_1.length * 32 ≤ reachBytes) (w2 : ∀ x3 ∈ a0_1, InR .i64 x3.id ∧ x3.fields.length * 40 ≤ reachBytes ∧ (∀ x6 ∈ x3.fields, InR .i64 x6.id ∧ InR .i64 x6.kind ∧ InR .i64 x6.lo ∧ InR .i64 x6.hi ∧ InR .i64 x6.most)) (w3 : a1.length * 48 ≤ reachBytes) (w4 : ∀ x13 ∈ a1, InR .i64 x13.kind ∧ InR .i64 x13.id ∧ InR .i64 x13.form ∧ x13.vals.length * 24 ≤ reachBytes ∧ (∀ x18 ∈ x13.vals, InR .i64 x18.n ∧ x18.s.size ≤ reachBytes)) (w5 : InR .i64 a2_0) (w6 : InR .i64 a2_1) (w7 : InR .i64 a2_2_0) (w8 : a2_2_1.length * 24 ≤ reachBytes) (w9 : ∀ x25 ∈ a2_2_1, InR .i64 x25.n ∧ x25.s.size ≤ reachBytes) : law28_StoreMap.c a0_0 a0_1 a1 a2_0 a2_1 a2_2_0 a2_2_1 = some true := by
 have rb := reach_eq
 simp only [law28_StoreMap.c, law28_StoreMap.t]
 obtain ⟨b, hb, hb2⟩ := great28_eq a0_0 a0_1 (l := a1) (by omega)
 rw [opt_some hb]
 cases b with
 | true => rw [bb_pos (by rfl), opt_some awake28, Tw.run_ret]
 | false =>
 obtain ⟨b', hb', _⟩ := great28_eq a0_0 a0_1 (l := [⟨a2_0, a2_1, a2_2_0, a2_2_1⟩]) (by simp)
 rw [bb_neg (by rfl), opt_some hb']
 cases b' with
 | true => rw [bb_pos (by rfl), opt_some awake28, Tw.run_ret]
 | false =>
 obtain ⟨hs, hl, hg⟩ := hb2 rfl
 obtain ⟨q, has, gf, gv, hL, hF, hv, hk⟩ := StoreMap_loop hs hl hg a2_0 a2_1 a2_2_0 a2_2_1 a1.length 0 [] false 0 [] (by omega) (Ft.nil 62 0) (by simp) ⟨(fun h => nomatch h), fun _ _ _ _ => rfl⟩
 have hL : law28_StoreMap.L7 a1 [] false 0 a0_0 a0_1 a2_0 a2_1 a2_2_0 a2_2_1 0 [] = _ := hL
 have hget := store_Get_eq a0_0 (show a0_1.length ≤ 1000 by have := hs.2.1; omega) hF (by omega) a2_2_0 a2_1
 rw [bb_neg (by rfl), opt_some hL, sm_inl]
 rw [opt_some hget]
 cases has with
 | true =>
  obtain ⟨x, y1, y2, y3, y4, y5⟩ := hk.yes rfl
  have hg : getR a0_1 q.flatten a2_2_0 a2_1 = (a2_2_0, 0, gv) := by
   unfold getR
   rw [y1]
   simp only []
   rw [if_neg y2, y5, if_pos rfl, readR_lay y3]
  rw [hg, bb_pos (by rfl), bb_pos (by rfl), opt_some (same14_eq _ _ (show gv.length ≤ 140737488355328 by omega)), bb_pos (decide_eq_true ⟨y4.symm, rfl⟩), opt_some awake28, Tw.run_ret]
 | false =>
  have hg : getR a0_1 q.flatten a2_2_0 a2_1 = (0, 2, []) ∨ getR a0_1 q.flatten a2_2_0 a2_1 = (0, 8, []) := by
   unfold getR
   cases hf : frm a0_1 a2_2_0 with
   | none => exact Or.inl rfl
   | some x =>
    simp only []
    by_cases hbad : badN a2_2_0 a2_1
    ·rw [if_pos hbad]; exact Or.inl rfl
    ·rw [if_neg hbad, hk.no rfl x hf hbad]; exact Or.inr rfl
  rw [bb_neg (by rfl)]
  rcases hg with hg | hg
  ·rw [hg, bb_neg (by rfl), bb_pos (by rfl), bb_pos (by rfl), opt_some awake28, Tw.run_ret]
  ·rw [hg, bb_pos (by rfl), bb_pos (by rfl), opt_some awake28, Tw.run_ret]

end Go.Proofs.Ytmlbioapefgioaa.Pure
