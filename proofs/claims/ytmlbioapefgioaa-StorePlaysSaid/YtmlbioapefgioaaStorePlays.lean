/- The plain truth of StorePlays. (MASKED) -/
import Derived.Test.YtmlbioapefgioaaFlaw28StorePlays
import Derived.Test.YtmlbioapefgioaaQAll1
set_option linter.unusedSimpArgs false
set_option linter.unusedVariables false
namespace Go.Proofs.Ytmlbioapefgioaa.Pure
open Go Go.Proofs.Ytmlbioapefgioaa.Va

theorem StorePlays_loop {v : Int} {fs : List FormV} (hs : rightS v fs) {l : List Act28} (hl : l.length ≤ 80) (hg : ∀ x ∈ l, x.vals.length ≤ 40) : ∀ (k i : Nat) (ls : List (List ItemV)), k + i = l.length → Ft 62 i ls → Kept fs ls.flatten →
  law28_StorePlays.L5 l ls ls (i : Int) v fs = some (.inl ())
 | 0, i, ls, h, hp, hk => by
  refine Lp_end ?_
  simp only [law28_StorePlays.l5]
  rw [bb_neg (decide_eq_false (by omega)), Tw.run_ret]
 | k + 1, i, ls, h, hp, hk => by
  have hi : i < l.length := by omega
  have hfs : fs.length ≤ 1000 := by have := hs.2.1; omega
  have hx : l[i]? = some l[i] := List.getElem?_eq_getElem hi
  have hxv := hg _ (List.getElem_mem hi)
  have hc := hp.pk.count
  have e1 : w64 ((i : Int) + 1) = ((i + 1 : Nat) : Int) := by rw [w64_of (by omega) (by omega)]; omega
  have same : ∀ {m : Nat} {q : List (List ItemV)}, Pk m q → m ≤ 300 → ref24_Same.c q q = some true := fun hq hm => ref24_Same_refl (by have := hq.count; omega) fun x hx => by have := hq.leaf hx; omega
  have step : ∃ q, Ft 62 (i + 1) q ∧ Kept fs q.flatten ∧ (law28_StorePlays.l5 l v fs ls ls (i : Int)).run = some (.inl (q, (q, ((i + 1 : Nat) : Int)))) := by
   generalize l[i] = a at hx hxv
   simp only [law28_StorePlays.l5]
   rw [bb_pos (decide_eq_true (by omega)), dd_pos (by omega), Int.toNat_natCast, opt_some hx]
   by_cases h2 : a.kind = 2
   ·rw [bb_pos (by rw [beq_iff_eq]; exact h2), opt_some (store_Delete_eq v hfs hp.pk (show i ≤ 300 by omega) a.form a.id), opt_some (ref28_Delete_eq v hfs hp.pk (show i ≤ 300 by omega) a.form a.id)]
    have key : (Ft 62 i (delR fs ls a.form a.id).2.2.2.2 ∧ Kept fs (delR fs ls a.form a.id).2.2.2.2.flatten) ∨ ((delR fs ls a.form a.id).2.2.2.2 = [] ∧ (delR fs ls a.form a.id).2.2.2.1 ≠ 0) := by
     unfold delR
     cases hf : frm fs a.form with
     | none => exact .inr ⟨rfl, by simp⟩
     | some x =>
      simp only []
      by_cases hb : badN a.form a.id
      ·rw [if_pos hb]; exact .inr ⟨rfl, by simp⟩
      rw [if_neg hb]
      obtain ⟨c1, c2, _, _⟩ := hp.cut (keyN a.form a.id)
      cases (cutS 62 ls (keyN a.form a.id)).2.2.2.1 with
      | false => exact .inr ⟨rfl, by simp⟩
      | true =>
       rw [if_pos rfl]
       refine .inl ⟨c1, fun y hy => hk y ?_⟩
       rw [c2] at hy
       exact (List.mem_filter.1 hy).1
    generalize delR fs ls a.form a.id = r at key
    have hsame : ref24_Same.c r.2.2.2.2 r.2.2.2.2 = some true := by
     rcases key with ⟨k1, _⟩ | ⟨k1, _⟩
     ·exact same k1.pk (by omega)
     ·rw [k1]; exact same (Pk.nil 0) (by omega)
    rw [bb_neg (by simp), bb_neg (by simp), opt_some hsame, bb_neg (by rfl)]
    by_cases hr : r.2.2.2.1 = 0
    ·rcases key with ⟨k1, k2⟩ | ⟨_, k1⟩
     ·exact ⟨r.2.2.2.2, k1.mono (by omega), k2, by rw [bb_pos (by rw [beq_iff_eq]; exact hr), Tw.run_ret, e1]⟩
     ·exact absurd hr k1
    ·exact ⟨ls, hp.mono (by omega), hk, by rw [bb_neg (by rw [beq_eq_false_iff_ne]; exact hr), Tw.run_ret, e1]⟩
   rw [bb_neg (by rw [beq_eq_false_iff_ne]; exact h2)]
   by_cases h3 : a.kind = 3
   ·refine ⟨ls, hp.mono (by omega), hk, ?_⟩
    rw [bb_pos (by rw [beq_iff_eq]; exact h3), opt_some (store_Get_eq v hfs hp (show i ≤ 1000 by omega) a.form a.id), opt_some (ref28_Get_eq v hs hp (show i ≤ 1000 by omega) a.form a.id)]
    have hlen : (getR fs ls.flatten a.form a.id).2.2.length ≤ 140737488355328 := get_len hs _ _ _
    rw [bb_neg (by simp), opt_some (same14_eq _ _ hlen), bb_neg (by simp), Tw.run_ret, e1]
   rw [bb_neg (by rw [beq_eq_false_iff_ne]; exact h3)]
   by_cases h4 : a.kind = 4
   ·refine ⟨ls, hp.mono (by omega), hk, ?_⟩
    rw [bb_pos (by rw [beq_iff_eq]; exact h4), opt_some (told_eq hs hp (show i ≤ 1000 by omega) hk), bb_neg (by rfl), Tw.run_ret, e1]
   rw [bb_neg (by rw [beq_eq_false_iff_ne]; exact h4), opt_some (store_Put_eq v hs hp.pk (show i ≤ 300 by omega) a.id a.form (vs := a.vals) (by omega)), opt_some (ref28_Put_eq v hs hp.pk (show i ≤ 300 by omega) a.id a.form (vs := a.vals) (by omega))]
   have key : (Ft 62 (i + 1) (putR fs ls a.id a.form a.vals).2.2.2.2 ∧ Kept fs (putR fs ls a.id a.form a.vals).2.2.2.2.flatten) ∨ ((putR fs ls a.id a.form a.vals).2.2.2.2 = [] ∧ (putR fs ls a.id a.form a.vals).2.2.2.1 ≠ 0) := by
    unfold putR
    cases hf : frm fs a.form with
    | none => exact .inr ⟨rfl, by simp⟩
    | some x =>
     simp only []
     by_cases hb : badN a.form a.id
     ·rw [if_pos hb]; exact .inr ⟨rfl, by simp⟩
     rw [if_neg hb]
     by_cases hr : hasR x.id x.fields a.form a.vals
     ·rw [if_pos hr]
      obtain ⟨c1, c2, _⟩ := hp.put (show 62 ≤ 62 by omega) (keyN_u32 hb) (layD_size hr)
      refine .inl ⟨c1, fun y hy => ?_⟩
      rw [c2] at hy
      unfold putI at hy
      rcases List.mem_append.1 hy with hy | hy
      ·rcases List.mem_append.1 hy with hy | hy
       ·exact hk y (List.mem_filter.1 hy).1
       ·rw [List.mem_singleton] at hy
        subst hy
        exact ⟨a.form, a.id, x, a.vals, hf, hb, hr, rfl, rfl⟩
      ·exact hk y (List.mem_filter.1 hy).1
     ·rw [if_neg hr]; exact .inr ⟨rfl, by simp⟩
   generalize putR fs ls a.id a.form a.vals = r at key
   have hsame : ref24_Same.c r.2.2.2.2 r.2.2.2.2 = some true := by
    rcases key with ⟨k1, _⟩ | ⟨k1, _⟩
    ·exact same k1.pk (by omega)
    ·rw [k1]; exact same (Pk.nil 0) (by omega)
   rw [bb_neg (by simp), bb_neg (by simp), opt_some hsame, bb_neg (by rfl)]
   by_cases hr : r.2.2.2.1 = 0
   ·rcases key with ⟨k1, k2⟩ | ⟨_, k1⟩
    ·exact ⟨r.2.2.2.2, k1, k2, by rw [bb_pos (by rw [beq_iff_eq]; exact hr), Tw.run_ret, e1]⟩
    ·exact absurd hr k1
   ·exact ⟨ls, hp.mono (by omega), hk, by rw [bb_neg (by rw [beq_eq_false_iff_ne]; exact hr), Tw.run_ret, e1]⟩
  obtain ⟨q, q1, q2, q3⟩ := step
  exact (Lp_next q3).trans (StorePlays_loop hs hl hg k (i + 1) q (by omega) q1 q2)

theorem StorePlays (a0_0 : Int) (a0_1 : List FormV) (a1 : List Act28) (w0 : InR .i64 a0_0) (w1 : a0_1.length * 32 ≤ reachBytes) (w2 : ∀ x3 ∈ a0_1, InR .i64 x3.id ∧ x3.fields.length * 40 ≤ reachBytes ∧ (∀ x6 ∈ x3.fields, InR .i64 x6.id ∧ InR .i64 x6.kind ∧ InR .i64 x6.lo ∧ InR .i64 x6.hi ∧ InR .i64 x6.most)) (w3 : a1.length * 48 ≤ reachBytes) (w4 : ∀ x13 ∈ a1, InR .i64 x13.kind ∧ InR .i64 x13.id ∧ InR .i64 x13.form ∧ x13.vals.length * 24 ≤ reachBytes ∧ (∀ x18 ∈ x13.vals, InR .i64 x18.n ∧ x18.s.size ≤ reachBytes)) : law28_StorePlays.c a0_0 a0_1 a1 = some true := by
 rw [reach_eq] at w3
 obtain ⟨b, hb, hb2⟩ := great28_eq a0_0 a0_1 (l := a1) (by omega)
 simp only [law28_StorePlays.c, law28_StorePlays.t]
 rw [opt_some hb]
 cases b with
 | true => rw [bb_pos (by rfl), opt_some awake28, Tw.run_ret]
 | false =>
  obtain ⟨h1, h2, h3⟩ := hb2 rfl
  have hL := StorePlays_loop h1 h2 h3 a1.length 0 [] (by omega) (Ft.nil 62 0) (fun _ h => nomatch h)
  rw [bb_neg (by rfl), opt_some (show law28_StorePlays.L5 a1 [] [] 0 a0_0 a0_1 = some (.inl ()) from hL), sm_inl, opt_some awake28, Tw.run_ret]

end Go.Proofs.Ytmlbioapefgioaa.Pure
