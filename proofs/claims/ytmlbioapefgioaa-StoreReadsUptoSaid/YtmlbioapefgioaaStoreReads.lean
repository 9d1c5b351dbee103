/- The plain truth of StoreReads. (MASKED) -/
import Derived.Test.YtmlbioapefgioaaFlaw28StoreReads
import Derived.Test.YtmlbioapefgioaaQAll1
set_option linter.unusedSimpArgs false
set_option linter.unusedVariables false
namespace Go.Proofs.Ytmlbioapefgioaa.Pure
open Go Go.Proofs.Ytmlbioapefgioaa.Va

theorem tot_two (l : List ItemV) : 2 * l.length ≤ totI l := by
 induction l with
 | nil => exact Nat.zero_le _
 | cons x l ih =>
  rw [totI_cons, List.length_cons]
  unfold cstI
  omega
theorem flat_le {m : Nat} : ∀ {ls : List (List ItemV)}, (∀ l ∈ ls, l.length ≤ m) → ls.flatten.length ≤ m * ls.length
 | [], _ => Nat.zero_le _
 | l :: ls, h => by
  have h1 := h l (List.mem_cons_self ..)
  have h2 := flat_le (ls := ls) fun x hx => h x (List.mem_cons_of_mem _ hx)
  rw [List.flatten_cons, List.length_append, List.length_cons, Nat.mul_add]
  omega
theorem fits_ft {ls : List (List ItemV)} (h : fitsL 62 ls = true) (hu : ∀ l ∈ ls, ∀ x ∈ l, InR .u32 x.key) (hn : ls.length ≤ 30) : Ft 62 930 ls := by
 unfold fitsL at h
 split at h
 ·cases h
 rename_i hnone
 rw [List.find?_eq_none] at hnone
 have hb : ∀ l ∈ ls, l ≠ [] ∧ totI l ≤ 62 := fun l hl => by
  have := hnone l hl
  unfold badL at this
  simp only [Bool.or_eq_true, decide_eq_true_eq, not_or] at this
  exact ⟨fun e => this.1 (by rw [e]; rfl), by omega⟩
 obtain ⟨r1, r2⟩ := rightI_iff.1 h
 refine ⟨⟨fun l hl => (hb l hl).1, fun l hl x hx => ⟨hu l hl x hx, r1 x (List.mem_flatten.2 ⟨l, hl, hx⟩)⟩, ?_⟩, r2, fun l hl => (hb l hl).2⟩
 have := flat_le (m := 31) (ls := ls) fun l hl => by have := (hb l hl).2; have := tot_two l; omega
 omega
theorem StoreReads (a0_0 : Int) (a0_1 : List FormV) (a1 : List (List ItemV)) (a2_0 : Int) (a2_1 : Int) (a2_2_0 : Int) (a2_2_1 : List ValueV) (w0 : InR .i64 a0_0) (w1 : a0_1.length * 32 ≤ reachBytes) (w2 : ∀ x3 ∈ a0_1, InR .i64 x3.id ∧ x3.fields.length * 40 ≤ reachBytes ∧ (∀ x6 ∈ x3.fields, InR .i64 x6.id ∧ InR .i64 x6.kind ∧ InR .i64 x6.lo ∧ InR .i64 x6.hi ∧ InR .i64 x6.most)) (w3 : a1.length * 24 ≤ reachBytes) (w4 : ∀ x13 ∈ a1, x13.length * 24 ≤ reachBytes ∧ (∀ x15 ∈ x13, InR .u32 x15.key ∧ x15.data.size ≤ reachBytes)) (w5 : InR .i64 a2_0) (w6 : InR .i64 a2_1) (w7 : InR .i64 a2_2_0) (w8 : a2_2_1.length * 24 ≤ reachBytes) (w9 : ∀ x22 ∈ a2_2_1, InR .i64 x22.n ∧ x22.s.size ≤ reachBytes) (wb : ∀ k, bkL E0 k [.int .i64 a0_0, .slice 28 a0_1, .slice 11 a1, .int .i64 a2_0, .int .i64 a2_1, .int .i64 a2_2_0, .slice 24 a2_2_1] ≤ 1048576) : law28_StoreReads.c a0_0 a0_1 a1 a2_0 a2_1 a2_2_0 a2_2_1 = some true := by
 have aw : ∀ {k : Bool → Tw Bool}, (Tw.opt law28_awake.c k).run = (k true).run := fun {k} => by rw [opt_some awake28]
 have rb := reach_eq
 simp only [law28_StoreReads.c, law28_StoreReads.t]
 by_cases g0 : ((a1.length : Nat) : Int) > 30
 ·rw [bb_pos (decide_eq_true g0), aw, Tw.run_ret]
 have hb : bk E0 3 (.slice 11 a1) ≤ 1048576 := by
  have := wb 3
  simp only [bkL, List.map_cons, List.map_nil, List.sum_cons, List.sum_nil] at this
  omega
 obtain ⟨b1, b2⟩ := leaves_bk a1
 have hsz : Sz a1 := fun l hl => ⟨(w4 l hl).2, by have := b1 l hl; omega, by have := b1 l hl; omega⟩
 rw [bb_neg (decide_eq_false g0), opt_some (ref24_Fits_eq hsz (by omega) (by omega) 62)]
 cases hf : fitsL 62 a1 with
 | false => rw [bb_pos (by rfl), aw, Tw.run_ret]
 | true =>
 have hF := fits_ft hf (fun l hl x hx => ((w4 l hl).2 x hx).1) (by omega)
 rw [bb_neg (by rfl)]
 obtain ⟨b, hb1, hb2⟩ := great28_eq a0_0 a0_1 (l := [(⟨a2_0, a2_1, a2_2_0, a2_2_1⟩ : Act28)]) (by simp)
 rw [opt_some hb1]
 cases b with
 | true => rw [bb_pos (by rfl), aw, Tw.run_ret]
 | false =>
 obtain ⟨hs, _, _⟩ := hb2 rfl
 have hfs : a0_1.length ≤ 1000 := by have := hs.2.1; omega
 have hgd := flat_gd hF.pk
 have hfl := hF.pk.len
 have hlen := List.length_filter_le (fun x : ItemV => ownK x.key) a1.flatten
 rw [bb_neg (by rfl), opt_some (store_Get_eq a0_0 hfs hF (show 930 ≤ 1000 by omega) _ _), opt_some (ref28_Get_eq a0_0 hs hF (show 930 ≤ 1000 by omega) _ _), opt_some (store_All_eq hs hF.pk (show 930 ≤ 1000 by omega)), opt_some (ref24_Flat_eq (ls := a1) (by omega) (by omega)), opt_some (ref18_Mains_eq hgd.its (by omega)),
  bb_neg (by simp), opt_some (same14_eq _ _ (get_len hs _ _ _)), bb_neg (by simp),
  opt_some (ref20_Fits_eq hs (show (a1.flatten.filter fun x => ownK x.key).length ≤ 1000 by omega) (fun x hx => hgd x (List.mem_filter.1 hx).1) (hF.st.filter _) (fun x hx => (List.mem_filter.1 hx).2))]
 unfold allR
 cases hk : keepR a0_1 (a1.flatten.filter fun x => ownK x.key) with
 | none => rw [bb_pos (by rfl), bb_pos (by rfl), bb_pos (by rfl), aw, Tw.run_ret]
 | some ks => rw [bb_neg (by rfl), bb_pos (by rfl), bb_pos (by simp only [keepR_len hk, beq_self_eq_true]), aw, Tw.run_ret]

end Go.Proofs.Ytmlbioapefgioaa.Pure
