/- The plain truth of FlashOnly. -/
import Derived.Test.YtpidbpmkogbdeaaFlaw07
import Derived.Test.YtpidbpmkogbdeaaFlaw07FlashOnly
import Derived.Test.YtpidbpmkogbdeaaQFlash2
namespace Go.Proofs.Ytpidbpmkogbdeaa.Pure
open Go Go.Proofs.Ytpidbpmkogbdeaa.Va
set_option linter.unusedVariables false
set_option linter.unusedSimpArgs false

theorem w64_eq (n : Int) : w64 n = (n + 9223372036854775808) % 18446744073709551616 - 9223372036854775808 := by
  simp only [IntKind.wrap, IntKind.bits, IntKind.signed]
  simp
  split <;> omega
theorem wrote_one (C : Int) : w64 (w64 (C + 1) - C) = 1 := by rw [w64_eq, w64_eq]; omega
theorem wrote_none (C : Int) : w64 (C - C) = 0 := by rw [w64_eq]; omega
/-! Bits that went and bits that came. -/
theorem sub_zero {a b : Nat} (h : ∀ i, i < 32 → a.testBit i = true → b.testBit i = true) : sub32 a b = 0 := by
  refine ext32 (sub_lt _ _) (by decide) (fun i hi => ?_)
  rw [sub_bit _ _ _ hi, Nat.zero_testBit]
  cases ha : a.testBit i
  · rfl
  · rw [h i hi ha]; rfl
theorem bAndn_self {w : Int} (hw : InR .u32 w) : bAndn .u32 w w = 0 := by
  obtain ⟨a, rfl, ha⟩ := u32_nat hw
  rw [bAndn_nat, sub_zero (fun _ _ h => h)]
  rfl
theorem torn_up {w x m : Int} (hw : InR .u32 w) (hx : InR .u32 x) (hm : InR .u32 m) : bAndn .u32 (bAndn .u32 w (bAndn .u32 m x)) w = 0 := by
  obtain ⟨a, rfl, ha⟩ := u32_nat hw
  obtain ⟨b, rfl, hb⟩ := u32_nat hx
  obtain ⟨c, rfl, hc⟩ := u32_nat hm
  rw [bAndn_nat, bAndn_nat, bAndn_nat, sub_zero (fun i hi h => ?_)]
  · rfl
  · rw [sub_bit _ _ _ hi] at h
    simp only [Bool.and_eq_true] at h
    exact h.1
theorem raised_down {w m : Int} (hw : InR .u32 w) (hm : InR .u32 m) : bAndn .u32 w (bOr .u32 w m) = 0 := by
  obtain ⟨a, rfl, ha⟩ := u32_nat hw
  obtain ⟨c, rfl, hc⟩ := u32_nat hm
  rw [bOr_nat a c ha hc, bAndn_nat, sub_zero (fun i hi h => ?_)]
  · rfl
  · rw [Nat.testBit_or, h]; rfl
theorem ones_down {w : Int} (hw : InR .u32 w) : bAndn .u32 w 4294967295 = 0 := by
  rw [← bOr_ones hw]
  exact raised_down hw (inR_u32 (by decide))

/-- A word of an act's own. -/
def ownP (k a : Int) (i : Nat) : Prop := (k < 2 ∧ (i : Int) = a) ∨ (k = 2 ∧ ((i / 5 : Nat) : Int) = a)
/-- What an act may do to words. -/
structure OnlyP (k a x e w : Int) (W W' : List Int) : Prop where
  l1 : W.length = 20
  l2 : W'.length = 20
  w1 : Words W
  w2 : Words W'
  ch : ∀ i, i < 20 → (bAndn .u32 (W.getD i 0) (W'.getD i 0) ≠ 0 ∨ bAndn .u32 (W'.getD i 0) (W.getD i 0) ≠ 0) → ownP k a i ∧ w ≠ 0
  up : ∀ i, i < 20 → bAndn .u32 (W'.getD i 0) (W.getD i 0) ≠ 0 → ¬ k < 2
  dn : ∀ i, i < 20 → bAndn .u32 (W.getD i 0) (W'.getD i 0) ≠ 0 → k ≠ 2
  at_ : ∀ i, i < 20 → ownP k a i → w = 1 → e = 0 → (k < 2 → W'.getD i 0 = x) ∧ (k = 2 → W'.getD i 0 = 4294967295)

section
variable {k a x e w : Int} {M W W' : List Int} (h : OnlyP k a x e w W W')
include h
theorem c26_eq {i : Nat} (hi : i < 20) (own : Bool) (ho : own = true → ownP k a i) : law07_FlashOnly.C26 e w (i : Int) own k a x M W W' = some (.inl ()) := by
  have l2 := h.l2
  have hs := word_some (w := W') (i := i) (by omega)
  simp only [law07_FlashOnly.C26, law07_FlashOnly.c26]
  cases own with
  | false => rw [bb_neg rfl, Tw.run_ret]
  | true =>
    rw [bb_pos rfl]
    by_cases hw : w = 1
    · by_cases he : e = 0
      · obtain ⟨h1, h2⟩ := h.at_ i hi (ho rfl) hw he
        rw [bb_pos (by simpa using hw), bb_pos (by simpa using he)]
        by_cases hk : k < 2
        · rw [bb_pos (decide_eq_true hk), dd_pos (by omega), Int.toNat_natCast, opt_some hs, bb_neg (by rw [h1 hk]; simp), bb_neg (beq_eq_false_iff_ne.2 (by omega)), Tw.run_ret]
        · rw [bb_neg (decide_eq_false hk)]
          by_cases hk2 : k = 2
          · rw [bb_pos (by simpa using hk2), dd_pos (by omega), Int.toNat_natCast, opt_some hs, bb_neg (by rw [h2 hk2]; rfl), Tw.run_ret]
          · rw [bb_neg (beq_eq_false_iff_ne.2 hk2), Tw.run_ret]
      · rw [bb_pos (by simpa using hw), bb_neg (beq_eq_false_iff_ne.2 he), Tw.run_ret]
    · rw [bb_neg (beq_eq_false_iff_ne.2 hw), Tw.run_ret]
theorem c22_eq {i : Nat} (hi : i < 20) (own : Bool) (ho : own = true ↔ ownP k a i) : law07_FlashOnly.C22 e w (i : Int) own k a x M W W' = some (.inl ()) := by
  have l1 := h.l1
  have l2 := h.l2
  have hs1 := word_some (w := W) (i := i) (by omega)
  have hs2 := word_some (w := W') (i := i) (by omega)
  have hc := c26_eq (M := M) h hi own ho.1
  have hch := h.ch i hi
  have hup := h.up i hi
  have hdn := h.dn i hi
  have i1 := word_in h.w1 i
  have i2 := word_in h.w2 i
  simp only [law07_FlashOnly.C22, law07_FlashOnly.c22]
  rw [dd_pos (by omega), Int.toNat_natCast, opt_some hs1, dd_pos (by omega), opt_some hs2, opt_some (bits0_eq i1 i2), dd_pos (by omega), opt_some hs2, dd_pos (by omega), opt_some hs1, opt_some (bits0_eq i2 i1)]
  rw [← ho] at hch
  generalize bAndn .u32 (W.getD i 0) (W'.getD i 0) = p at *
  generalize bAndn .u32 (W'.getD i 0) (W.getD i 0) = q at *
  simp only [Tw.run_bb, Tw.run_opt, Tw.run_ret, hc, Option.bind_some, Tw.run_sm]
  by_cases hp : p = 0
  · by_cases hq : q = 0
    · simp [hp, hq]
    · have := hch (Or.inr hq)
      have := hup hq
      simp_all
  · have := hch (Or.inl hp)
    have := hdn hp
    by_cases hq : q = 0
    · simp_all
    · have := hup hq
      simp_all
theorem l19_eq : law07_FlashOnly.L19 e w 0 k a x M W W' = some (.inl ()) := by
  unfold law07_FlashOnly.L19
  refine Lp_seq _ (fun i : Nat => (i : Int)) 20 0 (fun i _ hi => ?_) ?_
  · have hi : i < 20 := by omega
    have hc := fun own ho => c22_eq (M := M) h hi own ho
    have e1 : w64 ((i : Int) + 1) = ((i + 1 : Nat) : Int) := by rw [w64_of (by omega) (by omega)]; rfl
    have e2 : w64 (Int.tdiv (i : Int) 5) = ((i / 5 : Nat) : Int) := by
      rw [show (5 : Int) = ((5 : Nat) : Int) from rfl, tdiv_nat, w64_of (by omega) (by omega)]
    simp only [law07_FlashOnly.l19, e2]
    rw [bb_pos (decide_eq_true (by omega))]
    by_cases hk : k < 2
    · rw [bb_pos (decide_eq_true hk)]
      by_cases ha : (i : Int) = a
      · rw [bb_pos (by simpa using ha), opt_some (hc true ⟨fun _ => Or.inl ⟨hk, ha⟩, fun _ => rfl⟩), sm_inl, Tw.run_ret, e1]
      · rw [bb_neg (beq_eq_false_iff_ne.2 ha), bb_neg (beq_eq_false_iff_ne.2 (by omega)), opt_some (hc false ⟨(fun h => nomatch h), (fun h => by unfold ownP at h; omega)⟩), sm_inl, Tw.run_ret, e1]
    · rw [bb_neg (decide_eq_false hk)]
      by_cases hk2 : k = 2
      · rw [bb_pos (by simpa using hk2), opt_some (hc _ ⟨fun h => Or.inr ⟨hk2, by simpa using h⟩, fun h => by unfold ownP at h; simp only [beq_iff_eq]; omega⟩), sm_inl, Tw.run_ret, e1]
      · rw [bb_neg (beq_eq_false_iff_ne.2 hk2), opt_some (hc false ⟨(fun h => nomatch h), (fun h => by unfold ownP at h; omega)⟩), sm_inl, Tw.run_ret, e1]
  · simp only [law07_FlashOnly.l19]
    rw [bb_neg (by decide), Tw.run_ret]
theorem c18_eq : law07_FlashOnly.C18 e w k a x M W W' = some true := by
  simp only [law07_FlashOnly.C18, law07_FlashOnly.c18]
  rw [opt_some (l19_eq h), sm_inl, opt_some awake07, Tw.run_ret]
end

/-- Nothing is written: nothing is changed. -/
theorem only_none {k a x e : Int} {W : List Int} (l1 : W.length = 20) (w1 : Words W) : OnlyP k a x e 0 W W :=
  ⟨l1, l1, w1, w1, fun i _ h => by rw [bAndn_self (word_in w1 i)] at h; simp at h, fun i _ h => absurd (bAndn_self (word_in w1 i)) h, fun i _ h => absurd (bAndn_self (word_in w1 i)) h, fun _ _ _ h => absurd h (by decide)⟩
theorem set_getD {W : List Int} {j : Nat} (y : Int) (i : Nat) (hj : j < W.length) : (W.set j y).getD i 0 = if i = j then y else W.getD i 0 := by
  simp only [List.getD_eq_getElem?_getD]
  by_cases h : i = j
  · subst h
    rw [if_pos rfl, List.getElem?_set_self hj]
    rfl
  · rw [if_neg h, List.getElem?_set_ne (by omega)]
/-- An act, seen from without: what it wrote, and how. -/
theorem act_only {s : Fl} (h : FlOK 5 s) (hv : s.V.length = 4) {k a x : Int} (hx : InR .u32 x) : ∃ w : Int, w64 ((s.act 5 k a x).2.C - s.C) = w ∧ (w = 0 ∨ w = 1) ∧ (s.D = true → w = 0) ∧ (k > 2 → w = 0) ∧ (w = 1 → (s.act 5 k a x).1.2 = 0 ∨ (s.act 5 k a x).1.2 = 10) ∧
    OnlyP k a x (s.act 5 k a x).1.2 w s.W (s.act 5 k a x).2.W := by
  have l1 : s.W.length = 20 := by rw [h.ws, hv]
  have hno : ∀ e : Int, OnlyP k a x e 0 s.W s.W := fun e => only_none l1 h.w
  have none' : ∀ (e : Int), ∃ w : Int, w64 (s.C - s.C) = w ∧ (w = 0 ∨ w = 1) ∧ (s.D = true → w = 0) ∧ (k > 2 → w = 0) ∧ (w = 1 → e = 0 ∨ e = 10) ∧ OnlyP k a x e w s.W s.W :=
    fun e => ⟨0, wrote_none _, Or.inl rfl, fun _ => rfl, fun _ => rfl, fun h => absurd h (by decide), hno e⟩
  unfold Fl.act
  by_cases h2 : k = 2
  · rw [if_pos h2]
    simp only
    unfold Fl.erase
    by_cases hd : s.D = true
    · rw [if_pos hd]
      exact none' 10
    rw [if_neg hd]
    by_cases ha : a < 0 ∨ a ≥ (s.V.length : Int)
    · rw [if_pos ha]
      exact none' 3
    rw [if_neg ha]
    obtain ⟨j, rfl, hj, _, hjv⟩ := at_of h (k := a) (by omega) (by omega)
    have key : ∀ (e : Int) (g : Nat → Int → Int), (∀ i y, InR .u32 y → InR .u32 (g i y) ∧ bAndn .u32 y (g i y) = 0) → (e = 0 → ∀ i y, g i y = 4294967295) → OnlyP k (j : Int) x e 1 s.W (upd s.W (j * 5) 5 g) := by
      intro e g hg he
      have hget := fun i => upd_get (W := s.W) (o := j * 5) (n := 5) (i := i) (g := g) hj
      refine ⟨l1, by rw [upd_len hj, l1], h.w, upd_words h.w (fun i y hy => (hg i y hy).1), ?_, ?_, ?_, ?_⟩
      · intro i hi hc
        refine ⟨Or.inr ⟨h2, ?_⟩, by decide⟩
        rw [hget] at hc
        by_cases hin : j * 5 ≤ i ∧ i < j * 5 + 5
        · omega
        · rw [if_neg hin, bAndn_self (word_in h.w i)] at hc
          simp at hc
      · intro i hi hc
        omega
      · intro i hi hc
        exfalso
        rw [hget] at hc
        split at hc
        · exact hc (hg _ _ (word_in h.w i)).2
        · exact hc (bAndn_self (word_in h.w i))
      · intro i hi ho _ he0
        refine ⟨fun hk => by omega, fun _ => ?_⟩
        unfold ownP at ho
        rw [hget, if_pos (by omega)]
        exact he he0 _ _
    by_cases h0 : s.A = 0
    · rw [if_pos h0]
      simp only [Int.toNat_natCast]
      exact ⟨1, wrote_one _, Or.inr rfl, fun h => absurd h hd, fun h => by omega, fun _ => by simp, key 10 _ (fun i y hy => ⟨bOr_in hy (fz_in h.m i), raised_down hy (fz_in h.m i)⟩) (fun h => absurd h (by decide))⟩
    · rw [if_neg h0]
      simp only [Int.toNat_natCast]
      exact ⟨1, wrote_one _, Or.inr rfl, fun h => absurd h hd, fun h => by omega, fun _ => by simp, key 0 _ (fun i y hy => ⟨inR_u32 (by decide), ones_down hy⟩) (fun _ _ _ => rfl)⟩
  rw [if_neg h2]
  by_cases h3 : k = 3
  · rw [if_pos h3]
    exact none' _
  rw [if_neg h3]
  by_cases h01 : k = 0 ∨ k = 1
  · rw [if_pos h01]
    simp only
    unfold Fl.prog
    by_cases hd : s.D = true
    · rw [if_pos hd]
      exact none' 10
    rw [if_neg hd]
    by_cases ha : a < 0 ∨ a ≥ (s.W.length : Int)
    · rw [if_pos ha]
      exact none' 3
    rw [if_neg ha]
    by_cases hb : bAndn .u32 x (s.W.getD a.toNat 0) ≠ 0
    · rw [if_pos hb]
      exact none' 11
    rw [if_neg hb]
    have hb : bAndn .u32 x (s.W.getD a.toNat 0) = 0 := by simpa using hb
    have key : ∀ (e y : Int), InR .u32 y → bAndn .u32 y (s.W.getD a.toNat 0) = 0 → (e = 0 → y = x) → OnlyP k a x e 1 s.W (s.W.set a.toNat y) := by
      intro e y hy hyw he
      have hget := fun i => set_getD (W := s.W) (j := a.toNat) y i (by omega)
      refine ⟨l1, by simpa using l1, h.w, words_set h.w _ hy, ?_, ?_, ?_, ?_⟩
      · intro i hi hc
        refine ⟨Or.inl ⟨by omega, ?_⟩, by decide⟩
        rw [hget] at hc
        by_cases hin : i = a.toNat
        · omega
        · rw [if_neg hin, bAndn_self (word_in h.w i)] at hc
          simp at hc
      · intro i hi hc
        exfalso
        rw [hget] at hc
        split at hc
        · rename_i hin
          rw [hin] at hc
          exact hc hyw
        · exact hc (bAndn_self (word_in h.w i))
      · intro i hi hc
        omega
      · intro i hi ho _ he0
        refine ⟨fun _ => ?_, fun hk => by omega⟩
        unfold ownP at ho
        rw [hget, if_pos (by omega)]
        exact he he0
    by_cases h0 : s.A = 0
    · rw [if_pos h0]
      exact ⟨1, wrote_one _, Or.inr rfl, fun h => absurd h hd, fun h => by omega, fun _ => by simp, key 10 _ (bAndn_in (word_in h.w _) (bAndn_in (fz_in h.m _) hx)) (torn_up (word_in h.w _) hx (fz_in h.m _)) (fun h => absurd h (by decide))⟩
    · rw [if_neg h0]
      exact ⟨1, wrote_one _, Or.inr rfl, fun h => absurd h hd, fun h => by omega, fun _ => by simp, key 0 x hx hb (fun _ => rfl)⟩
  · rw [if_neg h01]
    exact none' 0

abbrev S6 : Type := Int × (Bool × (Int × (List Int × (List Int × List Int))))
def s6 (s : Fl) : S6 := (s.C, s.D, s.A, s.W, s.V, s.M)
theorem step7 {s : Fl} (h : FlOK 5 s) {l : List Act7} {i : Nat} {x : Act7} (hi : l[i]? = some x) (hx : ActOK x) (hl : l.length ≤ 100) (k a y : Int) (M : List Int) : ∃ s', FlOK 5 s' ∧ s'.V.length = s.V.length ∧
    (law07_FlashOnly.l7 l k a y M 5 (i : Int) s.C s.D s.A s.W s.V s.M).run = some (.inl (((i + 1 : Nat) : Int), s6 s')) := by
  obtain ⟨kind, b, z, M'⟩ := x
  obtain ⟨hk, ha, hz, hm, hM⟩ := hx
  have hlt := (List.getElem?_eq_some_iff.1 hi).1
  have hi0 : l[(i : Int).toNat]? = some ⟨kind, b, z, M'⟩ := by rw [Int.toNat_natCast]; exact hi
  have e : w64 ((i : Int) + 1) = ((i + 1 : Nat) : Int) := by rw [w64_of (by omega) (by omega)]; rfl
  simp only at hk ha hz hm hM
  simp only [law07_FlashOnly.l7]
  rw [bb_pos (decide_eq_true (by omega)), dd_pos (by omega), opt_some hi0]
  by_cases h4 : kind = 4
  · subst h4
    refine ⟨s.arm b M', arm_ok h ha hM (by omega), rfl, ?_⟩
    rw [opt_some (do_arm (M' := M') (by omega) ..), sm_inr, sm_inr, Tw.run_ret, e]
    rfl
  by_cases h5 : kind = 5
  · subst h5
    refine ⟨s.power [], power_ok h words_nil (by simp), rfl, ?_⟩
    rw [opt_some (do_power ..), sm_inr, sm_inl, Tw.run_ret, e]
    rfl
  have hm2 := act_m (n := 5) (s := s) kind b z
  refine ⟨_, act_ok h kind b z hz, hm2.2, ?_⟩
  have hdo := do_other h (a := b) M' hz h4 h5
  rw [show ((5 : Nat) : Int) = 5 from rfl] at hdo
  rw [opt_some hdo, sm_inl, Tw.run_ret, e]
  simp only [s6, hm2.1]
theorem loop7 {s : Fl} (h : FlOK 5 s) {l : List Act7} (hx : ∀ x ∈ l, ActOK x) (hl : l.length ≤ 100) (k a y : Int) (M : List Int) : ∃ s', FlOK 5 s' ∧ s'.V.length = s.V.length ∧
    law07_FlashOnly.L7 l 0 k a y M 5 s.C s.D s.A s.W s.V s.M = some (s6 s') := by
  unfold law07_FlashOnly.L7
  obtain ⟨x, h1, s', h2, h3, rfl⟩ := Lp_inv (fun z : Int × S6 => (law07_FlashOnly.l7 l k a y M 5 z.1 z.2.1 z.2.2.1 z.2.2.2.1 z.2.2.2.2.1 z.2.2.2.2.2.1 z.2.2.2.2.2.2).run)
    (fun z => ∃ (i : Nat) (s' : Fl), i ≤ l.length ∧ FlOK 5 s' ∧ s'.V.length = s.V.length ∧ z = ((i : Int), s6 s')) (fun z => l.length - z.1.toNat)
    (fun x => ∃ s', FlOK 5 s' ∧ s'.V.length = s.V.length ∧ x = s6 s') (fun z hz => by
      obtain ⟨i, s', hi, h1, h4, rfl⟩ := hz
      by_cases h : i < l.length
      · have hi' : l[i]? = some l[i] := List.getElem?_eq_getElem h
        obtain ⟨s'', g1, g4, g5⟩ := step7 h1 hi' (hx _ (List.getElem_mem h)) hl k a y M
        exact Or.inl ⟨_, g5, ⟨i + 1, s'', by omega, g1, by omega, rfl⟩, by simp only [Int.toNat_natCast]; omega⟩
      · refine Or.inr ⟨_, ?_, s', h1, h4, rfl⟩
        simp only [law07_FlashOnly.l7]
        rw [bb_neg (decide_eq_false (by omega)), Tw.run_ret]) l.length (0, s6 s) (by simp) ⟨0, s, by omega, h, rfl, rfl⟩
  exact ⟨s', h2, h3, h1⟩

theorem FlashOnly (a0 : List Act7) (a1_0 : Int) (a1_1 : Int) (a1_2 : Int) (a1_3 : List Int) (w0 : a0.length * 48 ≤ reachBytes) (w1 : ∀ x2 ∈ a0, InR .i64 x2.kind ∧ InR .i64 x2.a ∧ InR .u32 x2.x ∧ x2.masks.length * 4 ≤ reachBytes ∧ (∀ x7 ∈ x2.masks, InR .u32 x7)) (w2 : InR .i64 a1_0) (w3 : InR .i64 a1_1) (w4 : InR .u32 a1_2) (w5 : a1_3.length * 4 ≤ reachBytes) (w6 : ∀ x13 ∈ a1_3, InR .u32 x13) : law07_FlashOnly.c a0 a1_0 a1_1 a1_2 a1_3 = some true := by
  have rb := reach_eq
  obtain ⟨b, hg, hgb⟩ := law07_great_eq (l := a0) (by omega)
  simp only [law07_FlashOnly.c, law07_FlashOnly.t]
  rw [opt_some hg]
  cases b with
  | true => rw [bb_pos rfl, opt_some awake07, Tw.run_ret]
  | false =>
    obtain ⟨q1, q2⟩ := hgb rfl
    have hx : ∀ x ∈ a0, ActOK x := fun x hx => ⟨(w1 x hx).1, (w1 x hx).2.1, (w1 x hx).2.2.1, q2 x hx, (w1 x hx).2.2.2.2⟩
    rw [bb_neg rfl]
    by_cases hM : ((a1_3.length : Nat) : Int) > 100
    · rw [bb_pos (decide_eq_true hM), opt_some awake07, Tw.run_ret]
    rw [bb_neg (decide_eq_false hM)]
    have ok : FlOK 5 (flNew 4 5) := flNew_ok (by decide) (by decide) (by decide) (by decide)
    have hN : flash_New.c 4 5 = some (.inl (0, (flNew 4 5).C, (flNew 4 5).D, (flNew 4 5).A, (flNew 4 5).W, (flNew 4 5).V)) := flash_New_eq (a := 4) (b := 5) (by decide) (by decide) (by decide) (by decide)
    obtain ⟨s, h1, h2, h3⟩ := loop7 ok hx q1 a1_0 a1_1 a1_2 a1_3
    rw [show (flNew 4 5).M = [] from rfl] at h3
    have hv : s.V.length = 4 := by rw [h2]; rfl
    have l1 : s.W.length = 20 := by rw [h1.ws, hv]
    have words : ∀ {s' : Fl} (n C : Int) (D : Bool) (A : Int) (V M : List Int), s'.W.length = 20 → flash_Flash_Words.c n C D A s'.W V M = some s'.W := fun n C D A V M hl => by
      simp only [flash_Flash_Words.c, flash_Flash_Words.t]
      rw [opt_some (clone32_eq (by omega)), Tw.run_ret]
    have hs6 : s6 s = (s.C, s.D, s.A, s.W, s.V, s.M) := rfl
    rw [hs6] at h3
    rw [opt_some hN, sm_inl, bb_neg (by rfl), opt_some h3, opt_some (words 5 s.C s.D s.A s.V s.M l1), opt_some (x := ()) (by rfl), opt_some (x := ()) (by rfl)]
    have hn := only_none (k := a1_0) (a := a1_1) (x := a1_2) (e := 0) l1 h1.w
    have hC0 := c18_eq (M := a1_3) hn
    by_cases h4 : a1_0 = 4
    · subst h4
      rw [opt_some (do_arm (M' := a1_3) (by omega) ..), sm_inr, sm_inr, opt_some (words 5 s.C s.D (imax a1_1 (-1)) s.V a1_3 l1), bb_neg (by rw [l1]; rfl), bb_neg (by rw [l1]; rfl), opt_some (x := ()) (by rfl), wrote_none]
      simp [Tw.run_bb, Tw.run_opt, Tw.run_ret, hC0]
    by_cases h5 : a1_0 = 5
    · subst h5
      have hw2 : flash_Flash_Words_v2.c 5 s.C false (-1) s.W s.V = some s.W := by
        simp only [flash_Flash_Words_v2.c, flash_Flash_Words_v2.t]
        rw [opt_some (clone32_eq (by omega)), Tw.run_ret]
      rw [opt_some (do_power ..), sm_inr, sm_inl, opt_some hw2, bb_neg (by rw [l1]; rfl), bb_neg (by rw [l1]; rfl), opt_some (x := ()) (by rfl), wrote_none]
      simp [Tw.run_bb, Tw.run_opt, Tw.run_ret, hC0]
    obtain ⟨w, hw, hw01, hwd, hwk, hwe, hP⟩ := act_only h1 hv (k := a1_0) (a := a1_1) w4
    have hC := c18_eq (M := a1_3) hP
    have l2 := hP.l2
    have hdo := do_other h1 (a := a1_1) a1_3 w4 h4 h5
    rw [show ((5 : Nat) : Int) = 5 from rfl] at hdo
    rw [opt_some hdo, sm_inl]
    generalize s.act 5 a1_0 a1_1 a1_2 = r at *
    rw [opt_some (words 5 r.2.C r.2.D r.2.A r.2.V s.M l2), bb_neg (by rw [l1]; rfl), bb_neg (by rw [l2]; rfl), opt_some (x := ()) (by rfl), hw]
    generalize r.1.2 = e at *
    generalize s.D = d at *
    have hd1 : (decide (w < 0)) = false := decide_eq_false (by omega)
    have hd2 : (decide (w > 1)) = false := decide_eq_false (by omega)
    rw [bb_neg hd1, bb_neg hd2]
    rcases hw01 with hw0 | hw1
    · subst hw0
      by_cases hk : a1_0 > 2 <;> cases d <;> simp [Tw.run_bb, Tw.run_opt, Tw.run_ret, hC, hk]
    · subst hw1
      have hdf : d = false := by
        cases d with
        | false => rfl
        | true => exact absurd (hwd rfl) (by decide)
      have hk : ¬ a1_0 > 2 := fun hk => absurd (hwk hk) (by decide)
      subst hdf
      rcases hwe rfl with he | he <;> subst he <;> simp [Tw.run_bb, Tw.run_opt, Tw.run_ret, hC, hk]

end Go.Proofs.Ytpidbpmkogbdeaa.Pure
