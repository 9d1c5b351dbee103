/- MASKED. The plain truth of JournalPlays. -/
import Derived.Test.YtkoidgjgdhpdnaaGreatFlaw11
import Derived.Test.YtkoidgjgdhpdnaaGreatFlaw11JournalPlays
import Derived.Test.YtkoidgjgdhpdnaaGreatQAll2
namespace Go.Proofs.YtkoidgjgdhpdnaaGreat.Pure
open Go Go.Proofs.YtkoidgjgdhpdnaaGreat.Va
set_option linter.unusedVariables false
set_option linter.unusedSimpArgs false

theorem JournalPlays (a0_0 : Int) (a0_1 : Int) (a0_2 : Int) (a0_3 : Int) (a0_4 : Int) (a0_5 : Int) (a1 : List Int) (a2 : List Act11) (w0 : InR .i64 a0_0) (w1 : InR .i64 a0_1) (w2 : InR .i64 a0_2) (w3 : InR .i64 a0_3) (w4 : InR .i64 a0_4) (w5 : InR .i64 a0_5) (w6 : a1.length * 4 ≤ reachBytes) (w7 : ∀ x8 ∈ a1, InR .u32 x8) (w8 : a2.length * 64 ≤ reachBytes) (w9 : ∀ x11 ∈ a2, InR .i64 x11.kind ∧ InR .i64 x11.n ∧ x11.load.length * 4 ≤ reachBytes ∧ (∀ x15 ∈ x11.load, InR .u32 x15) ∧ x11.whole.length * 4 ≤ reachBytes ∧ (∀ x18 ∈ x11.whole, InR .u32 x18)) : law11_JournalPlays.c a0_0 a0_1 a0_2 a0_3 a0_4 a0_5 a1 a2 = some true := by
  have rb := reach_eq
  have hr : GeoR a0_0 a0_1 a0_2 a0_3 a0_4 a0_5 := ⟨w0, w1, w2, w3, w4, w5⟩
  obtain ⟨b0, hsm, hok⟩ := ref08_Small_eq hr
  obtain ⟨b1, hg, hgb⟩ := great11_eq (l := a2) (by omega)
  simp only [law11_JournalPlays.c, law11_JournalPlays.t]
  rw [opt_some hsm]
  cases b0 with
  | false => rw [bb_pos (by rfl), opt_some awakeJ, Tw.run_ret]
  | true =>
  have ok := hok rfl
  rw [bb_neg (by rfl), opt_some hg]
  cases b1 with
  | true => rw [bb_pos (by rfl), opt_some awakeJ, Tw.run_ret]
  | false =>
  obtain ⟨q1, q2⟩ := hgb rfl
  rw [bb_neg (by rfl)]
  by_cases hwl : (a1.length : Int) > 100
  · rw [bb_pos (decide_eq_true hwl), opt_some awakeJ, Tw.run_ret]
  rw [bb_neg (decide_eq_false hwl)]
  have hx : ∀ x ∈ a2, ActJ x := fun x hx => ⟨(w9 x hx).2.1, (q2 x hx).1, (w9 x hx).2.2.2.1, (q2 x hx).2, (w9 x hx).2.2.2.2.2⟩
  have ok' := ok
  unfold GeoOK at ok'
  obtain ⟨n, rfl⟩ : ∃ n : Nat, a0_0 = (n : Int) := ⟨a0_0.toNat, by omega⟩
  have hw : Words a1 := w7
  by_cases hl : loadOK a1
  · have hB := begin_eq hr ok rfl hw (by omega) hl
    have hG := begin_good ok rfl hw hl
    obtain ⟨s', u', c', t', j', _, hR⟩ := runJ hr ok hG hx q1
    have hM := (new_in (n := n) ok (m := 2 + 2 * a0_1.toNat + a0_2.toNat) rfl hw hl).2.2.2.1
    rw [hM] at hR
    rw [opt_some hB, sm_inl, bb_neg (by rfl), opt_some (x := (true, pairJ s' u' c' t' j')) (by exact hR), bb_pos (by rfl), opt_some awakeJ, Tw.run_ret]
  · obtain ⟨r, hB⟩ := begin_no hr ok rfl hw (by omega) hl
    rw [opt_some hB, sm_inr, sm_inr, sm_inr, sm_inl, bb_neg (by rfl)]
    by_cases h1 : (a1.length : Int) < 1
    · rw [bb_pos (decide_eq_true h1), opt_some awakeJ, Tw.run_ret]
    · have h2 : (a1.length : Int) > 56 := by
        unfold loadOK at hl
        omega
      rw [bb_neg (decide_eq_false h1), bb_pos (decide_eq_true h2), opt_some awakeJ, Tw.run_ret]

end Go.Proofs.YtkoidgjgdhpdnaaGreat.Pure
