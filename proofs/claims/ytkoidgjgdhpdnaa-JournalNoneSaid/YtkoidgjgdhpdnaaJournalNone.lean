/- The plain truth of JournalNone. -/
import Derived.Test.YtkoidgjgdhpdnaaFlaw11
import Derived.Test.YtkoidgjgdhpdnaaFlaw11JournalNone
import Derived.Test.YtkoidgjgdhpdnaaQJournal
namespace Go.Proofs.Ytkoidgjgdhpdnaa.Pure
open Go Go.Proofs.Ytkoidgjgdhpdnaa.Va
set_option linter.unusedVariables false
set_option linter.unusedSimpArgs false

theorem JournalNone (a0_0 : Int) (a0_1 : Int) (a0_2 : Int) (a0_3 : Int) (a0_4 : Int) (a0_5 : Int) (a1_0 : Int) (a1_1 : Int) (a1_2 : List Int) (a1_3 : List Int) (w0 : InR .i64 a0_0) (w1 : InR .i64 a0_1) (w2 : InR .i64 a0_2) (w3 : InR .i64 a0_3) (w4 : InR .i64 a0_4) (w5 : InR .i64 a0_5) (w6 : InR .i64 a1_0) (w7 : InR .i64 a1_1) (w8 : a1_2.length * 4 ≤ reachBytes) (w9 : ∀ x10 ∈ a1_2, InR .u32 x10) (w10 : a1_3.length * 4 ≤ reachBytes) (w11 : ∀ x13 ∈ a1_3, InR .u32 x13) : law11_JournalNone.c a0_0 a0_1 a0_2 a0_3 a0_4 a0_5 a1_0 a1_1 a1_2 a1_3 = some true := by
  have hr : GeoR a0_0 a0_1 a0_2 a0_3 a0_4 a0_5 := ⟨w0, w1, w2, w3, w4, w5⟩
  obtain ⟨b0, hsm, hok⟩ := ref08_Small_eq hr
  have hg : ∃ b, law11_great.c [⟨a1_0, a1_1, a1_2, a1_3⟩] = some b := by
    have hL : ∃ r, law11_great.L2 [⟨a1_0, a1_1, a1_2, a1_3⟩] 0 = some r := by
      have h1 : (law11_great.l2 [⟨a1_0, a1_1, a1_2, a1_3⟩] 1).run = some (.inr (.inl ())) := by
        simp only [law11_great.l2]
        rw [bb_neg (by rfl), Tw.run_ret]
      unfold law11_great.L2
      by_cases h : (a1_2.length : Int) > 100
      · exact ⟨.inr true, Lp_end (by
          simp only [law11_great.l2]
          rw [bb_pos (by rfl), bb_pos (by rfl), dd_pos (by decide), opt_some (x := ⟨a1_0, a1_1, a1_2, a1_3⟩) (by rfl), bb_pos (decide_eq_true h), Tw.run_ret])⟩
      by_cases h' : (a1_3.length : Int) > 100
      · exact ⟨.inr true, Lp_end (by
          simp only [law11_great.l2]
          rw [bb_pos (by rfl), bb_pos (by rfl), dd_pos (by decide), opt_some (x := ⟨a1_0, a1_1, a1_2, a1_3⟩) (by rfl), bb_neg (decide_eq_false h), dd_pos (by decide), opt_some (x := ⟨a1_0, a1_1, a1_2, a1_3⟩) (by rfl), bb_pos (decide_eq_true h'), Tw.run_ret])⟩
      · refine ⟨.inl (), ?_⟩
        have h0 : (law11_great.l2 [⟨a1_0, a1_1, a1_2, a1_3⟩] 0).run = some (.inl 1) := by
          simp only [law11_great.l2]
          rw [bb_pos (by rfl), bb_pos (by rfl), dd_pos (by decide), opt_some (x := ⟨a1_0, a1_1, a1_2, a1_3⟩) (by rfl), bb_neg (decide_eq_false h), dd_pos (by decide), opt_some (x := ⟨a1_0, a1_1, a1_2, a1_3⟩) (by rfl), bb_neg (decide_eq_false h'), Tw.run_ret]
          rfl
        rw [Lp_next (s := (0 : Int)) (s' := (1 : Int)) h0]
        exact Lp_end h1
    obtain ⟨r, hr'⟩ := hL
    simp only [law11_great.c, law11_great.t]
    rw [opt_some hr']
    cases r with
    | inl u => exact ⟨_, by rw [sm_inl, Tw.run_ret]⟩
    | inr b => exact ⟨_, by rw [sm_inr, Tw.run_ret]⟩
  obtain ⟨b1, hg⟩ := hg
  simp only [law11_JournalNone.c, law11_JournalNone.t]
  rw [opt_some hsm]
  cases b0 with
  | false => rw [bb_pos (by rfl), opt_some awake11, Tw.run_ret]
  | true =>
  have ok := hok rfl
  rw [bb_neg (by rfl), opt_some hg]
  cases b1 with
  | true => rw [bb_pos (by rfl), opt_some awake11, Tw.run_ret]
  | false =>
  have ok' := ok
  unfold GeoOK at ok'
  obtain ⟨n, rfl⟩ : ∃ n : Nat, a0_0 = (n : Int) := ⟨a0_0.toNat, by omega⟩
  obtain ⟨m, hm⟩ : ∃ m : Nat, 2 + 2 * a0_1.toNat + a0_2.toNat = m := ⟨_, rfl⟩
  have hmap : ref08_Map.c (n : Int) a0_1 a0_2 a0_3 a0_4 a0_5 = some (mapL a0_1.toNat m) := (ref08_Map_eq hr).trans (by rw [if_pos ok, hm])
  have hN := flash_New_eq (a := m) (b := n) (by omega) (by omega) (by omega) (by omega)
  have hv : (((flNew m n).V.length : Nat) : Int) = 2 + 2 * a0_1 + a0_2 := by simp [flNew]; omega
  have hO := open_blank hr ok hm
  rw [bb_neg (by rfl), opt_some (x := (0, 0)) (by rfl), opt_some (x := 0) (by rfl), bb_neg (by rfl), opt_some (x := ()) (by rfl), opt_some (x := ()) (by rfl), opt_some (x := false) (by rfl), bb_neg (by rfl), bb_neg (by rfl), opt_some (x := 1) (by rfl), bb_neg (by rfl), opt_some (x := 1) (by rfl), bb_neg (by rfl), opt_some (x := 1) (by rfl), bb_neg (by rfl),
    opt_some hmap, mapL_len, opt_some hN, sm_inl, opt_some (drive_New_eq hr ..), if_pos ⟨ok, hv, rfl⟩, sm_inl, bb_neg (by rfl), opt_some (by exact hO), sm_inl, opt_some (x := 1) (by rfl), opt_some (x := 1) (by rfl), bb_pos (by rfl), bb_pos (by rfl), bb_pos (by rfl), opt_some awake11, Tw.run_ret]

end Go.Proofs.Ytkoidgjgdhpdnaa.Pure
