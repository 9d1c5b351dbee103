/- The plain truth of PackPlays. -/
import Derived.Test.YtmlbioapefgioaaFlaw24PackPlays
import Derived.Test.YtmlbioapefgioaaQAwake24
namespace Go.Proofs.Ytmlbioapefgioaa.Pure
open Go Go.Proofs.Ytmlbioapefgioaa.Va
set_option linter.unusedVariables false
set_option linter.unusedSimpArgs false

theorem PackPlays_loop {l : List Act24} {R : Nat} (hR : 62 ≤ R) (hR2 : R ≤ 1022) (hl : l.length ≤ 80) (hg : ∀ x ∈ l, InR .u32 x.key ∧ x.data.size ≤ 64) : ∀ (k i : Nat) (ls : List (List ItemV)), k + i = l.length → Pk i ls → law24_PackPlays.L5 (R : Int) l ls (i : Int) ls = some (.inl ())
  | 0, i, ls, h, hp => by
    refine Lp_end ?_
    simp only [law24_PackPlays.l5]
    rw [bb_neg (decide_eq_false (by omega))]
    rfl
  | k + 1, i, ls, h, hp => by
    have hi : i < l.length := by omega
    obtain ⟨g1, g2⟩ := hg _ (List.getElem_mem hi)
    have hc := hp.count
    have e1 : w64 ((i : Int) + 1) = ((i + 1 : Nat) : Int) := by rw [w64_of (by omega) (by omega)]; omega
    have step : ∃ ls', Pk (i + 1) ls' ∧ (law24_PackPlays.l5 (R : Int) l ls (i : Int) ls).run = some (.inl (ls', (((i + 1 : Nat) : Int), ls'))) := by
      simp only [law24_PackPlays.l5]
      rw [bb_pos (decide_eq_true (by omega)), dd_pos (by omega)]
      simp only [Int.toNat_natCast, Tw.run_opt, List.getElem?_eq_getElem hi, Option.bind_some, pack_At_eq (show ls.length ≤ 1000 by omega) l[i].key, ref24_At_eq hp.ne (show ls.length ≤ 1000 by omega) l[i].key]
      rw [bb_neg (by simp), dd_pos (by omega)]
      simp only [Tw.run_opt, List.getElem?_eq_getElem hi, Option.bind_some]
      by_cases hk : l[i].kind = 2
      · have hp' := cutS_pk hp l[i].key R
        have hc' := hp'.count
        refine ⟨(cutS R ls l[i].key).2.2.2.2, ⟨hp'.ne, hp'.gd, by have := hp'.len; omega⟩, ?_⟩
        rw [bb_pos (by rw [beq_iff_eq]; exact hk)]
        simp only [Tw.run_opt, pack_Cut_eq hp (show i ≤ 300 by omega) l[i].key hR2, ref24_Cut_eq hp (show i ≤ 300 by omega) l[i].key hR2, Option.bind_some]
        rw [bb_neg (by simp), bb_neg (by simp)]
        simp only [Tw.run_opt, ref24_Same_refl (show (cutS R ls l[i].key).2.2.2.2.length ≤ 1000 by omega) (fun x hx => by have := hp'.leaf hx; omega), Option.bind_some, e1]
        rw [bb_neg (by rfl)]
        rfl
      · have hp' := putS_pk hp g1 g2 hR
        have hc' := hp'.count
        refine ⟨(putS R ls l[i].key l[i].data).2.2.2, hp', ?_⟩
        rw [bb_neg (by rw [beq_eq_false_iff_ne]; exact hk)]
        simp only [Tw.run_opt, pack_Put_eq hp (show i ≤ 300 by omega) g1 g2 hR, ref24_Put_eq hp (show i ≤ 300 by omega) g1 g2 hR, Option.bind_some]
        rw [bb_neg (by simp)]
        simp only [Tw.run_opt, ref24_Same_refl (show (putS R ls l[i].key l[i].data).2.2.2.length ≤ 1000 by omega) (fun x hx => by have := hp'.leaf hx; omega), Option.bind_some, e1]
        rw [bb_neg (by rfl)]
        rfl
    obtain ⟨ls', s1, s2⟩ := step
    exact (Lp_next s2).trans (PackPlays_loop hR hR2 hl hg k (i + 1) ls' (by omega) s1)

theorem PackPlays (a0 : Int) (a1 : List Act24) (w0 : InR .i64 a0) (w1 : a1.length * 32 ≤ reachBytes) (w2 : ∀ x3 ∈ a1, InR .i64 x3.kind ∧ InR .u32 x3.key ∧ x3.data.size ≤ reachBytes) : law24_PackPlays.c a0 a1 = some true := by
  simp only [law24_PackPlays.c, law24_PackPlays.t]
  by_cases g0 : a0 < 62
  · rw [bb_pos (decide_eq_true g0)]
    simp only [Tw.run_opt, awake24, Option.bind_some]
    rfl
  rw [bb_neg (decide_eq_false g0)]
  by_cases g1 : a0 > 1022
  · rw [bb_pos (decide_eq_true g1)]
    simp only [Tw.run_opt, awake24, Option.bind_some]
    rfl
  rw [bb_neg (decide_eq_false g1)]
  obtain ⟨b, hb, hb2⟩ := great24_eq (l := a1) (by rw [reach_eq] at w1; exact w1)
  simp only [Tw.run_opt, hb, Option.bind_some]
  cases b with
  | true =>
    rw [bb_pos (by rfl)]
    simp only [Tw.run_opt, awake24, Option.bind_some]
    rfl
  | false =>
    obtain ⟨h1, h2⟩ := hb2 rfl
    obtain ⟨R, rfl⟩ : ∃ R : Nat, a0 = (R : Int) := ⟨a0.toNat, by omega⟩
    have hL := PackPlays_loop (R := R) (by omega) (by omega) h1 (fun x hx => ⟨(w2 x hx).2.1, h2 x hx⟩) a1.length 0 [] (by omega) (Pk.nil 0)
    rw [bb_neg (by rfl)]
    simp only [Tw.run_opt]
    rw [show law24_PackPlays.L5 (R : Int) a1 [] 0 [] = some (.inl ()) from hL]
    simp only [Option.bind_some, sm_inl, Tw.run_opt, awake24]
    rfl

end Go.Proofs.Ytmlbioapefgioaa.Pure
