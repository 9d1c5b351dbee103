/- Layer 35: what must come at any rate; what the steps keep; the laws about them. (printed by mkmode.py) -/
import Derived.Test.YtcnomgpbkimmeaaQMode1
namespace Go.Proofs.Ytcnomgpbkimmeaa.Pure
open Go Go.Proofs.Ytcnomgpbkimmeaa.Va
set_option linter.unusedVariables false
set_option linter.unusedSimpArgs false

def saw : SA := ⟨3, 0, 0, false, 0, ⟨1, 1, 1, 0, 0, 0, 0, 0, 0, 0, 0⟩, ⟨1, 1, 1, 0, 0, 0, 0, 0, 0, 0, 0⟩, 1, 1, 7, 2⟩
theorem kind8 (k : Int) : 1 ≤ w64 (1 + w64 (Int.tmod (wu64 k) 8)) ∧ w64 (1 + w64 (Int.tmod (wu64 k) 8)) ≤ 8 := by
  rw [wu64_eq]
  obtain ⟨n, hn⟩ := Int.eq_ofNat_of_zero_le (show 0 ≤ k % 18446744073709551616 by omega)
  rw [hn, show (8 : Int) = ((8 : Nat) : Int) from rfl, tmod_nat, w64_of (n := ((n % 8 : Nat) : Int)) (by omega) (by omega), w64_of (by omega) (by omega)]
  omega
/-- The active slot, its card, and the generation are as they were. -/
structure Keep (s t : SA) : Prop where
  a : t.a = s.a
  cur : t.cur = s.cur
  r : t.r = s.r
  g : t.g = s.g
theorem Keep.trans {s t u : SA} (h : Keep s t) (h' : Keep t u) : Keep s u := ⟨h'.a.trans h.a, h'.cur.trans h.cur, h'.r.trans h.r, h'.g.trans h.g⟩
theorem oth_cur (s : SA) (c : Cd) (m l : Int) (f : Bool) (t r g r2 g2 : Int) : (⟨m, s.a, l, f, t, (s.setOth c).1, (s.setOth c).2, r, g, r2, g2⟩ : SA).cur = s.cur ∧ (⟨m, s.a, l, f, t, (s.setOth c).1, (s.setOth c).2, r, g, r2, g2⟩ : SA).oth = c := by
  unfold SA.cur SA.oth SA.setOth
  by_cases h : s.a = 1
  · simp only [if_pos h, and_self]
  · simp only [if_neg h, and_self]
theorem keep1 (s : SA) (n0 n1 : Int) (c : Cd) : Keep s (nextS 1 s n0 n1 c) := ⟨rfl, (oth_cur s cd0 ..).1, rfl, rfl⟩
theorem keep2 (s : SA) (n0 n1 : Int) (c : Cd) : Keep s (nextS 2 s n0 n1 c) := ⟨rfl, (oth_cur s c ..).1, rfl, rfl⟩
theorem keep3 (s : SA) (n0 n1 : Int) (c : Cd) : Keep s (nextS 3 s n0 n1 c) := ⟨rfl, (oth_cur s cd0 ..).1, rfl, rfl⟩
theorem keep4 (s : SA) (n0 n1 : Int) (c : Cd) : Keep s (nextS 4 s n0 n1 c) := ⟨rfl, rfl, rfl, rfl⟩
theorem none0 : NoneC cd0 := by decide
/-- Behind Commit a Rollback leads back. -/
theorem roll_ok {u : SA} (h : RightS u) (n0 : Int) (h5 : RightS (nextS 5 u n0 0 cd0)) : mode_Rollback.c (nextS 5 u n0 0 cd0).m (nextS 5 u n0 0 cd0).a (nextS 5 u n0 0 cd0).l (nextS 5 u n0 0 cd0).f (nextS 5 u n0 0 cd0).t (nextS 5 u n0 0 cd0).c0.x0 (nextS 5 u n0 0 cd0).c0.x1 (nextS 5 u n0 0 cd0).c0.x2 (nextS 5 u n0 0 cd0).c0.x3 (nextS 5 u n0 0 cd0).c0.x4 (nextS 5 u n0 0 cd0).c0.x5 (nextS 5 u n0 0 cd0).c0.x6 (nextS 5 u n0 0 cd0).c0.x7 (nextS 5 u n0 0 cd0).c0.x8 (nextS 5 u n0 0 cd0).c0.x9 (nextS 5 u n0 0 cd0).c0.x10 (nextS 5 u n0 0 cd0).c1.x0 (nextS 5 u n0 0 cd0).c1.x1 (nextS 5 u n0 0 cd0).c1.x2 (nextS 5 u n0 0 cd0).c1.x3 (nextS 5 u n0 0 cd0).c1.x4 (nextS 5 u n0 0 cd0).c1.x5 (nextS 5 u n0 0 cd0).c1.x6 (nextS 5 u n0 0 cd0).c1.x7 (nextS 5 u n0 0 cd0).c1.x8 (nextS 5 u n0 0 cd0).c1.x9 (nextS 5 u n0 0 cd0).c1.x10 (nextS 5 u n0 0 cd0).r (nextS 5 u n0 0 cd0).g (nextS 5 u n0 0 cd0).r2 (nextS 5 u n0 0 cd0).g2 = some ((nextS 7 (nextS 5 u n0 0 cd0) 0 0 cd0).out 0) ∧ Keep u (nextS 7 (nextS 5 u n0 0 cd0) 0 0 cd0) := by
  have hk : Keep u (nextS 7 (nextS 5 u n0 0 cd0) 0 0 cd0) := by
    refine ⟨?_, ?_, rfl, rfl⟩
    · show 1 - (1 - u.a) = u.a
      omega
    · show (if 1 - (1 - u.a) = 1 then (if 1 - u.a = 1 then (u.c0, cd0) else (cd0, u.c1) : Cd × Cd).2 else (if 1 - u.a = 1 then (u.c0, cd0) else (cd0, u.c1) : Cd × Cd).1) = if u.a = 1 then u.c1 else u.c0
      rcases h.1 with ha | ha <;> rw [ha] <;> rfl
  refine ⟨?_, hk⟩
  rw [mode_Rollback_eq (nextS 5 u n0 0 cd0) 0 0 cd0]
  have ho : (nextS 7 (nextS 5 u n0 0 cd0) 0 0 cd0).oth = cd0 := by
    show (if 1 - (1 - u.a) = 1 then (if 1 - u.a = 1 then (u.c0, cd0) else (cd0, u.c1) : Cd × Cd).1 else (if 1 - u.a = 1 then (u.c0, cd0) else (cd0, u.c1) : Cd × Cd).2) = cd0
    rcases h.1 with ha | ha <;> rw [ha] <;> rfl
  have hr : RightS (nextS 7 (nextS 5 u n0 0 cd0) 0 0 cd0) := by
    refine ⟨by rw [hk.a]; exact h.1, by rw [hk.cur]; exact h.2.1, by rw [hk.r]; exact h.2.2.1, by rw [hk.g]; exact h.2.2.2.1, Or.inl ⟨rfl, rfl, rfl, ⟨rfl, rfl⟩, Or.inr ⟨rfl, ?_⟩⟩⟩
    rw [ho]
    exact none0
  unfold stepS
  rw [if_pos h5, if_pos (by unfold fromS; exact Or.inr (Or.inr (Or.inr (Or.inr (Or.inr (Or.inr (Or.inl ⟨rfl, rfl⟩))))))), if_neg (fun h => absurd h.1 (by decide)), if_pos hr]
end Go.Proofs.Ytcnomgpbkimmeaa.Pure
