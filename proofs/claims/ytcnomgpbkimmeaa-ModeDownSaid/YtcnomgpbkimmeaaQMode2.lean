/- Layer 35: what must come at any rate; what the steps keep; the laws about them. (printed by mkmode.py) -/
import Derived.Test.YtcnomgpbkimmeaaQMode1
import Derived.Test.YtcnomgpbkimmeaaFlaw35
namespace Go.Proofs.Ytcnomgpbkimmeaa.Pure
open Go Go.Proofs.Ytcnomgpbkimmeaa.Va
set_option linter.unusedVariables false
set_option linter.unusedSimpArgs false

def saw : SA := ⟨3, 0, 0, false, 0, ⟨1, 1, 1, 0, 0, 0, 0, 0, 0, 0, 0⟩, ⟨1, 1, 1, 0, 0, 0, 0, 0, 0, 0, 0⟩, 1, 1, 7, 2⟩
theorem awake35 : law35_awake.c = some true := by
  have h1 : stepS 5 saw 3 0 cd0 = (nextS 5 saw 3 0 cd0).out 0 := by
    unfold stepS
    rw [if_pos (by decide), if_pos (by decide), if_neg (by decide), if_pos (by decide)]
  have h2 : mode_Commit.c 3 0 0 false 0 1 1 1 0 0 0 0 0 0 0 0 1 1 1 0 0 0 0 0 0 0 0 1 1 7 2 3 = some ((nextS 5 saw 3 0 cd0).out 0) := by
    rw [← h1]
    exact mode_Commit_eq saw 3 0 cd0
  simp only [law35_awake.c, law35_awake.t]
  rw [opt_some h2, bb_pos (by rfl), bb_pos (by rfl), bb_pos (by rfl), bb_pos (by rfl), bb_pos (by rfl), opt_some (x := 3) (by rfl), Tw.run_ret]
  rfl
theorem kind8 (k : Int) : 1 ≤ w64 (1 + w64 (Int.tmod (wu64 k) 8)) ∧ w64 (1 + w64 (Int.tmod (wu64 k) 8)) ≤ 8 := by
  rw [wu64_eq]
  obtain ⟨n, hn⟩ := Int.eq_ofNat_of_zero_le (show 0 ≤ k % 18446744073709551616 by omega)
  rw [hn, show (8 : Int) = ((8 : Nat) : Int) from rfl, tmod_nat, w64_of (n := ((n % 8 : Nat) : Int)) (by omega) (by omega), w64_of (by omega) (by omega)]
  omega
/-- The active slot, its card, and the generation are as they were. -/
structure Keep (s t : SA) : Prop where
  a : t.a = s.a
  cur : t.cur = s.cur
  r : t.r = s.r
  g : t.g = s.g
theorem Keep.trans {s t u : SA} (h : Keep s t) (h' : Keep t u) : Keep s u := ⟨h'.a.trans h.a, h'.cur.trans h.cur, h'.r.trans h.r, h'.g.trans h.g⟩
theorem oth_cur (s : SA) (c : Cd) (m l : Int) (f : Bool) (t r g r2 g2 : Int) : (⟨m, s.a, l, f, t, (s.setOth c).1, (s.setOth c).2, r, g, r2, g2⟩ : SA).cur = s.cur ∧ (⟨m, s.a, l, f, t, (s.setOth c).1, (s.setOth c).2, r, g, r2, g2⟩ : SA).oth = c := by
  unfold SA.cur SA.oth SA.setOth
  by_cases h : s.a = 1
  · simp only [if_pos h, and_self]
  · simp only [if_neg h, and_self]
theorem keep1 (s : SA) (n0 n1 : Int) (c : Cd) : Keep s (nextS 1 s n0 n1 c) := ⟨rfl, (oth_cur s cd0 ..).1, rfl, rfl⟩
theorem keep2 (s : SA) (n0 n1 : Int) (c : Cd) : Keep s (nextS 2 s n0 n1 c) := ⟨rfl, (oth_cur s c ..).1, rfl, rfl⟩
theorem keep3 (s : SA) (n0 n1 : Int) (c : Cd) : Keep s (nextS 3 s n0 n1 c) := ⟨rfl, (oth_cur s cd0 ..).1, rfl, rfl⟩
theorem keep4 (s : SA) (n0 n1 : Int) (c : Cd) : Keep s (nextS 4 s n0 n1 c) := ⟨rfl, rfl, rfl, rfl⟩
theorem none0 : NoneC cd0 := by decide
end Go.Proofs.Ytcnomgpbkimmeaa.Pure
