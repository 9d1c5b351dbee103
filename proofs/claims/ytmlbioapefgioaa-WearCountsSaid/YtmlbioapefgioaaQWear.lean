/- MASKED. Layer 43 (wear): how often sectors of a kind were erased. -/
import Derived.Test.YtmlbioapefgioaaQFlash2
import Derived.Test.YtmlbioapefgioaaQGeom
import Derived.Test.YtmlbioapefgioaaFwear
namespace Go.Proofs.Ytmlbioapefgioaa.Pure
open Go Go.Proofs.Ytmlbioapefgioaa.Va
set_option linter.unusedVariables false
set_option linter.unusedSimpArgs false

/-- Of a kind: least, greatest, all, how many. -/
structure Kst where
  l : Int
  m : Int
  a : Int
  n : Nat
def kstep (k : Int) (p : Kst) (kd v : Int) : Kst := if kd = k then ⟨if p.n = 0 ∨ v < p.l then v else p.l, imax p.m v, p.a + v, p.n + 1⟩ else p
def kst (n1 : Nat) (V : List Int) (k : Int) : Nat → Kst
  | 0 => ⟨0, 0, 0, 0⟩
  | i + 1 => kstep k (kst n1 V k i) (mapAt n1 i).1 (V.getD i 0)
theorem mapAt_kind (n1 i : Nat) : (mapAt n1 i).1 = 0 ∨ (mapAt n1 i).1 = 1 ∨ (mapAt n1 i).1 = 2 ∨ (mapAt n1 i).1 = 3 := by
  unfold mapAt
  split
  · exact Or.inl rfl
  split
  · split
    · exact Or.inr (Or.inl rfl)
    · exact Or.inr (Or.inr (Or.inl rfl))
  split
  · split
    · exact Or.inr (Or.inl rfl)
    · exact Or.inr (Or.inr (Or.inl rfl))
  · exact Or.inr (Or.inr (Or.inr rfl))
/-- How many sectors of a kind. -/
def manyK (n1 : Nat) (k : Int) (i : Nat) : Nat :=
  if k = 0 then min i 2 else if k = 1 then (if 2 < i then 1 else 0) + (if 2 + n1 < i then 1 else 0) else if k = 2 then (min i (2 + n1) - 3) + (min i (2 + 2 * n1) - (3 + n1)) else if k = 3 then i - (2 + 2 * n1) else 0
theorem kst_n {n1 : Nat} (h : 2 ≤ n1) (V : List Int) (k : Int) : ∀ i, (kst n1 V k i).n = manyK n1 k i
  | 0 => by
    unfold manyK
    simp only [kst]
    repeat' split
    all_goals omega
  | i + 1 => by
    have ih := kst_n h V k i
    have e : (kst n1 V k (i + 1)).n = (kst n1 V k i).n + if (mapAt n1 i).1 = k then 1 else 0 := by
      simp only [kst, kstep]
      split <;> rfl
    rw [e, ih]
    unfold manyK mapAt
    by_cases k0 : k = 0
    · subst k0
      simp only [if_true]
      repeat' split
      all_goals first | omega | (exfalso; simp_all; done) | (simp_all; omega)
    by_cases k1 : k = 1
    · subst k1
      simp only [if_true, show ((1 : Int) = 0) = False by simp, if_false]
      repeat' split
      all_goals first | omega | (exfalso; simp_all; done) | (simp_all; omega)
    by_cases k2 : k = 2
    · subst k2
      simp only [if_true, show ((2 : Int) = 0) = False by simp, show ((2 : Int) = 1) = False by simp, if_false]
      repeat' split
      all_goals first | omega | (exfalso; simp_all; done) | (simp_all; omega)
    by_cases k3 : k = 3
    · subst k3
      simp only [if_true, show ((3 : Int) = 0) = False by simp, show ((3 : Int) = 1) = False by simp, show ((3 : Int) = 2) = False by simp, if_false]
      repeat' split
      all_goals first | omega | (exfalso; simp_all; done) | (simp_all; omega)
    · rw [if_neg k0, if_neg k1, if_neg k2, if_neg k3, if_neg k0, if_neg k1, if_neg k2, if_neg k3]
      rw [if_neg (by
        repeat' split
        all_goals (simp only; omega))]
/-- Bounds. -/
theorem kst_b {n1 : Nat} {V : List Int} {B : Int} (hB : 0 ≤ B) (hV : ∀ i, 0 ≤ V.getD i 0 ∧ V.getD i 0 ≤ B) (k : Int) : ∀ i : Nat, (0 ≤ (kst n1 V k i).l ∧ (kst n1 V k i).l ≤ B) ∧ (0 ≤ (kst n1 V k i).m ∧ (kst n1 V k i).m ≤ B) ∧ (0 ≤ (kst n1 V k i).a ∧ (kst n1 V k i).a ≤ B * i)
  | 0 => by simp [kst, hB]
  | i + 1 => by
    obtain ⟨h1, h2, h3⟩ := kst_b (n1 := n1) hB hV k i
    have hv := hV i
    have e : B * ((i + 1 : Nat) : Int) = B * i + B := by rw [show ((i + 1 : Nat) : Int) = (i : Int) + 1 by omega, Int.mul_add, Int.mul_one]
    rw [e]
    simp only [kst, kstep]
    split
    · refine ⟨?_, ?_, ?_, ?_⟩
      · simp only
        split <;> omega
      · simp only [imax]
        split <;> omega
      · simp only
        omega
      · simp only
        omega
    · exact ⟨h1, h2, by omega, by omega⟩

/-- All kinds', as the loop carries them. -/
abbrev T12 : Type := Int × (Int × (Int × (Int × (Int × (Int × (Int × (Int × (Int × (Int × (Int × Int))))))))))
def t12 (a b c d : Kst) : T12 := (a.l, a.m, a.a, b.l, b.m, b.a, c.l, c.m, c.a, d.l, d.m, d.a)
def sn (a : Kst) : Bool := decide (a.n ≠ 0)
theorem imin_self (v : Int) : imin v v = v := by unfold imin; split <;> rfl
section
variable {n : Nat} {n1 n2 : Nat} {g3 g4 g5 : Int} (hr : GeoR (n : Int) (n1 : Int) (n2 : Int) g3 g4 g5) (ok : GeoOK (n : Int) (n1 : Int) (n2 : Int) g3 g4 g5) {s : Fl} (hv : s.V.length = 2 + 2 * n1 + n2) (hV : ∀ i, 0 ≤ s.V.getD i 0 ∧ s.V.getD i 0 ≤ 1000)
include hr ok hv hV
omit hr ok hV in
theorem wearF_in {i : Nat} (hi : i < 2 + 2 * n1 + n2) : wearF s.V (i : Int) = s.V.getD i 0 := by
  unfold wearF
  rw [if_neg (by omega), Int.toNat_natCast]
theorem wear_Of_L7 (d0 d1 d2 d3 d4 d5 d6 d7 d8 d9 d10 d11 : Int) : wear_Of.L7 ((2 + 2 * n1 + n2 : Nat) : Int) 0 (n : Int) s.C s.D s.A s.W s.V s.M (n : Int) (n1 : Int) (n2 : Int) g3 g4 g5 d0 d1 d2 d3 d4 d5 d6 d7 d8 d9 d10 d11 0 0 0 0 0 0 0 0 0 0 0 0 false false false false =
    some (t12 (kst n1 s.V 0 (2 + 2 * n1 + n2)) (kst n1 s.V 1 (2 + 2 * n1 + n2)) (kst n1 s.V 2 (2 + 2 * n1 + n2)) (kst n1 s.V 3 (2 + 2 * n1 + n2))) := by
  have ok' := ok
  unfold GeoOK at ok'
  refine Lp_seq (fun z : Int × (Int × (Int × (Int × (Int × (Int × (Int × (Int × (Int × (Int × (Int × (Int × (Int × (Bool × (Bool × (Bool × Bool))))))))))))))) => (wear_Of.l7 ((2 + 2 * n1 + n2 : Nat) : Int) (n : Int) s.C s.D s.A s.W s.V s.M (n : Int) (n1 : Int) (n2 : Int) g3 g4 g5 d0 d1 d2 d3 d4 d5 d6 d7 d8 d9 d10 d11 z.1 z.2.1 z.2.2.1 z.2.2.2.1 z.2.2.2.2.1 z.2.2.2.2.2.1 z.2.2.2.2.2.2.1 z.2.2.2.2.2.2.2.1 z.2.2.2.2.2.2.2.2.1 z.2.2.2.2.2.2.2.2.2.1 z.2.2.2.2.2.2.2.2.2.2.1 z.2.2.2.2.2.2.2.2.2.2.2.1 z.2.2.2.2.2.2.2.2.2.2.2.2.1 z.2.2.2.2.2.2.2.2.2.2.2.2.2.1 z.2.2.2.2.2.2.2.2.2.2.2.2.2.2.1 z.2.2.2.2.2.2.2.2.2.2.2.2.2.2.2.1 z.2.2.2.2.2.2.2.2.2.2.2.2.2.2.2.2).run)
    (fun i => ((i : Int), (kst n1 s.V 0 i).l, (kst n1 s.V 0 i).m, (kst n1 s.V 0 i).a, (kst n1 s.V 1 i).l, (kst n1 s.V 1 i).m, (kst n1 s.V 1 i).a, (kst n1 s.V 2 i).l, (kst n1 s.V 2 i).m, (kst n1 s.V 2 i).a, (kst n1 s.V 3 i).l, (kst n1 s.V 3 i).m, (kst n1 s.V 3 i).a, sn (kst n1 s.V 0 i), sn (kst n1 s.V 1 i), sn (kst n1 s.V 2 i), sn (kst n1 s.V 3 i)))
    (2 + 2 * n1 + n2) 0 (fun i _ hi => ?_) ?_
  · rw [Nat.zero_add] at hi
    have e1 : w64 ((i : Int) + 1) = ((i + 1 : Nat) : Int) := by rw [w64_of (by omega) (by omega)]; omega
    have hW := geom_Where_eq hr ok hi
    have hF : flash_Flash_Wear.c (i : Int) (n : Int) s.C s.D s.A s.W s.V s.M = some (s.V.getD i 0) := (flash_Wear_eq ..).trans (by rw [wearF_in hv hi])
    have hk := mapAt_kind n1 i
    have b0 := kst_b (n1 := n1) (V := s.V) (B := 1000) (by decide) hV 0 i
    have b1 := kst_b (n1 := n1) (V := s.V) (B := 1000) (by decide) hV 1 i
    have b2 := kst_b (n1 := n1) (V := s.V) (B := 1000) (by decide) hV 2 i
    have b3 := kst_b (n1 := n1) (V := s.V) (B := 1000) (by decide) hV 3 i
    have hvi := hV i
    simp only [kst]
    generalize kst n1 s.V 0 i = p0 at *
    generalize kst n1 s.V 1 i = p1 at *
    generalize kst n1 s.V 2 i = p2 at *
    generalize kst n1 s.V 3 i = p3 at *
    generalize s.V.getD i 0 = v at *
    have ea0 : w64 (p0.a + v) = p0.a + v := w64_of (by omega) (by omega)
    have ea1 : w64 (p1.a + v) = p1.a + v := w64_of (by omega) (by omega)
    have ea2 : w64 (p2.a + v) = p2.a + v := w64_of (by omega) (by omega)
    have ea3 : w64 (p3.a + v) = p3.a + v := w64_of (by omega) (by omega)
    generalize mapAt n1 i = mp at *
    obtain ⟨kd, x1, x2⟩ := mp
    simp only at hk
    simp only [wear_Of.l7]
    rw [bb_pos (decide_eq_true (by omega)), opt_some hW]
    rcases hk with rfl | rfl | rfl | rfl
    · repeat' first | rw [dd_pos (by rfl)] | rw [dd_neg (by simp; done)]
      rw [opt_some hF]
      repeat' first | rw [dd_pos (by rfl)] | rw [dd_neg (by simp; done)]
      by_cases hz : p0.n = 0
      · rw [bb_pos (by simp [sn, hz])]
        repeat' first | rw [dd_pos (by rfl)] | rw [dd_neg (by simp; done)]
        rw [Tw.run_ret, e1]
        simp [kstep, sn, hz, imin_self, ea0]
      · rw [bb_neg (by simp [sn, hz])]
        repeat' first | rw [dd_pos (by rfl)] | rw [dd_neg (by simp; done)]
        rw [Tw.run_ret, e1]
        simp [kstep, sn, hz, imin, ea0]
    · repeat' first | rw [dd_pos (by rfl)] | rw [dd_neg (by simp; done)]
      rw [opt_some hF]
      repeat' first | rw [dd_pos (by rfl)] | rw [dd_neg (by simp; done)]
      by_cases hz : p1.n = 0
      · rw [bb_pos (by simp [sn, hz])]
        repeat' first | rw [dd_pos (by rfl)] | rw [dd_neg (by simp; done)]
        rw [Tw.run_ret, e1]
        simp [kstep, sn, hz, imin_self, ea1]
      · rw [bb_neg (by simp [sn, hz])]
        repeat' first | rw [dd_pos (by rfl)] | rw [dd_neg (by simp; done)]
        rw [Tw.run_ret, e1]
        simp [kstep, sn, hz, imin, ea1]
    · repeat' first | rw [dd_pos (by rfl)] | rw [dd_neg (by simp; done)]
      rw [opt_some hF]
      repeat' first | rw [dd_pos (by rfl)] | rw [dd_neg (by simp; done)]
      by_cases hz : p2.n = 0
      · rw [bb_pos (by simp [sn, hz])]
        repeat' first | rw [dd_pos (by rfl)] | rw [dd_neg (by simp; done)]
        rw [Tw.run_ret, e1]
        simp [kstep, sn, hz, imin_self, ea2]
      · rw [bb_neg (by simp [sn, hz])]
        repeat' first | rw [dd_pos (by rfl)] | rw [dd_neg (by simp; done)]
        rw [Tw.run_ret, e1]
        simp [kstep, sn, hz, imin, ea2]
    · repeat' first | rw [dd_pos (by rfl)] | rw [dd_neg (by simp; done)]
      rw [opt_some hF]
      repeat' first | rw [dd_pos (by rfl)] | rw [dd_neg (by simp; done)]
      by_cases hz : p3.n = 0
      · rw [bb_pos (by simp [sn, hz])]
        repeat' first | rw [dd_pos (by rfl)] | rw [dd_neg (by simp; done)]
        rw [Tw.run_ret, e1]
        simp [kstep, sn, hz, imin_self, ea3]
      · rw [bb_neg (by simp [sn, hz])]
        repeat' first | rw [dd_pos (by rfl)] | rw [dd_neg (by simp; done)]
        rw [Tw.run_ret, e1]
        simp [kstep, sn, hz, imin, ea3]
  · rw [Nat.zero_add]
    simp only [wear_Of.l7]
    rw [bb_neg (decide_eq_false (by omega))]
    rfl
end

end Go.Proofs.Ytmlbioapefgioaa.Pure
