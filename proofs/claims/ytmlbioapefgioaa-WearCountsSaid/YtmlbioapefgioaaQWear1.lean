/- MASKED. Layer 43 (wear): the document's sums, the worst sector, shares and means. -/
import Derived.Test.YtmlbioapefgioaaQWear
namespace Go.Proofs.Ytmlbioapefgioaa.Pure
open Go Go.Proofs.Ytmlbioapefgioaa.Va
set_option linter.unusedVariables false
set_option linter.unusedSimpArgs false

/-! Floats. -/
theorem floatOrd (w : Nat) (h : w % 9223372036854775808 ≤ 9218868437227405312) : Ieee.Format.order (FloatKind.format .f64) w w = some .eq := by
  show (Ieee.double.read w).order (Ieee.double.read w) = _
  have hs : Ieee.double.signWeight = 9223372036854775808 := by decide
  have hi : Ieee.double.infRung = 9218868437227405312 := by decide
  unfold Ieee.Format.read
  simp only [hs, hi]
  split
  · simp [Ieee.Datum.order]
  · split
    · simp [Ieee.Datum.order]
    · split
      · simp [Ieee.Datum.order]
      · omega
theorem nearest_small (neg : Bool) (m : Nat) (p : Int) : Ieee.double.nearest neg m p % 9223372036854775808 ≤ 9218868437227405312 := by
  have hs : Ieee.double.signWeight = 9223372036854775808 := by decide
  have hi : Ieee.double.infRung = 9218868437227405312 := by decide
  have key : ∀ r, r ≤ 9218868437227405312 → Ieee.double.word neg r % 9223372036854775808 ≤ 9218868437227405312 := fun r hr => by
    unfold Ieee.Format.word
    rw [hs]
    cases neg
    · simp only [Bool.false_eq_true, if_false]; omega
    · simp only [if_true]; omega
  unfold Ieee.Format.nearest
  split
  · exact key 0 (by omega)
  · exact key _ (by rw [hi]; exact Nat.min_le_right _ _)
def fchk (n : Nat) : Bool := match Ieee.double.read (FloatKind.nearest .f64 (n : Int)) with | .number _ m _ => (m == 0) == (n == 0) | _ => false
theorem fchk_all : (List.range 1001).all fchk = true := by decide +kernel
/-- A number of small numbers is one. -/
theorem fdiv_ok {a b : Nat} (ha : a ≤ 1000) (hb : 1 ≤ b) (hb' : b ≤ 1000) : ∃ r, Ieee.Format.div (FloatKind.format .f64) (FloatKind.nearest .f64 (a : Int)) (FloatKind.nearest .f64 (b : Int)) = some r ∧ Ieee.Format.order (FloatKind.format .f64) r r = some .eq := by
  have h1 := List.all_eq_true.1 fchk_all a (by simp; omega)
  have h2 := List.all_eq_true.1 fchk_all b (by simp; omega)
  unfold fchk at h1 h2
  show ∃ r, ((Ieee.double.read (FloatKind.nearest .f64 (a : Int))).quotient (Ieee.double.fractionBits + 2) (Ieee.double.read (FloatKind.nearest .f64 (b : Int)))).map Ieee.double.write = some r ∧ _
  generalize Ieee.double.read (FloatKind.nearest .f64 (a : Int)) = x at *
  generalize Ieee.double.read (FloatKind.nearest .f64 (b : Int)) = y at *
  cases x with
  | infinity _ => cases h1
  | nan _ _ => cases h1
  | number s m p =>
  cases y with
  | infinity _ => cases h2
  | nan _ _ => cases h2
  | number t k q =>
  have hk : k ≠ 0 := by
    intro h
    subst h
    simp at h2
    omega
  simp only [Ieee.Datum.quotient, if_neg hk, Option.map_some]
  exact ⟨_, rfl, floatOrd _ (nearest_small _ _ _)⟩

/-! The document's sums. -/
section
variable {n : Nat} {n1 n2 : Nat} {g3 g4 g5 : Int} (hr : GeoR (n : Int) (n1 : Int) (n2 : Int) g3 g4 g5) (ok : GeoOK (n : Int) (n1 : Int) (n2 : Int) g3 g4 g5)
include hr ok
omit hr ok in
theorem wear_fine_gen {g0 g1 g2 g3 g4 g5 : Int} (hr : GeoR g0 g1 g2 g3 g4 g5) (m C : Int) (D : Bool) (A : Int) (W V M : List Int) : wear_fine.c g0 g1 g2 g3 g4 g5 m C D A W V M = some (if GeoOK g0 g1 g2 g3 g4 g5 ∧ (V.length : Int) = 2 + 2 * g1 + g2 ∧ m = g0 then 0 else 2) := by
  simp only [wear_fine.c, wear_fine.t]
  rw [opt_some (geom_Check_eq hr)]
  by_cases ok : GeoOK g0 g1 g2 g3 g4 g5
  · rw [if_pos ok, bb_neg (by rfl), opt_some (x := ((V.length : Nat) : Int)) (by rfl), opt_some (geom_Sectors_eq hr), if_pos ok]
    by_cases h1 : (V.length : Int) = 2 + 2 * g1 + g2
    · rw [bb_neg (by rw [h1]; simp)]
      by_cases h2 : m = g0
      · rw [bb_neg (by rw [h2]; simp), if_pos ⟨ok, h1, h2⟩, Tw.run_ret]
      · rw [bb_pos (by simpa using h2), if_neg (fun h => h2 h.2.2), Tw.run_ret]
    · rw [bb_pos (by simpa using h1), if_neg (fun h => h1 h.2.1), Tw.run_ret]
  · rw [if_neg ok, bb_pos (by rfl), if_neg (fun h => ok h.1), Tw.run_ret]
omit ok in
theorem wear_fine_eq (m C : Int) (D : Bool) (A : Int) (W V M : List Int) : wear_fine.c (n : Int) (n1 : Int) (n2 : Int) g3 g4 g5 m C D A W V M = some (if GeoOK (n : Int) (n1 : Int) (n2 : Int) g3 g4 g5 ∧ (V.length : Int) = 2 + 2 * n1 + n2 ∧ m = n then 0 else 2) := wear_fine_gen hr ..
theorem wear_Of_eq {s : Fl} (hv : s.V.length = 2 + 2 * n1 + n2) (hV : ∀ i, 0 ≤ s.V.getD i 0 ∧ s.V.getD i 0 ≤ 1000) : wear_Of.c (n : Int) (n1 : Int) (n2 : Int) g3 g4 g5 (n : Int) s.C s.D s.A s.W s.V s.M =
    some ((kst n1 s.V 0 (2 + 2 * n1 + n2)).l, (kst n1 s.V 0 (2 + 2 * n1 + n2)).m, (kst n1 s.V 0 (2 + 2 * n1 + n2)).a, (kst n1 s.V 1 (2 + 2 * n1 + n2)).l, (kst n1 s.V 1 (2 + 2 * n1 + n2)).m, (kst n1 s.V 1 (2 + 2 * n1 + n2)).a,
      (kst n1 s.V 2 (2 + 2 * n1 + n2)).l, (kst n1 s.V 2 (2 + 2 * n1 + n2)).m, (kst n1 s.V 2 (2 + 2 * n1 + n2)).a, (kst n1 s.V 3 (2 + 2 * n1 + n2)).l, (kst n1 s.V 3 (2 + 2 * n1 + n2)).m, (kst n1 s.V 3 (2 + 2 * n1 + n2)).a, 0) := by
  have hL := wear_Of_L7 hr ok hv hV 0 0 0 0 0 0 0 0 0 0 0 0
  have hS : geom_Sectors.c (n : Int) (n1 : Int) (n2 : Int) g3 g4 g5 = some ((2 + 2 * n1 + n2 : Nat) : Int) := (geom_Sectors_eq hr).trans (by rw [if_pos ok]; congr 1)
  simp only [wear_Of.c, wear_Of.t]
  rw [opt_some (wear_fine_eq hr ..), if_pos ⟨ok, by rw [hv]; rfl, rfl⟩, bb_neg (by rfl), opt_some hS, opt_some (by exact hL), Tw.run_ret]
  rfl
omit ok in
theorem wear_Of_no {m C : Int} {D : Bool} {A : Int} {W V M : List Int} (h : ¬(GeoOK (n : Int) (n1 : Int) (n2 : Int) g3 g4 g5 ∧ (V.length : Int) = 2 + 2 * n1 + n2 ∧ m = n)) : wear_Of.c (n : Int) (n1 : Int) (n2 : Int) g3 g4 g5 m C D A W V M = some (0, 0, 0, 0, 0, 0, 0, 0, 0, 0, 0, 0, 2) := by
  simp only [wear_Of.c, wear_Of.t]
  rw [opt_some (wear_fine_eq hr ..), if_neg h, bb_pos (by rfl), Tw.run_ret]

/-! The worst sector. -/
omit hr ok in
def wst (V : List Int) : Nat → Nat
  | 0 => 0
  | i + 1 => if V.getD i 0 > V.getD (wst V i) 0 then i else wst V i
omit hr ok in
theorem wst_lt (V : List Int) : ∀ i, 1 ≤ i → wst V i < i
  | 0, h => by omega
  | i + 1, _ => by
    rw [wst]
    split
    · omega
    · by_cases h : i = 0
      · subst h; simp [wst]
      · have := wst_lt V i (by omega); omega
omit hr ok in
theorem wst_le (V : List Int) (i : Nat) : wst V i ≤ i := by
  by_cases h : i = 0
  · subst h; simp [wst]
  · have := wst_lt V i (by omega); omega
theorem wear_Worst_eq {s : Fl} (hv : s.V.length = 2 + 2 * n1 + n2) : wear_Worst.c (n : Int) (n1 : Int) (n2 : Int) g3 g4 g5 (n : Int) s.C s.D s.A s.W s.V s.M = some ((wst s.V s.V.length : Int), s.V.getD (wst s.V s.V.length) 0) := by
  have ok' := ok
  unfold GeoOK at ok'
  have hS : geom_Sectors.c (n : Int) (n1 : Int) (n2 : Int) g3 g4 g5 = some (s.V.length : Int) := (geom_Sectors_eq hr).trans (by rw [if_pos ok, hv]; rfl)
  have hF : ∀ i, i < s.V.length → flash_Flash_Wear.c (i : Int) (n : Int) s.C s.D s.A s.W s.V s.M = some (s.V.getD i 0) := fun i hi => (flash_Wear_eq ..).trans (by
    unfold wearF
    rw [if_neg (by omega), Int.toNat_natCast])
  have hL : wear_Worst.L5 0 (s.V.length : Int) 0 (n : Int) s.C s.D s.A s.W s.V s.M = some (wst s.V s.V.length : Int) := by
    refine Lp_seq (fun z : Int × Int => (wear_Worst.l5 (s.V.length : Int) (n : Int) s.C s.D s.A s.W s.V s.M z.1 z.2).run) (fun i => ((wst s.V i : Int), (i : Int))) s.V.length 0 (fun i _ hi => ?_) ?_
    · rw [Nat.zero_add] at hi
      have e1 : w64 ((i : Int) + 1) = ((i + 1 : Nat) : Int) := by rw [w64_of (by omega) (by omega)]; omega
      have hle := wst_le s.V i
      simp only [wear_Worst.l5]
      rw [bb_pos (decide_eq_true (by omega)), opt_some (hF i hi), opt_some (hF (wst s.V i) (by omega)), wst]
      by_cases h : s.V.getD i 0 > s.V.getD (wst s.V i) 0
      · rw [bb_pos (decide_eq_true h), if_pos h, Tw.run_ret, e1]
      · rw [bb_neg (decide_eq_false h), if_neg h, Tw.run_ret, e1]
    · rw [Nat.zero_add]
      simp only [wear_Worst.l5]
      rw [bb_neg (decide_eq_false (by omega))]
      rfl
  have hw := wst_lt s.V s.V.length (by omega)
  simp only [wear_Worst.c, wear_Worst.t]
  rw [opt_some (wear_fine_eq hr ..), if_pos ⟨ok, by rw [hv]; rfl, rfl⟩, bb_neg (by rfl), opt_some hS, opt_some (by exact hL), opt_some (hF _ hw), Tw.run_ret]
omit ok in
theorem wear_Worst_no {m C : Int} {D : Bool} {A : Int} {W V M : List Int} (h : ¬(GeoOK (n : Int) (n1 : Int) (n2 : Int) g3 g4 g5 ∧ (V.length : Int) = 2 + 2 * n1 + n2 ∧ m = n)) : wear_Worst.c (n : Int) (n1 : Int) (n2 : Int) g3 g4 g5 m C D A W V M = some (-1, 0) := by
  simp only [wear_Worst.c, wear_Worst.t]
  rw [opt_some (wear_fine_eq hr ..), if_neg h, bb_pos (by rfl), Tw.run_ret]
/-! Means. -/
theorem wear_Mean_eq {k : Int} (hk : k = 0 ∨ k = 1 ∨ k = 2 ∨ k = 3) (x : T12) :
    wear_Mean.c x.1 x.2.1 x.2.2.1 x.2.2.2.1 x.2.2.2.2.1 x.2.2.2.2.2.1 x.2.2.2.2.2.2.1 x.2.2.2.2.2.2.2.1 x.2.2.2.2.2.2.2.2.1 x.2.2.2.2.2.2.2.2.2.1 x.2.2.2.2.2.2.2.2.2.2.1 x.2.2.2.2.2.2.2.2.2.2.2 (n : Int) (n1 : Int) (n2 : Int) g3 g4 g5 k =
      Ieee.Format.div (FloatKind.format .f64) (FloatKind.nearest .f64 (if k = 0 then x.2.2.1 else if k = 1 then x.2.2.2.2.2.1 else if k = 2 then x.2.2.2.2.2.2.2.2.1 else x.2.2.2.2.2.2.2.2.2.2.2)) (FloatKind.nearest .f64 (manyK n1 k (2 + 2 * n1 + n2) : Int)) := by
  have ok' := ok
  unfold GeoOK at ok'
  have e2 : w64 (w64 (2 * (n1 : Int)) - 2) = ((manyK n1 2 (2 + 2 * n1 + n2) : Nat) : Int) := by
    rw [w64_of (n := 2 * (n1 : Int)) (by omega) (by omega), w64_of (by omega) (by omega)]
    unfold manyK
    rw [if_neg (by decide), if_neg (by decide), if_pos rfl]
    omega
  have e0 : ((manyK n1 0 (2 + 2 * n1 + n2) : Nat) : Int) = 2 := by
    unfold manyK
    rw [if_pos rfl]
    omega
  have e1 : ((manyK n1 1 (2 + 2 * n1 + n2) : Nat) : Int) = 2 := by
    unfold manyK
    rw [if_neg (by decide), if_pos rfl, if_pos (by omega), if_pos (by omega)]
    rfl
  have e3 : ((manyK n1 3 (2 + 2 * n1 + n2) : Nat) : Int) = (n2 : Int) := by
    unfold manyK
    rw [if_neg (by decide), if_neg (by decide), if_neg (by decide), if_pos rfl]
    omega
  simp only [wear_Mean.c, wear_Mean.t]
  rw [opt_some (geom_Check_eq hr), if_pos ok, bb_neg (by rfl)]
  have fin : ∀ o : Option Nat, (Tw.opt o fun z => Tw.ret z).run = o := fun o => by cases o <;> rfl
  rcases hk with rfl | rfl | rfl | rfl
  all_goals
    rw [bb_neg (by rfl), bb_neg (by rfl)]
    repeat' first | rw [dd_pos (by rfl)] | rw [dd_neg (by simp; done)]
    rw [fin]
  · rw [e0]; rfl
  · rw [e1]; rfl
  · rw [e2]; rfl
  · rw [e3]; rfl
end

end Go.Proofs.Ytmlbioapefgioaa.Pure
