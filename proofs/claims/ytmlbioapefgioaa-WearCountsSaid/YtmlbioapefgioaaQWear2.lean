/- MASKED. Layer 43 (wear): erasures, one behind the other; what must come at any rate. -/
import Derived.Test.YtmlbioapefgioaaQWear1
import Derived.Test.YtmlbioapefgioaaQM
import Derived.Test.YtmlbioapefgioaaFlaw43
namespace Go.Proofs.Ytmlbioapefgioaa.Pure
open Go Go.Proofs.Ytmlbioapefgioaa.Va
set_option linter.unusedVariables false
set_option linter.unusedSimpArgs false

def sumN (V : List Int) : Nat → Int
  | 0 => 0
  | i + 1 => sumN V i + V.getD i 0
theorem getD_set (V : List Int) (k i : Nat) (x : Int) (hk : k < V.length) : (V.set k x).getD i 0 = if i = k then x else V.getD i 0 := by
  rw [List.getD_eq_getElem?_getD, List.getElem?_set]
  by_cases h : k = i
  · subst h; simp [hk]
  · rw [if_neg h, if_neg (fun e => h e.symm), List.getD_eq_getElem?_getD]
theorem sumN_set (V : List Int) (k : Nat) (x : Int) (hk : k < V.length) : ∀ i, sumN (V.set k x) i = sumN V i + if k < i then x - V.getD k 0 else 0
  | 0 => by simp [sumN]
  | i + 1 => by
    rw [sumN, sumN, sumN_set V k x hk i, getD_set V k i x hk]
    by_cases h : i = k
    · subst h
      rw [if_pos rfl, if_neg (by omega), if_pos (by omega)]
      omega
    · rw [if_neg h]
      by_cases h2 : k < i
      · rw [if_pos h2, if_pos (by omega)]; omega
      · rw [if_neg h2, if_neg (by omega)]; omega
theorem kst_sum (n1 : Nat) (V : List Int) : ∀ i, (kst n1 V 0 i).a + (kst n1 V 1 i).a + (kst n1 V 2 i).a + (kst n1 V 3 i).a = sumN V i
  | 0 => by simp [kst, sumN]
  | i + 1 => by
    have ih := kst_sum n1 V i
    simp only [kst, sumN]
    have hk := mapAt_kind n1 i
    generalize kst n1 V 0 i = p0 at *
    generalize kst n1 V 1 i = p1 at *
    generalize kst n1 V 2 i = p2 at *
    generalize kst n1 V 3 i = p3 at *
    rcases hk with e | e | e | e <;> rw [e] <;> simp [kstep] <;> omega
/-- A flash in which so many sectors were erased. -/
structure Er (n m i : Nat) (s : Fl) : Prop where
  ok : FlOK n s
  d : s.D = false
  a : s.A < 0
  l : s.V.length = m
  v : ∀ j, 0 ≤ s.V.getD j 0 ∧ s.V.getD j 0 ≤ (i : Int)
  t : sumN s.V m = (i : Int)
  m0 : s.M = []
theorem getD_rep (m j : Nat) : (List.replicate m (0 : Int)).getD j 0 = 0 := by
  rw [List.getD_eq_getElem?_getD, List.getElem?_replicate]
  split <;> rfl
theorem sumN_rep (m : Nat) : ∀ i, sumN (List.replicate m (0 : Int)) i = 0
  | 0 => rfl
  | i + 1 => by rw [sumN, sumN_rep m i, getD_rep]; rfl
theorem Er.new {n m : Nat} (hm : 1 ≤ m) (hm' : m ≤ 512) (hn : 1 ≤ n) (hn' : n ≤ 1024) : Er n m 0 (flNew m n) :=
  ⟨flNew_ok hm hm' hn hn', rfl, by show (-1 : Int) < 0; decide, by simp [flNew], fun j => by show 0 ≤ (List.replicate m (0 : Int)).getD j 0 ∧ (List.replicate m (0 : Int)).getD j 0 ≤ _; rw [getD_rep]; exact ⟨by omega, by omega⟩, sumN_rep m m, rfl⟩
theorem Er.step {n m i : Nat} {s : Fl} (h : Er n m i s) {k : Nat} (hk : k < m) (hi : i ≤ 1000) : (s.erase n (k : Int)).1 = 0 ∧ Er n m (i + 1) (s.erase n (k : Int)).2 ∧ (s.erase n (k : Int)).2.V = s.V.set k (s.V.getD k 0 + 1) := by
  have hl := h.l
  have hv := h.v k
  have e : s.erase n (k : Int) = (0, { s with C := w64 (s.C + 1), A := burn s.A, W := upd s.W (((k : Int).toNat) * n) n (fun _ _ => 4294967295), V := s.V.set (k : Int).toNat (w64 (s.V.getD (k : Int).toNat 0 + 1)) }) := by
    unfold Fl.erase
    rw [if_neg (by rw [h.d]; decide), if_neg (by omega), if_neg (by have := h.a; omega)]
  have hV : (s.erase n (k : Int)).2.V = s.V.set k (s.V.getD k 0 + 1) := by
    rw [e, Int.toNat_natCast, w64_of (n := s.V.getD k 0 + 1) (by omega) (by omega)]
  refine ⟨by rw [e], ⟨erase_ok h.ok _, by rw [e]; exact h.d, ?_, by rw [hV, List.length_set]; exact hl, fun j => ?_, ?_, by rw [(erase_m n s (k : Int)).1]; exact h.m0⟩, hV⟩
  · rw [e]
    show burn s.A < 0
    have := h.a
    unfold burn
    split <;> omega
  · rw [hV, getD_set _ _ _ _ (by omega)]
    have := h.v j
    split
    · subst j; omega
    · omega
  · rw [hV, sumN_set _ _ _ (by omega), if_pos hk, h.t]
    omega
theorem Er.v1000 {n m i : Nat} {s : Fl} (h : Er n m i s) (hi : i ≤ 1000) : ∀ j, 0 ≤ s.V.getD j 0 ∧ s.V.getD j 0 ≤ 1000 := fun j => by have := h.v j; omega
/-- Of a kind there are no more than in all. -/
theorem Er.small {n m i : Nat} {s : Fl} (h : Er n m i s) (hi : i ≤ 1000) (n1 : Nat) : (0 ≤ (kst n1 s.V 0 m).a ∧ (kst n1 s.V 0 m).a ≤ i) ∧ (0 ≤ (kst n1 s.V 1 m).a ∧ (kst n1 s.V 1 m).a ≤ i) ∧ (0 ≤ (kst n1 s.V 2 m).a ∧ (kst n1 s.V 2 m).a ≤ i) ∧ (0 ≤ (kst n1 s.V 3 m).a ∧ (kst n1 s.V 3 m).a ≤ i) := by
  have h0 := kst_b (n1 := n1) (V := s.V) (B := 1000) (by decide) (h.v1000 hi) 0 m
  have h1 := kst_b (n1 := n1) (V := s.V) (B := 1000) (by decide) (h.v1000 hi) 1 m
  have h2 := kst_b (n1 := n1) (V := s.V) (B := 1000) (by decide) (h.v1000 hi) 2 m
  have h3 := kst_b (n1 := n1) (V := s.V) (B := 1000) (by decide) (h.v1000 hi) 3 m
  have hs := kst_sum n1 s.V m
  rw [h.t] at hs
  omega
/-- Which sector. -/
theorem pick43 (x : Int) {m : Nat} (hm : 1 ≤ m) (hm' : m ≤ 1000) : ∃ k : Nat, k < m ∧ w64 (Int.tmod (wu64 x) (wu64 (m : Int))) = (k : Int) ∧ ¬ wu64 (m : Int) = 0 := by
  have e : wu64 (m : Int) = (m : Int) := wu64_of (by omega) (by omega)
  have h0 : 0 ≤ wu64 x := by rw [wu64_eq]; omega
  rw [e, Int.tmod_eq_emod_of_nonneg h0]
  have h1 := Int.emod_nonneg (wu64 x) (show (m : Int) ≠ 0 by omega)
  have h2 := Int.emod_lt_of_pos (wu64 x) (show (0 : Int) < m by omega)
  refine ⟨(wu64 x % (m : Int)).toNat, by omega, ?_, by omega⟩
  rw [w64_of (by omega) (by omega)]
  omega
theorem flash_New_noM {a b : Int} (h : ¬((1 ≤ a ∧ a ≤ 512) ∧ (1 ≤ b ∧ b ≤ 1024))) : flash_New.c a b = some (.inr 2) := by
  simp only [flash_New.c, flash_New.t]
  by_cases h1 : a < 1
  · rw [bb_pos (decide_eq_true h1), Tw.run_ret]
  rw [bb_neg (decide_eq_false h1)]
  by_cases h2 : a > 512
  · rw [bb_pos (decide_eq_true h2), Tw.run_ret]
  rw [bb_neg (decide_eq_false h2)]
  by_cases h3 : b < 1
  · rw [bb_pos (decide_eq_true h3), Tw.run_ret]
  rw [bb_neg (decide_eq_false h3)]
  by_cases h4 : b > 1024
  · rw [bb_pos (decide_eq_true h4), Tw.run_ret]
  exact absurd ⟨⟨by omega, by omega⟩, by omega, by omega⟩ h

/-! Shares. -/
theorem wear_Share_sum (x : T12) (k : Int) (h : 0 ≤ x.2.2.1 ∧ x.2.2.1 ≤ 1000 ∧ 0 ≤ x.2.2.2.2.2.1 ∧ x.2.2.2.2.2.1 ≤ 1000 ∧ 0 ≤ x.2.2.2.2.2.2.2.2.1 ∧ x.2.2.2.2.2.2.2.2.1 ≤ 1000 ∧ 0 ≤ x.2.2.2.2.2.2.2.2.2.2.2 ∧ x.2.2.2.2.2.2.2.2.2.2.2 ≤ 1000) :
    wear_Share.L3 k 0 x.1 x.2.1 x.2.2.1 x.2.2.2.1 x.2.2.2.2.1 x.2.2.2.2.2.1 x.2.2.2.2.2.2.1 x.2.2.2.2.2.2.2.1 x.2.2.2.2.2.2.2.2.1 x.2.2.2.2.2.2.2.2.2.1 x.2.2.2.2.2.2.2.2.2.2.1 x.2.2.2.2.2.2.2.2.2.2.2 0 x.1 x.2.1 x.2.2.1 x.2.2.2.1 x.2.2.2.2.1 x.2.2.2.2.2.1 x.2.2.2.2.2.2.1 x.2.2.2.2.2.2.2.1 x.2.2.2.2.2.2.2.2.1 x.2.2.2.2.2.2.2.2.2.1 x.2.2.2.2.2.2.2.2.2.2.1 x.2.2.2.2.2.2.2.2.2.2.2 =
      some (x.2.2.1 + x.2.2.2.2.2.1 + x.2.2.2.2.2.2.2.2.1 + x.2.2.2.2.2.2.2.2.2.2.2) := by
  obtain ⟨l0, m0, a0, l1, m1, a1, l2, m2, a2, l3, m3, a3⟩ := x
  simp only at h ⊢
  have e0 : w64 (0 + a0) = a0 := by rw [w64_of (by omega) (by omega)]; omega
  have e1 : w64 (a0 + a1) = a0 + a1 := w64_of (by omega) (by omega)
  have e2 : w64 (a0 + a1 + a2) = a0 + a1 + a2 := w64_of (by omega) (by omega)
  have e3 : w64 (a0 + a1 + a2 + a3) = a0 + a1 + a2 + a3 := w64_of (by omega) (by omega)
  have f0 : w64 (0 + 1) = 1 := by rw [w64_of (by omega) (by omega)]; rfl
  have f1 : w64 (1 + 1) = 2 := by rw [w64_of (by omega) (by omega)]; rfl
  have f2 : w64 (2 + 1) = 3 := by rw [w64_of (by omega) (by omega)]; rfl
  have f3 : w64 (3 + 1) = 4 := by rw [w64_of (by omega) (by omega)]; rfl
  unfold wear_Share.L3
  refine (Lp_next (s' := (a0, 1)) ?_).trans ((Lp_next (s' := (a0 + a1, 2)) ?_).trans ((Lp_next (s' := (a0 + a1 + a2, 3)) ?_).trans ((Lp_next (s' := (a0 + a1 + a2 + a3, 4)) ?_).trans (Lp_end ?_))))
  all_goals simp only [wear_Share.l3]
  · rw [bb_pos (by rfl)]
    repeat' first | rw [dd_pos (by rfl)] | rw [dd_neg (by simp; done)]
    rw [Tw.run_ret, e0, f0]
  · rw [bb_pos (by rfl)]
    repeat' first | rw [dd_pos (by rfl)] | rw [dd_neg (by simp; done)]
    rw [Tw.run_ret, e1, f1]
  · rw [bb_pos (by rfl)]
    repeat' first | rw [dd_pos (by rfl)] | rw [dd_neg (by simp; done)]
    rw [Tw.run_ret, e2, f2]
  · rw [bb_pos (by rfl)]
    repeat' first | rw [dd_pos (by rfl)] | rw [dd_neg (by simp; done)]
    rw [Tw.run_ret, e3, f3]
  · rw [bb_neg (by rfl), Tw.run_ret]
theorem wear_Share_eq {x : T12} {k : Int} (hk : k = 0 ∨ k = 1 ∨ k = 2 ∨ k = 3) (h : 0 ≤ x.2.2.1 ∧ x.2.2.1 ≤ 1000 ∧ 0 ≤ x.2.2.2.2.2.1 ∧ x.2.2.2.2.2.1 ≤ 1000 ∧ 0 ≤ x.2.2.2.2.2.2.2.2.1 ∧ x.2.2.2.2.2.2.2.2.1 ≤ 1000 ∧ 0 ≤ x.2.2.2.2.2.2.2.2.2.2.2 ∧ x.2.2.2.2.2.2.2.2.2.2.2 ≤ 1000)
    {S : Int} (hS : x.2.2.1 + x.2.2.2.2.2.1 + x.2.2.2.2.2.2.2.2.1 + x.2.2.2.2.2.2.2.2.2.2.2 = S) :
    wear_Share.c x.1 x.2.1 x.2.2.1 x.2.2.2.1 x.2.2.2.2.1 x.2.2.2.2.2.1 x.2.2.2.2.2.2.1 x.2.2.2.2.2.2.2.1 x.2.2.2.2.2.2.2.2.1 x.2.2.2.2.2.2.2.2.2.1 x.2.2.2.2.2.2.2.2.2.2.1 x.2.2.2.2.2.2.2.2.2.2.2 k =
      if S < 1 then some 0 else Ieee.Format.div (FloatKind.format .f64) (FloatKind.nearest .f64 (if k = 0 then x.2.2.1 else if k = 1 then x.2.2.2.2.2.1 else if k = 2 then x.2.2.2.2.2.2.2.2.1 else x.2.2.2.2.2.2.2.2.2.2.2)) (FloatKind.nearest .f64 S) := by
  have fin : ∀ o : Option Nat, (Tw.opt o fun z => Tw.ret z).run = o := fun o => by cases o <;> rfl
  simp only [wear_Share.c, wear_Share.t]
  rw [opt_some (wear_Share_sum x k h), hS]
  by_cases h1 : S < 1
  · rw [bb_pos (decide_eq_true h1), if_pos h1, Tw.run_ret]
  rw [bb_neg (decide_eq_false h1), if_neg h1]
  rcases hk with rfl | rfl | rfl | rfl
  all_goals
    rw [bb_neg (by rfl), bb_neg (by rfl)]
    repeat' first | rw [dd_pos (by rfl)] | rw [dd_neg (by simp; done)]
    rw [fin]
    rfl
theorem wear_Share_far (x : T12) {S : Int} (h : 0 ≤ x.2.2.1 ∧ x.2.2.1 ≤ 1000 ∧ 0 ≤ x.2.2.2.2.2.1 ∧ x.2.2.2.2.2.1 ≤ 1000 ∧ 0 ≤ x.2.2.2.2.2.2.2.2.1 ∧ x.2.2.2.2.2.2.2.2.1 ≤ 1000 ∧ 0 ≤ x.2.2.2.2.2.2.2.2.2.2.2 ∧ x.2.2.2.2.2.2.2.2.2.2.2 ≤ 1000) :
    wear_Share.c x.1 x.2.1 x.2.2.1 x.2.2.2.1 x.2.2.2.2.1 x.2.2.2.2.2.1 x.2.2.2.2.2.2.1 x.2.2.2.2.2.2.2.1 x.2.2.2.2.2.2.2.2.1 x.2.2.2.2.2.2.2.2.2.1 x.2.2.2.2.2.2.2.2.2.2.1 x.2.2.2.2.2.2.2.2.2.2.2 9 = some 0 := by
  simp only [wear_Share.c, wear_Share.t]
  rw [opt_some (wear_Share_sum x 9 h)]
  by_cases h1 : x.2.2.1 + x.2.2.2.2.2.1 + x.2.2.2.2.2.2.2.2.1 + x.2.2.2.2.2.2.2.2.2.2.2 < 1
  · rw [bb_pos (decide_eq_true h1), Tw.run_ret]
  rw [bb_neg (decide_eq_false h1), bb_neg (by rfl), bb_pos (by rfl), Tw.run_ret]

/-! What must come at any rate. -/
theorem awake43 : law43_awake.c = some true := by
  have hr : GeoR ((64 : Nat) : Int) ((2 : Nat) : Int) ((5 : Nat) : Int) 2 1 9 := by refine ⟨?_, ?_, ?_, ?_, ?_, ?_⟩ <;> decide
  have ok : GeoOK ((64 : Nat) : Int) ((2 : Nat) : Int) ((5 : Nat) : Int) 2 1 9 := by decide
  have hN := flash_New_eqM (a := 11) (b := 64) (by decide) (by decide) (by decide) (by decide)
  have E0 := Er.new (n := 64) (m := 11) (by decide) (by decide) (by decide) (by decide)
  obtain ⟨_, E1, v1⟩ := E0.step (k := 7) (by decide) (by decide)
  have hE0 := flash_Erase_eq E0.ok ((7 : Nat) : Int)
  have hE1 := flash_Erase_eq E1.ok ((7 : Nat) : Int)
  obtain ⟨_, E2, v2⟩ := E1.step (k := 7) (by decide) (by decide)
  rw [E1.m0] at hE1
  have hM0 : (flNew 11 64).M = [] := rfl
  have hV : (((flNew 11 64).erase 64 ((7 : Nat) : Int)).2.erase 64 ((7 : Nat) : Int)).2.V = [0, 0, 0, 0, 0, 0, 0, 2, 0, 0, 0] := by
    rw [v2, v1]
    decide
  have hO := wear_Of_eq hr ok (by rw [E2.l]) (E2.v1000 (by decide))
  have hW := wear_Worst_eq hr ok (by rw [E2.l] : (((flNew 11 64).erase 64 ((7 : Nat) : Int)).2.erase 64 ((7 : Nat) : Int)).2.V.length = 2 + 2 * 2 + 5)
  rw [E2.m0, hV] at hO hW
  generalize ((flNew 11 64).erase 64 ((7 : Nat) : Int)).2 = s1 at *
  generalize (s1.erase 64 ((7 : Nat) : Int)).2 = s2 at *
  rw [hV] at hE1
  have k0 : kst 2 [0, 0, 0, 0, 0, 0, 0, 2, 0, 0, 0] 0 (2 + 2 * 2 + 5) = ⟨0, 0, 0, 2⟩ := by rfl
  have k1 : kst 2 [0, 0, 0, 0, 0, 0, 0, 2, 0, 0, 0] 1 (2 + 2 * 2 + 5) = ⟨0, 0, 0, 2⟩ := by rfl
  have k2 : kst 2 [0, 0, 0, 0, 0, 0, 0, 2, 0, 0, 0] 2 (2 + 2 * 2 + 5) = ⟨0, 0, 0, 2⟩ := by rfl
  have k3 : kst 2 [0, 0, 0, 0, 0, 0, 0, 2, 0, 0, 0] 3 (2 + 2 * 2 + 5) = ⟨0, 2, 2, 5⟩ := by rfl
  rw [k0, k1, k2, k3] at hO
  have hS := wear_Share_eq (x := (0, 0, 0, 0, 0, 0, 0, 0, 0, 0, 2, 2)) (k := 3) (Or.inr (Or.inr (Or.inr rfl))) (by decide) (S := 2) (by decide)
  have hS9 := wear_Share_far (0, 0, 0, 0, 0, 0, 0, 0, 0, 0, 2, 2) (S := 2) (by decide)
  have hd : Ieee.Format.div (FloatKind.format .f64) (FloatKind.nearest .f64 2) (FloatKind.nearest .f64 2) = some 4607182418800017408 := by decide +kernel
  have ho : Ieee.Format.order (FloatKind.format .f64) 4607182418800017408 4607182418800017408 = some .eq := by decide +kernel
  have ho2 : Ieee.Format.order (FloatKind.format .f64) 0 0 = some .eq := by decide +kernel
  simp only [law43_awake.c, law43_awake.t]
  rw [opt_some (by exact hN), sm_inl, opt_some (by exact hE0), opt_some (by exact hE1), opt_some (by exact hO), opt_some (by exact hW), bb_pos (by rfl), bb_pos (by rfl), opt_some (x := 4607182418800017408) (by exact hS.trans hd), bb_pos (by rw [ho]; rfl), bb_pos (by rfl), bb_pos (by rfl), opt_some (x := 0) (by exact hS9), Tw.run_ret, ho2]
  rfl

end Go.Proofs.Ytmlbioapefgioaa.Pure
