/- MASKED. The plain truth of WearOf. -/
import Derived.Test.YtmlbioapefgioaaFlaw43WearOf
import Derived.Test.YtmlbioapefgioaaQWear2
namespace Go.Proofs.Ytmlbioapefgioaa.Pure
open Go Go.Proofs.Ytmlbioapefgioaa.Va
set_option linter.unusedVariables false
set_option linter.unusedSimpArgs false

section
variable {n : Nat} {n1 n2 : Nat} {g3 g4 g5 : Int} (hr : GeoR (n : Int) (n1 : Int) (n2 : Int) g3 g4 g5) (ok : GeoOK (n : Int) (n1 : Int) (n2 : Int) g3 g4 g5)
theorem wearOf_loop {l : List Int} (hl : l.length ≤ 300) {m : Nat} (hm : 1 ≤ m) (hm' : m ≤ 512) (a0 a1 a2 a3 a4 a5 b1 : Int) (x0 x1 x2 x3 x4 x5 x6 x7 x8 x9 x10 x11 : Int) : ∀ (k i : Nat) (s : Fl), k + i = l.length → Er n m i s →
    ∃ s', Er n m l.length s' ∧ law43_WearOf.L12 l (i : Int) a0 a1 a2 a3 a4 a5 (m : Int) b1 (n : Int) s.C s.D s.A s.W s.V [] x0 x1 x2 x3 x4 x5 x6 x7 x8 x9 x10 x11 s.V = some (s'.C, s'.D, s'.A, s'.W, s'.V, s'.V)
  | 0, i, s, h, hE => by
    have e : i = l.length := by omega
    subst e
    refine ⟨s, hE, Lp_end ?_⟩
    simp only [law43_WearOf.l12]
    rw [bb_neg (decide_eq_false (by omega))]
    rfl
  | k + 1, i, s, h, hE => by
    have hi : i < l.length := by omega
    have e1 : w64 ((i : Int) + 1) = ((i + 1 : Nat) : Int) := by rw [w64_of (by omega) (by omega)]; omega
    obtain ⟨j, j1, j2, j3⟩ := pick43 l[i] hm (show m ≤ 1000 by omega)
    obtain ⟨_, t2, t3⟩ := hE.step j1 (show i ≤ 1000 by omega)
    have hEr := flash_Erase_eq hE.ok (j : Int)
    rw [hE.m0] at hEr
    obtain ⟨s', p1, p2⟩ := wearOf_loop hl hm hm' a0 a1 a2 a3 a4 a5 b1 x0 x1 x2 x3 x4 x5 x6 x7 x8 x9 x10 x11 k (i + 1) (s.erase n (j : Int)).2 (by omega) t2
    refine ⟨s', p1, (Lp_next (s' := (((i + 1 : Nat) : Int), (s.erase n (j : Int)).2.C, (s.erase n (j : Int)).2.D, (s.erase n (j : Int)).2.A, (s.erase n (j : Int)).2.W, (s.erase n (j : Int)).2.V, (s.erase n (j : Int)).2.V)) ?_).trans p2⟩
    have hlen := hE.l
    have hvj := hE.v j
    have hg : s.V[j]? = some (s.V.getD j 0) := by rw [List.getD_eq_getElem?_getD, List.getElem?_eq_getElem (by omega)]; rfl
    simp only [law43_WearOf.l12]
    rw [bb_pos (decide_eq_true (by omega)), dd_pos (by omega), Int.toNat_natCast, opt_some (List.getElem?_eq_getElem hi), dd_neg j3, j2, opt_some (by exact hEr), dd_pos ⟨by omega, by omega⟩, Int.toNat_natCast, opt_some hg, dd_pos ⟨by omega, by omega⟩, opt_some hg, Tw.run_ret, e1,
      w64_of (n := s.V.getD j 0 + 1) (by omega) (by omega), ← t3]
include hr ok
theorem wearOf_kinds {s : Fl} {c : Nat} (hE : Er n (2 + 2 * n1 + n2) c s) (hc : c ≤ 1000) (C : Int) (D : Bool) (A : Int) (W V M : List Int) :
    law43_WearOf.L21 0 (n : Int) (n1 : Int) (n2 : Int) g3 g4 g5 (n : Int) C D A W V M (kst n1 s.V 0 (2 + 2 * n1 + n2)).l (kst n1 s.V 0 (2 + 2 * n1 + n2)).m (kst n1 s.V 0 (2 + 2 * n1 + n2)).a (kst n1 s.V 1 (2 + 2 * n1 + n2)).l (kst n1 s.V 1 (2 + 2 * n1 + n2)).m (kst n1 s.V 1 (2 + 2 * n1 + n2)).a
      (kst n1 s.V 2 (2 + 2 * n1 + n2)).l (kst n1 s.V 2 (2 + 2 * n1 + n2)).m (kst n1 s.V 2 (2 + 2 * n1 + n2)).a (kst n1 s.V 3 (2 + 2 * n1 + n2)).l (kst n1 s.V 3 (2 + 2 * n1 + n2)).m (kst n1 s.V 3 (2 + 2 * n1 + n2)).a s.V = some (.inl ()) := by
  have ok' := ok
  unfold GeoOK at ok'
  obtain ⟨q0, q1, q2, q3⟩ := hE.small hc n1
  have hO := fun k => ref43_Of_eq hr ok (hE.v1000 hc) hE.l k
  have hn := fun k => kst_n (show 2 ≤ n1 by omega) s.V k (2 + 2 * n1 + n2)
  have hM := fun (k : Int) hk => wear_Mean_eq hr ok (k := k) hk ((kst n1 s.V 0 (2 + 2 * n1 + n2)).l, (kst n1 s.V 0 (2 + 2 * n1 + n2)).m, (kst n1 s.V 0 (2 + 2 * n1 + n2)).a, (kst n1 s.V 1 (2 + 2 * n1 + n2)).l, (kst n1 s.V 1 (2 + 2 * n1 + n2)).m, (kst n1 s.V 1 (2 + 2 * n1 + n2)).a,
      (kst n1 s.V 2 (2 + 2 * n1 + n2)).l, (kst n1 s.V 2 (2 + 2 * n1 + n2)).m, (kst n1 s.V 2 (2 + 2 * n1 + n2)).a, (kst n1 s.V 3 (2 + 2 * n1 + n2)).l, (kst n1 s.V 3 (2 + 2 * n1 + n2)).m, (kst n1 s.V 3 (2 + 2 * n1 + n2)).a)
  simp only at hM
  have hmany : ∀ k : Int, (k = 0 ∨ k = 1 ∨ k = 2 ∨ k = 3) → 1 ≤ manyK n1 k (2 + 2 * n1 + n2) ∧ manyK n1 k (2 + 2 * n1 + n2) ≤ 1000 := fun k hk => by
    unfold manyK
    rcases hk with rfl | rfl | rfl | rfl
    · rw [if_pos rfl]; omega
    · rw [if_neg (by decide), if_pos rfl, if_pos (by omega), if_pos (by omega)]; omega
    · rw [if_neg (by decide), if_neg (by decide), if_pos rfl]; omega
    · rw [if_neg (by decide), if_neg (by decide), if_neg (by decide), if_pos rfl]; omega
  generalize 2 + 2 * n1 + n2 = m at *
  have hn0 := hn 0
  have hn1 := hn 1
  have hn2 := hn 2
  have hn3 := hn 3
  have O0 := hO 0
  have O1 := hO 1
  have O2 := hO 2
  have O3 := hO 3
  have M0 := hM 0 (by decide)
  have M1 := hM 1 (by decide)
  have M2 := hM 2 (by decide)
  have M3 := hM 3 (by decide)
  clear hO hM hn
  generalize kst n1 s.V 0 m = p0 at *
  generalize kst n1 s.V 1 m = p1 at *
  generalize kst n1 s.V 2 m = p2 at *
  generalize kst n1 s.V 3 m = p3 at *
  have fd : ∀ (p : Kst) (k : Int), (k = 0 ∨ k = 1 ∨ k = 2 ∨ k = 3) → 0 ≤ p.a → p.a ≤ c → p.n = manyK n1 k m → ∃ r, Ieee.Format.div (FloatKind.format .f64) (FloatKind.nearest .f64 p.a) (FloatKind.nearest .f64 (manyK n1 k m : Int)) = some r ∧ Ieee.Format.order (FloatKind.format .f64) r r = some .eq := fun p k hk h1 h2 h3 => by
    obtain ⟨a, ha⟩ := Int.eq_ofNat_of_zero_le h1
    rw [ha]
    exact fdiv_ok (by omega) (hmany k hk).1 (hmany k hk).2
  obtain ⟨r0, d0, o0⟩ := fd p0 0 (by decide) q0.1 q0.2 hn0
  obtain ⟨r1, d1, o1⟩ := fd p1 1 (by decide) q1.1 q1.2 hn1
  obtain ⟨r2, d2, o2⟩ := fd p2 2 (by decide) q2.1 q2.2 hn2
  obtain ⟨r3, d3, o3⟩ := fd p3 3 (by decide) q3.1 q3.2 hn3
  have f0 : w64 (0 + 1) = 1 := by rw [w64_of (by omega) (by omega)]; rfl
  have f1 : w64 (1 + 1) = 2 := by rw [w64_of (by omega) (by omega)]; rfl
  have f2 : w64 (2 + 1) = 3 := by rw [w64_of (by omega) (by omega)]; rfl
  have f3 : w64 (3 + 1) = 4 := by rw [w64_of (by omega) (by omega)]; rfl
  refine (Lp_next (s' := (1 : Int)) ?_).trans ((Lp_next (s' := (2 : Int)) ?_).trans ((Lp_next (s' := (3 : Int)) ?_).trans ((Lp_next (s' := (4 : Int)) ?_).trans (Lp_end ?_))))
  all_goals simp only [law43_WearOf.l21]
  · rw [bb_pos (by rfl), opt_some O0]
    repeat' first | rw [dd_pos (by rfl)] | rw [dd_neg (by simp; done)]
    rw [bb_neg (by simp), opt_some (x := r0) (by exact M0.trans d0), hn0, opt_some (x := r0) (by exact d0), bb_neg (by rw [o0]; rfl), Tw.run_ret, f0]
  · rw [bb_pos (by rfl), opt_some O1]
    repeat' first | rw [dd_pos (by rfl)] | rw [dd_neg (by simp; done)]
    rw [bb_neg (by simp), opt_some (x := r1) (by exact M1.trans d1), hn1, opt_some (x := r1) (by exact d1), bb_neg (by rw [o1]; rfl), Tw.run_ret, f1]
  · rw [bb_pos (by rfl), opt_some O2]
    repeat' first | rw [dd_pos (by rfl)] | rw [dd_neg (by simp; done)]
    rw [bb_neg (by simp), opt_some (x := r2) (by exact M2.trans d2), hn2, opt_some (x := r2) (by exact d2), bb_neg (by rw [o2]; rfl), Tw.run_ret, f2]
  · rw [bb_pos (by rfl), opt_some O3]
    repeat' first | rw [dd_pos (by rfl)] | rw [dd_neg (by simp; done)]
    rw [bb_neg (by simp), opt_some (x := r3) (by exact M3.trans d3), hn3, opt_some (x := r3) (by exact d3), bb_neg (by rw [o3]; rfl), Tw.run_ret, f3]
  · rw [bb_neg (by rfl), Tw.run_ret]
end

theorem wear_nil (a b c d e f : Int) : wear_Of_nil0.c a b c d e f = some (0, 0, 0, 0, 0, 0, 0, 0, 0, 0, 0, 0, 1) ∧ wear_Worst_nil0.c a b c d e f = some (-1, 0) := by
  constructor
  · simp only [wear_Of_nil0.c, wear_Of_nil0.t]
    rw [opt_some (x := 1) (by rfl), bb_pos (by rfl), Tw.run_ret]
  · simp only [wear_Worst_nil0.c, wear_Worst_nil0.t]
    rw [opt_some (x := 1) (by rfl), bb_pos (by rfl), Tw.run_ret]

theorem wearOf_C3 (g0 g1 g2 g3 g4 g5 : Int) (hr : GeoR g0 g1 g2 g3 g4 g5) (s0 s1 : Int) {l : List Int} (hl : l.length ≤ 300) : law43_WearOf.C3 l g0 g1 g2 g3 g4 g5 s0 s1 = some true := by
  unfold law43_WearOf.C3
  simp only [law43_WearOf.c3]
  by_cases hs : (1 ≤ s0 ∧ s0 ≤ 512) ∧ (1 ≤ s1 ∧ s1 ≤ 1024)
  rotate_left
  · obtain ⟨n1, n2⟩ := wear_nil g0 g1 g2 g3 g4 g5
    rw [opt_some (flash_New_noM hs), sm_inr, opt_some n1, opt_some n2, bb_pos (by rfl), bb_pos (by rfl), bb_pos (by rfl), bb_pos (by rfl), bb_pos (by rfl), opt_some awake43, Tw.run_ret]
  obtain ⟨m, rfl⟩ : ∃ m : Nat, s0 = (m : Int) := ⟨s0.toNat, by omega⟩
  obtain ⟨b, rfl⟩ : ∃ b : Nat, s1 = (b : Int) := ⟨s1.toNat, by omega⟩
  have hN := flash_New_eqM (a := m) (b := b) (by omega) (by omega) (by omega) (by omega)
  have hlen : (flNew m b).V.length = m := by simp [flNew]
  have E0 := Er.new (n := b) (m := m) (by omega) (by omega) (by omega) (by omega)
  by_cases ok : GeoOK g0 g1 g2 g3 g4 g5 ∧ (m : Int) = 2 + 2 * g1 + g2 ∧ (b : Int) = g0
  · obtain ⟨ok, hm, rfl⟩ := ok
    have ok' := ok
    unfold GeoOK at ok'
    obtain ⟨n1, rfl⟩ : ∃ n1 : Nat, g1 = (n1 : Int) := ⟨g1.toNat, by omega⟩
    obtain ⟨n2, rfl⟩ : ∃ n2 : Nat, g2 = (n2 : Int) := ⟨g2.toNat, by omega⟩
    obtain rfl : m = 2 + 2 * n1 + n2 := by omega
    have hmap : ref08_Map.c (b : Int) (n1 : Int) (n2 : Int) g3 g4 g5 = some (mapL n1 (2 + 2 * n1 + n2)) := (ref08_Map_eq hr).trans (by rw [if_pos ok]; rfl)
    have hO := wear_Of_eq hr ok hlen (E0.v1000 (by decide))
    have hW := wear_Worst_eq hr ok hlen
    obtain ⟨s', p1, p2⟩ := wearOf_loop hl (m := 2 + 2 * n1 + n2) (by omega) (by omega) (b : Int) (n1 : Int) (n2 : Int) g3 g4 g5 (b : Int) (kst n1 (flNew (2 + 2 * n1 + n2) b).V 0 (2 + 2 * n1 + n2)).l (kst n1 (flNew (2 + 2 * n1 + n2) b).V 0 (2 + 2 * n1 + n2)).m (kst n1 (flNew (2 + 2 * n1 + n2) b).V 0 (2 + 2 * n1 + n2)).a (kst n1 (flNew (2 + 2 * n1 + n2) b).V 1 (2 + 2 * n1 + n2)).l (kst n1 (flNew (2 + 2 * n1 + n2) b).V 1 (2 + 2 * n1 + n2)).m (kst n1 (flNew (2 + 2 * n1 + n2) b).V 1 (2 + 2 * n1 + n2)).a
      (kst n1 (flNew (2 + 2 * n1 + n2) b).V 2 (2 + 2 * n1 + n2)).l (kst n1 (flNew (2 + 2 * n1 + n2) b).V 2 (2 + 2 * n1 + n2)).m (kst n1 (flNew (2 + 2 * n1 + n2) b).V 2 (2 + 2 * n1 + n2)).a (kst n1 (flNew (2 + 2 * n1 + n2) b).V 3 (2 + 2 * n1 + n2)).l (kst n1 (flNew (2 + 2 * n1 + n2) b).V 3 (2 + 2 * n1 + n2)).m (kst n1 (flNew (2 + 2 * n1 + n2) b).V 3 (2 + 2 * n1 + n2)).a l.length 0 (flNew (2 + 2 * n1 + n2) b) (by omega) E0
    have hO' := wear_Of_eq hr ok (by rw [p1.l]) (p1.v1000 (by omega))
    have hW' := wear_Worst_eq hr ok (s := s') (by rw [p1.l])
    rw [p1.m0] at hO' hW'
    have hK := wearOf_kinds hr ok p1 (by omega) s'.C s'.D s'.A s'.W s'.V []
    have hR := ref43_Worst_eq (V := s'.V) (by rw [p1.l]; omega) (by rw [p1.l]; omega)
    have h10 : law43_WearOf.C10 l (b : Int) (n1 : Int) (n2 : Int) g3 g4 g5 ((2 + 2 * n1 + n2 : Nat) : Int) (b : Int) (b : Int) (flNew (2 + 2 * n1 + n2) b).C (flNew (2 + 2 * n1 + n2) b).D (flNew (2 + 2 * n1 + n2) b).A (flNew (2 + 2 * n1 + n2) b).W (flNew (2 + 2 * n1 + n2) b).V []
        (kst n1 (flNew (2 + 2 * n1 + n2) b).V 0 (2 + 2 * n1 + n2)).l (kst n1 (flNew (2 + 2 * n1 + n2) b).V 0 (2 + 2 * n1 + n2)).m (kst n1 (flNew (2 + 2 * n1 + n2) b).V 0 (2 + 2 * n1 + n2)).a (kst n1 (flNew (2 + 2 * n1 + n2) b).V 1 (2 + 2 * n1 + n2)).l (kst n1 (flNew (2 + 2 * n1 + n2) b).V 1 (2 + 2 * n1 + n2)).m (kst n1 (flNew (2 + 2 * n1 + n2) b).V 1 (2 + 2 * n1 + n2)).a
        (kst n1 (flNew (2 + 2 * n1 + n2) b).V 2 (2 + 2 * n1 + n2)).l (kst n1 (flNew (2 + 2 * n1 + n2) b).V 2 (2 + 2 * n1 + n2)).m (kst n1 (flNew (2 + 2 * n1 + n2) b).V 2 (2 + 2 * n1 + n2)).a (kst n1 (flNew (2 + 2 * n1 + n2) b).V 3 (2 + 2 * n1 + n2)).l (kst n1 (flNew (2 + 2 * n1 + n2) b).V 3 (2 + 2 * n1 + n2)).m (kst n1 (flNew (2 + 2 * n1 + n2) b).V 3 (2 + 2 * n1 + n2)).a = some true := by
      unfold law43_WearOf.C10
      simp only [law43_WearOf.c10]
      rw [dd_pos ⟨by omega, by omega, by omega, by omega⟩, Int.toNat_natCast, opt_some (by exact p2), opt_some (by exact hO'), bb_neg (by rfl), opt_some (x := .inl ()) (by exact hK), sm_inl, opt_some (by exact hW'), opt_some hR, bb_pos (by simp), bb_pos (by simp), opt_some awake43, Tw.run_ret]
    rw [opt_some hN, sm_inl, opt_some (by exact hO), opt_some (by exact hW), bb_neg (by rfl), opt_some (ref08_Right_eq hr), decide_eq_true ok, bb_neg (by rfl), opt_some hmap, bb_neg (by rw [mapL_len]; simp), bb_neg (by simp), opt_some (x := true) (by exact h10), Tw.run_ret]
  · have hbad : ¬(GeoOK g0 g1 g2 g3 g4 g5 ∧ ((flNew m b).V.length : Int) = 2 + 2 * g1 + g2 ∧ (b : Int) = g0) := by rw [hlen]; exact ok
    have fin : ∀ X : Option Bool, X = some true → X = some true := fun _ h => h
    have hOf : wear_Of.c g0 g1 g2 g3 g4 g5 (b : Int) (flNew m b).C (flNew m b).D (flNew m b).A (flNew m b).W (flNew m b).V (flNew m b).M = some (0, 0, 0, 0, 0, 0, 0, 0, 0, 0, 0, 0, 2) := by
      simp only [wear_Of.c, wear_Of.t]
      rw [opt_some (wear_fine_gen hr ..), if_neg hbad, bb_pos (by rfl), Tw.run_ret]
    have hWo : wear_Worst.c g0 g1 g2 g3 g4 g5 (b : Int) (flNew m b).C (flNew m b).D (flNew m b).A (flNew m b).W (flNew m b).V (flNew m b).M = some (-1, 0) := by
      simp only [wear_Worst.c, wear_Worst.t]
      rw [opt_some (wear_fine_gen hr ..), if_neg hbad, bb_pos (by rfl), Tw.run_ret]
    rw [opt_some hN, sm_inl, opt_some (by exact hOf), opt_some (by exact hWo), bb_neg (by rfl), opt_some (ref08_Right_eq hr)]
    by_cases k : GeoOK g0 g1 g2 g3 g4 g5
    rotate_left
    · rw [decide_eq_false k, bb_pos (by rfl), bb_pos (by rfl), bb_pos (by rfl), bb_pos (by rfl), bb_pos (by rfl), opt_some awake43, Tw.run_ret]
    have k' := k
    unfold GeoOK at k'
    have hmap : ref08_Map.c g0 g1 g2 g3 g4 g5 = some (mapL g1.toNat (2 + 2 * g1.toNat + g2.toNat)) := (ref08_Map_eq hr).trans (by rw [if_pos k])
    rw [decide_eq_true k, bb_neg (by rfl), opt_some hmap, mapL_len]
    by_cases hm : (m : Int) = ((2 + 2 * g1.toNat + g2.toNat : Nat) : Int)
    rotate_left
    · rw [bb_pos (by rw [bne_iff_ne]; exact hm), bb_pos (by rfl), bb_pos (by rfl), bb_pos (by rfl), bb_pos (by rfl), opt_some awake43, Tw.run_ret]
    rw [bb_neg (by rw [hm]; simp), bb_pos (by rw [bne_iff_ne]; exact fun e => ok ⟨k, by omega, e⟩), bb_pos (by rfl), bb_pos (by rfl), bb_pos (by rfl), bb_pos (by rfl), opt_some awake43, Tw.run_ret]

theorem WearOf (a0_0 : Int) (a0_1 : Int) (a0_2 : Int) (a0_3 : Int) (a0_4 : Int) (a0_5 : Int) (a1_0 : Int) (a1_1 : Int) (a2 : List Int) (w0 : InR .i64 a0_0) (w1 : InR .i64 a0_1) (w2 : InR .i64 a0_2) (w3 : InR .i64 a0_3) (w4 : InR .i64 a0_4) (w5 : InR .i64 a0_5) (w6 : InR .i64 a1_0) (w7 : InR .i64 a1_1) (w8 : a2.length * 8 ≤ reachBytes) (w9 : ∀ x10 ∈ a2, InR .i64 x10) : law43_WearOf.c a0_0 a0_1 a0_2 a0_3 a0_4 a0_5 a1_0 a1_1 a2 = some true := by
  have hr : GeoR a0_0 a0_1 a0_2 a0_3 a0_4 a0_5 := ⟨w0, w1, w2, w3, w4, w5⟩
  simp only [law43_WearOf.c, law43_WearOf.t]
  by_cases hl : (a2.length : Int) > 300
  · rw [bb_pos (decide_eq_true hl), opt_some awake43, Tw.run_ret]
  have h3 := wearOf_C3 a0_0 a0_1 a0_2 a0_3 a0_4 a0_5 hr a1_0 a1_1 (l := a2) (by omega)
  rw [bb_neg (decide_eq_false hl)]
  by_cases h1 : a1_0 > 100
  · rw [bb_pos (decide_eq_true h1)]
    by_cases h2 : a1_0 ≤ 512
    · rw [bb_pos (decide_eq_true h2), opt_some awake43, Tw.run_ret]
    rw [bb_neg (decide_eq_false h2)]
    by_cases h4 : a1_1 > 128
    · rw [bb_pos (decide_eq_true h4)]
      by_cases h5 : a1_1 ≤ 1024
      · rw [bb_pos (decide_eq_true h5), opt_some awake43, Tw.run_ret]
      · rw [bb_neg (decide_eq_false h5), opt_some h3, Tw.run_ret]
    · rw [bb_neg (decide_eq_false h4), opt_some h3, Tw.run_ret]
  · rw [bb_neg (decide_eq_false h1)]
    by_cases h4 : a1_1 > 128
    · rw [bb_pos (decide_eq_true h4)]
      by_cases h5 : a1_1 ≤ 1024
      · rw [bb_pos (decide_eq_true h5), opt_some awake43, Tw.run_ret]
      · rw [bb_neg (decide_eq_false h5), opt_some h3, Tw.run_ret]
    · rw [bb_neg (decide_eq_false h4), opt_some h3, Tw.run_ret]

end Go.Proofs.Ytmlbioapefgioaa.Pure
