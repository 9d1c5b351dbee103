/- The plain truth of FlashPlays. -/
import Derived.Test.YtpidbpmkogbdeaaFlaw07
import Derived.Test.YtpidbpmkogbdeaaFlaw07FlashPlays
import Derived.Test.YtpidbpmkogbdeaaQFlash2
namespace Go.Proofs.Ytpidbpmkogbdeaa.Pure
open Go Go.Proofs.Ytpidbpmkogbdeaa.Va
set_option linter.unusedVariables false
set_option linter.unusedSimpArgs false

/-- The code's flash and the document's: alike, but for masks that no fuse will ask for. -/
structure Beside (s t : Fl) : Prop where
  c : t.C = s.C
  d : t.D = s.D
  a : t.A = s.A
  w : t.W = s.W
  v : t.V = s.V
  m : s.A < 0 ∨ t.M = s.M
theorem Beside.act {n : Nat} {s t : Fl} (h : Beside s t) (k a x : Int) : (t.act n k a x).1 = (s.act n k a x).1 ∧ Beside (s.act n k a x).2 (t.act n k a x).2 := by
  obtain ⟨C, D, A, W, V, M⟩ := s
  obtain ⟨C', D', A', W', V', M'⟩ := t
  obtain ⟨rfl, rfl, rfl, rfl, rfl, hm⟩ := h
  rcases hm with hm | rfl
  · have hm : A' < 0 := hm
    have h0 : A' ≠ 0 := by omega
    unfold Fl.act Fl.erase Fl.prog Fl.read burn
    simp only [h0, hm, if_false, if_true]
    repeat' split
    all_goals exact ⟨rfl, rfl, rfl, rfl, rfl, rfl, Or.inl hm⟩
  · exact ⟨rfl, rfl, rfl, rfl, rfl, rfl, Or.inr rfl⟩

abbrev S12 : Type := Int × (Bool × (Int × (List Int × (List Int × (List Int × (Int × (Bool × (Int × (List Int × (List Int × List Int))))))))))
def pair (s t : Fl) : S12 := (s.C, s.D, s.A, s.W, s.V, s.M, t.C, t.D, t.A, t.W, t.V, t.M)
section
variable {n : Nat} {s t : Fl} (hs : FlOK n s) (ht : FlOK n t) (hb : Beside s t)
include hs ht hb
omit ht hb in
theorem seen_words (C : Int) (D : Bool) (A : Int) (V M : List Int) : flash_Flash_Words.c (n : Int) C D A s.W V M = some s.W := by
  simp only [flash_Flash_Words.c, flash_Flash_Words.t]
  have := hs.wl
  rw [opt_some (clone32_eq (by omega)), Tw.run_ret]
theorem step16 {l : List Act7} {i : Nat} {x : Act7} (hi : l[i]? = some x) (hx : ActOK x) (a0 a1 : Int) : ∃ s' t', FlOK n s' ∧ FlOK n t' ∧ Beside s' t' ∧ s'.V.length = s.V.length ∧
    ((x.kind ≠ 5 ∧ law07_FlashPlays.C16 l (i : Int) a0 a1 (n : Int) s.C s.D s.A s.W s.V s.M (n : Int) t.C t.D t.A t.W t.V t.M = some (.inl (pair s' t'))) ∨
     (x.kind = 5 ∧ s'.C = s.C ∧ s'.W = s.W ∧ s'.V = s.V ∧ s'.M = [] ∧ law07_FlashPlays.C16 l (i : Int) a0 a1 (n : Int) s.C s.D s.A s.W s.V s.M (n : Int) t.C t.D t.A t.W t.V t.M =
       some (.inr (.inr (.inl (s'.D, s'.A, t'.C, t'.D, t'.A, t'.W, t'.V, t'.M)))))) := by
  obtain ⟨k, a, x, M'⟩ := x
  obtain ⟨hk, ha, hx, hl, hM⟩ := hx
  have hi0 : l[(i : Int).toNat]? = some ⟨k, a, x, M'⟩ := by rw [Int.toNat_natCast]; exact hi
  simp only at hx hl hM ha hk
  by_cases h4 : k = 4
  · subst h4
    refine ⟨s.arm a M', t.arm a M', arm_ok hs ha hM hl, arm_ok ht ha hM hl, ⟨hb.c, hb.d, rfl, hb.w, hb.v, Or.inr rfl⟩, rfl, Or.inl ⟨by simp, ?_⟩⟩
    have hw := hs.wl
    simp only [law07_FlashPlays.C16, law07_FlashPlays.c16]
    rw [dd_pos (by omega), opt_some hi0, opt_some (do_arm hl ..), sm_inr, sm_inr, dd_pos (by omega), opt_some hi0, opt_some (told_arm hl ..), sm_inr,
      bb_neg (by first | rfl | simp), bb_neg (by first | rfl | simp), opt_some (x := ()) (by rfl), bb_neg (by rw [hb.d]; simp), opt_some (x := ()) (by rfl), bb_neg (by rw [hb.c]; simp),
      dd_pos (by omega), opt_some hi0, opt_some (flash_Wear_eq ..), dd_pos (by omega), opt_some hi0, opt_some (law07_wear_eq ..), bb_neg (by rw [hb.v]; simp),
      opt_some (seen_words hs ..), hb.w, opt_some (ref01_Same_eq (by omega)), bb_neg (by simp), Tw.run_ret]
    simp only [pair, Fl.arm, hb.w]
  · by_cases h5 : k = 5
    · subst h5
      refine ⟨s.power [], t.power t.M, power_ok hs words_nil (by simp), power_ok ht ht.m ht.ml, ⟨hb.c, rfl, rfl, hb.w, hb.v, Or.inl (by simp [Fl.power])⟩, rfl, Or.inr ⟨rfl, rfl, rfl, rfl, rfl, ?_⟩⟩
      have hw := hs.wl
      have hsw : flash_Flash_Words_v2.c (n : Int) s.C false (-1) s.W s.V = some s.W := by
        simp only [flash_Flash_Words_v2.c, flash_Flash_Words_v2.t]
        rw [opt_some (clone32_eq (by omega)), Tw.run_ret]
      simp only [law07_FlashPlays.C16, law07_FlashPlays.c16]
      rw [dd_pos (by omega), opt_some hi0, opt_some (do_power ..), sm_inr, sm_inl, dd_pos (by omega), opt_some hi0, opt_some (told_power ..), sm_inl,
        bb_neg (by first | rfl | simp), bb_neg (by first | rfl | simp), opt_some (x := ()) (by rfl), bb_neg (by first | rfl | simp), opt_some (x := ()) (by rfl), bb_neg (by rw [hb.c]; simp),
        dd_pos (by omega), opt_some hi0, opt_some (show flash_Flash_Wear.c a (n : Int) s.C false (-1) s.W s.V = some (wearF s.V a) from flash_Wear_eq a n s.C false (-1) s.W s.V []), dd_pos (by omega), opt_some hi0, opt_some (law07_wear_eq ..), bb_neg (by rw [hb.v]; simp),
        opt_some hsw, hb.w, opt_some (ref01_Same_eq (by omega)), bb_neg (by simp), Tw.run_ret]
      simp only [Fl.power, hb.w]
    · obtain ⟨e1, e2⟩ := hb.act (n := n) k a x
      have hs' := act_ok hs k a x hx
      have ht' := act_ok ht k a x hx
      have hm := act_m (n := n) (s := s) k a x
      have hm2 := act_m (n := n) (s := t) k a x
      have hw := hs'.wl
      refine ⟨_, _, hs', ht', e2, hm.2, Or.inl ⟨h5, ?_⟩⟩
      simp only [law07_FlashPlays.C16, law07_FlashPlays.c16]
      have hd := do_other hs (kind := k) (a := a) M' hx h4 h5
      have htd := told_other ht (kind := k) (a := a) M' hx h4 h5
      rw [e1] at htd
      rw [← hm.1, ← hm2.1]
      rw [← hm.1] at hd
      rw [← hm2.1] at htd
      generalize s.act n k a x = r at *
      generalize t.act n k a x = r2 at *
      rw [dd_pos (by omega), opt_some hi0, opt_some hd, sm_inl, dd_pos (by omega), opt_some hi0, opt_some htd, sm_inl,
        bb_neg (by simp), bb_neg (by simp), opt_some (x := ()) (by rfl), bb_neg (by rw [e2.d]; simp), opt_some (x := ()) (by rfl), bb_neg (by rw [e2.c]; simp),
        dd_pos (by omega), opt_some hi0, opt_some (flash_Wear_eq ..), dd_pos (by omega), opt_some hi0, opt_some (law07_wear_eq ..), bb_neg (by rw [e2.v]; simp),
        opt_some (seen_words hs' ..), e2.w, opt_some (ref01_Same_eq (by omega)), bb_neg (by simp), Tw.run_ret]
      simp only [pair, e2.w]
end

theorem step10 {n : Nat} {s t : Fl} (hs : FlOK n s) (ht : FlOK n t) (hb : Beside s t) {l : List Act7} {i : Nat} {x : Act7} (hi : l[i]? = some x) (hx : ActOK x) (hl : l.length ≤ 100) (a0 a1 : Int) : ∃ s' t', FlOK n s' ∧ FlOK n t' ∧ Beside s' t' ∧ s'.V.length = s.V.length ∧
    (law07_FlashPlays.l10 l a0 a1 (n : Int) (n : Int) (i : Int) s.C s.D s.A s.W s.V s.M t.C t.D t.A t.W t.V t.M).run = some (.inl (((i + 1 : Nat) : Int), pair s' t')) := by
  have hlt := (List.getElem?_eq_some_iff.1 hi).1
  have hi0 : l[(i : Int).toNat]? = some x := by rw [Int.toNat_natCast]; exact hi
  have e : w64 ((i : Int) + 1) = ((i + 1 : Nat) : Int) := by rw [w64_of (by omega) (by omega)]; rfl
  obtain ⟨s', t', h1, h2, h3, h4, h5⟩ := step16 hs ht hb hi hx a0 a1
  refine ⟨s', t', h1, h2, h3, h4, ?_⟩
  have hw := hs.wl
  have hv := hs.vs
  have hm := hs.ml
  simp only [law07_FlashPlays.l10]
  rw [bb_pos (decide_eq_true (by omega)), dd_pos (by omega), opt_some hi0]
  by_cases h6 : x.kind = 6
  · have hc : flash_Flash_Copy.c (n : Int) s.C s.D s.A s.W s.V s.M = some (s.W, s.V, s.M) := by
      simp only [flash_Flash_Copy.c, flash_Flash_Copy.t]
      rw [opt_some (clone32_eq (by omega)), opt_some (clone64_eq (by omega)), opt_some (clone32_eq (by omega)), Tw.run_ret]
    rcases h5 with ⟨_, h5⟩ | ⟨h5, _⟩
    · rw [bb_pos (by rw [h6]; rfl), opt_some hc, opt_some (flash_Erase_eq hs 0), opt_some h5, sm_inl, Tw.run_ret, e]
    · omega
  · rw [bb_neg (beq_eq_false_iff_ne.2 h6)]
    rcases h5 with ⟨_, h5⟩ | ⟨_, g1, g2, g3, g4, h5⟩
    · rw [opt_some h5, sm_inl, Tw.run_ret, e]
    · rw [opt_some h5, sm_inr, sm_inr, sm_inl, Tw.run_ret, e]
      simp only [pair, g1, g2, g3, g4]
theorem loop10 {n : Nat} {s t : Fl} (hs : FlOK n s) (ht : FlOK n t) (hb : Beside s t) {l : List Act7} (hx : ∀ x ∈ l, ActOK x) (hl : l.length ≤ 100) (a0 a1 : Int) : ∃ s', FlOK n s' ∧ s'.V.length = s.V.length ∧
    law07_FlashPlays.L10 l 0 a0 a1 (n : Int) s.C s.D s.A s.W s.V s.M (n : Int) t.C t.D t.A t.W t.V t.M = some (.inl (s'.C, s'.D, s'.A, s'.W, s'.V, s'.M)) := by
  unfold law07_FlashPlays.L10
  obtain ⟨x, h1, s', h2, h3, rfl⟩ := Lp_inv (fun z : Int × S12 => (law07_FlashPlays.l10 l a0 a1 (n : Int) (n : Int) z.1 z.2.1 z.2.2.1 z.2.2.2.1 z.2.2.2.2.1 z.2.2.2.2.2.1 z.2.2.2.2.2.2.1 z.2.2.2.2.2.2.2.1 z.2.2.2.2.2.2.2.2.1 z.2.2.2.2.2.2.2.2.2.1 z.2.2.2.2.2.2.2.2.2.2.1 z.2.2.2.2.2.2.2.2.2.2.2.1 z.2.2.2.2.2.2.2.2.2.2.2.2).run)
    (fun z => ∃ (i : Nat) (s' t' : Fl), i ≤ l.length ∧ FlOK n s' ∧ FlOK n t' ∧ Beside s' t' ∧ s'.V.length = s.V.length ∧ z = ((i : Int), pair s' t')) (fun z => l.length - z.1.toNat)
    (fun x => ∃ s', FlOK n s' ∧ s'.V.length = s.V.length ∧ x = .inl (s'.C, s'.D, s'.A, s'.W, s'.V, s'.M)) (fun z hz => by
      obtain ⟨i, s', t', hi, h1, h2, h3, h4, rfl⟩ := hz
      by_cases h : i < l.length
      · have hi' : l[i]? = some l[i] := List.getElem?_eq_getElem h
        obtain ⟨s'', t'', g1, g2, g3, g4, g5⟩ := step10 h1 h2 h3 hi' (hx _ (List.getElem_mem h)) hl a0 a1
        exact Or.inl ⟨_, g5, ⟨i + 1, s'', t'', by omega, g1, g2, g3, by omega, rfl⟩, by simp only [Int.toNat_natCast]; omega⟩
      · refine Or.inr ⟨_, ?_, s', h1, h4, rfl⟩
        simp only [law07_FlashPlays.l10]
        rw [bb_neg (decide_eq_false (by omega)), Tw.run_ret]
        rfl) l.length (0, pair s t) (by simp) ⟨0, s, t, by omega, hs, ht, hb, rfl, rfl⟩
  exact ⟨s', h2, h3, h1⟩

theorem plays_none {a b : Int} (h : ¬(1 ≤ a ∧ a ≤ 512 ∧ 1 ≤ b ∧ b ≤ 1024)) (f : (Int × Int × Bool × Int × List Int × List Int) → Tw Bool) (g : Int → (Int × Bool × Int × List Int × List Int) → Tw Bool) :
    (Tw.opt (flash_New.c a b) fun z => Tw.sm z f (fun y => Tw.opt (ref07_New.c a b) fun w => Tw.sm w (g y) (fun _ => Tw.bb (y == 2) (Tw.opt law07_awake.c fun q => Tw.ret q) (Tw.ret false)))).run = some true := by
  rw [opt_some (flash_New_none h), sm_inr, opt_some (ref07_New_none h), sm_inr, bb_pos (by rfl), opt_some awake07, Tw.run_ret]
theorem plays_some {a b : Nat} (ha : 1 ≤ a) (ha' : a ≤ 512) (hb : 1 ≤ b) (hb' : b ≤ 1024) {l : List Act7} (hx : ∀ x ∈ l, ActOK x) (hl : l.length ≤ 100) (f : Int → Tw Bool) :
    (Tw.opt (flash_New.c (a : Int) (b : Int)) fun z137 =>
        (Tw.sm z137
         (fun z138 => (.opt (ref07_New.c (a : Int) (b : Int)) fun z140 =>
           (.sm z140
            (fun z141 => (.bb (z138.1 != (0 : Int))
              (.ret false)
              (.opt (law07_FlashPlays.L10 l (0 : Int) (a : Int) (b : Int) (b : Int) z138.2.1 z138.2.2.1 z138.2.2.2.1 z138.2.2.2.2.1 z138.2.2.2.2.2 ([] : List Int) (b : Int) z141.1 z141.2.1 z141.2.2.1 z141.2.2.2.1 z141.2.2.2.2 ([] : List Int)) fun z143 =>
               (.sm z143
                (fun z144 => (.opt (flash_Flash_Size_v2.c (b : Int) z144.1 z144.2.1 z144.2.2.1 z144.2.2.2.1 z144.2.2.2.2.1 z144.2.2.2.2.2) fun z146 =>
                  (.bb (z146 == (a : Int))
                   (.bb ((b : Int) == (b : Int))
                    (.opt (law07_awake.c) fun z147 =>
                     (.ret z147))
                    (.ret false))
                   (.ret false))))
                (fun z145 => (.sm z145
                  (fun z148 => (.ret z148.1))
                  (fun z149 => (.ret z149.1))))))))
            (fun z142 => (.ret false)))))
         f)).run = some true := by
  have ok := flNew_ok ha ha' hb hb'
  obtain ⟨s', h1, h2, h3⟩ := loop10 ok ok ⟨rfl, rfl, rfl, rfl, rfl, Or.inr rfl⟩ hx hl (a : Int) (b : Int)
  rw [show (flNew a b).M = [] from rfl] at h3
  rw [opt_some (flash_New_eq ha ha' hb hb'), sm_inl, opt_some (ref07_New_eq ha ha' hb hb'), sm_inl, bb_neg (by rfl), opt_some h3, sm_inl,
    opt_some (x := ((s'.V.length : Nat) : Int)) (by rfl), bb_pos (by rw [h2]; simp [flNew]), bb_pos (by simp), opt_some awake07, Tw.run_ret]

theorem FlashPlays (a0_0 : Int) (a0_1 : Int) (a1 : List Act7) (w0 : InR .i64 a0_0) (w1 : InR .i64 a0_1) (w2 : a1.length * 48 ≤ reachBytes) (w3 : ∀ x4 ∈ a1, InR .i64 x4.kind ∧ InR .i64 x4.a ∧ InR .u32 x4.x ∧ x4.masks.length * 4 ≤ reachBytes ∧ (∀ x9 ∈ x4.masks, InR .u32 x9)) : law07_FlashPlays.c a0_0 a0_1 a1 = some true := by
  have rb := reach_eq
  have hlen : a1.length * 48 ≤ 140737488351232 := by omega
  obtain ⟨b, hg, hgb⟩ := law07_great_eq hlen
  simp only [law07_FlashPlays.c, law07_FlashPlays.t]
  rw [opt_some hg]
  cases b with
  | true => rw [bb_pos rfl, opt_some awake07, Tw.run_ret]
  | false =>
    obtain ⟨g1, g2⟩ := hgb rfl
    have hx : ∀ x ∈ a1, ActOK x := fun x hx => ⟨(w3 x hx).1, (w3 x hx).2.1, (w3 x hx).2.2.1, g2 x hx, (w3 x hx).2.2.2.2⟩
    rw [bb_neg rfl]
    have key : (1 ≤ a0_0 ∧ a0_0 ≤ 512 ∧ 1 ≤ a0_1 ∧ a0_1 ≤ 1024) ∨ ¬(1 ≤ a0_0 ∧ a0_0 ≤ 512 ∧ 1 ≤ a0_1 ∧ a0_1 ≤ 1024) := Classical.em _
    by_cases c1 : a0_0 > 16
    · rw [bb_pos (decide_eq_true c1)]
      by_cases c2 : a0_0 ≤ 512
      · rw [bb_pos (decide_eq_true c2), opt_some awake07, Tw.run_ret]
      · rw [bb_neg (decide_eq_false c2)]
        by_cases c3 : a0_1 > 32
        · rw [bb_pos (decide_eq_true c3)]
          by_cases c4 : a0_1 ≤ 1024
          · rw [bb_pos (decide_eq_true c4), opt_some awake07, Tw.run_ret]
          · rw [bb_neg (decide_eq_false c4)]
            exact plays_none (by omega) _ _
        · rw [bb_neg (decide_eq_false c3)]
          exact plays_none (by omega) _ _
    · rw [bb_neg (decide_eq_false c1)]
      by_cases c3 : a0_1 > 32
      · rw [bb_pos (decide_eq_true c3)]
        by_cases c4 : a0_1 ≤ 1024
        · rw [bb_pos (decide_eq_true c4), opt_some awake07, Tw.run_ret]
        · rw [bb_neg (decide_eq_false c4)]
          exact plays_none (by omega) _ _
      · rw [bb_neg (decide_eq_false c3)]
        rcases key with key | key
        · obtain ⟨k1, k2, k3, k4⟩ := key
          have ea : a0_0 = ((a0_0.toNat : Nat) : Int) := by omega
          have eb : a0_1 = ((a0_1.toNat : Nat) : Int) := by omega
          rw [ea, eb]
          exact plays_some (by omega) (by omega) (by omega) (by omega) hx g1 _
        · exact plays_none key _ _

end Go.Proofs.Ytpidbpmkogbdeaa.Pure
