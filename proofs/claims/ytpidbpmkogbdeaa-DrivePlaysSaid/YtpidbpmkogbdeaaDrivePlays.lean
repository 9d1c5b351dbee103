/- The plain truth of DrivePlays. -/
import Derived.Test.YtpidbpmkogbdeaaFlaw09
import Derived.Test.YtpidbpmkogbdeaaFlaw09DrivePlays
import Derived.Test.YtpidbpmkogbdeaaQDrive3
namespace Go.Proofs.Ytpidbpmkogbdeaa.Pure
open Go Go.Proofs.Ytpidbpmkogbdeaa.Va
set_option linter.unusedVariables false
set_option linter.unusedSimpArgs false

abbrev S12 : Type := Int × (Bool × (Int × (List Int × (List Int × (List Int × (Int × (Bool × (Int × (List Int × (List Int × List Int))))))))))
def pair (s t : Fl) : S12 := (s.C, s.D, s.A, s.W, s.V, s.M, t.C, t.D, t.A, t.W, t.V, t.M)
/-- An act of a drive is in order. -/
def ActD (x : Act9) : Prop := InR .i64 x.at_ ∧ InR .i64 x.n ∧ x.w.length ≤ 200 ∧ Words x.w
/-- The code's flash and the document's: alike, but for masks that no fuse will ask for. -/
def Near (s t : Fl) : Prop := t = s ∨ (s.A < 0 ∧ ∃ M, t = s.setM M)
theorem Near.dact {n : Nat} {s t : Fl} (h : Near s t) (kind k at_ c : Int) (w : List Int) : (t.dact n kind k at_ c w).1 = (s.dact n kind k at_ c w).1 ∧ Near (s.dact n kind k at_ c w).2 (t.dact n kind k at_ c w).2 := by
  rcases h with rfl | ⟨h, M, rfl⟩
  · exact ⟨rfl, Or.inl rfl⟩
  · obtain ⟨e1, e2⟩ := dact_setM (s := s) M n h kind k at_ c w
    rw [e1]
    exact ⟨rfl, Or.inr ⟨e2, M, rfl⟩⟩
theorem Near.same {s t : Fl} (h : Near s t) : t.C = s.C ∧ t.D = s.D ∧ t.A = s.A ∧ t.W = s.W ∧ t.V = s.V := by
  rcases h with rfl | ⟨h, M, rfl⟩
  · exact ⟨rfl, rfl, rfl, rfl, rfl⟩
  · exact ⟨rfl, rfl, rfl, rfl, rfl⟩
theorem same_self {l : List Int} (h : l.length ≤ 140737488351232) : ref01_Same.c l l = some true := (ref01_Same_eq h).trans (by simp)
theorem dact_list {n : Nat} {s : Fl} (hs : FlOK n s) (kind k at_ c : Int) (w : List Int) : (s.dact n kind k at_ c w).1.2.2.length ≤ 140737488351232 := by
  have := dread_len (k := k) (at_ := at_) (c := c) hs
  unfold Fl.dact
  split
  · simp only; omega
  repeat' split
  all_goals simp

section
variable {n : Nat} {g1 g2 g3 g4 g5 : Int} (hr : GeoR (n : Int) g1 g2 g3 g4 g5) (ok : GeoOK (n : Int) g1 g2 g3 g4 g5) {s t : Fl} (hs : FlOK n s) (ht : FlOK n t) (hb : Near s t) (hv : (s.V.length : Int) = 2 + 2 * g1 + g2)
include hr ok hs ht hb hv
theorem stepD {l : List Act9} {i : Nat} {x : Act9} (hi : l[i]? = some x) (hx : ActD x) (hl : l.length ≤ 60) : ∃ s' t', FlOK n s' ∧ FlOK n t' ∧ Near s' t' ∧ (s'.V.length : Int) = 2 + 2 * g1 + g2 ∧
    (law09_DrivePlays.l10 l (n : Int) (n : Int) g1 g2 g3 g4 g5 (n : Int) g1 g2 g3 g4 g5 (n : Int) (i : Int) s.C s.D s.A s.W s.V s.M t.C t.D t.A t.W t.V t.M).run = some (.inl (((i + 1 : Nat) : Int), pair s' t')) := by
  obtain ⟨kind, k, at_, c, w⟩ := x
  obtain ⟨ha, hn, hlw, hw⟩ := hx
  have hlt := (List.getElem?_eq_some_iff.1 hi).1
  have hi0 : l[(i : Int).toNat]? = some ⟨kind, k, at_, c, w⟩ := by rw [Int.toNat_natCast]; exact hi
  have e : w64 ((i : Int) + 1) = ((i + 1 : Nat) : Int) := by rw [w64_of (by omega) (by omega)]; rfl
  obtain ⟨b1, b2, b3, b4, b5⟩ := hb.same
  have hvt : (t.V.length : Int) = 2 + 2 * g1 + g2 := by rw [b5]; exact hv
  simp only at ha hn hlw hw
  simp only [law09_DrivePlays.l10]
  rw [bb_pos (decide_eq_true (by omega)), dd_pos (by omega), opt_some hi0]
  by_cases h6 : kind = 6
  · subst h6
    refine ⟨s.arm c w, t.arm c w, arm_ok hs hn hw hlw, arm_ok ht hn hw hlw, Or.inl (by simp only [Fl.arm, b1, b2, b4, b5]), hv, ?_⟩
    rw [opt_some (ddo_arm (w := w) hlw ..), sm_inr, sm_inr, dd_pos (by omega), opt_some hi0, opt_some (dtold_arm (w := w) hlw ..), sm_inr, opt_some (same_self (l := []) (by simp)), bb_neg (by rfl), bb_neg (by rfl), bb_neg (by rfl), opt_some (x := ()) (by rfl), bb_neg (by rw [b1]; simp), Tw.run_ret, e]
    simp only [pair, Fl.arm, b2, b4, b5]
  · by_cases h7 : kind = 7
    · subst h7
      refine ⟨s.power [], t.power t.M, power_ok hs words_nil (by simp), power_ok ht ht.m ht.ml, Or.inr ⟨by simp [Fl.power], t.M, by simp only [Fl.power, Fl.setM, b1, b4, b5]⟩, hv, ?_⟩
      rw [opt_some (ddo_power (w := w) ..), sm_inr, sm_inl, dd_pos (by omega), opt_some hi0, opt_some (dtold_power (w := w) ..), sm_inl, opt_some (same_self (l := []) (by simp)), bb_neg (by rfl), bb_neg (by rfl), bb_neg (by rfl), opt_some (x := ()) (by rfl), bb_neg (by rw [b1]; simp), Tw.run_ret, e]
      simp only [pair, Fl.power, b1, b4, b5]
    · obtain ⟨e1, e2⟩ := hb.dact (n := n) kind k at_ c w
      have hs' := dact_ok hs kind k at_ c hw
      have ht' := dact_ok ht kind k at_ c hw
      have hll := dact_list hs kind k at_ c w
      have hd := ddo_other hr ok hs hv (k := k) (c := c) ha hw h6 h7
      have htd := dtold_other hr ok ht hvt (k := k) (c := c) ha hw h6 h7
      rw [e1] at htd
      refine ⟨_, _, hs'.1, ht'.1, e2, by rw [hs'.2.1]; exact hv, ?_⟩
      rw [← hs'.2.2, ← ht'.2.2]
      rw [← hs'.2.2] at hd
      rw [← ht'.2.2] at htd
      generalize s.dact n kind k at_ c w = r at *
      generalize t.dact n kind k at_ c w = r2 at *
      obtain ⟨q1, q2, q3, q4, q5⟩ := e2.same
      rw [opt_some hd, sm_inl, dd_pos (by omega), opt_some hi0, opt_some htd, sm_inl, opt_some (same_self hll), bb_neg (by rfl), bb_neg (by simp), bb_neg (by simp), opt_some (x := ()) (by rfl), bb_neg (by rw [q1]; simp), Tw.run_ret, e]
      rfl
end
theorem loopD {n : Nat} {g1 g2 g3 g4 g5 : Int} (hr : GeoR (n : Int) g1 g2 g3 g4 g5) (ok : GeoOK (n : Int) g1 g2 g3 g4 g5) {s t : Fl} (hs : FlOK n s) (ht : FlOK n t) (hb : Near s t) (hv : (s.V.length : Int) = 2 + 2 * g1 + g2) {l : List Act9} (hx : ∀ x ∈ l, ActD x) (hl : l.length ≤ 60) : ∃ s' t', FlOK n s' ∧ FlOK n t' ∧ Near s' t' ∧
    law09_DrivePlays.L10 l 0 (n : Int) s.C s.D s.A s.W s.V s.M (n : Int) g1 g2 g3 g4 g5 (n : Int) g1 g2 g3 g4 g5 (n : Int) t.C t.D t.A t.W t.V t.M = some (.inl (pair s' t')) := by
  unfold law09_DrivePlays.L10
  obtain ⟨x, h1, s', t', h2, h3, h4, rfl⟩ := Lp_inv (fun z : Int × S12 => (law09_DrivePlays.l10 l (n : Int) (n : Int) g1 g2 g3 g4 g5 (n : Int) g1 g2 g3 g4 g5 (n : Int) z.1 z.2.1 z.2.2.1 z.2.2.2.1 z.2.2.2.2.1 z.2.2.2.2.2.1 z.2.2.2.2.2.2.1 z.2.2.2.2.2.2.2.1 z.2.2.2.2.2.2.2.2.1 z.2.2.2.2.2.2.2.2.2.1 z.2.2.2.2.2.2.2.2.2.2.1 z.2.2.2.2.2.2.2.2.2.2.2.1 z.2.2.2.2.2.2.2.2.2.2.2.2).run)
    (fun z => ∃ (i : Nat) (s' t' : Fl), i ≤ l.length ∧ FlOK n s' ∧ FlOK n t' ∧ Near s' t' ∧ (s'.V.length : Int) = 2 + 2 * g1 + g2 ∧ z = ((i : Int), pair s' t')) (fun z => l.length - z.1.toNat)
    (fun x => ∃ s' t', FlOK n s' ∧ FlOK n t' ∧ Near s' t' ∧ x = .inl (pair s' t')) (fun z hz => by
      obtain ⟨i, s', t', hi, h1, h2, h3, h4, rfl⟩ := hz
      by_cases h : i < l.length
      · have hi' : l[i]? = some l[i] := List.getElem?_eq_getElem h
        obtain ⟨s'', t'', g1', g2', g3', g4', g5'⟩ := stepD hr ok h1 h2 h3 h4 hi' (hx _ (List.getElem_mem h)) hl
        exact Or.inl ⟨_, g5', ⟨i + 1, s'', t'', by omega, g1', g2', g3', g4', rfl⟩, by simp only [Int.toNat_natCast]; omega⟩
      · refine Or.inr ⟨_, ?_, s', t', h1, h2, h3, rfl⟩
        simp only [law09_DrivePlays.l10]
        rw [bb_neg (decide_eq_false (by omega)), Tw.run_ret]) l.length (0, pair s t) (by simp) ⟨0, s, t, by omega, hs, ht, hb, hv, rfl⟩
  exact ⟨s', t', h2, h3, h4, h1⟩

theorem DrivePlays (a0_0 : Int) (a0_1 : Int) (a0_2 : Int) (a0_3 : Int) (a0_4 : Int) (a0_5 : Int) (a1 : List Act9) (w0 : InR .i64 a0_0) (w1 : InR .i64 a0_1) (w2 : InR .i64 a0_2) (w3 : InR .i64 a0_3) (w4 : InR .i64 a0_4) (w5 : InR .i64 a0_5) (w6 : a1.length * 56 ≤ reachBytes) (w7 : ∀ x8 ∈ a1, InR .i64 x8.kind ∧ InR .i64 x8.s ∧ InR .i64 x8.at_ ∧ InR .i64 x8.n ∧ x8.w.length * 4 ≤ reachBytes ∧ (∀ x14 ∈ x8.w, InR .u32 x14)) : law09_DrivePlays.c a0_0 a0_1 a0_2 a0_3 a0_4 a0_5 a1 = some true := by
  have rb := reach_eq
  have hr : GeoR a0_0 a0_1 a0_2 a0_3 a0_4 a0_5 := ⟨w0, w1, w2, w3, w4, w5⟩
  obtain ⟨b0, hsm, hok⟩ := ref08_Small_eq hr
  obtain ⟨b1, hg, hgb⟩ := law09_great_eq (l := a1) (by omega)
  simp only [law09_DrivePlays.c, law09_DrivePlays.t]
  rw [opt_some hsm]
  cases b0 with
  | false => rw [bb_pos (by rfl), opt_some awake09, Tw.run_ret]
  | true =>
    have ok := hok rfl
    rw [bb_neg (by rfl), opt_some hg]
    cases b1 with
    | true => rw [bb_pos rfl, opt_some awake09, Tw.run_ret]
    | false =>
      obtain ⟨q1, q2⟩ := hgb rfl
      have hx : ∀ x ∈ a1, ActD x := fun x hx => ⟨(w7 x hx).2.2.1, (w7 x hx).2.2.2.1, q2 x hx, (w7 x hx).2.2.2.2.2⟩
      have ok' := ok
      unfold GeoOK at ok'
      obtain ⟨n, rfl⟩ : ∃ n : Nat, a0_0 = (n : Int) := ⟨a0_0.toNat, by omega⟩
      obtain ⟨m, hm⟩ : ∃ m : Nat, 2 + 2 * a0_1.toNat + a0_2.toNat = m := ⟨_, rfl⟩
      have hmap : ref08_Map.c (n : Int) a0_1 a0_2 a0_3 a0_4 a0_5 = some (mapL a0_1.toNat m) := (ref08_Map_eq hr).trans (by rw [if_pos ok, hm])
      have hN := flash_New_eq (a := m) (b := n) (by omega) (by omega) (by omega) (by omega)
      have hR := ref07_New_eq (a := m) (b := n) (by omega) (by omega) (by omega) (by omega)
      have okN := flNew_ok (a := m) (b := n) (by omega) (by omega) (by omega) (by omega)
      have hv : (((flNew m n).V.length : Nat) : Int) = 2 + 2 * a0_1 + a0_2 := by simp [flNew]; omega
      have hD : ref09_New.c (n : Int) a0_1 a0_2 a0_3 a0_4 a0_5 = some (.inl ((flNew m n).C, (flNew m n).D, (flNew m n).A, (flNew m n).W, (flNew m n).V)) := by
        simp only [ref09_New.c, ref09_New.t]
        rw [opt_some hmap, mapL_len, opt_some hR, sm_inl, Tw.run_ret]
      obtain ⟨s', t', h1, h2, h3, h4⟩ := loopD hr ok okN okN (Or.inl rfl) hv hx q1
      rw [show (flNew m n).M = [] from rfl] at h4
      have hwl := h1.wl
      obtain ⟨c1, c2, c3, c4, c5⟩ := h3.same
      have hW : flash_Flash_Words.c (n : Int) (pair s' t').1 (pair s' t').2.1 (pair s' t').2.2.1 (pair s' t').2.2.2.1 (pair s' t').2.2.2.2.1 (pair s' t').2.2.2.2.2.1 = some s'.W := by
        show flash_Flash_Words.c (n : Int) s'.C s'.D s'.A s'.W s'.V s'.M = some s'.W
        simp only [flash_Flash_Words.c, flash_Flash_Words.t]
        rw [opt_some (clone32_eq (by omega)), Tw.run_ret]
      rw [bb_neg rfl, opt_some hmap, mapL_len, opt_some hN, sm_inl, opt_some (drive_New_eq hr ..), if_pos ⟨ok, hv, rfl⟩, sm_inl, bb_neg (by rfl), bb_neg (by rfl), opt_some hD, sm_inl, opt_some h4, sm_inl, opt_some hW]
      rw [show (pair s' t').2.2.2.2.2.2.2.2.2.1 = s'.W from c4, opt_some (same_self (by omega)), bb_pos rfl, opt_some awake09, Tw.run_ret]

end Go.Proofs.Ytpidbpmkogbdeaa.Pure
