/- Journals: over a blank flash; what must come at any rate. -/
import Derived.Test.YtkoidgjgdhpdnaaQDrive4
import Derived.Test.YtkoidgjgdhpdnaaQFrame
import Derived.Test.YtkoidgjgdhpdnaaFjournal
import Derived.Test.YtkoidgjgdhpdnaaFref11
import Derived.Test.YtkoidgjgdhpdnaaFlaw11
namespace Go.Proofs.Ytkoidgjgdhpdnaa.Pure
open Go Go.Proofs.Ytkoidgjgdhpdnaa.Va
set_option linter.unusedVariables false
set_option linter.unusedSimpArgs false

/-! Flashes without masks. -/
theorem drive_Read1_eq (k at_ c g0 g1 g2 g3 g4 g5 m C : Int) (D : Bool) (A : Int) (W V : List Int) : drive_Drive_Read.c k at_ c g0 g1 g2 g3 g4 g5 m C D A W V = drive_Drive_Read_v2.c k at_ c g0 g1 g2 g3 g4 g5 m C D A W V [] := rfl
theorem drive_Blank1_eq (k at_ g0 g1 g2 g3 g4 g5 m C : Int) (D : Bool) (A : Int) (W V : List Int) : drive_Drive_Blank.c k at_ g0 g1 g2 g3 g4 g5 m C D A W V = drive_Drive_Blank_v2.c k at_ g0 g1 g2 g3 g4 g5 m C D A W V [] := rfl
theorem drive_Clean1_eq (k g0 g1 g2 g3 g4 g5 m C : Int) (D : Bool) (A : Int) (W V : List Int) : drive_Drive_Clean.c k g0 g1 g2 g3 g4 g5 m C D A W V = drive_Drive_Clean_v2.c k g0 g1 g2 g3 g4 g5 m C D A W V [] := rfl
theorem drive_Fresh1_eq (k : Int) (w : List Int) (g0 g1 g2 g3 g4 g5 m C : Int) (D : Bool) (A : Int) (W V : List Int) : drive_Drive_Fresh.c k w g0 g1 g2 g3 g4 g5 m C D A W V = drive_Drive_Fresh_v2.c k w g0 g1 g2 g3 g4 g5 m C D A W V [] := rfl
theorem drive_Write1s_eq (k at_ : Int) (w : List Int) (g0 g1 g2 g3 g4 g5 m C : Int) (D : Bool) (A : Int) (W V : List Int) : drive_Drive_Write.c k at_ w g0 g1 g2 g3 g4 g5 m C D A W V = drive_Drive_Write_v2.c k at_ w g0 g1 g2 g3 g4 g5 m C D A W V [] := rfl
theorem ref09_Clean1_eq (k g0 g1 g2 g3 g4 g5 m C : Int) (D : Bool) (A : Int) (W V : List Int) : ref09_Drive_Clean.c k g0 g1 g2 g3 g4 g5 m C D A W V = ref09_Drive_Clean_v2.c k g0 g1 g2 g3 g4 g5 m C D A W V [] := rfl
theorem ref09_Fresh1_eq (k : Int) (w : List Int) (g0 g1 g2 g3 g4 g5 m C : Int) (D : Bool) (A : Int) (W V : List Int) : ref09_Drive_Fresh.c k w g0 g1 g2 g3 g4 g5 m C D A W V = ref09_Drive_Fresh_v2.c k w g0 g1 g2 g3 g4 g5 m C D A W V [] := rfl

/-! A blank flash has no journal. -/
theorem dread_yesJ {n : Nat} {s : Fl} (hD : s.D = false) {j b c : Nat} (hj : j < s.V.length) (hl : b + c ≤ n) : s.dread n (j : Int) (b : Int) (c : Int) = (0, rd s.W (j * n + b) c) := by
  have hf := first_ok (n := n) hD (j := j) (b := b) (c := c) hj hl
  unfold Fl.dread
  rw [hf, if_neg (fun h => h rfl), Int.toNat_natCast, Int.toNat_natCast]
theorem ones_getD {N i : Nat} (h : i < N) : (List.replicate N (4294967295 : Int)).getD i 0 = 4294967295 := by
  rw [List.getD_eq_getElem?_getD, List.getElem?_replicate, if_pos h]
  rfl
theorem readF_ones {n : Nat} (h : 1 ≤ n) : readF (List.replicate n (4294967295 : Int)) = noF := by
  unfold readF
  refine if_neg (fun hm => ?_)
  have := hm.1.1
  rw [ones_getD (by omega)] at this
  exact absurd this (by decide)
section
variable {n : Nat} {g1 g2 g3 g4 g5 : Int} (hr : GeoR (n : Int) g1 g2 g3 g4 g5) (ok : GeoOK (n : Int) g1 g2 g3 g4 g5) {m : Nat} (hm : 2 + 2 * g1.toNat + g2.toNat = m)
include hr ok hm
theorem read_blank {j : Nat} (hj : j < m) : journal_read.c (j : Int) (n : Int) g1 g2 g3 g4 g5 (n : Int) (flNew m n).C (flNew m n).D (flNew m n).A (flNew m n).W (flNew m n).V = some (0, false, 0, [], 0, []) := by
  have ok' := ok
  unfold GeoOK at ok'
  have okN := flNew_ok (a := m) (b := n) (by omega) (by omega) (by omega) (by omega)
  have hv : (((flNew m n).V.length : Nat) : Int) = 2 + 2 * g1 + g2 := by simp [flNew]; omega
  have hrd : rd (flNew m n).W (j * n + 0) n = List.replicate n (4294967295 : Int) := by
    apply List.ext_getElem?
    intro i
    by_cases hi : i < n
    · have : (j + 1) * n ≤ m * n := Nat.mul_le_mul_right n (by omega)
      rw [Nat.add_mul, Nat.one_mul] at this
      rw [rd_get hi, List.getElem?_replicate, if_pos hi]
      exact congrArg some (ones_getD (by omega))
    · rw [List.getElem?_eq_none (by rw [rd_len]; omega), List.getElem?_eq_none (by simp; omega)]
  have hd : (flNew m n).dread n (j : Int) 0 (n : Int) = (0, List.replicate n (4294967295 : Int)) := by
    have := dread_yesJ (n := n) (s := flNew m n) rfl (j := j) (b := 0) (c := n) (by simp [flNew]; omega) (by omega)
    rw [hrd] at this
    exact this
  have h1 : drive_Drive_Read.c (j : Int) 0 (n : Int) (n : Int) g1 g2 g3 g4 g5 (n : Int) (flNew m n).C (flNew m n).D (flNew m n).A (flNew m n).W (flNew m n).V = some (0, List.replicate n (4294967295 : Int)) :=
    (drive_Read1_eq ..).trans ((drive_Read_eq hr ok okN hv (inR_i64 (by decide))).trans (by rw [hd]))
  have h2 : drive_Drive_Blank.c (j : Int) 0 (n : Int) g1 g2 g3 g4 g5 (n : Int) (flNew m n).C (flNew m n).D (flNew m n).A (flNew m n).W (flNew m n).V = some (true, 0) := by
    refine (drive_Blank1_eq ..).trans ((drive_Blank_eq hr ok okN hv (inR_i64 (by decide))).trans ?_)
    unfold Fl.blank
    rw [if_neg (by omega), show ((n : Int) - 0) = (n : Int) by omega, hd, if_neg (fun h => h rfl)]
    simp
  have hw : Words (List.replicate n (4294967295 : Int)) := fun x hx => by
    rw [(List.mem_replicate.1 hx).2]
    exact inR_u32 (by decide)
  have h3 : frame_Read.c (List.replicate n (4294967295 : Int)) = some noF := (frame_Read_eq hw (by rw [List.length_replicate]; omega)).trans (by rw [readF_ones (by omega)])
  have hL : journal_read.L5 (j : Int) (n : Int) g1 g2 g3 g4 g5 (n : Int) (flNew m n).C (flNew m n).D (flNew m n).A (flNew m n).W (flNew m n).V 0 0 false 0 (j : Int) 0 false 0 [] [] (List.replicate n (4294967295 : Int)) = some (0, 0, [], []) := by
    unfold journal_read.L5
    refine Lp_end ?_
    simp only [journal_read.l5]
    rw [dd_pos (by omega), opt_some (x := noF) (by
      rw [show (Int.toNat 0) = 0 from rfl, List.drop_zero, Nat.sub_zero, List.take_length]
      exact h3), bb_pos (by rfl), Tw.run_ret]
  simp only [journal_read.c, journal_read.t]
  rw [opt_some (x := ()) (by rfl), opt_some h1, bb_neg (by rfl), opt_some hL, opt_some (by exact h2), Tw.run_ret]
  rfl
theorem open_blank : journal_Open.c (n : Int) g1 g2 g3 g4 g5 (n : Int) (flNew m n).C (flNew m n).D (flNew m n).A (flNew m n).W (flNew m n).V = some (.inl 8) := by
  have ok' := ok
  unfold GeoOK at ok'
  have hL : journal_Open.L5 0 (n : Int) g1 g2 g3 g4 g5 (n : Int) (flNew m n).C (flNew m n).D (flNew m n).A (flNew m n).W (flNew m n).V = some (.inl ()) := by
    unfold journal_Open.L5
    refine Lp_seq _ (fun i : Nat => (i : Int)) 2 0 (fun i _ hi => ?_) ?_
    · have := read_blank hr ok hm (j := i) (by omega)
      simp only [journal_Open.l5]
      rw [bb_pos (decide_eq_true (by omega)), opt_some this, bb_neg (by rfl), opt_some (x := 0) (by rfl), bb_neg (by rfl), Tw.run_ret, w64_of (by omega) (by omega)]
      rfl
    · simp only [journal_Open.l5]
      rw [bb_neg (by rfl), Tw.run_ret]
  simp only [journal_Open.c, journal_Open.t]
  rw [opt_some hL, sm_inl, Tw.run_ret]
end

/-! What must come at any rate. -/
def jw1 : List Int := sealW (fraL 1 1 [5])
def jw2 : List Int := sealW (fraL 2 2 [7])
def js1 : Fl := ((flNew 11 64).clean 64 1).2
def js2 : Fl := (js1.fresh 64 0 jw1).2
def js3 : Fl := (js2.dwrite 64 0 4 jw2).2
theorem js1_e : ((flNew 11 64).clean 64 1).1 = 0 := by decide +kernel
theorem js2_e : (js1.fresh 64 0 jw1).1 = 0 := by decide +kernel
theorem js3_e : (js2.dwrite 64 0 4 jw2).1 = 0 := by decide +kernel
theorem jw1_len : jw1.length = 4 := by decide +kernel
theorem jw2_len : jw2.length = 4 := by decide +kernel
theorem jG : GeoR ((64 : Nat) : Int) 2 5 2 1 9 ∧ GeoOK ((64 : Nat) : Int) 2 5 2 1 9 := ⟨by refine ⟨?_, ?_, ?_, ?_, ?_, ?_⟩ <;> decide, by decide⟩
theorem jw1_w : Words jw1 := fun x hx => by
  unfold jw1 sealW at hx
  rcases List.mem_append.1 hx with h | h
  · exact fraL_words (k := 1) (s := 1) (by decide) (words_cons (inR_u32 (by decide)) words_nil) x h
  · rw [List.mem_singleton.1 h]
    exact zs_u32 _
theorem jw2_w : Words jw2 := fun x hx => by
  unfold jw2 sealW at hx
  rcases List.mem_append.1 hx with h | h
  · exact fraL_words (k := 2) (s := 2) (by decide) (words_cons (inR_u32 (by decide)) words_nil) x h
  · rw [List.mem_singleton.1 h]
    exact zs_u32 _
theorem js0_ok : FlOK 64 (flNew 11 64) := flNew_ok (by decide) (by decide) (by decide) (by decide)
theorem js1_ok : FlOK 64 js1 ∧ js1.V.length = 11 ∧ js1.M = [] := by
  have := clean_ok js0_ok 1
  exact ⟨this.1, this.2.1.trans List.length_replicate, this.2.2⟩
theorem js2_ok : FlOK 64 js2 ∧ js2.V.length = 11 ∧ js2.M = [] := by
  have := fresh_ok js1_ok.1 0 jw1_w
  exact ⟨this.1, this.2.1.trans js1_ok.2.1, this.2.2.trans js1_ok.2.2⟩
theorem jclean : drive_Drive_Clean.c 1 64 2 5 2 1 9 64 (flNew 11 64).C (flNew 11 64).D (flNew 11 64).A (flNew 11 64).W (flNew 11 64).V = some (0, s5 js1) :=
  (drive_Clean1_eq ..).trans ((drive_Clean_eq jG.1 jG.2 js0_ok (by decide)).trans (by rw [js1_e]; rfl))
theorem jclean' : ref09_Drive_Clean.c 1 64 2 5 2 1 9 64 (flNew 11 64).C (flNew 11 64).D (flNew 11 64).A (flNew 11 64).W (flNew 11 64).V = some (0, s5 js1) :=
  (ref09_Clean1_eq ..).trans ((ref09_Clean_eq jG.1 jG.2 js0_ok (by decide)).trans (by rw [js1_e]; rfl))
theorem jfresh : drive_Drive_Fresh.c 0 jw1 64 2 5 2 1 9 64 js1.C js1.D js1.A js1.W js1.V = some (0, s5 js2) := by
  have := drive_Fresh_eq jG.1 jG.2 js1_ok.1 (by rw [js1_ok.2.1]; decide) (k := 0) jw1_w
  rw [js1_ok.2.2, js2_e] at this
  exact (drive_Fresh1_eq ..).trans this
theorem jfresh' : ref09_Drive_Fresh.c 0 jw1 64 2 5 2 1 9 64 js1.C js1.D js1.A js1.W js1.V = some (0, s5 js2) := by
  have := ref09_Fresh_eq jG.1 jG.2 js1_ok.1 (by rw [js1_ok.2.1]; decide) (k := 0) jw1_w
  rw [js1_ok.2.2, js2_e] at this
  exact (ref09_Fresh1_eq ..).trans this
theorem jwrite : drive_Drive_Write.c 0 4 jw2 64 2 5 2 1 9 64 js2.C js2.D js2.A js2.W js2.V = some (0, s4 js3) := by
  have := drive_Write_eq jG.1 jG.2 js2_ok.1 (by rw [js2_ok.2.1]; decide) (k := 0) (at_ := 4) (inR_i64 (by decide)) jw2_w
  rw [js2_ok.2.2, js3_e] at this
  exact (drive_Write1s_eq ..).trans this
theorem jlay1 : frame_Lay.c 1 1 [5] = some (0, jw1) := (frame_Lay_eq 1 1 (words_cons (inR_u32 (by decide)) words_nil) (by rw [reach_eq]; decide)).trans (by rw [if_pos (by decide)]; rfl)
theorem jlay2 : frame_Lay.c 2 2 [7] = some (0, jw2) := (frame_Lay_eq 2 2 (words_cons (inR_u32 (by decide)) words_nil) (by rw [reach_eq]; decide)).trans (by rw [if_pos (by decide)]; rfl)
theorem jlay1' : ref10_Lay.c 1 1 [5] = some jw1 := ref10_Lay_eq (by decide) (words_cons (inR_u32 (by decide)) words_nil)
theorem jsize (n : Int) (h : 1 ≤ n ∧ n ≤ 56) : frame_Size.c n = some (n + 3) := (frame_Size_eq n (inR_i64 (by omega))).trans (by rw [if_neg (by omega)])
theorem jmay : ∀ (l : List (List Int)), (∀ x ∈ l, x.length = 1) → l.length ≤ 5 → journal_may.c l = some true := fun l hx hl => by
  have hL : journal_may.L2 l (l.length : Int) 0 = some (.inl ()) := by
    unfold journal_may.L2
    refine Lp_seq _ (fun i : Nat => (i : Int)) l.length 0 (fun i _ hi => ?_) ?_
    · have hg : l[i]? = some l[i] := List.getElem?_eq_getElem (by omega)
      have h1 := hx l[i] (List.getElem_mem (by omega))
      simp only [journal_may.l2]
      rw [bb_pos (decide_eq_true (by omega)), dd_pos (by omega), Int.toNat_natCast, opt_some hg, h1, opt_some (jsize _ (by decide)), bb_neg (by rfl), Tw.run_ret, w64_of (by omega) (by omega)]
      rfl
    · simp only [journal_may.l2, Nat.zero_add]
      rw [bb_neg (decide_eq_false (by omega)), Tw.run_ret]
  simp only [journal_may.c, journal_may.t]
  rw [opt_some hL, sm_inl, Tw.run_ret]
theorem jclone (x : Int) : slices_Clone__uint32uint32.c [x] = some [x] := clone32_eq (by simp)
theorem jover : journal_Journal_over.c [5] 1 1 0 false 0 64 2 5 2 1 9 64 js1.C js1.D js1.A js1.W js1.V = some (.inr (.inl (0, 0, 4, false, [5], s5 js2))) := by
  simp only [journal_Journal_over.c, journal_Journal_over.t]
  rw [opt_some (jclone 5), opt_some jlay1, bb_neg (by rfl), opt_some (x := (0, s5 js2)) (by exact jfresh), bb_neg (by rfl), opt_some (x := .inr (w64 (0 + (jw1.length : Int)))) (by
    simp only [journal_Journal_said.c, journal_Journal_said.t]
    rw [bb_pos (by rfl), Tw.run_ret]), sm_inr, Tw.run_ret, jw1_len]
  rfl
theorem jnew : journal_New.c [5] 64 2 5 2 1 9 64 (flNew 11 64).C (flNew 11 64).D (flNew 11 64).A (flNew 11 64).W (flNew 11 64).V = some (.inl (0, js2.C, js2.D, js2.A, js2.W, js2.V, 0, 4, false, 1, [5], [])) := by
  simp only [journal_New.c, journal_New.t]
  rw [opt_some (jmay [[5]] (fun x hx => by rw [List.mem_singleton.1 hx]; rfl) (by decide)), bb_neg (by rfl), opt_some jclean, bb_neg (by rfl), opt_some (by exact jover), sm_inr, sm_inl, bb_neg (by rfl), Tw.run_ret]
  rfl
theorem jturn : ref11_Journal_turn.c [5] 1 1 0 false 0 64 2 5 2 1 9 64 js1.C js1.D js1.A js1.W js1.V = some (.inr (.inl (0, 0, 4, false, s5 js2))) := by
  simp only [ref11_Journal_turn.c, ref11_Journal_turn.t]
  rw [dd_pos (by decide), opt_some jlay1', opt_some (x := (0, s5 js2)) (by exact jfresh'), bb_neg (by rfl), opt_some (x := .inr (w64 (0 + (jw1.length : Int)))) (by
    simp only [ref11_Journal_add.c, ref11_Journal_add.t]
    rw [bb_pos (by rfl), Tw.run_ret]), sm_inr, Tw.run_ret, jw1_len]
  rfl
theorem jnew' : ref11_New.c [5] 64 2 5 2 1 9 64 (flNew 11 64).C (flNew 11 64).D (flNew 11 64).A (flNew 11 64).W (flNew 11 64).V = some (.inl (0, js2.C, js2.D, js2.A, js2.W, js2.V, 0, 4, false, 1, [5], [])) := by
  have hy := jturn
  have h1 : ref11_load.c [5] = some true := by
    simp only [ref11_load.c, ref11_load.t]
    rw [bb_pos (by rfl), Tw.run_ret]
    rfl
  simp only [ref11_New.c, ref11_New.t]
  rw [opt_some h1, bb_neg (by rfl), opt_some jclean', bb_neg (by rfl), opt_some (by exact hy), sm_inr, sm_inl, bb_neg (by rfl), Tw.run_ret]
  rfl
theorem jchange : journal_Journal_Change.c [7] [6] 0 4 false 1 [5] 64 2 5 2 1 9 64 js2.C js2.D js2.A js2.W js2.V [] = some (.inl (0, 0, 8, false, 2, js3.C, js3.D, js3.A, js3.W, js2.V, [[7]])) := by
  have hp : journal_Journal_put.c 2 [7] [6] 0 4 false 1 [5] 64 2 5 2 1 9 64 js2.C js2.D js2.A js2.W js2.V [] = some (.inl (0, 0, 8, false, 2, js3.C, js3.D, js3.A, js3.W, js2.V, [[7]])) := by
    simp only [journal_Journal_put.c, journal_Journal_put.t]
    rw [opt_some (jmay [[7], [6]] (fun x hx => by
      rcases List.mem_cons.1 hx with rfl | hx
      · rfl
      · rw [List.mem_singleton.1 hx]; rfl) (by decide)), bb_neg (by rfl), opt_some (x := ()) (by rfl), bb_neg (by rfl), bb_neg (by rfl), opt_some (x := 4) (by exact jsize 1 (by decide)), opt_some (x := ()) (by rfl), bb_neg (by decide), opt_some (jclone 7), opt_some (x := (0, jw2)) (by exact jlay2), bb_neg (by rfl), opt_some (by exact jwrite), bb_neg (by rfl), opt_some (x := .inl (w64 (4 + (jw2.length : Int)), [[7]])) (by
        simp only [journal_Journal_said_v3.c, journal_Journal_said_v3.t]
        rw [bb_neg (by rfl), dd_pos (by decide), Tw.run_ret]
        rfl), sm_inl, Tw.run_ret, jw2_len]
    rfl
  simp only [journal_Journal_Change.c, journal_Journal_Change.t]
  rw [opt_some hp, sm_inl, Tw.run_ret]
theorem jchanges (C : Int) (D : Bool) (A : Int) (W V : List Int) : journal_Journal_Changes.c 0 8 false 2 [5] 64 2 5 2 1 9 64 C D A W V [[7]] = some [[7]] := by
  have hL : journal_Journal_Changes.L5 1 0 0 8 false 2 [5] 64 2 5 2 1 9 64 C D A W V [[7]] [] = some [[7]] := by
    unfold journal_Journal_Changes.L5
    have h0 : (journal_Journal_Changes.l5 1 0 8 false 2 [5] 64 2 5 2 1 9 64 C D A W V [[7]] 0 []).run = some (.inl (1, [[7]])) := by
      simp only [journal_Journal_Changes.l5]
      rw [bb_pos (by rfl), dd_pos (by decide), opt_some (x := [7]) (by rfl), opt_some (jclone 7), dd_pos (by decide), Tw.run_ret]
      rfl
    have h1 : (journal_Journal_Changes.l5 1 0 8 false 2 [5] 64 2 5 2 1 9 64 C D A W V [[7]] 1 [[7]]).run = some (.inr [[7]]) := by
      simp only [journal_Journal_Changes.l5]
      rw [bb_neg (by rfl), Tw.run_ret]
    rw [Lp_next (s := ((0 : Int), ([] : List (List Int)))) (s' := ((1 : Int), [[7]])) h0]
    exact Lp_end (s := ((1 : Int), [[(7 : Int)]])) h1
  simp only [journal_Journal_Changes.c, journal_Journal_Changes.t]
  rw [opt_some (by exact hL), Tw.run_ret]
theorem jbegin : law11_begin.c 64 2 5 2 1 9 [5] = some (.inl (true, js2.C, js2.D, js2.A, js2.W, js2.V, 0, 4, false, 1, [5], [], 0, 4, false, 1, [5], js2.C, js2.D, js2.A, js2.W, js2.V, [])) := by
  have hy := jnew'
  have hmap : ref08_Map.c ((64 : Nat) : Int) 2 5 2 1 9 = some (mapL 2 11) := (ref08_Map_eq jG.1).trans (by rw [if_pos jG.2]; rfl)
  have hN := flash_New_eq (a := 11) (b := 64) (by decide) (by decide) (by decide) (by decide)
  have hR := ref07_New_eq (a := 11) (b := 64) (by decide) (by decide) (by decide) (by decide)
  have hD : ref09_New.c 64 2 5 2 1 9 = some (.inl ((flNew 11 64).C, (flNew 11 64).D, (flNew 11 64).A, (flNew 11 64).W, (flNew 11 64).V)) := by
    simp only [ref09_New.c, ref09_New.t]
    rw [opt_some (by exact hmap), mapL_len, opt_some (by exact hR), sm_inl, Tw.run_ret]
  have hdn : drive_New.c 64 2 5 2 1 9 64 (flNew 11 64).C (flNew 11 64).D (flNew 11 64).A (flNew 11 64).W (flNew 11 64).V = some (.inl 0) := (drive_New_eq jG.1 ..).trans (by rw [if_pos ⟨jG.2, by decide, by decide⟩])
  simp only [law11_begin.c, law11_begin.t]
  rw [opt_some (by exact hmap), mapL_len, opt_some (by exact hN), sm_inl, opt_some (by exact hdn), sm_inl, bb_neg (by rfl), bb_neg (by rfl), opt_some (by exact jnew), sm_inl, opt_some hD, sm_inl, opt_some (by exact hy), sm_inl, bb_pos (by rfl), Tw.run_ret]
  rfl
theorem jsame (x : Int) : ref01_Same.c [x] [x] = some true := (ref01_Same_eq (by simp)).trans (by simp)
theorem awake11 : law11_awake.c = some true := by
  have hy := jbegin
  simp only [law11_awake.c, law11_awake.t]
  rw [opt_some hy, sm_inl, bb_neg (by rfl), opt_some (by exact jchange), sm_inl, opt_some (by exact jchanges ..), bb_pos (by rfl), opt_some (x := ()) (by rfl), bb_pos (by rfl), opt_some (x := [5]) (by exact jclone 5), opt_some (jsame 5), bb_pos (by rfl), bb_pos (by rfl), dd_pos (by decide), opt_some (x := [7]) (by rfl), opt_some (jsame 7), Tw.run_ret]

end Go.Proofs.Ytkoidgjgdhpdnaa.Pure
