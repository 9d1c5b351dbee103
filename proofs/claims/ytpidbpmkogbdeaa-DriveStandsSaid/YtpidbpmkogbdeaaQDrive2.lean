/- Drives: new ones; what must come at any rate. -/
import Derived.Test.YtpidbpmkogbdeaaQDrive1
import Derived.Test.YtpidbpmkogbdeaaFlaw09
namespace Go.Proofs.Ytpidbpmkogbdeaa.Pure
open Go Go.Proofs.Ytpidbpmkogbdeaa.Va
set_option linter.unusedVariables false
set_option linter.unusedSimpArgs false

theorem drive_New_eq {g0 g1 g2 g3 g4 g5 : Int} (hr : GeoR g0 g1 g2 g3 g4 g5) (m C : Int) (D : Bool) (A : Int) (W V : List Int) : drive_New.c g0 g1 g2 g3 g4 g5 m C D A W V =
    some (if GeoOK g0 g1 g2 g3 g4 g5 ∧ (V.length : Int) = 2 + 2 * g1 + g2 ∧ m = g0 then .inl 0 else .inr 2) := by
  simp only [drive_New.c, drive_New.t]
  rw [opt_some (geom_Check_eq hr)]
  by_cases ok : GeoOK g0 g1 g2 g3 g4 g5
  · rw [if_pos ok, bb_neg (by rfl), opt_some (x := ((V.length : Nat) : Int)) (by rfl), opt_some (geom_Sectors_eq hr), if_pos ok]
    by_cases h1 : (V.length : Int) = 2 + 2 * g1 + g2
    · rw [bb_neg (by rw [h1]; simp)]
      by_cases h2 : m = g0
      · rw [bb_neg (by rw [h2]; simp), if_pos ⟨ok, h1, h2⟩, Tw.run_ret]
      · rw [bb_pos (by simpa using h2), if_neg (fun h => h2 h.2.2), Tw.run_ret]
    · rw [bb_pos (by simpa using h1), if_neg (fun h => h1 h.2.1), Tw.run_ret]
  · rw [if_neg ok, bb_pos (by rfl), if_neg (fun h => ok h.1), Tw.run_ret]

theorem drive_Write1_eq (k at_ : Int) (w : List Int) (g0 g1 g2 g3 g4 g5 m C : Int) (D : Bool) (A : Int) (W V : List Int) : drive_Drive_Write.c k at_ w g0 g1 g2 g3 g4 g5 m C D A W V = drive_Drive_Write_v2.c k at_ w g0 g1 g2 g3 g4 g5 m C D A W V [] := rfl

set_option maxRecDepth 100000 in
theorem awake09 : law09_awake.c = some true := by
  have hr : GeoR ((64 : Nat) : Int) 2 5 2 1 9 := by refine ⟨?_, ?_, ?_, ?_, ?_, ?_⟩ <;> decide
  have ok : GeoOK ((64 : Nat) : Int) 2 5 2 1 9 := by decide
  have h0 : FlOK 64 (flNew 11 64) := flNew_ok (by decide) (by decide) (by decide) (by decide)
  have e0 : flash_New.c 11 64 = some (.inl (0, 0, false, -1, (flNew 11 64).W, (flNew 11 64).V)) := flash_New_eq (a := 11) (b := 64) (by decide) (by decide) (by decide) (by decide)
  have w5 : Words [5] := words_cons (inR_u32 (by decide)) words_nil
  have w7 : Words [7] := words_cons (inR_u32 (by decide)) words_nil
  have hi : InR .i64 2 := inR_i64 (by decide)
  have hg : (flNew 11 64).W.getD 66 0 = 4294967295 := by decide
  have d1 : (flNew 11 64).dwrite 64 1 2 [5] = (0, ⟨1, false, -1, (flNew 11 64).W.set 66 5, (flNew 11 64).V, []⟩) := by
    have f1 : (flNew 11 64).first 64 1 2 1 = (66, 0) := by decide
    have v1 : viol (flNew 11 64).W [5] 66 = false := by decide
    have p1 : (flNew 11 64).prog 66 5 = (0, ⟨1, false, -1, (flNew 11 64).W.set 66 5, (flNew 11 64).V, []⟩) := by
      unfold Fl.prog
      rw [if_neg (by decide), if_neg (by decide), if_neg (by decide), if_neg (by decide)]
      rfl
    unfold Fl.dwrite
    rw [show (([5] : List Int).length : Int) = 1 from rfl, f1, if_neg (by decide), show (Int.toNat (66, 0).1) = 66 from rfl, v1, if_neg (by decide)]
    unfold wrL
    rw [hg, if_neg (by decide), show ((66 : Nat) : Int) = 66 from rfl, p1, if_neg (by decide)]
    rfl
  have h1 : FlOK 64 (⟨1, false, -1, (flNew 11 64).W.set 66 5, (flNew 11 64).V, []⟩ : Fl) := by
    have := (dwrite_ok h0 1 2 w5).1
    rw [d1] at this
    exact this
  have hg2 : ((flNew 11 64).W.set 66 5).getD 66 0 = 5 := by decide
  have d2 : (⟨1, false, -1, (flNew 11 64).W.set 66 5, (flNew 11 64).V, []⟩ : Fl).dwrite 64 1 2 [5] = (0, ⟨1, false, -1, (flNew 11 64).W.set 66 5, (flNew 11 64).V, []⟩) := by
    have f1 : (⟨1, false, -1, (flNew 11 64).W.set 66 5, (flNew 11 64).V, []⟩ : Fl).first 64 1 2 1 = (66, 0) := by decide
    have v1 : viol ((flNew 11 64).W.set 66 5) [5] 66 = false := by decide
    unfold Fl.dwrite
    rw [show (([5] : List Int).length : Int) = 1 from rfl, f1, if_neg (by decide), show (Int.toNat (66, 0).1) = 66 from rfl, v1, if_neg (by decide)]
    unfold wrL
    rw [hg2, if_pos rfl]
    rfl
  have d3 : (⟨1, false, -1, (flNew 11 64).W.set 66 5, (flNew 11 64).V, []⟩ : Fl).dwrite 64 1 2 [7] = (11, ⟨1, false, -1, (flNew 11 64).W.set 66 5, (flNew 11 64).V, []⟩) := by
    have f1 : (⟨1, false, -1, (flNew 11 64).W.set 66 5, (flNew 11 64).V, []⟩ : Fl).first 64 1 2 1 = (66, 0) := by decide
    have v1 : viol ((flNew 11 64).W.set 66 5) [7] 66 = true := by decide
    unfold Fl.dwrite
    rw [show (([7] : List Int).length : Int) = 1 from rfl, f1, if_neg (by decide), show (Int.toNat (66, 0).1) = 66 from rfl, v1, if_pos rfl]
  have e1 : drive_New.c 64 2 5 2 1 9 64 0 false (-1) (flNew 11 64).W (flNew 11 64).V = some (.inl 0) := (drive_New_eq hr ..).trans (by rw [if_pos ⟨ok, by decide, by decide⟩])
  have e2 : drive_Drive_Write.c 1 2 [5] 64 2 5 2 1 9 64 0 false (-1) (flNew 11 64).W (flNew 11 64).V = some (0, 1, false, -1, (flNew 11 64).W.set 66 5) :=
    (drive_Write1_eq ..).trans ((drive_Write_eq hr ok h0 (by decide) hi w5).trans (by rw [d1]; rfl))
  have e3 : drive_Drive_Write.c 1 2 [5] 64 2 5 2 1 9 64 1 false (-1) ((flNew 11 64).W.set 66 5) (flNew 11 64).V = some (0, 1, false, -1, (flNew 11 64).W.set 66 5) :=
    (drive_Write1_eq ..).trans ((drive_Write_eq hr ok h1 (by decide) hi w5).trans (by rw [d2]; rfl))
  have e4 : drive_Drive_Write.c 1 2 [7] 64 2 5 2 1 9 64 1 false (-1) ((flNew 11 64).W.set 66 5) (flNew 11 64).V = some (11, 1, false, -1, (flNew 11 64).W.set 66 5) :=
    (drive_Write1_eq ..).trans ((drive_Write_eq hr ok h1 (by decide) hi w7).trans (by rw [d3]; rfl))
  simp only [law09_awake.c, law09_awake.t]
  rw [opt_some e0, sm_inl, opt_some e1, sm_inl, opt_some e2, opt_some e3, opt_some e4, bb_pos (by rfl), bb_pos (by rfl), bb_pos (by rfl), bb_pos (by rfl), bb_pos (by rfl), opt_some (x := ()) (by rfl), bb_pos (by rfl), opt_some (x := ()) (by rfl), Tw.run_ret]
  rfl

end Go.Proofs.Ytpidbpmkogbdeaa.Pure
