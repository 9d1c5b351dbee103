/- Drives: new ones; what must come at any rate. -/
import Derived.Test.YtkoidgjgdhpdnaaQDrive1
namespace Go.Proofs.Ytkoidgjgdhpdnaa.Pure
open Go Go.Proofs.Ytkoidgjgdhpdnaa.Va
set_option linter.unusedVariables false
set_option linter.unusedSimpArgs false

theorem drive_New_eq {g0 g1 g2 g3 g4 g5 : Int} (hr : GeoR g0 g1 g2 g3 g4 g5) (m C : Int) (D : Bool) (A : Int) (W V : List Int) : drive_New.c g0 g1 g2 g3 g4 g5 m C D A W V =
    some (if GeoOK g0 g1 g2 g3 g4 g5 ∧ (V.length : Int) = 2 + 2 * g1 + g2 ∧ m = g0 then .inl 0 else .inr 2) := by
  simp only [drive_New.c, drive_New.t]
  rw [opt_some (geom_Check_eq hr)]
  by_cases ok : GeoOK g0 g1 g2 g3 g4 g5
  · rw [if_pos ok, bb_neg (by rfl), opt_some (x := ((V.length : Nat) : Int)) (by rfl), opt_some (geom_Sectors_eq hr), if_pos ok]
    by_cases h1 : (V.length : Int) = 2 + 2 * g1 + g2
    · rw [bb_neg (by rw [h1]; simp)]
      by_cases h2 : m = g0
      · rw [bb_neg (by rw [h2]; simp), if_pos ⟨ok, h1, h2⟩, Tw.run_ret]
      · rw [bb_pos (by simpa using h2), if_neg (fun h => h2 h.2.2), Tw.run_ret]
    · rw [bb_pos (by simpa using h1), if_neg (fun h => h1 h.2.1), Tw.run_ret]
  · rw [if_neg ok, bb_pos (by rfl), if_neg (fun h => ok h.1), Tw.run_ret]

end Go.Proofs.Ytkoidgjgdhpdnaa.Pure
