/- Layer 8: what must come at any rate, comes. -/
import Derived.Test.YtadhnolgfhgepaaQGeom
import Derived.Test.YtadhnolgfhgepaaFlaw08
namespace Go.Proofs.Ytadhnolgfhgepaa.Pure
open Go Go.Proofs.Ytadhnolgfhgepaa.Va
set_option linter.unusedVariables false
set_option linter.unusedSimpArgs false

theorem awake08 : law08_awake.c = some true := by
  have h : GeoR 64 3 8 4 1 9 := by refine ⟨?_, ?_, ?_, ?_, ?_, ?_⟩ <;> decide
  have ok : GeoOK 64 3 8 4 1 9 := by decide
  have h1 : geom_Sectors.c 64 3 8 4 1 9 = some 16 := (geom_Sectors_eq h).trans (by rw [if_pos ok]; rfl)
  have h2 : geom_Ledger.c 64 3 8 4 1 9 1 = some 5 := (geom_Ledger_eq h 1).trans (by rw [if_pos ⟨ok, by decide, by decide⟩]; rfl)
  have h3 : geom_Page.c 64 3 8 4 1 9 0 = some 8 := (geom_Page_eq h 0).trans (by rw [if_pos ⟨ok, by decide, by decide⟩]; rfl)
  have h4 : geom_Chunks.c 64 3 8 4 1 9 600 = some 0 := (geom_Chunks_eq h (t := 600) (by decide)).trans (by rw [if_neg (by omega)])
  have h5 : geom_Part.c 64 3 8 4 1 9 500 1 = some 244 := (geom_Part_eq h (t := 500) (by decide) ok (by decide) (by decide) (i := 1) (by decide) (by decide)).trans (by decide)
  simp only [law08_awake.c, law08_awake.t, Tw.run_opt, Tw.run_bb, Tw.run_ret, h1, h2, h3, h4, h5, Option.bind_some]
  decide

end Go.Proofs.Ytadhnolgfhgepaa.Pure
