/- The law instar/instarlaw08.GeomPlaces: whatever the arguments, it returns true, never panics, and its arguments read behind the call as before. -/
import Derived.Test.YtadhnolgfhgepaaRows
import Derived.Test.YtadhnolgfhgepaaFlaw08
import Derived.Test.YtadhnolgfhgepaaVd
import Derived.Test.YtadhnolgfhgepaaGeomPlaces
namespace Go.Proofs.Ytadhnolgfhgepaa.geomPlaces
open Go Go.Proofs.Ytadhnolgfhgepaa.Va
open Go.ChangeShapes Go.WideShapes Go.ChangeAt Go.RowKit
set_option linter.unusedVariables false
theorem own : ownKnob Try.prog.godebug = none := by kernel_rfl
theorem laidOut : laidOutB Try.prog = true := by kernel_rfl
theorem plain (l : law08_GeomPlaces.TA) (h : wfA E0 [72, 3, 3] law08_GeomPlaces.pA l.1) : (law08_GeomPlaces.t l.1.1.1 l.1.1.2.1 l.1.1.2.2.1 l.1.1.2.2.2.1 l.1.1.2.2.2.2.1 l.1.1.2.2.2.2.2.1 l.1.2.1 l.1.2.2.1).run = some true := by
  obtain ⟨⟨⟨_, h1⟩, ⟨_, h2⟩, ⟨_, h3⟩, ⟨_, h4⟩, ⟨_, h5⟩, ⟨_, h6⟩, _⟩, ⟨_, h7⟩, ⟨_, h8⟩, _⟩ := h
  exact Pure.GeomPlaces _ _ _ _ _ _ _ _ h1 h2 h3 h4 h5 h6 h7 h8
set_option maxRecDepth 100000 in
theorem lifted (os : Os) (started : os.Started) (H : Type) (enc : TypeId × Value → H) :
    ReturnsInHanded {} Try.checked os 13 .any (Rows.geomPlacesSpec.pre6 enc Try.prog Try.f13 Rows.geomPlacesRow.domain false) (Rows.geomPlacesSpec.post enc Try.prog Try.f13 false true false false) :=
  law_lifted (C := Try.checked) (E := E0) (E' := law08_GeomPlaces.E) (ct := ct) (p := law08_GeomPlaces.pA) (ts := [72, 3, 3]) (tb := 4) (ms := []) (t := fun (l : law08_GeomPlaces.TA) => law08_GeomPlaces.t l.1.1.1 l.1.1.2.1 l.1.1.2.2.1 l.1.1.2.2.2.1 l.1.1.2.2.2.2.1 l.1.1.2.2.2.2.2.1 l.1.2.1 l.1.2.2.1) (v := law08_GeomPlaces.v) (hh := law08_GeomPlaces.hh)
    own started (by kernel_rfl) Try.func13 (ChangeSpec.witness6 (enc := enc) (C := Try.checked) false ⟨#[], #[.agg #[.int .i64 0, .int .i64 0, .int .i64 0, .int .i64 0, .int .i64 0, .int .i64 0], .int .i64 0, .int .i64 0], []⟩ 8 (by kernel_rfl) (by kernel_rfl) (by kernel_rfl) (by kernel_rfl))
    laidOut (by kernel_rfl) (by kernel_rfl) Try.underlying4 rfl (fun ds h => by match ds, h with | [_, _, _], _ => rfl) (by kernel_rfl) E0_ok full_ok rfl (by kernel_rfl) (by kernel_rfl) law08_GeomPlaces.okF law08_GeomPlaces.hk (fun _ => rfl) plain
theorem over : Rows.geomPlacesRow.holds Try.pinned (OpenSpec.ofChange Rows.geomPlacesSpec) :=
  OpenClaim.holds_of_wide 13 Try.f13 rfl rfl rfl rfl rfl rfl rfl ⟨rfl, rfl, rfl, rfl, rfl⟩ rfl rfl rfl rfl rfl (by kernel_rfl) Try.func13 (by kernel_rfl)
    (of_decide_eq_true (by kernel_rfl)) (by unfold Func.isWrapper; first | (rw [if_pos (by decide +kernel)]; kernel_rfl) | (rw [if_neg (by decide +kernel)]; exact ⟨rfl, rfl⟩))
    (fun os started H enc _ => lifted os started H enc)
end Go.Proofs.Ytadhnolgfhgepaa.geomPlaces
namespace Go.Proofs.Ytadhnolgfhgepaa
/-- The row, under a short name, for the claim. -/
theorem geomPlaces_holds : Rows.GeomPlacesSaid := geomPlaces.over
#print axioms geomPlaces_holds
end Go.Proofs.Ytadhnolgfhgepaa
