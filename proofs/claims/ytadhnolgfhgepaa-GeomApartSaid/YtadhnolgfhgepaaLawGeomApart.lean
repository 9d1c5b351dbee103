/- The law instar/instarlaw08.GeomApart: whatever the arguments, it returns true, never panics, and its arguments read behind the call as before. -/
import Derived.Test.YtadhnolgfhgepaaRows
import Derived.Test.YtadhnolgfhgepaaFlaw08
import Derived.Test.YtadhnolgfhgepaaVd
import Derived.Test.YtadhnolgfhgepaaGeomApart
namespace Go.Proofs.Ytadhnolgfhgepaa.geomApart
open Go Go.Proofs.Ytadhnolgfhgepaa.Va
open Go.ChangeShapes Go.WideShapes Go.ChangeAt Go.RowKit
set_option linter.unusedVariables false
theorem own : ownKnob Try.prog.godebug = none := by kernel_rfl
theorem laidOut : laidOutB Try.prog = true := by kernel_rfl
theorem plain (l : law08_GeomApart.TA) (h : wfA E0 [72, 3] law08_GeomApart.pA l.1) : (law08_GeomApart.t l.1.1.1 l.1.1.2.1 l.1.1.2.2.1 l.1.1.2.2.2.1 l.1.1.2.2.2.2.1 l.1.1.2.2.2.2.2.1 l.1.2.1).run = some true := by
  obtain ⟨⟨⟨_, h1⟩, ⟨_, h2⟩, ⟨_, h3⟩, ⟨_, h4⟩, ⟨_, h5⟩, ⟨_, h6⟩, _⟩, ⟨_, h7⟩, _⟩ := h
  exact Pure.GeomApart _ _ _ _ _ _ _ h1 h2 h3 h4 h5 h6 h7
set_option maxRecDepth 100000 in
theorem lifted (os : Os) (started : os.Started) (H : Type) (enc : TypeId × Value → H) :
    ReturnsInHanded {} Try.checked os 15 .any (Rows.geomApartSpec.pre6 enc Try.prog Try.f15 Rows.geomApartRow.domain false) (Rows.geomApartSpec.post enc Try.prog Try.f15 false true false false) :=
  law_lifted (C := Try.checked) (E := E0) (E' := law08_GeomApart.E) (ct := ct) (p := law08_GeomApart.pA) (ts := [72, 3]) (tb := 4) (ms := []) (t := fun (l : law08_GeomApart.TA) => law08_GeomApart.t l.1.1.1 l.1.1.2.1 l.1.1.2.2.1 l.1.1.2.2.2.1 l.1.1.2.2.2.2.1 l.1.1.2.2.2.2.2.1 l.1.2.1) (v := law08_GeomApart.v) (hh := law08_GeomApart.hh)
    own started (by kernel_rfl) Try.func15 (ChangeSpec.witness6 (enc := enc) (C := Try.checked) false ⟨#[], #[.agg #[.int .i64 0, .int .i64 0, .int .i64 0, .int .i64 0, .int .i64 0, .int .i64 0], .int .i64 0], []⟩ 8 (by kernel_rfl) (by kernel_rfl) (by kernel_rfl) (by kernel_rfl))
    laidOut (by kernel_rfl) (by kernel_rfl) Try.underlying4 rfl (fun ds h => by match ds, h with | [_, _], _ => rfl) (by kernel_rfl) E0_ok full_ok rfl (by kernel_rfl) (by kernel_rfl) law08_GeomApart.okF law08_GeomApart.hk (fun _ => rfl) plain
theorem over : Rows.geomApartRow.holds Try.pinned (OpenSpec.ofChange Rows.geomApartSpec) :=
  OpenClaim.holds_of_wide 15 Try.f15 rfl rfl rfl rfl rfl rfl rfl ⟨rfl, rfl, rfl, rfl, rfl⟩ rfl rfl rfl rfl rfl (by kernel_rfl) Try.func15 (by kernel_rfl)
    (of_decide_eq_true (by kernel_rfl)) (by unfold Func.isWrapper; first | (rw [if_pos (by decide +kernel)]; kernel_rfl) | (rw [if_neg (by decide +kernel)]; exact ⟨rfl, rfl⟩))
    (fun os started H enc _ => lifted os started H enc)
end Go.Proofs.Ytadhnolgfhgepaa.geomApart
namespace Go.Proofs.Ytadhnolgfhgepaa
/-- The row, under a short name, for the claim. -/
theorem geomApart_holds : Rows.GeomApartSaid := geomApart.over
#print axioms geomApart_holds
end Go.Proofs.Ytadhnolgfhgepaa
