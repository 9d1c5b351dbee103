/- The law instar/instarlaw43.WearCounts: whatever the arguments, it returns true, never panics, and its arguments read behind the call as before. -/
import Derived.Test.YtmlbioapefgioaaRows
import Derived.Test.YtmlbioapefgioaaFlaw43
import Derived.Test.YtmlbioapefgioaaVd
import Derived.Test.YtmlbioapefgioaaKn
import Derived.Test.YtmlbioapefgioaaWearCounts
namespace Go.Proofs.Ytmlbioapefgioaa.wearCounts
open Go Go.Proofs.Ytmlbioapefgioaa.Va
open Go.ChangeShapes Go.WideShapes Go.ChangeAt Go.RowKit
set_option linter.unusedVariables false
theorem own : ownKnob Try.prog.godebug = none := by kernel_rfl
theorem laidOut : laidOutB Try.prog = true := by kernel_rfl
theorem plain (l : law43_WearCounts.TA) (h : wfA E0 [57, 59] law43_WearCounts.pA l.1) : (law43_WearCounts.t l.1.1.1 l.1.1.2.1 l.1.1.2.2.1 l.1.1.2.2.2.1 l.1.1.2.2.2.2.1 l.1.1.2.2.2.2.2.1 l.1.2.1).run = some true := by
  obtain ⟨⟨⟨_, h1⟩, ⟨_, h2⟩, ⟨_, h3⟩, ⟨_, h4⟩, ⟨_, h5⟩, ⟨_, h6⟩, _⟩, ⟨_, h7, h8⟩, _⟩ := h
  exact Pure.WearCounts _ _ _ _ _ _ _ h1 h2 h3 h4 h5 h6 h7 (fun x8 hx => by obtain ⟨_, h9⟩ := h8 x8 hx; exact h9)
set_option maxRecDepth 100000 in
theorem lifted (os : Os) (started : os.Started) (H : Type) (enc : TypeId × Value → H) :
    ReturnsInHanded {} Try.checked os 7 .any (Rows.wearCountsSpec.pre6 enc Try.prog Try.f7 Rows.wearCountsRow.domain false) (Rows.wearCountsSpec.post enc Try.prog Try.f7 false true false false) :=
  law_lifted (C := Try.checked) (E := E0) (E' := law43_WearCounts.E) (ct := ct) (p := law43_WearCounts.pA) (ts := [57, 59]) (tb := 4) (ms := []) (t := fun (l : law43_WearCounts.TA) => law43_WearCounts.t l.1.1.1 l.1.1.2.1 l.1.1.2.2.1 l.1.1.2.2.2.1 l.1.1.2.2.2.2.1 l.1.1.2.2.2.2.2.1 l.1.2.1) (v := law43_WearCounts.v) (hh := law43_WearCounts.hh)
    own started (by kernel_rfl) Try.func7 (ChangeSpec.witness6 (enc := enc) (C := Try.checked) false ⟨#[], #[.agg #[.int .i64 0, .int .i64 0, .int .i64 0, .int .i64 0, .int .i64 0, .int .i64 0], .slice none 0 0], []⟩ 8 (by kernel_rfl) (by kernel_rfl) (by kernel_rfl) (by kernel_rfl))
    laidOut (by kernel_rfl) (by kernel_rfl) Try.underlying4 rfl (fun ds h => by match ds, h with | [_, _], _ => rfl) (by kernel_rfl) E0_ok full_ok rfl (by kernel_rfl) (by kernel_rfl) law43_WearCounts.okF law43_WearCounts.hk (fun _ => rfl) plain
theorem over : Rows.wearCountsRow.holds Try.pinned (OpenSpec.ofChange Rows.wearCountsSpec) :=
  OpenClaim.holds_of_wide 7 Try.f7 rfl rfl rfl rfl rfl rfl rfl ⟨rfl, rfl, rfl, rfl, rfl⟩ rfl rfl rfl rfl rfl (by kernel_rfl) Try.func7 (Kn.closed_of (by kernel_rfl))
    (of_decide_eq_true (by kernel_rfl)) (by unfold Func.isWrapper; first | (rw [if_pos (by decide +kernel)]; kernel_rfl) | (rw [if_neg (by decide +kernel)]; exact ⟨rfl, rfl⟩))
    (fun os started H enc _ => lifted os started H enc)
end Go.Proofs.Ytmlbioapefgioaa.wearCounts
namespace Go.Proofs.Ytmlbioapefgioaa
/-- The row, under a short name, for the claim. -/
theorem wearCounts_holds : Rows.WearCountsSaid := wearCounts.over
#print axioms wearCounts_holds
end Go.Proofs.Ytmlbioapefgioaa
