/- The law instar/instarlaw24.PackPlays: whatever the arguments, it returns true, never panics, and its arguments read behind the call as before. -/
import Derived.Test.YtmlbioapefgioaaRows
import Derived.Test.YtmlbioapefgioaaFlaw24PackPlays
import Derived.Test.YtmlbioapefgioaaVd
import Derived.Test.YtmlbioapefgioaaKn
import Derived.Test.YtmlbioapefgioaaPackPlays
namespace Go.Proofs.Ytmlbioapefgioaa.packPlays
open Go Go.Proofs.Ytmlbioapefgioaa.Va
open Go.ChangeShapes Go.WideShapes Go.ChangeAt Go.RowKit
set_option linter.unusedVariables false
theorem own : ownKnob Try.prog.godebug = none := by kernel_rfl
theorem laidOut : laidOutB Try.prog = true := by kernel_rfl
theorem plain (l : law24_PackPlays.TA) (h : wfA E0 [3, 32] law24_PackPlays.pA l.1) : (law24_PackPlays.t l.1.1 l.1.2.1).run = some true := by
  obtain ⟨⟨_, h1⟩, ⟨_, h2, h3⟩, _⟩ := h
  exact Pure.PackPlays _ _ h1 h2 (fun x3 hx => by obtain ⟨⟨_, h4⟩, ⟨⟨_, h5⟩, h6, _⟩, _⟩ := h3 x3 hx; exact ⟨h4, h5, h6⟩)
set_option maxRecDepth 100000 in
theorem lifted (os : Os) (started : os.Started) (H : Type) (enc : TypeId × Value → H) :
    ReturnsInHanded {} Try.checked os 4 .any (Rows.packPlaysSpec.pre6 enc Try.prog Try.f4 Rows.packPlaysRow.domain false) (Rows.packPlaysSpec.post enc Try.prog Try.f4 false true false false) :=
  law_lifted (C := Try.checked) (E := E0) (E' := law24_PackPlays.E) (ct := ct) (p := law24_PackPlays.pA) (ts := [3, 32]) (tb := 4) (ms := []) (t := fun (l : law24_PackPlays.TA) => law24_PackPlays.t l.1.1 l.1.2.1) (v := law24_PackPlays.v) (hh := law24_PackPlays.hh)
    own started (by kernel_rfl) Try.func4 (ChangeSpec.witness6 (enc := enc) (C := Try.checked) false ⟨#[], #[.int .i64 0, .slice none 0 0], []⟩ 8 (by kernel_rfl) (by kernel_rfl) (by kernel_rfl) (by kernel_rfl))
    laidOut (by kernel_rfl) (by kernel_rfl) Try.underlying4 rfl (fun ds h => by match ds, h with | [_, _], _ => rfl) (by kernel_rfl) E0_ok full_ok rfl (by kernel_rfl) (by kernel_rfl) law24_PackPlays.okF law24_PackPlays.hk (fun _ => rfl) plain
theorem over : Rows.packPlaysRow.holds Try.pinned (OpenSpec.ofChange Rows.packPlaysSpec) :=
  OpenClaim.holds_of_wide 4 Try.f4 rfl rfl rfl rfl rfl rfl rfl ⟨rfl, rfl, rfl, rfl, rfl⟩ rfl rfl rfl rfl rfl (by kernel_rfl) Try.func4 (Kn.closed_of (by kernel_rfl))
    (of_decide_eq_true (by kernel_rfl)) (by unfold Func.isWrapper; first | (rw [if_pos (by decide +kernel)]; kernel_rfl) | (rw [if_neg (by decide +kernel)]; exact ⟨rfl, rfl⟩))
    (fun os started H enc _ => lifted os started H enc)
end Go.Proofs.Ytmlbioapefgioaa.packPlays
namespace Go.Proofs.Ytmlbioapefgioaa
/-- The row, under a short name, for the claim. -/
theorem packPlays_holds : Rows.PackPlaysSaid := packPlays.over
#print axioms packPlays_holds
end Go.Proofs.Ytmlbioapefgioaa
