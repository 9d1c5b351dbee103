/- The law instar/instarlaw24.PackLists: whatever the arguments, it returns true, never panics, and its arguments read behind the call as before. -/
import Derived.Test.YtmlbioapefgioaaRows
import Derived.Test.YtmlbioapefgioaaFlaw24
import Derived.Test.YtmlbioapefgioaaVd
import Derived.Test.YtmlbioapefgioaaKn
import Derived.Test.YtmlbioapefgioaaPackLists
namespace Go.Proofs.Ytmlbioapefgioaa.packLists
open Go Go.Proofs.Ytmlbioapefgioaa.Va
open Go.ChangeShapes Go.WideShapes Go.ChangeAt Go.RowKit
set_option linter.unusedVariables false
theorem own : ownKnob Try.prog.godebug = none := by kernel_rfl
theorem laidOut : laidOutB Try.prog = true := by kernel_rfl
theorem plain (l : law24_PackLists.TA) (h : wfA E0 [3, 32, 38] law24_PackLists.pA l.1) : (law24_PackLists.t l.1.1 l.1.2.1 l.1.2.2.1.1 l.1.2.2.1.2.1 l.1.2.2.1.2.2.1).run = some true := by
  obtain ⟨⟨_, h1⟩, ⟨_, h2, h3⟩, ⟨⟨_, h7⟩, ⟨⟨_, h8⟩, h9, _⟩, _⟩, _⟩ := h
  exact Pure.PackLists _ _ _ _ _ h1 h2 (fun x3 hx => by obtain ⟨⟨_, h4⟩, ⟨⟨_, h5⟩, h6, _⟩, _⟩ := h3 x3 hx; exact ⟨h4, h5, h6⟩) h7 h8 h9
set_option maxRecDepth 100000 in
theorem lifted (os : Os) (started : os.Started) (H : Type) (enc : TypeId × Value → H) :
    ReturnsInHanded {} Try.checked os 5 .any (Rows.packListsSpec.pre6 enc Try.prog Try.f5 Rows.packListsRow.domain false) (Rows.packListsSpec.post enc Try.prog Try.f5 false true false false) :=
  law_lifted (C := Try.checked) (E := E0) (E' := law24_PackLists.E) (ct := ct) (p := law24_PackLists.pA) (ts := [3, 32, 38]) (tb := 4) (ms := []) (t := fun (l : law24_PackLists.TA) => law24_PackLists.t l.1.1 l.1.2.1 l.1.2.2.1.1 l.1.2.2.1.2.1 l.1.2.2.1.2.2.1) (v := law24_PackLists.v) (hh := law24_PackLists.hh)
    own started (by kernel_rfl) Try.func5 (ChangeSpec.witness6 (enc := enc) (C := Try.checked) false ⟨#[], #[.int .i64 0, .slice none 0 0, .agg #[.int .i64 0, .int .u32 0, .string ByteArray.empty]], []⟩ 8 (by kernel_rfl) (by kernel_rfl) (by kernel_rfl) (by kernel_rfl))
    laidOut (by kernel_rfl) (by kernel_rfl) Try.underlying4 rfl (fun ds h => by match ds, h with | [_, _, _], _ => rfl) (by kernel_rfl) E0_ok full_ok rfl (by kernel_rfl) (by kernel_rfl) law24_PackLists.okF law24_PackLists.hk (fun _ => rfl) plain
theorem over : Rows.packListsRow.holds Try.pinned (OpenSpec.ofChange Rows.packListsSpec) :=
  OpenClaim.holds_of_wide 5 Try.f5 rfl rfl rfl rfl rfl rfl rfl ⟨rfl, rfl, rfl, rfl, rfl⟩ rfl rfl rfl rfl rfl (by kernel_rfl) Try.func5 (Kn.closed_of (by kernel_rfl))
    (of_decide_eq_true (by kernel_rfl)) (by unfold Func.isWrapper; first | (rw [if_pos (by decide +kernel)]; kernel_rfl) | (rw [if_neg (by decide +kernel)]; exact ⟨rfl, rfl⟩))
    (fun os started H enc _ => lifted os started H enc)
end Go.Proofs.Ytmlbioapefgioaa.packLists
namespace Go.Proofs.Ytmlbioapefgioaa
/-- The row, under a short name, for the claim. -/
theorem packLists_holds : Rows.PackListsSaid := packLists.over
#print axioms packLists_holds
end Go.Proofs.Ytmlbioapefgioaa
