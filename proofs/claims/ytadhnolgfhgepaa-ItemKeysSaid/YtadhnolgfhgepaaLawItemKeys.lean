/- The law instar/instarlaw18.ItemKeys: whatever the arguments, it returns true, never panics, and its arguments read behind the call as before. -/
import Derived.Test.YtadhnolgfhgepaaRows
import Derived.Test.YtadhnolgfhgepaaFlaw18
import Derived.Test.YtadhnolgfhgepaaVd
import Derived.Test.YtadhnolgfhgepaaItemKeys
namespace Go.Proofs.Ytadhnolgfhgepaa.itemKeys
open Go Go.Proofs.Ytadhnolgfhgepaa.Va
open Go.ChangeShapes Go.WideShapes Go.ChangeAt Go.RowKit
set_option linter.unusedVariables false
theorem own : ownKnob Try.prog.godebug = none := by kernel_rfl
theorem laidOut : laidOutB Try.prog = true := by kernel_rfl
theorem plain (l : law18_ItemKeys.TA) (h : wfA E0 [43, 22] law18_ItemKeys.pA l.1) : (law18_ItemKeys.t l.1.1.1 l.1.1.2.1 l.1.1.2.2.1 l.1.2.1).run = some true := by
  obtain ⟨⟨⟨_, h1⟩, ⟨_, h2⟩, ⟨_, h3⟩, _⟩, ⟨_, h4⟩, _⟩ := h
  exact Pure.ItemKeys _ _ _ _ h1 h2 h3 h4
set_option maxRecDepth 100000 in
theorem lifted (os : Os) (started : os.Started) (H : Type) (enc : TypeId × Value → H) :
    ReturnsInHanded {} Try.checked os 9 .any (Rows.itemKeysSpec.pre6 enc Try.prog Try.f9 Rows.itemKeysRow.domain false) (Rows.itemKeysSpec.post enc Try.prog Try.f9 false true false false) :=
  law_lifted (C := Try.checked) (E := E0) (E' := law18_ItemKeys.E) (ct := ct) (p := law18_ItemKeys.pA) (ts := [43, 22]) (tb := 4) (ms := []) (t := fun (l : law18_ItemKeys.TA) => law18_ItemKeys.t l.1.1.1 l.1.1.2.1 l.1.1.2.2.1 l.1.2.1) (v := law18_ItemKeys.v) (hh := law18_ItemKeys.hh)
    own started (by kernel_rfl) Try.func9 (ChangeSpec.witness6 (enc := enc) (C := Try.checked) false ⟨#[], #[.agg #[.int .i64 0, .int .i64 0, .int .i64 0], .int .u32 0], []⟩ 8 (by kernel_rfl) (by kernel_rfl) (by kernel_rfl) (by kernel_rfl))
    laidOut (by kernel_rfl) (by kernel_rfl) Try.underlying4 rfl (fun ds h => by match ds, h with | [_, _], _ => rfl) (by kernel_rfl) E0_ok full_ok rfl (by kernel_rfl) (by kernel_rfl) law18_ItemKeys.okF law18_ItemKeys.hk (fun _ => rfl) plain
theorem over : Rows.itemKeysRow.holds Try.pinned (OpenSpec.ofChange Rows.itemKeysSpec) :=
  OpenClaim.holds_of_wide 9 Try.f9 rfl rfl rfl rfl rfl rfl rfl ⟨rfl, rfl, rfl, rfl, rfl⟩ rfl rfl rfl rfl rfl (by kernel_rfl) Try.func9 (by kernel_rfl)
    (of_decide_eq_true (by kernel_rfl)) (by unfold Func.isWrapper; first | (rw [if_pos (by decide +kernel)]; kernel_rfl) | (rw [if_neg (by decide +kernel)]; exact ⟨rfl, rfl⟩))
    (fun os started H enc _ => lifted os started H enc)
end Go.Proofs.Ytadhnolgfhgepaa.itemKeys
namespace Go.Proofs.Ytadhnolgfhgepaa
/-- The row, under a short name, for the claim. -/
theorem itemKeys_holds : Rows.ItemKeysSaid := itemKeys.over
#print axioms itemKeys_holds
end Go.Proofs.Ytadhnolgfhgepaa
