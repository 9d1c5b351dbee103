/- The law instar/instarlaw18.ItemByKey: whatever the arguments, it returns true, never panics, and its arguments read behind the call as before. -/
import Derived.Test.YtadhnolgfhgepaaRows
import Derived.Test.YtadhnolgfhgepaaFlaw18
import Derived.Test.YtadhnolgfhgepaaVd
import Derived.Test.YtadhnolgfhgepaaItemByKey
namespace Go.Proofs.Ytadhnolgfhgepaa.itemByKey
open Go Go.Proofs.Ytadhnolgfhgepaa.Va
open Go.ChangeShapes Go.WideShapes Go.ChangeAt Go.RowKit
set_option linter.unusedVariables false
theorem own : ownKnob Try.prog.godebug = none := by kernel_rfl
theorem laidOut : laidOutB Try.prog = true := by kernel_rfl
theorem plain (l : law18_ItemByKey.TA) (h : wfA E0 [61, 63, 22] law18_ItemByKey.pA l.1) : (law18_ItemByKey.t l.1.1 l.1.2.1.1 l.1.2.1.2.1 l.1.2.2.1).run = some true := by
  obtain ⟨⟨_, h1, h2⟩, ⟨⟨_, h5⟩, h6, _⟩, ⟨_, h7⟩, _⟩ := h
  exact Pure.ItemByKey _ _ _ _ h1 (fun x2 hx => by obtain ⟨⟨_, h3⟩, h4, _⟩ := h2 x2 hx; exact ⟨h3, h4⟩) h5 h6 h7
set_option maxRecDepth 100000 in
theorem lifted (os : Os) (started : os.Started) (H : Type) (enc : TypeId × Value → H) :
    ReturnsInHanded {} Try.checked os 12 .any (Rows.itemByKeySpec.pre6 enc Try.prog Try.f12 Rows.itemByKeyRow.domain false) (Rows.itemByKeySpec.post enc Try.prog Try.f12 false true false false) :=
  law_lifted (C := Try.checked) (E := E0) (E' := law18_ItemByKey.E) (ct := ct) (p := law18_ItemByKey.pA) (ts := [61, 63, 22]) (tb := 4) (ms := []) (t := fun (l : law18_ItemByKey.TA) => law18_ItemByKey.t l.1.1 l.1.2.1.1 l.1.2.1.2.1 l.1.2.2.1) (v := law18_ItemByKey.v) (hh := law18_ItemByKey.hh)
    own started (by kernel_rfl) Try.func12 (ChangeSpec.witness6 (enc := enc) (C := Try.checked) false ⟨#[], #[.slice none 0 0, .agg #[.int .u32 0, .string ByteArray.empty], .int .u32 0], []⟩ 8 (by kernel_rfl) (by kernel_rfl) (by kernel_rfl) (by kernel_rfl))
    laidOut (by kernel_rfl) (by kernel_rfl) Try.underlying4 rfl (fun ds h => by match ds, h with | [_, _, _], _ => rfl) (by kernel_rfl) E0_ok full_ok rfl (by kernel_rfl) (by kernel_rfl) law18_ItemByKey.okF law18_ItemByKey.hk (fun _ => rfl) plain
theorem over : Rows.itemByKeyRow.holds Try.pinned (OpenSpec.ofChange Rows.itemByKeySpec) :=
  OpenClaim.holds_of_wide 12 Try.f12 rfl rfl rfl rfl rfl rfl rfl ⟨rfl, rfl, rfl, rfl, rfl⟩ rfl rfl rfl rfl rfl (by kernel_rfl) Try.func12 (by kernel_rfl)
    (of_decide_eq_true (by kernel_rfl)) (by unfold Func.isWrapper; first | (rw [if_pos (by decide +kernel)]; kernel_rfl) | (rw [if_neg (by decide +kernel)]; exact ⟨rfl, rfl⟩))
    (fun os started H enc _ => lifted os started H enc)
end Go.Proofs.Ytadhnolgfhgepaa.itemByKey
namespace Go.Proofs.Ytadhnolgfhgepaa
/-- The row, under a short name, for the claim. -/
theorem itemByKey_holds : Rows.ItemByKeySaid := itemByKey.over
#print axioms itemByKey_holds
end Go.Proofs.Ytadhnolgfhgepaa
