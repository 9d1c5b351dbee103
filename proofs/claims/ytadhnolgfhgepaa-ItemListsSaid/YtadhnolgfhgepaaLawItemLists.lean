/- The law instar/instarlaw18.ItemLists: whatever the arguments, it returns true, never panics, and its arguments read behind the call as before. -/
import Derived.Test.YtadhnolgfhgepaaRows
import Derived.Test.YtadhnolgfhgepaaFlaw18
import Derived.Test.YtadhnolgfhgepaaVd
import Derived.Test.YtadhnolgfhgepaaItemLists
namespace Go.Proofs.Ytadhnolgfhgepaa.itemLists
open Go Go.Proofs.Ytadhnolgfhgepaa.Va
open Go.ChangeShapes Go.WideShapes Go.ChangeAt Go.RowKit
set_option linter.unusedVariables false
theorem own : ownKnob Try.prog.godebug = none := by kernel_rfl
theorem laidOut : laidOutB Try.prog = true := by kernel_rfl
theorem plain (l : law18_ItemLists.TA) (h : wfA E0 [61, 61, 63] law18_ItemLists.pA l.1) : (law18_ItemLists.t l.1.1 l.1.2.1 l.1.2.2.1.1 l.1.2.2.1.2.1).run = some true := by
  obtain ⟨⟨_, h1, h2⟩, ⟨_, h5, h6⟩, ⟨⟨_, h9⟩, h10, _⟩, _⟩ := h
  exact Pure.ItemLists _ _ _ _ h1 (fun x2 hx => by obtain ⟨⟨_, h3⟩, h4, _⟩ := h2 x2 hx; exact ⟨h3, h4⟩) h5 (fun x6 hx => by obtain ⟨⟨_, h7⟩, h8, _⟩ := h6 x6 hx; exact ⟨h7, h8⟩) h9 h10
set_option maxRecDepth 100000 in
theorem lifted (os : Os) (started : os.Started) (H : Type) (enc : TypeId × Value → H) :
    ReturnsInHanded {} Try.checked os 14 .any (Rows.itemListsSpec.pre6 enc Try.prog Try.f14 Rows.itemListsRow.domain false) (Rows.itemListsSpec.post enc Try.prog Try.f14 false true false false) :=
  law_lifted (C := Try.checked) (E := E0) (E' := law18_ItemLists.E) (ct := ct) (p := law18_ItemLists.pA) (ts := [61, 61, 63]) (tb := 4) (ms := []) (t := fun (l : law18_ItemLists.TA) => law18_ItemLists.t l.1.1 l.1.2.1 l.1.2.2.1.1 l.1.2.2.1.2.1) (v := law18_ItemLists.v) (hh := law18_ItemLists.hh)
    own started (by kernel_rfl) Try.func14 (ChangeSpec.witness6 (enc := enc) (C := Try.checked) false ⟨#[], #[.slice none 0 0, .slice none 0 0, .agg #[.int .u32 0, .string ByteArray.empty]], []⟩ 8 (by kernel_rfl) (by kernel_rfl) (by kernel_rfl) (by kernel_rfl))
    laidOut (by kernel_rfl) (by kernel_rfl) Try.underlying4 rfl (fun ds h => by match ds, h with | [_, _, _], _ => rfl) (by kernel_rfl) E0_ok full_ok rfl (by kernel_rfl) (by kernel_rfl) law18_ItemLists.okF law18_ItemLists.hk (fun _ => rfl) plain
theorem over : Rows.itemListsRow.holds Try.pinned (OpenSpec.ofChange Rows.itemListsSpec) :=
  OpenClaim.holds_of_wide 14 Try.f14 rfl rfl rfl rfl rfl rfl rfl ⟨rfl, rfl, rfl, rfl, rfl⟩ rfl rfl rfl rfl rfl (by kernel_rfl) Try.func14 (by kernel_rfl)
    (of_decide_eq_true (by kernel_rfl)) (by unfold Func.isWrapper; first | (rw [if_pos (by decide +kernel)]; kernel_rfl) | (rw [if_neg (by decide +kernel)]; exact ⟨rfl, rfl⟩))
    (fun os started H enc _ => lifted os started H enc)
end Go.Proofs.Ytadhnolgfhgepaa.itemLists
namespace Go.Proofs.Ytadhnolgfhgepaa
/-- The row, under a short name, for the claim. -/
theorem itemLists_holds : Rows.ItemListsSaid := itemLists.over
#print axioms itemLists_holds
end Go.Proofs.Ytadhnolgfhgepaa
