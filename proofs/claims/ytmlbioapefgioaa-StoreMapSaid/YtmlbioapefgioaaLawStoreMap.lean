/- The law instar/instarlaw28.StoreMap: whatever the arguments, it returns true, never panics, and its arguments read behind the call as before. -/
import Derived.Test.YtmlbioapefgioaaRows
import Derived.Test.YtmlbioapefgioaaFlaw28StoreMap
import Derived.Test.YtmlbioapefgioaaVd
import Derived.Test.YtmlbioapefgioaaKn
import Derived.Test.YtmlbioapefgioaaStoreMap
set_option linter.unusedVariables false
namespace Go.Proofs.Ytmlbioapefgioaa.storeMap
open Go Go.Proofs.Ytmlbioapefgioaa.Va
open Go.ChangeShapes Go.WideShapes Go.ChangeAt Go.RowKit
theorem own : ownKnob Try.prog.godebug = none := by kernel_rfl
theorem laidOut : laidOutB Try.prog = true := by kernel_rfl
theorem plain (l : law28_StoreMap.TA) (h : wfA E0 [86, 87, 92] law28_StoreMap.pA l.1) : (law28_StoreMap.t l.1.1.1 l.1.1.2.1 l.1.2.1 l.1.2.2.1.1 l.1.2.2.1.2.1 l.1.2.2.1.2.2.1 l.1.2.2.1.2.2.2.1).run = some true := by
  obtain ⟨⟨⟨_, h1⟩, ⟨_, h2, h3⟩, _⟩, ⟨_, h12, h13⟩, ⟨⟨_, h21⟩, ⟨_, h22⟩, ⟨⟨_, h23⟩, ⟨_, h24, h25⟩, _⟩, _⟩, _⟩ := h
  exact Pure.StoreMap _ _ _ _ _ _ _ h1 h2 (fun x3 hx => by obtain ⟨⟨_, h4⟩, ⟨_, h5, h6⟩, _⟩ := h3 x3 hx; exact ⟨h4, h5, (fun x6 hx => by obtain ⟨⟨_, h7⟩, ⟨_, h8⟩, ⟨_, h9⟩, ⟨_, h10⟩, ⟨_, h11⟩, _⟩ := h6 x6 hx; exact ⟨h7, h8, h9, h10, h11⟩)⟩) h12 (fun x13 hx => by obtain ⟨⟨_, h14⟩, ⟨_, h15⟩, ⟨⟨_, h16⟩, ⟨_, h17, h18⟩, _⟩, _⟩ := h13 x13 hx; exact ⟨h14, h15, h16, h17, (fun x18 hx => by obtain ⟨⟨_, h19⟩, h20, _⟩ := h18 x18 hx; exact ⟨h19, h20⟩)⟩) h21 h22 h23 h24 (fun x25 hx => by obtain ⟨⟨_, h26⟩, h27, _⟩ := h25 x25 hx; exact ⟨h26, h27⟩)
set_option maxRecDepth 100000 in
theorem lifted (os : Os) (started : os.Started) (H : Type) (enc : TypeId × Value → H) :
    ReturnsInHanded {} Try.checked os 8 .any (Rows.storeMapSpec.pre6 enc Try.prog Try.f8 Rows.storeMapRow.domain false) (Rows.storeMapSpec.post enc Try.prog Try.f8 false true false false) :=
  law_lifted (C := Try.checked) (E := E0) (E' := law28_StoreMap.E) (ct := ct) (p := law28_StoreMap.pA) (ts := [86, 87, 92]) (tb := 4) (ms := []) (t := fun (l : law28_StoreMap.TA) => law28_StoreMap.t l.1.1.1 l.1.1.2.1 l.1.2.1 l.1.2.2.1.1 l.1.2.2.1.2.1 l.1.2.2.1.2.2.1 l.1.2.2.1.2.2.2.1) (v := law28_StoreMap.v) (hh := law28_StoreMap.hh)
    own started (by kernel_rfl) Try.func8 (ChangeSpec.witness6 (enc := enc) (C := Try.checked) false ⟨#[], #[.agg #[.int .i64 0, .slice none 0 0], .slice none 0 0, .agg #[.int .i64 0, .int .i64 0, .int .i64 0, .slice none 0 0]], []⟩ 8 (by kernel_rfl) (by kernel_rfl) (by kernel_rfl) (by kernel_rfl))
    laidOut (by kernel_rfl) (by kernel_rfl) Try.underlying4 rfl (fun ds h => by match ds, h with | [_, _, _], _ => rfl) (by kernel_rfl) E0_ok full_ok rfl (by kernel_rfl) (by kernel_rfl) law28_StoreMap.okF law28_StoreMap.hk (fun _ => rfl) plain
theorem over : Rows.storeMapRow.holds Try.pinned (OpenSpec.ofChange Rows.storeMapSpec) :=
  OpenClaim.holds_of_wide 8 Try.f8 rfl rfl rfl rfl rfl rfl rfl ⟨rfl, rfl, rfl, rfl, rfl⟩ rfl rfl rfl rfl rfl (by kernel_rfl) Try.func8 (Kn.closed_of (by kernel_rfl))
    (of_decide_eq_true (by kernel_rfl)) (by unfold Func.isWrapper; first | (rw [if_pos (by decide +kernel)]; kernel_rfl) | (rw [if_neg (by decide +kernel)]; exact ⟨rfl, rfl⟩))
    (fun os started H enc _ => lifted os started H enc)
end Go.Proofs.Ytmlbioapefgioaa.storeMap
namespace Go.Proofs.Ytmlbioapefgioaa
/-- The row, under a short name, for the claim. -/
theorem storeMap_holds : Rows.StoreMapSaid := storeMap.over
#print axioms storeMap_holds
end Go.Proofs.Ytmlbioapefgioaa
