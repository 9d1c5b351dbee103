/- The law instar/instarlaw28.StorePlays: whatever the arguments, it returns true, never panics, and its arguments read behind the call as before. -/
import Derived.Test.YtmlbioapefgioaaRows
import Derived.Test.YtmlbioapefgioaaFlaw28StorePlays
import Derived.Test.YtmlbioapefgioaaVd
import Derived.Test.YtmlbioapefgioaaKn
import Derived.Test.YtmlbioapefgioaaStorePlays
set_option linter.unusedVariables false
namespace Go.Proofs.Ytmlbioapefgioaa.storePlays
open Go Go.Proofs.Ytmlbioapefgioaa.Va
open Go.ChangeShapes Go.WideShapes Go.ChangeAt Go.RowKit
theorem own : ownKnob Try.prog.godebug = none := by kernel_rfl
theorem laidOut : laidOutB Try.prog = true := by kernel_rfl
theorem plain (l : law28_StorePlays.TA) (h : wfA E0 [86, 87] law28_StorePlays.pA l.1) : (law28_StorePlays.t l.1.1.1 l.1.1.2.1 l.1.2.1).run = some true := by
  obtain ⟨⟨⟨_, h1⟩, ⟨_, h2, h3⟩, _⟩, ⟨_, h12, h13⟩, _⟩ := h
  exact Pure.StorePlays _ _ _ h1 h2 (fun x3 hx => by obtain ⟨⟨_, h4⟩, ⟨_, h5, h6⟩, _⟩ := h3 x3 hx; exact ⟨h4, h5, (fun x6 hx => by obtain ⟨⟨_, h7⟩, ⟨_, h8⟩, ⟨_, h9⟩, ⟨_, h10⟩, ⟨_, h11⟩, _⟩ := h6 x6 hx; exact ⟨h7, h8, h9, h10, h11⟩)⟩) h12 (fun x13 hx => by obtain ⟨⟨_, h14⟩, ⟨_, h15⟩, ⟨⟨_, h16⟩, ⟨_, h17, h18⟩, _⟩, _⟩ := h13 x13 hx; exact ⟨h14, h15, h16, h17, (fun x18 hx => by obtain ⟨⟨_, h19⟩, h20, _⟩ := h18 x18 hx; exact ⟨h19, h20⟩)⟩)
set_option maxRecDepth 100000 in
theorem lifted (os : Os) (started : os.Started) (H : Type) (enc : TypeId × Value → H) :
    ReturnsInHanded {} Try.checked os 9 .any (Rows.storePlaysSpec.pre6 enc Try.prog Try.f9 Rows.storePlaysRow.domain false) (Rows.storePlaysSpec.post enc Try.prog Try.f9 false true false false) :=
  law_lifted (C := Try.checked) (E := E0) (E' := law28_StorePlays.E) (ct := ct) (p := law28_StorePlays.pA) (ts := [86, 87]) (tb := 4) (ms := []) (t := fun (l : law28_StorePlays.TA) => law28_StorePlays.t l.1.1.1 l.1.1.2.1 l.1.2.1) (v := law28_StorePlays.v) (hh := law28_StorePlays.hh)
    own started (by kernel_rfl) Try.func9 (ChangeSpec.witness6 (enc := enc) (C := Try.checked) false ⟨#[], #[.agg #[.int .i64 0, .slice none 0 0], .slice none 0 0], []⟩ 8 (by kernel_rfl) (by kernel_rfl) (by kernel_rfl) (by kernel_rfl))
    laidOut (by kernel_rfl) (by kernel_rfl) Try.underlying4 rfl (fun ds h => by match ds, h with | [_, _], _ => rfl) (by kernel_rfl) E0_ok full_ok rfl (by kernel_rfl) (by kernel_rfl) law28_StorePlays.okF law28_StorePlays.hk (fun _ => rfl) plain
theorem over : Rows.storePlaysRow.holds Try.pinned (OpenSpec.ofChange Rows.storePlaysSpec) :=
  OpenClaim.holds_of_wide 9 Try.f9 rfl rfl rfl rfl rfl rfl rfl ⟨rfl, rfl, rfl, rfl, rfl⟩ rfl rfl rfl rfl rfl (by kernel_rfl) Try.func9 (Kn.closed_of (by kernel_rfl))
    (of_decide_eq_true (by kernel_rfl)) (by unfold Func.isWrapper; first | (rw [if_pos (by decide +kernel)]; kernel_rfl) | (rw [if_neg (by decide +kernel)]; exact ⟨rfl, rfl⟩))
    (fun os started H enc _ => lifted os started H enc)
end Go.Proofs.Ytmlbioapefgioaa.storePlays
namespace Go.Proofs.Ytmlbioapefgioaa
/-- The row, under a short name, for the claim. -/
theorem storePlays_holds : Rows.StorePlaysSaid := storePlays.over
#print axioms storePlays_holds
end Go.Proofs.Ytmlbioapefgioaa
