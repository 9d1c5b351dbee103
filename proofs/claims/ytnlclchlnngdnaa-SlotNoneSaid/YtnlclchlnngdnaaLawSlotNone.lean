/- The law instar/instarlaw32.SlotNone: whatever the arguments, it returns true, never panics, and its arguments read behind the call as before. -/
import Derived.Test.YtnlclchlnngdnaaRows
import Derived.Test.YtnlclchlnngdnaaFlaw32SlotNone
import Derived.Test.YtnlclchlnngdnaaVd
import Derived.Test.YtnlclchlnngdnaaKn
import Derived.Test.YtnlclchlnngdnaaSlotNone
namespace Go.Proofs.Ytnlclchlnngdnaa.slotNone
open Go Go.Proofs.Ytnlclchlnngdnaa.Va
open Go.ChangeShapes Go.WideShapes Go.ChangeAt Go.RowKit
set_option linter.unusedVariables false
theorem own : ownKnob Try.prog.godebug = none := by kernel_rfl
theorem laidOut : laidOutB Try.prog = true := by kernel_rfl
theorem plain (l : law32_SlotNone.TA) (h : wfA E0 [26, 40] law32_SlotNone.pA l.1) : (law32_SlotNone.t l.1.1.1 l.1.1.2.1 l.1.1.2.2.1 l.1.1.2.2.2.1 l.1.1.2.2.2.2.1 l.1.1.2.2.2.2.2.1 l.1.1.2.2.2.2.2.2.1 l.1.1.2.2.2.2.2.2.2.1 l.1.2.1.1 l.1.2.1.2.1 l.1.2.1.2.2.1 l.1.2.1.2.2.2.1 l.1.2.1.2.2.2.2.1).run = some true := by
  obtain ⟨⟨⟨⟨_, h1⟩, ⟨_, h2⟩, ⟨_, h3⟩, ⟨_, h4⟩, ⟨_, h5⟩, ⟨_, h6⟩, _⟩, ⟨_, h7⟩, ⟨_, h8, h9⟩, _⟩, ⟨⟨_, h19⟩, ⟨_, h20⟩, ⟨_, h21⟩, ⟨_, h22, h23⟩, ⟨_, h25, h26⟩, _⟩, _⟩ := h
  exact Pure.SlotNone _ _ _ _ _ _ _ _ _ _ _ _ _ h1 h2 h3 h4 h5 h6 h7 h8 (fun x9 hx => by obtain ⟨⟨_, h10⟩, ⟨_, h11⟩, ⟨_, h12⟩, ⟨_, h13, h14⟩, ⟨_, h16, h17⟩, _⟩ := h9 x9 hx; exact ⟨h10, h11, h12, h13, (fun x14 hx => by obtain ⟨_, h15⟩ := h14 x14 hx; exact h15), h16, (fun x17 hx => by obtain ⟨_, h18⟩ := h17 x17 hx; exact h18)⟩) h19 h20 h21 h22 (fun x23 hx => by obtain ⟨_, h24⟩ := h23 x23 hx; exact h24) h25 (fun x26 hx => by obtain ⟨_, h27⟩ := h26 x26 hx; exact h27)
set_option maxRecDepth 100000 in
theorem lifted (os : Os) (started : os.Started) (H : Type) (enc : TypeId × Value → H) :
    ReturnsInHanded {} Try.checked os 5 .any (Rows.slotNoneSpec.pre6 enc Try.prog Try.f5 Rows.slotNoneRow.domain false) (Rows.slotNoneSpec.post enc Try.prog Try.f5 false true false false) :=
  law_lifted (C := Try.checked) (E := E0) (E' := law32_SlotNone.E) (ct := ct) (p := law32_SlotNone.pA) (ts := [26, 40]) (tb := 4) (ms := []) (t := fun (l : law32_SlotNone.TA) => law32_SlotNone.t l.1.1.1 l.1.1.2.1 l.1.1.2.2.1 l.1.1.2.2.2.1 l.1.1.2.2.2.2.1 l.1.1.2.2.2.2.2.1 l.1.1.2.2.2.2.2.2.1 l.1.1.2.2.2.2.2.2.2.1 l.1.2.1.1 l.1.2.1.2.1 l.1.2.1.2.2.1 l.1.2.1.2.2.2.1 l.1.2.1.2.2.2.2.1) (v := law32_SlotNone.v) (hh := law32_SlotNone.hh)
    own started (by kernel_rfl) Try.func5 (ChangeSpec.witness6 (enc := enc) (C := Try.checked) false ⟨#[], #[.agg #[.int .i64 0, .int .i64 0, .int .i64 0, .int .i64 0, .int .i64 0, .int .i64 0, .int .i64 0, .slice none 0 0], .agg #[.int .i64 0, .int .i64 0, .int .i64 0, .slice none 0 0, .slice none 0 0]], []⟩ 8 (by kernel_rfl) (by kernel_rfl) (by kernel_rfl) (by kernel_rfl))
    laidOut (by kernel_rfl) (by kernel_rfl) Try.underlying4 rfl (fun ds h => by match ds, h with | [_, _], _ => rfl) (by kernel_rfl) E0_ok full_ok rfl (by kernel_rfl) (by kernel_rfl) law32_SlotNone.okF law32_SlotNone.hk (fun _ => rfl) plain
theorem over : Rows.slotNoneRow.holds Try.pinned (OpenSpec.ofChange Rows.slotNoneSpec) :=
  OpenClaim.holds_of_wide 5 Try.f5 rfl rfl rfl rfl rfl rfl rfl ⟨rfl, rfl, rfl, rfl, rfl⟩ rfl rfl rfl rfl rfl (by kernel_rfl) Try.func5 (Kn.closed_of (by kernel_rfl))
    (of_decide_eq_true (by kernel_rfl)) (by unfold Func.isWrapper; first | (rw [if_pos (by decide +kernel)]; kernel_rfl) | (rw [if_neg (by decide +kernel)]; exact ⟨rfl, rfl⟩))
    (fun os started H enc _ => lifted os started H enc)
end Go.Proofs.Ytnlclchlnngdnaa.slotNone
namespace Go.Proofs.Ytnlclchlnngdnaa
/-- The row, under a short name, for the claim. -/
theorem slotNone_holds : Rows.SlotNoneSaid := slotNone.over
#print axioms slotNone_holds
end Go.Proofs.Ytnlclchlnngdnaa
