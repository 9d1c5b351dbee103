/- The law instar/instarlaw02.ZerosSums: whatever the arguments, it returns true, never panics, and its arguments read behind the call as before. -/
import Derived.Test.YtadhnolgfhgepaaRows
import Derived.Test.YtadhnolgfhgepaaFlaw02
import Derived.Test.YtadhnolgfhgepaaVd
import Derived.Test.YtadhnolgfhgepaaZerosSums
namespace Go.Proofs.Ytadhnolgfhgepaa.zerosSums
open Go Go.Proofs.Ytadhnolgfhgepaa.Va
open Go.ChangeShapes Go.WideShapes Go.ChangeAt Go.RowKit
set_option linter.unusedVariables false
theorem own : ownKnob Try.prog.godebug = none := by kernel_rfl
theorem laidOut : laidOutB Try.prog = true := by kernel_rfl
theorem plain (l : law02_ZerosSums.TA) (h : wfA E0 [30] law02_ZerosSums.pA l.1) : (law02_ZerosSums.t l.1.1).run = some true := by
  obtain ⟨⟨_, h1, h2⟩, _⟩ := h
  exact Pure.ZerosSums _ h1 (fun x2 hx => by obtain ⟨_, h3⟩ := h2 x2 hx; exact h3)
set_option maxRecDepth 100000 in
theorem lifted (os : Os) (started : os.Started) (H : Type) (enc : TypeId × Value → H) :
    ReturnsInHanded {} Try.checked os 5 .any (Rows.zerosSumsSpec.pre6 enc Try.prog Try.f5 Rows.zerosSumsRow.domain false) (Rows.zerosSumsSpec.post enc Try.prog Try.f5 false true false false) :=
  law_lifted (C := Try.checked) (E := E0) (E' := law02_ZerosSums.E) (ct := ct) (p := law02_ZerosSums.pA) (ts := [30]) (tb := 4) (ms := []) (t := fun (l : law02_ZerosSums.TA) => law02_ZerosSums.t l.1.1) (v := law02_ZerosSums.v) (hh := law02_ZerosSums.hh)
    own started (by kernel_rfl) Try.func5 (ChangeSpec.witness6 (enc := enc) (C := Try.checked) false ⟨#[], #[.slice none 0 0], []⟩ 8 (by kernel_rfl) (by kernel_rfl) (by kernel_rfl) (by kernel_rfl))
    laidOut (by kernel_rfl) (by kernel_rfl) Try.underlying4 rfl (fun ds h => by match ds, h with | [_], _ => rfl) (by kernel_rfl) E0_ok full_ok rfl (by kernel_rfl) (by kernel_rfl) law02_ZerosSums.okF law02_ZerosSums.hk (fun _ => rfl) plain
theorem over : Rows.zerosSumsRow.holds Try.pinned (OpenSpec.ofChange Rows.zerosSumsSpec) :=
  OpenClaim.holds_of_wide 5 Try.f5 rfl rfl rfl rfl rfl rfl rfl ⟨rfl, rfl, rfl, rfl, rfl⟩ rfl rfl rfl rfl rfl (by kernel_rfl) Try.func5 (by kernel_rfl)
    (of_decide_eq_true (by kernel_rfl)) (by unfold Func.isWrapper; first | (rw [if_pos (by decide +kernel)]; kernel_rfl) | (rw [if_neg (by decide +kernel)]; exact ⟨rfl, rfl⟩))
    (fun os started H enc _ => lifted os started H enc)
end Go.Proofs.Ytadhnolgfhgepaa.zerosSums
namespace Go.Proofs.Ytadhnolgfhgepaa
/-- The row, under a short name, for the claim. -/
theorem zerosSums_holds : Rows.ZerosSumsSaid := zerosSums.over
#print axioms zerosSums_holds
end Go.Proofs.Ytadhnolgfhgepaa
