/- The law instar/instarlaw02.ZerosOne: whatever the arguments, it returns true, never panics, and its arguments read behind the call as before. -/
import Derived.Test.YtadhnolgfhgepaaRows
import Derived.Test.YtadhnolgfhgepaaFlaw02
import Derived.Test.YtadhnolgfhgepaaVd
import Derived.Test.YtadhnolgfhgepaaZerosOne
namespace Go.Proofs.Ytadhnolgfhgepaa.zerosOne
open Go Go.Proofs.Ytadhnolgfhgepaa.Va
open Go.ChangeShapes Go.WideShapes Go.ChangeAt Go.RowKit
set_option linter.unusedVariables false
theorem own : ownKnob Try.prog.godebug = none := by kernel_rfl
theorem laidOut : laidOutB Try.prog = true := by kernel_rfl
theorem plain (l : law02_ZerosOne.TA) (h : wfA E0 [3, 22] law02_ZerosOne.pA l.1) : (law02_ZerosOne.t l.1.1 l.1.2.1).run = some true := by
  obtain ⟨⟨_, h1⟩, ⟨_, h2⟩, _⟩ := h
  exact Pure.ZerosOne _ _ h1 h2
set_option maxRecDepth 100000 in
theorem lifted (os : Os) (started : os.Started) (H : Type) (enc : TypeId × Value → H) :
    ReturnsInHanded {} Try.checked os 8 .any (Rows.zerosOneSpec.pre6 enc Try.prog Try.f8 Rows.zerosOneRow.domain false) (Rows.zerosOneSpec.post enc Try.prog Try.f8 false true false false) :=
  law_lifted (C := Try.checked) (E := E0) (E' := law02_ZerosOne.E) (ct := ct) (p := law02_ZerosOne.pA) (ts := [3, 22]) (tb := 4) (ms := []) (t := fun (l : law02_ZerosOne.TA) => law02_ZerosOne.t l.1.1 l.1.2.1) (v := law02_ZerosOne.v) (hh := law02_ZerosOne.hh)
    own started (by kernel_rfl) Try.func8 (ChangeSpec.witness6 (enc := enc) (C := Try.checked) false ⟨#[], #[.int .i64 0, .int .u32 0], []⟩ 8 (by kernel_rfl) (by kernel_rfl) (by kernel_rfl) (by kernel_rfl))
    laidOut (by kernel_rfl) (by kernel_rfl) Try.underlying4 rfl (fun ds h => by match ds, h with | [_, _], _ => rfl) (by kernel_rfl) E0_ok full_ok rfl (by kernel_rfl) (by kernel_rfl) law02_ZerosOne.okF law02_ZerosOne.hk (fun _ => rfl) plain
theorem over : Rows.zerosOneRow.holds Try.pinned (OpenSpec.ofChange Rows.zerosOneSpec) :=
  OpenClaim.holds_of_wide 8 Try.f8 rfl rfl rfl rfl rfl rfl rfl ⟨rfl, rfl, rfl, rfl, rfl⟩ rfl rfl rfl rfl rfl (by kernel_rfl) Try.func8 (by kernel_rfl)
    (of_decide_eq_true (by kernel_rfl)) (by unfold Func.isWrapper; first | (rw [if_pos (by decide +kernel)]; kernel_rfl) | (rw [if_neg (by decide +kernel)]; exact ⟨rfl, rfl⟩))
    (fun os started H enc _ => lifted os started H enc)
end Go.Proofs.Ytadhnolgfhgepaa.zerosOne
namespace Go.Proofs.Ytadhnolgfhgepaa
/-- The row, under a short name, for the claim. -/
theorem zerosOne_holds : Rows.ZerosOneSaid := zerosOne.over
#print axioms zerosOne_holds
end Go.Proofs.Ytadhnolgfhgepaa
