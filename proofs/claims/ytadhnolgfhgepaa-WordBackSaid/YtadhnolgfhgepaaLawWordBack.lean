/- The law instar/instarlaw01.WordBack: whatever the arguments, it returns true, never panics, and its arguments read behind the call as before. -/
import Derived.Test.YtadhnolgfhgepaaRows
import Derived.Test.YtadhnolgfhgepaaFlaw01
import Derived.Test.YtadhnolgfhgepaaVd
import Derived.Test.YtadhnolgfhgepaaWordBack
namespace Go.Proofs.Ytadhnolgfhgepaa.wordBack
open Go Go.Proofs.Ytadhnolgfhgepaa.Va
open Go.ChangeShapes Go.WideShapes Go.ChangeAt Go.RowKit
set_option linter.unusedVariables false
theorem own : ownKnob Try.prog.godebug = none := by kernel_rfl
theorem laidOut : laidOutB Try.prog = true := by kernel_rfl
theorem plain (l : law01_WordBack.TA) (h : wfA E0 [52] law01_WordBack.pA l.1) : (law01_WordBack.t l.1.1).run = some true := by
  obtain ⟨⟨_, h1, h2⟩, _⟩ := h
  exact Pure.WordBack _ h1 (fun x2 hx => by obtain ⟨_, h3⟩ := h2 x2 hx; exact h3)
set_option maxRecDepth 100000 in
theorem lifted (os : Os) (started : os.Started) (H : Type) (enc : TypeId × Value → H) :
    ReturnsInHanded {} Try.checked os 11 .any (Rows.wordBackSpec.pre6 enc Try.prog Try.f11 Rows.wordBackRow.domain false) (Rows.wordBackSpec.post enc Try.prog Try.f11 false true false false) :=
  law_lifted (C := Try.checked) (E := E0) (E' := law01_WordBack.E) (ct := ct) (p := law01_WordBack.pA) (ts := [52]) (tb := 4) (ms := []) (t := fun (l : law01_WordBack.TA) => law01_WordBack.t l.1.1) (v := law01_WordBack.v) (hh := law01_WordBack.hh)
    own started (by kernel_rfl) Try.func11 (ChangeSpec.witness6 (enc := enc) (C := Try.checked) false ⟨#[], #[.slice none 0 0], []⟩ 8 (by kernel_rfl) (by kernel_rfl) (by kernel_rfl) (by kernel_rfl))
    laidOut (by kernel_rfl) (by kernel_rfl) Try.underlying4 rfl (fun ds h => by match ds, h with | [_], _ => rfl) (by kernel_rfl) E0_ok full_ok rfl (by kernel_rfl) (by kernel_rfl) law01_WordBack.okF law01_WordBack.hk (fun _ => rfl) plain
theorem over : Rows.wordBackRow.holds Try.pinned (OpenSpec.ofChange Rows.wordBackSpec) :=
  OpenClaim.holds_of_wide 11 Try.f11 rfl rfl rfl rfl rfl rfl rfl ⟨rfl, rfl, rfl, rfl, rfl⟩ rfl rfl rfl rfl rfl (by kernel_rfl) Try.func11 (by kernel_rfl)
    (of_decide_eq_true (by kernel_rfl)) (by unfold Func.isWrapper; first | (rw [if_pos (by decide +kernel)]; kernel_rfl) | (rw [if_neg (by decide +kernel)]; exact ⟨rfl, rfl⟩))
    (fun os started H enc _ => lifted os started H enc)
end Go.Proofs.Ytadhnolgfhgepaa.wordBack
namespace Go.Proofs.Ytadhnolgfhgepaa
/-- The row, under a short name, for the claim. -/
theorem wordBack_holds : Rows.WordBackSaid := wordBack.over
#print axioms wordBack_holds
end Go.Proofs.Ytadhnolgfhgepaa
