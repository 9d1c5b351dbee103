/- The law instar/instarlaw01.WordPacks: whatever the arguments, it returns true, never panics, and its arguments read behind the call as before. -/
import Derived.Test.YtadhnolgfhgepaaRows
import Derived.Test.YtadhnolgfhgepaaFlaw01
import Derived.Test.YtadhnolgfhgepaaVd
import Derived.Test.YtadhnolgfhgepaaWordPacks
namespace Go.Proofs.Ytadhnolgfhgepaa.wordPacks
open Go Go.Proofs.Ytadhnolgfhgepaa.Va
open Go.ChangeShapes Go.WideShapes Go.ChangeAt Go.RowKit
set_option linter.unusedVariables false
theorem own : ownKnob Try.prog.godebug = none := by kernel_rfl
theorem laidOut : laidOutB Try.prog = true := by kernel_rfl
theorem plain (l : law01_WordPacks.TA) (h : wfA E0 [52, 30, 3] law01_WordPacks.pA l.1) : (law01_WordPacks.t l.1.1 l.1.2.1 l.1.2.2.1).run = some true := by
  obtain ⟨⟨_, h1, h2⟩, ⟨_, h4, h5⟩, ⟨_, h7⟩, _⟩ := h
  exact Pure.WordPacks _ _ _ h1 (fun x2 hx => by obtain ⟨_, h3⟩ := h2 x2 hx; exact h3) h4 (fun x5 hx => by obtain ⟨_, h6⟩ := h5 x5 hx; exact h6) h7
set_option maxRecDepth 100000 in
theorem lifted (os : Os) (started : os.Started) (H : Type) (enc : TypeId × Value → H) :
    ReturnsInHanded {} Try.checked os 10 .any (Rows.wordPacksSpec.pre6 enc Try.prog Try.f10 Rows.wordPacksRow.domain false) (Rows.wordPacksSpec.post enc Try.prog Try.f10 false true false false) :=
  law_lifted (C := Try.checked) (E := E0) (E' := law01_WordPacks.E) (ct := ct) (p := law01_WordPacks.pA) (ts := [52, 30, 3]) (tb := 4) (ms := []) (t := fun (l : law01_WordPacks.TA) => law01_WordPacks.t l.1.1 l.1.2.1 l.1.2.2.1) (v := law01_WordPacks.v) (hh := law01_WordPacks.hh)
    own started (by kernel_rfl) Try.func10 (ChangeSpec.witness6 (enc := enc) (C := Try.checked) false ⟨#[], #[.slice none 0 0, .slice none 0 0, .int .i64 0], []⟩ 8 (by kernel_rfl) (by kernel_rfl) (by kernel_rfl) (by kernel_rfl))
    laidOut (by kernel_rfl) (by kernel_rfl) Try.underlying4 rfl (fun ds h => by match ds, h with | [_, _, _], _ => rfl) (by kernel_rfl) E0_ok full_ok rfl (by kernel_rfl) (by kernel_rfl) law01_WordPacks.okF law01_WordPacks.hk (fun _ => rfl) plain
theorem over : Rows.wordPacksRow.holds Try.pinned (OpenSpec.ofChange Rows.wordPacksSpec) :=
  OpenClaim.holds_of_wide 10 Try.f10 rfl rfl rfl rfl rfl rfl rfl ⟨rfl, rfl, rfl, rfl, rfl⟩ rfl rfl rfl rfl rfl (by kernel_rfl) Try.func10 (by kernel_rfl)
    (of_decide_eq_true (by kernel_rfl)) (by unfold Func.isWrapper; first | (rw [if_pos (by decide +kernel)]; kernel_rfl) | (rw [if_neg (by decide +kernel)]; exact ⟨rfl, rfl⟩))
    (fun os started H enc _ => lifted os started H enc)
end Go.Proofs.Ytadhnolgfhgepaa.wordPacks
namespace Go.Proofs.Ytadhnolgfhgepaa
/-- The row, under a short name, for the claim. -/
theorem wordPacks_holds : Rows.WordPacksSaid := wordPacks.over
#print axioms wordPacks_holds
end Go.Proofs.Ytadhnolgfhgepaa
