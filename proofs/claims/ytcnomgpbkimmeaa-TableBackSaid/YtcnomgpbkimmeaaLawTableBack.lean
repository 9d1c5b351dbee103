/- The law instar/instarlaw25.TableBack: whatever the arguments, it returns true, never panics, and its arguments read behind the call as before. -/
import Derived.Test.YtcnomgpbkimmeaaRows
import Derived.Test.YtcnomgpbkimmeaaFlaw25
import Derived.Test.YtcnomgpbkimmeaaVd
import Derived.Test.YtcnomgpbkimmeaaKn
import Derived.Test.YtcnomgpbkimmeaaTableBack
namespace Go.Proofs.Ytcnomgpbkimmeaa.tableBack
open Go Go.Proofs.Ytcnomgpbkimmeaa.Va
open Go.ChangeShapes Go.WideShapes Go.ChangeAt Go.RowKit
set_option linter.unusedVariables false
theorem own : ownKnob Try.prog.godebug = none := by kernel_rfl
theorem laidOut : laidOutB Try.prog = true := by kernel_rfl
theorem plain (l : law25_TableBack.TA) (h : wfA E0 [24, 25] law25_TableBack.pA l.1) : (law25_TableBack.t l.1.1.1 l.1.1.2.1 l.1.1.2.2.1 l.1.2.1).run = some true := by
  obtain ⟨⟨⟨_, h1⟩, ⟨_, h2⟩, ⟨_, h3, h4⟩, _⟩, ⟨_, h6, h7⟩, _⟩ := h
  exact Pure.TableBack _ _ _ _ h1 h2 h3 (fun x4 hx => by obtain ⟨_, h5⟩ := h4 x4 hx; exact h5) h6 (fun x7 hx => by obtain ⟨_, h8⟩ := h7 x7 hx; exact h8)
set_option maxRecDepth 100000 in
theorem lifted (os : Os) (started : os.Started) (H : Type) (enc : TypeId × Value → H) :
    ReturnsInHanded {} Try.checked os 4 .any (Rows.tableBackSpec.pre6 enc Try.prog Try.f4 Rows.tableBackRow.domain false) (Rows.tableBackSpec.post enc Try.prog Try.f4 false true false false) :=
  law_lifted (C := Try.checked) (E := E0) (E' := law25_TableBack.E) (ct := ct) (p := law25_TableBack.pA) (ts := [24, 25]) (tb := 4) (ms := []) (t := fun (l : law25_TableBack.TA) => law25_TableBack.t l.1.1.1 l.1.1.2.1 l.1.1.2.2.1 l.1.2.1) (v := law25_TableBack.v) (hh := law25_TableBack.hh)
    own started (by kernel_rfl) Try.func4 (ChangeSpec.witness6 (enc := enc) (C := Try.checked) false ⟨#[], #[.agg #[.int .i64 0, .int .i64 0, .slice none 0 0], .slice none 0 0], []⟩ 8 (by kernel_rfl) (by kernel_rfl) (by kernel_rfl) (by kernel_rfl))
    laidOut (by kernel_rfl) (by kernel_rfl) Try.underlying4 rfl (fun ds h => by match ds, h with | [_, _], _ => rfl) (by kernel_rfl) E0_ok full_ok rfl (by kernel_rfl) (by kernel_rfl) law25_TableBack.okF law25_TableBack.hk (fun _ => rfl) plain
theorem over : Rows.tableBackRow.holds Try.pinned (OpenSpec.ofChange Rows.tableBackSpec) :=
  OpenClaim.holds_of_wide 4 Try.f4 rfl rfl rfl rfl rfl rfl rfl ⟨rfl, rfl, rfl, rfl, rfl⟩ rfl rfl rfl rfl rfl (by kernel_rfl) Try.func4 (Kn.closed_of (by kernel_rfl))
    (of_decide_eq_true (by kernel_rfl)) (by unfold Func.isWrapper; first | (rw [if_pos (by decide +kernel)]; kernel_rfl) | (rw [if_neg (by decide +kernel)]; exact ⟨rfl, rfl⟩))
    (fun os started H enc _ => lifted os started H enc)
end Go.Proofs.Ytcnomgpbkimmeaa.tableBack
namespace Go.Proofs.Ytcnomgpbkimmeaa
/-- The row, under a short name, for the claim. -/
theorem tableBack_holds : Rows.TableBackSaid := tableBack.over
#print axioms tableBack_holds
end Go.Proofs.Ytcnomgpbkimmeaa
