/- The law instar/instarlaw12.FieldBytes: whatever the arguments, it returns true, never panics, and its arguments read behind the call as before. -/
import Derived.Test.YtcnomgpbkimmeaaRows
import Derived.Test.YtcnomgpbkimmeaaFlaw12
import Derived.Test.YtcnomgpbkimmeaaVd
import Derived.Test.YtcnomgpbkimmeaaKn
import Derived.Test.YtcnomgpbkimmeaaFieldBytes
namespace Go.Proofs.Ytcnomgpbkimmeaa.fieldBytes
open Go Go.Proofs.Ytcnomgpbkimmeaa.Va
open Go.ChangeShapes Go.WideShapes Go.ChangeAt Go.RowKit
set_option linter.unusedVariables false
theorem own : ownKnob Try.prog.godebug = none := by kernel_rfl
theorem laidOut : laidOutB Try.prog = true := by kernel_rfl
theorem plain (l : law12_FieldBytes.TA) (h : wfA E0 [85, 87, 94] law12_FieldBytes.pA l.1) : (law12_FieldBytes.t l.1.1.1 l.1.1.2.1 l.1.1.2.2.1 l.1.1.2.2.2.1 l.1.1.2.2.2.2.1 l.1.2.1.1 l.1.2.1.2.1 l.1.2.2.1).run = some true := by
  obtain ⟨⟨⟨_, h1⟩, ⟨_, h2⟩, ⟨_, h3⟩, ⟨_, h4⟩, ⟨_, h5⟩, _⟩, ⟨⟨_, h6⟩, h7, _⟩, ⟨_, h8, h9⟩, _⟩ := h
  exact Pure.FieldBytes _ _ _ _ _ _ _ _ h1 h2 h3 h4 h5 h6 h7 h8 (fun x9 hx => by obtain ⟨_, h10⟩ := h9 x9 hx; exact h10)
set_option maxRecDepth 100000 in
theorem lifted (os : Os) (started : os.Started) (H : Type) (enc : TypeId × Value → H) :
    ReturnsInHanded {} Try.checked os 16 .any (Rows.fieldBytesSpec.pre6 enc Try.prog Try.f16 Rows.fieldBytesRow.domain false) (Rows.fieldBytesSpec.post enc Try.prog Try.f16 false true false false) :=
  law_lifted (C := Try.checked) (E := E0) (E' := law12_FieldBytes.E) (ct := ct) (p := law12_FieldBytes.pA) (ts := [85, 87, 94]) (tb := 4) (ms := []) (t := fun (l : law12_FieldBytes.TA) => law12_FieldBytes.t l.1.1.1 l.1.1.2.1 l.1.1.2.2.1 l.1.1.2.2.2.1 l.1.1.2.2.2.2.1 l.1.2.1.1 l.1.2.1.2.1 l.1.2.2.1) (v := law12_FieldBytes.v) (hh := law12_FieldBytes.hh)
    own started (by kernel_rfl) Try.func16 (ChangeSpec.witness6 (enc := enc) (C := Try.checked) false ⟨#[], #[.agg #[.int .i64 0, .int .i64 0, .int .i64 0, .int .i64 0, .int .i64 0], .agg #[.int .i64 0, .string ByteArray.empty], .slice none 0 0], []⟩ 8 (by kernel_rfl) (by kernel_rfl) (by kernel_rfl) (by kernel_rfl))
    laidOut (by kernel_rfl) (by kernel_rfl) Try.underlying4 rfl (fun ds h => by match ds, h with | [_, _, _], _ => rfl) (by kernel_rfl) E0_ok full_ok rfl (by kernel_rfl) (by kernel_rfl) law12_FieldBytes.okF law12_FieldBytes.hk (fun _ => rfl) plain
theorem over : Rows.fieldBytesRow.holds Try.pinned (OpenSpec.ofChange Rows.fieldBytesSpec) :=
  OpenClaim.holds_of_wide 16 Try.f16 rfl rfl rfl rfl rfl rfl rfl ⟨rfl, rfl, rfl, rfl, rfl⟩ rfl rfl rfl rfl rfl (by kernel_rfl) Try.func16 (Kn.closed_of (by kernel_rfl))
    (of_decide_eq_true (by kernel_rfl)) (by unfold Func.isWrapper; first | (rw [if_pos (by decide +kernel)]; kernel_rfl) | (rw [if_neg (by decide +kernel)]; exact ⟨rfl, rfl⟩))
    (fun os started H enc _ => lifted os started H enc)
end Go.Proofs.Ytcnomgpbkimmeaa.fieldBytes
namespace Go.Proofs.Ytcnomgpbkimmeaa
/-- The row, under a short name, for the claim. -/
theorem fieldBytes_holds : Rows.FieldBytesSaid := fieldBytes.over
#print axioms fieldBytes_holds
end Go.Proofs.Ytcnomgpbkimmeaa
