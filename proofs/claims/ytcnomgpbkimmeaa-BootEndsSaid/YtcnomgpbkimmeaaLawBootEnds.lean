/- The law instar/instarlaw36.BootEnds: whatever the arguments, it returns true, never panics, and its arguments read behind the call as before. -/
import Derived.Test.YtcnomgpbkimmeaaRows
import Derived.Test.YtcnomgpbkimmeaaFlaw36BootEnds
import Derived.Test.YtcnomgpbkimmeaaVd
import Derived.Test.YtcnomgpbkimmeaaKn
import Derived.Test.YtcnomgpbkimmeaaBootEnds
namespace Go.Proofs.Ytcnomgpbkimmeaa.bootEnds
open Go Go.Proofs.Ytcnomgpbkimmeaa.Va
open Go.ChangeShapes Go.WideShapes Go.ChangeAt Go.RowKit
set_option linter.unusedVariables false
theorem own : ownKnob Try.prog.godebug = none := by kernel_rfl
theorem laidOut : laidOutB Try.prog = true := by kernel_rfl
theorem plain (l : law36_BootEnds.TA) (h : wfA E0 [48, 5] law36_BootEnds.pA l.1) : (law36_BootEnds.t l.1.1.1 l.1.1.2.1 l.1.1.2.2.1 l.1.1.2.2.2.1 l.1.1.2.2.2.2.1 l.1.1.2.2.2.2.2.1 l.1.1.2.2.2.2.2.2.1 l.1.1.2.2.2.2.2.2.2.1 l.1.1.2.2.2.2.2.2.2.2.1 l.1.1.2.2.2.2.2.2.2.2.2.1 l.1.1.2.2.2.2.2.2.2.2.2.2.1 l.1.1.2.2.2.2.2.2.2.2.2.2.2.1 l.1.1.2.2.2.2.2.2.2.2.2.2.2.2.1 l.1.1.2.2.2.2.2.2.2.2.2.2.2.2.2.1 l.1.1.2.2.2.2.2.2.2.2.2.2.2.2.2.2.1 l.1.1.2.2.2.2.2.2.2.2.2.2.2.2.2.2.2.1 l.1.1.2.2.2.2.2.2.2.2.2.2.2.2.2.2.2.2.1 l.1.1.2.2.2.2.2.2.2.2.2.2.2.2.2.2.2.2.2.1 l.1.1.2.2.2.2.2.2.2.2.2.2.2.2.2.2.2.2.2.2.1 l.1.1.2.2.2.2.2.2.2.2.2.2.2.2.2.2.2.2.2.2.2.1 l.1.1.2.2.2.2.2.2.2.2.2.2.2.2.2.2.2.2.2.2.2.2.1 l.1.1.2.2.2.2.2.2.2.2.2.2.2.2.2.2.2.2.2.2.2.2.2.1 l.1.1.2.2.2.2.2.2.2.2.2.2.2.2.2.2.2.2.2.2.2.2.2.2.1 l.1.1.2.2.2.2.2.2.2.2.2.2.2.2.2.2.2.2.2.2.2.2.2.2.2.1 l.1.1.2.2.2.2.2.2.2.2.2.2.2.2.2.2.2.2.2.2.2.2.2.2.2.2.1 l.1.1.2.2.2.2.2.2.2.2.2.2.2.2.2.2.2.2.2.2.2.2.2.2.2.2.2.1 l.1.1.2.2.2.2.2.2.2.2.2.2.2.2.2.2.2.2.2.2.2.2.2.2.2.2.2.2.1 l.1.1.2.2.2.2.2.2.2.2.2.2.2.2.2.2.2.2.2.2.2.2.2.2.2.2.2.2.2.1 l.1.1.2.2.2.2.2.2.2.2.2.2.2.2.2.2.2.2.2.2.2.2.2.2.2.2.2.2.2.2.1 l.1.1.2.2.2.2.2.2.2.2.2.2.2.2.2.2.2.2.2.2.2.2.2.2.2.2.2.2.2.2.2.1 l.1.1.2.2.2.2.2.2.2.2.2.2.2.2.2.2.2.2.2.2.2.2.2.2.2.2.2.2.2.2.2.2.1 l.1.2.1).run = some true := by
  obtain ⟨⟨⟨_, h1⟩, ⟨_, h2⟩, ⟨_, h3⟩, _, ⟨_, h4⟩, ⟨⟨⟨_, h5⟩, ⟨_, h6⟩, ⟨_, h7⟩, ⟨⟨_, h8⟩, ⟨_, h9⟩, ⟨_, h10⟩, ⟨_, h11⟩, ⟨_, h12⟩, ⟨_, h13⟩, ⟨_, h14⟩, ⟨_, h15⟩, _⟩, _⟩, ⟨⟨_, h16⟩, ⟨_, h17⟩, ⟨_, h18⟩, ⟨⟨_, h19⟩, ⟨_, h20⟩, ⟨_, h21⟩, ⟨_, h22⟩, ⟨_, h23⟩, ⟨_, h24⟩, ⟨_, h25⟩, ⟨_, h26⟩, _⟩, _⟩, _⟩, ⟨_, h27⟩, ⟨_, h28⟩, ⟨_, h29⟩, ⟨_, h30⟩, _⟩, ⟨_, h31⟩, _⟩ := h
  exact Pure.BootEnds _ _ _ _ _ _ _ _ _ _ _ _ _ _ _ _ _ _ _ _ _ _ _ _ _ _ _ _ _ _ _ _ h1 h2 h3 h4 h5 h6 h7 h8 h9 h10 h11 h12 h13 h14 h15 h16 h17 h18 h19 h20 h21 h22 h23 h24 h25 h26 h27 h28 h29 h30 h31
set_option maxRecDepth 100000 in
theorem lifted (os : Os) (started : os.Started) (H : Type) (enc : TypeId × Value → H) :
    ReturnsInHanded {} Try.checked os 21 .any (Rows.bootEndsSpec.pre6 enc Try.prog Try.f21 Rows.bootEndsRow.domain false) (Rows.bootEndsSpec.post enc Try.prog Try.f21 false true false false) :=
  law_lifted (C := Try.checked) (E := E0) (E' := law36_BootEnds.E) (ct := ct) (p := law36_BootEnds.pA) (ts := [48, 5]) (tb := 4) (ms := []) (t := fun (l : law36_BootEnds.TA) => law36_BootEnds.t l.1.1.1 l.1.1.2.1 l.1.1.2.2.1 l.1.1.2.2.2.1 l.1.1.2.2.2.2.1 l.1.1.2.2.2.2.2.1 l.1.1.2.2.2.2.2.2.1 l.1.1.2.2.2.2.2.2.2.1 l.1.1.2.2.2.2.2.2.2.2.1 l.1.1.2.2.2.2.2.2.2.2.2.1 l.1.1.2.2.2.2.2.2.2.2.2.2.1 l.1.1.2.2.2.2.2.2.2.2.2.2.2.1 l.1.1.2.2.2.2.2.2.2.2.2.2.2.2.1 l.1.1.2.2.2.2.2.2.2.2.2.2.2.2.2.1 l.1.1.2.2.2.2.2.2.2.2.2.2.2.2.2.2.1 l.1.1.2.2.2.2.2.2.2.2.2.2.2.2.2.2.2.1 l.1.1.2.2.2.2.2.2.2.2.2.2.2.2.2.2.2.2.1 l.1.1.2.2.2.2.2.2.2.2.2.2.2.2.2.2.2.2.2.1 l.1.1.2.2.2.2.2.2.2.2.2.2.2.2.2.2.2.2.2.2.1 l.1.1.2.2.2.2.2.2.2.2.2.2.2.2.2.2.2.2.2.2.2.1 l.1.1.2.2.2.2.2.2.2.2.2.2.2.2.2.2.2.2.2.2.2.2.1 l.1.1.2.2.2.2.2.2.2.2.2.2.2.2.2.2.2.2.2.2.2.2.2.1 l.1.1.2.2.2.2.2.2.2.2.2.2.2.2.2.2.2.2.2.2.2.2.2.2.1 l.1.1.2.2.2.2.2.2.2.2.2.2.2.2.2.2.2.2.2.2.2.2.2.2.2.1 l.1.1.2.2.2.2.2.2.2.2.2.2.2.2.2.2.2.2.2.2.2.2.2.2.2.2.1 l.1.1.2.2.2.2.2.2.2.2.2.2.2.2.2.2.2.2.2.2.2.2.2.2.2.2.2.1 l.1.1.2.2.2.2.2.2.2.2.2.2.2.2.2.2.2.2.2.2.2.2.2.2.2.2.2.2.1 l.1.1.2.2.2.2.2.2.2.2.2.2.2.2.2.2.2.2.2.2.2.2.2.2.2.2.2.2.2.1 l.1.1.2.2.2.2.2.2.2.2.2.2.2.2.2.2.2.2.2.2.2.2.2.2.2.2.2.2.2.2.1 l.1.1.2.2.2.2.2.2.2.2.2.2.2.2.2.2.2.2.2.2.2.2.2.2.2.2.2.2.2.2.2.1 l.1.1.2.2.2.2.2.2.2.2.2.2.2.2.2.2.2.2.2.2.2.2.2.2.2.2.2.2.2.2.2.2.1 l.1.2.1) (v := law36_BootEnds.v) (hh := law36_BootEnds.hh)
    own started (by kernel_rfl) Try.func21 (ChangeSpec.witness6 (enc := enc) (C := Try.checked) false ⟨#[], #[.agg #[.int .i64 0, .int .i64 0, .int .i64 0, .bool false, .int .i64 0, .int .i64 0, .int .i64 0, .int .i64 0, .int .u32 0, .int .u32 0, .int .u32 0, .int .u32 0, .int .u32 0, .int .u32 0, .int .u32 0, .int .u32 0, .int .i64 0, .int .i64 0, .int .i64 0, .int .u32 0, .int .u32 0, .int .u32 0, .int .u32 0, .int .u32 0, .int .u32 0, .int .u32 0, .int .u32 0, .int .i64 0, .int .i64 0, .int .i64 0, .int .i64 0], .int .u8 0], []⟩ 8 (by kernel_rfl) (by kernel_rfl) (by kernel_rfl) (by kernel_rfl))
    laidOut (by kernel_rfl) (by kernel_rfl) Try.underlying4 rfl (fun ds h => by match ds, h with | [_, _], _ => rfl) (by kernel_rfl) E0_ok full_ok rfl (by kernel_rfl) (by kernel_rfl) law36_BootEnds.okF law36_BootEnds.hk (fun _ => rfl) plain
theorem over : Rows.bootEndsRow.holds Try.pinned (OpenSpec.ofChange Rows.bootEndsSpec) :=
  OpenClaim.holds_of_wide 21 Try.f21 rfl rfl rfl rfl rfl rfl rfl ⟨rfl, rfl, rfl, rfl, rfl⟩ rfl rfl rfl rfl rfl (by kernel_rfl) Try.func21 (Kn.closed_of (by kernel_rfl))
    (of_decide_eq_true (by kernel_rfl)) (by unfold Func.isWrapper; first | (rw [if_pos (by decide +kernel)]; kernel_rfl) | (rw [if_neg (by decide +kernel)]; exact ⟨rfl, rfl⟩))
    (fun os started H enc _ => lifted os started H enc)
end Go.Proofs.Ytcnomgpbkimmeaa.bootEnds
namespace Go.Proofs.Ytcnomgpbkimmeaa
/-- The row, under a short name, for the claim. -/
theorem bootEnds_holds : Rows.BootEndsSaid := bootEnds.over
#print axioms bootEnds_holds
end Go.Proofs.Ytcnomgpbkimmeaa
