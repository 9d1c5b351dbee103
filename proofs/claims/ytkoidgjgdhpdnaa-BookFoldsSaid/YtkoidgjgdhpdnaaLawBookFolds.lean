/- The law instar/instarlaw34.BookFolds: whatever the arguments, it returns true, never panics, and its arguments read behind the call as before. -/
import Derived.Test.YtkoidgjgdhpdnaaRows
import Derived.Test.YtkoidgjgdhpdnaaFlaw34BookFolds
import Derived.Test.YtkoidgjgdhpdnaaVd
import Derived.Test.YtkoidgjgdhpdnaaKn
import Derived.Test.YtkoidgjgdhpdnaaBookFolds
set_option linter.unusedVariables false
namespace Go.Proofs.Ytkoidgjgdhpdnaa.bookFolds
open Go Go.Proofs.Ytkoidgjgdhpdnaa.Va
open Go.ChangeShapes Go.WideShapes Go.ChangeAt Go.RowKit
theorem own : ownKnob Try.prog.godebug = none := by kernel_rfl
theorem laidOut : laidOutB Try.prog = true := by kernel_rfl
theorem plain (l : law34_BookFolds.TA) (h : wfA E0 [59, 60, 24] law34_BookFolds.pA l.1) : (law34_BookFolds.t l.1.1.1 l.1.1.2.1 l.1.1.2.2.1 l.1.1.2.2.2.1 l.1.1.2.2.2.2.1 l.1.1.2.2.2.2.2.1 l.1.1.2.2.2.2.2.2.1 l.1.1.2.2.2.2.2.2.2.1 l.1.1.2.2.2.2.2.2.2.2.1 l.1.1.2.2.2.2.2.2.2.2.2.1 l.1.1.2.2.2.2.2.2.2.2.2.2.1 l.1.1.2.2.2.2.2.2.2.2.2.2.2.1 l.1.1.2.2.2.2.2.2.2.2.2.2.2.2.1 l.1.1.2.2.2.2.2.2.2.2.2.2.2.2.2.1 l.1.1.2.2.2.2.2.2.2.2.2.2.2.2.2.2.1 l.1.1.2.2.2.2.2.2.2.2.2.2.2.2.2.2.2.1 l.1.1.2.2.2.2.2.2.2.2.2.2.2.2.2.2.2.2.1 l.1.1.2.2.2.2.2.2.2.2.2.2.2.2.2.2.2.2.2.1 l.1.1.2.2.2.2.2.2.2.2.2.2.2.2.2.2.2.2.2.2.1 l.1.1.2.2.2.2.2.2.2.2.2.2.2.2.2.2.2.2.2.2.2.1 l.1.1.2.2.2.2.2.2.2.2.2.2.2.2.2.2.2.2.2.2.2.2.1 l.1.1.2.2.2.2.2.2.2.2.2.2.2.2.2.2.2.2.2.2.2.2.2.1 l.1.1.2.2.2.2.2.2.2.2.2.2.2.2.2.2.2.2.2.2.2.2.2.2.1 l.1.1.2.2.2.2.2.2.2.2.2.2.2.2.2.2.2.2.2.2.2.2.2.2.2.1 l.1.1.2.2.2.2.2.2.2.2.2.2.2.2.2.2.2.2.2.2.2.2.2.2.2.2.1 l.1.1.2.2.2.2.2.2.2.2.2.2.2.2.2.2.2.2.2.2.2.2.2.2.2.2.2.1 l.1.1.2.2.2.2.2.2.2.2.2.2.2.2.2.2.2.2.2.2.2.2.2.2.2.2.2.2.1 l.1.1.2.2.2.2.2.2.2.2.2.2.2.2.2.2.2.2.2.2.2.2.2.2.2.2.2.2.2.1 l.1.1.2.2.2.2.2.2.2.2.2.2.2.2.2.2.2.2.2.2.2.2.2.2.2.2.2.2.2.2.1 l.1.1.2.2.2.2.2.2.2.2.2.2.2.2.2.2.2.2.2.2.2.2.2.2.2.2.2.2.2.2.2.1 l.1.1.2.2.2.2.2.2.2.2.2.2.2.2.2.2.2.2.2.2.2.2.2.2.2.2.2.2.2.2.2.2.1 l.1.2.1 l.1.2.2.1).run = some true := by
  obtain ⟨⟨⟨_, h1⟩, ⟨_, h2⟩, ⟨_, h3⟩, _, ⟨_, h4⟩, ⟨⟨⟨_, h5⟩, ⟨_, h6⟩, ⟨_, h7⟩, ⟨⟨_, h8⟩, ⟨_, h9⟩, ⟨_, h10⟩, ⟨_, h11⟩, ⟨_, h12⟩, ⟨_, h13⟩, ⟨_, h14⟩, ⟨_, h15⟩, _⟩, _⟩, ⟨⟨_, h16⟩, ⟨_, h17⟩, ⟨_, h18⟩, ⟨⟨_, h19⟩, ⟨_, h20⟩, ⟨_, h21⟩, ⟨_, h22⟩, ⟨_, h23⟩, ⟨_, h24⟩, ⟨_, h25⟩, ⟨_, h26⟩, _⟩, _⟩, _⟩, ⟨_, h27⟩, ⟨_, h28⟩, ⟨_, h29⟩, ⟨_, h30⟩, _⟩, ⟨_, h31, h32⟩, ⟨_, h36, h37⟩, _⟩ := h
  exact Pure.BookFolds _ _ _ _ _ _ _ _ _ _ _ _ _ _ _ _ _ _ _ _ _ _ _ _ _ _ _ _ _ _ _ _ _ h1 h2 h3 h4 h5 h6 h7 h8 h9 h10 h11 h12 h13 h14 h15 h16 h17 h18 h19 h20 h21 h22 h23 h24 h25 h26 h27 h28 h29 h30 h31 (fun x32 hx => by obtain ⟨⟨_, h33⟩, ⟨_, h34⟩, ⟨_, h35⟩, _⟩ := h32 x32 hx; exact ⟨h33, h34, h35⟩) h36 (fun x37 hx => by obtain ⟨_, h38⟩ := h37 x37 hx; exact h38)
set_option maxRecDepth 100000 in
theorem lifted (os : Os) (started : os.Started) (H : Type) (enc : TypeId × Value → H) :
    ReturnsInHanded {} Try.checked os 4 .any (Rows.bookFoldsSpec.pre6 enc Try.prog Try.f4 Rows.bookFoldsRow.domain false) (Rows.bookFoldsSpec.post enc Try.prog Try.f4 false true false false) :=
  law_lifted (C := Try.checked) (E := E0) (E' := law34_BookFolds.E) (ct := ct) (p := law34_BookFolds.pA) (ts := [59, 60, 24]) (tb := 4) (ms := []) (t := fun (l : law34_BookFolds.TA) => law34_BookFolds.t l.1.1.1 l.1.1.2.1 l.1.1.2.2.1 l.1.1.2.2.2.1 l.1.1.2.2.2.2.1 l.1.1.2.2.2.2.2.1 l.1.1.2.2.2.2.2.2.1 l.1.1.2.2.2.2.2.2.2.1 l.1.1.2.2.2.2.2.2.2.2.1 l.1.1.2.2.2.2.2.2.2.2.2.1 l.1.1.2.2.2.2.2.2.2.2.2.2.1 l.1.1.2.2.2.2.2.2.2.2.2.2.2.1 l.1.1.2.2.2.2.2.2.2.2.2.2.2.2.1 l.1.1.2.2.2.2.2.2.2.2.2.2.2.2.2.1 l.1.1.2.2.2.2.2.2.2.2.2.2.2.2.2.2.1 l.1.1.2.2.2.2.2.2.2.2.2.2.2.2.2.2.2.1 l.1.1.2.2.2.2.2.2.2.2.2.2.2.2.2.2.2.2.1 l.1.1.2.2.2.2.2.2.2.2.2.2.2.2.2.2.2.2.2.1 l.1.1.2.2.2.2.2.2.2.2.2.2.2.2.2.2.2.2.2.2.1 l.1.1.2.2.2.2.2.2.2.2.2.2.2.2.2.2.2.2.2.2.2.1 l.1.1.2.2.2.2.2.2.2.2.2.2.2.2.2.2.2.2.2.2.2.2.1 l.1.1.2.2.2.2.2.2.2.2.2.2.2.2.2.2.2.2.2.2.2.2.2.1 l.1.1.2.2.2.2.2.2.2.2.2.2.2.2.2.2.2.2.2.2.2.2.2.2.1 l.1.1.2.2.2.2.2.2.2.2.2.2.2.2.2.2.2.2.2.2.2.2.2.2.2.1 l.1.1.2.2.2.2.2.2.2.2.2.2.2.2.2.2.2.2.2.2.2.2.2.2.2.2.1 l.1.1.2.2.2.2.2.2.2.2.2.2.2.2.2.2.2.2.2.2.2.2.2.2.2.2.2.1 l.1.1.2.2.2.2.2.2.2.2.2.2.2.2.2.2.2.2.2.2.2.2.2.2.2.2.2.2.1 l.1.1.2.2.2.2.2.2.2.2.2.2.2.2.2.2.2.2.2.2.2.2.2.2.2.2.2.2.2.1 l.1.1.2.2.2.2.2.2.2.2.2.2.2.2.2.2.2.2.2.2.2.2.2.2.2.2.2.2.2.2.1 l.1.1.2.2.2.2.2.2.2.2.2.2.2.2.2.2.2.2.2.2.2.2.2.2.2.2.2.2.2.2.2.1 l.1.1.2.2.2.2.2.2.2.2.2.2.2.2.2.2.2.2.2.2.2.2.2.2.2.2.2.2.2.2.2.2.1 l.1.2.1 l.1.2.2.1) (v := law34_BookFolds.v) (hh := law34_BookFolds.hh)
    own started (by kernel_rfl) Try.func4 (ChangeSpec.witness6 (enc := enc) (C := Try.checked) false ⟨#[], #[.agg #[.int .i64 0, .int .i64 0, .int .i64 0, .bool false, .int .i64 0, .int .i64 0, .int .i64 0, .int .i64 0, .int .u32 0, .int .u32 0, .int .u32 0, .int .u32 0, .int .u32 0, .int .u32 0, .int .u32 0, .int .u32 0, .int .i64 0, .int .i64 0, .int .i64 0, .int .u32 0, .int .u32 0, .int .u32 0, .int .u32 0, .int .u32 0, .int .u32 0, .int .u32 0, .int .u32 0, .int .i64 0, .int .i64 0, .int .i64 0, .int .i64 0], .slice none 0 0, .slice none 0 0], []⟩ 8 (by kernel_rfl) (by kernel_rfl) (by kernel_rfl) (by kernel_rfl))
    laidOut (by kernel_rfl) (by kernel_rfl) Try.underlying4 rfl (fun ds h => by match ds, h with | [_, _, _], _ => rfl) (by kernel_rfl) E0_ok full_ok rfl (by kernel_rfl) (by kernel_rfl) law34_BookFolds.okF law34_BookFolds.hk (fun _ => rfl) plain
theorem over : Rows.bookFoldsRow.holds Try.pinned (OpenSpec.ofChange Rows.bookFoldsSpec) :=
  OpenClaim.holds_of_wide 4 Try.f4 rfl rfl rfl rfl rfl rfl rfl ⟨rfl, rfl, rfl, rfl, rfl⟩ rfl rfl rfl rfl rfl (by kernel_rfl) Try.func4 (Kn.closed_of (by kernel_rfl))
    (of_decide_eq_true (by kernel_rfl)) (by unfold Func.isWrapper; first | (rw [if_pos (by decide +kernel)]; kernel_rfl) | (rw [if_neg (by decide +kernel)]; exact ⟨rfl, rfl⟩))
    (fun os started H enc _ => lifted os started H enc)
end Go.Proofs.Ytkoidgjgdhpdnaa.bookFolds
namespace Go.Proofs.Ytkoidgjgdhpdnaa
/-- The row, under a short name, for the claim. -/
theorem bookFolds_holds : Rows.BookFoldsSaid := bookFolds.over
#print axioms bookFolds_holds
end Go.Proofs.Ytkoidgjgdhpdnaa
