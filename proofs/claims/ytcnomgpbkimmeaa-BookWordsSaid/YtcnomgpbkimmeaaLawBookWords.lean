/- The law instar/instarlaw34.BookWords: whatever the arguments, it returns true, never panics, and its arguments read behind the call as before. -/
import Derived.Test.YtcnomgpbkimmeaaRows
import Derived.Test.YtcnomgpbkimmeaaFlaw34BookWords
import Derived.Test.YtcnomgpbkimmeaaVd
import Derived.Test.YtcnomgpbkimmeaaKn
import Derived.Test.YtcnomgpbkimmeaaBookWords
namespace Go.Proofs.Ytcnomgpbkimmeaa.bookWords
open Go Go.Proofs.Ytcnomgpbkimmeaa.Va
open Go.ChangeShapes Go.WideShapes Go.ChangeAt Go.RowKit
set_option linter.unusedVariables false
theorem own : ownKnob Try.prog.godebug = none := by kernel_rfl
theorem laidOut : laidOutB Try.prog = true := by kernel_rfl
theorem plain (l : law34_BookWords.TA) (h : wfA E0 [48, 25] law34_BookWords.pA l.1) : (law34_BookWords.t l.1.1.1 l.1.1.2.1 l.1.1.2.2.1 l.1.1.2.2.2.1 l.1.1.2.2.2.2.1 l.1.1.2.2.2.2.2.1 l.1.1.2.2.2.2.2.2.1 l.1.1.2.2.2.2.2.2.2.1 l.1.1.2.2.2.2.2.2.2.2.1 l.1.1.2.2.2.2.2.2.2.2.2.1 l.1.1.2.2.2.2.2.2.2.2.2.2.1 l.1.1.2.2.2.2.2.2.2.2.2.2.2.1 l.1.1.2.2.2.2.2.2.2.2.2.2.2.2.1 l.1.1.2.2.2.2.2.2.2.2.2.2.2.2.2.1 l.1.1.2.2.2.2.2.2.2.2.2.2.2.2.2.2.1 l.1.1.2.2.2.2.2.2.2.2.2.2.2.2.2.2.2.1 l.1.1.2.2.2.2.2.2.2.2.2.2.2.2.2.2.2.2.1 l.1.1.2.2.2.2.2.2.2.2.2.2.2.2.2.2.2.2.2.1 l.1.1.2.2.2.2.2.2.2.2.2.2.2.2.2.2.2.2.2.2.1 l.1.1.2.2.2.2.2.2.2.2.2.2.2.2.2.2.2.2.2.2.2.1 l.1.1.2.2.2.2.2.2.2.2.2.2.2.2.2.2.2.2.2.2.2.2.1 l.1.1.2.2.2.2.2.2.2.2.2.2.2.2.2.2.2.2.2.2.2.2.2.1 l.1.1.2.2.2.2.2.2.2.2.2.2.2.2.2.2.2.2.2.2.2.2.2.2.1 l.1.1.2.2.2.2.2.2.2.2.2.2.2.2.2.2.2.2.2.2.2.2.2.2.2.1 l.1.1.2.2.2.2.2.2.2.2.2.2.2.2.2.2.2.2.2.2.2.2.2.2.2.2.1 l.1.1.2.2.2.2.2.2.2.2.2.2.2.2.2.2.2.2.2.2.2.2.2.2.2.2.2.1 l.1.1.2.2.2.2.2.2.2.2.2.2.2.2.2.2.2.2.2.2.2.2.2.2.2.2.2.2.1 l.1.1.2.2.2.2.2.2.2.2.2.2.2.2.2.2.2.2.2.2.2.2.2.2.2.2.2.2.2.1 l.1.1.2.2.2.2.2.2.2.2.2.2.2.2.2.2.2.2.2.2.2.2.2.2.2.2.2.2.2.2.1 l.1.1.2.2.2.2.2.2.2.2.2.2.2.2.2.2.2.2.2.2.2.2.2.2.2.2.2.2.2.2.2.1 l.1.1.2.2.2.2.2.2.2.2.2.2.2.2.2.2.2.2.2.2.2.2.2.2.2.2.2.2.2.2.2.2.1 l.1.2.1).run = some true := by
  obtain ⟨⟨⟨_, h1⟩, ⟨_, h2⟩, ⟨_, h3⟩, _, ⟨_, h4⟩, ⟨⟨⟨_, h5⟩, ⟨_, h6⟩, ⟨_, h7⟩, ⟨⟨_, h8⟩, ⟨_, h9⟩, ⟨_, h10⟩, ⟨_, h11⟩, ⟨_, h12⟩, ⟨_, h13⟩, ⟨_, h14⟩, ⟨_, h15⟩, _⟩, _⟩, ⟨⟨_, h16⟩, ⟨_, h17⟩, ⟨_, h18⟩, ⟨⟨_, h19⟩, ⟨_, h20⟩, ⟨_, h21⟩, ⟨_, h22⟩, ⟨_, h23⟩, ⟨_, h24⟩, ⟨_, h25⟩, ⟨_, h26⟩, _⟩, _⟩, _⟩, ⟨_, h27⟩, ⟨_, h28⟩, ⟨_, h29⟩, ⟨_, h30⟩, _⟩, ⟨_, h31, h32⟩, _⟩ := h
  exact Pure.BookWords _ _ _ _ _ _ _ _ _ _ _ _ _ _ _ _ _ _ _ _ _ _ _ _ _ _ _ _ _ _ _ _ h1 h2 h3 h4 h5 h6 h7 h8 h9 h10 h11 h12 h13 h14 h15 h16 h17 h18 h19 h20 h21 h22 h23 h24 h25 h26 h27 h28 h29 h30 h31 (fun x32 hx => by obtain ⟨_, h33⟩ := h32 x32 hx; exact h33)
set_option maxRecDepth 100000 in
theorem lifted (os : Os) (started : os.Started) (H : Type) (enc : TypeId × Value → H) :
    ReturnsInHanded {} Try.checked os 7 .any (Rows.bookWordsSpec.pre6 enc Try.prog Try.f7 Rows.bookWordsRow.domain false) (Rows.bookWordsSpec.post enc Try.prog Try.f7 false true false false) :=
  law_lifted (C := Try.checked) (E := E0) (E' := law34_BookWords.E) (ct := ct) (p := law34_BookWords.pA) (ts := [48, 25]) (tb := 4) (ms := []) (t := fun (l : law34_BookWords.TA) => law34_BookWords.t l.1.1.1 l.1.1.2.1 l.1.1.2.2.1 l.1.1.2.2.2.1 l.1.1.2.2.2.2.1 l.1.1.2.2.2.2.2.1 l.1.1.2.2.2.2.2.2.1 l.1.1.2.2.2.2.2.2.2.1 l.1.1.2.2.2.2.2.2.2.2.1 l.1.1.2.2.2.2.2.2.2.2.2.1 l.1.1.2.2.2.2.2.2.2.2.2.2.1 l.1.1.2.2.2.2.2.2.2.2.2.2.2.1 l.1.1.2.2.2.2.2.2.2.2.2.2.2.2.1 l.1.1.2.2.2.2.2.2.2.2.2.2.2.2.2.1 l.1.1.2.2.2.2.2.2.2.2.2.2.2.2.2.2.1 l.1.1.2.2.2.2.2.2.2.2.2.2.2.2.2.2.2.1 l.1.1.2.2.2.2.2.2.2.2.2.2.2.2.2.2.2.2.1 l.1.1.2.2.2.2.2.2.2.2.2.2.2.2.2.2.2.2.2.1 l.1.1.2.2.2.2.2.2.2.2.2.2.2.2.2.2.2.2.2.2.1 l.1.1.2.2.2.2.2.2.2.2.2.2.2.2.2.2.2.2.2.2.2.1 l.1.1.2.2.2.2.2.2.2.2.2.2.2.2.2.2.2.2.2.2.2.2.1 l.1.1.2.2.2.2.2.2.2.2.2.2.2.2.2.2.2.2.2.2.2.2.2.1 l.1.1.2.2.2.2.2.2.2.2.2.2.2.2.2.2.2.2.2.2.2.2.2.2.1 l.1.1.2.2.2.2.2.2.2.2.2.2.2.2.2.2.2.2.2.2.2.2.2.2.2.1 l.1.1.2.2.2.2.2.2.2.2.2.2.2.2.2.2.2.2.2.2.2.2.2.2.2.2.1 l.1.1.2.2.2.2.2.2.2.2.2.2.2.2.2.2.2.2.2.2.2.2.2.2.2.2.2.1 l.1.1.2.2.2.2.2.2.2.2.2.2.2.2.2.2.2.2.2.2.2.2.2.2.2.2.2.2.1 l.1.1.2.2.2.2.2.2.2.2.2.2.2.2.2.2.2.2.2.2.2.2.2.2.2.2.2.2.2.1 l.1.1.2.2.2.2.2.2.2.2.2.2.2.2.2.2.2.2.2.2.2.2.2.2.2.2.2.2.2.2.1 l.1.1.2.2.2.2.2.2.2.2.2.2.2.2.2.2.2.2.2.2.2.2.2.2.2.2.2.2.2.2.2.1 l.1.1.2.2.2.2.2.2.2.2.2.2.2.2.2.2.2.2.2.2.2.2.2.2.2.2.2.2.2.2.2.2.1 l.1.2.1) (v := law34_BookWords.v) (hh := law34_BookWords.hh)
    own started (by kernel_rfl) Try.func7 (ChangeSpec.witness6 (enc := enc) (C := Try.checked) false ⟨#[], #[.agg #[.int .i64 0, .int .i64 0, .int .i64 0, .bool false, .int .i64 0, .int .i64 0, .int .i64 0, .int .i64 0, .int .u32 0, .int .u32 0, .int .u32 0, .int .u32 0, .int .u32 0, .int .u32 0, .int .u32 0, .int .u32 0, .int .i64 0, .int .i64 0, .int .i64 0, .int .u32 0, .int .u32 0, .int .u32 0, .int .u32 0, .int .u32 0, .int .u32 0, .int .u32 0, .int .u32 0, .int .i64 0, .int .i64 0, .int .i64 0, .int .i64 0], .slice none 0 0], []⟩ 8 (by kernel_rfl) (by kernel_rfl) (by kernel_rfl) (by kernel_rfl))
    laidOut (by kernel_rfl) (by kernel_rfl) Try.underlying4 rfl (fun ds h => by match ds, h with | [_, _], _ => rfl) (by kernel_rfl) E0_ok full_ok rfl (by kernel_rfl) (by kernel_rfl) law34_BookWords.okF law34_BookWords.hk (fun _ => rfl) plain
theorem over : Rows.bookWordsRow.holds Try.pinned (OpenSpec.ofChange Rows.bookWordsSpec) :=
  OpenClaim.holds_of_wide 7 Try.f7 rfl rfl rfl rfl rfl rfl rfl ⟨rfl, rfl, rfl, rfl, rfl⟩ rfl rfl rfl rfl rfl (by kernel_rfl) Try.func7 (Kn.closed_of (by kernel_rfl))
    (of_decide_eq_true (by kernel_rfl)) (by unfold Func.isWrapper; first | (rw [if_pos (by decide +kernel)]; kernel_rfl) | (rw [if_neg (by decide +kernel)]; exact ⟨rfl, rfl⟩))
    (fun os started H enc _ => lifted os started H enc)
end Go.Proofs.Ytcnomgpbkimmeaa.bookWords
namespace Go.Proofs.Ytcnomgpbkimmeaa
/-- The row, under a short name, for the claim. -/
theorem bookWords_holds : Rows.BookWordsSaid := bookWords.over
#print axioms bookWords_holds
end Go.Proofs.Ytcnomgpbkimmeaa
