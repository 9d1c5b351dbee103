/- The law instar/instarlaw11.JournalNone: whatever the arguments, it returns true, never panics, and its arguments read behind the call as before. -/
import Derived.Test.YtkoidgjgdhpdnaaRows
import Derived.Test.YtkoidgjgdhpdnaaFlaw11JournalNone
import Derived.Test.YtkoidgjgdhpdnaaVd
import Derived.Test.YtkoidgjgdhpdnaaKn
import Derived.Test.YtkoidgjgdhpdnaaJournalNone
namespace Go.Proofs.Ytkoidgjgdhpdnaa.journalNone
open Go Go.Proofs.Ytkoidgjgdhpdnaa.Va
open Go.ChangeShapes Go.WideShapes Go.ChangeAt Go.RowKit
set_option linter.unusedVariables false
theorem own : ownKnob Try.prog.godebug = none := by kernel_rfl
theorem laidOut : laidOutB Try.prog = true := by kernel_rfl
theorem plain (l : law11_JournalNone.TA) (h : wfA E0 [23, 26] law11_JournalNone.pA l.1) : (law11_JournalNone.t l.1.1.1 l.1.1.2.1 l.1.1.2.2.1 l.1.1.2.2.2.1 l.1.1.2.2.2.2.1 l.1.1.2.2.2.2.2.1 l.1.2.1.1 l.1.2.1.2.1 l.1.2.1.2.2.1 l.1.2.1.2.2.2.1).run = some true := by
  obtain ⟨⟨⟨_, h1⟩, ⟨_, h2⟩, ⟨_, h3⟩, ⟨_, h4⟩, ⟨_, h5⟩, ⟨_, h6⟩, _⟩, ⟨⟨_, h7⟩, ⟨_, h8⟩, ⟨_, h9, h10⟩, ⟨_, h12, h13⟩, _⟩, _⟩ := h
  exact Pure.JournalNone _ _ _ _ _ _ _ _ _ _ h1 h2 h3 h4 h5 h6 h7 h8 h9 (fun x10 hx => by obtain ⟨_, h11⟩ := h10 x10 hx; exact h11) h12 (fun x13 hx => by obtain ⟨_, h14⟩ := h13 x13 hx; exact h14)
set_option maxRecDepth 100000 in
theorem lifted (os : Os) (started : os.Started) (H : Type) (enc : TypeId × Value → H) :
    ReturnsInHanded {} Try.checked os 3 .any (Rows.journalNoneSpec.pre6 enc Try.prog Try.f3 Rows.journalNoneRow.domain false) (Rows.journalNoneSpec.post enc Try.prog Try.f3 false true false false) :=
  law_lifted (C := Try.checked) (E := E0) (E' := law11_JournalNone.E) (ct := ct) (p := law11_JournalNone.pA) (ts := [23, 26]) (tb := 4) (ms := []) (t := fun (l : law11_JournalNone.TA) => law11_JournalNone.t l.1.1.1 l.1.1.2.1 l.1.1.2.2.1 l.1.1.2.2.2.1 l.1.1.2.2.2.2.1 l.1.1.2.2.2.2.2.1 l.1.2.1.1 l.1.2.1.2.1 l.1.2.1.2.2.1 l.1.2.1.2.2.2.1) (v := law11_JournalNone.v) (hh := law11_JournalNone.hh)
    own started (by kernel_rfl) Try.func3 (ChangeSpec.witness6 (enc := enc) (C := Try.checked) false ⟨#[], #[.agg #[.int .i64 0, .int .i64 0, .int .i64 0, .int .i64 0, .int .i64 0, .int .i64 0], .agg #[.int .i64 0, .int .i64 0, .slice none 0 0, .slice none 0 0]], []⟩ 8 (by kernel_rfl) (by kernel_rfl) (by kernel_rfl) (by kernel_rfl))
    laidOut (by kernel_rfl) (by kernel_rfl) Try.underlying4 rfl (fun ds h => by match ds, h with | [_, _], _ => rfl) (by kernel_rfl) E0_ok full_ok rfl (by kernel_rfl) (by kernel_rfl) law11_JournalNone.okF law11_JournalNone.hk (fun _ => rfl) plain
theorem over : Rows.journalNoneRow.holds Try.pinned (OpenSpec.ofChange Rows.journalNoneSpec) :=
  OpenClaim.holds_of_wide 3 Try.f3 rfl rfl rfl rfl rfl rfl rfl ⟨rfl, rfl, rfl, rfl, rfl⟩ rfl rfl rfl rfl rfl (by kernel_rfl) Try.func3 (Kn.closed_of (by kernel_rfl))
    (of_decide_eq_true (by kernel_rfl)) (by unfold Func.isWrapper; first | (rw [if_pos (by decide +kernel)]; kernel_rfl) | (rw [if_neg (by decide +kernel)]; exact ⟨rfl, rfl⟩))
    (fun os started H enc _ => lifted os started H enc)
end Go.Proofs.Ytkoidgjgdhpdnaa.journalNone
namespace Go.Proofs.Ytkoidgjgdhpdnaa
/-- The row, under a short name, for the claim. -/
theorem journalNone_holds : Rows.JournalNoneSaid := journalNone.over
#print axioms journalNone_holds
end Go.Proofs.Ytkoidgjgdhpdnaa
