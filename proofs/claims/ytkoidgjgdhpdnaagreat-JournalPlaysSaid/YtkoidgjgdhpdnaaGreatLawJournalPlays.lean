/- The law instar/instarlaw11.JournalPlays: whatever the arguments, it returns true, never panics, and its arguments read behind the call as before. -/
import Derived.Test.YtkoidgjgdhpdnaaGreatRows
import Derived.Test.YtkoidgjgdhpdnaaGreatFlaw11JournalPlays
import Derived.Test.YtkoidgjgdhpdnaaGreatVd
import Derived.Test.YtkoidgjgdhpdnaaGreatKn
import Derived.Test.YtkoidgjgdhpdnaaGreatJournalPlays
namespace Go.Proofs.YtkoidgjgdhpdnaaGreat.journalPlays
open Go Go.Proofs.YtkoidgjgdhpdnaaGreat.Va
open Go.ChangeShapes Go.WideShapes Go.ChangeAt Go.RowKit
set_option linter.unusedVariables false
theorem own : ownKnob Tryz.prog.godebug = none := by kernel_rfl
theorem laidOut : laidOutB Tryz.prog = true := by kernel_rfl
theorem plain (l : law11_JournalPlays.TA) (h : wfA E0 [23, 24, 25] law11_JournalPlays.pA l.1) : (law11_JournalPlays.t l.1.1.1 l.1.1.2.1 l.1.1.2.2.1 l.1.1.2.2.2.1 l.1.1.2.2.2.2.1 l.1.1.2.2.2.2.2.1 l.1.2.1 l.1.2.2.1).run = some true := by
  obtain ⟨⟨⟨_, h1⟩, ⟨_, h2⟩, ⟨_, h3⟩, ⟨_, h4⟩, ⟨_, h5⟩, ⟨_, h6⟩, _⟩, ⟨_, h7, h8⟩, ⟨_, h10, h11⟩, _⟩ := h
  exact Pure.JournalPlays _ _ _ _ _ _ _ _ h1 h2 h3 h4 h5 h6 h7 (fun x8 hx => by obtain ⟨_, h9⟩ := h8 x8 hx; exact h9) h10 (fun x11 hx => by obtain ⟨⟨_, h12⟩, ⟨_, h13⟩, ⟨_, h14, h15⟩, ⟨_, h17, h18⟩, _⟩ := h11 x11 hx; exact ⟨h12, h13, h14, (fun x15 hx => by obtain ⟨_, h16⟩ := h15 x15 hx; exact h16), h17, (fun x18 hx => by obtain ⟨_, h19⟩ := h18 x18 hx; exact h19)⟩)
set_option maxRecDepth 100000 in
theorem lifted (os : Os) (started : os.Started) (H : Type) (enc : TypeId × Value → H) :
    ReturnsInHanded {} Tryz.checked os 3 .any (Rows.journalPlaysSpec.pre6 enc Tryz.prog Tryz.f3 Rows.journalPlaysRow.domain false) (Rows.journalPlaysSpec.post enc Tryz.prog Tryz.f3 false true false false) :=
  law_lifted (C := Tryz.checked) (E := E0) (E' := law11_JournalPlays.E) (ct := ct) (p := law11_JournalPlays.pA) (ts := [23, 24, 25]) (tb := 4) (ms := []) (t := fun (l : law11_JournalPlays.TA) => law11_JournalPlays.t l.1.1.1 l.1.1.2.1 l.1.1.2.2.1 l.1.1.2.2.2.1 l.1.1.2.2.2.2.1 l.1.1.2.2.2.2.2.1 l.1.2.1 l.1.2.2.1) (v := law11_JournalPlays.v) (hh := law11_JournalPlays.hh)
    own started (by kernel_rfl) Tryz.func3 (ChangeSpec.witness6 (enc := enc) (C := Tryz.checked) false ⟨#[], #[.agg #[.int .i64 0, .int .i64 0, .int .i64 0, .int .i64 0, .int .i64 0, .int .i64 0], .slice none 0 0, .slice none 0 0], []⟩ 8 (by kernel_rfl) (by kernel_rfl) (by kernel_rfl) (by kernel_rfl))
    laidOut (by kernel_rfl) (by kernel_rfl) Tryz.underlying4 rfl (fun ds h => by match ds, h with | [_, _, _], _ => rfl) (by kernel_rfl) E0_ok full_ok rfl (by kernel_rfl) (by kernel_rfl) law11_JournalPlays.okF law11_JournalPlays.hk (fun _ => rfl) plain
theorem over : Rows.journalPlaysRow.holds Tryz.pinned (OpenSpec.ofChange Rows.journalPlaysSpec) :=
  OpenClaim.holds_of_wide 3 Tryz.f3 rfl rfl rfl rfl rfl rfl rfl ⟨rfl, rfl, rfl, rfl, rfl⟩ rfl rfl rfl rfl rfl (by kernel_rfl) Tryz.func3 (Kn.closed_of (by kernel_rfl))
    (of_decide_eq_true (by kernel_rfl)) (by unfold Func.isWrapper; first | (rw [if_pos (by decide +kernel)]; kernel_rfl) | (rw [if_neg (by decide +kernel)]; exact ⟨rfl, rfl⟩))
    (fun os started H enc _ => lifted os started H enc)
end Go.Proofs.YtkoidgjgdhpdnaaGreat.journalPlays
namespace Go.Proofs.YtkoidgjgdhpdnaaGreat
/-- The row, under a short name, for the claim. -/
theorem journalPlays_holds : Rows.JournalPlaysSaid := journalPlays.over
#print axioms journalPlays_holds
end Go.Proofs.YtkoidgjgdhpdnaaGreat
