/- The law instar/instarlaw11.JournalKeeps: whatever the arguments, it returns true, never panics, and its arguments read behind the call as before. -/
import Derived.Test.YtkoidgjgdhpdnaaGreatRows
import Derived.Test.YtkoidgjgdhpdnaaGreatFlaw11JournalKeeps
import Derived.Test.YtkoidgjgdhpdnaaGreatVd
import Derived.Test.YtkoidgjgdhpdnaaGreatKn
import Derived.Test.YtkoidgjgdhpdnaaGreatJournalKeeps
set_option linter.unusedVariables false
namespace Go.Proofs.YtkoidgjgdhpdnaaGreat.journalKeeps
open Go Go.Proofs.YtkoidgjgdhpdnaaGreat.Va
open Go.ChangeShapes Go.WideShapes Go.ChangeAt Go.RowKit
theorem own : ownKnob Tryz.prog.godebug = none := by kernel_rfl
theorem laidOut : laidOutB Tryz.prog = true := by kernel_rfl
theorem plain (l : law11_JournalKeeps.TA) (h : wfA E0 [23, 25, 42] law11_JournalKeeps.pA l.1) : (law11_JournalKeeps.t l.1.1.1 l.1.1.2.1 l.1.1.2.2.1 l.1.1.2.2.2.1 l.1.1.2.2.2.2.1 l.1.1.2.2.2.2.2.1 l.1.2.1 l.1.2.2.1.1 l.1.2.2.1.2.1 l.1.2.2.1.2.2.1 l.1.2.2.1.2.2.2.1 l.1.2.2.1.2.2.2.2.1 l.1.2.2.1.2.2.2.2.2.1).run = some true := by
  obtain ⟨⟨⟨_, h1⟩, ⟨_, h2⟩, ⟨_, h3⟩, ⟨_, h4⟩, ⟨_, h5⟩, ⟨_, h6⟩, _⟩, ⟨_, h7, h8⟩, ⟨⟨⟨_, h17⟩, ⟨_, h18⟩, ⟨_, h19, h20⟩, ⟨_, h22, h23⟩, _⟩, ⟨_, h25⟩, ⟨_, h26, h27⟩, _⟩, _⟩ := h
  exact Pure.JournalKeeps _ _ _ _ _ _ _ _ _ _ _ _ _ h1 h2 h3 h4 h5 h6 h7 (fun x8 hx => by obtain ⟨⟨_, h9⟩, ⟨_, h10⟩, ⟨_, h11, h12⟩, ⟨_, h14, h15⟩, _⟩ := h8 x8 hx; exact ⟨h9, h10, h11, (fun x12 hx => by obtain ⟨_, h13⟩ := h12 x12 hx; exact h13), h14, (fun x15 hx => by obtain ⟨_, h16⟩ := h15 x15 hx; exact h16)⟩) h17 h18 h19 (fun x20 hx => by obtain ⟨_, h21⟩ := h20 x20 hx; exact h21) h22 (fun x23 hx => by obtain ⟨_, h24⟩ := h23 x23 hx; exact h24) h25 h26 (fun x27 hx => by obtain ⟨_, h28⟩ := h27 x27 hx; exact h28)
set_option maxRecDepth 100000 in
theorem lifted (os : Os) (started : os.Started) (H : Type) (enc : TypeId × Value → H) :
    ReturnsInHanded {} Tryz.checked os 4 .any (Rows.journalKeepsSpec.pre6 enc Tryz.prog Tryz.f4 Rows.journalKeepsRow.domain false) (Rows.journalKeepsSpec.post enc Tryz.prog Tryz.f4 false true false false) :=
  law_lifted (C := Tryz.checked) (E := E0) (E' := law11_JournalKeeps.E) (ct := ct) (p := law11_JournalKeeps.pA) (ts := [23, 25, 42]) (tb := 4) (ms := []) (t := fun (l : law11_JournalKeeps.TA) => law11_JournalKeeps.t l.1.1.1 l.1.1.2.1 l.1.1.2.2.1 l.1.1.2.2.2.1 l.1.1.2.2.2.2.1 l.1.1.2.2.2.2.2.1 l.1.2.1 l.1.2.2.1.1 l.1.2.2.1.2.1 l.1.2.2.1.2.2.1 l.1.2.2.1.2.2.2.1 l.1.2.2.1.2.2.2.2.1 l.1.2.2.1.2.2.2.2.2.1) (v := law11_JournalKeeps.v) (hh := law11_JournalKeeps.hh)
    own started (by kernel_rfl) Tryz.func4 (ChangeSpec.witness6 (enc := enc) (C := Tryz.checked) false ⟨#[], #[.agg #[.int .i64 0, .int .i64 0, .int .i64 0, .int .i64 0, .int .i64 0, .int .i64 0], .slice none 0 0, .agg #[.int .i64 0, .int .i64 0, .slice none 0 0, .slice none 0 0, .int .i64 0, .slice none 0 0]], []⟩ 8 (by kernel_rfl) (by kernel_rfl) (by kernel_rfl) (by kernel_rfl))
    laidOut (by kernel_rfl) (by kernel_rfl) Tryz.underlying4 rfl (fun ds h => by match ds, h with | [_, _, _], _ => rfl) (by kernel_rfl) E0_ok full_ok rfl (by kernel_rfl) (by kernel_rfl) law11_JournalKeeps.okF law11_JournalKeeps.hk (fun _ => rfl) plain
theorem over : Rows.journalKeepsRow.holds Tryz.pinned (OpenSpec.ofChange Rows.journalKeepsSpec) :=
  OpenClaim.holds_of_wide 4 Tryz.f4 rfl rfl rfl rfl rfl rfl rfl ⟨rfl, rfl, rfl, rfl, rfl⟩ rfl rfl rfl rfl rfl (by kernel_rfl) Tryz.func4 (Kn.closed_of (by kernel_rfl))
    (of_decide_eq_true (by kernel_rfl)) (by unfold Func.isWrapper; first | (rw [if_pos (by decide +kernel)]; kernel_rfl) | (rw [if_neg (by decide +kernel)]; exact ⟨rfl, rfl⟩))
    (fun os started H enc _ => lifted os started H enc)
end Go.Proofs.YtkoidgjgdhpdnaaGreat.journalKeeps
namespace Go.Proofs.YtkoidgjgdhpdnaaGreat
/-- The row, under a short name, for the claim. -/
theorem journalKeeps_holds : Rows.JournalKeepsSaid := journalKeeps.over
#print axioms journalKeeps_holds
end Go.Proofs.YtkoidgjgdhpdnaaGreat
