/- The law instar/instarlaw24.PackGreedy, where what it reads is of bulk at most 1048576: it returns true, never panics, and its arguments read behind the call as before. -/
import Derived.Test.YtmlbioapefgioaaRows
import Derived.Test.YtmlbioapefgioaaFlaw24PackGreedy
import Derived.Test.YtmlbioapefgioaaVd
import Derived.Test.YtmlbioapefgioaaKn
import Derived.Test.YtmlbioapefgioaaPackGreedy
namespace Go.Proofs.Ytmlbioapefgioaa.packGreedy
open Go Go.Proofs.Ytmlbioapefgioaa.Va
open Go.ChangeShapes Go.WideShapes Go.ChangeAt Go.RowKit
set_option linter.unusedVariables false
theorem own : ownKnob Try.prog.godebug = none := by kernel_rfl
theorem laidOut : laidOutB Try.prog = true := by kernel_rfl
theorem all_eq {H : Type} : ∀ l : List (DataW H), Rows.uptoBulkAll l = (l.map Rows.uptoBulk).sum
  | [] => by simp [Rows.uptoBulkAll]
  | d :: r => by simp [Rows.uptoBulkAll, all_eq r]
theorem bulk_ok {H : Type} : BulkOK (Rows.uptoBulk (H := H)) where
  one d := by
    cases d with
    | lit l => cases l <;> simp [Rows.uptoBulk]
    | _ => simp [Rows.uptoBulk]
  str b := by simp [Rows.uptoBulk]
  slice es sp := by
    simp only [Rows.uptoBulk, all_eq]
    omega
  agg ps := by
    simp only [Rows.uptoBulk, all_eq]
    omega
theorem small {H : Type} (ds : List (DataW H)) (h : Rows.uptoSmall H ds = true) : (ds.map Rows.uptoBulk).sum ≤ 1048576 := by
  rw [← all_eq]
  exact of_decide_eq_true h
theorem plain (l : law24_PackGreedy.TA) (h : wfA E0 [22, 23, 3] law24_PackGreedy.pA l.1) (hb : ∀ k, bkL E0 k (law24_PackGreedy.pA.ivL l.1) ≤ 1048576) : (law24_PackGreedy.t l.1.1 l.1.2.1 l.1.2.2.1).run = some true := by
  obtain ⟨⟨_, h1, h2⟩, ⟨_, h5, h6⟩, ⟨_, h11⟩, _⟩ := h
  exact Pure.PackGreedy _ _ _ h1 (fun x2 hx => by obtain ⟨⟨_, h3⟩, h4, _⟩ := h2 x2 hx; exact ⟨h3, h4⟩) h5 (fun x6 hx => by obtain ⟨_, h7, h8⟩ := h6 x6 hx; exact ⟨h7, (fun x8 hx => by obtain ⟨⟨_, h9⟩, h10, _⟩ := h8 x8 hx; exact ⟨h9, h10⟩)⟩) h11 hb
set_option maxRecDepth 100000 in
theorem lifted (os : Os) (started : os.Started) (H : Type) (enc : TypeId × Value → H) (F : Stop.Interp) :
    ReturnsInHanded {} Try.checked os 3 .any ((Rows.OpenSpec.upto Rows.packGreedySpec).pre6 enc Try.prog Try.f3 Rows.packGreedyUptoRow.domain false) (((Rows.OpenSpec.upto Rows.packGreedySpec).at F).post enc Try.prog Try.f3 false true false false) :=
  law_upto (C := Try.checked) (E := E0) (E' := law24_PackGreedy.E) (ct := ct) (p := law24_PackGreedy.pA) (ts := [22, 23, 3]) (tb := 4) (ms := []) (t := fun (l : law24_PackGreedy.TA) => law24_PackGreedy.t l.1.1 l.1.2.1 l.1.2.2.1) (v := law24_PackGreedy.v) (hh := law24_PackGreedy.hh) (s := Rows.OpenSpec.upto Rows.packGreedySpec) (F := F) (kk := Rows.uptoSmall) rfl
    own started (by kernel_rfl) Try.func3 (OpenSpec.witness (enc := enc) (C := Try.checked) (s := Rows.OpenSpec.upto Rows.packGreedySpec) (k := Rows.uptoSmall) rfl false ⟨#[], #[.slice none 0 0, .slice none 0 0, .int .i64 0], []⟩ 8 (by kernel_rfl) (by kernel_rfl) (by kernel_rfl)
      (x := ([.nil, .nil, .lit (.int .i64 0)], [], [])) (by kernel_rfl) rfl (by kernel_rfl))
    laidOut (by kernel_rfl) (by kernel_rfl) Try.underlying4 rfl (fun ds h => by match ds, h with | [_, _, _], _ => rfl) (by kernel_rfl) E0_ok full_ok rfl (by kernel_rfl) (by kernel_rfl) law24_PackGreedy.okF law24_PackGreedy.hk (fun _ => rfl) bulk_ok small plain
theorem over : Rows.PackGreedyUptoSaid :=
  OpenClaim.holds_of_cond 3 Try.f3 rfl rfl rfl rfl rfl rfl rfl ⟨rfl, rfl, rfl, rfl, rfl⟩ rfl rfl rfl rfl rfl (by kernel_rfl) Try.func3 (Kn.closed_of (by kernel_rfl))
    (of_decide_eq_true (by kernel_rfl)) (by unfold Func.isWrapper; first | (rw [if_pos (by decide +kernel)]; kernel_rfl) | (rw [if_neg (by decide +kernel)]; exact ⟨rfl, rfl⟩))
    (fun os started H enc _ F => lifted os started H enc F)
end Go.Proofs.Ytmlbioapefgioaa.packGreedy
namespace Go.Proofs.Ytmlbioapefgioaa
/-- The row, under a short name, for the claim. -/
theorem packGreedyUpto_holds : Rows.PackGreedyUptoSaid := packGreedy.over
#print axioms packGreedyUpto_holds
end Go.Proofs.Ytmlbioapefgioaa
