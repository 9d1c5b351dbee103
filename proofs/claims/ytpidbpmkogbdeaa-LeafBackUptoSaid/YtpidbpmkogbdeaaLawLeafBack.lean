/- The law instar/instarlaw23.LeafBack, where what it reads is of bulk at most 1048576: it returns true, never panics, and its arguments read behind the call as before. -/
import Derived.Test.YtpidbpmkogbdeaaRows
import Derived.Test.YtpidbpmkogbdeaaFlaw23
import Derived.Test.YtpidbpmkogbdeaaVd
import Derived.Test.YtpidbpmkogbdeaaKn
import Derived.Test.YtpidbpmkogbdeaaLeafBack
namespace Go.Proofs.Ytpidbpmkogbdeaa.leafBack
open Go Go.Proofs.Ytpidbpmkogbdeaa.Va
open Go.ChangeShapes Go.WideShapes Go.ChangeAt Go.RowKit
set_option linter.unusedVariables false
theorem own : ownKnob Try.prog.godebug = none := by kernel_rfl
theorem laidOut : laidOutB Try.prog = true := by kernel_rfl
theorem all_eq {H : Type} : ∀ l : List (DataW H), Rows.uptoBulkAll l = (l.map Rows.uptoBulk).sum
  | [] => by simp [Rows.uptoBulkAll]
  | d :: r => by simp [Rows.uptoBulkAll, all_eq r]
theorem bulk_ok {H : Type} : BulkOK (Rows.uptoBulk (H := H)) where
  one d := by
    cases d with
    | lit l => cases l <;> simp [Rows.uptoBulk]
    | _ => simp [Rows.uptoBulk]
  str b := by simp [Rows.uptoBulk]
  slice es sp := by
    simp only [Rows.uptoBulk, all_eq]
    omega
  agg ps := by
    simp only [Rows.uptoBulk, all_eq]
    omega
theorem small {H : Type} (ds : List (DataW H)) (h : Rows.uptoSmall H ds = true) : (ds.map Rows.uptoBulk).sum ≤ 1048576 := by
  rw [← all_eq]
  exact of_decide_eq_true h
theorem plain (l : law23_LeafBack.TA) (h : wfA E0 [22, 23] law23_LeafBack.pA l.1) (hb : ∀ k, bkL E0 k (law23_LeafBack.pA.ivL l.1) ≤ 1048576) : (law23_LeafBack.t l.1.1 l.1.2.1).run = some true := by
  obtain ⟨⟨_, h1, h2⟩, ⟨_, h5, h6⟩, _⟩ := h
  exact Pure.LeafBack _ _ h1 (fun x2 hx => by obtain ⟨⟨_, h3⟩, h4, _⟩ := h2 x2 hx; exact ⟨h3, h4⟩) h5 (fun x6 hx => by obtain ⟨_, h7⟩ := h6 x6 hx; exact h7) hb
set_option maxRecDepth 100000 in
theorem lifted (os : Os) (started : os.Started) (H : Type) (enc : TypeId × Value → H) (F : Stop.Interp) :
    ReturnsInHanded {} Try.checked os 4 .any ((Rows.OpenSpec.upto Rows.leafBackSpec).pre6 enc Try.prog Try.f4 Rows.leafBackUptoRow.domain false) (((Rows.OpenSpec.upto Rows.leafBackSpec).at F).post enc Try.prog Try.f4 false true false false) :=
  law_upto (C := Try.checked) (E := E0) (E' := law23_LeafBack.E) (ct := ct) (p := law23_LeafBack.pA) (ts := [22, 23]) (tb := 4) (ms := []) (t := fun (l : law23_LeafBack.TA) => law23_LeafBack.t l.1.1 l.1.2.1) (v := law23_LeafBack.v) (hh := law23_LeafBack.hh) (s := Rows.OpenSpec.upto Rows.leafBackSpec) (F := F) (kk := Rows.uptoSmall) rfl
    own started (by kernel_rfl) Try.func4 (OpenSpec.witness (enc := enc) (C := Try.checked) (s := Rows.OpenSpec.upto Rows.leafBackSpec) (k := Rows.uptoSmall) rfl false ⟨#[], #[.slice none 0 0, .slice none 0 0], []⟩ 8 (by kernel_rfl) (by kernel_rfl) (by kernel_rfl)
      (x := ([.nil, .nil], [], [])) (by kernel_rfl) rfl (by kernel_rfl))
    laidOut (by kernel_rfl) (by kernel_rfl) Try.underlying4 rfl (fun ds h => by match ds, h with | [_, _], _ => rfl) (by kernel_rfl) E0_ok full_ok rfl (by kernel_rfl) (by kernel_rfl) law23_LeafBack.okF law23_LeafBack.hk (fun _ => rfl) bulk_ok small plain
theorem over : Rows.LeafBackUptoSaid :=
  OpenClaim.holds_of_cond 4 Try.f4 rfl rfl rfl rfl rfl rfl rfl ⟨rfl, rfl, rfl, rfl, rfl⟩ rfl rfl rfl rfl rfl (by kernel_rfl) Try.func4 (Kn.closed_of (by kernel_rfl))
    (of_decide_eq_true (by kernel_rfl)) (by unfold Func.isWrapper; first | (rw [if_pos (by decide +kernel)]; kernel_rfl) | (rw [if_neg (by decide +kernel)]; exact ⟨rfl, rfl⟩))
    (fun os started H enc _ F => lifted os started H enc F)
end Go.Proofs.Ytpidbpmkogbdeaa.leafBack
namespace Go.Proofs.Ytpidbpmkogbdeaa
/-- The row, under a short name, for the claim. -/
theorem leafBackUpto_holds : Rows.LeafBackUptoSaid := leafBack.over
#print axioms leafBackUpto_holds
end Go.Proofs.Ytpidbpmkogbdeaa
