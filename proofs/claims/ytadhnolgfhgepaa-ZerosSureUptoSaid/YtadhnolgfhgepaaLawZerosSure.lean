/- The law instar/instarlaw02.ZerosSure, where what it reads is of bulk at most 1048576: it returns true, never panics, and its arguments read behind the call as before. -/
import Derived.Test.YtadhnolgfhgepaaRows
import Derived.Test.YtadhnolgfhgepaaFlaw02
import Derived.Test.YtadhnolgfhgepaaVd
import Derived.Test.YtadhnolgfhgepaaZerosSure
namespace Go.Proofs.Ytadhnolgfhgepaa.zerosSure
open Go Go.Proofs.Ytadhnolgfhgepaa.Va
open Go.ChangeShapes Go.WideShapes Go.ChangeAt Go.RowKit
set_option linter.unusedVariables false
theorem own : ownKnob Try.prog.godebug = none := by kernel_rfl
theorem laidOut : laidOutB Try.prog = true := by kernel_rfl
theorem all_eq {H : Type} : ∀ l : List (DataW H), Rows.uptoBulkAll l = (l.map Rows.uptoBulk).sum
  | [] => by simp [Rows.uptoBulkAll]
  | d :: r => by simp [Rows.uptoBulkAll, all_eq r]
theorem bulk_ok {H : Type} : BulkOK (Rows.uptoBulk (H := H)) where
  one d := by
    cases d with
    | lit l => cases l <;> simp [Rows.uptoBulk]
    | _ => simp [Rows.uptoBulk]
  str b := by simp [Rows.uptoBulk]
  slice es sp := by
    simp only [Rows.uptoBulk, all_eq]
    omega
  agg ps := by
    simp only [Rows.uptoBulk, all_eq]
    omega
theorem small {H : Type} (ds : List (DataW H)) (h : Rows.uptoSmall H ds = true) : (ds.map Rows.uptoBulk).sum ≤ 1048576 := by
  rw [← all_eq]
  exact of_decide_eq_true h
theorem plain (l : law02_ZerosSure.TA) (h : wfA E0 [30, 30] law02_ZerosSure.pA l.1) (hb : ∀ k, bkL E0 k (law02_ZerosSure.pA.ivL l.1) ≤ 1048576) : (law02_ZerosSure.t l.1.1 l.1.2.1).run = some true := by
  obtain ⟨⟨_, h1, h2⟩, ⟨_, h4, h5⟩, _⟩ := h
  exact Pure.ZerosSure _ _ h1 (fun x2 hx => by obtain ⟨_, h3⟩ := h2 x2 hx; exact h3) h4 (fun x5 hx => by obtain ⟨_, h6⟩ := h5 x5 hx; exact h6) hb
set_option maxRecDepth 100000 in
theorem lifted (os : Os) (started : os.Started) (H : Type) (enc : TypeId × Value → H) (F : Stop.Interp) :
    ReturnsInHanded {} Try.checked os 7 .any ((Rows.OpenSpec.upto Rows.zerosSureSpec).pre6 enc Try.prog Try.f7 Rows.zerosSureUptoRow.domain false) (((Rows.OpenSpec.upto Rows.zerosSureSpec).at F).post enc Try.prog Try.f7 false true false false) :=
  law_upto (C := Try.checked) (E := E0) (E' := law02_ZerosSure.E) (ct := ct) (p := law02_ZerosSure.pA) (ts := [30, 30]) (tb := 4) (ms := []) (t := fun (l : law02_ZerosSure.TA) => law02_ZerosSure.t l.1.1 l.1.2.1) (v := law02_ZerosSure.v) (hh := law02_ZerosSure.hh) (s := Rows.OpenSpec.upto Rows.zerosSureSpec) (F := F) (kk := Rows.uptoSmall) rfl
    own started (by kernel_rfl) Try.func7 (OpenSpec.witness (enc := enc) (C := Try.checked) (s := Rows.OpenSpec.upto Rows.zerosSureSpec) (k := Rows.uptoSmall) rfl false ⟨#[], #[.slice none 0 0, .slice none 0 0], []⟩ 8 (by kernel_rfl) (by kernel_rfl) (by kernel_rfl)
      (x := ([.nil, .nil], [], [])) (by kernel_rfl) rfl (by kernel_rfl))
    laidOut (by kernel_rfl) (by kernel_rfl) Try.underlying4 rfl (fun ds h => by match ds, h with | [_, _], _ => rfl) (by kernel_rfl) E0_ok full_ok rfl (by kernel_rfl) (by kernel_rfl) law02_ZerosSure.okF law02_ZerosSure.hk (fun _ => rfl) bulk_ok small plain
theorem over : Rows.ZerosSureUptoSaid :=
  OpenClaim.holds_of_cond 7 Try.f7 rfl rfl rfl rfl rfl rfl rfl ⟨rfl, rfl, rfl, rfl, rfl⟩ rfl rfl rfl rfl rfl (by kernel_rfl) Try.func7 (by kernel_rfl)
    (of_decide_eq_true (by kernel_rfl)) (by unfold Func.isWrapper; first | (rw [if_pos (by decide +kernel)]; kernel_rfl) | (rw [if_neg (by decide +kernel)]; exact ⟨rfl, rfl⟩))
    (fun os started H enc _ F => lifted os started H enc F)
end Go.Proofs.Ytadhnolgfhgepaa.zerosSure
namespace Go.Proofs.Ytadhnolgfhgepaa
/-- The row, under a short name, for the claim. -/
theorem zerosSureUpto_holds : Rows.ZerosSureUptoSaid := zerosSure.over
#print axioms zerosSureUpto_holds
end Go.Proofs.Ytadhnolgfhgepaa
