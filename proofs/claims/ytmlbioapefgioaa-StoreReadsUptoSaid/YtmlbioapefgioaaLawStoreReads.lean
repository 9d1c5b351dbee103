/- The law instar/instarlaw28.StoreReads, where what it reads is of bulk at most 1048576: it returns true, never panics, and its arguments read behind the call as before. -/
import Derived.Test.YtmlbioapefgioaaRows
import Derived.Test.YtmlbioapefgioaaFlaw28StoreReads
import Derived.Test.YtmlbioapefgioaaVd
import Derived.Test.YtmlbioapefgioaaKn
import Derived.Test.YtmlbioapefgioaaStoreReads
set_option linter.unusedVariables false
namespace Go.Proofs.Ytmlbioapefgioaa.storeReads
open Go Go.Proofs.Ytmlbioapefgioaa.Va
open Go.ChangeShapes Go.WideShapes Go.ChangeAt Go.RowKit
theorem own : ownKnob Try.prog.godebug = none := by kernel_rfl
theorem laidOut : laidOutB Try.prog = true := by kernel_rfl
theorem all_eq {H : Type} : ∀ l : List (DataW H), Rows.uptoBulkAll l = (l.map Rows.uptoBulk).sum
  | [] => by simp [Rows.uptoBulkAll]
  | d :: r => by simp [Rows.uptoBulkAll, all_eq r]
theorem bulk_ok {H : Type} : BulkOK (Rows.uptoBulk (H := H)) where
  one d := by
    cases d with
    | lit l => cases l <;> simp [Rows.uptoBulk]
    | _ => simp [Rows.uptoBulk]
  str b := by simp [Rows.uptoBulk]
  slice es sp := by
    simp only [Rows.uptoBulk, all_eq]
    omega
  agg ps := by
    simp only [Rows.uptoBulk, all_eq]
    omega
theorem small {H : Type} (ds : List (DataW H)) (h : Rows.uptoSmall H ds = true) : (ds.map Rows.uptoBulk).sum ≤ 1048576 := by
  rw [← all_eq]
  exact of_decide_eq_true h
theorem plain (l : law28_StoreReads.TA) (h : wfA E0 [86, 23, 92] law28_StoreReads.pA l.1) (hb : ∀ k, bkL E0 k (law28_StoreReads.pA.ivL l.1) ≤ 1048576) : (law28_StoreReads.t l.1.1.1 l.1.1.2.1 l.1.2.1 l.1.2.2.1.1 l.1.2.2.1.2.1 l.1.2.2.1.2.2.1 l.1.2.2.1.2.2.2.1).run = some true := by
  obtain ⟨⟨⟨_, h1⟩, ⟨_, h2, h3⟩, _⟩, ⟨_, h12, h13⟩, ⟨⟨_, h18⟩, ⟨_, h19⟩, ⟨⟨_, h20⟩, ⟨_, h21, h22⟩, _⟩, _⟩, _⟩ := h
  exact Pure.StoreReads _ _ _ _ _ _ _ h1 h2 (fun x3 hx => by obtain ⟨⟨_, h4⟩, ⟨_, h5, h6⟩, _⟩ := h3 x3 hx; exact ⟨h4, h5, (fun x6 hx => by obtain ⟨⟨_, h7⟩, ⟨_, h8⟩, ⟨_, h9⟩, ⟨_, h10⟩, ⟨_, h11⟩, _⟩ := h6 x6 hx; exact ⟨h7, h8, h9, h10, h11⟩)⟩) h12 (fun x13 hx => by obtain ⟨_, h14, h15⟩ := h13 x13 hx; exact ⟨h14, (fun x15 hx => by obtain ⟨⟨_, h16⟩, h17, _⟩ := h15 x15 hx; exact ⟨h16, h17⟩)⟩) h18 h19 h20 h21 (fun x22 hx => by obtain ⟨⟨_, h23⟩, h24, _⟩ := h22 x22 hx; exact ⟨h23, h24⟩) hb
set_option maxRecDepth 100000 in
theorem lifted (os : Os) (started : os.Started) (H : Type) (enc : TypeId × Value → H) (F : Stop.Interp) :
    ReturnsInHanded {} Try.checked os 10 .any ((Rows.OpenSpec.upto Rows.storeReadsSpec).pre6 enc Try.prog Try.f10 Rows.storeReadsUptoRow.domain false) (((Rows.OpenSpec.upto Rows.storeReadsSpec).at F).post enc Try.prog Try.f10 false true false false) :=
  law_upto (C := Try.checked) (E := E0) (E' := law28_StoreReads.E) (ct := ct) (p := law28_StoreReads.pA) (ts := [86, 23, 92]) (tb := 4) (ms := []) (t := fun (l : law28_StoreReads.TA) => law28_StoreReads.t l.1.1.1 l.1.1.2.1 l.1.2.1 l.1.2.2.1.1 l.1.2.2.1.2.1 l.1.2.2.1.2.2.1 l.1.2.2.1.2.2.2.1) (v := law28_StoreReads.v) (hh := law28_StoreReads.hh) (s := Rows.OpenSpec.upto Rows.storeReadsSpec) (F := F) (kk := Rows.uptoSmall) rfl
    own started (by kernel_rfl) Try.func10 (OpenSpec.witness (enc := enc) (C := Try.checked) (s := Rows.OpenSpec.upto Rows.storeReadsSpec) (k := Rows.uptoSmall) rfl false ⟨#[], #[.agg #[.int .i64 0, .slice none 0 0], .slice none 0 0, .agg #[.int .i64 0, .int .i64 0, .int .i64 0, .slice none 0 0]], []⟩ 8 (by kernel_rfl) (by kernel_rfl) (by kernel_rfl)
      (x := ([.agg [.lit (.int .i64 0), .nil], .nil, .agg [.lit (.int .i64 0), .lit (.int .i64 0), .agg [.lit (.int .i64 0), .nil]]], [], [])) (by kernel_rfl) rfl (by kernel_rfl))
    laidOut (by kernel_rfl) (by kernel_rfl) Try.underlying4 rfl (fun ds h => by match ds, h with | [_, _, _], _ => rfl) (by kernel_rfl) E0_ok full_ok rfl (by kernel_rfl) (by kernel_rfl) law28_StoreReads.okF law28_StoreReads.hk (fun _ => rfl) bulk_ok small plain
theorem over : Rows.StoreReadsUptoSaid :=
  OpenClaim.holds_of_cond 10 Try.f10 rfl rfl rfl rfl rfl rfl rfl ⟨rfl, rfl, rfl, rfl, rfl⟩ rfl rfl rfl rfl rfl (by kernel_rfl) Try.func10 (Kn.closed_of (by kernel_rfl))
    (of_decide_eq_true (by kernel_rfl)) (by unfold Func.isWrapper; first | (rw [if_pos (by decide +kernel)]; kernel_rfl) | (rw [if_neg (by decide +kernel)]; exact ⟨rfl, rfl⟩))
    (fun os started H enc _ F => lifted os started H enc F)
end Go.Proofs.Ytmlbioapefgioaa.storeReads
namespace Go.Proofs.Ytmlbioapefgioaa
/-- The row, under a short name, for the claim. -/
theorem storeReadsUpto_holds : Rows.StoreReadsUptoSaid := storeReads.over
#print axioms storeReadsUpto_holds
end Go.Proofs.Ytmlbioapefgioaa
