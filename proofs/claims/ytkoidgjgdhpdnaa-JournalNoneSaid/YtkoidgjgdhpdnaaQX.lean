/- More plain facts: steps of trees, lists. -/
import Derived.Test.YtkoidgjgdhpdnaaQ
namespace Go.Proofs.Ytkoidgjgdhpdnaa.Pure
open Go Go.Proofs.Ytkoidgjgdhpdnaa.Va
set_option linter.unusedVariables false
set_option linter.unusedSimpArgs false

section
variable {α : Type}
theorem dd_pos {p : Prop} {d : Decidable p} {x y : Tw α} (h : p) : (Tw.dd p d x y).run = x.run := by rw [Tw.run_dd, if_pos h]
theorem dd_neg {p : Prop} {d : Decidable p} {x y : Tw α} (h : ¬ p) : (Tw.dd p d x y).run = y.run := by rw [Tw.run_dd, if_neg h]
theorem bb_pos {b : Bool} {x y : Tw α} (h : b = true) : (Tw.bb b x y).run = x.run := by rw [Tw.run_bb, if_pos h]
theorem bb_neg {b : Bool} {x y : Tw α} (h : b = false) : (Tw.bb b x y).run = y.run := by rw [Tw.run_bb, h]; rfl
theorem opt_some {β : Type} {o : Option β} {f : β → Tw α} {x : β} (h : o = some x) : (Tw.opt o f).run = (f x).run := by rw [Tw.run_opt, h]; rfl
end

section
variable {α β γ : Type}
theorem sm_inl {a : α} {f : α → Tw γ} {g : β → Tw γ} : (Tw.sm (.inl a) f g).run = (f a).run := rfl
theorem sm_inr {b : β} {f : α → Tw γ} {g : β → Tw γ} : (Tw.sm (.inr b) f g).run = (g b).run := rfl
end
theorem word_in {w : List Int} (hw : Words w) (i : Nat) : InR .u32 (w.getD i 0) := inR_u32 (word_range hw i)
theorem words_nil : Words [] := fun _ h => nomatch h
theorem words_cons {x : Int} {l : List Int} (h : InR .u32 x) (g : Words l) : Words (x :: l) := fun y hy => by
  rcases List.mem_cons.1 hy with rfl | hy
  · exact h
  · exact g y hy
theorem words_append {a b : List Int} (h : Words a) (g : Words b) : Words (a ++ b) := fun y hy => by
  rcases List.mem_append.1 hy with hy | hy
  · exact h y hy
  · exact g y hy
theorem words_drop {l : List Int} (hl : Words l) (i : Nat) : Words (l.drop i) := fun x hx => hl x (List.mem_of_mem_drop hx)
theorem words_set {l : List Int} (hl : Words l) (i : Nat) {x : Int} (h : InR .u32 x) : Words (l.set i x) := fun y hy => by
  rcases List.mem_or_eq_of_mem_set hy with hy | rfl
  · exact hl y hy
  · exact h

/-- A row that grows from a list, element by element. -/
theorem take_snoc {α : Type} {l : List α} {i : Nat} (d : α) (hi : i < l.length) : l.take (i + 1) = l.take i ++ [l.getD i d] := by
  rw [List.take_add_one, List.getElem?_eq_getElem hi, List.getD_eq_getElem?_getD, List.getElem?_eq_getElem hi]
  rfl
theorem getD_some {α : Type} {l : List α} {i : Nat} (d : α) (hi : i < l.length) : l[i]? = some (l.getD i d) := by
  rw [List.getD_eq_getElem?_getD, List.getElem?_eq_getElem hi]
  rfl
section
variable {S X α β : Type}
end
/-! Bytes of strings. -/
end Go.Proofs.Ytkoidgjgdhpdnaa.Pure
