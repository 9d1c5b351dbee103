/- More plain facts: steps of trees, lists. -/
import Derived.Test.YtmlbioapefgioaaQ
namespace Go.Proofs.Ytmlbioapefgioaa.Pure
open Go Go.Proofs.Ytmlbioapefgioaa.Va
set_option linter.unusedVariables false
set_option linter.unusedSimpArgs false

section
variable {α : Type}
theorem dd_pos {p : Prop} {d : Decidable p} {x y : Tw α} (h : p) : (Tw.dd p d x y).run = x.run := by rw [Tw.run_dd, if_pos h]
theorem dd_neg {p : Prop} {d : Decidable p} {x y : Tw α} (h : ¬ p) : (Tw.dd p d x y).run = y.run := by rw [Tw.run_dd, if_neg h]
theorem bb_pos {b : Bool} {x y : Tw α} (h : b = true) : (Tw.bb b x y).run = x.run := by rw [Tw.run_bb, if_pos h]
theorem bb_neg {b : Bool} {x y : Tw α} (h : b = false) : (Tw.bb b x y).run = y.run := by rw [Tw.run_bb, h]; rfl
theorem opt_some {β : Type} {o : Option β} {f : β → Tw α} {x : β} (h : o = some x) : (Tw.opt o f).run = (f x).run := by rw [Tw.run_opt, h]; rfl
end

section
variable {α β γ : Type}
theorem sm_inl {a : α} {f : α → Tw γ} {g : β → Tw γ} : (Tw.sm (.inl a) f g).run = (f a).run := rfl
theorem sm_inr {b : β} {f : α → Tw γ} {g : β → Tw γ} : (Tw.sm (.inr b) f g).run = (g b).run := rfl
end
theorem w32_in {x : Int} (h : InR .u32 x) : w32 x = x := w32_of h.u32.1 h.u32.2
theorem w64_u32 {x : Int} (h : InR .u32 x) : w64 x = x := w64_of (by have := h.u32; omega) (by have := h.u32; omega)
theorem word_in {w : List Int} (hw : Words w) (i : Nat) : InR .u32 (w.getD i 0) := inR_u32 (word_range hw i)
theorem words_nil : Words [] := fun _ h => nomatch h
theorem words_cons {x : Int} {l : List Int} (h : InR .u32 x) (g : Words l) : Words (x :: l) := fun y hy => by
  rcases List.mem_cons.1 hy with rfl | hy
  · exact h
  · exact g y hy
theorem words_append {a b : List Int} (h : Words a) (g : Words b) : Words (a ++ b) := fun y hy => by
  rcases List.mem_append.1 hy with hy | hy
  · exact h y hy
  · exact g y hy
theorem words_drop {l : List Int} (hl : Words l) (i : Nat) : Words (l.drop i) := fun x hx => hl x (List.mem_of_mem_drop hx)
theorem words_set {l : List Int} (hl : Words l) (i : Nat) {x : Int} (h : InR .u32 x) : Words (l.set i x) := fun y hy => by
  rcases List.mem_or_eq_of_mem_set hy with hy | rfl
  · exact hl y hy
  · exact h

/-- A row that grows from a list, element by element. -/
theorem take_snoc {α : Type} {l : List α} {i : Nat} (d : α) (hi : i < l.length) : l.take (i + 1) = l.take i ++ [l.getD i d] := by
  rw [List.take_add_one, List.getElem?_eq_getElem hi, List.getD_eq_getElem?_getD, List.getElem?_eq_getElem hi]
  rfl
theorem getD_some {α : Type} {l : List α} {i : Nat} (d : α) (hi : i < l.length) : l[i]? = some (l.getD i d) := by
  rw [List.getD_eq_getElem?_getD, List.getElem?_eq_getElem hi]
  rfl
section
variable {S X α β : Type}
/-- A loop over a list that appends to a row. -/
theorem Lp_grow (f : S → Option (S ⊕ X)) (st : Nat → List β → S) (l : List α) (g : α → β) (x : X) (a0 : List β)
    (h : ∀ (i : Nat) (a : α), l[i]? = some a → f (st i (a0 ++ (l.take i).map g)) = some (.inl (st (i + 1) (a0 ++ (l.take i).map g ++ [g a])))) (he : f (st l.length (a0 ++ l.map g)) = some (.inr x)) :
    Lp f (st 0 a0) = some x := by
  have := Lp_seq f (fun i => st i (a0 ++ (l.take i).map g)) (x := x) l.length 0 (fun i _ hi => by
    have hi' : i < l.length := by omega
    have e : l[i]? = some l[i] := List.getElem?_eq_getElem hi'
    show f (st i (a0 ++ (l.take i).map g)) = some (.inl (st (i + 1) (a0 ++ (l.take (i + 1)).map g)))
    rw [h i _ e, List.take_add_one, e]
    simp only [Option.toList_some, List.map_append, List.map_cons, List.map_nil, List.append_assoc]) (by
    show f (st (0 + l.length) (a0 ++ (l.take (0 + l.length)).map g)) = _
    rw [Nat.zero_add, List.take_length]
    exact he)
  simpa using this
end
/-- A row of noughts behind a head, filled place by place. -/
theorem set_fill (a : List Int) (m : List Int) (i : Nat) (n : Nat) (x : Int) (hi : i < n) (hm : m.length = i) :
    ((a ++ (m ++ List.replicate (n - i) 0)).set (a.length + i) x) = a ++ ((m ++ [x]) ++ List.replicate (n - (i + 1)) 0) := by
  subst hm
  rw [List.set_append_right _ _ (by omega), show a.length + m.length - a.length = m.length by omega, List.set_append_right _ _ (Nat.le_refl _), Nat.sub_self,
    show n - m.length = (n - (m.length + 1)) + 1 by omega, List.replicate_succ, List.set_cons_zero]
  simp

/-- No more than there are. -/
theorem nodup_le : ∀ (n : Nat) (l : List Nat), l.Nodup → (∀ x ∈ l, x < n) → l.length ≤ n
  | 0, l, _, h => by
    cases l with
    | nil => simp
    | cons x l => exact absurd (h x (by simp)) (by omega)
  | n + 1, l, hn, h => by
    have h1 := nodup_le n (l.erase n) (hn.erase n) (fun x hx => by
      have h1 := (List.Nodup.mem_erase_iff hn).1 hx
      have := h x h1.2
      have := h1.1
      omega)
    rw [List.length_erase] at h1
    split at h1 <;> omega

/-! Bytes of strings. -/
theorem l2b_b2l (s : ByteArray) : l2b (b2l s) = s := by
  unfold l2b b2l
  have : (s.data.toList.map fun (b : UInt8) => ((b.toNat : Nat) : Int)).map (fun n => UInt8.ofNat n.toNat) = s.data.toList := by
    rw [List.map_map]
    conv => rhs; rw [← List.map_id s.data.toList]
    apply List.map_congr_left
    intro x _
    show UInt8.ofNat ((x.toNat : Int).toNat) = x
    rw [Int.toNat_natCast, UInt8.ofNat_toNat]
  rw [this]
theorem b2l_l2b {l : List Int} (h : Bytes l) : b2l (l2b l) = l := by
  unfold l2b b2l
  show ((l.map fun n => UInt8.ofNat n.toNat).toArray.toList).map _ = l
  rw [List.toList_toArray, List.map_map]
  conv => rhs; rw [← List.map_id l]
  apply List.map_congr_left
  intro x hx
  have := (h x hx).u8
  show ((x.toNat % 256 : Nat) : Int) = x
  omega
theorem b2l_len (s : ByteArray) : (b2l s).length = s.size := by simp [b2l]
theorem l2b_size (l : List Int) : (l2b l).size = l.length := by simp [l2b, ByteArray.size]
theorem b2l_bytes (s : ByteArray) : Bytes (b2l s) := by
  intro x hx
  unfold b2l at hx
  obtain ⟨b, _, rfl⟩ := List.mem_map.1 hx
  have := b.toNat_lt
  exact inR_u8 (by omega)

theorem bytes_take {l : List Int} (h : Bytes l) (i : Nat) : Bytes (l.take i) := fun x hx => h x (List.mem_of_mem_take hx)
theorem bytes_drop {l : List Int} (h : Bytes l) (i : Nat) : Bytes (l.drop i) := fun x hx => h x (List.mem_of_mem_drop hx)

end Go.Proofs.Ytmlbioapefgioaa.Pure
