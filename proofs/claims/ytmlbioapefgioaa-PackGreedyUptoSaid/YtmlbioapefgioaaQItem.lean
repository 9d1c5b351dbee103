/- Layer 18 (item): what its printed functions come to. -/
import Derived.Test.YtmlbioapefgioaaQ
import Derived.Test.YtmlbioapefgioaaFitem
import Derived.Test.YtmlbioapefgioaaFref18
namespace Go.Proofs.Ytmlbioapefgioaa.Pure
open Go Go.Proofs.Ytmlbioapefgioaa.Va
set_option linter.unusedVariables false
set_option linter.unusedSimpArgs false

noncomputable instance : DecidableEq ItemV := fun a b => Classical.propDecidable _

/-! Keys. -/
def mainR (form id : Int) : Int × Int := if form < 0 ∨ form > 200 ∨ id < 0 ∨ id > 65535 then (0, 2) else (form * 65536 + id, 0)
def sideR (n form id : Int) : Int × Int := if form < 0 ∨ form > 200 ∨ id < 0 ∨ id > 65535 ∨ n < 0 ∨ n > 199 then (0, 2) else ((n + 1) * 16777216 + (form * 65536 + id), 0)
def toldK (k : Int) : Int × (Int × Int) := (k / 16777216 - 1, (k / 65536 % 256, k % 65536))

theorem bShl_16 {a : Int} (h : 0 ≤ a ∧ a ≤ 65535) : bShl .u32 a 16 = a * 65536 := by
  rw [show (16 : Int) = ((16 : Nat) : Int) from rfl, bShl_u32 _ _ (by omega)]
  omega
theorem bShl_24 {a : Int} (h : 0 ≤ a ∧ a ≤ 255) : bShl .u32 a 24 = a * 16777216 := by
  rw [show (24 : Int) = ((24 : Nat) : Int) from rfl, bShl_u32 _ _ (by omega)]
  omega
theorem bShr_16 (a : Int) : bShr .u32 a 16 = a / 65536 := by
  rw [show (16 : Int) = ((16 : Nat) : Int) from rfl, bShr_u32 _ _ (by omega)]
  rfl
theorem bShr_24 (a : Int) : bShr .u32 a 24 = a / 16777216 := by
  rw [show (24 : Int) = ((24 : Nat) : Int) from rfl, bShr_u32 _ _ (by omega)]
  rfl

/-! Lists. -/
abbrev Its (l : List ItemV) : Prop := ∀ x ∈ l, InR .u32 x.key ∧ x.data.size ≤ reachBytes
def nob : ByteArray := ByteArray.mk (List.toArray [])
def findR (l : List ItemV) (k : Int) : ByteArray × Bool := pickO (l.find? fun x => x.key == k) (fun x => (x.data, true)) (nob, false)

/-- Two lists, item by item. -/
theorem same_list (f : Int → Option (Int ⊕ (Unit ⊕ Bool))) (a b : List ItemV) (hlen : a.length = b.length) (h : ∀ (i : Nat) (x y : ItemV), a[i]? = some x → b[i]? = some y → f (i : Int) = some (if x = y then .inl ((i + 1 : Nat) : Int) else .inr (.inr false))) (he : f (a.length : Int) = some (.inr (.inl ()))) :
    Lp f 0 = some (if a = b then .inl () else .inr false) := by
  have d0 : Inhabited ItemV := inferInstance
  have := Lp_find f (fun k => (k : Int)) (fun k => decide (a[k]? ≠ b[k]?)) (fun _ => (.inr false : Unit ⊕ Bool)) (.inl ()) a.length 0 (fun k h1 h2 => ?_) (by rw [Nat.zero_add]; exact he)
  · refine this.trans ?_
    cases hf : (List.range' 0 a.length).find? fun k => decide (a[k]? ≠ b[k]?) with
    | none =>
      rw [List.find?_eq_none] at hf
      rw [if_pos]
      apply List.ext_getElem? fun i => ?_
      by_cases hi : i < a.length
      · have := hf i (by rw [List.mem_range'_1]; omega)
        simpa using this
      · rw [List.getElem?_eq_none (by omega), List.getElem?_eq_none (by omega)]
    | some k =>
      have h := List.find?_some hf
      rw [if_neg]
      rintro rfl
      simp at h
  · have hk : k < a.length := by omega
    have e1 : a[k]? = some a[k] := List.getElem?_eq_getElem hk
    have e2 : b[k]? = some (b[k]'(by omega)) := List.getElem?_eq_getElem _
    rw [h k _ _ e1 e2, e1, e2]
    by_cases hxy : a[k] = b[k]'(by omega)
    · simp [hxy]
    · simp [hxy]

theorem item_beq (x y : ItemV) : (!(x.key == y.key && ((x.data.toList == y.data.toList) && true))) = decide (x ≠ y) := by
  rw [ba_beq]
  by_cases h1 : x.key = y.key
  · by_cases h2 : x.data = y.data
    · have : x = y := by cases x; cases y; simp_all
      simp [this]
    · have : x ≠ y := fun e => h2 (by rw [e])
      simp [h1, h2, this]
  · have : x ≠ y := fun e => h1 (by rw [e])
    simp [h1, this]

theorem ref18_Same_eq {a b : List ItemV} (hl : a.length ≤ 140737488351232) : ref18_Same.c a b = some (decide (a = b)) := by
  simp only [ref18_Same.c, ref18_Same.t, Tw.run_bb, Tw.run_opt, Tw.run_ret]
  by_cases hlen : a.length = b.length
  · rw [if_neg (by simp [hlen])]
    have hL : ref18_Same.L4 a b 0 = some (if a = b then .inl () else .inr false) := by
      refine same_list (fun s => (ref18_Same.l4 a b s).run) a b hlen (fun i x y hx hy => ?_) ?_
      · have hi := (List.getElem?_eq_some_iff.1 hx).1
        simp only [ref18_Same.l4, Tw.run_bb, Tw.run_opt, Tw.run_dd, Tw.run_ret, Tw.run_no, Int.toNat_natCast, hx, hy, Option.bind_some, item_beq, decide_eq_true_eq]
        rw [if_pos (by omega), if_pos (by omega), if_pos (by omega)]
        by_cases h : x = y
        · rw [if_neg (by simpa using h), if_pos h, w64_of (by omega) (by omega)]; rfl
        · rw [if_pos h, if_neg h]
      · simp only [ref18_Same.l4, Tw.run_bb, Tw.run_ret]
        rw [if_neg (by simp)]
    rw [hL]
    simp only [Option.bind_some, Tw.run_sm]
    by_cases h : a = b
    · simp [h, Tw.run_ret]
    · simp [h, Tw.run_ret]
  · rw [if_pos (by simp; omega)]
    have : a ≠ b := fun h => hlen (by rw [h])
    simp [this]

/-- An item that is too long, or does not lie behind the one ahead of it. -/
def badAt (l : List ItemV) (i : Nat) : Bool := match l[i]? with
  | some x => decide (x.data.size > 64) || (decide (0 < i) && match l[i - 1]? with | some y => decide (y.key ≥ x.key) | none => false)
  | none => false
def rightI (l : List ItemV) : Bool := ((List.range' 0 l.length).find? (badAt l)).isNone

theorem right_loop (f : Int → Option (Int ⊕ (Unit ⊕ Bool))) (l : List ItemV) (h : ∀ (i : Nat), i < l.length → f (i : Int) = some (if badAt l i then .inr (.inr false) else .inl ((i + 1 : Nat) : Int))) (he : f (l.length : Int) = some (.inr (.inl ()))) :
    Lp f 0 = some (if rightI l then .inl () else .inr false) := by
  have := Lp_find f (fun k => (k : Int)) (badAt l) (fun _ => (.inr false : Unit ⊕ Bool)) (.inl ()) l.length 0 (fun k h1 h2 => h k (by omega)) (by rw [Nat.zero_add]; exact he)
  refine this.trans ?_
  unfold rightI
  cases (List.range' 0 l.length).find? (badAt l) <;> rfl

theorem item_Right_eq {l : List ItemV} (hl : l.length ≤ 140737488351232) : item_Right.c l = some (rightI l) := by
  have hL : item_Right.L2 l l (l.length : Int) 0 = some (if rightI l then .inl () else .inr false) := by
    refine right_loop (fun s => (item_Right.l2 l l (l.length : Int) s).run) l (fun i hi => ?_) ?_
    · have e : l[i]? = some l[i] := List.getElem?_eq_getElem hi
      simp only [item_Right.l2, Tw.run_bb, Tw.run_dd, Tw.run_opt, Tw.run_ret, Tw.run_no, Int.toNat_natCast, e, Option.bind_some, decide_eq_true_eq]
      rw [if_pos (by omega), if_pos (by omega)]
      simp only [w64_of (show -9223372036854775808 ≤ (i : Int) + 1 by omega) (show (i : Int) + 1 < 9223372036854775808 by omega)]
      unfold badAt
      rw [e]
      by_cases h1 : l[i].data.size > 64
      · rw [if_pos (by omega)]
        simp [h1]
      rw [if_neg (by omega)]
      by_cases h2 : 0 < i
      · have e3 : l[i - 1]? = some (l[i - 1]'(by omega)) := List.getElem?_eq_getElem _
        rw [if_pos (by omega), w64_of (by omega) (by omega), if_pos (by omega), show ((i : Int) - 1).toNat = i - 1 by omega, e3]
        simp only [Option.bind_some]
        by_cases h3 : (l[i - 1]'(by omega)).key ≥ l[i].key
        · simp [h1, h2, h3]
        · simp [h1, h2, h3]
      · rw [if_neg (by omega)]
        simp [h1, h2]
    · simp only [item_Right.l2, Tw.run_bb, Tw.run_ret]
      rw [if_neg (by simp)]
  simp only [item_Right.c, item_Right.t, Tw.run_opt, Tw.run_sm, Tw.run_ret, hL, Option.bind_some]
  cases rightI l <;> rfl

theorem ref18_Right_eq {l : List ItemV} (hl : l.length ≤ 140737488351232) : ref18_Right.c l = some (rightI l) := by
  have hL : ref18_Right.L2 l 0 = some (if rightI l then .inl () else .inr false) := by
    refine right_loop (fun s => (ref18_Right.l2 l s).run) l (fun i hi => ?_) ?_
    · have e : l[i]? = some l[i] := List.getElem?_eq_getElem hi
      simp only [ref18_Right.l2, Tw.run_bb, Tw.run_dd, Tw.run_opt, Tw.run_ret, Tw.run_no, Int.toNat_natCast, e, Option.bind_some, decide_eq_true_eq]
      rw [if_pos (by omega), if_pos (by omega)]
      simp only [w64_of (show -9223372036854775808 ≤ (i : Int) + 1 by omega) (show (i : Int) + 1 < 9223372036854775808 by omega)]
      unfold badAt
      rw [e]
      by_cases h1 : l[i].data.size > 64
      · rw [if_pos (by omega)]
        simp [h1]
      rw [if_neg (by omega)]
      by_cases h2 : 0 < i
      · have e3 : l[i - 1]? = some (l[i - 1]'(by omega)) := List.getElem?_eq_getElem _
        rw [if_pos (by omega), w64_of (by omega) (by omega), if_pos (by omega), show ((i : Int) - 1).toNat = i - 1 by omega, e3]
        simp only [Option.bind_some]
        rw [if_pos (by omega)]
        by_cases h3 : (l[i - 1]'(by omega)).key ≥ l[i].key
        · simp [h1, h2, h3]
        · simp [h1, h2, h3]
      · rw [if_neg (by omega)]
        simp [h1, h2]
    · simp only [ref18_Right.l2, Tw.run_bb, Tw.run_ret]
      rw [if_neg (by simp)]
  simp only [ref18_Right.c, ref18_Right.t, Tw.run_opt, Tw.run_sm, Tw.run_ret, hL, Option.bind_some]
  cases rightI l <;> rfl

def ownK (k : Int) : Bool := k / 16777216 == 0
def putI (l : List ItemV) (a : Int) (b : ByteArray) : List ItemV := (l.filter fun x => decide (x.key < a)) ++ [⟨a, b⟩] ++ (l.filter fun x => decide (x.key > a))
def cutI (l : List ItemV) (a : Int) : List ItemV := l.filter fun x => x.key != a

theorem filters_len (l : List ItemV) (p q : ItemV → Bool) (h : ∀ x, p x = true → q x = false) : (l.filter p).length + (l.filter q).length ≤ l.length := by
  induction l with
  | nil => simp
  | cons x l ih =>
    simp only [List.filter_cons]
    cases hp : p x with
    | true => rw [h x hp]; simp; omega
    | false => cases q x <;> simp <;> omega
theorem put_len (l : List ItemV) (a : Int) : (l.filter fun x => decide (x.key < a)).length + (l.filter fun x => decide (x.key > a)).length ≤ l.length :=
  filters_len l _ _ fun x h => by simp at h ⊢; omega

theorem filter_same {l : List ItemV} {p q : ItemV → Bool} (h : ∀ x ∈ l, p x = q x) : l.filter p = l.filter q := List.filter_congr h
theorem filter_none' {l : List ItemV} {p : ItemV → Bool} (h : ∀ x ∈ l, p x = false) : l.filter p = [] := by
  rw [List.filter_eq_nil_iff]
  intro x hx
  rw [h x hx]
  decide

end Go.Proofs.Ytmlbioapefgioaa.Pure
