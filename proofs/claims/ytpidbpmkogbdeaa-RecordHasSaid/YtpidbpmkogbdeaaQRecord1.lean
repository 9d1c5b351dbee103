/- Layers 13, 14: what the printed functions of forms and records come to. -/
import Derived.Test.YtpidbpmkogbdeaaQRecord
import Derived.Test.YtpidbpmkogbdeaaFrecord
import Derived.Test.YtpidbpmkogbdeaaFref14
import Derived.Test.YtpidbpmkogbdeaaFslices
import Derived.Test.YtpidbpmkogbdeaaQAwake12
namespace Go.Proofs.Ytpidbpmkogbdeaa.Pure
open Go Go.Proofs.Ytpidbpmkogbdeaa.Va
set_option linter.unusedVariables false
set_option linter.unusedSimpArgs false

open Classical in
noncomputable instance (d : Int) (l : List FieldV) : Decidable (fineF d l) := Classical.propDecidable _
open Classical in
/-- A loop that asks of each place. -/
theorem Lp_all {S : Type} (f : S → Option (S ⊕ (Unit ⊕ Bool))) (st : Nat → S) (p : Nat → Prop) (n : Nat)
    (h : ∀ k, k < n → f (st k) = some (if p k then .inl (st (k + 1)) else .inr (.inr false))) (he : f (st n) = some (.inr (.inl ()))) :
    Lp f (st 0) = some (if ∀ k, k < n → p k then .inl () else .inr false) := by
  have := Lp_find f st (fun k => decide (¬ p k)) (fun _ => (Sum.inr false : Unit ⊕ Bool)) (.inl ()) n 0 (fun k _ hk => by
    rw [h k (by omega)]
    by_cases hp : p k
    · rw [if_pos hp, if_neg (by simpa using hp)]
    · rw [if_neg hp, if_pos (by simpa using hp)]) (by rw [Nat.zero_add]; exact he)
  rw [this]
  cases e : (List.range' 0 n).find? fun k => decide (¬ p k) with
  | none =>
    rw [List.find?_eq_none] at e
    rw [if_pos (fun k hk => by
      have := e k (List.mem_range'.2 ⟨k, by omega, by omega⟩)
      simpa using this)]
  | some k =>
    have h1 := List.find?_some e
    have h2 := List.mem_of_find?_eq_some e
    rw [if_neg (fun hh => by
      obtain ⟨i, hi, rfl⟩ := List.mem_range'.1 h2
      exact (of_decide_eq_true h1) (hh _ (by omega)))]

/-- The fields' numbers seen so far. -/
def marks (l : List FieldV) : List Bool := (List.range 256).map fun (j : Nat) => l.any fun y => y.id == (j : Int)
theorem marks_nil : marks [] = List.replicate 256 false := by
  unfold marks
  apply List.ext_getElem?
  intro i
  rw [List.getElem?_map, List.getElem?_replicate]
  by_cases h : i < 256
  · rw [List.getElem?_range h, if_pos h]; rfl
  · rw [List.getElem?_eq_none (by simpa using h), if_neg h]; rfl
theorem marks_get (l : List FieldV) {i : Nat} (h : i < 256) : (marks l)[i]? = some (l.any fun y => y.id == (i : Int)) := by
  unfold marks
  rw [List.getElem?_map, List.getElem?_range h]
  rfl
theorem marks_set {l : List FieldV} {x : FieldV} {j : Nat} (hj : j < 256) (hx : x.id = (j : Int)) : (marks l).set j true = marks (l ++ [x]) := by
  apply List.ext_getElem?
  intro i
  by_cases h : i < 256
  · rw [marks_get _ h, List.getElem?_set]
    by_cases hji : j = i
    · subst hji
      rw [if_pos rfl, if_pos (by simp [marks, hj])]
      simp [hx]
    · rw [if_neg hji, marks_get _ h]
      have : (x.id == (i : Int)) = false := by
        rw [beq_eq_false_iff_ne]
        omega
      simp [this]
  · rw [List.getElem?_eq_none (by simp [marks]; omega), List.getElem?_eq_none (by simp [marks]; omega)]
/-- A field that may come next. -/
def nextOK (l : List FieldV) (i : Nat) : Prop := ∀ x, l[i]? = some x → rgtV x ∧ ∀ y ∈ l.take i, y.id ≠ x.id
theorem fldOK_all (l : List FieldV) : (∀ k, k < l.length → nextOK l k) ↔ fldOK l := by
  have key : ∀ n, n ≤ l.length → ((∀ k, k < n → nextOK l k) ↔ fldOK (l.take n)) := by
    intro n
    induction n with
    | zero => intro _; simp [fldOK]
    | succ n ih =>
      intro hn
      have hx : l[n]? = some l[n] := List.getElem?_eq_getElem (by omega)
      rw [fldOK_snoc hx, ← ih (by omega)]
      constructor
      · intro h
        exact ⟨fun k hk => h k (by omega), h n (by omega) _ hx⟩
      · rintro ⟨h1, h2⟩ k hk
        by_cases hkn : k = n
        · subst hkn
          intro x hx'
          rw [hx] at hx'
          cases hx'
          exact h2
        · exact h1 k (by omega)
  have := key l.length (Nat.le_refl _)
  rwa [List.take_length] at this
open Classical in
theorem schema_Fine_L5 {l : List FieldV} (hl : l.length ≤ 8) : schema_Fine.L5 0 l (l.length : Int) 0 (List.replicate 256 false) = some (if fldOK l then .inl () else .inr false) := by
  unfold schema_Fine.L5
  have := Lp_all (fun s : Int × List Bool => (schema_Fine.l5 0 l (l.length : Int) s.1 s.2).run) (fun i : Nat => ((i : Int), marks (l.take i))) (nextOK l) l.length (fun i hi => by
    have hx : l[i]? = some l[i] := List.getElem?_eq_getElem hi
    have e : w64 ((i : Int) + 1) = ((i + 1 : Nat) : Int) := by rw [w64_of (by omega) (by omega)]; rfl
    simp only [schema_Fine.l5]
    rw [bb_pos (decide_eq_true (by omega)), dd_pos (by omega), Int.toNat_natCast, opt_some hx, opt_some (field_Right_eq ..)]
    by_cases hr : rgtV l[i]
    rotate_left
    · rw [if_neg (fun h => hr (h _ hx).1), show decide (rgtF l[i].id l[i].kind l[i].lo l[i].hi l[i].most) = false from decide_eq_false hr, bb_pos (by rfl), Tw.run_ret]
    have hid : 0 ≤ l[i].id ∧ l[i].id ≤ 255 := hr.1
    obtain ⟨j, hj⟩ := Int.eq_ofNat_of_zero_le hid.1
    have hm := marks_get (l.take i) (i := j) (by omega)
    rw [show decide (rgtF l[i].id l[i].kind l[i].lo l[i].hi l[i].most) = true from decide_eq_true hr, bb_neg (by rfl), dd_pos (by omega), hj, Int.toNat_natCast, Nat.zero_add, opt_some hm]
    by_cases hs : ((l.take i).any fun y => y.id == (j : Int)) = true
    · rw [hs, bb_pos (by rfl), Tw.run_ret, if_neg]
      intro h
      rw [List.any_eq_true] at hs
      obtain ⟨y, hy, he⟩ := hs
      exact (h _ hx).2 y hy (by rw [hj]; simpa using he)
    · have hs' : ((l.take i).any fun y => y.id == (j : Int)) = false := by simpa using hs
      rw [hs', bb_neg (by rfl), dd_pos (by omega), opt_some hm, Tw.run_ret, if_pos, e, marks_set (by omega) hj, List.take_add_one, hx]
      · rfl
      · intro x hx'
        rw [hx] at hx'
        cases hx'
        refine ⟨hr, fun y hy he => hs ?_⟩
        rw [List.any_eq_true]
        exact ⟨y, hy, by rw [he, hj]; simp⟩) (by
    simp only [schema_Fine.l5]
    rw [bb_neg (decide_eq_false (by omega)), Tw.run_ret])
  rw [List.take_zero, marks_nil] at this
  refine Eq.trans this ?_
  simp only [fldOK_all l]
theorem schema_Fine_eq (d : Int) (l : List FieldV) : schema_Fine.c d l = some (decide (fineF d l)) := by
  simp only [schema_Fine.c, schema_Fine.t]
  by_cases h1 : d < 0
  · rw [bb_pos (decide_eq_true h1), Tw.run_ret, decide_eq_false (fun h => by have := h.1; omega)]
  rw [bb_neg (decide_eq_false h1)]
  by_cases h2 : d > 200
  · rw [bb_pos (decide_eq_true h2), Tw.run_ret, decide_eq_false (fun h => by have := h.1; omega)]
  rw [bb_neg (decide_eq_false h2)]
  by_cases h3 : ((l.length : Nat) : Int) < 1
  · rw [bb_pos (decide_eq_true h3), Tw.run_ret, decide_eq_false (fun h => by have := h.2.1; omega)]
  rw [bb_neg (decide_eq_false h3)]
  by_cases h4 : ((l.length : Nat) : Int) > 8
  · rw [bb_pos (decide_eq_true h4), Tw.run_ret, decide_eq_false (fun h => by have := h.2.1; omega)]
  rw [bb_neg (decide_eq_false h4), opt_some (schema_Long_eq d (by omega))]
  by_cases h5 : lonL l > 64
  · rw [bb_pos (decide_eq_true h5), Tw.run_ret, decide_eq_false (fun h => by have := h.2.2.2; omega)]
  rw [bb_neg (decide_eq_false h5), opt_some (schema_Fine_L5 (by omega))]
  by_cases h6 : fldOK l
  · rw [if_pos h6, sm_inl, Tw.run_ret, decide_eq_true ⟨by omega, by omega, h6, by omega⟩]
  · rw [if_neg h6, sm_inr, Tw.run_ret, decide_eq_false (fun h => h6 h.2.2.1)]

theorem ref13_At_eq (d k : Int) {l : List FieldV} (hl : l.length ≤ 1000) : ref13_At.c d l k = some (match (List.range' 0 l.length).find? (fun i => (l.getD i ⟨0, 0, 0, 0, 0⟩).id == k) with | some i => (i : Int) | none => -1) := by
  simp only [ref13_At.c, ref13_At.t]
  have : ref13_At.L2 k 0 d l = some (match (List.range' 0 l.length).find? (fun i => (l.getD i ⟨0, 0, 0, 0, 0⟩).id == k) with | some i => .inr (i : Int) | none => .inl ()) := by
    unfold ref13_At.L2
    refine Lp_find (fun s => (ref13_At.l2 k d l s).run) (fun i : Nat => (i : Int)) (fun i => (l.getD i ⟨0, 0, 0, 0, 0⟩).id == k) (fun i => (Sum.inr (i : Int) : Unit ⊕ Int)) (.inl ()) l.length 0 (fun i _ hi => ?_) ?_
    · have e : w64 ((i : Int) + 1) = ((i + 1 : Nat) : Int) := by rw [w64_of (by omega) (by omega)]; rfl
      simp only [ref13_At.l2]
      rw [bb_pos (decide_eq_true (by omega)), dd_pos (by omega), Int.toNat_natCast, opt_some (getD_some ⟨0, 0, 0, 0, 0⟩ (by omega : i < l.length))]
      cases hk : ((l.getD i ⟨0, 0, 0, 0, 0⟩).id == k)
      · rw [bb_neg (by rfl), Tw.run_ret, e]; rfl
      · rw [bb_pos (by rfl), Tw.run_ret]; rfl
    · simp only [ref13_At.l2, Nat.zero_add]
      rw [bb_neg (decide_eq_false (by omega)), Tw.run_ret]
  rw [opt_some this]
  cases (List.range' 0 l.length).find? (fun i => (l.getD i ⟨0, 0, 0, 0, 0⟩).id == k) with
  | none => rw [sm_inl, Tw.run_ret]
  | some i => rw [sm_inr, Tw.run_ret]
theorem at_self {l : List FieldV} {i : Nat} {x : FieldV} (hx : l[i]? = some x) : ((match (List.range' 0 l.length).find? (fun i => (l.getD i ⟨0, 0, 0, 0, 0⟩).id == x.id) with | some i => (i : Int) | none => -1) = (i : Int)) ↔ ∀ y ∈ l.take i, y.id ≠ x.id := by
  have hi := (List.getElem?_eq_some_iff.1 hx).1
  have hd : l.getD i ⟨0, 0, 0, 0, 0⟩ = x := by rw [List.getD_eq_getElem?_getD, hx]; rfl
  constructor
  · intro h y hy he
    obtain ⟨j, hj, hyj⟩ := List.getElem_of_mem hy
    rw [List.length_take] at hj
    have hyj' : l.getD j ⟨0, 0, 0, 0, 0⟩ = y := by
      rw [List.getElem_take] at hyj
      rw [List.getD_eq_getElem?_getD, List.getElem?_eq_getElem (by omega), ← hyj]; rfl
    split at h
    · rename_i k hk
      have hk' : k = i := by omega
      subst hk'
      have := (List.find?_eq_some_iff_append.1 hk).2
      obtain ⟨pre, post, h1, h2⟩ := this
      have hjm : j ∈ pre := by
        have hm : j ∈ List.range' 0 l.length := List.mem_range'.2 ⟨j, by omega, by omega⟩
        rw [h1] at hm
        rcases List.mem_append.1 hm with hm | hm
        · exact hm
        · exfalso
          have hp : List.Pairwise (· < ·) (List.range' 0 l.length) := List.pairwise_lt_range'
          rw [h1] at hp
          rcases List.mem_cons.1 hm with rfl | hm
          · omega
          · have := (List.pairwise_append.1 hp).2.1
            have := (List.pairwise_cons.1 this).1 j hm
            omega
      have := h2 j hjm
      rw [hyj', he] at this
      simp at this
    · omega
  · intro h
    have : (List.range' 0 l.length).find? (fun i => (l.getD i ⟨0, 0, 0, 0, 0⟩).id == x.id) = some i := by
      rw [List.find?_eq_some_iff_append]
      refine ⟨by rw [hd]; simp, List.range' 0 i, List.range' (i + 1) (l.length - (i + 1)), ?_, ?_⟩
      · have e1 : l.length = i + ((l.length - (i + 1)) + 1) := by omega
        conv => lhs; rw [e1]
        rw [← List.range'_append, List.range'_succ]
        simp
      · intro j hj
        obtain ⟨k, hk, rfl⟩ := List.mem_range'.1 hj
        have hmem : l.getD (0 + 1 * k) ⟨0, 0, 0, 0, 0⟩ ∈ l.take i := by
          rw [List.getD_eq_getElem?_getD, List.getElem?_eq_getElem (by omega)]
          rw [List.mem_take_iff_getElem]
          exact ⟨0 + 1 * k, by omega, rfl⟩
        have := h _ hmem
        simpa using this
    rw [this]
open Classical in
theorem ref13_Fine_L4 (d : Int) {l : List FieldV} (hl : l.length ≤ 8) : ref13_Fine.L4 0 d l = some (if fldOK l then .inl () else .inr false) := by
  unfold ref13_Fine.L4
  have := Lp_all (fun s => (ref13_Fine.l4 d l s).run) (fun i : Nat => (i : Int)) (nextOK l) l.length (fun i hi => by
    have hx : l[i]? = some l[i] := List.getElem?_eq_getElem hi
    have e : w64 ((i : Int) + 1) = ((i + 1 : Nat) : Int) := by rw [w64_of (by omega) (by omega)]; rfl
    have hat := at_self hx
    simp only [ref13_Fine.l4]
    rw [bb_pos (decide_eq_true (by omega)), dd_pos (by omega), Int.toNat_natCast, opt_some hx, opt_some (ref12_Right_eq ..)]
    by_cases hr : rgtV l[i]
    rotate_left
    · rw [if_neg (fun h => hr (h _ hx).1), show decide (rgtF l[i].id l[i].kind l[i].lo l[i].hi l[i].most) = false from decide_eq_false hr, bb_pos (by rfl), Tw.run_ret]
    rw [show decide (rgtF l[i].id l[i].kind l[i].lo l[i].hi l[i].most) = true from decide_eq_true hr, bb_neg (by rfl), dd_pos (by omega), opt_some hx, opt_some (ref13_At_eq d _ (by omega))]
    generalize hqq : (match (List.range' 0 l.length).find? (fun j => (l.getD j ⟨0, 0, 0, 0, 0⟩).id == l[i].id) with | some i => (i : Int) | none => -1) = q at *
    by_cases hq : q = (i : Int)
    · rw [bb_neg (by simpa using hq), Tw.run_ret, e, if_pos]
      intro x hx'
      rw [hx] at hx'
      cases hx'
      exact ⟨hr, hat.1 hq⟩
    · rw [bb_pos (by simpa using hq), Tw.run_ret, if_neg]
      exact fun h => hq (hat.2 (h _ hx).2)) (by
    simp only [ref13_Fine.l4]
    rw [bb_neg (decide_eq_false (by omega)), Tw.run_ret])
  refine Eq.trans this ?_
  simp only [fldOK_all l]
theorem ref13_Fine_eq (d : Int) (l : List FieldV) : ref13_Fine.c d l = some (decide (fineF d l)) := by
  simp only [ref13_Fine.c, ref13_Fine.t]
  by_cases h1 : d < 0
  · rw [bb_pos (decide_eq_true h1), Tw.run_ret, decide_eq_false (fun h => by have := h.1; omega)]
  rw [bb_neg (decide_eq_false h1)]
  by_cases h2 : d > 200
  · rw [bb_pos (decide_eq_true h2), Tw.run_ret, decide_eq_false (fun h => by have := h.1; omega)]
  rw [bb_neg (decide_eq_false h2)]
  by_cases h3 : ((l.length : Nat) : Int) < 1
  · rw [bb_pos (decide_eq_true h3), Tw.run_ret, decide_eq_false (fun h => by have := h.2.1; omega)]
  rw [bb_neg (decide_eq_false h3)]
  by_cases h4 : ((l.length : Nat) : Int) > 8
  · rw [bb_pos (decide_eq_true h4), Tw.run_ret, decide_eq_false (fun h => by have := h.2.1; omega)]
  rw [bb_neg (decide_eq_false h4), opt_some (ref13_Fine_L4 d (by omega))]
  by_cases h6 : fldOK l
  · rw [if_pos h6, sm_inl, opt_some (ref13_Long_eq d (by omega)), Tw.run_ret]
    congr 1
    rw [decide_eq_decide]
    exact ⟨fun h => ⟨by omega, by omega, h6, h⟩, fun h => h.2.2.2⟩
  · rw [if_neg h6, sm_inr, Tw.run_ret, decide_eq_false (fun h => h6 h.2.2.1)]

/-! Records. -/
def hasV (x : FieldV) (v : ValueV) : Prop := hasF x.id x.kind x.lo x.hi x.most v.n v.s
def layV (x : FieldV) (v : ValueV) : List Int := layF x.kind x.lo x.hi x.most v.n v.s
def takV (x : FieldV) (b : List Int) : Int × (ByteArray × (Int × Int)) := takF x.id x.kind x.lo x.hi x.most b
def lstV (x : FieldV) : ValueV := ⟨(lstF x.id x.kind x.lo x.hi x.most).1, (lstF x.id x.kind x.lo x.hi x.most).2⟩
def hasL : List FieldV → List ValueV → Prop
  | [], [] => True
  | x :: l, v :: vs => hasV x v ∧ hasL l vs
  | _, _ => False
def layR : List FieldV → List ValueV → List Int
  | x :: l, v :: vs => layV x v ++ layR l vs
  | _, _ => []
theorem hasL_iff : ∀ (l : List FieldV) (vs : List ValueV), hasL l vs ↔ vs.length = l.length ∧ ∀ i, i < vs.length → ∀ x v, l[i]? = some x → vs[i]? = some v → hasV x v
  | [], [] => by simp [hasL]
  | [], v :: vs => by simp [hasL]
  | x :: l, [] => by simp [hasL]
  | x :: l, v :: vs => by
    have ih := hasL_iff l vs
    show hasV x v ∧ hasL l vs ↔ _
    rw [ih]
    constructor
    · rintro ⟨h1, h2, h3⟩
      refine ⟨by simp [h2], fun i hi x' v' hx hv => ?_⟩
      cases i with
      | zero => cases hx; cases hv; exact h1
      | succ i => exact h3 i (by simpa using hi) x' v' (by simpa using hx) (by simpa using hv)
    · rintro ⟨h2, h3⟩
      refine ⟨h3 0 (by simp) x v rfl rfl, by simpa using h2, fun i hi x' v' hx hv => h3 (i + 1) (by simpa using hi) x' v' (by simpa using hx) (by simpa using hv)⟩
theorem layR_take : ∀ (l : List FieldV) (vs : List ValueV) (i : Nat) (x : FieldV) (v : ValueV), l[i]? = some x → vs[i]? = some v → layR (l.take (i + 1)) (vs.take (i + 1)) = layR (l.take i) (vs.take i) ++ layV x v
  | [], _, i, x, v, h, _ => by simp at h
  | _ :: _, [], i, x, v, _, h => by simp at h
  | y :: l, w :: vs, 0, x, v, h, g => by
    cases h; cases g
    simp [layR]
  | y :: l, w :: vs, i + 1, x, v, h, g => by
    have := layR_take l vs i x v (by simpa using h) (by simpa using g)
    show layV y w ++ layR (l.take (i + 1)) (vs.take (i + 1)) = (layV y w ++ layR (l.take i) (vs.take i)) ++ layV x v
    rw [this, List.append_assoc]
theorem layR_len : ∀ {l : List FieldV} {vs : List ValueV}, hasL l vs → ((layR l vs).length : Int) ≤ lonL l ∧ (layR l vs).length ≤ 40 * l.length ∧ Bytes (layR l vs)
  | [], [], _ => ⟨by simp [layR, lonL], by simp [layR], fun _ h => nomatch h⟩
  | [], _ :: _, h => nomatch h
  | _ :: _, [], h => nomatch h
  | x :: l, v :: vs, h => by
    obtain ⟨h1, h2⟩ := h
    obtain ⟨g1, g2, g3⟩ := layR_len h2
    obtain ⟨f1, f2⟩ := layF_len h1
    have f3 := layF_bytes h1
    refine ⟨?_, ?_, fun y hy => ?_⟩
    · show ((layV x v ++ layR l vs).length : Int) ≤ _
      rw [List.length_append]
      have : lonL (x :: l) = sizV x + lonL l := by simp [lonL]
      rw [this]
      have : ((layV x v).length : Int) ≤ sizV x := f1
      omega
    · show (layV x v ++ layR l vs).length ≤ _
      rw [List.length_append, List.length_cons]
      have : (layV x v).length ≤ 40 := f2
      omega
    · rcases List.mem_append.1 hy with hy | hy
      · exact f3 y hy
      · exact g3 y hy
theorem layR_take_le {l : List FieldV} {vs : List ValueV} (h : hasL l vs) (i : Nat) : (layR (l.take i) (vs.take i)).length ≤ 40 * i := by
  have : hasL (l.take i) (vs.take i) := by
    rw [hasL_iff] at h ⊢
    refine ⟨by rw [List.length_take, List.length_take, h.1], fun j hj x v hx hv => ?_⟩
    rw [List.length_take] at hj
    rw [List.getElem?_take, if_pos (by omega)] at hx hv
    exact h.2 j (by omega) x v hx hv
  have := (layR_len this).2.1
  rw [List.length_take] at this
  omega

/-- A record of a form. -/
def hasR (d : Int) (l : List FieldV) (e : Int) (vs : List ValueV) : Prop := fineF d l ∧ e = d ∧ hasL l vs
open Classical in
noncomputable instance (d : Int) (l : List FieldV) (e : Int) (vs : List ValueV) : Decidable (hasR d l e vs) := Classical.propDecidable _
open Classical in
noncomputable instance (l : List FieldV) (vs : List ValueV) : Decidable (hasL l vs) := Classical.propDecidable _
def hasAt (l : List FieldV) (vs : List ValueV) (i : Nat) : Prop := ∀ x v, l[i]? = some x → vs[i]? = some v → hasV x v
theorem hasV_dec (x : FieldV) (v : ValueV) : field_Has.c x.id x.kind x.lo x.hi x.most v.n v.s = some (decide (hasF x.id x.kind x.lo x.hi x.most v.n v.s)) := field_Has_eq ..
open Classical in
theorem hasAll_iff {l : List FieldV} {vs : List ValueV} (h : vs.length = l.length) : (∀ k, k < vs.length → hasAt l vs k) ↔ hasL l vs := by
  rw [hasL_iff]
  exact ⟨fun g => ⟨h, g⟩, fun g => g.2⟩
theorem eqFunc_eq {l : List FieldV} {vs : List ValueV} (h2 : vs.length ≤ 1000) : slices_EqualFunc__api_Value_api_Fieldapi_Valueapi_Field_of_record_Has_1.c vs l = some (decide (hasL l vs)) := by
  simp only [slices_EqualFunc__api_Value_api_Fieldapi_Valueapi_Field_of_record_Has_1.c, slices_EqualFunc__api_Value_api_Fieldapi_Valueapi_Field_of_record_Has_1.t]
  by_cases h : ((vs.length : Nat) : Int) = ((l.length : Nat) : Int)
  rotate_left
  · rw [bb_pos (by simpa using h), Tw.run_ret, decide_eq_false (fun g => h (by rw [((hasL_iff _ _).1 g).1]))]
  have hlen : vs.length = l.length := by omega
  rw [bb_neg (by simpa using h)]
  have := Lp_all (fun s => (slices_EqualFunc__api_Value_api_Fieldapi_Valueapi_Field_of_record_Has_1.l4 l vs (vs.length : Int) s).run) (fun i : Nat => (i : Int)) (hasAt l vs) vs.length (fun i hi => by
    have hx : l[i]? = some l[i] := List.getElem?_eq_getElem (by omega)
    have hv : vs[i]? = some vs[i] := List.getElem?_eq_getElem hi
    have e : w64 ((i : Int) + 1) = ((i + 1 : Nat) : Int) := by rw [w64_of (by omega) (by omega)]; rfl
    simp only [slices_EqualFunc__api_Value_api_Fieldapi_Valueapi_Field_of_record_Has_1.l4, record_Has_1.c, record_Has_1.t]
    rw [bb_pos (decide_eq_true (by omega)), dd_pos (by omega), Int.toNat_natCast, opt_some hv, dd_pos (by omega), opt_some hx, opt_some (x := decide (hasF l[i].id l[i].kind l[i].lo l[i].hi l[i].most vs[i].n vs[i].s)) (by rw [opt_some (field_Has_eq ..), Tw.run_ret])]
    by_cases hh : hasV l[i] vs[i]
    · rw [decide_eq_true (show hasF l[i].id l[i].kind l[i].lo l[i].hi l[i].most vs[i].n vs[i].s from hh), bb_neg (by rfl), Tw.run_ret, if_pos, e]
      intro x v h1 h2
      rw [hx] at h1; rw [hv] at h2; cases h1; cases h2
      exact hh
    · rw [decide_eq_false (show ¬ hasF l[i].id l[i].kind l[i].lo l[i].hi l[i].most vs[i].n vs[i].s from hh), bb_pos (by rfl), Tw.run_ret, if_neg (fun g => hh (g _ _ hx hv))]) (by
    simp only [slices_EqualFunc__api_Value_api_Fieldapi_Valueapi_Field_of_record_Has_1.l4]
    rw [bb_neg (decide_eq_false (by omega)), Tw.run_ret])
  have hL : slices_EqualFunc__api_Value_api_Fieldapi_Valueapi_Field_of_record_Has_1.L4 l vs (vs.length : Int) 0 = _ := this
  rw [opt_some hL]
  by_cases hh : hasL l vs
  · rw [if_pos ((hasAll_iff hlen).2 hh), sm_inl, Tw.run_ret, decide_eq_true hh]
  · rw [if_neg (fun g => hh ((hasAll_iff hlen).1 g)), sm_inr, Tw.run_ret, decide_eq_false hh]
theorem record_Has_eq (d e : Int) {l : List FieldV} {vs : List ValueV} (h2 : vs.length ≤ 1000) : record_Has.c d l e vs = some (decide (hasR d l e vs)) := by
  simp only [record_Has.c, record_Has.t]
  rw [opt_some (schema_Fine_eq ..)]
  by_cases hf : fineF d l
  rotate_left
  · rw [decide_eq_false hf, bb_neg (by rfl), Tw.run_ret, decide_eq_false (fun h => hf h.1)]
  rw [decide_eq_true hf, bb_pos (by rfl)]
  by_cases he : e = d
  rotate_left
  · rw [bb_neg (by simpa using he), Tw.run_ret, decide_eq_false (fun h => he h.2.1)]
  rw [bb_pos (by simpa using he), opt_some (eqFunc_eq h2), Tw.run_ret]
  congr 1
  rw [decide_eq_decide]
  exact ⟨fun h => ⟨hf, he, h⟩, fun h => h.2.2⟩
theorem ref14_Has_eq (d e : Int) {l : List FieldV} {vs : List ValueV} (h2 : vs.length ≤ 1000) : ref14_Has.c d l e vs = some (decide (hasR d l e vs)) := by
  simp only [ref14_Has.c, ref14_Has.t]
  rw [opt_some (ref13_Fine_eq ..)]
  by_cases hf : fineF d l
  rotate_left
  · rw [decide_eq_false hf, bb_pos (by rfl), Tw.run_ret, decide_eq_false (fun h => hf h.1)]
  rw [decide_eq_true hf, bb_neg (by rfl)]
  by_cases he : e = d
  rotate_left
  · rw [bb_pos (by simpa using he), Tw.run_ret, decide_eq_false (fun h => he h.2.1)]
  rw [bb_neg (by simpa using he)]
  by_cases h : ((vs.length : Nat) : Int) = ((l.length : Nat) : Int)
  rotate_left
  · rw [bb_pos (by simpa using h), Tw.run_ret, decide_eq_false (fun g => h (by rw [((hasL_iff _ _).1 g.2.2).1]))]
  have hlen : vs.length = l.length := by omega
  rw [bb_neg (by simpa using h)]
  have := Lp_all (fun s => (ref14_Has.l4 d l e vs s).run) (fun i : Nat => (i : Int)) (hasAt l vs) vs.length (fun i hi => by
    have hx : l[i]? = some l[i] := List.getElem?_eq_getElem (by omega)
    have hv : vs[i]? = some vs[i] := List.getElem?_eq_getElem hi
    have e : w64 ((i : Int) + 1) = ((i + 1 : Nat) : Int) := by rw [w64_of (by omega) (by omega)]; rfl
    simp only [ref14_Has.l4]
    rw [bb_pos (decide_eq_true (by omega)), dd_pos (by omega), Int.toNat_natCast, opt_some hx, dd_pos (by omega), opt_some hv, opt_some (ref12_Has_eq ..)]
    by_cases hh : hasV l[i] vs[i]
    · rw [decide_eq_true (show hasF l[i].id l[i].kind l[i].lo l[i].hi l[i].most vs[i].n vs[i].s from hh), bb_neg (by rfl), Tw.run_ret, if_pos, e]
      intro x v h1 h2
      rw [hx] at h1; rw [hv] at h2; cases h1; cases h2
      exact hh
    · rw [decide_eq_false (show ¬ hasF l[i].id l[i].kind l[i].lo l[i].hi l[i].most vs[i].n vs[i].s from hh), bb_pos (by rfl), Tw.run_ret, if_neg (fun g => hh (g _ _ hx hv))]) (by
    simp only [ref14_Has.l4]
    rw [bb_neg (decide_eq_false (by omega)), Tw.run_ret])
  have hL : ref14_Has.L4 0 d l e vs = _ := this
  rw [opt_some hL]
  by_cases hh : hasL l vs
  · rw [if_pos ((hasAll_iff hlen).2 hh), sm_inl, Tw.run_ret, decide_eq_true ⟨hf, he, hh⟩]
  · rw [if_neg (fun g => hh ((hasAll_iff hlen).1 g)), sm_inr, Tw.run_ret, decide_eq_false (fun g => hh g.2.2)]

/-! The first records. -/
theorem record_First_eq (d : Int) {l : List FieldV} : record_First.c d l = some (if fineF d l then (d, l.map lstV) else (0, [])) := by
  simp only [record_First.c, record_First.t]
  rw [opt_some (schema_Fine_eq ..)]
  by_cases hf : fineF d l
  rotate_left
  · rw [decide_eq_false hf, bb_pos (by rfl), Tw.run_ret, if_neg hf]
  rw [decide_eq_true hf, bb_neg (by rfl), if_pos hf]
  have hl := hf.2.1.2
  have : record_First.L5 l (l.length : Int) 0 0 d [] = some (l.map lstV) := by
    unfold record_First.L5
    refine Lp_grow (fun s : Int × List ValueV => (record_First.l5 l (l.length : Int) 0 d s.1 s.2).run) (fun i o => ((i : Int), o)) l lstV _ [] (fun i a ha => ?_) ?_
    · have hi := (List.getElem?_eq_some_iff.1 ha).1
      have e : w64 ((i : Int) + 1) = ((i + 1 : Nat) : Int) := by rw [w64_of (by omega) (by omega)]; rfl
      have hle : ((l.take i).map lstV).length ≤ i := by rw [List.length_map]; exact List.length_take_le _ _
      simp only [record_First.l5, List.nil_append]
      rw [bb_pos (decide_eq_true (by omega)), dd_pos (by omega), Int.toNat_natCast, opt_some ha, opt_some (field_Least_eq ..), dd_pos (by simp only [List.length_cons, List.length_nil]; omega), Tw.run_ret, e]
      rfl
    · simp only [record_First.l5]
      rw [bb_neg (decide_eq_false (by omega)), Tw.run_ret]
      rfl
  rw [opt_some this, Tw.run_ret]
theorem ref14_First_eq {d : Int} {l : List FieldV} (hl : l.length ≤ 1000) : ref14_First.c d l = some (l.map lstV) := by
  simp only [ref14_First.c, ref14_First.t]
  have : ref14_First.L3 0 d l 0 d [] = some (l.map lstV) := by
    unfold ref14_First.L3
    refine Lp_grow (fun s : Int × List ValueV => (ref14_First.l3 d l 0 d s.1 s.2).run) (fun i o => ((i : Int), o)) l lstV _ [] (fun i a ha => ?_) ?_
    · have hi := (List.getElem?_eq_some_iff.1 ha).1
      have e : w64 ((i : Int) + 1) = ((i + 1 : Nat) : Int) := by rw [w64_of (by omega) (by omega)]; rfl
      have hle : ((l.take i).map lstV).length ≤ i := by rw [List.length_map]; exact List.length_take_le _ _
      simp only [ref14_First.l3, List.nil_append]
      rw [bb_pos (decide_eq_true (by omega)), dd_pos (by omega), Int.toNat_natCast, opt_some ha, opt_some (ref12_Least_eq ..), dd_pos (by simp only [List.length_cons, List.length_nil]; omega), Tw.run_ret, e]
      rfl
    · simp only [ref14_First.l3]
      rw [bb_neg (decide_eq_false (by omega)), Tw.run_ret]
      rfl
  rw [opt_some this, Tw.run_ret]

/-! The same records. -/
open Classical in
noncomputable instance : DecidableEq ValueV := fun _ _ => Classical.propDecidable _
theorem val_beq (a b : ValueV) : ((a.n == b.n) && (((ByteArray.toList a.s) == (ByteArray.toList b.s)) && true)) = decide (a = b) := by
  rw [ba_beq, Bool.and_true, Bool.eq_iff_iff, Bool.and_eq_true, beq_iff_eq, decide_eq_true_iff, decide_eq_true_iff]
  constructor
  · rintro ⟨h1, h2⟩
    cases a; cases b
    simp only at h1 h2
    rw [h1, h2]
  · rintro rfl
    exact ⟨rfl, rfl⟩
def sameAt (a b : List ValueV) (i : Nat) : Prop := a[i]? = b[i]?
theorem sameAll_iff {a b : List ValueV} (h : a.length = b.length) : (∀ k, k < a.length → sameAt a b k) ↔ a = b := by
  constructor
  · intro g
    apply List.ext_getElem?
    intro i
    by_cases hi : i < a.length
    · exact g i hi
    · rw [List.getElem?_eq_none (by omega), List.getElem?_eq_none (by omega)]
  · rintro rfl k _
    rfl
theorem slices_EqualV_eq {a b : List ValueV} (ha : a.length ≤ 140737488355328) : slices_Equal__api_Valueapi_Value.c a b = some (decide (a = b)) := by
  simp only [slices_Equal__api_Valueapi_Value.c, slices_Equal__api_Valueapi_Value.t]
  by_cases h : ((a.length : Nat) : Int) = ((b.length : Nat) : Int)
  rotate_left
  · rw [bb_pos (by simpa using h), Tw.run_ret, decide_eq_false (fun g => h (by rw [g]))]
  have hlen : a.length = b.length := by omega
  rw [bb_neg (by simpa using h)]
  have := Lp_all (fun s => (slices_Equal__api_Valueapi_Value.l4 a b (a.length : Int) s).run) (fun i : Nat => (i : Int)) (sameAt a b) a.length (fun i hi => by
    have hx : a[i]? = some a[i] := List.getElem?_eq_getElem (by omega)
    have hv : b[i]? = some b[i] := List.getElem?_eq_getElem (by omega)
    have e : w64 ((i : Int) + 1) = ((i + 1 : Nat) : Int) := by rw [w64_of (by omega) (by omega)]; rfl
    simp only [slices_Equal__api_Valueapi_Value.l4]
    rw [bb_pos (decide_eq_true (by omega)), dd_pos (by omega), Int.toNat_natCast, opt_some hx, dd_pos (by omega), opt_some hv, val_beq]
    by_cases hh : a[i] = b[i]
    · rw [decide_eq_true hh, bb_neg (by rfl), Tw.run_ret, if_pos (by unfold sameAt; rw [hx, hv, hh]), e]
    · rw [decide_eq_false hh, bb_pos (by rfl), Tw.run_ret, if_neg (fun g => hh (by unfold sameAt at g; rw [hx, hv] at g; exact Option.some.inj g))]) (by
    simp only [slices_Equal__api_Valueapi_Value.l4]
    rw [bb_neg (decide_eq_false (by omega)), Tw.run_ret])
  have hL : slices_Equal__api_Valueapi_Value.L4 a b (a.length : Int) 0 = _ := this
  rw [opt_some hL]
  by_cases hh : a = b
  · rw [if_pos ((sameAll_iff hlen).2 hh), sm_inl, Tw.run_ret, decide_eq_true hh]
  · rw [if_neg (fun g => hh ((sameAll_iff hlen).1 g)), sm_inr, Tw.run_ret, decide_eq_false hh]
theorem record_Same_eq (d e : Int) {a b : List ValueV} (ha : a.length ≤ 140737488355328) : record_Same.c d a e b = some (decide (d = e ∧ a = b)) := by
  simp only [record_Same.c, record_Same.t]
  by_cases h : d = e
  · rw [bb_pos (by simpa using h), opt_some (slices_EqualV_eq ha), Tw.run_ret]
    congr 1
    rw [decide_eq_decide]
    exact ⟨fun g => ⟨h, g⟩, fun g => g.2⟩
  · rw [bb_neg (by simpa using h), Tw.run_ret, decide_eq_false (fun g => h g.1)]
theorem ref14_Same_eq (d e : Int) {a b : List ValueV} (ha : a.length ≤ 140737488355328) : ref14_Same_v2.c d a e b = some (decide (d = e ∧ a = b)) := by
  simp only [ref14_Same_v2.c, ref14_Same_v2.t]
  by_cases h0 : d = e
  rotate_left
  · rw [bb_pos (by simpa using h0), Tw.run_ret, decide_eq_false (fun g => h0 g.1)]
  rw [bb_neg (by simpa using h0)]
  by_cases h : ((a.length : Nat) : Int) = ((b.length : Nat) : Int)
  rotate_left
  · rw [bb_pos (by simpa using h), Tw.run_ret, decide_eq_false (fun g => h (by rw [g.2]))]
  have hlen : a.length = b.length := by omega
  rw [bb_neg (by simpa using h)]
  have := Lp_all (fun s => (ref14_Same_v2.l4 d a e b s).run) (fun i : Nat => (i : Int)) (sameAt a b) a.length (fun i hi => by
    have hx : a[i]? = some a[i] := List.getElem?_eq_getElem (by omega)
    have hv : b[i]? = some b[i] := List.getElem?_eq_getElem (by omega)
    have e : w64 ((i : Int) + 1) = ((i + 1 : Nat) : Int) := by rw [w64_of (by omega) (by omega)]; rfl
    simp only [ref14_Same_v2.l4]
    rw [bb_pos (decide_eq_true (by omega)), dd_pos (by omega), Int.toNat_natCast, opt_some hx, dd_pos (by omega), opt_some hv, val_beq]
    by_cases hh : a[i] = b[i]
    · rw [decide_eq_true hh, bb_neg (by rfl), Tw.run_ret, if_pos (by unfold sameAt; rw [hx, hv, hh]), e]
    · rw [decide_eq_false hh, bb_pos (by rfl), Tw.run_ret, if_neg (fun g => hh (by unfold sameAt at g; rw [hx, hv] at g; exact Option.some.inj g))]) (by
    simp only [ref14_Same_v2.l4]
    rw [bb_neg (decide_eq_false (by omega)), Tw.run_ret])
  have hL : ref14_Same_v2.L4 0 d a e b = _ := this
  rw [opt_some hL]
  by_cases hh : a = b
  · rw [if_pos ((sameAll_iff hlen).2 hh), sm_inl, Tw.run_ret, decide_eq_true ⟨h0, hh⟩]
  · rw [if_neg (fun g => hh ((sameAll_iff hlen).1 g)), sm_inr, Tw.run_ret, decide_eq_false (fun g => hh g.2)]
theorem ref14_Same0_eq (d e : Int) (a : List ValueV) : ref14_Same.c d a e = some (decide (d = e ∧ a = [])) := by
  simp only [ref14_Same.c, ref14_Same.t]
  by_cases h0 : d = e
  rotate_left
  · rw [bb_pos (by simpa using h0), Tw.run_ret, decide_eq_false (fun g => h0 g.1)]
  rw [bb_neg (by simpa using h0)]
  cases a with
  | cons x a => rw [bb_pos (by simp; omega), Tw.run_ret, decide_eq_false (by simp)]
  | nil =>
    have : ref14_Same.L4 0 d [] e = some () := by
      unfold ref14_Same.L4
      refine Lp_end ?_
      simp only [ref14_Same.l4]
      rw [bb_neg (by simp), Tw.run_ret]
    rw [bb_neg (by simp), opt_some this, Tw.run_ret, decide_eq_true ⟨h0, rfl⟩]

/-! There and back. -/
theorem record_Lay_eq (d e : Int) {l : List FieldV} {vs : List ValueV} (h2 : vs.length ≤ 1000) : record_Lay.c d l e vs = some (if fineF d l then if hasR d l e vs then (0, layR l vs) else (16, []) else (2, [])) := by
  simp only [record_Lay.c, record_Lay.t]
  rw [opt_some (schema_Fine_eq ..)]
  by_cases hf : fineF d l
  rotate_left
  · rw [decide_eq_false hf, bb_pos (by rfl), Tw.run_ret, if_neg hf]
  rw [decide_eq_true hf, bb_neg (by rfl), if_pos hf, opt_some (record_Has_eq _ _ h2)]
  by_cases hr : hasR d l e vs
  rotate_left
  · rw [decide_eq_false hr, bb_pos (by rfl), Tw.run_ret, if_neg hr]
  have hl := hf.2.1.2
  have hlon := lonL_le l
  obtain ⟨hlen, hat⟩ := (hasL_iff _ _).1 hr.2.2
  rw [decide_eq_true hr, bb_neg (by rfl), if_pos hr, opt_some (schema_Long_eq d (by omega)), dd_pos (by have := hf.2.2.2; omega)]
  have : record_Lay.L7 vs (vs.length : Int) 0 d l [] = some (.inl (layR l vs)) := by
    unfold record_Lay.L7
    have := Lp_seq (fun s : Int × List Int => (record_Lay.l7 vs (vs.length : Int) d l s.1 s.2).run) (fun i : Nat => ((i : Int), layR (l.take i) (vs.take i))) (x := .inl (layR l vs)) vs.length 0 (fun i _ hi => by
      have hi' : i < vs.length := by omega
      have hx : l[i]? = some l[i] := List.getElem?_eq_getElem (by omega)
      have hv : vs[i]? = some vs[i] := List.getElem?_eq_getElem hi'
      have hh : hasF l[i].id l[i].kind l[i].lo l[i].hi l[i].most vs[i].n vs[i].s := hat i hi' _ _ hx hv
      have e : w64 ((i : Int) + 1) = ((i + 1 : Nat) : Int) := by rw [w64_of (by omega) (by omega)]; rfl
      have b1 := layR_take_le hr.2.2 i
      have b2 := (layF_len hh).2
      simp only [record_Lay.l7]
      rw [bb_pos (decide_eq_true (by omega)), dd_pos (by omega), Int.toNat_natCast, opt_some hv, dd_pos (by omega), opt_some hx, opt_some (field_Lay_eq ..), if_pos hh.1, if_pos hh, bb_neg (by rfl), dd_pos (by simp only; omega), Tw.run_ret, e, layR_take l vs i _ _ hx hv]
      rfl) (by
      simp only [record_Lay.l7, Nat.zero_add]
      rw [bb_neg (decide_eq_false (by omega)), Tw.run_ret, List.take_length, hlen, List.take_length])
    exact this
  rw [show (List.replicate (Int.toNat (0 : Int)) (0 : Int)) = [] from rfl, opt_some this, sm_inl, Tw.run_ret]
abbrev TakX : Type := ((List Int) × (List ValueV)) ⊕ ((List Int) × (Int × (Int × (List ValueV))))
def takR : List FieldV → List Int → List ValueV → TakX
  | [], b, acc => .inl (b, acc)
  | x :: l, b, acc => if (takV x b).2.2.2 ≠ 0 then .inr (b, (takV x b).2.2.2, 0, acc) else takR l (b.drop (takV x b).2.2.1.toNat) (acc ++ [⟨(takV x b).1, (takV x b).2.1⟩])
def tkR (d : Int) (l : List FieldV) (b : List Int) : Int × (Int × (List ValueV)) :=
  match takR l b [] with
  | .inl (b', vs) => if b'.length > 0 then (0, 6, []) else (d, 0, vs)
  | .inr z => (z.2.2.1, z.2.1, [])
theorem takV_cnt {x : FieldV} {b : List Int} (hb : Bytes b) (h : (takV x b).2.2.2 = 0) : 0 ≤ (takV x b).2.2.1 ∧ (takV x b).2.2.1 ≤ (b.length : Int) := by
  obtain ⟨_, n, h1, h2, _⟩ := lay_takF hb h
  unfold takV
  omega
theorem takR_lay : ∀ {l : List FieldV} {vs : List ValueV} (more : List Int) (acc : List ValueV), hasL l vs → takR l (layR l vs ++ more) acc = .inl (more, acc ++ vs)
  | [], [], more, acc, _ => by simp [takR, layR]
  | [], _ :: _, _, _, h => nomatch h
  | _ :: _, [], _, _, h => nomatch h
  | x :: l, v :: vs, more, acc, h => by
    obtain ⟨h1, h2⟩ := h
    have ht := takF_lay h1 (layR l vs ++ more)
    have e : layR (x :: l) (v :: vs) ++ more = layV x v ++ (layR l vs ++ more) := by simp [layR]
    have hT : takV x (layV x v ++ (layR l vs ++ more)) = (v.n, v.s, ((layV x v).length : Int), 0) := ht
    rw [e, takR, hT, if_neg (by simp), Int.toNat_natCast, List.drop_left, takR_lay more _ h2]
    simp
theorem lay_takR : ∀ {l : List FieldV} {b : List Int} (acc : List ValueV), Bytes b → match takR l b acc with
    | .inl z => ∃ vs, z.2 = acc ++ vs ∧ hasL l vs ∧ layR l vs ++ z.1 = b
    | .inr z => z.2.1 ≠ 0
  | [], b, acc, _ => ⟨[], by simp, trivial, by simp [layR]⟩
  | x :: l, b, acc, hb => by
    rw [takR]
    by_cases h : (takV x b).2.2.2 = 0
    · rw [if_neg (by simpa using h)]
      obtain ⟨g1, n, g2, g3, g4⟩ := lay_takF hb h
      have g2' : (takV x b).2.2.1 = (n : Int) := g2
      have ih := lay_takR (l := l) (acc ++ [⟨(takV x b).1, (takV x b).2.1⟩]) (bytes_drop hb (takV x b).2.2.1.toNat)
      rw [g2', Int.toNat_natCast] at ih ⊢
      cases e : takR l (b.drop n) (acc ++ [⟨(takV x b).1, (takV x b).2.1⟩]) with
      | inl z =>
        rw [e] at ih
        obtain ⟨vs, i1, i2, i3⟩ := ih
        refine ⟨⟨(takV x b).1, (takV x b).2.1⟩ :: vs, by rw [i1]; simp, ⟨g1, i2⟩, ?_⟩
        show layV x _ ++ layR l vs ++ z.1 = b
        rw [List.append_assoc, i3]
        have g4' : layV x ⟨(takV x b).1, (takV x b).2.1⟩ = b.take n := g4
        rw [g4', List.take_append_drop]
      | inr z =>
        rw [e] at ih
        exact ih
    · rw [if_pos h]
      exact h

theorem tkR_back {d : Int} {l : List FieldV} {b : List Int} (hf : fineF d l) (hb : Bytes b) (h : (tkR d l b).2.1 = 0) : ∃ vs, tkR d l b = (d, 0, vs) ∧ hasL l vs ∧ layR l vs = b := by
  have hl := lay_takR (l := l) [] hb
  unfold tkR at h ⊢
  cases e : takR l b [] with
  | inl z =>
    rw [e] at h hl
    simp only at h hl ⊢
    obtain ⟨vs, h1, h2, h3⟩ := hl
    by_cases hz : z.1.length > 0
    · rw [if_pos hz] at h
      cases h
    · rw [if_neg hz]
      have : z.1 = [] := List.eq_nil_of_length_eq_zero (by omega)
      rw [this, List.append_nil] at h3
      exact ⟨vs, by rw [h1]; rfl, h2, h3⟩
  | inr z =>
    rw [e] at h hl
    exact absurd h hl
theorem tkR_len {d : Int} {l : List FieldV} {b : List Int} (hf : fineF d l) (hb : Bytes b) : (tkR d l b).2.2.length ≤ 1000 := by
  by_cases h : (tkR d l b).2.1 = 0
  · obtain ⟨vs, h1, h2, _⟩ := tkR_back hf hb h
    rw [h1]
    have := ((hasL_iff _ _).1 h2).1
    have := hf.2.1.2
    simp only
    omega
  · have : (tkR d l b).2.2 = [] := by
      unfold tkR at h ⊢
      cases e : takR l b [] with
      | inl z =>
        rw [e] at h
        simp only at h ⊢
        by_cases hz : z.1.length > 0
        · rw [if_pos hz]
        · rw [if_neg hz] at h
          simp at h
      | inr z => rfl
    rw [this]
    simp

end Go.Proofs.Ytpidbpmkogbdeaa.Pure
