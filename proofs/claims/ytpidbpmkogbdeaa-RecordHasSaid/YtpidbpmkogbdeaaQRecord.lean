/- Layers 13, 14 (schema, record): which forms may be. -/
import Derived.Test.YtpidbpmkogbdeaaQField
import Derived.Test.YtpidbpmkogbdeaaFschema
import Derived.Test.YtpidbpmkogbdeaaFref13
namespace Go.Proofs.Ytpidbpmkogbdeaa.Pure
open Go Go.Proofs.Ytpidbpmkogbdeaa.Va
set_option linter.unusedVariables false
set_option linter.unusedSimpArgs false

def rgtV (x : FieldV) : Prop := rgtF x.id x.kind x.lo x.hi x.most
instance (x : FieldV) : Decidable (rgtV x) := by unfold rgtV; infer_instance
def sizV (x : FieldV) : Int := sizF x.id x.kind x.lo x.hi x.most
/-- All sizes together. -/
def lonL (l : List FieldV) : Int := (l.map sizV).sum
/-- Fields that may be, with a number each. -/
def fldOK (l : List FieldV) : Prop := (∀ x ∈ l, rgtV x) ∧ (l.map (·.id)).Nodup
/-- A form that may be. -/
def fineF (d : Int) (l : List FieldV) : Prop := (0 ≤ d ∧ d ≤ 200) ∧ (1 ≤ l.length ∧ l.length ≤ 8) ∧ fldOK l ∧ lonL l ≤ 64
theorem sizV_le (x : FieldV) : 0 ≤ sizV x ∧ sizV x ≤ 33 := by
  unfold sizV sizF
  split
  · rename_i h
    have hw := widF_le h
    split
    · unfold rgtF at h; omega
    · omega
  · omega
theorem lonL_le (l : List FieldV) : 0 ≤ lonL l ∧ lonL l ≤ 33 * l.length := by
  induction l with
  | nil => simp [lonL]
  | cons x l ih =>
    have := sizV_le x
    simp only [lonL, List.map_cons, List.sum_cons, List.length_cons] at ih ⊢
    omega
theorem lonL_take {l : List FieldV} {i : Nat} {x : FieldV} (h : l[i]? = some x) : lonL (l.take (i + 1)) = lonL (l.take i) + sizV x := by
  rw [List.take_add_one, h]
  simp [lonL]
theorem schema_Long_eq (d : Int) {l : List FieldV} (hl : l.length ≤ 1000) : schema_Long.c d l = some (lonL l) := by
  have : schema_Long.L3 0 l (l.length : Int) 0 = some (lonL l) := by
    unfold schema_Long.L3
    have := Lp_seq (fun s : Int × Int => (schema_Long.l3 l (l.length : Int) s.1 s.2).run) (fun i : Nat => (lonL (l.take i), (i : Int))) (x := lonL l) l.length 0 (fun i _ hi => by
      have hi' : i < l.length := by omega
      have hx : l[i]? = some l[i] := List.getElem?_eq_getElem hi'
      have b1 := lonL_le (l.take i)
      have b2 := sizV_le l[i]
      have b3 : (l.take i).length ≤ i := List.length_take_le _ _
      simp only [schema_Long.l3]
      rw [bb_pos (decide_eq_true (by omega)), dd_pos (by omega), Int.toNat_natCast, opt_some hx, opt_some (field_Size_eq ..), Tw.run_ret, lonL_take hx]
      rw [show sizF l[i].id l[i].kind l[i].lo l[i].hi l[i].most = sizV l[i] from rfl, w64_of (n := lonL (l.take i) + sizV l[i]) (by omega) (by omega), w64_of (by omega) (by omega)]
      rfl) (by
      simp only [schema_Long.l3, Nat.zero_add, List.take_length]
      rw [bb_neg (decide_eq_false (by omega)), Tw.run_ret])
    simpa [lonL] using this
  simp only [schema_Long.c, schema_Long.t]
  rw [opt_some this, Tw.run_ret]
theorem ref13_Long_eq (d : Int) {l : List FieldV} (hl : l.length ≤ 1000) : ref13_Long.c d l = some (lonL l) := by
  have : ref13_Long.L3 0 0 d l = some (lonL l) := by
    unfold ref13_Long.L3
    have := Lp_seq (fun s : Int × Int => (ref13_Long.l3 d l s.1 s.2).run) (fun i : Nat => (lonL (l.take i), (i : Int))) (x := lonL l) l.length 0 (fun i _ hi => by
      have hi' : i < l.length := by omega
      have hx : l[i]? = some l[i] := List.getElem?_eq_getElem hi'
      have b1 := lonL_le (l.take i)
      have b2 := sizV_le l[i]
      have b3 : (l.take i).length ≤ i := List.length_take_le _ _
      simp only [ref13_Long.l3]
      rw [bb_pos (decide_eq_true (by omega)), dd_pos (by omega), Int.toNat_natCast, opt_some hx, opt_some (ref12_Size_eq ..), Tw.run_ret, lonL_take hx]
      rw [show sizF l[i].id l[i].kind l[i].lo l[i].hi l[i].most = sizV l[i] from rfl, w64_of (n := lonL (l.take i) + sizV l[i]) (by omega) (by omega), w64_of (by omega) (by omega)]
      rfl) (by
      simp only [ref13_Long.l3, Nat.zero_add, List.take_length]
      rw [bb_neg (decide_eq_false (by omega)), Tw.run_ret])
    simpa [lonL] using this
  simp only [ref13_Long.c, ref13_Long.t]
  rw [opt_some this, Tw.run_ret]
theorem fldOK_snoc {l : List FieldV} {i : Nat} {x : FieldV} (h : l[i]? = some x) : fldOK (l.take (i + 1)) ↔ fldOK (l.take i) ∧ rgtV x ∧ ∀ y ∈ l.take i, y.id ≠ x.id := by
  unfold fldOK
  rw [List.take_add_one, h]
  simp only [Option.toList_some, List.mem_append, List.mem_singleton, List.map_append, List.map_cons, List.map_nil, List.nodup_append, List.mem_map]
  constructor
  · rintro ⟨h1, h2, _, h3⟩
    exact ⟨⟨fun y hy => h1 y (Or.inl hy), h2⟩, h1 x (Or.inr rfl), fun y hy he => h3 _ ⟨y, hy, rfl⟩ _ rfl he⟩
  · rintro ⟨⟨h1, h2⟩, h3, h4⟩
    refine ⟨fun y hy => ?_, h2, by simp, ?_⟩
    · rcases hy with hy | rfl
      · exact h1 y hy
      · exact h3
    · rintro _ ⟨y, hy, rfl⟩ _ rfl
      exact h4 y hy
theorem fldOK_take {l : List FieldV} (h : fldOK l) (i : Nat) : fldOK (l.take i) :=
  ⟨fun x hx => h.1 x (List.mem_of_mem_take hx), by rw [List.map_take]; exact h.2.sublist (List.take_sublist _ _)⟩

end Go.Proofs.Ytpidbpmkogbdeaa.Pure
