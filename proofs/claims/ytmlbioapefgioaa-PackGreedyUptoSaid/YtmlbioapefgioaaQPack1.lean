/- Layer 24 (pack): Put and Cut. -/
import Derived.Test.YtmlbioapefgioaaQPack
namespace Go.Proofs.Ytmlbioapefgioaa.Pure
open Go Go.Proofs.Ytmlbioapefgioaa.Va
set_option linter.unusedVariables false
set_option linter.unusedSimpArgs false

/-- Leaves that hold something, of good items, `n` at most. -/
structure Pk (n : Nat) (ls : List (List ItemV)) : Prop where
  ne : ∀ l ∈ ls, l ≠ []
  gd : ∀ l ∈ ls, Gd l
  len : ls.flatten.length ≤ n
theorem Pk.count {n : Nat} {ls : List (List ItemV)} (h : Pk n ls) : ls.length ≤ n := Nat.le_trans (len_flat h.ne) h.len
theorem Pk.leaf {n : Nat} {ls : List (List ItemV)} (h : Pk n ls) {l : List ItemV} (hl : l ∈ ls) : l.length ≤ n := Nat.le_trans (mem_flat_len hl) h.len
theorem Pk.nil (n : Nat) : Pk n [] := ⟨(fun _ h => nomatch h), (fun _ h => nomatch h), Nat.zero_le _⟩

theorem putI_gd {l : List ItemV} (h : Gd l) {a : Int} {b : ByteArray} (ha : InR .u32 a) (hb : b.size ≤ 64) : Gd (putI l a b) := by
  intro x hx
  unfold putI at hx
  simp only [List.mem_append, List.mem_filter, List.mem_singleton] at hx
  rcases hx with (hx | rfl) | hx
  · exact h x hx.1
  · exact ⟨ha, hb⟩
  · exact h x hx.1
theorem putI_len (l : List ItemV) (a : Int) (b : ByteArray) : (putI l a b).length ≤ l.length + 1 ∧ 0 < (putI l a b).length := by
  have := put_len l a
  unfold putI
  simp only [List.length_append, List.length_cons, List.length_nil]
  omega
theorem cutI_gd {l : List ItemV} (h : Gd l) (a : Int) : Gd (cutI l a) := fun x hx => h x (List.mem_filter.1 hx).1
theorem cutI_len (l : List ItemV) (a : Int) : (cutI l a).length ≤ l.length := List.length_filter_le _ _

theorem putAt_flat (ls more : List (List ItemV)) (f o : Nat) : (putAt ls f o more).flatten = (ls.take f).flatten ++ more.flatten ++ (ls.drop (f + o)).flatten := by simp [putAt]
theorem parts_flat (ls : List (List ItemV)) (f o : Nat) : ls.flatten = (ls.take f).flatten ++ ((ls.drop f).take o).flatten ++ (ls.drop (f + o)).flatten := by
  conv => lhs; rw [parts ls f o]
  simp
theorem Pk.put {n d : Nat} {ls more : List (List ItemV)} (h : Pk n ls) (f o : Nat) (hne : ∀ l ∈ more, l ≠ []) (hgd : ∀ l ∈ more, Gd l) (hm : more.flatten.length ≤ ((ls.drop f).take o).flatten.length + d) : Pk (n + d) (putAt ls f o more) := by
  refine ⟨fun l hl => ?_, fun l hl => ?_, ?_⟩
  · rcases putAt_mem hl with hl | hl
    · exact h.ne l hl
    · exact hne l hl
  · rcases putAt_mem hl with hl | hl
    · exact h.gd l hl
    · exact hgd l hl
  · have h1 := h.len
    have h2 := congrArg List.length (parts_flat ls f o)
    rw [putAt_flat]
    simp only [List.length_append] at h2 ⊢
    omega
theorem drop_one {ls : List (List ItemV)} {k : Nat} (h : k < ls.length) : (ls.drop k).take 1 = [ls[k]] := by
  rw [List.drop_eq_getElem_cons h]; rfl
theorem drop_two {ls : List (List ItemV)} {k : Nat} (h : k + 1 < ls.length) : (ls.drop k).take 2 = [ls[k], ls[k + 1]] := by
  rw [List.drop_eq_getElem_cons (show k < ls.length by omega), List.drop_eq_getElem_cons h]; rfl

/-! Put. -/
def putM (R : Nat) (p : List ItemV) : List (List ItemV) := if totI p ≤ R then [p] else [p.take (frontN p ((totI p / 2 : Nat) : Int)), p.drop (frontN p ((totI p / 2 : Nat) : Int))]
def putS (R : Nat) (ls : List (List ItemV)) (a : Int) (b : ByteArray) : Int × (Int × (Int × List (List ItemV))) :=
  if ls.length = 0 then (0, (0, (1, [[⟨a, b⟩]])))
  else (((atN ls a ls.length : Nat) : Int), (1, (((putM R (putI (ls.getD (atN ls a ls.length) []) a b)).length : Int), putAt ls (atN ls a ls.length) 1 (putM R (putI (ls.getD (atN ls a ls.length) []) a b)))))

theorem putM_flat (R : Nat) (p : List ItemV) : (putM R p).flatten = p := by
  unfold putM
  split
  · simp
  · simp
theorem front_in {p : List ItemV} (h0 : 0 < p.length) (m : Int) : 1 ≤ frontN p m ∧ frontN p m ≤ p.length := by
  obtain ⟨h1, h2, _⟩ := frontF_prop (l := p) (most := m) (p.length - 1) 1 (by omega)
  exact ⟨h1, h2⟩
theorem front_half {p : List ItemV} (hg : Gd p) {R : Nat} (hR : 62 ≤ R) (ht : R < totI p) : frontN p ((totI p / 2 : Nat) : Int) < p.length ∧ totI (p.take (frontN p ((totI p / 2 : Nat) : Int))) ≤ max 18 (totI p / 2) ∧ totI p / 2 < totI (p.take (frontN p ((totI p / 2 : Nat) : Int))) + 18 := by
  have hb := totI_le64 (fun x hx => (hg x hx).2)
  have h0 : 0 < p.length := by omega
  obtain ⟨h1, h2, h3, h4⟩ := frontF_prop (l := p) (most := ((totI p / 2 : Nat) : Int)) (p.length - 1) 1 (by omega)
  have h5 : frontF p ((totI p / 2 : Nat) : Int) (p.length - 1) 1 = frontN p ((totI p / 2 : Nat) : Int) := rfl
  rw [h5] at h1 h2 h3 h4
  generalize frontN p ((totI p / 2 : Nat) : Int) = n at *
  have hle : totI (p.take n) ≤ 18 * n := by
    have := totI_le64 (l := p.take n) (fun x hx => (hg x (List.mem_of_mem_take hx)).2)
    rw [List.length_take] at this
    omega
  have hlt : n < p.length := by
    refine Nat.lt_of_le_of_ne h2 fun e => ?_
    rcases h4 with h4 | h4
    · rw [← e, h4] at hb; omega
    · rw [e, List.take_length] at h4
      omega
  have hs := totI_take hlt
  have hc : cstI p[n] ≤ 18 := by
    have := (hg _ (List.getElem_mem hlt)).2
    unfold cstI needN
    omega
  have h3 := h3 hlt
  refine ⟨hlt, ?_, by omega⟩
  rcases h4 with h4 | h4
  · subst h4; omega
  · omega
theorem putM_ok {R : Nat} (hR : 62 ≤ R) {p : List ItemV} (hg : Gd p) (h0 : 0 < p.length) : (putM R p).length ≤ 2 ∧ (∀ l ∈ putM R p, l ≠ []) ∧ (∀ l ∈ putM R p, Gd l) ∧ ∀ l ∈ putM R p, l.length ≤ p.length := by
  unfold putM
  split
  · refine ⟨by simp, fun l hl => ?_, fun l hl => ?_, fun l hl => ?_⟩ <;> rw [List.mem_singleton] at hl <;> subst hl
    · intro h; rw [h] at h0; exact absurd h0 (by simp)
    · exact hg
    · exact Nat.le_refl _
  · next h =>
    obtain ⟨h1, h2⟩ := front_in h0 ((totI p / 2 : Nat) : Int)
    have h3 := (front_half hg hR (by omega)).1
    refine ⟨by simp, fun l hl => ?_, fun l hl => ?_, fun l hl => ?_⟩ <;> simp only [List.mem_cons, List.not_mem_nil, or_false] at hl <;> rcases hl with rfl | rfl
    · intro h; have := congrArg List.length h; rw [List.length_take, List.length_nil] at this; omega
    · intro h; have := congrArg List.length h; rw [List.length_drop, List.length_nil] at this; omega
    · exact hg.take _
    · exact hg.drop _
    · rw [List.length_take]; omega
    · rw [List.length_drop]; omega

theorem putS_pk {n : Nat} {ls : List (List ItemV)} (hp : Pk n ls) {a : Int} {b : ByteArray} (ha : InR .u32 a) (hb : b.size ≤ 64) {R : Nat} (hR : 62 ≤ R) : Pk (n + 1) (putS R ls a b).2.2.2 := by
  unfold putS
  by_cases h0 : ls.length = 0
  · rw [if_pos h0]
    refine ⟨fun l hl => ?_, fun l hl => ?_, ?_⟩
    · have := List.mem_singleton.1 hl; subst this; simp
    · have := List.mem_singleton.1 hl; subst this
      intro x hx
      have := List.mem_singleton.1 hx; subst this
      exact ⟨ha, hb⟩
    · simp
  · rw [if_neg h0]
    have hk : atN ls a ls.length < ls.length := by have := atN_le ls a ls.length; omega
    generalize atN ls a ls.length = k at *
    have hm := List.getElem_mem hk
    have hpl := putI_len ls[k] a b
    obtain ⟨m1, m2, m3, m4⟩ := putM_ok hR (putI_gd (hp.gd _ hm) ha hb) hpl.2
    rw [leaf_get hk]
    refine hp.put k 1 m2 m3 ?_
    rw [putM_flat, drop_one hk]
    simp only [List.flatten_cons, List.flatten_nil, List.append_nil]
    exact hpl.1

/-! Cut. -/
def cutT (R : Nat) (ls : List (List ItemV)) (k : Nat) (c : List ItemV) : Int × (Int × (Int × (Bool × List (List ItemV)))) :=
  if c.length = 0 then ((k : Int), (1, (0, (true, putAt ls k 1 []))))
  else if k + 1 < ls.length ∧ totI c + totI (ls.getD (k + 1) []) ≤ R / 2 then ((k : Int), (2, (1, (true, putAt ls k 2 [c ++ ls.getD (k + 1) []]))))
  else if 0 < k ∧ totI c + totI (ls.getD (k - 1) []) ≤ R / 2 then (((k - 1 : Nat) : Int), (2, (1, (true, putAt ls (k - 1) 2 [ls.getD (k - 1) [] ++ c]))))
  else ((k : Int), (1, (1, (true, putAt ls k 1 [c]))))
def cutS (R : Nat) (ls : List (List ItemV)) (key : Int) : Int × (Int × (Int × (Bool × List (List ItemV)))) :=
  if ls.length = 0 then (0, (0, (0, (false, []))))
  else if (cutI (ls.getD (atN ls key ls.length) []) key).length < (ls.getD (atN ls key ls.length) []).length then cutT R ls (atN ls key ls.length) (cutI (ls.getD (atN ls key ls.length) []) key)
  else (0, (0, (0, (false, ls))))

theorem two_concat (a b : List ItemV) (h : a.length + b.length ≤ 1000) : slices_Concat__api_Itemapi_Item.c [a, b] = some (a ++ b) := by
  have := concatI_eq (ls := [a, b]) (by simp; omega) (by simp)
  rw [this]
  simp

theorem cutS_pk {n : Nat} {ls : List (List ItemV)} (hp : Pk n ls) (key : Int) (R : Nat) : Pk n (cutS R ls key).2.2.2.2 := by
  unfold cutS
  by_cases h0 : ls.length = 0
  · rw [if_pos h0]; exact Pk.nil n
  rw [if_neg h0]
  have hk : atN ls key ls.length < ls.length := by have := atN_le ls key ls.length; omega
  generalize atN ls key ls.length = k at *
  have hm := List.getElem_mem hk
  have hg := cutI_gd (hp.gd _ hm) key
  rw [leaf_get hk]
  generalize cutI ls[k] key = c at *
  by_cases g : c.length < ls[k].length
  · rw [if_pos g]
    have hcne : c.length ≠ 0 → c ≠ [] := fun h e => h (by rw [e]; rfl)
    unfold cutT
    split
    · exact hp.put (d := 0) k 1 (fun _ h => nomatch h) (fun _ h => nomatch h) (by simp)
    · next h1 =>
      split
      · next h2 =>
        rw [leaf_get h2.1]
        refine hp.put (d := 0) k 2 (fun l h => ?_) (fun l h => ?_) ?_
        · rw [List.mem_singleton] at h; subst h; simp [hcne h1]
        · rw [List.mem_singleton] at h; subst h; exact hg.app (hp.gd _ (List.getElem_mem _))
        · rw [drop_two h2.1]; simp only [List.flatten_cons, List.flatten_nil, List.append_nil, List.length_append]; omega
      · split
        · next h3 =>
          have hk1 : k - 1 < ls.length := by omega
          have hk2 : k - 1 + 1 < ls.length := by omega
          have e : ls[k - 1 + 1] = ls[k] := by congr 1; omega
          rw [leaf_get hk1]
          refine hp.put (d := 0) (k - 1) 2 (fun l h => ?_) (fun l h => ?_) ?_
          · rw [List.mem_singleton] at h; subst h; simp [hcne h1]
          · rw [List.mem_singleton] at h; subst h; exact (hp.gd _ (List.getElem_mem _)).app hg
          · rw [drop_two hk2, e]; simp only [List.flatten_cons, List.flatten_nil, List.append_nil, List.length_append]; omega
        · refine hp.put (d := 0) k 1 (fun l h => ?_) (fun l h => ?_) ?_
          · rw [List.mem_singleton] at h; subst h; exact hcne h1
          · rw [List.mem_singleton] at h; subst h; exact hg
          · rw [drop_one hk]; simp only [List.flatten_cons, List.flatten_nil, List.append_nil]; omega
  · rw [if_neg g]; exact hp

end Go.Proofs.Ytmlbioapefgioaa.Pure
