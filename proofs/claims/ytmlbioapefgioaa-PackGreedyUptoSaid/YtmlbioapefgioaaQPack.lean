/- Layer 24 (pack): what its printed functions come to. -/
import Derived.Test.YtmlbioapefgioaaQLeaf
import Derived.Test.YtmlbioapefgioaaFslices
import Derived.Test.YtmlbioapefgioaaFpack
import Derived.Test.YtmlbioapefgioaaFref24
namespace Go.Proofs.Ytmlbioapefgioaa.Pure
open Go Go.Proofs.Ytmlbioapefgioaa.Va
set_option linter.unusedVariables false
set_option linter.unusedSimpArgs false

/-! Lists of lists. -/
theorem flat_take {α : Type} {ls : List (List α)} {i : Nat} (hi : i < ls.length) : (ls.take (i + 1)).flatten = (ls.take i).flatten ++ ls[i] := by
  rw [List.take_succ_eq_append_getElem hi, List.flatten_append]
  simp
theorem flat_take_le {α : Type} (ls : List (List α)) (i : Nat) : (ls.take i).flatten.length ≤ ls.flatten.length := by
  have h := congrArg List.length (congrArg List.flatten (List.take_append_drop i ls))
  rw [List.flatten_append, List.length_append] at h
  omega
theorem parts {α : Type} (ls : List α) (k o : Nat) : ls = ls.take k ++ ((ls.drop k).take o ++ ls.drop (k + o)) := by
  rw [← List.drop_drop, List.take_append_drop, List.take_append_drop]
theorem mem_flat_len {α : Type} {ls : List (List α)} {l : List α} (h : l ∈ ls) : l.length ≤ ls.flatten.length := by
  obtain ⟨a, b, rfl⟩ := List.append_of_mem h
  simp only [List.flatten_append, List.flatten_cons, List.length_append]
  omega
theorem len_flat {α : Type} : ∀ {ls : List (List α)}, (∀ l ∈ ls, l ≠ []) → ls.length ≤ ls.flatten.length
  | [], _ => by simp
  | l :: ls, h => by
    have h1 := len_flat (ls := ls) fun x hx => h x (List.mem_cons_of_mem _ hx)
    have h2 : 0 < l.length := by
      cases l with
      | nil => exact absurd rfl (h [] (by simp))
      | cons x t => simp
    simp only [List.flatten_cons, List.length_append, List.length_cons]
    omega

theorem growL_eq {n : Int} (h0 : 0 ≤ n) (h1 : n * 24 ≤ 140737488355328) : slices_Grow___api_Item_api_Item_none0.c n = some [] := by
  have e : w64 (n - w64 (0 - 0)) = n := by rw [w64_of (n := 0 - 0) (by omega) (by omega), w64_of (by omega) (by omega)]; omega
  simp only [slices_Grow___api_Item_api_Item_none0.c, slices_Grow___api_Item_api_Item_none0.t, e]
  rw [bb_neg (decide_eq_false (by omega))]
  by_cases h : n > 0
  · rw [bb_pos (decide_eq_true h), dd_pos (by omega)]
    rfl
  · rw [bb_neg (decide_eq_false h)]
    rfl
theorem growI_eq {n : Int} (h0 : 0 ≤ n) (h1 : n * 24 ≤ 140737488355328) : slices_Grow__api_Itemapi_Item_none0.c n = some [] := by
  have e : w64 (n - w64 (0 - 0)) = n := by rw [w64_of (n := 0 - 0) (by omega) (by omega), w64_of (by omega) (by omega)]; omega
  simp only [slices_Grow__api_Itemapi_Item_none0.c, slices_Grow__api_Itemapi_Item_none0.t, e]
  rw [bb_neg (decide_eq_false (by omega))]
  by_cases h : n > 0
  · rw [bb_pos (decide_eq_true h), dd_pos (by omega)]
    rfl
  · rw [bb_neg (decide_eq_false h)]
    rfl

theorem concatL_eq {ls : List (List (List ItemV))} (h : ls.flatten.length * 24 ≤ 140737488355328) (hl : ls.length < 4611686018427387904) : slices_Concat___api_Item_api_Item.c ls = some ls.flatten := by
  have h3 : slices_Concat___api_Item_api_Item.L3 ls 0 ls (ls.length : Int) 0 = some ((ls.flatten.length : Nat) : Int) := by
    refine Lp_seq (fun s => (slices_Concat___api_Item_api_Item.l3 ls ls (ls.length : Int) s.1 s.2).run) (fun i => ((((ls.take i).flatten.length : Nat) : Int), (i : Int))) ls.length 0 (fun i _ hi => ?_) ?_
    · rw [Nat.zero_add] at hi
      have hb := flat_take_le ls (i + 1)
      have hs := congrArg List.length (flat_take hi)
      rw [List.length_append] at hs
      have e : w64 ((((ls.take i).flatten.length : Nat) : Int) + ((ls[i].length : Nat) : Int)) = (((ls.take (i + 1)).flatten.length : Nat) : Int) := by rw [w64_of (by omega) (by omega)]; omega
      have e1 : w64 ((i : Int) + 1) = ((i + 1 : Nat) : Int) := by rw [w64_of (by omega) (by omega)]; omega
      simp only [slices_Concat___api_Item_api_Item.l3]
      rw [bb_pos (decide_eq_true (by omega)), dd_pos (by omega)]
      simp only [Int.toNat_natCast, Tw.run_opt, List.getElem?_eq_getElem hi, Option.bind_some, e, e1]
      rw [bb_neg (decide_eq_false (by omega))]
      rfl
    · rw [Nat.zero_add]
      simp only [slices_Concat___api_Item_api_Item.l3]
      rw [bb_neg (decide_eq_false (by omega)), List.take_length]
      rfl
  have h11 : slices_Concat___api_Item_api_Item.L11 ls (ls.length : Int) 0 [] = some ls.flatten := by
    refine Lp_seq (fun s => (slices_Concat___api_Item_api_Item.l11 ls (ls.length : Int) s.1 s.2).run) (fun i => ((i : Int), (ls.take i).flatten)) ls.length 0 (fun i _ hi => ?_) ?_
    · rw [Nat.zero_add] at hi
      have hb := flat_take_le ls (i + 1)
      have hs := flat_take hi
      have hs' := congrArg List.length hs
      rw [List.length_append] at hs'
      have e1 : w64 ((i : Int) + 1) = ((i + 1 : Nat) : Int) := by rw [w64_of (by omega) (by omega)]; omega
      simp only [slices_Concat___api_Item_api_Item.l11]
      rw [bb_pos (decide_eq_true (by omega)), dd_pos (by omega)]
      simp only [Int.toNat_natCast, Tw.run_opt, List.getElem?_eq_getElem hi, Option.bind_some, e1]
      rw [dd_pos (by omega), hs]
      rfl
    · rw [Nat.zero_add]
      simp only [slices_Concat___api_Item_api_Item.l11]
      rw [bb_neg (decide_eq_false (by omega)), List.take_length]
      rfl
  simp only [slices_Concat___api_Item_api_Item.c, slices_Concat___api_Item_api_Item.t, Tw.run_opt, Tw.run_ret, h3, growL_eq (n := ((ls.flatten.length : Nat) : Int)) (by omega) (by omega), h11, Option.bind_some]

theorem concatI_eq {ls : List (List ItemV)} (h : ls.flatten.length * 24 ≤ 140737488355328) (hl : ls.length < 4611686018427387904) : slices_Concat__api_Itemapi_Item.c ls = some ls.flatten := by
  have h3 : slices_Concat__api_Itemapi_Item.L3 ls 0 ls (ls.length : Int) 0 = some ((ls.flatten.length : Nat) : Int) := by
    refine Lp_seq (fun s => (slices_Concat__api_Itemapi_Item.l3 ls ls (ls.length : Int) s.1 s.2).run) (fun i => ((((ls.take i).flatten.length : Nat) : Int), (i : Int))) ls.length 0 (fun i _ hi => ?_) ?_
    · rw [Nat.zero_add] at hi
      have hb := flat_take_le ls (i + 1)
      have hs := congrArg List.length (flat_take hi)
      rw [List.length_append] at hs
      have e : w64 ((((ls.take i).flatten.length : Nat) : Int) + ((ls[i].length : Nat) : Int)) = (((ls.take (i + 1)).flatten.length : Nat) : Int) := by rw [w64_of (by omega) (by omega)]; omega
      have e1 : w64 ((i : Int) + 1) = ((i + 1 : Nat) : Int) := by rw [w64_of (by omega) (by omega)]; omega
      simp only [slices_Concat__api_Itemapi_Item.l3]
      rw [bb_pos (decide_eq_true (by omega)), dd_pos (by omega)]
      simp only [Int.toNat_natCast, Tw.run_opt, List.getElem?_eq_getElem hi, Option.bind_some, e, e1]
      rw [bb_neg (decide_eq_false (by omega))]
      rfl
    · rw [Nat.zero_add]
      simp only [slices_Concat__api_Itemapi_Item.l3]
      rw [bb_neg (decide_eq_false (by omega)), List.take_length]
      rfl
  have h11 : slices_Concat__api_Itemapi_Item.L11 ls (ls.length : Int) 0 [] = some ls.flatten := by
    refine Lp_seq (fun s => (slices_Concat__api_Itemapi_Item.l11 ls (ls.length : Int) s.1 s.2).run) (fun i => ((i : Int), (ls.take i).flatten)) ls.length 0 (fun i _ hi => ?_) ?_
    · rw [Nat.zero_add] at hi
      have hb := flat_take_le ls (i + 1)
      have hs := flat_take hi
      have hs' := congrArg List.length hs
      rw [List.length_append] at hs'
      have e1 : w64 ((i : Int) + 1) = ((i + 1 : Nat) : Int) := by rw [w64_of (by omega) (by omega)]; omega
      simp only [slices_Concat__api_Itemapi_Item.l11]
      rw [bb_pos (decide_eq_true (by omega)), dd_pos (by omega)]
      simp only [Int.toNat_natCast, Tw.run_opt, List.getElem?_eq_getElem hi, Option.bind_some, e1]
      rw [dd_pos (by omega), hs]
      rfl
    · rw [Nat.zero_add]
      simp only [slices_Concat__api_Itemapi_Item.l11]
      rw [bb_neg (decide_eq_false (by omega)), List.take_length]
      rfl
  simp only [slices_Concat__api_Itemapi_Item.c, slices_Concat__api_Itemapi_Item.t, Tw.run_opt, Tw.run_ret, h3, growI_eq (n := ((ls.flatten.length : Nat) : Int)) (by omega) (by omega), h11, Option.bind_some]

theorem pack_Flat_eq {ls : List (List ItemV)} (h : ls.flatten.length * 24 ≤ 140737488355328) (hl : ls.length < 4611686018427387904) : pack_Flat.c ls = some ls.flatten := by
  simp only [pack_Flat.c, pack_Flat.t, Tw.run_opt, Tw.run_ret, concatI_eq h hl, Option.bind_some]
theorem ref24_Flat_eq {ls : List (List ItemV)} (h : ls.flatten.length * 24 ≤ 140737488355328) (hl : ls.length < 4611686018427387904) : ref24_Flat.c ls = some ls.flatten := by
  have h3 : ref24_Flat.L3 ls 0 [] = some ls.flatten := by
    refine Lp_seq (fun s => (ref24_Flat.l3 ls s.1 s.2).run) (fun i => ((i : Int), (ls.take i).flatten)) ls.length 0 (fun i _ hi => ?_) ?_
    · rw [Nat.zero_add] at hi
      have hb := flat_take_le ls (i + 1)
      have hs := flat_take hi
      have hs' := congrArg List.length hs
      rw [List.length_append] at hs'
      have e1 : w64 ((i : Int) + 1) = ((i + 1 : Nat) : Int) := by rw [w64_of (by omega) (by omega)]; omega
      simp only [ref24_Flat.l3]
      rw [bb_pos (decide_eq_true (by omega)), dd_pos (by omega)]
      simp only [Int.toNat_natCast, Tw.run_opt, List.getElem?_eq_getElem hi, Option.bind_some, e1]
      rw [dd_pos (by omega), hs]
      rfl
    · rw [Nat.zero_add]
      simp only [ref24_Flat.l3]
      rw [bb_neg (decide_eq_false (by omega)), List.take_length]
      rfl
  simp only [ref24_Flat.c, ref24_Flat.t, Tw.run_opt, Tw.run_ret, h3, Option.bind_some]

theorem clone_eq {l : List ItemV} (h : l.length * 24 ≤ 140737488355328) : slices_Clone__api_Itemapi_Item.c l = some l := by
  simp only [slices_Clone__api_Itemapi_Item.c, slices_Clone__api_Itemapi_Item.t]
  rw [dd_pos (by simp only [List.length_nil]; omega)]
  rfl

theorem with0_L3 (f o : Int) (more : List (List ItemV)) {z : List (List ItemV)} (h : z.length * 24 ≤ 140737488355328) (hz : ∀ l ∈ z, l.length * 24 ≤ 140737488355328) (a b c : Int) : pack_with_none0.L3 f o more (z.length : Int) 0 a b c [] z = some z := by
  refine Lp_seq (fun s => (pack_with_none0.l3 f o more (z.length : Int) a b c z s.1 s.2).run) (fun i => ((i : Int), z.take i)) z.length 0 (fun i _ hi => ?_) ?_
  · rw [Nat.zero_add] at hi
    have ht : (z.take i).length = i := by rw [List.length_take]; omega
    have e1 : w64 ((i : Int) + 1) = ((i + 1 : Nat) : Int) := by rw [w64_of (by omega) (by omega)]; omega
    simp only [pack_with_none0.l3]
    rw [bb_pos (decide_eq_true (by omega)), dd_pos (by omega)]
    simp only [Int.toNat_natCast, Tw.run_opt, List.getElem?_eq_getElem hi, Option.bind_some, clone_eq (hz _ (List.getElem_mem hi)), e1]
    rw [dd_pos (by simp only [List.length_cons, List.length_nil]; omega), List.take_succ_eq_append_getElem hi]
    rfl
  · rw [Nat.zero_add]
    simp only [pack_with_none0.l3]
    rw [bb_neg (decide_eq_false (by omega)), List.take_length]
    rfl

def putAt (ls : List (List ItemV)) (f o : Nat) (more : List (List ItemV)) : List (List ItemV) := ls.take f ++ more ++ ls.drop (f + o)
theorem putAt_mem {ls more : List (List ItemV)} {f o : Nat} {l : List ItemV} (h : l ∈ putAt ls f o more) : l ∈ ls ∨ l ∈ more := by
  unfold putAt at h
  simp only [List.mem_append] at h
  rcases h with (h | h) | h
  · exact Or.inl (List.mem_of_mem_take h)
  · exact Or.inr h
  · exact Or.inl (List.mem_of_mem_drop h)
theorem putAt_len (ls more : List (List ItemV)) (f o : Nat) : (putAt ls f o more).length ≤ ls.length + more.length + ls.length := by
  unfold putAt
  simp only [List.length_append, List.length_take, List.length_drop]
  omega

theorem pack_with0_eq {more : List (List ItemV)} (hm : more.length ≤ 1000) (h2 : ∀ l ∈ more, l.length ≤ 1000) : pack_with_none0.c 0 0 more = some (((more.length : Nat) : Int), more) := by
  have hmz : ∀ l ∈ more, l.length * 24 ≤ 140737488355328 := fun l h => by have := h2 l h; omega
  have e : w64 (0 + 0) = 0 := by rw [w64_of (by omega) (by omega)]; rfl
  simp only [pack_with_none0.c, pack_with_none0.t]
  rw [dd_pos (by omega), dd_pos (by rw [e]; omega)]
  have hc := concatL_eq (ls := [[], more, []]) (by simp; omega) (by simp)
  rw [show ([[], more, []] : List (List (List ItemV))).flatten = more by simp] at hc
  simp only [Tw.run_opt, Tw.run_ret, hc, with0_L3 _ _ _ (show more.length * 24 ≤ 140737488355328 by omega) hmz, Option.bind_some]

/-! The leaf that a key belongs to. -/
def hle (l : List ItemV) (key : Int) : Bool := match l with | x :: _ => decide (x.key ≤ key) | [] => false
def atN (ls : List (List ItemV)) (key : Int) : Nat → Nat
  | 0 => 0
  | k + 1 => if hle (ls.getD k []) key then k else atN ls key k
theorem atN_le (ls : List (List ItemV)) (key : Int) : ∀ k, atN ls key k ≤ k - 1
  | 0 => by rw [atN]; omega
  | k + 1 => by
    have := atN_le ls key k
    rw [atN]
    split <;> omega
theorem leaf_get {ls : List (List ItemV)} {k : Nat} (h : k < ls.length) : ls.getD k [] = ls[k] := by rw [List.getD_eq_getElem?_getD, List.getElem?_eq_getElem h]; rfl

/-! Where a leaf is cut. -/
abbrev Gd (l : List ItemV) : Prop := ∀ x ∈ l, InR .u32 x.key ∧ x.data.size ≤ 64
theorem Gd.its {l : List ItemV} (h : Gd l) : Its l := fun x hx => ⟨(h x hx).1, Nat.le_trans (h x hx).2 (by rw [reach_eq]; omega)⟩
theorem Gd.take {l : List ItemV} (h : Gd l) (n : Nat) : Gd (l.take n) := fun x hx => h x (List.mem_of_mem_take hx)
theorem Gd.drop {l : List ItemV} (h : Gd l) (n : Nat) : Gd (l.drop n) := fun x hx => h x (List.mem_of_mem_drop hx)
theorem Gd.app {a b : List ItemV} (h : Gd a) (g : Gd b) : Gd (a ++ b) := fun x hx => by
  rcases List.mem_append.1 hx with hx | hx
  · exact h x hx
  · exact g x hx
theorem leafT {l : List ItemV} (h : Gd l) (hn : l.length ≤ 1000) : leaf_Total.c l = some ((totI l : Nat) : Int) := by
  have := totI_le64 (fun x hx => (h x hx).2)
  exact leaf_Total_eq h.its (by omega) (by omega)
theorem refT {l : List ItemV} (h : Gd l) (hn : l.length ≤ 1000) : ref23_Total.c l = some ((totI l : Nat) : Int) := by
  have := totI_le64 (fun x hx => (h x hx).2)
  exact ref23_Total_eq h.its (by omega) (by omega)
theorem leafC {x : ItemV} (h : x.data.size ≤ 64) : leaf_Cost.c x.key x.data = some ((cstI x : Nat) : Int) := leaf_Cost_eq (Nat.le_trans h (by rw [reach_eq]; omega))
theorem refC {x : ItemV} (h : x.data.size ≤ 64) : ref23_Cost.c x.key x.data = some ((cstI x : Nat) : Int) := ref23_Cost_eq (Nat.le_trans h (by rw [reach_eq]; omega))

def frontF (l : List ItemV) (most : Int) : Nat → Nat → Nat
  | 0, n => n
  | k + 1, n => if ((totI (l.take (n + 1)) : Nat) : Int) > most then n else frontF l most k (n + 1)
def frontN (l : List ItemV) (most : Int) : Nat := frontF l most (l.length - 1) 1
theorem frontF_prop {l : List ItemV} {most : Int} : ∀ (k n : Nat), k + n = l.length → n ≤ frontF l most k n ∧ frontF l most k n ≤ l.length ∧ (frontF l most k n < l.length → ((totI (l.take (frontF l most k n + 1)) : Nat) : Int) > most) ∧ (frontF l most k n = n ∨ ((totI (l.take (frontF l most k n)) : Nat) : Int) ≤ most)
  | 0, n, h => by
    rw [frontF]; exact ⟨by omega, by omega, by omega, Or.inl rfl⟩
  | k + 1, n, h => by
    rw [frontF]
    by_cases g : ((totI (l.take (n + 1)) : Nat) : Int) > most
    · rw [if_pos g]; exact ⟨by omega, by omega, fun _ => g, Or.inl rfl⟩
    · rw [if_neg g]
      obtain ⟨i1, i2, i3, i4⟩ := frontF_prop (l := l) (most := most) k (n + 1) (by omega)
      refine ⟨by omega, i2, i3, Or.inr ?_⟩
      rcases i4 with h4 | h4
      · rw [h4]; omega
      · exact h4
theorem pack_front_L2 {l : List ItemV} (hg : Gd l) (hn : l.length ≤ 1000) (most : Int) : ∀ (k n : Nat), k + n = l.length → 0 < n → pack_front.L2 l most (n : Int) ((totI (l.take n) : Nat) : Int) = some ((frontF l most k n : Nat) : Int)
  | 0, n, h, h0 => by
    refine Lp_end ?_
    simp only [pack_front.l2]
    rw [bb_neg (decide_eq_false (by omega))]
    rfl
  | k + 1, n, h, h0 => by
    have hi : n < l.length := by omega
    have ht := totI_take hi
    have hb := totI_le64 (fun x hx => (hg x hx).2)
    have hm := totI_mono (l := l) (n + 1)
    have e : w64 (((totI (l.take n) : Nat) : Int) + ((cstI l[n] : Nat) : Int)) = ((totI (l.take (n + 1)) : Nat) : Int) := by rw [w64_of (by omega) (by omega)]; omega
    have e1 : w64 ((n : Int) + 1) = ((n + 1 : Nat) : Int) := by rw [w64_of (by omega) (by omega)]; omega
    have hs : (pack_front.l2 l most (n : Int) ((totI (l.take n) : Nat) : Int)).run = some (if ((totI (l.take (n + 1)) : Nat) : Int) > most then .inr (n : Int) else .inl (((n + 1 : Nat) : Int), ((totI (l.take (n + 1)) : Nat) : Int)) : (Int × Int) ⊕ Int) := by
      simp only [pack_front.l2]
      rw [bb_pos (decide_eq_true (by omega)), dd_pos (by omega)]
      simp only [Int.toNat_natCast, Tw.run_opt, List.getElem?_eq_getElem hi, Option.bind_some, leafC (hg _ (List.getElem_mem hi)).2, e, e1]
      rw [bb_pos (decide_eq_true (by omega))]
      by_cases g : ((totI (l.take (n + 1)) : Nat) : Int) > most
      · rw [bb_pos (decide_eq_true g), if_pos g]; rfl
      · rw [bb_neg (decide_eq_false g), if_neg g]; rfl
    rw [frontF]
    by_cases g : ((totI (l.take (n + 1)) : Nat) : Int) > most
    · rw [if_pos g] at hs ⊢; exact Lp_end hs
    · rw [if_neg g] at hs ⊢; exact (Lp_next hs).trans (pack_front_L2 hg hn most k (n + 1) (by omega) (by omega))
theorem pack_front_eq {l : List ItemV} (hg : Gd l) (hn : l.length ≤ 1000) (h0 : 0 < l.length) (most : Int) : pack_front.c l most = some ((frontN l most : Nat) : Int) := by
  have hL : pack_front.L2 l most 0 0 = some ((frontN l most : Nat) : Int) := by
    have ht := totI_take (l := l) h0
    have hb := totI_le64 (fun x hx => (hg x hx).2)
    have hm := totI_mono (l := l) (0 + 1)
    have h00 : totI (l.take 0) = 0 := rfl
    have e : w64 ((0 : Int) + ((cstI l[0] : Nat) : Int)) = ((totI (l.take (0 + 1)) : Nat) : Int) := by rw [w64_of (by omega) (by omega)]; omega
    have e1 : w64 ((0 : Int) + 1) = ((1 : Nat) : Int) := by rw [w64_of (by omega) (by omega)]; omega
    have hs : (pack_front.l2 l most 0 0).run = some (.inl (((1 : Nat) : Int), ((totI (l.take (0 + 1)) : Nat) : Int)) : (Int × Int) ⊕ Int) := by
      simp only [pack_front.l2]
      rw [bb_pos (decide_eq_true (by omega)), dd_pos (by omega)]
      simp only [show Int.toNat (0 : Int) = 0 from rfl, Tw.run_opt, List.getElem?_eq_getElem h0, Option.bind_some, leafC (hg _ (List.getElem_mem h0)).2, e, e1]
      rw [bb_neg (decide_eq_false (by omega))]
      rfl
    exact (Lp_next hs).trans (pack_front_L2 hg hn most (l.length - 1) 1 (by omega) (by omega))
  simp only [pack_front.c, pack_front.t, Tw.run_opt, Tw.run_ret, hL, Option.bind_some]

end Go.Proofs.Ytmlbioapefgioaa.Pure
