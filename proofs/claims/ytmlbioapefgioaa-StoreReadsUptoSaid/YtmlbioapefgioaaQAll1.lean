/- Plain texts that StoreReads leans on, put together. -/
import Derived.Test.YtmlbioapefgioaaQ
import Derived.Test.YtmlbioapefgioaaFword
import Derived.Test.YtmlbioapefgioaaFref01
import Derived.Test.YtmlbioapefgioaaFitem
import Derived.Test.YtmlbioapefgioaaFref18
import Derived.Test.YtmlbioapefgioaaFleaf
import Derived.Test.YtmlbioapefgioaaFref23
import Derived.Test.YtmlbioapefgioaaFslices
import Derived.Test.YtmlbioapefgioaaFpack
import Derived.Test.YtmlbioapefgioaaFref24
import Derived.Test.YtmlbioapefgioaaFfield
import Derived.Test.YtmlbioapefgioaaFref12
import Derived.Test.YtmlbioapefgioaaFschema
import Derived.Test.YtmlbioapefgioaaFref13
import Derived.Test.YtmlbioapefgioaaFrecord
import Derived.Test.YtmlbioapefgioaaFref14
import Derived.Test.YtmlbioapefgioaaFstore
import Derived.Test.YtmlbioapefgioaaFlaw28
import Derived.Test.YtmlbioapefgioaaFref28
import Derived.Test.YtmlbioapefgioaaFref20
set_option linter.unusedSimpArgs false
set_option linter.unusedVariables false
namespace Go.Proofs.Ytmlbioapefgioaa.Pure
noncomputable section
open Go Go.Proofs.Ytmlbioapefgioaa.Va

section
variable {α : Type}
theorem dd_pos {p : Prop} {d : Decidable p} {x y : Tw α} (h : p) : (Tw.dd p d x y).run = x.run := by rw [Tw.run_dd, if_pos h]
theorem dd_neg {p : Prop} {d : Decidable p} {x y : Tw α} (h : ¬ p) : (Tw.dd p d x y).run = y.run := by rw [Tw.run_dd, if_neg h]
theorem bb_pos {b : Bool} {x y : Tw α} (h : b = true) : (Tw.bb b x y).run = x.run := by rw [Tw.run_bb, if_pos h]
theorem bb_neg {b : Bool} {x y : Tw α} (h : b = false) : (Tw.bb b x y).run = y.run := by rw [Tw.run_bb, h]; rfl
theorem opt_some {β : Type} {o : Option β} {f : β → Tw α} {x : β} (h : o = some x) : (Tw.opt o f).run = (f x).run := by rw [Tw.run_opt, h]; rfl
end

section
variable {α β γ : Type}
theorem sm_inl {a : α} {f : α → Tw γ} {g : β → Tw γ} : (Tw.sm (.inl a) f g).run = (f a).run := rfl
theorem sm_inr {b : β} {f : α → Tw γ} {g : β → Tw γ} : (Tw.sm (.inr b) f g).run = (g b).run := rfl
end
theorem take_snoc {α : Type} {l : List α} {i : Nat} (d : α) (hi : i < l.length) : l.take (i + 1) = l.take i ++ [l.getD i d] := by
 rw [List.take_add_one, List.getElem?_eq_getElem hi, List.getD_eq_getElem?_getD, List.getElem?_eq_getElem hi]
 rfl
theorem getD_some {α : Type} {l : List α} {i : Nat} (d : α) (hi : i < l.length) : l[i]? = some (l.getD i d) := by
 rw [List.getD_eq_getElem?_getD, List.getElem?_eq_getElem hi]
 rfl
section
variable {S X α β : Type}
end
theorem l2b_b2l (s : ByteArray) : l2b (b2l s) = s := by
 unfold l2b b2l
 have : (s.data.toList.map fun (b : UInt8) => ((b.toNat : Nat) : Int)).map (fun n => UInt8.ofNat n.toNat) = s.data.toList := by
  rw [List.map_map]
  conv => rhs; rw [← List.map_id s.data.toList]
  apply List.map_congr_left
  intro x _
  show UInt8.ofNat ((x.toNat : Int).toNat) = x
  rw [Int.toNat_natCast, UInt8.ofNat_toNat]
 rw [this]
theorem b2l_l2b {l : List Int} (h : Bytes l) : b2l (l2b l) = l := by
 unfold l2b b2l
 show ((l.map fun n => UInt8.ofNat n.toNat).toArray.toList).map _ = l
 rw [List.toList_toArray, List.map_map]
 conv => rhs; rw [← List.map_id l]
 apply List.map_congr_left
 intro x hx
 have := (h x hx).u8
 show ((x.toNat % 256 : Nat) : Int) = x
 omega
theorem b2l_len (s : ByteArray) : (b2l s).length = s.size := by simp [b2l]
theorem l2b_size (l : List Int) : (l2b l).size = l.length := by simp [l2b, ByteArray.size]
theorem b2l_bytes (s : ByteArray) : Bytes (b2l s) := by
 intro x hx
 unfold b2l at hx
 obtain ⟨b, _, rfl⟩ := List.mem_map.1 hx
 have := b.toNat_lt
 exact inR_u8 (by omega)

theorem bytes_take {l : List Int} (h : Bytes l) (i : Nat) : Bytes (l.take i) := fun x hx => h x (List.mem_of_mem_take hx)
theorem bytes_drop {l : List Int} (h : Bytes l) (i : Nat) : Bytes (l.drop i) := fun x hx => h x (List.mem_of_mem_drop hx)


def needN (n : Nat) : Nat := (n + 3) / 4
def need (n : Int) : Int := if n < 1 then 0 else (n + 3) / 4
theorem need_nat (n : Nat) : need (n : Int) = ((needN n : Nat) : Int) := by unfold need needN; split <;> omega

theorem word_Need_eq (n : Int) (h : InR .i64 n) : word_Need.c n = some (need n) := by
 have := h.i64
 simp only [word_Need.c, word_Need.t, Tw.run_bb, Tw.run_ret, decide_eq_true_eq, need]
 split
 ·rfl
 ·rw [w64_of (n := n - 1) (by omega) (by omega)]
  have e : Int.tdiv (n - 1) 4 = (n - 1) / 4 := Int.tdiv_eq_ediv_of_nonneg (by omega)
  rw [e]
  simp (disch := omega) only [w64_of]
  congr 1
  omega
theorem ref01_Need_eq (n : Int) (h : InR .i64 n) : ref01_Need.c n = some (need n) := by
 have := h.i64
 simp only [ref01_Need.c, ref01_Need.t, Tw.run_bb, Tw.run_ret, decide_eq_true_eq, need]
 split
 ·rfl
 ·have e : Int.tdiv n 4 = n / 4 := Int.tdiv_eq_ediv_of_nonneg (by omega)
  have e2 : Int.tmod n 4 = n % 4 := Int.tmod_eq_emod_of_nonneg (by omega)
  rw [e, e2, w64_of (n := n % 4 + 3) (by omega) (by omega)]
  have e3 : Int.tdiv (n % 4 + 3) 4 = (n % 4 + 3) / 4 := Int.tdiv_eq_ediv_of_nonneg (by omega)
  rw [e3]
  simp (disch := omega) only [w64_of]
  congr 1
  omega

def pop (x : Nat) : Nat := if h : x = 0 then 0 else x % 2 + pop (x / 2)
decreasing_by omega

def zer (x : Int) : Nat := 32 - pop x.toNat
def zsum (l : List Int) : Nat := (l.map zer).sum
def zs (l : List Int) : Int := ((zsum l % 4294967296 : Nat) : Int)
instance : DecidableEq ItemV := fun a b => Classical.propDecidable _

def mainR (form id : Int) : Int × Int := if form < 0 ∨ form > 200 ∨ id < 0 ∨ id > 65535 then (0, 2) else (form * 65536 + id, 0)
def toldK (k : Int) : Int × (Int × Int) := (k / 16777216 - 1, (k / 65536 % 256, k % 65536))

theorem bShl_16 {a : Int} (h : 0 ≤ a ∧ a ≤ 65535) : bShl .u32 a 16 = a * 65536 := by
 rw [show (16 : Int) = ((16 : Nat) : Int) from rfl, bShl_u32 _ _ (by omega)]
 omega
theorem bShr_16 (a : Int) : bShr .u32 a 16 = a / 65536 := by
 rw [show (16 : Int) = ((16 : Nat) : Int) from rfl, bShr_u32 _ _ (by omega)]
 rfl
theorem bShr_24 (a : Int) : bShr .u32 a 24 = a / 16777216 := by
 rw [show (24 : Int) = ((24 : Nat) : Int) from rfl, bShr_u32 _ _ (by omega)]
 rfl

theorem item_Main_eq (form id : Int) : item_Main.c form id = some (mainR form id) := by
 simp only [item_Main.c, item_Main.t, Tw.run_bb, Tw.run_ret, decide_eq_true_eq]
 unfold mainR
 by_cases h0 : form < 0
 ·rw [if_pos h0, if_pos (Or.inl h0)]
 rw [if_neg h0]
 by_cases h1 : form > 200
 ·rw [if_pos h1, if_pos (Or.inr (Or.inl h1))]
 rw [if_neg h1]
 by_cases h2 : id < 0
 ·rw [if_pos h2, if_pos (Or.inr (Or.inr (Or.inl h2)))]
 rw [if_neg h2]
 by_cases h3 : id > 65535
 ·rw [if_pos h3, if_pos (Or.inr (Or.inr (Or.inr h3)))]
 rw [if_neg h3, if_neg (by omega), w32_of (by omega) (by omega), w32_of (by omega) (by omega), bShl_16 (by omega), bOr_add 16 (by omega) (by omega) (by omega) (by omega) (by omega) (by omega)]

theorem item_Told_eq {k : Int} (hk : InR .u32 k) : item_Told.c k = some (toldK k) := by
 have h := hk.u32
 have e1 := bAnd_mask 8 (by omega) (x := k / 65536) (by omega)
 have e2 := bAnd_mask 16 (by omega) (x := k) h
 have c1 : (((2 ^ 8 - 1 : Nat)) : Int) = 255 := by decide
 have c2 : (((2 ^ 16 - 1 : Nat)) : Int) = 65535 := by decide
 rw [c1] at e1
 rw [c2] at e2
 simp only [item_Told.c, item_Told.t, Tw.run_ret, bShr_16, bShr_24, e1, e2]
 unfold toldK
 rw [w64_of (n := k / 16777216) (by omega) (by omega), w64_of (by omega) (by omega), w64_of (by omega) (by omega), w64_of (by omega) (by omega)]
 congr 3

theorem ref18_Told_eq {k : Int} (hk : InR .u32 k) : ref18_Told.c k = some (toldK k) := by
 have h := hk.u32
 have d1 : Int.tdiv k 16777216 = k / 16777216 := Int.tdiv_eq_ediv_of_nonneg h.1
 have d2 : Int.tmod k 16777216 = k % 16777216 := Int.tmod_eq_emod_of_nonneg h.1
 have d3 : Int.tmod k 65536 = k % 65536 := Int.tmod_eq_emod_of_nonneg h.1
 have d4 : Int.tdiv (k % 16777216) 65536 = k % 16777216 / 65536 := Int.tdiv_eq_ediv_of_nonneg (by omega)
 simp only [ref18_Told.c, ref18_Told.t, Tw.run_ret, d1, d2, d3, d4]
 unfold toldK
 rw [w32_of (n := k / 16777216) (by omega) (by omega), w32_of (n := k % 16777216 / 65536) (by omega) (by omega), w64_of (n := k / 16777216) (by omega) (by omega), w64_of (by omega) (by omega), w64_of (by omega) (by omega), w64_of (by omega) (by omega)]
 have e : k % 16777216 / 65536 = k / 65536 % 256 := by omega
 rw [e]

theorem ref18_Fits_eq (form id : Int) : ref18_Fits.c form id = some (decide (0 ≤ form ∧ form ≤ 200 ∧ 0 ≤ id ∧ id ≤ 65535)) := by
  simp only [ref18_Fits.c, ref18_Fits.t, Tw.run_bb, Tw.run_ret, decide_eq_true_eq]
  by_cases h0 : form ≥ 0
  · by_cases h1 : form ≤ 200
    · by_cases h2 : id ≥ 0
      · rw [if_pos h0, if_pos h1, if_pos h2]
        congr 1
        rw [decide_eq_decide]
        omega
      · rw [if_pos h0, if_pos h1, if_neg h2]
        congr 1
        symm
        rw [decide_eq_false_iff_not]
        omega
    · rw [if_pos h0, if_neg h1]
      congr 1
      symm
      rw [decide_eq_false_iff_not]
      omega
  · rw [if_neg h0]
    congr 1
    symm
    rw [decide_eq_false_iff_not]
    omega

theorem ref18_Main_eq {form id : Int} (h : 0 ≤ form ∧ form ≤ 200 ∧ 0 ≤ id ∧ id ≤ 65535) : ref18_Main.c form id = some (form * 65536 + id) := by
 simp only [ref18_Main.c, ref18_Main.t, Tw.run_ret]
 rw [w32_of (n := form) (by omega) (by omega), w32_of (n := form * 65536) (by omega) (by omega), w32_of (n := id) (by omega) (by omega), w32_of (by omega) (by omega)]
abbrev Its (l : List ItemV) : Prop := ∀ x ∈ l, InR .u32 x.key ∧ x.data.size ≤ reachBytes
def nob : ByteArray := ByteArray.mk (List.toArray [])
def findR (l : List ItemV) (k : Int) : ByteArray × Bool := pickO (l.find? fun x => x.key == k) (fun x => (x.data, true)) (nob, false)

theorem item_Find_eq {l : List ItemV} (hl : l.length ≤ 140737488351232) (k : Int) : item_Find.c l k = some (findR l k) := by
 have hL : item_Find.L2 k l (l.length : Int) 0 = some (pickO (l.find? fun x => x.key == k) (fun x => .inr (x.data, true)) (.inl ())) := by
  refine Lp_list (fun s => (item_Find.l2 k l (l.length : Int) s).run) (fun i => (i : Int)) l (fun x => x.key == k) (fun x => .inr (x.data, true)) (.inl ()) (fun i a h => ?_) ?_
  ·have hi := (List.getElem?_eq_some_iff.1 h).1
   simp only [item_Find.l2, Tw.run_bb, Tw.run_dd, Tw.run_opt, Tw.run_ret, Tw.run_no, Int.toNat_natCast, h, Option.bind_some]
   rw [if_pos (by simp; omega), if_pos (by omega)]
   split
   ·rfl
   ·rw [w64_of (by omega) (by omega)]; rfl
  ·simp only [item_Find.l2, Tw.run_bb, Tw.run_ret]
   rw [if_neg (by simp)]
 simp only [item_Find.c, item_Find.t, Tw.run_opt, Tw.run_sm, Tw.run_ret, hL, Option.bind_some]
 unfold findR
 cases l.find? fun x => x.key == k <;> rfl

theorem ref18_Find_eq {l : List ItemV} (hl : l.length ≤ 140737488351232) (k : Int) : ref18_Find.c l k = some (findR l k) := by
 have hL : ref18_Find.L2 l k 0 = some (pickO (l.find? fun x => x.key == k) (fun x => .inr (x.data, true)) (.inl ())) := by
  refine Lp_list (fun s => (ref18_Find.l2 l k s).run) (fun i => (i : Int)) l (fun x => x.key == k) (fun x => .inr (x.data, true)) (.inl ()) (fun i a h => ?_) ?_
  ·have hi := (List.getElem?_eq_some_iff.1 h).1
   simp only [ref18_Find.l2, Tw.run_bb, Tw.run_dd, Tw.run_opt, Tw.run_ret, Tw.run_no, Int.toNat_natCast, h, Option.bind_some]
   rw [if_pos (by simp; omega), if_pos (by omega)]
   by_cases hk : (a.key == k) = true
   ·rw [if_pos hk, if_pos hk, if_pos (by omega)]
   ·rw [if_neg hk, if_neg hk, w64_of (by omega) (by omega)]; rfl
  ·simp only [ref18_Find.l2, Tw.run_bb, Tw.run_ret]
   rw [if_neg (by simp)]
 simp only [ref18_Find.c, ref18_Find.t, Tw.run_opt, Tw.run_sm, Tw.run_ret, hL, Option.bind_some]
 unfold findR
 cases l.find? fun x => x.key == k <;> rfl

def badAt (l : List ItemV) (i : Nat) : Bool := match l[i]? with
 | some x => decide (x.data.size > 64) || (decide (0 < i) && match l[i - 1]? with | some y => decide (y.key ≥ x.key) | none => false)
 | none => false
def rightI (l : List ItemV) : Bool := ((List.range' 0 l.length).find? (badAt l)).isNone

theorem right_loop (f : Int → Option (Int ⊕ (Unit ⊕ Bool))) (l : List ItemV) (h : ∀ (i : Nat), i < l.length → f (i : Int) = some (if badAt l i then .inr (.inr false) else .inl ((i + 1 : Nat) : Int))) (he : f (l.length : Int) = some (.inr (.inl ()))) :
  Lp f 0 = some (if rightI l then .inl () else .inr false) := by
 have := Lp_find f (fun k => (k : Int)) (badAt l) (fun _ => (.inr false : Unit ⊕ Bool)) (.inl ()) l.length 0 (fun k h1 h2 => h k (by omega)) (by rw [Nat.zero_add]; exact he)
 refine this.trans ?_
 unfold rightI
 cases (List.range' 0 l.length).find? (badAt l) <;> rfl

theorem ref18_Right_eq {l : List ItemV} (hl : l.length ≤ 140737488351232) : ref18_Right.c l = some (rightI l) := by
 have hL : ref18_Right.L2 l 0 = some (if rightI l then .inl () else .inr false) := by
  refine right_loop (fun s => (ref18_Right.l2 l s).run) l (fun i hi => ?_) ?_
  ·have e : l[i]? = some l[i] := List.getElem?_eq_getElem hi
   simp only [ref18_Right.l2, Tw.run_bb, Tw.run_dd, Tw.run_opt, Tw.run_ret, Tw.run_no, Int.toNat_natCast, e, Option.bind_some, decide_eq_true_eq]
   rw [if_pos (by omega), if_pos (by omega)]
   simp only [w64_of (show -9223372036854775808 ≤ (i : Int) + 1 by omega) (show (i : Int) + 1 < 9223372036854775808 by omega)]
   unfold badAt
   rw [e]
   by_cases h1 : l[i].data.size > 64
   ·rw [if_pos (by omega)]
    simp [h1]
   rw [if_neg (by omega)]
   by_cases h2 : 0 < i
   ·have e3 : l[i - 1]? = some (l[i - 1]'(by omega)) := List.getElem?_eq_getElem _
    rw [if_pos (by omega), w64_of (by omega) (by omega), if_pos (by omega), show ((i : Int) - 1).toNat = i - 1 by omega, e3]
    simp only [Option.bind_some]
    rw [if_pos (by omega)]
    by_cases h3 : (l[i - 1]'(by omega)).key ≥ l[i].key
    ·simp [h1, h2, h3]
    ·simp [h1, h2, h3]
   ·rw [if_neg (by omega)]
    simp [h1, h2]
  ·simp only [ref18_Right.l2, Tw.run_bb, Tw.run_ret]
   rw [if_neg (by simp)]
 simp only [ref18_Right.c, ref18_Right.t, Tw.run_opt, Tw.run_sm, Tw.run_ret, hL, Option.bind_some]
 cases rightI l <;> rfl

theorem item_Cut_1_eq (k a : Int) : item_Cut_1.c k a = some (k != a) := by simp only [item_Cut_1.c, item_Cut_1.t, Tw.run_ret]
def ownK (k : Int) : Bool := k / 16777216 == 0
theorem item_own_eq (k : Int) : item_own.c k = some (ownK k) := by simp only [item_own.c, item_own.t, Tw.run_ret, bShr_24, ownK]
theorem item_some_of_item_Cut_1_eq {l : List ItemV} (hl : l.length * 24 ≤ reachBytes) (a : Int) : item_some_of_item_Cut_1.c l a = some (l.filter fun x => x.key != a) := by
 rw [reach_eq] at hl
 have hL : item_some_of_item_Cut_1.L3 l (l.length : Int) 0 a [] = some (l.filter fun x => x.key != a) := by
  refine Lp_filter (fun s => (item_some_of_item_Cut_1.l3 l (l.length : Int) a s.1 s.2).run) (fun i acc => ((i : Int), acc)) l (fun x => x.key != a) _ (fun i x h => ?_) ?_
  ·have hi := (List.getElem?_eq_some_iff.1 h).1
   have hf : ((l.take i).filter fun x => x.key != a).length ≤ i := Nat.le_trans (List.length_filter_le _ _) (by rw [List.length_take]; omega)
   simp only [item_some_of_item_Cut_1.l3, Tw.run_bb, Tw.run_dd, Tw.run_opt, Tw.run_ret, Tw.run_no, Int.toNat_natCast, h, item_Cut_1_eq, Option.bind_some, List.length_cons, List.length_nil]
   rw [if_pos (by simp; omega), if_pos (by omega)]
   simp only [w64_of (show -9223372036854775808 ≤ (i : Int) + 1 by omega) (show (i : Int) + 1 < 9223372036854775808 by omega)]
   cases (x.key != a)
   ·simp only [Bool.false_eq_true, if_false, List.append_nil]
    rfl
   ·simp only [if_true]
    rw [if_pos ⟨by omega, by omega⟩]
    rfl
  ·simp only [item_some_of_item_Cut_1.l3, Tw.run_bb, Tw.run_ret]
   rw [if_neg (by simp)]
 simp only [item_some_of_item_Cut_1.c, item_some_of_item_Cut_1.t, Tw.run_opt, Tw.run_ret, hL, Option.bind_some]

theorem item_some_of_item_own_eq {l : List ItemV} (hl : l.length * 24 ≤ reachBytes) : item_some_of_item_own.c l = some (l.filter fun x => ownK x.key) := by
 rw [reach_eq] at hl
 have hL : item_some_of_item_own.L3 l (l.length : Int) 0 [] = some (l.filter fun x => ownK x.key) := by
  refine Lp_filter (fun s => (item_some_of_item_own.l3 l (l.length : Int) s.1 s.2).run) (fun i acc => ((i : Int), acc)) l (fun x => ownK x.key) _ (fun i x h => ?_) ?_
  ·have hi := (List.getElem?_eq_some_iff.1 h).1
   have hf : ((l.take i).filter fun x => ownK x.key).length ≤ i := Nat.le_trans (List.length_filter_le _ _) (by rw [List.length_take]; omega)
   simp only [item_some_of_item_own.l3, Tw.run_bb, Tw.run_dd, Tw.run_opt, Tw.run_ret, Tw.run_no, Int.toNat_natCast, h, item_own_eq, Option.bind_some, List.length_cons, List.length_nil]
   rw [if_pos (by simp; omega), if_pos (by omega)]
   simp only [w64_of (show -9223372036854775808 ≤ (i : Int) + 1 by omega) (show (i : Int) + 1 < 9223372036854775808 by omega)]
   cases (ownK x.key)
   ·simp only [Bool.false_eq_true, if_false, List.append_nil]
    rfl
   ·simp only [if_true]
    rw [if_pos ⟨by omega, by omega⟩]
    rfl
  ·simp only [item_some_of_item_own.l3, Tw.run_bb, Tw.run_ret]
   rw [if_neg (by simp)]
 simp only [item_some_of_item_own.c, item_some_of_item_own.t, Tw.run_opt, Tw.run_ret, hL, Option.bind_some]

def putI (l : List ItemV) (a : Int) (b : ByteArray) : List ItemV := (l.filter fun x => decide (x.key < a)) ++ [⟨a, b⟩] ++ (l.filter fun x => decide (x.key > a))
def cutI (l : List ItemV) (a : Int) : List ItemV := l.filter fun x => x.key != a

theorem filters_len (l : List ItemV) (p q : ItemV → Bool) (h : ∀ x, p x = true → q x = false) : (l.filter p).length + (l.filter q).length ≤ l.length := by
 induction l with
 | nil => simp
 | cons x l ih =>
  simp only [List.filter_cons]
  cases hp : p x with
  | true => rw [h x hp]; simp; omega
  | false => cases q x <;> simp <;> omega
theorem put_len (l : List ItemV) (a : Int) : (l.filter fun x => decide (x.key < a)).length + (l.filter fun x => decide (x.key > a)).length ≤ l.length :=
 filters_len l _ _ fun x h => by simp at h ⊢; omega

theorem item_Cut_eq {l : List ItemV} (hl : l.length * 24 ≤ reachBytes) (a : Int) : item_Cut.c l a = some (decide ((cutI l a).length < l.length), cutI l a) := by
 simp only [item_Cut.c, item_Cut.t, Tw.run_opt, Tw.run_ret, item_some_of_item_Cut_1_eq hl, Option.bind_some]
 congr 2
 rw [decide_eq_decide]
 exact Int.ofNat_lt
theorem item_Mains_eq {l : List ItemV} (hl : l.length * 24 ≤ reachBytes) : item_Mains.c l = some (l.filter fun x => ownK x.key) := by
 simp only [item_Mains.c, item_Mains.t, Tw.run_opt, Tw.run_ret, item_some_of_item_own_eq hl, Option.bind_some]
theorem ref18_Between_eq {l : List ItemV} (hl : l.length * 24 ≤ reachBytes) (lo hi : Int) : ref18_Between.c l lo hi = some (l.filter fun x => decide (x.key ≥ lo) && decide (x.key ≤ hi)) := by
 rw [reach_eq] at hl
 have hL : ref18_Between.L3 l lo hi 0 [] = some (l.filter fun x => decide (x.key ≥ lo) && decide (x.key ≤ hi)) := by
  refine Lp_filter (fun s => (ref18_Between.l3 l lo hi s.1 s.2).run) (fun i acc => ((i : Int), acc)) l (fun x => decide (x.key ≥ lo) && decide (x.key ≤ hi)) _ (fun i x h => ?_) ?_
  ·have hi' := (List.getElem?_eq_some_iff.1 h).1
   have hf : ((l.take i).filter fun x => decide (x.key ≥ lo) && decide (x.key ≤ hi)).length ≤ i := Nat.le_trans (List.length_filter_le _ _) (by rw [List.length_take]; omega)
   simp only [ref18_Between.l3, Tw.run_bb, Tw.run_dd, Tw.run_opt, Tw.run_ret, Tw.run_no, Int.toNat_natCast, h, Option.bind_some, List.length_cons, List.length_nil]
   rw [if_pos (by simp; omega), if_pos (by omega)]
   simp only [w64_of (show -9223372036854775808 ≤ (i : Int) + 1 by omega) (show (i : Int) + 1 < 9223372036854775808 by omega), show (0 : Int) ≤ (i : Int) by omega, if_true]
   cases decide (x.key ≥ lo) <;> cases decide (x.key ≤ hi)
   ·simp only [Bool.false_eq_true, if_false, List.append_nil, Bool.and_false, Bool.and_true]
    rfl
   ·simp only [Bool.false_eq_true, if_false, List.append_nil, Bool.and_false, Bool.and_true]
    rfl
   ·simp only [Bool.false_eq_true, if_false, if_true, List.append_nil, Bool.and_false, Bool.and_true]
    rfl
   ·simp only [if_true, Bool.and_true]
    rw [if_pos ⟨by omega, by omega⟩]
    rfl
  ·simp only [ref18_Between.l3, Tw.run_bb, Tw.run_ret]
   rw [if_neg (by simp)]
 simp only [ref18_Between.c, ref18_Between.t, Tw.run_opt, Tw.run_ret, hL, Option.bind_some]

theorem filter_same {l : List ItemV} {p q : ItemV → Bool} (h : ∀ x ∈ l, p x = q x) : l.filter p = l.filter q := List.filter_congr h
theorem ref18_Mains_eq {l : List ItemV} (hi : Its l) (hl : l.length * 24 ≤ reachBytes) : ref18_Mains.c l = some (l.filter fun x => ownK x.key) := by
 simp only [ref18_Mains.c, ref18_Mains.t, Tw.run_opt, Tw.run_ret, ref18_Between_eq hl, Option.bind_some]
 congr 1
 refine filter_same fun x hx => ?_
 have := (hi x hx).1.u32
 unfold ownK
 rw [Bool.eq_iff_iff]
 simp
 omega

def cstI (x : ItemV) : Nat := 2 + needN x.data.size
def totI (l : List ItemV) : Nat := (l.map cstI).sum
theorem totI_cons (x : ItemV) (l : List ItemV) : totI (x :: l) = cstI x + totI l := by simp [totI]
theorem totI_append (a b : List ItemV) : totI (a ++ b) = totI a + totI b := by simp [totI]
theorem cstI_le {x : ItemV} (h : x.data.size ≤ reachBytes) : cstI x ≤ 35184372087811 := by rw [reach_eq] at h; unfold cstI needN; omega
theorem totI_le64 {l : List ItemV} (h : ∀ x ∈ l, x.data.size ≤ 64) : totI l ≤ 18 * l.length := by
 induction l with
 | nil => simp [totI]
 | cons x l ih =>
  have h1 := h x (by simp)
  have h2 := ih fun y hy => h y (List.mem_cons_of_mem _ hy)
  rw [totI_cons, List.length_cons]
  unfold cstI needN
  omega
theorem totI_take {l : List ItemV} {i : Nat} (hi : i < l.length) : totI (l.take (i + 1)) = totI (l.take i) + cstI l[i] := by
 rw [List.take_succ_eq_append_getElem hi, totI_append]
 simp [totI]
theorem totI_mono {l : List ItemV} (i : Nat) : totI (l.take i) ≤ totI l := by
 have := totI_append (l.take i) (l.drop i)
 rw [List.take_append_drop] at this
 omega

theorem leaf_Cost_eq {x : ItemV} (h : x.data.size ≤ reachBytes) : leaf_Cost.c x.key x.data = some ((cstI x : Nat) : Int) := by
 have h' := cstI_le h
 rw [reach_eq] at h
 simp only [leaf_Cost.c, leaf_Cost.t, Tw.run_opt, Tw.run_ret, word_Need_eq _ (inR_i64 (show -9223372036854775808 ≤ ((x.data.size : Nat) : Int) ∧ ((x.data.size : Nat) : Int) < 9223372036854775808 by omega)), Option.bind_some, need_nat]
 unfold cstI at *
 rw [w64_of (by omega) (by omega)]
 rfl
theorem ref23_Cost_eq {x : ItemV} (h : x.data.size ≤ reachBytes) : ref23_Cost.c x.key x.data = some ((cstI x : Nat) : Int) := by
 have h' := cstI_le h
 rw [reach_eq] at h
 simp only [ref23_Cost.c, ref23_Cost.t, Tw.run_opt, Tw.run_ret, ref01_Need_eq _ (inR_i64 (show -9223372036854775808 ≤ ((x.data.size : Nat) : Int) ∧ ((x.data.size : Nat) : Int) < 9223372036854775808 by omega)), Option.bind_some, need_nat]
 unfold cstI at *
 rw [w64_of (by omega) (by omega)]
 rfl

theorem leaf_Total_eq {l : List ItemV} (hi : Its l) (hl : totI l < 4611686018427387904) (hn : l.length < 4611686018427387904) : leaf_Total.c l = some ((totI l : Nat) : Int) := by
 have hL : leaf_Total.L3 0 l (l.length : Int) 0 = some ((totI l : Nat) : Int) := by
  have := Lp_seq (fun s => (leaf_Total.l3 l (l.length : Int) s.1 s.2).run) (fun i => (((totI (l.take i) : Nat) : Int), (i : Int))) (x := ((totI l : Nat) : Int)) l.length 0 (fun i _ hi' => ?_) (by
   simp only [leaf_Total.l3, Nat.zero_add]
   rw [bb_neg (decide_eq_false (by omega)), List.take_length]
   rfl)
  ·exact this
  ·have hi2 : i < l.length := by omega
   have h1 := totI_mono (l := l) (i + 1)
   have h2 := totI_take hi2
   simp only [leaf_Total.l3, Int.toNat_natCast, List.getElem?_eq_getElem hi2]
   rw [bb_pos (decide_eq_true (by omega)), dd_pos (by omega)]
   simp only [Tw.run_opt, leaf_Cost_eq (hi l[i] (List.getElem_mem hi2)).2, Option.bind_some, Tw.run_ret]
   rw [w64_of (by omega) (by omega), w64_of (by omega) (by omega), h2]
   congr 3
 simp only [leaf_Total.c, leaf_Total.t, Tw.run_opt, hL, Option.bind_some, Tw.run_ret]
theorem ref23_Total_eq {l : List ItemV} (hi : Its l) (hl : totI l < 4611686018427387904) (hn : l.length < 4611686018427387904) : ref23_Total.c l = some ((totI l : Nat) : Int) := by
 have hL : ref23_Total.L3 l 0 0 = some ((totI l : Nat) : Int) := by
  have := Lp_seq (fun s => (ref23_Total.l3 l s.1 s.2).run) (fun i => (((totI (l.take i) : Nat) : Int), (i : Int))) (x := ((totI l : Nat) : Int)) l.length 0 (fun i _ hi' => ?_) (by
   simp only [ref23_Total.l3, Nat.zero_add]
   rw [bb_neg (decide_eq_false (by omega)), List.take_length]
   rfl)
  ·exact this
  ·have hi2 : i < l.length := by omega
   have h1 := totI_mono (l := l) (i + 1)
   have h2 := totI_take hi2
   simp only [ref23_Total.l3, Int.toNat_natCast, List.getElem?_eq_getElem hi2]
   rw [bb_pos (decide_eq_true (by omega)), dd_pos (by omega)]
   simp only [Tw.run_opt, ref23_Cost_eq (hi l[i] (List.getElem_mem hi2)).2, Option.bind_some, Tw.run_ret]
   rw [w64_of (by omega) (by omega), w64_of (by omega) (by omega), h2]
   congr 3
 simp only [ref23_Total.c, ref23_Total.t, Tw.run_opt, hL, Option.bind_some, Tw.run_ret]

def endI (w : List Int) : Nat := 2 + needN (w.getD 1 0).toNat
def mayI (w : List Int) : Prop := 2 ≤ w.length ∧ w.getD 1 0 ≤ 64 ∧ endI w ≤ w.length
instance (w : List Int) : Decidable (mayI w) := by unfold mayI; infer_instance

theorem flat_take {α : Type} {ls : List (List α)} {i : Nat} (hi : i < ls.length) : (ls.take (i + 1)).flatten = (ls.take i).flatten ++ ls[i] := by
 rw [List.take_succ_eq_append_getElem hi, List.flatten_append]
 simp
theorem flat_take_le {α : Type} (ls : List (List α)) (i : Nat) : (ls.take i).flatten.length ≤ ls.flatten.length := by
 have h := congrArg List.length (congrArg List.flatten (List.take_append_drop i ls))
 rw [List.flatten_append, List.length_append] at h
 omega
theorem parts {α : Type} (ls : List α) (k o : Nat) : ls = ls.take k ++ ((ls.drop k).take o ++ ls.drop (k + o)) := by
 rw [← List.drop_drop, List.take_append_drop, List.take_append_drop]
theorem mem_flat_len {α : Type} {ls : List (List α)} {l : List α} (h : l ∈ ls) : l.length ≤ ls.flatten.length := by
 obtain ⟨a, b, rfl⟩ := List.append_of_mem h
 simp only [List.flatten_append, List.flatten_cons, List.length_append]
 omega
theorem len_flat {α : Type} : ∀ {ls : List (List α)}, (∀ l ∈ ls, l ≠ []) → ls.length ≤ ls.flatten.length
 | [], _ => by simp
 | l :: ls, h => by
  have h1 := len_flat (ls := ls) fun x hx => h x (List.mem_cons_of_mem _ hx)
  have h2 : 0 < l.length := by
   cases l with
   | nil => exact absurd rfl (h [] (by simp))
   | cons x t => simp
  simp only [List.flatten_cons, List.length_append, List.length_cons]
  omega

theorem growL_eq {n : Int} (h0 : 0 ≤ n) (h1 : n * 24 ≤ 140737488355328) : slices_Grow___api_Item_api_Item_none0.c n = some [] := by
 have e : w64 (n - w64 (0 - 0)) = n := by rw [w64_of (n := 0 - 0) (by omega) (by omega), w64_of (by omega) (by omega)]; omega
 simp only [slices_Grow___api_Item_api_Item_none0.c, slices_Grow___api_Item_api_Item_none0.t, e]
 rw [bb_neg (decide_eq_false (by omega))]
 by_cases h : n > 0
 ·rw [bb_pos (decide_eq_true h), dd_pos (by omega)]
  rfl
 ·rw [bb_neg (decide_eq_false h)]
  rfl
theorem growI_eq {n : Int} (h0 : 0 ≤ n) (h1 : n * 24 ≤ 140737488355328) : slices_Grow__api_Itemapi_Item_none0.c n = some [] := by
 have e : w64 (n - w64 (0 - 0)) = n := by rw [w64_of (n := 0 - 0) (by omega) (by omega), w64_of (by omega) (by omega)]; omega
 simp only [slices_Grow__api_Itemapi_Item_none0.c, slices_Grow__api_Itemapi_Item_none0.t, e]
 rw [bb_neg (decide_eq_false (by omega))]
 by_cases h : n > 0
 ·rw [bb_pos (decide_eq_true h), dd_pos (by omega)]
  rfl
 ·rw [bb_neg (decide_eq_false h)]
  rfl

theorem concatL_eq {ls : List (List (List ItemV))} (h : ls.flatten.length * 24 ≤ 140737488355328) (hl : ls.length < 4611686018427387904) : slices_Concat___api_Item_api_Item.c ls = some ls.flatten := by
 have h3 : slices_Concat___api_Item_api_Item.L3 ls 0 ls (ls.length : Int) 0 = some ((ls.flatten.length : Nat) : Int) := by
  refine Lp_seq (fun s => (slices_Concat___api_Item_api_Item.l3 ls ls (ls.length : Int) s.1 s.2).run) (fun i => ((((ls.take i).flatten.length : Nat) : Int), (i : Int))) ls.length 0 (fun i _ hi => ?_) ?_
  ·rw [Nat.zero_add] at hi
   have hb := flat_take_le ls (i + 1)
   have hs := congrArg List.length (flat_take hi)
   rw [List.length_append] at hs
   have e : w64 ((((ls.take i).flatten.length : Nat) : Int) + ((ls[i].length : Nat) : Int)) = (((ls.take (i + 1)).flatten.length : Nat) : Int) := by rw [w64_of (by omega) (by omega)]; omega
   have e1 : w64 ((i : Int) + 1) = ((i + 1 : Nat) : Int) := by rw [w64_of (by omega) (by omega)]; omega
   simp only [slices_Concat___api_Item_api_Item.l3]
   rw [bb_pos (decide_eq_true (by omega)), dd_pos (by omega)]
   simp only [Int.toNat_natCast, Tw.run_opt, List.getElem?_eq_getElem hi, Option.bind_some, e, e1]
   rw [bb_neg (decide_eq_false (by omega))]
   rfl
  ·rw [Nat.zero_add]
   simp only [slices_Concat___api_Item_api_Item.l3]
   rw [bb_neg (decide_eq_false (by omega)), List.take_length]
   rfl
 have h11 : slices_Concat___api_Item_api_Item.L11 ls (ls.length : Int) 0 [] = some ls.flatten := by
  refine Lp_seq (fun s => (slices_Concat___api_Item_api_Item.l11 ls (ls.length : Int) s.1 s.2).run) (fun i => ((i : Int), (ls.take i).flatten)) ls.length 0 (fun i _ hi => ?_) ?_
  ·rw [Nat.zero_add] at hi
   have hb := flat_take_le ls (i + 1)
   have hs := flat_take hi
   have hs' := congrArg List.length hs
   rw [List.length_append] at hs'
   have e1 : w64 ((i : Int) + 1) = ((i + 1 : Nat) : Int) := by rw [w64_of (by omega) (by omega)]; omega
   simp only [slices_Concat___api_Item_api_Item.l11]
   rw [bb_pos (decide_eq_true (by omega)), dd_pos (by omega)]
   simp only [Int.toNat_natCast, Tw.run_opt, List.getElem?_eq_getElem hi, Option.bind_some, e1]
   rw [dd_pos (by omega), hs]
   rfl
  ·rw [Nat.zero_add]
   simp only [slices_Concat___api_Item_api_Item.l11]
   rw [bb_neg (decide_eq_false (by omega)), List.take_length]
   rfl
 simp only [slices_Concat___api_Item_api_Item.c, slices_Concat___api_Item_api_Item.t, Tw.run_opt, Tw.run_ret, h3, growL_eq (n := ((ls.flatten.length : Nat) : Int)) (by omega) (by omega), h11, Option.bind_some]

theorem concatI_eq {ls : List (List ItemV)} (h : ls.flatten.length * 24 ≤ 140737488355328) (hl : ls.length < 4611686018427387904) : slices_Concat__api_Itemapi_Item.c ls = some ls.flatten := by
 have h3 : slices_Concat__api_Itemapi_Item.L3 ls 0 ls (ls.length : Int) 0 = some ((ls.flatten.length : Nat) : Int) := by
  refine Lp_seq (fun s => (slices_Concat__api_Itemapi_Item.l3 ls ls (ls.length : Int) s.1 s.2).run) (fun i => ((((ls.take i).flatten.length : Nat) : Int), (i : Int))) ls.length 0 (fun i _ hi => ?_) ?_
  ·rw [Nat.zero_add] at hi
   have hb := flat_take_le ls (i + 1)
   have hs := congrArg List.length (flat_take hi)
   rw [List.length_append] at hs
   have e : w64 ((((ls.take i).flatten.length : Nat) : Int) + ((ls[i].length : Nat) : Int)) = (((ls.take (i + 1)).flatten.length : Nat) : Int) := by rw [w64_of (by omega) (by omega)]; omega
   have e1 : w64 ((i : Int) + 1) = ((i + 1 : Nat) : Int) := by rw [w64_of (by omega) (by omega)]; omega
   simp only [slices_Concat__api_Itemapi_Item.l3]
   rw [bb_pos (decide_eq_true (by omega)), dd_pos (by omega)]
   simp only [Int.toNat_natCast, Tw.run_opt, List.getElem?_eq_getElem hi, Option.bind_some, e, e1]
   rw [bb_neg (decide_eq_false (by omega))]
   rfl
  ·rw [Nat.zero_add]
   simp only [slices_Concat__api_Itemapi_Item.l3]
   rw [bb_neg (decide_eq_false (by omega)), List.take_length]
   rfl
 have h11 : slices_Concat__api_Itemapi_Item.L11 ls (ls.length : Int) 0 [] = some ls.flatten := by
  refine Lp_seq (fun s => (slices_Concat__api_Itemapi_Item.l11 ls (ls.length : Int) s.1 s.2).run) (fun i => ((i : Int), (ls.take i).flatten)) ls.length 0 (fun i _ hi => ?_) ?_
  ·rw [Nat.zero_add] at hi
   have hb := flat_take_le ls (i + 1)
   have hs := flat_take hi
   have hs' := congrArg List.length hs
   rw [List.length_append] at hs'
   have e1 : w64 ((i : Int) + 1) = ((i + 1 : Nat) : Int) := by rw [w64_of (by omega) (by omega)]; omega
   simp only [slices_Concat__api_Itemapi_Item.l11]
   rw [bb_pos (decide_eq_true (by omega)), dd_pos (by omega)]
   simp only [Int.toNat_natCast, Tw.run_opt, List.getElem?_eq_getElem hi, Option.bind_some, e1]
   rw [dd_pos (by omega), hs]
   rfl
  ·rw [Nat.zero_add]
   simp only [slices_Concat__api_Itemapi_Item.l11]
   rw [bb_neg (decide_eq_false (by omega)), List.take_length]
   rfl
 simp only [slices_Concat__api_Itemapi_Item.c, slices_Concat__api_Itemapi_Item.t, Tw.run_opt, Tw.run_ret, h3, growI_eq (n := ((ls.flatten.length : Nat) : Int)) (by omega) (by omega), h11, Option.bind_some]

theorem pack_Flat_eq {ls : List (List ItemV)} (h : ls.flatten.length * 24 ≤ 140737488355328) (hl : ls.length < 4611686018427387904) : pack_Flat.c ls = some ls.flatten := by
 simp only [pack_Flat.c, pack_Flat.t, Tw.run_opt, Tw.run_ret, concatI_eq h hl, Option.bind_some]
theorem ref24_Flat_eq {ls : List (List ItemV)} (h : ls.flatten.length * 24 ≤ 140737488355328) (hl : ls.length < 4611686018427387904) : ref24_Flat.c ls = some ls.flatten := by
 have h3 : ref24_Flat.L3 ls 0 [] = some ls.flatten := by
  refine Lp_seq (fun s => (ref24_Flat.l3 ls s.1 s.2).run) (fun i => ((i : Int), (ls.take i).flatten)) ls.length 0 (fun i _ hi => ?_) ?_
  ·rw [Nat.zero_add] at hi
   have hb := flat_take_le ls (i + 1)
   have hs := flat_take hi
   have hs' := congrArg List.length hs
   rw [List.length_append] at hs'
   have e1 : w64 ((i : Int) + 1) = ((i + 1 : Nat) : Int) := by rw [w64_of (by omega) (by omega)]; omega
   simp only [ref24_Flat.l3]
   rw [bb_pos (decide_eq_true (by omega)), dd_pos (by omega)]
   simp only [Int.toNat_natCast, Tw.run_opt, List.getElem?_eq_getElem hi, Option.bind_some, e1]
   rw [dd_pos (by omega), hs]
   rfl
  ·rw [Nat.zero_add]
   simp only [ref24_Flat.l3]
   rw [bb_neg (decide_eq_false (by omega)), List.take_length]
   rfl
 simp only [ref24_Flat.c, ref24_Flat.t, Tw.run_opt, Tw.run_ret, h3, Option.bind_some]

theorem clone_eq {l : List ItemV} (h : l.length * 24 ≤ 140737488355328) : slices_Clone__api_Itemapi_Item.c l = some l := by
 simp only [slices_Clone__api_Itemapi_Item.c, slices_Clone__api_Itemapi_Item.t]
 rw [dd_pos (by simp only [List.length_nil]; omega)]
 rfl

theorem with_L3 (f o : Int) (more : List (List ItemV)) {z : List (List ItemV)} (h : z.length * 24 ≤ 140737488355328) (hz : ∀ l ∈ z, l.length * 24 ≤ 140737488355328) (a b c : Int) : pack_with.L3 f o more (z.length : Int) 0 a b c [] z = some z := by
 refine Lp_seq (fun s => (pack_with.l3 f o more (z.length : Int) a b c z s.1 s.2).run) (fun i => ((i : Int), z.take i)) z.length 0 (fun i _ hi => ?_) ?_
 ·rw [Nat.zero_add] at hi
  have ht : (z.take i).length = i := by rw [List.length_take]; omega
  have e1 : w64 ((i : Int) + 1) = ((i + 1 : Nat) : Int) := by rw [w64_of (by omega) (by omega)]; omega
  simp only [pack_with.l3]
  rw [bb_pos (decide_eq_true (by omega)), dd_pos (by omega)]
  simp only [Int.toNat_natCast, Tw.run_opt, List.getElem?_eq_getElem hi, Option.bind_some, clone_eq (hz _ (List.getElem_mem hi)), e1]
  rw [dd_pos (by simp only [List.length_cons, List.length_nil]; omega), List.take_succ_eq_append_getElem hi]
  rfl
 ·rw [Nat.zero_add]
  simp only [pack_with.l3]
  rw [bb_neg (decide_eq_false (by omega)), List.take_length]
  rfl
theorem with3_L3 (f o : Int) {z : List (List ItemV)} (h : z.length * 24 ≤ 140737488355328) (hz : ∀ l ∈ z, l.length * 24 ≤ 140737488355328) (a b c : Int) : pack_with_none3.L3 f o (z.length : Int) 0 a b c [] z = some z := by
 refine Lp_seq (fun s => (pack_with_none3.l3 f o (z.length : Int) a b c z s.1 s.2).run) (fun i => ((i : Int), z.take i)) z.length 0 (fun i _ hi => ?_) ?_
 ·rw [Nat.zero_add] at hi
  have ht : (z.take i).length = i := by rw [List.length_take]; omega
  have e1 : w64 ((i : Int) + 1) = ((i + 1 : Nat) : Int) := by rw [w64_of (by omega) (by omega)]; omega
  simp only [pack_with_none3.l3]
  rw [bb_pos (decide_eq_true (by omega)), dd_pos (by omega)]
  simp only [Int.toNat_natCast, Tw.run_opt, List.getElem?_eq_getElem hi, Option.bind_some, clone_eq (hz _ (List.getElem_mem hi)), e1]
  rw [dd_pos (by simp only [List.length_cons, List.length_nil]; omega), List.take_succ_eq_append_getElem hi]
  rfl
 ·rw [Nat.zero_add]
  simp only [pack_with_none3.l3]
  rw [bb_neg (decide_eq_false (by omega)), List.take_length]
  rfl
theorem with0_L3 (f o : Int) (more : List (List ItemV)) {z : List (List ItemV)} (h : z.length * 24 ≤ 140737488355328) (hz : ∀ l ∈ z, l.length * 24 ≤ 140737488355328) (a b c : Int) : pack_with_none0.L3 f o more (z.length : Int) 0 a b c [] z = some z := by
 refine Lp_seq (fun s => (pack_with_none0.l3 f o more (z.length : Int) a b c z s.1 s.2).run) (fun i => ((i : Int), z.take i)) z.length 0 (fun i _ hi => ?_) ?_
 ·rw [Nat.zero_add] at hi
  have ht : (z.take i).length = i := by rw [List.length_take]; omega
  have e1 : w64 ((i : Int) + 1) = ((i + 1 : Nat) : Int) := by rw [w64_of (by omega) (by omega)]; omega
  simp only [pack_with_none0.l3]
  rw [bb_pos (decide_eq_true (by omega)), dd_pos (by omega)]
  simp only [Int.toNat_natCast, Tw.run_opt, List.getElem?_eq_getElem hi, Option.bind_some, clone_eq (hz _ (List.getElem_mem hi)), e1]
  rw [dd_pos (by simp only [List.length_cons, List.length_nil]; omega), List.take_succ_eq_append_getElem hi]
  rfl
 ·rw [Nat.zero_add]
  simp only [pack_with_none0.l3]
  rw [bb_neg (decide_eq_false (by omega)), List.take_length]
  rfl

def putAt (ls : List (List ItemV)) (f o : Nat) (more : List (List ItemV)) : List (List ItemV) := ls.take f ++ more ++ ls.drop (f + o)
theorem putAt_mem {ls more : List (List ItemV)} {f o : Nat} {l : List ItemV} (h : l ∈ putAt ls f o more) : l ∈ ls ∨ l ∈ more := by
 unfold putAt at h
 simp only [List.mem_append] at h
 rcases h with (h | h) | h
 ·exact Or.inl (List.mem_of_mem_take h)
 ·exact Or.inr h
 ·exact Or.inl (List.mem_of_mem_drop h)
theorem putAt_len (ls more : List (List ItemV)) (f o : Nat) : (putAt ls f o more).length ≤ ls.length + more.length + ls.length := by
 unfold putAt
 simp only [List.length_append, List.length_take, List.length_drop]
 omega

theorem pack_with_eq {ls more : List (List ItemV)} {fi oi : Int} {f o : Nat} (hf : fi = (f : Int)) (ho : oi = (o : Int)) (hfo : f + o ≤ ls.length) (hl : ls.length ≤ 1000) (hm : more.length ≤ 1000) (h1 : ∀ l ∈ ls, l.length ≤ 1000) (h2 : ∀ l ∈ more, l.length ≤ 1000) :
  pack_with.c ls fi oi more = some (((more.length : Nat) : Int), putAt ls f o more) := by
 subst hf ho
 have e : w64 ((f : Int) + (o : Int)) = ((f + o : Nat) : Int) := by rw [w64_of (by omega) (by omega)]; omega
 have hz : [ls.take f, more, ls.drop (f + o)].flatten = putAt ls f o more := by simp [putAt]
 have hlen := putAt_len ls more f o
 have hlz : (putAt ls f o more).length * 24 ≤ 140737488355328 := by omega
 have hmz : ∀ l ∈ putAt ls f o more, l.length * 24 ≤ 140737488355328 := fun l h => by
  rcases putAt_mem h with h | h
  ·have := h1 l h; omega
  ·have := h2 l h; omega
 simp only [pack_with.c, pack_with.t]
 rw [dd_pos (by omega), dd_pos (by rw [e]; omega)]
 have hc := concatL_eq (ls := [ls.take f, more, ls.drop (f + o)]) (by rw [hz]; omega) (by simp)
 rw [hz] at hc
 simp only [Tw.run_opt, Tw.run_ret, e, Int.toNat_natCast, hc, with_L3 _ _ _ hlz hmz, Option.bind_some]
theorem pack_with3_eq {ls : List (List ItemV)} {fi oi : Int} {f o : Nat} (hf : fi = (f : Int)) (ho : oi = (o : Int)) (hfo : f + o ≤ ls.length) (hl : ls.length ≤ 1000) (h1 : ∀ l ∈ ls, l.length ≤ 1000) :
  pack_with_none3.c ls fi oi = some (0, putAt ls f o []) := by
 subst hf ho
 have e : w64 ((f : Int) + (o : Int)) = ((f + o : Nat) : Int) := by rw [w64_of (by omega) (by omega)]; omega
 have hz : [ls.take f, [], ls.drop (f + o)].flatten = putAt ls f o [] := by simp [putAt]
 have hlen := putAt_len ls [] f o
 rw [List.length_nil] at hlen
 have hlz : (putAt ls f o []).length * 24 ≤ 140737488355328 := by omega
 have hmz : ∀ l ∈ putAt ls f o [], l.length * 24 ≤ 140737488355328 := fun l h => by
  rcases putAt_mem h with h | h
  ·have := h1 l h; omega
  ·cases h
 simp only [pack_with_none3.c, pack_with_none3.t]
 rw [dd_pos (by omega), dd_pos (by rw [e]; omega)]
 have hc := concatL_eq (ls := [ls.take f, [], ls.drop (f + o)]) (by rw [hz]; omega) (by simp)
 rw [hz] at hc
 simp only [Tw.run_opt, Tw.run_ret, e, Int.toNat_natCast, hc, with3_L3 _ _ hlz hmz, Option.bind_some]
theorem pack_with0_eq {more : List (List ItemV)} (hm : more.length ≤ 1000) (h2 : ∀ l ∈ more, l.length ≤ 1000) : pack_with_none0.c 0 0 more = some (((more.length : Nat) : Int), more) := by
 have hmz : ∀ l ∈ more, l.length * 24 ≤ 140737488355328 := fun l h => by have := h2 l h; omega
 have e : w64 (0 + 0) = 0 := by rw [w64_of (by omega) (by omega)]; rfl
 simp only [pack_with_none0.c, pack_with_none0.t]
 rw [dd_pos (by omega), dd_pos (by rw [e]; omega)]
 have hc := concatL_eq (ls := [[], more, []]) (by simp; omega) (by simp)
 rw [show ([[], more, []] : List (List (List ItemV))).flatten = more by simp] at hc
 simp only [Tw.run_opt, Tw.run_ret, hc, with0_L3 _ _ _ (show more.length * 24 ≤ 140737488355328 by omega) hmz, Option.bind_some]

def hle (l : List ItemV) (key : Int) : Bool := match l with | x :: _ => decide (x.key ≤ key) | [] => false
def atN (ls : List (List ItemV)) (key : Int) : Nat → Nat
 | 0 => 0
 | k + 1 => if hle (ls.getD k []) key then k else atN ls key k
theorem atN_le (ls : List (List ItemV)) (key : Int) : ∀ k, atN ls key k ≤ k - 1
 | 0 => by rw [atN]; omega
 | k + 1 => by
  have := atN_le ls key k
  rw [atN]
  split <;> omega
theorem leaf_get {ls : List (List ItemV)} {k : Nat} (h : k < ls.length) : ls.getD k [] = ls[k] := by rw [List.getD_eq_getElem?_getD, List.getElem?_eq_getElem h]; rfl

theorem pack_At_eq {ls : List (List ItemV)} (hn : ls.length ≤ 1000) (key : Int) : pack_At.c ls key = some (if ls.length = 0 then -1 else ((atN ls key ls.length : Nat) : Int)) := by
 simp only [pack_At.c, pack_At.t, Tw.run_opt]
 by_cases h0 : ls.length = 0
 ·have : ls = [] := List.eq_nil_of_length_eq_zero h0
  subst this
  have e : w64 (imin ((([] : List (List ItemV)).length : Nat) : Int) 1 - 1) = -1 := by
   rw [show imin ((([] : List (List ItemV)).length : Nat) : Int) 1 = 0 from rfl, w64_of (by omega) (by omega)]; rfl
  rw [e]
  have hL : pack_At.L3 key (-1) [] ((([] : List (List ItemV)).length : Nat) : Int) 0 = some (-1) := Lp_end (by
   simp only [pack_At.l3]
   rw [bb_neg (decide_eq_false (by simp))]
   rfl)
  rw [hL]
  rfl
 ·have e : w64 (imin (ls.length : Int) 1 - 1) = 0 := by
   have : imin (ls.length : Int) 1 = 1 := by unfold imin; split <;> omega
   rw [this, w64_of (by omega) (by omega)]; rfl
  rw [e, if_neg h0]
  have hL : pack_At.L3 key 0 ls (ls.length : Int) 0 = some ((atN ls key ls.length : Nat) : Int) := by
   refine Lp_seq (fun s => (pack_At.l3 key ls (ls.length : Int) s.1 s.2).run) (fun i => (((atN ls key i : Nat) : Int), (i : Int))) ls.length 0 (fun i _ hi => ?_) ?_
   ·rw [Nat.zero_add] at hi
    have e1 : w64 ((i : Int) + 1) = ((i + 1 : Nat) : Int) := by rw [w64_of (by omega) (by omega)]; omega
    show (pack_At.l3 key ls (ls.length : Int) ((atN ls key i : Nat) : Int) (i : Int)).run = some (Sum.inl (((atN ls key (i + 1) : Nat) : Int), ((i + 1 : Nat) : Int)))
    simp only [pack_At.l3]
    rw [bb_pos (decide_eq_true (by omega)), dd_pos (by omega), atN, leaf_get hi]
    simp only [Int.toNat_natCast, Tw.run_opt, List.getElem?_eq_getElem hi, Option.bind_some, e1]
    cases hz : ls[i] with
    | nil =>
     rw [bb_neg (decide_eq_false (by simp)), show hle [] key = false from rfl]
     rfl
    | cons x t =>
     rw [bb_pos (decide_eq_true (by simp only [List.length_cons]; omega)), show hle (x :: t) key = decide (x.key ≤ key) from rfl]
     simp only [show Int.toNat (0 : Int) = 0 from rfl, List.getElem?_cons_zero, Tw.run_opt, Option.bind_some]
     by_cases g : x.key ≤ key
     ·rw [bb_pos (decide_eq_true g), if_pos (decide_eq_true g)]
      rfl
     ·rw [bb_neg (decide_eq_false g), if_neg (by simpa using g)]
      rfl
   ·rw [Nat.zero_add]
    simp only [pack_At.l3]
    rw [bb_neg (decide_eq_false (by omega))]
    rfl
  rw [hL]
  rfl

abbrev Gd (l : List ItemV) : Prop := ∀ x ∈ l, InR .u32 x.key ∧ x.data.size ≤ 64
theorem Gd.its {l : List ItemV} (h : Gd l) : Its l := fun x hx => ⟨(h x hx).1, Nat.le_trans (h x hx).2 (by rw [reach_eq]; omega)⟩
theorem Gd.take {l : List ItemV} (h : Gd l) (n : Nat) : Gd (l.take n) := fun x hx => h x (List.mem_of_mem_take hx)
theorem Gd.drop {l : List ItemV} (h : Gd l) (n : Nat) : Gd (l.drop n) := fun x hx => h x (List.mem_of_mem_drop hx)
theorem Gd.app {a b : List ItemV} (h : Gd a) (g : Gd b) : Gd (a ++ b) := fun x hx => by
 rcases List.mem_append.1 hx with hx | hx
 ·exact h x hx
 ·exact g x hx
theorem leafT {l : List ItemV} (h : Gd l) (hn : l.length ≤ 1000) : leaf_Total.c l = some ((totI l : Nat) : Int) := by
 have := totI_le64 (fun x hx => (h x hx).2)
 exact leaf_Total_eq h.its (by omega) (by omega)
def frontF (l : List ItemV) (most : Int) : Nat → Nat → Nat
 | 0, n => n
 | k + 1, n => if ((totI (l.take (n + 1)) : Nat) : Int) > most then n else frontF l most k (n + 1)
def frontN (l : List ItemV) (most : Int) : Nat := frontF l most (l.length - 1) 1
theorem frontF_prop {l : List ItemV} {most : Int} : ∀ (k n : Nat), k + n = l.length → n ≤ frontF l most k n ∧ frontF l most k n ≤ l.length ∧ (frontF l most k n < l.length → ((totI (l.take (frontF l most k n + 1)) : Nat) : Int) > most) ∧ (frontF l most k n = n ∨ ((totI (l.take (frontF l most k n)) : Nat) : Int) ≤ most)
 | 0, n, h => by
  rw [frontF]; exact ⟨by omega, by omega, by omega, Or.inl rfl⟩
 | k + 1, n, h => by
  rw [frontF]
  by_cases g : ((totI (l.take (n + 1)) : Nat) : Int) > most
  ·rw [if_pos g]; exact ⟨by omega, by omega, fun _ => g, Or.inl rfl⟩
  ·rw [if_neg g]
   obtain ⟨i1, i2, i3, i4⟩ := frontF_prop (l := l) (most := most) k (n + 1) (by omega)
   refine ⟨by omega, i2, i3, Or.inr ?_⟩
   rcases i4 with h4 | h4
   ·rw [h4]; omega
   ·exact h4

structure Pk (n : Nat) (ls : List (List ItemV)) : Prop where
 ne : ∀ l ∈ ls, l ≠ []
 gd : ∀ l ∈ ls, Gd l
 len : ls.flatten.length ≤ n
theorem Pk.count {n : Nat} {ls : List (List ItemV)} (h : Pk n ls) : ls.length ≤ n := Nat.le_trans (len_flat h.ne) h.len
theorem Pk.leaf {n : Nat} {ls : List (List ItemV)} (h : Pk n ls) {l : List ItemV} (hl : l ∈ ls) : l.length ≤ n := Nat.le_trans (mem_flat_len hl) h.len
theorem Pk.nil (n : Nat) : Pk n [] := ⟨(fun _ h => nomatch h), (fun _ h => nomatch h), Nat.zero_le _⟩

theorem putI_gd {l : List ItemV} (h : Gd l) {a : Int} {b : ByteArray} (ha : InR .u32 a) (hb : b.size ≤ 64) : Gd (putI l a b) := by
 intro x hx
 unfold putI at hx
 simp only [List.mem_append, List.mem_filter, List.mem_singleton] at hx
 rcases hx with (hx | rfl) | hx
 ·exact h x hx.1
 ·exact ⟨ha, hb⟩
 ·exact h x hx.1
theorem putI_len (l : List ItemV) (a : Int) (b : ByteArray) : (putI l a b).length ≤ l.length + 1 ∧ 0 < (putI l a b).length := by
 have := put_len l a
 unfold putI
 simp only [List.length_append, List.length_cons, List.length_nil]
 omega
theorem cutI_gd {l : List ItemV} (h : Gd l) (a : Int) : Gd (cutI l a) := fun x hx => h x (List.mem_filter.1 hx).1
theorem cutI_len (l : List ItemV) (a : Int) : (cutI l a).length ≤ l.length := List.length_filter_le _ _

theorem putAt_flat (ls more : List (List ItemV)) (f o : Nat) : (putAt ls f o more).flatten = (ls.take f).flatten ++ more.flatten ++ (ls.drop (f + o)).flatten := by simp [putAt]
theorem parts_flat (ls : List (List ItemV)) (f o : Nat) : ls.flatten = (ls.take f).flatten ++ ((ls.drop f).take o).flatten ++ (ls.drop (f + o)).flatten := by
 conv => lhs; rw [parts ls f o]
 simp
theorem Pk.put {n d : Nat} {ls more : List (List ItemV)} (h : Pk n ls) (f o : Nat) (hne : ∀ l ∈ more, l ≠ []) (hgd : ∀ l ∈ more, Gd l) (hm : more.flatten.length ≤ ((ls.drop f).take o).flatten.length + d) : Pk (n + d) (putAt ls f o more) := by
 refine ⟨fun l hl => ?_, fun l hl => ?_, ?_⟩
 ·rcases putAt_mem hl with hl | hl
  ·exact h.ne l hl
  ·exact hne l hl
 ·rcases putAt_mem hl with hl | hl
  ·exact h.gd l hl
  ·exact hgd l hl
 ·have h1 := h.len
  have h2 := congrArg List.length (parts_flat ls f o)
  rw [putAt_flat]
  simp only [List.length_append] at h2 ⊢
  omega
theorem drop_one {ls : List (List ItemV)} {k : Nat} (h : k < ls.length) : (ls.drop k).take 1 = [ls[k]] := by
 rw [List.drop_eq_getElem_cons h]; rfl
theorem drop_two {ls : List (List ItemV)} {k : Nat} (h : k + 1 < ls.length) : (ls.drop k).take 2 = [ls[k], ls[k + 1]] := by
 rw [List.drop_eq_getElem_cons (show k < ls.length by omega), List.drop_eq_getElem_cons h]; rfl

def putM (R : Nat) (p : List ItemV) : List (List ItemV) := if totI p ≤ R then [p] else [p.take (frontN p ((totI p / 2 : Nat) : Int)), p.drop (frontN p ((totI p / 2 : Nat) : Int))]
def putS (R : Nat) (ls : List (List ItemV)) (a : Int) (b : ByteArray) : Int × (Int × (Int × List (List ItemV))) :=
 if ls.length = 0 then (0, (0, (1, [[⟨a, b⟩]])))
 else (((atN ls a ls.length : Nat) : Int), (1, (((putM R (putI (ls.getD (atN ls a ls.length) []) a b)).length : Int), putAt ls (atN ls a ls.length) 1 (putM R (putI (ls.getD (atN ls a ls.length) []) a b)))))

theorem putM_flat (R : Nat) (p : List ItemV) : (putM R p).flatten = p := by
 unfold putM
 split
 ·simp
 ·simp
theorem front_in {p : List ItemV} (h0 : 0 < p.length) (m : Int) : 1 ≤ frontN p m ∧ frontN p m ≤ p.length := by
 obtain ⟨h1, h2, _⟩ := frontF_prop (l := p) (most := m) (p.length - 1) 1 (by omega)
 exact ⟨h1, h2⟩
theorem front_half {p : List ItemV} (hg : Gd p) {R : Nat} (hR : 62 ≤ R) (ht : R < totI p) : frontN p ((totI p / 2 : Nat) : Int) < p.length ∧ totI (p.take (frontN p ((totI p / 2 : Nat) : Int))) ≤ max 18 (totI p / 2) ∧ totI p / 2 < totI (p.take (frontN p ((totI p / 2 : Nat) : Int))) + 18 := by
 have hb := totI_le64 (fun x hx => (hg x hx).2)
 have h0 : 0 < p.length := by omega
 obtain ⟨h1, h2, h3, h4⟩ := frontF_prop (l := p) (most := ((totI p / 2 : Nat) : Int)) (p.length - 1) 1 (by omega)
 have h5 : frontF p ((totI p / 2 : Nat) : Int) (p.length - 1) 1 = frontN p ((totI p / 2 : Nat) : Int) := rfl
 rw [h5] at h1 h2 h3 h4
 generalize frontN p ((totI p / 2 : Nat) : Int) = n at *
 have hle : totI (p.take n) ≤ 18 * n := by
  have := totI_le64 (l := p.take n) (fun x hx => (hg x (List.mem_of_mem_take hx)).2)
  rw [List.length_take] at this
  omega
 have hlt : n < p.length := by
  refine Nat.lt_of_le_of_ne h2 fun e => ?_
  rcases h4 with h4 | h4
  ·rw [← e, h4] at hb; omega
  ·rw [e, List.take_length] at h4
   omega
 have hs := totI_take hlt
 have hc : cstI p[n] ≤ 18 := by
  have := (hg _ (List.getElem_mem hlt)).2
  unfold cstI needN
  omega
 have h3 := h3 hlt
 refine ⟨hlt, ?_, by omega⟩
 rcases h4 with h4 | h4
 ·subst h4; omega
 ·omega
theorem putM_ok {R : Nat} (hR : 62 ≤ R) {p : List ItemV} (hg : Gd p) (h0 : 0 < p.length) : (putM R p).length ≤ 2 ∧ (∀ l ∈ putM R p, l ≠ []) ∧ (∀ l ∈ putM R p, Gd l) ∧ ∀ l ∈ putM R p, l.length ≤ p.length := by
 unfold putM
 split
 ·refine ⟨by simp, fun l hl => ?_, fun l hl => ?_, fun l hl => ?_⟩ <;> rw [List.mem_singleton] at hl <;> subst hl
  ·intro h; rw [h] at h0; exact absurd h0 (by simp)
  ·exact hg
  ·exact Nat.le_refl _
 ·next h =>
  obtain ⟨h1, h2⟩ := front_in h0 ((totI p / 2 : Nat) : Int)
  have h3 := (front_half hg hR (by omega)).1
  refine ⟨by simp, fun l hl => ?_, fun l hl => ?_, fun l hl => ?_⟩ <;> simp only [List.mem_cons, List.not_mem_nil, or_false] at hl <;> rcases hl with rfl | rfl
  ·intro h; have := congrArg List.length h; rw [List.length_take, List.length_nil] at this; omega
  ·intro h; have := congrArg List.length h; rw [List.length_drop, List.length_nil] at this; omega
  ·exact hg.take _
  ·exact hg.drop _
  ·rw [List.length_take]; omega
  ·rw [List.length_drop]; omega

theorem putS_pk {n : Nat} {ls : List (List ItemV)} (hp : Pk n ls) {a : Int} {b : ByteArray} (ha : InR .u32 a) (hb : b.size ≤ 64) {R : Nat} (hR : 62 ≤ R) : Pk (n + 1) (putS R ls a b).2.2.2 := by
 unfold putS
 by_cases h0 : ls.length = 0
 ·rw [if_pos h0]
  refine ⟨fun l hl => ?_, fun l hl => ?_, ?_⟩
  ·have := List.mem_singleton.1 hl; subst this; simp
  ·have := List.mem_singleton.1 hl; subst this
   intro x hx
   have := List.mem_singleton.1 hx; subst this
   exact ⟨ha, hb⟩
  ·simp
 ·rw [if_neg h0]
  have hk : atN ls a ls.length < ls.length := by have := atN_le ls a ls.length; omega
  generalize atN ls a ls.length = k at *
  have hm := List.getElem_mem hk
  have hpl := putI_len ls[k] a b
  obtain ⟨m1, m2, m3, m4⟩ := putM_ok hR (putI_gd (hp.gd _ hm) ha hb) hpl.2
  rw [leaf_get hk]
  refine hp.put k 1 m2 m3 ?_
  rw [putM_flat, drop_one hk]
  simp only [List.flatten_cons, List.flatten_nil, List.append_nil]
  exact hpl.1

def cutT (R : Nat) (ls : List (List ItemV)) (k : Nat) (c : List ItemV) : Int × (Int × (Int × (Bool × List (List ItemV)))) :=
 if c.length = 0 then ((k : Int), (1, (0, (true, putAt ls k 1 []))))
 else if k + 1 < ls.length ∧ totI c + totI (ls.getD (k + 1) []) ≤ R / 2 then ((k : Int), (2, (1, (true, putAt ls k 2 [c ++ ls.getD (k + 1) []]))))
 else if 0 < k ∧ totI c + totI (ls.getD (k - 1) []) ≤ R / 2 then (((k - 1 : Nat) : Int), (2, (1, (true, putAt ls (k - 1) 2 [ls.getD (k - 1) [] ++ c]))))
 else ((k : Int), (1, (1, (true, putAt ls k 1 [c]))))
def cutS (R : Nat) (ls : List (List ItemV)) (key : Int) : Int × (Int × (Int × (Bool × List (List ItemV)))) :=
 if ls.length = 0 then (0, (0, (0, (false, []))))
 else if (cutI (ls.getD (atN ls key ls.length) []) key).length < (ls.getD (atN ls key ls.length) []).length then cutT R ls (atN ls key ls.length) (cutI (ls.getD (atN ls key ls.length) []) key)
 else (0, (0, (0, (false, ls))))

theorem cut1_eq {n : Nat} {ls : List (List ItemV)} (hp : Pk n ls) (hn : n ≤ 300) {c : List ItemV} (hg : Gd c) (hc : c.length ≤ 300) {R : Nat} (hR : R ≤ 1022) {i : Int} {k : Nat} (hi : i = (k : Int)) :
  pack_Cut_1.c i ls c (R : Int) = some (decide (k < ls.length ∧ totI c + totI (ls.getD k []) ≤ R / 2)) := by
 subst hi
 have h0 := hp.count
 simp only [pack_Cut_1.c, pack_Cut_1.t]
 rw [bb_pos (decide_eq_true (by omega))]
 by_cases h : k < ls.length
 ·have hm := List.getElem_mem h
  have hl := hp.leaf hm
  have b1 := totI_le64 (fun x hx => (hg x hx).2)
  have b2 := totI_le64 (fun x hx => (hp.gd _ hm x hx).2)
  have e2 : w64 (Int.tdiv (R : Int) 2) = ((R / 2 : Nat) : Int) := by
   rw [show (2 : Int) = ((2 : Nat) : Int) from rfl, tdiv_nat, w64_of (by omega) (by omega)]
  have e3 : w64 (((totI c : Nat) : Int) + ((totI ls[k] : Nat) : Int)) = ((totI c + totI ls[k] : Nat) : Int) := by rw [w64_of (by omega) (by omega)]; omega
  rw [bb_pos (decide_eq_true (by omega)), leaf_get h]
  simp only [Tw.run_opt, leafT hg (by omega), Option.bind_some]
  rw [dd_pos (by omega)]
  simp only [Int.toNat_natCast, Tw.run_opt, List.getElem?_eq_getElem h, leafT (hp.gd _ hm) (by omega), Option.bind_some, Tw.run_ret, e2, e3]
  congr 1
  rw [decide_eq_decide]
  omega
 ·rw [bb_neg (decide_eq_false (by omega)), Tw.run_ret, decide_eq_false (by omega)]
theorem cut1_neg {ls : List (List ItemV)} {c : List ItemV} {R i : Int} (hi : i < 0) : pack_Cut_1.c i ls c R = some false := by
 simp only [pack_Cut_1.c, pack_Cut_1.t]
 rw [bb_neg (decide_eq_false (by omega)), Tw.run_ret]

theorem two_concat (a b : List ItemV) (h : a.length + b.length ≤ 1000) : slices_Concat__api_Itemapi_Item.c [a, b] = some (a ++ b) := by
 have := concatI_eq (ls := [a, b]) (by simp; omega) (by simp)
 rw [this]
 simp

theorem pack_Cut_eq {n : Nat} {ls : List (List ItemV)} (hp : Pk n ls) (hn : n ≤ 300) (key : Int) {R : Nat} (hR : R ≤ 1022) : pack_Cut.c ls (R : Int) key = some (cutS R ls key) := by
 have hcn := hp.count
 have hlv : ∀ l ∈ ls, l.length ≤ 1000 := fun l h => by have := hp.leaf h; omega
 simp only [pack_Cut.c, pack_Cut.t, Tw.run_opt, pack_At_eq (show ls.length ≤ 1000 by omega) key, Option.bind_some]
 unfold cutS
 by_cases h0 : ls.length = 0
 ·rw [if_pos h0, if_pos h0, bb_pos (by rfl)]
  rfl
 ·rw [if_neg h0, if_neg h0]
  have hk : atN ls key ls.length < ls.length := by have := atN_le ls key ls.length; omega
  generalize atN ls key ls.length = k at *
  have hm := List.getElem_mem hk
  have hl := hp.leaf hm
  have hit := item_Cut_eq (l := ls[k]) (by rw [reach_eq]; omega) key
  have hg := cutI_gd (hp.gd _ hm) key
  have hcl := cutI_len ls[k] key
  rw [bb_neg (decide_eq_false (by omega)), dd_pos (by omega), leaf_get hk]
  simp only [Int.toNat_natCast, Tw.run_opt, List.getElem?_eq_getElem hk, hit, Option.bind_some]
  generalize cutI ls[k] key = c at *
  by_cases g : c.length < ls[k].length
  ·rw [bb_neg (by rw [decide_eq_true g]; rfl), if_pos g]
   unfold cutT
   by_cases g0 : c.length = 0
   ·have hw := pack_with3_eq (ls := ls) (fi := (k : Int)) (oi := 1) (f := k) (o := 1) rfl rfl (by omega) (by omega) hlv
    rw [bb_pos (by rw [beq_iff_eq]; omega), if_pos g0]
    simp only [Tw.run_opt, hw, Option.bind_some]
    rfl
   rw [bb_neg (by rw [beq_eq_false_iff_ne]; omega), if_neg g0]
   have e1 : w64 ((k : Int) + 1) = ((k + 1 : Nat) : Int) := by rw [w64_of (by omega) (by omega)]; omega
   simp only [Tw.run_opt, e1, cut1_eq hp hn hg (by omega) hR rfl, Option.bind_some]
   by_cases g1 : k + 1 < ls.length ∧ totI c + totI (ls.getD (k + 1) []) ≤ R / 2
   ·rw [bb_pos (decide_eq_true g1), if_pos g1, dd_pos (by omega), leaf_get g1.1]
    have hl1 := hp.leaf (List.getElem_mem g1.1)
    have hw := pack_with_eq (ls := ls) (more := [c ++ ls[k + 1]]) (fi := (k : Int)) (oi := 2) (f := k) (o := 2) rfl rfl (by omega) (by omega) (by simp) hlv (fun l h => by rw [List.mem_singleton] at h; subst h; rw [List.length_append]; omega)
    simp only [Int.toNat_natCast, Tw.run_opt, List.getElem?_eq_getElem g1.1, Option.bind_some, two_concat c ls[k + 1] (by omega), hw]
    rfl
   rw [bb_neg (decide_eq_false g1), if_neg g1]
   by_cases hk0 : 0 < k
   ·have e2 : w64 ((k : Int) - 1) = ((k - 1 : Nat) : Int) := by rw [w64_of (by omega) (by omega)]; omega
    have hk1 : k - 1 < ls.length := by omega
    simp only [Tw.run_opt, e2, cut1_eq hp hn hg (show c.length ≤ 300 by omega) hR rfl, Option.bind_some]
    by_cases g2 : totI c + totI (ls.getD (k - 1) []) ≤ R / 2
    ·rw [bb_pos (decide_eq_true ⟨hk1, g2⟩), if_pos ⟨hk0, g2⟩, dd_pos (by omega), leaf_get hk1]
     have hl1 := hp.leaf (List.getElem_mem hk1)
     have hw := pack_with_eq (ls := ls) (more := [ls[k - 1] ++ c]) (fi := ((k - 1 : Nat) : Int)) (oi := 2) (f := k - 1) (o := 2) rfl rfl (by omega) (by omega) (by simp) hlv (fun l h => by rw [List.mem_singleton] at h; subst h; rw [List.length_append]; omega)
     simp only [Int.toNat_natCast, Tw.run_opt, List.getElem?_eq_getElem hk1, Option.bind_some, two_concat ls[k - 1] c (by omega), hw]
     rfl
    ·have hw := pack_with_eq (ls := ls) (more := [c]) (fi := (k : Int)) (oi := 1) (f := k) (o := 1) rfl rfl (by omega) (by omega) (by simp) hlv (fun l h => by rw [List.mem_singleton] at h; subst h; omega)
     rw [bb_neg (decide_eq_false fun h => g2 h.2), if_neg fun h => g2 h.2]
     simp only [Tw.run_opt, hw, Option.bind_some]
     rfl
   ·have e2 : w64 ((k : Int) - 1) = -1 := by rw [w64_of (by omega) (by omega)]; omega
    have hw := pack_with_eq (ls := ls) (more := [c]) (fi := (k : Int)) (oi := 1) (f := k) (o := 1) rfl rfl (by omega) (by omega) (by simp) hlv (fun l h => by rw [List.mem_singleton] at h; subst h; omega)
    simp only [Tw.run_opt, e2, cut1_neg (show (-1 : Int) < 0 by decide), Option.bind_some]
    rw [bb_neg (by rfl), if_neg fun h => hk0 h.1]
    simp only [Tw.run_opt, hw, Option.bind_some]
    rfl
  ·have hw := pack_with3_eq (ls := ls) (fi := 0) (oi := 0) (f := 0) (o := 0) rfl rfl (by omega) (by omega) hlv
   have e : putAt ls 0 0 [] = ls := by simp [putAt]
   rw [bb_pos (by rw [decide_eq_false g]; rfl), if_neg g]
   simp only [Tw.run_opt, hw, e, Option.bind_some]
   rfl

theorem cutS_pk {n : Nat} {ls : List (List ItemV)} (hp : Pk n ls) (key : Int) (R : Nat) : Pk n (cutS R ls key).2.2.2.2 := by
 unfold cutS
 by_cases h0 : ls.length = 0
 ·rw [if_pos h0]; exact Pk.nil n
 rw [if_neg h0]
 have hk : atN ls key ls.length < ls.length := by have := atN_le ls key ls.length; omega
 generalize atN ls key ls.length = k at *
 have hm := List.getElem_mem hk
 have hg := cutI_gd (hp.gd _ hm) key
 rw [leaf_get hk]
 generalize cutI ls[k] key = c at *
 by_cases g : c.length < ls[k].length
 ·rw [if_pos g]
  have hcne : c.length ≠ 0 → c ≠ [] := fun h e => h (by rw [e]; rfl)
  unfold cutT
  split
  ·exact hp.put (d := 0) k 1 (fun _ h => nomatch h) (fun _ h => nomatch h) (by simp)
  ·next h1 =>
   split
   ·next h2 =>
    rw [leaf_get h2.1]
    refine hp.put (d := 0) k 2 (fun l h => ?_) (fun l h => ?_) ?_
    ·rw [List.mem_singleton] at h; subst h; simp [hcne h1]
    ·rw [List.mem_singleton] at h; subst h; exact hg.app (hp.gd _ (List.getElem_mem _))
    ·rw [drop_two h2.1]; simp only [List.flatten_cons, List.flatten_nil, List.append_nil, List.length_append]; omega
   ·split
    ·next h3 =>
     have hk1 : k - 1 < ls.length := by omega
     have hk2 : k - 1 + 1 < ls.length := by omega
     have e : ls[k - 1 + 1] = ls[k] := by congr 1; omega
     rw [leaf_get hk1]
     refine hp.put (d := 0) (k - 1) 2 (fun l h => ?_) (fun l h => ?_) ?_
     ·rw [List.mem_singleton] at h; subst h; simp [hcne h1]
     ·rw [List.mem_singleton] at h; subst h; exact (hp.gd _ (List.getElem_mem _)).app hg
     ·rw [drop_two hk2, e]; simp only [List.flatten_cons, List.flatten_nil, List.append_nil, List.length_append]; omega
    ·refine hp.put (d := 0) k 1 (fun l h => ?_) (fun l h => ?_) ?_
     ·rw [List.mem_singleton] at h; subst h; exact hcne h1
     ·rw [List.mem_singleton] at h; subst h; exact hg
     ·rw [drop_one hk]; simp only [List.flatten_cons, List.flatten_nil, List.append_nil]; omega
 ·rw [if_neg g]; exact hp

theorem none0_At (key : Int) : pack_At_none0.c key = some (-1) := by
 have e : w64 (imin 0 1 - 1) = -1 := by rw [show imin 0 1 = 0 from rfl, w64_of (by omega) (by omega)]; rfl
 have hL : pack_At_none0.L3 key (-1) 0 0 = some () := Lp_end (by
  simp only [pack_At_none0.l3]
  rw [bb_neg (decide_eq_false (by omega))]
  rfl)
 simp only [pack_At_none0.c, pack_At_none0.t, e, Tw.run_opt, Tw.run_ret, hL, Option.bind_some]
theorem none0_Put (R key : Int) (b : ByteArray) : pack_Put_none0.c R key b = some (0, (0, (1, [[⟨key, b⟩]]))) := by
 have hw := pack_with0_eq (more := [[⟨key, b⟩]]) (by simp) (fun l h => by rw [List.mem_singleton] at h; subst h; simp)
 simp only [pack_Put_none0.c, pack_Put_none0.t, Tw.run_opt, none0_At, Option.bind_some]
 rw [bb_pos (by rfl)]
 simp only [Tw.run_opt, hw, Option.bind_some]
 rfl


def badL (R : Int) (l : List ItemV) : Bool := decide (l.length = 0) || decide (((totI l : Nat) : Int) > R)
def fitsL (R : Int) (ls : List (List ItemV)) : Bool := match ls.find? (badL R) with | some _ => false | none => rightI ls.flatten
abbrev Sz (ls : List (List ItemV)) : Prop := ∀ l ∈ ls, Its l ∧ totI l < 4611686018427387904 ∧ l.length < 4611686018427387904
theorem ref24_Fits_eq {ls : List (List ItemV)} (hs : Sz ls) (h : ls.flatten.length * 24 ≤ 140737488351232) (hl : ls.length < 4611686018427387904) (R : Int) : ref24_Fits.c ls R = some (fitsL R ls) := by
 have hL : ref24_Fits.L2 ls R 0 = some (pickO (ls.find? (badL R)) (fun _ => .inr false) (.inl ())) := by
  refine Lp_list (fun s => (ref24_Fits.l2 ls R s).run) (fun i => (i : Int)) ls (badL R) (fun _ => .inr false) (.inl ()) (fun i a ha => ?_) ?_
  ·have hi := (List.getElem?_eq_some_iff.1 ha).1
   obtain ⟨s1, s2, s3⟩ := hs a (List.mem_of_getElem? ha)
   have e1 : w64 ((i : Int) + 1) = ((i + 1 : Nat) : Int) := by rw [w64_of (by omega) (by omega)]; omega
   simp only [ref24_Fits.l2]
   rw [bb_pos (decide_eq_true (by omega)), dd_pos (by omega)]
   simp only [Int.toNat_natCast, Tw.run_opt, ha, Option.bind_some, e1]
   unfold badL
   by_cases g : a.length = 0
   ·rw [bb_pos (by rw [beq_iff_eq]; omega), decide_eq_true g]
    rfl
   rw [bb_neg (by rw [beq_eq_false_iff_ne]; omega), decide_eq_false g, Bool.false_or, dd_pos (by omega)]
   simp only [Tw.run_opt, ref23_Total_eq s1 s2 s3, Option.bind_some]
   by_cases g2 : ((totI a : Nat) : Int) > R
   ·rw [bb_pos (decide_eq_true g2), decide_eq_true g2]
    rfl
   ·rw [bb_neg (decide_eq_false g2), decide_eq_false g2]
    rfl
  ·simp only [ref24_Fits.l2]
   rw [bb_neg (decide_eq_false (by omega))]
   rfl
 simp only [ref24_Fits.c, ref24_Fits.t, Tw.run_opt, hL, Option.bind_some]
 unfold fitsL
 cases ls.find? (badL R) with
 | some x => rfl
 | none =>
  simp only [pickO, sm_inl, Tw.run_opt, Tw.run_ret, ref24_Flat_eq (show ls.flatten.length * 24 ≤ 140737488355328 by omega) hl, ref18_Right_eq (show ls.flatten.length ≤ 140737488351232 by omega), Option.bind_some]


abbrev SortI (l : List ItemV) : Prop := l.Pairwise fun x y => x.key < y.key
theorem badAt_none {l : List ItemV} : rightI l = true ↔ ∀ i, i < l.length → badAt l i = false := by
 unfold rightI
 rw [Option.isNone_iff_eq_none, List.find?_eq_none]
 constructor
 ·intro h i hi
  simpa using h i (by simp [List.mem_range'_1]; omega)
 ·intro h i hi
  have := h i (by simp [List.mem_range'_1] at hi; omega)
  simp [this]
theorem badAt_eq {l : List ItemV} {i : Nat} (hi : i < l.length) : badAt l i = false ↔ l[i].data.size ≤ 64 ∧ (∀ h : 0 < i, l[i - 1].key < l[i].key) := by
 unfold badAt
 rw [List.getElem?_eq_getElem hi]
 simp only [Bool.or_eq_false_iff, decide_eq_false_iff_not, Nat.not_lt, Bool.and_eq_false_imp, decide_eq_true_eq]
 rw [List.getElem?_eq_getElem (show i - 1 < l.length by omega)]
 simp only [decide_eq_false_iff_not]
 constructor
 ·rintro ⟨h1, h2⟩
  exact ⟨h1, fun h => by have := h2 h; omega⟩
 ·rintro ⟨h1, h2⟩
  exact ⟨h1, fun h => by have := h2 h; omega⟩
theorem sort_of_steps {l : List ItemV} (h : ∀ i (hi : i + 1 < l.length), l[i].key < l[i + 1].key) : SortI l := by
 have key : ∀ (d i : Nat) (hi : i + 1 + d < l.length), l[i].key < l[i + 1 + d].key := by
  intro d
  induction d with
  | zero => intro i hi; exact h i hi
  | succ d ih =>
   intro i hi
   have h1 := ih i (by omega)
   have h2 := h (i + 1 + d) (by omega)
   have e : l[i + 1 + d + 1] = l[i + 1 + (d + 1)] := rfl
   rw [e] at h2
   omega
 rw [SortI, List.pairwise_iff_getElem]
 intro i j hi hj hij
 have := key (j - i - 1) i (by omega)
 have e : l[i + 1 + (j - i - 1)] = l[j] := by congr 1; omega
 rw [e] at this
 exact this
theorem rightI_iff {l : List ItemV} : rightI l = true ↔ (∀ x ∈ l, x.data.size ≤ 64) ∧ SortI l := by
 rw [badAt_none]
 constructor
 ·intro h
  refine ⟨fun x hx => ?_, sort_of_steps fun i hi => ?_⟩
  ·obtain ⟨i, hi, rfl⟩ := List.getElem_of_mem hx
   exact ((badAt_eq hi).1 (h i hi)).1
  ·exact ((badAt_eq hi).1 (h (i + 1) hi)).2 (by omega)
 ·rintro ⟨h1, h2⟩ i hi
  refine (badAt_eq hi).2 ⟨h1 _ (List.getElem_mem hi), fun h => ?_⟩
  exact List.pairwise_iff_getElem.1 h2 (i - 1) i (by omega) hi (by omega)
theorem putI_sort {l : List ItemV} (h : SortI l) (a : Int) (b : ByteArray) : SortI (putI l a b) := by
 unfold putI
 rw [SortI, List.pairwise_append, List.pairwise_append]
 refine ⟨⟨h.filter _, List.pairwise_singleton _ _, fun x hx y hy => ?_⟩, h.filter _, fun x hx y hy => ?_⟩
 ·rw [List.mem_singleton] at hy
  subst hy
  exact of_decide_eq_true (List.mem_filter.1 hx).2
 ·have h2 : a < y.key := of_decide_eq_true (List.mem_filter.1 hy).2
  rw [List.mem_append, List.mem_singleton] at hx
  rcases hx with hx | hx
  ·have h1 : x.key < a := of_decide_eq_true (List.mem_filter.1 hx).2
   omega
  ·subst hx; exact h2
theorem cutI_sort {l : List ItemV} (h : SortI l) (a : Int) : SortI (cutI l a) := h.filter _
theorem totI_filters (l : List ItemV) (p q : ItemV → Bool) (h : ∀ x, p x = true → q x = false) : totI (l.filter p) + totI (l.filter q) ≤ totI l := by
 induction l with
 | nil => simp [totI]
 | cons x l ih =>
  simp only [List.filter_cons, totI_cons]
  cases hp : p x with
  | true => rw [h x hp]; simp only [if_true, totI_cons, Bool.false_eq_true, if_false]; omega
  | false => cases q x <;> simp only [if_true, totI_cons, Bool.false_eq_true, if_false] <;> omega
theorem totI_putI {l : List ItemV} {a : Int} {b : ByteArray} (hb : b.size ≤ 64) : totI (putI l a b) ≤ totI l + 18 := by
 unfold putI
 have h1 := totI_filters l (fun x => decide (x.key < a)) (fun x => decide (x.key > a)) (fun x h => by simp at h ⊢; omega)
 have h2 : totI [⟨a, b⟩] ≤ 18 := by
  simp only [totI, List.map_cons, List.map_nil, List.sum_cons, List.sum_nil, cstI, needN]
  omega
 rw [totI_append, totI_append]
 omega
theorem totI_cutI {l : List ItemV} (a : Int) : totI (cutI l a) ≤ totI l := by
 have := totI_filters l (fun x => x.key != a) (fun _ => false) (fun _ _ => rfl)
 unfold cutI
 omega
theorem putM_fit {R : Nat} (hR : 62 ≤ R) {p : List ItemV} (hg : Gd p) (ht : totI p ≤ R + 18) : ∀ l ∈ putM R p, totI l ≤ R := by
 intro l hl
 unfold putM at hl
 split at hl
 ·rw [List.mem_singleton] at hl; subst hl; assumption
 ·next h =>
  obtain ⟨h1, h2, h3⟩ := front_half hg hR (by omega)
  have hs : totI p = totI (p.take (frontN p ((totI p / 2 : Nat) : Int))) + totI (p.drop (frontN p ((totI p / 2 : Nat) : Int))) := by
   rw [← totI_append, List.take_append_drop]
  simp only [List.mem_cons, List.not_mem_nil, or_false] at hl
  rcases hl with rfl | rfl
  ·omega
  ·omega

theorem hle_cons {x : ItemV} {l : List ItemV} {key : Int} : hle (x :: l) key = decide (x.key ≤ key) := rfl
theorem atN_prop (ls : List (List ItemV)) (key : Int) : ∀ n, (0 < atN ls key n → hle (ls.getD (atN ls key n) []) key = true) ∧ ∀ j, atN ls key n < j → j < n → hle (ls.getD j []) key = false
 | 0 => by rw [atN]; exact ⟨fun h => absurd h (by omega), fun j _ h => absurd h (by omega)⟩
 | n + 1 => by
  obtain ⟨h1, h2⟩ := atN_prop ls key n
  rw [atN]
  split
  ·next h => exact ⟨fun _ => h, fun j hj hj2 => absurd hj (by omega)⟩
  ·next h =>
   refine ⟨h1, fun j hj hj2 => ?_⟩
   by_cases e : j = n
   ·subst e; simpa using h
   ·exact h2 j hj (by omega)
theorem at_ahead {ls : List (List ItemV)} (hs : SortI ls.flatten) (hne : ∀ l ∈ ls, l ≠ []) {key : Int} {k : Nat} (hk : k < ls.length) (h : 0 < k → hle (ls.getD k []) key = true) : ∀ x ∈ (ls.take k).flatten, x.key < key := by
 intro x hx
 by_cases h0 : k = 0
 ·subst h0; simp at hx
 have h := h (by omega)
 rw [leaf_get hk] at h
 have hm : ls[k] ≠ [] := hne _ (List.getElem_mem hk)
 obtain ⟨y, r, hy⟩ := List.exists_cons_of_ne_nil hm
 rw [hy, hle_cons] at h
 have h := of_decide_eq_true h
 have e : ls.flatten = (ls.take k).flatten ++ (ls.drop k).flatten := by rw [← List.flatten_append, List.take_append_drop]
 rw [e, SortI, List.pairwise_append] at hs
 have := hs.2.2 x hx y (by rw [List.drop_eq_getElem_cons hk, hy]; simp)
 omega
theorem at_behind {ls : List (List ItemV)} (hs : SortI ls.flatten) (hne : ∀ l ∈ ls, l ≠ []) {key : Int} {k : Nat} (h : ∀ j, k < j → j < ls.length → hle (ls.getD j []) key = false) : ∀ x ∈ (ls.drop (k + 1)).flatten, key < x.key := by
 intro x hx
 by_cases h0 : k + 1 < ls.length
 ·have h := h (k + 1) (by omega) h0
  rw [leaf_get h0] at h
  have hm : ls[k + 1] ≠ [] := hne _ (List.getElem_mem h0)
  obtain ⟨y, r, hy⟩ := List.exists_cons_of_ne_nil hm
  rw [hy, hle_cons] at h
  have h := of_decide_eq_false h
  have e : ls.flatten = (ls.take (k + 1)).flatten ++ (ls.drop (k + 1)).flatten := by rw [← List.flatten_append, List.take_append_drop]
  rw [e, SortI, List.pairwise_append] at hs
  have hs := hs.2.1
  rw [List.drop_eq_getElem_cons h0, hy, List.flatten_cons, List.cons_append] at hs hx
  rw [List.pairwise_cons] at hs
  rcases List.mem_cons.1 hx with rfl | hx
  ·omega
  ·have := hs.1 x hx; omega
 ·rw [List.drop_of_length_le (by omega)] at hx
  simp at hx
theorem putI_mid {A L B : List ItemV} {a : Int} {b : ByteArray} (hA : ∀ x ∈ A, x.key < a) (hB : ∀ x ∈ B, a < x.key) : putI (A ++ L ++ B) a b = A ++ putI L a b ++ B := by
 have e1 : A.filter (fun x => decide (x.key < a)) = A := List.filter_eq_self.2 (fun x hx => decide_eq_true (hA x hx))
 have e2 : A.filter (fun x => decide (x.key > a)) = [] := List.filter_eq_nil_iff.2 (fun x hx => by have := hA x hx; simp; omega)
 have e3 : B.filter (fun x => decide (x.key < a)) = [] := List.filter_eq_nil_iff.2 (fun x hx => by have := hB x hx; simp; omega)
 have e4 : B.filter (fun x => decide (x.key > a)) = B := List.filter_eq_self.2 (fun x hx => decide_eq_true (hB x hx))
 unfold putI
 simp only [List.filter_append, e1, e2, e3, e4, List.append_nil, List.nil_append, List.append_assoc]
theorem cutI_mid {A L B : List ItemV} {a : Int} (hA : ∀ x ∈ A, x.key < a) (hB : ∀ x ∈ B, a < x.key) : cutI (A ++ L ++ B) a = A ++ cutI L a ++ B := by
 have e1 : A.filter (fun x => x.key != a) = A := List.filter_eq_self.2 (fun x hx => by have := hA x hx; simp; omega)
 have e2 : B.filter (fun x => x.key != a) = B := List.filter_eq_self.2 (fun x hx => by have := hB x hx; simp; omega)
 unfold cutI
 simp only [List.filter_append, e1, e2]

structure Ft (R n : Nat) (ls : List (List ItemV)) : Prop where
 pk : Pk n ls
 st : SortI ls.flatten
 fit : ∀ l ∈ ls, totI l ≤ R
theorem Ft.nil (R n : Nat) : Ft R n [] := ⟨Pk.nil n, List.Pairwise.nil, (fun _ h => nomatch h)⟩
def Became (ls : List (List ItemV)) (f o m : Int) (q : List (List ItemV)) : Prop :=
 ∃ (f' o' : Nat) (more : List (List ItemV)), f = (f' : Int) ∧ o = (o' : Int) ∧ m = (more.length : Int) ∧ q = putAt ls f' o' more ∧ f' + o' ≤ ls.length ∧ o' ≤ 2 ∧ more.length ≤ 2
theorem putAt_none (ls : List (List ItemV)) : putAt ls 0 0 [] = ls := by simp [putAt]
section
variable {R n : Nat} (hR : 62 ≤ R) {ls : List (List ItemV)} (h : Ft R n ls)
include hR h
omit hR in
theorem Ft.leaves {key : Int} {k : Nat} (hk : k < ls.length) (he : k = atN ls key ls.length) : (∀ x ∈ (ls.take k).flatten, x.key < key) ∧ (∀ x ∈ (ls.drop (k + 1)).flatten, key < x.key) ∧ ls.flatten = (ls.take k).flatten ++ ls[k] ++ (ls.drop (k + 1)).flatten := by
 obtain ⟨h1, h2⟩ := atN_prop ls key ls.length
 rw [← he] at h1 h2
 refine ⟨at_ahead h.st h.pk.ne hk h1, at_behind h.st h.pk.ne h2, ?_⟩
 have := parts_flat ls k 1
 rw [drop_one hk] at this
 simpa using this
theorem Ft.put {a : Int} {b : ByteArray} (ha : InR .u32 a) (hb : b.size ≤ 64) : Ft R (n + 1) (putS R ls a b).2.2.2 ∧ (putS R ls a b).2.2.2.flatten = putI ls.flatten a b ∧ Became ls (putS R ls a b).1 (putS R ls a b).2.1 (putS R ls a b).2.2.1 (putS R ls a b).2.2.2 := by
 have hp := putS_pk h.pk ha hb hR
 unfold putS at hp ⊢
 by_cases h0 : ls.length = 0
 ·rw [if_pos h0] at hp ⊢
  have : ls = [] := List.eq_nil_of_length_eq_zero h0
  subst this
  refine ⟨⟨hp, by simp [SortI], fun l hl => ?_⟩, by simp [putI], 0, 0, [[⟨a, b⟩]], rfl, rfl, rfl, rfl, by simp, by simp, by simp⟩
  rw [List.mem_singleton] at hl
  subst hl
  simp only [totI, List.map_cons, List.map_nil, List.sum_cons, List.sum_nil, cstI, needN]
  omega
 rw [if_neg h0] at hp ⊢
 have hk : atN ls a ls.length < ls.length := by have := atN_le ls a ls.length; omega
 obtain ⟨h1, h2, h3⟩ := h.leaves hk rfl
 generalize atN ls a ls.length = k at *
 have hm := List.getElem_mem hk
 rw [leaf_get hk] at hp ⊢
 have hpl := putI_len ls[k] a b
 have hgd := putI_gd (h.pk.gd _ hm) ha hb
 have hfl : (putAt ls k 1 (putM R (putI ls[k] a b))).flatten = putI ls.flatten a b := by
  rw [putAt_flat, putM_flat, h3, putI_mid h1 h2]
 refine ⟨⟨hp, ?_, fun l hl => ?_⟩, hfl, k, 1, putM R (putI ls[k] a b), rfl, rfl, rfl, rfl, by omega, by omega, (putM_ok hR hgd hpl.2).1⟩
 ·show SortI (putAt ls k 1 (putM R (putI ls[k] a b))).flatten
  rw [hfl]
  exact putI_sort h.st a b
 ·rcases putAt_mem hl with hl | hl
  ·exact h.fit _ hl
  ·refine putM_fit hR hgd ?_ l hl
   have := totI_putI (l := ls[k]) (a := a) hb
   have := h.fit _ hm
   omega
omit hR in
theorem Ft.cut (key : Int) : Ft R n (cutS R ls key).2.2.2.2 ∧ (cutS R ls key).2.2.2.2.flatten = cutI ls.flatten key ∧ (cutS R ls key).2.2.2.1 = decide ((cutI ls.flatten key).length < ls.flatten.length) ∧ Became ls (cutS R ls key).1 (cutS R ls key).2.1 (cutS R ls key).2.2.1 (cutS R ls key).2.2.2.2 := by
 have hp := cutS_pk h.pk key R
 unfold cutS at hp ⊢
 by_cases h0 : ls.length = 0
 ·have : ls = [] := List.eq_nil_of_length_eq_zero h0
  subst this
  rw [if_pos h0]
  exact ⟨h, rfl, rfl, 0, 0, [], rfl, rfl, rfl, rfl, by simp, by simp, by simp⟩
 rw [if_neg h0] at hp ⊢
 have hk : atN ls key ls.length < ls.length := by have := atN_le ls key ls.length; omega
 obtain ⟨h1, h2, h3⟩ := h.leaves hk rfl
 generalize atN ls key ls.length = k at *
 have hm := List.getElem_mem hk
 rw [leaf_get hk] at hp ⊢
 have hc : cutI ls.flatten key = (ls.take k).flatten ++ cutI ls[k] key ++ (ls.drop (k + 1)).flatten := by rw [h3, cutI_mid h1 h2]
 have hcl : (cutI ls[k] key).length < ls[k].length ↔ (cutI ls.flatten key).length < ls.flatten.length := by
  rw [hc]
  conv => rhs; rw [h3]
  simp only [List.length_append]
  omega
 have htc : totI (cutI ls[k] key) ≤ totI ls[k] := totI_cutI key
 have hfit := h.fit _ hm
 by_cases g : (cutI ls[k] key).length < ls[k].length
 ·rw [if_pos g] at hp ⊢
  have hd : true = decide ((cutI ls.flatten key).length < ls.flatten.length) := (decide_eq_true (hcl.1 g)).symm
  have hst := cutI_sort h.st key
  generalize cutI ls[k] key = c at *
  have fin : ∀ (f o : Nat) (more : List (List ItemV)), f + o ≤ ls.length → o ≤ 2 → more.length ≤ 2 → (putAt ls f o more).flatten = cutI ls.flatten key → (∀ l ∈ more, totI l ≤ R) → Pk n (putAt ls f o more) → Ft R n (putAt ls f o more) ∧ (putAt ls f o more).flatten = cutI ls.flatten key ∧ true = decide ((cutI ls.flatten key).length < ls.flatten.length) ∧ Became ls (f : Int) (o : Int) (more.length : Int) (putAt ls f o more) := by
   intro f o more q1 q2 q3 q4 q5 q6
   refine ⟨⟨q6, by rw [q4]; exact hst, fun l hl => ?_⟩, q4, hd, f, o, more, rfl, rfl, rfl, rfl, q1, q2, q3⟩
   rcases putAt_mem hl with hl | hl
   ·exact h.fit _ hl
   ·exact q5 l hl
  unfold cutT at hp ⊢
  by_cases g1 : c.length = 0
  ·rw [if_pos g1] at hp ⊢
   have : c = [] := List.eq_nil_of_length_eq_zero g1
   subst this
   exact fin k 1 [] (by omega) (by omega) (by simp) (by rw [putAt_flat, hc]; simp) (fun _ h => nomatch h) hp
  rw [if_neg g1] at hp ⊢
  by_cases g2 : k + 1 < ls.length ∧ totI c + totI (ls.getD (k + 1) []) ≤ R / 2
  ·rw [if_pos g2] at hp ⊢
   rw [leaf_get g2.1] at g2 hp ⊢
   refine fin k 2 [c ++ ls[k + 1]] (by omega) (by omega) (by simp) ?_ (fun l hl => ?_) hp
   ·have e : (ls.drop (k + 1)).flatten = ls[k + 1] ++ (ls.drop (k + 2)).flatten := by rw [List.drop_eq_getElem_cons g2.1]; rfl
    rw [putAt_flat, hc, e]
    simp
   ·rw [List.mem_singleton] at hl; subst hl; rw [totI_append]; omega
  rw [if_neg g2] at hp ⊢
  by_cases g3 : 0 < k ∧ totI c + totI (ls.getD (k - 1) []) ≤ R / 2
  ·rw [if_pos g3] at hp ⊢
   have hk1 : k - 1 < ls.length := by omega
   rw [leaf_get hk1] at g3 hp ⊢
   refine fin (k - 1) 2 [ls[k - 1] ++ c] (by omega) (by omega) (by simp) ?_ (fun l hl => ?_) hp
   ·rw [putAt_flat, hc, show k - 1 + 2 = k + 1 by omega]
    have e : (ls.take k).flatten = (ls.take (k - 1)).flatten ++ ls[k - 1] := by
     have := flat_take hk1
     rwa [show k - 1 + 1 = k by omega] at this
    rw [e]
    simp
   ·rw [List.mem_singleton] at hl; subst hl; rw [totI_append]; omega
  rw [if_neg g3] at hp ⊢
  refine fin k 1 [c] (by omega) (by omega) (by simp) ?_ (fun l hl => ?_) hp
  ·rw [putAt_flat, hc]; simp
  ·rw [List.mem_singleton] at hl; subst hl; omega
 ·rw [if_neg g] at hp ⊢
  have e : cutI ls[k] key = ls[k] := by
   have hl := cutI_len ls[k] key
   exact (List.filter_sublist (l := ls[k])).eq_of_length (by show (cutI ls[k] key).length = _; omega)
  refine ⟨h, ?_, (decide_eq_false (fun q => g (hcl.2 q))).symm, 0, 0, [], rfl, rfl, rfl, (putAt_none ls).symm, by simp, by simp, by simp⟩
  show ls.flatten = _
  rw [hc, e]
  exact h3
end


theorem bOr64_nat (a b : Nat) (ha : a < 9223372036854775808) (hb : b < 9223372036854775808) : bOr .i64 (a : Int) (b : Int) = ((a ||| b : Nat) : Int) := by
 have hx : a ||| b < 2 ^ 63 := Nat.or_lt_two_pow (by omega) (by omega)
 show w64 ((BitVec.ofInt 64 (a : Int) ||| BitVec.ofInt 64 (b : Int)).toNat : Int) = _
 rw [BitVec.ofInt_natCast, BitVec.ofInt_natCast, BitVec.toNat_or, BitVec.toNat_ofNat, BitVec.toNat_ofNat, Nat.mod_eq_of_lt (by omega), Nat.mod_eq_of_lt (by omega)]
 exact w64_of (by omega) (by omega)
theorem bOr64_add {a b : Int} (k : Nat) (ha : 0 ≤ a) (hab : a + b < 9223372036854775808) (hd : a % 2 ^ k = 0) (hb : 0 ≤ b) (hb2 : b < 2 ^ k) : bOr .i64 a b = a + b := by
 obtain ⟨x, rfl⟩ := Int.eq_ofNat_of_zero_le ha
 obtain ⟨y, rfl⟩ := Int.eq_ofNat_of_zero_le hb
 rw [bOr64_nat x y (by omega) (by omega)]
 have hb2' : y < 2 ^ k := by exact_mod_cast hb2
 have hd' : x % 2 ^ k = 0 := by exact_mod_cast hd
 have e : x = 2 ^ k * (x / 2 ^ k) := by
  have := Nat.div_add_mod x (2 ^ k)
  omega
 have : x ||| y = x + y := by
  rw [e]
  exact (Nat.two_pow_add_eq_or_of_lt hb2' _).symm
 rw [this]
 omega
theorem bShl64 (a : Int) (k : Nat) (hk : k ≤ 64) (h1 : -9223372036854775808 ≤ a * 2 ^ k) (h2 : a * 2 ^ k < 9223372036854775808) : bShl .i64 a (k : Int) = a * 2 ^ k := by
 show w64 (a * 2 ^ min ((k : Int).toNat) 64) = _
 rw [Int.toNat_natCast, Nat.min_eq_left hk]
 exact w64_of h1 h2


def rgtF (d k lo hi m : Int) : Prop := (0 ≤ d ∧ d ≤ 255) ∧ ((k = 1 ∧ -1099511627776 ≤ lo ∧ lo ≤ hi ∧ hi ≤ 1099511627776 ∧ m = 0) ∨ (k = 2 ∧ lo = 0 ∧ hi = 0 ∧ m = 0) ∨
 (k = 3 ∧ lo = 0 ∧ hi = 0 ∧ 1 ≤ m ∧ m ≤ 1000) ∨ (k = 4 ∧ lo = 0 ∧ hi = 0 ∧ 0 ≤ m ∧ m ≤ 32))
instance (d k lo hi m : Int) : Decidable (rgtF d k lo hi m) := by unfold rgtF; infer_instance
def loF (k lo : Int) : Int := if k = 1 then lo else 0
def hiF (k hi m : Int) : Int := if k = 1 then hi else if k = 2 then 1 else if k = 3 then w64 (m - 1) else 0
def moF (k m : Int) : Int := if k = 4 then m else 0

theorem field_Right_eq (d k lo hi m : Int) : field_Right.c d k lo hi m = some (decide (rgtF d k lo hi m)) := by
 simp only [field_Right.c, field_Right.t, Tw.run_bb, Tw.run_ret, decide_eq_true_eq, beq_iff_eq]
 repeat' split
 all_goals (congr 1; rw [Bool.eq_iff_iff]; simp only [Bool.false_eq_true, false_iff, decide_eq_true_eq, beq_iff_eq]; unfold rgtF; omega)

theorem field_bounds_eq (d k lo hi m : Int) : field_bounds.c d k lo hi m = some (loF k lo, hiF k hi m) := by
 simp only [field_bounds.c, field_bounds.t, Tw.run_bb, Tw.run_ret, beq_iff_eq, loF, hiF]
 by_cases h1 : k = 1
 ·simp only [h1, if_true]
 by_cases h2 : k = 2
 ·simp only [h1, h2, if_true, if_false]; rfl
 by_cases h3 : k = 3
 ·simp only [h1, h2, h3, if_true, if_false]; rfl
 ·simp only [h1, h2, h3, if_false]

theorem ref12_Span_eq (d k lo hi m : Int) : ref12_Span.c d k lo hi m = some (loF k lo, hiF k hi m, moF k m, decide (rgtF d k lo hi m)) := by
 have key : ref12_Span.c d k lo hi m = some (loF k lo, hiF k hi m, moF k m, ((ref12_Span.c d k lo hi m).map fun x => x.2.2.2).getD false) ∧ ((ref12_Span.c d k lo hi m).map fun x => x.2.2.2) = some (decide (rgtF d k lo hi m)) := by
  simp only [ref12_Span.c, ref12_Span.t, Tw.run_bb, Tw.run_ret, decide_eq_true_eq, beq_iff_eq]
  constructor
  ·repeat' split
   all_goals (simp only [loF, hiF, moF, Option.map_some, Option.getD_some]; simp_all)
  ·repeat' split
   all_goals (simp only [Option.map_some]; congr 1; rw [Bool.eq_iff_iff]; simp only [Bool.false_eq_true, false_iff, decide_eq_true_eq, beq_iff_eq]; unfold rgtF; omega)
 rw [key.1, key.2]
 rfl

theorem ref12_Right_eq (d k lo hi m : Int) : ref12_Right.c d k lo hi m = some (decide (rgtF d k lo hi m)) := by
 simp only [ref12_Right.c, ref12_Right.t, Tw.run_opt, Tw.run_ret, ref12_Span_eq, Option.bind_some]

def hasF (d k lo hi m n : Int) (s : ByteArray) : Prop := rgtF d k lo hi m ∧ loF k lo ≤ n ∧ n ≤ hiF k hi m ∧ (s.size : Int) ≤ moF k m
instance (d k lo hi m n : Int) (s : ByteArray) : Decidable (hasF d k lo hi m n s) := by unfold hasF; infer_instance

theorem field_Has_eq (d k lo hi m n : Int) (s : ByteArray) : field_Has.c d k lo hi m n s = some (decide (hasF d k lo hi m n s)) := by
 simp only [field_Has.c, field_Has.t, Tw.run_opt, Tw.run_bb, Tw.run_ret, field_bounds_eq, field_Right_eq, Option.bind_some, decide_eq_true_eq, beq_iff_eq]
 by_cases h : k = 4
 ·have e : moF k m = m := by unfold moF; rw [if_pos h]
  rw [if_pos h]
  repeat' split
  all_goals (congr 1; rw [Bool.eq_iff_iff]; simp only [Bool.false_eq_true, false_iff, decide_eq_true_eq, hasF]; simp_all <;> (intros; omega))
 ·have e : moF k m = 0 := by unfold moF; rw [if_neg h]
  rw [if_neg h]
  repeat' split
  all_goals (congr 1; rw [Bool.eq_iff_iff]; simp only [Bool.false_eq_true, false_iff, decide_eq_true_eq, hasF]; simp_all <;> (intros; omega))
def wid (n : Nat) : Nat := if h : n = 0 then 0 else wid (n / 256) + 1
decreasing_by omega
theorem wid_zero : wid 0 = 0 := by rw [wid]; simp
theorem wid_pos {n : Nat} (h : n ≠ 0) : wid n = wid (n / 256) + 1 := by rw [wid]; simp [h]
theorem wid_lt (n : Nat) : n < 256 ^ wid n := by
 induction n using Nat.strongRecOn with
 | _ n ih =>
  by_cases h : n = 0
  ·subst h; rw [wid_zero]; decide
  ·rw [wid_pos h, Nat.pow_succ]
   have := ih (n / 256) (by omega)
   omega
theorem wid_le : ∀ (k n : Nat), n < 256 ^ k → wid n ≤ k
 | 0, n, h => by
  have : n = 0 := by simpa using h
  subst this
  rw [wid_zero]
  exact Nat.le_refl _
 | k + 1, n, h => by
  by_cases h0 : n = 0
  ·subst h0; rw [wid_zero]; omega
  ·rw [wid_pos h0]
   have := wid_le k (n / 256) (by rw [Nat.pow_succ] at h; omega)
   omega

theorem bShr_8 {n : Nat} : bShr .i64 (n : Int) 8 = ((n / 256 : Nat) : Int) := by
 show Int.fdiv (n : Int) (2 ^ min ((8 : Int).toNat) 64) = _
 rw [show min ((8 : Int).toNat) 64 = 8 from rfl, Int.fdiv_eq_ediv_of_nonneg _ (by decide)]
 rfl
theorem field_width_L2 : ∀ (n w : Nat), w + wid n < 4611686018427387904 → field_width.L2 (n : Int) (w : Int) = some ((w + wid n : Nat) : Int) := by
 intro n
 induction n using Nat.strongRecOn with
 | _ n ih =>
  intro w hw
  by_cases h : n = 0
  ·subst h
   refine Lp_end ?_
   simp only [field_width.l2, Tw.run_bb]
   rw [if_neg (by simp), wid_zero]
   rfl
  ·rw [wid_pos h] at hw
   refine (Lp_next (s' := (((n / 256 : Nat) : Int), ((w + 1 : Nat) : Int))) ?_).trans ?_
   ·simp only [field_width.l2, Tw.run_bb, Tw.run_ret, bShr_8]
    rw [if_pos (by simp; omega), w64_of (by omega) (by omega)]
    rfl
   ·have := ih (n / 256) (by omega) (w + 1) (by omega)
    unfold field_width.L2 at this
    rw [this, wid_pos h]
    congr 2
    omega
theorem field_width_eq (n : Nat) (h : n < 9223372036854775808) : field_width.c (n : Int) = some ((wid n : Nat) : Int) := by
 have := wid_le 8 n (by omega)
 have := field_width_L2 n 0 (by omega)
 rw [Nat.zero_add] at this
 simp only [field_width.c, field_width.t, Tw.run_opt, Tw.run_ret]
 rw [show field_width.L2 (n : Int) 0 = some ((wid n : Nat) : Int) from this]
 rfl
theorem ref12_wide_L2 : ∀ (n w : Nat), n < 9223372036854775808 → w + wid n < 4611686018427387904 → ref12_wide.L2 (n : Int) (w : Int) = some ((w + wid n : Nat) : Int) := by
 intro n
 induction n using Nat.strongRecOn with
 | _ n ih =>
  intro w hn hw
  by_cases h : n = 0
  ·subst h
   refine Lp_end ?_
   simp only [ref12_wide.l2, Tw.run_bb]
   rw [if_neg (by simp), wid_zero]
   rfl
  ·rw [wid_pos h] at hw
   refine (Lp_next (s' := (((n / 256 : Nat) : Int), ((w + 1 : Nat) : Int))) ?_).trans ?_
   ·simp only [ref12_wide.l2, Tw.run_bb, Tw.run_ret]
    rw [if_pos (by simp; omega), show Int.tdiv (n : Int) 256 = ((n / 256 : Nat) : Int) from rfl, w64_of (by omega) (by omega), w64_of (by omega) (by omega)]
    rfl
   ·have := ih (n / 256) (by omega) (w + 1) (by omega) (by omega)
    unfold ref12_wide.L2 at this
    rw [this, wid_pos h]
    congr 2
    omega
theorem ref12_wide_eq (n : Nat) (h : n < 9223372036854775808) : ref12_wide.c (n : Int) = some ((wid n : Nat) : Int) := by
 have := wid_le 8 n (by omega)
 have := ref12_wide_L2 n 0 h (by omega)
 rw [Nat.zero_add] at this
 simp only [ref12_wide.c, ref12_wide.t, Tw.run_opt, Tw.run_ret]
 rw [show ref12_wide.L2 (n : Int) 0 = some ((wid n : Nat) : Int) from this]
 rfl

def rngF (k lo hi m : Int) : Nat := (hiF k hi m - loF k lo).toNat
def widF (k lo hi m : Int) : Nat := wid (rngF k lo hi m)
theorem rng_of {d k lo hi m : Int} (h : rgtF d k lo hi m) : hiF k hi m - loF k lo = ((rngF k lo hi m : Nat) : Int) ∧ rngF k lo hi m ≤ 2199023255552 ∧ w64 (hiF k hi m - loF k lo) = ((rngF k lo hi m : Nat) : Int) := by
 obtain ⟨_, h⟩ := h
 have key : 0 ≤ hiF k hi m - loF k lo ∧ hiF k hi m - loF k lo ≤ 2199023255552 := by
  unfold hiF loF
  rcases h with ⟨rfl, h⟩ | ⟨rfl, h⟩ | ⟨rfl, h⟩ | ⟨rfl, h⟩
  ·simp only [if_true]; omega
  ·simp
  ·simp only [if_true, show ¬ (3 : Int) = 1 by decide, show ¬ (3 : Int) = 2 by decide, if_false]
   rw [w64_of (by omega) (by omega)]
   omega
  ·simp
 unfold rngF
 refine ⟨by omega, by omega, ?_⟩
 rw [w64_of (by omega) (by omega)]
 omega
theorem widF_le {d k lo hi m : Int} (h : rgtF d k lo hi m) : widF k lo hi m ≤ 6 := wid_le 6 _ (by have := (rng_of h).2.1; omega)
theorem field_wide_eq {d k lo hi m : Int} (h : rgtF d k lo hi m) : field_wide.c d k lo hi m = some ((widF k lo hi m : Nat) : Int) := by
 obtain ⟨_, h2, h3⟩ := rng_of h
 simp only [field_wide.c, field_wide.t, Tw.run_opt, Tw.run_ret, field_bounds_eq, Option.bind_some, h3, field_width_eq _ (show rngF k lo hi m < 9223372036854775808 by omega)]
 rfl

def sizF (d k lo hi m : Int) : Int := if rgtF d k lo hi m then if k = 4 then m + 1 else ((widF k lo hi m : Nat) : Int) else 0
theorem field_Size_eq (d k lo hi m : Int) : field_Size.c d k lo hi m = some (sizF d k lo hi m) := by
 simp only [field_Size.c, field_Size.t, Tw.run_opt, field_Right_eq, Option.bind_some]
 unfold sizF
 by_cases h : rgtF d k lo hi m
 rotate_left
 ·rw [decide_eq_false h, if_neg h]; rfl
 rw [decide_eq_true h, if_pos h, bb_neg (by rfl)]
 by_cases h4 : k = 4
 ·rw [bb_pos (by simpa using h4), if_pos h4]
  obtain ⟨_, h⟩ := h
  rw [Tw.run_ret, w64_of (by omega) (by omega)]
 rw [bb_neg (by simpa using h4), if_neg h4]
 by_cases h2 : k = 2
 ·rw [bb_pos (by simpa using h2)]
  have : rngF k lo hi m = 1 := by
   subst h2
   unfold rngF hiF loF
   rfl
  unfold widF
  rw [this]
  have : wid 1 = 1 := by rw [wid_pos (by decide)]; simp [wid_zero]
  rw [this]
  rfl
 rw [bb_neg (by simpa using h2)]
 simp only [Tw.run_opt, field_wide_eq h, Option.bind_some]
 rfl
theorem ref12_Size_eq (d k lo hi m : Int) : ref12_Size.c d k lo hi m = some (sizF d k lo hi m) := by
 simp only [ref12_Size.c, ref12_Size.t, Tw.run_opt, ref12_Span_eq, Option.bind_some]
 unfold sizF
 by_cases h : rgtF d k lo hi m
 rotate_left
 ·rw [decide_eq_false h, if_neg h]; rfl
 rw [decide_eq_true h, if_pos h, bb_neg (by rfl)]
 by_cases h4 : k = 4
 ·rw [bb_pos (by simpa using h4), if_pos h4]
  obtain ⟨_, h⟩ := h
  have : moF k m = m := by unfold moF; rw [if_pos h4]
  rw [Tw.run_ret, this, w64_of (by omega) (by omega), Int.add_comm]
 rw [bb_neg (by simpa using h4), if_neg h4]
 obtain ⟨_, h2, h3⟩ := rng_of h
 simp only [Tw.run_opt, h3, ref12_wide_eq _ (show rngF k lo hi m < 9223372036854775808 by omega), Option.bind_some]
 rfl

def widr (d k lo hi m d' k' lo' hi' m' : Int) : Prop := rgtF d k lo hi m ∧ rgtF d' k' lo' hi' m' ∧ k = k' ∧ loF k' lo' ≤ loF k lo ∧ hiF k hi m ≤ hiF k' hi' m' ∧ moF k m ≤ moF k' m'
instance (d k lo hi m d' k' lo' hi' m' : Int) : Decidable (widr d k lo hi m d' k' lo' hi' m') := by unfold widr; infer_instance
def digs (x : Nat) : Nat → List Int
 | 0 => []
 | k + 1 => ((x / 256 ^ k % 256 : Nat) : Int) :: digs x k
theorem digs_len (x : Nat) : ∀ k, (digs x k).length = k
 | 0 => rfl
 | k + 1 => by rw [digs, List.length_cons, digs_len x k]
theorem digs_bytes (x : Nat) : ∀ k, Bytes (digs x k)
 | 0 => fun _ h => nomatch h
 | k + 1 => fun y hy => by
  rcases List.mem_cons.1 hy with rfl | hy
  ·exact inR_u8 (by omega)
  ·exact digs_bytes x k y hy
def valB (l : List Int) : Nat := l.foldl (fun u c => 256 * u + c.toNat) 0
theorem valB_snoc (l : List Int) (c : Int) : valB (l ++ [c]) = 256 * valB l + c.toNat := by simp [valB]
theorem byte_nat {c : Int} (h : InR .u8 c) : c.toNat < 256 := by have := h.u8; omega
theorem valB_lt {l : List Int} (h : Bytes l) : valB l < 256 ^ l.length := by
 unfold valB
 have key : ∀ (l : List Int) (u k : Nat), Bytes l → u < 256 ^ k → l.foldl (fun u c => 256 * u + c.toNat) u < 256 ^ (k + l.length) := by
  intro l
  induction l with
  | nil => intro u k _ hu; exact hu
  | cons c l ih =>
   intro u k hb hu
   have hc := byte_nat (hb c (by simp))
   rw [List.foldl_cons, List.length_cons, show k + (l.length + 1) = (k + 1) + l.length by omega]
   exact ih _ _ (fun x hx => hb x (List.mem_cons_of_mem _ hx)) (by rw [Nat.pow_succ]; omega)
 simpa using key l 0 0 h (by decide)
theorem val_digs (x : Nat) : ∀ k, valB (digs x k) = x % 256 ^ k := by
 unfold valB
 have key : ∀ (k u : Nat), (digs x k).foldl (fun u c => 256 * u + c.toNat) u = u * 256 ^ k + x % 256 ^ k := by
  intro k
  induction k with
  | zero => intro u; simp [digs, Nat.mod_one]
  | succ k ih =>
   intro u
   rw [digs, List.foldl_cons, ih, Int.toNat_natCast, Nat.pow_succ, Nat.mod_mul, Nat.add_mul]
   have e1 : u * (256 ^ k * 256) = 256 * u * 256 ^ k := by rw [Nat.mul_comm (256 ^ k) 256, ← Nat.mul_assoc, Nat.mul_comm u 256]
   rw [e1, Nat.mul_comm (256 ^ k) (x / 256 ^ k % 256)]
   omega
 intro k
 simpa using key k 0
theorem digs_snoc (x : Nat) : ∀ k, digs x (k + 1) = digs (x / 256) k ++ [((x % 256 : Nat) : Int)]
 | 0 => by simp [digs]
 | k + 1 => by
  rw [digs, digs_snoc x k, digs, Nat.div_div_eq_div_mul, Nat.pow_succ, Nat.mul_comm (256 ^ k) 256]
  rfl
theorem digs_val : ∀ (n : Nat) (l : List Int), l.length = n → Bytes l → digs (valB l) n = l
 | 0, l, hl, _ => by
  have : l = [] := List.eq_nil_of_length_eq_zero hl
  subst this
  rfl
 | n + 1, l, hl, hb => by
  obtain ⟨l', c, rfl⟩ : ∃ l' c, l = l' ++ [c] := by
   refine ⟨l.dropLast, l.getLast (by intro h; rw [h] at hl; cases hl), ?_⟩
   exact (List.dropLast_concat_getLast _).symm
  have hl' : l'.length = n := by simpa using hl
  have hc := byte_nat (hb c (by simp))
  have hc2 := (hb c (by simp)).u8
  rw [digs_snoc, valB_snoc, show (256 * valB l' + c.toNat) / 256 = valB l' by omega, show (256 * valB l' + c.toNat) % 256 = c.toNat by omega,
   digs_val n l' hl' (fun x hx => hb x (List.mem_append_left _ hx))]
  congr 2
  omega

def layF (k lo hi m n : Int) (s : ByteArray) : List Int := if k = 4 then (s.size : Int) :: b2l s else digs (n - loF k lo).toNat (widF k lo hi m)
theorem bAnd_255 (x : Nat) (h : x < 9223372036854775808) : bAnd .i64 (x : Int) 255 = ((x % 256 : Nat) : Int) := by
 have hx : x &&& 255 < 2 ^ 63 := Nat.and_lt_two_pow _ (by decide)
 show w64 ((BitVec.ofInt 64 (x : Int) &&& BitVec.ofInt 64 ((255 : Nat) : Int)).toNat : Int) = _
 rw [BitVec.ofInt_natCast, BitVec.ofInt_natCast, BitVec.toNat_and, BitVec.toNat_ofNat, BitVec.toNat_ofNat, Nat.mod_eq_of_lt (by omega), Nat.mod_eq_of_lt (by omega)]
 rw [w64_of (by omega) (by omega), show (255 : Nat) = 2 ^ 8 - 1 by decide, Nat.and_two_pow_sub_one_eq_mod]

theorem field_Lay_eq (d k lo hi m n : Int) (s : ByteArray) : field_Lay.c d k lo hi m n s = some (if rgtF d k lo hi m then if hasF d k lo hi m n s then (0, layF k lo hi m n s) else (16, []) else (2, [])) := by
 simp only [field_Lay.c, field_Lay.t, Tw.run_opt, field_Right_eq, field_Has_eq, Option.bind_some]
 by_cases h : rgtF d k lo hi m
 rotate_left
 ·rw [decide_eq_false h, if_neg h]; rfl
 rw [decide_eq_true h, if_pos h, bb_neg (by rfl)]
 simp only [Tw.run_opt, Option.bind_some]
 by_cases hh : hasF d k lo hi m n s
 rotate_left
 ·rw [decide_eq_false hh, if_neg hh]; rfl
 rw [decide_eq_true hh, if_pos hh, bb_neg (by rfl)]
 unfold layF
 obtain ⟨_, h1, h2, h3⟩ := hh
 by_cases h4 : k = 4
 ·have hm : moF k m = m := by unfold moF; rw [if_pos h4]
  have hs : s.size ≤ 32 := by rw [hm] at h3; obtain ⟨_, h⟩ := h; omega
  rw [bb_pos (by simpa using h4), if_pos h4, dd_pos (by simp only [List.length_cons, List.length_nil, b2l_len]; omega), w8_of (by omega) (by omega)]
  rfl
 ·rw [bb_neg (by simpa using h4), if_neg h4]
  obtain ⟨r1, r2, r3⟩ := rng_of h
  have hw := widF_le h
  have hlt : rngF k lo hi m < 256 ^ widF k lo hi m := wid_lt _
  obtain ⟨x, hx⟩ : ∃ x : Nat, n - loF k lo = (x : Int) := ⟨(n - loF k lo).toNat, by omega⟩
  have hxr : x ≤ rngF k lo hi m := by omega
  simp only [Tw.run_opt, field_bounds_eq, field_wide_eq h, Option.bind_some, hx, Int.toNat_natCast, List.length_replicate]
  obtain ⟨w, hwe⟩ : ∃ w, w = widF k lo hi m := ⟨_, rfl⟩
  rw [← hwe] at hw hlt ⊢
  rw [dd_pos (by omega), w64_of (n := (x : Int)) (by omega) (by omega), w64_of (n := (w : Int) - 1) (by omega) (by omega)]
  have hL : field_Lay.L10 ((w : Int) - 1) (x : Int) (List.replicate w 0) = some (digs x w) := by
   have := Lp_seq (fun q => (field_Lay.l10 q.1 q.2.1 q.2.2).run) (fun j => ((w : Int) - 1 - (j : Int), (((x / 256 ^ j : Nat) : Int), List.replicate (w - j) (0 : Int) ++ digs x j))) (x := digs x w) w 0 (fun j _ hj => ?_) ?_
   ·simp only [digs, Nat.pow_zero, Nat.div_one, Nat.sub_zero, List.append_nil] at this
    simp at this
    exact this
   ·have hj' : j < w := by omega
    have e1 : (w : Int) - 1 - (j : Int) = ((w - 1 - j : Nat) : Int) := by omega
    have hdl : x / 256 ^ j ≤ x := Nat.div_le_self _ _
    have hlen : (List.replicate (w - j) (0 : Int) ++ digs x j).length = w := by rw [List.length_append, List.length_replicate, digs_len]; omega
    simp only [field_Lay.l10]
    rw [bb_pos (decide_eq_true (by omega)), dd_pos (by rw [hlen]; omega), e1, Int.toNat_natCast, getD_some 0 (show w - 1 - j < _ by rw [hlen]; omega)]
    simp only [Tw.run_opt, Option.bind_some, Tw.run_ret]
    rw [bAnd_255 _ (by omega), w8_of (by omega) (by omega), w64_of (by omega) (by omega), bShr_8]
    have e2 : ((w - 1 - j : Nat) : Int) - 1 = (w : Int) - 1 - ((j + 1 : Nat) : Int) := by omega
    have e3 : x / 256 ^ j / 256 = x / 256 ^ (j + 1) := by rw [Nat.pow_succ, Nat.div_div_eq_div_mul]
    have e4 : (List.replicate (w - j) (0 : Int) ++ digs x j).set (w - 1 - j) ((x / 256 ^ j % 256 : Nat) : Int) = List.replicate (w - (j + 1)) (0 : Int) ++ digs x (j + 1) := by
     rw [show w - j = (w - (j + 1)) + 1 by omega, List.replicate_succ', List.append_assoc, List.set_append_right _ _ (by rw [List.length_replicate]; omega), List.length_replicate, show w - 1 - j - (w - (j + 1)) = 0 by omega]
     rfl
    rw [e2, e3, e4]
   ·simp only [field_Lay.l10, Nat.zero_add]
    rw [bb_neg (decide_eq_false (by omega)), Nat.sub_self]
    rfl
  simp only [Tw.run_opt, hL, Option.bind_some, Tw.run_ret]

def cntF (k lo hi m : Int) : Nat := if k = 4 then 1 else widF k lo hi m
def takF (d k lo hi m : Int) (b : List Int) : Int × (ByteArray × (Int × Int)) :=
 if rgtF d k lo hi m then
  if b.length < cntF k lo hi m then (0, ByteArray.empty, 0, 5)
  else if k = 4 then
   if valB (b.take 1) > m.toNat then (0, ByteArray.empty, 0, 16)
   else if b.length < 1 + valB (b.take 1) then (0, ByteArray.empty, 0, 5)
   else (0, l2b ((b.drop 1).take (valB (b.take 1))), ((1 + valB (b.take 1) : Nat) : Int), 0)
  else if valB (b.take (cntF k lo hi m)) > rngF k lo hi m then (0, ByteArray.empty, 0, 16)
  else (loF k lo + ((valB (b.take (cntF k lo hi m)) : Nat) : Int), ByteArray.empty, ((cntF k lo hi m : Nat) : Int), 0)
 else (0, ByteArray.empty, 0, 2)

theorem valB_take {b : List Int} {i : Nat} (h : i < b.length) : valB (b.take (i + 1)) = 256 * valB (b.take i) + (b.getD i 0).toNat := by rw [take_snoc 0 h, valB_snoc]
theorem valB_le {l : List Int} (h : Bytes l) (hl : l.length ≤ 6) : valB l < 281474976710656 := by
 have h1 := valB_lt h
 have h2 : 256 ^ l.length ≤ 256 ^ 6 := Nat.pow_le_pow_right (by decide) hl
 omega
theorem byte_getD {b : List Int} (hb : Bytes b) (i : Nat) : 0 ≤ b.getD i 0 ∧ b.getD i 0 < 256 := by
 rw [List.getD_eq_getElem?_getD]
 cases e : b[i]? with
 | none => simp
 | some x => exact (hb x (List.mem_of_getElem? e)).u8

theorem field_Take_L10 {b : List Int} (hb : Bytes b) {n : Nat} (hn : n ≤ b.length) (hn6 : n ≤ 6) (y : Int) (t : Bool) (a1 a2 a3 a4 a5 a6 : Int) (a7 : ByteArray) :
  field_Take.L10 b y t 0 (b.take n) ((b.take n).length : Int) 0 a1 a2 a3 a4 a5 a6 a7 = some ((valB (b.take n) : Nat) : Int) := by
 have hl : (b.take n).length = n := by rw [List.length_take]; omega
 have := Lp_seq (fun q => (field_Take.l10 b y t (b.take n) ((b.take n).length : Int) a1 a2 a3 a4 a5 a6 a7 q.1 q.2).run) (fun j => (((valB (b.take j) : Nat) : Int), (j : Int))) (x := ((valB (b.take n) : Nat) : Int)) n 0 (fun j _ hj => ?_) ?_
 ·exact this
 ·have hj' : j < n := by omega
  have hv := valB_le (bytes_take hb j) (by rw [List.length_take]; omega)
  have hc := byte_getD hb j
  have hg : (b.take n)[j]? = some (b.getD j 0) := by rw [List.getElem?_take, if_pos hj', getD_some 0 (by omega)]
  simp only [field_Take.l10]
  rw [bb_pos (decide_eq_true (by rw [hl]; omega)), dd_pos (by omega), Int.toNat_natCast, hg]
  simp only [Tw.run_opt, Option.bind_some, Tw.run_ret]
  rw [w64_of (n := b.getD j 0) (by omega) (by omega), w64_of (n := (j : Int) + 1) (by omega) (by omega), show (8 : Int) = ((8 : Nat) : Int) from rfl, bShl64 _ 8 (by omega) (by omega) (by omega), bOr64_add 8 (by omega) (by omega) (by omega) (by omega) (by omega), valB_take (show j < b.length by omega)]
  congr 3
  omega
 ·simp only [field_Take.l10, Nat.zero_add]
  rw [bb_neg (decide_eq_false (by rw [hl]; omega))]
  rfl
theorem ref12_Take_L9 {b : List Int} (hb : Bytes b) {n : Nat} (hn : n ≤ b.length) (hn6 : n ≤ 6) (a8 a9 a0 a1 a2 a3 a4 a5 a6 : Int) (a7 : ByteArray) :
  ref12_Take.L9 b a8 a9 a0 (n : Int) 0 0 a1 a2 a3 a4 a5 a6 a7 = some ((valB (b.take n) : Nat) : Int) := by
 have := Lp_seq (fun q => (ref12_Take.l9 b a8 a9 a0 (n : Int) a1 a2 a3 a4 a5 a6 a7 q.1 q.2).run) (fun j => (((valB (b.take j) : Nat) : Int), (j : Int))) (x := ((valB (b.take n) : Nat) : Int)) n 0 (fun j _ hj => ?_) ?_
 ·exact this
 ·have hj' : j < n := by omega
  have hv := valB_le (bytes_take hb j) (by rw [List.length_take]; omega)
  have hc := byte_getD hb j
  simp only [ref12_Take.l9]
  rw [bb_pos (decide_eq_true (by omega)), dd_pos (by omega), Int.toNat_natCast, getD_some 0 (show j < b.length by omega)]
  simp only [Tw.run_opt, Option.bind_some, Tw.run_ret]
  rw [w64_of (n := b.getD j 0) (by omega) (by omega), w64_of (n := (j : Int) + 1) (by omega) (by omega), w64_of (n := 256 * ((valB (b.take j) : Nat) : Int)) (by omega) (by omega), w64_of (by omega) (by omega), valB_take (show j < b.length by omega)]
  congr 3
  omega
 ·simp only [ref12_Take.l9, Nat.zero_add]
  rw [bb_neg (decide_eq_false (by omega))]
  rfl

theorem field_Take_eq (d k lo hi m : Int) {b : List Int} (hb : Bytes b) (hl : b.length ≤ 140737488355328) : field_Take.c d k lo hi m b = some (takF d k lo hi m b) := by
 simp only [field_Take.c, field_Take.t, Tw.run_opt, field_Right_eq, Option.bind_some]
 unfold takF
 by_cases h : rgtF d k lo hi m
 rotate_left
 ·rw [decide_eq_false h, if_neg h]; rfl
 obtain ⟨r1, r2, r3⟩ := rng_of h
 have hw := widF_le h
 rw [decide_eq_true h, if_pos h, bb_neg (by rfl)]
 simp only [Tw.run_opt, field_wide_eq h, Option.bind_some, field_bounds_eq]
 by_cases h4 : k = 4
 ·have hc : cntF k lo hi m = 1 := by unfold cntF; rw [if_pos h4]
  have h4' : (k == 4) = true := by simpa using h4
  rw [bb_pos h4', if_pos h4, hc]
  by_cases h5 : b.length < 1
  ·rw [bb_pos (decide_eq_true (by omega)), if_pos h5]; rfl
  rw [bb_neg (decide_eq_false (by omega)), if_neg h5, dd_pos (by omega)]
  have hv := valB_lt (bytes_take hb 1)
  rw [List.length_take, show min 1 b.length = 1 by omega] at hv
  simp only [Tw.run_opt, show Int.toNat (1 : Int) = 1 from rfl, field_Take_L10 hb (show 1 ≤ b.length by omega) (by omega), Option.bind_some]
  obtain ⟨v, hve⟩ : ∃ v, v = valB (b.take 1) := ⟨_, rfl⟩
  rw [← hve] at hv ⊢
  rw [bb_pos h4']
  have hm := h.2
  by_cases h6 : (v : Int) > m
  ·rw [bb_pos (decide_eq_true h6), if_pos (by omega)]; rfl
  rw [bb_neg (decide_eq_false h6), if_neg (by omega), bb_neg (by rw [h4']; rfl), bb_neg (by rw [h4']; rfl), w64_of (n := (b.length : Int) - 1) (by omega) (by omega), w64_of (n := 1 + (v : Int)) (by omega) (by omega)]
  by_cases h7 : b.length < 1 + v
  ·rw [bb_pos (decide_eq_true (by omega)), if_pos h7]; rfl
  rw [bb_neg (decide_eq_false (by omega)), if_neg h7, dd_pos (by omega)]
  rw [show (1 + (v : Int)).toNat = 1 + v by omega, List.drop_take, show 1 + v - 1 = v by omega]
  simp only [Tw.run_ret]
  congr 3
 ·have hc : cntF k lo hi m = widF k lo hi m := by unfold cntF; rw [if_neg h4]
  have h4' : (k == 4) = false := by simpa using h4
  rw [bb_neg h4', if_neg h4, hc]
  by_cases h5 : b.length < widF k lo hi m
  ·rw [bb_pos (decide_eq_true (by omega)), if_pos h5]; rfl
  rw [bb_neg (decide_eq_false (by omega)), if_neg h5, dd_pos (by omega)]
  have hv := valB_le (bytes_take hb (widF k lo hi m)) (by rw [List.length_take]; omega)
  simp only [Tw.run_opt, Int.toNat_natCast, field_Take_L10 hb (show widF k lo hi m ≤ b.length by omega) hw, Option.bind_some, r3]
  obtain ⟨v, hve⟩ : ∃ v, v = valB (b.take (widF k lo hi m)) := ⟨_, rfl⟩
  rw [← hve] at hv ⊢
  rw [bb_neg h4', bb_pos (by rw [h4']; rfl)]
  by_cases h6 : v > rngF k lo hi m
  ·rw [bb_pos (decide_eq_true (by omega)), if_pos h6]; rfl
  rw [bb_neg (decide_eq_false (by omega)), if_neg h6, bb_pos (by rw [h4']; rfl)]
  have hlo : -1099511627776 ≤ loF k lo ∧ loF k lo ≤ 1099511627776 := by
   have := h.2
   unfold loF
   split <;> omega
  rw [Tw.run_ret, w64_of (by omega) (by omega)]

theorem ref12_Take_eq {d k lo hi m : Int} (h : rgtF d k lo hi m) {b : List Int} (hb : Bytes b) (hl : b.length ≤ 140737488355328) : ref12_Take.c d k lo hi m b = some (takF d k lo hi m b) := by
 simp only [ref12_Take.c, ref12_Take.t, Tw.run_opt, ref12_Span_eq, ref12_Size_eq, Option.bind_some]
 unfold takF
 obtain ⟨r1, r2, r3⟩ := rng_of h
 have hw := widF_le h
 rw [if_pos h]
 by_cases h4 : k = 4
 ·have hc : cntF k lo hi m = 1 := by unfold cntF; rw [if_pos h4]
  have hmo : moF k m = m := by unfold moF; rw [if_pos h4]
  have h4' : (k == 4) = true := by simpa using h4
  rw [bb_pos h4', if_pos h4, hc]
  by_cases h5 : b.length < 1
  ·rw [bb_pos (decide_eq_true (by omega)), if_pos h5]; rfl
  rw [bb_neg (decide_eq_false (by omega)), if_neg h5]
  have hv := valB_lt (bytes_take hb 1)
  rw [List.length_take, show min 1 b.length = 1 by omega] at hv
  have hL := ref12_Take_L9 hb (show 1 ≤ b.length by omega) (by omega) (loF k lo) (hiF k hi m) (moF k m) d k lo hi m 0 ByteArray.empty
  simp only [Tw.run_opt, show Int.toNat (1 : Int) = 1 from rfl, show (1 : Int) = ((1 : Nat) : Int) from rfl] at hL ⊢
  simp only [hL, Option.bind_some]
  obtain ⟨v, hve⟩ : ∃ v, v = valB (b.take 1) := ⟨_, rfl⟩
  rw [← hve] at hv ⊢
  rw [bb_pos h4', hmo]
  have hm := h.2
  by_cases h6 : (v : Int) > m
  ·rw [bb_pos (decide_eq_true h6), if_pos (by omega)]; rfl
  rw [bb_neg (decide_eq_false h6), if_neg (by omega), w64_of (n := ((1 : Nat) : Int) + (v : Int)) (by omega) (by omega)]
  by_cases h7 : b.length < 1 + v
  ·rw [bb_pos (decide_eq_true (by omega)), if_pos h7]; rfl
  rw [bb_neg (decide_eq_false (by omega)), if_neg h7, dd_pos (by rw [w64_of (by omega) (by omega)]; omega)]
  rw [show (((1 : Nat) : Int) + (v : Int)).toNat = 1 + v by omega, Int.toNat_natCast, List.drop_take, show 1 + v - 1 = v by omega]
  simp only [Tw.run_ret]
  congr 3
 ·have hc : cntF k lo hi m = widF k lo hi m := by unfold cntF; rw [if_neg h4]
  have hsz : sizF d k lo hi m = ((widF k lo hi m : Nat) : Int) := by unfold sizF; rw [if_pos h, if_neg h4]
  have h4' : (k == 4) = false := by simpa using h4
  rw [bb_neg h4', if_neg h4, hc, hsz]
  by_cases h5 : b.length < widF k lo hi m
  ·rw [bb_pos (decide_eq_true (by omega)), if_pos h5]; rfl
  rw [bb_neg (decide_eq_false (by omega)), if_neg h5]
  have hv := valB_le (bytes_take hb (widF k lo hi m)) (by rw [List.length_take]; omega)
  simp only [Tw.run_opt, ref12_Take_L9 hb (show widF k lo hi m ≤ b.length by omega) hw, Option.bind_some, r3]
  obtain ⟨v, hve⟩ : ∃ v, v = valB (b.take (widF k lo hi m)) := ⟨_, rfl⟩
  rw [← hve] at hv ⊢
  rw [bb_neg h4']
  by_cases h6 : v > rngF k lo hi m
  ·rw [bb_pos (decide_eq_true (by omega)), if_pos h6]; rfl
  rw [bb_neg (decide_eq_false (by omega)), if_neg h6]
  have hlo : -1099511627776 ≤ loF k lo ∧ loF k lo ≤ 1099511627776 := by
   have := h.2
   unfold loF
   split <;> omega
  rw [Tw.run_ret, w64_of (by omega) (by omega)]


def rgtV (x : FieldV) : Prop := rgtF x.id x.kind x.lo x.hi x.most
instance (x : FieldV) : Decidable (rgtV x) := by unfold rgtV; infer_instance
def sizV (x : FieldV) : Int := sizF x.id x.kind x.lo x.hi x.most
def lonL (l : List FieldV) : Int := (l.map sizV).sum
def fldOK (l : List FieldV) : Prop := (∀ x ∈ l, rgtV x) ∧ (l.map (·.id)).Nodup
def fineF (d : Int) (l : List FieldV) : Prop := (0 ≤ d ∧ d ≤ 200) ∧ (1 ≤ l.length ∧ l.length ≤ 8) ∧ fldOK l ∧ lonL l ≤ 64
theorem sizV_le (x : FieldV) : 0 ≤ sizV x ∧ sizV x ≤ 33 := by
 unfold sizV sizF
 split
 ·rename_i h
  have hw := widF_le h
  split
  ·unfold rgtF at h; omega
  ·omega
 ·omega
theorem lonL_le (l : List FieldV) : 0 ≤ lonL l ∧ lonL l ≤ 33 * l.length := by
 induction l with
 | nil => simp [lonL]
 | cons x l ih =>
  have := sizV_le x
  simp only [lonL, List.map_cons, List.sum_cons, List.length_cons] at ih ⊢
  omega
theorem lonL_take {l : List FieldV} {i : Nat} {x : FieldV} (h : l[i]? = some x) : lonL (l.take (i + 1)) = lonL (l.take i) + sizV x := by
 rw [List.take_add_one, h]
 simp [lonL]
theorem schema_Long_eq (d : Int) {l : List FieldV} (hl : l.length ≤ 1000) : schema_Long.c d l = some (lonL l) := by
 have : schema_Long.L3 0 l (l.length : Int) 0 = some (lonL l) := by
  unfold schema_Long.L3
  have := Lp_seq (fun s : Int × Int => (schema_Long.l3 l (l.length : Int) s.1 s.2).run) (fun i : Nat => (lonL (l.take i), (i : Int))) (x := lonL l) l.length 0 (fun i _ hi => by
   have hi' : i < l.length := by omega
   have hx : l[i]? = some l[i] := List.getElem?_eq_getElem hi'
   have b1 := lonL_le (l.take i)
   have b2 := sizV_le l[i]
   have b3 : (l.take i).length ≤ i := List.length_take_le _ _
   simp only [schema_Long.l3]
   rw [bb_pos (decide_eq_true (by omega)), dd_pos (by omega), Int.toNat_natCast, opt_some hx, opt_some (field_Size_eq ..), Tw.run_ret, lonL_take hx]
   rw [show sizF l[i].id l[i].kind l[i].lo l[i].hi l[i].most = sizV l[i] from rfl, w64_of (n := lonL (l.take i) + sizV l[i]) (by omega) (by omega), w64_of (by omega) (by omega)]
   rfl) (by
   simp only [schema_Long.l3, Nat.zero_add, List.take_length]
   rw [bb_neg (decide_eq_false (by omega)), Tw.run_ret])
  simpa [lonL] using this
 simp only [schema_Long.c, schema_Long.t]
 rw [opt_some this, Tw.run_ret]
theorem ref13_Long_eq (d : Int) {l : List FieldV} (hl : l.length ≤ 1000) : ref13_Long.c d l = some (lonL l) := by
 have : ref13_Long.L3 0 0 d l = some (lonL l) := by
  unfold ref13_Long.L3
  have := Lp_seq (fun s : Int × Int => (ref13_Long.l3 d l s.1 s.2).run) (fun i : Nat => (lonL (l.take i), (i : Int))) (x := lonL l) l.length 0 (fun i _ hi => by
   have hi' : i < l.length := by omega
   have hx : l[i]? = some l[i] := List.getElem?_eq_getElem hi'
   have b1 := lonL_le (l.take i)
   have b2 := sizV_le l[i]
   have b3 : (l.take i).length ≤ i := List.length_take_le _ _
   simp only [ref13_Long.l3]
   rw [bb_pos (decide_eq_true (by omega)), dd_pos (by omega), Int.toNat_natCast, opt_some hx, opt_some (ref12_Size_eq ..), Tw.run_ret, lonL_take hx]
   rw [show sizF l[i].id l[i].kind l[i].lo l[i].hi l[i].most = sizV l[i] from rfl, w64_of (n := lonL (l.take i) + sizV l[i]) (by omega) (by omega), w64_of (by omega) (by omega)]
   rfl) (by
   simp only [ref13_Long.l3, Nat.zero_add, List.take_length]
   rw [bb_neg (decide_eq_false (by omega)), Tw.run_ret])
  simpa [lonL] using this
 simp only [ref13_Long.c, ref13_Long.t]
 rw [opt_some this, Tw.run_ret]
theorem fldOK_snoc {l : List FieldV} {i : Nat} {x : FieldV} (h : l[i]? = some x) : fldOK (l.take (i + 1)) ↔ fldOK (l.take i) ∧ rgtV x ∧ ∀ y ∈ l.take i, y.id ≠ x.id := by
 unfold fldOK
 rw [List.take_add_one, h]
 simp only [Option.toList_some, List.mem_append, List.mem_singleton, List.map_append, List.map_cons, List.map_nil, List.nodup_append, List.mem_map]
 constructor
 ·rintro ⟨h1, h2, _, h3⟩
  exact ⟨⟨fun y hy => h1 y (Or.inl hy), h2⟩, h1 x (Or.inr rfl), fun y hy he => h3 _ ⟨y, hy, rfl⟩ _ rfl he⟩
 ·rintro ⟨⟨h1, h2⟩, h3, h4⟩
  refine ⟨fun y hy => ?_, h2, by simp, ?_⟩
  ·rcases hy with hy | rfl
   ·exact h1 y hy
   ·exact h3
  ·rintro _ ⟨y, hy, rfl⟩ _ rfl
   exact h4 y hy

theorem takF_lay {d k lo hi m n : Int} {s : ByteArray} (h : hasF d k lo hi m n s) (more : List Int) :
  takF d k lo hi m (layF k lo hi m n s ++ more) = (n, s, ((layF k lo hi m n s).length : Int), 0) := by
 obtain ⟨hr, h1, h2, h3⟩ := id h
 obtain ⟨r1, r2, r3⟩ := rng_of hr
 unfold takF
 rw [if_pos hr]
 by_cases h4 : k = 4
 ·have hmo : moF k m = m := by unfold moF; rw [if_pos h4]
  have hlo : loF k lo = 0 := by unfold loF; rw [if_neg (by omega)]
  have hhi : hiF k hi m = 0 := by unfold hiF; rw [if_neg (by omega), if_neg (by omega), if_neg (by omega)]
  have hc : cntF k lo hi m = 1 := by unfold cntF; rw [if_pos h4]
  have hl : layF k lo hi m n s = (s.size : Int) :: b2l s := by unfold layF; rw [if_pos h4]
  have hv : valB (((s.size : Int) :: b2l s ++ more).take 1) = s.size := by
   show valB [(s.size : Int)] = _
   simp [valB]
  have hlen : ((s.size : Int) :: b2l s ++ more).length = s.size + 1 + more.length := by
   rw [List.length_append, List.length_cons, b2l_len]
  rw [hc, hl, hv, hlen, if_neg (by omega), if_pos h4, if_neg (by omega), if_neg (by omega)]
  have e : (((s.size : Int) :: b2l s ++ more).drop 1).take s.size = b2l s := by
   show (b2l s ++ more).take s.size = b2l s
   rw [List.take_append_of_le_length (by rw [b2l_len]; exact Nat.le_refl _), List.take_of_length_le (by rw [b2l_len]; exact Nat.le_refl _)]
  rw [e, l2b_b2l, List.length_cons, b2l_len, show n = 0 by omega, Nat.add_comm]
 ·have hmo : moF k m = 0 := by unfold moF; rw [if_neg h4]
  have hc : cntF k lo hi m = widF k lo hi m := by unfold cntF; rw [if_neg h4]
  have hl : layF k lo hi m n s = digs (n - loF k lo).toNat (widF k lo hi m) := by unfold layF; rw [if_neg h4]
  have hs : s = ByteArray.empty := by rw [hmo] at h3; simpa using h3
  have hlt : rngF k lo hi m < 256 ^ widF k lo hi m := wid_lt _
  rw [hc, hl]
  have ht : (digs (n - loF k lo).toNat (widF k lo hi m) ++ more).take (widF k lo hi m) = digs (n - loF k lo).toNat (widF k lo hi m) := by
   rw [List.take_append_of_le_length (by rw [digs_len]; exact Nat.le_refl _), List.take_of_length_le (by rw [digs_len]; exact Nat.le_refl _)]
  have hv : valB (digs (n - loF k lo).toNat (widF k lo hi m)) = (n - loF k lo).toNat := by
   rw [val_digs, Nat.mod_eq_of_lt (by omega)]
  rw [ht, hv, if_neg (by rw [List.length_append, digs_len]; omega), if_neg h4, if_neg (by omega), digs_len, hs, show loF k lo + (((n - loF k lo).toNat : Nat) : Int) = n by omega]

theorem layF_len {d k lo hi m n : Int} {s : ByteArray} (h : hasF d k lo hi m n s) : ((layF k lo hi m n s).length : Int) ≤ sizF d k lo hi m ∧ (layF k lo hi m n s).length ≤ 40 := by
 obtain ⟨hr, h1, h2, h3⟩ := id h
 unfold sizF layF
 rw [if_pos hr]
 by_cases h4 : k = 4
 ·have hmo : moF k m = m := by unfold moF; rw [if_pos h4]
  rw [if_pos h4, if_pos h4, List.length_cons, b2l_len]
  have := hr.2
  omega
 ·rw [if_neg h4, if_neg h4, digs_len]
  have := widF_le hr
  omega

theorem layF_bytes {d k lo hi m n : Int} {s : ByteArray} (h : hasF d k lo hi m n s) : Bytes (layF k lo hi m n s) := by
 obtain ⟨hr, h1, h2, h3⟩ := id h
 unfold layF
 by_cases h4 : k = 4
 ·have hmo : moF k m = m := by unfold moF; rw [if_pos h4]
  rw [if_pos h4]
  have := hr.2
  intro x hx
  rcases List.mem_cons.1 hx with rfl | hx
  ·exact inR_u8 (by omega)
  ·exact b2l_bytes s x hx
 ·rw [if_neg h4]
  exact digs_bytes _ _

theorem lay_takF {d k lo hi m : Int} {b : List Int} (hb : Bytes b) (h : (takF d k lo hi m b).2.2.2 = 0) :
  hasF d k lo hi m (takF d k lo hi m b).1 (takF d k lo hi m b).2.1 ∧ ∃ n : Nat, (takF d k lo hi m b).2.2.1 = (n : Int) ∧ n ≤ b.length ∧ layF k lo hi m (takF d k lo hi m b).1 (takF d k lo hi m b).2.1 = b.take n := by
 unfold takF at h ⊢
 by_cases hr : rgtF d k lo hi m
 rotate_left
 ·rw [if_neg hr] at h; cases h
 obtain ⟨r1, r2, r3⟩ := rng_of hr
 rw [if_pos hr] at h ⊢
 by_cases h5 : b.length < cntF k lo hi m
 ·rw [if_pos h5] at h; cases h
 rw [if_neg h5] at h ⊢
 by_cases h4 : k = 4
 ·have hmo : moF k m = m := by unfold moF; rw [if_pos h4]
  have hlo : loF k lo = 0 := by unfold loF; rw [if_neg (by omega)]
  have hhi : hiF k hi m = 0 := by unfold hiF; rw [if_neg (by omega), if_neg (by omega), if_neg (by omega)]
  have hc : cntF k lo hi m = 1 := by unfold cntF; rw [if_pos h4]
  rw [hc] at h5
  rw [if_pos h4] at h ⊢
  by_cases h6 : valB (b.take 1) > m.toNat
  ·rw [if_pos h6] at h; cases h
  rw [if_neg h6] at h ⊢
  by_cases h7 : b.length < 1 + valB (b.take 1)
  ·rw [if_pos h7] at h; cases h
  rw [if_neg h7] at h ⊢
  have hm := hr.2
  obtain ⟨v, hv⟩ : ∃ v, v = valB (b.take 1) := ⟨_, rfl⟩
  rw [← hv] at h6 h7 ⊢
  have hsz : (l2b ((b.drop 1).take v)).size = v := by rw [l2b_size, List.length_take, List.length_drop]; omega
  refine ⟨⟨hr, by show loF k lo ≤ 0; omega, by show 0 ≤ hiF k hi m; omega, by show ((l2b ((b.drop 1).take v)).size : Int) ≤ _; rw [hsz, hmo]; omega⟩, 1 + v, rfl, by omega, ?_⟩
  show layF k lo hi m 0 (l2b ((b.drop 1).take v)) = b.take (1 + v)
  unfold layF
  rw [if_pos h4, hsz, b2l_l2b (bytes_take (bytes_drop hb 1) _)]
  cases b with
  | nil => simp at h5
  | cons c b =>
   have hc := (hb c (by simp)).u8
   have hvc : v = c.toNat := by rw [hv]; simp [valB]
   rw [Nat.add_comm, List.take_succ_cons, List.drop_succ_cons, List.drop_zero]
   congr 1
   omega
 ·have hmo : moF k m = 0 := by unfold moF; rw [if_neg h4]
  have hc : cntF k lo hi m = widF k lo hi m := by unfold cntF; rw [if_neg h4]
  rw [if_neg h4, hc] at h
  rw [hc] at h5
  rw [if_neg h4, hc]
  by_cases h6 : valB (b.take (widF k lo hi m)) > rngF k lo hi m
  ·rw [if_pos h6] at h; cases h
  rw [if_neg h6] at h ⊢
  refine ⟨⟨hr, by show loF k lo ≤ loF k lo + _; omega, by show loF k lo + _ ≤ hiF k hi m; omega, by show (0 : Int) ≤ _; omega⟩, widF k lo hi m, rfl, by omega, ?_⟩
  show layF k lo hi m (loF k lo + ((valB (b.take (widF k lo hi m)) : Nat) : Int)) ByteArray.empty = _
  unfold layF
  rw [if_neg h4, show (loF k lo + ((valB (b.take (widF k lo hi m)) : Nat) : Int) - loF k lo).toNat = valB (b.take (widF k lo hi m)) by omega]
  exact digs_val _ _ (by rw [List.length_take]; omega) (bytes_take hb _)


open Classical in
instance (d : Int) (l : List FieldV) : Decidable (fineF d l) := Classical.propDecidable _
open Classical in
theorem Lp_all {S : Type} (f : S → Option (S ⊕ (Unit ⊕ Bool))) (st : Nat → S) (p : Nat → Prop) (n : Nat)
  (h : ∀ k, k < n → f (st k) = some (if p k then .inl (st (k + 1)) else .inr (.inr false))) (he : f (st n) = some (.inr (.inl ()))) :
  Lp f (st 0) = some (if ∀ k, k < n → p k then .inl () else .inr false) := by
 have := Lp_find f st (fun k => decide (¬ p k)) (fun _ => (Sum.inr false : Unit ⊕ Bool)) (.inl ()) n 0 (fun k _ hk => by
  rw [h k (by omega)]
  by_cases hp : p k
  ·rw [if_pos hp, if_neg (by simpa using hp)]
  ·rw [if_neg hp, if_pos (by simpa using hp)]) (by rw [Nat.zero_add]; exact he)
 rw [this]
 cases e : (List.range' 0 n).find? fun k => decide (¬ p k) with
 | none =>
  rw [List.find?_eq_none] at e
  rw [if_pos (fun k hk => by
   have := e k (List.mem_range'.2 ⟨k, by omega, by omega⟩)
   simpa using this)]
 | some k =>
  have h1 := List.find?_some e
  have h2 := List.mem_of_find?_eq_some e
  rw [if_neg (fun hh => by
   obtain ⟨i, hi, rfl⟩ := List.mem_range'.1 h2
   exact (of_decide_eq_true h1) (hh _ (by omega)))]

def marks (l : List FieldV) : List Bool := (List.range 256).map fun (j : Nat) => l.any fun y => y.id == (j : Int)
theorem marks_nil : marks [] = List.replicate 256 false := by
 unfold marks
 apply List.ext_getElem?
 intro i
 rw [List.getElem?_map, List.getElem?_replicate]
 by_cases h : i < 256
 ·rw [List.getElem?_range h, if_pos h]; rfl
 ·rw [List.getElem?_eq_none (by simpa using h), if_neg h]; rfl
theorem marks_get (l : List FieldV) {i : Nat} (h : i < 256) : (marks l)[i]? = some (l.any fun y => y.id == (i : Int)) := by
 unfold marks
 rw [List.getElem?_map, List.getElem?_range h]
 rfl
theorem marks_set {l : List FieldV} {x : FieldV} {j : Nat} (hj : j < 256) (hx : x.id = (j : Int)) : (marks l).set j true = marks (l ++ [x]) := by
 apply List.ext_getElem?
 intro i
 by_cases h : i < 256
 ·rw [marks_get _ h, List.getElem?_set]
  by_cases hji : j = i
  ·subst hji
   rw [if_pos rfl, if_pos (by simp [marks, hj])]
   simp [hx]
  ·rw [if_neg hji, marks_get _ h]
   have : (x.id == (i : Int)) = false := by
    rw [beq_eq_false_iff_ne]
    omega
   simp [this]
 ·rw [List.getElem?_eq_none (by simp [marks]; omega), List.getElem?_eq_none (by simp [marks]; omega)]
def nextOK (l : List FieldV) (i : Nat) : Prop := ∀ x, l[i]? = some x → rgtV x ∧ ∀ y ∈ l.take i, y.id ≠ x.id
theorem fldOK_all (l : List FieldV) : (∀ k, k < l.length → nextOK l k) ↔ fldOK l := by
 have key : ∀ n, n ≤ l.length → ((∀ k, k < n → nextOK l k) ↔ fldOK (l.take n)) := by
  intro n
  induction n with
  | zero => intro _; simp [fldOK]
  | succ n ih =>
   intro hn
   have hx : l[n]? = some l[n] := List.getElem?_eq_getElem (by omega)
   rw [fldOK_snoc hx, ← ih (by omega)]
   constructor
   ·intro h
    exact ⟨fun k hk => h k (by omega), h n (by omega) _ hx⟩
   ·rintro ⟨h1, h2⟩ k hk
    by_cases hkn : k = n
    ·subst hkn
     intro x hx'
     rw [hx] at hx'
     cases hx'
     exact h2
    ·exact h1 k (by omega)
 have := key l.length (Nat.le_refl _)
 rwa [List.take_length] at this
open Classical in
theorem schema_Fine_L5 {l : List FieldV} (hl : l.length ≤ 8) : schema_Fine.L5 0 l (l.length : Int) 0 (List.replicate 256 false) = some (if fldOK l then .inl () else .inr false) := by
 unfold schema_Fine.L5
 have := Lp_all (fun s : Int × List Bool => (schema_Fine.l5 0 l (l.length : Int) s.1 s.2).run) (fun i : Nat => ((i : Int), marks (l.take i))) (nextOK l) l.length (fun i hi => by
  have hx : l[i]? = some l[i] := List.getElem?_eq_getElem hi
  have e : w64 ((i : Int) + 1) = ((i + 1 : Nat) : Int) := by rw [w64_of (by omega) (by omega)]; rfl
  simp only [schema_Fine.l5]
  rw [bb_pos (decide_eq_true (by omega)), dd_pos (by omega), Int.toNat_natCast, opt_some hx, opt_some (field_Right_eq ..)]
  by_cases hr : rgtV l[i]
  rotate_left
  ·rw [if_neg (fun h => hr (h _ hx).1), show decide (rgtF l[i].id l[i].kind l[i].lo l[i].hi l[i].most) = false from decide_eq_false hr, bb_pos (by rfl), Tw.run_ret]
  have hid : 0 ≤ l[i].id ∧ l[i].id ≤ 255 := hr.1
  obtain ⟨j, hj⟩ := Int.eq_ofNat_of_zero_le hid.1
  have hm := marks_get (l.take i) (i := j) (by omega)
  rw [show decide (rgtF l[i].id l[i].kind l[i].lo l[i].hi l[i].most) = true from decide_eq_true hr, bb_neg (by rfl), dd_pos (by omega), hj, Int.toNat_natCast, Nat.zero_add, opt_some hm]
  by_cases hs : ((l.take i).any fun y => y.id == (j : Int)) = true
  ·rw [hs, bb_pos (by rfl), Tw.run_ret, if_neg]
   intro h
   rw [List.any_eq_true] at hs
   obtain ⟨y, hy, he⟩ := hs
   exact (h _ hx).2 y hy (by rw [hj]; simpa using he)
  ·have hs' : ((l.take i).any fun y => y.id == (j : Int)) = false := by simpa using hs
   rw [hs', bb_neg (by rfl), dd_pos (by omega), opt_some hm, Tw.run_ret, if_pos, e, marks_set (by omega) hj, List.take_add_one, hx]
   ·rfl
   ·intro x hx'
    rw [hx] at hx'
    cases hx'
    refine ⟨hr, fun y hy he => hs ?_⟩
    rw [List.any_eq_true]
    exact ⟨y, hy, by rw [he, hj]; simp⟩) (by
  simp only [schema_Fine.l5]
  rw [bb_neg (decide_eq_false (by omega)), Tw.run_ret])
 rw [List.take_zero, marks_nil] at this
 refine Eq.trans this ?_
 simp only [fldOK_all l]
theorem schema_Fine_eq (d : Int) (l : List FieldV) : schema_Fine.c d l = some (decide (fineF d l)) := by
 simp only [schema_Fine.c, schema_Fine.t]
 by_cases h1 : d < 0
 ·rw [bb_pos (decide_eq_true h1), Tw.run_ret, decide_eq_false (fun h => by have := h.1; omega)]
 rw [bb_neg (decide_eq_false h1)]
 by_cases h2 : d > 200
 ·rw [bb_pos (decide_eq_true h2), Tw.run_ret, decide_eq_false (fun h => by have := h.1; omega)]
 rw [bb_neg (decide_eq_false h2)]
 by_cases h3 : ((l.length : Nat) : Int) < 1
 ·rw [bb_pos (decide_eq_true h3), Tw.run_ret, decide_eq_false (fun h => by have := h.2.1; omega)]
 rw [bb_neg (decide_eq_false h3)]
 by_cases h4 : ((l.length : Nat) : Int) > 8
 ·rw [bb_pos (decide_eq_true h4), Tw.run_ret, decide_eq_false (fun h => by have := h.2.1; omega)]
 rw [bb_neg (decide_eq_false h4), opt_some (schema_Long_eq d (by omega))]
 by_cases h5 : lonL l > 64
 ·rw [bb_pos (decide_eq_true h5), Tw.run_ret, decide_eq_false (fun h => by have := h.2.2.2; omega)]
 rw [bb_neg (decide_eq_false h5), opt_some (schema_Fine_L5 (by omega))]
 by_cases h6 : fldOK l
 ·rw [if_pos h6, sm_inl, Tw.run_ret, decide_eq_true ⟨by omega, by omega, h6, by omega⟩]
 ·rw [if_neg h6, sm_inr, Tw.run_ret, decide_eq_false (fun h => h6 h.2.2.1)]

theorem ref13_At_eq (d k : Int) {l : List FieldV} (hl : l.length ≤ 1000) : ref13_At.c d l k = some (match (List.range' 0 l.length).find? (fun i => (l.getD i ⟨0, 0, 0, 0, 0⟩).id == k) with | some i => (i : Int) | none => -1) := by
 simp only [ref13_At.c, ref13_At.t]
 have : ref13_At.L2 k 0 d l = some (match (List.range' 0 l.length).find? (fun i => (l.getD i ⟨0, 0, 0, 0, 0⟩).id == k) with | some i => .inr (i : Int) | none => .inl ()) := by
  unfold ref13_At.L2
  refine Lp_find (fun s => (ref13_At.l2 k d l s).run) (fun i : Nat => (i : Int)) (fun i => (l.getD i ⟨0, 0, 0, 0, 0⟩).id == k) (fun i => (Sum.inr (i : Int) : Unit ⊕ Int)) (.inl ()) l.length 0 (fun i _ hi => ?_) ?_
  ·have e : w64 ((i : Int) + 1) = ((i + 1 : Nat) : Int) := by rw [w64_of (by omega) (by omega)]; rfl
   simp only [ref13_At.l2]
   rw [bb_pos (decide_eq_true (by omega)), dd_pos (by omega), Int.toNat_natCast, opt_some (getD_some ⟨0, 0, 0, 0, 0⟩ (by omega : i < l.length))]
   cases hk : ((l.getD i ⟨0, 0, 0, 0, 0⟩).id == k)
   ·rw [bb_neg (by rfl), Tw.run_ret, e]; rfl
   ·rw [bb_pos (by rfl), Tw.run_ret]; rfl
  ·simp only [ref13_At.l2, Nat.zero_add]
   rw [bb_neg (decide_eq_false (by omega)), Tw.run_ret]
 rw [opt_some this]
 cases (List.range' 0 l.length).find? (fun i => (l.getD i ⟨0, 0, 0, 0, 0⟩).id == k) with
 | none => rw [sm_inl, Tw.run_ret]
 | some i => rw [sm_inr, Tw.run_ret]
theorem at_self {l : List FieldV} {i : Nat} {x : FieldV} (hx : l[i]? = some x) : ((match (List.range' 0 l.length).find? (fun i => (l.getD i ⟨0, 0, 0, 0, 0⟩).id == x.id) with | some i => (i : Int) | none => -1) = (i : Int)) ↔ ∀ y ∈ l.take i, y.id ≠ x.id := by
 have hi := (List.getElem?_eq_some_iff.1 hx).1
 have hd : l.getD i ⟨0, 0, 0, 0, 0⟩ = x := by rw [List.getD_eq_getElem?_getD, hx]; rfl
 constructor
 ·intro h y hy he
  obtain ⟨j, hj, hyj⟩ := List.getElem_of_mem hy
  rw [List.length_take] at hj
  have hyj' : l.getD j ⟨0, 0, 0, 0, 0⟩ = y := by
   rw [List.getElem_take] at hyj
   rw [List.getD_eq_getElem?_getD, List.getElem?_eq_getElem (by omega), ← hyj]; rfl
  split at h
  ·rename_i k hk
   have hk' : k = i := by omega
   subst hk'
   have := (List.find?_eq_some_iff_append.1 hk).2
   obtain ⟨pre, post, h1, h2⟩ := this
   have hjm : j ∈ pre := by
    have hm : j ∈ List.range' 0 l.length := List.mem_range'.2 ⟨j, by omega, by omega⟩
    rw [h1] at hm
    rcases List.mem_append.1 hm with hm | hm
    ·exact hm
    ·exfalso
     have hp : List.Pairwise (· < ·) (List.range' 0 l.length) := List.pairwise_lt_range'
     rw [h1] at hp
     rcases List.mem_cons.1 hm with rfl | hm
     ·omega
     ·have := (List.pairwise_append.1 hp).2.1
      have := (List.pairwise_cons.1 this).1 j hm
      omega
   have := h2 j hjm
   rw [hyj', he] at this
   simp at this
  ·omega
 ·intro h
  have : (List.range' 0 l.length).find? (fun i => (l.getD i ⟨0, 0, 0, 0, 0⟩).id == x.id) = some i := by
   rw [List.find?_eq_some_iff_append]
   refine ⟨by rw [hd]; simp, List.range' 0 i, List.range' (i + 1) (l.length - (i + 1)), ?_, ?_⟩
   ·have e1 : l.length = i + ((l.length - (i + 1)) + 1) := by omega
    conv => lhs; rw [e1]
    rw [← List.range'_append, List.range'_succ]
    simp
   ·intro j hj
    obtain ⟨k, hk, rfl⟩ := List.mem_range'.1 hj
    have hmem : l.getD (0 + 1 * k) ⟨0, 0, 0, 0, 0⟩ ∈ l.take i := by
     rw [List.getD_eq_getElem?_getD, List.getElem?_eq_getElem (by omega)]
     rw [List.mem_take_iff_getElem]
     exact ⟨0 + 1 * k, by omega, rfl⟩
    have := h _ hmem
    simpa using this
  rw [this]
open Classical in
theorem ref13_Fine_L4 (d : Int) {l : List FieldV} (hl : l.length ≤ 8) : ref13_Fine.L4 0 d l = some (if fldOK l then .inl () else .inr false) := by
 unfold ref13_Fine.L4
 have := Lp_all (fun s => (ref13_Fine.l4 d l s).run) (fun i : Nat => (i : Int)) (nextOK l) l.length (fun i hi => by
  have hx : l[i]? = some l[i] := List.getElem?_eq_getElem hi
  have e : w64 ((i : Int) + 1) = ((i + 1 : Nat) : Int) := by rw [w64_of (by omega) (by omega)]; rfl
  have hat := at_self hx
  simp only [ref13_Fine.l4]
  rw [bb_pos (decide_eq_true (by omega)), dd_pos (by omega), Int.toNat_natCast, opt_some hx, opt_some (ref12_Right_eq ..)]
  by_cases hr : rgtV l[i]
  rotate_left
  ·rw [if_neg (fun h => hr (h _ hx).1), show decide (rgtF l[i].id l[i].kind l[i].lo l[i].hi l[i].most) = false from decide_eq_false hr, bb_pos (by rfl), Tw.run_ret]
  rw [show decide (rgtF l[i].id l[i].kind l[i].lo l[i].hi l[i].most) = true from decide_eq_true hr, bb_neg (by rfl), dd_pos (by omega), opt_some hx, opt_some (ref13_At_eq d _ (by omega))]
  generalize hqq : (match (List.range' 0 l.length).find? (fun j => (l.getD j ⟨0, 0, 0, 0, 0⟩).id == l[i].id) with | some i => (i : Int) | none => -1) = q at *
  by_cases hq : q = (i : Int)
  ·rw [bb_neg (by simpa using hq), Tw.run_ret, e, if_pos]
   intro x hx'
   rw [hx] at hx'
   cases hx'
   exact ⟨hr, hat.1 hq⟩
  ·rw [bb_pos (by simpa using hq), Tw.run_ret, if_neg]
   exact fun h => hq (hat.2 (h _ hx).2)) (by
  simp only [ref13_Fine.l4]
  rw [bb_neg (decide_eq_false (by omega)), Tw.run_ret])
 refine Eq.trans this ?_
 simp only [fldOK_all l]
theorem ref13_Fine_eq (d : Int) (l : List FieldV) : ref13_Fine.c d l = some (decide (fineF d l)) := by
 simp only [ref13_Fine.c, ref13_Fine.t]
 by_cases h1 : d < 0
 ·rw [bb_pos (decide_eq_true h1), Tw.run_ret, decide_eq_false (fun h => by have := h.1; omega)]
 rw [bb_neg (decide_eq_false h1)]
 by_cases h2 : d > 200
 ·rw [bb_pos (decide_eq_true h2), Tw.run_ret, decide_eq_false (fun h => by have := h.1; omega)]
 rw [bb_neg (decide_eq_false h2)]
 by_cases h3 : ((l.length : Nat) : Int) < 1
 ·rw [bb_pos (decide_eq_true h3), Tw.run_ret, decide_eq_false (fun h => by have := h.2.1; omega)]
 rw [bb_neg (decide_eq_false h3)]
 by_cases h4 : ((l.length : Nat) : Int) > 8
 ·rw [bb_pos (decide_eq_true h4), Tw.run_ret, decide_eq_false (fun h => by have := h.2.1; omega)]
 rw [bb_neg (decide_eq_false h4), opt_some (ref13_Fine_L4 d (by omega))]
 by_cases h6 : fldOK l
 ·rw [if_pos h6, sm_inl, opt_some (ref13_Long_eq d (by omega)), Tw.run_ret]
  congr 1
  rw [decide_eq_decide]
  exact ⟨fun h => ⟨by omega, by omega, h6, h⟩, fun h => h.2.2.2⟩
 ·rw [if_neg h6, sm_inr, Tw.run_ret, decide_eq_false (fun h => h6 h.2.2.1)]

def hasV (x : FieldV) (v : ValueV) : Prop := hasF x.id x.kind x.lo x.hi x.most v.n v.s
def layV (x : FieldV) (v : ValueV) : List Int := layF x.kind x.lo x.hi x.most v.n v.s
def takV (x : FieldV) (b : List Int) : Int × (ByteArray × (Int × Int)) := takF x.id x.kind x.lo x.hi x.most b
def hasL : List FieldV → List ValueV → Prop
 | [], [] => True
 | x :: l, v :: vs => hasV x v ∧ hasL l vs
 | _, _ => False
def layR : List FieldV → List ValueV → List Int
 | x :: l, v :: vs => layV x v ++ layR l vs
 | _, _ => []
theorem hasL_iff : ∀ (l : List FieldV) (vs : List ValueV), hasL l vs ↔ vs.length = l.length ∧ ∀ i, i < vs.length → ∀ x v, l[i]? = some x → vs[i]? = some v → hasV x v
 | [], [] => by simp [hasL]
 | [], v :: vs => by simp [hasL]
 | x :: l, [] => by simp [hasL]
 | x :: l, v :: vs => by
  have ih := hasL_iff l vs
  show hasV x v ∧ hasL l vs ↔ _
  rw [ih]
  constructor
  ·rintro ⟨h1, h2, h3⟩
   refine ⟨by simp [h2], fun i hi x' v' hx hv => ?_⟩
   cases i with
   | zero => cases hx; cases hv; exact h1
   | succ i => exact h3 i (by simpa using hi) x' v' (by simpa using hx) (by simpa using hv)
  ·rintro ⟨h2, h3⟩
   refine ⟨h3 0 (by simp) x v rfl rfl, by simpa using h2, fun i hi x' v' hx hv => h3 (i + 1) (by simpa using hi) x' v' (by simpa using hx) (by simpa using hv)⟩
theorem layR_take : ∀ (l : List FieldV) (vs : List ValueV) (i : Nat) (x : FieldV) (v : ValueV), l[i]? = some x → vs[i]? = some v → layR (l.take (i + 1)) (vs.take (i + 1)) = layR (l.take i) (vs.take i) ++ layV x v
 | [], _, i, x, v, h, _ => by simp at h
 | _ :: _, [], i, x, v, _, h => by simp at h
 | y :: l, w :: vs, 0, x, v, h, g => by
  cases h; cases g
  simp [layR]
 | y :: l, w :: vs, i + 1, x, v, h, g => by
  have := layR_take l vs i x v (by simpa using h) (by simpa using g)
  show layV y w ++ layR (l.take (i + 1)) (vs.take (i + 1)) = (layV y w ++ layR (l.take i) (vs.take i)) ++ layV x v
  rw [this, List.append_assoc]
theorem layR_len : ∀ {l : List FieldV} {vs : List ValueV}, hasL l vs → ((layR l vs).length : Int) ≤ lonL l ∧ (layR l vs).length ≤ 40 * l.length ∧ Bytes (layR l vs)
 | [], [], _ => ⟨by simp [layR, lonL], by simp [layR], fun _ h => nomatch h⟩
 | [], _ :: _, h => nomatch h
 | _ :: _, [], h => nomatch h
 | x :: l, v :: vs, h => by
  obtain ⟨h1, h2⟩ := h
  obtain ⟨g1, g2, g3⟩ := layR_len h2
  obtain ⟨f1, f2⟩ := layF_len h1
  have f3 := layF_bytes h1
  refine ⟨?_, ?_, fun y hy => ?_⟩
  ·show ((layV x v ++ layR l vs).length : Int) ≤ _
   rw [List.length_append]
   have : lonL (x :: l) = sizV x + lonL l := by simp [lonL]
   rw [this]
   have : ((layV x v).length : Int) ≤ sizV x := f1
   omega
  ·show (layV x v ++ layR l vs).length ≤ _
   rw [List.length_append, List.length_cons]
   have : (layV x v).length ≤ 40 := f2
   omega
  ·rcases List.mem_append.1 hy with hy | hy
   ·exact f3 y hy
   ·exact g3 y hy
theorem layR_take_le {l : List FieldV} {vs : List ValueV} (h : hasL l vs) (i : Nat) : (layR (l.take i) (vs.take i)).length ≤ 40 * i := by
 have : hasL (l.take i) (vs.take i) := by
  rw [hasL_iff] at h ⊢
  refine ⟨by rw [List.length_take, List.length_take, h.1], fun j hj x v hx hv => ?_⟩
  rw [List.length_take] at hj
  rw [List.getElem?_take, if_pos (by omega)] at hx hv
  exact h.2 j (by omega) x v hx hv
 have := (layR_len this).2.1
 rw [List.length_take] at this
 omega

def hasR (d : Int) (l : List FieldV) (e : Int) (vs : List ValueV) : Prop := fineF d l ∧ e = d ∧ hasL l vs
open Classical in
instance (d : Int) (l : List FieldV) (e : Int) (vs : List ValueV) : Decidable (hasR d l e vs) := Classical.propDecidable _
open Classical in
instance (l : List FieldV) (vs : List ValueV) : Decidable (hasL l vs) := Classical.propDecidable _
def hasAt (l : List FieldV) (vs : List ValueV) (i : Nat) : Prop := ∀ x v, l[i]? = some x → vs[i]? = some v → hasV x v
open Classical in
theorem hasAll_iff {l : List FieldV} {vs : List ValueV} (h : vs.length = l.length) : (∀ k, k < vs.length → hasAt l vs k) ↔ hasL l vs := by
 rw [hasL_iff]
 exact ⟨fun g => ⟨h, g⟩, fun g => g.2⟩
theorem eqFunc_eq {l : List FieldV} {vs : List ValueV} (h2 : vs.length ≤ 1000) : slices_EqualFunc__api_Value_api_Fieldapi_Valueapi_Field_of_record_Has_1.c vs l = some (decide (hasL l vs)) := by
 simp only [slices_EqualFunc__api_Value_api_Fieldapi_Valueapi_Field_of_record_Has_1.c, slices_EqualFunc__api_Value_api_Fieldapi_Valueapi_Field_of_record_Has_1.t]
 by_cases h : ((vs.length : Nat) : Int) = ((l.length : Nat) : Int)
 rotate_left
 ·rw [bb_pos (by simpa using h), Tw.run_ret, decide_eq_false (fun g => h (by rw [((hasL_iff _ _).1 g).1]))]
 have hlen : vs.length = l.length := by omega
 rw [bb_neg (by simpa using h)]
 have := Lp_all (fun s => (slices_EqualFunc__api_Value_api_Fieldapi_Valueapi_Field_of_record_Has_1.l4 l vs (vs.length : Int) s).run) (fun i : Nat => (i : Int)) (hasAt l vs) vs.length (fun i hi => by
  have hx : l[i]? = some l[i] := List.getElem?_eq_getElem (by omega)
  have hv : vs[i]? = some vs[i] := List.getElem?_eq_getElem hi
  have e : w64 ((i : Int) + 1) = ((i + 1 : Nat) : Int) := by rw [w64_of (by omega) (by omega)]; rfl
  simp only [slices_EqualFunc__api_Value_api_Fieldapi_Valueapi_Field_of_record_Has_1.l4, record_Has_1.c, record_Has_1.t]
  rw [bb_pos (decide_eq_true (by omega)), dd_pos (by omega), Int.toNat_natCast, opt_some hv, dd_pos (by omega), opt_some hx, opt_some (x := decide (hasF l[i].id l[i].kind l[i].lo l[i].hi l[i].most vs[i].n vs[i].s)) (by rw [opt_some (field_Has_eq ..), Tw.run_ret])]
  by_cases hh : hasV l[i] vs[i]
  ·rw [decide_eq_true (show hasF l[i].id l[i].kind l[i].lo l[i].hi l[i].most vs[i].n vs[i].s from hh), bb_neg (by rfl), Tw.run_ret, if_pos, e]
   intro x v h1 h2
   rw [hx] at h1; rw [hv] at h2; cases h1; cases h2
   exact hh
  ·rw [decide_eq_false (show ¬ hasF l[i].id l[i].kind l[i].lo l[i].hi l[i].most vs[i].n vs[i].s from hh), bb_pos (by rfl), Tw.run_ret, if_neg (fun g => hh (g _ _ hx hv))]) (by
  simp only [slices_EqualFunc__api_Value_api_Fieldapi_Valueapi_Field_of_record_Has_1.l4]
  rw [bb_neg (decide_eq_false (by omega)), Tw.run_ret])
 have hL : slices_EqualFunc__api_Value_api_Fieldapi_Valueapi_Field_of_record_Has_1.L4 l vs (vs.length : Int) 0 = _ := this
 rw [opt_some hL]
 by_cases hh : hasL l vs
 ·rw [if_pos ((hasAll_iff hlen).2 hh), sm_inl, Tw.run_ret, decide_eq_true hh]
 ·rw [if_neg (fun g => hh ((hasAll_iff hlen).1 g)), sm_inr, Tw.run_ret, decide_eq_false hh]
theorem record_Has_eq (d e : Int) {l : List FieldV} {vs : List ValueV} (h2 : vs.length ≤ 1000) : record_Has.c d l e vs = some (decide (hasR d l e vs)) := by
 simp only [record_Has.c, record_Has.t]
 rw [opt_some (schema_Fine_eq ..)]
 by_cases hf : fineF d l
 rotate_left
 ·rw [decide_eq_false hf, bb_neg (by rfl), Tw.run_ret, decide_eq_false (fun h => hf h.1)]
 rw [decide_eq_true hf, bb_pos (by rfl)]
 by_cases he : e = d
 rotate_left
 ·rw [bb_neg (by simpa using he), Tw.run_ret, decide_eq_false (fun h => he h.2.1)]
 rw [bb_pos (by simpa using he), opt_some (eqFunc_eq h2), Tw.run_ret]
 congr 1
 rw [decide_eq_decide]
 exact ⟨fun h => ⟨hf, he, h⟩, fun h => h.2.2⟩
open Classical in
instance : DecidableEq ValueV := fun _ _ => Classical.propDecidable _
theorem val_beq (a b : ValueV) : ((a.n == b.n) && (((ByteArray.toList a.s) == (ByteArray.toList b.s)) && true)) = decide (a = b) := by
 rw [ba_beq, Bool.and_true, Bool.eq_iff_iff, Bool.and_eq_true, beq_iff_eq, decide_eq_true_iff, decide_eq_true_iff]
 constructor
 ·rintro ⟨h1, h2⟩
  cases a; cases b
  simp only at h1 h2
  rw [h1, h2]
 ·rintro rfl
  exact ⟨rfl, rfl⟩
def sameAt (a b : List ValueV) (i : Nat) : Prop := a[i]? = b[i]?
theorem sameAll_iff {a b : List ValueV} (h : a.length = b.length) : (∀ k, k < a.length → sameAt a b k) ↔ a = b := by
 constructor
 ·intro g
  apply List.ext_getElem?
  intro i
  by_cases hi : i < a.length
  ·exact g i hi
  ·rw [List.getElem?_eq_none (by omega), List.getElem?_eq_none (by omega)]
 ·rintro rfl k _
  rfl
theorem record_Lay_eq (d e : Int) {l : List FieldV} {vs : List ValueV} (h2 : vs.length ≤ 1000) : record_Lay.c d l e vs = some (if fineF d l then if hasR d l e vs then (0, layR l vs) else (16, []) else (2, [])) := by
 simp only [record_Lay.c, record_Lay.t]
 rw [opt_some (schema_Fine_eq ..)]
 by_cases hf : fineF d l
 rotate_left
 ·rw [decide_eq_false hf, bb_pos (by rfl), Tw.run_ret, if_neg hf]
 rw [decide_eq_true hf, bb_neg (by rfl), if_pos hf, opt_some (record_Has_eq _ _ h2)]
 by_cases hr : hasR d l e vs
 rotate_left
 ·rw [decide_eq_false hr, bb_pos (by rfl), Tw.run_ret, if_neg hr]
 have hl := hf.2.1.2
 have hlon := lonL_le l
 obtain ⟨hlen, hat⟩ := (hasL_iff _ _).1 hr.2.2
 rw [decide_eq_true hr, bb_neg (by rfl), if_pos hr, opt_some (schema_Long_eq d (by omega)), dd_pos (by have := hf.2.2.2; omega)]
 have : record_Lay.L7 vs (vs.length : Int) 0 d l [] = some (.inl (layR l vs)) := by
  unfold record_Lay.L7
  have := Lp_seq (fun s : Int × List Int => (record_Lay.l7 vs (vs.length : Int) d l s.1 s.2).run) (fun i : Nat => ((i : Int), layR (l.take i) (vs.take i))) (x := .inl (layR l vs)) vs.length 0 (fun i _ hi => by
   have hi' : i < vs.length := by omega
   have hx : l[i]? = some l[i] := List.getElem?_eq_getElem (by omega)
   have hv : vs[i]? = some vs[i] := List.getElem?_eq_getElem hi'
   have hh : hasF l[i].id l[i].kind l[i].lo l[i].hi l[i].most vs[i].n vs[i].s := hat i hi' _ _ hx hv
   have e : w64 ((i : Int) + 1) = ((i + 1 : Nat) : Int) := by rw [w64_of (by omega) (by omega)]; rfl
   have b1 := layR_take_le hr.2.2 i
   have b2 := (layF_len hh).2
   simp only [record_Lay.l7]
   rw [bb_pos (decide_eq_true (by omega)), dd_pos (by omega), Int.toNat_natCast, opt_some hv, dd_pos (by omega), opt_some hx, opt_some (field_Lay_eq ..), if_pos hh.1, if_pos hh, bb_neg (by rfl), dd_pos (by simp only; omega), Tw.run_ret, e, layR_take l vs i _ _ hx hv]
   rfl) (by
   simp only [record_Lay.l7, Nat.zero_add]
   rw [bb_neg (decide_eq_false (by omega)), Tw.run_ret, List.take_length, hlen, List.take_length])
  exact this
 rw [show (List.replicate (Int.toNat (0 : Int)) (0 : Int)) = [] from rfl, opt_some this, sm_inl, Tw.run_ret]
abbrev TakX : Type := ((List Int) × (List ValueV)) ⊕ ((List Int) × (Int × (Int × (List ValueV))))
def takR : List FieldV → List Int → List ValueV → TakX
 | [], b, acc => .inl (b, acc)
 | x :: l, b, acc => if (takV x b).2.2.2 ≠ 0 then .inr (b, (takV x b).2.2.2, 0, acc) else takR l (b.drop (takV x b).2.2.1.toNat) (acc ++ [⟨(takV x b).1, (takV x b).2.1⟩])
def tkR (d : Int) (l : List FieldV) (b : List Int) : Int × (Int × (List ValueV)) :=
 match takR l b [] with
 | .inl (b', vs) => if b'.length > 0 then (0, 6, []) else (d, 0, vs)
 | .inr z => (z.2.2.1, z.2.1, [])
theorem takV_cnt {x : FieldV} {b : List Int} (hb : Bytes b) (h : (takV x b).2.2.2 = 0) : 0 ≤ (takV x b).2.2.1 ∧ (takV x b).2.2.1 ≤ (b.length : Int) := by
 obtain ⟨_, n, h1, h2, _⟩ := lay_takF hb h
 unfold takV
 omega
theorem record_Take_L5 (d : Int) {l : List FieldV} (hl : l.length ≤ 1000) : ∀ (n i : Nat) (b : List Int) (acc : List ValueV), i + n = l.length → Bytes b → b.length ≤ 140737488355328 → acc.length = i →
  record_Take.L5 b l (l.length : Int) (i : Int) 0 d acc = some (takR (l.drop i) b acc) := by
 intro n
 induction n with
 | zero =>
  intro i b acc hi hb hbl ha
  unfold record_Take.L5
  refine Lp_end ?_
  simp only [record_Take.l5]
  rw [bb_neg (decide_eq_false (by omega)), Tw.run_ret, List.drop_eq_nil_of_le (by omega)]
  rfl
 | succ n ih =>
  intro i b acc hi hb hbl ha
  have hx : l[i]? = some l[i] := List.getElem?_eq_getElem (by omega)
  have e : w64 ((i : Int) + 1) = ((i + 1 : Nat) : Int) := by rw [w64_of (by omega) (by omega)]; rfl
  rw [List.drop_eq_getElem_cons (by omega)]
  have step : (record_Take.l5 l (l.length : Int) 0 d b (i : Int) acc).run = some (if (takV l[i] b).2.2.2 ≠ 0 then .inr (.inr (b, (takV l[i] b).2.2.2, 0, acc)) else .inl (b.drop (takV l[i] b).2.2.1.toNat, ((i + 1 : Nat) : Int), acc ++ [⟨(takV l[i] b).1, (takV l[i] b).2.1⟩])) := by
   simp only [record_Take.l5]
   rw [bb_pos (decide_eq_true (by omega)), dd_pos (by omega), Int.toNat_natCast, opt_some hx, opt_some (x := takV l[i] b) (field_Take_eq _ _ _ _ _ hb hbl)]
   by_cases h : (takV l[i] b).2.2.2 = 0
   ·have hc := takV_cnt hb h
    rw [bb_neg (by simpa using h), dd_pos (by simp only [List.length_cons, List.length_nil]; omega), dd_pos hc, Tw.run_ret, if_neg (by simpa using h), e]
   ·rw [bb_pos (by simpa using h), Tw.run_ret, if_pos h]
  show record_Take.L5 b l (l.length : Int) (i : Int) 0 d acc = some (if (takV l[i] b).2.2.2 ≠ 0 then .inr (b, (takV l[i] b).2.2.2, 0, acc) else takR (l.drop (i + 1)) (b.drop (takV l[i] b).2.2.1.toNat) (acc ++ [⟨(takV l[i] b).1, (takV l[i] b).2.1⟩]))
  unfold record_Take.L5
  by_cases h : (takV l[i] b).2.2.2 = 0
  ·rw [if_neg (by simpa using h)] at step ⊢
   rw [Lp_next step]
   exact ih (i + 1) _ _ (by omega) (bytes_drop hb _) (by rw [List.length_drop]; omega) (by simp [ha])
  ·rw [if_pos h] at step ⊢
   exact Lp_end step
theorem ref14_Take_L3 (d : Int) {l : List FieldV} (hl : l.length ≤ 1000) (hr : ∀ x ∈ l, rgtV x) : ∀ (n i : Nat) (b : List Int) (acc : List ValueV), i + n = l.length → Bytes b → b.length ≤ 140737488355328 → acc.length = i →
  ref14_Take.L3 b (i : Int) d l 0 d acc = some (takR (l.drop i) b acc) := by
 intro n
 induction n with
 | zero =>
  intro i b acc hi hb hbl ha
  unfold ref14_Take.L3
  refine Lp_end ?_
  simp only [ref14_Take.l3]
  rw [bb_neg (decide_eq_false (by omega)), Tw.run_ret, List.drop_eq_nil_of_le (by omega)]
  rfl
 | succ n ih =>
  intro i b acc hi hb hbl ha
  have hx : l[i]? = some l[i] := List.getElem?_eq_getElem (by omega)
  have e : w64 ((i : Int) + 1) = ((i + 1 : Nat) : Int) := by rw [w64_of (by omega) (by omega)]; rfl
  have hri : rgtF l[i].id l[i].kind l[i].lo l[i].hi l[i].most := hr _ (List.getElem_mem (by omega))
  rw [List.drop_eq_getElem_cons (by omega)]
  have step : (ref14_Take.l3 d l 0 d b (i : Int) acc).run = some (if (takV l[i] b).2.2.2 ≠ 0 then .inr (.inr (b, (takV l[i] b).2.2.2, 0, acc)) else .inl (b.drop (takV l[i] b).2.2.1.toNat, ((i + 1 : Nat) : Int), acc ++ [⟨(takV l[i] b).1, (takV l[i] b).2.1⟩])) := by
   simp only [ref14_Take.l3]
   rw [bb_pos (decide_eq_true (by omega)), dd_pos (by omega), Int.toNat_natCast, opt_some hx, opt_some (x := takV l[i] b) (ref12_Take_eq hri hb hbl)]
   by_cases h : (takV l[i] b).2.2.2 = 0
   ·have hc := takV_cnt hb h
    rw [bb_neg (by simpa using h), dd_pos (by simp only [List.length_cons, List.length_nil]; omega), dd_pos hc, Tw.run_ret, if_neg (by simpa using h), e]
   ·rw [bb_pos (by simpa using h), Tw.run_ret, if_pos h]
  show ref14_Take.L3 b (i : Int) d l 0 d acc = some (if (takV l[i] b).2.2.2 ≠ 0 then .inr (b, (takV l[i] b).2.2.2, 0, acc) else takR (l.drop (i + 1)) (b.drop (takV l[i] b).2.2.1.toNat) (acc ++ [⟨(takV l[i] b).1, (takV l[i] b).2.1⟩]))
  unfold ref14_Take.L3
  by_cases h : (takV l[i] b).2.2.2 = 0
  ·rw [if_neg (by simpa using h)] at step ⊢
   rw [Lp_next step]
   exact ih (i + 1) _ _ (by omega) (bytes_drop hb _) (by rw [List.length_drop]; omega) (by simp [ha])
  ·rw [if_pos h] at step ⊢
   exact Lp_end step
theorem record_Take_eq (d : Int) {l : List FieldV} {b : List Int} (hb : Bytes b) (hbl : b.length ≤ 140737488355328) : record_Take.c d l b = some (if fineF d l then tkR d l b else (0, 2, [])) := by
 simp only [record_Take.c, record_Take.t]
 rw [opt_some (schema_Fine_eq ..)]
 by_cases hf : fineF d l
 rotate_left
 ·rw [decide_eq_false hf, bb_pos (by rfl), Tw.run_ret, if_neg hf]
 have hl := hf.2.1.2
 have := record_Take_L5 d (l := l) (by omega) l.length 0 b [] (by omega) hb hbl rfl
 rw [show ((0 : Nat) : Int) = 0 from rfl] at this
 rw [decide_eq_true hf, bb_neg (by rfl), if_pos hf, opt_some this, List.drop_zero]
 unfold tkR
 cases takR l b [] with
 | inl z =>
  rw [sm_inl]
  by_cases hz : z.1.length > 0
  ·rw [bb_pos (decide_eq_true (by omega)), Tw.run_ret]
   simp only
   rw [if_pos hz]
  ·rw [bb_neg (decide_eq_false (by omega)), Tw.run_ret]
   simp only
   rw [if_neg hz]
 | inr z => rw [sm_inr, Tw.run_ret]
theorem ref14_Take_eq {d : Int} {l : List FieldV} {b : List Int} (hf : fineF d l) (hb : Bytes b) (hbl : b.length ≤ 140737488355328) : ref14_Take.c d l b = some (tkR d l b) := by
 simp only [ref14_Take.c, ref14_Take.t]
 have hl := hf.2.1.2
 have := ref14_Take_L3 d (l := l) (by omega) hf.2.2.1.1 l.length 0 b [] (by omega) hb hbl rfl
 rw [show ((0 : Nat) : Int) = 0 from rfl] at this
 rw [opt_some this, List.drop_zero]
 unfold tkR
 cases takR l b [] with
 | inl z =>
  rw [sm_inl]
  by_cases hz : z.1.length > 0
  ·rw [bb_pos (decide_eq_true (by omega)), Tw.run_ret]
   simp only
   rw [if_pos hz]
  ·rw [bb_neg (decide_eq_false (by omega)), Tw.run_ret]
   simp only
   rw [if_neg hz]
 | inr z => rw [sm_inr, Tw.run_ret]
theorem takR_lay : ∀ {l : List FieldV} {vs : List ValueV} (more : List Int) (acc : List ValueV), hasL l vs → takR l (layR l vs ++ more) acc = .inl (more, acc ++ vs)
 | [], [], more, acc, _ => by simp [takR, layR]
 | [], _ :: _, _, _, h => nomatch h
 | _ :: _, [], _, _, h => nomatch h
 | x :: l, v :: vs, more, acc, h => by
  obtain ⟨h1, h2⟩ := h
  have ht := takF_lay h1 (layR l vs ++ more)
  have e : layR (x :: l) (v :: vs) ++ more = layV x v ++ (layR l vs ++ more) := by simp [layR]
  have hT : takV x (layV x v ++ (layR l vs ++ more)) = (v.n, v.s, ((layV x v).length : Int), 0) := ht
  rw [e, takR, hT, if_neg (by simp), Int.toNat_natCast, List.drop_left, takR_lay more _ h2]
  simp
theorem lay_takR : ∀ {l : List FieldV} {b : List Int} (acc : List ValueV), Bytes b → match takR l b acc with
  | .inl z => ∃ vs, z.2 = acc ++ vs ∧ hasL l vs ∧ layR l vs ++ z.1 = b
  | .inr z => z.2.1 ≠ 0
 | [], b, acc, _ => ⟨[], by simp, trivial, by simp [layR]⟩
 | x :: l, b, acc, hb => by
  rw [takR]
  by_cases h : (takV x b).2.2.2 = 0
  ·rw [if_neg (by simpa using h)]
   obtain ⟨g1, n, g2, g3, g4⟩ := lay_takF hb h
   have g2' : (takV x b).2.2.1 = (n : Int) := g2
   have ih := lay_takR (l := l) (acc ++ [⟨(takV x b).1, (takV x b).2.1⟩]) (bytes_drop hb (takV x b).2.2.1.toNat)
   rw [g2', Int.toNat_natCast] at ih ⊢
   cases e : takR l (b.drop n) (acc ++ [⟨(takV x b).1, (takV x b).2.1⟩]) with
   | inl z =>
    rw [e] at ih
    obtain ⟨vs, i1, i2, i3⟩ := ih
    refine ⟨⟨(takV x b).1, (takV x b).2.1⟩ :: vs, by rw [i1]; simp, ⟨g1, i2⟩, ?_⟩
    show layV x _ ++ layR l vs ++ z.1 = b
    rw [List.append_assoc, i3]
    have g4' : layV x ⟨(takV x b).1, (takV x b).2.1⟩ = b.take n := g4
    rw [g4', List.take_append_drop]
   | inr z =>
    rw [e] at ih
    exact ih
  ·rw [if_pos h]
   exact h

theorem tkR_back {d : Int} {l : List FieldV} {b : List Int} (hf : fineF d l) (hb : Bytes b) (h : (tkR d l b).2.1 = 0) : ∃ vs, tkR d l b = (d, 0, vs) ∧ hasL l vs ∧ layR l vs = b := by
 have hl := lay_takR (l := l) [] hb
 unfold tkR at h ⊢
 cases e : takR l b [] with
 | inl z =>
  rw [e] at h hl
  simp only at h hl ⊢
  obtain ⟨vs, h1, h2, h3⟩ := hl
  by_cases hz : z.1.length > 0
  ·rw [if_pos hz] at h
   cases h
  ·rw [if_neg hz]
   have : z.1 = [] := List.eq_nil_of_length_eq_zero (by omega)
   rw [this, List.append_nil] at h3
   exact ⟨vs, by rw [h1]; rfl, h2, h3⟩
 | inr z =>
  rw [e] at h hl
  exact absurd h hl
theorem tkR_len {d : Int} {l : List FieldV} {b : List Int} (hf : fineF d l) (hb : Bytes b) : (tkR d l b).2.2.length ≤ 1000 := by
 by_cases h : (tkR d l b).2.1 = 0
 ·obtain ⟨vs, h1, h2, _⟩ := tkR_back hf hb h
  rw [h1]
  have := ((hasL_iff _ _).1 h2).1
  have := hf.2.1.2
  simp only
  omega
 ·have : (tkR d l b).2.2 = [] := by
   unfold tkR at h ⊢
   cases e : takR l b [] with
   | inl z =>
    rw [e] at h
    simp only at h ⊢
    by_cases hz : z.1.length > 0
    ·rw [if_pos hz]
    ·rw [if_neg hz] at h
     simp at h
   | inr z => rfl
  rw [this]
  simp


def rightS (v : Int) (fs : List FormV) : Prop := (1 ≤ v ∧ v ≤ 65535) ∧ fs.length ≤ 8 ∧ (∀ x ∈ fs, fineF x.id x.fields) ∧ fs.Pairwise fun x y => x.id < y.id
def formOK (fs : List FormV) (k : Nat) : Prop := ∀ x, fs[k]? = some x → fineF x.id x.fields ∧ ∀ y, 0 < k → fs[k - 1]? = some y → y.id < x.id
theorem forms_sort {l : List FormV} (h : ∀ i (hi : i + 1 < l.length), l[i].id < l[i + 1].id) : l.Pairwise fun x y => x.id < y.id := by
 have key : ∀ (d i : Nat) (hi : i + 1 + d < l.length), l[i].id < l[i + 1 + d].id := by
  intro d
  induction d with
  | zero => intro i hi; exact h i hi
  | succ d ih =>
   intro i hi
   have h1 := ih i (by omega)
   have h2 := h (i + 1 + d) (by omega)
   have e : l[i + 1 + d + 1] = l[i + 1 + (d + 1)] := rfl
   rw [e] at h2
   omega
 rw [List.pairwise_iff_getElem]
 intro i j hi hj hij
 have := key (j - i - 1) i (by omega)
 have e : l[i + 1 + (j - i - 1)] = l[j] := by congr 1; omega
 rw [e] at this
 exact this
open Classical in
theorem ref13_Right_eq (v : Int) (fs : List FormV) : ∃ b, ref13_Right.c v fs = some b ∧ (b = true ↔ rightS v fs) := by
 simp only [ref13_Right.c, ref13_Right.t]
 by_cases h1 : v < 1
 ·exact ⟨false, by rw [bb_pos (decide_eq_true h1), Tw.run_ret], (fun h => nomatch h), fun h => absurd h.1.1 (by omega)⟩
 rw [bb_neg (decide_eq_false h1)]
 by_cases h2 : v > 65535
 ·exact ⟨false, by rw [bb_pos (decide_eq_true h2), Tw.run_ret], (fun h => nomatch h), fun h => absurd h.1.2 (by omega)⟩
 rw [bb_neg (decide_eq_false h2)]
 by_cases h3 : ((fs.length : Nat) : Int) > 8
 ·exact ⟨false, by rw [bb_pos (decide_eq_true h3), Tw.run_ret], (fun h => nomatch h), fun h => absurd h.2.1 (by omega)⟩
 rw [bb_neg (decide_eq_false h3)]
 have hL := Lp_all (fun s => (ref13_Right.l4 v fs s).run) (fun i : Nat => (i : Int)) (formOK fs) fs.length (fun i hi => by
  have hx : fs[i]? = some fs[i] := List.getElem?_eq_getElem hi
  have e : w64 ((i : Int) + 1) = ((i + 1 : Nat) : Int) := by rw [w64_of (by omega) (by omega)]; rfl
  simp only [ref13_Right.l4]
  rw [bb_pos (decide_eq_true (by omega)), dd_pos (by omega), Int.toNat_natCast, opt_some hx, opt_some (ref13_Fine_eq ..)]
  by_cases hf : fineF fs[i].id fs[i].fields
  rotate_left
  ·rw [decide_eq_false hf, bb_pos (by rfl), Tw.run_ret, if_neg (fun h => hf (h _ hx).1)]
  rw [decide_eq_true hf, bb_neg (by rfl)]
  by_cases h0 : i = 0
  ·rw [bb_neg (decide_eq_false (by omega)), Tw.run_ret, e, if_pos]
   intro x hx'
   rw [hx] at hx'
   cases hx'
   exact ⟨hf, fun y h => absurd h (by omega)⟩
  ·have e1 : w64 ((i : Int) - 1) = ((i - 1 : Nat) : Int) := by rw [w64_of (by omega) (by omega)]; omega
   have hy : fs[i - 1]? = some fs[i - 1] := List.getElem?_eq_getElem (by omega)
   rw [bb_pos (decide_eq_true (by omega)), e1, dd_pos (by omega), Int.toNat_natCast, opt_some hy, dd_pos (by omega), opt_some hx]
   by_cases g : fs[i - 1].id ≥ fs[i].id
   ·rw [bb_pos (decide_eq_true g), Tw.run_ret, if_neg]
    intro h
    have := (h _ hx).2 _ (by omega) hy
    omega
   ·rw [bb_neg (decide_eq_false g), Tw.run_ret, e, if_pos]
    intro x hx'
    rw [hx] at hx'
    cases hx'
    refine ⟨hf, fun y _ hy' => ?_⟩
    rw [hy] at hy'
    cases hy'
    omega) (by
  simp only [ref13_Right.l4]
  rw [bb_neg (decide_eq_false (by omega)), Tw.run_ret])
 have hL : ref13_Right.L4 0 v fs = _ := hL
 rw [opt_some hL]
 by_cases hh : ∀ k, k < fs.length → formOK fs k
 ·rw [if_pos hh, sm_inl, Tw.run_ret]
  refine ⟨true, rfl, fun _ => ⟨by omega, by omega, fun x hx => ?_, forms_sort fun i hi => ?_⟩, fun _ => rfl⟩
  ·obtain ⟨i, hi, rfl⟩ := List.getElem_of_mem hx
   exact (hh i hi _ (List.getElem?_eq_getElem hi)).1
  ·exact (hh (i + 1) hi _ (List.getElem?_eq_getElem hi)).2 _ (by omega) (List.getElem?_eq_getElem (by omega))
 ·rw [if_neg hh, sm_inr, Tw.run_ret]
  refine ⟨false, rfl, (fun h => nomatch h), fun h => absurd ?_ hh⟩
  intro k hk x hx
  rw [List.getElem?_eq_getElem hk] at hx
  cases hx
  refine ⟨h.2.2.1 _ (List.getElem_mem hk), fun y hk0 hy => ?_⟩
  rw [List.getElem?_eq_getElem (by omega)] at hy
  cases hy
  exact List.pairwise_iff_getElem.1 h.2.2.2 (k - 1) k (by omega) hk (by omega)

def frm (fs : List FormV) (form : Int) : Option FormV := fs.find? fun x => x.id == form
theorem frm_some {fs : List FormV} {form : Int} {x : FormV} (h : frm fs form = some x) : x.id = form ∧ x ∈ fs := ⟨by simpa using List.find?_some h, List.mem_of_find?_eq_some h⟩
theorem schema_Form_eq (v : Int) {fs : List FormV} (hl : fs.length ≤ 1000) (form : Int) : schema_Form.c v fs form = some (pickO (frm fs form) (fun x => (x.id, (x.fields, true))) (0, ([], false))) := by
 have hL : schema_Form.L2 form fs (fs.length : Int) 0 0 = some (pickO (frm fs form) (fun x => .inr (true, (x.id, x.fields))) (.inl ())) := by
  refine Lp_list (fun s => (schema_Form.l2 form fs (fs.length : Int) 0 s).run) (fun i => (i : Int)) fs (fun x => x.id == form) (fun x => .inr (true, (x.id, x.fields))) (.inl ()) (fun i a ha => ?_) ?_
  ·have hi := (List.getElem?_eq_some_iff.1 ha).1
   have e1 : w64 ((i : Int) + 1) = ((i + 1 : Nat) : Int) := by rw [w64_of (by omega) (by omega)]; omega
   simp only [schema_Form.l2]
   rw [bb_pos (decide_eq_true (by omega)), dd_pos (by omega), Int.toNat_natCast, opt_some ha]
   by_cases g : (a.id == form) = true
   ·rw [bb_pos g, if_pos g, Tw.run_ret]
   ·rw [bb_neg (by simpa using g), if_neg g, Tw.run_ret, e1]
  ·simp only [schema_Form.l2]
   rw [bb_neg (decide_eq_false (by omega)), Tw.run_ret]
 simp only [schema_Form.c, schema_Form.t]
 rw [opt_some hL]
 cases frm fs form with
 | none => simp only [pickO, sm_inl, Tw.run_ret]
 | some x => simp only [pickO, sm_inr, Tw.run_ret]

def badN (form id : Int) : Prop := form < 0 ∨ form > 200 ∨ id < 0 ∨ id > 65535
instance (form id : Int) : Decidable (badN form id) := by unfold badN; infer_instance
def keyN (form id : Int) : Int := form * 65536 + id
theorem keyN_u32 {form id : Int} (h : ¬ badN form id) : InR .u32 (keyN form id) := inR_u32 (by unfold badN at h; unfold keyN; omega)
theorem mainR_bad {form id : Int} (h : badN form id) : mainR form id = (0, 2) := by unfold mainR; exact if_pos h
theorem mainR_good {form id : Int} (h : ¬ badN form id) : mainR form id = (keyN form id, 0) := by unfold mainR; exact if_neg h

def askR (fs : List FormV) (form id : Int) : Int × (List FieldV × (Int × Int)) :=
 match frm fs form with
 | none => (0, ([], (0, 2)))
 | some x => if badN form id then (x.id, (x.fields, (0, 2))) else (x.id, (x.fields, (keyN form id, 0)))
theorem store_asked_eq (v : Int) {fs : List FormV} (hl : fs.length ≤ 1000) (form id : Int) : store_asked.c v fs form id = some (askR fs form id) := by
 simp only [store_asked.c, store_asked.t]
 rw [opt_some (schema_Form_eq v hl form), opt_some (item_Main_eq form id)]
 unfold askR
 cases frm fs form with
 | none => simp only [pickO]; rw [bb_pos (by rfl), Tw.run_ret]
 | some x =>
  simp only [pickO]
  rw [bb_neg (by rfl)]
  by_cases h : badN form id
  ·rw [mainR_bad h, bb_pos (by rfl), Tw.run_ret, if_pos h]
  ·rw [mainR_good h, bb_neg (by rfl), Tw.run_ret, if_neg h]

theorem cut_has (l : List ItemV) (a : Int) : decide ((cutI l a).length < l.length) = (findR l a).2 := by
 unfold cutI findR
 cases h : l.find? fun x => x.key == a with
 | none =>
  rw [List.find?_eq_none] at h
  refine decide_eq_false fun g => ?_
  obtain ⟨x, h1, h2⟩ := List.length_filter_lt_length_iff_exists.1 g
  exact h x h1 (by simpa using h2)
 | some x =>
  refine decide_eq_true (List.length_filter_lt_length_iff_exists.2 ⟨x, List.mem_of_find?_eq_some h, ?_⟩)
  have := List.find?_some h
  simpa using this
theorem find_mid {A L B : List ItemV} {a : Int} (hA : ∀ x ∈ A, x.key < a) (hB : ∀ x ∈ B, a < x.key) : findR (A ++ L ++ B) a = findR L a := by
 unfold findR
 have e1 : (A.find? fun x => x.key == a) = none := List.find?_eq_none.2 fun x hx => by have := hA x hx; simp; omega
 have e2 : (B.find? fun x => x.key == a) = none := List.find?_eq_none.2 fun x hx => by have := hB x hx; simp; omega
 rw [List.find?_append, List.find?_append, e1, e2]
 simp
theorem Ft.find {R n : Nat} {ls : List (List ItemV)} (h : Ft R n ls) (key : Int) {k : Nat} (hk : k < ls.length) (he : k = atN ls key ls.length) : findR ls[k] key = findR ls.flatten key := by
 obtain ⟨h1, h2, h3⟩ := h.leaves hk he
 rw [h3, find_mid h1 h2]
theorem find_in {l : List ItemV} {k : Int} (h : (findR l k).2 = true) : ∃ x ∈ l, x.key = k ∧ (findR l k).1 = x.data := by
 unfold findR at h ⊢
 cases e : l.find? fun x => x.key == k with
 | none => rw [e] at h; cases h
 | some x => exact ⟨x, List.mem_of_find?_eq_some e, by simpa using List.find?_some e, rfl⟩

open Classical in
def readR (x : FormV) (b : ByteArray) : Int × (Int × List ValueV) :=
 if (if fineF x.id x.fields then tkR x.id x.fields (b2l b) else (0, 2, [])).2.1 = 0 then ((if fineF x.id x.fields then tkR x.id x.fields (b2l b) else (0, 2, [])).1, 0, (if fineF x.id x.fields then tkR x.id x.fields (b2l b) else (0, 2, [])).2.2) else (0, 12, [])
theorem store_read_eq (x : FormV) {b : ByteArray} (hb : b.size ≤ 140737488355328) : store_read.c x.id x.fields b = some (readR x b) := by
 simp only [store_read.c, store_read.t]
 rw [opt_some (record_Take_eq _ (b2l_bytes b) (by rw [b2l_len]; exact hb))]
 unfold readR
 generalize (if fineF x.id x.fields then tkR x.id x.fields (b2l b) else (0, 2, [])) = r
 by_cases h : r.2.1 = 0
 ·rw [bb_neg (by simpa using h), if_pos h, Tw.run_ret]
 ·rw [bb_pos (by simpa using h), if_neg h, Tw.run_ret]
def getR (fs : List FormV) (l : List ItemV) (form id : Int) : Int × (Int × List ValueV) :=
 match frm fs form with
 | none => (0, 2, [])
 | some x => if badN form id then (0, 2, []) else if (findR l (keyN form id)).2 then readR x (findR l (keyN form id)).1 else (0, 8, [])
theorem store_Get_eq (v : Int) {fs : List FormV} (hl : fs.length ≤ 1000) {R n : Nat} {ls : List (List ItemV)} (h : Ft R n ls) (hn : n ≤ 1000) (form id : Int) : store_Get.c v fs ls form id = some (getR fs ls.flatten form id) := by
 have hc := h.pk.count
 simp only [store_Get.c, store_Get.t]
 rw [opt_some (store_asked_eq v hl form id)]
 unfold askR getR
 cases hf : frm fs form with
 | none => simp only []; rw [bb_pos (by rfl), Tw.run_ret]
 | some x =>
  simp only []
  by_cases hb : badN form id
  ·rw [if_pos hb, if_pos hb, bb_pos (by rfl), Tw.run_ret]
  rw [if_neg hb, if_neg hb, bb_neg (by rfl)]
  rw [opt_some (pack_At_eq (show ls.length ≤ 1000 by omega) _)]
  by_cases h0 : ls.length = 0
  ·have : ls = [] := List.eq_nil_of_length_eq_zero h0
   subst this
   rw [if_pos h0, bb_pos (by rfl), Tw.run_ret]
   rfl
  rw [if_neg h0]
  have hk : atN ls (keyN form id) ls.length < ls.length := by have := atN_le ls (keyN form id) ls.length; omega
  have hfd := h.find (keyN form id) hk rfl
  generalize atN ls (keyN form id) ls.length = k at *
  have hm := List.getElem_mem hk
  have hlf := h.pk.leaf hm
  rw [bb_neg (decide_eq_false (by omega)), dd_pos (by omega), Int.toNat_natCast, opt_some (List.getElem?_eq_getElem hk), opt_some (item_Find_eq (l := ls[k]) (by omega) (keyN form id)), hfd]
  cases hq : (findR ls.flatten (keyN form id)).2 with
  | false => rw [bb_pos (by rfl), Tw.run_ret]; rfl
  | true =>
   obtain ⟨y, hy, _, hyd⟩ := find_in hq
   obtain ⟨l, hl1, hl2⟩ := List.mem_flatten.1 hy
   have hsz := (h.pk.gd _ hl1 y hl2).2
   rw [bb_neg (by rfl), opt_some (store_read_eq x (by rw [hyd]; omega)), Tw.run_ret, if_pos rfl]

abbrev PutX : Type := Int × (Int × (Int × (Int × List (List ItemV))))
def layD (x : FormV) (vs : List ValueV) : ByteArray := l2b (layR x.fields vs)
theorem layD_size {x : FormV} {form : Int} {vs : List ValueV} (h : hasR x.id x.fields form vs) : (layD x vs).size ≤ 64 := by
 have h1 := (layR_len h.2.2).1
 have h2 := h.1.2.2.2
 unfold layD
 rw [l2b_size]
 omega
def delR (fs : List FormV) (ls : List (List ItemV)) (form id : Int) : PutX :=
 match frm fs form with
 | none => (0, 0, 0, 2, [])
 | some x => if badN form id then (0, 0, 0, 2, []) else if (cutS 62 ls (keyN form id)).2.2.2.1 then ((cutS 62 ls (keyN form id)).1, (cutS 62 ls (keyN form id)).2.1, (cutS 62 ls (keyN form id)).2.2.1, 0, (cutS 62 ls (keyN form id)).2.2.2.2) else (0, 0, 0, 8, [])
theorem store_Delete_eq (v : Int) {fs : List FormV} (hl : fs.length ≤ 1000) {n : Nat} {ls : List (List ItemV)} (h : Pk n ls) (hn : n ≤ 300) (form id : Int) : store_Delete.c v fs ls 62 form id = some (delR fs ls form id) := by
 simp only [store_Delete.c, store_Delete.t]
 rw [opt_some (store_asked_eq v hl form id)]
 unfold askR delR
 cases hf : frm fs form with
 | none => simp only []; rw [bb_pos (by rfl), Tw.run_ret]
 | some x =>
  simp only []
  by_cases hb : badN form id
  ·rw [if_pos hb, if_pos hb, bb_pos (by rfl), Tw.run_ret]
  have hp : pack_Cut.c ls 62 (keyN form id) = some (cutS 62 ls (keyN form id)) := pack_Cut_eq h hn (keyN form id) (show 62 ≤ 1022 by omega)
  rw [if_neg hb, if_neg hb, bb_neg (by rfl), opt_some hp]
  generalize cutS 62 ls (keyN form id) = r
  cases hr : r.2.2.2.1 with
  | true => rw [bb_neg (by rfl), Tw.run_ret, if_pos rfl]
  | false => rw [bb_pos (by rfl), Tw.run_ret]; rfl


theorem readR_lay {x : FormV} {form : Int} {vs : List ValueV} (h : hasR x.id x.fields form vs) : readR x (layD x vs) = (form, 0, vs) := by
 have hb := (layR_len h.2.2).2.2
 have ht := takR_lay (l := x.fields) (vs := vs) [] [] h.2.2
 rw [List.append_nil, List.nil_append] at ht
 have e : tkR x.id x.fields (b2l (layD x vs)) = (x.id, 0, vs) := by
  unfold layD
  rw [b2l_l2b hb]
  unfold tkR
  rw [ht]
  rfl
 unfold readR
 rw [if_pos h.1, e, if_pos rfl, h.2.1]

theorem same14_eq (d e : Int) {a b : List ValueV} (ha : a.length ≤ 140737488355328) : ref14_Same.c d a e b = some (decide (d = e ∧ a = b)) := by
 simp only [ref14_Same.c, ref14_Same.t]
 by_cases h0 : d = e
 rotate_left
 ·rw [bb_pos (by simpa using h0), Tw.run_ret, decide_eq_false (fun g => h0 g.1)]
 rw [bb_neg (by simpa using h0)]
 by_cases h : ((a.length : Nat) : Int) = ((b.length : Nat) : Int)
 rotate_left
 ·rw [bb_pos (by simpa using h), Tw.run_ret, decide_eq_false (fun g => h (by rw [g.2]))]
 have hlen : a.length = b.length := by omega
 rw [bb_neg (by simpa using h)]
 have := Lp_all (fun s => (ref14_Same.l4 d a e b s).run) (fun i : Nat => (i : Int)) (sameAt a b) a.length (fun i hi => by
  have hx : a[i]? = some a[i] := List.getElem?_eq_getElem (by omega)
  have hv : b[i]? = some b[i] := List.getElem?_eq_getElem (by omega)
  have e : w64 ((i : Int) + 1) = ((i + 1 : Nat) : Int) := by rw [w64_of (by omega) (by omega)]; rfl
  simp only [ref14_Same.l4]
  rw [bb_pos (decide_eq_true (by omega)), dd_pos (by omega), Int.toNat_natCast, opt_some hx, dd_pos (by omega), opt_some hv, val_beq]
  by_cases hh : a[i] = b[i]
  ·rw [decide_eq_true hh, bb_neg (by rfl), Tw.run_ret, if_pos (by unfold sameAt; rw [hx, hv, hh]), e]
  ·rw [decide_eq_false hh, bb_pos (by rfl), Tw.run_ret, if_neg (fun g => hh (by unfold sameAt at g; rw [hx, hv] at g; exact Option.some.inj g))]) (by
  simp only [ref14_Same.l4]
  rw [bb_neg (decide_eq_false (by omega)), Tw.run_ret])
 have hL : ref14_Same.L4 0 d a e b = _ := this
 rw [opt_some hL]
 by_cases hh : a = b
 ·rw [if_pos ((sameAll_iff hlen).2 hh), sm_inl, Tw.run_ret, decide_eq_true ⟨h0, hh⟩]
 ·rw [if_neg (fun g => hh ((sameAll_iff hlen).1 g)), sm_inr, Tw.run_ret, decide_eq_false (fun g => hh g.2)]

theorem great28_eq (v : Int) (fs : List FormV) {l : List Act28} (hl : l.length * 48 ≤ 140737488351232) : ∃ b, law28_great.c v fs l = some b ∧ (b = false → rightS v fs ∧ l.length ≤ 80 ∧ ∀ x ∈ l, x.vals.length ≤ 40) := by
 have hL : ∃ r, law28_great.L2 l 0 v fs = some r ∧ (∀ u, r = .inl u → ∀ i, i < l.length → i < 81 → ∀ x, l[i]? = some x → x.vals.length ≤ 40) ∧ (∀ b, r = .inr b → b = true) := by
  unfold law28_great.L2
  refine Lp_inv _ (fun s : Int => 0 ≤ s ∧ s ≤ 81 ∧ s ≤ l.length ∧ ∀ i : Nat, (i : Int) < s → ∀ x, l[i]? = some x → x.vals.length ≤ 40) (fun s : Int => 81 - s.toNat) _ (fun s hs => ?_) 81 0 (by decide) ⟨by decide, by decide, by omega, fun i hi => by omega⟩
  obtain ⟨h0, h1, h2, h3⟩ := hs
  simp only [law28_great.l2]
  by_cases ha : s < (l.length : Int)
  ·rw [bb_pos (decide_eq_true ha)]
   by_cases hb : s < 81
   ·rw [bb_pos (decide_eq_true hb), dd_pos h0]
    have hs' : l[s.toNat]? = some l[s.toNat] := List.getElem?_eq_getElem (by omega)
    rw [opt_some hs']
    by_cases hc : ((l[s.toNat].vals.length : Nat) : Int) > 40
    ·exact Or.inr ⟨.inr true, by rw [bb_pos (decide_eq_true hc), Tw.run_ret], (fun u hu => by cases hu), (fun b hb => by injection hb with hb; exact hb.symm)⟩
    ·refine Or.inl ⟨s + 1, by rw [bb_neg (decide_eq_false hc), Tw.run_ret, w64_of (by omega) (by omega)], ⟨by omega, by omega, by omega, fun i hi x hx => ?_⟩, by omega⟩
     by_cases he : (i : Int) = s
     ·have : i = s.toNat := by omega
      subst this
      rw [hs'] at hx
      injection hx with hx
      rw [← hx]
      omega
     ·exact h3 i (by omega) x hx
   ·exact Or.inr ⟨.inl (), by rw [bb_neg (decide_eq_false hb), Tw.run_ret], (fun u hu i hi1 hi2 x hx => h3 i (by omega) x hx), (fun b hb => by cases hb)⟩
  ·exact Or.inr ⟨.inl (), by rw [bb_neg (decide_eq_false ha), Tw.run_ret], (fun u hu i hi1 hi2 x hx => h3 i (by omega) x hx), (fun b hb => by cases hb)⟩
 obtain ⟨r, hr', h1, h2⟩ := hL
 simp only [law28_great.c, law28_great.t]
 rw [opt_some hr']
 cases r with
 | inl u =>
  rw [sm_inl]
  by_cases h80 : ((l.length : Nat) : Int) > 80
  ·exact ⟨true, by rw [bb_pos (decide_eq_true h80), Tw.run_ret], fun h => nomatch h⟩
  obtain ⟨b, hb, hb2⟩ := ref13_Right_eq v fs
  rw [bb_neg (decide_eq_false h80), opt_some hb, Tw.run_ret]
  refine ⟨_, rfl, fun h => ⟨hb2.1 (by simpa using h), by omega, fun x hx => ?_⟩⟩
  obtain ⟨i, hi, rfl⟩ := List.getElem_of_mem hx
  exact h1 u rfl i hi (by omega) _ (List.getElem?_eq_getElem hi)
 | inr b =>
  rw [sm_inr, Tw.run_ret]
  refine ⟨b, rfl, fun hb => ?_⟩
  rw [h2 b rfl] at hb
  cases hb

def aw28 : FormV := ⟨2, [⟨0, 2, 0, 0, 0⟩]⟩
theorem aw28_fine : fineF 2 aw28.fields := by
 refine ⟨by decide, by decide, ⟨?_, by decide⟩, ?_⟩
 ·intro x hx
  have : x = ⟨0, 2, 0, 0, 0⟩ := by simpa [aw28] using hx
  subst this
  decide
 ·have h1 := (sizV_le ⟨0, 2, 0, 0, 0⟩).2
  have : lonL aw28.fields = sizV ⟨0, 2, 0, 0, 0⟩ + 0 := rfl
  omega
theorem aw28_has : hasR 2 aw28.fields 2 [⟨1, ByteArray.empty⟩] := by
 refine ⟨aw28_fine, rfl, ?_, trivial⟩
 show hasF 0 2 0 0 0 1 ByteArray.empty
 decide
theorem aw28_ask : store_asked.c 1 [aw28] 2 3 = some (2, (aw28.fields, (keyN 2 3, 0))) := store_asked_eq 1 (fs := [aw28]) (by decide) 2 3
theorem awake28 : law28_awake.c = some true := by
 have hsz : (layD aw28 [⟨1, ByteArray.empty⟩]).size ≤ 64 := layD_size aw28_has
 have hk : InR .u32 (keyN 2 3) := keyN_u32 (by decide)
 have h1 : store_Put_none1.c 1 [aw28] 62 3 2 [⟨1, ByteArray.empty⟩] = some (0, (0, (1, (0, [[⟨keyN 2 3, layD aw28 [⟨1, ByteArray.empty⟩]⟩]])))) := by
  simp only [store_Put_none1.c, store_Put_none1.t]
  rw [opt_some aw28_ask, bb_neg (by rfl)]
  have hlay : record_Lay.c 2 aw28.fields 2 [⟨1, ByteArray.empty⟩] = some (0, layR aw28.fields [⟨1, ByteArray.empty⟩]) := by
   rw [record_Lay_eq 2 2 (by decide), if_pos aw28_fine, if_pos aw28_has]
  rw [opt_some hlay, bb_neg (by rfl)]
  exact opt_some (none0_Put 62 (keyN 2 3) (layD aw28 [⟨1, ByteArray.empty⟩]))
 have hF : Ft 62 1 [[(⟨keyN 2 3, layD aw28 [⟨1, ByteArray.empty⟩]⟩ : ItemV)]] := ((Ft.nil 62 0).put (show 62 ≤ 62 by omega) hk hsz).1
 generalize hls : [[(⟨keyN 2 3, layD aw28 [⟨1, ByteArray.empty⟩]⟩ : ItemV)]] = ls at *
 have hfl : ls.flatten = [⟨keyN 2 3, layD aw28 [⟨1, ByteArray.empty⟩]⟩] := by rw [← hls]; rfl
 have hfind : findR ls.flatten (keyN 2 3) = (layD aw28 [⟨1, ByteArray.empty⟩], true) := by rw [hfl]; simp [findR, pickO]
 have h2 : store_Get.c 1 [aw28] ls 2 3 = some (2, 0, [⟨1, ByteArray.empty⟩]) := by
  rw [store_Get_eq 1 (fs := [aw28]) (by decide) hF (by decide) 2 3]
  show some (if badN 2 3 then (0, 2, []) else if (findR ls.flatten (keyN 2 3)).2 then readR aw28 (findR ls.flatten (keyN 2 3)).1 else (0, 8, [])) = _
  rw [if_neg (by decide), hfind, if_pos rfl, readR_lay aw28_has]
 obtain ⟨c1, c2, c3, _⟩ := hF.cut (keyN 2 3)
 rw [cut_has, hfind] at c3
 have c4 : (cutS 62 ls (keyN 2 3)).2.2.2.2 = [] := by
  rw [hfl] at c2
  have c2 : ((cutS 62 ls (keyN 2 3)).2.2.2.2).flatten = [] := by rw [c2]; simp [cutI]
  cases hq : (cutS 62 ls (keyN 2 3)).2.2.2.2 with
  | nil => rfl
  | cons l q =>
   exfalso
   rw [hq] at c1 c2
   exact c1.pk.ne l (by simp) (by simp at c2; exact c2.1)
 have h3 : store_Delete.c 1 [aw28] ls 62 2 3 = some ((cutS 62 ls (keyN 2 3)).1, (cutS 62 ls (keyN 2 3)).2.1, (cutS 62 ls (keyN 2 3)).2.2.1, 0, []) := by
  rw [store_Delete_eq 1 (fs := [aw28]) (by decide) hF.pk (by decide) 2 3]
  show some (if badN 2 3 then (0, 0, 0, 2, []) else if (cutS 62 ls (keyN 2 3)).2.2.2.1 then ((cutS 62 ls (keyN 2 3)).1, (cutS 62 ls (keyN 2 3)).2.1, (cutS 62 ls (keyN 2 3)).2.2.1, 0, (cutS 62 ls (keyN 2 3)).2.2.2.2) else (0, 0, 0, 8, [])) = _
  rw [if_neg (by decide), if_pos c3, c4]
 have h4 : store_Get.c 1 [aw28] [] 2 3 = some (0, 8, []) := by
  rw [store_Get_eq 1 (fs := [aw28]) (by decide) (Ft.nil 62 0) (by decide) 2 3]
  rfl
 simp only [law28_awake.c, law28_awake.t]
 rw [show FormV.mk 2 [⟨0, 2, 0, 0, 0⟩] = aw28 from rfl]
 rw [opt_some h1, opt_some h2, opt_some h3, opt_some h4, bb_pos (by rfl), bb_pos (by rfl), opt_some (same14_eq 2 2 (by decide)), bb_pos (by simp), bb_pos (by rfl), bb_pos (by rfl), Tw.run_ret]
 rfl


theorem find_L {v : Int} {fs : List FormV} (hl : fs.length ≤ 1000) (form : Int) : ∀ (k i : Nat), k + i = fs.length → ∃ z, ref13_Find.L2 form (i : Int) v fs = some z ∧ ((z = .inl () ∧ (fs.drop i).find? (fun x => x.id == form) = none) ∨ ∃ (j : Nat) (x : FormV), z = .inr (j : Int) ∧ (fs.drop i).find? (fun x => x.id == form) = some x ∧ fs[j]? = some x)
 | 0, i, h => by
  refine ⟨.inl (), Lp_end ?_, .inl ⟨rfl, by rw [List.drop_of_length_le (by omega)]; rfl⟩⟩
  simp only [ref13_Find.l2]
  rw [bb_neg (decide_eq_false (by omega)), Tw.run_ret]
 | k + 1, i, h => by
  have hi : i < fs.length := by omega
  have e1 : w64 ((i : Int) + 1) = ((i + 1 : Nat) : Int) := by rw [w64_of (by omega) (by omega)]; omega
  have hx : fs[i]? = some fs[i] := List.getElem?_eq_getElem hi
  rw [List.drop_eq_getElem_cons hi, List.find?_cons]
  by_cases g : fs[i].id = form
  ·refine ⟨.inr (i : Int), Lp_end ?_, .inr ⟨i, fs[i], rfl, ?_, hx⟩⟩
   ·simp only [ref13_Find.l2]
    rw [bb_pos (decide_eq_true (by omega)), dd_pos (by omega), Int.toNat_natCast, opt_some hx, bb_pos (by rw [beq_iff_eq]; exact g), Tw.run_ret]
   ·rw [beq_iff_eq.2 g]
  ·obtain ⟨z, h1, h2⟩ := find_L hl form k (i + 1) (by omega)
   refine ⟨z, (Lp_next ?_).trans h1, ?_⟩
   ·simp only [ref13_Find.l2]
    rw [bb_pos (decide_eq_true (by omega)), dd_pos (by omega), Int.toNat_natCast, opt_some hx, bb_neg (by rw [beq_eq_false_iff_ne]; exact g), Tw.run_ret, e1]
   ·rw [beq_eq_false_iff_ne.2 g]
    exact h2
theorem ref13_Find_eq (v : Int) {fs : List FormV} (hl : fs.length ≤ 1000) (form : Int) : ∃ z, ref13_Find.c v fs form = some z ∧ ((frm fs form = none ∧ z < 0) ∨ ∃ x, frm fs form = some x ∧ 0 ≤ z ∧ fs[z.toNat]? = some x) := by
 obtain ⟨z, h1, h2⟩ := find_L (v := v) hl form fs.length 0 (by omega)
 have h1 : ref13_Find.L2 form 0 v fs = some z := h1
 simp only [ref13_Find.c, ref13_Find.t]
 rw [opt_some h1]
 rcases h2 with ⟨rfl, h2⟩ | ⟨j, x, rfl, h2, h3⟩
 ·exact ⟨-1, by rw [sm_inl, Tw.run_ret], .inl ⟨h2, by omega⟩⟩
 ·exact ⟨(j : Int), by rw [sm_inr, Tw.run_ret], .inr ⟨x, h2, by omega, by rw [Int.toNat_natCast]; exact h3⟩⟩
def badB (fs : List FormV) (form id : Int) : Bool := (frm fs form).isNone || decide (badN form id)
theorem ref28_bad_eq (v : Int) {fs : List FormV} (hl : fs.length ≤ 1000) (form id : Int) : ref28_bad.c v fs form id = some (badB fs form id) := by
 obtain ⟨z, h1, h2⟩ := ref13_Find_eq v hl form
 simp only [ref28_bad.c, ref28_bad.t]
 rw [opt_some h1]
 unfold badB
 rcases h2 with ⟨h2, h3⟩ | ⟨x, h2, h3, h4⟩
 ·rw [bb_pos (decide_eq_true h3), Tw.run_ret, h2]
  rfl
 ·rw [bb_neg (decide_eq_false (by omega)), opt_some (ref18_Fits_eq ..), Tw.run_ret, h2]
  congr 1
  show _ = (false || decide (badN form id))
  rw [Bool.false_or, ← decide_not, decide_eq_decide]
  unfold badN
  omega
theorem mainN {form id : Int} (h : ¬ badN form id) : ref18_Main.c form id = some (keyN form id) := ref18_Main_eq (by unfold badN at h; omega)

theorem ref28_Get_eq (v : Int) {fs : List FormV} (hs : rightS v fs) {R n : Nat} {ls : List (List ItemV)} (h : Ft R n ls) (hn : n ≤ 1000) (form id : Int) : ref28_Get.c v fs ls form id = some (getR fs ls.flatten form id) := by
 have hc := h.pk.count
 have hl := h.pk.len
 have hfs : fs.length ≤ 1000 := by have := hs.2.1; omega
 simp only [ref28_Get.c, ref28_Get.t]
 rw [opt_some (ref28_bad_eq v hfs form id)]
 unfold badB getR
 obtain ⟨z, z1, z2⟩ := ref13_Find_eq v hfs form
 rcases z2 with ⟨z2, z3⟩ | ⟨x, z2, z3, z4⟩
 ·rw [z2, bb_pos (by rfl), Tw.run_ret]
 rw [z2]
 simp only []
 by_cases hb : badN form id
 ·rw [bb_pos (by rw [decide_eq_true hb]; rfl), Tw.run_ret, if_pos hb]
 rw [bb_neg (by rw [decide_eq_false hb]; rfl), if_neg hb, opt_some (ref24_Flat_eq (ls := ls) (by omega) (by omega)), opt_some (mainN hb), opt_some (ref18_Find_eq (by omega) _)]
 cases hq : (findR ls.flatten (keyN form id)).2 with
 | false => rw [bb_pos (by rfl), Tw.run_ret]; rfl
 | true =>
  obtain ⟨y, hy, _, hyd⟩ := find_in hq
  obtain ⟨l, hl1, hl2⟩ := List.mem_flatten.1 hy
  have hsz := (h.pk.gd _ hl1 y hl2).2
  have hf := hs.2.2.1 x (frm_some z2).2
  rw [bb_neg (by rfl), opt_some z1, dd_pos z3, opt_some z4, opt_some (ref14_Take_eq hf (b2l_bytes _) (by rw [b2l_len, hyd]; omega)), if_pos rfl]
  unfold readR
  rw [if_pos hf]
  generalize tkR x.id x.fields (b2l (findR ls.flatten (keyN form id)).1) = r
  by_cases hr : r.2.1 = 0
  ·rw [bb_neg (by rw [hr]; rfl), if_pos hr, Tw.run_ret]
  ·rw [bb_pos (by rw [bne_iff_ne]; exact hr), if_neg hr, Tw.run_ret]

theorem get_len {v : Int} {fs : List FormV} (hs : rightS v fs) (l : List ItemV) (form id : Int) : (getR fs l form id).2.2.length ≤ 140737488355328 := by
 unfold getR
 cases hf : frm fs form with
 | none => simp
 | some x =>
  have hfine := hs.2.2.1 x (frm_some hf).2
  simp only []
  split
  ·simp
  ·split
   ·unfold readR
    have := tkR_len (d := x.id) hfine (b2l_bytes (findR l (keyN form id)).1)
    rw [if_pos hfine]
    split
    ·simp only []; omega
    ·simp
   ·simp
def keep1 (fs : List FormV) (y : ItemV) : Option KeptV :=
 match frm fs (toldK y.key).2.1 with
 | none => none
 | some x => if (readR x y.data).2.1 = 0 then some ⟨(toldK y.key).2.2, (readR x y.data).1, (readR x y.data).2.2⟩ else none
def keepR (fs : List FormV) : List ItemV → Option (List KeptV)
 | [] => some []
 | y :: r => match keep1 fs y with
  | none => none
  | some k => (keepR fs r).map (k :: ·)
theorem All_L {v : Int} {fs : List FormV} (hs : rightS v fs) {l : List ItemV} (hl : l.length ≤ 1000) (hg : Gd l) : ∀ (k i : Nat) (acc : List KeptV), k + i = l.length → acc.length = i →
  (∃ ks, keepR fs (l.drop i) = some ks ∧ store_All.L3 l (i : Int) v fs 0 acc = some (.inl (acc ++ ks))) ∨ (∃ a, keepR fs (l.drop i) = none ∧ store_All.L3 l (i : Int) v fs 0 acc = some (.inr (12, a)))
 | 0, i, acc, h, ha => by
  refine .inl ⟨[], by rw [List.drop_of_length_le (by omega)]; rfl, Lp_end ?_⟩
  simp only [store_All.l3]
  rw [dd_neg (by omega), Tw.run_ret, List.append_nil]
 | k + 1, i, acc, h, ha => by
  have hi : i < l.length := by omega
  have hx : l[i]? = some l[i] := List.getElem?_eq_getElem hi
  have hfs : fs.length ≤ 1000 := by have := hs.2.1; omega
  rw [List.drop_eq_getElem_cons hi, keepR]
  generalize hy : l[i] = y at hx
  have hyg : InR .u32 y.key ∧ y.data.size ≤ 64 := hy ▸ hg _ (List.getElem_mem hi)
  unfold keep1
  cases hf : frm fs (toldK y.key).2.1 with
  | none =>
   refine .inr ⟨acc, rfl, Lp_end ?_⟩
   simp only [store_All.l3]
   rw [dd_pos (by omega), Int.toNat_natCast, opt_some hx, opt_some (item_Told_eq hyg.1), opt_some (schema_Form_eq v hfs _), hf]
   simp only [pickO]
   rw [opt_some (store_read_eq ⟨0, []⟩ (b := y.data) (by omega)), bb_pos (by rfl), Tw.run_ret]
  | some x =>
   simp only []
   by_cases hr : (readR x y.data).2.1 = 0
   ·rw [if_pos hr]
    simp only []
    have step : (store_All.l3 l v fs 0 (i : Int) acc).run = some (.inl (((i + 1 : Nat) : Int), acc ++ [⟨(toldK y.key).2.2, (readR x y.data).1, (readR x y.data).2.2⟩])) := by
     simp only [store_All.l3]
     rw [dd_pos (by omega), Int.toNat_natCast, opt_some hx, opt_some (item_Told_eq hyg.1), opt_some (schema_Form_eq v hfs _), hf]
     simp only [pickO]
     rw [opt_some (store_read_eq x (b := y.data) (by omega)), bb_neg (by rfl), bb_neg (by rw [hr]; rfl), dd_pos (by simp only [List.length_cons, List.length_nil]; omega), Tw.run_ret]
     rfl
    rcases All_L hs hl hg k (i + 1) (acc ++ [⟨(toldK y.key).2.2, (readR x y.data).1, (readR x y.data).2.2⟩]) (by omega) (by rw [List.length_append, ha]; rfl) with ⟨ks, h1, h2⟩ | ⟨a, h1, h2⟩
    ·refine .inl ⟨⟨(toldK y.key).2.2, (readR x y.data).1, (readR x y.data).2.2⟩ :: ks, by rw [h1]; rfl, (Lp_next step).trans (h2.trans ?_)⟩
     rw [List.append_assoc]
     rfl
    ·exact .inr ⟨a, by rw [h1]; rfl, (Lp_next step).trans h2⟩
   ·rw [if_neg hr]
    refine .inr ⟨acc, rfl, Lp_end ?_⟩
    simp only [store_All.l3]
    rw [dd_pos (by omega), Int.toNat_natCast, opt_some hx, opt_some (item_Told_eq hyg.1), opt_some (schema_Form_eq v hfs _), hf]
    simp only [pickO]
    rw [opt_some (store_read_eq x (b := y.data) (by omega)), bb_neg (by rfl), bb_pos (by rw [bne_iff_ne]; exact hr), Tw.run_ret]
def allR (fs : List FormV) (l : List ItemV) : Int × List KeptV := match keepR fs l with | some ks => (0, ks) | none => (12, [])
theorem flat_gd {n : Nat} {ls : List (List ItemV)} (h : Pk n ls) : Gd ls.flatten := fun x hx => by
 obtain ⟨l, h1, h2⟩ := List.mem_flatten.1 hx
 exact h.gd _ h1 x h2
theorem store_All_eq {v : Int} {fs : List FormV} (hs : rightS v fs) {n : Nat} {ls : List (List ItemV)} (h : Pk n ls) (hn : n ≤ 1000) : store_All.c v fs ls = some (allR fs (ls.flatten.filter fun x => ownK x.key)) := by
 have hc := h.count
 have hl := h.len
 have rb := reach_eq
 have he : store_each_1.c ls = some (ls.flatten.filter fun x => ownK x.key) := by
  simp only [store_each_1.c, store_each_1.t]
  rw [opt_some (pack_Flat_eq (ls := ls) (by omega) (by omega)), opt_some (item_Mains_eq (by omega)), Tw.run_ret]
 have h0 : store_each.c ls = some () := by simp only [store_each.c, store_each.t, Tw.run_ret]
 have hlen := List.length_filter_le (fun x : ItemV => ownK x.key) ls.flatten
 have hg : Gd (ls.flatten.filter fun x => ownK x.key) := fun x hx => flat_gd h x (List.mem_filter.1 hx).1
 simp only [store_All.c, store_All.t]
 rw [opt_some h0, opt_some he]
 generalize ls.flatten.filter (fun x => ownK x.key) = l at *
 unfold allR
 rcases All_L hs (l := l) (by omega) hg l.length 0 [] (by omega) rfl with ⟨ks, h1, h2⟩ | ⟨a, h1, h2⟩
 ·rw [opt_some (show store_All.L3 l 0 v fs 0 [] = _ from h2), sm_inl, Tw.run_ret, show keepR fs l = some ks from h1]
  rfl
 ·rw [opt_some (show store_All.L3 l 0 v fs 0 [] = _ from h2), sm_inr, Tw.run_ret, show keepR fs l = none from h1]

theorem ref20_L {v : Int} {fs : List FormV} (hs : rightS v fs) {l : List ItemV} (hl : l.length ≤ 1000) (hg : Gd l) : ∀ (k i : Nat), k + i = l.length → ref20_Fits.L5 (i : Int) v fs l = some (bif (keepR fs (l.drop i)).isSome then .inl () else .inr false)
 | 0, i, h => by
  refine Lp_end ?_
  simp only [ref20_Fits.l5]
  rw [bb_neg (decide_eq_false (by omega)), Tw.run_ret, List.drop_of_length_le (by omega)]
  rfl
 | k + 1, i, h => by
  have hi : i < l.length := by omega
  have hx : l[i]? = some l[i] := List.getElem?_eq_getElem hi
  have hfs : fs.length ≤ 1000 := by have := hs.2.1; omega
  have e1 : w64 ((i : Int) + 1) = ((i + 1 : Nat) : Int) := by rw [w64_of (by omega) (by omega)]; omega
  rw [List.drop_eq_getElem_cons hi, keepR]
  generalize hy : l[i] = y at hx
  have hyg : InR .u32 y.key ∧ y.data.size ≤ 64 := hy ▸ hg _ (List.getElem_mem hi)
  obtain ⟨z, z1, z2⟩ := ref13_Find_eq v hfs (toldK y.key).2.1
  unfold keep1
  rcases z2 with ⟨z2, z3⟩ | ⟨x, z2, z3, z4⟩
  ·rw [z2]
   refine Lp_end ?_
   simp only [ref20_Fits.l5]
   rw [bb_pos (decide_eq_true (by omega)), dd_pos (by omega), Int.toNat_natCast, opt_some hx, opt_some (ref18_Told_eq hyg.1), opt_some z1, bb_pos (decide_eq_true z3), Tw.run_ret]
   rfl
  ·rw [z2]
   have hf := hs.2.2.1 x (frm_some z2).2
   have ht := ref14_Take_eq (d := x.id) hf (b2l_bytes y.data) (by rw [b2l_len]; omega)
   have hrr : (readR x y.data).2.1 = 0 ↔ (tkR x.id x.fields (b2l y.data)).2.1 = 0 := by
    unfold readR
    rw [if_pos hf]
    by_cases g : (tkR x.id x.fields (b2l y.data)).2.1 = 0
    ·rw [if_pos g]; exact ⟨fun _ => g, fun _ => rfl⟩
    ·rw [if_neg g]; exact ⟨(fun h => by cases h), (fun h => absurd h g)⟩
   simp only []
   by_cases hr : (readR x y.data).2.1 = 0
   ·rw [if_pos hr]
    simp only [Option.isSome_map]
    rw [← ref20_L hs hl hg k (i + 1) (by omega)]
    refine Lp_next ?_
    simp only [ref20_Fits.l5]
    rw [bb_pos (decide_eq_true (by omega)), dd_pos (by omega), Int.toNat_natCast, opt_some hx, opt_some (ref18_Told_eq hyg.1), opt_some z1, bb_neg (decide_eq_false (by omega)), dd_pos z3, opt_some z4, dd_pos (by omega), opt_some hx, opt_some ht, bb_neg (by rw [hrr.1 hr]; rfl), Tw.run_ret, e1]
   ·rw [if_neg hr]
    refine Lp_end ?_
    simp only [ref20_Fits.l5]
    rw [bb_pos (decide_eq_true (by omega)), dd_pos (by omega), Int.toNat_natCast, opt_some hx, opt_some (ref18_Told_eq hyg.1), opt_some z1, bb_neg (decide_eq_false (by omega)), dd_pos z3, opt_some z4, dd_pos (by omega), opt_some hx, opt_some ht, bb_pos (by rw [bne_iff_ne]; exact fun h => hr (hrr.2 h)), Tw.run_ret]
    rfl
theorem ref20_Fits_eq {v : Int} {fs : List FormV} (hs : rightS v fs) {l : List ItemV} (hl : l.length ≤ 1000) (hg : Gd l) (hst : SortI l) (ho : ∀ x ∈ l, ownK x.key = true) : ref20_Fits.c v fs l = some (keepR fs l).isSome := by
 have rb := reach_eq
 obtain ⟨b, b1, b2⟩ := ref13_Right_eq v fs
 have hb := b2.2 hs
 subst hb
 have hr : rightI l = true := rightI_iff.2 ⟨fun x hx => (hg x hx).2, hst⟩
 have hL : ref20_Fits.L5 0 v fs l = _ := ref20_L hs hl hg l.length 0 (by omega)
 simp only [ref20_Fits.c, ref20_Fits.t]
 rw [opt_some b1, bb_neg (by rfl), opt_some (ref18_Right_eq (by omega)), hr, bb_neg (by rfl), opt_some (ref18_Mains_eq hg.its (by omega)), List.filter_eq_self.2 ho, opt_some hL, List.drop_zero]
 cases keepR fs l with
 | none => simp only [Option.isSome_none, cond_false]; rw [sm_inr, Tw.run_ret]
 | some ks => simp only [Option.isSome_some, cond_true]; rw [sm_inl, Tw.run_ret]
theorem keepR_len {fs : List FormV} : ∀ {l : List ItemV} {ks : List KeptV}, keepR fs l = some ks → ks.length = l.length
 | [], ks, h => by cases h; rfl
 | y :: r, ks, h => by
  rw [keepR] at h
  split at h
  ·cases h
  ·cases hr : keepR fs r with
   | none => rw [hr] at h; cases h
   | some q =>
    rw [hr] at h
    cases h
    simp [keepR_len hr]


theorem bk_items : ∀ l : List ItemV, bk E0 2 (.slice 10 l) = (l.map fun x => x.data.size + 2).sum + 1 := by
 intro l
 show (l.map fun x => (1 + ((x.data.size + 1) + 0))).sum + 1 = _
 rw [show (fun x : ItemV => 1 + ((x.data.size + 1) + 0)) = fun x => x.data.size + 2 from funext fun x => by omega]
theorem bk_leaves : ∀ ls : List (List ItemV), bk E0 3 (.slice 11 ls) = (ls.map fun l => bk E0 2 (.slice 10 l)).sum + 1 := by
 intro ls
 show (ls.map fun l => (bk E0 2 (.slice 10 l) + 0)).sum + 1 = _
 rfl
theorem tot_bk (l : List ItemV) : totI l ≤ bk E0 2 (.slice 10 l) ∧ l.length ≤ bk E0 2 (.slice 10 l) := by
 rw [bk_items]
 induction l with
 | nil => simp [totI]
 | cons x l ih =>
  rw [totI_cons]
  simp only [List.map_cons, List.sum_cons, List.length_cons]
  have : cstI x ≤ x.data.size + 2 := by unfold cstI needN; omega
  omega
theorem leaves_bk (ls : List (List ItemV)) : (∀ l ∈ ls, totI l ≤ bk E0 3 (.slice 11 ls) ∧ l.length ≤ bk E0 3 (.slice 11 ls)) ∧ ls.flatten.length ≤ bk E0 3 (.slice 11 ls) := by
 rw [bk_leaves]
 induction ls with
 | nil => simp
 | cons l ls ih =>
  obtain ⟨i1, i2⟩ := ih
  have := tot_bk l
  simp only [List.map_cons, List.sum_cons, List.flatten_cons, List.length_append]
  refine ⟨fun x hx => ?_, by omega⟩
  rcases List.mem_cons.1 hx with rfl | hx
  ·omega
  ·have := i1 x hx
   omega

end
end Go.Proofs.Ytmlbioapefgioaa.Pure
