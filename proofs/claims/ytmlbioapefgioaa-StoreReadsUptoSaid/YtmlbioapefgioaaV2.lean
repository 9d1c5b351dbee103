/- The evaluator and its proof, put together: Va2, Va3, Va4, Va5, Va6, Va7, Va8, Va9. -/
import Derived.Test.YtmlbioapefgioaaV1
import Derived.Below
import Derived.Laws.OwnMore
import Derived.Laws.CopyRow
import Derived.ChangeKeysEq
/- What an abstract value says of a value in a world; what an abstract state says of a frame; both kept by writes elsewhere. -/
set_option linter.unusedSimpArgs false
set_option linter.unusedVariables false
namespace Go.Proofs.Ytmlbioapefgioaa.Va
open Go

variable {U : Nat → Type}

inductive Rep (cc : (T : Nat) → Cod U T) (w : World) (av : Nat → Prop) : IV U → Value → Prop
 | int (k n) : Rep cc w av (.int k n) (.int k n)
 | bool (b) : Rep cc w av (.bool b) (.bool b)
 | str (s) : Rep cc w av (.str s) (.string s)
 | flt (k b) : Rep cc w av (.flt k b) (.float k b)
 | nilp : Rep cc w av .nilp (.pointer none)
 | nils : Rep cc w av .nils (.slice none 0 0)
 | nilf : Rep cc w av .nilf .nilFunc
 | nili : Rep cc w av .nili .nilIface
 | slice0 (T a cap) : Rep cc w av (.slice T []) (.slice a 0 cap)
 | slice (T l k off cap) (f : Nat → Value) (hp : 0 < (cc T).sz) (hav : ¬ av k) (hcap : l.length ≤ cap)
   (hcell : ∀ i, i < l.length * (cc T).sz → w.cell? ⟨k, off + i, none⟩ = some (f i))
   (hrep : ∀ (i : Nat) (x : U T) (j : Nat) (y : IV U), l[i]? = some x → ((cc T).enc x)[j]? = some y → Rep cc w av y (f (i * (cc T).sz + j))) :
   Rep cc w av (.slice T l) (.slice (some ⟨k, off, none⟩) l.length cap)

structure BI where
 k : Option Nat
 n : Nat
 cap : Nat

inductive RepA (cc : (T : Nat) → Cod U T) (w : World) (av : Nat → Prop) (β : Nat → Option BI) : AV U → Value → Prop
 | im {x v} (h : Rep cc w av x v) : RepA cc w av β (.im x) v
 | own0 {b cap a} (h : β b = some ⟨none, 0, cap⟩) : RepA cc w av β (.own b) (.slice a 0 0)
 | own {b k n cap} (h : β b = some ⟨some k, n, cap⟩) : RepA cc w av β (.own b) (.slice (some ⟨k, 0, none⟩) n cap)
 | sub0 {b off sz a cap} : RepA cc w av β (.sub b off 0 sz) (.slice a 0 cap)
 | sub {b off len sz k n cap cap'} (h : β b = some ⟨some k, n, cap'⟩) (hl : off + len ≤ n) (hc : len ≤ cap) :
   RepA cc w av β (.sub b off len sz) (.slice (some ⟨k, off * sz, none⟩) len cap)
 | vsl0 {b off sz a cap} : RepA cc w av β (.vsl b off 0 sz) (.slice a 0 cap)
 | vsl {b off len sz k n cap cap'} (h : β b = some ⟨some k, n, cap'⟩) (hc : len ≤ cap) :
   RepA cc w av β (.vsl b off len sz) (.slice (some ⟨k, off, none⟩) len cap)
 | ptr {b off k n cap} (h : β b = some ⟨some k, n, cap⟩) : RepA cc w av β (.ptr b off) (.pointer (some ⟨k, off, none⟩))
 | rptr {b i u sz k n cap} (h : β b = some ⟨some k, n, cap⟩) : RepA cc w av β (.rptr b i u sz) (.pointer (some ⟨k, i * sz + u, none⟩))
 | iptr {cs : List (IV U)} {u k o} (f : Nat → Value) (hp : 0 < cs.length) (hav : ¬ av k) (hcell : ∀ j, j < cs.length → w.cell? ⟨k, o + j, none⟩ = some (f j))
   (hrep : ∀ (j : Nat) (y : IV U), cs[j]? = some y → Rep cc w av y (f j)) : RepA cc w av β (.iptr cs u) (.pointer (some ⟨k, o + u, none⟩))
 | agg {xs : List (AV U)} {vs : Array Value} (hl : vs.size = xs.length) (h : ∀ (j : Nat) (x : AV U) (v : Value), xs[j]? = some x → vs[j]? = some v → RepA cc w av β x v) : RepA cc w av β (.agg xs) (.agg vs)
 | tup {xs : List (AV U)} {vs : Array Value} (hl : vs.size = xs.length) (h : ∀ (j : Nat) (x : AV U) (v : Value), xs[j]? = some x → vs[j]? = some v → RepA cc w av β x v) : RepA cc w av β (.tup xs) (.tuple vs)
 | clo {g} {xs : List (AV U)} {vs : Array Value} (hl : vs.size = xs.length) (h : ∀ (j : Nat) (x : AV U) (v : Value), xs[j]? = some x → vs[j]? = some v → RepA cc w av β x v) : RepA cc w av β (.clo g xs) (.func (.func g) #[] vs)
 | nn {T l a n cap} (h : Rep cc w av (.slice T l) (.slice (some a) n cap)) : RepA cc w av β (.nn T l) (.slice (some a) n cap)
 | ns {cap} : RepA cc w av β .ns (.slice none 0 cap)
 | mp {b k n cap} (h : β b = some ⟨some k, n, cap⟩) : RepA cc w av β (.mp b) (.map (some k))
 | gh {T l i v} : RepA cc w av β (.gh T l i) v
 | yl {l} : RepA cc w av β (.yl l) (.func (.yield l) #[] #[])
 | und : RepA cc w av β .und undef
 | bot {v} : RepA cc w av β .bot v

def Blk.isLive : Blk U → Bool
 | .dead => false
 | .var _ => true
 | .row _ _ b => b
 | .map _ => true
def Blk.isDead : Blk U → Bool
 | .dead => true
 | _ => false

structure CodOK {T : Nat} (c : Cod U T) : Prop where
 size : ∀ x, (c.enc x).length = c.sz
 pos : 0 < c.sz
 dec : ∀ l x, c.dec l = some x → l.length = c.sz ∧ ∀ (j : Nat) (y : IV U), l[j]? = some y → ∃ z, (c.enc x)[j]? = some z ∧ (y = z ∨ (y = .nils ∧ ∃ T', z = .slice T' []))
 flat : c.flat = true → ∀ x, ∀ y ∈ c.enc x, (AV.im y).imRef = false

def BlkOK (cc : (T : Nat) → Cod U T) (w : World) (av : Nat → Prop) (β : Nat → Option BI) (bi : BI) : Blk U → Prop
 | .dead => True
 | .var cs => ∃ k c t, bi.k = some k ∧ w.heap[k]? = some (.cells c t (0, 0)) ∧ c.size = cs.length ∧ ∀ (j : Nat) (x : AV U) (v : Value), cs[j]? = some x → c[j]? = some v → RepA cc w av β x v ∧ v.oneCell' = true
 | .row T l live => CodOK (cc T) ∧ l.length = bi.n ∧ (bi.k = none → bi.n = 0) ∧ ∀ k, bi.k = some k → bi.n ≤ bi.cap ∧ bi.cap ≤ maxLen ∧
   ∃ c t, w.heap[k]? = some (.cells c t (0, 0)) ∧ c.size = bi.cap * (cc T).sz ∧
    ∀ (i : Nat) (x : U T) (j : Nat) (y : IV U), l[i]? = some x → ((cc T).enc x)[j]? = some y → ∃ v, c[i * (cc T).sz + j]? = some v ∧ Rep cc w av y v
 | .map l => ∃ k es clk, bi.k = some k ∧ w.heap[k]? = some (.map es clk) ∧ es.toList.map (·.key) = l.map (Value.int .i64 ·)

def fixedO : Obj → Bool
 | .loop _ | .deferred _ => true
 | _ => false

structure AS (U : Nat → Type) where
 tm : Nat → AV U
 hp : Nat → Blk U

def avOf (X : Nat → Prop) (β : Nat → Option BI) (hp : Nat → Blk U) (k : Nat) : Prop :=
 X k ∨ ∃ b bi, β b = some bi ∧ bi.k = some k ∧ (hp b).isLive = true

structure HRel (cc : (T : Nat) → Cod U T) (X W0 : Nat → Prop) (β : Nat → Option BI) (hp : Nat → Blk U) (w : World) : Prop where
 ok : ∀ b bi, β b = some bi → BlkOK cc w (avOf X β hp) β bi (hp b)
 dom : ∀ b bi k, β b = some bi → bi.k = some k → (hp b).isDead = false → W0 k ∧ ¬ X k ∧ k < w.heap.size
 new : ∀ k, w.heap.size ≤ k → W0 k ∧ ¬ X k
 inj : ∀ b b' bi bi' k, β b = some bi → β b' = some bi' → bi.k = some k → bi'.k = some k → (hp b).isDead = false → (hp b').isDead = false → b = b'

structure DefOK (W0 : Nat → Prop) (ds : List Deferred) (w : World) : Prop where
 mark : ∀ d ∈ ds, ∃ k, d = { target := .collected k, args := #[] } ∧ w.heap[k]? = some (.deferred (some [])) ∧ W0 k
 apart : ds.Pairwise fun d d' => d.target ≠ d'.target
theorem DefOK.nil (W0 : Nat → Prop) (w : World) : DefOK W0 [] w := ⟨by simp, .nil⟩

structure Rel (cc : (T : Nat) → Cod U T) (X W0 : Nat → Prop) (β : Nat → Option BI) (S : AS U) (a : Act) (w : World) : Prop where
 h : HRel cc X W0 β S.hp w
 tm : ∀ t, RepA cc w (avOf X β S.hp) β (S.tm t) (a.tmps.getD t undef)
 defers : DefOK W0 a.defers w

structure Fr (W0 : Nat → Prop) (w w' : World) : Prop where
 os : w'.os = w.os
 tape : w'.tape = w.tape
 output : w'.output = w.output
 size : w.heap.size ≤ w'.heap.size
 block : ∀ k, k < w.heap.size → ¬ W0 k → w'.heap[k]? = w.heap[k]?
 kind : ∀ (k : Nat) (o : Obj), w.heap[k]? = some o → ∃ o', w'.heap[k]? = some o' ∧ fixedO o' = fixedO o ∧ (fixedO o = true → o' = o)

theorem Fr.refl (W0 : Nat → Prop) (w : World) : Fr W0 w w := ⟨rfl, rfl, rfl, Nat.le_refl _, fun _ _ _ => rfl, fun _ o h => ⟨o, h, rfl, fun _ => rfl⟩⟩
theorem Fr.trans {W0 : Nat → Prop} {a b c : World} (h : Fr W0 a b) (g : Fr W0 b c) : Fr W0 a c :=
 ⟨g.os.trans h.os, g.tape.trans h.tape, g.output.trans h.output, Nat.le_trans h.size g.size,
  fun k hk hw => (g.block k (Nat.lt_of_lt_of_le hk h.size) hw).trans (h.block k hk hw), fun k o ho => by
   obtain ⟨o1, h1, h2, h3⟩ := h.kind k o ho
   obtain ⟨o2, g1, g2, g3⟩ := g.kind k o1 h1
   refine ⟨o2, g1, g2.trans h2, fun hf => ?_⟩
   have := h3 hf
   subst this
   exact g3 hf⟩
theorem Fr.drew (W0 : Nat → Prop) (w : World) : Fr W0 w w.drew := ⟨rfl, rfl, rfl, Nat.le_refl _, fun _ _ _ => rfl, fun _ o h => ⟨o, h, rfl, fun _ => rfl⟩⟩
theorem DefOK.mono {W0 : Nat → Prop} {ds : List Deferred} {w w' : World} (h : DefOK W0 ds w) (f : Fr W0 w w') : DefOK W0 ds w' :=
 ⟨fun d hd => by
  obtain ⟨k, e, h1, h2⟩ := h.mark d hd
  obtain ⟨o', g1, _, g3⟩ := f.kind k _ h1
  rw [g3 rfl] at g1
  exact ⟨k, e, g1, h2⟩, h.apart⟩

variable {cc : (T : Nat) → Cod U T}

def Keeps (av : Nat → Prop) (w w' : World) : Prop := ∀ k off v, ¬ av k → w.cell? ⟨k, off, none⟩ = some v → w'.cell? ⟨k, off, none⟩ = some v

theorem Keeps.of_block {av : Nat → Prop} {w w' : World} (h : ∀ k, ¬ av k → k < w.heap.size → w'.heap[k]? = w.heap[k]?) : Keeps av w w' := by
 intro k off v hk hc
 have hlt : k < w.heap.size := World.block_lt_of_cell? w ⟨k, off, none⟩ hc
 rw [World.cell?_of_block (w := w) (h k hk hlt)]
 exact hc

theorem Rep.mono {w w' : World} {av av' : Nat → Prop} (hk : Keeps av w w') (ha : ∀ k, ¬ av k → k < w.heap.size → ¬ av' k) {x : IV U} {v : Value} (h : Rep cc w av x v) : Rep cc w' av' x v := by
 induction h with
 | int => exact .int _ _
 | bool => exact .bool _
 | str => exact .str _
 | flt => exact .flt _ _
 | nilp => exact .nilp
 | nils => exact .nils
 | nilf => exact .nilf
 | nili => exact .nili
 | slice0 => exact .slice0 _ _ _
 | slice T l k off cap f hp hav hcap hcell hrep ih =>
  by_cases hl : l = []
  ·subst hl; exact .slice0 _ _ _
  ·have h0 : 0 < l.length * (cc T).sz := Nat.mul_pos (List.length_pos_iff.2 hl) hp
   have hlt : k < w.heap.size := World.block_lt_of_cell? w _ (hcell 0 h0)
   exact .slice T l k off cap f hp (ha k hav hlt) hcap (fun i hi => hk _ _ _ hav (hcell i hi)) ih

theorem RepA.mono {w w' : World} {av av' : Nat → Prop} {β β' : Nat → Option BI} (hk : Keeps av w w') (ha : ∀ k, ¬ av k → k < w.heap.size → ¬ av' k)
  (hβ : ∀ b bi, β b = some bi → β' b = some bi) {x : AV U} {v : Value} (h : RepA cc w av β x v) : RepA cc w' av' β' x v := by
 induction h with
 | im h => exact .im (h.mono hk ha)
 | nn h => exact .nn (h.mono hk ha)
 | ns => exact .ns
 | mp h => exact .mp (hβ _ _ h)
 | gh => exact .gh
 | yl => exact .yl
 | own0 h => exact .own0 (hβ _ _ h)
 | own h => exact .own (hβ _ _ h)
 | sub0 => exact .sub0
 | sub h hl hc => exact .sub (hβ _ _ h) hl hc
 | vsl0 => exact .vsl0
 | vsl h hc => exact .vsl (hβ _ _ h) hc
 | ptr h => exact .ptr (hβ _ _ h)
 | rptr h => exact .rptr (hβ _ _ h)
 | @iptr cs u k o f hp hav hcell hrep =>
  have hlt : k < w.heap.size := World.block_lt_of_cell? w _ (hcell 0 hp)
  exact .iptr f hp (ha k hav hlt) (fun j hj => hk _ _ _ hav (hcell j hj)) (fun j y hy => (hrep j y hy).mono hk ha)
 | agg hl h ih => exact .agg hl ih
 | tup hl h ih => exact .tup hl ih
 | clo hl h ih => exact .clo hl ih
 | und => exact .und
 | bot => exact .bot

theorem Rep.one {w : World} {av : Nat → Prop} {x : IV U} {v : Value} (h : Rep cc w av x v) : v.oneCell' = true := by
 cases h <;> rfl

theorem Rep.free {w w' : World} {av av' : Nat → Prop} {x : IV U} {v : Value} (h : Rep cc w av x v) (hx : (AV.im x).imRef = false) : Rep cc w' av' x v := by
 cases h with
 | slice0 => simp [AV.imRef] at hx
 | slice => simp [AV.imRef] at hx
 | int => exact .int _ _
 | bool => exact .bool _
 | str => exact .str _
 | flt => exact .flt _ _
 | nilp => exact .nilp
 | nils => exact .nils
 | nilf => exact .nilf
 | nili => exact .nili

theorem imRefL_mem {xs : List (AV U)} (h : AV.imRefL xs = false) : ∀ x ∈ xs, x.imRef = false := by
 induction xs with
 | nil => simp
 | cons x xs ih =>
  rw [AV.imRefL, Bool.or_eq_false_iff] at h
  intro y hy
  rcases List.mem_cons.1 hy with rfl | hy
  ·exact h.1
  ·exact ih h.2 y hy

theorem RepA.free {w w' : World} {av av' : Nat → Prop} {β β' : Nat → Option BI} (hβ : ∀ b bi, β b = some bi → β' b = some bi) {x : AV U} {v : Value}
  (h : RepA cc w av β x v) (hx : x.imRef = false) : RepA cc w' av' β' x v := by
 induction h with
 | im h => exact .im (h.free hx)
 | nn h => simp [AV.imRef] at hx
 | ns => exact .ns
 | mp h => exact .mp (hβ _ _ h)
 | gh => exact .gh
 | yl => exact .yl
 | own0 h => exact .own0 (hβ _ _ h)
 | own h => exact .own (hβ _ _ h)
 | sub0 => exact .sub0
 | sub h hl hc => exact .sub (hβ _ _ h) hl hc
 | vsl0 => exact .vsl0
 | vsl h hc => exact .vsl (hβ _ _ h) hc
 | ptr h => exact .ptr (hβ _ _ h)
 | rptr h => exact .rptr (hβ _ _ h)
 | iptr => simp [AV.imRef] at hx
 | agg hl h ih => exact .agg hl fun j x v hx' hv => ih j x v hx' hv (imRefL_mem (by simpa [AV.imRef] using hx) x (List.mem_of_getElem? hx'))
 | tup hl h ih => exact .tup hl fun j x v hx' hv => ih j x v hx' hv (imRefL_mem (by simpa [AV.imRef] using hx) x (List.mem_of_getElem? hx'))
 | clo hl h ih => exact .clo hl fun j x v hx' hv => ih j x v hx' hv (imRefL_mem (by simpa [AV.imRef] using hx) x (List.mem_of_getElem? hx'))
 | und => exact .und
 | bot => exact .bot

theorem BlkOK.mono {w w' : World} {av av' : Nat → Prop} {β β' : Nat → Option BI} {bi : BI} {x : Blk U} (hk : Keeps av w w') (ha : ∀ k, ¬ av k → k < w.heap.size → ¬ av' k)
  (hβ : ∀ b bi, β b = some bi → β' b = some bi) (hb : ∀ k, bi.k = some k → w'.heap[k]? = w.heap[k]?) (h : BlkOK cc w av β bi x) : BlkOK cc w' av' β' bi x := by
 cases x with
 | dead => trivial
 | var cs =>
  obtain ⟨k, c, t, hk', hh, hs, hc⟩ := h
  exact ⟨k, c, t, hk', by rw [hb k hk']; exact hh, hs, fun j x v hx hv => ⟨(hc j x v hx hv).1.mono hk ha hβ, (hc j x v hx hv).2⟩⟩
 | row T l live =>
  obtain ⟨hcod, hn, hnone, hsome⟩ := h
  refine ⟨hcod, hn, hnone, fun k hk' => ?_⟩
  obtain ⟨h1, h2, c, t, hh, hs, hc⟩ := hsome k hk'
  exact ⟨h1, h2, c, t, by rw [hb k hk']; exact hh, hs, fun i x j y hx hy => let ⟨v, hv, hr⟩ := hc i x j y hx hy; ⟨v, hv, hr.mono hk ha⟩⟩
 | map l =>
  obtain ⟨k, es, clk, hk', hh, hs⟩ := h
  exact ⟨k, es, clk, hk', by rw [hb k hk']; exact hh, hs⟩

end Go.Proofs.Ytmlbioapefgioaa.Va

/- The four turns of a state: a new block, a write into a block, a block let go (frozen, or dead), nothing at all. -/
namespace Go.Proofs.Ytmlbioapefgioaa.Va
open Go

variable {U : Nat → Type} {cc : (T : Nat) → Cod U T} {X W0 : Nat → Prop} {β β' : Nat → Option BI} {hp : Nat → Blk U} {w w' : World}

def upd1 (hp : Nat → Blk U) (b : Nat) (x : Blk U) : Nat → Blk U := fun b' => if b' = b then x else hp b'
def upds (hp : Nat → Blk U) : List (Nat × Blk U) → Nat → Blk U
 | [] => hp
 | (b, x) :: ws => upds (upd1 hp b x) ws
def updβ (β : Nat → Option BI) (b : Nat) (bi : BI) : Nat → Option BI := fun b' => if b' = b then some bi else β b'

theorem upd1_same (hp : Nat → Blk U) (b : Nat) (x : Blk U) : upd1 hp b x b = x := by simp [upd1]
theorem upd1_ne (hp : Nat → Blk U) {b b' : Nat} (x : Blk U) (h : b' ≠ b) : upd1 hp b x b' = hp b' := by simp [upd1, h]

structure Tr (X W0 : Nat → Prop) (β : Nat → Option BI) (hp : Nat → Blk U) (w : World) (β' : Nat → Option BI) (hp' : Nat → Blk U) (w' : World) : Prop where
 fr : Fr W0 w w'
 keeps : Keeps (avOf X β hp) w w'
 av : ∀ k, ¬ avOf X β hp k → k < w.heap.size → ¬ avOf X β' hp' k
 β : ∀ b bi, β b = some bi → β' b = some bi

theorem Tr.refl : Tr X W0 β hp w β hp w := ⟨Fr.refl _ _, fun _ _ _ _ h => h, fun _ h _ => h, fun _ _ h => h⟩
theorem Tr.trans {β₂ : Nat → Option BI} {hp' hp₂ : Nat → Blk U} {w₂ : World} (h : Tr X W0 β hp w β' hp' w') (g : Tr X W0 β' hp' w' β₂ hp₂ w₂) : Tr X W0 β hp w β₂ hp₂ w₂ := by
 refine ⟨h.fr.trans g.fr, fun k off v hk hc => ?_, fun k hk hlt => g.av k (h.av k hk hlt) (Nat.lt_of_lt_of_le hlt h.fr.size), fun b bi hb => g.β b bi (h.β b bi hb)⟩
 have hlt : k < w.heap.size := World.block_lt_of_cell? w ⟨k, off, none⟩ hc
 exact g.keeps k off v (h.av k hk hlt) (h.keeps k off v hk hc)
theorem Tr.rep {hp' : Nat → Blk U} (h : Tr X W0 β hp w β' hp' w') {x : AV U} {v : Value} (g : RepA cc w (avOf X β hp) β x v) : RepA cc w' (avOf X β' hp') β' x v :=
 g.mono h.keeps h.av h.β

theorem HRel.drew (h : HRel cc X W0 β hp w) : HRel cc X W0 β hp w.drew ∧ Tr X W0 β hp w β hp w.drew := by
 refine ⟨⟨fun b bi hb => BlkOK.mono (w := w) (w' := w.drew) (fun _ _ _ _ h => h) (fun _ h _ => h) (fun _ _ h => h) (fun _ _ => rfl) (h.ok b bi hb), h.dom, h.new, h.inj⟩, ⟨Fr.drew _ _, fun _ _ _ _ h => h, fun _ h _ => h, fun _ _ h => h⟩⟩

theorem HRel.alloc (h : HRel cc X W0 β hp w) (nb : Nat) (hnb : β nb = none) (o : Obj) (n cap : Nat) (x : Blk U)
    (hx : Keeps (avOf X β hp) w (w.alloc o) → (∀ k, ¬ avOf X β hp k → k < w.heap.size → ¬ avOf X (updβ β nb ⟨some w.heap.size, n, cap⟩) (upd1 hp nb x) k) →
      (∀ b bi, β b = some bi → updβ β nb ⟨some w.heap.size, n, cap⟩ b = some bi) →
      BlkOK cc (w.alloc o) (avOf X (updβ β nb ⟨some w.heap.size, n, cap⟩) (upd1 hp nb x)) (updβ β nb ⟨some w.heap.size, n, cap⟩) ⟨some w.heap.size, n, cap⟩ x) :
    HRel cc X W0 (updβ β nb ⟨some w.heap.size, n, cap⟩) (upd1 hp nb x) (w.alloc o) ∧
      Tr X W0 β hp w (updβ β nb ⟨some w.heap.size, n, cap⟩) (upd1 hp nb x) (w.alloc o) := by
  have hβ : ∀ b bi, β b = some bi → updβ β nb ⟨some w.heap.size, n, cap⟩ b = some bi := by
    intro b bi hb
    have : b ≠ nb := by intro e; subst e; rw [hnb] at hb; cases hb
    simp [updβ, this, hb]
  have hold : ∀ k, k < w.heap.size → (w.alloc o).heap[k]? = w.heap[k]? := fun k hk => RowKit.Below.heap_alloc w o k hk
  have hkeeps : Keeps (avOf X β hp) w (w.alloc o) := Keeps.of_block fun k _ hk => hold k hk
  have hdomk : ∀ b bi k, β b = some bi → bi.k = some k → (hp b).isDead = false → k < w.heap.size := fun b bi k hb hk hd => (h.dom b bi k hb hk hd).2.2
  have hav : ∀ k, ¬ avOf X β hp k → k < w.heap.size → ¬ avOf X (updβ β nb ⟨some w.heap.size, n, cap⟩) (upd1 hp nb x) k := by
    rintro k hk hlt (hX | ⟨b, bi, hb, hbk, hl⟩)
    · exact hk (.inl hX)
    · by_cases e : b = nb
      · subst e
        simp only [updβ, if_true, Option.some.injEq] at hb
        subst hb
        simp at hbk
        omega
      · rw [upd1_ne _ _ e] at hl
        simp only [updβ, e, if_false] at hb
        exact hk (.inr ⟨b, bi, hb, hbk, hl⟩)
  refine ⟨⟨?_, ?_, ?_, ?_⟩, ⟨⟨rfl, rfl, rfl, by simp, fun k hk _ => hold k hk, fun k ob hob => ⟨ob, by rw [hold k (Array.getElem?_eq_some_iff.1 hob).1]; exact hob, rfl, fun _ => rfl⟩⟩, hkeeps, hav, hβ⟩⟩
  · intro b bi hb
    by_cases e : b = nb
    · subst e
      simp only [updβ, if_true, Option.some.injEq] at hb
      subst hb
      rw [upd1_same]
      exact hx hkeeps hav hβ
    · simp only [updβ, e, if_false] at hb
      rw [upd1_ne _ _ e]
      by_cases hd : (hp b).isDead = true
      · cases hh : hp b <;> simp_all [Blk.isDead, BlkOK]
      · exact (h.ok b bi hb).mono hkeeps hav hβ fun k hk => hold k (hdomk b bi k hb hk (by simpa using hd))
  · intro b bi k hb hk hd
    by_cases e : b = nb
    · subst e
      simp only [updβ, if_true, Option.some.injEq] at hb
      subst hb
      simp at hk
      subst hk
      have := h.new w.heap.size (Nat.le_refl _)
      exact ⟨this.1, this.2, by simp⟩
    · simp only [updβ, e, if_false] at hb
      rw [upd1_ne _ _ e] at hd
      have := h.dom b bi k hb hk hd
      exact ⟨this.1, this.2.1, by simp; omega⟩
  · intro k hk
    exact h.new k (by simp at hk; omega)
  · intro b b' bi bi' k hb hb' hk hk' hd hd'
    by_cases e : b = nb <;> by_cases e' : b' = nb
    · rw [e, e']
    · subst e
      simp only [updβ, if_true, Option.some.injEq] at hb
      subst hb
      simp only [updβ, e', if_false] at hb'
      rw [upd1_ne _ _ e'] at hd'
      have := hdomk b' bi' k hb' hk' hd'
      simp at hk
      omega
    · subst e'
      simp only [updβ, if_true, Option.some.injEq] at hb'
      subst hb'
      simp only [updβ, e, if_false] at hb
      rw [upd1_ne _ _ e] at hd
      have := hdomk b bi k hb hk hd
      simp at hk'
      omega
    · simp only [updβ, e, e', if_false] at hb hb'
      rw [upd1_ne _ _ e] at hd
      rw [upd1_ne _ _ e'] at hd'
      exact h.inj b b' bi bi' k hb hb' hk hk' hd hd'

theorem HRel.nowhere (h : HRel cc X W0 β hp w) (nb : Nat) (hnb : β nb = none) (cap : Nat) (T : Nat) (live : Bool) (hc : CodOK (cc T)) :
    HRel cc X W0 (updβ β nb ⟨none, 0, cap⟩) (upd1 hp nb (.row T [] live)) w ∧ Tr X W0 β hp w (updβ β nb ⟨none, 0, cap⟩) (upd1 hp nb (.row T [] live)) w := by
  have hβ : ∀ b bi, β b = some bi → updβ β nb ⟨none, 0, cap⟩ b = some bi := by
    intro b bi hb
    have : b ≠ nb := by intro e; subst e; rw [hnb] at hb; cases hb
    simp [updβ, this, hb]
  have hav : ∀ k, ¬ avOf X β hp k → k < w.heap.size → ¬ avOf X (updβ β nb ⟨none, 0, cap⟩) (upd1 hp nb (.row T [] live)) k := by
    rintro k hk hlt (hX | ⟨b, bi, hb, hbk, hl⟩)
    · exact hk (.inl hX)
    · by_cases e : b = nb
      · subst e
        simp only [updβ, if_true, Option.some.injEq] at hb
        subst hb
        simp at hbk
      · rw [upd1_ne _ _ e] at hl
        simp only [updβ, e, if_false] at hb
        exact hk (.inr ⟨b, bi, hb, hbk, hl⟩)
  refine ⟨⟨?_, ?_, h.new, ?_⟩, ⟨Fr.refl _ _, fun _ _ _ _ h => h, hav, hβ⟩⟩
  · intro b bi hb
    by_cases e : b = nb
    · subst e
      simp only [updβ, if_true, Option.some.injEq] at hb
      subst hb
      rw [upd1_same]
      exact ⟨hc, rfl, fun _ => rfl, fun k hk => by cases hk⟩
    · simp only [updβ, e, if_false] at hb
      rw [upd1_ne _ _ e]
      exact (h.ok b bi hb).mono (fun _ _ _ _ h => h) hav hβ fun k hk => rfl
  · intro b bi k hb hk hd
    by_cases e : b = nb
    · subst e
      simp only [updβ, if_true, Option.some.injEq] at hb
      subst hb
      simp at hk
    · simp only [updβ, e, if_false] at hb
      rw [upd1_ne _ _ e] at hd
      exact h.dom b bi k hb hk hd
  · intro b b' bi bi' k hb hb' hk hk' hd hd'
    by_cases e : b = nb
    · subst e
      simp only [updβ, if_true, Option.some.injEq] at hb
      subst hb
      simp at hk
    · by_cases e' : b' = nb
      · subst e'
        simp only [updβ, if_true, Option.some.injEq] at hb'
        subst hb'
        simp at hk'
      · simp only [updβ, e, e', if_false] at hb hb'
        rw [upd1_ne _ _ e] at hd
        rw [upd1_ne _ _ e'] at hd'
        exact h.inj b b' bi bi' k hb hb' hk hk' hd hd'

theorem setRow_kind (w : World) (k0 : Nat) (c : Array Value) (k : Nat) (ob : Obj) (h : w.heap[k]? = some ob) :
  ∃ o', (w.setRow k0 c).heap[k]? = some o' ∧ fixedO o' = fixedO ob ∧ (fixedO ob = true → o' = ob) := by
 by_cases e : k = k0
 ·subst e
  obtain ⟨hlt, hk⟩ := Array.getElem?_eq_some_iff.1 h
  refine ⟨_, by show (w.heap.modify k _)[k]? = some _; rw [Array.getElem?_eq_getElem (by rw [Array.size_modify]; exact hlt), Array.getElem_modify_self], ?_, ?_⟩
  ·rw [hk]; cases ob <;> rfl
  ·rw [hk]; cases ob <;> simp [fixedO]
 ·exact ⟨ob, by rw [setRow_other w k0 k c e]; exact h, rfl, fun _ => rfl⟩

theorem HRel.write (h : HRel cc X W0 β hp w) (b0 : Nat) (bi0 : BI) (k0 : Nat) (hb0 : β b0 = some bi0) (hk0 : bi0.k = some k0) (hl0 : (hp b0).isLive = true)
  (x : Blk U) (hxl : x.isLive = true) (c : Array Value)
  (hx : Keeps (avOf X β hp) w (w.setRow k0 c) → (∀ k, ¬ avOf X β hp k → k < w.heap.size → ¬ avOf X β (upd1 hp b0 x) k) → BlkOK cc (w.setRow k0 c) (avOf X β (upd1 hp b0 x)) β bi0 x) :
  HRel cc X W0 β (upd1 hp b0 x) (w.setRow k0 c) ∧ Tr X W0 β hp w β (upd1 hp b0 x) (w.setRow k0 c) := by
 have hd0 : (hp b0).isDead = false := by cases hh : hp b0 <;> simp_all [Blk.isLive, Blk.isDead]
 have hdx : x.isDead = false := by cases x <;> simp_all [Blk.isLive, Blk.isDead]
 have hsz : (w.setRow k0 c).heap.size = w.heap.size := by simp [World.setRow]
 have hold : ∀ k, k ≠ k0 → (w.setRow k0 c).heap[k]? = w.heap[k]? := fun k hk => setRow_other w k0 k c hk
 have havk0 : avOf X β hp k0 := .inr ⟨b0, bi0, hb0, hk0, hl0⟩
 have hkeeps : Keeps (avOf X β hp) w (w.setRow k0 c) := Keeps.of_block fun k hk _ => hold k (fun e => hk (e ▸ havk0))
 have hlive : ∀ b, (upd1 hp b0 x b).isLive = (hp b).isLive := by
  intro b
  by_cases e : b = b0
  ·subst e; rw [upd1_same, hxl, hl0]
  ·rw [upd1_ne _ _ e]
 have hdead : ∀ b, (upd1 hp b0 x b).isDead = (hp b).isDead := by
  intro b
  by_cases e : b = b0
  ·subst e; rw [upd1_same, hdx, hd0]
  ·rw [upd1_ne _ _ e]
 have hav : ∀ k, ¬ avOf X β hp k → k < w.heap.size → ¬ avOf X β (upd1 hp b0 x) k := by
  rintro k hk hlt (hX | ⟨b, bi, hb, hbk, hl⟩)
  ·exact hk (.inl hX)
  ·rw [hlive] at hl
   exact hk (.inr ⟨b, bi, hb, hbk, hl⟩)
 refine ⟨⟨?_, ?_, ?_, ?_⟩, ⟨⟨rfl, rfl, rfl, by rw [hsz]; exact Nat.le_refl _, fun k hk hW => ?_, fun k ob hob => ?_⟩, hkeeps, hav, fun _ _ h => h⟩⟩
 ·intro b bi hb
  by_cases e : b = b0
  ·subst e
   rw [hb0] at hb
   cases hb
   rw [upd1_same]
   exact hx hkeeps hav
  ·rw [upd1_ne _ _ e]
   by_cases hd : (hp b).isDead = true
   ·cases hh : hp b <;> simp_all [Blk.isDead, BlkOK]
   ·refine (h.ok b bi hb).mono hkeeps hav (fun _ _ h => h) fun k hk => hold k fun e' => ?_
    subst e'
    exact e (h.inj b b0 bi bi0 k hb hb0 hk hk0 (by simpa using hd) hd0)
 ·intro b bi k hb hk hd
  rw [hdead] at hd
  have := h.dom b bi k hb hk hd
  exact ⟨this.1, this.2.1, by rw [hsz]; exact this.2.2⟩
 ·intro k hk
  exact h.new k (by rw [hsz] at hk; exact hk)
 ·intro b b' bi bi' k hb hb' hk hk' hd hd'
  rw [hdead] at hd hd'
  exact h.inj b b' bi bi' k hb hb' hk hk' hd hd'
 ·exact hold k fun e => hW (e ▸ (h.dom b0 bi0 k0 hb0 hk0 hd0).1)
 ·exact setRow_kind w k0 c k ob hob

theorem HRel.less (h : HRel cc X W0 β hp w) (b0 : Nat) (x : Blk U) (hl : x.isLive = true → (hp b0).isLive = true) (hd : x.isDead = false → (hp b0).isDead = false)
    (hx : ∀ bi, β b0 = some bi → ∀ av, BlkOK cc w av β bi (hp b0) → BlkOK cc w av β bi x) :
    HRel cc X W0 β (upd1 hp b0 x) w ∧ Tr X W0 β hp w β (upd1 hp b0 x) w := by
  have hav : ∀ k, ¬ avOf X β hp k → k < w.heap.size → ¬ avOf X β (upd1 hp b0 x) k := by
    rintro k hk hlt (hX | ⟨b, bi, hb, hbk, hl'⟩)
    · exact hk (.inl hX)
    · by_cases e : b = b0
      · subst e
        rw [upd1_same] at hl'
        exact hk (.inr ⟨b, bi, hb, hbk, hl hl'⟩)
      · rw [upd1_ne _ _ e] at hl'
        exact hk (.inr ⟨b, bi, hb, hbk, hl'⟩)
  have hdead : ∀ b, (upd1 hp b0 x b).isDead = false → (hp b).isDead = false := by
    intro b
    by_cases e : b = b0
    · subst e; rw [upd1_same]; exact hd
    · rw [upd1_ne _ _ e]; exact id
  refine ⟨⟨?_, ?_, h.new, ?_⟩, ⟨Fr.refl _ _, fun _ _ _ _ h => h, hav, fun _ _ h => h⟩⟩
  · intro b bi hb
    by_cases e : b = b0
    · subst e
      rw [upd1_same]
      exact hx bi hb _ ((h.ok b bi hb).mono (fun _ _ _ _ h => h) hav (fun _ _ h => h) fun _ _ => rfl)
    · rw [upd1_ne _ _ e]
      exact (h.ok b bi hb).mono (fun _ _ _ _ h => h) hav (fun _ _ h => h) fun _ _ => rfl
  · intro b bi k hb hk hd'
    exact h.dom b bi k hb hk (hdead b hd')
  · intro b b' bi bi' k hb hb' hk hk' hd hd'
    exact h.inj b b' bi bi' k hb hb' hk hk' (hdead b hd) (hdead b' hd')

theorem HRel.dead (h : HRel cc X W0 β hp w) (b0 : Nat) : HRel cc X W0 β (upd1 hp b0 .dead) w ∧ Tr X W0 β hp w β (upd1 hp b0 .dead) w :=
 h.less b0 .dead (fun h => by cases h) (fun h => by cases h) fun _ _ _ _ => trivial
theorem HRel.freeze (h : HRel cc X W0 β hp w) (b0 : Nat) {T : Nat} {l : List (U T)} {live : Bool} (hb : hp b0 = .row T l live) :
  HRel cc X W0 β (upd1 hp b0 (.row T l false)) w ∧ Tr X W0 β hp w β (upd1 hp b0 (.row T l false)) w :=
 h.less b0 _ (fun h => by cases h) (fun _ => by rw [hb]; rfl) fun bi _ av hok => by rw [hb] at hok; exact hok

theorem HRel.mv (h : HRel cc X W0 β hp w) (b0 nb : Nat) (bi0 bi : BI) (hb0 : β b0 = some bi0) (hk0 : bi.k = bi0.k) (hl0 : (hp b0).isLive = true) (hnb : β nb = none) (x : Blk U) (hxl : x.isLive = true)
    (hx : ∀ av β', BlkOK cc w av β' bi0 (hp b0) → BlkOK cc w av β' bi x) :
    HRel cc X W0 (updβ β nb bi) (upd1 (upd1 hp b0 .dead) nb x) w ∧ Tr X W0 β hp w (updβ β nb bi) (upd1 (upd1 hp b0 .dead) nb x) w := by
  have hd0 : (hp b0).isDead = false := by cases hh : hp b0 <;> simp_all [Blk.isLive, Blk.isDead]
  have hdx : x.isDead = false := by cases x <;> simp_all [Blk.isLive, Blk.isDead]
  have hne : nb ≠ b0 := by intro e; subst e; rw [hnb] at hb0; cases hb0
  have hβ : ∀ b bi', β b = some bi' → updβ β nb bi b = some bi' := by
    intro b bi' hb
    have : b ≠ nb := by intro e; subst e; rw [hnb] at hb; cases hb
    simp [updβ, this, hb]
  have hav : ∀ k, ¬ avOf X β hp k → k < w.heap.size → ¬ avOf X (updβ β nb bi) (upd1 (upd1 hp b0 .dead) nb x) k := by
    rintro k hk hlt (hX | ⟨b, bi', hb, hbk, hl⟩)
    · exact hk (.inl hX)
    · by_cases e : b = nb
      · subst e
        simp only [updβ, if_true, Option.some.injEq] at hb
        subst hb
        exact hk (.inr ⟨b0, bi0, hb0, hk0 ▸ hbk, hl0⟩)
      · rw [upd1_ne _ _ e] at hl
        simp only [updβ, e, if_false] at hb
        by_cases e' : b = b0
        · subst e'
          rw [upd1_same] at hl
          cases hl
        · rw [upd1_ne _ _ e'] at hl
          exact hk (.inr ⟨b, bi', hb, hbk, hl⟩)
  have other : ∀ b, b ≠ nb → (upd1 (upd1 hp b0 .dead) nb x b).isDead = false → b ≠ b0 ∧ (hp b).isDead = false := by
    intro b e hd
    rw [upd1_ne _ _ e] at hd
    by_cases e' : b = b0
    · subst e'; rw [upd1_same] at hd; cases hd
    · rw [upd1_ne _ _ e'] at hd
      exact ⟨e', hd⟩
  refine ⟨⟨?_, ?_, h.new, ?_⟩, ⟨Fr.refl _ _, fun _ _ _ _ h => h, hav, hβ⟩⟩
  · intro b bi' hb
    by_cases e : b = nb
    · subst e
      simp only [updβ, if_true, Option.some.injEq] at hb
      subst hb
      rw [upd1_same]
      exact hx _ _ ((h.ok b0 bi0 hb0).mono (fun _ _ _ _ h => h) hav hβ fun _ _ => rfl)
    · rw [upd1_ne _ _ e]
      simp only [updβ, e, if_false] at hb
      by_cases e' : b = b0
      · subst e'; rw [upd1_same]; trivial
      · rw [upd1_ne _ _ e']
        exact (h.ok b bi' hb).mono (fun _ _ _ _ h => h) hav hβ fun _ _ => rfl
  · intro b bi' k hb hk hd
    by_cases e : b = nb
    · subst e
      simp only [updβ, if_true, Option.some.injEq] at hb
      subst hb
      exact h.dom b0 bi0 k hb0 (hk0 ▸ hk) hd0
    · simp only [updβ, e, if_false] at hb
      exact h.dom b bi' k hb hk (other b e hd).2
  · intro b b' bi1 bi2 k hb hb' hk hk' hd hd'
    by_cases e : b = nb
    · by_cases e' : b' = nb
      · rw [e, e']
      · exfalso
        subst e
        simp only [updβ, if_true, Option.some.injEq] at hb
        subst hb
        simp only [updβ, e', if_false] at hb'
        obtain ⟨h1, h2⟩ := other b' e' hd'
        exact h1 (h.inj b' b0 bi2 bi0 k hb' hb0 hk' (hk0 ▸ hk) h2 hd0)
    · simp only [updβ, e, if_false] at hb
      obtain ⟨h1, h2⟩ := other b e hd
      by_cases e' : b' = nb
      · exfalso
        subst e'
        simp only [updβ, if_true, Option.some.injEq] at hb'
        subst hb'
        exact h1 (h.inj b b0 bi1 bi0 k hb hb0 hk (hk0 ▸ hk') h2 hd0)
      · simp only [updβ, e', if_false] at hb'
        obtain ⟨h3, h4⟩ := other b' e' hd'
        exact h.inj b b' bi1 bi2 k hb hb' hk hk' h2 h4

end Go.Proofs.Ytmlbioapefgioaa.Va

/- Types held against the program; loads, stores, new variables. -/
namespace Go.Proofs.Ytmlbioapefgioaa.Va
open Go

variable {U : Nat → Type}

def leafB : IV U → Value → Bool
 | .int k n, .int k' n' => decide (k = k') && n == n'
 | .bool b, .bool b' => b == b'
 | .str s, .string s' => s.data.isEmpty && s'.data.isEmpty
 | .flt k n, .float k' n' => decide (k = k') && n == n'
 | .nilp, .pointer none => true
 | .nils, .slice none 0 0 => true
 | .nilf, .nilFunc => true
 | .nili, .nilIface => true
 | .slice _ l, .slice none 0 0 => l.isEmpty
 | _, _ => false

theorem leafB_rep {x : IV U} {v : Value} (h : leafB x v = true) {cc : (T : Nat) → Cod U T} {w : World} {av : Nat → Prop} : Rep cc w av x v := by
 unfold leafB at h
 split at h <;> simp at h
 ·obtain ⟨rfl, rfl⟩ := h; exact .int _ _
 ·subst h; exact .bool _
 ·rename_i s s'
  obtain ⟨h1, h2⟩ := h
  have : s = s' := by cases s; cases s'; simp_all
  subst this
  exact .str _
 ·obtain ⟨rfl, rfl⟩ := h; exact .flt _ _
 ·exact .nilp
 ·exact .nils
 ·exact .nilf
 ·exact .nili
 ·subst h; exact .slice0 _ _ _

def leavesB (xs : List (IV U)) (vs : Array Value) : Bool :=
 xs.length == vs.size && (List.range xs.length).all fun j => match xs[j]?, vs[j]? with | some x, some v => leafB x v | _, _ => false

theorem leavesB_rep {xs : List (IV U)} {vs : Array Value} (h : leavesB xs vs = true) :
  vs.size = xs.length ∧ ∀ (cc : (T : Nat) → Cod U T) (w : World) (av : Nat → Prop) (j : Nat) (x : IV U) (v : Value), xs[j]? = some x → vs[j]? = some v → Rep cc w av x v := by
 simp only [leavesB, Bool.and_eq_true, beq_iff_eq, List.all_eq_true, List.mem_range] at h
 refine ⟨h.1.symm, fun cc w av j x v hx hv => ?_⟩
 have hj : j < xs.length := (List.getElem?_eq_some_iff.1 hx).1
 have := h.2 j hj
 rw [hx, hv] at this
 exact leafB_rep this

def descB (P : Program) (t : TypeId) : TD → Bool
 | .int k => match P.underlying t with | some (.int k') => decide (k = k') | _ => false
 | .bool => match P.underlying t with | some .bool => true | _ => false
 | .str => match P.underlying t with | some .string => true | _ => false
 | .flt k => match P.underlying t with | some (.float k') => decide (k = k') | _ => false
 | .slice e => match P.underlying t with | some (.slice e') => e == e' | _ => false
 | .arr n e => match P.underlying t with | some (.array n' e') => n == n' && e == e' | _ => false
 | .struct fs => match P.underlying t with | some (.struct fields) => fields.toList.map (fun f => (f.type, f.offset)) == fs | _ => false
 | .ptr e => match P.underlying t with | some (.pointer e') => e == e' | _ => false
 | .func => match P.underlying t with | some (.func ..) => true | _ => false
 | .map k => match P.underlying t with | some (.map k' _) => k == k' | _ => false
 | .other => true

def arrZ (E : Env U) (n : Nat) (e : TypeId) (z : Array Value) : Bool :=
 z.size == n * (E.ti e).size &&
  ((E.ti e).tag == 0 || !(decide (rowBig < n)) || (List.range n).all fun q => leavesB ((E.cc (E.ti e).tag).enc (E.cc (E.ti e).tag).dflt) (z.extract (q * (E.ti e).size) (q * (E.ti e).size + (E.ti e).size)))
def zeroB (E : Env U) (t : TypeId) : Option Value → Bool
 | none => (E.ti t).zero.length == 0 && (E.ti t).tag == 0
 | some z => ((E.ti t).zero.length == 0 || (leavesB (E.ti t).zero z.cells && (E.ti t).zero.length == (E.ti t).size)) &&
   ((E.ti t).tag == 0 || ((E.cc (E.ti t).tag).sz == (E.ti t).size && leavesB ((E.cc (E.ti t).tag).enc (E.cc (E.ti t).tag).dflt) z.cells))
def kindB (E : Env U) (i : TypeInfo) : TD → Bool
 | .arr n e => (match i.zero with | some z => arrZ E n e z.cells | none => (E.ti e).tag == 0 || !(decide (rowBig < n))) && i.size == n * (E.ti e).size && !(E.ti e).d.isOther
 | .slice e => !(E.ti e).d.isOther || (E.ti e).tag == 0
 | .struct [] => (match i.zero with | some z => z.cells.size == 0 | none => false)
 | _ => true

def inRow (E : Env U) : Nat → List (TypeId × Nat) → Bool
 | _, [] => true
 | o, (t, off) :: fs => off == o && inRow E (o + (E.ti t).size) fs
def eqB (P : Program) (E : Env U) : Nat → TypeId → Bool
 | 0, _ => false
 | n + 1, t => !(E.ti t).d.isOther && match (E.ti t).d with
  | .int _ | .bool | .str => true
  | .struct fs => !(P.stoodInHeld t) && inRow E 0 fs && ((fs.map fun p => (E.ti p.1).size).sum == (E.ti t).size) && fs.all (fun p => eqB P E n p.1) &&
   (match P.underlying t with | some (.struct fields) => fields.toList.all fun f => f.name != "_" | _ => false)
  | .arr _ e => eqB P E n e
  | _ => false

def tyB (P : Program) (E : Env U) (t : TypeId) : Bool :=
  (E.ti t).d.isOther ||
  (descB P t (E.ti t).d &&
   match P.info? t with
   | none => false
   | some i => i.size == (E.ti t).size && i.bytes == (E.ti t).bytes &&
     ((E.ti t).isAgg || (E.ti t).size == 1) && zeroB E t i.zero && kindB E i (E.ti t).d &&
     (!(E.ti t).eqs || (!(P.eqGuardType P.depth t) && eqB P E 6 t)))

structure EnvOK (P : Program) (E : Env U) : Prop where
 ty : ∀ t, tyB P E t = true
 cod : ∀ T, 0 < (E.cc T).sz → CodOK (E.cc T)
 tag0 : ∀ t, (E.ti t).tag ≠ 0 → 0 < (E.cc (E.ti t).tag).sz
 btsz : (E.cc E.bt).sz = 1
 toB : ∀ l, (E.toB l).length = l.length ∧ ∀ (i : Nat) (n : Int), l[i]? = some n → ∃ x, (E.toB l)[i]? = some x ∧ (E.cc E.bt).enc x = [.int .u8 n]
 ofB : ∀ l, (E.ofB l).length = l.length ∧ ∀ (i : Nat) x, l[i]? = some x → ∃ n, (E.ofB l)[i]? = some n ∧ (E.cc E.bt).enc x = [.int .u8 n]

variable {P : Program} {E : Env U}

theorem EnvOK.all (h : EnvOK P E) {t : TypeId} (ho : (E.ti t).d.isOther = false) : descB P t (E.ti t).d = true ∧ ∃ i, P.info? t = some i ∧ i.size = (E.ti t).size ∧ i.bytes = (E.ti t).bytes ∧
  ((E.ti t).isAgg = false → (E.ti t).size = 1) ∧ zeroB E t i.zero = true ∧ kindB E i (E.ti t).d = true ∧ ((E.ti t).eqs = true → P.eqGuardType P.depth t = false ∧ eqB P E 6 t = true) := by
 have := h.ty t
 simp only [tyB, ho, Bool.false_or, Bool.and_eq_true] at this
 obtain ⟨h1, h2⟩ := this
 refine ⟨h1, ?_⟩
 cases hi : P.info? t with
 | none => simp [hi] at h2
 | some i =>
  simp only [hi, Bool.and_eq_true, beq_iff_eq, Bool.or_eq_true, Bool.not_eq_true'] at h2
  obtain ⟨⟨⟨⟨⟨a, b⟩, c⟩, d⟩, e⟩, f⟩ := h2
  refine ⟨i, rfl, a, b, fun ha => ?_, d, e, fun he => ?_⟩
  ·rcases c with c | c
   ·rw [ha] at c; cases c
   ·exact c
  ·rcases f with f | f
   ·rw [he] at f; cases f
   ·exact f

theorem EnvOK.desc (h : EnvOK P E) {t : TypeId} (ho : (E.ti t).d.isOther = false) : descB P t (E.ti t).d = true := (h.all ho).1

theorem EnvOK.info (h : EnvOK P E) {t : TypeId} (ho : (E.ti t).d.isOther = false) : ∃ i, P.info? t = some i ∧ i.size = (E.ti t).size ∧ i.bytes = (E.ti t).bytes ∧
  ((E.ti t).isAgg = false → (E.ti t).size = 1) := by
 obtain ⟨_, i, a, b, c, d, _⟩ := h.all ho
 exact ⟨i, a, b, c, d⟩

theorem EnvOK.zero (h : EnvOK P E) {t : TypeId} (ho : (E.ti t).d.isOther = false) (hz : (E.ti t).zero.length ≠ 0) :
  ∃ i z, P.info? t = some i ∧ i.zero = some z ∧ leavesB (E.ti t).zero z.cells = true ∧ (E.ti t).zero.length = (E.ti t).size := by
 obtain ⟨_, i, hi, _, _, _, h3, _⟩ := h.all ho
 cases hzz : i.zero with
 | none => simp [zeroB, hzz, hz] at h3
 | some z =>
  simp only [zeroB, hzz, Bool.and_eq_true, Bool.or_eq_true, beq_iff_eq] at h3
  rcases h3.1 with h4 | h4
  ·exact absurd h4 hz
  ·exact ⟨i, z, hi, hzz, h4.1, h4.2⟩

theorem EnvOK.tag (h : EnvOK P E) {t : TypeId} (ho : (E.ti t).d.isOther = false) (ht : (E.ti t).tag ≠ 0) :
  ∃ i z, P.info? t = some i ∧ i.zero = some z ∧ i.size = (E.ti t).size ∧ i.bytes = (E.ti t).bytes ∧ (E.cc (E.ti t).tag).sz = (E.ti t).size ∧ CodOK (E.cc (E.ti t).tag) ∧
   leavesB ((E.cc (E.ti t).tag).enc (E.cc (E.ti t).tag).dflt) z.cells = true := by
 obtain ⟨_, i, hi, hs, hb, _, h3, _⟩ := h.all ho
 cases hzz : i.zero with
 | none => simp [zeroB, hzz, ht] at h3
 | some z =>
  simp only [zeroB, hzz, Bool.and_eq_true, Bool.or_eq_true, beq_iff_eq] at h3
  rcases h3.2 with h4 | h4
  ·exact absurd h4 ht
  ·exact ⟨i, z, hi, hzz, hs, hb, h4.1, h.cod _ (h.tag0 t ht), h4.2⟩

theorem EnvOK.sliceE (h : EnvOK P E) {t e : TypeId} (hd : (E.ti t).d = .slice e) : P.underlying t = some (.slice e) ∧ ((E.ti e).tag ≠ 0 → (E.ti e).d.isOther = false) := by
 have ho : (E.ti t).d.isOther = false := by rw [hd]; rfl
 obtain ⟨h1, i, _, _, _, _, _, h2, _⟩ := h.all ho
 rw [hd] at h1 h2
 refine ⟨?_, fun ht => ?_⟩
 ·simp only [descB] at h1
  split at h1 <;> simp_all
 ·simp only [kindB, Bool.or_eq_true, Bool.not_eq_true', beq_iff_eq] at h2
  rcases h2 with h4 | h4
  ·exact h4
  ·exact absurd h4 ht

theorem EnvOK.arrE (h : EnvOK P E) {t e : TypeId} {n : Nat} (hd : (E.ti t).d = .arr n e) : P.underlying t = some (.array n e) ∧ (E.ti e).d.isOther = false ∧ (E.ti t).size = n * (E.ti e).size := by
 have ho : (E.ti t).d.isOther = false := by rw [hd]; rfl
 obtain ⟨h1, i, _, hs, _, _, _, h2, _⟩ := h.all ho
 rw [hd] at h1 h2
 simp only [kindB, Bool.and_eq_true, beq_iff_eq, Bool.not_eq_true'] at h2
 refine ⟨?_, h2.2, by rw [← hs]; exact h2.1.2⟩
 simp only [descB] at h1
 split at h1 <;> simp_all

theorem EnvOK.emptyE (h : EnvOK P E) {t : TypeId} (hd : (E.ti t).d = .struct []) : P.underlying t = some (.struct #[]) ∧ ∃ i z, P.info? t = some i ∧ i.zero = some z ∧ z.cells = #[] := by
 have ho : (E.ti t).d.isOther = false := by rw [hd]; rfl
 obtain ⟨h1, i, hi, _, _, _, _, h2, _⟩ := h.all ho
 rw [hd] at h1 h2
 refine ⟨?_, i, ?_⟩
 ·simp only [descB] at h1
  split at h1
  ·rename_i fields hu
   have : fields = #[] := by
    have h1 : fields.toList.map (fun f => (f.type, f.offset)) = [] := by simpa using h1
    have h1 : fields.toList = [] := by simpa using h1
    cases fields; simp_all
   rw [hu, this]
  ·cases h1
 ·simp only [kindB] at h2
  cases hz : i.zero with
  | none => rw [hz] at h2; cases h2
  | some z =>
   rw [hz] at h2
   exact ⟨z, hi, rfl, Array.eq_empty_of_size_eq_zero (by simpa using h2)⟩

theorem EnvOK.mapE (h : EnvOK P E) {t k : TypeId} (hd : (E.ti t).d = .map k) : ∃ e, P.underlying t = some (.map k e) := by
 have h1 := h.desc (t := t) (by rw [hd]; rfl)
 rw [hd] at h1
 simp only [descB] at h1
 split at h1
 ·rename_i k' e hu
  have : k = k' := by simpa using h1
  subst this
  exact ⟨e, hu⟩
 ·cases h1

theorem run_isAgg (h : EnvOK P E) {t : TypeId} (ho : (E.ti t).d.isOther = false) (w : World) : (isAgg t).run P w = .ok (E.ti t).isAgg w := by
 have h1 := h.desc ho
 unfold TI.isAgg
 cases hd : (E.ti t).d <;> simp only [hd, descB, TD.isOther] at h1 ho
 all_goals (first | (exact absurd ho (by decide)) | skip)
 all_goals (split at h1 <;> first | (rename_i hu; simp [isAgg, run_underlying hu]) | (simp at h1))

theorem run_sizeOf' (h : EnvOK P E) {t : TypeId} (ho : (E.ti t).d.isOther = false) (w : World) : (sizeOf t).run P w = .ok (E.ti t).size w := by
 obtain ⟨i, hi, hs, _⟩ := h.info ho
 simp [sizeOf, typeInfo, hi, hs]

end Go.Proofs.Ytmlbioapefgioaa.Va

/- Loads, stores, rows let go. -/
namespace Go.Proofs.Ytmlbioapefgioaa.Va
open Go

variable {U : Nat → Type} {α : Type} {R : Type} {P : Program} {E : Env U} {X W0 : Nat → Prop} {β : Nat → Option BI} {hp : Nat → Blk U} {w : World}

theorem cut_some : ∀ {off n : Nat} {cs xs : List α}, cut off n cs = some xs → xs.length = n ∧ off + n ≤ cs.length ∧ ∀ (j : Nat) (x : α), xs[j]? = some x → cs[off + j]? = some x := by
 intro off
 induction off with
 | zero =>
  intro n
  induction n with
  | zero => intro cs xs h; simp [cut] at h; subst h; simp
  | succ n ih =>
   intro cs xs h
   cases cs with
   | nil => simp [cut] at h
   | cons c cs =>
    simp only [cut, Option.map_eq_some_iff] at h
    obtain ⟨ys, hy, rfl⟩ := h
    obtain ⟨h1, h2, h3⟩ := ih hy
    refine ⟨by simp [h1], by simp; omega, fun j x hx => ?_⟩
    cases j with
    | zero => simpa using hx
    | succ j => simpa using h3 j x (by simpa using hx)
 | succ off ih =>
  intro n cs xs h
  cases cs with
  | nil => simp [cut] at h
  | cons c cs =>
   simp only [cut] at h
   obtain ⟨h1, h2, h3⟩ := ih h
   refine ⟨h1, by simp; omega, fun j x hx => ?_⟩
   rw [show off + 1 + j = (off + j) + 1 by omega, List.getElem?_cons_succ]
   exact h3 j x hx

theorem splice_some : ∀ {off : Nat} {vs cs cs' : List α}, splice off vs cs = some cs' → off + vs.length ≤ cs.length ∧ cs' = cs.take off ++ vs ++ cs.drop (off + vs.length) := by
 intro off
 induction off with
 | zero =>
  intro vs
  induction vs with
  | nil => intro cs cs' h; cases cs <;> simp [splice] at h <;> subst h <;> simp
  | cons v vs ih =>
   intro cs cs' h
   cases cs with
   | nil => simp [splice] at h
   | cons c cs =>
    simp only [splice, Option.map_eq_some_iff] at h
    obtain ⟨ys, hy, rfl⟩ := h
    obtain ⟨h1, h2⟩ := ih hy
    refine ⟨by simp at h1 ⊢; omega, ?_⟩
    rw [h2]
    simp [Nat.add_comm 1]
 | succ off ih =>
  intro vs cs cs' h
  cases cs with
  | nil => cases vs <;> simp [splice] at h
  | cons c cs =>
   have h' : splice off vs cs = some (cs'.tail) ∧ cs' = c :: cs'.tail := by
    cases vs <;> simp only [splice, Option.map_eq_some_iff] at h <;> obtain ⟨ys, hy, rfl⟩ := h <;> exact ⟨hy, rfl⟩
   obtain ⟨h1, h2⟩ := ih h'.1
   refine ⟨by simp; omega, ?_⟩
   rw [h'.2, h2, show off + 1 + vs.length = (off + vs.length) + 1 by omega]
   simp

theorem splice_length {off : Nat} {vs cs cs' : List α} (h : splice off vs cs = some cs') : cs'.length = cs.length := by
 obtain ⟨h1, h2⟩ := splice_some h
 rw [h2]; simp; omega

theorem splice_get {off : Nat} {vs cs cs' : List α} (h : splice off vs cs = some cs') {j : Nat} {x : α} (hx : cs'[j]? = some x) :
    (off ≤ j ∧ j < off + vs.length ∧ vs[j - off]? = some x) ∨ ((j < off ∨ off + vs.length ≤ j) ∧ cs[j]? = some x) := by
  obtain ⟨h1, h2⟩ := splice_some h
  rw [h2] at hx
  by_cases ha : j < off
  · right
    refine ⟨.inl ha, ?_⟩
    rw [List.append_assoc, List.getElem?_append_left (by simp; omega), List.getElem?_take] at hx
    simpa [ha] using hx
  · by_cases hb : j < off + vs.length
    · left
      refine ⟨by omega, hb, ?_⟩
      rw [List.append_assoc, List.getElem?_append_right (by simp; omega), List.getElem?_append_left (by simp; omega)] at hx
      have : j - (cs.take off).length = j - off := by simp; omega
      rwa [this] at hx
    · right
      refine ⟨.inr (by omega), ?_⟩
      rw [List.getElem?_append_right (by simp; omega), List.getElem?_drop] at hx
      have : off + vs.length + (j - (cs.take off ++ vs).length) = j := by simp; omega
      rwa [this] at hx

theorem add_lit' (k o j : Nat) : (⟨k, o, none⟩ : Addr).add j = ⟨k, o + j, none⟩ := by unfold Addr.add; split <;> simp_all

theorem run_loadVar' (h : EnvOK P E) {t : TypeId} (ho : (E.ti t).d.isOther = false) {av : Nat → Prop} (k o : Nat) (xs : List (AV U)) (hl : xs.length = (E.ti t).size)
  (hc : ∀ (j : Nat) (x : AV U), xs[j]? = some x → ∃ v, w.cell? ⟨k, o + j, none⟩ = some v ∧ RepA E.cc w av β x v) :
  ∃ vv, (loadVar t ⟨k, o, none⟩).run P w = .ok vv w ∧ RepA E.cc w av β (packA (E.ti t).isAgg xs) vv := by
 cases hag : (E.ti t).isAgg with
 | true =>
  have hr := run_loadCells (P := P) w ⟨k, o, none⟩ (E.ti t).size (fun j => (w.cell? ⟨k, o + j, none⟩).getD undef) (fun j hj => by
   obtain ⟨v, hv, _⟩ := hc j xs[j] (List.getElem?_eq_getElem (by omega))
   rw [add_lit', hv]; rfl)
  refine ⟨_, by simp [loadVar, run_isAgg h ho, hag, run_sizeOf' h ho, hr]; rfl, ?_⟩
  refine .agg (by simp [hl]) fun j x v hx hv => ?_
  obtain ⟨v', hv', hr'⟩ := hc j x hx
  simp only [List.getElem?_toArray, List.getElem?_map, Option.map_eq_some_iff] at hv
  obtain ⟨q, hq, rfl⟩ := hv
  have : q = j := by
   have := List.getElem?_eq_some_iff.1 hq
   obtain ⟨h1, h2⟩ := this
   simpa using h2.symm
  subst this
  rw [hv']
  exact hr'
 | false =>
  obtain ⟨i, hi, hs, hb, h1⟩ := h.info ho
  have h1' := h1 hag
  obtain ⟨x, rfl⟩ : ∃ x, xs = [x] := by
   match xs, hl with
   | [x], _ => exact ⟨x, rfl⟩
   | [], hl => simp at hl; omega
   | _ :: _ :: _, hl => simp at hl; omega
  obtain ⟨v, hv, hr⟩ := hc 0 x rfl
  refine ⟨v, ?_, hr⟩
  simp only [Nat.add_zero] at hv
  simp [loadVar, run_isAgg h ho, hag, hv]

theorem run_storeVar' (h : EnvOK P E) {t : TypeId} (ho : (E.ti t).d.isOther = false) (k o : Nat) (v : Value) (c : Array Value) (te : TypeId) (hg : w.heap[k]? = some (.cells c te (0, 0)))
  (hs : v.cells.size = (E.ti t).size) (hfit : o + v.cells.size ≤ c.size) (h1 : ∀ u ∈ v.cells.toList, u.oneCell' = true) :
  (storeVar t ⟨k, o, none⟩ v).run P w = .ok () (w.setRow k (c.toList.take o ++ v.cells.toList ++ c.toList.drop (o + v.cells.size)).toArray) := by
 have hst := run_storeCells_at P k o te v.cells.toList 0 c w hg (by simpa using hfit) h1
 simp only [Nat.add_zero, Array.length_toList] at hst
 simp only [storeVar, Sem.run_bind, run_sizeOf' h ho, Result.andThen_ok]
 rw [if_neg (by simp [hs])]
 exact hst

theorem cells_rep {av : Nat → Prop} {x : AV U} {v : Value} {xs : List (AV U)} (h : RepA E.cc w av β x v) (hx : x.cells = some xs) :
  v.cells.size = xs.length ∧ ∀ (j : Nat) (y : AV U) (u : Value), xs[j]? = some y → v.cells[j]? = some u → RepA E.cc w av β y u ∧ u.oneCell' = true := by
 have one : ∀ {y : AV U} {u : Value}, y.isCell = true → RepA E.cc w av β y u → u.oneCell' = true := by
  intro y u hy hr
  cases hr <;> first | rfl | (simp [AV.isCell] at hy; done) | skip
  rename_i hr
  exact hr.one
 have single : ∀ {y : AV U} {u : Value}, y.isCell = true → RepA E.cc w av β y u → u.cells = #[u] := by
  intro y u hy hr
  have := one hy hr
  cases u <;> first | rfl | (simp [Value.oneCell'] at this)
 cases x with
 | agg cs =>
  simp only [AV.cells] at hx
  split at hx
  ·rename_i hall
   cases hx
   cases h with
   | agg hl hj =>
    refine ⟨hl, fun j y u hy hu => ?_⟩
    have := hj j y u hy hu
    exact ⟨this, one (List.all_eq_true.1 hall y (List.mem_of_getElem? hy)) this⟩
  ·cases hx
 | tup => simp [AV.cells] at hx
 | und => simp [AV.cells] at hx
 | bot => simp [AV.cells] at hx
 | gh => simp [AV.cells] at hx
 | _ =>
  simp only [AV.cells, Option.some.injEq] at hx
  subst hx
  have hs := single (by rfl) h
  refine ⟨by rw [hs]; rfl, fun j y u hy hu => ?_⟩
  rw [hs] at hu
  have hj : j = 0 := by
   have := (List.getElem?_eq_some_iff.1 hy).1
   simpa using this
  subst hj
  simp at hy hu
  subst hy hu
  exact ⟨h, one (by rfl) h⟩

end Go.Proofs.Ytmlbioapefgioaa.Va

/- Loads, stores, new variables, rows let go: the evaluator's steps hold in the model. -/
namespace Go.Proofs.Ytmlbioapefgioaa.Va
open Go

variable {U : Nat → Type} {α : Type} {R : Type} {P : Program} {E : Env U} {X W0 : Nat → Prop} {β : Nat → Option BI} {hp : Nat → Blk U} {w : World}

def Eff (cc : (T : Nat) → Cod U T) (X W0 : Nat → Prop) (β : Nat → Option BI) (hp : Nat → Blk U) (w : World) (v : AV U) (ws : List (Nat × Blk U)) (res : Result Value) : Prop :=
 ∃ vv w' β', res = .ok vv w' ∧ HRel cc X W0 β' (upds hp ws) w' ∧ RepA cc w' (avOf X β' (upds hp ws)) β' v vv ∧ Tr X W0 β hp w β' (upds hp ws) w' ∧
  (∀ b, β b = none → (∀ p ∈ ws, p.1 ≠ b) → β' b = none)

theorem Eff.same {v : AV U} {vv : Value} {res : Result Value} (h : HRel E.cc X W0 β hp w) (hr : res = .ok vv w) (hv : RepA E.cc w (avOf X β hp) β v vv) : Eff E.cc X W0 β hp w v [] res :=
 ⟨vv, w, β, hr, h, hv, Tr.refl, fun _ h _ => h⟩

theorem cell_of {k : Nat} {c : Array Value} {t : TypeId} {fr : Nat × Nat} (hg : w.heap[k]? = some (.cells c t fr)) (i : Nat) : w.cell? ⟨k, i, none⟩ = c[i]? := by
 simp [World.cell?, hg]

theorem row_cell {T : Nat} {l : List (U T)} {live : Bool} {b k n cap : Nat} (h : HRel E.cc X W0 β hp w) (hb : β b = some ⟨some k, n, cap⟩) (hr : hp b = .row T l live) {i : Nat} {x : U T} (hx : l[i]? = some x)
  {j : Nat} {y : IV U} (hy : ((E.cc T).enc x)[j]? = some y) : ∃ v, w.cell? ⟨k, i * (E.cc T).sz + j, none⟩ = some v ∧ Rep E.cc w (avOf X β hp) y v := by
 have hok := h.ok b _ hb
 rw [hr] at hok
 obtain ⟨hcod, hn, _, hsome⟩ := hok
 obtain ⟨_, _, c, t, hg, hs, hc⟩ := hsome k rfl
 obtain ⟨v, hv, hrep⟩ := hc i x j y hx hy
 exact ⟨v, by rw [cell_of hg]; exact hv, hrep⟩

theorem loadA_ok (hE : EnvOK P E) {st : St U} {t : TypeId} {a : AV U} {K : KO U R} {r : R} (h : loadA E st t a K = some r) :
  ∃ v rd, K v [] rd = some r ∧ ∀ {X W0 : Nat → Prop} {β : Nat → Option BI} {hp : Nat → Blk U} {w : World} {va : Value}, HRel E.cc X W0 β hp w → RepA E.cc w (avOf X β hp) β a va → (∀ b ∈ rd, hp b = st.hp.get b) →
   ∃ vv, (Instr.loadAt t va).run P w = .ok vv w ∧ RepA E.cc w (avOf X β hp) β v vv := by
 unfold loadA at h
 split at h
 ·cases h
 rename_i ho
 have ho' : (E.ti t).d.isOther = false := by simpa using ho
 cases a with
 | ptr b off =>
  simp only at h
  split at h
  ·rename_i cs hb
   split at h
   ·rename_i xs hx
    refine ⟨_, _, h, @fun X W0 β hp w va hh hr hag => ?_⟩
    have hbb := hag b (by simp)
    obtain ⟨h1, h2, h3⟩ := cut_some hx
    cases hr with
    | ptr hβ =>
     rename_i k n cap
     have hok := hh.ok b _ hβ
     rw [hbb, hb] at hok
     obtain ⟨k', c, te, hk', hg, hs, hc⟩ := hok
     cases hk'
     have := run_loadVar' (P := P) (w := w) (β := β) (av := avOf X β hp) hE ho' k off xs h1 fun j x hj => by
      have hj' := h3 j x hj
      have hlt : off + j < c.size := by rw [hs]; exact (List.getElem?_eq_some_iff.1 hj').1
      exact ⟨c[off + j], by rw [cell_of hg]; simp [hlt], (hc _ _ _ hj' (by simp [hlt])).1⟩
     obtain ⟨vv, hv, hrep⟩ := this
     exact ⟨vv, by simpa [Instr.loadAt, Instr.sureAddr] using hv, hrep⟩
   ·cases h
  ·cases h
 | rptr b i u sz =>
  simp only at h
  split at h
  ·rename_i T l live hb
   split at h
   ·rename_i hsz
    split at h
    ·rename_i x hx
     split at h
     ·rename_i xs hxs
      refine ⟨_, _, h, @fun X W0 β hp w va hh hr hag => ?_⟩
      have hbb := hag b (by simp)
      rw [hb] at hbb
      obtain ⟨h1, h2, h3⟩ := cut_some hxs
      cases hr with
      | rptr hβ =>
       rename_i k n cap
       have := run_loadVar' (P := P) (w := w) (β := β) (av := avOf X β hp) hE ho' k (i * sz + u) (xs.map AV.im) (by simpa using h1) fun j x' hj => by
        simp only [List.getElem?_map, Option.map_eq_some_iff] at hj
        obtain ⟨y, hy, rfl⟩ := hj
        obtain ⟨v, hv, hrep⟩ := row_cell hh hβ hbb hx (h3 j y hy)
        refine ⟨v, ?_, .im hrep⟩
        rw [hsz, Nat.add_assoc]
        exact hv
       obtain ⟨vv, hv, hrep⟩ := this
       exact ⟨vv, by simpa [Instr.loadAt, Instr.sureAddr] using hv, hrep⟩
     ·cases h
    ·cases h
   ·cases h
  ·cases h
 | iptr cs u =>
  simp only at h
  split at h
  ·rename_i xs hxs
   refine ⟨_, _, h, @fun X W0 β hp w va hh hr hag => ?_⟩
   obtain ⟨h1, h2, h3⟩ := cut_some hxs
   cases hr with
   | iptr f hpos hav hcell hrep =>
    rename_i k o
    have := run_loadVar' (P := P) (w := w) (β := β) (av := avOf X β hp) hE ho' k (o + u) (xs.map AV.im) (by simpa using h1) fun j x' hj => by
     simp only [List.getElem?_map, Option.map_eq_some_iff] at hj
     obtain ⟨y, hy, rfl⟩ := hj
     have hy' := h3 j y hy
     refine ⟨f (u + j), ?_, .im (hrep _ _ hy')⟩
     rw [Nat.add_assoc]
     exact hcell _ (List.getElem?_eq_some_iff.1 hy').1
    obtain ⟨vv, hv, hrep⟩ := this
    exact ⟨vv, by simpa [Instr.loadAt, Instr.sureAddr] using hv, hrep⟩
  ·cases h
 | _ => simp at h


def Alike (h : Hp U) (hp : Nat → Blk U) (b : Nat) : Prop := ∃ T l lv lv', h.get b = .row T l lv ∧ hp b = .row T l lv'

theorem Alike.of_eq {h : Hp U} {b : Nat} {T : Nat} {l : List (U T)} {lv : Bool} (hb : h.get b = .row T l lv) (e : hp b = h.get b) : Alike h hp b := ⟨T, l, lv, lv, hb, by rw [e, hb]⟩

theorem Alike.freeze {h : Hp U} {b b' : Nat} {T : Nat} {l : List (U T)} {lv : Bool} (hb : h.get b = .row T l lv) (g : Alike h hp b') : Alike h (upd1 hp b (.row T l false)) b' := by
 by_cases e : b' = b
 ·subst e
  exact ⟨T, l, lv, false, hb, by rw [upd1_same]⟩
 ·obtain ⟨T', l', lv1, lv2, h1, h2⟩ := g
  exact ⟨T', l', lv1, lv2, h1, by rw [upd1_ne _ _ e]; exact h2⟩

theorem frozen_av {b k n cap T : Nat} {l : List (U T)} (h : HRel E.cc X W0 β hp w) (hb : β b = some ⟨some k, n, cap⟩) (hr : hp b = .row T l false) : ¬ avOf X β hp k := by
 rintro (hX | ⟨b', bi', hb', hk', hl'⟩)
 ·exact (h.dom b _ k hb rfl (by rw [hr]; rfl)).2.1 hX
 ·have hd : (hp b').isDead = false := by cases hh : hp b' <;> simp_all [Blk.isLive, Blk.isDead]
  have := h.inj b b' _ _ k hb hb' rfl hk' (by rw [hr]; rfl) hd
  subst this
  rw [hr] at hl'
  cases hl'

theorem frozen_rep {b T : Nat} {l : List (U T)} {v : Value} (h : HRel E.cc X W0 β hp w) (hr : hp b = .row T l false) (hv : RepA E.cc w (avOf X β hp) β (.own b) v) : Rep E.cc w (avOf X β hp) (.slice T l) v := by
 cases hv with
 | own0 hβ =>
  have hok := h.ok b _ hβ
  rw [hr] at hok
  have : l = [] := List.eq_nil_of_length_eq_zero (by simpa using hok.2.1)
  subst this
  exact .slice0 _ _ _
 | own hβ =>
  rename_i k n cap
  have hok := h.ok b _ hβ
  rw [hr] at hok
  obtain ⟨hcod, hn, _, hsome⟩ := hok
  obtain ⟨hnc, _, c, t, hg, hs, hc⟩ := hsome k rfl
  simp only at hn
  subst hn
  have hav := frozen_av h hβ hr
  refine .slice T l k 0 cap (fun i => (c[i]?).getD undef) hcod.pos hav hnc (fun i hi => ?_) (fun i x j y hx hy => ?_)
  ·rw [cell_of hg, Nat.zero_add]
   have : i < c.size := by rw [hs]; exact Nat.lt_of_lt_of_le hi (Nat.mul_le_mul_right _ hnc)
   simp [this]
  ·obtain ⟨v, hv, hrep⟩ := hc i x j y hx hy
   rw [hv]
   exact hrep

theorem frozen_rep_sub {b T off len : Nat} {l : List (U T)} {v : Value} (h : HRel E.cc X W0 β hp w) (hr : hp b = .row T l false) (hv : RepA E.cc w (avOf X β hp) β (.sub b off len (E.cc T).sz) v) :
  Rep E.cc w (avOf X β hp) (.slice T ((l.drop off).take len)) v := by
 cases hv with
 | sub0 => rw [List.take_zero]; exact .slice0 _ _ _
 | sub hβ hl hcl =>
  rename_i k n cap cap'
  have hok := h.ok b _ hβ
  rw [hr] at hok
  obtain ⟨hcod, hn, _, hsome⟩ := hok
  obtain ⟨hnc, _, c, t, hg, hs, hc⟩ := hsome k rfl
  simp only at hn hnc hs
  subst hn
  have hav := frozen_av h hβ hr
  have hlen : ((l.drop off).take len).length = len := by simp; omega
  have key := Rep.slice (cc := E.cc) (w := w) (av := avOf X β hp) T ((l.drop off).take len) k (off * (E.cc T).sz) cap (fun i => (c[off * (E.cc T).sz + i]?).getD undef) hcod.pos hav (by rw [hlen]; exact hcl)
   (fun i hi => by
    rw [cell_of hg]
    have : off * (E.cc T).sz + i < c.size := by
     rw [hs]
     rw [hlen] at hi
     calc off * (E.cc T).sz + i < off * (E.cc T).sz + len * (E.cc T).sz := by omega
      _ = (off + len) * (E.cc T).sz := by rw [Nat.add_mul]
      _ ≤ cap' * (E.cc T).sz := Nat.mul_le_mul_right _ (by omega)
    simp [this])
   (fun i x j y hx hy => by
    have hx' : l[off + i]? = some x := by
     rw [List.getElem?_take] at hx
     split at hx
     ·rwa [List.getElem?_drop] at hx
     ·cases hx
    obtain ⟨v, hv, hrep⟩ := hc (off + i) x j y hx' hy
    have : off * (E.cc T).sz + (i * (E.cc T).sz + j) = (off + i) * (E.cc T).sz + j := by rw [Nat.add_mul]; omega
    rw [this, hv]
    exact hrep)
  rw [hlen] at key
  exact key

theorem frz_ok : ∀ {xs : List (AV U)} {st : Hp U} {us : List (IV U)} {ws : List (Nat × Blk U)}, frz E.cc st xs = some (us, ws) →
  us.length = xs.length ∧ (∀ p ∈ ws, ∃ T l, p.2 = .row T l false ∧ ∃ lv, st.get p.1 = .row T l lv) ∧
  ∀ {hp : Nat → Blk U}, HRel E.cc X W0 β hp w → (∀ p ∈ ws, Alike st hp p.1) →
  HRel E.cc X W0 β (upds hp ws) w ∧ Tr X W0 β hp w β (upds hp ws) w ∧
   ∀ (vs : List Value), vs.length = xs.length → (∀ (j : Nat) (x : AV U) (v : Value), xs[j]? = some x → vs[j]? = some v → RepA E.cc w (avOf X β hp) β x v) →
    ∀ (j : Nat) (u : IV U) (v : Value), us[j]? = some u → vs[j]? = some v → Rep E.cc w (avOf X β (upds hp ws)) u v := by
 intro xs
 induction xs with
 | nil =>
  intro st us ws h
  simp only [frz, Option.some.injEq, Prod.mk.injEq] at h
  obtain ⟨rfl, rfl⟩ := h
  exact ⟨rfl, by simp, fun hh _ => ⟨hh, Tr.refl, fun vs _ _ j u v hu => by simp at hu⟩⟩
 | cons x xs ih =>
  intro st us ws h
  -- the shape of every case: one value, perhaps one row let go
  have fin : ∀ (b : Nat) (T : Nat) (l l' : List (U T)) (lv : Bool) (us' : List (IV U)) (ws' : List (Nat × Blk U)), frz E.cc st xs = some (us', ws') → us = .slice T l' :: us' → ws = (b, .row T l false) :: ws' →
    st.get b = .row T l lv →
    (∀ {hp : Nat → Blk U} {v : Value}, HRel E.cc X W0 β hp w → hp b = .row T l false → RepA E.cc w (avOf X β hp) β x v → Rep E.cc w (avOf X β hp) (.slice T l') v) → 
    us.length = (x :: xs).length ∧ (∀ p ∈ ws, ∃ T l, p.2 = .row T l false ∧ ∃ lv, st.get p.1 = .row T l lv) ∧
    ∀ {hp : Nat → Blk U}, HRel E.cc X W0 β hp w → (∀ p ∈ ws, Alike st hp p.1) →
    HRel E.cc X W0 β (upds hp ws) w ∧ Tr X W0 β hp w β (upds hp ws) w ∧
     ∀ (vs : List Value), vs.length = (x :: xs).length → (∀ (j : Nat) (x' : AV U) (v : Value), (x :: xs)[j]? = some x' → vs[j]? = some v → RepA E.cc w (avOf X β hp) β x' v) →
      ∀ (j : Nat) (u : IV U) (v : Value), us[j]? = some u → vs[j]? = some v → Rep E.cc w (avOf X β (upds hp ws)) u v := by
   intro b T l l' lv us' ws' hf hus hws hbb hrep
   obtain ⟨h1, h2, h3⟩ := ih hf
   subst hus hws
   refine ⟨by simp [h1], ?_, ?_⟩
   ·intro p hp'
    rcases List.mem_cons.1 hp' with rfl | hp'
    ·exact ⟨T, l, rfl, lv, hbb⟩
    ·exact h2 p hp'
   ·intro hp hh hal
    obtain ⟨T0, l0, lv0, lv1, e1, e2⟩ := hal (b, .row T l false) (by simp)
    rw [hbb] at e1
    cases e1
    obtain ⟨hh1, tr1⟩ := hh.freeze b e2
    obtain ⟨hh2, tr2, hv2⟩ := h3 hh1 fun p hp' => Alike.freeze hbb (hal p (by simp [hp']))
    refine ⟨hh2, tr1.trans tr2, fun vs hl hvs j u v hu hv => ?_⟩
    cases j with
    | zero =>
     simp at hu
     subst hu
     have h0 := hvs 0 x v rfl hv
     have hr := hrep hh1 (upd1_same _ _ _) (tr1.rep h0)
     have := (tr2.rep (.im hr))
     cases this with | im h => exact h
    | succ j =>
     cases vs with
     | nil => simp at hv
     | cons v0 vs =>
      exact hv2 vs (by simpa using hl) (fun j x' v hx hv => tr1.rep (hvs (j + 1) x' v (by simpa using hx) (by simpa using hv))) j u v (by simpa using hu) (by simpa using hv)
  cases x with
  | im y =>
   simp only [frz] at h
   cases hf : frz E.cc st xs with
   | none => simp [hf] at h
   | some q =>
    obtain ⟨us', ws'⟩ := q
    simp only [hf, Option.some.injEq, Prod.mk.injEq] at h
    obtain ⟨rfl, rfl⟩ := h
    obtain ⟨h1, h2, h3⟩ := ih hf
    refine ⟨by simp [h1], h2, fun hh hal => ?_⟩
    obtain ⟨hh2, tr2, hv2⟩ := h3 hh hal
    refine ⟨hh2, tr2, fun vs hl hvs j u v hu hv => ?_⟩
    cases j with
    | zero =>
     simp at hu
     subst hu
     have := tr2.rep (hvs 0 _ v rfl hv)
     cases this with | im h => exact h
    | succ j =>
     cases vs with
     | nil => simp at hv
     | cons v0 vs => exact hv2 vs (by simpa using hl) (fun j x' v hx hv => hvs (j + 1) x' v (by simpa using hx) (by simpa using hv)) j u v (by simpa using hu) (by simpa using hv)
  | own b =>
   simp only [frz] at h
   split at h
   ·rename_i T l lv hbb
    cases hf : frz E.cc st xs with
    | none => simp [hf] at h
    | some q =>
     obtain ⟨us', ws'⟩ := q
     simp only [hf, Option.some.injEq, Prod.mk.injEq] at h
     exact fin b T l l lv us' ws' hf h.1.symm h.2.symm hbb fun hh hr hv => frozen_rep hh hr hv
   ·cases h
  | sub b off len sz =>
   simp only [frz] at h
   split at h
   ·rename_i T l lv hbb
    split at h
    ·rename_i hsz
     subst hsz
     cases hf : frz E.cc st xs with
     | none => simp [hf] at h
     | some q =>
      obtain ⟨us', ws'⟩ := q
      simp only [hf, Option.some.injEq, Prod.mk.injEq] at h
      exact fin b T l _ lv us' ws' hf h.1.symm h.2.symm hbb fun hh hr hv => frozen_rep_sub hh hr hv
    ·cases h
   ·cases h
  | _ => simp [frz] at h

end Go.Proofs.Ytmlbioapefgioaa.Va

/- Stores and new variables. -/
namespace Go.Proofs.Ytmlbioapefgioaa.Va
open Go

variable {U : Nat → Type} {α : Type} {R : Type} {P : Program} {E : Env U} {X W0 : Nat → Prop} {β : Nat → Option BI} {hp : Nat → Blk U} {w : World}

theorem upds_append (hp : Nat → Blk U) (ws : List (Nat × Blk U)) (b : Nat) (x : Blk U) : upds hp (ws ++ [(b, x)]) = upd1 (upds hp ws) b x := by
 induction ws generalizing hp with
 | nil => rfl
 | cons p ws ih => obtain ⟨b', x'⟩ := p; exact ih _

theorem upds_ne {hp : Nat → Blk U} {ws : List (Nat × Blk U)} {b : Nat} (h : ∀ p ∈ ws, p.1 ≠ b) : upds hp ws b = hp b := by
 induction ws generalizing hp with
 | nil => rfl
 | cons p ws ih =>
  obtain ⟨b', x'⟩ := p
  rw [upds, ih fun p hp' => h p (by simp [hp']), upd1_ne _ _ (fun e => h (b', x') (by simp) e.symm)]

theorem Rep.le {x y : IV U} {av : Nat → Prop} {v : Value} (h : Rep E.cc w av x v) (hle : x = y ∨ (x = .nils ∧ ∃ T', y = .slice T' [])) : Rep E.cc w av y v := by
 rcases hle with rfl | ⟨rfl, T', rfl⟩
 ·exact h
 ·cases h; exact .slice0 _ _ _

theorem spliceV (c : Array Value) (o : Nat) (vs : List Value) (h : o + vs.length ≤ c.size) (j : Nat) :
    (c.toList.take o ++ vs ++ c.toList.drop (o + vs.length)).toArray[j]? = if o ≤ j ∧ j < o + vs.length then vs[j - o]? else c[j]? := by
  simp only [List.getElem?_toArray]
  by_cases ha : j < o
  · rw [if_neg (by omega), List.append_assoc, List.getElem?_append_left (by simp; omega), List.getElem?_take]
    simp [ha]
  · by_cases hb : j < o + vs.length
    · rw [if_pos ⟨by omega, hb⟩, List.append_assoc, List.getElem?_append_right (by simp; omega), List.getElem?_append_left (by simp; omega)]
      congr 1
      simp; omega
    · rw [if_neg (by omega), List.getElem?_append_right (by simp; omega), List.getElem?_drop]
      have : o + vs.length + (j - (c.toList.take o ++ vs).length) = j := by simp; omega
      rw [this]
      simp

theorem spliceV_size (c : Array Value) (o : Nat) (vs : List Value) (h : o + vs.length ≤ c.size) : (c.toList.take o ++ vs ++ c.toList.drop (o + vs.length)).toArray.size = c.size := by
 simp; omega

theorem storeA_ok (hE : EnvOK P E) {st : St U} {t : TypeId} {a v : AV U} {K : KO U R} {r : R} (h : storeA E st t a v K = some r) :
  ∃ ws rd, K .und ws rd = some r ∧ (∀ p ∈ ws, p.1 ∈ rd) ∧ ∀ {X W0 : Nat → Prop} {β : Nat → Option BI} {hp : Nat → Blk U} {w : World} {va vv : Value}, HRel E.cc X W0 β hp w →
   RepA E.cc w (avOf X β hp) β a va → RepA E.cc w (avOf X β hp) β v vv → (∀ b ∈ rd, hp b = st.hp.get b) →
   ∃ w', (Instr.storeAt t va vv).run P w = .ok () w' ∧ HRel E.cc X W0 β (upds hp ws) w' ∧ Tr X W0 β hp w β (upds hp ws) w' := by
 unfold storeA at h
 split at h
 ·cases h
 rename_i vs hvs
 split at h
 case isFalse => cases h
 rename_i hcond
 simp only [Bool.and_eq_true, decide_eq_true_eq, Bool.not_eq_true'] at hcond
 obtain ⟨hlen, ho⟩ := hcond
 cases a with
 | ptr b off =>
  simp only at h
  split at h
  ·rename_i cs hb
   split at h
   ·rename_i cs' hcs
    refine ⟨_, _, h, by simp, @fun X W0 β hp w va vv hh hr hrv hag => ?_⟩
    have hbb := hag b (by simp)
    rw [hb] at hbb
    obtain ⟨hs1, hs2⟩ := splice_some hcs
    obtain ⟨hc1, hc2⟩ := cells_rep hrv hvs
    cases hr with
    | ptr hβ =>
     rename_i k n cap
     have hok := hh.ok b _ hβ
     rw [hbb] at hok
     obtain ⟨k', c, te, hk', hg, hs, hc⟩ := hok
     cases hk'
     have hfit : off + vv.cells.size ≤ c.size := by rw [hc1, hs]; exact hs1
     have hrun := run_storeVar' (P := P) hE ho k off vv c te hg (by rw [hc1, hlen]) hfit (fun u hu => by
      obtain ⟨j, hj, rfl⟩ := List.mem_iff_getElem.1 hu
      simp at hj
      exact (hc2 j (vs[j]'(by omega)) _ (by simp) (by simp)).2)
     obtain ⟨hh', tr⟩ := hh.write b _ k hβ rfl (by rw [hbb]; rfl) (.var cs') rfl (c.toList.take off ++ vv.cells.toList ++ c.toList.drop (off + vv.cells.size)).toArray (fun hk ha =>
      ⟨k, _, te, rfl, setRow_heap w k c _ te _ hg, by
       have := spliceV_size c off vv.cells.toList (by simpa using hfit)
       simp only [Array.length_toList] at this
       rw [this, hs, splice_length hcs], fun j x v' hx hv => by
        have hv' := spliceV c off vv.cells.toList (by simpa using hfit) j
        simp only [Array.length_toList] at hv'
        rw [hv'] at hv
        rcases splice_get hcs hx with ⟨h1, h2, h3⟩ | ⟨h1, h2⟩
        ·rw [if_pos ⟨h1, by rw [hc1]; exact h2⟩] at hv
         obtain ⟨hr1, hr2⟩ := hc2 (j - off) x v' h3 (by simpa using hv)
         exact ⟨hr1.mono hk ha (fun _ _ h => h), hr2⟩
        ·rw [if_neg (by rw [hc1]; omega)] at hv
         obtain ⟨hr1, hr2⟩ := hc j x v' h2 hv
         exact ⟨hr1.mono hk ha (fun _ _ h => h), hr2⟩⟩)
     refine ⟨_, ?_, hh', tr⟩
     simpa [Instr.storeAt, Instr.sureAddr] using hrun
   ·cases h
  ·cases h
 | rptr b i u sz =>
  simp only at h
  split at h
  ·rename_i T l hb
   split at h
   case isFalse => cases h
   rename_i hsz
   split at h
   rotate_left
   ·cases h
   rename_i us ws hfz
   split at h
   ·rename_i x hx
    split at h
    ·cases h
    rename_i hnb
    split at h
    ·rename_i cs hcs
     split at h
     ·rename_i y hy
      have hnb' : ∀ p ∈ ws, p.1 ≠ b := by
       intro p hp' e
       apply hnb
       simp only [List.contains_iff_mem, List.mem_map]
       exact ⟨p, hp', e⟩
      refine ⟨_, _, h, ?_, @fun X W0 β hp w va vv hh hr hrv hag => ?_⟩
      ·intro p hp'
       rcases List.mem_append.1 hp' with hp' | hp'
       ·exact List.mem_cons_of_mem _ (List.mem_map_of_mem hp')
       ·simp only [List.mem_singleton] at hp'
        subst hp'
        exact List.mem_cons_self ..
      have hbb := hag b (by simp)
      rw [hb] at hbb
      obtain ⟨hc1, hc2⟩ := cells_rep hrv hvs
      obtain ⟨f1, f2, f3⟩ := frz_ok (X := X) (W0 := W0) (β := β) (w := w) hfz
      obtain ⟨hh1, tr1, hreps⟩ := f3 hh fun p hp' => by
       obtain ⟨T', l', _, lv, hst⟩ := f2 p hp'
       exact Alike.of_eq hst (hag p.1 (List.mem_cons_of_mem _ (List.mem_map_of_mem hp')))
      have hreps' := hreps vv.cells.toList (by simp [hc1]) fun j x' v' hx' hv' => (hc2 j x' v' hx' (by simpa using hv')).1
      have hb1 : upds hp ws b = .row T l true := by rw [upds_ne hnb', hbb]
      obtain ⟨hs1, hs2⟩ := splice_some hcs
      have hr1 := tr1.rep hr
      cases hr1 with
      | rptr hβ =>
       rename_i k n cap
       have hok := hh1.ok b _ hβ
       rw [hb1] at hok
       obtain ⟨hcod, hn, _, hsome⟩ := hok
       obtain ⟨hnc, hcm, c, te, hg, hs, hc⟩ := hsome k rfl
       simp only at hn hnc hcm hs
       have hil : i < l.length := (List.getElem?_eq_some_iff.1 hx).1
       have hus : us.length = vv.cells.size := by rw [f1, hc1]
       have hesz := hcod.size x
       have hin : i * (E.cc T).sz + (E.cc T).sz ≤ c.size := by
        rw [hs]
        calc i * (E.cc T).sz + (E.cc T).sz = (i + 1) * (E.cc T).sz := by rw [Nat.add_mul, Nat.one_mul]
         _ ≤ cap * (E.cc T).sz := Nat.mul_le_mul_right _ (by omega)
       have hfit : i * sz + u + vv.cells.size ≤ c.size := by rw [hsz, ← hus]; omega
       have hrun := run_storeVar' (P := P) hE ho k (i * sz + u) vv c te hg (by rw [hc1, hlen]) hfit (fun q hq => by
        obtain ⟨j, hj, rfl⟩ := List.mem_iff_getElem.1 hq
        simp at hj
        exact (hc2 j (vs[j]'(by omega)) _ (by simp) (by simp)).2)
       obtain ⟨hd1, hd2⟩ := hcod.dec _ _ hy
       obtain ⟨hh', tr⟩ := hh1.write b _ k hβ rfl (by rw [hb1]; rfl) (.row T (l.set i y) true) rfl (c.toList.take (i * sz + u) ++ vv.cells.toList ++ c.toList.drop (i * sz + u + vv.cells.size)).toArray (fun hk ha => by
        refine ⟨hcod, by simpa using hn, by simp, fun k' hk' => ?_⟩
        cases hk'
        refine ⟨hnc, hcm, _, te, setRow_heap w k c _ te _ hg, ?_, fun i' x' j' y' hx' hy' => ?_⟩
        ·have := spliceV_size c (i * sz + u) vv.cells.toList (by simpa using hfit)
         simp only [Array.length_toList] at this
         rw [this, hs]
        ·have hv' := spliceV c (i * sz + u) vv.cells.toList (by simpa using hfit) (i' * (E.cc T).sz + j')
         simp only [Array.length_toList] at hv'
         rw [hv']
         have hj' : j' < (E.cc T).sz := by
          have := (List.getElem?_eq_some_iff.1 hy').1
          rw [hcod.size] at this
          exact this
         by_cases hii : i' = i
         ·subst hii
          rw [List.getElem?_set_self hil] at hx'
          cases hx'
          have hj2 : j' < cs.length := by rw [hd1]; exact hj'
          obtain ⟨z, hz1, hz2⟩ := hd2 j' cs[j'] (List.getElem?_eq_getElem hj2)
          rw [hy'] at hz1
          cases hz1
          rcases splice_get hcs (List.getElem?_eq_getElem hj2) with ⟨h1, h2, h3⟩ | ⟨h1, h2⟩
          ·have hjc : j' - u < vv.cells.size := by omega
           rw [if_pos ⟨by rw [hsz]; omega, by rw [hsz]; omega⟩]
           refine ⟨vv.cells[j' - u], ?_, ?_⟩
           ·rw [show i' * (E.cc T).sz + j' - (i' * sz + u) = j' - u by rw [hsz]; omega]
            simp [hjc]
           ·exact ((hreps' (j' - u) _ _ h3 (by simp [hjc])).le hz2).mono hk ha
          ·rw [if_neg (by rw [hsz, ← hus]; omega)]
           obtain ⟨v0, hv0, hr0⟩ := hc i' x j' _ hx h2
           exact ⟨v0, hv0, (hr0.le hz2).mono hk ha⟩
         ·rw [List.getElem?_set_ne (fun e => hii e.symm)] at hx'
          obtain ⟨v0, hv0, hr0⟩ := hc i' x' j' y' hx' hy'
          refine ⟨v0, ?_, hr0.mono hk ha⟩
          rw [if_neg, hv0]
          rw [hsz, ← hus]
          rintro ⟨ha1, ha2⟩
          have hlow : i' < i + 1 := by
           apply Nat.lt_of_mul_lt_mul_right (a := (E.cc T).sz)
           rw [Nat.add_mul, Nat.one_mul]
           omega
          have hup : i < i' + 1 := by
           apply Nat.lt_of_mul_lt_mul_right (a := (E.cc T).sz)
           rw [Nat.add_mul, Nat.one_mul]
           omega
          omega)
       rw [upds_append]
       exact ⟨_, by simpa [Instr.storeAt, Instr.sureAddr] using hrun, hh', tr1.trans tr⟩
     ·cases h
    ·cases h
   ·cases h
  ·cases h
 | _ => simp at h

theorem newVar_eff {X W0 : Nat → Prop} {β : Nat → Option BI} {hp : Nat → Blk U} {w : World} (hh : HRel E.cc X W0 β hp w) (nb : Nat) (hnb : β nb = none) (t : TypeId) (cs : List (AV U)) (vv : Value)
  (hc1 : vv.cells.size = cs.length) (hc2 : ∀ (j : Nat) (y : AV U) (u : Value), cs[j]? = some y → vv.cells[j]? = some u → RepA E.cc w (avOf X β hp) β y u ∧ u.oneCell' = true) :
  Eff E.cc X W0 β hp w (.ptr nb 0) [(nb, .var cs)] ((do pure (.pointer (some (← newVar t vv))) : Sem Value).run P w) := by
 obtain ⟨hh', tr⟩ := hh.alloc nb hnb (.cells vv.cells t) 0 0 (.var cs) (fun hk ha hb => ⟨w.heap.size, vv.cells, t, rfl, heap_alloc_new w _, hc1, fun j x v hx hv => ⟨(hc2 j x v hx hv).1.mono hk ha hb, (hc2 j x v hx hv).2⟩⟩)
 refine ⟨_, _, _, by simp [newVar, newRow]; rfl, hh', ?_, tr, fun b hb hp' => ?_⟩
 ·exact .ptr (n := 0) (cap := 0) (by simp [updβ])
 ·have : b ≠ nb := fun e => hp' (nb, .var cs) (by simp) e.symm
  simp [updβ, this, hb]

end Go.Proofs.Ytmlbioapefgioaa.Va

/- Operations that leave the world as it is: arithmetic, places, parts, lengths. -/
namespace Go.Proofs.Ytmlbioapefgioaa.Va
open Go

variable {U : Nat → Type} {α : Type} {R : Type} {P : Program} {E : Env U} {X W0 : Nat → Prop} {β : Nat → Option BI} {hp : Nat → Blk U} {w : World}

theorem among_some {n : Nat} {i : Int} {k : Nat → Option R} {r : R} (h : among n i k = some r) : ∃ j : Nat, j < n ∧ i = j ∧ k j = some r := by
 induction n with
 | zero => simp [among] at h
 | succ m ih =>
  simp only [among] at h
  split at h
  ·rename_i e
   exact ⟨m, by omega, e, h⟩
  ·obtain ⟨j, h1, h2, h3⟩ := ih h
   exact ⟨j, by omega, h2, h3⟩

theorem intOp_ok {op : BinOp} {k : IntKind} {a b : Int} {K : AV U → Option R} {r : R} (h : intOp op k a b K = some r) (hs : op ≠ .shl) (hs' : op ≠ .shr) :
  ∃ v, K v = some r ∧ ∀ (t : TypeId) (x y : Operand) (w : World) (cc : (T : Nat) → Cod U T) (av : Nat → Prop) (β : Nat → Option BI),
   ∃ vv, (do eqGuard op t x y (.int k a) (.int k b); binOp op t (.int k a) (.int k b) : Sem Value).run P w = .ok vv w ∧ RepA cc w av β v vv := by
 cases op <;> simp only [intOp] at h <;> first | (exact absurd rfl hs) | (exact absurd rfl hs') | (cases h; done) | skip
 case quo =>
  split at h
  ·cases h
  ·rename_i hb
   exact ⟨_, h, fun t x y w cc av β => ⟨_, by simp [eqGuard, binOp, Op.intDiv, hb], .im (.int _ _)⟩⟩
 case rem =>
  split at h
  ·cases h
  ·rename_i hb
   exact ⟨_, h, fun t x y w cc av β => ⟨_, by simp [eqGuard, binOp, Op.intDiv, hb], .im (.int _ _)⟩⟩
 case and => exact ⟨_, h, fun t x y w cc av β => ⟨.int k (k.wrap (BitVec.ofInt k.bits a &&& BitVec.ofInt k.bits b).toNat), by cases k <;> rfl, .im (.int _ _)⟩⟩
 case or => exact ⟨_, h, fun t x y w cc av β => ⟨.int k (k.wrap (BitVec.ofInt k.bits a ||| BitVec.ofInt k.bits b).toNat), by cases k <;> rfl, .im (.int _ _)⟩⟩
 case xor => exact ⟨_, h, fun t x y w cc av β => ⟨.int k (k.wrap (BitVec.ofInt k.bits a ^^^ BitVec.ofInt k.bits b).toNat), by cases k <;> rfl, .im (.int _ _)⟩⟩
 case andNot => exact ⟨_, h, fun t x y w cc av β => ⟨.int k (k.wrap (BitVec.ofInt k.bits a &&& ~~~BitVec.ofInt k.bits b).toNat), by cases k <;> rfl, .im (.int _ _)⟩⟩
 all_goals
  refine ⟨_, h, fun t x y w cc av β => ?_⟩
  first
  | exact ⟨_, by simp [eqGuard, binOp, Op.intArith], .im (.int _ _)⟩
  | exact ⟨_, by simp [eqGuard, binOp, Op.intCmp], .im (.bool _)⟩

theorem strOp_ok {op : BinOp} {a b : ByteArray} {K : AV U → Option R} {r : R} (h : strOp op a b K = some r) :
  ∃ v, K v = some r ∧ ∀ (t : TypeId) (x y : Operand) (w : World) (cc : (T : Nat) → Cod U T) (av : Nat → Prop) (β : Nat → Option BI),
   ∃ vv, (do eqGuard op t x y (.string a) (.string b); binOp op t (.string a) (.string b) : Sem Value).run P w = .ok vv w ∧ RepA cc w av β v vv := by
 cases op <;> simp only [strOp] at h <;> first | (cases h; done) | skip
 case add =>
  split at h
  ·cases h
  ·rename_i hb
   refine ⟨_, h, fun t x y w cc av β => ⟨_, ?_, .im (.str _)⟩⟩
   simp only [eqGuard, binOp, Op.stringOp, hb]
   simp
 all_goals
  refine ⟨_, h, fun t x y w cc av β => ?_⟩
  exact ⟨_, by simp [eqGuard, binOp, Op.stringOp], .im (.bool _)⟩

theorem unA_ok {op : UnOp} {x : AV U} {K : AV U → Option R} {r : R} (h : unA op x K = some r) :
  ∃ v, K v = some r ∧ ∀ {w : World} {cc : (T : Nat) → Cod U T} {av : Nat → Prop} {β : Nat → Option BI} {vx : Value}, RepA cc w av β x vx →
   ∃ vv, (Op.unary op vx).run P w = .ok vv w ∧ RepA cc w av β v vv := by
 unfold unA at h
 split at h
 ·refine ⟨_, h, fun hr => ?_⟩
  cases hr with | im hr => cases hr; exact ⟨_, by simp [Op.unary, Op.intArith], .im (.int _ _)⟩
 ·refine ⟨_, h, fun hr => ?_⟩
  cases hr with | im hr => cases hr; exact ⟨_, by simp [Op.unary, Op.intBits], .im (.int _ _)⟩
 ·refine ⟨_, h, fun hr => ?_⟩
  cases hr with | im hr => cases hr; exact ⟨_, by simp [Op.unary], .im (.bool _)⟩
 ·cases h

theorem sliceBound_run (k : IntKind) (i : Int) (y : Nat) (code : BoundsCode) (w : World) (h : 0 ≤ i ∧ i ≤ y) : (Instr.sliceBound (.int k i) y code).run P w = .ok i.toNat w := by
 simp [Instr.sliceBound, asIntOf, h]

theorem boundsA_ok {len : Nat} {lo hi : Option (AV U)} {K : Nat → Nat → Option R} {r : R} (h : boundsA len lo hi K = some r) :
  ∃ l q, l ≤ q ∧ q ≤ len ∧ (lo = none → l = 0) ∧ (hi = none → q = len) ∧ K l q = some r ∧ ∀ {w : World} {cc : (T : Nat) → Cod U T} {av : Nat → Prop} {β : Nat → Option BI} {vlo vhi : Option Value} {cap : Nat} {b : Bool}, len ≤ cap →
   (∀ x, lo = some x → ∃ v, vlo = some v ∧ RepA cc w av β x v) → (lo = none → vlo = none) → (∀ x, hi = some x → ∃ v, vhi = some v ∧ RepA cc w av β x v) → (hi = none → vhi = none) →
   (Instr.sliceBounds b len cap vlo vhi none).run P w = .ok (l, q, cap) w := by
 unfold boundsA at h
 split at h
 ·refine ⟨0, len, by omega, by omega, fun _ => rfl, fun _ => rfl, h, fun hc h1 h2 h3 h4 => ?_⟩
  rw [h2 rfl, h4 rfl]
  simp [Instr.sliceBounds]
 ·rename_i k l
  split at h
  ·rename_i hb
   refine ⟨l.toNat, len, by omega, by omega, (fun e => by cases e), fun _ => rfl, h, @fun w cc av β vlo vhi cap b hc h1 h2 h3 h4 => ?_⟩
   obtain ⟨v, hv, hr⟩ := h1 _ rfl
   cases hr with | im hr => cases hr; rw [hv, h4 rfl]; simp [Instr.sliceBounds, sliceBound_run k l len _ w hb]
  ·cases h
 ·rename_i k q
  split at h
  ·rename_i hb
   refine ⟨0, q.toNat, by omega, by omega, fun _ => rfl, (fun e => by cases e), h, @fun w cc av β vlo vhi cap b hc h1 h2 h3 h4 => ?_⟩
   obtain ⟨v, hv, hr⟩ := h3 _ rfl
   cases hr with | im hr => cases hr; rw [hv, h2 rfl]; simp [Instr.sliceBounds, sliceBound_run k q cap _ w ⟨hb.1, by omega⟩]
  ·cases h
 ·rename_i k l k' q
  split at h
  ·rename_i hb
   refine ⟨l.toNat, q.toNat, by omega, by omega, (fun e => by cases e), (fun e => by cases e), h, @fun w cc av β vlo vhi cap b hc h1 h2 h3 h4 => ?_⟩
   obtain ⟨v, hv, hr⟩ := h1 _ rfl
   obtain ⟨v', hv', hr'⟩ := h3 _ rfl
   cases hr with
   | im hr => cases hr; cases hr' with
    | im hr' => cases hr'; rw [hv, hv']; simp [Instr.sliceBounds, sliceBound_run k' q cap _ w ⟨by omega, by omega⟩, sliceBound_run k l q.toNat _ w ⟨by omega, by omega⟩]
  ·cases h
 ·cases h

theorem fieldPlace_run (hE : EnvOK P E) {ft : TypeId} (ho : (E.ti ft).size ≠ 0) (f : Field) (hf : f.type = ft) (k o : Nat) (hso : (sizeOf ft).run P w = .ok (E.ti ft).size w) :
  (fieldPlace ⟨k, o, none⟩ f).run P w = .ok ⟨k, o + f.offset, none⟩ w := by
 simp [fieldPlace, hf, hso, ho, add_lit']

end Go.Proofs.Ytmlbioapefgioaa.Va

/- Places and parts: fields, elements, stretches, lengths. -/
namespace Go.Proofs.Ytmlbioapefgioaa.Va
open Go

variable {U : Nat → Type} {α : Type} {R : Type} {P : Program} {E : Env U} {X W0 : Nat → Prop} {β : Nat → Option BI} {hp : Nat → Blk U} {w : World}

theorem rep_int {av : Nat → Prop} {k : IntKind} {n : Int} {v : Value} (h : RepA E.cc w av β (.im (.int k n)) v) : v = .int k n := by
 cases h with | im h => cases h; rfl
theorem rep_bool {av : Nat → Prop} {b : Bool} {v : Value} (h : RepA E.cc w av β (.im (.bool b)) v) : v = .bool b := by
 cases h with | im h => cases h; rfl
theorem rep_str {av : Nat → Prop} {s : ByteArray} {v : Value} (h : RepA E.cc w av β (.im (.str s)) v) : v = .string s := by
 cases h with | im h => cases h; rfl
theorem rep_flt {av : Nat → Prop} {k : FloatKind} {b : Nat} {v : Value} (h : RepA E.cc w av β (.im (.flt k b)) v) : v = .float k b := by
 cases h with | im h => cases h; rfl
theorem rep_nils {av : Nat → Prop} {v : Value} (h : RepA E.cc w av β (.im .nils) v) : v = .slice none 0 0 := by
 cases h with | im h => cases h; rfl
theorem rep_nilp {av : Nat → Prop} {v : Value} (h : RepA E.cc w av β (.im .nilp) v) : v = .pointer none := by
 cases h with | im h => cases h; rfl

def Looks (E : Env U) (P : Program) (st : St U) (K : KO U R) (r : R) (run : Value → Value → Sem Value) (x y : AV U) : Prop :=
 ∃ v rd, K v [] rd = some r ∧ ∀ {X W0 : Nat → Prop} {β : Nat → Option BI} {hp : Nat → Blk U} {w : World} {vx vy : Value}, HRel E.cc X W0 β hp w → RepA E.cc w (avOf X β hp) β x vx → RepA E.cc w (avOf X β hp) β y vy →
  (∀ b ∈ rd, hp b = st.hp.get b) → ∃ vv, (run vx vy).run P w = .ok vv w ∧ RepA E.cc w (avOf X β hp) β v vv

theorem EnvOK.structE (h : EnvOK P E) {t : TypeId} {fs : List (TypeId × Nat)} (hd : (E.ti t).d = .struct fs) :
  ∃ fields, P.underlying t = some (.struct fields) ∧ fields.toList.map (fun f => (f.type, f.offset)) = fs := by
 have h1 := h.desc (t := t) (by rw [hd]; rfl)
 rw [hd] at h1
 simp only [descB] at h1
 split at h1
 ·rename_i fields hu
  exact ⟨fields, hu, by simpa using h1⟩
 ·cases h1

theorem struct_field {fields : Array Field} {fs : List (TypeId × Nat)} (hf : fields.toList.map (fun f => (f.type, f.offset)) = fs) {i : Nat} {ft : TypeId} {off : Nat} (h : fs[i]? = some (ft, off)) :
  ∃ f, fields[i]? = some f ∧ f.type = ft ∧ f.offset = off := by
 subst hf
 simp only [List.getElem?_map, Option.map_eq_some_iff, Prod.mk.injEq] at h
 obtain ⟨f, hf, h1, h2⟩ := h
 exact ⟨f, by simpa using hf, h1, h2⟩

theorem fieldAddrA_ok (hE : EnvOK P E) {st : St U} {t : TypeId} {x : AV U} {f : Nat} {K : KO U R} {r : R} (h : fieldAddrA E t x f K = some r) :
  Looks E P st K r (fun vx _ => Instr.fieldAt t vx f) x x := by
 unfold fieldAddrA at h
 split at h
 ·rename_i fs hd
  split at h
  ·rename_i ft off hff
   split at h
   ·cases h
   rename_i hc
   simp only [Bool.or_eq_true, decide_eq_true_eq, not_or, Bool.not_eq_true] at hc
   obtain ⟨fields, hu, hm⟩ := hE.structE hd
   obtain ⟨fl, hfl, hft, hfo⟩ := struct_field hm hff
   have hrun : ∀ (w : World) (k o : Nat), (Instr.fieldAt t (.pointer (some ⟨k, o, none⟩)) f).run P w = .ok (.pointer (some ⟨k, o + off, none⟩)) w := by
    intro w k o
    have := fieldPlace_run (P := P) (w := w) hE hc.1 fl hft k o (run_sizeOf' hE hc.2 w)
    rw [hfo] at this
    simp [Instr.fieldAt, run_underlying hu, hfl, Instr.sureAddr, this]
   cases x with
   | ptr b o =>
    refine ⟨_, _, h, @fun X W0 β hp w vx vy hh hr _ hag => ?_⟩
    cases hr with | ptr hβ => exact ⟨_, hrun w _ _, .ptr hβ⟩
   | rptr b i u sz =>
    refine ⟨_, _, h, @fun X W0 β hp w vx vy hh hr _ hag => ?_⟩
    cases hr with | rptr hβ => exact ⟨_, hrun w _ _, by rw [Nat.add_assoc]; exact .rptr hβ⟩
   | iptr cs u =>
    refine ⟨_, _, h, @fun X W0 β hp w vx vy hh hr _ hag => ?_⟩
    cases hr with | iptr g hp' hav hcell hrep => exact ⟨_, hrun w _ _, by rw [Nat.add_assoc]; exact .iptr g hp' hav hcell hrep⟩
   | _ => simp at h
  ·cases h
 ·cases h

theorem part_run (hE : EnvOK P E) {t : TypeId} (ho : (E.ti t).d.isOther = false) {av : Nat → Prop} {cs xs : List (AV U)} {vs : Array Value} {off : Nat} (hl : vs.size = cs.length)
  (hv : ∀ (j : Nat) (x : AV U) (v : Value), cs[j]? = some x → vs[j]? = some v → RepA E.cc w av β x v) (hx : cut off (E.ti t).size cs = some xs) :
  ∃ vv, (part t vs off).run P w = .ok vv w ∧ RepA E.cc w av β (packA (E.ti t).isAgg xs) vv := by
 obtain ⟨h1, h2, h3⟩ := cut_some hx
 cases hag : (E.ti t).isAgg with
 | true =>
  refine ⟨.agg (vs.extract off (off + (E.ti t).size)), by simp [part, run_isAgg hE ho, hag, run_sizeOf' hE ho], .agg (by simp; omega) fun j x v hx' hv' => ?_⟩
  have hj : j < xs.length := (List.getElem?_eq_some_iff.1 hx').1
  rw [Array.getElem?_extract] at hv'
  split at hv'
  ·exact hv _ _ _ (h3 j x hx') hv'
  ·cases hv'
 | false =>
  obtain ⟨i, hi, hs, hb, h1'⟩ := hE.info ho
  have h1'' := h1' hag
  obtain ⟨x, rfl⟩ : ∃ x, xs = [x] := by
   match xs, h1 with
   | [x], _ => exact ⟨x, rfl⟩
   | [], hl => simp at hl; omega
   | _ :: _ :: _, hl => simp at hl; omega
  have hlt : off < vs.size := by omega
  refine ⟨vs[off], by simp [part, run_isAgg hE ho, hag, hlt], ?_⟩
  exact hv off x _ (by simpa using h3 0 x rfl) (by simp [hlt])

theorem fieldA_ok (hE : EnvOK P E) {st : St U} {t : TypeId} {x : AV U} {f : Nat} {K : KO U R} {r : R} (h : fieldA E t x f K = some r) :
  Looks E P st K r (fun vx _ => Instr.field t vx f) x x := by
 unfold fieldA at h
 split at h
 ·rename_i fs cs hd
  split at h
  ·rename_i ft off hff
   split at h
   ·cases h
   rename_i hc
   have ho : (E.ti ft).d.isOther = false := by simpa using hc
   split at h
   ·rename_i xs hxs
    refine ⟨_, _, h, @fun X W0 β hp w vx vy hh hr _ hag => ?_⟩
    obtain ⟨fields, hu, hm⟩ := hE.structE hd
    obtain ⟨fl, hfl, hft, hfo⟩ := struct_field hm hff
    cases hr with
    | agg hl hv =>
     obtain ⟨vv, hv1, hv2⟩ := part_run (P := P) (w := w) hE ho hl hv hxs
     exact ⟨vv, by simp [Instr.field, run_underlying hu, hfl, hft, hfo, asAgg, hv1], hv2⟩
   ·cases h
  ·cases h
 ·cases h

theorem indexAddrA_ok (hE : EnvOK P E) {st : St U} {t : TypeId} {x ix : AV U} {K : KO U R} {r : R} (h : indexAddrA E st t x ix K = some r) :
  Looks E P st K r (fun vx vy => Instr.indexAt t vx vy) x ix := by
 unfold indexAddrA at h
 split at h
 ·rename_i ki i
  split at h
  ·-- a slice
   rename_i e hd
   obtain ⟨hu, _⟩ := hE.sliceE hd
   split at h
   ·cases h
   rename_i hc
   have ho : (E.ti e).d.isOther = false := by simpa using hc
   have hrun : ∀ (w : World) (k o len cap : Nat), 0 ≤ i ∧ i < len → (Instr.indexAt t (.slice (some ⟨k, o, none⟩) len cap) (.int ki i)).run P w = .ok (.pointer (some ⟨k, o + i.toNat * (E.ti e).size, none⟩)) w := by
    intro w k o len cap hi
    simp [Instr.indexAt, asIntOf, run_underlying hu, hi, run_sizeOf' hE ho, add_lit']
   cases x with
   | own b =>
    simp only at h
    split at h
    ·rename_i T l lv hb
     split at h
     ·rename_i hsz
      split at h
      ·rename_i hi
       refine ⟨_, _, h, @fun X W0 β hp w vx vy hh hr hry hag => ?_⟩
       obtain rfl := rep_int hry
       have hbb := hag b (by simp)
       rw [hb] at hbb
       cases hr with
       | own0 hβ =>
        have hok := hh.ok b _ hβ
        rw [hbb] at hok
        have := hok.2.1
        simp at this
        subst this
        simp at hi
        omega
       | own hβ =>
        rename_i k n cap
        have hok := hh.ok b _ hβ
        rw [hbb] at hok
        have hn := hok.2.1
        simp only at hn
        subst hn
        refine ⟨_, hrun w k 0 l.length cap hi, ?_⟩
        rw [Nat.zero_add, ← hsz]
        exact .rptr (u := 0) hβ
      ·cases h
     ·cases h
    ·cases h
   | sub b off len sz =>
    simp only at h
    split at h
    ·rename_i hsz
     split at h
     ·rename_i hi
      refine ⟨_, _, h, @fun X W0 β hp w vx vy hh hr hry hag => ?_⟩
      obtain rfl := rep_int hry
      cases hr with
      | sub0 => simp at hi; omega
      | sub hβ hl hcl =>
       refine ⟨_, hrun w _ _ len _ hi, ?_⟩
       rw [← hsz, ← Nat.add_mul]
       exact .rptr (u := 0) hβ
     ·cases h
    ·cases h
   | vsl b off len sz =>
    simp only at h
    split at h
    ·rename_i hsz
     obtain ⟨j, hj, rfl, hk⟩ := among_some h
     refine ⟨_, _, hk, @fun X W0 β hp w vx vy hh hr hry hag => ?_⟩
     obtain rfl := rep_int hry
     cases hr with
     | vsl0 => omega
     | vsl hβ hcl =>
      refine ⟨_, hrun w _ _ len _ ⟨by omega, by omega⟩, ?_⟩
      rw [← hsz, Int.toNat_natCast]
      exact .ptr hβ
    ·cases h
   | im y =>
    cases y with
    | slice T l =>
     simp only at h
     split at h
     ·rename_i hsz
      split at h
      ·rename_i h0
       split at h
       ·rename_i x hx
        refine ⟨_, _, h, @fun X W0 β hp w vx vy hh hr hry hag => ?_⟩
        obtain rfl := rep_int hry
        have hlt : i.toNat < l.length := (List.getElem?_eq_some_iff.1 hx).1
        cases hr with
        | im hr =>
         cases hr with
         | slice0 => simp at hlt
         | slice _ _ k off cap g hp' hav hcap hcell hrep =>
          refine ⟨_, hrun w _ _ l.length _ ⟨h0, by omega⟩, ?_⟩
          rw [← hsz]
          have hcod := hE.cod T hp'
          refine .iptr (u := 0) (fun j => g (i.toNat * (E.cc T).sz + j)) (by rw [hcod.size]; exact hp') hav (fun j hj => ?_) fun j y hy => hrep _ _ _ _ hx hy
          show w.cell? ⟨k, (off + i.toNat * (E.cc T).sz) + j, none⟩ = _
          rw [Nat.add_assoc]
          apply hcell
          rw [hcod.size] at hj
          calc i.toNat * (E.cc T).sz + j < i.toNat * (E.cc T).sz + (E.cc T).sz := by omega
           _ = (i.toNat + 1) * (E.cc T).sz := by rw [Nat.add_mul, Nat.one_mul]
           _ ≤ l.length * (E.cc T).sz := Nat.mul_le_mul_right _ hlt
       ·cases h
      ·cases h
     ·cases h
    | _ => simp at h
   | _ => simp at h
  ·-- an array
   rename_i n e hd
   obtain ⟨hu, ho, hsz⟩ := hE.arrE hd
   have hrun : ∀ (w : World) (k o j : Nat), j < n → (Instr.indexAt t (.pointer (some ⟨k, o, none⟩)) (.int ki (j : Int))).run P w = .ok (.pointer (some ⟨k, o + j * (E.ti e).size, none⟩)) w := by
    intro w k o j hj
    simp [Instr.indexAt, asIntOf, run_underlying hu, Instr.sureAddr, hj, run_sizeOf' hE ho, add_lit']
   cases x with
   | ptr b off =>
    obtain ⟨j, hj, rfl, hk⟩ := among_some h
    refine ⟨_, _, hk, @fun X W0 β hp w vx vy hh hr hry hag => ?_⟩
    obtain rfl := rep_int hry
    cases hr with | ptr hβ => exact ⟨_, hrun w _ _ j hj, .ptr hβ⟩
   | rptr b i0 u sz =>
    simp only at h
    split at h
    ·rename_i hsz'
     split at h
     ·split at h
      ·rename_i hi
       refine ⟨_, _, h, @fun X W0 β hp w vx vy hh hr hry hag => ?_⟩
       obtain rfl := rep_int hry
       obtain ⟨j, rfl⟩ := Int.eq_ofNat_of_zero_le hi.1
       cases hr with
       | rptr hβ =>
        refine ⟨_, hrun w _ _ j (by omega), ?_⟩
        rw [Int.toNat_natCast, Nat.add_zero, ← hsz', ← Nat.add_mul]
        exact .rptr (u := 0) hβ
      ·cases h
     ·cases h
    ·obtain ⟨j, hj, rfl, hk⟩ := among_some h
     refine ⟨_, _, hk, @fun X W0 β hp w vx vy hh hr hry hag => ?_⟩
     obtain rfl := rep_int hry
     cases hr with | rptr hβ => exact ⟨_, hrun w _ _ j hj, by rw [Nat.add_assoc]; exact .rptr hβ⟩
   | iptr cs u =>
    obtain ⟨j, hj, rfl, hk⟩ := among_some h
    refine ⟨_, _, hk, @fun X W0 β hp w vx vy hh hr hry hag => ?_⟩
    obtain rfl := rep_int hry
    cases hr with | iptr g hp' hav hcell hrep => exact ⟨_, hrun w _ _ j hj, by rw [Nat.add_assoc]; exact .iptr g hp' hav hcell hrep⟩
   | _ => simp at h
  ·cases h
 ·cases h

end Go.Proofs.Ytmlbioapefgioaa.Va

