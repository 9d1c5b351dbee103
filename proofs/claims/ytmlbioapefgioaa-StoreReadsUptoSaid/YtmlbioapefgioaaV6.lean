/- The evaluator and its proof, put together: Va32, Va33, Va34, Va35, Va36, Va37, VaI, VaT, VaU. -/
import Derived.Test.YtmlbioapefgioaaV5
import Derived.WalkKit
import Derived.ProofKit
import Derived.OpenShut
import Derived.ShutString
import Derived.ChangeOld
import Derived.Below
import Derived.SizedLaws
import Derived.Carry
import Derived.ChangeArms
import Derived.JoinedCond
import Derived.Deep.CondSized
/- Plain functions for what the evaluator tells: trees, loops by their least fixed point, readers of shapes. -/
set_option linter.unusedSimpArgs false
set_option linter.unusedVariables false
namespace Go.Proofs.Ytmlbioapefgioaa.Va
open Go

inductive Tw (α : Type) : Type 1 where
 | ret (a : α)
 | no
 | bb (b : Bool) (x y : Tw α)
 | dd (p : Prop) (d : Decidable p) (x y : Tw α)
 | opt {β : Type} (o : Option β) (f : β → Tw α)
 | sm {β γ : Type} (s : β ⊕ γ) (f : β → Tw α) (g : γ → Tw α)

namespace Tw
variable {α β R S X : Type}
def runK (k : α → Option R) : Tw α → Option R
 | ret a => k a
 | no => none
 | bb b x y => match b with | true => runK k x | false => runK k y
 | dd p d x y => @ite _ p d (runK k x) (runK k y)
 | opt o f => match o with | some x => runK k (f x) | none => none
 | sm s f g => match s with | .inl x => runK k (f x) | .inr y => runK k (g y)
def run (t : Tw α) : Option α := t.runK some

theorem runK_eq (k : α → Option R) : ∀ t : Tw α, t.runK k = t.run.bind k
 | ret a => rfl
 | no => rfl
 | bb b x y => by
  cases b
  ·exact runK_eq k y
  ·exact runK_eq k x
 | dd p d x y => by
  by_cases h : p
  ·simp only [runK, run, if_pos h]; exact runK_eq k x
  ·simp only [runK, run, if_neg h]; exact runK_eq k y
 | opt o f => by
  cases o with
  | none => rfl
  | some x => exact runK_eq k (f x)
 | sm s f g => by
  cases s with
  | inl x => exact runK_eq k (f x)
  | inr y => exact runK_eq k (g y)

theorem run_ret (a : α) : (ret a).run = some a := rfl
theorem run_no : (no : Tw α).run = none := rfl
theorem run_bb (b : Bool) (x y : Tw α) : (bb b x y).run = if b = true then x.run else y.run := by cases b <;> rfl
theorem run_dd (p : Prop) (d : Decidable p) (x y : Tw α) : (dd p d x y).run = if p then x.run else y.run := rfl
theorem run_opt (o : Option β) (f : β → Tw α) : (opt o f).run = o.bind fun x => (f x).run := by cases o <;> rfl
theorem run_sm {γ : Type} (s : β ⊕ γ) (f : β → Tw α) (g : γ → Tw α) : (sm s f g).run = s.elim (fun x => (f x).run) (fun y => (g y).run) := by cases s <;> rfl
end Tw

section
variable {S X : Type}
def iter (f : S → Option (S ⊕ X)) : Nat → S → Option X
 | 0, _ => none
 | n + 1, s => match f s with
  | none => none
  | some (.inl s') => iter f n s'
  | some (.inr x) => some x

theorem iter_mono {f : S → Option (S ⊕ X)} : ∀ {n m : Nat} {s : S} {x : X}, iter f n s = some x → n ≤ m → iter f m s = some x
 | 0, _, _, _, h, _ => by cases h
 | n + 1, 0, _, _, _, h => by omega
 | n + 1, m + 1, s, x, h, hm => by
  rw [iter] at h ⊢
  split at h
  ·cases h
  ·exact iter_mono h (by omega)
  ·exact h
theorem iter_det {f : S → Option (S ⊕ X)} {n m : Nat} {s : S} {x y : X} (h : iter f n s = some x) (g : iter f m s = some y) : x = y := by
 have h' := iter_mono h (Nat.le_max_left n m)
 have g' := iter_mono g (Nat.le_max_right n m)
 rw [h'] at g'
 exact Option.some.inj g'

open Classical in
noncomputable def Lp (f : S → Option (S ⊕ X)) (s : S) : Option X :=
 if h : ∃ x n, iter f n s = some x then some h.choose else none

theorem Lp_of {f : S → Option (S ⊕ X)} {n : Nat} {s : S} {x : X} (h : iter f n s = some x) : Lp f s = some x := by
 have hx : ∃ x n, iter f n s = some x := ⟨x, n, h⟩
 unfold Lp
 rw [dif_pos hx]
 obtain ⟨m, hm⟩ := hx.choose_spec
 rw [iter_det hm h]
theorem Lp_some {f : S → Option (S ⊕ X)} {s : S} {x : X} (h : Lp f s = some x) : ∃ n, iter f n s = some x := by
 unfold Lp at h
 split at h
 ·rename_i hx
  obtain ⟨m, hm⟩ := hx.choose_spec
  exact ⟨m, by rw [hm]; exact h⟩
 ·cases h
theorem Lp_eq (f : S → Option (S ⊕ X)) (s : S) : Lp f s = (f s).bind fun r => match r with | .inl s' => Lp f s' | .inr x => some x := by
 have dir (y : X) : Lp f s = some y ↔ ((f s).bind fun r => match r with | .inl s' => Lp f s' | .inr x => some x) = some y := by
  constructor
  ·intro h
   obtain ⟨n, hn⟩ := Lp_some h
   cases n with
   | zero => cases hn
   | succ n =>
    rw [iter] at hn
    split at hn
    ·cases hn
    ·rename_i s' e; rw [e]; exact Lp_of hn
    ·rename_i x e; rw [e]; exact hn
  ·intro h
   cases e : f s with
   | none => rw [e] at h; cases h
   | some q =>
    rw [e] at h
    cases q with
    | inl s' =>
     obtain ⟨n, hn⟩ := Lp_some (show Lp f s' = some y from h)
     exact Lp_of (n := n + 1) (by rw [iter, e]; exact hn)
    | inr x => exact Lp_of (n := 1) (by rw [iter, e]; exact h)
 cases h : Lp f s with
 | none =>
  cases g : (f s).bind fun r => match r with | .inl s' => Lp f s' | .inr x => some x with
  | none => rfl
  | some y => rw [(dir y).2 g] at h; cases h
 | some y => exact ((dir y).1 h).symm
end

variable {U : Nat → Type} {R : Type} {P : Program} {E : Env U}

def rdInt (k : IntKind) : AV U → Option Int
 | .im (.int k' n) => if k' = k then some n else none
 | _ => none
def rdBool : AV U → Option Bool
 | .im (.bool b) => some b
 | _ => none
def rdStr : AV U → Option ByteArray
 | .im (.str s) => some s
 | _ => none
def rdFlt (k : FloatKind) : AV U → Option Nat
 | .im (.flt k' n) => if k' = k then some n else none
 | _ => none
def rdSl (T : Nat) : AV U → Option (List (U T))
 | .im (.slice T' l) => if e : T' = T then some (e ▸ l) else none
 | _ => none
def isNil : AV U → Nat → Bool
 | .im .nilp, 0 => true
 | .im .nils, 1 => true
 | .im .nilf, 2 => true
 | .im .nili, 3 => true
 | _, _ => false
def isOwn (b : Nat) : AV U → Bool
 | .own b' => b' == b
 | _ => false
def isPtr (b off : Nat) : AV U → Bool
 | .ptr b' o => b' == b && o == off
 | _ => false
def isUnd : AV U → Bool
 | .und => true
 | _ => false
def rdAgg : AV U → Option (List (AV U))
 | .agg xs => some xs
 | _ => none
def rdTup : AV U → Option (List (AV U))
 | .tup xs => some xs
 | _ => none
def rdClo (f : FuncId) : AV U → Option (List (AV U))
 | .clo g xs => if g = f then some xs else none
 | _ => none
def rdVar : Blk U → Option (List (AV U))
 | .var xs => some xs
 | _ => none
def rdRow (T : Nat) (live : Bool) : Blk U → Option (List (U T))
 | .row T' l lv => if e : T' = T then (if lv = live then some (e ▸ l) else none) else none
 | _ => none
def isDeadB : Blk U → Bool
 | .dead => true
 | _ => false

theorem rdInt_some {k : IntKind} {x : AV U} {n : Int} (h : rdInt k x = some n) : x = .im (.int k n) := by
 unfold rdInt at h
 split at h
 ·split at h
  ·rename_i e; cases h; rw [e]
  ·cases h
 ·cases h
theorem rdBool_some {x : AV U} {b : Bool} (h : rdBool x = some b) : x = .im (.bool b) := by
 unfold rdBool at h
 split at h
 ·cases h; rfl
 ·cases h
theorem rdStr_some {x : AV U} {s : ByteArray} (h : rdStr x = some s) : x = .im (.str s) := by
 unfold rdStr at h
 split at h
 ·cases h; rfl
 ·cases h
theorem rdFlt_some {k : FloatKind} {x : AV U} {n : Nat} (h : rdFlt k x = some n) : x = .im (.flt k n) := by
 unfold rdFlt at h
 split at h
 ·split at h
  ·rename_i e; cases h; rw [e]
  ·cases h
 ·cases h
theorem rdSl_some {T : Nat} {x : AV U} {l : List (U T)} (h : rdSl T x = some l) : x = .im (.slice T l) := by
 unfold rdSl at h
 split at h
 ·split at h
  ·rename_i e; subst e; cases h; rfl
  ·cases h
 ·cases h
theorem isNil_some {x : AV U} {i : Nat} (h : isNil x i = true) : (i = 0 → x = .im .nilp) ∧ (i = 1 → x = .im .nils) ∧ (i = 2 → x = .im .nilf) ∧ (i = 3 → x = .im .nili) := by
 unfold isNil at h
 split at h <;> first | (cases h; done) | (refine ⟨?_, ?_, ?_, ?_⟩ <;> intro e <;> first | rfl | (cases e; done))
theorem isOwn_some {b : Nat} {x : AV U} (h : isOwn b x = true) : x = .own b := by
 unfold isOwn at h
 split at h
 ·rw [beq_iff_eq.1 h]
 ·cases h
theorem isPtr_some {b off : Nat} {x : AV U} (h : isPtr b off x = true) : x = .ptr b off := by
 unfold isPtr at h
 split at h
 ·simp only [Bool.and_eq_true, beq_iff_eq] at h
  obtain ⟨rfl, rfl⟩ := h
  rfl
 ·cases h
theorem isUnd_some {x : AV U} (h : isUnd x = true) : x = .und := by
 unfold isUnd at h
 split at h
 ·rfl
 ·cases h
theorem rdAgg_some {x : AV U} {xs : List (AV U)} (h : rdAgg x = some xs) : x = .agg xs := by
 unfold rdAgg at h
 split at h
 ·cases h; rfl
 ·cases h
theorem rdTup_some {x : AV U} {xs : List (AV U)} (h : rdTup x = some xs) : x = .tup xs := by
 unfold rdTup at h
 split at h
 ·cases h; rfl
 ·cases h
theorem rdClo_some {f : FuncId} {x : AV U} {xs : List (AV U)} (h : rdClo f x = some xs) : x = .clo f xs := by
 unfold rdClo at h
 split at h
 ·split at h
  ·rename_i e; cases h; rw [e]
  ·cases h
 ·cases h
theorem rdVar_some {x : Blk U} {xs : List (AV U)} (h : rdVar x = some xs) : x = .var xs := by
 unfold rdVar at h
 split at h
 ·cases h; rfl
 ·cases h
theorem rdRow_some {T : Nat} {lv : Bool} {x : Blk U} {l : List (U T)} (h : rdRow T lv x = some l) : x = .row T l lv := by
 unfold rdRow at h
 split at h
 ·split at h
  ·rename_i e; subst e
   split at h
   ·rename_i e; subst e; cases h; rfl
   ·cases h
  ·cases h
 ·cases h
theorem isDeadB_some {x : Blk U} (h : isDeadB x = true) : x = .dead := by
 unfold isDeadB at h
 split at h
 ·rfl
 ·cases h

def Ex.isNormal : Ex → Bool
 | .normal => true
 | _ => false

theorem loop_short {b : Code} {S X : Type} {f : S → Tw (S ⊕ X)} {head : S → St U} {out : X → Ex × St U} (ho : ∀ x, (out x).1.isNormal = false)
  (hf : ∀ (R : Type) (s : S) (K : Ex → St U → Option R), (codeA E b (head s) fun ex st' => match ex with
   | .normal => match gc E.cc (E.D (loopKey b)).1 st' with | some q => K .normal q | none => none
   | ex => match gc E.cc (E.D (loopKey b)).2 st' with | some q => K ex q | none => none) =
   (f s).runK fun r => match r with | .inl s' => K .normal (head s') | .inr x => K (out x).1 (out x).2)
  {s : S} {x : X} (h : Lp (fun s => (f s).run) s = some x) {R : Type} {K : Ex → St U → Option R} {r : R} (hr : K (out x).1 (out x).2 = some r) :
  ∃ n, loopA E b n (head s) K = some r := by
 obtain ⟨n, hn⟩ := Lp_some h
 refine ⟨n, ?_⟩
 clear h
 induction n generalizing s with
 | zero => cases hn
 | succ n ih =>
  have e := hf R s fun ex q => match ex with | .normal => roundsA (codeA E b) (gc E.cc (E.D (loopKey b)).1) (gc E.cc (E.D (loopKey b)).2) n q K | ex => K ex q
  have e2 : loopA E b (n + 1) (head s) K = (codeA E b (head s) fun ex st' => match ex with
   | .normal => match gc E.cc (E.D (loopKey b)).1 st' with | some q => (fun (ex : Ex) q => match ex with | .normal => roundsA (codeA E b) (gc E.cc (E.D (loopKey b)).1) (gc E.cc (E.D (loopKey b)).2) n q K | ex => K ex q) .normal q | none => none
   | ex => match gc E.cc (E.D (loopKey b)).2 st' with | some q => (fun (ex : Ex) q => match ex with | .normal => roundsA (codeA E b) (gc E.cc (E.D (loopKey b)).1) (gc E.cc (E.D (loopKey b)).2) n q K | ex => K ex q) ex q | none => none) := by
   unfold loopA
   rw [roundsA]
   congr 1
   funext ex st'
   cases ex <;> rfl
  rw [e2, e, Tw.runK_eq]
  rw [iter] at hn
  split at hn
  ·cases hn
  ·rename_i s' hs
   rw [hs]
   exact ih hn
  ·rename_i y hs
   cases hn
   rw [hs]
   show (match (out x).1 with | .normal => _ | ex => K ex (out x).2) = some r
   have := ho x
   cases hx : (out x).1 with
   | normal => rw [hx] at this; cases this
   | ret => rw [hx] at hr; exact hr
   | exit i => rw [hx] at hr; exact hr

theorem SoundF.less {f : FuncId} {A B : AFun U} (h : SoundF P E.cc f B) (hl : ∀ (R : Type) (args : List (AV U)) (hp : Hp U) (K : AV U → Hp U → Option R) (r : R), A R args hp K = some r → B R args hp K = some r) :
  SoundF P E.cc f A := fun R args hp K r hr => h R args hp K r (hl R args hp K r hr)

end Go.Proofs.Ytmlbioapefgioaa.Va

/- The short forms of a function's loops and cuts, by key. -/
namespace Go.Proofs.Ytmlbioapefgioaa.Va
open Go

variable {U : Nat → Type} {R : Type} {P : Program} {E : Env U}

def seqsOf : Code → List Code
 | .seq a b => b :: (seqsOf a ++ seqsOf b)
 | .cond _ a b => seqsOf a ++ seqsOf b
 | .block _ b | .scope b => seqsOf b
 | .loop b => seqsOf b
 | .rangeFunc _ _ a b => seqsOf a ++ seqsOf b
 | _ => []

def LoopOK (E : Env U) (b : Code) : Prop :=
 ∀ L, E.Λ.lookup (loopKey b) = some L → ∀ (R : Type) (st : St U) (K : Ex → St U → Option R) (r : R), L R st K = some r → ∃ n, loopA E b n st K = some r
def CutOK (E : Env U) (b : Code) : Prop :=
 ∀ L, E.C.lookup (loopKey b) = some L → ∀ (R : Type) (st : St U) (K : Ex → St U → Option R) (r : R), L R st K = some r → codeA E b st (outK E (loopKey b) K) = some r

theorem just_of : ∀ (c : Code), (∀ b ∈ loopsOf c, LoopOK E b) → (∀ b ∈ seqsOf c, CutOK E b) → Just E c := by
 intro c
 induction c with
 | seq a b iha ihb =>
  intro hl hs
  exact ⟨iha (fun x hx => hl x (by simp [loopsOf, hx])) (fun x hx => hs x (by simp [seqsOf, hx])),
   ihb (fun x hx => hl x (by simp [loopsOf, hx])) (fun x hx => hs x (by simp [seqsOf, hx])), hs b (by simp [seqsOf])⟩
 | cond c a b iha ihb =>
  intro hl hs
  exact ⟨iha (fun x hx => hl x (by simp [loopsOf, hx])) (fun x hx => hs x (by simp [seqsOf, hx])),
   ihb (fun x hx => hl x (by simp [loopsOf, hx])) (fun x hx => hs x (by simp [seqsOf, hx]))⟩
 | block id b ih => intro hl hs; exact ih (fun x hx => hl x (by simp [loopsOf, hx])) (fun x hx => hs x (by simp [seqsOf, hx]))
 | scope b ih => intro hl hs; exact ih (fun x hx => hl x (by simp [loopsOf, hx])) (fun x hx => hs x (by simp [seqsOf, hx]))
 | loop b ih => intro hl hs; exact ⟨ih (fun x hx => hl x (by simp [loopsOf, hx])) (fun x hx => hs x (by simp [seqsOf, hx])), hl b (by simp [loopsOf])⟩
 | rangeFunc g ps a b iha ihb =>
  intro hl hs
  cases g with
  | tmp g => exact ⟨iha (fun x hx => hl x (by simp [loopsOf, hx])) (fun x hx => hs x (by simp [seqsOf, hx])), ihb (fun x hx => hl x (by simp [loopsOf, hx])) (fun x hx => hs x (by simp [seqsOf, hx])), hl (.rangeFunc (.global g) ps a b) (by simp [loopsOf])⟩
  | _ => trivial
 | _ => intro _ _; trivial

def pick (cs : List Code) (k : Nat) : Code := (cs.find? fun b => loopKey b == k).getD .skip
def onceB (cs : List Code) (k : Nat) : Bool := (cs.filter fun b => loopKey b == k).length ≤ 1

theorem pick_eq {cs : List Code} {b : Code} (hb : b ∈ cs) (h : onceB cs (loopKey b) = true) : pick cs (loopKey b) = b := by
 unfold pick onceB at *
 rw [decide_eq_true_eq] at h
 rw [← List.head?_filter]
 have hm : b ∈ cs.filter fun x => loopKey x == loopKey b := List.mem_filter.2 ⟨hb, by simp⟩
 generalize (cs.filter fun x => loopKey x == loopKey b) = l at h hm
 match l, h, hm with
 | [x], _, hm => rcases List.mem_singleton.1 hm with rfl; rfl
 | x :: y :: l, h, _ => simp at h

theorem lookup_mem1 {α : Type 1} {xs : List (Nat × α)} {k : Nat} {v : α} (h : xs.lookup k = some v) : (k, v) ∈ xs := by
 induction xs with
 | nil => cases h
 | cons p xs ih =>
  obtain ⟨i, x⟩ := p
  rw [List.lookup_cons] at h
  split at h
  ·rename_i e
   cases h
   rw [beq_iff_eq] at e
   subst e
   exact List.mem_cons_self ..
  ·exact List.mem_cons_of_mem _ (ih h)

theorem just_by {c : Code} (hu : (E.Λ.all fun p => onceB (loopsOf c) p.1) = true) (hv : (E.C.all fun p => onceB (seqsOf c) p.1) = true)
  (hl : ∀ p ∈ E.Λ, ∀ (R : Type) (st : St U) (K : Ex → St U → Option R) (r : R), p.2 R st K = some r → ∃ n, loopA E (pick (loopsOf c) p.1) n st K = some r)
  (hc : ∀ p ∈ E.C, ∀ (R : Type) (st : St U) (K : Ex → St U → Option R) (r : R), p.2 R st K = some r → codeA E (pick (seqsOf c) p.1) st (outK E p.1 K) = some r) : Just E c := by
 refine just_of c (fun b hb L hL => ?_) (fun b hb L hL => ?_)
 ·have hm := lookup_mem1 hL
  have := hl _ hm
  simp only [] at this
  rwa [pick_eq hb (List.all_eq_true.1 hu _ hm)] at this
 ·have hm := lookup_mem1 hL
  have := hc _ hm
  simp only [] at this
  rwa [pick_eq hb (List.all_eq_true.1 hv _ hm)] at this

theorem gam_of (h : ∀ p ∈ E.Γ, SoundF P E.cc p.1 p.2 ∧ FnOK P p.1) (hk : ∀ p ∈ E.Γ, E.ro.contains p.1 = true → KeepA p.2) (hi : ∀ p ∈ E.It, ItSound P E.cc p.1 p.2 ∧ FnOK P p.1 := by exact fun _ h => nomatch h) : GamOK P E :=
 ⟨fun f A hA => (h _ (lookup_mem1 hA)).1, fun f A hA => (h _ (lookup_mem1 hA)).2, fun f hf A hA => hk _ (lookup_mem1 hA) hf, fun f A hA => hi _ (lookup_mem1 hA)⟩
theorem no_keep {ro : List FuncId} {f : FuncId} {A : AFun U} (h : ro.contains f = false) : ro.contains f = true → KeepA A := fun h' => by rw [h] at h'; cases h'

def dtab (xs : List (Nat × Lv × Lv)) (k : Nat) : Lv × Lv := (xs.lookup k).getD (⟨[], []⟩, ⟨[], []⟩)

def Env.same (E E' : Env U) : Prop := E'.ti = E.ti ∧ E'.cc = E.cc

theorem inRow_same {E E' : Env U} (h : E.same E') : ∀ (fs : List (TypeId × Nat)) (o : Nat), inRow E' o fs = inRow E o fs
 | [], o => rfl
 | (t, off) :: fs, o => by
  unfold inRow
  rw [h.1, inRow_same h fs]
theorem eqB_same {E E' : Env U} (h : E.same E') : ∀ (n : Nat) (t : TypeId), eqB P E' n t = eqB P E n t
 | 0, t => rfl
 | n + 1, t => by
  unfold eqB
  simp only [h.1, inRow_same h, eqB_same h n]
theorem tyB_with (Γ : List (FuncId × AFun U)) (Λ C : List (Nat × LFun U)) (D : Nat → Lv × Lv) (ro : List FuncId) (t : TypeId) : tyB P { E with Γ := Γ, Λ := Λ, C := C, D := D, ro := ro } t = tyB P E t := by
 have e : ∀ n t, eqB P { E with Γ := Γ, Λ := Λ, C := C, D := D, ro := ro } n t = eqB P E n t := fun n t =>
  eqB_same (E := E) (E' := { E with Γ := Γ, Λ := Λ, C := C, D := D, ro := ro }) (And.intro rfl rfl) n t
 unfold tyB
 simp only [e]
 rfl

theorem EnvOK.with (h : EnvOK P E) (Γ : List (FuncId × AFun U)) (Λ C : List (Nat × LFun U)) (D : Nat → Lv × Lv) (ro : List FuncId) : EnvOK P { E with Γ := Γ, Λ := Λ, C := C, D := D, ro := ro } :=
 ⟨fun t => (tyB_with Γ Λ C D ro t).trans (h.ty t), h.cod, h.tag0, h.btsz, h.toB, h.ofB⟩

theorem tyB_pre (p : List (Nat × List Ps × Md)) (ki : List Nat) (b : Bool) (t : TypeId) : tyB P { E with pre := p, kill := ki, tr := b } t = tyB P E t := by
 have e : ∀ n t, eqB P { E with pre := p, kill := ki, tr := b } n t = eqB P E n t := fun n t =>
  eqB_same (E := E) (E' := { E with pre := p, kill := ki, tr := b }) (And.intro rfl rfl) n t
 unfold tyB
 simp only [e]
 rfl
theorem EnvOK.pre (h : EnvOK P E) (p : List (Nat × List Ps × Md)) (ki : List Nat) (b : Bool) : EnvOK P { E with pre := p, kill := ki, tr := b } :=
 ⟨fun t => (tyB_pre p ki b t).trans (h.ty t), h.cod, h.tag0, h.btsz, h.toB, h.ofB⟩

theorem tyB_it (i : List (FuncId × AFun U)) (t : TypeId) : tyB P { E with It := i } t = tyB P E t := by
 have e : ∀ n t, eqB P { E with It := i } n t = eqB P E n t := fun n t => eqB_same (E := E) (E' := { E with It := i }) (And.intro rfl rfl) n t
 unfold tyB
 simp only [e]
 rfl
theorem EnvOK.it (h : EnvOK P E) (i : List (FuncId × AFun U)) : EnvOK P { E with It := i } :=
 ⟨fun t => (tyB_it i t).trans (h.ty t), h.cod, h.tag0, h.btsz, h.toB, h.ofB⟩

end Go.Proofs.Ytmlbioapefgioaa.Va

/- Shapes with leaves: their readers, contracts and short loops made of plain functions. -/
namespace Go.Proofs.Ytmlbioapefgioaa.Va
open Go

inductive Pt where
 | int (k : IntKind) | bool | str | flt (k : FloatKind) | sl (T : Nat) | nilp | nils | nilf | nili
 | own (b : Nat) | sub (b sz : Nat) | ptr (b off : Nat) | rptr (b u sz : Nat)
 | agg (p : Pt) | tup (p : Pt) | clo (f : Nat) (p : Pt) | und | bots (n : Nat)
 | dead | var (p : Pt) | row (T : Nat) (live : Bool)
 | mp (b : Nat) | gh (T : Nat) | map
 | nl | cs (p q : Pt)

variable {U : Nat → Type} {R : Type} {P : Program} {E : Env U}

def Pt.Lf (U : Nat → Type) : Pt → Type
 | .int _ => Int
 | .bool => Bool
 | .str => ByteArray
 | .flt _ => Nat
 | .sl T => List (U T)
 | .row T _ => List (U T)
 | .gh T => List (U T) × Int
 | .map => List Int
 | .sub .. => Nat × Nat
 | .rptr .. => Nat
 | .agg p | .tup p | .clo _ p | .var p => p.Lf U
 | .cs p q => p.Lf U × q.Lf U
 | _ => Unit

def Pt.mkL : (p : Pt) → p.Lf U → List (AV U)
 | .int k, n => [.im (.int k n)]
 | .bool, b => [.im (.bool b)]
 | .str, s => [.im (.str s)]
 | .flt k, n => [.im (.flt k n)]
 | .sl T, l => [.im (.slice T l)]
 | .nilp, _ => [.im .nilp]
 | .nils, _ => [.im .nils]
 | .nilf, _ => [.im .nilf]
 | .nili, _ => [.im .nili]
 | .own b, _ => [.own b]
 | .sub b sz, l => [.sub b l.1 l.2 sz]
 | .ptr b o, _ => [.ptr b o]
 | .rptr b u sz, i => [.rptr b i u sz]
 | .agg p, l => [.agg (p.mkL l)]
 | .tup p, l => [.tup (p.mkL l)]
 | .clo f p, l => [.clo f (p.mkL l)]
 | .und, _ => [.und]
 | .mp b, _ => [.mp b]
 | .gh T, l => [.gh T l.1 l.2]
 | .bots n, _ => List.replicate n .bot
 | .nl, _ => []
 | .cs p q, l => p.mkL l.1 ++ q.mkL l.2
 | .dead, _ | .var _, _ | .row _ _, _ | .map, _ => []

def Pt.mkH : (p : Pt) → p.Lf U → Hp U
 | .dead, _ => [.dead]
 | .var p, l => [.var (p.mkL l)]
 | .row T lv, l => [.row T l lv]
 | .map, l => [.map l]
 | .cs p q, l => p.mkH l.1 ++ q.mkH l.2
 | _, _ => []

def rdBots : Nat → List (AV U) → Option (List (AV U))
 | 0, xs => some xs
 | n + 1, .bot :: xs => rdBots n xs
 | _, _ => none

def rdSub (b sz : Nat) : AV U → Option (Nat × Nat)
 | .sub b' o l sz' => if b' = b ∧ sz' = sz then some (o, l) else none
 | _ => none
def rdRptr (b u sz : Nat) : AV U → Option Nat
 | .rptr b' i u' sz' => if b' = b ∧ u' = u ∧ sz' = sz then some i else none
 | _ => none
def isMp (b : Nat) : AV U → Bool
 | .mp b' => b' == b
 | _ => false
def rdGh (T : Nat) : AV U → Option (List (U T) × Int)
 | .gh T' l i => if e : T' = T then some (e ▸ l, i) else none
 | _ => none
def rdMap : Blk U → Option (List Int)
 | .map l => some l
 | _ => none
theorem isMp_some {b : Nat} {x : AV U} (h : isMp b x = true) : x = .mp b := by
 unfold isMp at h
 split at h
 ·rw [beq_iff_eq] at h; rw [h]
 ·cases h
theorem rdGh_some {T : Nat} {x : AV U} {l : List (U T) × Int} (h : rdGh T x = some l) : x = .gh T l.1 l.2 := by
 unfold rdGh at h
 split at h
 ·split at h
  ·rename_i e; subst e; cases h; rfl
  ·cases h
 ·cases h
theorem rdMap_some {x : Blk U} {l : List Int} (h : rdMap x = some l) : x = .map l := by
 unfold rdMap at h
 split at h
 ·cases h; rfl
 ·cases h
theorem rdSub_some {b sz : Nat} {x : AV U} {l : Nat × Nat} (h : rdSub b sz x = some l) : x = .sub b l.1 l.2 sz := by
 unfold rdSub at h
 split at h
 ·split at h
  ·rename_i e
   obtain ⟨rfl, rfl⟩ := e
   cases h
   rfl
  ·cases h
 ·cases h
theorem rdRptr_some {b u sz : Nat} {x : AV U} {i : Nat} (h : rdRptr b u sz x = some i) : x = .rptr b i u sz := by
 unfold rdRptr at h
 split at h
 ·split at h
  ·rename_i e
   obtain ⟨rfl, rfl, rfl⟩ := e
   cases h
   rfl
  ·cases h
 ·cases h

def Pt.rdL : (p : Pt) → List (AV U) → Option (p.Lf U × List (AV U))
 | .int k, x :: xs => match rdInt k x with | some n => some (n, xs) | none => none
 | .bool, x :: xs => match rdBool x with | some n => some (n, xs) | none => none
 | .str, x :: xs => match rdStr x with | some n => some (n, xs) | none => none
 | .flt k, x :: xs => match rdFlt k x with | some n => some (n, xs) | none => none
 | .sl T, x :: xs => match rdSl T x with | some n => some (n, xs) | none => none
 | .nilp, x :: xs => match isNil x 0 with | true => some ((), xs) | false => none
 | .nils, x :: xs => match isNil x 1 with | true => some ((), xs) | false => none
 | .nilf, x :: xs => match isNil x 2 with | true => some ((), xs) | false => none
 | .nili, x :: xs => match isNil x 3 with | true => some ((), xs) | false => none
 | .own b, x :: xs => match isOwn b x with | true => some ((), xs) | false => none
 | .sub b sz, x :: xs => match rdSub b sz x with | some n => some (n, xs) | none => none
 | .ptr b o, x :: xs => match isPtr b o x with | true => some ((), xs) | false => none
 | .rptr b u sz, x :: xs => match rdRptr b u sz x with | some n => some (n, xs) | none => none
 | .agg p, x :: xs => match rdAgg x with
  | some ys => match p.rdL ys with | some (l, []) => some (l, xs) | _ => none
  | none => none
 | .tup p, x :: xs => match rdTup x with
  | some ys => match p.rdL ys with | some (l, []) => some (l, xs) | _ => none
  | none => none
 | .clo f p, x :: xs => match rdClo f x with
  | some ys => match p.rdL ys with | some (l, []) => some (l, xs) | _ => none
  | none => none
 | .mp b, x :: xs => match isMp b x with | true => some ((), xs) | false => none
 | .gh T, x :: xs => match rdGh T x with | some n => some (n, xs) | none => none
 | .und, x :: xs => match isUnd x with | true => some ((), xs) | false => none
 | .bots n, xs => match rdBots n xs with | some ys => some ((), ys) | none => none
 | .nl, xs => some ((), xs)
 | .cs p q, xs => match p.rdL xs with
  | some (l, ys) => match q.rdL ys with | some (m, zs) => some ((l, m), zs) | none => none
  | none => none
 | _, _ => none

def Pt.rdH : (p : Pt) → Hp U → Option (p.Lf U × Hp U)
 | .dead, x :: xs => match isDeadB x with | true => some ((), xs) | false => none
 | .var p, x :: xs => match rdVar x with
  | some ys => match p.rdL ys with | some (l, []) => some (l, xs) | _ => none
  | none => none
 | .row T lv, x :: xs => match rdRow T lv x with | some l => some (l, xs) | none => none
 | .map, x :: xs => match rdMap x with | some l => some (l, xs) | none => none
 | .nl, xs => some ((), xs)
 | .cs p q, xs => match p.rdH xs with
  | some (l, ys) => match q.rdH ys with | some (m, zs) => some ((l, m), zs) | none => none
  | none => none
 | _, _ => none

theorem rdBots_some : ∀ {n : Nat} {xs ys : List (AV U)}, rdBots n xs = some ys → xs = List.replicate n .bot ++ ys
 | 0, xs, ys, h => by cases h; rfl
 | n + 1, [], ys, h => by cases h
 | n + 1, x :: xs, ys, h => by
  cases x <;> first | (cases h; done) | skip
  rw [List.replicate_succ, List.cons_append, ← rdBots_some (n := n) h]

theorem Pt.rdL_some : ∀ {p : Pt} {xs ys : List (AV U)} {l : p.Lf U}, p.rdL xs = some (l, ys) → xs = p.mkL l ++ ys := by
 intro p
 induction p with
 | int k | bool | str | flt k | sl T | sub b sz | rptr b u sz | gh T =>
  intro xs ys l h
  cases xs with
  | nil => cases h
  | cons x xs =>
   simp only [rdL] at h
   split at h
   ·rename_i e
    cases h
    first | rw [rdGh_some e] | rw [rdSub_some e] | rw [rdRptr_some e] | rw [rdInt_some e] | rw [rdBool_some e] | rw [rdStr_some e] | rw [rdFlt_some e] | rw [rdSl_some e]
    rfl
   ·cases h
 | nilp | nils | nilf | nili =>
  intro xs ys l h
  cases xs with
  | nil => cases h
  | cons x xs =>
   simp only [rdL] at h
   split at h
   ·rename_i e
    cases h
    first | rw [(isNil_some e).1 rfl] | rw [(isNil_some e).2.1 rfl] | rw [(isNil_some e).2.2.1 rfl] | rw [(isNil_some e).2.2.2 rfl]
    rfl
   ·cases h
 | own b | ptr b o | und | mp b =>
  intro xs ys l h
  cases xs with
  | nil => cases h
  | cons x xs =>
   simp only [rdL] at h
   split at h
   ·rename_i e
    cases h
    first | rw [isMp_some e] | rw [isOwn_some e] | rw [isPtr_some e] | rw [isUnd_some e]
    rfl
   ·cases h
 | agg p ih | tup p ih | clo f p ih =>
  intro xs ys l h
  cases xs with
  | nil => cases h
  | cons x xs =>
   simp only [rdL] at h
   split at h
   ·rename_i e
    split at h
    ·rename_i e2
     cases h
     have := ih e2
     rw [List.append_nil] at this
     first | rw [rdAgg_some e, this] | rw [rdTup_some e, this] | rw [rdClo_some e, this]
     rfl
    ·cases h
   ·cases h
 | bots n =>
  intro xs ys l h
  simp only [rdL] at h
  split at h
  ·rename_i e
   cases h
   exact rdBots_some e
  ·cases h
 | nl =>
  intro xs ys l h
  cases h
  rfl
 | cs p q ihp ihq =>
  intro xs ys l h
  simp only [rdL] at h
  split at h
  ·rename_i e
   split at h
   ·rename_i e2
    cases h
    rw [ihp e, ihq e2]
    simp only [mkL, List.append_assoc]
   ·cases h
  ·cases h
 | dead | var p ih | row T lv | map =>
  intro xs ys l h
  cases xs <;> cases h

theorem Pt.rdH_some : ∀ {p : Pt} {xs ys : Hp U} {l : p.Lf U}, p.rdH xs = some (l, ys) → xs = p.mkH l ++ ys := by
 intro p
 induction p with
 | dead =>
  intro xs ys l h
  cases xs with
  | nil => cases h
  | cons x xs =>
   simp only [rdH] at h
   split at h
   ·rename_i e
    cases h
    rw [isDeadB_some e]
    rfl
   ·cases h
 | var p ih =>
  intro xs ys l h
  cases xs with
  | nil => cases h
  | cons x xs =>
   simp only [rdH] at h
   split at h
   ·rename_i e
    split at h
    ·rename_i e2
     cases h
     have := Pt.rdL_some e2
     rw [List.append_nil] at this
     rw [rdVar_some e, this]
     rfl
    ·cases h
   ·cases h
 | row T lv =>
  intro xs ys l h
  cases xs with
  | nil => cases h
  | cons x xs =>
   simp only [rdH] at h
   split at h
   ·rename_i e
    cases h
    rw [rdRow_some e]
    rfl
   ·cases h
 | map =>
  intro xs ys l h
  cases xs with
  | nil => cases h
  | cons x xs =>
   simp only [rdH] at h
   split at h
   ·rename_i e
    cases h
    rw [rdMap_some e]
    rfl
   ·cases h
 | nl =>
  intro xs ys l h
  cases h
  rfl
 | cs p q ihp ihq =>
  intro xs ys l h
  simp only [rdH] at h
  split at h
  ·rename_i e
   split at h
   ·rename_i e2
    cases h
    rw [ihp e, ihq e2]
    simp only [mkH, List.append_assoc]
   ·cases h
  ·cases h
 | _ => intro xs ys l h; cases xs <;> cases h

def Pt.rd (p q : Pt) (xs : List (AV U)) (h : Hp U) : Option (p.Lf U × q.Lf U) :=
 match p.rdL xs with
 | some (l, []) => match q.rdH h with
  | some (m, []) => some (l, m)
  | _ => none
 | _ => none

theorem Pt.rd_some {p q : Pt} {xs : List (AV U)} {h : Hp U} {l : p.Lf U × q.Lf U} (e : Pt.rd p q xs h = some l) : xs = p.mkL l.1 ∧ h = q.mkH l.2 := by
 unfold Pt.rd at e
 split at e
 ·rename_i e1
  split at e
  ·rename_i e2
   cases e
   have h1 := rdL_some e1
   have h2 := rdH_some e2
   rw [List.append_nil] at h1 h2
   exact ⟨h1, h2⟩
  ·cases e
 ·cases e

def Tw.mapR {α β : Type} (g : α → β) : Tw α → Tw β
 | .ret a => .ret (g a)
 | .no => .no
 | .bb b x y => .bb b (x.mapR g) (y.mapR g)
 | .dd p d x y => .dd p d (x.mapR g) (y.mapR g)
 | .opt o f => .opt o fun z => (f z).mapR g
 | .sm s f h => .sm s (fun z => (f z).mapR g) (fun z => (h z).mapR g)

abbrev Sp (X : Type) := X → Tw X
def sp1 {α : Type} : Sp α := fun x => .ret x
def spS {α β : Type} (g : Sp β) : Sp (α ⊕ β) := fun x => .sm x (fun a => .ret (.inl a)) (fun b => (g b).mapR .inr)
def SpOK {X : Type} (sp : Sp X) : Prop := ∀ (R : Type) (x : X) (k : X → Option R), (sp x).runK k = k x

theorem Tw.runK_mapR {α β R : Type} (g : α → β) (k : β → Option R) : ∀ t : Tw α, (t.mapR g).runK k = t.runK fun a => k (g a)
 | ret a => rfl
 | no => rfl
 | bb b x y => by
  cases b
  ·exact runK_mapR g k y
  ·exact runK_mapR g k x
 | dd p d x y => by
  by_cases h : p
  ·simp only [mapR, runK, if_pos h]; exact runK_mapR g k x
  ·simp only [mapR, runK, if_neg h]; exact runK_mapR g k y
 | opt o f => by
  cases o with
  | none => rfl
  | some x => exact runK_mapR g k (f x)
 | sm s f h => by
  cases s with
  | inl x => exact runK_mapR g k (f x)
  | inr y => exact runK_mapR g k (h y)

theorem sp1_ok {α : Type} : SpOK (sp1 (α := α)) := fun _ _ _ => rfl
theorem spS_ok {α β : Type} {g : Sp β} (h : SpOK g) : SpOK (spS (α := α) g) := by
 intro R x k
 cases x with
 | inl a => rfl
 | inr b =>
  show (((g b).mapR Sum.inr : Tw (α ⊕ β))).runK k = _
  rw [Tw.runK_mapR, h]

def mkA (p q : Pt) {X : Type} (c : p.Lf U × q.Lf U → Option X) (sp : Sp X) (v : p.Lf U × q.Lf U → X → AV U) (hh : p.Lf U × q.Lf U → X → Hp U) : AFun U := fun R xs h K =>
 match Pt.rd p q xs h with
 | some l => match c l with
  | some x => (sp x).runK fun y => K (v l y) (hh l y)
  | none => none
 | none => none

theorem mkA_ok {fn : Func} {ms : List (Nat × List Ps × Md)} {f : FuncId} {p q : Pt} {X : Type} {t : p.Lf U × q.Lf U → Tw X} {sp : Sp X} {v : p.Lf U × q.Lf U → X → AV U} {hh : p.Lf U × q.Lf U → X → Hp U}
  (hsp : SpOK sp)
  (hk : ∀ (R : Type) (l : p.Lf U × q.Lf U) (K : AV U → Hp U → Option R), funcA E fn ms R (p.mkL l.1) (q.mkH l.2) K = (t l).runK fun y => K (v l y) (hh l y))
  (hs : SoundF P E.cc f (funcA E fn ms)) : SoundF P E.cc f (mkA p q (fun l => (t l).run) sp v hh) := by
 refine SoundF.less hs fun R xs h K r hr => ?_
 unfold mkA at hr
 split at hr
 ·rename_i l e
  obtain ⟨rfl, rfl⟩ := Pt.rd_some e
  rw [hk, Tw.runK_eq]
  split at hr
  ·rename_i x e2
   have e2 : (t l).run = some x := e2
   rw [e2]
   rw [hsp] at hr
   exact hr
  ·cases hr
 ·cases hr

theorem mkA_keep {p q : Pt} {X : Type} {c : p.Lf U × q.Lf U → Option X} {sp : Sp X} {v : p.Lf U × q.Lf U → X → AV U} {hh : p.Lf U × q.Lf U → X → Hp U} (hsp : SpOK sp)
  (hkeep : ∀ l y, ∃ new, hh l y = q.mkH l.2 ++ new) : KeepA (mkA p q c sp v hh) := by
 intro R args h K r hr
 unfold mkA at hr
 split at hr
 ·rename_i l e
  obtain ⟨rfl, rfl⟩ := Pt.rd_some e
  split at hr
  ·rename_i x e2
   rw [hsp] at hr
   obtain ⟨new, hn⟩ := hkeep l x
   refine ⟨v l x, new, by rw [← hn]; exact hr, fun S K' => ?_⟩
   unfold mkA
   rw [e]
   simp only [e2]
   rw [hsp, hn]
  ·cases hr
 ·cases hr

def orA (p q : Pt) (A B : AFun U) : AFun U := fun R xs h K =>
 match Pt.rd p q xs h with
 | some _ => A R xs h K
 | none => B R xs h K
theorem orA_ok {f : FuncId} {p q : Pt} {A B : AFun U} (ha : SoundF P E.cc f A) (hb : SoundF P E.cc f B) : SoundF P E.cc f (orA p q A B) := by
 intro R xs h K r hr
 unfold orA at hr
 split at hr
 ·exact ha R xs h K r hr
 ·exact hb R xs h K r hr

def mkLp (p q : Pt) (m : Nat) {X : Type} (c : p.Lf U × q.Lf U → Option X) (sp : Sp X) (ou : p.Lf U × q.Lf U → X → Ex × St U) : LFun U := fun R st K =>
 match Nat.beq st.m m with
 | true => match Pt.rd p q st.tm st.hp with
  | some l => match c l with
   | some x => (sp x).runK fun y => K (ou l y).1 (ou l y).2
   | none => none
  | none => none
 | false => none

def roundK (E : Env U) (b : Code) {R : Type} (K : Ex → St U → Option R) : Ex → St U → Option R := fun ex st' =>
 match ex with
 | .normal => match gc E.cc (E.D (loopKey b)).1 st' with | some q => K .normal q | none => none
 | ex => match gc E.cc (E.D (loopKey b)).2 st' with | some q => K ex q | none => none

def lpK {S X : Type} (K : Ex → St U → Option R) (hd : S → St U) (sp : Sp X) (ou : X → Ex × St U) : S ⊕ X → Option R
 | .inl s => K .normal (hd s)
 | .inr x => (sp x).runK fun y => K (ou y).1 (ou y).2

theorem lp_ok {b : Code} {p q : Pt} {m : Nat} {S X : Type} {f : p.Lf U × q.Lf U → S → Tw (S ⊕ X)} {hd : p.Lf U × q.Lf U → S → p.Lf U × q.Lf U} {s0 : p.Lf U × q.Lf U → S} {sp : Sp X} {ou : p.Lf U × q.Lf U → X → Ex × St U}
  (h0 : ∀ l, hd l (s0 l) = l) (ho : ∀ l x, (ou l x).1.isNormal = false) (hsp : SpOK sp)
  (hf : ∀ (R : Type) (l : p.Lf U × q.Lf U) (s : S) (K : Ex → St U → Option R),
   codeA E b ⟨p.mkL (hd l s).1, q.mkH (hd l s).2, m⟩ (roundK E b K) =
   (f l s).runK (lpK K (fun s => ⟨p.mkL (hd l s).1, q.mkH (hd l s).2, m⟩) sp (ou l)))
  {R : Type} {st : St U} {K : Ex → St U → Option R} {r : R}
  (hr : mkLp p q m (fun l => Lp (fun s => (f l s).run) (s0 l)) sp ou R st K = some r) : ∃ n, loopA E b n st K = some r := by
 unfold mkLp at hr
 split at hr
 ·rename_i em
  have em : st.m = m := Nat.eq_of_beq_eq_true em
  split at hr
  ·rename_i l el
   obtain ⟨e1, e2⟩ := Pt.rd_some el
   split at hr
   ·rename_i x hx
    rw [hsp] at hr
    have e : st = ⟨p.mkL (hd l (s0 l)).1, q.mkH (hd l (s0 l)).2, m⟩ := by
     rw [h0, ← e1, ← e2, ← em]
    rw [e]
    refine loop_short (f := f l) (head := fun s => ⟨p.mkL (hd l s).1, q.mkH (hd l s).2, m⟩) (out := ou l) (ho l) (fun R s K => ?_) hx hr
    have := hf R l s K
    refine Eq.trans ?_ (this.trans ?_)
    ·rfl
    ·congr 1
     funext r
     cases r with
     | inl s' => rfl
     | inr x => exact hsp R x _
   ·cases hr
  ·cases hr
 ·cases hr

end Go.Proofs.Ytmlbioapefgioaa.Va

/- Words of the printed texts. -/
namespace Go.Proofs.Ytmlbioapefgioaa.Va
open Go

abbrev w64 (n : Int) : Int := IntKind.wrap .i64 n
abbrev w32 (n : Int) : Int := IntKind.wrap .u32 n
abbrev w8 (n : Int) : Int := IntKind.wrap .u8 n
def bAnd (k : IntKind) (a b : Int) : Int := k.wrap ((BitVec.ofInt k.bits a &&& BitVec.ofInt k.bits b).toNat : Nat)
def bOr (k : IntKind) (a b : Int) : Int := k.wrap ((BitVec.ofInt k.bits a ||| BitVec.ofInt k.bits b).toNat : Nat)
def bShl (k : IntKind) (a b : Int) : Int := k.wrap (a * 2 ^ min b.toNat k.bits)
def bShr (k : IntKind) (a b : Int) : Int := a.fdiv (2 ^ min b.toNat k.bits)
def imin (a b : Int) : Int := if b < a then b else a
variable {U : Nat → Type} {P : Program}
theorem all_nil {α : Type 1} {Q : α → Prop} : ∀ p ∈ ([] : List α), Q p := fun _ h => nomatch h
theorem all_cons {α : Type 1} {Q : α → Prop} {a : α} {l : List α} (h : Q a) (t : ∀ p ∈ l, Q p) : ∀ p ∈ a :: l, Q p := fun p hp => by
 rcases List.mem_cons.1 hp with rfl | hp
 ·exact h
 ·exact t p hp

abbrev jI {U : Nat → Type} (n : Int) : AV U := .im (.int .i64 n)
abbrev jB {U : Nat → Type} (b : Bool) : AV U := .im (.bool b)
abbrev jC (p : Pt) : Pt := .cs (.int .i64) p
theorem no_ro {U : Nat → Type} {G : List (FuncId × AFun U)} : ∀ p ∈ G, ([] : List FuncId).contains p.1 = true → KeepA p.2 := fun _ _ h => nomatch h

end Go.Proofs.Ytmlbioapefgioaa.Va

/- A function that asks whether its slice is nil (slices.Clone): one contract for both cases. -/
namespace Go.Proofs.Ytmlbioapefgioaa.Va
open Go

variable {U : Nat → Type} {P : Program} {cc : (T : Nat) → Cod U T}

theorem clone_aux {f : FuncId} {T : Nat} {A B : AFun U} {t : List (U T) → Tw Unit}
  (hn : ∀ (R : Type) (l : List (U T)) (K : AV U → Hp U → Option R), A R [.nn T l] [] K = (t l).runK fun _ => K (.own 0) [.row T l true])
  (hs : ∀ (R : Type) (K : AV U → Hp U → Option R), B R [.ns] [] K = K (.own 0) [.row T [] true])
  (ha : SoundF P cc f A) (hb : SoundF P cc f B) {R : Type} {K : AV U → Hp U → Option R} {r : R} (l : List (U T)) {u : Unit} (et : (t l).run = some u) (hr : K (.own 0) [.row T l true] = some r) :
  ∃ res h', K res h' = some r ∧ ([] : Hp U).length ≤ h'.length ∧ ∀ (X W0 : Nat → Prop) (β : Nat → Option BI) (w : World) (vals : Array Value), HRel cc X W0 β (Hp.get ([] : Hp U)) w → (∀ b, ([] : Hp U).length ≤ b → β b = none) →
   vals.size = [AV.im (IV.slice T l)].length → (∀ (j : Nat) (x : AV U) (v : Value), [AV.im (IV.slice T l)][j]? = some x → vals[j]? = some v → RepA cc w (avOf X β (Hp.get ([] : Hp U))) β x v) →
   Calls P f vals w fun e w' => ∃ vv β', e = .returned vv ∧ HRel cc X W0 β' h'.get w' ∧ (∀ b, h'.length ≤ b → β' b = none) ∧ RepA cc w' (avOf X β' h'.get) β' res vv ∧ Tr X W0 β (Hp.get ([] : Hp U)) w β' h'.get w' := by
 obtain ⟨ra, ha', ka, _, sa⟩ := ha (AV U × Hp U) [.nn T l] [] (fun v h => some (v, h)) (.own 0, [.row T l true]) (by rw [hn, Tw.runK_eq, et]; rfl)
 obtain ⟨rfl, rfl⟩ := Prod.mk.inj (Option.some.inj ka)
 obtain ⟨rb, hb', kb, _, sb⟩ := hb (AV U × Hp U) [.ns] [] (fun v h => some (v, h)) (.own 0, [.row T [] true]) (hs _ _)
 obtain ⟨rfl, rfl⟩ := Prod.mk.inj (Option.some.inj kb)
 refine ⟨_, _, hr, Nat.zero_le _, fun X W0 β w vals hh hbd hsz hargs => ?_⟩
 have hsz' : vals.size = 1 := hsz
 have hv := hargs 0 _ vals[0] rfl (Array.getElem?_eq_getElem (by omega))
 have nonnil : ∀ a n cap, vals[0] = .slice (some a) n cap → Rep cc w (avOf X β (Hp.get ([] : Hp U))) (.slice T l) vals[0] → _ := fun a n cap ev hrep =>
  sa X W0 β w vals hh hbd hsz fun j x v hx hv' => by
   cases j with
   | succ j => cases hx
   | zero =>
    cases hx
    rw [Array.getElem?_eq_getElem (by omega)] at hv'
    cases hv'
    rw [ev] at hrep ⊢
    exact .nn hrep
 cases hv with
 | im hrep =>
  generalize ev : vals[0] = v0 at hrep nonnil
  cases hrep with
  | slice T l k off cap g hp hav hcap hcell hrep => exact nonnil _ _ _ rfl (.slice T l k off cap g hp hav hcap hcell hrep)
  | slice0 T a cap =>
   cases a with
   | some a => exact nonnil _ _ _ rfl (.slice0 _ _ _)
   | none =>
    refine sb X W0 β w vals hh hbd hsz fun j x v hx hv' => ?_
    cases j with
    | succ j => cases hx
    | zero =>
     cases hx
     rw [Array.getElem?_eq_getElem (by omega), ev] at hv'
     cases hv'
     exact .ns

theorem clone_ok {f : FuncId} {T : Nat} {A B : AFun U} {t : List (U T) → Tw Unit}
  (hn : ∀ (R : Type) (l : List (U T)) (K : AV U → Hp U → Option R), A R [.nn T l] [] K = (t l).runK fun _ => K (.own 0) [.row T l true])
  (hs : ∀ (R : Type) (K : AV U → Hp U → Option R), B R [.ns] [] K = K (.own 0) [.row T [] true])
  (ha : SoundF P cc f A) (hb : SoundF P cc f B) :
  SoundF P cc f (mkA (U := U) (.cs (.sl T) .nl) .nl (X := List (U T)) (fun l => (t l.1.1).run.bind fun _ => some l.1.1) sp1 (fun _ _ => .own 0) (fun l x => [.row T x true])) := by
 intro R args h K r hr
 unfold mkA at hr
 split at hr
 case h_2 => cases hr
 rename_i l e
 obtain ⟨e1, e2⟩ := Pt.rd_some e
 obtain ⟨⟨l, _⟩, _⟩ := l
 have e1 : args = [.im (.slice T l)] := e1
 have e2 : h = [] := e2
 subst e1; subst e2
 cases et : (t l).run with
 | none => simp [et] at hr
 | some u =>
 simp only [et, Option.bind_some] at hr
 exact clone_aux hn hs ha hb l et hr

end Go.Proofs.Ytmlbioapefgioaa.Va

/- Short forms for printed texts. -/
namespace Go.Proofs.Ytmlbioapefgioaa.Va
open Go

variable {U : Nat → Type} {R : Type} {P : Program} {E : Env U}

abbrev Env.mk5 (E : Env U) (G : List (FuncId × AFun U)) (L C : List (Nat × LFun U)) (d : List (Nat × Lv × Lv)) (r : List FuncId) : Env U := { E with Γ := G, Λ := L, C := C, D := dtab d, ro := r }
theorem EnvOK.mk5 (h : EnvOK P E) (G : List (FuncId × AFun U)) (L C : List (Nat × LFun U)) (d : List (Nat × Lv × Lv)) (r : List FuncId) : EnvOK P (E.mk5 G L C d r) := h.with G L C (dtab d) r
abbrev bodyOf (f : Func) : Code := f.body.getD .skip
abbrev HK (E : Env U) (fn : Func) (ms : List (Nat × List Ps × Md)) (p q : Pt) {X : Type} (t : p.Lf U × q.Lf U → Tw X) (v : p.Lf U × q.Lf U → X → AV U) (hh : p.Lf U × q.Lf U → X → Hp U) : Prop :=
 ∀ (R : Type) (l : p.Lf U × q.Lf U) (K : AV U → Hp U → Option R), funcA E fn ms R (p.mkL l.1) (q.mkH l.2) K = (t l).runK fun y => K (v l y) (hh l y)
abbrev HF (E : Env U) (b : Code) (p q : Pt) (m : Nat) {S X : Type} (f : p.Lf U × q.Lf U → S → Tw (S ⊕ X)) (hd : p.Lf U × q.Lf U → S → p.Lf U × q.Lf U) (sp : Sp X) (ou : p.Lf U × q.Lf U → X → Ex × St U) : Prop :=
 ∀ (R : Type) (l : p.Lf U × q.Lf U) (s : S) (K : Ex → St U → Option R), codeA E b ⟨p.mkL (hd l s).1, q.mkH (hd l s).2, m⟩ (roundK E b K) =
  (f l s).runK (lpK K (fun s => ⟨p.mkL (hd l s).1, q.mkH (hd l s).2, m⟩) sp (ou l))
abbrev LK (E : Env U) (b : Code) (L : LFun U) : Prop := ∀ (R : Type) (st : St U) (K : Ex → St U → Option R) (r : R), L R st K = some r → ∃ n, loopA E b n st K = some r
theorem og_of (hm : P.follows .mixedOrders = true) (hE : EnvOK P E) (hΓ : GamOK P E) {f : FuncId} {fn : Func} {c : Code} (hf : P.funcs[f]? = some fn) (hb : fn.body = some c) (hj : Just E c) (ms : List (Nat × List Ps × Md))
  {p q : Pt} {X : Type} {t : p.Lf U × q.Lf U → Tw X} {sp : Sp X} {v : p.Lf U × q.Lf U → X → AV U} {hh : p.Lf U × q.Lf U → X → Hp U} (hsp : SpOK sp) (hk : HK E fn ms p q t v hh) (h1 : (fn.name == "runtime.NumGoroutine") = false) :
  SoundF P E.cc f (mkA p q (fun l => (t l).run) sp v hh) ∧ FnOK P f :=
 ⟨mkA_ok hsp hk (funcA_ok hm hE hΓ hf hb hj ms), ⟨fn, hf, h1, by rw [hb]; rfl⟩⟩

@[simp] abbrev d4 {a0 a1 a2 a3 a4 : Type} (x : a0 × a1 × a2 × a3 × a4) : a4 := x.2.2.2.2
@[simp] abbrev d8 {a0 a1 a2 a3 a4 a5 a6 a7 a8 : Type} (x : a0 × a1 × a2 × a3 × a4 × a5 × a6 × a7 × a8) : a8 := x.2.2.2.2.2.2.2.2
@[simp] abbrev d12 {a0 a1 a2 a3 a4 a5 a6 a7 a8 a9 a10 a11 a12 : Type} (x : a0 × a1 × a2 × a3 × a4 × a5 × a6 × a7 × a8 × a9 × a10 × a11 × a12) : a12 := x.2.2.2.2.2.2.2.2.2.2.2.2
@[simp] abbrev d16 {a0 a1 a2 a3 a4 a5 a6 a7 a8 a9 a10 a11 a12 a13 a14 a15 a16 : Type} (x : a0 × a1 × a2 × a3 × a4 × a5 × a6 × a7 × a8 × a9 × a10 × a11 × a12 × a13 × a14 × a15 × a16) : a16 := x.2.2.2.2.2.2.2.2.2.2.2.2.2.2.2.2
@[simp] abbrev d20 {a0 a1 a2 a3 a4 a5 a6 a7 a8 a9 a10 a11 a12 a13 a14 a15 a16 a17 a18 a19 a20 : Type} (x : a0 × a1 × a2 × a3 × a4 × a5 × a6 × a7 × a8 × a9 × a10 × a11 × a12 × a13 × a14 × a15 × a16 × a17 × a18 × a19 × a20) : a20 := x.2.2.2.2.2.2.2.2.2.2.2.2.2.2.2.2.2.2.2.2
@[simp] abbrev d24 {a0 a1 a2 a3 a4 a5 a6 a7 a8 a9 a10 a11 a12 a13 a14 a15 a16 a17 a18 a19 a20 a21 a22 a23 a24 : Type} (x : a0 × a1 × a2 × a3 × a4 × a5 × a6 × a7 × a8 × a9 × a10 × a11 × a12 × a13 × a14 × a15 × a16 × a17 × a18 × a19 × a20 × a21 × a22 × a23 × a24) : a24 := x.2.2.2.2.2.2.2.2.2.2.2.2.2.2.2.2.2.2.2.2.2.2.2.2
@[simp] abbrev d28 {a0 a1 a2 a3 a4 a5 a6 a7 a8 a9 a10 a11 a12 a13 a14 a15 a16 a17 a18 a19 a20 a21 a22 a23 a24 a25 a26 a27 a28 : Type} (x : a0 × a1 × a2 × a3 × a4 × a5 × a6 × a7 × a8 × a9 × a10 × a11 × a12 × a13 × a14 × a15 × a16 × a17 × a18 × a19 × a20 × a21 × a22 × a23 × a24 × a25 × a26 × a27 × a28) : a28 := x.2.2.2.2.2.2.2.2.2.2.2.2.2.2.2.2.2.2.2.2.2.2.2.2.2.2.2.2
@[simp] abbrev d32 {a0 a1 a2 a3 a4 a5 a6 a7 a8 a9 a10 a11 a12 a13 a14 a15 a16 a17 a18 a19 a20 a21 a22 a23 a24 a25 a26 a27 a28 a29 a30 a31 a32 : Type} (x : a0 × a1 × a2 × a3 × a4 × a5 × a6 × a7 × a8 × a9 × a10 × a11 × a12 × a13 × a14 × a15 × a16 × a17 × a18 × a19 × a20 × a21 × a22 × a23 × a24 × a25 × a26 × a27 × a28 × a29 × a30 × a31 × a32) : a32 := x.2.2.2.2.2.2.2.2.2.2.2.2.2.2.2.2.2.2.2.2.2.2.2.2.2.2.2.2.2.2.2.2
@[simp] abbrev d36 {a0 a1 a2 a3 a4 a5 a6 a7 a8 a9 a10 a11 a12 a13 a14 a15 a16 a17 a18 a19 a20 a21 a22 a23 a24 a25 a26 a27 a28 a29 a30 a31 a32 a33 a34 a35 a36 : Type} (x : a0 × a1 × a2 × a3 × a4 × a5 × a6 × a7 × a8 × a9 × a10 × a11 × a12 × a13 × a14 × a15 × a16 × a17 × a18 × a19 × a20 × a21 × a22 × a23 × a24 × a25 × a26 × a27 × a28 × a29 × a30 × a31 × a32 × a33 × a34 × a35 × a36) : a36 := x.2.2.2.2.2.2.2.2.2.2.2.2.2.2.2.2.2.2.2.2.2.2.2.2.2.2.2.2.2.2.2.2.2.2.2.2
@[simp] abbrev d40 {a0 a1 a2 a3 a4 a5 a6 a7 a8 a9 a10 a11 a12 a13 a14 a15 a16 a17 a18 a19 a20 a21 a22 a23 a24 a25 a26 a27 a28 a29 a30 a31 a32 a33 a34 a35 a36 a37 a38 a39 a40 : Type} (x : a0 × a1 × a2 × a3 × a4 × a5 × a6 × a7 × a8 × a9 × a10 × a11 × a12 × a13 × a14 × a15 × a16 × a17 × a18 × a19 × a20 × a21 × a22 × a23 × a24 × a25 × a26 × a27 × a28 × a29 × a30 × a31 × a32 × a33 × a34 × a35 × a36 × a37 × a38 × a39 × a40) : a40 := x.2.2.2.2.2.2.2.2.2.2.2.2.2.2.2.2.2.2.2.2.2.2.2.2.2.2.2.2.2.2.2.2.2.2.2.2.2.2.2.2
end Go.Proofs.Ytmlbioapefgioaa.Va

/- Functions that are gone through: their walks, but for the calls of what they are handed. -/
namespace Go.Proofs.Ytmlbioapefgioaa.Va
open Go

variable {U : Nat → Type} {R : Type} {P : Program} {E : Env U}

theorem ops_seq {all : List Oper} {rest : List Oper} {st st' : St U} {es : List (Did U)} (h : Trace P E all rest st es st') : ∀ (k : Nat), (∀ (j : Nat) (o : Oper), rest[j]? = some o → all[k + j]? = some o) →
  ∀ {ro : Option Nat} {X W0 : Nat → Prop} {β : Nat → Option BI} {a : Act} {w : World} {Q : Exit → Act → World → Prop} (tail : List Nat), GRel E X W0 β st a w →
   (∀ β' a' w', GRel E X W0 β' st' a' w' → Tr X W0 β st.hp.get w β' st'.hp.get w' → (∀ t, (∀ o ∈ rest, o.dst ≠ some t) → a'.tmps.getD t undef = a.tmps.getD t undef) → a'.defers = a.defers → wpOpsIn (FR ro) 0 P all.toArray Q tail a' w') →
   wpOpsIn (FR ro) 0 P all.toArray Q (List.range' k rest.length ++ tail) a w := by
 induction h with
 | nil => intro k _ ro X W0 β a w Q tail hg hn; exact hn β a w hg Tr.refl (fun _ _ => rfl) rfl
 | @run o rest st v ws rd es st' hgd hid hnd hs ht ih =>
  intro k hall ro X W0 β a w Q tail hg hn
  have hk : all.toArray[k]? = some o := by have := hall 0 o rfl; simpa using this
  rw [List.length_cons, List.range'_succ, List.cons_append, wpOpsIn_cons]
  unfold wpOpIn
  rw [hk]
  have hw : Region.wanted o (yielded all.toArray a.tmps) = true := by
   unfold Region.wanted
   rcases hgd with hgd | ⟨j, want, d, hgd, hd, ht⟩
   ·rw [hgd]
   ·rw [hgd]
    have hv : RepA E.cc w (avOf X β (asOf st).hp) β (st.tm.getD d .bot) (a.tmps.getD d undef) := hg.rel.tm d
    simp only [] at ht
    rw [ht] at hv
    have hd' : (all.toArray[j]?).bind (·.dst) = some d := by simpa using hd
    have : yielded all.toArray a.tmps j = some want := by
     unfold yielded
     rw [hd']
     rw [Array.getD_eq_getD_getElem?] at hv
     simp only [Option.bind_some]
     cases hx : a.tmps[d]? with
     | none => rw [hx] at hv; cases hv with | im h => cases h
     | some x =>
      rw [hx] at hv
      cases hv with | im h => cases h; rfl
    show (yielded all.toArray a.tmps j == some want) = true
    rw [this]
    simp
  simp only [hw, if_true]
  refine ⟨fun _ _ => trivial, ?_⟩
  rw [Oper.semAt_eq _ _ _ hnd]
  refine upon_in ?_
  refine hs (S := asOf st) hg.rel (fun _ _ => rfl) (fun _ _ => rfl) (fun p _ hge => hg.bd p.1 hge) fun vv β' w' h1 h2 h3 h4 => ?_
  have e := asOf_app st o.dst ⟨v, ws, rd⟩
  obtain ⟨l1, l2⟩ := writes_len ws st.hp
  have g' : GRel E X W0 β' (st.app o.dst v ws) (a.put o.dst vv) w' := by
   refine ⟨by rw [put_size, app_len]; exact hg.sz, ⟨?_, fun t => ?_, by rw [put_defers]; exact hg.rel.defers.mono h3.fr⟩, fun b hb => ?_⟩
   ·rw [e]; exact h1
   ·rw [e, put_getD, hg.sz]
    show RepA E.cc w' (avOf X β' (upds st.hp.get ws)) β' (if o.dst = some t ∧ t < st.tm.length then v else st.tm.getD t .bot) _
    split
    ·exact h2
    ·exact h3.rep (hg.rel.tm t)
   ·have hb : (st.hp.writes ws).length ≤ b := hb
    refine h4 b (hg.bd b (by omega)) fun p hp e => ?_
    have := l2 p hp
    omega
  refine ih (k + 1) (fun j o' ho' => by have := hall (j + 1) o' ho'; rwa [show k + 1 + j = k + (j + 1) by omega]) tail g' fun β2 a2 w2 g2 t2 ex ed => hn β2 a2 w2 g2 (h3.trans ?_) (fun t ht => (ex t fun o' ho' => ht o' (List.mem_cons_of_mem _ ho')).trans ?_) (ed.trans (put_defers _ _ _))
  rotate_left
  ·rw [put_getD, if_neg fun h => ht o (List.mem_cons_self ..) h.1]
  have : (st.app o.dst v ws).hp.get = upds st.hp.get ws := writes_get ws st.hp
  rwa [this] at t2
 | @skip o rest st es st' hgd ht ih =>
  intro k hall ro X W0 β a w Q tail hg hn
  have hk : all.toArray[k]? = some o := by have := hall 0 o rfl; simpa using this
  rw [List.length_cons, List.range'_succ, List.cons_append, wpOpsIn_cons]
  unfold wpOpIn
  rw [hk]
  have hw : Region.wanted o (yielded all.toArray a.tmps) = false := by
   unfold Region.wanted
   obtain ⟨j, want, d, hgd, hd, ht⟩ := hgd
   rw [hgd]
   have hv : RepA E.cc w (avOf X β (asOf st).hp) β (st.tm.getD d .bot) (a.tmps.getD d undef) := hg.rel.tm d
   have hd' : (all.toArray[j]?).bind (·.dst) = some d := by simpa using hd
   have : yielded all.toArray a.tmps j ≠ some want := by
    unfold yielded
    rw [hd']
    rw [Array.getD_eq_getD_getElem?] at hv
    simp only [Option.bind_some]
    simp only [] at ht
    rcases ht with ht | ht
    ·rw [ht] at hv
     cases hx : a.tmps[d]? with
     | none => simp
     | some x =>
      rw [hx] at hv
      cases hv with | im h => cases h; simp
    ·rw [ht] at hv
     cases hx : a.tmps[d]? with
     | none => simp
     | some x =>
      rw [hx] at hv
      generalize hy : (some x).getD undef = y at hv
      cases hv
      simp only [Option.getD_some] at hy
      subst hy
      simp [undef]
   show (yielded all.toArray a.tmps j == some want) = false
   simpa using this
  simp only [hw, Bool.false_eq_true, if_false]
  refine ⟨fun _ _ => trivial, ?_⟩
  have e := asOf_put st o.dst .und
  have g' : GRel E X W0 β (st.put o.dst .und) (a.put o.dst undef) w := by
   refine ⟨by rw [put_size, put_len]; exact hg.sz, ⟨?_, fun t => ?_, by rw [put_defers]; exact hg.rel.defers⟩, fun b hb => hg.bd b (by rw [put_hp] at hb; exact hb)⟩
   ·rw [e]; exact hg.rel.h
   ·rw [e, put_getD, hg.sz]
    show RepA E.cc w (avOf X β st.hp.get) β (if o.dst = some t ∧ t < st.tm.length then .und else st.tm.getD t .bot) _
    split
    ·exact .und
    ·exact hg.rel.tm t
  refine ih (k + 1) (fun j o' ho' => by have := hall (j + 1) o' ho'; rwa [show k + 1 + j = k + (j + 1) by omega]) tail g' fun β2 a2 w2 g2 t2 ex ed => hn β2 a2 w2 g2 ?_ (fun t ht => (ex t fun o' ho' => ht o' (List.mem_cons_of_mem _ ho')).trans ?_) (ed.trans (put_defers _ _ _))
  rotate_left
  ·rw [put_getD, if_neg fun h => ht o (List.mem_cons_self ..) h.1]
  have : (st.put o.dst .und).hp.get = st.hp.get := by rw [put_hp]
  rwa [this] at t2

theorem yield_op {ops : Array Oper} {i : Nat} {o : Oper} {f x : Operand} {ts : Array TypeId} {a : Act} {w : World} {l : Nat} {vv : Value} {K : Act → World → Prop} {Q : Exit → Act → World → Prop} (hi : ops[i]? = some o)
  (hop : o.op = .call { callee := .value f, args := #[x], argTypes := ts }) (hw : Region.wanted o (yielded ops a.tmps) = true) (hf : a.eval f = .func (.yield l) #[] #[]) (hx : a.eval x = vv)
  {fn : FuncId} {tmps : Array Value} {assign body : Code} (hy : (Instr.yield l #[vv]).run P w = .ok (.round l fn tmps assign body) w) {N : Bool → World → Prop}
  (hR : RoundIn (FR none) 0 P l fn tmps assign body w fun e W' => ∃ b, e = .returned (.bool b) ∧ N b W') (hn : ∀ b W', N b W' → K (a.put o.dst (.bool b)) W') : wpOpIn (FR none) 0 P ops Q i K a w := by
 unfold wpOpIn
 rw [hi]
 simp only [hw, if_true]
 refine ⟨fun _ _ => trivial, ?_⟩
 have hrun : (Oper.semAt (FR none).round a.eval o).run P w = .ok (.round l fn tmps assign body) w := by
  show (execOp a.eval o).run P w = _
  simp [execOp, hop, resolve, hf, hx, Deferred.ofValue, invoke, hy]
 rw [hrun]
 refine ⟨(fun h => nomatch h), hR.mono ?_⟩
 rintro e W' ⟨b, rfl, hb⟩
 exact hn b W' hb

def GT (E : Env U) (w0 : World) (s : St U) (a : Act) (w : World) : Prop := Grown w0 w ∧ ∃ β, GRel E (fun _ => False) (fun k => w0.heap.size ≤ k) β s a w

theorem Fr.since {w0 w w' : World} (h : Fr (fun k => w0.heap.size ≤ k) w w') (g : Grown w0 w) : Grown w0 w' :=
 ⟨h.os.trans g.os, h.tape.trans g.tape, h.output.trans g.output, Nat.le_trans g.size h.size, fun k hk => (h.block k (Nat.lt_of_lt_of_le hk g.size) (by omega)).trans (g.block k hk)⟩

def noDst (ops : List Oper) (ts : List Nat) : Bool := ops.all fun o => match o.dst with | some d => !ts.contains d | none => true
def Left (ops : List Oper) (a a' : Act) : Prop := (∀ ts, noDst ops ts = true → ∀ t ∈ ts, a'.tmps.getD t undef = a.tmps.getD t undef) ∧ a'.defers = a.defers
theorem noDst_ne {ops : List Oper} {ts : List Nat} (h : noDst ops ts = true) {t : Nat} (ht : t ∈ ts) : ∀ o ∈ ops, o.dst ≠ some t := by
 intro o ho e
 have := List.all_eq_true.1 h o ho
 rw [e] at this
 simp [ht] at this

theorem gt_ops (hE : EnvOK P E) (hΓ : GamOK P E) {all rest : List Oper} {lv : Lv} {s s' : St U} (h : opsA E all rest s [] (fun st' _ => gc E.cc lv st') = some s') (k : Nat) (hall : ∀ (j : Nat) (o : Oper), rest[j]? = some o → all[k + j]? = some o)
  {ro : Option Nat} {a : Act} {w0 w : World} {Q : Exit → Act → World → Prop} (tail : List Nat) (hg : GT E w0 s a w)
  (hn : ∀ a' w', GT E w0 s' a' w' → Left rest a a' → Grown w0 w' → wpOpsIn (FR ro) 0 P all.toArray Q tail a' w') :
  wpOpsIn (FR ro) 0 P all.toArray Q (List.range' k rest.length ++ tail) a w := by
 obtain ⟨es, st', ht, hk⟩ := opsA_trace hE hΓ h
 obtain ⟨hgr, β, hg⟩ := hg
 refine ops_seq ht k hall tail hg fun β' a' w' g1 t1 ex ed => ?_
 obtain ⟨_, g2⟩ := gc_ok hE hk
 obtain ⟨β2, g3, _⟩ := g2 g1
 exact hn a' w' ⟨t1.fr.since hgr, β2, g3⟩ ⟨fun ts hts t ht => ex t (noDst_ne hts ht), ed⟩ (t1.fr.since hgr)

theorem gt_region (hE : EnvOK P E) (hΓ : GamOK P E) {id : Nat} {ops : Array Oper} {lv : Lv} {s s' : St U} (h : opsA E ops.toList ops.toList s [] (fun st' _ => gc E.cc lv st') = some s')
  {ro : Option Nat} {a : Act} {w0 w : World} {Q : Exit → Act → World → Prop} (hg : GT E w0 s a w)
  (hn : ∀ a' w', GT E w0 s' a' w' → Left ops.toList a a' → Grown w0 w' → Q .normal a' w') : (Code.region id ops false).wpIn (FR ro) 0 P Q a w := by
 refine wpIn_region ?_
 have := gt_ops (ro := ro) (Q := Q) hE hΓ h 0 (fun j o ho => by simpa using ho) [] hg hn
 rw [List.append_nil] at this
 rw [List.range_eq_range']
 simpa using this

theorem gt_mk {s : St U} {a : Act} {w : World} (hsz : a.tmps.size = s.tm.length) (hh : s.hp = []) (ht : ∀ t, RepA E.cc w (fun _ => False) (fun _ => none) (s.tm.getD t .bot) (a.tmps.getD t undef)) (hd : a.defers = []) : GT E w s a w := by
 have hget : ∀ b, s.hp.get b = .dead := fun b => by rw [hh]; rfl
 have hav : avOf (fun _ => False) (fun _ => none) s.hp.get = fun _ => False := by
  funext k
  apply propext
  constructor
  ·rintro (h | ⟨b, bi, h, _⟩)
   ·exact h
   ·cases h
  ·exact False.elim
 refine ⟨Grown.refl w, fun _ => none, hsz, ⟨⟨(fun b bi h => by cases h), (fun b bi k h => by cases h), (fun k hk => ⟨hk, id⟩), (fun b b' bi bi' k h => by cases h)⟩, fun t => ?_, by rw [hd]; exact DefOK.nil _ _⟩, fun _ _ => rfl⟩
 show RepA E.cc w (avOf (fun _ => False) (fun _ => none) s.hp.get) (fun _ => none) (s.tm.getD t .bot) _
 rw [hav]
 exact ht t

theorem lookup_in {α : Type} {xs : List (Nat × α)} {k : Nat} {v : α} (h : xs.lookup k = some v) : (k, v) ∈ xs := by
 induction xs with
 | nil => cases h
 | cons p xs ih =>
  obtain ⟨i, x⟩ := p
  rw [List.lookup_cons] at h
  split at h
  ·rename_i e
   cases h
   rw [beq_iff_eq] at e
   subst e
   exact List.mem_cons_self ..
  ·exact List.mem_cons_of_mem _ (ih h)
theorem stOf_getD (n : Nat) (xs : List (Nat × AV U)) (h : Hp U) (m t : Nat) : (stOf n xs h m).tm.getD t .bot = if t < n then (xs.lookup t).getD .bot else .bot := by
 simp only [stOf, List.getD_eq_getElem?_getD, List.getElem?_map]
 split
 ·rename_i ht
  rw [List.getElem?_range ht]
  rfl
 ·rename_i ht
  rw [List.getElem?_eq_none (by simpa using ht)]
  rfl
theorem gt_slots {n m : Nat} {xs : List (Nat × AV U)} {a : Act} {w : World} (hsz : a.tmps.size = n) (h : ∀ p ∈ xs, RepA E.cc w (fun _ => False) (fun _ => none) p.2 (a.tmps.getD p.1 undef)) (hd : a.defers = []) : GT E w (stOf n xs [] m) a w := by
 refine gt_mk (by simp [stOf, hsz]) rfl (fun t => ?_) hd
 rw [stOf_getD]
 split
 ·cases hl : xs.lookup t with
  | none => exact .bot
  | some v => exact h _ (lookup_in hl)
 ·exact .bot

theorem GT.slot {w0 w : World} {s : St U} {a : Act} (h : GT E w0 s a w) (t : Nat) : ∃ av β, RepA E.cc w av β (s.tm.getD t .bot) (a.tmps.getD t undef) := by
 obtain ⟨_, β, hg⟩ := h
 exact ⟨_, β, hg.rel.tm t⟩
theorem GT.int {w0 w : World} {s : St U} {a : Act} (h : GT E w0 s a w) {t : Nat} {k : IntKind} {n : Int} (ht : s.tm.getD t .bot = .im (.int k n)) : a.tmps.getD t undef = .int k n := by
 obtain ⟨av, β, hr⟩ := h.slot t
 rw [ht] at hr
 exact rep_int hr
theorem GT.bool {w0 w : World} {s : St U} {a : Act} (h : GT E w0 s a w) {t : Nat} {b : Bool} (ht : s.tm.getD t .bot = .im (.bool b)) : a.tmps.getD t undef = .bool b := by
 obtain ⟨av, β, hr⟩ := h.slot t
 rw [ht] at hr
 exact rep_bool hr
theorem GT.yl {w0 w : World} {s : St U} {a : Act} (h : GT E w0 s a w) {t l : Nat} (ht : s.tm.getD t .bot = .yl l) : a.tmps.getD t undef = .func (.yield l) #[] #[] := by
 obtain ⟨av, β, hr⟩ := h.slot t
 rw [ht] at hr
 generalize a.tmps.getD t undef = v at hr ⊢
 cases hr
 rfl
theorem GT.size {w0 w : World} {s : St U} {a : Act} (h : GT E w0 s a w) : a.tmps.size = s.tm.length := by
 obtain ⟨_, β, hg⟩ := h
 exact hg.sz
theorem eval_tmp (a : Act) (t : Nat) : a.eval (.tmp t) = a.tmps.getD t undef := rfl
theorem slice_kept {cc : (T : Nat) → Cod U T} {w w' : World} {av : Nat → Prop} {T : Nat} {xs : List (U T)} {v : Value} (hc : CodOK (cc T)) (hf : (cc T).flat = true) (h : Rep cc w (fun _ => False) (.slice T xs) v)
  (hk : ∀ a n c, v = .slice (some a) n c → xs ≠ [] → w'.heap[a.block]? = w.heap[a.block]? ∧ ¬ av a.block) : Rep cc w' av (.slice T xs) v := by
 by_cases hx : xs = []
 ·subst hx
  cases h with
  | slice0 => exact .slice0 _ _ _
  | slice => exact .slice0 _ _ _
 cases h with
 | slice0 => exact absurd rfl hx
 | slice _ _ k off cap f hp hav hcap hcell hrep =>
  obtain ⟨h1, h2⟩ := hk _ _ _ rfl hx
  refine .slice T xs k off cap f hp h2 hcap (fun i hi => ?_) fun i x j y hxi hy => (hrep i x j y hxi hy).free (hc.flat hf x y (List.mem_of_getElem? hy))
  exact (World.cell?_of_block (a := ⟨k, off + i, none⟩) h1).trans (hcell i hi)

theorem elV_any {cc : (T : Nat) → Cod U T} {cs : List (IV U)} (hf : ∀ y ∈ cs, (AV.im y).imRef = false) {w w' : World} {av av' : Nat → Prop} {β β' : Nat → Option BI} {v : Value} (h : RepA cc w av β (elV cs) v) : RepA cc w' av' β' (elV cs) v := by
 unfold elV at h ⊢
 split at h
 ·cases h with
  | im h => exact .im (h.free (hf _ (by simp)))
 ·cases h with
  | agg hl hj =>
   refine .agg hl fun j x u hx hu => ?_
   have := hj j x u hx hu
   rw [List.getElem?_map, Option.map_eq_some_iff] at hx
   obtain ⟨y, hy, rfl⟩ := hx
   cases this with
   | im h => exact .im (h.free (hf y (List.mem_of_getElem? hy)))
theorem noDst_sub {a b : List Oper} {ts : List Nat} (h : noDst a ts = true) (hs : ∀ o ∈ b, o ∈ a) : noDst b ts = true := List.all_eq_true.2 fun o ho => List.all_eq_true.1 h o (hs o ho)
theorem tms0 (y p : Value) (n : Nat) : (((#[y] : Array Value) ++ #[p]) ++ Array.replicate n undef).getD 0 undef = y := by simp [Array.getD_eq_getD_getElem?, Array.getElem?_append]
theorem tms1 (y p : Value) (n : Nat) : (((#[y] : Array Value) ++ #[p]) ++ Array.replicate n undef).getD 1 undef = p := by simp [Array.getD_eq_getD_getElem?, Array.getElem?_append]

abbrev sB (T : Nat) (ll : Nat) (xs : List (U T)) (i : Int) : St U := stOf 18 [(0, .yl ll), (7, .im (.slice T xs)), (8, .im (.int .i64 xs.length)), (9, .im (.int .i64 i))] [] 0
theorem each_sound (hE : EnvOK P E) (hΓ : GamOK P E) {f : FuncId} {fn : Func} {ops0 ops1 ops2 ops3 ops4 : Array Oper} {i0 i1 i2 i3 i4 : Nat} {oc : Oper} {ts : Array TypeId} (hf : P.funcs[f]? = some fn)
  (hb : fn.body = some (.seq (.region i0 ops0 false) (.block 0 (.loop (.seq (.region i1 ops1 false) (.seq (.cond (.tmp 10) .skip (.exit 0)) (.seq (.block 1 (.seq (.region i2 ops2 false) (.seq (.region i3 ops3 false) (.cond (.tmp 16) .ret .skip)))) (.region i4 ops4 false))))))))
  (hres : fn.results = #[]) (hnt : fn.ntmps = 18) {T1 T : Nat} (hcod : CodOK (E.cc T)) (hfl : (E.cc T).flat = true) {c : List (U T1) → Option (List (U T))} {lv0 lv1 lv2 lv3 lv4 lv5 : Lv}
  (h0 : ∀ l xs ll, c l = some xs → opsA E ops0.toList ops0.toList (stOf 18 [(0, .yl ll), (1, .iptr [.slice T1 l] 0)] [] 0) [] (fun st _ => gc E.cc lv0 st) = some (stOf 18 [(0, .yl ll), (7, .own 0), (8, .im (.int .i64 xs.length)), (9, .im (.int .i64 0))] [.row T xs true] 0))
  (h1 : ∀ xs (i : Int) ll, opsA E ops1.toList ops1.toList (sB T ll xs i) [] (fun st _ => gc E.cc lv1 st) = some (stOf 18 [(0, .yl ll), (7, .im (.slice T xs)), (8, .im (.int .i64 xs.length)), (9, .im (.int .i64 i)), (10, .im (.bool (decide (i < xs.length))))] [] 0))
  (h2 : ∀ xs (i : Int) ll x, 0 ≤ i → xs[i.toNat]? = some x → opsA E ops2.toList ops2.toList (sB T ll xs i) [] (fun st _ => gc E.cc lv2 st) = some (stOf 18 [(0, .yl ll), (4, .ptr 0 0)] [.var (((E.cc T).enc x).map .im)] 0))
  (h3 : ∀ x ll, opsA E ops3.toList (ops3.toList.take 2) (stOf 18 [(0, .yl ll), (4, .ptr 0 0)] [.var (((E.cc T).enc x).map .im)] 0) [] (fun st _ => gc E.cc lv3 st) = some (stOf 18 [(13, .yl ll), (14, elV ((E.cc T).enc x))] [] 0))
  (h3s : ops3.size = 4) (h3c : ops3.toList[2]? = some oc) (h3o : oc.op = .call { callee := .value (.tmp 13), args := #[.tmp 14], argTypes := ts }) (h3g : oc.guard = none) (h3d : oc.dst = some 15)
  (h5 : ∀ b, opsA E ops3.toList (ops3.toList.drop 3) (stOf 18 [(15, .im (.bool b))] [] 0) [] (fun st _ => gc E.cc lv5 st) = some (stOf 18 [(16, .im (.bool (!b)))] [] 0))
  (h4 : ∀ xs (i : Int) ll, opsA E ops4.toList ops4.toList (sB T ll xs i) [] (fun st _ => gc E.cc lv4 st) = some (sB T ll xs (IntKind.wrap .i64 (i + 1))))
  (hn : (noDst ops0.toList [0] && noDst ops1.toList [0, 7, 8, 9] && noDst ops2.toList [0, 7, 8, 9] && noDst ops3.toList [0, 7, 8, 9] && noDst ops4.toList [0, 7, 8]) = true) :
  ItSound P E.cc f (mkA (.cs (.ptr 0 0) .nl) (.cs (.var (.cs (.sl T1) .nl)) .nl) (fun l => c l.2.1.1) sp1 (fun l y => .im (.slice T y)) (fun l y => [.var [.im (.slice T1 l.2.1.1)]])) := by
 intro R args h K r hr
 unfold mkA at hr
 split at hr
 case h_2 => cases hr
 rename_i l e
 obtain ⟨rfl, rfl⟩ := Pt.rd_some e
 split at hr
 case h_2 => cases hr
 rename_i xs hc
 simp only [Bool.and_eq_true] at hn
 obtain ⟨⟨⟨⟨n0, n1⟩, n2⟩, n3⟩, n4⟩ := hn
 refine ⟨T, xs, _, hr, fun X W0 β w vals hh hbd hsz hrep C hC0 hC ll J Jx hJ0 hJg hJxg hkeep hround => ?_⟩
 -- what is handed
 have hsz1 : vals.size = 1 := hsz
 have hv := hrep 0 _ vals[0] rfl (Array.getElem?_eq_getElem (by omega))
 obtain ⟨v, hvv⟩ : ∃ v, vals = #[v] := ⟨vals[0], by cases vals with | mk l => match l, hsz1 with | [x], _ => rfl⟩
 subst hvv
 cases hv with
 | @ptr _ _ k n cap hβ =>
 have hok := hh.ok 0 _ hβ
 obtain ⟨k', cs, te, hk', hheap, hcs, hcell⟩ := hok
 cases hk'
 have hcs1 : cs.size = 1 := hcs
 obtain ⟨u, hu⟩ : ∃ u, cs = #[u] := ⟨cs[0], by cases cs with | mk l => match l, hcs1 with | [x], _ => rfl⟩
 subst hu
 obtain ⟨hru, _⟩ := hcell 0 _ u rfl rfl
 cases hru with
 | im hru =>
 have hru := hru.mono (w' := w) (av' := fun _ => False) (fun _ _ _ _ h => h) (fun _ _ _ => id)
 refine callsIn_of_wp hf hb trivial ?_
 rw [hnt]
 -- the first region
 have g0 : GT E w (stOf 18 [(0, .yl ll), (1, .iptr [.slice T1 l.2.1.1] 0)] [] 0) { tmps := (#[.func (.yield ll) #[] #[]] ++ #[.pointer (some ⟨k, 0, none⟩)]) ++ Array.replicate 16 undef, defers := [] } w := by
  refine gt_slots (by simp) (fun p hp => ?_) rfl
  simp only [List.mem_cons, List.not_mem_nil, or_false] at hp
  rcases hp with rfl | rfl
  ·simp only [tms0]
   exact .yl
  ·simp only [tms1]
   refine .iptr (o := 0) (fun _ => u) (by simp) id (fun j hj => ?_) fun j y hy => ?_
   ·have : j = 0 := by simpa using hj
    subst this
    unfold World.cell?
    simp [hheap]
   ·have hj : j = 0 := by have := (List.getElem?_eq_some_iff.1 hy).1; simpa using this
    subst hj
    simp at hy
    subst hy
    exact hru
 refine wpIn_seq (gt_region hE hΓ (h0 _ _ ll hc) g0 fun a1 w1 g1 lf1 gr1 => ?_)
 have hs1 : a1.tmps.size = 18 := g1.size
 have hy1 : a1.tmps.getD 0 undef = .func (.yield ll) #[] #[] := (lf1.1 [0] n0 0 (by simp)).trans (tms0 _ _ _)
 have hl1 := g1.int (t := 8) rfl
 have hi1 := g1.int (t := 9) rfl
 have hd1 : a1.defers = [] := lf1.2
 obtain ⟨_, β1, gg1⟩ := g1
 have hrow : Rep E.cc w1 (fun _ => False) (.slice T xs) (a1.tmps.getD 7 undef) := row_rep gg1.rel.h (b := 0) (lv := true) rfl (gg1.rel.tm 7) (fun _ h => h.elim) (fun _ _ _ _ => id)
 have hr7 : RepA E.cc w1 (avOf (fun _ => False) β1 (Hp.get [.row T xs true])) β1 (.own 0) (a1.tmps.getD 7 undef) := gg1.rel.tm 7
 have hk7 : xs.length ≤ 9223372036854775807 ∧ ∀ a n c, a1.tmps.getD 7 undef = .slice (some a) n c → xs ≠ [] → w.heap.size ≤ a.block ∧ a.block < w1.heap.size := by
  generalize a1.tmps.getD 7 undef = v7 at hr7
  cases hr7 with
  | own0 hβ =>
   have hok := gg1.rel.h.ok 0 _ hβ
   have hl : xs.length = 0 := hok.2.1
   exact ⟨by omega, fun _ _ _ _ hx => absurd (List.eq_nil_of_length_eq_zero hl) hx⟩
  | @own _ k n cap hβ =>
   have hok := gg1.rel.h.ok 0 _ hβ
   obtain ⟨_, hl, _, hs⟩ := hok
   obtain ⟨q1, q2, _⟩ := hs k rfl
   have hl : xs.length = n := hl
   have q1 : n ≤ cap := q1
   have q2 : cap ≤ maxLen := q2
   refine ⟨by simp only [maxLen] at q2; omega, fun a n' c e hx => ?_⟩
   cases e
   obtain ⟨d1, _, d3⟩ := gg1.rel.h.dom 0 _ k hβ rfl rfl
   exact ⟨d1, d3⟩
 obtain ⟨hlen, hk7⟩ := hk7
 generalize hv7 : a1.tmps.getD 7 undef = v7 at hrow hk7
 -- what holds at the head
 have toG : ∀ (a : Act) (W : World) (j : Nat) (i : Int), J w1 j W → a.tmps.size = 18 → a.tmps.getD 0 undef = .func (.yield ll) #[] #[] → a.tmps.getD 7 undef = v7 → a.tmps.getD 8 undef = .int .i64 xs.length → a.tmps.getD 9 undef = .int .i64 i → a.defers = [] → GT E W (sB T ll xs i) a W := by
  intro a W j i hj hs e0 e7 e8 e9 hd
  refine gt_slots hs (fun p hp => ?_) hd
  simp only [List.mem_cons, List.not_mem_nil, or_false] at hp
  rcases hp with rfl | rfl | rfl | rfl
  ·simp only [e0]; exact .yl
  ·simp only [e7]
   refine .im (slice_kept hcod hfl hrow fun a n c e hx => ⟨(hkeep w1 j W hj).2 _ (hk7 a n c e hx).2 fun hCa => ?_, id⟩)
   have := hC0 _ hCa
   have := (hk7 a n c e hx).1
   omega
  ·simp only [e8]; exact .im (.int _ _)
  ·simp only [e9]; exact .im (.int _ _)
 refine wpIn_block ?_
 refine wpIn_loop (fun a W => ∃ i : Nat, i ≤ xs.length ∧ J w1 i W ∧ a.tmps.size = 18 ∧ a.tmps.getD 0 undef = .func (.yield ll) #[] #[] ∧ a.tmps.getD 7 undef = v7 ∧ a.tmps.getD 8 undef = .int .i64 xs.length ∧ a.tmps.getD 9 undef = .int .i64 i ∧ a.defers = [])
  (fun a _ => match a.tmps.getD 9 undef with | .int _ n => ((xs.length : Int) - n).toNat | _ => 0) ⟨0, Nat.zero_le _, hJ0 w1 gr1, hs1, hy1, hv7, hl1, hi1, hd1⟩ ?_
 rintro a W ⟨i, hile, hj, hs, e0, e7, e8, e9, hd⟩
 refine wpIn_seq (gt_region hE hΓ (h1 xs i ll) (toG a W i i hj hs e0 e7 e8 e9 hd) fun a2 w2 g2 lf2 gr2 => ?_)
 have hb2 := g2.bool (t := 10) rfl
 have s2 : a2.tmps.size = 18 := g2.size
 have x2 := lf2.1 _ n1
 have j2 := hJg w1 i W w2 hj gr2
 have f0 := (x2 0 (by simp)).trans e0
 have f7 := (x2 7 (by simp)).trans e7
 have f8 := (x2 8 (by simp)).trans e8
 have f9 := (x2 9 (by simp)).trans e9
 have fd := lf2.2.trans hd
 refine wpIn_seq ?_
 by_cases hlt : i < xs.length
 rotate_left
 ·-- all told
  refine wpIn_cond_false (by rw [eval_tmp, hb2, decide_eq_false (by omega)]) (wpIn_exit ?_)
  have he : i = xs.length := by omega
  subst he
  have hq : bodyPost P fn (fun e W' => (∃ v, e = Ending.returned v) ∧ ((∃ w1, J w1 xs.length W') ∨ Jx W')) .normal a2 w2 := ⟨fd, .tuple #[], by simp [results, hres], ⟨_, rfl⟩, .inl ⟨w1, j2⟩⟩
  simpa [Exit.then, Exit.inBlock] using hq
 refine wpIn_cond_true (by rw [eval_tmp, hb2, decide_eq_true (by omega)]) (wpIn_skip ?_)
 refine wpIn_seq (wpIn_block (wpIn_seq (gt_region hE hΓ (h2 xs i ll xs[i] (by omega) (by rw [Int.toNat_natCast]; exact List.getElem?_eq_getElem hlt)) (toG a2 w2 i i j2 s2 f0 f7 f8 f9 fd) fun a3 w3 g3 lf3 gr3 => ?_)))
 have x3 := lf3.1 _ n2
 refine wpIn_seq (wpIn_region ?_)
 have hrange : List.range ops3.size = List.range' 0 (ops3.toList.take 2).length ++ [2, 3] := by
  rw [h3s, List.length_take, Array.length_toList, h3s]; rfl
 rw [hrange]
 have ha3 : ops3 = ops3.toList.toArray := by simp
 rw [ha3]
 refine gt_ops hE hΓ (h3 xs[i] ll) 0 (fun j o ho => by
  rw [List.getElem?_take] at ho
  split at ho
  ·simpa using ho
  ·cases ho) [2, 3] g3 fun a4 w4 g4 lf4 gr4 => ?_
 have x4 := lf4.1 [0, 7, 8, 9] (noDst_sub n3 fun o ho => List.mem_of_mem_take ho)
 have j4 := hJg w1 i w2 w4 j2 gr4
 have s4 : a4.tmps.size = 18 := g4.size
 have hyl := g4.yl (t := 13) rfl
 obtain ⟨av, β, hel⟩ := g4.slot 14
 have hel : RepA E.cc w4 av β (elV ((E.cc T).enc xs[i])) (a4.tmps.getD 14 undef) := hel
 have hflat : ∀ y ∈ (E.cc T).enc xs[i], (AV.im y).imRef = false := hcod.flat hfl xs[i]
 obtain ⟨fn', tmps', as', bo', hyd, hR⟩ := hround w1 i w4 xs[i] (a4.tmps.getD 14 undef) j4 (List.getElem?_eq_getElem hlt) (fun w av β => elV_any hflat hel)
 rw [wpOpsIn_cons]
 refine yield_op (o := oc) (l := ll) (by simpa using h3c) h3o (by unfold Region.wanted; rw [h3g]) hyl rfl hyd (N := fun b W' => (b = true ∧ J w1 (i + 1) W') ∨ (b = false ∧ Jx W')) (hR.mono fun e W' h => by
  rcases h with ⟨rfl, h⟩ | ⟨rfl, h⟩
  ·exact ⟨true, rfl, .inl ⟨rfl, h⟩⟩
  ·exact ⟨false, rfl, .inr ⟨rfl, h⟩⟩) fun b W' hN => ?_
 rw [h3d]
 have g5 : GT E W' (stOf 18 [(15, .im (.bool b))] [] 0) (a4.put (some 15) (.bool b)) W' := by
  refine gt_slots (by rw [put_size]; exact s4) (fun p hp => ?_) (by rw [put_defers, lf4.2, lf3.2]; exact fd)
  rw [List.mem_singleton] at hp
  subst hp
  simp only [put_getD, s4]
  exact .im (.bool _)
 have h33 : [3] = List.range' 3 (ops3.toList.drop 3).length ++ [] := by
  rw [List.length_drop, Array.length_toList, h3s]; rfl
 rw [h33]
 refine gt_ops hE hΓ (h5 b) 3 (fun j o ho => by rw [List.getElem?_drop] at ho; exact ho) [] g5 fun a6 w6 g6 lf6 gr6 => ?_
 have hb6 := g6.bool (t := 16) rfl
 have x6 := lf6.1 [0, 7, 8, 9] (noDst_sub n3 fun o ho => List.mem_of_mem_drop ho)
 have p6 : ∀ t ∈ [0, 7, 8, 9], a6.tmps.getD t undef = a2.tmps.getD t undef := by
  intro t ht
  rw [x6 t ht, put_getD, if_neg, x4 t ht, x3 t ht]
  rintro ⟨e, _⟩
  cases e
  simp at ht
 have d6 : a6.defers = [] := by rw [lf6.2, put_defers, lf4.2, lf3.2]; exact fd
 rcases hN with ⟨rfl, hj5⟩ | ⟨rfl, hj5⟩
 rotate_left
 ·-- stopped
  refine wpIn_cond_true (by rw [eval_tmp, hb6]; rfl) (wpIn_ret ?_)
  have hq : bodyPost P fn (fun e W' => (∃ v, e = Ending.returned v) ∧ ((∃ w1, J w1 xs.length W') ∨ Jx W')) .ret a6 w6 := ⟨d6, .tuple #[], by simp [results, hres], ⟨_, rfl⟩, .inr (hJxg _ _ hj5 gr6)⟩
  simpa [Exit.then, Exit.inBlock] using hq
 refine wpIn_cond_false (by rw [eval_tmp, hb6]; rfl) (wpIn_skip ?_)
 have j6 := hJg w1 (i + 1) W' w6 hj5 gr6
 show (Code.region i4 ops4 false).wpIn _ _ _ _ a6 w6
 refine gt_region hE hΓ (h4 xs i ll) (toG a6 w6 (i + 1) i j6 g6.size ((p6 0 (by simp)).trans f0) ((p6 7 (by simp)).trans f7) ((p6 8 (by simp)).trans f8) ((p6 9 (by simp)).trans f9) d6) fun a7 w7 g7 lf7 gr7 => ?_
 have x7 := lf7.1 _ n4
 have e7' := g7.int (t := 9) rfl
 have hwr : IntKind.wrap .i64 ((i : Int) + 1) = ((i + 1 : Nat) : Int) := by
  have : IntKind.wrap .i64 ((i : Int) + 1) = (i : Int) + 1 := by
   simp only [IntKind.wrap, IntKind.bits, IntKind.signed]
   simp
   omega
  rw [this]; rfl
 rw [hwr] at e7'
 refine ⟨⟨i + 1, hlt, hJg w1 (i + 1) w6 w7 j6 gr7, g7.size, (x7 0 (by simp)).trans ((p6 0 (by simp)).trans f0), (x7 7 (by simp)).trans ((p6 7 (by simp)).trans f7), (x7 8 (by simp)).trans ((p6 8 (by simp)).trans f8), e7', lf7.2.trans d6⟩, ?_⟩
 rw [e7', e9]
 simp only []
 omega

def partA : Code → Code
 | .seq a _ => a
 | c => c
def partB : Code → Code
 | .seq _ b => b
 | .block _ b => b
 | .loop b => b
 | c => c
def partN : Code → Nat
 | .region id _ _ => id
 | _ => 0
def partO : Code → Array Oper
 | .region _ ops _ => ops
 | _ => #[]

end Go.Proofs.Ytmlbioapefgioaa.Va

/- The top: arguments as the rows read them are values of the evaluator; a law's contract gives its row. -/
namespace Go.Proofs.Ytmlbioapefgioaa.Va
open Go
open Go.ChangeShapes

variable {U : Nat → Type} {R : Type} {P : Program} {E : Env U}

inductive CK where
 | int (k : IntKind) | bool | str | sl (T : Nat)
 deriving DecidableEq
def CK.beq : CK → CK → Bool
 | .int a, .int b => decide (a = b)
 | .bool, .bool => true
 | .str, .str => true
 | .sl a, .sl b => Nat.beq a b
 | _, _ => false
def CK.beqL : List CK → List CK → Bool
 | [], [] => true
 | a :: as, b :: bs => CK.beq a b && CK.beqL as bs
 | _, _ => false
theorem CK.beq_eq {a b : CK} (h : CK.beq a b = true) : a = b := by
 cases a <;> cases b <;> first | (cases h; done) | rfl | skip
 ·exact congrArg _ (of_decide_eq_true h)
 ·exact congrArg _ (Nat.eq_of_beq_eq_true h)
theorem CK.beqL_eq : ∀ {as bs : List CK}, CK.beqL as bs = true → as = bs
 | [], [], _ => rfl
 | a :: as, b :: bs, h => by
  simp only [CK.beqL, Bool.and_eq_true] at h
  rw [CK.beq_eq h.1, CK.beqL_eq h.2]
def fitC : CK → IV U → Prop
 | .int k, .int k' _ => k' = k
 | .bool, .bool _ => True
 | .str, .str _ => True
 | .sl T, .slice T' _ => T' = T
 | _, _ => False
def fitsC : List CK → List (IV U) → Prop
 | [], [] => True
 | c :: cs, x :: xs => fitC c x ∧ fitsC cs xs
 | _, _ => False

def cksP (f : TypeId → List CK) : List TypeId → List CK
 | [] => []
 | t :: ts => f t ++ cksP f ts
def cks (E : Env U) : Nat → TypeId → List CK
 | 0, _ => []
 | n + 1, t => match (E.ti t).d with
  | .int k => [.int k]
  | .bool => [.bool]
  | .str => [.str]
  | .slice e => [.sl (E.ti e).tag]
  | .struct fs => cksP (cks E n) (fs.map (·.1))
  | .arr k e => cksP (cks E n) (List.replicate k e)
  | _ => []

def wfP (E : Env U) (f : TypeId → List (IV U) → Prop) : List TypeId → List (IV U) → Prop
 | [], _ => True
 | t :: ts, xs => f t (xs.take (E.ti t).size) ∧ wfP E f ts (xs.drop (E.ti t).size)
def wfC (E : Env U) : Nat → TypeId → List (IV U) → Prop
 | 0, _, _ => False
 | n + 1, t, xs => match (E.ti t).d, xs with
  | .int k, [.int k' m] => k' = k ∧ (Lit.int k' m).wf = true
  | .bool, [.bool _] => True
  | .str, [.str s] => s.size ≤ reachBytes
  | .slice e, [.slice T l] => T = (E.ti e).tag ∧ l.length * (E.ti e).bytes ≤ reachBytes ∧ ∀ x ∈ l, wfC E n e ((E.cc T).enc x)
  | .struct fs, xs => wfP E (wfC E n) (fs.map (·.1)) xs
  | .arr k e, xs => wfP E (wfC E n) (List.replicate k e) xs
  | _, _ => False

def sumSz (E : Env U) : List TypeId → Nat
 | [] => 0
 | t :: ts => (E.ti t).size + sumSz E ts
def rowB (E : Env U) : Nat → List (TypeId × Nat) → Bool
 | _, [] => true
 | o, (t, off) :: fs => Nat.beq off o && rowB E (o + (E.ti t).size) fs
def depthB (E : Env U) (ct : Nat → List CK) : Nat → TypeId → Bool
 | 0, _ => false
 | n + 1, t => match (E.ti t).d with
  | .int _ | .bool | .str => true
  | .slice e => !(Nat.beq (E.ti e).tag 0) && CK.beqL (cks E n e) (ct (E.ti e).tag) && depthB E ct n e
  | .struct fs => rowB E 0 fs && Nat.beq (sumSz E (fs.map (·.1))) (E.ti t).size && (fs.map (·.1)).all (depthB E ct n)
  | .arr k e => Nat.beq (sumSz E (List.replicate k e)) (E.ti t).size && (List.replicate k e).all (depthB E ct n)
  | _ => false

def FullC (cc : (T : Nat) → Cod U T) (ct : Nat → List CK) : Prop := ∀ T (xs : List (IV U)), T ≠ 0 → fitsC (ct T) xs → ∃ x, (cc T).enc x = xs

theorem fitsC_append {as bs : List CK} {xs ys : List (IV U)} (h : fitsC as xs) (g : fitsC bs ys) : fitsC (as ++ bs) (xs ++ ys) := by
 induction as generalizing xs with
 | nil => cases xs with
  | nil => exact g
  | cons x xs => exact h.elim
 | cons a as ih => cases xs with
  | nil => exact h.elim
  | cons x xs => exact ⟨h.1, ih h.2⟩

theorem size1 (hE : EnvOK P E) {t : TypeId} (ho : (E.ti t).d.isOther = false) (ha : (E.ti t).isAgg = false) : (E.ti t).size = 1 := by
 obtain ⟨_, i, _, _, _, h, _⟩ := hE.all ho
 exact h ha

theorem wfP_fits {f : TypeId → List (IV U) → Prop} {g : TypeId → List CK} : ∀ {ts : List TypeId} {xs : List (IV U)}, (∀ t ∈ ts, ∀ ys, f t ys → ys.length = (E.ti t).size → fitsC (g t) ys) →
  xs.length = sumSz E ts → wfP E f ts xs → fitsC (cksP g ts) xs
 | [], xs, _, hl, _ => by
  simp only [sumSz, List.length_eq_zero_iff] at hl
  subst hl
  trivial
 | t :: ts, xs, hf, hl, h => by
  simp only [sumSz] at hl
  have h1 := hf t (List.mem_cons_self ..) _ h.1 (by rw [List.length_take]; omega)
  have h2 := wfP_fits (fun t ht => hf t (List.mem_cons_of_mem _ ht)) (by rw [List.length_drop]; omega) h.2
  have := fitsC_append h1 h2
  rwa [List.take_append_drop] at this

theorem wfC_fits {ct : Nat → List CK} : ∀ (n : Nat) (t : TypeId) (xs : List (IV U)), depthB E ct n t = true → wfC E n t xs → xs.length = (E.ti t).size → fitsC (cks E n t) xs := by
 intro n
 induction n with
 | zero => intro t xs _ h; exact h.elim
 | succ n ih =>
  intro t xs hd h hl
  unfold wfC at h
  unfold cks
  unfold depthB at hd
  split at h
  ·rename_i e; rw [e]; exact ⟨h.1, trivial⟩
  ·rename_i e; rw [e]; exact ⟨trivial, trivial⟩
  ·rename_i e; rw [e]; exact ⟨trivial, trivial⟩
  ·rename_i e; rw [e]; exact ⟨h.1, trivial⟩
  ·rename_i fs _ e
   rw [e] at hd ⊢
   simp only [Bool.and_eq_true, List.all_eq_true] at hd
   exact wfP_fits (fun t ht ys hw hy => ih t ys (hd.2 t ht) hw hy) (by rw [hl, Nat.eq_of_beq_eq_true hd.1.2]) h
  ·rename_i k e' _ e
   rw [e] at hd ⊢
   simp only [Bool.and_eq_true, List.all_eq_true] at hd
   exact wfP_fits (fun t ht ys hw hy => ih t ys (hd.2 t ht) hw hy) (by rw [hl, Nat.eq_of_beq_eq_true hd.1]) h
  ·exact h.elim

theorem cellsOf_eq (hE : EnvOK P E) {t : TypeId} (ho : (E.ti t).d.isOther = false) : P.cellsOf t = (E.ti t).size ∧ P.bytesOf t = (E.ti t).bytes := by
 obtain ⟨_, i, hi, h1, h2, _⟩ := hE.all ho
 simp [Program.cellsOf, Program.bytesOf, hi, h1, h2]

abbrev none0 : Nat → Prop := fun _ => False
def RepL (cc : (T : Nat) → Cod U T) (w : World) (xs : List (IV U)) (vs : List Value) : Prop := ∀ (j : Nat) (y : IV U) (v : Value), xs[j]? = some y → vs[j]? = some v → Rep cc w none0 y v

def bk (E : Env U) : Nat → IV U → Nat
 | 0, _ => 0
 | n + 1, .slice T l => (l.map fun x => (((E.cc T).enc x).map (bk E n)).sum).sum + 1
 | _ + 1, .str s => s.size + 1
 | _ + 1, _ => 1
def bkL (E : Env U) (n : Nat) (xs : List (IV U)) : Nat := (xs.map (bk E n)).sum
structure BulkOK {H : Type} (B : DataW H → Nat) : Prop where
 one : ∀ d, 1 ≤ B d
 str : ∀ b, b.length + 1 ≤ B (.lit (.string b))
 slice : ∀ es sp, (es.map B).sum + 1 ≤ B (.slice es sp)
 agg : ∀ ps, (ps.map B).sum ≤ B (.agg ps)
theorem sum_le : ∀ {xs ys : List Nat}, xs.length = ys.length → (∀ (i x y : Nat), xs[i]? = some x → ys[i]? = some y → x ≤ y) → xs.sum ≤ ys.sum
 | [], [], _, _ => Nat.le_refl _
 | x :: xs, y :: ys, hl, h => by
  have h0 := h 0 x y rfl rfl
  have h1 := sum_le (xs := xs) (ys := ys) (by simpa using hl) fun i a b ha hb => h (i + 1) a b (by simpa using ha) (by simpa using hb)
  simp only [List.sum_cons]
  omega
 | [], _ :: _, hl, _ => by simp at hl
 | _ :: _, [], hl, _ => by simp at hl

theorem open_parts {w : World} {f : TypeId → List (IV U) → Prop} {cs : List Value} : ∀ (fs : List (TypeId × Nat)) (o : Nat) (bs : List Nat), bs.length = fs.length → rowB E o fs = true →
  (∀ (i : Nat) (p : TypeId × Nat), fs[i]? = some p → ∃ xs : List (IV U), xs.length = (E.ti p.1).size ∧ RepL E.cc w xs ((cs.drop p.2).take (E.ti p.1).size) ∧ f p.1 xs ∧ ∀ m, bs[i]? = some m → ∀ k, bkL E k xs ≤ m) →
  ∃ xs : List (IV U), xs.length = sumSz E (fs.map (·.1)) ∧ RepL E.cc w xs (cs.drop o) ∧ wfP E f (fs.map (·.1)) xs ∧ ∀ k, bkL E k xs ≤ bs.sum
 | [], o, bs, hb, _, _ => ⟨[], rfl, fun j y v h => by simp at h, trivial, fun k => by simp [bkL]⟩
 | (t, off) :: fs, o, [], hb, _, _ => by simp at hb
 | (t, off) :: fs, o, m :: bs, hb, hr, h => by
  simp only [rowB, Bool.and_eq_true] at hr
  have e : off = o := Nat.eq_of_beq_eq_true hr.1
  subst e
  obtain ⟨xs, h1, h2, h3, h4⟩ := h 0 _ rfl
  obtain ⟨ys, g1, g2, g3, g4⟩ := open_parts fs (off + (E.ti t).size) bs (by simpa using hb) hr.2 fun i p hp => h (i + 1) p hp
  simp only [] at h1 h2 h3
  have h4 := h4 m rfl
  refine ⟨xs ++ ys, ?_, fun j y v hy hv => ?_, ⟨?_, ?_⟩, fun k => by
   have e1 := h4 k
   have e2 := g4 k
   simp only [bkL, List.map_append, List.sum_append, List.sum_cons] at *
   omega⟩
  ·simp only [List.length_append, List.map_cons, sumSz, h1, g1]
  ·rcases Nat.lt_or_ge j xs.length with hj | hj
   ·rw [List.getElem?_append_left hj] at hy
    refine h2 j y v hy ?_
    rw [List.getElem?_take, if_pos (by omega)]
    exact hv
   ·rw [List.getElem?_append_right hj] at hy
    refine g2 (j - xs.length) y v hy ?_
    rw [List.getElem?_drop] at hv ⊢
    rw [← hv]
    congr 1
    omega
  ·rw [List.take_left' h1]; exact h3
  ·rw [List.drop_left' h1]; exact g3

theorem rowB_rep (e : TypeId) : ∀ (k o : Nat), rowB E o ((List.range' 0 k).map fun i => (e, o + i * (E.ti e).size)) = true := by
 have main : ∀ (k b o : Nat), rowB E (o + b * (E.ti e).size) ((List.range' b k).map fun i => (e, o + i * (E.ti e).size)) = true := by
  intro k
  induction k with
  | zero => intro b o; rfl
  | succ k ih =>
   intro b o
   simp only [List.range'_succ, List.map_cons, rowB, Bool.and_eq_true]
   refine ⟨Nat.beq_refl _, ?_⟩
   have := ih (b + 1) o
   rwa [show o + (b + 1) * (E.ti e).size = o + b * (E.ti e).size + (E.ti e).size by rw [Nat.succ_mul]; omega] at this
 intro k o
 simpa using main k 0 o

theorem weights_all {H : Type} {e : TypeId} : ∀ {l : List (DataW H)} {d : DataW H}, d ∈ l → ∀ n ∈ d.weights P e, n ∈ DataW.weightsAll P e l
 | d0 :: l, d, hd, n, hn => by
  simp only [DataW.weightsAll, List.mem_append]
  rcases List.mem_cons.1 hd with rfl | hd
  ·exact .inl hn
  ·exact .inr (weights_all hd n hn)

theorem cells_at {w : World} {a : Addr} {m n : Nat} {ys : List Value} (h : w.cells? 0 (a.add m) n = some ys) : ys.length = n ∧ ∀ j, j < n → w.cell? ⟨a.block, a.off + m + j, none⟩ = ys[j]? := by
 unfold World.cells? at h
 rw [if_pos (Nat.zero_le _)] at h
 refine ⟨by simpa using mapM_some_length h, fun j hj => ?_⟩
 have hg := mapM_some_get h j j (by simp [hj])
 have hc : ys[j]? = some (ys[j]'(by have := mapM_some_length h; simp at this; omega)) := List.getElem?_eq_getElem _
 rw [← hg]
 rw [hc] at hg
 -- the address has no spot
 by_cases h0 : m = 0 ∧ j = 0
 ·obtain ⟨rfl, rfl⟩ := h0
  simp only [Addr.add, if_pos] at hg ⊢
  have : a.spot = none := by
   unfold World.cell? at hg
   split at hg
   ·split at hg
    ·cases hg
    ·rename_i hs; simpa using hs
   ·cases hg
  cases a with
  | mk b o sp => simp only [] at this; subst this; rfl
 ·unfold Addr.add
  by_cases hm : m = 0
  ·subst hm
   have hj0 : j ≠ 0 := fun e => h0 ⟨rfl, e⟩
   simp [hj0]
  ·by_cases hj0 : j = 0
   ·subst hj0; simp [hm]
   ·simp [hm, hj0, Nat.add_assoc]

theorem trod_array {H : Type} {enc : TypeId × Value → H} {w : World} {base : Nat} {spare : Nat → Bool} {held : Bool} {fuel k : Nat} {t e : TypeId} {cs : List Value} {x : DataW H × List MemPlace}
  (ht : P.underlying t = some (.array k e)) (h : DataW.trod enc P w base spare held fuel t cs = some x) :
  ∃ (xs : List (DataW H × List MemPlace)) (n : Nat), fuel = n + 1 ∧ x = (.agg (xs.map (·.1)), xs.flatMap (·.2)) ∧ cs.length = P.cellsOf t ∧ xs.length = k ∧
   ∀ i, i < k → DataW.trod enc P w base spare held n e ((cs.drop (i * P.cellsOf e)).take (P.cellsOf e)) = xs[i]? := by
 cases fuel with
 | zero => simp [DataW.trod] at h
 | succ n =>
  unfold DataW.trod at h
  rw [ht] at h
  split at h <;> simp_all
  obtain ⟨hl, xs, hp, hd⟩ := h
  exact ⟨xs, hd.symm, by simpa using mapM_some_length hp, fun i hi => mapM_some_get hp i i (by simp [hi])⟩

theorem open_trod {H : Type} {enc : TypeId × Value → H} (hE : EnvOK P E) {ct : Nat → List CK} (hF : FullC E.cc ct) {w : World} {B : DataW H → Nat} (hB : BulkOK B) : ∀ (n fuel : Nat) (t : TypeId) (cs : List Value) (x : DataW H × List MemPlace),
  depthB E ct n t = true → DataW.trod enc P w 0 (fun _ => true) true fuel t cs = some x → (x.1.weights P t).all (· ≤ reachBytes) = true →
  ∃ xs : List (IV U), xs.length = (E.ti t).size ∧ xs.length = cs.length ∧ RepL E.cc w xs cs ∧ wfC E n t xs ∧ ∀ k, bkL E k xs ≤ B x.1 := by
 intro n
 induction n with
 | zero => intro fuel t cs x h; cases h
 | succ n ih =>
  intro fuel t cs x hd h hw
  unfold depthB at hd
  unfold wfC
  have ho : (E.ti t).d.isOther = false := by
   cases e : (E.ti t).d <;> rw [e] at hd <;> first | rfl | cases hd
  obtain ⟨hdesc, _⟩ := hE.all ho
  split at hd
  ·rename_i k e
   rw [e] at hdesc
   have ht : P.underlying t = some (.int k) := by
    unfold descB at hdesc
    simp only [] at hdesc
    split at hdesc
    ·rename_i e2; rw [e2, of_decide_eq_true hdesc]
    ·cases hdesc
   obtain ⟨m, rfl, rfl, hwf⟩ := DataW.trod_int ht h
   refine ⟨[.int k m], (size1 hE ho (by simp [TI.isAgg, e])).symm, rfl, fun j y v hy hv => ?_, ?_⟩
   ·match j, hy, hv with
    | 0, hy, hv => cases hy; cases hv; exact .int _ _
   ·rw [e]; exact ⟨⟨rfl, hwf⟩, fun k => by cases k with
     | zero => simp [bkL, bk]
     | succ k => simpa [bkL, bk] using hB.one _⟩
  ·rename_i e
   rw [e] at hdesc
   have ht : P.underlying t = some .bool := by
    unfold descB at hdesc
    simp only [] at hdesc
    split at hdesc
    ·rename_i e2; exact e2
    ·cases hdesc
   obtain ⟨b, rfl, rfl⟩ := DataW.trod_bool ht h
   refine ⟨[.bool b], (size1 hE ho (by simp [TI.isAgg, e])).symm, rfl, fun j y v hy hv => ?_, ?_⟩
   ·match j, hy, hv with
    | 0, hy, hv => cases hy; cases hv; exact .bool _
   ·rw [e]; exact ⟨trivial, fun k => by cases k with
     | zero => simp [bkL, bk]
     | succ k => simpa [bkL, bk] using hB.one _⟩
  ·rename_i e
   rw [e] at hdesc
   have ht : P.underlying t = some .string := by
    unfold descB at hdesc
    simp only [] at hdesc
    split at hdesc
    ·rename_i e2; exact e2
    ·cases hdesc
   obtain ⟨s, rfl, rfl, hs⟩ := DataW.trod_string ht h
   refine ⟨[.str s], (size1 hE ho (by simp [TI.isAgg, e])).symm, rfl, fun j y v hy hv => ?_, ?_⟩
   ·match j, hy, hv with
    | 0, hy, hv => cases hy; cases hv; exact .str _
   ·rw [e]
    have := List.all_eq_true.1 hw s.data.toList.length (by simp [DataW.weights])
    rw [decide_eq_true_eq, Array.length_toList] at this
    refine ⟨this, ?_⟩
    have h1 := hB.str s.data.toList
    rw [Array.length_toList] at h1
    intro k
    cases k with
    | zero => simp [bkL, bk]
    | succ k => simpa [bkL, bk] using h1
  ·rename_i e' e
   rw [e] at hdesc
   have ht : P.underlying t = some (.slice e') := by
    unfold descB at hdesc
    simp only [] at hdesc
    split at hdesc
    ·rename_i e2; rw [e2, eq_of_beq hdesc]
    ·cases hdesc
   simp only [Bool.and_eq_true, Bool.not_eq_true'] at hd
   obtain ⟨⟨hT, hct⟩, hd⟩ := hd
   have hT : (E.ti e').tag ≠ 0 := fun e0 => by rw [e0] at hT; cases hT
   have hoe : (E.ti e').d.isOther = false := by
    cases n with
    | zero => cases hd
    | succ n => unfold depthB at hd; cases e3 : (E.ti e').d <;> rw [e3] at hd <;> first | rfl | cases hd
   obtain ⟨hsz, hbt⟩ := cellsOf_eq hE hoe
   rcases DataW.trod_slice ht h with ⟨rfl, rfl⟩ | ⟨a, len, cap, elems, rest, m, rfl, rfl, rfl, _, hlc, hcm, hlen, hel, _, _⟩
   ·refine ⟨[.slice (E.ti e').tag []], (size1 hE ho (by simp [TI.isAgg, e])).symm, rfl, fun j y v hy hv => ?_, ?_⟩
    ·match j, hy, hv with
     | 0, hy, hv => cases hy; cases hv; exact .slice0 _ _ _
    ·rw [e]; exact ⟨⟨rfl, by simp [reachBytes], fun x hx => nomatch hx⟩, fun k => by cases k with
     | zero => simp [bkL, bk]
     | succ k => simpa [bkL, bk] using hB.one _⟩
   ·-- elements
    have hwt : ∀ (i : Nat) d, elems[i]? = some d → (d.1.weights P e').all (· ≤ reachBytes) = true := by
     intro i d hd
     rw [List.all_eq_true]
     intro k hk
     refine List.all_eq_true.1 hw k ?_
     simp only [DataW.weights, ht, List.mem_cons, List.mem_append]
     exact .inr (.inl (weights_all (List.mem_map_of_mem (List.mem_of_getElem? hd)) k hk))
    have each : ∀ i, ∃ x : U (E.ti e').tag, i < len → (∃ ys : List Value, w.cells? 0 (a.add (i * (E.ti e').size)) (E.ti e').size = some ys ∧ RepL E.cc w ((E.cc _).enc x) ys ∧ ((E.cc _).enc x).length = (E.ti e').size) ∧ wfC E n e' ((E.cc _).enc x) ∧ ∀ d, elems[i]? = some d → ∀ k, bkL E k ((E.cc _).enc x) ≤ B d.1 := by
     intro i
     by_cases hi : i < len
     ·have hx := hel i hi
      rw [hsz] at hx
      have hs : elems[i]? = some (elems[i]'(by omega)) := List.getElem?_eq_getElem _
      rw [hs, Option.bind_eq_some_iff] at hx
      obtain ⟨ys, h1, h2⟩ := hx
      obtain ⟨xs, g1, g2, g3, g4, g5⟩ := ih m e' ys _ hd h2 (hwt i _ hs)
      have hfit := wfC_fits n e' xs hd g4 g1
      rw [CK.beqL_eq hct] at hfit
      obtain ⟨x, rfl⟩ := hF _ xs hT hfit
      exact ⟨x, fun _ => ⟨⟨ys, h1, g3, g1⟩, g4, fun d hd => by rw [hs] at hd; cases hd; exact g5⟩⟩
     ·exact ⟨(E.cc _).dflt, fun h => absurd h hi⟩
    obtain ⟨g, hg⟩ := Classical.axiomOfChoice each
    have hpos : 0 < (E.cc (E.ti e').tag).sz := hE.tag0 e' hT
    have hcsz : 0 < len → (E.cc (E.ti e').tag).sz = (E.ti e').size := fun h0 => by
     obtain ⟨⟨ys, _, _, h3⟩, _⟩ := hg 0 h0
     rw [← h3]
     exact ((hE.cod _ hpos).size _).symm
    refine ⟨[.slice (E.ti e').tag ((List.range len).map g)], (size1 hE ho (by simp [TI.isAgg, e])).symm, rfl, fun j y v hy hv => ?_, ?_⟩
    ·match j, hy, hv with
     | 0, hy, hv =>
      cases hy; cases hv
      by_cases h0 : len = 0
      ·subst h0; exact .slice0 _ _ _
      ·have h0 : 0 < len := Nat.pos_of_ne_zero h0
       have hsp : a = ⟨a.block, a.off, none⟩ := by
        obtain ⟨⟨ys, h1, _, h3⟩, _⟩ := hg 0 h0
        have hp : 0 < (E.ti e').size := by rw [← hcsz h0]; exact hpos
        obtain ⟨c1, c2⟩ := cells_at h1
        unfold World.cells? at h1
        rw [if_pos (Nat.zero_le _)] at h1
        have hgg := mapM_some_get h1 0 0 (by simp [hp])
        simp only [Nat.zero_mul, Addr.add, if_pos] at hgg
        have hc : ys[0]? = some (ys[0]'(by omega)) := List.getElem?_eq_getElem _
        rw [hc] at hgg
        unfold World.cell? at hgg
        split at hgg
        ·split at hgg
         ·cases hgg
         ·rename_i hs
          cases a with
          | mk b o sp => cases sp with
           | none => rfl
           | some q => simp at hs
        ·cases hgg
       rw [hsp]
       have hcell : ∀ i, i < ((List.range len).map g).length * (E.cc (E.ti e').tag).sz → w.cell? ⟨a.block, a.off + i, none⟩ = some ((w.cell? ⟨a.block, a.off + i, none⟩).getD undef) := by
        intro i hi
        simp only [List.length_map, List.length_range] at hi
        have hq : i / (E.cc (E.ti e').tag).sz < len := Nat.div_lt_of_lt_mul (by rw [Nat.mul_comm]; exact hi)
        obtain ⟨⟨ys, h1, _, h3⟩, _⟩ := hg _ hq
        obtain ⟨c1, c2⟩ := cells_at h1
        have hr : i % (E.cc (E.ti e').tag).sz < (E.ti e').size := by rw [← hcsz h0]; exact Nat.mod_lt _ hpos
        have := c2 _ hr
        rw [← hcsz h0] at this
        rw [show a.off + i / (E.cc (E.ti e').tag).sz * (E.cc (E.ti e').tag).sz + i % (E.cc (E.ti e').tag).sz = a.off + i by rw [Nat.add_assoc, Nat.div_add_mod' ]] at this
        rw [this, List.getElem?_eq_getElem (by omega)]
        rfl
       have key := Rep.slice (cc := E.cc) (w := w) (av := none0) (E.ti e').tag ((List.range len).map g) a.block a.off cap (fun i => (w.cell? ⟨a.block, a.off + i, none⟩).getD undef) hpos (fun h => h) (by simpa using hlc) hcell (by
        intro i x j y hx hy
        rw [List.getElem?_map] at hx
        have hi : i < len := by
         rcases Nat.lt_or_ge i len with h | h
         ·exact h
         ·rw [List.getElem?_eq_none (by simpa using h)] at hx; cases hx
        rw [List.getElem?_range hi] at hx
        cases hx
        obtain ⟨⟨ys, h1, h2, h3⟩, _⟩ := hg _ hi
        obtain ⟨c1, c2⟩ := cells_at h1
        have hj : j < (E.ti e').size := by
         rcases Nat.lt_or_ge j (E.ti e').size with h | h
         ·exact h
         ·rw [List.getElem?_eq_none (by omega)] at hy; cases hy
        have hcj := c2 j hj
        refine h2 j y _ hy ?_
        rw [hcsz h0, ← Nat.add_assoc, hcj, List.getElem?_eq_getElem (by omega)]
        rfl)
       simpa using key
    ·rw [e]
     refine ⟨⟨rfl, ?_, fun x hx => ?_⟩, ?_⟩
     ·have := List.all_eq_true.1 hw ((elems.map (·.1)).length + (rest.map (·.1)).length |> (· * P.bytesOf e')) (by simp [DataW.weights, ht])
      simp only [List.length_map, decide_eq_true_eq, hbt, hlen] at this
      simp only [List.length_map, List.length_range]
      exact Nat.le_trans (Nat.mul_le_mul_right _ (by omega)) this
     ·obtain ⟨i, hi, rfl⟩ := List.mem_map.1 hx
      exact (hg i (List.mem_range.1 hi)).2.1
     ·have h1 := hB.slice (elems.map (·.1)) (rest.map (·.1))
      intro k
      cases k with
      | zero => simp [bkL, bk]
      | succ k =>
      have h2 : (((List.range len).map g).map fun x => (((E.cc (E.ti e').tag).enc x).map (bk E k)).sum).sum ≤ ((elems.map (·.1)).map B).sum := by
       refine sum_le (by simp [hlen]) fun i x y hx hy => ?_
       have hi : i < len := by
        rcases Nat.lt_or_ge i len with h | h
        ·exact h
        ·rw [List.getElem?_eq_none (by simpa using h)] at hx; cases hx
       rw [List.getElem?_map, List.getElem?_map, List.getElem?_range hi] at hx
       cases hx
       rw [List.getElem?_map, List.getElem?_map, List.getElem?_eq_getElem (by omega)] at hy
       cases hy
       exact (hg i hi).2.2 _ (List.getElem?_eq_getElem _) k
      simp only [bkL, bk, List.map_cons, List.map_nil, List.sum_cons, List.sum_nil]
      omega
  ·rename_i fs e
   rw [e] at hdesc
   simp only [Bool.and_eq_true, List.all_eq_true] at hd
   unfold descB at hdesc
   simp only [] at hdesc
   split at hdesc
   case h_2 => cases hdesc
   rename_i fields ht
   obtain ⟨xs, m, rfl, rfl, hl, hxl, hf⟩ := DataW.trod_struct ht h
   obtain ⟨hsz, _⟩ := cellsOf_eq hE ho
   have hfs := eq_of_beq hdesc
   have hlen2 : (xs.map fun y => B y.1).length = fs.length := by rw [← hfs]; simp [hxl]
   obtain ⟨ys, g1, g2, g3, g4⟩ := open_parts (E := E) (w := w) (f := wfC E n) (cs := cs) fs 0 (xs.map fun y => B y.1) hlen2 hd.1.1 (by
    intro i p hp
    rw [← hfs, List.getElem?_map, Option.map_eq_some_iff] at hp
    obtain ⟨f, hfi, rfl⟩ := hp
    have hfi' : fields[i]? = some f := by simpa using hfi
    have := hf i f hfi'
    have hlt : i < xs.length := by
     rw [hxl]
     exact (Array.getElem?_eq_some_iff.1 hfi').1
    rw [List.getElem?_eq_getElem hlt] at this
    have hmem : f.type ∈ fs.map (·.1) := by
     rw [← hfs, List.map_map]
     exact List.mem_map.2 ⟨f, List.mem_of_getElem? hfi, rfl⟩
    have hdf := hd.2 _ hmem
    have hof : (E.ti f.type).d.isOther = false := by
     cases n with
     | zero => cases hdf
     | succ n => unfold depthB at hdf; cases e3 : (E.ti f.type).d <;> rw [e3] at hdf <;> first | rfl | cases hdf
    rw [(cellsOf_eq hE hof).1] at this
    obtain ⟨zs, z1, z2, z3, z4, z5⟩ := ih m f.type _ _ hdf this (by
     rw [List.all_eq_true]
     intro k hk
     refine List.all_eq_true.1 hw k ?_
     simp only [DataW.weights, ht]
     exact DataW.weights_mem_each (j := i) (by rw [List.getElem?_map]; simp [hfi]) (by rw [List.getElem?_map, List.getElem?_eq_getElem hlt]; rfl) k hk)
    exact ⟨zs, z1, z3, z4, fun k hk => by
     rw [List.getElem?_map, List.getElem?_eq_getElem hlt] at hk
     cases hk
     exact z5⟩)
   refine ⟨ys, by rw [g1]; exact Nat.eq_of_beq_eq_true hd.1.2, by rw [g1, Nat.eq_of_beq_eq_true hd.1.2, hl, hsz], by simpa using g2, ?_⟩
   rw [e]
   refine ⟨g3, fun k => Nat.le_trans (g4 k) ?_⟩
   have := hB.agg (xs.map (·.1))
   rw [List.map_map] at this
   exact this
  ·rename_i k e' e
   rw [e] at hdesc
   simp only [Bool.and_eq_true, List.all_eq_true] at hd
   unfold descB at hdesc
   simp only [] at hdesc
   split at hdesc
   case h_2 => cases hdesc
   rename_i k' e'' ht
   simp only [Bool.and_eq_true] at hdesc
   obtain ⟨h1, h2⟩ := hdesc
   have h1 := eq_of_beq h1
   have h2 := eq_of_beq h2
   subst h1; subst h2
   obtain ⟨hsz, _⟩ := cellsOf_eq hE ho
   obtain ⟨xs, m, rfl, rfl, hl, hxl, hf⟩ := trod_array ht h
   have hmap : ((List.range' 0 k).map fun i => (e', 0 + i * (E.ti e').size)).map (·.1) = List.replicate k e' := by
    rw [List.map_map]
    apply List.ext_getElem?
    intro i
    rw [List.getElem?_map, List.getElem?_replicate]
    split
    ·rename_i hi; rw [List.getElem?_range' (by omega)]; rfl
    ·rename_i hi; rw [List.getElem?_eq_none (by simpa using hi)]; rfl
   obtain ⟨ys, g1, g2, g3, g4⟩ := open_parts (E := E) (w := w) (f := wfC E n) (cs := cs) ((List.range' 0 k).map fun i => (e', 0 + i * (E.ti e').size)) 0 (xs.map fun y => B y.1) (by simp [hxl]) (rowB_rep e' k 0) (by
    intro i p hp
    rw [List.getElem?_map] at hp
    have hi : i < k := by
     rcases Nat.lt_or_ge i k with h | h
     ·exact h
     ·rw [List.getElem?_eq_none (by simpa using h)] at hp; cases hp
    rw [List.getElem?_range' hi] at hp
    cases hp
    have := hf i hi
    rw [List.getElem?_eq_getElem (by omega)] at this
    have hdf := hd.2 e' (by rw [List.mem_replicate]; exact ⟨by omega, rfl⟩)
    have hof : (E.ti e').d.isOther = false := by
     cases n with
     | zero => cases hdf
     | succ n => unfold depthB at hdf; cases e3 : (E.ti e').d <;> rw [e3] at hdf <;> first | rfl | cases hdf
    rw [(cellsOf_eq hE hof).1] at this
    obtain ⟨zs, z1, z2, z3, z4, z5⟩ := ih m e' _ _ hdf this (by
     rw [List.all_eq_true]
     intro k hk
     refine List.all_eq_true.1 hw k ?_
     simp only [DataW.weights, ht]
     exact weights_all (List.mem_map_of_mem (List.getElem_mem _)) k hk)
    refine ⟨zs, z1, by simpa using z3, z4, fun q hq => ?_⟩
    rw [List.getElem?_map, List.getElem?_eq_getElem (by omega)] at hq
    cases hq
    exact z5)
   rw [hmap] at g1 g3
   refine ⟨ys, by rw [g1]; exact Nat.eq_of_beq_eq_true hd.1, by rw [g1, Nat.eq_of_beq_eq_true hd.1, hl, hsz], by simpa using g2, ?_⟩
   rw [e]
   refine ⟨g3, fun k => Nat.le_trans (g4 k) ?_⟩
   have := hB.agg (xs.map (·.1))
   rw [List.map_map] at this
   exact this
  ·cases hd

end Go.Proofs.Ytmlbioapefgioaa.Va

/- A law's plain truth gives its row. -/
namespace Go.Proofs.Ytmlbioapefgioaa.Va
open Go
open Go.ChangeShapes Go.WideShapes Go.ChangeAt Go.RowKit

variable {U : Nat → Type} {R : Type} {P : Program} {E : Env U}

def ckPt : CK → Pt
 | .int k => .int k
 | .bool => .bool
 | .str => .str
 | .sl T => .sl T
def cksPt : List CK → Pt
 | [] => .nl
 | c :: cs => .cs (ckPt c) (cksPt cs)
def argPt (E : Env U) (t : TypeId) : Pt :=
 match (E.ti t).isAgg, cks E 8 t with
 | true, cs => .agg (cksPt cs)
 | false, [c] => ckPt c
 | false, _ => .dead
def argsPt (E : Env U) : List TypeId → Pt
 | [] => .nl
 | t :: ts => .cs (argPt E t) (argsPt E ts)
def Pt.ivL : (p : Pt) → p.Lf U → List (IV U)
 | .int k, n => [.int k n]
 | .bool, b => [.bool b]
 | .str, s => [.str s]
 | .sl T, l => [.slice T l]
 | .agg p, l => p.ivL l
 | .cs p q, l => p.ivL l.1 ++ q.ivL l.2
 | _, _ => []
def wfA (E : Env U) : List TypeId → (p : Pt) → p.Lf U → Prop
 | t :: ts, .cs p q, l => wfC E 8 t (p.ivL l.1) ∧ wfA E ts q l.2
 | _, _, _ => True

theorem fits1 {c : CK} {x : IV U} (h : fitC c x) : ∃ l : (ckPt c).Lf U, (ckPt c).mkL l = [.im x] ∧ (ckPt c).ivL l = [x] := by
 cases c <;> cases x <;> first | exact h.elim | skip
 ·cases h; exact ⟨_, rfl, rfl⟩
 ·exact ⟨_, rfl, rfl⟩
 ·exact ⟨_, rfl, rfl⟩
 ·cases h; exact ⟨_, rfl, rfl⟩
theorem fitsL : ∀ {cs : List CK} {xs : List (IV U)}, fitsC cs xs → ∃ l : (cksPt cs).Lf U, (cksPt cs).mkL l = xs.map .im ∧ (cksPt cs).ivL l = xs
 | [], [], _ => ⟨(), rfl, rfl⟩
 | [], _ :: _, h => h.elim
 | _ :: _, [], h => h.elim
 | c :: cs, x :: xs, h => by
  obtain ⟨l, h1, h2⟩ := fits1 h.1
  obtain ⟨m, g1, g2⟩ := fitsL h.2
  refine ⟨(l, m), ?_, ?_⟩
  ·show (ckPt c).mkL l ++ (cksPt cs).mkL m = _
   rw [h1, g1]; rfl
  ·show (ckPt c).ivL l ++ (cksPt cs).ivL m = _
   rw [h2, g2]; rfl

theorem cells_one {t : TypeId} {W : World} {r : Reach} {b : Nat} {v : Value} {y : Value} (hv : Value.okWide P W r b t v) (hd : descB P t (E.ti t).d = true) (ho : (E.ti t).d.isOther = false) (ha : (E.ti t).isAgg = false)
  {ct : Nat → List CK} {n : Nat} (hdp : depthB E ct n t = true) : v.cells.toList = [v] := by
 cases n with
 | zero => cases hdp
 | succ n =>
 unfold depthB at hdp
 cases v with
 | agg cs =>
  exfalso
  unfold Value.okWide at hv
  cases e : (E.ti t).d with
  | int k =>
   rw [e] at hd
   unfold descB at hd
   simp only [] at hd
   split at hd
   ·rename_i e2; rw [e2] at hv; simp [Cell.okWide, e2, Cell.ok] at hv
   ·cases hd
  | bool =>
   rw [e] at hd
   unfold descB at hd
   simp only [] at hd
   split at hd
   ·rename_i e2; rw [e2] at hv; simp [Cell.okWide, e2, Cell.ok] at hv
   ·cases hd
  | str =>
   rw [e] at hd
   unfold descB at hd
   simp only [] at hd
   split at hd
   ·rename_i e2; rw [e2] at hv; simp [Cell.okWide, e2, Cell.ok] at hv
   ·cases hd
  | slice e' =>
   rw [e] at hd
   unfold descB at hd
   simp only [] at hd
   split at hd
   ·rename_i e2; rw [e2] at hv; simp [Cell.okWide, e2, Cell.ok] at hv
   ·cases hd
  | _ => rw [e] at hdp; simp [TI.isAgg, e] at ha <;> cases hdp
 | _ => rfl

theorem open_arg {H : Type} {enc : TypeId × Value → H} (hE : EnvOK P E) {ct : Nat → List CK} (hF : FullC E.cc ct) {B : DataW H → Nat} (hB : BulkOK B) {W : World} {r : Reach} {b : Nat} {t : TypeId} {v : Value} {d : DataW H} {ps : List MemPlace}
  (hd : depthB E ct 8 t = true) (hv : Value.okWide P W r b t v) (h : DataW.Trod enc P W 0 (fun _ => true) true t v d ps) (hw : (d.weights P t).all (· ≤ reachBytes) = true) :
  ∃ (l : (argPt E t).Lf U) (x : AV U), (argPt E t).mkL l = [x] ∧ (∀ av β, (∀ k, ¬ av k) → RepA E.cc W av β x v) ∧ wfC E 8 t ((argPt E t).ivL l) ∧ ∀ k, bkL E k ((argPt E t).ivL l) ≤ B d := by
 obtain ⟨fuel, hf⟩ := h
 obtain ⟨xs, h1, h2, h3, h4, h5⟩ := open_trod hE hF hB 8 fuel t v.cells.toList (d, ps) hd hf hw
 have hfit := wfC_fits 8 t xs hd h4 h1
 have ho : (E.ti t).d.isOther = false := by
  unfold depthB at hd
  cases e3 : (E.ti t).d <;> rw [e3] at hd <;> first | rfl | cases hd
 obtain ⟨hdesc, _⟩ := hE.all ho
 have up : ∀ {x : IV U} {v : Value} (av : Nat → Prop), (∀ k, ¬ av k) → Rep E.cc W none0 x v → Rep E.cc W av x v := fun av ha h =>
  h.mono (fun _ _ _ _ h => h) (fun k _ _ => ha k)
 cases ha : (E.ti t).isAgg with
 | true =>
  obtain ⟨l, g1, g2⟩ := fitsL hfit
  have e : argPt E t = .agg (cksPt (cks E 8 t)) := by unfold argPt; rw [ha]
  rw [e]
  refine ⟨l, .agg (xs.map .im), ?_, fun av β hav => ?_, ?_⟩
  ·show [AV.agg ((cksPt (cks E 8 t)).mkL l)] = _
   rw [g1]
  ·have hagg : ∃ cs, v = .agg cs := by
    unfold Value.okWide at hv
    cases e4 : (E.ti t).d <;> simp [TI.isAgg, e4] at ha
    all_goals
     rw [e4] at hdesc
     unfold descB at hdesc
     simp only [] at hdesc
     split at hdesc
     ·rename_i e2
      rw [e2] at hv
      obtain ⟨cs, rfl, _⟩ := hv
      exact ⟨cs, rfl⟩
     ·cases hdesc
   obtain ⟨cs, rfl⟩ := hagg
   have h2' : xs.length = cs.size := by simpa [Value.cells] using h2
   refine .agg (by simp [h2']) fun j x v hx hvj => ?_
   rw [List.getElem?_map, Option.map_eq_some_iff] at hx
   obtain ⟨y, hy, rfl⟩ := hx
   exact .im (up av hav (h3 j y v hy (by simpa [Value.cells] using hvj)))
  ·show wfC E 8 t ((cksPt (cks E 8 t)).ivL l) ∧ ∀ k, bkL E k ((cksPt (cks E 8 t)).ivL l) ≤ B d
   rw [g2]; exact ⟨h4, h5⟩
 | false =>
  have hc := cells_one (E := E) (y := v) hv hdesc ho ha hd
  rw [hc] at h2 h3
  match xs, h2 with
  | [x], _ =>
   cases hck : cks E 8 t with
   | nil => rw [hck] at hfit; exact hfit.elim
   | cons c cs =>
    cases cs with
    | cons c' cs => rw [hck] at hfit; exact hfit.2.elim
    | nil =>
     rw [hck] at hfit
     obtain ⟨l, g1, g2⟩ := fits1 hfit.1
     have e : argPt E t = ckPt c := by unfold argPt; rw [ha, hck]
     rw [e]
     refine ⟨l, .im x, g1, fun av β hav => .im (up av hav (h3 0 x v rfl rfl)), ?_⟩
     rw [g2]; exact ⟨h4, h5⟩

theorem open_args {H : Type} {enc : TypeId × Value → H} (hE : EnvOK P E) {ct : Nat → List CK} (hF : FullC E.cc ct) {B : DataW H → Nat} (hB : BulkOK B) {W : World} {r : Reach} {b : Nat} :
  ∀ {ts : List TypeId} {vs : List Value} {ds : List (DataW H)} {ps : List MemPlace}, (∀ t ∈ ts, depthB E ct 8 t = true) → (∀ (j : Nat) t v, ts[j]? = some t → vs[j]? = some v → Value.okWide P W r b t v) →
   DataW.TrodAll enc P W 0 (fun _ => true) true ts vs ds ps → (DataW.weightsEach P ts ds).all (· ≤ reachBytes) = true →
   ∃ l : (argsPt E ts).Lf U, ((argsPt E ts).mkL l).length = vs.length ∧ (∀ (j : Nat) (x : AV U) (v : Value), ((argsPt E ts).mkL l)[j]? = some x → vs[j]? = some v → ∀ av β, (∀ k, ¬ av k) → RepA E.cc W av β x v) ∧ wfA E ts (argsPt E ts) l ∧ ∀ k, bkL E k ((argsPt E ts).ivL l) ≤ (ds.map B).sum
 | [], [], [], _, _, _, _, _ => ⟨(), rfl, fun j x v h => by simp [argsPt, Pt.mkL] at h, trivial, fun k => by simp [argsPt, Pt.ivL, bkL]⟩
 | t :: ts, v :: vs, d :: ds, ps, hd, hv, h, hw => by
  obtain ⟨p, q, h1, h2, rfl⟩ := h
  have hw1 : (d.weights P t).all (· ≤ reachBytes) = true := by
   rw [List.all_eq_true] at hw ⊢
   intro n hn
   exact hw n (by simp [DataW.weightsEach, hn])
  have hw2 : (DataW.weightsEach P ts ds).all (· ≤ reachBytes) = true := by
   rw [List.all_eq_true] at hw ⊢
   intro n hn
   exact hw n (by simp [DataW.weightsEach, hn])
  obtain ⟨l, x, g1, g2, g3, g4⟩ := open_arg hE hF hB (hd t (List.mem_cons_self ..)) (hv 0 t v rfl rfl) h1 hw1
  obtain ⟨m, k1, k2, k3, k4⟩ := open_args hE hF hB (fun t ht => hd t (List.mem_cons_of_mem _ ht)) (fun j t v h1 h2 => hv (j + 1) t v h1 h2) h2 hw2
  have e : (argsPt E (t :: ts)).mkL ((l, m) : (argPt E t).Lf U × (argsPt E ts).Lf U) = x :: (argsPt E ts).mkL m := by
   show (argPt E t).mkL l ++ (argsPt E ts).mkL m = _
   rw [g1]; rfl
  refine ⟨(l, m), ?_, ?_, ⟨g3, k3⟩, fun k => ?_⟩
  rotate_left 2
  ·have e1 := g4 k
   have e2 := k4 k
   show bkL E k ((argPt E t).ivL l ++ (argsPt E ts).ivL m) ≤ _
   simp only [bkL, List.map_append, List.sum_append, List.map_cons, List.sum_cons] at *
   omega
  ·rw [e]; simp [k1]
  ·intro j y u hy hu
   rw [e] at hy
   cases j with
   | zero => cases hy; cases hu; exact g2
   | succ j => exact k2 j y u hy hu
 | [], _ :: _, _, _, _, _, h, _ => by simp [DataW.TrodAll] at h
 | [], [], _ :: _, _, _, _, h, _ => by simp [DataW.TrodAll] at h
 | _ :: _, [], _, _, _, _, h, _ => by simp [DataW.TrodAll] at h
 | _ :: _, _ :: _, [], _, _, _, h, _ => by simp [DataW.TrodAll] at h

theorem trodAll_len {H : Type} {enc : TypeId × Value → H} {W : World} {base : Nat} {spare : Nat → Bool} {held : Bool} : ∀ {ts : List TypeId} {vs : List Value} {ds : List (DataW H)} {ps : List MemPlace},
  DataW.TrodAll enc P W base spare held ts vs ds ps → vs.length = ts.length ∧ ds.length = ts.length
 | [], [], [], _, _ => ⟨rfl, rfl⟩
 | t :: ts, v :: vs, d :: ds, ps, h => by
  obtain ⟨p, q, _, h2, rfl⟩ := h
  obtain ⟨e1, e2⟩ := trodAll_len h2
  exact ⟨by simp [e1], by simp [e2]⟩
 | [], _ :: _, _, _, h => by simp [DataW.TrodAll] at h
 | [], [], _ :: _, _, h => by simp [DataW.TrodAll] at h
 | _ :: _, [], _, _, h => by simp [DataW.TrodAll] at h
 | _ :: _, _ :: _, [], _, h => by simp [DataW.TrodAll] at h

theorem trodAll_stays {H : Type} {enc : TypeId × Value → H} (hl : laidOutB P = true) {W W' : World} (bel : Below W.heap.size W W') : ∀ {ts : List TypeId} {vs : List Value} {ds : List (DataW H)} {ps : List MemPlace},
  (∀ t ∈ ts, P.readableRec t = true ∧ t < P.types.size) → DataW.TrodAll enc P W 0 (fun _ => true) true ts vs ds ps → DataW.TrodAll enc P W' 0 (fun b => decide (b < W.heap.size)) true ts vs ds ps
 | [], [], [], _, _, h => h
 | t :: ts, v :: vs, d :: ds, ps, hr, h => by
  obtain ⟨p, q, h1, h2, rfl⟩ := h
  have hlt : ∀ x ∈ p, x.block < W.heap.size := by
   obtain ⟨m, hm⟩ := h1
   exact DataW.trod_lt m _ _ _ hm
  exact ⟨p, q, Below.trod hl (hr t (List.mem_cons_self ..)).1 (hr t (List.mem_cons_self ..)).2 h1 bel hlt, trodAll_stays hl bel (fun t ht => hr t (List.mem_cons_of_mem _ ht)) h2, rfl⟩
 | [], _ :: _, _, _, _, h => by simp [DataW.TrodAll] at h
 | [], [], _ :: _, _, _, h => by simp [DataW.TrodAll] at h
 | _ :: _, [], _, _, _, h => by simp [DataW.TrodAll] at h
 | _ :: _, _ :: _, [], _, _, h => by simp [DataW.TrodAll] at h

section
variable {C : Checked} {os : Os} {H : Type} {enc : TypeId × Value → H} {E' : Env U} {f : FuncId} {fn : Func} {ts : List TypeId} {tb : TypeId} {ms : List (Nat × List Ps × Md)} {ct : Nat → List CK} {p : Pt}
 {t : p.Lf U × Pt.nl.Lf U → Tw Bool} {v : p.Lf U × Pt.nl.Lf U → Bool → AV U} {hh : p.Lf U × Pt.nl.Lf U → Bool → Hp U}

theorem law_contract {s : ChangeSpec} (hl : laidOutB C.prog = true) (hparams : fn.params.toList = ts) (hres : fn.resultTypes.toList = [tb]) (htb : C.prog.underlying tb = some .bool)
  (hsv : s.vars = []) (hsf : ∀ ds : List (DataW H), ds.length = ts.length → s.fn H ds = { results := [.lit (.bool true)], args := ds })
  (hread : (ts.all fun t => C.prog.readableRec t && decide (t < C.prog.types.size)) = true)
  (hE : EnvOK C.prog E) (hF : FullC E.cc ct) (hcc : E'.cc = E.cc) (hdep : ts.all (depthB E ct 8) = true) (hp : p = argsPt E ts)
  (hs : SoundF C.prog E'.cc f (funcA E' fn ms))
  (hk : ∀ (R : Type) (l : p.Lf U × Pt.nl.Lf U) (K : AV U → Hp U → Option R), funcA E' fn ms R (p.mkL l.1) (Pt.nl.mkH l.2) K = (t l).runK fun y => K (v l y) (hh l y))
  (hv : ∀ l, v l true = .im (.bool true)) {B : DataW H → Nat} (hB : BulkOK B)
  {W : World} {base : Nat} {args : Array Value} {ds gs : List (DataW H)} {before : List MemPlace}
  (hval : ∀ (j : Nat) t v, fn.params[j]? = some t → args[j]? = some v → Value.okWide C.prog W .any base t v)
  (hW : DataW.Whole enc C.prog fn.params.toList s.vars false W args.toList ds gs before)
  (hsz : (DataW.weightsEach C.prog ts ds).all (· ≤ reachBytes) = true)
  (plain : ∀ l : p.Lf U × Pt.nl.Lf U, wfA E ts p l.1 → (∀ k, bkL E k (p.ivL l.1) ≤ (ds.map B).sum) → (t l).run = some true) :
  Calls C.prog f args W fun e W' => ∃ v, e = .returned v ∧ s.post enc C.prog fn false true false false W args v W' := by
 subst hp
 have hW' := hW
 obtain ⟨p0, q0, hA, hV, rfl, hfz, hnd⟩ := hW
 rw [hparams] at hA
 rw [hsv] at hV
 obtain ⟨rfl, rfl⟩ := trodVars_none hV
 have hlen := trodAll_len hA
 obtain ⟨l, h1, h2, h3, h4⟩ := open_args hE hF hB (W := W) (r := .any) (b := base) (fun t ht => List.all_eq_true.1 hdep t ht) (fun j t v ht hvj => hval j t v (by rw [← hparams] at ht; simpa using ht) (by simpa using hvj)) hA hsz
 have hpl := plain (l, ()) h3 h4
 have hrun : funcA E' fn ms (AV U × Hp U) ((argsPt E ts).mkL l) [] (fun a h => some (a, h)) = some (v (l, ()) true, hh (l, ()) true) := by
  have := hk (AV U × Hp U) (l, ()) (fun a h => some (a, h))
  rw [Tw.runK_eq, hpl] at this
  exact this
 obtain ⟨res, h', hK, _, hcall⟩ := hs _ _ _ _ _ hrun
 simp only [Option.some.injEq, Prod.mk.injEq] at hK
 obtain ⟨rfl, rfl⟩ := hK
 have hav : avOf (fun _ => False) (fun _ => none) (Hp.get ([] : Hp U)) = none0 := by
  funext k
  simp [avOf, none0]
 have := hcall (fun _ => False) (fun k => W.heap.size ≤ k) (fun _ => none) W args
  ⟨fun b bi h => by simp at h, fun b bi k h => by simp at h, fun k hk => ⟨hk, fun h => h⟩, fun b b' bi bi' k h => by simp at h⟩ (fun _ _ => rfl) (by
   rw [h1]; simp) (fun j x u hx hu => by
   rw [hav, hcc]
   exact h2 j x u hx (by simpa using hu) none0 _ (fun k h => h))
 refine this.mono fun e W' ⟨vv, β', he, _, _, hrep, htr⟩ => ?_
 subst he
 have hvv : vv = .bool true := by
  rw [hv] at hrep
  cases hrep with
  | im h => cases h; rfl
 subst hvv
 have bel : Below W.heap.size W W' := ⟨htr.fr.os, htr.fr.tape, htr.fr.output, htr.fr.size, fun k hk => by
  rcases Nat.lt_or_ge k W.heap.size with h | h
  ·exact htr.fr.block k h (by omega)
  ·omega⟩
 have hsf' := hsf ds hlen.2
 refine ⟨_, rfl, ds, [], _, [], p0, [], hW', ?_, ?_, ?_, bel.frame _, fun h => by cases h⟩
 ·rw [List.append_nil, hsf', hres]
  have : (Value.bool true).resultList fn.resultTypes.size = [.bool true] := by
   have e : fn.resultTypes.size = 1 := by rw [← Array.length_toList, hres]; rfl
   rw [e]; rfl
  rw [this]
  exact trodAll_mk1 (shut_bool htb _)
 ·rw [List.append_nil, hsf', hparams]
  exact trodAll_stays hl bel (fun t ht => by
   have := List.all_eq_true.1 hread t ht
   rw [Bool.and_eq_true, decide_eq_true_eq] at this
   exact this) hA
 ·rw [List.append_nil, hsf', hsv]
  rfl

theorem law_upto {s : OpenSpec} {F : Stop.Interp} {conds : List PathCond} {kk : (H : Type) → List (DataW H) → Bool} (hkk : s.cond = some kk)
  (own : ownKnob C.prog.godebug = none) (started : os.Started) (noInit : C.prog.inits.idxOf? f = none) (hfn : C.prog.funcs[f]? = some fn)
  (witness : ∃ (w : World) (tape : Tape) (i : Input), w.os = os ∧ (w.forCall tape i).Shaped C.prog ∧ i.vars = [] ∧ Input.okWide C.prog (w.forCall tape i) .any w.heap.size f i ∧
   s.pre6 enc C.prog fn conds false (w.forCall tape i).memory i.args ∧ ({} : Assume).holds C.prog (lone (Frame.enter C.prog f i.args .normal) [] (w.forCall tape i)))
  (hl : laidOutB C.prog = true) (hparams : fn.params.toList = ts) (hres : fn.resultTypes.toList = [tb]) (htb : C.prog.underlying tb = some .bool)
  (hsv : s.vars = []) (hsf : ∀ ds : List (DataW H), ds.length = ts.length → (s.at F).fn H ds = { results := [.lit (.bool true)], args := ds })
  (hread : (ts.all fun t => C.prog.readableRec t && decide (t < C.prog.types.size)) = true)
  (hE : EnvOK C.prog E) (hF : FullC E.cc ct) (hcc : E'.cc = E.cc) (hdep : ts.all (depthB E ct 8) = true) (hp : p = argsPt E ts)
  (hs : SoundF C.prog E'.cc f (funcA E' fn ms))
  (hk : ∀ (R : Type) (l : p.Lf U × Pt.nl.Lf U) (K : AV U → Hp U → Option R), funcA E' fn ms R (p.mkL l.1) (Pt.nl.mkH l.2) K = (t l).runK fun y => K (v l y) (hh l y))
  (hv : ∀ l, v l true = .im (.bool true)) {B : DataW H → Nat} (hB : BulkOK B) {N : Nat} (hN : ∀ ds : List (DataW H), kk H ds = true → (ds.map B).sum ≤ N)
  (plain : ∀ l : p.Lf U × Pt.nl.Lf U, wfA E ts p l.1 → (∀ k, bkL E k (p.ivL l.1) ≤ N) → (t l).run = some true) :
  ReturnsInHanded {} C os f .any (s.pre6 enc C.prog fn conds false) ((s.at F).post enc C.prog fn false true false false) := by
 refine returnsInHanded_of_cond_sized hkk own started noInit hfn witness ?_
 intro W base args ds gs before hval hW hcnd hkd hsz _
 have hgs : gs = [] := by
  obtain ⟨_, _, _, hV, _⟩ := hW
  rw [hsv] at hV
  exact (trodVars_none hV).1
 refine law_contract (s := s.at F) hl hparams hres htb hsv hsf hread hE hF hcc hdep hp hs hk hv hB hval hW ?_ (fun l h hb => plain l h fun k => Nat.le_trans (hb k) (hN ds ?_))
 ·have e : s.bare.plain.varTypes C.prog = [] := by simp [DataSpec.varTypes, ChangeSpec.plain, OpenSpec.bare, hsv]
  rw [e, hgs, List.append_nil, List.append_nil, hparams] at hsz
  exact hsz
 ·rw [hgs, List.append_nil] at hkd
  exact hkd
end

end Go.Proofs.Ytmlbioapefgioaa.Va

