/- The evaluator and its proof, put together: Va24, VaX, VaM, Va25, Va26, Va27, Va28, Va29, VaN, Va30, VaR, VaS, Va31. -/
import Derived.Test.YtmlbioapefgioaaV4
import Derived.CallsIn
import Derived.MapKept
import Derived.Orders
import Derived.OrdersIn
import Derived.LoopNIn
import Derived.Scope
import Derived.RangeFuncLeaves
import Derived.RangeFuncRecord
import Derived.Tactics
/- One operation. -/
set_option linter.unusedSimpArgs false
set_option linter.unusedVariables false
namespace Go.Proofs.Ytmlbioapefgioaa.Va
open Go

variable {U : Nat → Type} {α : Type} {R : Type} {P : Program} {E : Env U}

structure FnOK (P : Program) (f : FuncId) : Prop where
 ex : ∃ fn, P.funcs[f]? = some fn ∧ (fn.name == "runtime.NumGoroutine") = false ∧ fn.body.isNone = false

def FR (ro : Option Nat) : Fence := { Fence.wide with round := ro }
structure Grown (w w' : World) : Prop where
 os : w'.os = w.os
 tape : w'.tape = w.tape
 output : w'.output = w.output
 size : w.heap.size ≤ w'.heap.size
 block : ∀ k, k < w.heap.size → w'.heap[k]? = w.heap[k]?
def ItSound (P : Program) (cc : (T : Nat) → Cod U T) (f : FuncId) (A : AFun U) : Prop :=
 ∀ (R : Type) (args : List (AV U)) (h : Hp U) (K : AV U → Hp U → Option R) (r : R), A R args h K = some r →
  ∃ T xs hl, K (.im (.slice T xs)) hl = some r ∧
  ∀ (X W0 : Nat → Prop) (β : Nat → Option BI) (w : World) (vals : Array Value), HRel cc X W0 β h.get w → (∀ b, h.length ≤ b → β b = none) → vals.size = args.length →
   (∀ (j : Nat) (x : AV U) (v : Value), args[j]? = some x → vals[j]? = some v → RepA cc w (avOf X β h.get) β x v) →
   ∀ (C : Nat → Prop), (∀ k, C k → k < w.heap.size) → (∀ b bi k, β b = some bi → bi.k = some k → (h.get b).isDead = false → ¬ C k) →
   ∀ (l : Nat) (J : World → Nat → World → Prop) (Jx : World → Prop),
    (∀ w1, Grown w w1 → J w1 0 w1) → (∀ w1 i W W', J w1 i W → Grown W W' → J w1 i W') → (∀ W W', Jx W → Grown W W' → Jx W') →
    (∀ w1 i W, J w1 i W → w1.heap.size ≤ W.heap.size ∧ ∀ k, k < w1.heap.size → ¬ C k → W.heap[k]? = w1.heap[k]?) →
    (∀ w1 i W x vv, J w1 i W → xs[i]? = some x → (∀ (w : World) (av : Nat → Prop) (β : Nat → Option BI), RepA cc w av β (elV ((cc T).enc x)) vv) →
     ∃ fn tmps assign body, (Instr.yield l #[vv]).run P W = .ok (.round l fn tmps assign body) W ∧ RoundIn (FR none) 0 P l fn tmps assign body W fun e W' =>
      (e = .returned (.bool true) ∧ J w1 (i + 1) W') ∨ (e = .returned (.bool false) ∧ Jx W')) →
    CallsIn (FR none) 0 P f (#[.func (.yield l) #[] #[]] ++ vals) w fun e W' => (∃ v, e = .returned v) ∧ ((∃ w1, J w1 xs.length W') ∨ Jx W')

structure GamOK (P : Program) (E : Env U) : Prop where
 sound : ∀ f A, E.Γ.lookup f = some A → SoundF P E.cc f A
 fn : ∀ f A, E.Γ.lookup f = some A → FnOK P f
 keep : ∀ f, E.ro.contains f = true → ∀ A, E.Γ.lookup f = some A → KeepA A
 it : ∀ f A, E.It.lookup f = some A → ItSound P E.cc f A ∧ FnOK P f

def opTmps (o : Op) : List Nat := o.operands.toList.flatMap Operand.tmps

theorem constCell_rep {cc : (T : Nat) → Cod U T} {w : World} {av : Nat → Prop} {β : Nat → Option BI} (v : Value) : RepA cc w av β (constCell v) v := by
 unfold constCell
 split
 ·exact .im (.int _ _)
 ·exact .im (.bool _)
 ·exact .im (.str _)
 ·exact .im (.flt _ _)
 ·exact .im .nilp
 ·exact .im .nils
 ·exact .im .nilf
 ·exact .im .nili
 ·exact .bot
theorem const_rep {cc : (T : Nat) → Cod U T} {w : World} {av : Nat → Prop} {β : Nat → Option BI} (v : Value) : RepA cc w av β (constAV v) v := by
 unfold constAV
 split
 ·rename_i cs
  refine .agg (by simp) fun j x v hx hv => ?_
  simp only [List.getElem?_map, Option.map_eq_some_iff] at hx
  obtain ⟨y, hy, rfl⟩ := hx
  rw [Array.getElem?_toList, hv] at hy
  cases hy
  exact constCell_rep v
 ·exact constCell_rep v

section
variable {X W0 : Nat → Prop} {β : Nat → Option BI} {S : AS U} {a : Act} {w : World} {st : St U}

theorem eval_rep (h : Rel E.cc X W0 β S a w) (x : Operand) (hs : ∀ t ∈ Operand.tmps x, S.tm t = st.tm.getD t .bot) : RepA E.cc w (avOf X β S.hp) β (st.get x) (a.eval x) := by
 cases x with
 | tmp t =>
  have := h.tm t
  rw [hs t (by simp [Operand.tmps])] at this
  exact this
 | const v => exact const_rep v
 | global g => exact .bot
 | func f => exact .clo (by simp) (by simp)

theorem evals_rep (h : Rel E.cc X W0 β S a w) (xs : List Operand) (hs : ∀ x ∈ xs, ∀ t ∈ Operand.tmps x, S.tm t = st.tm.getD t .bot) :
  ∀ (j : Nat) (y : AV U) (u : Value), (xs.map st.get)[j]? = some y → (xs.map a.eval)[j]? = some u → RepA E.cc w (avOf X β S.hp) β y u := by
 intro j y u hy hu
 simp only [List.getElem?_map, Option.map_eq_some_iff] at hy hu
 obtain ⟨x, hx, rfl⟩ := hy
 obtain ⟨x', hx', rfl⟩ := hu
 rw [hx] at hx'
 cases hx'
 exact eval_rep h x (hs x (List.mem_of_getElem? hx))
end

def Step (P : Program) (E : Env U) (st : St U) (o : Oper) (v : AV U) (ws : List (Nat × Blk U)) (rd : List Nat) : Prop :=
 ∀ {X W0 : Nat → Prop} {β : Nat → Option BI} {S : AS U} {a : Act} {w : World} {next : Act → World → Prop} {Q : Exit → Act → World → Prop}, Rel E.cc X W0 β S a w → (∀ t ∈ opTmps o.op, S.tm t = st.tm.getD t .bot) →
  (∀ b ∈ rd, S.hp b = st.hp.get b) → (∀ p ∈ ws, st.hp.length ≤ p.1 → β p.1 = none) →
  (∀ vv β' w', HRel E.cc X W0 β' (upds S.hp ws) w' → RepA E.cc w' (avOf X β' (upds S.hp ws)) β' v vv → Tr X W0 β S.hp w β' (upds S.hp ws) w' → (∀ b, β b = none → (∀ p ∈ ws, p.1 ≠ b) → β' b = none) → next (a.put o.dst vv) w') →
  o.upon P a next Q ((execOp a.eval o).run P w)

def StepK (P : Program) (E : Env U) (st : St U) (o : Oper) (K : KO U R) (r : R) : Prop :=
 ∃ v ws rd, K v ws rd = some r ∧ (∀ p ∈ ws, p.1 ∈ rd ∨ st.hp.length ≤ p.1) ∧ Step P E st o v ws rd

theorem tmps_mem {o : Op} {x : Operand} (h : x ∈ o.operands) : ∀ t ∈ Operand.tmps x, t ∈ opTmps o := fun t ht => List.mem_flatMap.2 ⟨x, by simpa using h, ht⟩

theorem step_value {st : St U} {o : Oper} {K : KO U R} {r : R} {v : AV U} (h : K v [] [] = some r)
  (hs : ∀ {X W0 : Nat → Prop} {β : Nat → Option BI} {S : AS U} {a : Act} {w : World}, Rel E.cc X W0 β S a w → (∀ t ∈ opTmps o.op, S.tm t = st.tm.getD t .bot) →
   ∃ vv, (execOp a.eval o).run P w = .ok (.value vv) w ∧ RepA E.cc w (avOf X β S.hp) β v vv) : StepK P E st o K r := by
 refine ⟨v, [], [], h, by simp, @fun X W0 β S a w next Q hr ht _ _ hn => ?_⟩
 obtain ⟨vv, h1, h2⟩ := hs hr ht
 rw [h1]
 exact hn vv β w hr.h h2 Tr.refl fun _ h _ => h

theorem step_looks {st : St U} {o : Oper} {K : KO U R} {r : R} {run : Value → Value → Sem Value} {x y : Operand} (h : Looks E P st K r run (st.get x) (st.get y)) (hx : x ∈ o.op.operands) (hy : y ∈ o.op.operands)
  (hrun : ∀ (a : Act) (w : World), (execOp a.eval o).run P w = ((run (a.eval x) (a.eval y)).run P w).andThen fun v w' => .ok (.value v) w') : StepK P E st o K r := by
 obtain ⟨v, rd, hk, hl⟩ := h
 refine ⟨v, [], rd, hk, by simp, @fun X W0 β S a w next Q hr ht hag _ hn => ?_⟩
 obtain ⟨vv, h1, h2⟩ := hl hr.h (eval_rep hr x fun t h => ht t (tmps_mem hx t h)) (eval_rep hr y fun t h => ht t (tmps_mem hy t h)) hag
 rw [hrun, h1]
 exact hn vv β w hr.h h2 Tr.refl fun _ h _ => h

theorem step_makes {st : St U} {o : Oper} {K : KO U R} {r : R} {xs : List Operand} {run : List Value → World → Result Value} (h : Makes E st K r (xs.map st.get) run) (hx : ∀ x ∈ xs, x ∈ o.op.operands)
  (hrun : ∀ (a : Act) (w : World), (execOp a.eval o).run P w = (run (xs.map a.eval) w).andThen fun v w' => .ok (.value v) w') : StepK P E st o K r := by
 obtain ⟨v, ws, rd, hk, hids, hl⟩ := h
 refine ⟨v, ws, rd, hk, fun p hp => (hids p hp).imp id fun e => by omega, @fun X W0 β S a w next Q hr ht hag hnew hn => ?_⟩
 obtain ⟨vv, w', β', h1, h2, h3, h4, h5⟩ := hl hr.h (vs := xs.map a.eval) (by simp) (evals_rep hr xs fun x hx' t h => ht t (tmps_mem (hx x hx') t h)) hag (fun ⟨p, hp, e⟩ => by
  have := hnew p hp (by omega)
  rwa [e] at this)
 rw [hrun, h1]
 exact hn vv β' w' h2 h3 h4 h5

end Go.Proofs.Ytmlbioapefgioaa.Va

/- Operations that came later: noughts behind a slice that is none, the first part of a row, a capacity. -/
namespace Go.Proofs.Ytmlbioapefgioaa.Va
open Go

variable {U : Nat → Type} {α : Type} {R : Type} {P : Program} {E : Env U}

theorem run_append_noughts (w : World) (t tx ty e : TypeId) (k : IntKind) (i : TypeInfo) (z : Value) (ht : P.underlying t = some (.slice e)) (htx : P.underlying tx = some (.int k)) (hi : P.info? e = some i) (hz : i.zero = some z)
  (n : Int) (h0 : 0 < n) (hn : n ≤ 140737488355328) (hb : n * i.bytes ≤ 140737488355328) (hs : 0 < i.size) :
  (Builtin.append_ #[t, tx] ty #[.slice none 0 0, .int .i64 n]).run P w =
   .ok (.slice (some ⟨w.heap.size, 0, none⟩) n.toNat (grownCap w n.toNat 0 e)) (w.drew.alloc (.cells (Builtin.zeroCells z.cells n.toNat ++ Builtin.zeroCells z.cells (grownCap w n.toNat 0 e - n.toNat)) e)) := by
 have hw : IntKind.i64.wrap n = n := by rw [IntKind.wrap_i64]; omega
 have hnn : ¬ n < 0 := by omega
 have hbb : ¬ (281474976710656 < n * (i.bytes : Int)) := by omega
 have hpos : ¬ n.toNat = 0 := by omega
 have hne : ¬ (n.toNat = 0 ∨ i.size = 0) := by omega
 have h63 : ¬ (9223372036854775807 < ((n.toNat : Nat) : Int)) := by omega
 have hnb : n.toNat * i.bytes ≤ 140737488355328 := by
  have e1 : ((n.toNat * i.bytes : Nat) : Int) ≤ 140737488355328 := by rw [Int.natCast_mul, Int.toNat_of_nonneg (by omega)]; exact hb
  omega
 have h48 : ¬ (281474976710656 < Builtin.nextslicecap (0 + n.toNat) 0 * i.bytes) := by
  have := growslice_fits (need := 0 + n.toNat) (old := 0) (bytes := i.bytes) (by omega) (by simpa using hnb)
  omega
 have h48' : ¬ (281474976710656 < Builtin.nextslicecap n.toNat 0 * i.bytes) := by simpa using h48
 have hle : ¬ n ≤ 0 := by omega
 have hmx : ¬ (9223372036854775807 < max n 0) := by omega
 have hne2 : ¬ (n.toNat * i.size = 0) := fun h => by
  rcases Nat.mul_eq_zero.1 h with h | h <;> omega
 simp [Builtin.append_, run_underlying ht, run_underlying htx, sizeOf, typeInfo, zeroValue, asInt, asIntOf, hw, hi, hz, hnn, hbb, hle, hmx, hne2, h48', Question.forced, Builtin.firstCells, newRow, grownCap]

theorem appendZ_ok (hE : EnvOK P E) {st : St U} {t tx ty : TypeId} {s x : AV U} {n : Int} {K : KO U R} {r : R} (hx : x = .im (.int .i64 n)) (h : appendZ E st t tx s n K = some r) :
  Makes E st K r [s, x] (fun vs w => (Builtin.append_ #[t, tx] ty #[vs.getD 0 undef, vs.getD 1 undef]).run P w) := by
 unfold appendZ at h
 split at h
 case h_2 => cases h
 rename_i e k hd hdx
 obtain ⟨hu, hoe⟩ := hE.sliceE hd
 split at h
 ·cases h
 rename_i ht
 split at h
 case isFalse => cases h
 rename_i hb
 obtain ⟨h0, hn, hby⟩ := hb
 have ho := hoe ht
 obtain ⟨i, z, hi, hz, hs, hbytes, hzs, hsz, hcod, hrep⟩ := madeCells_rep hE ho ht
 have hpos : 0 < i.size := by rw [hs, ← hsz]; exact hcod.pos
 refine ⟨_, _, _, h, by simp, @fun X W0 β hp w vs hh hl hvs _ hnb0 => ?_⟩
 have hnb := hnb0 ⟨_, List.mem_singleton.2 rfl, rfl⟩
 obtain ⟨a, b, rfl⟩ := two_of hl
 obtain rfl := rep_nils (hvs 0 _ a rfl rfl)
 have hb1 := hvs 1 _ b rfl rfl
 rw [hx] at hb1
 obtain rfl := rep_int hb1
 have hrun := run_append_noughts (P := P) w t tx ty e k i z hu (hE.intE hdx) hi hz n h0 hn (by rw [hbytes]; exact hby) hpos
 have hcap : n.toNat ≤ grownCap w n.toNat 0 e := grownCap_ge w n.toNat 0 e
 have hcm : grownCap w n.toNat 0 e ≤ maxLen := grownCap_le_maxLen w _ _ e (by simp only [maxLen]; omega)
 obtain ⟨hd1, trd⟩ := hh.drew
 obtain ⟨hh', tr⟩ := hd1.alloc st.hp.length hnb (.cells (Builtin.zeroCells z.cells n.toNat ++ Builtin.zeroCells z.cells (grownCap w n.toNat 0 e - n.toNat)) e) n.toNat (grownCap w n.toNat 0 e) (.row (E.ti e).tag (List.replicate n.toNat (E.cc (E.ti e).tag).dflt) true) (fun hk ha hβ => by
  refine ⟨hcod, by simp, by simp, fun k' hk' => ?_⟩
  simp only [Option.some.injEq] at hk'
  subst hk'
  refine ⟨hcap, hcm, _, e, heap_alloc_new _ _, ?_, fun i' x' j y hx' hy => ?_⟩
  ·rw [Array.size_append, size_zeroCells, size_zeroCells, hzs, hsz, ← Nat.add_mul]
   congr 1
   exact Nat.add_sub_cancel' hcap
  ·obtain ⟨v, hv, hr⟩ := hrep n.toNat n.toNat (w.drew.alloc (.cells (Builtin.zeroCells z.cells n.toNat ++ Builtin.zeroCells z.cells (grownCap w n.toNat 0 e - n.toNat)) e)) _ i' x' j y hx' hy (Nat.le_refl _)
   refine ⟨v, ?_, hr⟩
   rw [hsz]
   have e1 : Builtin.zeroCells z.cells n.toNat = madeCells z.cells (n.toNat * (E.ti e).size) := by rw [← hzs]; rfl
   rw [Array.getElem?_append_left (by
    have := (Array.getElem?_eq_some_iff.1 hv).1
    rw [e1]
    exact this), e1]
   exact hv)
 refine ⟨_, _, _, hrun, hh', ?_, trd.trans tr, fun b hb hp' => ?_⟩
 ·exact .own (by simp [updβ])
 ·have : b ≠ st.hp.length := fun e => hp' _ (List.mem_singleton.2 rfl) e.symm
  simp [updβ, this, hb]

theorem capA_ok (hE : EnvOK P E) {t : TypeId} {x : AV U} {K : AV U → Option R} {r : R} (h : capA E t x K = some r) :
  ∃ v, K v = some r ∧ ∀ {av : Nat → Prop} {β : Nat → Option BI} {w : World} {vx : Value} (ts : Array TypeId) (ty : TypeId), ts[0]? = some t → RepA E.cc w av β x vx →
   ∃ vv, (Builtin.cap_ ts ty #[vx]).run P w = .ok vv w ∧ RepA E.cc w av β v vv := by
 unfold capA at h
 split at h
 ·rename_i e hd
  refine ⟨_, h, fun ts ty ht hr => ?_⟩
  obtain rfl := rep_nils hr
  exact ⟨_, by simp [Builtin.cap_, ht, run_underlying (hE.sliceE hd).1, goInt], .im (.int _ _)⟩
 ·cases h

theorem cutA_ok (hE : EnvOK P E) {st : St U} {t : TypeId} {x hi : AV U} {K : KO U R} {r : R} (h : cutA E st t x hi K = some r) :
  Makes E st K r [x, hi] (fun vs w => (Instr.sliceAt t (vs.getD 0 undef) none (some (vs.getD 1 undef)) none).run P w) := by
 unfold cutA at h
 split at h
 case h_2 => cases h
 rename_i e hd
 obtain ⟨hu, _⟩ := hE.sliceE hd
 split at h
 ·cases h
 rename_i hc
 have ho : (E.ti e).d.isOther = false := by simpa using hc
 split at h
 ·rename_i b
  split at h
  case h_2 => cases h
  rename_i T xs hbb
  split at h
  case isFalse => cases h
  rename_i hsz
  obtain ⟨l, q, h1, h2, h3, _, hk, hb⟩ := bounds_run (P := P) h
  obtain rfl := h3 rfl
  refine ⟨_, _, _, hk, by simp, @fun X W0 β hp w vs hh hl hvs hag hnb0 => ?_⟩
  have hnb := hnb0 ⟨_, List.mem_cons_of_mem _ (List.mem_singleton.2 rfl), rfl⟩
  obtain ⟨a, c, rfl⟩ := two_of hl
  have ha := hvs 0 _ a rfl rfl
  have hcv := hvs 1 _ c rfl rfl
  have hbb' := hag b (by simp)
  rw [hbb] at hbb'
  have olo : OptRep E.cc w (avOf X β hp) β none none := ⟨fun _ h => by simp at h, fun _ => rfl⟩
  have ohi : OptRep E.cc w (avOf X β hp) β (some hi) (some c) := ⟨fun p hp => by
   simp only [Option.some.injEq] at hp
   subst hp
   exact ⟨_, rfl, hcv⟩, fun h => by simp at h⟩
  have hfresh : ∀ (bi : BI) p, β p = none → (∀ z ∈ [(b, Blk.dead), (st.hp.length, Blk.row T (xs.take q) true)], z.1 ≠ p) → updβ β st.hp.length bi p = none := by
   intro bi p hp' hz
   have : p ≠ st.hp.length := fun e => hz (st.hp.length, _) (List.mem_cons_of_mem _ (List.mem_singleton.2 rfl)) e.symm
   simp [updβ, this, hp']
  show Eff E.cc X W0 β hp w (.own st.hp.length) [(b, .dead), (st.hp.length, .row T (xs.take q) true)] ((Instr.sliceAt t a none (some c) none).run P w)
  cases ha with
  | own0 hβ =>
   rename_i cap0 a0
   have hok := hh.ok b _ hβ
   rw [hbb'] at hok
   have hx0 := hok.2.1
   simp at hx0
   subst hx0
   obtain rfl : q = 0 := by simpa using h2
   obtain ⟨g1, g2⟩ := hh.mv b st.hp.length _ ⟨none, 0, cap0⟩ hβ rfl (by rw [hbb']; rfl) hnb (.row T (([] : List (U T)).take 0) true) rfl (fun av β' hok => by rw [hbb'] at hok; exact hok)
   have hrun := sliceAt_slice (w := w) hu hE ho a0 0 0 none (some c) 0 0 (hb (Nat.zero_le _) olo ohi)
   refine ⟨_, _, _, hrun, g1, ?_, g2, hfresh _⟩
   have e1 : (if 0 = 0 then a0 else a0.map (·.add (0 * (E.ti e).size))) = a0 := if_pos rfl
   rw [e1]
   exact .own0 (if_pos rfl)
  | own hβ =>
   rename_i k n cap
   have hok := hh.ok b _ hβ
   rw [hbb'] at hok
   have hn := hok.2.1
   simp only at hn
   subst hn
   obtain ⟨hnc, hcm, cs, tt, hh1, hh2, hh3⟩ := hok.2.2.2 k rfl
   simp only at hnc hcm
   obtain ⟨g1, g2⟩ := hh.mv b st.hp.length _ ⟨some k, q, cap⟩ hβ rfl (by rw [hbb']; rfl) hnb (.row T (xs.take q) true) rfl (fun av β' hok => by
    rw [hbb'] at hok
    obtain ⟨o1, o2, o3, o4⟩ := hok
    refine ⟨o1, by rw [List.length_take]; exact Nat.min_eq_left h2, fun h => by simp at h, fun k' hk' => ?_⟩
    obtain ⟨p1, p2, c', t', p3, p4, p5⟩ := o4 k' hk'
    refine ⟨by simp only at p1 ⊢; omega, p2, c', t', p3, p4, fun i x j y hx hy => p5 i x j y ?_ hy⟩
    have hlt := (List.getElem?_eq_some_iff.1 hx).1
    rw [List.length_take] at hlt
    rwa [List.getElem?_take_of_lt (by omega)] at hx)
   have hrun := sliceAt_slice (w := w) hu hE ho (some ⟨k, 0, none⟩) xs.length cap none (some c) 0 q (hb hnc olo ohi)
   refine ⟨_, _, _, hrun, g1, ?_, g2, hfresh _⟩
   have e1 : (if cap = 0 then (some ⟨k, 0, none⟩ : Option Addr) else (some ⟨k, 0, none⟩ : Option Addr).map (·.add (0 * (E.ti e).size))) = some ⟨k, 0, none⟩ := by
    split
    ·rfl
    ·simp [Addr.add]
   rw [e1, Nat.sub_zero, Nat.sub_zero]
   exact .own (if_pos rfl)
 ·obtain ⟨v, rd, hk, hl⟩ := sliceA_ok (P := P) hE h
  refine ⟨v, [], rd, hk, by simp, @fun X W0 β hp w vs hh hlen hvs hag _ => ?_⟩
  obtain ⟨a, c, rfl⟩ := two_of hlen
  obtain ⟨vv, h1, h2⟩ := hl hh (hvs 0 _ a rfl rfl) (vlo := none) (vhi := some c) ⟨fun _ h => by simp at h, fun _ => rfl⟩ ⟨fun p hp => by
   simp only [Option.some.injEq] at hp
   subst hp
   exact ⟨_, rfl, hvs 1 _ c rfl rfl⟩, fun h => by simp at h⟩ hag
  exact ⟨vv, w, β, h1, hh, h2, Tr.refl, fun _ h _ => h⟩

end Go.Proofs.Ytmlbioapefgioaa.Va

/- Maps of the call's own; an empty struct. -/
namespace Go.Proofs.Ytmlbioapefgioaa.Va
open Go

variable {U : Nat → Type} {α : Type} {R : Type} {P : Program} {E : Env U}

section
variable {cc : (T : Nat) → Cod U T} {X W0 : Nat → Prop} {β : Nat → Option BI} {hp : Nat → Blk U} {w w' : World}
theorem HRel.turn (h : HRel cc X W0 β hp w) (b0 : Nat) (bi0 : BI) (k0 : Nat) (hb0 : β b0 = some bi0) (hk0 : bi0.k = some k0) (hl0 : (hp b0).isLive = true)
  (ho : w'.os = w.os) (ht : w'.tape = w.tape) (hu : w'.output = w.output) (hsz : w'.heap.size = w.heap.size) (hold : ∀ k, k ≠ k0 → w'.heap[k]? = w.heap[k]?)
  (hkind : ∀ o, w.heap[k0]? = some o → ∃ o', w'.heap[k0]? = some o' ∧ fixedO o' = fixedO o ∧ (fixedO o = true → o' = o))
  (x : Blk U) (hxl : x.isLive = true) (hx : ∀ av, BlkOK cc w' av β bi0 x) :
  HRel cc X W0 β (upd1 hp b0 x) w' ∧ Tr X W0 β hp w β (upd1 hp b0 x) w' := by
 have hd0 : (hp b0).isDead = false := by cases hh : hp b0 <;> simp_all [Blk.isLive, Blk.isDead]
 have hdx : x.isDead = false := by cases x <;> simp_all [Blk.isLive, Blk.isDead]
 have havk0 : avOf X β hp k0 := .inr ⟨b0, bi0, hb0, hk0, hl0⟩
 have hkeeps : Keeps (avOf X β hp) w w' := Keeps.of_block fun k hk _ => hold k (fun e => hk (e ▸ havk0))
 have hlive : ∀ b, (upd1 hp b0 x b).isLive = (hp b).isLive := by
  intro b
  by_cases e : b = b0
  ·subst e; rw [upd1_same, hxl, hl0]
  ·rw [upd1_ne _ _ e]
 have hdead : ∀ b, (upd1 hp b0 x b).isDead = (hp b).isDead := by
  intro b
  by_cases e : b = b0
  ·subst e; rw [upd1_same, hdx, hd0]
  ·rw [upd1_ne _ _ e]
 have hav : ∀ k, ¬ avOf X β hp k → k < w.heap.size → ¬ avOf X β (upd1 hp b0 x) k := by
  rintro k hk hlt (hX | ⟨b, bi, hb, hbk, hl⟩)
  ·exact hk (.inl hX)
  ·rw [hlive] at hl
   exact hk (.inr ⟨b, bi, hb, hbk, hl⟩)
 refine ⟨⟨?_, ?_, ?_, ?_⟩, ⟨⟨ho, ht, hu, by rw [hsz]; exact Nat.le_refl _, fun k hk hW => ?_, fun k ob hob => ?_⟩, hkeeps, hav, fun _ _ h => h⟩⟩
 ·intro b bi hb
  by_cases e : b = b0
  ·subst e
   rw [hb0] at hb
   cases hb
   rw [upd1_same]
   exact hx _
  ·rw [upd1_ne _ _ e]
   by_cases hd : (hp b).isDead = true
   ·cases hh : hp b <;> simp_all [Blk.isDead, BlkOK]
   ·refine (h.ok b bi hb).mono hkeeps hav (fun _ _ h => h) fun k hk => hold k fun e' => ?_
    subst e'
    exact e (h.inj b b0 bi bi0 k hb hb0 hk hk0 (by simpa using hd) hd0)
 ·intro b bi k hb hk hd
  rw [hdead] at hd
  have := h.dom b bi k hb hk hd
  exact ⟨this.1, this.2.1, by rw [hsz]; exact this.2.2⟩
 ·intro k hk
  exact h.new k (by rw [hsz] at hk; exact hk)
 ·intro b b' bi bi' k hb hb' hk hk' hd hd'
  rw [hdead] at hd hd'
  exact h.inj b b' bi bi' k hb hb' hk hk' hd hd'
 ·exact hold k fun e => hW (e ▸ (h.dom b0 bi0 k0 hb0 hk0 hd0).1)
 ·by_cases e : k = k0
  ·subst e; exact hkind ob hob
  ·exact ⟨ob, by rw [hold k e]; exact hob, rfl, fun _ => rfl⟩
end

theorem makeMapA_ok {st : St U} {t : TypeId} {K : KO U R} {r : R} (h : makeMapA st K = some r) : Makes E st K r [] (fun _ w => (Instr.makeMap t none).run P w) := by
 unfold makeMapA at h
 refine ⟨_, _, _, h, by simp, @fun X W0 β hp w vs hh hl hvs _ hnb0 => ?_⟩
 have hnb := hnb0 ⟨_, List.mem_singleton.2 rfl, rfl⟩
 obtain ⟨hh', tr⟩ := hh.alloc st.hp.length hnb (.map #[] 0) 0 0 (.map []) (fun _ _ _ => ⟨_, #[], 0, rfl, (MapKept.heap_alloc w _).1, rfl⟩)
 refine ⟨.map (some w.heap.size), w.alloc (.map #[] 0), _, by simp [Instr.makeMap, Result.andThen], hh', .mp (by simp [updβ]; exact ⟨rfl, rfl⟩), tr, fun b hb hp' => ?_⟩
 have hne : b ≠ st.hp.length := fun e => hp' _ (List.mem_singleton.2 rfl) e.symm
 simp [updβ, hne, hb]

theorem keys_mem {es : List MapEntry} {l : List Int} (hs : es.map (·.key) = l.map (Value.int .i64 ·)) {n : Int} : (∃ x ∈ es, x.key = .int .i64 n) ↔ n ∈ l := by
 have : Value.int .i64 n ∈ es.map (·.key) ↔ n ∈ l := by rw [hs]; simp
 rw [← this]
 simp

theorem mapUpdateA_ok (hE : EnvOK P E) {st : St U} {t : TypeId} {m k : AV U} {K : KO U R} {r : R} (h : mapUpdateA E st t m k K = some r) :
  ∃ ws rd, K .und ws rd = some r ∧ (∀ p ∈ ws, p.1 ∈ rd) ∧ ∀ {X W0 : Nat → Prop} {β : Nat → Option BI} {hp : Nat → Blk U} {w : World} {vm vk : Value} (vx : Value), HRel E.cc X W0 β hp w →
   RepA E.cc w (avOf X β hp) β m vm → RepA E.cc w (avOf X β hp) β k vk → (∀ b ∈ rd, hp b = st.hp.get b) →
   ∃ w', (Instr.mapUpdate t vm vk vx).run P w = .ok () w' ∧ HRel E.cc X W0 β (upds hp ws) w' ∧ Tr X W0 β hp w β (upds hp ws) w' := by
 unfold mapUpdateA at h
 split at h
 case h_2 => cases h
 rename_i kt hd
 obtain ⟨et, hm⟩ := hE.mapE hd
 split at h
 case h_2 => cases h
 rename_i hk
 have hkt : P.underlying kt = some (.int .i64) := by
  have h1 := hE.desc (t := kt) (by rw [hk]; rfl)
  rw [hk] at h1
  simp only [descB] at h1
  split at h1
  ·rename_i k' hu
   have : IntKind.i64 = k' := by simpa using h1
   rw [hu, this]
  ·cases h1
 split at h
 case h_2 => cases h
 rename_i b
 split at h
 case h_2 => cases h
 rename_i n
 split at h
 case h_2 => cases h
 rename_i l hb
 refine ⟨_, _, h, by simp, @fun X W0 β hp w vm vk vx hh hrm hrk hag => ?_⟩
 have hbb := hag b (by simp)
 rw [hb] at hbb
 cases hrm with
 | @mp _ k0 n0 cap0 hβ =>
 obtain rfl := rep_int hrk
 have hok := hh.ok b _ hβ
 rw [hbb] at hok
 obtain ⟨k', es, clk, hk', hg, hs⟩ := hok
 cases hk'
 have hkey : MapKept.IsKey (.int .i64) (.int .i64 n) := rfl
 have hks : ∀ x ∈ es.toList, MapKept.IsKey (.int .i64) x.key := by
  intro x hx
  have : x.key ∈ l.map (Value.int .i64 ·) := hs ▸ List.mem_map.2 ⟨x, hx, rfl⟩
  obtain ⟨y, _, e⟩ := List.mem_map.1 this
  rw [← e]; rfl
 have hlive : (hp b).isLive = true := by rw [hbb]; rfl
 have main : ∀ es' clk', es'.toList.map (·.key) = (mapPut l n).map (Value.int .i64 ·) → (Instr.mapUpdate t (.map (some k0)) (.int .i64 n) vx).run P w = .ok () { w with heap := w.heap.setIfInBounds k0 (.map es' clk') } →
   ∃ w', (Instr.mapUpdate t (.map (some k0)) (.int .i64 n) vx).run P w = .ok () w' ∧ HRel E.cc X W0 β (upd1 hp b (.map (mapPut l n))) w' ∧ Tr X W0 β hp w β (upd1 hp b (.map (mapPut l n))) w' := by
  intro es' clk' he hrun
  obtain ⟨s1, s2⟩ := MapKept.heap_set (w := w) (o' := .map es' clk') hg
  exact ⟨_, hrun, hh.turn (w' := { w with heap := w.heap.setIfInBounds k0 (.map es' clk') }) b _ k0 hβ rfl hlive rfl rfl rfl (by simp) s2 (fun o ho => by rw [hg] at ho; cases ho; exact ⟨_, s1, rfl, (fun h => by cases h)⟩) (.map (mapPut l n)) rfl
   fun av => ⟨k0, es', clk', rfl, s1, he⟩⟩
 rcases MapKept.findNow_spec hkey es.toList 0 hks with ⟨h1, h2⟩ | ⟨j, e, h1, h2, h3⟩
 ·have hnm : n ∉ l := fun hn => by
   obtain ⟨x, hx, hxe⟩ := (keys_mem hs).2 hn
   exact h2 x hx hxe
  refine main _ _ ?_ (by simp [Instr.mapUpdate, run_underlying hm, MapKept.run_getObj_map hg, MapKept.run_checkKey hkt hkey, MapKept.run_findKey hkt h1, MapKept.run_setObj_map _ hg, Result.andThen]; rfl)
  unfold mapPut
  rw [if_neg (by simpa using hnm)]
  simp [hs]
 ·have hj : es[j]? = some e := by simpa using h2
  have hnm : n ∈ l := (keys_mem hs).1 ⟨e, by rw [Array.mem_toList_iff, Array.mem_iff_getElem?]; exact ⟨j, hj⟩, h3⟩
  refine main _ _ ?_ (by simp [Instr.mapUpdate, run_underlying hm, MapKept.run_getObj_map hg, MapKept.run_checkKey hkt hkey, MapKept.run_findKey hkt h1, hj, h3, MapKept.run_keyThatStays hkey, MapKept.run_setObj_map _ hg, Result.andThen]; rfl)
  unfold mapPut
  rw [if_pos (by simpa using hnm), ← hs]
  exact MapKept.modify_keys j _ fun e' he' => by rw [hj] at he'; cases he'; exact h3.symm

theorem empty_build (hE : EnvOK P E) {t : TypeId} (hd : (E.ti t).d = .struct []) (w : World) : (Instr.build t #[]).run P w = .ok (.agg #[]) w := by
 obtain ⟨hu, i, z, hi, hz, hc⟩ := hE.emptyE hd
 simp [Instr.build, zeroValue, typeInfo, hi, hz, hc, run_underlying hu, Result.andThen, Instr.fill]

end Go.Proofs.Ytmlbioapefgioaa.Va

/- Every operation that the evaluator takes. -/
namespace Go.Proofs.Ytmlbioapefgioaa.Va
open Go

variable {U : Nat → Type} {α : Type} {R : Type} {P : Program} {E : Env U}

theorem two_args {st : St U} {args : Array Operand} {x y : AV U} (h : st.gets args.toList = [x, y]) : ∃ p q, args = #[p, q] ∧ st.get p = x ∧ st.get q = y := by
 obtain ⟨l⟩ := args
 simp only [St.gets] at h
 match l, h with
 | [p, q], h =>
  simp at h
  exact ⟨p, q, rfl, h.1, h.2⟩
theorem two_types {ts : Array TypeId} {t u : TypeId} (h : ts.toList = [t, u]) : ts = #[t, u] := by
 obtain ⟨l⟩ := ts
 simp at h
 simp [h]

theorem opA_ok (hE : EnvOK P E) (hΓ : GamOK P E) {st : St U} {o : Oper} {K : KO U R} {r : R} (h : opA E st o K = some r) : StepK P E st o K r := by
  unfold opA at h
  split at h
  · rename_i x ho
    exact step_value h fun hr ht => ⟨_, by simp [execOp, ho], eval_rep hr x fun t h => ht t (tmps_mem (by simp [ho, Op.operands]) t h)⟩
  · rename_i x ho
    exact step_value h fun hr ht => ⟨_, by simp [execOp, ho], eval_rep hr x fun t h => ht t (tmps_mem (by simp [ho, Op.operands]) t h)⟩
  · rename_i c x y ho
    split at h
    · rename_i t hc
      split at h
      · refine step_value h fun hr ht => ⟨_, ?_, eval_rep hr x fun t h => ht t (tmps_mem (by simp [ho, Op.operands]) t h)⟩
        have := eval_rep hr c fun t h => ht t (tmps_mem (by simp [ho, Op.operands]) t h)
        rw [hc] at this
        have := rep_bool this
        simp [execOp, ho, this, asBool]
      · refine step_value h fun hr ht => ⟨_, ?_, eval_rep hr y fun t h => ht t (tmps_mem (by simp [ho, Op.operands]) t h)⟩
        have := eval_rep hr c fun t h => ht t (tmps_mem (by simp [ho, Op.operands]) t h)
        rw [hc] at this
        have := rep_bool this
        simp [execOp, ho, this, asBool]
    · cases h
  · rename_i t ho
    exact step_makes (xs := []) (allocA_ok hE h) (by simp) fun a w => by simp [execOp, ho]
  · rename_i t x ho
    split at h
    · rename_i cs hcs
      refine step_makes (xs := [x]) (newVarA_ok hE hcs h) (by simp [ho, Op.operands]) fun a w => ?_
      simp [execOp, ho]
    · cases h
  · rename_i t parts ho
    split at h
    · rename_i hd hp
      refine step_value h fun hr ht => ⟨.agg #[], ?_, .agg rfl (by simp)⟩
      have hp' : parts = #[] := by cases parts; simp_all
      have hb := empty_build hE hd
      simp [execOp, ho, hp', hb]
    have hb := buildA_ok hE h
    have e1 : (parts.toList.map fun (p : Nat × Operand) => (p.1, st.get p.2)).map (·.2) = (parts.toList.map (·.2)).map st.get := by simp
    have e2 : (parts.toList.map fun (p : Nat × Operand) => (p.1, st.get p.2)).map (·.1) = parts.toList.map (·.1) := by simp
    simp only [e1, e2] at hb
    refine step_makes hb (fun x hx => by simp [ho, Op.operands]; simpa using hx) fun a w => ?_
    have : ((parts.toList.map (·.1)).zip ((parts.toList.map (·.2)).map a.eval)).toArray = parts.map fun (p : Nat × Operand) => (p.1, a.eval p.2) := by
      apply Array.ext'
      simp [List.zip_map', List.map_map]
    simp only [this]
    simp [execOp, ho]
  · rename_i t len parts ho
    have hb := buildSliceA_ok hE h
    have e1 : (parts.toList.map fun (p : Nat × Operand) => (p.1, st.get p.2)).map (·.2) = (parts.toList.map (·.2)).map st.get := by simp
    have e2 : (parts.toList.map fun (p : Nat × Operand) => (p.1, st.get p.2)).map (·.1) = parts.toList.map (·.1) := by simp
    simp only [e1, e2] at hb
    refine step_makes hb (fun x hx => by simp [ho, Op.operands]; simpa using hx) fun a w => ?_
    have : ((parts.toList.map (·.1)).zip ((parts.toList.map (·.2)).map a.eval)).toArray = parts.map fun (p : Nat × Operand) => (p.1, a.eval p.2) := by
      apply Array.ext'
      simp [List.zip_map', List.map_map]
    simp only [this]
    simp [execOp, ho]
  · rename_i t x ho
    obtain ⟨v, rd, hk, hl⟩ := loadA_ok hE h
    exact step_looks (run := fun vx _ => Instr.loadAt t vx) (x := x) (y := x) ⟨v, rd, hk, fun hh hx _ hag => hl hh hx hag⟩ (by simp [ho, Op.operands]) (by simp [ho, Op.operands]) fun a w => by simp [execOp, ho]
  · rename_i t x y ho
    obtain ⟨ws, rd, hk, hids, hl⟩ := storeA_ok hE h
    refine ⟨_, ws, rd, hk, fun p hp => .inl (hids p hp), @fun X W0 β S a w next Q hr ht hag hnew hn => ?_⟩
    obtain ⟨w', h1, h2, h3⟩ := hl hr.h (eval_rep hr x fun t h => ht t (tmps_mem (by simp [ho, Op.operands]) t h)) (eval_rep hr y fun t h => ht t (tmps_mem (by simp [ho, Op.operands]) t h)) hag
    have : (execOp a.eval o).run P w = .ok .skip w' := by simp [execOp, ho, h1]
    rw [this]
    exact hn undef β w' h2 .und h3 fun _ h _ => h
  · rename_i x ho
    have key : ∀ {y : AV U}, st.get x = y → K y [] [] = some r → (∀ {cc : (T : Nat) → Cod U T} {w : World} {av : Nat → Prop} {β : Nat → Option BI} {v : Value}, RepA cc w av β y v → (∃ p, v = .pointer (some p)) ∨ ∃ g vs, v = .func (.func g) #[] vs) → StepK P E st o K r := by
      intro y hy hk hshape
      refine step_value hk fun hr ht => ?_
      have hrep := eval_rep hr x fun t h => ht t (tmps_mem (by simp [ho, Op.operands]) t h)
      rw [hy] at hrep
      rcases hshape hrep with ⟨p, hv⟩ | ⟨g, vs, hv⟩
      · exact ⟨_, by simp only [execOp, ho, hv]; rfl, hv ▸ hrep⟩
      · exact ⟨_, by simp only [execOp, ho, hv]; rfl, hv ▸ hrep⟩
    split at h
    · rename_i hx
      exact key hx h fun hr => by cases hr; exact .inl ⟨_, rfl⟩
    · rename_i hx
      exact key hx h fun hr => by cases hr; exact .inl ⟨_, rfl⟩
    · rename_i hx
      exact key hx h fun hr => by cases hr; exact .inl ⟨_, rfl⟩
    · rename_i hx
      exact key hx h fun hr => by cases hr; exact .inr ⟨_, _, rfl⟩
    · cases h
  · rename_i op t x y yt ho
    obtain ⟨v, hk, hl⟩ := binA_ok (P := P) hE h
    refine step_value hk fun hr ht => ?_
    obtain ⟨vv, h1, h2⟩ := hl x y (eval_rep hr x fun t h => ht t (tmps_mem (by simp [ho, Op.operands]) t h)) (eval_rep hr y fun t h => ht t (tmps_mem (by simp [ho, Op.operands]) t h))
    refine ⟨vv, ?_, h2⟩
    simp only [execOp, ho]
    rw [Sem.run_bind, h1]
    rfl
  · rename_i op t x ho
    obtain ⟨v, hk, hl⟩ := unA_ok (P := P) h
    refine step_value hk fun hr ht => ?_
    obtain ⟨vv, h1, h2⟩ := hl (eval_rep hr x fun t h => ht t (tmps_mem (by simp [ho, Op.operands]) t h))
    exact ⟨vv, by simp [execOp, ho, h1], h2⟩
  · rename_i src dst x ho
    exact step_makes (xs := [x]) (convertA_ok hE h) (by simp [ho, Op.operands]) fun a w => by simp [execOp, ho]
  · rename_i f first cap ho
    split at h
    case isFalse => cases h
    rename_i h0
    have hfirst : first = #[] := Array.eq_empty_of_size_eq_zero h0
    refine step_value h fun hr ht => ⟨_, by simp [execOp, ho, hfirst, Instr.makeFunc]; rfl, ?_⟩
    refine .clo (by simp [St.gets]) fun j x v hx hv => ?_
    exact evals_rep hr cap.toList (fun y hy t h => ht t (tmps_mem (by simp [ho, Op.operands]; exact .inr (by simpa using hy)) t h)) j x v hx (by simpa using hv)
  · rename_i t l c ho
    obtain ⟨v, ws, rd, hk, hrd, hids, hl⟩ := makeSliceA_ok (P := P) hE h
    refine ⟨v, ws, rd, hk, fun p hp => .inr (by rw [hids p hp]; exact Nat.le_refl _), @fun X W0 β S a w next Q hr ht hag hnew hn => ?_⟩
    obtain ⟨vv, w', β', h1, h2, h3, h4, h5⟩ := hl hr.h (eval_rep hr l fun t h => ht t (tmps_mem (by simp [ho, Op.operands]) t h)) (eval_rep hr c fun t h => ht t (tmps_mem (by simp [ho, Op.operands]) t h)) (fun ⟨p, hp, e⟩ => by
        have := hnew p hp (by omega)
        rwa [e] at this)
    have : (execOp a.eval o).run P w = .ok (.value vv) w' := by simp [execOp, ho, h1]
    rw [this]
    exact hn vv β' w' h2 h3 h4 h5
  · rename_i t ho
    exact step_makes (xs := []) (makeMapA_ok (P := P) (t := t) h) (by simp) fun a w => by simp [execOp, ho]
  · rename_i t m k vx ho
    obtain ⟨ws, rd, hk, hids, hl⟩ := mapUpdateA_ok (P := P) hE h
    refine ⟨_, ws, rd, hk, fun p hp => .inl (hids p hp), @fun X W0 β S a w next Q hr ht hag hnew hn => ?_⟩
    obtain ⟨w', h1, h2, h3⟩ := hl (a.eval vx) hr.h (eval_rep hr m fun t h => ht t (tmps_mem (by simp [ho, Op.operands]) t h)) (eval_rep hr k fun t h => ht t (tmps_mem (by simp [ho, Op.operands]) t h)) hag
    have : (execOp a.eval o).run P w = .ok .skip w' := by simp [execOp, ho, h1]
    rw [this]
    exact hn undef β w' h2 .und h3 fun _ h _ => h
  · rename_i t x lo hi mx ho
    unfold sliceO at h
    split at h
    · -- the first part of a row
      rename_i hv htr hlo hhi hmx
      obtain rfl : lo = none := by cases lo <;> simp_all
      obtain ⟨y, rfl, rfl⟩ : ∃ y, hi = some y ∧ hv = st.get y := by
        cases hi with
        | none => simp at hhi
        | some y => exact ⟨y, rfl, by simpa using hhi.symm⟩
      obtain rfl : mx = none := by cases mx <;> simp_all
      exact step_makes (xs := [x, y]) (cutA_ok hE h) (by simp [ho, Op.operands]) fun a w => by simp [execOp, ho]
    cases mx with
    | some m => simp [sliceA] at h
    | none =>
      obtain ⟨v, rd, hk, hl⟩ := sliceA_ok (P := P) hE h
      refine ⟨v, [], rd, hk, by simp, @fun X W0 β S a w next Q hr ht hag hnew hn => ?_⟩
      have opt : ∀ (y : Option Operand), (∀ z, y = some z → z ∈ o.op.operands) → OptRep E.cc w (avOf X β S.hp) β (y.map st.get) (y.map a.eval) := by
        intro y hy
        cases y with
        | none => exact ⟨fun _ h => by simp at h, fun _ => rfl⟩
        | some z =>
          refine ⟨fun q hq => ?_, fun h => by simp at h⟩
          simp at hq
          subst hq
          exact ⟨_, rfl, eval_rep hr z fun t h => ht t (tmps_mem (hy z rfl) t h)⟩
      obtain ⟨vv, h1, h2⟩ := hl hr.h (eval_rep hr x fun t h => ht t (tmps_mem (by simp [ho, Op.operands]) t h)) (opt lo fun z hz => by simp [ho, Op.operands, hz]) (opt hi fun z hz => by simp [ho, Op.operands, hz]) hag
      have : (execOp a.eval o).run P w = .ok (.value vv) w := by simp [execOp, ho, h1]
      rw [this]
      exact hn vv β w hr.h h2 Tr.refl fun _ h _ => h
  · rename_i t x f ho
    exact step_looks (fieldAddrA_ok hE h) (by simp [ho, Op.operands]) (by simp [ho, Op.operands]) fun a w => by simp [execOp, ho]
  · rename_i t x f ho
    exact step_looks (fieldA_ok hE h) (by simp [ho, Op.operands]) (by simp [ho, Op.operands]) fun a w => by simp [execOp, ho]
  · rename_i t x i ho
    exact step_looks (indexAddrA_ok hE h) (by simp [ho, Op.operands]) (by simp [ho, Op.operands]) fun a w => by simp [execOp, ho]
  · rename_i t x i ho
    exact step_looks (indexA_ok hE h) (by simp [ho, Op.operands]) (by simp [ho, Op.operands]) fun a w => by simp [execOp, ho]
  · rename_i t i ho
    split at h
    · rename_i xs hx
      split at h
      · rename_i y hy
        refine step_value h @fun X W0 β S a w hr ht => ?_
        have hrep := eval_rep hr t fun t h => ht t (tmps_mem (by simp [ho, Op.operands]) t h)
        rw [hx] at hrep
        generalize hv : a.eval t = v at hrep
        cases hrep with
        | @tup _ vs hl hvs =>
          have hlt : i < vs.size := by rw [hl]; exact (List.getElem?_eq_some_iff.1 hy).1
          refine ⟨vs[i], ?_, hvs i y _ hy (by simp [hlt])⟩
          simp [execOp, ho, hv, Instr.extract, hlt]
      · cases h
    · cases h
  · rename_i c ho
    split at h
    · -- a builtin
      rename_i b hb
      unfold builtinA at h
      split at h
      · rename_i t ts x xs hts hxs
        obtain ⟨v, rd, hk, hl⟩ := lenA_ok (P := P) hE h c.argTypes (by rw [← Array.getElem?_toList, hts]; rfl) o.type
        have hargs : ∃ y ys, c.args.toList = y :: ys ∧ st.get y = x := by
          cases hc : c.args.toList with
          | nil => simp [St.gets, hc] at hxs
          | cons y ys => simp [St.gets, hc] at hxs; exact ⟨y, ys, rfl, hxs.1⟩
        obtain ⟨y, ys, hy1, hy2⟩ := hargs
        refine ⟨v, [], rd, hk, by simp, @fun X W0 β S a w next Q hr ht hag hnew hn => ?_⟩
        have hrep := eval_rep hr y fun t h => ht t (tmps_mem (by simp [ho, Op.operands, Call.operands]; exact .inr (Array.mem_toList_iff.1 (by rw [hy1]; simp))) t h)
        rw [hy2] at hrep
        obtain ⟨vv, h1, h2⟩ := hl hr.h hrep hrep hag
        have hlen : (Builtin.len_ c.argTypes o.type (c.args.map a.eval)).run P w = .ok vv w := by
          rw [← h1]
          simp only [Builtin.len_]
          have e1 : (c.args.map a.eval)[0]? = some (a.eval y) := by rw [← Array.getElem?_toList, Array.toList_map, hy1]; rfl
          rw [e1]
          rfl
        have : (execOp a.eval o).run P w = .ok (.value vv) w := by
          simp [execOp, ho, resolve, hb, invoke, builtin, hlen]
        rw [this]
        exact hn vv β w hr.h h2 Tr.refl fun _ h _ => h
      · rename_i t ts x hts hxs
        obtain ⟨v, hk, hl⟩ := capA_ok (P := P) hE h
        have hargs : ∃ y, c.args.toList = [y] ∧ st.get y = x := by
          cases hc : c.args.toList with
          | nil => simp [St.gets, hc] at hxs
          | cons y ys =>
            simp [St.gets, hc] at hxs
            exact ⟨y, by rw [hxs.2], hxs.1⟩
        obtain ⟨y, hy1, hy2⟩ := hargs
        have hca : c.args = #[y] := by
          apply Array.ext'
          exact hy1
        refine step_value hk fun hr ht => ?_
        have hrep := eval_rep hr y fun t h => ht t (tmps_mem (by simp [ho, Op.operands, Call.operands, hca]) t h)
        rw [hy2] at hrep
        obtain ⟨vv, h1, h2⟩ := hl c.argTypes o.type (by rw [← Array.getElem?_toList, hts]; rfl) hrep
        exact ⟨vv, by simp [execOp, ho, resolve, hb, invoke, builtin, hca, h1], h2⟩
      · rename_i t tx x y hts hxs
        obtain ⟨p, q, hpq, e1, e2⟩ := two_args hxs
        have hta := two_types hts
        split at h
        · rename_i n
          exact step_makes (xs := [p, q]) (e1 ▸ e2 ▸ appendZ_ok (ty := o.type) hE rfl h) (by simp [ho, Op.operands, Call.operands, hpq]) fun a w => by
            simp [execOp, ho, resolve, hb, invoke, builtin, hpq, hta]
        subst e1 e2
        exact step_makes (xs := [p, q]) (appendA_ok (ty := o.type) hE h) (by simp [ho, Op.operands, Call.operands, hpq]) fun a w => by
          simp [execOp, ho, resolve, hb, invoke, builtin, hpq, hta]
      · rename_i t tx x y hts hxs
        obtain ⟨p, q, hpq, e1, e2⟩ := two_args hxs
        have hta := two_types hts
        subst e1 e2
        exact step_makes (xs := [p, q]) (copyA_ok (ty := o.type) hE h) (by simp [ho, Op.operands, Call.operands, hpq]) fun a w => by
          simp [execOp, ho, resolve, hb, invoke, builtin, hpq, hta]
      · rename_i x y hxs
        obtain ⟨p, q, hpq, e1, e2⟩ := two_args hxs
        subst e1 e2
        obtain ⟨v, hk, hl⟩ := minA_ok (P := P) (E := E) h
        refine step_value hk fun hr ht => ?_
        obtain ⟨vv, h1, h2⟩ := hl c.argTypes o.type (eval_rep hr p fun t h => ht t (tmps_mem (by simp [ho, Op.operands, Call.operands, hpq]) t h)) (eval_rep hr q fun t h => ht t (tmps_mem (by simp [ho, Op.operands, Call.operands, hpq]) t h))
        exact ⟨vv, by simp [execOp, ho, resolve, hb, invoke, builtin, hpq, h1], h2⟩
      · rename_i x y hxs
        obtain ⟨p, q, hpq, e1, e2⟩ := two_args hxs
        subst e1 e2
        obtain ⟨v, hk, hl⟩ := maxA_ok (P := P) (E := E) h
        refine step_value hk fun hr ht => ?_
        obtain ⟨vv, h1, h2⟩ := hl c.argTypes o.type (eval_rep hr p fun t h => ht t (tmps_mem (by simp [ho, Op.operands, Call.operands, hpq]) t h)) (eval_rep hr q fun t h => ht t (tmps_mem (by simp [ho, Op.operands, Call.operands, hpq]) t h))
        exact ⟨vv, by simp [execOp, ho, resolve, hb, invoke, builtin, hpq, h1], h2⟩
      · cases h
    · -- a function's value
      rename_i f hf
      split at h
      · rename_i g cap hg
        obtain ⟨v, ws, rd, hk, hids, hl⟩ := callF_ok (fun A hA => hΓ.sound g A hA) (fun hr A hA => hΓ.keep g hr A hA) h
        have hfn : FnOK P g := by
          unfold callF callG at h
          split at h
          · cases h
          · rename_i A hA; exact hΓ.fn g A hA
        obtain ⟨fn, hfn1, hfn2, hfn3⟩ := hfn.ex
        have hfn2' : ¬ fn.name = "runtime.NumGoroutine" := by simpa using hfn2
        have hfn3' : ¬ fn.body = none := by cases hb : fn.body <;> simp_all
        refine ⟨v, ws, rd, hk, hids, @fun X W0 β S a w next Q hr ht hag hnew hn => ?_⟩
        have hrep := eval_rep hr f fun t h => ht t (tmps_mem (by simp [ho, Op.operands, Call.operands, hf]) t h)
        rw [hg] at hrep
        generalize hv : a.eval f = vf at hrep
        cases hrep with
        | @clo _ _ vs hl' hvs =>
          have hrun : (execOp a.eval o).run P w = .ok (.enter g (c.args.map a.eval ++ vs)) w := by
            simp [execOp, ho, resolve, hf, hv, Deferred.ofValue, invoke, callFunc, hfn1, hfn2', hfn3']
          rw [hrun]
          have hargs := evals_rep hr c.args.toList (fun y hy t h => ht t (tmps_mem (by simp [ho, Op.operands, Call.operands, hf]; exact .inr (by simpa using hy)) t h))
          refine (hl hr.h (vals := c.args.map a.eval ++ vs) (by simp [St.gets, hl']) (fun j x u hx hu => ?_) hag hnew).mono ?_
          · by_cases hj : j < c.args.size
            · rw [List.getElem?_append_left (by simpa [St.gets] using hj)] at hx
              rw [Array.getElem?_append_left (by simpa using hj)] at hu
              exact hargs j x u hx (by simpa using hu)
            · rw [List.getElem?_append_right (by simpa [St.gets] using hj)] at hx
              rw [Array.getElem?_append_right (by simpa using hj)] at hu
              exact hvs (j - c.args.size) x u (by simpa [St.gets] using hx) (by simpa using hu)
          · rintro e w' ⟨vv, β', rfl, h1, h2, h3, h4⟩
            exact hn vv β' w' h1 h2 h3 h4
      · cases h
    · cases h
  · cases h

end Go.Proofs.Ytmlbioapefgioaa.Va

/- Operations of a region, in any order that their edges and footprints allow. -/
namespace Go.Proofs.Ytmlbioapefgioaa.Va
open Go

variable {U : Nat → Type} {R : Type} {P : Program} {E : Env U}

def asOf (st : St U) : AS U := ⟨fun t => st.tm.getD t .bot, st.hp.get⟩

theorem set1_get (h : Hp U) (b : Nat) (x : Blk U) (b' : Nat) : (h.set1 b x).get b' = if b' = b then x else h.get b' := by
 unfold Hp.set1
 split
 ·rename_i hlt
  simp only [Hp.get, List.getD, List.getElem?_set]
  by_cases e : b = b'
  ·subst e; simp [hlt]
  ·simp [e, Ne.symm e]
 ·rename_i hge
  simp only [Hp.get, List.getD]
  by_cases e : b' = b
  ·subst e
   rw [if_pos rfl, List.getElem?_append_right (by omega), List.getElem?_append_right (by simp)]
   simp
  ·rw [if_neg e]
   by_cases h1 : b' < h.length
   ·rw [List.getElem?_append_left h1]
   ·rw [List.getElem?_append_right (by omega), List.getElem?_eq_none (Nat.le_of_not_lt h1)]
    by_cases h2 : b' < b
    ·rw [List.getElem?_append_left (by simp; omega), List.getElem?_replicate, if_pos (by omega)]
     rfl
    ·rw [List.getElem?_eq_none (by simp; omega)]

theorem set1_len (h : Hp U) (b : Nat) (x : Blk U) : h.length ≤ (h.set1 b x).length ∧ b < (h.set1 b x).length := by
 unfold Hp.set1
 split
 ·simp; assumption
 ·simp; omega

theorem writes_get : ∀ (ws : List (Nat × Blk U)) (h : Hp U), (h.writes ws).get = upds h.get ws
 | [], h => rfl
 | (b, x) :: ws, h => by
  rw [Hp.writes, writes_get ws, upds]
  congr 1
  funext b'
  rw [set1_get]
  rfl
theorem writes_len : ∀ (ws : List (Nat × Blk U)) (h : Hp U), h.length ≤ (h.writes ws).length ∧ ∀ p ∈ ws, p.1 < (h.writes ws).length
 | [], h => ⟨Nat.le_refl _, by simp⟩
 | (b, x) :: ws, h => by
  obtain ⟨h1, h2⟩ := writes_len ws (h.set1 b x)
  obtain ⟨h3, h4⟩ := set1_len h b x
  refine ⟨Nat.le_trans h3 h1, fun p hp => ?_⟩
  rcases List.mem_cons.1 hp with rfl | hp
  ·exact Nat.lt_of_lt_of_le h4 h1
  ·exact h2 p hp

theorem upds_mem {g g' : Nat → Blk U} {b : Nat} : ∀ {ws : List (Nat × Blk U)}, (∃ p ∈ ws, p.1 = b) → upds g ws b = upds g' ws b := by
 intro ws
 induction ws generalizing g g' with
 | nil => rintro ⟨p, h, _⟩; cases h
 | cons q ws ih =>
  rintro ⟨p, hp, rfl⟩
  obtain ⟨c, x⟩ := q
  simp only [upds]
  by_cases h : ∃ q ∈ ws, q.1 = p.1
  ·exact ih h
  ·have hne : ∀ q ∈ ws, q.1 ≠ p.1 := fun q hq e => h ⟨q, hq, e⟩
   rw [upds_ne hne, upds_ne hne]
   rcases List.mem_cons.1 hp with rfl | hp
   ·simp [upd1]
   ·exact absurd rfl (hne p hp)

structure Did (U : Nat → Type) where
 v : AV U
 ws : List (Nat × Blk U)
 rd : List Nat

def AS.upd (S : AS U) (N : Nat) (d : Option Tmp) (e : Did U) : AS U :=
 ⟨fun t => if d = some t ∧ t < N then e.v else S.tm t, upds S.hp e.ws⟩

def fold (N : Nat) (S0 : AS U) (dst : Nat → Option Tmp) (eff : Nat → Did U) (D : Nat → Bool) : Nat → AS U
 | 0 => S0
 | k + 1 => if D k then (fold N S0 dst eff D k).upd N (dst k) (eff k) else fold N S0 dst eff D k

section
variable {N : Nat} {S0 : AS U} {dst : Nat → Option Tmp} {eff : Nat → Did U} {D D' : Nat → Bool}

theorem fold_tm {t : Tmp} : ∀ {k : Nat}, (∀ j, j < k → D j ≠ D' j → dst j ≠ some t) → (fold N S0 dst eff D k).tm t = (fold N S0 dst eff D' k).tm t := by
 intro k
 induction k with
 | zero => intro _; rfl
 | succ k ih =>
  intro h
  have ih' := ih fun j hj => h j (by omega)
  simp only [fold]
  by_cases e : D k = D' k
  ·rw [e]
   cases D' k <;> simp [AS.upd, ih']
  ·have hne := h k (by omega) e
   cases hD : D k <;> cases hD' : D' k <;> simp_all [AS.upd]

theorem fold_hp {b : Nat} : ∀ {k : Nat}, (∀ j, j < k → D j ≠ D' j → ∀ p ∈ (eff j).ws, p.1 ≠ b) → (fold N S0 dst eff D k).hp b = (fold N S0 dst eff D' k).hp b := by
 intro k
 induction k with
 | zero => intro _; rfl
 | succ k ih =>
  intro h
  have ih' := ih fun j hj => h j (by omega)
  simp only [fold]
  have eqw : ∀ {g g' : Nat → Blk U}, g b = g' b → upds g (eff k).ws b = upds g' (eff k).ws b := by
   intro g g' hg
   by_cases hm : ∃ p ∈ (eff k).ws, p.1 = b
   ·exact upds_mem hm
   ·have hne : ∀ p ∈ (eff k).ws, p.1 ≠ b := fun p hp e => hm ⟨p, hp, e⟩
    rw [upds_ne hne, upds_ne hne, hg]
  by_cases e : D k = D' k
  ·rw [e]
   cases D' k
   ·simpa using ih'
   ·simp only [if_true, AS.upd]
    exact eqw ih'
  ·have hne := h k (by omega) e
   cases hD : D k <;> cases hD' : D' k
   ·rw [hD, hD'] at e; exact absurd rfl e
   ·simp only [Bool.false_eq_true, if_false, if_true, AS.upd]
    rw [upds_ne hne, ih']
   ·simp only [Bool.false_eq_true, if_false, if_true, AS.upd]
    rw [upds_ne hne, ih']
   ·rw [hD, hD'] at e; exact absurd rfl e

theorem fold_insert {i n : Nat} (hi : i < n) (hD : D i = false) (hD' : ∀ j, D' j = (D j || j == i)) (ht : ∀ j, i < j → j < n → D j = true → dst i ≠ none → dst j ≠ dst i)
  (hw : ∀ j, i < j → j < n → D j = true → ∀ p ∈ (eff j).ws, ∀ q ∈ (eff i).ws, p.1 ≠ q.1) :
  fold N S0 dst eff D' n = (fold N S0 dst eff D n).upd N (dst i) (eff i) := by
 have hsame : ∀ j, j ≠ i → D' j = D j := fun j hj => by rw [hD']; simp [hj]
 have hDi : D' i = true := by rw [hD']; simp
 -- the slot
 have h1 : ∀ t, dst i = some t → t < N → ∀ k, i < k → k ≤ n → (fold N S0 dst eff D' k).tm t = (eff i).v := by
  intro t hdt htN k
  induction k with
  | zero => intro h; omega
  | succ k ih =>
   intro hk hkn
   simp only [fold]
   by_cases e : k = i
   ·subst e
    rw [hDi]
    simp [AS.upd, hdt, htN]
   ·have ihk := ih (by omega) (by omega)
    cases hDk : D' k
    ·simpa using ihk
    ·have : dst k ≠ some t := by
      rw [← hdt]
      exact ht k (by omega) (by omega) (by rw [← hsame k e]; exact hDk) (by rw [hdt]; simp)
     simp [AS.upd, this, ihk]
 have h2 : ∀ b, (∃ q ∈ (eff i).ws, q.1 = b) → ∀ g, ∀ k, i < k → k ≤ n → (fold N S0 dst eff D' k).hp b = upds g (eff i).ws b := by
  intro b hb g k
  induction k with
  | zero => intro h; omega
  | succ k ih =>
   intro hk hkn
   simp only [fold]
   by_cases e : k = i
   ·subst e
    rw [hDi]
    simp only [if_true, AS.upd]
    exact upds_mem hb
   ·have ihk := ih (by omega) (by omega)
    cases hDk : D' k
    ·simpa using ihk
    ·simp only [if_true, AS.upd]
     rw [upds_ne, ihk]
     obtain ⟨q, hq, rfl⟩ := hb
     exact fun p hp => hw k (by omega) (by omega) (by rw [← hsame k e]; exact hDk) p hp q hq
 have e1 : (fold N S0 dst eff D' n).tm = ((fold N S0 dst eff D n).upd N (dst i) (eff i)).tm := by
  funext t
  by_cases hc : dst i = some t ∧ t < N
  ·simp only [AS.upd, hc, and_self, if_true]
   exact h1 t hc.1 hc.2 n hi (Nat.le_refl _)
  ·simp only [AS.upd, hc, if_false]
   by_cases hdt : dst i = some t
   ·-- beyond the slots: never written
    have hN : ¬ t < N := fun h => hc ⟨hdt, h⟩
    have : ∀ (F : Nat → Bool) (k : Nat), (fold N S0 dst eff F k).tm t = S0.tm t := by
     intro F k
     induction k with
     | zero => rfl
     | succ k ih =>
      simp only [fold]
      cases F k <;> simp [AS.upd, hN, ih]
    rw [this, this]
   ·exact fold_tm fun j hj hne => by
     by_cases e : j = i
     ·subst e; exact hdt
     ·exact absurd (hsame j e) hne
 have e2 : (fold N S0 dst eff D' n).hp = ((fold N S0 dst eff D n).upd N (dst i) (eff i)).hp := by
  funext b
  by_cases hb : ∃ q ∈ (eff i).ws, q.1 = b
  ·simp only [AS.upd]
   exact h2 b hb _ n hi (Nat.le_refl _)
  ·have hne : ∀ p ∈ (eff i).ws, p.1 ≠ b := fun p hp e => hb ⟨p, hp, e⟩
   simp only [AS.upd]
   rw [upds_ne hne]
   refine fold_hp fun j hj hneq => ?_
   by_cases e : j = i
   ·subst e; exact hne
   ·exact absurd (hsame j e) hneq
 calc fold N S0 dst eff D' n = ⟨(fold N S0 dst eff D' n).tm, (fold N S0 dst eff D' n).hp⟩ := rfl
  _ = _ := by rw [e1, e2]
end

end Go.Proofs.Ytmlbioapefgioaa.Va

/- A region: its operations in the text's order give effects; done in any order that edges and footprints allow, they come to the same. -/
namespace Go.Proofs.Ytmlbioapefgioaa.Va
open Go

variable {U : Nat → Type} {R : Type} {P : Program} {E : Env U}

def GYes (all : List Oper) (o : Oper) (tm : Nat → AV U) : Prop :=
 o.guard = none ∨ ∃ j want d, o.guard = some (j, want) ∧ (all[j]?).bind (·.dst) = some d ∧ tm d = .im (.bool want)
def GNo (all : List Oper) (o : Oper) (tm : Nat → AV U) : Prop :=
 ∃ j want d, o.guard = some (j, want) ∧ (all[j]?).bind (·.dst) = some d ∧ (tm d = .im (.bool (!want)) ∨ tm d = .und)

inductive Trace (P : Program) (E : Env U) (all : List Oper) : List Oper → St U → List (Did U) → St U → Prop
 | nil {st} : Trace P E all [] st [] st
 | run {o rest st v ws rd es st'} (hg : GYes all o fun t => st.tm.getD t .bot) (hid : ∀ p ∈ ws, p.1 ∈ rd ∨ st.hp.length ≤ p.1)
   (hnd : ∀ c, o.op ≠ .defer c) (hs : Step P E st o v ws rd) (h : Trace P E all rest (st.app o.dst v ws) es st') : Trace P E all (o :: rest) st (⟨v, ws, rd⟩ :: es) st'
 | skip {o rest st es st'} (hg : GNo all o fun t => st.tm.getD t .bot) (h : Trace P E all rest (st.put o.dst .und) es st') : Trace P E all (o :: rest) st (⟨.und, [], []⟩ :: es) st'

theorem splitB_eq (g : Bool) (v : AV U) (K : AV U → Option R) : splitB g v K = K v := by
 unfold splitB
 split
 ·split <;> rfl
 ·rfl

theorem opA_nodefer {st : St U} {o : Oper} {K : KO U R} {r : R} (h : opA E st o K = some r) : ∀ c, o.op ≠ .defer c := by
 intro c hc
 unfold opA at h
 rw [hc] at h
 cases h

theorem opsA_trace (hE : EnvOK P E) (hΓ : GamOK P E) {all : List Oper} : ∀ {rest : List Oper} {st : St U} {fs : List (List Nat × List Nat)} {K : St U → List (List Nat × List Nat) → Option R} {r : R},
  opsA E all rest st fs K = some r → ∃ es st', Trace P E all rest st es st' ∧ K st' (fs ++ es.map fun e => (e.rd, e.ws.map (·.1))) = some r := by
 intro rest
 induction rest with
 | nil => intro st fs K r h; exact ⟨[], st, .nil, by simpa [opsA] using h⟩
 | cons o rest ih =>
  intro st fs K r h
  have run (hg : GYes all o fun t => st.tm.getD t .bot) (h : opA E st o (fun v ws rd => opsA E all rest (st.app o.dst v ws) (fs ++ [(rd, ws.map (·.1))]) K) = some r) :
    ∃ es st', Trace P E all (o :: rest) st es st' ∧ K st' (fs ++ es.map fun e => (e.rd, e.ws.map (·.1))) = some r := by
   obtain ⟨v, ws, rd, hk, hid, hs⟩ := opA_ok hE hΓ h
   obtain ⟨es, st', ht, hr⟩ := ih hk
   exact ⟨_, st', .run hg hid (opA_nodefer h) hs ht, by simpa using hr⟩
  have skip (hg : GNo all o fun t => st.tm.getD t .bot) (h : opsA E all rest (st.put o.dst .und) (fs ++ [([], [])]) K = some r) :
    ∃ es st', Trace P E all (o :: rest) st es st' ∧ K st' (fs ++ es.map fun e => (e.rd, e.ws.map (·.1))) = some r := by
   obtain ⟨es, st', ht, hr⟩ := ih h
   exact ⟨_, st', .skip hg ht, by simpa using hr⟩
  rw [opsA] at h
  simp only [splitB_eq] at h
  split at h
  ·rename_i hg
   exact run (Or.inl hg) h
  ·rename_i j want hg
   split at h
   ·cases h
   ·rename_i d hd
    split at h
    ·rename_i t ht
     split at h
     ·exact run (Or.inr ⟨j, _, d, hg, hd, ht⟩) h
     ·exact run (Or.inr ⟨j, _, d, hg, hd, ht⟩) h
     ·exact skip ⟨j, _, d, hg, hd, Or.inl ht⟩ h
     ·exact skip ⟨j, _, d, hg, hd, Or.inl ht⟩ h
    ·rename_i ht
     exact skip ⟨j, _, d, hg, hd, Or.inr ht⟩ h
    ·cases h

def dstOf (all : List Oper) (i : Nat) : Option Tmp := (all[i]?).bind (·.dst)

theorem put_len (st : St U) (d : Option Tmp) (v : AV U) : (st.put d v).tm.length = st.tm.length := by
 cases d <;> simp [St.put]
theorem put_hp (st : St U) (d : Option Tmp) (v : AV U) : (st.put d v).hp = st.hp := by
 cases d <;> rfl
theorem app_len (st : St U) (d : Option Tmp) (v : AV U) (ws : List (Nat × Blk U)) : (st.app d v ws).tm.length = st.tm.length := put_len st d v

theorem put_tm (st : St U) (d : Option Tmp) (v : AV U) (t : Nat) : (st.put d v).tm.getD t .bot = if d = some t ∧ t < st.tm.length then v else st.tm.getD t .bot := by
 cases d with
 | none => simp [St.put]
 | some d =>
  simp only [St.put, List.getD, List.getElem?_set, Option.some.injEq]
  by_cases e : d = t
  ·subst e
   by_cases h : d < st.tm.length
   ·simp [h]
   ·simp [h]
  ·simp [e]

theorem asOf_app (st : St U) (d : Option Tmp) (e : Did U) : asOf (st.app d e.v e.ws) = (asOf st).upd st.tm.length d e := by
 simp only [asOf, AS.upd, AS.mk.injEq]
 refine ⟨?_, ?_⟩
 ·funext t
  exact put_tm st d e.v t
 ·show (Hp.writes st.hp e.ws).get = _
  rw [writes_get]
theorem asOf_put (st : St U) (d : Option Tmp) (v : AV U) : asOf (st.put d v) = (asOf st).upd st.tm.length d ⟨v, [], []⟩ := by
 simp only [asOf, AS.upd, AS.mk.injEq]
 refine ⟨?_, ?_⟩
 ·funext t
  exact put_tm st d v t
 ·rw [put_hp]; rfl

def At (P : Program) (E : Env U) (all : List Oper) (N : Nat) (S0 : AS U) (h0 : Nat) (eff : Nat → Did U) (i : Nat) (o : Oper) : Prop :=
 ∃ st : St U, asOf st = fold N S0 (dstOf all) eff (fun _ => true) i ∧ h0 ≤ st.hp.length ∧ (∀ j, j < i → ∀ p ∈ (eff j).ws, p.1 < st.hp.length) ∧
  (∀ p ∈ (eff i).ws, p.1 ∈ (eff i).rd ∨ st.hp.length ≤ p.1) ∧
  ((GYes all o (fun t => st.tm.getD t .bot) ∧ (∀ c, o.op ≠ .defer c) ∧ Step P E st o (eff i).v (eff i).ws (eff i).rd) ∨ (GNo all o (fun t => st.tm.getD t .bot) ∧ eff i = ⟨.und, [], []⟩))

theorem Trace.at {all : List Oper} {N : Nat} {S0 : AS U} {h0 : Nat} {eff : Nat → Did U} : ∀ {rest : List Oper} {st st' : St U} {es : List (Did U)}, Trace P E all rest st es st' →
  ∀ (pre : List Oper), all = pre ++ rest → st.tm.length = N → asOf st = fold N S0 (dstOf all) eff (fun _ => true) pre.length → h0 ≤ st.hp.length →
  (∀ j, j < pre.length → ∀ p ∈ (eff j).ws, p.1 < st.hp.length) → (∀ m e, es[m]? = some e → eff (pre.length + m) = e) →
  (∀ i o, pre.length ≤ i → all[i]? = some o → At P E all N S0 h0 eff i o) ∧ st'.tm.length = N ∧ asOf st' = fold N S0 (dstOf all) eff (fun _ => true) all.length ∧ h0 ≤ st'.hp.length ∧
  (∀ j, j < all.length → ∀ p ∈ (eff j).ws, p.1 < st'.hp.length) := by
 intro rest st st' es h
 induction h with
 | nil =>
  intro pre hall hN has hh hw he
  simp only [List.append_nil] at hall
  subst hall
  exact ⟨fun i o hi ho => absurd ho (by rw [List.getElem?_eq_none hi]; simp), hN, has, hh, hw⟩
 | @run o rest st v ws rd es st' hg hid hnd hs ht ih =>
  intro pre hall hN has hh hw he
  have e0 : eff pre.length = ⟨v, ws, rd⟩ := he 0 _ rfl
  have hd : dstOf all pre.length = o.dst := by simp [dstOf, hall]
  obtain ⟨l1, l2⟩ := writes_len ws st.hp
  have hlen : (st.app o.dst v ws).hp.length = (st.hp.writes ws).length := rfl
  obtain ⟨g1, g2⟩ := ih (pre ++ [o]) (by rw [hall]; simp) (by rw [app_len]; exact hN)
   (by
    rw [List.length_append, List.length_singleton, fold]
    simp only [if_true]
    rw [← has, hd, e0, ← hN]
    exact asOf_app st o.dst ⟨v, ws, rd⟩)
   (by rw [hlen]; omega)
   (fun j hj p hp => by
    rw [hlen]
    rw [List.length_append, List.length_singleton] at hj
    by_cases e : j = pre.length
    ·subst e
     rw [e0] at hp
     exact l2 p hp
    ·exact Nat.lt_of_lt_of_le (hw j (by omega) p hp) l1)
   (fun m e hm => by
    rw [List.length_append, List.length_singleton, Nat.add_assoc, Nat.add_comm 1 m]
    exact he (m + 1) e (by simpa using hm))
  refine ⟨fun i o' hi ho => ?_, g2⟩
  by_cases e : i = pre.length
  ·subst e
   have : o' = o := by
    rw [hall] at ho
    simpa using ho.symm
   subst this
   refine ⟨st, has, hh, hw, ?_, Or.inl ⟨hg, hnd, ?_⟩⟩
   ·rw [e0]; exact hid
   ·rw [e0]; exact hs
  ·exact g1 i o' (by simp; omega) ho
 | @skip o rest st es st' hg ht ih =>
  intro pre hall hN has hh hw he
  have e0 : eff pre.length = ⟨.und, [], []⟩ := he 0 _ rfl
  have hd : dstOf all pre.length = o.dst := by simp [dstOf, hall]
  obtain ⟨g1, g2⟩ := ih (pre ++ [o]) (by rw [hall]; simp) (by rw [put_len]; exact hN)
   (by
    rw [List.length_append, List.length_singleton, fold]
    simp only [if_true]
    rw [← has, hd, e0, ← hN]
    exact asOf_put st o.dst .und)
   (by rw [put_hp]; exact hh)
   (fun j hj p hp => by
    rw [put_hp]
    rw [List.length_append, List.length_singleton] at hj
    by_cases e : j = pre.length
    ·subst e
     rw [e0] at hp
     cases hp
    ·exact hw j (by omega) p hp)
   (fun m e hm => by
    rw [List.length_append, List.length_singleton, Nat.add_assoc, Nat.add_comm 1 m]
    exact he (m + 1) e (by simpa using hm))
  refine ⟨fun i o' hi ho => ?_, g2⟩
  by_cases e : i = pre.length
  ·subst e
   have : o' = o := by
    rw [hall] at ho
    simpa using ho.symm
   subst this
   refine ⟨st, has, hh, hw, ?_, Or.inr ⟨hg, e0⟩⟩
   rw [e0]; simp
  ·exact g1 i o' (by simp; omega) ho

end Go.Proofs.Ytmlbioapefgioaa.Va

/- One operation of a region, when others before or behind it may be done or not. -/
namespace Go.Proofs.Ytmlbioapefgioaa.Va
open Go

variable {U : Nat → Type} {R : Type} {P : Program} {E : Env U}

theorem calls_in {ro : Option Nat} {n : Nat} {f : FuncId} {args : Array Value} {w : World} {Q : Ending → World → Prop} (h : Calls P f args w Q) : CallsIn (FR ro) n P f args w Q :=
 show CallsIn Fence.wide n P f args w Q from callsIn_wide.2 h
theorem in_calls {n : Nat} {f : FuncId} {args : Array Value} {w : World} {Q : Ending → World → Prop} (h : CallsIn (FR none) n P f args w Q) : Calls P f args w Q :=
 callsIn_wide.1 (show CallsIn Fence.wide n P f args w Q from h)
theorem rows_in {ro : Option Nat} {n : Nat} {row : String} {args : Array Value} {w : World} {Q : Value → World → Prop} (h : Rows P row args w Q) : RowsIn (FR ro) n P row args w Q :=
 fun c cs _ => let ⟨v, w', h1, h2⟩ := h c cs; ⟨v, w', h1, show StepsIn (Machine.fenced P Fence.wide) P _ _ from stepsIn_wide.2 h2⟩
theorem upon_in {ro : Option Nat} {n : Nat} {o : Oper} {a : Act} {next : Act → World → Prop} {Q : Exit → Act → World → Prop} {r : Result Next} (h : o.upon P a next Q r) : o.uponIn (FR ro) n P a next Q r := by
 cases r with
 | ok x w' =>
  cases x with
  | enter f args => exact ⟨(fun h => nomatch h), calls_in (Calls.mono h fun e w'' he => by cases e <;> exact he)⟩
  | row row args => exact ⟨(fun h => nomatch h), rows_in h⟩
  | round => exact h.elim
  | _ => exact h
 | halt e w' => cases e <;> first | exact h | exact h.elim

theorem fold_congr {N : Nat} {S0 : AS U} {dst : Nat → Option Tmp} {eff : Nat → Did U} {D D' : Nat → Bool} : ∀ {k : Nat}, (∀ j, j < k → D j = D' j) → fold N S0 dst eff D k = fold N S0 dst eff D' k
 | 0, _ => rfl
 | k + 1, h => by
  rw [fold, fold, fold_congr (fun j hj => h j (by omega)), h k (by omega)]

theorem fold_low {N : Nat} {S0 : AS U} {dst : Nat → Option Tmp} {eff : Nat → Did U} {i : Nat} : ∀ {n : Nat}, i ≤ n → fold N S0 dst eff (fun j => decide (j < i)) n = fold N S0 dst eff (fun _ => true) i := by
  intro n
  induction n with
  | zero => intro h; have e : i = 0 := by omega
            subst e; rfl
  | succ n ih =>
    intro h
    by_cases e : i = n + 1
    · subst e
      exact fold_congr fun j hj => by simp; omega
    · rw [fold, if_neg (by simp; omega)]
      exact ih (by omega)

theorem fold_none {N : Nat} {S0 : AS U} {dst : Nat → Option Tmp} {eff : Nat → Did U} {D : Nat → Bool} : ∀ {n : Nat}, (∀ j, j < n → D j = false) → fold N S0 dst eff D n = S0
 | 0, _ => rfl
 | n + 1, h => by rw [fold, h n (by omega)]; exact fold_none fun j hj => h j (by omega)

structure Apart (all : List Oper) (eff : Nat → Did U) (i j : Nat) (a b : Oper) : Prop where
 ww : ∀ p ∈ (eff i).ws, ∀ q ∈ (eff j).ws, p.1 ≠ q.1
 wr : ∀ p ∈ (eff i).ws, p.1 ∉ (eff j).rd
 rw : ∀ p ∈ (eff j).ws, p.1 ∉ (eff i).rd
 dd : ∀ d, a.dst = some d → b.dst ≠ some d
 dr : ∀ d, a.dst = some d → d ∉ tmReads all b
 rd : ∀ d, b.dst = some d → d ∉ tmReads all a

def Inv (E : Env U) (all : List Oper) (X W0 : Nat → Prop) (N : Nat) (S0 : AS U) (β0 : Nat → Option BI) (w0 : World) (eff : Nat → Did U) (D : Nat → Bool) (a : Act) (w : World) : Prop :=
 a.tmps.size = N ∧ ∃ β, Rel E.cc X W0 β (fold N S0 (dstOf all) eff D all.length) a w ∧ Tr X W0 β0 S0.hp w0 β (fold N S0 (dstOf all) eff D all.length).hp w ∧
  ∀ b, β b ≠ none → β0 b ≠ none ∨ ∃ j, j < all.length ∧ D j = true ∧ ∃ p ∈ (eff j).ws, p.1 = b

theorem put_getD (a : Act) (d : Option Tmp) (v : Value) (t : Nat) : (a.put d v).tmps.getD t undef = if d = some t ∧ t < a.tmps.size then v else a.tmps.getD t undef := by
 cases d with
 | none => simp [Act.put]
 | some d =>
  simp only [Act.put, Array.getD_eq_getD_getElem?, Array.getElem?_setIfInBounds, Option.some.injEq]
  by_cases e : d = t
  ·subst e
   by_cases h : d < a.tmps.size
   ·simp [h]
   ·simp [h]
  ·simp [e]
theorem put_size (a : Act) (d : Option Tmp) (v : Value) : (a.put d v).tmps.size = a.tmps.size := by cases d <;> simp [Act.put]
theorem put_defers (a : Act) (d : Option Tmp) (v : Value) : (a.put d v).defers = a.defers := by cases d <;> rfl

section
variable {all : List Oper} {X W0 : Nat → Prop} {N : Nat} {S0 : AS U} {β0 : Nat → Option BI} {w0 : World} {eff : Nat → Did U} {h0 : Nat}

theorem inv_step {ro : Option Nat} {i : Nat} {o : Oper} (hAt : At P E all N S0 h0 eff i o) (hi : all[i]? = some o) (hβ0 : ∀ b, h0 ≤ b → β0 b = none) {D : Nat → Bool} (hDi : D i = false)
  (hsafe : ∀ j b, all[j]? = some b → (D j = true → i < j → Apart all eff i j o b) ∧ (D j = false → j < i → Apart all eff j i b o))
  {Q : Exit → Act → World → Prop} {K : Act → World → Prop} {a : Act} {w : World} (hI : Inv E all X W0 N S0 β0 w0 eff D a w)
  (hK : ∀ a' w', Inv E all X W0 N S0 β0 w0 eff (fun j => D j || j == i) a' w' → K a' w') : wpOpIn (FR ro) 0 P all.toArray Q i K a w := by
 have hin : i < all.length := by
  rcases Nat.lt_or_ge i all.length with h | h
  ·exact h
  ·rw [List.getElem?_eq_none h] at hi; cases hi
 have hjn : ∀ j, j < all.length → ∃ b, all[j]? = some b := fun j h => ⟨_, List.getElem?_eq_getElem h⟩
 have hdst : ∀ j b, all[j]? = some b → dstOf all j = b.dst := fun j b h => by simp [dstOf, h]
 obtain ⟨st, has, hh, hlow, hid, hcase⟩ := hAt
 obtain ⟨hN, β, hr, htr, hdom⟩ := hI
 have hfl : fold N S0 (dstOf all) eff (fun j => decide (j < i)) all.length = asOf st := by rw [fold_low (by omega), has]
 -- what it looks at stands as in the text's order
 have htm : ∀ t ∈ tmReads all o, (fold N S0 (dstOf all) eff D all.length).tm t = st.tm.getD t .bot := by
  intro t ht
  have : (fold N S0 (dstOf all) eff D all.length).tm t = (fold N S0 (dstOf all) eff (fun j => decide (j < i)) all.length).tm t := by
   refine fold_tm fun j hj hne => ?_
   obtain ⟨b, hb⟩ := hjn j hj
   rw [hdst j b hb]
   intro hd
   rcases Nat.lt_trichotomy j i with h | h | h
   ·have hf : D j = false := by
     cases e : D j
     ·rfl
     ·rw [e] at hne; simp [h] at hne
    exact ((hsafe j b hb).2 hf h).dr t hd ht
   ·subst h; rw [hDi] at hne; simp at hne
   ·have hf : D j = true := by
     cases e : D j
     ·rw [e] at hne; simp at hne; omega
     ·rfl
    exact ((hsafe j b hb).1 hf h).rd t hd ht
  rw [this, hfl]
  rfl
 have hhp : ∀ b ∈ (eff i).rd, (fold N S0 (dstOf all) eff D all.length).hp b = st.hp.get b := by
  intro x hx
  have : (fold N S0 (dstOf all) eff D all.length).hp x = (fold N S0 (dstOf all) eff (fun j => decide (j < i)) all.length).hp x := by
   refine fold_hp fun j hj hne p hp e => ?_
   obtain ⟨b, hb⟩ := hjn j hj
   rcases Nat.lt_trichotomy j i with h | h | h
   ·have hf : D j = false := by
     cases e : D j
     ·rfl
     ·rw [e] at hne; simp [h] at hne
    exact ((hsafe j b hb).2 hf h).wr p hp (e ▸ hx)
   ·subst h; rw [hDi] at hne; simp at hne
   ·have hf : D j = true := by
     cases e : D j
     ·rw [e] at hne; simp at hne; omega
     ·rfl
    exact ((hsafe j b hb).1 hf h).rw p hp (e ▸ hx)
  rw [this, hfl]
  rfl
 have hfresh : ∀ p ∈ (eff i).ws, st.hp.length ≤ p.1 → β p.1 = none := by
  intro p hp hge
  rcases h : β p.1 with _ | bi
  ·rfl
  ·rcases hdom p.1 (by rw [h]; simp) with h1 | ⟨j, hj, hDj, q, hq, e⟩
   ·exact absurd (hβ0 p.1 (by omega)) h1
   ·rcases Nat.lt_trichotomy j i with h2 | h2 | h2
    ·have := hlow j h2 q hq
     omega
    ·subst h2; rw [hDi] at hDj; cases hDj
    ·obtain ⟨b, hb⟩ := hjn j hj
     exact absurd e.symm (((hsafe j b hb).1 hDj h2).ww p hp q hq)
 -- done as the last
 have hins : fold N S0 (dstOf all) eff (fun j => D j || j == i) all.length = (fold N S0 (dstOf all) eff D all.length).upd N (dstOf all i) (eff i) := by
  refine fold_insert hin hDi (fun _ => rfl) (fun j h1 h2 h3 h4 => ?_) (fun j h1 h2 h3 p hp q hq => ?_)
  ·obtain ⟨b, hb⟩ := hjn j h2
   rw [hdst j b hb, hdst i o hi]
   rw [hdst i o hi] at h4
   cases hd : o.dst with
   | none => exact absurd hd h4
   | some d => exact ((hsafe j b hb).1 h3 h1).dd d hd
  ·obtain ⟨b, hb⟩ := hjn j h2
   exact fun e => ((hsafe j b hb).1 h3 h1).ww q hq p hp e.symm
 have hnext : ∀ vv β' w', HRel E.cc X W0 β' (upds (fold N S0 (dstOf all) eff D all.length).hp (eff i).ws) w' →
   RepA E.cc w' (avOf X β' (upds (fold N S0 (dstOf all) eff D all.length).hp (eff i).ws)) β' (eff i).v vv →
   Tr X W0 β (fold N S0 (dstOf all) eff D all.length).hp w β' (upds (fold N S0 (dstOf all) eff D all.length).hp (eff i).ws) w' →
   (∀ b, β b = none → (∀ p ∈ (eff i).ws, p.1 ≠ b) → β' b = none) → K (a.put o.dst vv) w' := by
  intro vv β' w' h1 h2 h3 h4
  refine hK _ _ ⟨by rw [put_size]; exact hN, β', ?_, ?_, ?_⟩
  ·rw [hins]
   refine ⟨h1, fun t => ?_, by rw [put_defers]; exact hr.defers.mono h3.fr⟩
   rw [put_getD, hN, hdst i o hi]
   show RepA E.cc w' (avOf X β' (upds (fold N S0 (dstOf all) eff D all.length).hp (eff i).ws)) β' (if o.dst = some t ∧ t < N then (eff i).v else (fold N S0 (dstOf all) eff D all.length).tm t) _
   split
   ·exact h2
   ·exact h3.rep (hr.tm t)
  ·rw [hins]
   exact htr.trans h3
  ·intro b hb
   by_cases hm : ∃ p ∈ (eff i).ws, p.1 = b
   ·exact Or.inr ⟨i, hin, by simp, hm⟩
   ·have : β b ≠ none := fun e => hb (h4 b e fun p hp e' => hm ⟨p, hp, e'⟩)
    rcases hdom b this with h | ⟨j, hj, hDj, hp⟩
    ·exact Or.inl h
    ·exact Or.inr ⟨j, hj, by simp [hDj], hp⟩
 have hget : all.toArray[i]? = some o := by simpa using hi
 have hguard : ∀ j want, o.guard = some (j, want) → ∀ d, (all[j]?).bind (·.dst) = some d → d ∈ tmReads all o := by
  intro j want hg d hd
  simp only [tmReads, hg, hd, Option.toList]
  simp
 have hyield : ∀ j want d, o.guard = some (j, want) → (all[j]?).bind (·.dst) = some d → RepA E.cc w (avOf X β (fold N S0 (dstOf all) eff D all.length).hp) β (st.tm.getD d .bot) (a.tmps.getD d undef) := by
  intro j want d hg hd
  have := hr.tm d
  rwa [htm d (hguard j want hg d hd)] at this
 unfold wpOpIn
 rw [hget]
 rcases hcase with ⟨hg, hnd, hs⟩ | ⟨hg, he⟩
 ·have hw : Region.wanted o (yielded all.toArray a.tmps) = true := by
   unfold Region.wanted
   rcases hg with hg | ⟨j, want, d, hg, hd, ht⟩
   ·rw [hg]
   ·rw [hg]
    have hv := hyield j want d hg hd
    simp only [] at ht
    rw [ht] at hv
    have hd' : (all.toArray[j]?).bind (·.dst) = some d := by simpa using hd
    have : yielded all.toArray a.tmps j = some want := by
     unfold yielded
     rw [hd']
     rw [Array.getD_eq_getD_getElem?] at hv
     simp only [Option.bind_some]
     cases hx : a.tmps[d]? with
     | none => rw [hx] at hv; cases hv with | im h => cases h
     | some x =>
      rw [hx] at hv
      cases hv with | im h => cases h; rfl
    show (yielded all.toArray a.tmps j == some want) = true
    rw [this]
    simp
  simp only [hw, if_true]
  refine ⟨fun _ _ => trivial, ?_⟩
  rw [Oper.semAt_eq _ _ _ hnd]
  refine upon_in ?_
  exact hs hr (fun t ht => htm t (by
   unfold tmReads
   exact List.mem_append_left _ ht)) hhp hfresh hnext
 ·have hw : Region.wanted o (yielded all.toArray a.tmps) = false := by
   unfold Region.wanted
   obtain ⟨j, want, d, hg, hd, ht⟩ := hg
   rw [hg]
   have hv := hyield j want d hg hd
   have hd' : (all.toArray[j]?).bind (·.dst) = some d := by simpa using hd
   have : yielded all.toArray a.tmps j ≠ some want := by
    unfold yielded
    rw [hd']
    rw [Array.getD_eq_getD_getElem?] at hv
    simp only [Option.bind_some]
    simp only [] at ht
    rcases ht with ht | ht
    ·rw [ht] at hv
     cases hx : a.tmps[d]? with
     | none => simp
     | some x =>
      rw [hx] at hv
      cases hv with | im h => cases h; simp
    ·rw [ht] at hv
     cases hx : a.tmps[d]? with
     | none => simp
     | some x =>
      rw [hx] at hv
      generalize hy : (some x).getD undef = y at hv
      cases hv
      simp only [Option.getD_some] at hy
      subst hy
      simp [undef]
   show (yielded all.toArray a.tmps j == some want) = false
   simpa using this
  simp only [hw, Bool.false_eq_true, if_false]
  refine ⟨fun _ _ => trivial, ?_⟩
  refine hnext undef β w ?_ ?_ ?_ (fun b h _ => h)
  ·rw [he]; exact hr.h
  ·rw [he]; exact .und
  ·rw [he]; exact Tr.refl
end

end Go.Proofs.Ytmlbioapefgioaa.Va

/- A region. -/
namespace Go.Proofs.Ytmlbioapefgioaa.Va
open Go

variable {U : Nat → Type} {R : Type} {P : Program} {E : Env U}

section
variable {all : List Oper} {X W0 : Nat → Prop} {N : Nat} {S0 : AS U} {β0 : Nat → Option BI} {w0 : World} {eff : Nat → Did U} {h0 : Nat}

theorem inv_range {ro : Option Nat} (hAt : ∀ i o, all[i]? = some o → At P E all N S0 h0 eff i o) (hβ0 : ∀ b, h0 ≤ b → β0 b = none) {Q : Exit → Act → World → Prop}
  (hQ : ∀ a' w', Inv E all X W0 N S0 β0 w0 eff (fun j => decide (j < all.length)) a' w' → Q .normal a' w') : ∀ (m k : Nat), k + m = all.length → ∀ {a : Act} {w : World},
  Inv E all X W0 N S0 β0 w0 eff (fun j => decide (j < k)) a w → wpOpsIn (FR ro) 0 P all.toArray Q (List.range' k m) a w := by
 intro m
 induction m with
 | zero =>
  intro k hk a w hI
  obtain rfl : k = all.length := by omega
  exact hQ a w hI
 | succ m ih =>
  intro k hk a w hI
  rw [List.range'_succ, wpOpsIn_cons]
  have hlt : k < all.length := by omega
  refine inv_step (hAt k all[k] (List.getElem?_eq_getElem hlt)) (List.getElem?_eq_getElem hlt) hβ0 (D := fun j => decide (j < k)) (by simp) (fun j b hb => ⟨fun h1 h2 => ?_, fun h1 h2 => ?_⟩) hI fun a' w' hI' => ?_
  ·simp at h1; omega
  ·simp at h1; omega
  ·refine ih (k + 1) (by omega) ?_
   have : (fun j => decide (j < k) || j == k) = fun j => decide (j < k + 1) := by
    funext j
    rw [Bool.eq_iff_iff]
    simp only [Bool.or_eq_true, decide_eq_true_eq, beq_iff_eq]
    omega
   rwa [this] at hI'

theorem countP_lt {α : Type} {p q : α → Bool} {x : α} (hle : ∀ y, q y = true → p y = true) (hp : p x = true) (hq : q x = false) : ∀ {l : List α}, x ∈ l → l.countP q < l.countP p := by
 intro l
 induction l with
 | nil => intro h; cases h
 | cons y l ih =>
  intro h
  have hle' : l.countP q ≤ l.countP p := List.countP_mono_left fun y _ => hle y
  rcases List.mem_cons.1 h with rfl | h
  ·rw [List.countP_cons, List.countP_cons, hp, hq]
   simp; omega
  ·have := ih h
   rw [List.countP_cons, List.countP_cons]
   by_cases hqy : q y = true
   ·rw [hqy, hle y hqy]; omega
   ·simp only [hqy]
    split <;> simp_all <;> omega

def lst (listed : Array Bool) (n : Nat) : Nat → Bool := fun j => listed.getD j false && decide (j < n)

theorem behind_done {D : Nat → Bool} (hclosed : ∀ j b, all[j]? = some b → D j = true → ∀ e ∈ b.after.toList, Region.binds .any e = true → D e.on = true) : ∀ (n i j : Nat), behind all n i j = true → D j = true → D i = true := by
 intro n
 induction n with
 | zero => intro i j h; simp [behind] at h
 | succ n ih =>
  intro i j h hD
  rw [behind] at h
  split at h
  ·rename_i o ho
   rw [List.any_eq_true] at h
   obtain ⟨e, he, h⟩ := h
   rw [Bool.and_eq_true, Bool.or_eq_true] at h
   have hb : Region.binds .any e = true := by
    unfold Region.binds
    have := h.1
    split at this <;> simp_all
   have hDe := hclosed j o ho hD e he hb
   rcases h.2 with h2 | h2
   ·have : e.on = i := by simpa using h2
    rwa [this] at hDe
   ·exact ih i e.on h2 hDe
  ·cases h

theorem apart_of {fs : List (List Nat × List Nat)} {i j : Nat} {a b : Oper} (hi : all[i]? = some a) (hj : all[j]? = some b) (hfi : fs[i]? = some ((eff i).rd, (eff i).ws.map (·.1)))
  (hfj : fs[j]? = some ((eff j).rd, (eff j).ws.map (·.1))) (h : apartOps all fs i j = true) : Apart all eff i j a b := by
 simp only [apartOps, hi, hj, hfi, hfj, Bool.and_eq_true, Bool.not_eq_true', meet, List.any_eq_false] at h
 obtain ⟨⟨⟨h1, h2⟩, h3⟩, h4⟩ := h
 refine ⟨fun p hp q hq e => ?_, fun p hp hm => ?_, fun p hp hm => ?_, fun d hd hd' => ?_, fun d hd hm => ?_, fun d hd hm => ?_⟩
 ·refine h1 p.1 (List.mem_map_of_mem hp) ?_
  rw [List.contains_iff_mem, e]
  exact List.mem_append_right _ (List.mem_map_of_mem hq)
 ·exact h1 p.1 (List.mem_map_of_mem hp) (List.contains_iff_mem.2 (List.mem_append_left _ hm))
 ·exact h2 p.1 (List.mem_map_of_mem hp) (List.contains_iff_mem.2 hm)
 ·exact h3 d (by simp [hd]) (List.contains_iff_mem.2 (List.mem_append_right _ (by simp [hd'])))
 ·exact h3 d (by simp [hd]) (List.contains_iff_mem.2 (List.mem_append_left _ hm))
 ·exact h4 d (by simp [hd]) (List.contains_iff_mem.2 hm)

theorem inv_any {ro : Option Nat} (hAt : ∀ i o, all[i]? = some o → At P E all N S0 h0 eff i o) (hβ0 : ∀ b, h0 ≤ b → β0 b = none) {fs : List (List Nat × List Nat)}
  (hfs : ∀ i, i < all.length → fs[i]? = some ((eff i).rd, (eff i).ws.map (·.1))) (hok : okDraw all fs = true) {Q : Exit → Act → World → Prop}
  (hQ : ∀ a' w', Inv E all X W0 N S0 β0 w0 eff (fun j => decide (j < all.length)) a' w' → Q .normal a' w') : ∀ (fuel : Nat) (listed : Array Bool) {a : Act} {w : World}, listed.size = all.length →
  (List.range all.length).countP (fun j => !lst listed all.length j) ≤ fuel →
  (∀ j b, all[j]? = some b → lst listed all.length j = true → ∀ e ∈ b.after.toList, Region.binds .any e = true → lst listed all.length e.on = true) →
  Inv E all X W0 N S0 β0 w0 eff (lst listed all.length) a w → wpAnyIn (FR ro) 0 P .any all.toArray Q fuel listed a w := by
 simp only [okDraw, Bool.and_eq_true, List.all_eq_true, List.mem_range] at hok
 obtain ⟨hedge, hpair⟩ := hok
 have hjn : ∀ (j : Nat) (b : Oper), all[j]? = some b → j < all.length := fun j b h => by
  rcases Nat.lt_or_ge j all.length with h' | h'
  ·exact h'
  ·rw [List.getElem?_eq_none h'] at h; cases h
 have hedge' : ∀ (j : Nat) (b : Oper), all[j]? = some b → ∀ e ∈ b.after.toList, Region.binds .any e = true → e.on < j := by
  intro j b hb e he hbd
  have := hedge j (hjn j b hb)
  rw [hb] at this
  simp only [List.all_eq_true] at this
  have := this e he
  unfold Region.binds at hbd
  split at this
  ·rename_i eg; rw [eg] at hbd; cases hbd
  ·rename_i eg; rw [eg] at hbd; cases hbd
  ·exact of_decide_eq_true this
 -- when nothing is ready, all is done
 have hend : ∀ (listed : Array Bool), listed.size = all.length → Region.ready .any all.toArray listed = [] → ∀ j, j < all.length → lst listed all.length j = true := by
  intro listed hsz hr j
  induction j using Nat.strongRecOn with
  | ind j ih =>
   intro hj
   rcases hl : lst listed all.length j with _ | _
   ·have hmem : j ∈ Region.ready .any all.toArray listed := by
     unfold Region.ready
     rw [List.mem_filter]
     refine ⟨by simpa using hj, ?_⟩
     have hget : all.toArray[j]? = some all[j] := by simp [hj]
     have hls : listed.getD j true = false := by
      unfold lst at hl
      rw [Array.getD_eq_getD_getElem?] at hl ⊢
      rw [Array.getElem?_eq_getElem (by omega)] at hl ⊢
      simpa [hj] using hl
     rw [hls, hget]
     simp only [Option.map_some, Option.getD_some, Bool.not_false, Bool.true_and, Array.all_eq_true_iff_forall_mem]
     intro e he
     have he' : e ∈ (all[j]).after.toList := by simpa using he
     cases hbd : Region.binds .any e with
     | false => simp
     | true =>
      have hlt := hedge' j _ (List.getElem?_eq_getElem hj) e he' hbd
      have := ih e.on hlt (by omega)
      unfold lst at this
      rw [Bool.and_eq_true] at this
      rw [this.1]
      simp
    rw [hr] at hmem
    cases hmem
   ·rfl
 have hfin : ∀ (listed : Array Bool) (a : Act) (w : World), listed.size = all.length → Region.ready .any all.toArray listed = [] → Inv E all X W0 N S0 β0 w0 eff (lst listed all.length) a w → Q .normal a w := by
  intro listed a w hsz hr hI
  refine hQ a w ?_
  have : lst listed all.length = fun j => decide (j < all.length) := by
   funext j
   by_cases h : j < all.length
   ·rw [hend listed hsz hr j h]; simp [h]
   ·simp [lst, h]
  rwa [this] at hI
 intro fuel
 induction fuel with
 | zero =>
  intro listed a w hsz hcnt hcl hI
  have hall : ∀ j, j < all.length → lst listed all.length j = true := by
   intro j hj
   rcases h : lst listed all.length j with _ | _
   ·have : 0 < (List.range all.length).countP (fun j => !lst listed all.length j) := List.countP_pos_iff.2 ⟨j, by simpa using hj, by simp [h]⟩
    omega
   ·rfl
  have hr : Region.ready .any all.toArray listed = [] := by
   unfold Region.ready
   rw [List.filter_eq_nil_iff]
   intro j hj
   have hj' : j < all.length := by simpa using hj
   have := hall j hj'
   unfold lst at this
   rw [Bool.and_eq_true, Array.getD_eq_getD_getElem?, Array.getElem?_eq_getElem (by omega)] at this
   rw [Array.getD_eq_getD_getElem?, Array.getElem?_eq_getElem (by omega)]
   simp only [Option.getD_some] at this ⊢
   simp [this.1]
  exact ⟨hr, hfin listed a w hsz hr hI⟩
 | succ fuel ih =>
  intro listed a w hsz hcnt hcl hI
  refine ⟨fun hr => hfin listed a w hsz hr hI, fun i hi => ?_⟩
  unfold Region.ready at hi
  rw [List.mem_filter] at hi
  obtain ⟨hi1, hi2⟩ := hi
  have hin : i < all.length := by simpa using hi1
  have hget : all.toArray[i]? = some all[i] := by simp [hin]
  rw [hget] at hi2
  simp only [Option.map_some, Option.getD_some, Bool.and_eq_true, Array.all_eq_true_iff_forall_mem] at hi2
  obtain ⟨hnl, hpre⟩ := hi2
  have hio : all[i]? = some all[i] := List.getElem?_eq_getElem hin
  have hDi : lst listed all.length i = false := by
   unfold lst
   rw [Array.getD_eq_getD_getElem?, Array.getElem?_eq_getElem (by omega)] at hnl ⊢
   simp only [Option.getD_some] at hnl ⊢
   simp at hnl
   simp [hnl]
  have hpre' : ∀ e ∈ (all[i]).after.toList, Region.binds .any e = true → lst listed all.length e.on = true := by
   intro e he hb
   have := hpre e (by simpa using he)
   rw [hb] at this
   have hlt := hedge' i _ hio e he hb
   unfold lst
   simp at this
   simp [this]
   omega
  have hD' : lst (listed.setIfInBounds i true) all.length = fun j => lst listed all.length j || j == i := by
   funext j
   unfold lst
   rw [Array.getD_eq_getD_getElem?, Array.getD_eq_getD_getElem?, Array.getElem?_setIfInBounds]
   by_cases e : i = j
   ·subst e
    simp [hsz, hin]
   ·have e' : (j == i) = false := by simpa using Ne.symm e
    simp [e, e']
  refine inv_step (hAt i _ hio) hio hβ0 hDi (fun j b hb => ⟨fun h1 h2 => ?_, fun h1 h2 => ?_⟩) hI fun a' w' hI' => ?_
  ·have hj := hjn j b hb
   rcases Bool.or_eq_true _ _ |>.mp (hpair j hj i h2) with h | h
   ·exact apart_of hio hb (hfs i hin) (hfs j hj) h
   ·rw [behind_done hcl _ i j h h1] at hDi
    cases hDi
  ·have hj := hjn j b hb
   rcases Bool.or_eq_true _ _ |>.mp (hpair i hin j h2) with h | h
   ·exact apart_of hb hio (hfs j hj) (hfs i hin) h
   ·-- j must come before i, and i is ready
    have : lst listed all.length j = true := by
     cases hn : all.length with
     | zero => omega
     | succ n =>
      rw [hn, behind, hio] at h
      simp only [List.any_eq_true, Bool.and_eq_true, Bool.or_eq_true] at h
      obtain ⟨e, he, hg, h⟩ := h
      have hbnd : Region.binds .any e = true := by
       unfold Region.binds
       split at hg <;> simp_all
      have hDe := hpre' e he hbnd
      rw [← hn]
      rcases h with h | h
      ·have : e.on = j := by simpa using h
       rwa [this] at hDe
      ·exact behind_done hcl _ j e.on h hDe
    rw [this] at h1
    cases h1
  ·refine ih _ (by simpa using hsz) ?_ ?_ (by rw [hD']; exact hI')
   ·have : (List.range all.length).countP (fun j => !lst (listed.setIfInBounds i true) all.length j) < (List.range all.length).countP (fun j => !lst listed all.length j) :=
     countP_lt (x := i) (by intro y; rw [hD']; simp only []; cases lst listed all.length y <;> simp) (by simp [hDi]) (by rw [hD']; simp) (by simpa using hin)
    omega
   ·intro j b hb hD e he hbnd
    rw [hD'] at hD ⊢
    simp only [Bool.or_eq_true, beq_iff_eq] at hD ⊢
    rcases hD with hD | rfl
    ·exact Or.inl (hcl j b hb hD e he hbnd)
    ·have : b = all[j] := by rw [hio] at hb; exact (Option.some.inj hb).symm
     subst this
     exact Or.inl (hpre' e he hbnd)
end

end Go.Proofs.Ytmlbioapefgioaa.Va

/- Other views of the same values. -/
namespace Go.Proofs.Ytmlbioapefgioaa.Va
open Go

variable {U : Nat → Type} {R : Type} {P : Program} {E : Env U} {X W0 : Nat → Prop} {w : World}

def Views (E : Env U) (x : AV U) (h : Hp U) (y : AV U) (h' : Hp U) : Prop :=
 ∀ ⦃X W0 : Nat → Prop⦄ ⦃β : Nat → Option BI⦄ ⦃w : World⦄ ⦃v : Value⦄, HRel E.cc X W0 β h.get w → (∀ b, h.length ≤ b → β b = none) → RepA E.cc w (avOf X β h.get) β x v →
  ∃ β', HRel E.cc X W0 β' h'.get w ∧ (∀ b, h'.length ≤ b → β' b = none) ∧ RepA E.cc w (avOf X β' h'.get) β' y v ∧ Tr X W0 β h.get w β' h'.get w

theorem Views.refl (x : AV U) (h : Hp U) : Views E x h x h := fun _ _ _ _ _ h1 h2 h3 => ⟨_, h1, h2, h3, Tr.refl⟩

theorem set1_upd1 (h : Hp U) (b : Nat) (x : Blk U) : (h.set1 b x).get = upd1 h.get b x := by
 funext b'
 rw [set1_get]; rfl

theorem append_upd1 (h : Hp U) (x : Blk U) : Hp.get (h ++ [x]) = upd1 (Hp.get h) h.length x := by
 funext b
 simp only [Hp.get, upd1, List.getD]
 by_cases e : b = h.length
 ·subst e
  rw [List.getElem?_append_right (Nat.le_refl _)]
  simp
 ·simp only [e, if_false]
  by_cases hb : b < h.length
  ·rw [List.getElem?_append_left hb]
  ·rw [List.getElem?_append_right (by omega), List.getElem?_eq_none (by simp; omega), List.getElem?_eq_none (by omega)]

theorem frozen_view {β : Nat → Option BI} {hp : Nat → Blk U} (h : HRel E.cc X W0 β hp w) {b T : Nat} {l : List (U T)} {lv : Bool} (hr : hp b = .row T l lv) :
    (∀ k, avOf X β (upd1 hp b (.row T l false)) k → avOf X β hp k) ∧ ∀ bi k, β b = some bi → bi.k = some k → ¬ avOf X β (upd1 hp b (.row T l false)) k := by
  refine ⟨?_, ?_⟩
  · rintro k (hX | ⟨c, ci, h1, h2, h3⟩)
    · exact .inl hX
    · by_cases e : c = b
      · subst e; rw [upd1_same] at h3; cases h3
      · rw [upd1_ne _ _ e] at h3; exact .inr ⟨c, ci, h1, h2, h3⟩
  · rintro bi k hb hk (hX | ⟨c, ci, h1, h2, h3⟩)
    · exact (h.dom b bi k hb hk (by rw [hr]; rfl)).2.1 hX
    · by_cases e : c = b
      · subst e; rw [upd1_same] at h3; cases h3
      · rw [upd1_ne _ _ e] at h3
        exact e (h.inj c b ci bi k h1 hb h2 hk (live_dead h3) (by rw [hr]; rfl))

theorem norm0_ok (hE : EnvOK P E) (md : Md) (x : AV U) (h : Hp U) : Views E x h (norm0 E.cc md x h).1 (norm0 E.cc md x h).2 := by
 unfold norm0
 split
 ·rename_i h' T
  split
  ·rename_i hsz
   intro X W0 β w v h1 h2 h3
   obtain ⟨g1, g2⟩ := h1.nowhere h.length (h2 _ (Nat.le_refl _)) 0 T true (hE.cod T hsz)
   refine ⟨_, by rw [append_upd1]; exact g1, fun b hb => ?_, ?_, by rw [append_upd1]; exact g2⟩
   ·simp only [List.length_append, List.length_singleton] at hb
    have e : b ≠ h.length := by omega
    simp only [updβ, e, if_false]
    exact h2 b (by omega)
   ·cases h3 with
    | im hr =>
     cases hr
     exact .own0 (cap := 0) (by simp [updβ])
  ·exact Views.refl _ _
 ·rename_i h' T
  split
  ·rename_i hsz
   intro X W0 β w v h1 h2 h3
   obtain ⟨g1, g2⟩ := h1.nowhere h.length (h2 _ (Nat.le_refl _)) 0 T true (hE.cod T hsz)
   refine ⟨_, by rw [append_upd1]; exact g1, fun b hb => ?_, ?_, by rw [append_upd1]; exact g2⟩
   ·simp only [List.length_append, List.length_singleton] at hb
    have e : b ≠ h.length := by omega
    simp only [updβ, e, if_false]
    exact h2 b (by omega)
   ·cases h3 with
    | im hr =>
     cases hr
     exact .own0 (cap := 0) (by simp [updβ])
  ·exact Views.refl _ _
 ·rename_i h' T b off
  split
  ·rename_i cs hr
   intro X W0 β w v h1 h2 h3
   have hbl : b < h.length := by
    rcases Nat.lt_or_ge b h.length with hlt | hge
    ·exact hlt
    ·simp [Hp.get, List.getD, List.getElem?_eq_none hge] at hr
   have hlen : (h.set1 b .dead).length = h.length := by simp [Hp.set1, hbl]
   have hget : Hp.get (h.set1 b .dead ++ [Blk.var cs]) = upd1 (upd1 h.get b .dead) h.length (.var cs) := by
    rw [append_upd1, hlen, set1_upd1]
   cases h3 with
   | ptr hβ =>
    obtain ⟨g1, g2⟩ := h1.mv b h.length _ _ hβ rfl (by rw [hr]; rfl) (h2 _ (Nat.le_refl _)) (.var cs) rfl (fun av β' hok => by rw [hr] at hok; exact hok)
    refine ⟨_, by rw [hget]; exact g1, fun c hc => ?_, .ptr (if_pos rfl), by rw [hget]; exact g2⟩
    rw [List.length_append, List.length_singleton, hlen] at hc
    have e : c ≠ h.length := by omega
    simp only [updβ, e, if_false]
    exact h2 c (by omega)
  ·exact Views.refl _ _
 ·rename_i h' T b
  split
  ·rename_i T' l hr
   intro X W0 β w v h1 h2 h3
   have hbl : b < h.length := by
    rcases Nat.lt_or_ge b h.length with hlt | hge
    ·exact hlt
    ·simp [Hp.get, List.getD, List.getElem?_eq_none hge] at hr
   have hlen : (h.set1 b .dead).length = h.length := by simp [Hp.set1, hbl]
   have hget : Hp.get (h.set1 b .dead ++ [Blk.row T' l true]) = upd1 (upd1 h.get b .dead) h.length (.row T' l true) := by
    rw [append_upd1, hlen, set1_upd1]
   have mk : ∀ bi : BI, β b = some bi → HRel E.cc X W0 (updβ β h.length bi) (upd1 (upd1 h.get b .dead) h.length (.row T' l true)) w ∧ Tr X W0 β h.get w (updβ β h.length bi) (upd1 (upd1 h.get b .dead) h.length (.row T' l true)) w := fun bi hb =>
    h1.mv b h.length bi bi hb rfl (by rw [hr]; rfl) (h2 _ (Nat.le_refl _)) _ rfl (fun av β' hok => by rw [hr] at hok; exact hok)
   have bd : ∀ bi : BI, ∀ c, (h.set1 b .dead ++ [Blk.row T' l true]).length ≤ c → updβ β h.length bi c = none := fun bi c hc => by
    rw [List.length_append, List.length_singleton, hlen] at hc
    have e : c ≠ h.length := by omega
    simp only [updβ, e, if_false]
    exact h2 c (by omega)
   cases h3 with
   | own0 hβ =>
    obtain ⟨g1, g2⟩ := mk _ hβ
    exact ⟨_, by rw [hget]; exact g1, bd _, .own0 (if_pos rfl), by rw [hget]; exact g2⟩
   | own hβ =>
    obtain ⟨g1, g2⟩ := mk _ hβ
    exact ⟨_, by rw [hget]; exact g1, bd _, .own (if_pos rfl), by rw [hget]; exact g2⟩
  ·exact Views.refl _ _
 ·rename_i h' T
  intro X W0 β w v h1 h2 h3
  refine ⟨β, h1, h2, ?_, Tr.refl⟩
  cases h3 with
  | im hr =>
   cases hr
   exact .im (.slice0 _ _ _)
 ·rename_i h' T b
  split
  ·rename_i T' l lv hr
   intro X W0 β w v h1 h2 h3
   obtain ⟨g1, g2⟩ := h1.freeze b hr
   obtain ⟨a1, a2⟩ := frozen_view h1 hr
   refine ⟨β, by rw [set1_upd1]; exact g1, fun c hc => h2 c ?_, ?_, by rw [set1_upd1]; exact g2⟩
   ·have := set1_len h b (.row T' l false)
    have hc' : (h.set1 b (.row T' l false)).length ≤ c := hc
    omega
   ·rw [set1_upd1]
    exact .im (row_rep h1 hr h3 a1 a2)
  ·exact Views.refl _ _
 ·rename_i h' T b off len sz
  split
  ·rename_i T' l lv hr
   split
   ·rename_i e
    subst e
    intro X W0 β w v h1 h2 h3
    obtain ⟨g1, g2⟩ := h1.freeze b hr
    obtain ⟨a1, a2⟩ := frozen_view h1 hr
    refine ⟨β, by rw [set1_upd1]; exact g1, fun c hc => h2 c ?_, ?_, by rw [set1_upd1]; exact g2⟩
    ·have := set1_len h b (.row T' l false)
     have hc' : (h.set1 b (.row T' l false)).length ≤ c := hc
     omega
    ·rw [set1_upd1]
     exact .im (row_rep_sub h1 hr h3 a1 a2)
   ·exact Views.refl _ _
  ·exact Views.refl _ _
 ·exact Views.refl _ _

theorem HRel.retell {β : Nat → Option BI} {hp : Nat → Blk U} (h : HRel E.cc X W0 β hp w) (b0 : Nat) (x : Blk U) (hl : x.isLive = (hp b0).isLive) (hd : x.isDead = (hp b0).isDead)
  (hx : ∀ bi, β b0 = some bi → BlkOK E.cc w (avOf X β hp) β bi x) : HRel E.cc X W0 β (upd1 hp b0 x) w ∧ Tr X W0 β hp w β (upd1 hp b0 x) w ∧ avOf X β (upd1 hp b0 x) = avOf X β hp := by
 have hlv : ∀ b, (upd1 hp b0 x b).isLive = (hp b).isLive := by
  intro b
  by_cases e : b = b0
  ·subst e; rw [upd1_same, hl]
  ·rw [upd1_ne _ _ e]
 have hdd : ∀ b, (upd1 hp b0 x b).isDead = (hp b).isDead := by
  intro b
  by_cases e : b = b0
  ·subst e; rw [upd1_same, hd]
  ·rw [upd1_ne _ _ e]
 have hav : avOf X β (upd1 hp b0 x) = avOf X β hp := by
  funext k
  simp only [avOf, hlv]
 refine ⟨⟨?_, ?_, h.new, ?_⟩, ⟨Fr.refl _ _, fun _ _ _ _ h => h, fun k hk _ => by rw [hav]; exact hk, fun _ _ h => h⟩, hav⟩
 ·intro b bi hb
  rw [hav]
  by_cases e : b = b0
  ·subst e; rw [upd1_same]; exact hx bi hb
  ·rw [upd1_ne _ _ e]; exact h.ok b bi hb
 ·intro b bi k hb hk hd'
  rw [hdd] at hd'
  exact h.dom b bi k hb hk hd'
 ·intro b b' bi bi' k hb hb' hk hk' hd' hd2
  rw [hdd] at hd' hd2
  exact h.inj b b' bi bi' k hb hb' hk hk' hd' hd2

theorem normP_ok (hE : EnvOK P E) (md : Md) : ∀ (p : List Ps) (x : AV U) (h : Hp U), Views E x h (normP E.cc md p x h).1 (normP E.cc md p x h).2 := by
 intro p
 induction p with
 | nil => intro x h; unfold normP; exact norm0_ok hE md x h
 | cons s p ih =>
  intro x h
  unfold normP
  split
  ·rename_i heq; cases heq
  ·rename_i h q1 q2 h' j p' cs heq
   cases heq
   split
   ·rename_i x hx
    have := ih x h
    cases hn : normP E.cc md p x h with
    | mk y h' =>
     rw [hn] at this
     simp only [] at this ⊢
     intro X W0 β w v h1 h2 h3
     cases h3 with
     | agg hl hc =>
      rename_i vs
      have hlt : j < cs.length := by
       rcases Nat.lt_or_ge j cs.length with h | h
       ·exact h
       ·rw [List.getElem?_eq_none h] at hx; cases hx
      obtain ⟨β', g1, g2, g3, g4⟩ := this h1 h2 (hc j x vs[j] hx (Array.getElem?_eq_getElem (by omega)))
      refine ⟨β', g1, g2, .agg (by simpa using hl) fun i z u hz hu => ?_, g4⟩
      rw [List.getElem?_set] at hz
      by_cases e : j = i
      ·subst e
       rw [if_pos rfl, if_pos hlt] at hz
       cases hz
       rw [Array.getElem?_eq_getElem (by omega)] at hu
       cases hu
       exact g3
      ·rw [if_neg e] at hz
       exact g4.rep (hc i z u hz hu)
   ·exact Views.refl _ _
  ·rename_i h q1 q2 h' j p' b off heq
   cases heq
   split
   ·rename_i cs hcs
    split
    ·rename_i x hx
     have hih := ih x h
     cases hn : normP E.cc md p x h with
     | mk y h' =>
      rw [hn] at hih
      simp only [] at hih ⊢
      split
      ·rename_i cs' hcs'
       intro X W0 β w v h1 h2 h3
       cases h3 with
       | ptr hβ =>
        rename_i k n cap
        have hok := h1.ok b _ hβ
        rw [hcs] at hok
        obtain ⟨k0, c, t, e1, e2, e3, e4⟩ := hok
        cases e1
        have hlt : j < cs.length := by
         rcases Nat.lt_or_ge j cs.length with h | h
         ·exact h
         ·rw [List.getElem?_eq_none h] at hx; cases hx
        have hcj : c[j]? = some c[j] := Array.getElem?_eq_getElem (by omega)
        obtain ⟨r1, r2⟩ := e4 j x c[j] hx hcj
        obtain ⟨β', g1, g2, g3, g4⟩ := hih h1 h2 r1
        have hβ' := g4.β b _ hβ
        have hok' := g1.ok b _ hβ'
        rw [hcs'] at hok'
        obtain ⟨k1, c1, t1, f1, f2, f3, f4⟩ := hok'
        cases f1
        rw [e2] at f2
        cases f2
        obtain ⟨q1, q2, q3⟩ := g1.retell b (.var (cs'.set j y)) (by rw [hcs']; rfl) (by rw [hcs']; rfl) (fun bi hbi => by
         rw [hβ'] at hbi
         cases hbi
         refine ⟨k, c, t, rfl, e2, by simpa using f3, fun i z u hz hu => ?_⟩
         rw [List.getElem?_set] at hz
         by_cases e : j = i
         ·subst e
          rw [if_pos rfl] at hz
          split at hz
          ·cases hz
           rw [hcj] at hu
           cases hu
           exact ⟨g3, r2⟩
          ·cases hz
         ·rw [if_neg e] at hz
          exact f4 i z u hz hu)
        refine ⟨β', by rw [set1_upd1]; exact q1, fun d hd => g2 d ?_, ?_, by rw [set1_upd1]; exact g4.trans q2⟩
        ·have := set1_len h' b (.var (cs'.set j y))
         have hd' : (h'.set1 b (.var (cs'.set j y))).length ≤ d := hd
         omega
        ·exact .ptr hβ'
      ·exact Views.refl _ _
    ·exact Views.refl _ _
   ·exact Views.refl _ _
  ·exact Views.refl _ _

theorem normS_ok (hE : EnvOK P E) : ∀ (ms : List (Nat × List Ps × Md)) (st : St U), (normS E.cc ms st).m = st.m ∧ (normS E.cc ms st).tm.length = st.tm.length ∧
  ∀ {X W0 : Nat → Prop} {β : Nat → Option BI} {w : World} {vs : Nat → Value}, HRel E.cc X W0 β st.hp.get w → (∀ b, st.hp.length ≤ b → β b = none) →
   (∀ t, RepA E.cc w (avOf X β st.hp.get) β ((asOf st).tm t) (vs t)) →
   ∃ β', HRel E.cc X W0 β' (normS E.cc ms st).hp.get w ∧ (∀ b, (normS E.cc ms st).hp.length ≤ b → β' b = none) ∧
    (∀ t, RepA E.cc w (avOf X β' (normS E.cc ms st).hp.get) β' ((asOf (normS E.cc ms st)).tm t) (vs t)) ∧ Tr X W0 β st.hp.get w β' (normS E.cc ms st).hp.get w := by
 intro ms
 induction ms with
 | nil => intro st; exact ⟨rfl, rfl, fun h1 h2 h3 => ⟨_, h1, h2, h3, Tr.refl⟩⟩
 | cons m ms ih =>
  obtain ⟨t, p, md⟩ := m
  intro st
  have hn := normP_ok hE md p (st.tm.getD t .bot) st.hp
  unfold normS
  cases hp : normP E.cc md p (st.tm.getD t .bot) st.hp with
  | mk y h' =>
   rw [hp] at hn
   simp only [] at hn ⊢
   obtain ⟨i1, i2, i3⟩ := ih { tm := st.tm.set t y, hp := h', m := st.m }
   refine ⟨i1, by rw [i2]; simp, @fun X W0 β w vs h1 h2 h3 => ?_⟩
   obtain ⟨β', g1, g2, g3, g4⟩ := hn h1 h2 (h3 t)
   obtain ⟨β2, k1, k2, k3, k4⟩ := i3 (vs := vs) g1 g2 (fun s => by
    show RepA E.cc w (avOf X β' h'.get) β' ((st.tm.set t y).getD s .bot) (vs s)
    rw [List.getD_eq_getElem?_getD, List.getElem?_set]
    by_cases e : t = s
    ·subst e
     rw [if_pos rfl]
     split
     ·exact g3
     ·exact .bot
    ·rw [if_neg e, ← List.getD_eq_getElem?_getD]
     exact g4.rep (h3 s))
   exact ⟨β2, k1, k2, k3, g4.trans k4⟩

theorem killH_ok : ∀ (bs : List Nat) (h : Hp U) {X W0 : Nat → Prop} {β : Nat → Option BI} {w : World}, HRel E.cc X W0 β h.get w → (∀ b, h.length ≤ b → β b = none) →
  HRel E.cc X W0 β (killH bs h).get w ∧ (∀ b, (killH bs h).length ≤ b → β b = none) ∧ Tr X W0 β h.get w β (killH bs h).get w
 | [], h, X, W0, β, w, h1, h2 => ⟨h1, h2, Tr.refl⟩
 | b :: bs, h, X, W0, β, w, h1, h2 => by
  unfold killH
  split
  ·rename_i T l lv hr
   obtain ⟨g1, g2⟩ := h1.dead b
   rw [← set1_upd1] at g1 g2
   obtain ⟨k1, k2, k3⟩ := killH_ok bs (h.set1 b .dead) g1 (fun c hc => h2 c (by have := set1_len h b .dead; omega))
   exact ⟨k1, k2, g2.trans k3⟩
  ·exact killH_ok bs h h1 h2

end Go.Proofs.Ytmlbioapefgioaa.Va

/- Code. -/
namespace Go.Proofs.Ytmlbioapefgioaa.Va
open Go

variable {U : Nat → Type} {R : Type} {P : Program} {E : Env U}

theorem Trace.more {all : List Oper} : ∀ {rest : List Oper} {st st' : St U} {es : List (Did U)}, Trace P E all rest st es st' → st'.m = st.m ∧ es.length = rest.length := by
 intro rest st st' es h
 induction h with
 | nil => exact ⟨rfl, rfl⟩
 | @run o rest st v ws rd es st' hg hid hnd hs ht ih =>
  refine ⟨ih.1.trans ?_, by simp [ih.2]⟩
  cases o.dst <;> rfl
 | @skip o rest st es st' hg ht ih =>
  refine ⟨ih.1.trans ?_, by simp [ih.2]⟩
  cases o.dst <;> rfl

structure GRel (E : Env U) (X W0 : Nat → Prop) (β : Nat → Option BI) (st : St U) (a : Act) (w : World) : Prop where
 sz : a.tmps.size = st.tm.length
 rel : Rel E.cc X W0 β (asOf st) a w
 bd : ∀ b, st.hp.length ≤ b → β b = none

structure TrM (m : Nat) (X W0 : Nat → Prop) (β : Nat → Option BI) (hp : Nat → Blk U) (w : World) (β' : Nat → Option BI) (hp' : Nat → Blk U) (w' : World) : Prop where
 fr : Fr W0 w w'
 keeps : Keeps (avOf X β hp) w w'
 av : ∀ k, ¬ avOf X β hp k → k < w.heap.size → ¬ avOf X β' hp' k
 β : ∀ b bi, b < m → β b = some bi → β' b = some bi

section
variable {X W0 : Nat → Prop} {β β' : Nat → Option BI} {hp hp' : Nat → Blk U} {w w' : World} {m : Nat}
theorem Tr.toM (h : Tr X W0 β hp w β' hp' w') : TrM m X W0 β hp w β' hp' w' := ⟨h.fr, h.keeps, h.av, fun b bi _ hb => h.β b bi hb⟩
theorem TrM.refl : TrM m X W0 β hp w β hp w := Tr.refl.toM
theorem TrM.trans {β₂ : Nat → Option BI} {hp₂ : Nat → Blk U} {w₂ : World} (h : TrM m X W0 β hp w β' hp' w') (g : TrM m X W0 β' hp' w' β₂ hp₂ w₂) : TrM m X W0 β hp w β₂ hp₂ w₂ := by
 refine ⟨h.fr.trans g.fr, fun k off v hk hc => ?_, fun k hk hlt => g.av k (h.av k hk hlt) (Nat.lt_of_lt_of_le hlt h.fr.size), fun b bi hm hb => g.β b bi hm (h.β b bi hm hb)⟩
 have hlt : k < w.heap.size := World.block_lt_of_cell? w ⟨k, off, none⟩ hc
 exact g.keeps k off v (h.av k hk hlt) (h.keeps k off v hk hc)
end

theorem region_ok (hm : P.follows .mixedOrders = true) (hE : EnvOK P E) (hΓ : GamOK P E) {id : Nat} {ops : Array Oper} {draw : Bool} {st : St U} {K : St U → Option R} {r : R}
  (h : opsA E ops.toList ops.toList st [] (fun st' fs => if !draw || okDraw ops.toList fs then K st' else none) = some r) :
  ∃ st', K st' = some r ∧ st'.m = st.m ∧ ∀ {ro : Option Nat} {X W0 : Nat → Prop} {β : Nat → Option BI} {a : Act} {w : World} {Q : Exit → Act → World → Prop}, GRel E X W0 β st a w →
   (∀ β' a' w', GRel E X W0 β' st' a' w' → Tr X W0 β st.hp.get w β' st'.hp.get w' → Q .normal a' w') → (Code.region id ops draw).wpIn (FR ro) 0 P Q a w := by
 obtain ⟨es, st', ht, hk⟩ := opsA_trace hE hΓ h
 split at hk
 case isFalse => cases hk
 rename_i hok
 obtain ⟨e1, e2⟩ := ht.more
 refine ⟨st', hk, e1, @fun ro X W0 β a w Q hg hQ => ?_⟩
 let eff : Nat → Did U := fun i => es.getD i ⟨.und, [], []⟩
 have heff : ∀ i e, es[i]? = some e → eff i = e := fun i e he => by simp [eff, he]
 obtain ⟨hAt, f1, f2, f3, f4⟩ := Trace.at (N := st.tm.length) (S0 := asOf st) (h0 := st.hp.length) (eff := eff) ht [] rfl rfl rfl (Nat.le_refl _) (fun j hj => absurd hj (Nat.not_lt_zero j))
  (fun m e he => by simpa using heff m e he)
 have hAt' : ∀ i o, ops.toList[i]? = some o → At P E ops.toList st.tm.length (asOf st) st.hp.length eff i o := fun i o ho => hAt i o (Nat.zero_le _) ho
 have hfin : ∀ (w1 : World), Tr X W0 β st.hp.get w β st.hp.get w1 → ∀ a' w', Inv E ops.toList X W0 st.tm.length (asOf st) β w1 eff (fun j => decide (j < ops.toList.length)) a' w' → Q .normal a' w' := by
  intro w1 ht1 a' w' ⟨hs, β', hr, htr, hd⟩
  have e : fold st.tm.length (asOf st) (dstOf ops.toList) eff (fun j => decide (j < ops.toList.length)) ops.toList.length = asOf st' := by
   rw [fold_low (Nat.le_refl _), f2]
  rw [e] at hr htr
  refine hQ β' a' w' ⟨by rw [hs, f1], hr, fun b hb => ?_⟩ (ht1.trans htr)
  rcases hβ : β' b with _ | bi
  ·rfl
  ·rcases hd b (by rw [hβ]; simp) with h1 | ⟨j, hj, _, p, hp, rfl⟩
   ·exact absurd (hg.bd b (by omega)) h1
   ·have := f4 j hj p hp
    omega
 cases draw with
 | false =>
  refine wpIn_region ?_
  rw [List.range_eq_range']
  have hI : Inv E ops.toList X W0 st.tm.length (asOf st) β w eff (fun j => decide (j < 0)) a w := by
   have e : fold st.tm.length (asOf st) (dstOf ops.toList) eff (fun j => decide (j < 0)) ops.toList.length = asOf st := fold_none fun j _ => by simp
   refine ⟨hg.sz, β, by rw [e]; exact hg.rel, by rw [e]; exact Tr.refl, fun b hb => Or.inl hb⟩
  have := inv_range (ro := ro) hAt' hg.bd (Q := Q) (hfin w Tr.refl) ops.size 0 (by simp) hI
  simpa using this
 | true =>
  simp only [Bool.not_true, Bool.false_or] at hok
  refine wpIn_region_any hm ?_
  obtain ⟨hd1, hd2⟩ := hg.rel.h.drew
  have e0 : lst (Array.replicate ops.size false) ops.toList.length = fun _ => false := by
   funext j
   unfold lst
   rw [Array.getD_eq_getD_getElem?, Array.getElem?_replicate]
   split <;> simp
  have hI : Inv E ops.toList X W0 st.tm.length (asOf st) β w.drew eff (lst (Array.replicate ops.size false) ops.toList.length) a w.drew := by
   rw [e0]
   have e : fold st.tm.length (asOf st) (dstOf ops.toList) eff (fun _ => false) ops.toList.length = asOf st := fold_none fun j _ => rfl
   refine ⟨hg.sz, β, ?_, by rw [e]; exact Tr.refl, fun b hb => Or.inl hb⟩
   rw [e]
   exact ⟨hd1, fun t => hd2.rep (hg.rel.tm t), hg.rel.defers.mono hd2.fr⟩
  have := inv_any (ro := ro) hAt' hg.bd (fs := [] ++ es.map fun e => (e.rd, e.ws.map (·.1))) (fun i hi => by
   have hlt : i < es.length := by rw [e2]; exact hi
   rw [List.nil_append, List.getElem?_map, List.getElem?_eq_getElem hlt, heff i es[i] (List.getElem?_eq_getElem hlt)]
   rfl) hok (Q := Q) (hfin w.drew hd2) ops.size (Array.replicate ops.size false) (by simp) (by
    refine Nat.le_trans List.countP_le_length ?_
    simp) (fun j b _ hl => by rw [e0] at hl; cases hl) hI
  simpa using this

theorem keepL_length (live : List Nat) : ∀ (xs : List (AV U)) (i : Nat), (keepL live i xs).length = xs.length
 | [], _ => rfl
 | x :: xs, i => by simp [keepL, keepL_length live xs (i + 1)]
theorem keepL_get (live : List Nat) : ∀ (xs : List (AV U)) (i t : Nat) (x : AV U), (keepL live i xs)[t]? = some x → xs[t]? = some x ∨ x = .bot
 | [], _, _, _, h => by simp [keepL] at h
 | y :: xs, i, 0, x, h => by
  simp only [keepL, List.getElem?_cons_zero, Option.some.injEq] at h
  split at h
  ·exact Or.inl (by simp [h])
  ·exact Or.inr h.symm
 | y :: xs, i, t + 1, x, h => by
  simp only [keepL, List.getElem?_cons_succ] at h
  simpa using keepL_get live xs (i + 1) t x h

theorem prefix_range {bs : List Nat} {m b : Nat} (h : (List.range m).isPrefixOf bs = true) (hb : b < m) : bs[b]? = some b := by
 rw [List.isPrefixOf_iff_prefix] at h
 obtain ⟨t, rfl⟩ := h
 rw [List.getElem?_append_left (by simpa using hb)]
 simp [hb]

theorem gc0_ok {live : List Nat} {st s : St U} (h : gc0 live st = some s) : s.m = st.m ∧ ∀ {X W0 : Nat → Prop} {β : Nat → Option BI} {a : Act} {w : World}, GRel E X W0 β st a w →
  ∃ β', GRel E X W0 β' s a w ∧ TrM st.m X W0 β st.hp.get w β' s.hp.get w := by
 unfold gc0 at h
 simp only [] at h
 split at h
 case isFalse => cases h
 rename_i hc
 generalize reach st.hp 4000 (AV.refsL (keepL live 0 st.tm) ++ (List.range st.m).flatMap fun b => (st.hp.get b).refs) (List.range st.m) = bs at h hc
 rw [Bool.and_eq_true] at hc
 obtain ⟨hc, hpre⟩ := hc
 cases h
 refine ⟨rfl, @fun X W0 β a w hg => ?_⟩
 obtain ⟨hp1, hav⟩ := hg.rel.h.part st.hp bs _ hc (fun b _ => rfl) X W0 (fun k hk => .inl hk) (fun b _ bi k hb hk hd => by
  obtain ⟨h1, h2, _⟩ := hg.rel.h.dom b bi k hb hk hd
  exact ⟨h2, h1⟩) (fun k hk => (hg.rel.h.new k hk).1)
 have hroots : ∀ b ∈ AV.refsL (keepL live 0 st.tm), b ∈ bs := by
  simp only [closedB, Bool.and_eq_true, List.all_eq_true] at hc
  intro b hb
  exact contains_mem (hc.1.1.1 b hb)
 refine ⟨subβ β bs, ⟨?_, ⟨hp1, fun t => ?_, hg.rel.defers⟩, fun b hb => ?_⟩, ⟨Fr.refl _ _, fun _ _ _ _ h => h, fun k hk _ hk' => hk (hav k hk'), fun b bi hb hβ => ?_⟩⟩
 ·rw [renL_length, keepL_length]; exact hg.sz
 ·show RepA E.cc w _ (subβ β bs) ((AV.renL (bs.idxOf ·) (keepL live 0 st.tm)).getD t .bot) _
  rw [List.getD_eq_getElem?_getD, renL_get]
  cases hx : (keepL live 0 st.tm)[t]? with
  | none => exact .bot
  | some x =>
   simp only [Option.map_some, Option.getD_some]
   rcases keepL_get live st.tm 0 t x hx with h | rfl
   ·have := hg.rel.tm t
    have e : (asOf st).tm t = x := by simp [asOf, h]
    rw [e] at this
    refine this.ren (fun k hk _ hk' => hk (hav k hk')) fun b hb bi hbi => ?_
    rw [subβ_idx (hroots b (refsL_mem (List.mem_of_getElem? hx) hb))]
    exact hbi
   ·rw [AV.ren]; exact .bot
 ·simp only [List.length_map] at hb
  simp [subβ, List.getElem?_eq_none hb]
 ·simp [subβ, prefix_range hpre hb, hβ]

theorem gc_ok (hE : EnvOK P E) {lv : Lv} {st s : St U} (h : gc E.cc lv st = some s) : s.m = st.m ∧ ∀ {X W0 : Nat → Prop} {β : Nat → Option BI} {a : Act} {w : World}, GRel E X W0 β st a w →
  ∃ β', GRel E X W0 β' s a w ∧ TrM st.m X W0 β st.hp.get w β' s.hp.get w := by
 obtain ⟨g1, g2⟩ := gc0_ok (E := E) (h : gc0 lv.live (normS E.cc lv.md st) = some s)
 obtain ⟨e1, e2, e3⟩ := normS_ok hE lv.md st
 refine ⟨g1.trans e1, @fun X W0 β a w hg => ?_⟩
 obtain ⟨β1, h1, h2, h3, h4⟩ := e3 hg.rel.h hg.bd (vs := fun t => a.tmps.getD t undef) hg.rel.tm
 obtain ⟨β2, h5, h6⟩ := g2 (β := β1) (a := a) ⟨by rw [e2]; exact hg.sz, ⟨h1, h3, hg.rel.defers⟩, h2⟩
 rw [e1] at h6
 exact ⟨β2, h5, h4.toM.trans h6⟩

def exOf : Ex → Exit
 | .normal => .normal
 | .ret => .ret
 | .exit id => .exit id

theorem noRange_ok : ∀ {c : Code}, noRange c = true → okRange c = true := by
 intro c
 induction c with
 | seq a b iha ihb => intro h; simp only [noRange, Bool.and_eq_true] at h; simp [okRange, iha h.1, ihb h.2]
 | cond c a b iha ihb => intro h; simp only [noRange, Bool.and_eq_true] at h; simp [okRange, iha h.1, ihb h.2]
 | block id b ih => intro h; exact ih h
 | scope b ih => intro h; exact ih h
 | loop b ih => intro h; exact ih h
 | rangeFunc => intro h; cases h
 | _ => intro _; rfl

def Just (E : Env U) : Code → Prop
 | .seq a b => Just E a ∧ Just E b ∧ ∀ L, E.C.lookup (loopKey b) = some L → ∀ (R : Type) (st : St U) (K : Ex → St U → Option R) (r : R), L R st K = some r → codeA E b st (outK E (loopKey b) K) = some r
 | .cond _ a b => Just E a ∧ Just E b
 | .block _ b => Just E b
 | .scope b => Just E b
 | .rangeFunc (.tmp g) ps a b => Just E a ∧ Just E b ∧ ∀ L, E.Λ.lookup (loopKey a) = some L → ∀ (R : Type) (st : St U) (K : Ex → St U → Option R) (r : R), L R st K = some r → ∃ n, loopA E (.rangeFunc (.global g) ps a b) n st K = some r
 | .loop b => Just E b ∧ ∀ L, E.Λ.lookup (loopKey b) = some L → ∀ (R : Type) (st : St U) (K : Ex → St U → Option R) (r : R), L R st K = some r → ∃ n, loopA E b n st K = some r
 | _ => True

def Ran (P : Program) (E : Env U) (c : Code) (st : St U) (K : Ex → St U → Option R) (r : R) : Prop :=
 ∃ ex st', K ex st' = some r ∧ st'.m = st.m ∧ ∀ {ro : Option Nat} {X W0 : Nat → Prop} {β : Nat → Option BI} {a : Act} {w : World} {Q : Exit → Act → World → Prop}, (ro = none ∨ noRange c = true) → GRel E X W0 β st a w →
  (∀ β' a' w', GRel E X W0 β' st' a' w' → TrM st.m X W0 β st.hp.get w β' st'.hp.get w' → Q (exOf ex) a' w') → c.wpIn (FR ro) 0 P Q a w

theorem Ran.gc (hE : EnvOK P E) {c : Code} {lv : Lv} {st s : St U} {K : Ex → St U → Option R} {r : R} (hg : gc E.cc lv st = some s) (h : Ran P E c s K r) : Ran P E c st K r := by
 obtain ⟨g1, g2⟩ := gc_ok hE hg
 obtain ⟨ex, st', hk, hm, h⟩ := h
 refine ⟨ex, st', hk, hm.trans g1, @fun ro X W0 β a w Q hro hr hQ => ?_⟩
 obtain ⟨β', h1, h2⟩ := g2 hr
 refine h hro h1 fun β2 a' w' h3 h4 => hQ β2 a' w' h3 (h2.trans ?_)
 rwa [g1] at h4

theorem Ran.out (hE : EnvOK P E) {c : Code} {key : Nat} {st : St U} {K : Ex → St U → Option R} {r : R} (h : Ran P E c st (outK E key K) r) : Ran P E c st K r := by
 obtain ⟨ex, st', hk, hm, h⟩ := h
 unfold outK at hk
 split at hk
 case h_2 => cases hk
 rename_i s hs
 obtain ⟨g1, g2⟩ := gc_ok hE hs
 refine ⟨ex, s, hk, g1.trans hm, @fun ro X W0 β a w Q hro hr hQ => ?_⟩
 refine h hro hr fun β1 a1 w1 h1 h2 => ?_
 obtain ⟨β2, h3, h4⟩ := g2 h1
 rw [hm] at h4
 exact hQ β2 a1 w1 h3 (h2.trans h4)

theorem rounds_ok (hE : EnvOK P E) {b : Code} {head out : St U → Option (St U)} (hb : ∀ (st : St U) (K : Ex → St U → Option R) (r : R), codeA E b st K = some r → Ran P E b st K r)
  (hh : ∃ l, head = gc E.cc l) (ho : ∃ l, out = gc E.cc l) : ∀ (n : Nat) (st : St U) (K : Ex → St U → Option R) (r : R), roundsA (codeA E b) head out n st K = some r →
  ∃ ex st', K ex st' = some r ∧ st'.m = st.m ∧ ∀ {ro : Option Nat} {X W0 : Nat → Prop} {β : Nat → Option BI} {a : Act} {w : World} {Q : Exit → Act → World → Prop}, (ro = none ∨ noRange b = true) → GRel E X W0 β st a w →
   (∀ β' a' w', GRel E X W0 β' st' a' w' → TrM st.m X W0 β st.hp.get w β' st'.hp.get w' → Q (exOf ex) a' w') → Code.roundsIn (FR ro) 0 P b Q n a w := by
 obtain ⟨lh, rfl⟩ := hh
 obtain ⟨lo, rfl⟩ := ho
 intro n
 induction n with
 | zero => intro st K r h; cases h
 | succ n ih =>
  intro st K r h
  rw [roundsA] at h
  obtain ⟨ex, st', hk, hm, hw⟩ := hb _ _ _ h
  have leave (hne : ∀ (N Q : Exit → Act → World → Prop) a w, Q (exOf ex) a w → Exit.then (N .normal) Q (exOf ex) a w) (hk : (match gc E.cc lo st' with | some s => K ex s | none => none) = some r) :
    ∃ ex st', K ex st' = some r ∧ st'.m = st.m ∧ ∀ {ro : Option Nat} {X W0 : Nat → Prop} {β : Nat → Option BI} {a : Act} {w : World} {Q : Exit → Act → World → Prop}, (ro = none ∨ noRange b = true) → GRel E X W0 β st a w →
     (∀ β' a' w', GRel E X W0 β' st' a' w' → TrM st.m X W0 β st.hp.get w β' st'.hp.get w' → Q (exOf ex) a' w') → Code.roundsIn (FR ro) 0 P b Q (n + 1) a w := by
   split at hk
   case h_2 => cases hk
   rename_i s hs
   obtain ⟨g1, g2⟩ := gc_ok hE hs
   refine ⟨ex, s, hk, g1.trans hm, @fun ro X W0 β a w Q hro hr hQ => ?_⟩
   rw [roundsIn_succ]
   refine hw hro hr fun β1 a1 w1 h1 h2 => hne (fun _ => Code.roundsIn (FR ro) 0 P b Q n) Q a1 w1 ?_
   obtain ⟨β2, h3, h4⟩ := g2 h1
   rw [hm] at h4
   exact hQ β2 a1 w1 h3 (h2.trans h4)
  cases ex with
  | normal =>
   simp only [] at hk
   split at hk
   case h_2 => cases hk
   rename_i s hs
   obtain ⟨g1, g2⟩ := gc_ok hE hs
   obtain ⟨ex, st2, hk2, hm2, hw2⟩ := ih s K r hk
   refine ⟨ex, st2, hk2, hm2.trans (g1.trans hm), @fun ro X W0 β a w Q hro hr hQ => ?_⟩
   rw [roundsIn_succ]
   refine hw hro hr fun β1 a1 w1 h1 h2 => ?_
   obtain ⟨β2, h3, h4⟩ := g2 h1
   rw [hm] at h4
   refine hw2 hro h3 fun β3 a3 w3 h5 h6 => hQ β3 a3 w3 h5 ?_
   rw [g1, hm] at h6
   exact (h2.trans h4).trans h6
  | ret => exact leave (fun _ _ _ _ h => h) hk
  | exit id => exact leave (fun _ _ _ _ h => h) hk

end Go.Proofs.Ytmlbioapefgioaa.Va

/- A loop over a function. -/
namespace Go.Proofs.Ytmlbioapefgioaa.Va
open Go

variable {U : Nat → Type} {R : Type} {P : Program} {E : Env U}

theorem Grown.refl (w : World) : Grown w w := ⟨rfl, rfl, rfl, Nat.le_refl _, fun _ _ => rfl⟩
theorem Grown.trans {a b c : World} (h : Grown a b) (g : Grown b c) : Grown a c :=
 ⟨g.os.trans h.os, g.tape.trans h.tape, g.output.trans h.output, Nat.le_trans h.size g.size, fun k hk => (g.block k (Nat.lt_of_lt_of_le hk h.size)).trans (h.block k hk)⟩
theorem Grown.alloc (w : World) (o : Obj) : Grown w (w.alloc o) := ⟨rfl, rfl, rfl, by simp, fun k hk => RowKit.Below.heap_alloc w o k hk⟩
theorem Grown.some {w w' : World} (h : Grown w w') {k : Nat} {o : Obj} (hk : w.heap[k]? = some o) : w'.heap[k]? = Option.some o :=
 (h.block k (Array.getElem?_eq_some_iff.1 hk).1).trans hk
theorem HRel.grown {X W0 : Nat → Prop} {β : Nat → Option BI} {hp : Nat → Blk U} {w w' : World} (h : HRel E.cc X W0 β hp w) (g : Grown w w') : HRel E.cc X W0 β hp w' ∧ Tr X W0 β hp w β hp w' :=
 h.world g.os g.tape g.output g.size g.block

structure FrL (l : Nat) (W0 : Nat → Prop) (w w' : World) : Prop where
 os : w'.os = w.os
 tape : w'.tape = w.tape
 output : w'.output = w.output
 size : w.heap.size ≤ w'.heap.size
 block : ∀ k, k < w.heap.size → k ≠ l → ¬ W0 k → w'.heap[k]? = w.heap[k]?
 kind : ∀ (k : Nat) (o : Obj), k ≠ l → w.heap[k]? = some o → ∃ o', w'.heap[k]? = some o' ∧ fixedO o' = fixedO o ∧ (fixedO o = true → o' = o)
theorem Fr.toL {W0 : Nat → Prop} {w w' : World} (h : Fr W0 w w') (l : Nat) : FrL l W0 w w' := ⟨h.os, h.tape, h.output, h.size, fun k hk _ hw => h.block k hk hw, fun k o _ ho => h.kind k o ho⟩
theorem FrL.trans {l : Nat} {W0 : Nat → Prop} {a b c : World} (h : FrL l W0 a b) (g : FrL l W0 b c) : FrL l W0 a c :=
 ⟨g.os.trans h.os, g.tape.trans h.tape, g.output.trans h.output, Nat.le_trans h.size g.size,
  fun k hk hl hw => (g.block k (Nat.lt_of_lt_of_le hk h.size) hl hw).trans (h.block k hk hl hw), fun k o hl ho => by
   obtain ⟨o1, h1, h2, h3⟩ := h.kind k o hl ho
   obtain ⟨o2, g1, g2, g3⟩ := g.kind k o1 hl h1
   refine ⟨o2, g1, g2.trans h2, fun hf => ?_⟩
   have := h3 hf
   subst this
   exact g3 hf⟩
theorem Fr.thenL {l : Nat} {W0 : Nat → Prop} {a b c : World} (h : Fr W0 a b) (hl : a.heap.size ≤ l) (g : FrL l W0 b c) : Fr W0 a c :=
 ⟨g.os.trans h.os, g.tape.trans h.tape, g.output.trans h.output, Nat.le_trans h.size g.size,
  fun k hk hw => (g.block k (Nat.lt_of_lt_of_le hk h.size) (by omega) hw).trans (h.block k hk hw), fun k o ho => by
   have hk := (Array.getElem?_eq_some_iff.1 ho).1
   obtain ⟨o1, h1, h2, h3⟩ := h.kind k o ho
   obtain ⟨o2, g1, g2, g3⟩ := g.kind k o1 (by omega) h1
   refine ⟨o2, g1, g2.trans h2, fun hf => ?_⟩
   have := h3 hf
   subst this
   exact g3 hf⟩
theorem Fr.wider {W0 W1 : Nat → Prop} {w w' : World} (h : Fr W1 w w') (hw : ∀ k, W1 k → W0 k) : Fr W0 w w' :=
 ⟨h.os, h.tape, h.output, h.size, fun k hk hn => h.block k hk fun h' => hn (hw k h'), h.kind⟩
theorem FrL.wider {l : Nat} {W0 W1 : Nat → Prop} {w w' : World} (h : FrL l W1 w w') (hw : ∀ k, W1 k → W0 k) : FrL l W0 w w' :=
 ⟨h.os, h.tape, h.output, h.size, fun k hk hl hn => h.block k hk hl fun h' => hn (hw k h'), h.kind⟩

structure TrL (l : Nat) (X W0 : Nat → Prop) (β : Nat → Option BI) (hp : Nat → Blk U) (w : World) (β' : Nat → Option BI) (hp' : Nat → Blk U) (w' : World) : Prop where
 fr : FrL l W0 w w'
 keeps : Keeps (avOf X β hp) w w'
 av : ∀ k, ¬ avOf X β hp k → k < w.heap.size → ¬ avOf X β' hp' k
 β : ∀ b bi, β b = some bi → β' b = some bi
section
variable {X W0 : Nat → Prop} {β β' β₂ : Nat → Option BI} {hp hp' hp₂ : Nat → Blk U} {w w' w₂ : World} {m l : Nat}
theorem TrL.trans (h : TrL l X W0 β hp w β' hp' w') (g : TrL l X W0 β' hp' w' β₂ hp₂ w₂) : TrL l X W0 β hp w β₂ hp₂ w₂ := by
 refine ⟨h.fr.trans g.fr, fun k off v hk hc => ?_, fun k hk hlt => g.av k (h.av k hk hlt) (Nat.lt_of_lt_of_le hlt h.fr.size), fun b bi hb => g.β b bi (h.β b bi hb)⟩
 have hlt : k < w.heap.size := World.block_lt_of_cell? w ⟨k, off, none⟩ hc
 exact g.keeps k off v (h.av k hk hlt) (h.keeps k off v hk hc)
theorem TrM.thenL (h : TrM m X W0 β hp w β' hp' w') (hl : w.heap.size ≤ l) (g : TrL l X W0 β' hp' w' β₂ hp₂ w₂) : TrM m X W0 β hp w β₂ hp₂ w₂ := by
 refine ⟨h.fr.thenL hl g.fr, fun k off v hk hc => ?_, fun k hk hlt => g.av k (h.av k hk hlt) (Nat.lt_of_lt_of_le hlt h.fr.size), fun b bi hm hb => g.β b bi (h.β b bi hm hb)⟩
 have hlt : k < w.heap.size := World.block_lt_of_cell? w ⟨k, off, none⟩ hc
 exact g.keeps k off v (h.av k hk hlt) (h.keeps k off v hk hc)
structure TrN (l m : Nat) (X W0 : Nat → Prop) (β : Nat → Option BI) (hp : Nat → Blk U) (w : World) (β' : Nat → Option BI) (hp' : Nat → Blk U) (w' : World) : Prop where
 fr : FrL l W0 w w'
 keeps : Keeps (avOf X β hp) w w'
 av : ∀ k, ¬ avOf X β hp k → k < w.heap.size → ¬ avOf X β' hp' k
 β : ∀ b bi, b < m → β b = some bi → β' b = some bi
theorem TrL.toN (h : TrL l X W0 β hp w β' hp' w') (m : Nat) : TrN l m X W0 β hp w β' hp' w' := ⟨h.fr, h.keeps, h.av, fun b bi _ hb => h.β b bi hb⟩
theorem TrM.toN (h : TrM m X W0 β hp w β' hp' w') (l : Nat) : TrN l m X W0 β hp w β' hp' w' := ⟨h.fr.toL l, h.keeps, h.av, h.β⟩
theorem TrN.all {n : Nat} (h : TrN l n X W0 β hp w β' hp' w') (hn : ∀ b, n ≤ b → β b = none) : ∀ b bi, β b = some bi → β' b = some bi := fun b bi hb => h.β b bi (by
 rcases Nat.lt_or_ge b n with h1 | h1
 ·exact h1
 ·rw [hn b h1] at hb; cases hb) hb
theorem TrN.thenL (h : TrN l m X W0 β hp w β' hp' w') (g : TrL l X W0 β' hp' w' β₂ hp₂ w₂) : TrN l m X W0 β hp w β₂ hp₂ w₂ := by
 refine ⟨h.fr.trans g.fr, fun k off v hk hc => ?_, fun k hk hlt => g.av k (h.av k hk hlt) (Nat.lt_of_lt_of_le hlt h.fr.size), fun b bi hm hb => g.β b bi (h.β b bi hm hb)⟩
 have hlt : k < w.heap.size := World.block_lt_of_cell? w ⟨k, off, none⟩ hc
 exact g.keeps k off v (h.av k hk hlt) (h.keeps k off v hk hc)
theorem TrN.trans (h : TrN l m X W0 β hp w β' hp' w') (g : TrM m X W0 β' hp' w' β₂ hp₂ w₂) : TrN l m X W0 β hp w β₂ hp₂ w₂ := by
 refine ⟨h.fr.trans (g.fr.toL l), fun k off v hk hc => ?_, fun k hk hlt => g.av k (h.av k hk hlt) (Nat.lt_of_lt_of_le hlt h.fr.size), fun b bi hm hb => g.β b bi hm (h.β b bi hm hb)⟩
 have hlt : k < w.heap.size := World.block_lt_of_cell? w ⟨k, off, none⟩ hc
 exact g.keeps k off v (h.av k hk hlt) (h.keeps k off v hk hc)
theorem TrM.thenN {W1 : Nat → Prop} (h : TrM m X W0 β hp w β' hp' w') (hl : w.heap.size ≤ l) (g : TrN l m X W1 β' hp' w' β₂ hp₂ w₂) (hw : ∀ k, W1 k → W0 k) : TrM m X W0 β hp w β₂ hp₂ w₂ := by
 refine ⟨h.fr.thenL hl (g.fr.wider hw), fun k off v hk hc => ?_, fun k hk hlt => g.av k (h.av k hk hlt) (Nat.lt_of_lt_of_le hlt h.fr.size), fun b bi hm hb => g.β b bi hm (h.β b bi hm hb)⟩
 have hlt : k < w.heap.size := World.block_lt_of_cell? w ⟨k, off, none⟩ hc
 exact g.keeps k off v (h.av k hk hlt) (h.keeps k off v hk hc)
theorem TrM.wider {W1 : Nat → Prop} (h : TrM m X W1 β hp w β' hp' w') (hw : ∀ k, W1 k → W0 k) : TrM m X W0 β hp w β' hp' w' := ⟨h.fr.wider hw, h.keeps, h.av, h.β⟩
end

theorem blk_unfixed {cc : (T : Nat) → Cod U T} {w : World} {av : Nat → Prop} {β : Nat → Option BI} {bi : BI} {x : Blk U} (h : BlkOK cc w av β bi x) (hd : x.isDead = false) {k : Nat} (hk : bi.k = some k) {o : Obj} (ho : w.heap[k]? = some o) : fixedO o = false := by
 cases x with
 | dead => cases hd
 | var cs =>
  obtain ⟨k', c, t, hk', hh, _⟩ := h
  rw [hk] at hk'; cases hk'
  rw [hh] at ho; cases ho; rfl
 | row T l live =>
  obtain ⟨_, _, _, hs⟩ := h
  obtain ⟨_, _, c, t, hh, _⟩ := hs k hk
  rw [hh] at ho; cases ho; rfl
 | map l =>
  obtain ⟨k', es, clk, hk', hh, _⟩ := h
  rw [hk] at hk'; cases hk'
  rw [hh] at ho; cases ho; rfl

section
variable {X W0 : Nat → Prop} {β : Nat → Option BI} {hp : Nat → Blk U} {w : World} {l : Nat} {o : Obj}
theorem keeps_put (av : Nat → Prop) (hl : w.heap[l]? = some o) (ho : fixedO o = true) (o' : Obj) : Keeps av w (w.putObj l o') := by
 intro k off v _ hc
 have hne : k ≠ l := by
  intro e
  subst e
  unfold World.cell? at hc
  simp only [hl] at hc
  cases o <;> first | (cases ho; done) | (simp at hc)
 rw [World.cell?_of_block (w := w) (World.putObj_heap_other hne)]
 exact hc
theorem HRel.put (h : HRel E.cc X W0 β hp w) (hl : w.heap[l]? = some o) (ho : fixedO o = true) (o' : Obj) :
  HRel E.cc X W0 β hp (w.putObj l o') ∧ TrL l X W0 β hp w β hp (w.putObj l o') := by
 have hk := keeps_put (avOf X β hp) hl ho o'
 refine ⟨⟨fun b bi hb => ?_, fun b bi k hb hbk hd => ?_, fun k hk' => h.new k (by simpa using hk'), h.inj⟩, ⟨⟨rfl, rfl, rfl, by simp, fun k _ hne _ => World.putObj_heap_other hne, fun k ob hne hob => ⟨ob, by rw [World.putObj_heap_other hne]; exact hob, rfl, fun _ => rfl⟩⟩, hk, fun _ h _ => h, fun _ _ h => h⟩⟩
 ·have hok := h.ok b bi hb
  by_cases hd : (hp b).isDead = true
  ·exact BlkOK.of_dead hd
  ·refine hok.mono hk (fun _ h _ => h) (fun _ _ h => h) fun k hbk => World.putObj_heap_other fun e => ?_
   subst e
   rw [blk_unfixed hok (by simpa using hd) hbk hl] at ho
   cases ho
 ·have := h.dom b bi k hb hbk hd
  exact ⟨this.1, this.2.1, by simpa using this.2.2⟩
theorem DefOK.put {ds : List Deferred} (h : DefOK W0 ds w) {r : Loop} (hl : w.heap[l]? = some (.loop r)) (o' : Obj) : DefOK W0 ds (w.putObj l o') :=
 ⟨fun d hd => by
  obtain ⟨k, e, h1, h2⟩ := h.mark d hd
  exact ⟨k, e, by rw [World.putObj_heap_other (fun e => by subst e; rw [hl] at h1; cases h1)]; exact h1, h2⟩, h.apart⟩
theorem GRel.put {st : St U} {a : Act} (h : GRel E X W0 β st a w) {r : Loop} (hl : w.heap[l]? = some (.loop r)) (o' : Obj) :
  GRel E X W0 β st a (w.putObj l o') ∧ TrL l X W0 β st.hp.get w β st.hp.get (w.putObj l o') := by
 obtain ⟨h1, h2⟩ := h.rel.h.put (E := E) hl rfl o'
 exact ⟨⟨h.sz, ⟨h1, fun t => (h.rel.tm t).mono h2.keeps (fun _ h _ => h) (fun _ _ h => h), h.rel.defers.put hl o'⟩, h.bd⟩, h2⟩
theorem GRel.grown {st : St U} {a : Act} {w' : World} (h : GRel E X W0 β st a w) (g : Grown w w') : GRel E X W0 β st a w' ∧ Tr X W0 β st.hp.get w β st.hp.get w' := by
 obtain ⟨h1, h2⟩ := h.rel.h.grown g
 exact ⟨⟨h.sz, ⟨h1, fun t => h2.rep (h.rel.tm t), h.rel.defers.mono h2.fr⟩, h.bd⟩, h2⟩
theorem deadH_ok : ∀ (bs : List Nat) {hp : Hp U}, HRel E.cc X W0 β hp.get w → (∀ b ∈ bs, b < hp.length) → HRel E.cc X W0 β (deadH bs hp).get w ∧ Tr X W0 β hp.get w β (deadH bs hp).get w ∧ (deadH bs hp).length = hp.length ∧ ∀ b, (b ∈ bs → (deadH bs hp).get b = .dead) ∧ (b ∉ bs → (deadH bs hp).get b = hp.get b)
  | [], hp, h, _ => ⟨h, Tr.refl, rfl, fun b => ⟨(fun h => nomatch h), fun _ => rfl⟩⟩
  | c :: bs, hp, h, hb => by
    have hc := hb c (by simp)
    obtain ⟨h1, t1⟩ := h.dead c
    rw [← set1_upd1] at h1 t1
    have hlen : (hp.set1 c .dead).length = hp.length := by unfold Hp.set1; rw [if_pos hc]; simp
    obtain ⟨h2, t2, h3, h4⟩ := deadH_ok bs h1 (fun b hb' => by rw [hlen]; exact hb b (by simp [hb']))
    refine ⟨h2, t1.trans t2, h3.trans hlen, fun b => ⟨fun hm => ?_, fun hm => ?_⟩⟩
    · by_cases hbb : b ∈ bs
      · exact (h4 b).1 hbb
      · have e : b = c := by simpa [hbb] using hm
        subst e
        exact ((h4 b).2 hbb).trans (by rw [set1_get]; simp)
    · simp only [List.mem_cons, not_or] at hm
      exact ((h4 b).2 hm.2).trans (by rw [set1_get, if_neg hm.1])
end

def jumpOf : Ex → Option Code
 | .normal => none
 | .ret => some .ret
 | .exit id => some (.exit id)
def overS (g : Tmp) (v : AV U) (st : St U) (h : Hp U) : Ex → St U
 | .normal => ⟨st.tm.set g v, h, st.m⟩
 | _ => ⟨st.tm, h, st.m⟩
def RoundTo (P : Program) (E : Env U) (p : Tmp) (assign body : Code) (el : AV U) (s : St U) (ex : Ex) (s' : St U) : Prop :=
 ∀ (X W0 : Nat → Prop) (β : Nat → Option BI) (a : Act) (W : World) (l fn : Nat) (vv : Value) (rc : LoopState → Option Code → Loop), GRel E X W0 β s a W → a.defers = [] →
  (∀ (w : World) (av : Nat → Prop) (β : Nat → Option BI), RepA E.cc w av β el vv) → W.heap[l]? = some (.loop (rc .ready none)) →
  (∀ st pe st' pe', { rc st pe with state := st', pending := pe' } = rc st' pe') → (∀ st pe, (rc st pe).state = st) →
  ∀ Rr : Ending → World → Prop, (∀ β' W', GRel E X W0 β' s' a W' → TrN l s.m X W0 β s.hp.get W β' s'.hp.get W' → W'.heap[l]? = some (.loop (rc (if (jumpOf ex).isNone then .ready else .done) (jumpOf ex))) → Rr (.returned (.bool (jumpOf ex).isNone)) W') →
   RoundIn (FR none) 0 P l fn (a.tmps.setIfInBounds p vv) assign body W Rr

theorem RoundTo.gc (hE : EnvOK P E) {p : Tmp} {assign body : Code} {el : AV U} {s s' s'' : St U} {ex : Ex} {lv : Lv} (h : RoundTo P E p assign body el s ex s') (hm : s'.m = s.m) (hg : gc E.cc lv s' = some s'') : RoundTo P E p assign body el s ex s'' := by
 obtain ⟨_, g2⟩ := gc_ok hE hg
 intro X W0 β a W l fn vv rc h1 h2 h3 h4 h5 h6 Rr hR
 refine h X W0 β a W l fn vv rc h1 h2 h3 h4 h5 h6 Rr fun β' W' k1 k2 k3 => ?_
 obtain ⟨β2, q1, q2⟩ := g2 k1
 rw [hm] at q2
 exact hR β2 W' q1 (k2.trans q2) k3

theorem fixed_kept {W0 : Nat → Prop} {w w' : World} (h : Fr W0 w w') {k : Nat} {o : Obj} (hk : w.heap[k]? = some o) (ho : fixedO o = true) : w'.heap[k]? = some o := by
 obtain ⟨o', h1, _, h3⟩ := h.kind k o hk
 rw [h3 ho] at h1
 exact h1

theorem round_ok {g p : Tmp} {assign body : Code} (hA : ∀ (st : St U) (K : Ex → St U → Option R) (r : R), codeA E assign st K = some r → Ran P E assign st K r)
  (hB : ∀ (st : St U) (K : Ex → St U → Option R) (r : R), codeA E body st K = some r → Ran P E body st K r) (hna : noRange assign = true) (hnb : noRange body = true)
  {st : St U} {K : Ex → St U → Option R} {r : R} {el v : AV U} (hgh : ∃ T l i, v = .gh T l i)
  (h : codeA E assign ⟨st.tm.set p el, st.hp, st.hp.length⟩ (fun ex s1 => match ex with | .normal => codeA E body s1 (overK g v st K) | _ => none) = some r) :
  ∃ ex h2, ex ≠ .exit doneX ∧ K ex (overS g v st h2 ex) = some r ∧ RoundTo P E p assign body el st ex (overS g v st h2 ex) := by
 obtain ⟨ex1, s1, hk1, hm1, hw1⟩ := hA _ _ _ h
 cases ex1 with
 | ret => cases hk1
 | exit id => cases hk1
 | normal =>
 obtain ⟨ex, s2, hk2, hm2, hw2⟩ := hB _ _ _ hk1
 simp only [] at hm1
 have hK : ex ≠ .exit doneX ∧ K ex (overS g v st s2.hp ex) = some r := by
  cases ex with
  | normal => exact ⟨by simp, hk2⟩
  | ret => exact ⟨by simp, hk2⟩
  | exit id =>
   simp only [overK] at hk2
   split at hk2
   ·cases hk2
   ·rename_i hne
    exact ⟨fun e => hne (by simpa using e), hk2⟩
 refine ⟨ex, s2.hp, hK.1, hK.2, ?_⟩
 intro X W0 β a W l fn vv rc hg hd hvv hl hrc hst Rr hR
 refine roundIn_of_wpIn (F := FR none) trivial ?_
 have hg1 : GRel E X W0 β ⟨st.tm.set p el, st.hp, st.hp.length⟩ { tmps := a.tmps.setIfInBounds p vv, defers := [] } W := by
  refine ⟨by simp [hg.sz], ⟨hg.rel.h, fun t => ?_, DefOK.nil _ _⟩, hg.bd⟩
  have := hg.rel.tm t
  simp only [asOf] at this ⊢
  rw [List.getD_eq_getElem?_getD, List.getElem?_set, Array.getD_eq_getD_getElem?, Array.getElem?_setIfInBounds]
  rw [List.getD_eq_getElem?_getD, Array.getD_eq_getD_getElem?] at this
  by_cases e : p = t
  ·subst e
   have hsz := hg.sz
   by_cases hlt : p < st.tm.length
   ·rw [if_pos rfl, if_pos hlt, if_pos rfl, if_pos (by rw [hsz]; exact hlt)]
    exact hvv _ _ _
   ·rw [if_pos rfl, if_neg hlt, if_pos rfl, if_neg (by rw [hsz]; exact hlt)]
    exact .bot
  ·rw [if_neg e, if_neg e]
   exact this
 refine hw1 (ro := some l) (Or.inr hna) hg1 fun β1 a1 w1 h1 t1 => ?_
 have hl1 := fixed_kept t1.fr hl rfl
 refine ⟨_, run_beginRound hl1 (hst _ _), ?_⟩
 obtain ⟨g2, t2⟩ := h1.put hl1 (.loop { rc .ready none with state := .busy })
 have hl2 : (w1.putObj l (.loop { rc .ready none with state := .busy })).heap[l]? = some (.loop { rc .ready none with state := .busy }) := World.putObj_heap_same (Array.getElem?_eq_some_iff.1 hl1).1
 refine hw2 (ro := some l) (Or.inr hnb) g2 fun β3 a3 w3 h3 t3 => ?_
 have hl3 := fixed_kept t3.fr hl2 rfl
 -- all of the round
 rw [hm1] at t3
 have t4 := ((t1.toN l).thenL t2).trans t3
 have t5 : ∀ o', TrN l st.hp.length X W0 β st.hp.get W β3 s2.hp.get (w3.putObj l o') := fun o' => t4.thenL (h3.put hl3 o').2
 have fin : ∀ (jump : Option Code) (tm : List (AV U)), (∀ t, tm.getD t .bot = st.tm.getD t .bot ∨ ∃ T l i, tm.getD t .bot = .gh T l i) → tm.length = st.tm.length →
   (Instr.endRound l jump).run P w3 = .ok (.bool jump.isNone) (w3.putObj l (.loop (rc (if jump.isNone then .ready else .done) jump))) ∧
   (w3.putObj l (.loop (rc (if jump.isNone then .ready else .done) jump))).heap[l]? = some (.loop (rc (if jump.isNone then .ready else .done) jump)) ∧
   GRel E X W0 β3 ⟨tm, s2.hp, st.m⟩ a (w3.putObj l (.loop (rc (if jump.isNone then .ready else .done) jump))) ∧
   TrN l st.m X W0 β st.hp.get W β3 s2.hp.get (w3.putObj l (.loop (rc (if jump.isNone then .ready else .done) jump))) := by
  intro jump tm htm hlen
  have hrun : (Instr.endRound l jump).run P w3 = .ok (.bool jump.isNone) (w3.putObj l (.loop (rc (if jump.isNone then .ready else .done) jump))) :=
   (run_endRound (P := P) jump hl3).trans (congrArg (fun x => Result.ok (Value.bool jump.isNone) (World.putObj w3 l (.loop x))) (hrc .ready none (if jump.isNone then .ready else .done) jump))
  have t6 := t5 (.loop (rc (if jump.isNone then .ready else .done) jump))
  refine ⟨hrun, World.putObj_heap_same (Array.getElem?_eq_some_iff.1 hl3).1, ⟨by rw [hlen]; exact hg.sz, ⟨(h3.put hl3 _).1.rel.h, fun t => ?_, by rw [hd]; exact DefOK.nil _ _⟩, h3.bd⟩, ⟨t6.fr, t6.keeps, t6.av, fun b bi _ hb => t6.all hg.bd b bi hb⟩⟩
  show RepA E.cc _ _ β3 (tm.getD t .bot) _
  rcases htm t with e | ⟨T, l, i, e⟩
  ·rw [e]
   exact (hg.rel.tm t).mono t6.keeps t6.av (t6.all hg.bd)
  ·rw [e]; exact .gh
 have same : ∀ t, st.tm.getD t .bot = st.tm.getD t .bot ∨ ∃ T l i, st.tm.getD t .bot = .gh T l i := fun _ => .inl rfl
 cases ex with
 | normal =>
  obtain ⟨f1, f2, f3, f4⟩ := fin none (st.tm.set g v) (fun t => by
   rw [List.getD_eq_getElem?_getD, List.getD_eq_getElem?_getD, List.getElem?_set]
   by_cases e : g = t
   ·subst e
    by_cases hlt : g < st.tm.length
    ·rw [if_pos rfl, if_pos hlt]; exact .inr hgh
    ·rw [if_pos rfl, if_neg hlt, List.getElem?_eq_none (Nat.le_of_not_lt hlt)]; exact .inl rfl
   ·rw [if_neg e]; exact .inl rfl) (by simp)
  exact ⟨_, _, f1, hR β3 _ f3 f4 f2⟩
 | ret =>
  obtain ⟨f1, f2, f3, f4⟩ := fin (some .ret) st.tm same rfl
  exact ⟨_, _, f1, hR β3 _ f3 f4 f2⟩
 | exit id =>
  obtain ⟨f1, f2, f3, f4⟩ := fin (some (.exit id)) st.tm same rfl
  exact ⟨_, _, f1, hR β3 _ f3 f4 f2⟩

theorem normP_gh {cc : (T : Nat) → Cod U T} (md : Md) (q : List Ps) (T : Nat) (xs : List (U T)) (i : Int) (h : Hp U) : normP cc md q (.gh T xs i) h = (.gh T xs i, h) := by
 cases q with
 | nil => cases md <;> rfl
 | cons a q => cases a <;> rfl
theorem normS_gh {cc : (T : Nat) → Cod U T} {g : Tmp} {T : Nat} {xs : List (U T)} {i : Int} : ∀ (ms : List (Nat × List Ps × Md)) {st : St U}, st.tm.getD g .bot = .gh T xs i → (normS cc ms st).tm.getD g .bot = .gh T xs i
 | [], st, h => h
 | (t, q, md) :: ms, st, h => by
  rw [normS]
  refine normS_gh ms ?_
  show (st.tm.set t _).getD g .bot = _
  by_cases e : t = g
  ·subst e
   rw [h, normP_gh, List.getD_eq_getElem?_getD, List.getElem?_set, if_pos rfl]
   split
   ·rfl
   ·rename_i hlt
    rw [List.getD_eq_getElem?_getD, List.getElem?_eq_none (Nat.le_of_not_lt hlt)] at h
    cases h
  ·rw [List.getD_eq_getElem?_getD, List.getElem?_set, if_neg e, ← List.getD_eq_getElem?_getD]
   exact h
theorem gc_gh {cc : (T : Nat) → Cod U T} {lv : Lv} {g : Tmp} {T : Nat} {xs : List (U T)} {i : Int} {st s : St U} (h : st.tm.getD g .bot = .gh T xs i) (hg : gc cc lv st = some s) : s.tm.getD g .bot = .gh T xs i ∨ s.tm.getD g .bot = .bot := by
 have h1 := normS_gh (cc := cc) lv.md h
 unfold gc gc0 at hg
 simp only [] at hg
 split at hg
 case isFalse => cases hg
 cases hg
 simp only [List.getD_eq_getElem?_getD, renL_get]
 cases hx : (keepL lv.live 0 (normS cc lv.md st).tm)[g]? with
 | none => exact .inr rfl
 | some x =>
  simp only [Option.map_some, Option.getD_some]
  rcases keepL_get _ _ _ _ _ hx with e | e
  ·rw [List.getD_eq_getElem?_getD, e] at h1
   simp only [Option.getD_some] at h1
   subst h1
   exact .inl (by rw [AV.ren])
  ·subst e
   exact .inr (by rw [AV.ren])

theorem rounds_trace (hE : EnvOK P E) {g p : Tmp} {ps : Array Tmp} {assign body : Code} (hps : ps.toList = [p])
    (hA : ∀ (st : St U) (K : Ex → St U → Option R) (r : R), codeA E assign st K = some r → Ran P E assign st K r)
    (hB : ∀ (st : St U) (K : Ex → St U → Option R) (r : R), codeA E body st K = some r → Ran P E body st K r) (hna : noRange assign = true) (hnb : noRange body = true)
    {T : Nat} {xs : List (U T)} : ∀ (n i : Nat) (st : St U) (K : Ex → St U → Option R) (r : R), (st.tm.getD g .bot = .gh T xs (i : Int) ∨ st.tm.getD g .bot = .bot) → i ≤ xs.length →
    loopA E (.rangeFunc (.global g) ps assign body) n st K = some r →
    ∃ (k : Nat) (S : Nat → St U) (ex : Ex) (st' : St U), S i = st ∧ i ≤ k ∧ k ≤ xs.length ∧ K ex st' = some r ∧ st'.m = st.m ∧ (∀ j, i ≤ j → j ≤ k → (S j).m = st.m) ∧
      (∀ j, i ≤ j → j < k → ∀ x, xs[j]? = some x → RoundTo P E p assign body (elV ((E.cc T).enc x)) (S j) .normal (S (j + 1))) ∧
      ((k = xs.length ∧ ex = .exit doneX ∧ ∃ lv, gc E.cc lv (S k) = some st') ∨
       (k < xs.length ∧ ex ≠ .normal ∧ ex ≠ .exit doneX ∧ ∀ x, xs[k]? = some x → RoundTo P E p assign body (elV ((E.cc T).enc x)) (S k) ex st')) := by
  intro n
  induction n with
  | zero => intro i st K r _ _ h; cases h
  | succ n ih =>
    intro i st K r hgh hi h
    unfold loopA at h
    rw [roundsA, codeA, hps] at h
    simp only [] at h
    rcases hgh with hgh | hgh
    rotate_left
    · rw [hgh] at h; cases h
    rw [hgh] at h
    simp only [] at h
    split at h
    · rename_i hlt
      have hlt : i < xs.length := by omega
      rw [Int.toNat_natCast, List.getElem?_eq_getElem hlt] at h
      simp only [] at h
      obtain ⟨ex, h2, hne, hk, hround⟩ := round_ok hA hB hna hnb ⟨_, _, _, rfl⟩ h
      have hxi : ∀ x, xs[i]? = some x → x = xs[i] := fun x hx => by rw [List.getElem?_eq_getElem hlt] at hx; exact (Option.some.inj hx).symm
      have leave (hnn : ex ≠ .normal) (hk : (match gc E.cc (E.D (loopKey (.rangeFunc (.global g) ps assign body))).2 (overS g (.gh T xs ((i : Int) + 1)) st h2 ex) with | some s => K ex s | none => none) = some r) :
          ∃ (k : Nat) (S : Nat → St U) (ex : Ex) (st' : St U), S i = st ∧ i ≤ k ∧ k ≤ xs.length ∧ K ex st' = some r ∧ st'.m = st.m ∧ (∀ j, i ≤ j → j ≤ k → (S j).m = st.m) ∧
            (∀ j, i ≤ j → j < k → ∀ x, xs[j]? = some x → RoundTo P E p assign body (elV ((E.cc T).enc x)) (S j) .normal (S (j + 1))) ∧
            ((k = xs.length ∧ ex = .exit doneX ∧ ∃ lv, gc E.cc lv (S k) = some st') ∨
             (k < xs.length ∧ ex ≠ .normal ∧ ex ≠ .exit doneX ∧ ∀ x, xs[k]? = some x → RoundTo P E p assign body (elV ((E.cc T).enc x)) (S k) ex st')) := by
        split at hk
        case h_2 => cases hk
        rename_i s hs
        have hm : (overS g (.gh T xs ((i : Int) + 1)) st h2 ex).m = st.m := by cases ex <;> rfl
        refine ⟨i, fun _ => st, ex, s, rfl, Nat.le_refl _, hi, hk, (gc_ok hE hs).1.trans hm, fun _ _ _ => rfl, fun j h1 h2 => by omega, .inr ⟨hlt, hnn, hne, fun x hx => ?_⟩⟩
        rw [hxi x hx]
        exact hround.gc hE hm hs
      cases ex with
      | ret => exact leave (by simp) hk
      | exit id => exact leave (by simp) hk
      | normal =>
        simp only [] at hk
        split at hk
        case h_2 => cases hk
        rename_i s hs
        have hgl : g < st.tm.length := by
          rcases Nat.lt_or_ge g st.tm.length with h | h
          · exact h
          · rw [List.getD_eq_getElem?_getD, List.getElem?_eq_none h] at hgh; cases hgh
        have hm : (overS g (.gh T xs ((i : Int) + 1)) st h2 .normal).m = st.m := rfl
        have hg' : (overS g (.gh T xs ((i : Int) + 1)) st h2 .normal).tm.getD g .bot = .gh T xs (((i + 1 : Nat) : Int)) := by
          show (st.tm.set g _).getD g .bot = _
          rw [List.getD_eq_getElem?_getD, List.getElem?_set, if_pos rfl, if_pos hgl]
          rfl
        have hms := (gc_ok hE hs).1.trans hm
        obtain ⟨k, S, ex, st', a1, a2, a3, a4, a5, a6, a7, a8⟩ := ih (i + 1) s K r (gc_gh hg' hs) hlt hk
        refine ⟨k, fun j => if j = i then st else S j, ex, st', by simp, by omega, a3, a4, a5.trans hms, fun j h1 h3 => ?_, fun j h1 h3 x hx => ?_, ?_⟩
        · by_cases e : j = i
          · simp [e]
          · simp only [e, if_false]; exact (a6 j (by omega) h3).trans hms
        · by_cases e : j = i
          · subst e
            simp only [if_true, show ¬ j + 1 = j by omega, if_false]
            rw [a1, hxi x hx]
            exact hround.gc hE hm hs
          · simp only [e, show ¬ j + 1 = i by omega, if_false]
            exact a7 j (by omega) h3 x hx
        · have e : k ≠ i := by omega
          simp only [e, if_false]
          exact a8
    · rename_i hge
      have he : i = xs.length := by omega
      split at h
      case h_2 => cases h
      rename_i s hs
      exact ⟨i, fun _ => st, .exit doneX, s, rfl, Nat.le_refl _, hi, h, (gc_ok hE hs).1, fun _ _ _ => rfl, fun j h1 h2 => by omega, .inl ⟨he, rfl, _, hs⟩⟩

theorem HRel.narrow {X W0 W1 : Nat → Prop} {β : Nat → Option BI} {hp : Nat → Blk U} {w : World} (h : HRel E.cc X W0 β hp w) (hd : ∀ b bi k, β b = some bi → bi.k = some k → (hp b).isDead = false → W1 k) (hn : ∀ k, w.heap.size ≤ k → W1 k) : HRel E.cc X W1 β hp w :=
 ⟨h.ok, fun b bi k h1 h2 h3 => ⟨hd b bi k h1 h2 h3, (h.dom b bi k h1 h2 h3).2⟩, fun k hk => ⟨hn k hk, (h.new k hk).2⟩, h.inj⟩

theorem range_ok (hE : EnvOK P E) {g : Tmp} {ps : Array Tmp} {assign body : Code}
  (hA : ∀ (st : St U) (K : Ex → St U → Option R) (r : R), codeA E assign st K = some r → Ran P E assign st K r)
  (hB : ∀ (st : St U) (K : Ex → St U → Option R) (r : R), codeA E body st K = some r → Ran P E body st K r) (hna : noRange assign = true) (hnb : noRange body = true)
  (hJ : ∀ L, E.Λ.lookup (loopKey assign) = some L → ∀ (st : St U) (K : Ex → St U → Option R) (r : R), L R st K = some r → ∃ n, loopA E (.rangeFunc (.global g) ps assign body) n st K = some r)
  (hIt : ∀ f A, E.It.lookup f = some A → ItSound P E.cc f A ∧ FnOK P f) {st : St U} {K : Ex → St U → Option R} {r : R}
  (h : codeA E (.rangeFunc (.tmp g) ps assign body) st K = some r) : Ran P E (.rangeFunc (.tmp g) ps assign body) st K r := by
 rw [codeA] at h
 split at h
 case h_2 => cases h
 rename_i p hps
 split at h
 case h_2 => cases h
 rename_i f caps hclo
 split at h
 case h_2 => cases h
 rename_i L hL
 unfold enterA at h
 split at h
 ·cases h
 rename_i A hAt
 simp only [] at h
 split at h
 ·cases h
 rename_i hc
 generalize reach st.hp 4000 (AV.refsL caps) [] = bs at h hc
 have hc : closedB st.hp (AV.refsL caps) bs = true := by simpa using hc
 obtain ⟨hIS, hfn⟩ := hIt f A hAt
 obtain ⟨T, xs, hl, hk, hmach⟩ := hIS _ _ _ _ _ h
 simp only [] at hk
 split at hk
 case h_2 => cases hk
 rename_i s hs
 obtain ⟨n, hn⟩ := hJ L hL s _ _ hk
 have hgl : g < st.tm.length := by
  rcases Nat.lt_or_ge g st.tm.length with h | h
  ·exact h
  ·rw [List.getD_eq_getElem?_getD, List.getElem?_eq_none h] at hclo; cases hclo
 have hg0 : (⟨st.tm.set g (.gh T xs 0), deadH bs st.hp, st.m⟩ : St U).tm.getD g .bot = .gh T xs ((0 : Nat) : Int) := by
  show (st.tm.set g _).getD g .bot = _
  rw [List.getD_eq_getElem?_getD, List.getElem?_set, if_pos rfl, if_pos hgl]
  rfl
 obtain ⟨k, S, ex, st', b1, _, b3, b4, b5, b6, b7, b8⟩ := rounds_trace hE hps hA hB hna hnb n 0 s (doneK K) r (gc_gh hg0 hs) (Nat.zero_le _) hn
 obtain ⟨gm, gg⟩ := gc_ok hE hs
 simp only [] at gm
 have hcl := hc
 simp only [closedB, Bool.and_eq_true, List.all_eq_true, decide_eq_true_eq] at hcl
 obtain ⟨⟨⟨hroots, hcl2⟩, hnd⟩, hlt⟩ := hcl
 obtain ⟨fn', hfn1, hfn2, hfn3⟩ := hfn.ex
 have hfn2' : ¬ fn'.name = "runtime.NumGoroutine" := by simpa using hfn2
 have hfn3' : ¬ fn'.body = none := by cases hb : fn'.body <;> simp_all
 -- what comes of it
 have main : ∀ (exF : Ex) (hfin : (k = xs.length ∧ exF = .normal ∧ ∃ lv, gc E.cc lv (S k) = some st') ∨
   (k < xs.length ∧ exF = ex ∧ exF ≠ .normal ∧ ∀ x, xs[k]? = some x → RoundTo P E p assign body (elV ((E.cc T).enc x)) (S k) ex st')),
   ∀ {ro : Option Nat} {X W0 : Nat → Prop} {β : Nat → Option BI} {a : Act} {w : World} {Q : Exit → Act → World → Prop}, (ro = none ∨ noRange (.rangeFunc (.tmp g) ps assign body) = true) → GRel E X W0 β st a w →
    (∀ β' a' w', GRel E X W0 β' st' a' w' → TrM st.m X W0 β st.hp.get w β' st'.hp.get w' → Q (exOf exF) a' w') → (Code.rangeFunc (.tmp g) ps assign body).wpIn (FR ro) 0 P Q a w := by
  intro exF hfin ro X W0 β a w Q hro hr hQ
  obtain rfl : ro = none := hro.resolve_right (by simp [noRange])
  have hv := eval_rep hr.rel (.tmp g) (st := st) fun _ _ => rfl
  rw [show st.get (.tmp g) = .clo f caps from hclo] at hv
  generalize hve : a.eval (.tmp g) = vf at hv
  cases hv with
  | @clo _ _ vals hvl hvs =>
  refine wpIn_rangeFunc (F := FR none) fun fn _ => ?_
  obtain ⟨rc, hrc⟩ : ∃ rc : LoopState → Option Code → Loop, rc = fun s pe => { state := s, pending := pe, fn, tmps := a.tmps, params := ps, assign, body, defers := w.heap.size } := ⟨_, rfl⟩
  have hrc1 : ∀ st pe st' pe', { rc st pe with state := st', pending := pe' } = rc st' pe' := by intro st pe st' pe'; rw [hrc]
  have hrc2 : ∀ st pe, (rc st pe).state = st := by intro st pe; rw [hrc]
  obtain ⟨W1, hW1⟩ : ∃ W1, (w.alloc (.deferred (some []))).alloc (.loop (rc .ready none)) = W1 := ⟨_, rfl⟩
  have hgr : Grown w W1 := by rw [← hW1]; exact (Grown.alloc w _).trans (Grown.alloc _ _)
  have hsz1 : W1.heap.size = w.heap.size + 2 := by rw [← hW1]; simp
  have hl1 : W1.heap[w.heap.size + 1]? = some (.loop (rc .ready none)) := by
   rw [← hW1]; have := World.alloc_heap_new (w.alloc (.deferred (some []))) (.loop (rc .ready none)); rwa [World.size_alloc] at this
  have hD1 : W1.heap[w.heap.size]? = some (.deferred (some [])) := by
   rw [← hW1]; exact (Grown.alloc _ _).some (World.alloc_heap_new w _)
  obtain ⟨hr1, ht1⟩ := hr.grown hgr
  refine ⟨w.heap.size + 1, [{ target := .collected w.heap.size, args := #[] }], W1, { target := .fn (.func f) vals, args := #[.func (.yield (w.heap.size + 1)) #[] #[]] }, W1, f,
   #[.func (.yield (w.heap.size + 1)) #[] #[]] ++ vals, W1, ?_, ?_, fun _ _ => trivial, ?_, (fun h => nomatch h), ?_⟩
  ·rw [← hW1, hrc]; exact run_enterLoop_outer _ _ _ _ _
  ·simp [resolve, hve, Deferred.ofValue]; rfl
  ·simp [invoke, callFunc, hfn1, hfn2', hfn3']
  -- the captured blocks
  obtain ⟨hp1, hav1⟩ := hr1.rel.h.part st.hp bs _ hc (fun b _ => rfl) X W0 (fun k hk => .inl hk) (fun b _ bi k hb hk hd => by
   obtain ⟨h1, h2, _⟩ := hr1.rel.h.dom b bi k hb hk hd
   exact ⟨h2, h1⟩) (fun k hk => (hr1.rel.h.new k hk).1)
  obtain ⟨C, hC⟩ : ∃ C : Nat → Prop, C = fun k => ∃ b bi, β b = some bi ∧ bi.k = some k ∧ ((deadH bs st.hp).get b).isDead = false := ⟨_, rfl⟩
  obtain ⟨hdd, tdd, hdl, hdg⟩ := deadH_ok (E := E) bs hr.rel.h hlt
  have hC1 : ∀ k, C k → W0 k ∧ ¬ X k ∧ k < w.heap.size ∧ ∀ o, w.heap[k]? = some o → fixedO o = false := by
   intro k hk
   rw [hC] at hk
   obtain ⟨b, bi, h1, h2, h3⟩ := hk
   obtain ⟨d1, d2, d3⟩ := hdd.dom b bi k h1 h2 h3
   exact ⟨d1, d2, d3, fun o ho => blk_unfixed (hdd.ok b bi h1) h3 h2 ho⟩
  have hWc : ∀ (w1 : World), W1.heap.size ≤ w1.heap.size → ∀ k, (C k ∨ w1.heap.size ≤ k) → W0 k := by
   intro w1 h1 k hk
   rcases hk with hk | hk
   ·exact (hC1 k hk).1
   ·exact (hr.rel.h.new k (by omega)).1
  -- what holds between two rounds, and where a round has left
  obtain ⟨J, hJd⟩ : ∃ J : World → Nat → World → Prop, J = fun w1 i W => i ≤ k ∧ W1.heap.size ≤ w1.heap.size ∧ w1.heap.size ≤ W.heap.size ∧ (∀ q, q < w1.heap.size → ¬ C q → W.heap[q]? = w1.heap[q]?) ∧
   W.heap[w.heap.size + 1]? = some (.loop (rc .ready none)) ∧ W.heap[w.heap.size]? = some (.deferred (some [])) ∧ w1.heap[w.heap.size + 1]? = some (.loop (rc .ready none)) ∧
   ∃ β', GRel E X (fun k => C k ∨ w1.heap.size ≤ k) β' (S i) { a with defers := [] } W ∧ TrM st.m X W0 β st.hp.get w β' (S i).hp.get W := ⟨_, rfl⟩
  obtain ⟨Jx, hJx⟩ : ∃ Jx : World → Prop, Jx = fun W => k < xs.length ∧ ∃ w1 : World, W1.heap.size ≤ w1.heap.size ∧ w1.heap.size ≤ W.heap.size ∧ W.heap[w.heap.size + 1]? = some (.loop (rc (if (jumpOf ex).isNone then .ready else .done) (jumpOf ex))) ∧ W.heap[w.heap.size]? = some (.deferred (some [])) ∧
   ∃ β', GRel E X (fun k => C k ∨ w1.heap.size ≤ k) β' st' { a with defers := [] } W ∧ TrM st.m X W0 β st.hp.get w β' st'.hp.get W := ⟨_, rfl⟩
  -- behind it
  have finish : ∀ (w1 W : World) (β' : Nat → Option BI) (rec : Loop), W1.heap.size ≤ w1.heap.size → W.heap[w.heap.size + 1]? = some (.loop rec) → W.heap[w.heap.size]? = some (.deferred (some [])) →
    GRel E X (fun k => C k ∨ w1.heap.size ≤ k) β' st' { a with defers := [] } W → TrM st.m X W0 β st.hp.get w β' st'.hp.get W →
    Q (exOf exF) { a with defers := [{ target := .collected w.heap.size, args := #[] }] ++ a.defers } (W.putObj (w.heap.size + 1) (.loop { rec with state := .exhausted })) := by
   intro w1 W β' rec h1 h2 h3 hg ht
   obtain ⟨g1, g2⟩ := hg.put h2 (.loop { rec with state := .exhausted })
   have ht' := ht.thenN (Nat.le_succ _) (g2.toN st.m) (hWc w1 h1)
   have hw : w.heap.size ≤ W.heap.size := ht.fr.size
   refine hQ β' _ _ ⟨g1.sz, ⟨?_, g1.rel.tm, ?_⟩, g1.bd⟩ ht'
   ·refine g1.rel.h.narrow (fun b bi k hb hk hd => hWc w1 h1 k (g1.rel.h.dom b bi k hb hk hd).1) fun k hk => (hr.rel.h.new k ?_).1
    have : (W.putObj (w.heap.size + 1) (.loop { rec with state := .exhausted })).heap.size = W.heap.size := World.putObj_size
    omega
   ·have hmk : (W.putObj (w.heap.size + 1) (.loop { rec with state := .exhausted })).heap[w.heap.size]? = some (.deferred (some [])) := (World.putObj_heap_other (by omega)).trans h3
    refine ⟨fun d hd => ?_, ?_⟩
    ·rcases List.mem_cons.1 hd with rfl | hd
     ·exact ⟨w.heap.size, rfl, hmk, (hr.rel.h.new _ (Nat.le_refl _)).1⟩
     ·exact (hr.rel.defers.mono ht'.fr).mark d hd
    ·refine List.pairwise_cons.2 ⟨fun d hd e => ?_, hr.rel.defers.apart⟩
     obtain ⟨q, e1, e2, _⟩ := hr.rel.defers.mark d hd
     rw [e1] at e
     have hq := (Array.getElem?_eq_some_iff.1 e2).1
     have : w.heap.size = q := by simpa using e
     omega
  have hcalls := hmach X W0 (subβ β bs) W1 vals hp1 (fun b hb => by
    simp only [List.length_map] at hb
    simp [subβ, List.getElem?_eq_none hb]) (by rw [renL_length]; exact hvl) (fun j x v hx hv => by
    rw [renL_get, Option.map_eq_some_iff] at hx
    obtain ⟨y, hy, rfl⟩ := hx
    refine (ht1.rep (hvs j y v hy hv)).ren (fun k hk _ hk' => hk (hav1 k hk')) fun b hb bi hbi => ?_
    rw [subβ_idx (contains_mem (hroots b (refsL_mem (List.mem_of_getElem? hy) hb)))]
    exact hbi) C (fun k hk => by have := (hC1 k hk).2.2.1; omega) (fun i bi k' hi hk' hd hCk => by
    simp only [subβ] at hi
    cases hbi : bs[i]? with
    | none => simp [hbi] at hi
    | some b =>
     simp only [hbi, Option.bind_some] at hi
     have hbm : b ∈ bs := List.mem_of_getElem? hbi
     rw [hC] at hCk
     obtain ⟨c, ci, c1, c2, c3⟩ := hCk
     have hcm : c ∉ bs := fun hm => by rw [(hdg c).1 hm] at c3; cases c3
     rw [(hdg c).2 hcm] at c3
     have hbd : (st.hp.get b).isDead = false := by
      have e : (Hp.get (bs.map fun b => (st.hp.get b).ren (bs.idxOf ·)) i) = (st.hp.get b).ren (bs.idxOf ·) := by
       simp [Hp.get, List.getD, hbi]
      rw [e, ren_dead] at hd
      exact hd
     exact hcm (hr.rel.h.inj c b ci bi k' c1 hi c2 hk' c3 hbd ▸ hbm)) (w.heap.size + 1) J Jx
   ?_ ?_ ?_ ?_ ?_
  ·refine hcalls.mono ?_
   rintro e W' ⟨⟨v, rfl⟩, hend⟩
   rcases hend with ⟨w1, hj⟩ | hj
   ·rw [hJd] at hj
    obtain ⟨j1, j2, j3, j4, j5, j6, j7, β', j8, j9⟩ := hj
    obtain rfl : k = xs.length := by omega
    rcases hfin with ⟨_, rfl, lv, hgc⟩ | ⟨hlt, _⟩
    ·refine ⟨none, W'.putObj (w.heap.size + 1) (.loop { rc .ready none with state := .exhausted }), ?_, ?_⟩
     ·have := run_endLoop (P := P) j5 (by rw [hrc2]; simp)
      rw [this, hrc]
     obtain ⟨m1, m2⟩ := gc_ok hE hgc
     obtain ⟨β2, n1, n2⟩ := m2 j8
     have hm : (S xs.length).m = st.m := (b6 _ (Nat.zero_le _) (Nat.le_refl _)).trans gm
     rw [hm] at n2
     exact finish w1 W' β2 _ j2 j5 j6 n1 (j9.trans (n2.wider (hWc w1 j2)))
    ·omega
   ·rw [hJx] at hj
    obtain ⟨hlt, w1, j2, j3, j5, j6, β', j8, j9⟩ := hj
    rcases hfin with ⟨he, _⟩ | ⟨_, rfl, hnn, _⟩
    ·omega
    refine ⟨jumpOf exF, W'.putObj (w.heap.size + 1) (.loop { rc (if (jumpOf exF).isNone then .ready else .done) (jumpOf exF) with state := .exhausted }), ?_, ?_⟩
    ·have := run_endLoop (P := P) j5 (by rw [hrc2]; split <;> simp)
     rw [this, hrc]
    ·have hq := finish w1 W' β' _ j2 j5 j6 j8 j9
     cases exF with
     | normal => exact absurd rfl hnn
     | ret => exact wpIn_ret hq
     | exit id => exact wpIn_exit hq
  ·-- ahead of the first round
   intro w1 hg1
   obtain ⟨hr2, ht2⟩ := hr1.grown hg1
   obtain ⟨hd2, td2, _, _⟩ := deadH_ok (E := E) bs hr2.rel.h hlt
   have g0 : GRel E X (fun k => C k ∨ w1.heap.size ≤ k) β ⟨st.tm.set g (.gh T xs 0), deadH bs st.hp, st.m⟩ { a with defers := [] } w1 := by
    refine ⟨by simp [hr.sz], ⟨hd2.narrow (fun b bi k h1 h2 h3 => .inl (by rw [hC]; exact ⟨b, bi, h1, h2, h3⟩)) (fun k hk => .inr hk), fun t => ?_, DefOK.nil _ _⟩, fun b hb => hr.bd b (by simp only [hdl] at hb; exact hb)⟩
    have := td2.rep (hr2.rel.tm t)
    show RepA E.cc w1 _ β ((st.tm.set g _).getD t .bot) _
    rw [List.getD_eq_getElem?_getD, List.getElem?_set]
    by_cases e : g = t
    ·subst e
     rw [if_pos rfl, if_pos hgl]
     exact .gh
    ·rw [if_neg e, ← List.getD_eq_getElem?_getD]
     exact this
   obtain ⟨β', n1, n2⟩ := gg g0
   rw [hJd]
   refine ⟨Nat.zero_le _, hg1.size, Nat.le_refl _, fun _ _ _ => rfl, hg1.some hl1, hg1.some hD1, hg1.some hl1, β', by rw [b1]; exact n1, ?_⟩
   rw [b1]
   exact ((ht1.trans ht2).trans td2).toM.trans (n2.wider (hWc w1 hg1.size))
  ·intro w1 i W W' hj hg
   rw [hJd] at hj ⊢
   obtain ⟨j1, j2, j3, j4, j5, j6, j7, β', j8, j9⟩ := hj
   obtain ⟨g1, t1⟩ := j8.grown hg
   exact ⟨j1, j2, Nat.le_trans j3 hg.size, fun q hq hn => (hg.block q (by omega)).trans (j4 q hq hn), hg.some j5, hg.some j6, j7, β', g1, j9.trans (t1.toM.wider (hWc w1 j2))⟩
  ·intro W W' hj hg
   rw [hJx] at hj ⊢
   obtain ⟨hlt, w1, j2, j3, j5, j6, β', j8, j9⟩ := hj
   obtain ⟨g1, t1⟩ := j8.grown hg
   exact ⟨hlt, w1, j2, Nat.le_trans j3 hg.size, hg.some j5, hg.some j6, β', g1, j9.trans (t1.toM.wider (hWc w1 j2))⟩
  ·intro w1 i W hj
   rw [hJd] at hj
   obtain ⟨j1, j2, j3, j4, _⟩ := hj
   exact ⟨j3, j4⟩
  ·-- a round
   intro w1 i W x vv hj hx hvv
   rw [hJd] at hj
   obtain ⟨j1, j2, j3, j4, j5, j6, j7, β', j8, j9⟩ := hj
   have hi : i < xs.length := (List.getElem?_eq_some_iff.1 hx).1
   have hpsa : ps = #[p] := by cases ps; simp_all
   have hy : (Instr.yield (w.heap.size + 1) #[vv]).run P W = .ok (.round (w.heap.size + 1) fn (a.tmps.setIfInBounds p vv) assign body) W := by
    have := run_yield (P := P) (args := #[vv]) j5 (by rw [hrc, hpsa]; rfl)
    rw [this, hrc, hpsa]
    simp
   have hmS : ∀ j, j ≤ k → (S j).m = st.m := fun j h => (b6 j (Nat.zero_le _) h).trans gm
   have hDk : ∀ {W2 : World} {m : Nat} {β2 : Nat → Option BI} {h2 : Nat → Blk U}, TrN (w.heap.size + 1) m X (fun k => C k ∨ w1.heap.size ≤ k) β' (S i).hp.get W β2 h2 W2 → W2.heap[w.heap.size]? = some (.deferred (some [])) := by
    intro W2 m β2 h2 q2
    obtain ⟨o', o1, _, o3⟩ := q2.fr.kind w.heap.size _ (by omega) j6
    rw [o3 rfl] at o1
    exact o1
   rcases Nat.lt_or_ge i k with hik | hik
   ·refine ⟨fn, _, assign, body, hy, b7 i (Nat.zero_le _) hik x hx X _ β' { a with defers := [] } W (w.heap.size + 1) fn vv rc j8 rfl hvv j5 hrc1 hrc2 _ fun β2 W2 q1 q2 q3 => .inl ⟨rfl, ?_⟩⟩
    rw [hmS i j1] at q2
    rw [hJd]
    refine ⟨hik, j2, Nat.le_trans j3 q2.fr.size, fun q hq hn => ?_, q3, hDk q2, j7, β2, q1, j9.thenN (Nat.le_succ _) q2 (hWc w1 j2)⟩
    by_cases e : q = w.heap.size + 1
    ·subst e
     rw [q3, j7]
     rfl
    ·exact (q2.fr.block q (by omega) e fun h => Or.elim (show C q ∨ w1.heap.size ≤ q from h) hn (fun h => by omega)).trans (j4 q hq hn)
   ·obtain rfl : i = k := by omega
    rcases hfin with ⟨he, _⟩ | ⟨hk, rfl, hnn, hround⟩
    ·omega
    refine ⟨fn, _, assign, body, hy, hround x hx X _ β' { a with defers := [] } W (w.heap.size + 1) fn vv rc j8 rfl hvv j5 hrc1 hrc2 _ fun β2 W2 q1 q2 q3 => .inr ⟨?_, ?_⟩⟩
    ·cases exF with
     | normal => exact absurd rfl hnn
     | ret => rfl
     | exit id => rfl
    rw [hmS i j1] at q2
    rw [hJx]
    exact ⟨hk, w1, j2, Nat.le_trans j3 q2.fr.size, q3, hDk q2, β2, q1, j9.thenN (Nat.le_succ _) q2 (hWc w1 j2)⟩
 have hm' : st'.m = st.m := b5.trans gm
 rcases b8 with ⟨e1, e2, lv, e3⟩ | ⟨e1, e2, e3, e4⟩
 ·refine ⟨.normal, st', ?_, hm', main .normal (.inl ⟨e1, rfl, lv, e3⟩)⟩
  rw [e2] at b4
  simpa [doneK] using b4
 ·refine ⟨ex, st', ?_, hm', main ex (.inr ⟨e1, rfl, e2, e4⟩)⟩
  cases ex with
  | normal => exact absurd rfl e2
  | ret => exact b4
  | exit id =>
   have : id ≠ doneX := fun e => e3 (by rw [e])
   simpa [doneK, this] using b4

end Go.Proofs.Ytmlbioapefgioaa.Va

/- Code, every make of it. -/
namespace Go.Proofs.Ytmlbioapefgioaa.Va
open Go

variable {U : Nat → Type} {R : Type} {P : Program} {E : Env U}

theorem stepR_scope {b : Frame} {a : Act} {k : List Item} {cs : List Frame} {w : World} {c : Code} : step P (lone (b.atR a (.code (.scope c) :: k)) cs w) = .next (lone (b.atR a (.code c :: .inScope c :: k)) cs w) :=
 step_lone_go (by simp [stepG, stepG.exec, Frame.atR])
theorem stepR_inScope {b : Frame} {a : Act} {k : List Item} {cs : List Frame} {w : World} {c : Code} : step P (lone (b.atR a (.inScope c :: k)) cs w) = .next (lone (b.atR a k) cs w) :=
 step_lone_go (by simp [stepG, stepG.exec, Frame.atR])
theorem wpIn_scope_straight {F : Fence} {n : Nat} {Q : Exit → Act → World → Prop} {a : Act} {w : World} {c : Code} (h : c.wpIn F n P (Exit.noGoto Q) a w) : (Code.scope c).wpIn F n P Q a w := by
 intro b k cs hro hb hr
 have h0 : (lone (b.atR a (.code (.scope c) :: k)) cs w).fenced P F := fenced_calm hb hr rfl
 obtain ⟨e, a₁, w₁, hq, harr⟩ := h b (.inScope c :: k) cs hro hb hr
 cases e with
 | normal => exact ⟨.normal, a₁, w₁, hq, .head h0 stepR_scope (StepsIn.trans harr (.one (fenced_calm hb hr rfl) stepR_inScope))⟩
 | exit id =>
  have hx : exitTo id (.inScope c :: k) = exitTo id k := by simp [exitTo]
  exact ⟨.exit id, a₁, w₁, hq, fun k' hk => .head h0 stepR_scope (harr.1 k' (by rw [hx]; exact hk)),
   fun hr' hk => let ⟨k₁, h1, h2⟩ := harr.2 hr' (by rw [hx]; exact hk); ⟨k₁, h1, .head h0 stepR_scope h2⟩⟩
 | goto l => exact hq.elim
 | ret => exact ⟨_, a₁, w₁, hq, .of_steps (.one h0 stepR_scope) harr⟩
 | panic ch => exact ⟨_, a₁, w₁, hq, .of_steps (.one h0 stepR_scope) harr⟩
 | outgrown => exact ⟨_, a₁, w₁, hq, .of_steps (.one h0 stepR_scope) harr⟩

theorem nr {ro : Option Nat} {c d : Code} (h : ro = none ∨ noRange c = true) (hd : noRange c = true → noRange d = true) : ro = none ∨ noRange d = true := h.imp id hd
theorem nr_seq {a b : Code} (h : noRange (.seq a b) = true) : noRange a = true ∧ noRange b = true := by simpa [noRange] using h
theorem nr_cond {c : Operand} {a b : Code} (h : noRange (.cond c a b) = true) : noRange a = true ∧ noRange b = true := by simpa [noRange] using h

theorem codeA_ok (hm : P.follows .mixedOrders = true) (hE : EnvOK P E) (hΓ : GamOK P E) : ∀ (c : Code), okRange c = true → Just E c → ∀ (st : St U) (K : Ex → St U → Option R) (r : R), codeA E c st K = some r → Ran P E c st K r := by
 intro c
 induction c with
 | skip => intro _ _ st K r h; exact ⟨.normal, st, h, rfl, fun hro hr hQ => wpIn_skip (hQ _ _ _ hr TrM.refl)⟩
 | region id ops draw =>
  intro _ _ st K r h
  obtain ⟨st', h1, h2, h3⟩ := region_ok hm hE hΓ (id := id) (draw := draw) (K := fun st' => K .normal st') h
  exact ⟨.normal, st', h1, h2, fun hro hr hQ => h3 hr fun β' a' w' h4 h5 => hQ β' a' w' h4 h5.toM⟩
 | seq a b iha ihb =>
  intro ho hj st K r h
  obtain ⟨ja, jb, jc⟩ := hj
  simp only [okRange, Bool.and_eq_true] at ho
  rw [codeA] at h
  obtain ⟨ex, st1, hk, hm1, hw⟩ := iha ho.1 ja _ _ _ h
  have leave (hne : ∀ (N : Act → World → Prop) (Q : Exit → Act → World → Prop) a w, Q (exOf ex) a w → Exit.then N Q (exOf ex) a w) (hk : K ex st1 = some r) : Ran P E (.seq a b) st K r :=
   ⟨ex, st1, hk, hm1, fun hro hr hQ => wpIn_seq (hw (nr hro fun h => (nr_seq h).1) hr fun β' a' w' h1 h2 => hne _ _ _ _ (hQ β' a' w' h1 h2))⟩
  cases ex with
  | normal =>
   simp only [] at hk
   have rest : Ran P E b st1 K r := by
    split at hk
    ·rename_i L hL
     split at hk
     ·rename_i s hs
      exact Ran.gc hE hs (Ran.out hE (ihb ho.2 jb _ _ _ (jc L hL R s K r hk)))
     ·cases hk
    ·exact ihb ho.2 jb _ _ _ hk
   obtain ⟨ex2, st2, hk2, hm2, hw2⟩ := rest
   refine ⟨ex2, st2, hk2, hm2.trans hm1, fun hro hr hQ => wpIn_seq (hw (nr hro fun h => (nr_seq h).1) hr fun β' a' w' h1 h2 => ?_)⟩
   refine hw2 (nr hro fun h => (nr_seq h).2) h1 fun β3 a3 w3 h5 h6 => hQ β3 a3 w3 h5 ?_
   rw [hm1] at h6
   exact h2.trans h6
  | ret => exact leave (fun _ _ _ _ h => h) hk
  | exit id => exact leave (fun _ _ _ _ h => h) hk
 | cond c a b iha ihb =>
  intro ho hj st K r h
  simp only [okRange, Bool.and_eq_true] at ho
  rw [codeA] at h
  split at h
  ·rename_i t ht
   have run (y : Code) (hy : Ran P E y st K r) (hn : noRange (.cond c a b) = true → noRange y = true) (hsel : (if t then a else b) = y) : Ran P E (.cond c a b) st K r := by
    obtain ⟨ex, st1, hk, hm1, hw⟩ := hy
    refine ⟨ex, st1, hk, hm1, @fun ro X W0 β ac w Q hro hr hQ => ?_⟩
    have hv := eval_rep hr.rel c (st := st) fun _ _ => rfl
    rw [ht] at hv
    have : ac.eval c = .bool t := by
     generalize ac.eval c = v at hv
     cases hv with | im h => cases h; rfl
    refine wpIn_cond this ?_
    rw [hsel]
    exact hw (nr hro hn) hr hQ
   cases t with
   | true => exact run a (iha ho.1 hj.1 _ _ _ h) (fun h => (nr_cond h).1) rfl
   | false => exact run b (ihb ho.2 hj.2 _ _ _ h) (fun h => (nr_cond h).2) rfl
  ·cases h
 | block id b ih =>
  intro ho hj st K r h
  rw [codeA] at h
  obtain ⟨ex, st1, hk, hm1, hw⟩ := ih ho hj _ _ _ h
  cases ex with
  | normal => exact ⟨.normal, st1, hk, hm1, fun hro hr hQ => wpIn_block (hw (nr hro fun h => h) hr hQ)⟩
  | ret => exact ⟨.ret, st1, hk, hm1, fun hro hr hQ => wpIn_block (hw (nr hro fun h => h) hr hQ)⟩
  | exit i =>
   simp only [] at hk
   split at hk
   ·rename_i e
    refine ⟨.normal, st1, hk, hm1, fun hro hr hQ => wpIn_block (hw (nr hro fun h => h) hr fun β' a' w' h1 h2 => ?_)⟩
    have := hQ β' a' w' h1 h2
    simpa [exOf, Exit.inBlock, e] using this
   ·rename_i e
    refine ⟨.exit i, st1, hk, hm1, fun hro hr hQ => wpIn_block (hw (nr hro fun h => h) hr fun β' a' w' h1 h2 => ?_)⟩
    have := hQ β' a' w' h1 h2
    simpa [exOf, Exit.inBlock, e] using this
 | loop b ih =>
  intro ho hj st K r h
  rw [codeA] at h
  split at h
  ·rename_i L hL
   split at h
   ·rename_i s hs
    obtain ⟨n, hn⟩ := hj.2 L hL R s K r h
    refine Ran.gc hE hs ?_
    obtain ⟨ex, st', h1, h2, h3⟩ := rounds_ok hE (fun st K r h => ih ho hj.1 st K r h) ⟨_, rfl⟩ ⟨_, rfl⟩ n s K r hn
    exact ⟨ex, st', h1, h2, fun hro hr hQ => wpIn_loop_rounds n (h3 (nr hro fun h => h) hr hQ)⟩
   ·cases h
  ·cases h
 | scope b ih =>
  intro ho hj st K r h
  rw [codeA] at h
  obtain ⟨ex, st1, hk, hm1, hw⟩ := ih ho hj _ _ _ h
  refine ⟨ex, st1, hk, hm1, fun hro hr hQ => wpIn_scope_straight (hw (nr hro fun h => h) hr fun β' a' w' h1 h2 => ?_)⟩
  have := hQ β' a' w' h1 h2
  cases ex <;> exact this
 | label l => intro _ _ st K r h; exact ⟨.normal, st, h, rfl, fun hro hr hQ => wpIn_label (hQ _ _ _ hr TrM.refl)⟩
 | exit id => intro _ _ st K r h; exact ⟨.exit id, st, h, rfl, fun hro hr hQ => wpIn_exit (hQ _ _ _ hr TrM.refl)⟩
 | ret => intro _ _ st K r h; exact ⟨.ret, st, h, rfl, fun hro hr hQ => wpIn_ret (hQ _ _ _ hr TrM.refl)⟩
 | rangeFunc g ps a b iha ihb =>
  intro ho hj st K r h
  cases g with
  | tmp g =>
   simp only [okRange, Bool.and_eq_true] at ho
   exact range_ok hE (fun st K r h => iha (noRange_ok ho.1) hj.1 st K r h) (fun st K r h => ihb (noRange_ok ho.2) hj.2.1 st K r h) ho.1 ho.2 (fun L hL st K r h => hj.2.2 L hL R st K r h) hΓ.it h
  | _ => cases ho
 | _ => intro _ _ st K r h; simp [codeA] at h

end Go.Proofs.Ytmlbioapefgioaa.Va

/- A function. -/
namespace Go.Proofs.Ytmlbioapefgioaa.Va
open Go

variable {U : Nat → Type} {R : Type} {P : Program} {E : Env U}

def resVal (tmps : Array Value) : ResultVar → Sem Value
 | .tmp t => pure (tmps.getD t undef)
 | .cell a t => do loadVar t (← asAddr (tmps.getD a undef))

theorem results_eq (fn : Func) (tmps : Array Value) (w : World) (vs : List Value) (h : (fn.results.toList.mapM (resVal tmps)).run P w = .ok vs w) :
  (results fn tmps).run P w = .ok (if h : vs.length = 1 then vs[0] else .tuple vs.toArray) w := by
 have e : results fn tmps = (do let vs ← fn.results.mapM (resVal tmps); pure (if h : vs.size = 1 then vs[0] else .tuple vs)) := rfl
 rw [e, Array.mapM_eq_mapM_toList, bind_map_left, Sem.run_bind, h]
 rfl

theorem loadAt_var {t : TypeId} {va vv : Value} {w : World} (h : (Instr.loadAt t va).run P w = .ok vv w) : (do loadVar t (← asAddr va) : Sem Value).run P w = .ok vv w := by
 unfold Instr.loadAt at h
 cases va with
 | pointer p =>
  cases p with
  | some a => simpa [Instr.sureAddr, asAddr] using h
  | none => simp [Instr.sureAddr, stuck] at h
 | _ => simp [Instr.sureAddr, stuck] at h

theorem resA_ok (hE : EnvOK P E) {st : St U} : ∀ (rs : List ResultVar) {K : List (AV U) → Option R} {r : R}, resA E st rs K = some r →
  ∃ vs, K vs = some r ∧ vs.length = rs.length ∧ ∀ {X W0 : Nat → Prop} {β : Nat → Option BI} {a : Act} {w : World}, GRel E X W0 β st a w →
   ∃ us : List Value, (rs.mapM (resVal a.tmps)).run P w = .ok us w ∧ us.length = rs.length ∧ ∀ (j : Nat) (x : AV U) (u : Value), vs[j]? = some x → us[j]? = some u → RepA E.cc w (avOf X β st.hp.get) β x u := by
 intro rs
 induction rs with
 | nil =>
  intro K r h
  exact ⟨[], h, rfl, fun hg => ⟨[], by simp, rfl, by simp⟩⟩
 | cons rv rs ih =>
  intro K r h
  cases rv with
  | tmp t =>
   rw [resA] at h
   obtain ⟨vs, hk, hl, hv⟩ := ih h
   refine ⟨_, hk, by simp [hl], @fun X W0 β a w hg => ?_⟩
   obtain ⟨us, h1, h2, h3⟩ := hv hg
   refine ⟨a.tmps.getD t undef :: us, ?_, by simp [h2], fun j x u hx hu => ?_⟩
   ·simp only [List.mapM_cons, resVal, Sem.run_bind, Sem.run_pure, Result.andThen_ok, h1]
   ·cases j with
    | zero =>
     simp only [List.getElem?_cons_zero, Option.some.injEq] at hx hu
     subst hx; subst hu
     exact hg.rel.tm t
    | succ j => exact h3 j x u (by simpa using hx) (by simpa using hu)
  | cell c t =>
   rw [resA] at h
   obtain ⟨v, rd, hk, hl⟩ := loadA_ok hE h
   obtain ⟨vs, hk, hlen, hv⟩ := ih hk
   refine ⟨_, hk, by simp [hlen], @fun X W0 β a w hg => ?_⟩
   obtain ⟨us, h1, h2, h3⟩ := hv hg
   obtain ⟨vv, g1, g2⟩ := hl (hp := st.hp.get) hg.rel.h (hg.rel.tm c) (fun _ _ => rfl)
   refine ⟨vv :: us, ?_, by simp [h2], fun j x u hx hu => ?_⟩
   ·have := loadAt_var g1
    simp only [List.mapM_cons, resVal]
    rw [Sem.run_bind, this]
    simp only [Result.andThen_ok, Sem.run_bind, h1, Sem.run_pure]
   ·cases j with
    | zero =>
     simp only [List.getElem?_cons_zero, Option.some.injEq] at hx hu
     subst hx; subst hu
     exact g2
    | succ j => exact h3 j x u (by simpa using hx) (by simpa using hu)

theorem leaves_marks {fn : Func} {tmps : Array Value} {Rp : Ending → World → Prop} {W0 : Nat → Prop} (Φ : World → Prop) (hstep : ∀ w k, Φ w → w.heap[k]? = some (.deferred (some [])) → W0 k → Φ (w.putObj k (.deferred none)))
  (hend : ∀ w, Φ w → ∃ v, (results fn tmps).run P w = .ok v w ∧ Rp (.returned v) w) : ∀ (ds : List Deferred) (w : World), DefOK W0 ds w → Φ w → LeavesInM (FR none) 0 P fn tmps Rp ds .returning w
 | [], w, _, h => hend w h
 | d :: ds, w, hd, h => by
  obtain ⟨k, e, h1, h2⟩ := hd.mark d (by simp)
  refine ⟨by simp, .inl ⟨k, _, by rw [e], run_takeDeferred h1, leaves_marks Φ hstep hend ds _ ⟨fun d' hd' => ?_, (List.pairwise_cons.1 hd.apart).2⟩ (hstep w k h h1 h2)⟩⟩
  obtain ⟨k', e', h1', h2'⟩ := hd.mark d' (by simp [hd'])
  have hne : k' ≠ k := fun ek => (List.pairwise_cons.1 hd.apart).1 d' hd' (by rw [e, e', ek])
  exact ⟨k', e', (World.putObj_heap_other hne).trans h1', h2'⟩

theorem funcA_ok (hm : P.follows .mixedOrders = true) (hE : EnvOK P E) (hΓ : GamOK P E) {f : FuncId} {fn : Func} {c : Code} (hf : P.funcs[f]? = some fn) (hb : fn.body = some c) (hj : Just E c) (ms : List (Nat × List Ps × Md)) :
  SoundF P E.cc f (funcA E fn ms) := by
 intro R args h K r hr
 unfold funcA at hr
 rw [hb] at hr
 simp only [] at hr
 split at hr
 ·cases hr
 rename_i hokr
 obtain ⟨ex, st, hk, hmm, hw⟩ := codeA_ok hm hE hΓ c hokr hj _ _ _ hr
 simp only [] at hmm hw
 obtain ⟨_, ep, hpre1⟩ := normS_ok hE E.pre st
 obtain ⟨sp0, hsp0⟩ : ∃ sp, sp = normS E.cc E.pre st := ⟨_, rfl⟩
 rw [← hsp0] at ep hpre1
 obtain ⟨sp, hsp⟩ : ∃ sp, sp = killS E.kill sp0 := ⟨_, rfl⟩
 have esp : sp.tm = sp0.tm ∧ sp.hp = killH E.kill sp0.hp := by rw [hsp]; exact ⟨rfl, rfl⟩
 have main (hk : finA E fn ms h K sp = some r)
   (hex : ∀ (Rp : Ending → World → Prop) a w, LeavesInM (FR none) 0 P fn a.tmps Rp a.defers .returning w → bodyPostM (FR none) 0 P fn Rp (exOf ex) a w) :
   ∃ res h', K res h' = some r ∧ h.length ≤ h'.length ∧ ∀ (X W0 : Nat → Prop) (β : Nat → Option BI) (w : World) (vals : Array Value), HRel E.cc X W0 β h.get w → (∀ b, h.length ≤ b → β b = none) →
    vals.size = args.length → (∀ (j : Nat) (x : AV U) (v : Value), args[j]? = some x → vals[j]? = some v → RepA E.cc w (avOf X β h.get) β x v) →
    Calls P f vals w fun e w' => ∃ vv β', e = .returned vv ∧ HRel E.cc X W0 β' h'.get w' ∧ (∀ b, h'.length ≤ b → β' b = none) ∧ RepA E.cc w' (avOf X β' h'.get) β' res vv ∧ Tr X W0 β h.get w β' h'.get w' := by
  unfold finA at hk
  obtain ⟨vs0, hk, hl, hv⟩ := resA_ok hE _ hk
  obtain ⟨_, en, hn⟩ := normS_ok hE ms ⟨vs0, sp.hp, 0⟩
  cases hnn : normS E.cc ms ⟨vs0, sp.hp, 0⟩ with
  | mk vs hp2 m2 =>
  rw [hnn] at hk en hn
  simp only [] at en hn
  obtain ⟨v, hvv⟩ : ∃ v, v = outV vs := ⟨_, rfl⟩
  dsimp only at hk
  rw [← hvv] at hk
  replace hvv := hvv.symm
  unfold outV at hvv
  split at hk
  case isFalse => cases hk
  rename_i hc
  generalize reach hp2 4000 (v.refs ++ (List.range h.length).flatMap fun b => (hp2.get b).refs) (List.range h.length) = bs at hk hc
  rw [Bool.and_eq_true] at hc
  obtain ⟨hc, hpre⟩ := hc
  have hlen : h.length ≤ bs.length := by
   rw [List.isPrefixOf_iff_prefix] at hpre
   have := hpre.length_le
   simpa using this
  refine ⟨_, _, hk, by simpa using hlen, fun X W0 β w vals hh hbd hsz hargs => ?_⟩
  refine in_calls (n := 0) (callsIn_of_wp_marks hf hb trivial ?_)
  obtain ⟨W1, hW1⟩ : ∃ W1 : Nat → Prop, W1 = fun k => w.heap.size ≤ k ∨ (W0 k ∧ ∀ o, w.heap[k]? = some o → fixedO o = false) := ⟨_, rfl⟩
  have hW : ∀ k, W1 k → W0 k := by
   intro k hk
   rw [hW1] at hk
   rcases hk with hk | hk
   ·exact (hh.new k hk).1
   ·exact hk.1
  have hh1 : HRel E.cc X W1 β h.get w := hh.narrow (fun b bi k hb hk hd => by rw [hW1]; exact .inr ⟨(hh.dom b bi k hb hk hd).1, fun o ho => blk_unfixed (hh.ok b bi hb) hd hk ho⟩) (fun k hk => by rw [hW1]; exact .inl hk)
  refine hw (ro := none) (X := X) (W0 := W1) (β := β) (.inl rfl) ⟨?_, ⟨hh1, fun t => ?_, DefOK.nil _ _⟩, hbd⟩ fun β1 a1 w1 hg htr => ?_
  ·simp [hsz]
  ·show RepA E.cc w (avOf X β h.get) β ((args ++ List.replicate (fn.ntmps - args.length) AV.bot).getD t AV.bot) _
   rw [List.getD_eq_getElem?_getD, Array.getD_eq_getD_getElem?]
   by_cases ht : t < args.length
   ·rw [List.getElem?_append_left ht, Array.getElem?_append_left (by omega), List.getElem?_eq_getElem ht, Array.getElem?_eq_getElem (by omega)]
    exact hargs t _ _ (List.getElem?_eq_getElem ht) (Array.getElem?_eq_getElem (by omega))
   ·rw [List.getElem?_append_right (by omega), List.getElem?_replicate]
    split <;> exact .bot
  ·refine hex _ a1 w1 (leaves_marks (W0 := W1) (fun w2 => HRel E.cc X W1 β1 st.hp.get w2 ∧ (∀ t, RepA E.cc w2 (avOf X β1 st.hp.get) β1 (st.tm.getD t .bot) (a1.tmps.getD t undef)) ∧ TrM h.length X W1 β h.get w β1 st.hp.get w2) ?_ ?_ a1.defers w1 hg.rel.defers ⟨hg.rel.h, hg.rel.tm, htr⟩)
   ·rintro w2 k ⟨q1, q2, q3⟩ hk hWk
    obtain ⟨q4, q5⟩ := q1.put hk rfl (.deferred none)
    have hle : w.heap.size ≤ k := by
     rcases Nat.lt_or_ge k w.heap.size with hlt | hge
     ·rw [hW1] at hWk
      rcases hWk with hWk | ⟨_, hWk⟩
      ·exact hWk
      ·obtain ⟨o', o1, o2, _⟩ := q3.fr.kind k _ (Array.getElem?_eq_getElem hlt)
       rw [hk] at o1
       cases o1
       rw [hWk _ (Array.getElem?_eq_getElem hlt)] at o2
       cases o2
     ·exact hge
    exact ⟨q4, fun t => (q2 t).mono q5.keeps q5.av q5.β, q3.thenL hle q5⟩
   clear htr
   rintro w1 ⟨q1, q2, htr⟩
   have hg : GRel E X W1 β1 st { tmps := a1.tmps, defers := [] } w1 := ⟨hg.sz, ⟨q1, q2, DefOK.nil _ _⟩, hg.bd⟩
   generalize ha1 : ({ tmps := a1.tmps, defers := [] } : Act) = a1' at hg
   have et : a1.tmps = a1'.tmps := by rw [← ha1]
   rw [et]
   clear ha1 et q2
   obtain ⟨β1', p1, p2, p3, p4⟩ := hpre1 hg.rel.h hg.bd (vs := fun t => a1'.tmps.getD t undef) hg.rel.tm
   obtain ⟨k1, k2, k3⟩ := killH_ok (E := E) E.kill sp0.hp p1 p2
   rw [← esp.2] at k1 k2 k3
   have hg : GRel E X W1 β1' sp a1' w1 := ⟨by rw [esp.1, ep]; exact hg.sz, ⟨k1, fun t => by show RepA E.cc w1 (avOf X β1' sp.hp.get) β1' (sp.tm.getD t .bot) _; rw [esp.1]; exact k3.rep (p3 t), hg.rel.defers⟩, k2⟩
   have htr := (htr.trans p4.toM).trans k3.toM
   obtain ⟨us, h1, h2, h3'⟩ := hv hg
   have hres := results_eq fn a1'.tmps w1 us h1
   refine ⟨_, hres, ?_⟩
   obtain ⟨β2, n1, n2, n3, n4⟩ := hn (vs := fun t => us.getD t undef) hg.rel.h hg.bd (fun t => by
    show RepA E.cc w1 (avOf X β1' sp.hp.get) β1' (vs0.getD t .bot) (us.getD t undef)
    rw [List.getD_eq_getElem?_getD, List.getD_eq_getElem?_getD]
    cases hx : vs0[t]? with
    | none => exact .bot
    | some x =>
     have hlt : t < us.length := by
      rw [h2, ← hl]
      rcases Nat.lt_or_ge t vs0.length with h | h
      ·exact h
      ·rw [List.getElem?_eq_none h] at hx; cases hx
     rw [List.getElem?_eq_getElem hlt]
     exact h3' t x us[t] hx (List.getElem?_eq_getElem hlt))
   have h3 : ∀ (j : Nat) (x : AV U) (u : Value), vs[j]? = some x → us[j]? = some u → RepA E.cc w1 (avOf X β2 hp2.get) β2 x u := by
    intro j x u hx hu
    have := n3 j
    have e1 : (asOf (U := U) ⟨vs, hp2, m2⟩).tm j = x := by simp [asOf, hx]
    have e2 : us.getD j undef = u := by simp [hu]
    rwa [e1, e2] at this
   obtain ⟨hp1, hav⟩ := n1.part hp2 bs _ hc (fun b _ => rfl) X W0 (fun k hk => .inl hk) (fun b _ bi k hb hk hd => by
    obtain ⟨h1, h2, _⟩ := n1.dom b bi k hb hk hd
    exact ⟨h2, hW k h1⟩) (fun k hk => hW k (n1.new k hk).1)
   have htr : TrM h.length X W0 β h.get w β2 hp2.get w1 := (htr.trans n4.toM).wider hW
   have hroots : ∀ b ∈ v.refs, b ∈ bs := by
    simp only [closedB, Bool.and_eq_true, List.all_eq_true] at hc
    intro b hb
    exact contains_mem (hc.1.1.1 b hb)
   have hvrep : RepA E.cc w1 (avOf X β2 hp2.get) β2 v (if h : us.length = 1 then us[0] else .tuple us.toArray) := by
    have e : us.length = vs.length := by rw [h2, en, hl]
    split at hvv
    ·rename_i x
     have e1 : us.length = 1 := by simpa using e
     rw [dif_pos e1, ← hvv]
     exact h3 0 x us[0] rfl (List.getElem?_eq_getElem (by omega))
    ·rename_i hne
     have e1 : ¬ us.length = 1 := fun e1 => by
      rw [e] at e1
      obtain ⟨x, hx⟩ := List.length_eq_one_iff.1 e1
      exact hne x hx
     rw [dif_neg e1, ← hvv]
     exact .tup (by simp [e]) fun j x u hx hu => h3 j x u hx (by simpa using hu)
   refine ⟨_, subβ β2 bs, rfl, hp1, fun b hb => ?_, ?_, ⟨htr.fr, htr.keeps, fun k hk hlt hk' => htr.av k hk hlt (hav k hk'), fun b bi hb => ?_⟩⟩
   ·simp only [List.length_map] at hb
    simp [subβ, List.getElem?_eq_none hb]
   ·refine hvrep.ren (fun k hk _ hk' => hk (hav k hk')) fun b hb bi hbi => ?_
    rw [subβ_idx (hroots b hb)]
    exact hbi
   ·have hlt : b < h.length := by
     rcases Nat.lt_or_ge b h.length with h' | h'
     ·exact h'
     ·rw [hbd b h'] at hb; cases hb
    simp [subβ, prefix_range hpre hlt, htr.β b bi hlt hb]
 cases ex with
 | normal => exact main (by rw [hsp, hsp0]; exact hk) fun Rp a w h => h
 | ret => exact main (by rw [hsp, hsp0]; exact hk) fun Rp a w h => h
 | exit id => cases hk

end Go.Proofs.Ytmlbioapefgioaa.Va

