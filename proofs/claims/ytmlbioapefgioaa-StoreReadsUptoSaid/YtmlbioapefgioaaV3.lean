/- The evaluator and its proof, put together: Va10, Va11, Va12, Va13, Va14, Va15, Va16. -/
import Derived.Test.YtmlbioapefgioaaV2
import Derived.Lib.Strings
import Derived.Laws.MakeOwn
import Derived.Deep.AppendSrc
import Derived.Great.FillDense
/- Elements by value, stretches, lengths; comparisons; fillings. -/
set_option linter.unusedSimpArgs false
set_option linter.unusedVariables false
namespace Go.Proofs.Ytmlbioapefgioaa.Va
open Go

variable {U : Nat → Type} {α : Type} {R : Type} {P : Program} {E : Env U} {X W0 : Nat → Prop} {β : Nat → Option BI} {hp : Nat → Blk U} {w : World}

theorem EnvOK.strE (h : EnvOK P E) {t : TypeId} (hd : (E.ti t).d = .str) : P.underlying t = some .string := by
 have h1 := h.desc (t := t) (by rw [hd]; rfl)
 rw [hd] at h1
 simp only [descB] at h1
 split at h1 <;> simp_all
theorem EnvOK.boolE (h : EnvOK P E) {t : TypeId} (hd : (E.ti t).d = .bool) : P.underlying t = some .bool := by
 have h1 := h.desc (t := t) (by rw [hd]; rfl)
 rw [hd] at h1
 simp only [descB] at h1
 split at h1 <;> simp_all
theorem EnvOK.intE (h : EnvOK P E) {t : TypeId} {k : IntKind} (hd : (E.ti t).d = .int k) : P.underlying t = some (.int k) := by
 have h1 := h.desc (t := t) (by rw [hd]; rfl)
 rw [hd] at h1
 simp only [descB] at h1
 split at h1 <;> simp_all
theorem EnvOK.fltE (h : EnvOK P E) {t : TypeId} {k : FloatKind} (hd : (E.ti t).d = .flt k) : P.underlying t = some (.float k) := by
 have h1 := h.desc (t := t) (by rw [hd]; rfl)
 rw [hd] at h1
 simp only [descB] at h1
 split at h1 <;> simp_all
theorem EnvOK.ptrE (h : EnvOK P E) {t e : TypeId} (hd : (E.ti t).d = .ptr e) : P.underlying t = some (.pointer e) := by
 have h1 := h.desc (t := t) (by rw [hd]; rfl)
 rw [hd] at h1
 simp only [descB] at h1
 split at h1 <;> simp_all

theorem indexA_ok (hE : EnvOK P E) {st : St U} {t : TypeId} {x ix : AV U} {K : KO U R} {r : R} (h : indexA E t x ix K = some r) :
  Looks E P st K r (fun vx vy => Instr.index t vx vy) x ix := by
 unfold indexA at h
 split at h
 ·rename_i ki i
  split at h
  ·rename_i s hd
   have hu := hE.strE hd
   split at h
   ·rename_i h0
    split at h
    ·rename_i b hb
     refine ⟨_, _, h, @fun X W0 β hp w vx vy hh hr hry hag => ?_⟩
     obtain rfl := rep_int hry
     obtain rfl := rep_str hr
     refine ⟨.int .u8 b.toNat, ?_, .im (.int _ _)⟩
     have hb' : s[i.toNat]? = some b := by
      have hlt := (List.getElem?_eq_some_iff.1 hb).1
      simp at hlt
      have : i.toNat < s.size := hlt
      rw [getElem?_pos s i.toNat this]
      simp only [List.getElem?_eq_getElem (l := s.data.toList) (by simpa using hlt), Option.some.injEq] at hb
      rw [← hb]
      rfl
     simp [Instr.index, asIntOf, run_underlying hu, h0, hb']
    ·cases h
   ·cases h
  ·rename_i n e cs hd
   obtain ⟨hu, ho, hsz⟩ := hE.arrE hd
   obtain ⟨j, hj, rfl, hk⟩ := among_some h
   split at hk
   ·rename_i xs hxs
    refine ⟨_, _, hk, @fun X W0 β hp w vx vy hh hr hry hag => ?_⟩
    obtain rfl := rep_int hry
    cases hr with
    | agg hl hv =>
     obtain ⟨vv, hv1, hv2⟩ := part_run (P := P) (w := w) hE ho hl hv hxs
     exact ⟨vv, by simp [Instr.index, asIntOf, run_underlying hu, hj, run_sizeOf' hE ho, hv1], hv2⟩
   ·cases hk
  ·cases h
 ·cases h

def OptRep (cc : (T : Nat) → Cod U T) (w : World) (av : Nat → Prop) (β : Nat → Option BI) (x : Option (AV U)) (v : Option Value) : Prop :=
 (∀ y, x = some y → ∃ u, v = some u ∧ RepA cc w av β y u) ∧ (x = none → v = none)

def LooksS (E : Env U) (P : Program) (st : St U) (K : KO U R) (r : R) (t : TypeId) (x : AV U) (lo hi : Option (AV U)) : Prop :=
 ∃ v rd, K v [] rd = some r ∧ ∀ {X W0 : Nat → Prop} {β : Nat → Option BI} {hp : Nat → Blk U} {w : World} {vx : Value} {vlo vhi : Option Value}, HRel E.cc X W0 β hp w → RepA E.cc w (avOf X β hp) β x vx →
  OptRep E.cc w (avOf X β hp) β lo vlo → OptRep E.cc w (avOf X β hp) β hi vhi →
  (∀ b ∈ rd, hp b = st.hp.get b) → ∃ vv, (Instr.sliceAt t vx vlo vhi none).run P w = .ok vv w ∧ RepA E.cc w (avOf X β hp) β v vv

theorem OptRep.none {av : Nat → Prop} {v : Option Value} (h : OptRep E.cc w av β none v) : v = none := h.2 rfl

theorem sliceAt_slice {t e : TypeId} (hu : P.underlying t = some (.slice e)) (hE : EnvOK P E) (ho : (E.ti e).d.isOther = false) (a : Option Addr) (len cap : Nat) (vlo vhi : Option Value) (l q : Nat)
  (hb : (Instr.sliceBounds true len cap vlo vhi none).run P w = .ok (l, q, cap) w) :
  (Instr.sliceAt t (.slice a len cap) vlo vhi none).run P w = .ok (.slice (if cap = l then a else a.map (·.add (l * (E.ti e).size))) (q - l) (cap - l)) w := by
 simp [Instr.sliceAt, Instr.slice, run_underlying hu, hb, run_sizeOf' hE ho]

theorem rep_stretch {av : Nat → Prop} {T : Nat} {xs : List (U T)} {a : Option Addr} {len cap l q : Nat} (hl : l ≤ q) (hq : q ≤ xs.length) (h : Rep E.cc w av (.slice T xs) (.slice a len cap)) :
  len = xs.length ∧ (0 < xs.length → len ≤ cap) ∧ Rep E.cc w av (.slice T ((xs.take q).drop l)) (.slice (if cap = l then a else a.map (·.add (l * (E.cc T).sz))) (q - l) (cap - l)) := by
 cases h with
 | slice0 =>
  simp at hq
  refine ⟨rfl, by simp, ?_⟩
  rw [List.take_nil, List.drop_nil, show q - l = 0 by omega]
  exact .slice0 _ _ _
 | slice _ _ k off _ g hp' hav hcap hcell hrep =>
  refine ⟨rfl, fun _ => hcap, ?_⟩
  have hlen : ((xs.take q).drop l).length = q - l := by simp; omega
  by_cases hz : q - l = 0
  ·have : (xs.take q).drop l = [] := List.eq_nil_of_length_eq_zero (by omega)
   rw [this, hz]
   exact .slice0 _ _ _
  ·rw [if_neg (by omega)]
   have key := Rep.slice (cc := E.cc) (w := w) (av := av) T ((xs.take q).drop l) k (off + l * (E.cc T).sz) (cap - l) (fun i => g (l * (E.cc T).sz + i)) hp' hav (by omega)
    (fun i hi => by
     rw [Nat.add_assoc]
     apply hcell
     rw [hlen] at hi
     calc l * (E.cc T).sz + i < l * (E.cc T).sz + (q - l) * (E.cc T).sz := by omega
      _ = q * (E.cc T).sz := by rw [← Nat.add_mul]; congr 1; omega
      _ ≤ xs.length * (E.cc T).sz := Nat.mul_le_mul_right _ hq)
    (fun i x j y hx hy => by
     have hx' : xs[l + i]? = some x := by
      rw [List.getElem?_drop, List.getElem?_take] at hx
      split at hx
      ·exact hx
      ·cases hx
     have := hrep (l + i) x j y hx' hy
     rwa [show (l + i) * (E.cc T).sz + j = l * (E.cc T).sz + (i * (E.cc T).sz + j) by rw [Nat.add_mul]; omega] at this)
   rw [hlen] at key
   simp only [Option.map_some, add_lit']
   exact key

end Go.Proofs.Ytmlbioapefgioaa.Va

/- Stretches and lengths. -/
namespace Go.Proofs.Ytmlbioapefgioaa.Va
open Go

variable {U : Nat → Type} {α : Type} {R : Type} {P : Program} {E : Env U} {X W0 : Nat → Prop} {β : Nat → Option BI} {hp : Nat → Blk U} {w : World}

theorem bounds_run {len : Nat} {lo hi : Option (AV U)} {K : Nat → Nat → Option R} {r : R} (h : boundsA len lo hi K = some r) :
  ∃ l q, l ≤ q ∧ q ≤ len ∧ (lo = none → l = 0) ∧ (hi = none → q = len) ∧ K l q = some r ∧ ∀ {w : World} {cc : (T : Nat) → Cod U T} {av : Nat → Prop} {β : Nat → Option BI} {vlo vhi : Option Value} {cap : Nat} {b : Bool}, len ≤ cap →
   OptRep cc w av β lo vlo → OptRep cc w av β hi vhi → (Instr.sliceBounds b len cap vlo vhi none).run P w = .ok (l, q, cap) w := by
 obtain ⟨l, q, h1, h2, h3, h4, h5, h6⟩ := boundsA_ok (P := P) h
 exact ⟨l, q, h1, h2, h3, h4, h5, fun hc ho ho' => h6 hc ho.1 ho.2 ho'.1 ho'.2⟩

theorem sliceA_ok (hE : EnvOK P E) {st : St U} {t : TypeId} {x : AV U} {lo hi : Option (AV U)} {K : KO U R} {r : R} (h : sliceA E st t x lo hi false K = some r) : LooksS E P st K r t x lo hi := by
 unfold sliceA at h
 simp only [Bool.false_eq_true, if_false] at h
 split at h
 ·-- a string
  rename_i hd
  have hu := hE.strE hd
  split at h
  ·obtain ⟨l, q, h1, h2, _, _, hk, hb⟩ := bounds_run (P := P) h
   refine ⟨_, _, hk, @fun X W0 β hp w vx vlo vhi hh hr hlo hhi hag => ?_⟩
   obtain rfl := rep_str hr
   have := hb (w := w) (b := false) (Nat.le_refl _) hlo hhi
   refine ⟨_, ?_, .im (.str _)⟩
   simp [Instr.sliceAt, Instr.slice, run_underlying hu, this]
  ·cases h
 ·-- a slice
  rename_i e hd
  obtain ⟨hu, _⟩ := hE.sliceE hd
  split at h
  ·cases h
  rename_i hc
  have ho : (E.ti e).d.isOther = false := by simpa using hc
  split at h
  ·obtain ⟨l, q, h1, h2, _, _, hk, hb⟩ := bounds_run (P := P) h
   refine ⟨_, _, hk, @fun X W0 β hp w vx vlo vhi hh hr hlo hhi hag => ?_⟩
   obtain rfl := rep_nils hr
   obtain rfl : l = 0 := by omega
   obtain rfl : q = 0 := by omega
   have := sliceAt_slice hu hE ho none 0 0 vlo vhi 0 0 (hb (w := w) (Nat.le_refl _) hlo hhi)
   exact ⟨_, this, .im .nils⟩
  ·rename_i T xs
   split at h
   case isFalse => cases h
   rename_i hsz
   -- all four makes of bounds
   have gen : ∀ (l q : Nat) (ys : List (U T)), l ≤ q → q ≤ xs.length → ys = (xs.take q).drop l → K (.im (.slice T ys)) [] [] = some r →
     (∀ {w : World} {av : Nat → Prop} {β : Nat → Option BI} {vlo vhi : Option Value} {cap : Nat}, xs.length ≤ cap → OptRep E.cc w av β lo vlo → OptRep E.cc w av β hi vhi → (Instr.sliceBounds true xs.length cap vlo vhi none).run P w = .ok (l, q, cap) w) → LooksS E P st K r t (.im (.slice T xs)) lo hi := by
    rintro l q ys h1 h2 rfl hk hb
    refine ⟨_, _, hk, @fun X W0 β hp w vx vlo vhi hh hr hlo hhi hag => ?_⟩
    cases hr with
    | im hr =>
     have key : ∃ a len cap, vx = .slice a len cap := by cases hr <;> exact ⟨_, _, _, rfl⟩
     obtain ⟨a, len, cap, rfl⟩ := key
     obtain ⟨e1, e2, e3⟩ := rep_stretch h1 h2 hr
     subst e1
     by_cases hx0 : xs.length = 0
     ·have hx : xs = [] := List.eq_nil_of_length_eq_zero hx0
      subst hx
      obtain rfl : q = 0 := by simpa using h2
      obtain rfl : l = 0 := by omega
      have := sliceAt_slice hu hE ho a [].length cap vlo vhi 0 0 (hb (Nat.zero_le _) hlo hhi)
      rw [hsz] at e3
      exact ⟨_, this, .im e3⟩
     ·have := sliceAt_slice hu hE ho a xs.length cap vlo vhi l q (hb (e2 (by omega)) hlo hhi)
      rw [hsz] at e3
      exact ⟨_, this, .im e3⟩
   split at h
   ·refine gen 0 xs.length xs (by omega) (by omega) (by simp) h fun hc ho1 ho2 => ?_
    rw [ho1.none, ho2.none]
    simp [Instr.sliceBounds]
   ·obtain ⟨l, q, h1, h2, h3, h4, hk, hb⟩ := bounds_run (P := P) h
    obtain rfl := h3 rfl
    exact gen 0 q _ h1 h2 (by simp) hk fun hc ho1 ho2 => hb hc ho1 ho2
   ·obtain ⟨l, q, h1, h2, h3, h4, hk, hb⟩ := bounds_run (P := P) h
    obtain rfl := h4 rfl
    exact gen l _ _ h1 h2 (by simp) hk fun hc ho1 ho2 => hb hc ho1 ho2
   ·obtain ⟨l, q, h1, h2, h3, h4, hk, hb⟩ := bounds_run (P := P) h
    exact gen l q _ h1 h2 rfl hk fun hc ho1 ho2 => hb hc ho1 ho2
  ·rename_i b
   split at h
   ·rename_i T xs lv hbb
    split at h
    case isFalse => cases h
    rename_i hsz
    split at h
    ·refine ⟨_, _, h, @fun X W0 β hp w vx vlo vhi hh hr hlo hhi hag => ?_⟩
     rw [hlo.none, hhi.none]
     cases hr with
     | own0 hβ =>
      rename_i cap0 a0
      refine ⟨.slice a0 0 0, ?_, .own0 hβ⟩
      have := sliceAt_slice (w := w) hu hE ho a0 0 0 none none 0 0 (by simp [Instr.sliceBounds])
      rw [this]
      cases a0 <;> simp [Addr.add]
     | own hβ =>
      rename_i k n cap
      refine ⟨.slice (some ⟨k, 0, none⟩) n cap, ?_, .own hβ⟩
      have := sliceAt_slice (w := w) hu hE ho (some ⟨k, 0, none⟩) n cap none none 0 n (by simp [Instr.sliceBounds])
      rw [this]
      simp [Addr.add]
    ·obtain ⟨l, q, h1, h2, _, _, hk, hb⟩ := bounds_run (P := P) h
     refine ⟨_, _, hk, @fun X W0 β hp w vx vlo vhi hh hr hlo hhi hag => ?_⟩
     have hbb' := hag b (by simp)
     rw [hbb] at hbb'
     cases hr with
     | own0 hβ =>
      have hok := hh.ok b _ hβ
      rw [hbb'] at hok
      have := hok.2.1
      simp at this
      subst this
      obtain rfl : q = 0 := by simpa using h2
      obtain rfl : l = 0 := by omega
      exact ⟨_, sliceAt_slice hu hE ho _ 0 0 vlo vhi 0 0 (hb (Nat.zero_le _) hlo hhi), .sub0⟩
     | own hβ =>
      rename_i k n cap
      have hok := hh.ok b _ hβ
      rw [hbb'] at hok
      have hn := hok.2.1
      simp only at hn
      subst hn
      obtain ⟨hnc, _⟩ := hok.2.2.2 k rfl
      simp only at hnc
      refine ⟨_, sliceAt_slice hu hE ho _ _ _ vlo vhi l q (hb hnc hlo hhi), ?_⟩
      by_cases hz : q - l = 0
      ·rw [hz]; exact .sub0
      ·rw [if_neg (by omega)]
       simp only [Option.map_some, add_lit', Nat.zero_add, ← hsz]
       exact .sub hβ (by omega) (by omega)
   ·cases h
  ·rename_i b off len sz
   split at h
   case isFalse => cases h
   rename_i hsz
   obtain ⟨l, q, h1, h2, _, _, hk, hb⟩ := bounds_run (P := P) h
   refine ⟨_, _, hk, @fun X W0 β hp w vx vlo vhi hh hr hlo hhi hag => ?_⟩
   cases hr with
   | sub0 =>
    obtain rfl : q = 0 := by simpa using h2
    obtain rfl : l = 0 := by omega
    exact ⟨_, sliceAt_slice hu hE ho _ _ _ vlo vhi 0 0 (hb (Nat.zero_le _) hlo hhi), .sub0⟩
   | sub hβ hl hcl =>
    refine ⟨_, sliceAt_slice hu hE ho _ _ _ vlo vhi l q (hb hcl hlo hhi), ?_⟩
    by_cases hz : q - l = 0
    ·rw [hz]; exact .sub0
    ·rw [if_neg (by omega)]
     simp only [Option.map_some, add_lit', ← hsz, ← Nat.add_mul]
     exact .sub hβ (by omega) (by omega)
  ·rename_i b off len sz
   split at h
   case isFalse => cases h
   rename_i hsz
   obtain ⟨l, q, h1, h2, _, _, hk, hb⟩ := bounds_run (P := P) h
   refine ⟨_, _, hk, @fun X W0 β hp w vx vlo vhi hh hr hlo hhi hag => ?_⟩
   cases hr with
   | vsl0 =>
    obtain rfl : q = 0 := by simpa using h2
    obtain rfl : l = 0 := by omega
    exact ⟨_, sliceAt_slice hu hE ho _ _ _ vlo vhi 0 0 (hb (Nat.zero_le _) hlo hhi), .vsl0⟩
   | vsl hβ hcl =>
    refine ⟨_, sliceAt_slice hu hE ho _ _ _ vlo vhi l q (hb hcl hlo hhi), ?_⟩
    by_cases hz : q - l = 0
    ·rw [hz]; exact .vsl0
    ·rw [if_neg (by omega)]
     simp only [Option.map_some, add_lit', ← hsz]
     exact .vsl hβ (by omega)
  ·cases h
 ·-- an array
  rename_i n e hd
  obtain ⟨hu, ho, _⟩ := hE.arrE hd
  have harr : ∀ {w : World} (k o : Nat) (vlo vhi : Option Value) (l q : Nat), (Instr.sliceBounds false n n vlo vhi none).run P w = .ok (l, q, n) w →
    (Instr.sliceAt t (.pointer (some ⟨k, o, none⟩)) vlo vhi none).run P w = .ok (.slice (some (if n = l then ⟨k, o, none⟩ else ⟨k, o + l * (E.ti e).size, none⟩)) (q - l) (n - l)) w := by
   intro w k o vlo vhi l q hb
   simp [Instr.sliceAt, run_underlying hu, Instr.sureAddr, hb, run_sizeOf' hE ho, add_lit']
  split at h
  ·obtain ⟨l, q, h1, h2, _, _, hk, hb⟩ := bounds_run (P := P) h
   refine ⟨_, _, hk, @fun X W0 β hp w vx vlo vhi hh hr hlo hhi hag => ?_⟩
   cases hr with
   | ptr hβ =>
    refine ⟨_, harr _ _ vlo vhi l q (hb (Nat.le_refl _) hlo hhi), ?_⟩
    by_cases hz : q - l = 0
    ·rw [hz]; exact .vsl0
    ·rw [if_neg (by omega)]
     exact .vsl hβ (by omega)
  ·rename_i b i sz
   split at h
   case isFalse => cases h
   rename_i hsz
   split at h
   ·rename_i T xs lv hbb
    split at h
    case isFalse => cases h
    rename_i hin
    obtain ⟨l, q, h1, h2, _, _, hk, hb⟩ := bounds_run (P := P) h
    refine ⟨_, _, hk, @fun X W0 β hp w vx vlo vhi hh hr hlo hhi hag => ?_⟩
    have hbb' := hag b (by simp)
    rw [hbb] at hbb'
    cases hr with
    | rptr hβ =>
     rename_i k m cap
     have hok := hh.ok b _ hβ
     rw [hbb'] at hok
     have hn := hok.2.1
     simp only at hn
     refine ⟨_, harr _ _ vlo vhi l q (hb (Nat.le_refl _) hlo hhi), ?_⟩
     by_cases hz : q - l = 0
     ·rw [hz]; exact .sub0
     ·rw [if_neg (by omega), Nat.add_zero, ← hsz, ← Nat.add_mul]
      exact .sub hβ (by omega) (by omega)
   ·cases h
  ·cases h
 ·cases h

theorem lenA_ok (hE : EnvOK P E) {st : St U} {t : TypeId} {x : AV U} {K : KO U R} {r : R} (h : lenA E st t x K = some r) (ts : Array TypeId) (ht : ts[0]? = some t) (ty : TypeId) :
  Looks E P st K r (fun vx _ => Builtin.len_ ts ty #[vx]) x x := by
 unfold lenA at h
 split at h
 ·rename_i s hd
  refine ⟨_, _, h, @fun X W0 β hp w vx vy hh hr _ hag => ?_⟩
  obtain rfl := rep_str hr
  exact ⟨_, by simp [Builtin.len_, ht, run_underlying (hE.strE hd), goInt], .im (.int _ _)⟩
 ·rename_i n e hd
  refine ⟨_, _, h, @fun X W0 β hp w vx vy hh hr _ hag => ?_⟩
  refine ⟨_, ?_, .im (.int _ _)⟩
  simp [Builtin.len_, ht, run_underlying (hE.arrE hd).1, goInt]
 ·rename_i e b hd
  have hu := (hE.sliceE hd).1
  split at h
  ·rename_i T l lv hbb
   refine ⟨_, _, h, @fun X W0 β hp w vx vy hh hr _ hag => ?_⟩
   have hbb' := hag b (by simp)
   rw [hbb] at hbb'
   cases hr with
   | own0 hβ =>
    have hok := hh.ok b _ hβ
    rw [hbb'] at hok
    have := hok.2.1
    simp at this
    subst this
    exact ⟨_, by simp [Builtin.len_, ht, run_underlying hu, goInt], .im (.int _ _)⟩
   | own hβ =>
    have hok := hh.ok b _ hβ
    rw [hbb'] at hok
    have hn := hok.2.1
    simp only at hn
    subst hn
    exact ⟨_, by simp [Builtin.len_, ht, run_underlying hu, goInt], .im (.int _ _)⟩
  ·cases h
 ·rename_i e b off len sz hd
  have hu := (hE.sliceE hd).1
  refine ⟨_, _, h, @fun X W0 β hp w vx vy hh hr _ hag => ?_⟩
  cases hr <;> exact ⟨_, by simp [Builtin.len_, ht, run_underlying hu, goInt], .im (.int _ _)⟩
 ·rename_i e b off len sz hd
  have hu := (hE.sliceE hd).1
  refine ⟨_, _, h, @fun X W0 β hp w vx vy hh hr _ hag => ?_⟩
  cases hr <;> exact ⟨_, by simp [Builtin.len_, ht, run_underlying hu, goInt], .im (.int _ _)⟩
 ·rename_i e hd
  have hu := (hE.sliceE hd).1
  refine ⟨_, _, h, @fun X W0 β hp w vx vy hh hr _ hag => ?_⟩
  obtain rfl := rep_nils hr
  exact ⟨_, by simp [Builtin.len_, ht, run_underlying hu, goInt], .im (.int _ _)⟩
 ·rename_i e T l hd
  have hu := (hE.sliceE hd).1
  refine ⟨_, _, h, @fun X W0 β hp w vx vy hh hr _ hag => ?_⟩
  cases hr with
  | im hr => cases hr <;> exact ⟨_, by simp [Builtin.len_, ht, run_underlying hu, goInt], .im (.int _ _)⟩
 ·rename_i kt b hd
  obtain ⟨et, hu⟩ := hE.mapE hd
  split at h
  ·rename_i l hbb
   refine ⟨_, _, h, @fun X W0 β hp w vx vy hh hr _ hag => ?_⟩
   have hbb' := hag b (by simp)
   rw [hbb] at hbb'
   cases hr with
   | mp hβ =>
    have hok := hh.ok b _ hβ
    rw [hbb'] at hok
    obtain ⟨k', es, clk, hk', hh', hs⟩ := hok
    cases hk'
    have hl : es.size = l.length := by
     have := congrArg List.length hs
     simpa using this
    exact ⟨_, by simp [Builtin.len_, ht, run_underlying hu, goInt, getObj, Sem.run, hh', hl], .im (.int _ _)⟩
  ·cases h
 ·cases h

end Go.Proofs.Ytmlbioapefgioaa.Va

/- Comparisons. -/
namespace Go.Proofs.Ytmlbioapefgioaa.Va
open Go

variable {U : Nat → Type} {α : Type} {R : Type} {P : Program} {E : Env U} {X W0 : Nat → Prop} {β : Nat → Option BI} {hp : Nat → Blk U} {w : World}

theorem forIn_all {γ : Type} (l : List γ) (body : γ → Option Bool × Unit → Sem (ForInStep (Option Bool × Unit))) (g : γ → Bool) (w : World)
  (h : ∀ x ∈ l, ∀ s, (body x s).run P w = .ok (if g x then .yield (none, ()) else .done (some false, ())) w) :
  (forIn l (none, ()) body).run P w = .ok (if l.all g then (none, ()) else (some false, ())) w := by
 induction l with
 | nil => simp
 | cons x l ih =>
  have hx := h x (by simp) (none, ())
  have ih' := ih fun y hy => h y (by simp [hy])
  rw [List.forIn_cons]
  simp only [Sem.run_bind, hx, Result.andThen_ok]
  cases hg : g x with
  | true => simp [hg, ih']
  | false => simp [hg]

def eqI : List (IV U) → List (IV U) → Option Bool
 | [], [] => some true
 | x :: xs, y :: ys => match eqCell x y, eqI xs ys with
  | some a, some b => some (a && b)
  | _, _ => none
 | _, _ => none

theorem eqCells_im : ∀ {xs ys : List (AV U)} {b : Bool}, eqCells xs ys = some b → ∃ is js : List (IV U), xs = is.map .im ∧ ys = js.map .im ∧ eqI is js = some b
 | [], [], b, h => ⟨[], [], rfl, rfl, h⟩
 | .im x :: xs, .im y :: ys, b, h => by
  simp only [eqCells] at h
  split at h
  ·rename_i a c h1 h2
   obtain ⟨is, js, e1, e2, e3⟩ := eqCells_im h2
   exact ⟨x :: is, y :: js, by simp [e1], by simp [e2], by simp only [eqI, h1, e3]; exact h⟩
  ·cases h

theorem eqI_len : ∀ {xs ys : List (IV U)} {b : Bool}, eqI xs ys = some b → xs.length = ys.length
 | [], [], _, _ => rfl
 | x :: xs, y :: ys, b, h => by
  simp only [eqI] at h
  split at h
  ·rename_i h1 h2
   simp [eqI_len h2]
  ·cases h

theorem eqI_append : ∀ {xs xs' ys ys' : List (IV U)} {b : Bool}, xs.length = xs'.length → eqI (xs ++ ys) (xs' ++ ys') = some b → ∃ a c, eqI xs xs' = some a ∧ eqI ys ys' = some c ∧ b = (a && c)
 | [], [], ys, ys', b, _, h => ⟨true, b, rfl, h, rfl⟩
 | x :: xs, x' :: xs', ys, ys', b, hl, h => by
  simp only [List.cons_append, eqI] at h
  split at h
  ·rename_i a c h1 h2
   obtain ⟨a', c', e1, e2, e3⟩ := eqI_append (by simpa using hl) h2
   simp only [Option.some.injEq] at h
   exact ⟨a && a', c', by simp [eqI, h1, e1], e2, by rw [← h, e3, Bool.and_assoc]⟩
  ·cases h

theorem eqI_split {xs ys : List (IV U)} {b : Bool} (n : Nat) (h : eqI xs ys = some b) : ∃ a c, eqI (xs.take n) (ys.take n) = some a ∧ eqI (xs.drop n) (ys.drop n) = some c ∧ b = (a && c) := by
 have hl := eqI_len h
 rw [← List.take_append_drop n xs, ← List.take_append_drop n ys] at h
 exact eqI_append (by simp [hl]) h

def eqV (xs ys : List (IV U)) : Bool := (eqI xs ys).getD false

def CellsV (cc : (T : Nat) → Cod U T) (w : World) (av : Nat → Prop) (xs : List (IV U)) (vs : Array Value) : Prop :=
 vs.size = xs.length ∧ ∀ (j : Nat) (x : IV U) (v : Value), xs[j]? = some x → vs[j]? = some v → Rep cc w av x v

theorem CellsV.extract {av : Nat → Prop} {xs : List (IV U)} {vs : Array Value} (h : CellsV E.cc w av xs vs) (o n : Nat) (hn : o + n ≤ xs.length) : CellsV E.cc w av ((xs.drop o).take n) (vs.extract o (o + n)) := by
 obtain ⟨h1, h2⟩ := h
 refine ⟨by simp; omega, fun j x v hx hv => ?_⟩
 rw [Array.getElem?_extract] at hv
 split at hv
 ·rw [List.getElem?_take] at hx
  split at hx
  ·rw [List.getElem?_drop] at hx
   exact h2 _ x v hx hv
  ·cases hx
 ·cases hv

def ValV (E : Env U) (w : World) (av : Nat → Prop) (t : TypeId) (xs : List (IV U)) (v : Value) : Prop :=
 xs.length = (E.ti t).size ∧ CellsV E.cc w av xs v.cells ∧ ((E.ti t).isAgg = true → ∃ vs, v = .agg vs) ∧ ((E.ti t).isAgg = false → v.cells = #[v])

theorem part_val (hE : EnvOK P E) {t : TypeId} (ho : (E.ti t).d.isOther = false) {av : Nat → Prop} {xs : List (IV U)} {vs : Array Value} (h : CellsV E.cc w av xs vs) (o : Nat) (hn : o + (E.ti t).size ≤ xs.length) :
  ∃ v, (part t vs o).run P w = .ok v w ∧ ValV E w av t ((xs.drop o).take (E.ti t).size) v := by
 have hx := h.extract o (E.ti t).size hn
 cases hag : (E.ti t).isAgg with
 | true =>
  exact ⟨.agg (vs.extract o (o + (E.ti t).size)), by simp [part, run_isAgg hE ho, hag, run_sizeOf' hE ho], by simp; omega, hx, fun _ => ⟨_, rfl⟩, (fun e => by rw [hag] at e; cases e)⟩
 | false =>
  obtain ⟨i, _, _, _, h1'⟩ := hE.info ho
  have h1 := h1' hag
  have hlt : o < vs.size := by rw [h.1]; omega
  have hlt' : o < xs.length := by omega
  have hr : Rep E.cc w av xs[o] vs[o] := h.2 o _ _ (by simp [hlt']) (by simp [hlt])
  have h1c : (vs[o]).cells = #[vs[o]] := by
   have := hr.one
   revert this
   generalize vs[o] = q
   intro this
   cases q <;> first | rfl | (simp [Value.oneCell'] at this)
  refine ⟨vs[o], by simp [part, run_isAgg hE ho, hag, hlt], by simp; omega, ?_, (fun e => by rw [hag] at e; cases e), fun _ => h1c⟩
  rw [h1c, h1]
  refine ⟨by simp; omega, fun j x v hx hv => ?_⟩
  rw [List.getElem?_take] at hx
  split at hx
  ·rename_i hj
   obtain rfl : j = 0 := by omega
   rw [List.getElem?_drop, Nat.add_zero] at hx
   simp [hlt'] at hx
   simp at hv
   subst hx hv
   exact hr
  ·cases hx

def fitsV : List TD → List (IV U) → Bool
 | [], [] => true
 | d :: ds, x :: xs => fitI d x && fitsV ds xs
 | _, _ => false
theorem fitsI_im : ∀ {ds : List TD} {is : List (IV U)}, fitsI ds (is.map AV.im) = true → fitsV ds is = true
 | [], [], _ => rfl
 | d :: ds, x :: is, h => by
  simp only [List.map_cons, fitsI, Bool.and_eq_true] at h
  simp only [fitsV, h.1, fitsI_im h.2, Bool.and_self]
theorem fitsV_len : ∀ {ds : List TD} {is : List (IV U)}, fitsV ds is = true → ds.length = is.length
 | [], [], _ => rfl
 | d :: ds, x :: is, h => by
  simp only [fitsV, Bool.and_eq_true] at h
  simp [fitsV_len h.2]
theorem fitsV_append : ∀ {A B : List TD} {is : List (IV U)}, fitsV (A ++ B) is = true → fitsV A (is.take A.length) = true ∧ fitsV B (is.drop A.length) = true
 | [], B, is, h => ⟨by simp [fitsV], by simpa using h⟩
 | d :: A, B, [], h => by simp [fitsV] at h
 | d :: A, B, x :: is, h => by
  simp only [List.cons_append, fitsV, Bool.and_eq_true] at h
  obtain ⟨h1, h2⟩ := fitsV_append h.2
  simp [fitsV, h.1, h1, h2]

theorem cts_len (P : Program) : ∀ (n : Nat) (t : TypeId), EnvOK P E → eqB P E n t = true → (cts E n t).length = (E.ti t).size := by
 intro n
 induction n with
 | zero => intro t _ h; simp [eqB] at h
 | succ n ih =>
  intro t hE h
  simp only [eqB, Bool.and_eq_true, Bool.not_eq_true'] at h
  obtain ⟨ho, h⟩ := h
  have leaf : (E.ti t).isAgg = false → (E.ti t).size = 1 := by obtain ⟨i, _, _, _, h1⟩ := hE.info ho; exact h1
  split at h
  ·rename_i hd; simp [cts, hd, leaf (by simp [TI.isAgg, hd])]
  ·rename_i hd; simp [cts, hd, leaf (by simp [TI.isAgg, hd])]
  ·rename_i hd; simp [cts, hd, leaf (by simp [TI.isAgg, hd])]
  ·rename_i fs hd
   simp only [Bool.and_eq_true, beq_iff_eq, List.all_eq_true] at h
   rw [← h.1.1.2]
   simp only [cts, hd, List.length_flatMap]
   congr 1
   exact List.map_congr_left fun p hp' => ih p.1 hE (h.1.2 p hp')
  ·rename_i k e hd
   have := (hE.arrE hd).2.2
   simp [cts, hd, ih e hE h, this]
  ·cases h

theorem fields_eq (hE : EnvOK P E) {n : Nat} {xs ys : List (IV U)} : ∀ (fs : List (TypeId × Nat)) (o : Nat) (b : Bool), inRow E o fs = true → (∀ p ∈ fs, eqB P E n p.1 = true) →
  o + (fs.map fun p => (E.ti p.1).size).sum = xs.length → eqI (xs.drop o) (ys.drop o) = some b → fitsV (fs.flatMap fun p => cts E n p.1) (xs.drop o) = true → fitsV (fs.flatMap fun p => cts E n p.1) (ys.drop o) = true →
  b = fs.all (fun p => eqV ((xs.drop p.2).take (E.ti p.1).size) ((ys.drop p.2).take (E.ti p.1).size)) ∧
  ∀ p ∈ fs, p.2 + (E.ti p.1).size ≤ xs.length ∧ (∃ a, eqI ((xs.drop p.2).take (E.ti p.1).size) ((ys.drop p.2).take (E.ti p.1).size) = some a) ∧
   fitsV (cts E n p.1) ((xs.drop p.2).take (E.ti p.1).size) = true ∧ fitsV (cts E n p.1) ((ys.drop p.2).take (E.ti p.1).size) = true := by
 intro fs
 induction fs with
 | nil =>
  intro o b _ _ hs h _ _
  simp only [List.map_nil, List.sum_nil, Nat.add_zero] at hs
  have hx : xs.drop o = [] := by rw [hs]; exact List.drop_length
  have := eqI_len h
  rw [hx] at this h
  have hy : ys.drop o = [] := List.eq_nil_of_length_eq_zero (by simpa using this.symm)
  rw [hy] at h
  simp only [eqI, Option.some.injEq] at h
  subst h
  exact ⟨rfl, by simp⟩
 | cons p fs ih =>
  intro o b hr hq hs h hf hf'
  obtain ⟨ft, off⟩ := p
  simp only [inRow, Bool.and_eq_true, beq_iff_eq] at hr
  obtain ⟨rfl, hr⟩ := hr
  simp only [List.map_cons, List.sum_cons] at hs
  obtain ⟨a, c, h1, h2, h3⟩ := eqI_split (E.ti ft).size h
  rw [List.drop_drop, List.drop_drop] at h2
  simp only [List.flatMap_cons] at hf hf'
  have hcl := cts_len P n ft hE (hq (ft, off) (by simp))
  obtain ⟨f1, f2⟩ := fitsV_append hf
  obtain ⟨g1, g2⟩ := fitsV_append hf'
  rw [hcl] at f1 f2 g1 g2
  rw [List.drop_drop] at f2 g2
  obtain ⟨i1, i2⟩ := ih (off + (E.ti ft).size) c hr (fun p hp' => hq p (by simp [hp'])) (by omega) h2 f2 g2
  refine ⟨?_, ?_⟩
  ·rw [h3, i1, List.all_cons]
   simp [eqV, h1]
  ·intro p hp'
   rcases List.mem_cons.1 hp' with rfl | hp'
   ·exact ⟨by simp only; omega, ⟨a, h1⟩, f1, g1⟩
   ·exact i2 p hp'

theorem arr_eq (hE : EnvOK P E) {n : Nat} {e : TypeId} (heB : eqB P E n e = true) : ∀ (k : Nat) (xs ys : List (IV U)) (b : Bool), xs.length = k * (E.ti e).size → eqI xs ys = some b →
  fitsV ((List.replicate k (cts E n e)).flatten) xs = true → fitsV ((List.replicate k (cts E n e)).flatten) ys = true →
  ∀ (o : Nat) (X' Y' : List (IV U)), X'.drop (o * (E.ti e).size) = xs → Y'.drop (o * (E.ti e).size) = ys → 
  b = (List.range' o k).all (fun i => eqV ((X'.drop (i * (E.ti e).size)).take (E.ti e).size) ((Y'.drop (i * (E.ti e).size)).take (E.ti e).size)) ∧
  ∀ i ∈ List.range' o k, (∃ a, eqI ((X'.drop (i * (E.ti e).size)).take (E.ti e).size) ((Y'.drop (i * (E.ti e).size)).take (E.ti e).size) = some a) ∧
   fitsV (cts E n e) ((X'.drop (i * (E.ti e).size)).take (E.ti e).size) = true ∧ fitsV (cts E n e) ((Y'.drop (i * (E.ti e).size)).take (E.ti e).size) = true := by
 intro k
 induction k with
 | zero =>
  intro xs ys b hl h _ _ o X' Y' _ _
  have hx : xs = [] := List.eq_nil_of_length_eq_zero (by simpa using hl)
  subst hx
  have hy : ys = [] := List.eq_nil_of_length_eq_zero (by simpa using (eqI_len h).symm)
  subst hy
  simp only [eqI, Option.some.injEq] at h
  subst h
  exact ⟨rfl, by simp⟩
 | succ k ih =>
  intro xs ys b hl h hf hf' o X' Y' hX hY
  have hcl := cts_len P n e hE heB
  simp only [List.replicate_succ, List.flatten_cons] at hf hf'
  obtain ⟨f1, f2⟩ := fitsV_append hf
  obtain ⟨g1, g2⟩ := fitsV_append hf'
  rw [hcl] at f1 f2 g1 g2
  obtain ⟨a, c, h1, h2, h3⟩ := eqI_split (E.ti e).size h
  obtain ⟨i1, i2⟩ := ih (xs.drop (E.ti e).size) (ys.drop (E.ti e).size) c (by rw [List.length_drop, hl, Nat.add_mul, Nat.one_mul]; omega) h2 f2 g2 (o + 1) X' Y'
   (by rw [← hX, List.drop_drop, Nat.add_mul, Nat.one_mul]) (by rw [← hY, List.drop_drop, Nat.add_mul, Nat.one_mul])
  refine ⟨?_, ?_⟩
  ·rw [h3, i1, List.range'_succ, List.all_cons, hX, hY]
   simp [eqV, h1]
  ·intro i hi
   rw [List.range'_succ] at hi
   rcases List.mem_cons.1 hi with rfl | hi
   ·rw [hX, hY]
    exact ⟨⟨a, h1⟩, f1, g1⟩
   ·exact i2 i hi

theorem bytes_beq (a b : ByteArray) : (a == b) = (a.toList == b.toList) := by
 rw [Lib.toList_data, Lib.toList_data]
 obtain ⟨x⟩ := a
 obtain ⟨y⟩ := b
 show (x == y) = (x.toList == y.toList)
 rw [Bool.eq_iff_iff]
 simp

theorem equal_ok (hE : EnvOK P E) : ∀ (n : Nat) (t : TypeId), eqB P E n t = true → ∀ (d : Nat), n ≤ d → ∀ {av : Nat → Prop} {xs ys : List (IV U)} {vx vy : Value} {b : Bool},
  ValV E w av t xs vx → ValV E w av t ys vy → eqI xs ys = some b → fitsV (cts E n t) xs = true → fitsV (cts E n t) ys = true → (Op.equalIn d t vx vy).run P w = .ok b w := by
 intro n
 induction n with
 | zero => intro t h; simp [eqB] at h
 | succ n ih =>
  intro t h d hd av xs ys vx vy b hx hy heq hf hf'
  obtain ⟨d, rfl⟩ : ∃ q, d = q + 1 := ⟨d - 1, by omega⟩
  simp only [eqB, Bool.and_eq_true, Bool.not_eq_true'] at h
  obtain ⟨ho, h⟩ := h
  -- one cell
  have leaf : ∀ dd, cts E (n + 1) t = [dd] → (E.ti t).isAgg = false → ∃ x y, Rep E.cc w av x vx ∧ Rep E.cc w av y vy ∧ eqCell x y = some b ∧ fitI dd x = true ∧ fitI dd y = true := by
   intro dd hc hag
   obtain ⟨i, _, _, _, h1'⟩ := hE.info ho
   have h1 := h1' hag
   obtain ⟨x, rfl⟩ : ∃ x, xs = [x] := List.length_eq_one_iff.1 (by rw [hx.1, h1])
   obtain ⟨y, rfl⟩ : ∃ y, ys = [y] := List.length_eq_one_iff.1 (by rw [hy.1, h1])
   have r1 := hx.2.1.2 0 x vx rfl (by rw [hx.2.2.2 hag]; rfl)
   have r2 := hy.2.1.2 0 y vy rfl (by rw [hy.2.2.2 hag]; rfl)
   rw [hc] at hf hf'
   simp [fitsV] at hf hf'
   refine ⟨x, y, r1, r2, ?_, hf, hf'⟩
   simp only [eqI] at heq
   split at heq
   ·rename_i a c e1 e2
    simp at e2
    subst e2
    simpa [e1] using heq
   ·cases heq
  split at h
  ·rename_i k hdd
   obtain ⟨x, y, r1, r2, he, e1, e2⟩ := leaf (.int k) (by simp [cts, hdd]) (by simp [TI.isAgg, hdd])
   have hu := hE.intE hdd
   cases r1 <;> simp [fitI] at e1
   cases r2 <;> simp [fitI] at e2
   simp [eqCell] at he
   obtain ⟨rfl, rfl⟩ := he
   simp [Op.equalIn, run_underlying hu]
  ·rename_i hdd
   obtain ⟨x, y, r1, r2, he, e1, e2⟩ := leaf .bool (by simp [cts, hdd]) (by simp [TI.isAgg, hdd])
   have hu := hE.boolE hdd
   cases r1 <;> simp [fitI] at e1
   cases r2 <;> simp [fitI] at e2
   simp [eqCell] at he
   subst he
   simp [Op.equalIn, run_underlying hu]
  ·rename_i hdd
   obtain ⟨x, y, r1, r2, he, e1, e2⟩ := leaf .str (by simp [cts, hdd]) (by simp [TI.isAgg, hdd])
   have hu := hE.strE hdd
   cases r1 <;> simp [fitI] at e1
   cases r2 <;> simp [fitI] at e2
   simp only [eqCell, Option.some.injEq] at he
   subst he
   simp [Op.equalIn, run_underlying hu, bytes_beq]
  ·rename_i fs hdd
   simp only [Bool.and_eq_true, Bool.not_eq_true', beq_iff_eq, List.all_eq_true] at h
   obtain ⟨⟨⟨⟨hst, hrow⟩, hsum⟩, hall⟩, hnames⟩ := h
   obtain ⟨fields, hu, hm⟩ := hE.structE hdd
   simp only [hu, List.all_eq_true, bne_iff_ne, ne_eq] at hnames
   obtain ⟨vs, rfl⟩ := hx.2.2.1 (by simp [TI.isAgg, hdd])
   obtain ⟨us, rfl⟩ := hy.2.2.1 (by simp [TI.isAgg, hdd])
   simp only [cts, hdd] at hf hf'
   obtain ⟨k1, k2⟩ := fields_eq (P := P) hE fs 0 b hrow hall (by rw [hx.1, ← hsum]; omega) (by simpa using heq) (by simpa using hf) (by simpa using hf')
   have hlen := eqI_len heq
   have key := forIn_all (P := P) fields.toList (fun f (__s : Option Bool × Unit) =>
      if f.name = "_" then pure (ForInStep.yield (none, ()))
      else do
       let __do_lift ← part f.type vs f.offset
       let __do_lift_1 ← part f.type us f.offset
       let __do_lift ← Op.equalIn d f.type __do_lift __do_lift_1
       if __do_lift = false then pure (ForInStep.done (some false, ())) else pure (ForInStep.yield (none, ())))
    (fun f => eqV ((xs.drop f.offset).take (E.ti f.type).size) ((ys.drop f.offset).take (E.ti f.type).size)) w (fun f hf0 s => by
     rw [if_neg (hnames f hf0)]
     have hmem : (f.type, f.offset) ∈ fs := by rw [← hm]; exact List.mem_map_of_mem (f := fun f : Field => (f.type, f.offset)) hf0
     obtain ⟨q1, ⟨a, q2⟩, q3, q4⟩ := k2 _ hmem
     have hfo : (E.ti f.type).d.isOther = false := by
      have := hall _ hmem
      cases n with
      | zero => simp [eqB] at this
      | succ n => simp only [eqB, Bool.and_eq_true, Bool.not_eq_true'] at this; exact this.1
     obtain ⟨v1, p1, p2⟩ := part_val (P := P) hE hfo hx.2.1 f.offset q1
     obtain ⟨v2, p3, p4⟩ := part_val (P := P) hE hfo hy.2.1 f.offset (by rw [← hlen]; exact q1)
     have := ih f.type (hall _ hmem) d (by omega) p2 p4 q2 q3 q4
     simp only [Value.cells] at p1 p3
     simp only [Sem.run_bind, p1, p3, Result.andThen_ok, this, eqV, q2, Option.getD_some]
     cases a <;> simp)
   have hforIn : ∀ (body : Field → Option Bool × Unit → Sem (ForInStep (Option Bool × Unit))), forIn fields (none, ()) body = forIn fields.toList (none, ()) body := fun body => by rw [Array.forIn_toList]
   simp only [Op.equalIn, Sem.run_bind, run_underlying hu, Result.andThen_ok, run_program, hst]
   simp
   rw [hforIn, key]
   have hb : fields.toList.all (fun f => eqV ((xs.drop f.offset).take (E.ti f.type).size) ((ys.drop f.offset).take (E.ti f.type).size)) = b := by
    rw [k1, ← hm, List.all_map]
    rfl
   rw [hb]
   cases b <;> simp
  ·rename_i k e hdd
   obtain ⟨hu, hoe, hsz⟩ := hE.arrE hdd
   obtain ⟨vs, rfl⟩ := hx.2.2.1 (by simp [TI.isAgg, hdd])
   obtain ⟨us, rfl⟩ := hy.2.2.1 (by simp [TI.isAgg, hdd])
   simp only [cts, hdd] at hf hf'
   obtain ⟨k1, k2⟩ := arr_eq (P := P) hE h k xs ys b (by rw [hx.1, hsz]) heq hf hf' 0 xs ys (by simp) (by simp)
   have hlen := eqI_len heq
   have key := forIn_all (P := P) (List.range' 0 k) (fun i (__s : Option Bool × Unit) => do
       let __do_lift ← part e vs (i * (E.ti e).size)
       let __do_lift_1 ← part e us (i * (E.ti e).size)
       let __do_lift ← Op.equalIn d e __do_lift __do_lift_1
       if __do_lift = false then pure (ForInStep.done (some false, ())) else pure (ForInStep.yield (none, ())))
    (fun i => eqV ((xs.drop (i * (E.ti e).size)).take (E.ti e).size) ((ys.drop (i * (E.ti e).size)).take (E.ti e).size)) w (fun i hi s => by
     obtain ⟨⟨a, q2⟩, q3, q4⟩ := k2 i hi
     have hik : i < k := by simpa using hi
     have q1 : i * (E.ti e).size + (E.ti e).size ≤ xs.length := by
      rw [hx.1, hsz]
      calc i * (E.ti e).size + (E.ti e).size = (i + 1) * (E.ti e).size := by rw [Nat.add_mul, Nat.one_mul]
       _ ≤ k * (E.ti e).size := Nat.mul_le_mul_right _ (by omega)
     obtain ⟨v1, p1, p2⟩ := part_val (P := P) hE hoe hx.2.1 (i * (E.ti e).size) q1
     obtain ⟨v2, p3, p4⟩ := part_val (P := P) hE hoe hy.2.1 (i * (E.ti e).size) (by rw [← hlen]; exact q1)
     have := ih e h d (by omega) p2 p4 q2 q3 q4
     simp only [Value.cells] at p1 p3
     simp only [Sem.run_bind, p1, p3, Result.andThen_ok, this, eqV, q2, Option.getD_some]
     cases a <;> simp)
   simp only [Op.equalIn, Sem.run_bind, run_underlying hu, Result.andThen_ok, run_sizeOf' hE hoe]
   simp
   rw [key, ← k1]
   cases b <;> simp
  ·cases h

end Go.Proofs.Ytmlbioapefgioaa.Va

/- Two-sided operations; literals; made slices; new variables. -/
namespace Go.Proofs.Ytmlbioapefgioaa.Va
open Go

variable {U : Nat → Type} {α : Type} {R : Type} {P : Program} {E : Env U} {X W0 : Nat → Prop} {β : Nat → Option BI} {hp : Nat → Blk U} {w : World}

theorem val_of_agg {av : Nat → Prop} {t : TypeId} {is : List (IV U)} {v : Value} (hag : (E.ti t).isAgg = true) (hl : is.length = (E.ti t).size) (h : RepA E.cc w av β (.agg (is.map .im)) v) : ValV E w av t is v := by
 cases h with
 | agg h1 h2 =>
  rename_i vs
  refine ⟨hl, ⟨by simpa [Value.cells] using h1, fun j x v hx hv => ?_⟩, fun _ => ⟨_, rfl⟩, (fun e => by rw [hag] at e; cases e)⟩
  have := h2 j (.im x) v (by simp [hx]) hv
  cases this with | im h => exact h

theorem aggEq_run (hE : EnvOK P E) {t : TypeId} (he : (E.ti t).eqs = true) (hag : (E.ti t).isAgg = true) {xs ys : List (AV U)} {b : Bool} (hf : fitsI (cts E 6 t) xs = true) (hf' : fitsI (cts E 6 t) ys = true) (hq : eqCells xs ys = some b)
  {av : Nat → Prop} {vx vy : Value} (hx : RepA E.cc w av β (.agg xs) vx) (hy : RepA E.cc w av β (.agg ys) vy) :
  (Op.equal t vx vy).run P w = .ok b w ∧ P.eqGuardType P.depth t = false ∧ (∃ vs, vx = .agg vs) ∧ ∃ vs, vy = .agg vs := by
 have ho : (E.ti t).d.isOther = false := by
  cases hd : (E.ti t).d <;> simp_all [TI.isAgg, TD.isOther]
 obtain ⟨_, i, _, _, _, _, _, _, hh⟩ := hE.all ho
 obtain ⟨g1, g2⟩ := hh he
 obtain ⟨is, js, rfl, rfl, e3⟩ := eqCells_im hq
 have f1 := fitsI_im hf
 have f2 := fitsI_im hf'
 have hcl := cts_len P 6 t hE g2
 have l1 : is.length = (E.ti t).size := by rw [← fitsV_len f1, hcl]
 have l2 : js.length = (E.ti t).size := by rw [← fitsV_len f2, hcl]
 refine ⟨equal_ok (w := w) hE 6 t g2 Op.maxDepth (by unfold Op.maxDepth; omega) (val_of_agg hag l1 hx) (val_of_agg hag l2 hy) e3 f1 f2, g1, ?_, ?_⟩
 ·cases hx; exact ⟨_, rfl⟩
 ·cases hy; exact ⟨_, rfl⟩

theorem eqIn_bool {t : TypeId} (hu : P.underlying t = some .bool) (d : Nat) (a b : Bool) : (Op.equalIn (d + 1) t (.bool a) (.bool b)).run P w = .ok (a == b) w := by
 simp [Op.equalIn, run_underlying hu]
theorem eqIn_nilp {t e : TypeId} (hu : P.underlying t = some (.pointer e)) (d : Nat) (b : Option Addr) : (Op.equalIn (d + 1) t (.pointer b) (.pointer none)).run P w = .ok b.isNone w := by
 cases b <;> simp [Op.equalIn, run_underlying hu]
theorem eqIn_nils {t e : TypeId} (hu : P.underlying t = some (.slice e)) (d : Nat) (b : Option Addr) (n c : Nat) : (Op.equalIn (d + 1) t (.slice b n c) (.slice none 0 0)).run P w = .ok b.isNone w := by
 cases b <;> simp [Op.equalIn, run_underlying hu]
theorem equal_nils {t e : TypeId} (hu : P.underlying t = some (.slice e)) (b : Option Addr) (n c : Nat) : (Op.equal t (.slice b n c) (.slice none 0 0)).run P w = .ok b.isNone w := eqIn_nils hu 9999 b n c
theorem equal_bool {t : TypeId} (hu : P.underlying t = some .bool) (a b : Bool) : (Op.equal t (.bool a) (.bool b)).run P w = .ok (a == b) w := eqIn_bool hu 9999 a b
theorem equal_nilp {t e : TypeId} (hu : P.underlying t = some (.pointer e)) (b : Option Addr) : (Op.equal t (.pointer b) (.pointer none)).run P w = .ok b.isNone w := eqIn_nilp hu 9999 b

theorem fltOp_ok {op : BinOp} {k : FloatKind} {a b : Nat} {K : AV U → Option R} {r : R} (h : fltOp op k a b K = some r) :
    ∃ v, K v = some r ∧ ∀ (t : TypeId) (xo yo : Operand) (w : World) (av : Nat → Prop) (β : Nat → Option BI), ∃ vv, (do eqGuard op t xo yo (.float k a) (.float k b); binOp op t (.float k a) (.float k b) : Sem Value).run P w = .ok vv w ∧ RepA E.cc w av β v vv := by
  unfold fltOp at h
  split at h
  all_goals first
    | (split at h
       · rename_i e
         exact ⟨_, h, fun t xo yo w av β => ⟨_, by simp [eqGuard, binOp, Op.floatArith, e], .im (.flt _ _)⟩⟩
       · cases h)
    | exact ⟨_, h, fun t xo yo w av β => ⟨_, by simp [eqGuard, binOp, Op.floatCmp], .im (.bool _)⟩⟩
    | cases h

theorem binA_ok (hE : EnvOK P E) {op : BinOp} {t : TypeId} {x y : AV U} {K : AV U → Option R} {r : R} (h : binA E op t x y K = some r) :
    ∃ v, K v = some r ∧ ∀ {w : World} {av : Nat → Prop} {β : Nat → Option BI} {vx vy : Value} (xo yo : Operand), RepA E.cc w av β x vx → RepA E.cc w av β y vy →
      ∃ vv, (do eqGuard op t xo yo vx vy; binOp op t vx vy : Sem Value).run P w = .ok vv w ∧ RepA E.cc w av β v vv := by
  unfold binA at h
  split at h
  · split at h
    · cases h
    · rename_i hb
      refine ⟨_, h, fun xo yo hx hy => ?_⟩
      obtain rfl := rep_int hx
      obtain rfl := rep_int hy
      exact ⟨_, by simp [eqGuard, binOp, Op.shift, hb], .im (.int _ _)⟩
  · split at h
    · cases h
    · rename_i hb
      refine ⟨_, h, fun xo yo hx hy => ?_⟩
      obtain rfl := rep_int hx
      obtain rfl := rep_int hy
      exact ⟨_, by simp [eqGuard, binOp, Op.shift, hb], .im (.int _ _)⟩
  · rename_i n1 n2
    split at h
    · rename_i hk
      subst hk
      have s1 : op ≠ .shl := by rintro rfl; first | exact n1 rfl | exact n1 _ rfl | exact n1 _ _ rfl | exact n1 _ _ _ rfl | exact n1 _ _ _ _ rfl | simp at n1
      have s2 : op ≠ .shr := by rintro rfl; first | exact n2 rfl | exact n2 _ rfl | exact n2 _ _ rfl | exact n2 _ _ _ rfl | exact n2 _ _ _ _ rfl | simp at n2
      obtain ⟨v, hv, hr⟩ := intOp_ok (P := P) h s1 s2
      refine ⟨v, hv, fun xo yo hx hy => ?_⟩
      obtain rfl := rep_int hx
      obtain rfl := rep_int hy
      exact hr t xo yo _ _ _ _
    · cases h
  · obtain ⟨v, hv, hr⟩ := strOp_ok (P := P) h
    refine ⟨v, hv, fun xo yo hx hy => ?_⟩
    obtain rfl := rep_str hx
    obtain rfl := rep_str hy
    exact hr t xo yo _ _ _ _
  · split at h
    · rename_i hk
      subst hk
      obtain ⟨v, hv, hr⟩ := fltOp_ok (P := P) (E := E) h
      refine ⟨v, hv, fun xo yo hx hy => ?_⟩
      obtain rfl := rep_flt hx
      obtain rfl := rep_flt hy
      exact hr t xo yo _ _ _
    · cases h
  · split at h
    · rename_i hd
      refine ⟨_, h, fun xo yo hx hy => ?_⟩
      obtain rfl := rep_bool hx
      obtain rfl := rep_bool hy
      exact ⟨_, by simp [eqGuard, binOp, equal_bool (hE.boolE hd)], .im (.bool _)⟩
    · cases h
  · split at h
    · rename_i hd
      refine ⟨_, h, fun xo yo hx hy => ?_⟩
      obtain rfl := rep_bool hx
      obtain rfl := rep_bool hy
      exact ⟨_, by simp [eqGuard, binOp, equal_bool (hE.boolE hd)], .im (.bool _)⟩
    · cases h
  · split at h
    · rename_i hc
      simp only [Bool.and_eq_true] at hc
      split at h
      · rename_i b hq
        refine ⟨_, h, @fun w av β vx vy xo yo hx hy => ?_⟩
        obtain ⟨h1, h2, ⟨vs, rfl⟩, ⟨us, rfl⟩⟩ := aggEq_run (w := w) hE hc.1.1 hc.1.2 hc.2.1 hc.2.2 hq hx hy
        exact ⟨_, by simp [eqGuard, binOp, h2, h1], .im (.bool _)⟩
      · cases h
    · cases h
  · split at h
    · rename_i hc
      simp only [Bool.and_eq_true] at hc
      split at h
      · rename_i b hq
        refine ⟨_, h, @fun w av β vx vy xo yo hx hy => ?_⟩
        obtain ⟨h1, h2, ⟨vs, rfl⟩, ⟨us, rfl⟩⟩ := aggEq_run (w := w) hE hc.1.1 hc.1.2 hc.2.1 hc.2.2 hq hx hy
        exact ⟨_, by simp [eqGuard, binOp, h2, h1], .im (.bool _)⟩
      · cases h
    · cases h
  all_goals first
    | (split at h
       · rename_i hd
         refine ⟨_, h, fun xo yo hx hy => ?_⟩
         obtain rfl := rep_nils hx
         obtain rfl := rep_nils hy
         exact ⟨_, by simp [eqGuard, binOp, equal_nils (hE.sliceE hd).1], .im (.bool _)⟩
       · cases h)
    | (split at h
       · rename_i hd
         refine ⟨_, h, fun xo yo hx hy => ?_⟩
         obtain rfl := rep_nils hy
         cases hx
         exact ⟨_, by simp [eqGuard, binOp, equal_nils (hE.sliceE hd).1], .im (.bool _)⟩
       · cases h)
    | (split at h
       · rename_i hd
         refine ⟨_, h, fun xo yo hx hy => ?_⟩
         obtain rfl := rep_nils hy
         cases hx
         exact ⟨_, by simp [eqGuard, binOp, equal_nils (hE.sliceE hd).1], .im (.bool _)⟩
       · cases h)
    | (split at h
       · rename_i hd
         refine ⟨_, h, fun xo yo hx hy => ?_⟩
         obtain rfl := rep_nilp hx
         obtain rfl := rep_nilp hy
         exact ⟨_, by simp [eqGuard, binOp, equal_nilp (hE.ptrE hd)], .im (.bool _)⟩
       · cases h)
    | (split at h
       · rename_i hd
         refine ⟨_, h, fun xo yo hx hy => ?_⟩
         obtain rfl := rep_nilp hy
         cases hx
         exact ⟨_, by simp [eqGuard, binOp, equal_nilp (hE.ptrE hd)], .im (.bool _)⟩
       · cases h)
    | (cases h)

theorem zero_run (hE : EnvOK P E) {t : TypeId} (ho : (E.ti t).d.isOther = false) (hz : (E.ti t).zero.length ≠ 0) :
  ∃ z, (∀ w : World, (zeroValue t).run P w = .ok z w) ∧ z.cells.size = (E.ti t).zero.length ∧ (E.ti t).zero.length = (E.ti t).size ∧
   ∀ (w : World) (av : Nat → Prop) (j : Nat) (x : IV U) (v : Value), (E.ti t).zero[j]? = some x → z.cells[j]? = some v → Rep E.cc w av x v := by
 obtain ⟨i, z, hi, hzz, h1, h2⟩ := hE.zero ho hz
 obtain ⟨h3, h4⟩ := leavesB_rep h1
 exact ⟨z, fun w => by simp [zeroValue, typeInfo, hi, hzz], h3, h2, fun w av j x v hx hv => h4 _ _ _ j x v hx hv⟩

theorem allocVar_eff (hE : EnvOK P E) {t : TypeId} (ho : (E.ti t).d.isOther = false) (hz : (E.ti t).zero.length ≠ 0) (hh : HRel E.cc X W0 β hp w) (nb : Nat) (hnb : β nb = none) :
  Eff E.cc X W0 β hp w (.ptr nb 0) [(nb, .var ((E.ti t).zero.map .im))] ((Instr.alloc t true (.tuple #[])).run P w) := by
 obtain ⟨z, h1, h2, h3, h4⟩ := zero_run hE ho hz
 have := newVar_eff (P := P) hh nb hnb t ((E.ti t).zero.map AV.im) z (by simp [h2]) (fun j y u hy hu => by
  simp only [List.getElem?_map, Option.map_eq_some_iff] at hy
  obtain ⟨x, hx, rfl⟩ := hy
  have := h4 w (avOf X β hp) j x u hx hu
  exact ⟨.im this, this.one⟩)
 simpa [Instr.alloc, h1] using this

theorem madeCells_rep (hE : EnvOK P E) {e : TypeId} (ho : (E.ti e).d.isOther = false) (ht : (E.ti e).tag ≠ 0) :
  ∃ i z, P.info? e = some i ∧ i.zero = some z ∧ i.size = (E.ti e).size ∧ i.bytes = (E.ti e).bytes ∧ z.cells.size = (E.ti e).size ∧ (E.cc (E.ti e).tag).sz = (E.ti e).size ∧ CodOK (E.cc (E.ti e).tag) ∧
   ∀ (n m : Nat) (w : World) (av : Nat → Prop) (i' : Nat) (x : U (E.ti e).tag) (j : Nat) (y : IV U), (List.replicate n (E.cc (E.ti e).tag).dflt)[i']? = some x → ((E.cc (E.ti e).tag).enc x)[j]? = some y → n ≤ m →
    ∃ v, (madeCells z.cells (m * (E.ti e).size))[i' * (E.ti e).size + j]? = some v ∧ Rep E.cc w av y v := by
 obtain ⟨i, z, hi, hz, hs, hb, hsz, hcod, hl⟩ := hE.tag ho ht
 obtain ⟨h3, h4⟩ := leavesB_rep hl
 rw [hcod.size] at h3
 refine ⟨i, z, hi, hz, hs, hb, by rw [h3, hsz], hsz, hcod, fun n m w av i' x j y hx hy hnm => ?_⟩
 have hi' : i' < n := by
  have := (List.getElem?_eq_some_iff.1 hx).1
  simpa using this
 have hx' : x = (E.cc (E.ti e).tag).dflt := by
  obtain ⟨_, h⟩ := List.getElem?_eq_some_iff.1 hx
  simpa using h.symm
 subst hx'
 have hj : j < (E.ti e).size := by
  have := (List.getElem?_eq_some_iff.1 hy).1
  rw [hcod.size, hsz] at this
  exact this
 have hjz : j < z.cells.size := by rw [h3, hsz]; exact hj
 have hin : i' * (E.ti e).size + j < m * (E.ti e).size := by
  calc i' * (E.ti e).size + j < i' * (E.ti e).size + (E.ti e).size := by omega
   _ = (i' + 1) * (E.ti e).size := by rw [Nat.add_mul, Nat.one_mul]
   _ ≤ m * (E.ti e).size := Nat.mul_le_mul_right _ (by omega)
 refine ⟨z.cells[j], ?_, h4 _ _ _ j y _ hy (by simp [hjz])⟩
 have hzs : z.cells.size = (E.ti e).size := by rw [h3, hsz]
 simp only [madeCells, Array.getElem?_map, Array.getElem?_range, hin, if_true, Option.map_some, Option.some.injEq]
 rw [hzs]
 have hmod : (i' * (E.ti e).size + j) % (E.ti e).size = j := by
  rw [Nat.add_comm, Nat.add_mul_mod_self_right, Nat.mod_eq_of_lt hj]
 rw [hmod]
 exact getElem!_pos z.cells j hjz

theorem makeSliceA_ok (hE : EnvOK P E) {st : St U} {t : TypeId} {l c : AV U} {K : KO U R} {r : R} (h : makeSliceA E st t l c K = some r) :
  ∃ v ws rd, K v ws rd = some r ∧ rd = [] ∧ (∀ p ∈ ws, p.1 = st.hp.length) ∧ ∀ {X W0 : Nat → Prop} {β : Nat → Option BI} {hp : Nat → Blk U} {w : World} {vl vc : Value}, HRel E.cc X W0 β hp w →
   RepA E.cc w (avOf X β hp) β l vl → RepA E.cc w (avOf X β hp) β c vc → ((∃ p ∈ ws, p.1 = st.hp.length) → β st.hp.length = none) → Eff E.cc X W0 β hp w v ws ((Instr.makeSlice t vl vc).run P w) := by
 unfold makeSliceA at h
 split at h
 ·rename_i e n m hd
  obtain ⟨hu, hoe⟩ := hE.sliceE hd
  split at h
  ·cases h
  rename_i ht
  split at h
  case isFalse => cases h
  rename_i hb
  obtain ⟨h0, hnm, hm, hby⟩ := hb
  have ho := hoe ht
  obtain ⟨i, z, hi, hz, hs, hbytes, hzs, hsz, hcod, hrep⟩ := madeCells_rep hE ho ht
  refine ⟨_, _, _, h, rfl, by simp, @fun X W0 β hp w vl vc hh hrl hrc hnb0 => ?_⟩
  have hnb := hnb0 ⟨_, List.mem_singleton.2 rfl, rfl⟩
  obtain rfl := rep_int hrl
  obtain rfl := rep_int hrc
  have hm63 : m ≤ 9223372036854775807 := by omega
  have hrun := run_make (P := P) w t e i z hu hi hz .i64 .i64 n m h0 hnm (by rw [hbytes, Int.mul_comm]; omega) hm63
  obtain ⟨hh', tr⟩ := hh.alloc st.hp.length hnb (.cells (madeCells z.cells (m.toNat * i.size)) e) n.toNat m.toNat (.row (E.ti e).tag (List.replicate n.toNat (E.cc (E.ti e).tag).dflt) true) (fun hk ha hβ => by
   refine ⟨hcod, by simp, by simp, fun k hk' => ?_⟩
   simp only [Option.some.injEq] at hk'
   subst hk'
   refine ⟨by simp only; omega, by simp only [maxLen]; omega, _, e, heap_alloc_new w _, by simp [size_madeCells, hs, hsz], fun i' x j y hx hy => ?_⟩
   rw [hsz, hs]
   exact hrep n.toNat m.toNat _ _ i' x j y hx hy (by omega))
  refine ⟨_, _, _, hrun, hh', ?_, tr, fun b hb hp' => ?_⟩
  ·exact .own (by simp [updβ])
  ·have : b ≠ st.hp.length := fun e => hp' _ (List.mem_singleton.2 rfl) e.symm
   simp [updβ, this, hb]
 ·cases h

end Go.Proofs.Ytmlbioapefgioaa.Va

/- Literals, boxes, arrays. -/
namespace Go.Proofs.Ytmlbioapefgioaa.Va
open Go

variable {U : Nat → Type} {α : Type} {R : Type} {P : Program} {E : Env U} {X W0 : Nat → Prop} {β : Nat → Option BI} {hp : Nat → Blk U} {w : World}

def Makes (E : Env U) (st : St U) (K : KO U R) (r : R) (args : List (AV U)) (run : List Value → World → Result Value) : Prop :=
 ∃ v ws rd, K v ws rd = some r ∧ (∀ p ∈ ws, p.1 ∈ rd ∨ p.1 = st.hp.length) ∧ ∀ {X W0 : Nat → Prop} {β : Nat → Option BI} {hp : Nat → Blk U} {w : World} {vs : List Value}, HRel E.cc X W0 β hp w →
  vs.length = args.length → (∀ (j : Nat) (x : AV U) (u : Value), args[j]? = some x → vs[j]? = some u → RepA E.cc w (avOf X β hp) β x u) →
  (∀ b ∈ rd, hp b = st.hp.get b) → ((∃ p ∈ ws, p.1 = st.hp.length) → β st.hp.length = none) → Eff E.cc X W0 β hp w v ws (run vs w)

theorem allocA_ok (hE : EnvOK P E) {st : St U} {t : TypeId} {K : KO U R} {r : R} (h : allocA E st t K = some r) : Makes E st K r [] (fun _ w => (Instr.alloc t true (.tuple #[])).run P w) := by
 have plain : (E.ti t).d.isOther = false → (if (E.ti t).zero.length = 0 then none else K (.ptr st.hp.length 0) [(st.hp.length, .var ((E.ti t).zero.map .im))] []) = some r →
   Makes E st K r [] (fun _ w => (Instr.alloc t true (.tuple #[])).run P w) := by
  intro ho h
  split at h
  ·cases h
  rename_i hz
  exact ⟨_, _, _, h, by simp, fun hh _ _ _ hnb => allocVar_eff hE ho hz hh _ (hnb ⟨_, List.mem_singleton.2 rfl, rfl⟩)⟩
 unfold allocA at h
 split at h
 ·rename_i n e hd
  have ho : (E.ti t).d.isOther = false := by rw [hd]; rfl
  split at h
  ·rename_i hbig
   split at h
   ·cases h
   rename_i hc
   simp only [Bool.or_eq_true, decide_eq_true_eq, not_or, Bool.not_eq_true] at hc
   obtain ⟨⟨ht, hoe⟩, hroom⟩ := hc
   obtain ⟨_, i, hi, hs, hb, _, _, hk, _⟩ := hE.all ho
   rw [hd] at hk
   simp only [kindB, Bool.and_eq_true] at hk
   obtain ⟨i', z', hi', hz', hs', hb', hsz', hcod, hleaf⟩ := hE.tag hoe ht
   refine ⟨_, _, _, h, by simp, @fun X W0 β hp w vs hh _ _ _ hnb => ?_⟩
   have hnb' := hnb ⟨_, List.mem_singleton.2 rfl, rfl⟩
   cases hzz : i.zero with
   | none =>
    rw [hzz] at hk
    simp only [Bool.or_eq_true, beq_iff_eq, Bool.not_eq_true', decide_eq_false_iff_not] at hk
    rcases hk.1.1 with h1 | h1
    ·exact absurd h1 ht
    ·exact absurd hbig h1
   | some z =>
    rw [hzz] at hk
    simp only [arrZ, Bool.and_eq_true, beq_iff_eq, Bool.or_eq_true, Bool.not_eq_true', decide_eq_false_iff_not, List.all_eq_true, List.mem_range] at hk
    obtain ⟨⟨⟨hzn, hall⟩, _⟩, _⟩ := hk
    have hall' : ∀ q < n, leavesB ((E.cc (E.ti e).tag).enc (E.cc (E.ti e).tag).dflt) (z.cells.extract (q * (E.ti e).size) (q * (E.ti e).size + (E.ti e).size)) = true := by
     rcases hall with (h1 | h1) | h1
     ·exact absurd h1 ht
     ·exact absurd hbig h1
     ·exact h1
    obtain ⟨hh', tr⟩ := hh.alloc st.hp.length hnb' (.cells z.cells t) n n (.row (E.ti e).tag (List.replicate n (E.cc (E.ti e).tag).dflt) true) (fun hk' ha hβ => by
     refine ⟨hcod, by simp, by simp, fun k hk'' => ?_⟩
     simp only [Option.some.injEq] at hk''
     subst hk''
     refine ⟨Nat.le_refl _, by unfold room at hroom; simp only [maxLen]; omega, _, t, heap_alloc_new w _, by rw [hzn, hsz'], fun i' x j y hx hy => ?_⟩
     have hi' : i' < n := by
      have := (List.getElem?_eq_some_iff.1 hx).1
      simpa using this
     have hx' : x = (E.cc (E.ti e).tag).dflt := by
      obtain ⟨_, h⟩ := List.getElem?_eq_some_iff.1 hx
      simpa using h.symm
     subst hx'
     obtain ⟨l1, l2⟩ := leavesB_rep (hall' i' hi')
     have hj : j < ((E.cc (E.ti e).tag).enc (E.cc (E.ti e).tag).dflt).length := (List.getElem?_eq_some_iff.1 hy).1
     have hj' : j < (z.cells.extract (i' * (E.ti e).size) (i' * (E.ti e).size + (E.ti e).size)).size := by rw [l1]; exact hj
     refine ⟨(z.cells.extract (i' * (E.ti e).size) (i' * (E.ti e).size + (E.ti e).size))[j], ?_, l2 _ _ _ j y _ hy (Array.getElem?_eq_getElem hj')⟩
     rw [hsz', ← Array.getElem?_eq_getElem hj', Array.getElem?_extract, if_pos]
     rw [hcod.size, hsz'] at hj
     have : i' * (E.ti e).size + (E.ti e).size ≤ z.cells.size := by
      rw [hzn]
      calc i' * (E.ti e).size + (E.ti e).size = (i' + 1) * (E.ti e).size := by rw [Nat.add_mul, Nat.one_mul]
       _ ≤ n * (E.ti e).size := Nat.mul_le_mul_right _ (by omega)
     omega)
    refine ⟨.pointer (some ⟨w.heap.size, 0, none⟩), _, _, ?_, hh', ?_, tr, fun b hb hp' => ?_⟩
    ·simp [Instr.alloc, zeroValue, typeInfo, hi, hzz, newVar, newRow]
    ·have := RepA.rptr (cc := E.cc) (w := w.alloc (.cells z.cells t)) (av := avOf X (updβ β st.hp.length ⟨some w.heap.size, n, n⟩) (upd1 hp st.hp.length (.row (E.ti e).tag (List.replicate n (E.cc (E.ti e).tag).dflt) true)))
      (β := updβ β st.hp.length ⟨some w.heap.size, n, n⟩) (b := st.hp.length) (i := 0) (u := 0) (sz := (E.cc (E.ti e).tag).sz) (k := w.heap.size) (n := n) (cap := n) (by simp [updβ])
     simp only [Nat.zero_mul, Nat.add_zero] at this
     exact this
    ·have : b ≠ st.hp.length := fun e => hp' _ (List.mem_singleton.2 rfl) e.symm
     simp [updβ, this, hb]
  ·exact plain ho h
 ·cases h
 ·rename_i hn hn'
  refine plain ?_ h
  cases hd : (E.ti t).d <;> simp_all [TD.isOther]

theorem frz_ids {cc : (T : Nat) → Cod U T} {h : Hp U} : ∀ {xs : List (AV U)} {us : List (IV U)} {ws : List (Nat × Blk U)}, frz cc h xs = some (us, ws) → us.length = xs.length := by
 intro xs us ws hf
 have := (frz_ok (E := ⟨cc, [], 0, fun _ => [], fun _ => [], [], [], [], fun _ => (⟨[], []⟩, ⟨[], []⟩), [], [], [], false, []⟩) (X := fun _ => False) (W0 := fun _ => False) (β := fun _ => none) (w := default) hf).1
 exact this

theorem newVarA_ok (hE : EnvOK P E) {st : St U} {t : TypeId} {x : AV U} {cs : List (AV U)} (hcs : x.cells = some cs) {K : KO U R} {r : R} (h : newVarA E st t cs K = some r) :
  Makes E st K r [x] (fun vs w => (Instr.box t (vs.getD 0 undef)).run P w) := by
 have plain : K (.ptr st.hp.length 0) [(st.hp.length, .var cs)] [] = some r → Makes E st K r [x] (fun vs w => (Instr.box t (vs.getD 0 undef)).run P w) := by
  intro h
  refine ⟨_, _, _, h, by simp, @fun X W0 β hp w vs hh hl hvs _ hnb => ?_⟩
  obtain ⟨v, rfl⟩ := List.length_eq_one_iff.1 hl
  obtain ⟨h1, h2⟩ := cells_rep (hvs 0 x v rfl rfl) hcs
  exact newVar_eff hh _ (hnb ⟨_, List.mem_singleton.2 rfl, rfl⟩) t cs v h1 h2
 unfold newVarA at h
 split at h
 ·split at h
  ·cases h
  ·exact plain h
 ·exact plain h

theorem fill_ok {av : Nat → Prop} {place : Nat → Option (Nat × Nat)} : ∀ {parts : List (Nat × AV U)} {vparts : List (Nat × Value)} {cs cs' : List (AV U)} {vs : Array Value},
  fillA place parts cs = some cs' → vparts.map (·.1) = parts.map (·.1) → (∀ (j : Nat) (p : Nat × AV U) (q : Nat × Value), parts[j]? = some p → vparts[j]? = some q → RepA E.cc w av β p.2 q.2) →
  vs.size = cs.length → (∀ (j : Nat) (x : AV U) (v : Value), cs[j]? = some x → vs[j]? = some v → RepA E.cc w av β x v) →
  ∃ vs', Instr.fill place vs vparts = some vs' ∧ vs'.size = cs'.length ∧ ∀ (j : Nat) (x : AV U) (v : Value), cs'[j]? = some x → vs'[j]? = some v → RepA E.cc w av β x v := by
 intro parts
 induction parts with
 | nil =>
  intro vparts cs cs' vs h hm _ hs hv
  cases vparts with
  | nil =>
   simp only [fillA, Option.some.injEq] at h
   subst h
   exact ⟨vs, rfl, hs, hv⟩
  | cons q vparts => simp at hm
 | cons p parts ih =>
  intro vparts cs cs' vs h hm hr hs hv
  cases vparts with
  | nil => simp at hm
  | cons q vparts =>
   obtain ⟨i, x⟩ := p
   obtain ⟨i', v⟩ := q
   simp only [List.map_cons, List.cons.injEq] at hm
   obtain ⟨rfl, hm⟩ := hm
   simp only [fillA] at h
   split at h
   ·rename_i off sz us hpl hus
    split at h
    ·rename_i hlen
     split at h
     ·rename_i cs1 hsp
      obtain ⟨hc1, hc2⟩ := cells_rep (hr 0 _ _ rfl rfl) hus
      obtain ⟨hs1, hs2⟩ := splice_some hsp
      -- the model lays them one by one
      have hfold : ∀ (l : List Value) (k : Nat) (a : Array Value), off + k + l.length ≤ a.size →
        (l.zipIdx k).foldl (fun cs (cj : Value × Nat) => cs.setIfInBounds (off + cj.2) cj.1) a = (a.toList.take (off + k) ++ l ++ a.toList.drop (off + k + l.length)).toArray := by
       intro l
       induction l with
       | nil => intro k a _; simp
       | cons c l ihl =>
        intro k a hk
        simp only [List.length_cons] at hk
        rw [List.zipIdx_cons, List.foldl_cons, ihl (k + 1) _ (by simp; omega)]
        have e := list_seg_step a.toList (off + k) c l (by simp; omega)
        simp only [Array.toList_setIfInBounds]
        congr 1
      have hfit : off + v.cells.size ≤ vs.size := by rw [hc1, hs]; exact hs1
      have hres : v.cells.zipIdx.foldl (fun cs (c, j) => cs.setIfInBounds (off + j) c) vs = (vs.toList.take off ++ v.cells.toList ++ vs.toList.drop (off + v.cells.toList.length)).toArray := by
       have := hfold v.cells.toList 0 vs (by simpa using hfit)
       simp only [Nat.add_zero] at this
       rw [← this, ← Array.foldl_toList]
       simp
      obtain ⟨vs', f1, f2, f3⟩ := ih (vs := (vs.toList.take off ++ v.cells.toList ++ vs.toList.drop (off + v.cells.toList.length)).toArray) h hm
       (fun j p q hp hq => hr (j + 1) p q (by simpa using hp) (by simpa using hq))
       (by rw [spliceV_size _ _ _ (by simpa using hfit), hs, splice_length hsp])
       (fun j y u hy hu => by
        rw [spliceV _ _ _ (by simpa using hfit)] at hu
        simp only [Array.length_toList] at hu
        rcases splice_get hsp hy with ⟨h1, h2, h3⟩ | ⟨h1, h2⟩
        ·rw [if_pos ⟨h1, by rw [hc1]; exact h2⟩] at hu
         exact (hc2 (j - off) y u h3 (by simpa using hu)).1
        ·rw [if_neg (by rw [hc1]; omega)] at hu
         exact hv j y u h2 hu)
      refine ⟨vs', ?_, f2, f3⟩
      simp only [Instr.fill, hpl]
      rw [if_neg (by simp [hc1, hlen]; rw [hs, ← hlen]; exact hs1), hres]
      exact f1
     ·cases h
    ·cases h
   ·cases h

theorem buildA_ok (hE : EnvOK P E) {st : St U} {t : TypeId} {parts : List (Nat × AV U)} {K : KO U R} {r : R} (h : buildA E st t parts K = some r) :
  Makes E st K r (parts.map (·.2)) (fun vs w => (Instr.build t ((parts.map (·.1)).zip vs).toArray).run P w) := by
 unfold buildA at h
 split at h
 case isFalse => cases h
 rename_i hc
 simp only [Bool.and_eq_true, Bool.not_eq_true', beq_eq_false_iff_ne, ne_eq] at hc
 obtain ⟨⟨hag, hz⟩, hfo⟩ := hc
 have ho : (E.ti t).d.isOther = false := by
  cases hd : (E.ti t).d <;> simp_all [TI.isAgg, TD.isOther]
 split at h
 ·rename_i cs hf
  refine ⟨_, _, _, h, by simp, @fun X W0 β hp w vs hh hl hvs _ _ => ?_⟩
  obtain ⟨z, h1, h2, h3, h4⟩ := zero_run hE ho hz
  have hlv : vs.length = parts.length := by simpa using hl
  obtain ⟨vs', f1, f2, f3⟩ := fill_ok (w := w) (β := β) (av := avOf X β hp) (vparts := (parts.map (·.1)).zip vs) (vs := z.cells) hf
   (by rw [List.map_fst_zip]; simp [hlv])
   (fun j p q hp' hq => by
    rw [List.getElem?_zip_eq_some] at hq
    exact hvs j p.2 q.2 (by simp [hp']) hq.2)
   (by simp [h2])
   (fun j x v hx hv => by
    simp only [List.getElem?_map, Option.map_eq_some_iff] at hx
    obtain ⟨y, hy, rfl⟩ := hx
    exact .im (h4 w _ j y v hy hv))
  refine Eff.same hh ?_ (.agg f2 f3)
  -- the model's places are ours
  unfold TI.isAgg at hag
  split at hag
  ·rename_i fs hd
   obtain ⟨fields, hu, hm⟩ := hE.structE hd
   obtain ⟨it, z0, hit, hzz, _⟩ := hE.zero ho hz
   have hz0 : z0 = z := by
    have := h1 w
    simp [zeroValue, typeInfo, hit, hzz] at this
    exact this
   subst hz0
   simp only [fieldsOK, hd, List.all_eq_true, Bool.not_eq_true'] at hfo
   have hpl : ∀ (l : List Field), (∀ f ∈ l, (E.ti f.type).d.isOther = false) → l.mapM (fun f => (P.info? f.type).map fun i => (f.offset, i.size)) = some (l.map fun f => (f.offset, (E.ti f.type).size)) := by
    intro l
    induction l with
    | nil => intro _; rfl
    | cons f l ih =>
     intro hl
     obtain ⟨i, hi, hs, _⟩ := hE.info (hl f (by simp))
     simp [List.mapM_cons, hi, hs, ih fun f hf => hl f (by simp [hf])]
   have hpl' := hpl fields.toList fun f hf => hfo (f.type, f.offset) (by rw [← hm]; exact List.mem_map_of_mem (f := fun f : Field => (f.type, f.offset)) hf)
   have hplace : (fun i => (fields.toList.map fun f => (f.offset, (E.ti f.type).size)).toArray[i]?) = placeA E t := by
    funext i
    simp only [placeA, hd, ← hm, List.getElem?_toArray, List.getElem?_map]
    cases fields.toList[i]? <;> rfl
   have hb : P.built t ((parts.map (·.1)).zip vs).toArray.toList = some vs' := by
    simp only [Program.built, hit, hu, hzz, hpl', hplace]
    exact f1
   exact run_build w t _ _ hb
  ·rename_i n e hd
   obtain ⟨hu, hoe, _⟩ := hE.arrE hd
   have hpl : (placeA E t) = (fun i => some (i * (E.ti e).size, (E.ti e).size)) := by funext i; simp [placeA, hd]
   rw [hpl] at f1
   simp [Instr.build, h1, run_underlying hu, run_sizeOf' hE hoe, f1]
  ·cases hag
 ·cases h

end Go.Proofs.Ytmlbioapefgioaa.Va

/- What slices hold; append. -/
namespace Go.Proofs.Ytmlbioapefgioaa.Va
open Go

variable {U : Nat → Type} {α : Type} {R : Type} {P : Program} {E : Env U} {X W0 : Nat → Prop} {β : Nat → Option BI} {hp : Nat → Blk U} {w : World}

def Cells (E : Env U) (w : World) (av : Nat → Prop) (T : Nat) (l : List (U T)) (news : List Value) : Prop :=
 news.length = l.length * (E.cc T).sz ∧ (∀ u ∈ news, u.oneCell' = true) ∧
  ∀ (i : Nat) (x : U T) (j : Nat) (y : IV U), l[i]? = some x → ((E.cc T).enc x)[j]? = some y → ∃ v, news[i * (E.cc T).sz + j]? = some v ∧ Rep E.cc w av y v

theorem Cells.nil {av : Nat → Prop} {T : Nat} : Cells E w av T ([] : List (U T)) [] := ⟨by simp, by simp, fun i x j y h => by simp at h⟩

theorem src_slice {tx e' : TypeId} (hk : P.underlying tx = some (.slice e')) {av : Nat → Prop} {T : Nat} {l : List (U T)} (hcod : CodOK (E.cc T)) (k o cap : Nat)
  (hc : ∀ (i : Nat) (x : U T) (j : Nat) (y : IV U), l[i]? = some x → ((E.cc T).enc x)[j]? = some y → ∃ v, w.cell? ⟨k, o + (i * (E.cc T).sz + j), none⟩ = some v ∧ Rep E.cc w av y v) :
  ∃ news, Src P (E.cc T).sz tx (.slice (some ⟨k, o, none⟩) l.length cap) l.length news w ∧ Cells E w av T l news ∧
   ∀ m, m ≤ l.length → (Builtin.firstCells (E.cc T).sz m (.slice (some ⟨k, o, none⟩) l.length cap)).run P w = .ok (news.take (m * (E.cc T).sz)).toArray w := by
 have hcell : ∀ q, q < l.length * (E.cc T).sz → ∃ v, w.cell? ⟨k, o + q, none⟩ = some v ∧ v.oneCell' = true := by
  intro q hq
  have hi : q / (E.cc T).sz < l.length := Nat.div_lt_of_lt_mul (by rw [Nat.mul_comm]; exact hq)
  have hj : q % (E.cc T).sz < ((E.cc T).enc l[q / (E.cc T).sz]).length := by rw [hcod.size]; exact Nat.mod_lt _ hcod.pos
  obtain ⟨v, hv, hr⟩ := hc (q / (E.cc T).sz) _ (q % (E.cc T).sz) _ (List.getElem?_eq_getElem hi) (List.getElem?_eq_getElem hj)
  rw [Nat.mul_comm, Nat.div_add_mod] at hv
  exact ⟨v, hv, hr.one⟩
 refine ⟨(List.range (l.length * (E.cc T).sz)).map fun q => (w.cell? ⟨k, o + q, none⟩).getD undef, ?_, ⟨?_, ?_, ?_⟩, ?_⟩
 ·refine Src.ofSlice w hk ⟨k, o, none⟩ l.length cap _ (by simp) (fun j u hu => ?_) (fun u hu => ?_)
  ·simp only [List.getElem?_map, Option.map_eq_some_iff] at hu
   obtain ⟨q, hq, rfl⟩ := hu
   obtain ⟨hlt, rfl⟩ := List.getElem?_eq_some_iff.1 hq
   simp at hlt
   obtain ⟨v, hv, _⟩ := hcell j hlt
   simp only [List.getElem_range, add_lit', hv, Option.getD_some]
  ·obtain ⟨q, hq, rfl⟩ := List.mem_map.1 hu
   obtain ⟨v, hv, h1⟩ := hcell q (by simpa using hq)
   rw [hv]
   exact h1
 ·simp
 ·intro u hu
  obtain ⟨q, hq, rfl⟩ := List.mem_map.1 hu
  obtain ⟨v, hv, h1⟩ := hcell q (by simpa using hq)
  rw [hv]
  exact h1
 ·intro i x j y hx hy
  obtain ⟨v, hv, hr⟩ := hc i x j y hx hy
  have hi : i < l.length := (List.getElem?_eq_some_iff.1 hx).1
  have hj : j < (E.cc T).sz := by
   have := (List.getElem?_eq_some_iff.1 hy).1
   rw [hcod.size] at this
   exact this
  have hlt : i * (E.cc T).sz + j < l.length * (E.cc T).sz := by
   calc i * (E.cc T).sz + j < i * (E.cc T).sz + (E.cc T).sz := by omega
    _ = (i + 1) * (E.cc T).sz := by rw [Nat.add_mul, Nat.one_mul]
    _ ≤ l.length * (E.cc T).sz := Nat.mul_le_mul_right _ hi
  exact ⟨v, by simp [hlt, hv], hr⟩
 ·intro m hm
  have hle : m * (E.cc T).sz ≤ l.length * (E.cc T).sz := Nat.mul_le_mul_right _ hm
  refine run_firstCells_some w (E.cc T).sz m ⟨k, o, none⟩ l.length cap _ (by rw [List.length_take, List.length_map, List.length_range]; omega) (fun j u hu => ?_)
  rw [List.getElem?_take] at hu
  split at hu
  ·simp only [List.getElem?_map, Option.map_eq_some_iff] at hu
   obtain ⟨q, hq, rfl⟩ := hu
   obtain ⟨hlt, rfl⟩ := List.getElem?_eq_some_iff.1 hq
   simp at hlt
   obtain ⟨v, hv, _⟩ := hcell j hlt
   simp only [List.getElem_range, add_lit', hv, Option.getD_some]
  ·cases hu

theorem src_none {tx e' : TypeId} (hk : P.underlying tx = some (.slice e')) {av : Nat → Prop} {T : Nat} (a : Option Addr) (cap : Nat) :
  ∃ news, Src P (E.cc T).sz tx (.slice a 0 cap) 0 news w ∧ Cells E w av T ([] : List (U T)) news ∧
   ∀ m, m ≤ 0 → (Builtin.firstCells (E.cc T).sz m (.slice a 0 cap)).run P w = .ok (news.take (m * (E.cc T).sz)).toArray w := by
 cases a with
 | none => exact ⟨[], Src.ofNil w hk cap, Cells.nil, fun m hm => by simp [Builtin.firstCells]⟩
 | some a => exact ⟨[], Src.ofSlice w hk a 0 cap [] (by simp) (by simp) (by simp), Cells.nil, fun m hm => by
   obtain rfl : m = 0 := by omega
   rw [Nat.zero_mul, List.take_zero]
   exact run_firstCells_some w (E.cc T).sz 0 a 0 cap [] (by simp) (by simp)⟩

theorem elems_ok (hE : EnvOK P E) {h : Hp U} {tx : TypeId} {x : AV U} {T : Nat} {l : List (U T)} {rd : List Nat} (hs : srcOK E tx x = true) (he : elemsA E h x = some ⟨T, l, rd⟩) (hpos : 0 < (E.cc T).sz)
  {vx : Value} (hh : HRel E.cc X W0 β hp w) (hr : RepA E.cc w (avOf X β hp) β x vx) (hag : ∀ b ∈ rd, hp b = h.get b) :
  ∃ news, Src P (E.cc T).sz tx vx l.length news w ∧ Cells E w (avOf X β hp) T l news ∧
   ∀ m, m ≤ l.length → (Builtin.firstCells (E.cc T).sz m vx).run P w = .ok (news.take (m * (E.cc T).sz)).toArray w := by
 have hcod := hE.cod T hpos
 cases x with
 | own b =>
  simp only [srcOK] at hs
  split at hs
  case h_2 => cases hs
  rename_i e' hd
  have hk := (hE.sliceE hd).1
  simp only [elemsA] at he
  split at he
  ·rename_i T' l' lv hb
   simp only [Option.some.injEq, Els.mk.injEq] at he
   obtain ⟨rfl, he, rfl⟩ := he
   cases he
   have hbb := hag b (by simp)
   rw [hb] at hbb
   cases hr with
   | own0 hβ =>
    have hok := hh.ok b _ hβ
    rw [hbb] at hok
    have : l' = [] := List.eq_nil_of_length_eq_zero (by simpa using hok.2.1)
    subst this
    exact src_none hk _ _
   | own hβ =>
    rename_i k n cap
    have hok := hh.ok b _ hβ
    rw [hbb] at hok
    have hn := hok.2.1
    simp only at hn
    subst hn
    exact src_slice hk hcod k 0 cap fun i x j y hx hy => by
     rw [Nat.zero_add]
     exact row_cell hh hβ hbb hx hy
  ·cases he
 | sub b off len sz =>
  simp only [srcOK] at hs
  split at hs
  case h_2 => cases hs
  rename_i e' hd
  have hk := (hE.sliceE hd).1
  simp only [elemsA] at he
  split at he
  ·rename_i T' l' lv hb
   split at he
   case isFalse => cases he
   rename_i hsz
   simp only [Option.some.injEq, Els.mk.injEq] at he
   obtain ⟨rfl, he, rfl⟩ := he
   cases he
   have hbb := hag b (by simp)
   rw [hb] at hbb
   cases hr with
   | sub0 => rw [List.take_zero]; exact src_none hk _ _
   | sub hβ hl hcl =>
    rename_i k n cap cap'
    have hok := hh.ok b _ hβ
    rw [hbb] at hok
    have hn := hok.2.1
    simp only at hn
    have hlen : ((l'.drop off).take len).length = len := by simp; omega
    have key := src_slice (P := P) (E := E) (w := w) (av := avOf X β hp) hk hcod (l := (l'.drop off).take len) k (off * (E.cc T').sz) cap fun i x j y hx hy => by
     have hx' : l'[off + i]? = some x := by
      rw [List.getElem?_take] at hx
      split at hx
      ·rwa [List.getElem?_drop] at hx
      ·cases hx
     obtain ⟨v, hv, hrep⟩ := row_cell hh hβ hbb hx' hy
     refine ⟨v, ?_, hrep⟩
     rw [← hv]
     congr 2
     rw [Nat.add_mul]
     omega
    rw [hlen] at key ⊢
    rw [hsz]
    exact key
  ·cases he
 | nn T' l' =>
  simp only [srcOK] at hs
  split at hs
  case h_2 => cases hs
  rename_i e' hd
  have hk := (hE.sliceE hd).1
  simp only [elemsA, Option.some.injEq, Els.mk.injEq] at he
  obtain ⟨rfl, he, rfl⟩ := he
  cases he
  cases hr with
  | nn hr =>
   cases hr with
   | slice0 => exact src_none hk _ _
   | slice _ _ k off cap g hp' hav hcap hcell hrep =>
    exact src_slice hk hcod k off _ fun i x j y hx hy => by
     have hi : i < l'.length := (List.getElem?_eq_some_iff.1 hx).1
     have hj : j < (E.cc T').sz := by
      have := (List.getElem?_eq_some_iff.1 hy).1
      rw [hcod.size] at this
      exact this
     refine ⟨_, hcell _ ?_, hrep i x j y hx hy⟩
     calc i * (E.cc T').sz + j < i * (E.cc T').sz + (E.cc T').sz := by omega
      _ = (i + 1) * (E.cc T').sz := by rw [Nat.add_mul, Nat.one_mul]
      _ ≤ l'.length * (E.cc T').sz := Nat.mul_le_mul_right _ hi
 | im y =>
  cases y with
  | slice T' l' =>
   simp only [srcOK] at hs
   split at hs
   case h_2 => cases hs
   rename_i e' hd
   have hk := (hE.sliceE hd).1
   simp only [elemsA, Option.some.injEq, Els.mk.injEq] at he
   obtain ⟨rfl, he, rfl⟩ := he
   cases he
   cases hr with
   | im hr =>
    cases hr with
    | slice0 => exact src_none hk _ _
    | slice _ _ k off cap g hp' hav hcap hcell hrep =>
     exact src_slice hk hcod k off cap fun i x j y hx hy => by
      have hi : i < l'.length := (List.getElem?_eq_some_iff.1 hx).1
      have hj : j < (E.cc T').sz := by
       have := (List.getElem?_eq_some_iff.1 hy).1
       rw [hcod.size] at this
       exact this
      refine ⟨_, hcell _ ?_, hrep i x j y hx hy⟩
      calc i * (E.cc T').sz + j < i * (E.cc T').sz + (E.cc T').sz := by omega
       _ = (i + 1) * (E.cc T').sz := by rw [Nat.add_mul, Nat.one_mul]
       _ ≤ l'.length * (E.cc T').sz := Nat.mul_le_mul_right _ hi
  | str s =>
   simp only [srcOK] at hs
   split at hs
   case h_2 => cases hs
   rename_i hd
   have hk := hE.strE hd
   simp only [elemsA, Option.some.injEq, Els.mk.injEq] at he
   obtain ⟨rfl, he, rfl⟩ := he
   cases he
   obtain rfl := rep_str hr
   obtain ⟨h1, h2⟩ := hE.toB (b2l s)
   have hbl : (b2l s).length = s.size := by simp [b2l]
   refine ⟨byteCells s, ?_, ⟨?_, ?_, ?_⟩, ?_⟩
   ·rw [hE.btsz, h1, hbl]
    exact Src.ofString w hk s
   ·rw [byteCells_length, h1, hbl, hE.btsz, Nat.mul_one]
   ·intro u hu
    obtain ⟨_, _, rfl⟩ := List.mem_map.1 hu
    rfl
   ·intro i x j y hx hy
    have hi : i < (b2l s).length := by rw [← h1]; exact (List.getElem?_eq_some_iff.1 hx).1
    obtain ⟨x', e1, e2⟩ := h2 i _ (List.getElem?_eq_getElem hi)
    rw [hx] at e1
    cases e1
    rw [e2] at hy
    have hj : j = 0 := by
     have := (List.getElem?_eq_some_iff.1 hy).1
     simpa using this
    subst hj
    simp at hy
    subst hy
    refine ⟨.int .u8 (b2l s)[i], ?_, .int _ _⟩
    rw [hE.btsz, Nat.mul_one, Nat.add_zero]
    have hi' : i < s.data.toList.length := by simpa [b2l] using hi
    have hi2 : i < s.data.size := by simpa using hi'
    simp [byteCells, b2l]
    exact ⟨s.data[i], by simp [hi2], rfl⟩
   ·intro m hm
    rw [hE.btsz, Nat.mul_one]
    simp only [Builtin.firstCells, Sem.run_pure]
    congr 1
    apply Array.ext'
    simp [byteCells, Lib.extract_data, List.map_take]
  | _ => simp [elemsA] at he
 | _ => simp [elemsA] at he

end Go.Proofs.Ytmlbioapefgioaa.Va

/- append. -/
namespace Go.Proofs.Ytmlbioapefgioaa.Va
open Go

variable {U : Nat → Type} {α : Type} {R : Type} {P : Program} {E : Env U} {X W0 : Nat → Prop} {β : Nat → Option BI} {hp : Nat → Blk U} {w : World}

theorem HRel.move (h : HRel E.cc X W0 β hp w) (b0 nb : Nat) (bi0 : BI) (k0 n cap : Nat) (hb0 : β b0 = some bi0) (hk0 : bi0.k = some k0) (hl0 : (hp b0).isLive = true) (hnb : β nb = none)
    (x : Blk U) (hxl : x.isLive = true) (c : Array Value)
    (hx : Keeps (avOf X β hp) w (w.setRow k0 c) → (∀ k, ¬ avOf X β hp k → k < w.heap.size → ¬ avOf X (updβ β nb ⟨some k0, n, cap⟩) (upd1 (upd1 hp b0 .dead) nb x) k) →
      BlkOK E.cc (w.setRow k0 c) (avOf X (updβ β nb ⟨some k0, n, cap⟩) (upd1 (upd1 hp b0 .dead) nb x)) (updβ β nb ⟨some k0, n, cap⟩) ⟨some k0, n, cap⟩ x) :
    HRel E.cc X W0 (updβ β nb ⟨some k0, n, cap⟩) (upd1 (upd1 hp b0 .dead) nb x) (w.setRow k0 c) ∧
      Tr X W0 β hp w (updβ β nb ⟨some k0, n, cap⟩) (upd1 (upd1 hp b0 .dead) nb x) (w.setRow k0 c) := by
  have hd0 : (hp b0).isDead = false := by cases hh : hp b0 <;> simp_all [Blk.isLive, Blk.isDead]
  have hdx : x.isDead = false := by cases x <;> simp_all [Blk.isLive, Blk.isDead]
  have hne : nb ≠ b0 := by intro e; subst e; rw [hnb] at hb0; cases hb0
  have hsz : (w.setRow k0 c).heap.size = w.heap.size := by simp [World.setRow]
  have hold : ∀ k, k ≠ k0 → (w.setRow k0 c).heap[k]? = w.heap[k]? := fun k hk => setRow_other w k0 k c hk
  have havk0 : avOf X β hp k0 := .inr ⟨b0, bi0, hb0, hk0, hl0⟩
  have hdom0 := h.dom b0 bi0 k0 hb0 hk0 hd0
  have hkeeps : Keeps (avOf X β hp) w (w.setRow k0 c) := Keeps.of_block fun k hk _ => hold k (fun e => hk (e ▸ havk0))
  have hβ : ∀ b bi, β b = some bi → updβ β nb ⟨some k0, n, cap⟩ b = some bi := by
    intro b bi hb
    have : b ≠ nb := by intro e; subst e; rw [hnb] at hb; cases hb
    simp [updβ, this, hb]
  have hav : ∀ k, ¬ avOf X β hp k → k < w.heap.size → ¬ avOf X (updβ β nb ⟨some k0, n, cap⟩) (upd1 (upd1 hp b0 .dead) nb x) k := by
    rintro k hk hlt (hX | ⟨b, bi, hb, hbk, hl⟩)
    · exact hk (.inl hX)
    · by_cases e : b = nb
      · subst e
        simp only [updβ, if_true, Option.some.injEq] at hb
        subst hb
        simp at hbk
        exact hk (hbk ▸ havk0)
      · rw [upd1_ne _ _ e] at hl
        simp only [updβ, e, if_false] at hb
        by_cases e' : b = b0
        · subst e'
          rw [upd1_same] at hl
          cases hl
        · rw [upd1_ne _ _ e'] at hl
          exact hk (.inr ⟨b, bi, hb, hbk, hl⟩)
  have other : ∀ b bi k, b ≠ nb → β b = some bi → bi.k = some k → (upd1 (upd1 hp b0 .dead) nb x b).isDead = false → b ≠ b0 ∧ (hp b).isDead = false ∧ k ≠ k0 := by
    intro b bi k e hb hk hd
    rw [upd1_ne _ _ e] at hd
    by_cases e' : b = b0
    · subst e'; rw [upd1_same] at hd; cases hd
    · rw [upd1_ne _ _ e'] at hd
      refine ⟨e', hd, fun ek => e' ?_⟩
      subst ek
      exact h.inj b b0 bi bi0 k hb hb0 hk hk0 hd hd0
  refine ⟨⟨?_, ?_, ?_, ?_⟩, ⟨⟨rfl, rfl, rfl, by rw [hsz]; exact Nat.le_refl _, fun k hk hW => ?_, fun k ob hob => setRow_kind w _ _ k ob hob⟩, hkeeps, hav, hβ⟩⟩
  · intro b bi hb
    by_cases e : b = nb
    · subst e
      simp only [updβ, if_true, Option.some.injEq] at hb
      subst hb
      rw [upd1_same]
      exact hx hkeeps hav
    · simp only [updβ, e, if_false] at hb
      by_cases hd : (upd1 (upd1 hp b0 .dead) nb x b).isDead = true
      · cases hh : upd1 (upd1 hp b0 .dead) nb x b <;> simp_all [Blk.isDead, BlkOK]
      · have hd' : (upd1 (upd1 hp b0 .dead) nb x b).isDead = false := by simpa using hd
        have hbk : ∀ k, bi.k = some k → k ≠ k0 := fun k hk => (other b bi k e hb hk hd').2.2
        have heq : upd1 (upd1 hp b0 .dead) nb x b = hp b := by
          rw [upd1_ne _ _ e]
          by_cases e' : b = b0
          · subst e'; rw [upd1_ne _ _ e, upd1_same] at hd'; cases hd'
          · rw [upd1_ne _ _ e']
        rw [heq]
        exact (h.ok b bi hb).mono hkeeps hav hβ fun k hk => hold k (hbk k hk)
  · intro b bi k hb hk hd
    by_cases e : b = nb
    · subst e
      simp only [updβ, if_true, Option.some.injEq] at hb
      subst hb
      simp at hk
      subst hk
      exact ⟨hdom0.1, hdom0.2.1, by rw [hsz]; exact hdom0.2.2⟩
    · simp only [updβ, e, if_false] at hb
      obtain ⟨_, hd', _⟩ := other b bi k e hb hk hd
      have := h.dom b bi k hb hk hd'
      exact ⟨this.1, this.2.1, by rw [hsz]; exact this.2.2⟩
  · intro k hk
    exact h.new k (by rw [hsz] at hk; exact hk)
  · intro b b' bi bi' k hb hb' hk hk' hd hd'
    by_cases e : b = nb <;> by_cases e' : b' = nb
    · rw [e, e']
    · subst e
      simp only [updβ, if_true, Option.some.injEq] at hb
      subst hb
      simp only [updβ, e', if_false] at hb'
      simp at hk
      exact absurd hk.symm (other b' bi' k e' hb' hk' hd').2.2
    · subst e'
      simp only [updβ, if_true, Option.some.injEq] at hb'
      subst hb'
      simp only [updβ, e, if_false] at hb
      simp at hk'
      exact absurd hk'.symm (other b bi k e hb hk hd).2.2
    · simp only [updβ, e, e', if_false] at hb hb'
      exact h.inj b b' bi bi' k hb hb' hk hk' (other b bi k e hb hk hd).2.1 (other b' bi' k e' hb' hk' hd').2.1
  · exact hold k fun e => hW (e ▸ hdom0.1)

theorem run_append_room' (t tx ty e : TypeId) (i : TypeInfo) (ht : P.underlying t = some (.slice e)) (hi : P.info? e = some i) (g sLen sCap : Nat) (cur : Array Value) (te : TypeId) (hg : w.heap[g]? = some (.cells cur te (0, 0)))
  (x : Value) (n : Nat) (news : List Value) (hs : Src P i.size tx x n news w) (hroom : sLen + n ≤ sCap) (hfit : sLen * i.size + news.length ≤ cur.size) :
  (Builtin.append_ #[t, tx] ty #[.slice (some ⟨g, 0, none⟩) sLen sCap, x]).run P w =
   .ok (.slice (some ⟨g, 0, none⟩) (sLen + n) sCap) (w.setRow g (cur.toList.take (sLen * i.size) ++ news ++ cur.toList.drop (sLen * i.size + news.length)).toArray) := by
 have hst := run_storeCells_at P g (sLen * i.size) te news 0 cur w hg (by simpa using hfit) hs.one
 simp only [Nat.add_zero] at hst
 rcases hs.kind with ⟨e', hk⟩ | hk <;> simp [Builtin.append_, run_underlying ht, run_underlying hk, sizeOf, typeInfo, hi, hs.len, hroom, hs.cells, Addr.add_lit, hst]

theorem append_cells {av av' : Nat → Prop} {w w' : World} {T : Nat} (hcod : CodOK (E.cc T)) {l l' : List (U T)} {olds news : List Value} {rest : List Value} (ho : Cells E w av T l olds) (hn : Cells E w av T l' news)
  (hk : Keeps av w w') (ha : ∀ k, ¬ av k → k < w.heap.size → ¬ av' k) (i : Nat) (x : U T) (j : Nat) (y : IV U) (hx : (l ++ l')[i]? = some x) (hy : ((E.cc T).enc x)[j]? = some y) :
  ∃ v, (olds ++ news ++ rest)[i * (E.cc T).sz + j]? = some v ∧ Rep E.cc w' av' y v := by
 have hj : j < (E.cc T).sz := by
  have := (List.getElem?_eq_some_iff.1 hy).1
  rw [hcod.size] at this
  exact this
 by_cases hi : i < l.length
 ·rw [List.getElem?_append_left hi] at hx
  obtain ⟨v, hv, hr⟩ := ho.2.2 i x j y hx hy
  have hlt : i * (E.cc T).sz + j < olds.length := (List.getElem?_eq_some_iff.1 hv).1
  exact ⟨v, by rw [List.append_assoc, List.getElem?_append_left hlt]; exact hv, hr.mono hk ha⟩
 ·rw [List.getElem?_append_right (by omega)] at hx
  obtain ⟨v, hv, hr⟩ := hn.2.2 (i - l.length) x j y hx hy
  have hge : olds.length ≤ i * (E.cc T).sz + j := by
   rw [ho.1]
   exact Nat.le_trans (Nat.mul_le_mul_right _ (by omega)) (Nat.le_add_right _ _)
  have hidx : i * (E.cc T).sz + j - olds.length = (i - l.length) * (E.cc T).sz + j := by
   rw [ho.1, Nat.sub_mul]
   have := Nat.mul_le_mul_right (E.cc T).sz (show l.length ≤ i by omega)
   omega
  have hlt := (List.getElem?_eq_some_iff.1 hv).1
  refine ⟨v, ?_, hr.mono hk ha⟩
  rw [List.append_assoc, List.getElem?_append_right hge, List.getElem?_append_left (by rw [hidx]; exact hlt), hidx]
  exact hv

end Go.Proofs.Ytmlbioapefgioaa.Va

