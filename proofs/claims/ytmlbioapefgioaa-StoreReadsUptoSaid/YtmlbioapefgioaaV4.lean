/- The evaluator and its proof, put together: Va17, Va18, Va19, Va20, Va21, Va22, Va23. -/
import Derived.Test.YtmlbioapefgioaaV3
import Derived.Deep.Upon
import Derived.Great.BuildSlice
import Derived.Lib.ConvBytes
import Derived.Laws.BytesString
/- append, in the evaluator's words. -/
set_option linter.unusedSimpArgs false
set_option linter.unusedVariables false
namespace Go.Proofs.Ytmlbioapefgioaa.Va
open Go

variable {U : Nat → Type} {α : Type} {R : Type} {P : Program} {E : Env U} {X W0 : Nat → Prop} {β : Nat → Option BI} {hp : Nat → Blk U} {w : World}

theorem grow_eff (hE : EnvOK P E) {e : TypeId} (ho : (E.ti e).d.isOther = false) (ht : (E.ti e).tag ≠ 0) {l l' : List (U (E.ti e).tag)} {olds news : List Value}
  (hh : HRel E.cc X W0 β hp w) (nb : Nat) (hnb : β nb = none) {z : Value} (hzs : z.cells.size = (E.ti e).size) (hsz : (E.cc (E.ti e).tag).sz = (E.ti e).size) (hcod : CodOK (E.cc (E.ti e).tag))
  (hol : Cells E w (avOf X β hp) (E.ti e).tag l olds) (hne : Cells E w (avOf X β hp) (E.ti e).tag l' news) (cap : Nat) (hcap : l.length + l'.length ≤ cap) (hcm : cap ≤ maxLen) :
  ∃ w' β', w' = w.drew.alloc (.cells ((olds ++ news).toArray ++ Builtin.zeroCells z.cells (cap - (l.length + l'.length))) e) ∧ β' = updβ β nb ⟨some w.heap.size, l.length + l'.length, cap⟩ ∧
   HRel E.cc X W0 β' (upd1 hp nb (.row (E.ti e).tag (l ++ l') true)) w' ∧ Tr X W0 β hp w β' (upd1 hp nb (.row (E.ti e).tag (l ++ l') true)) w' := by
 obtain ⟨hh1, tr1⟩ := hh.drew
 have hc : ((olds ++ news).toArray ++ Builtin.zeroCells z.cells (cap - (l.length + l'.length))).size = cap * (E.cc (E.ti e).tag).sz := by
  simp only [Array.size_append, List.size_toArray, size_zeroCells, List.length_append, hol.1, hne.1, hzs, ← hsz, ← Nat.add_mul]
  congr 1
  omega
 obtain ⟨hh2, tr2⟩ := hh1.alloc nb hnb (.cells ((olds ++ news).toArray ++ Builtin.zeroCells z.cells (cap - (l.length + l'.length))) e) (l.length + l'.length) cap (.row (E.ti e).tag (l ++ l') true) (fun hk ha hβ => by
  refine ⟨hcod, by simp, by simp, fun k hk' => ?_⟩
  simp only [Option.some.injEq] at hk'
  subst hk'
  refine ⟨hcap, hcm, _, e, heap_alloc_new w.drew _, hc, fun i x j y hx hy => ?_⟩
  obtain ⟨v, hv, hr⟩ := append_cells (rest := (Builtin.zeroCells z.cells (cap - (l.length + l'.length))).toList) hcod hol hne hk ha i x j y hx hy
  refine ⟨v, ?_, hr⟩
  rw [← hv, ← Array.getElem?_toList]
  simp)
 exact ⟨_, _, rfl, rfl, hh2, tr1.trans tr2⟩

theorem two_of : ∀ {vs : List Value}, vs.length = 2 → ∃ a b, vs = [a, b]
 | [a, b], _ => ⟨a, b, rfl⟩

theorem Cells.mono {av av' : Nat → Prop} {w w' : World} (hk : Keeps av w w') (ha : ∀ k, ¬ av k → k < w.heap.size → ¬ av' k) {T : Nat} {l : List (U T)} {news : List Value} (h : Cells E w av T l news) : Cells E w' av' T l news :=
 ⟨h.1, h.2.1, fun i x j y hx hy => let ⟨v, hv, hr⟩ := h.2.2 i x j y hx hy; ⟨v, hv, hr.mono hk ha⟩⟩

theorem appendA_ok (hE : EnvOK P E) {st : St U} {t tx ty : TypeId} {s x : AV U} {K : KO U R} {r : R} (h : appendA E st t tx s x K = some r) :
  Makes E st K r [s, x] (fun vs w => (Builtin.append_ #[t, tx] ty #[vs.getD 0 undef, vs.getD 1 undef]).run P w) := by
 unfold appendA at h
 split at h
 case h_2 => cases h
 rename_i e hd
 obtain ⟨hu, hoe⟩ := hE.sliceE hd
 split at h
 case isFalse => cases h
 rename_i hc
 simp only [Bool.and_eq_true, Bool.not_eq_true', beq_eq_false_iff_ne, ne_eq] at hc
 obtain ⟨hsrc, htag⟩ := hc
 have ho := hoe htag
 obtain ⟨i, z, hi, hz, hs, hby, hsz, hcod, hleaf⟩ := hE.tag ho htag
 have hzs : z.cells.size = (E.ti e).size := by rw [(leavesB_rep hleaf).1, hcod.size, hsz]
 have hpos : 0 < (E.cc (E.ti e).tag).sz := hcod.pos
 split at h
 ·-- nothing
  have hk : ∃ e', P.underlying tx = some (.slice e') := by
   simp only [srcOK] at hsrc
   split at hsrc
   ·rename_i e' hd'; exact ⟨e', (hE.sliceE hd').1⟩
   ·cases hsrc
  obtain ⟨e', hk⟩ := hk
  split at h
  ·refine ⟨_, _, _, h, by simp, @fun X W0 β hp w vs hh hl hvs _ _ => ?_⟩
   obtain ⟨a, b, rfl⟩ := two_of hl
   obtain rfl := rep_nils (hvs 0 _ a rfl rfl)
   obtain rfl := rep_nils (hvs 1 _ b rfl rfl)
   have := run_append_nothing (P := P) w t tx ty e i hu hi none 0 0 (Nat.le_refl _) (.slice none 0 0) (Src.ofNil w hk 0)
   exact Eff.same hh this (.im .nils)
  ·rename_i b0
   split at h
   ·rename_i T l lv hb
    refine ⟨_, _, _, h, by simp, @fun X W0 β hp w vs hh hl hvs hag _ => ?_⟩
    obtain ⟨a, b, rfl⟩ := two_of hl
    have ha := hvs 0 _ a rfl rfl
    obtain rfl := rep_nils (hvs 1 _ b rfl rfl)
    have hbb := hag b0 (by simp)
    rw [hb] at hbb
    cases ha with
    | own0 hβ =>
     rename_i cap0 a0
     have := run_append_nothing (P := P) w t tx ty e i hu hi a0 0 0 (Nat.le_refl _) (.slice none 0 0) (Src.ofNil w hk 0)
     exact Eff.same hh this (.own0 hβ)
    | own hβ =>
     rename_i k n cap
     have hok := hh.ok b0 _ hβ
     rw [hbb] at hok
     have hnc := (hok.2.2.2 k rfl).1
     have := run_append_nothing (P := P) w t tx ty e i hu hi (some ⟨k, 0, none⟩) n cap hnc (.slice none 0 0) (Src.ofNil w hk 0)
     exact Eff.same hh this (.own hβ)
   ·cases h
  ·cases h
 ·-- something
  split at h
  ·cases h
  rename_i T l' rd hel
  split at h
  ·-- onto nil
   split at h
   case isFalse => cases h
   rename_i hT
   subst hT
   split at h
   case isFalse => cases h
   rename_i hroom
   refine ⟨_, _, _, h, by simp, @fun X W0 β hp w vs hh hl hvs hag hnb => ?_⟩
   obtain ⟨a, b, rfl⟩ := two_of hl
   have hnb' := hnb ⟨_, List.mem_singleton.2 rfl, rfl⟩
   obtain rfl := rep_nils (hvs 0 _ a rfl rfl)
   have hb := hvs 1 _ b rfl rfl
   obtain ⟨news, hsr, hce, _⟩ := elems_ok hE hsrc hel hpos hh hb hag
   rw [hsz, ← hs] at hsr
   by_cases h0 : l'.length = 0
   ·have hl0 : l' = [] := List.eq_nil_of_length_eq_zero h0
    subst hl0
    have hn0 : news = [] := List.eq_nil_of_length_eq_zero (by rw [hce.1]; simp)
    subst hn0
    have := run_append_nothing (P := P) w t tx ty e i hu hi none 0 0 (Nat.le_refl _) b hsr
    obtain ⟨hh1, tr1⟩ := hh.nowhere st.hp.length hnb' 0 (E.ti e).tag true hcod
    exact ⟨_, _, _, this, hh1, .own0 (cap := 0) (by simp [updβ]), tr1, fun q hq hp' => by
     have : q ≠ st.hp.length := fun e => hp' _ (List.mem_singleton.2 rfl) e.symm
     simp [updβ, this, hq]⟩
   ·have hgr := run_append_grow_src (P := P) w t tx ty e i z hu hi hz none 0 0 [] (by simp [Builtin.firstCells]) b l'.length news hsr (by omega) (by unfold room at hroom; omega)
     (by rw [hby]; unfold room at hroom; exact growslice_fits (by omega) (by simpa using hroom.1))
    have hcap : l'.length ≤ grownCap w (0 + l'.length) 0 e := by have := grownCap_ge w (0 + l'.length) 0 e; omega
    obtain ⟨w', β', hw', hβ', hh', tr⟩ := grow_eff hE ho htag (l := []) (l' := l') hh st.hp.length hnb' hzs hsz hcod Cells.nil hce (grownCap w (0 + l'.length) 0 e) (by simpa using hcap)
     (grownCap_le_maxLen w _ _ e (by unfold room at hroom; simp only [maxLen]; omega))
    subst hw' hβ'
    have hrep : RepA E.cc (w.drew.alloc (.cells (([] ++ news).toArray ++ Builtin.zeroCells z.cells (grownCap w (0 + l'.length) 0 e - (([] : List (U (E.ti e).tag)).length + l'.length))) e))
      (avOf X (updβ β st.hp.length ⟨some w.heap.size, ([] : List (U (E.ti e).tag)).length + l'.length, grownCap w (0 + l'.length) 0 e⟩) (upd1 hp st.hp.length (.row (E.ti e).tag ([] ++ l') true)))
      (updβ β st.hp.length ⟨some w.heap.size, ([] : List (U (E.ti e).tag)).length + l'.length, grownCap w (0 + l'.length) 0 e⟩) (.own st.hp.length)
      (.slice (some ⟨w.heap.size, 0, none⟩) (([] : List (U (E.ti e).tag)).length + l'.length) (grownCap w (0 + l'.length) 0 e)) := .own (by simp [updβ])
    exact ⟨_, _, _, hgr, hh', hrep, tr, fun q hq hp' => by
     have : q ≠ st.hp.length := fun e => hp' _ (List.mem_singleton.2 rfl) e.symm
     simp [updβ, this, hq]⟩
  ·-- onto a row of its own
   rename_i b0
   split at h
   case h_2 => cases h
   rename_i T' l hb
   split at h
   case isFalse => cases h
   rename_i hT
   subst hT
   split at h
   case isFalse => cases h
   rename_i hT
   subst hT
   split at h
   case isFalse => cases h
   rename_i hroom
   refine ⟨_, _, _, h, by simp, @fun X W0 β hp w vs hh hl hvs hag hnb => ?_⟩
   obtain ⟨a, b, rfl⟩ := two_of hl
   have hnb' := hnb ⟨_, List.mem_cons_of_mem _ (List.mem_singleton.2 rfl), rfl⟩
   have ha := hvs 0 _ a rfl rfl
   have hbv := hvs 1 _ b rfl rfl
   have hbb := hag b0 (by simp)
   rw [hb] at hbb
   obtain ⟨news, hsr, hce, _⟩ := elems_ok hE hsrc hel hpos hh hbv fun q hq => hag q (List.mem_cons_of_mem _ hq)
   rw [hsz, ← hs] at hsr
   obtain ⟨hhd, trd⟩ := hh.dead b0
   have hfresh : ∀ (bi : BI) q, β q = none → (∀ p ∈ [(b0, Blk.dead), (st.hp.length, Blk.row (E.ti e).tag (l ++ l') true)], p.1 ≠ q) → updβ β st.hp.length bi q = none := by
    intro bi q hq hp'
    have : q ≠ st.hp.length := fun e => hp' (st.hp.length, _) (List.mem_cons_of_mem _ (List.mem_singleton.2 rfl)) e.symm
    simp [updβ, this, hq]
   -- a new row is laid
   have grow : ∀ (base : Option Addr) (cap : Nat) (olds : List Value), a = .slice base l.length cap → cap < l.length + l'.length → Cells E w (avOf X β hp) (E.ti e).tag l olds →
     (Builtin.firstCells i.size l.length (.slice base l.length cap)).run P w.drew = .ok olds.toArray w.drew →
     Eff E.cc X W0 β hp w (.own st.hp.length) [(b0, .dead), (st.hp.length, .row (E.ti e).tag (l ++ l') true)] ((Builtin.append_ #[t, tx] ty #[a, b]).run P w) := by
    intro base cap olds hav hlt hol hfc
    subst hav
    have hgr := run_append_grow_src (P := P) w t tx ty e i z hu hi hz base l.length cap olds hfc b l'.length news hsr hlt (by unfold room at hroom; omega)
     (by rw [hby]; unfold room at hroom; exact growslice_fits (by omega) hroom.1)
    have hcap := grownCap_ge w (l.length + l'.length) cap e
    obtain ⟨w', β', hw', hβ', hh', tr⟩ := grow_eff hE ho htag (l := l) (l' := l') hhd st.hp.length hnb' hzs hsz hcod (hol.mono (fun _ _ _ _ h => h) trd.av) (hce.mono (fun _ _ _ _ h => h) trd.av) (grownCap w (l.length + l'.length) cap e) hcap
     (grownCap_le_maxLen w _ _ e (by unfold room at hroom; simp only [maxLen]; omega))
    subst hw' hβ'
    refine ⟨_, _, _, hgr, hh', ?_, trd.trans tr, hfresh _⟩
    exact .own (by simp [updβ])
   cases ha with
   | own0 hβ =>
    rename_i cap0 a0
    have hok := hh.ok b0 _ hβ
    rw [hbb] at hok
    have hl0 : l = [] := List.eq_nil_of_length_eq_zero (by simpa using hok.2.1)
    subst hl0
    by_cases h0 : l'.length = 0
    ·have hl0 : l' = [] := List.eq_nil_of_length_eq_zero h0
     subst hl0
     have hn0 : news = [] := List.eq_nil_of_length_eq_zero (by rw [hce.1]; simp)
     subst hn0
     have := run_append_nothing (P := P) w t tx ty e i hu hi a0 0 0 (Nat.le_refl _) b hsr
     obtain ⟨hh1, tr1⟩ := hhd.nowhere st.hp.length hnb' 0 (E.ti e).tag true hcod
     exact ⟨_, _, _, this, hh1, .own0 (cap := 0) (by simp [updβ]), trd.trans tr1, hfresh _⟩
    ·exact grow a0 0 [] rfl (by simp; omega) Cells.nil (by cases a0 <;> simp [Builtin.firstCells, loadCells, loadCellsFrom])
   | own hβ =>
    rename_i k n cap
    have hok := hh.ok b0 _ hβ
    rw [hbb] at hok
    have hn := hok.2.1
    simp only at hn
    subst hn
    obtain ⟨hnc, hcm, c, te, hg, hcs, hcell⟩ := hok.2.2.2 k rfl
    simp only at hnc hcm hcs
    by_cases hfits : l.length + l'.length ≤ cap
    ·have hfit : l.length * i.size + news.length ≤ c.size := by
      rw [hce.1, hcs, hs, ← hsz, ← Nat.add_mul]
      exact Nat.mul_le_mul_right _ hfits
     have hrun := run_append_room' (P := P) t tx ty e i hu hi k l.length cap c te hg b l'.length news hsr hfits hfit
     obtain ⟨hh1, tr1⟩ := hh.move b0 st.hp.length _ k (l.length + l'.length) cap hβ rfl (by rw [hbb]; rfl) hnb' (.row (E.ti e).tag (l ++ l') true) rfl
      (c.toList.take (l.length * i.size) ++ news ++ c.toList.drop (l.length * i.size + news.length)).toArray (fun hk ha => by
       refine ⟨hcod, by simp, by simp, fun k' hk' => ?_⟩
       simp only [Option.some.injEq] at hk'
       subst hk'
       refine ⟨hfits, hcm, _, te, setRow_heap w k c _ te _ hg, by rw [spliceV_size _ _ _ hfit, hcs], fun i' x j y hx hy => ?_⟩
       have hj : j < (E.cc (E.ti e).tag).sz := by
        have := (List.getElem?_eq_some_iff.1 hy).1
        rw [hcod.size] at this
        exact this
       by_cases hi' : i' < l.length
       ·rw [List.getElem?_append_left hi'] at hx
        obtain ⟨v, hv, hr⟩ := hcell i' x j y hx hy
        have : i' * (E.cc (E.ti e).tag).sz + j < l.length * (E.cc (E.ti e).tag).sz := by
         calc i' * (E.cc (E.ti e).tag).sz + j < i' * (E.cc (E.ti e).tag).sz + (E.cc (E.ti e).tag).sz := by omega
          _ = (i' + 1) * (E.cc (E.ti e).tag).sz := by rw [Nat.add_mul, Nat.one_mul]
          _ ≤ l.length * (E.cc (E.ti e).tag).sz := Nat.mul_le_mul_right _ hi'
        refine ⟨v, ?_, hr.mono hk ha⟩
        rw [spliceV _ _ _ hfit, hs, ← hsz, if_neg (by omega)]
        exact hv
       ·rw [List.getElem?_append_right (by omega)] at hx
        obtain ⟨v, hv, hr⟩ := hce.2.2 (i' - l.length) x j y hx hy
        have hmul := Nat.mul_le_mul_right (E.cc (E.ti e).tag).sz (show l.length ≤ i' by omega)
        have hidx : i' * (E.cc (E.ti e).tag).sz + j - l.length * (E.cc (E.ti e).tag).sz = (i' - l.length) * (E.cc (E.ti e).tag).sz + j := by
         rw [Nat.sub_mul]; omega
        have hlt := (List.getElem?_eq_some_iff.1 hv).1
        refine ⟨v, ?_, hr.mono hk ha⟩
        rw [spliceV _ _ _ hfit, hs, ← hsz, if_pos ⟨by omega, by omega⟩, hidx]
        exact hv)
     refine ⟨_, _, _, hrun, hh1, ?_, tr1, hfresh _⟩
     exact .own (by simp [updβ])
    ·obtain ⟨olds, hso, hco, _⟩ := src_slice (P := P) (E := E) (w := w) (av := avOf X β hp) hu hcod (l := l) k 0 cap fun i' x j y hx hy => by
      rw [Nat.zero_add]
      exact row_cell hh hβ hbb hx hy
     rw [hsz, ← hs] at hso
     exact grow (some ⟨k, 0, none⟩) cap olds rfl (by omega) hco hso.cellsD
  ·cases h

end Go.Proofs.Ytmlbioapefgioaa.Va

/- copy; slice literals; conversions. -/
namespace Go.Proofs.Ytmlbioapefgioaa.Va
open Go

variable {U : Nat → Type} {α : Type} {R : Type} {P : Program} {E : Env U} {X W0 : Nat → Prop} {β : Nat → Option BI} {hp : Nat → Blk U} {w : World}

theorem HRel.world (h : HRel E.cc X W0 β hp w) {w' : World} (ho : w'.os = w.os) (ht : w'.tape = w.tape) (hu : w'.output = w.output) (hs : w.heap.size ≤ w'.heap.size) (hb : ∀ k, k < w.heap.size → w'.heap[k]? = w.heap[k]?) :
  HRel E.cc X W0 β hp w' ∧ Tr X W0 β hp w β hp w' := by
 have hk : Keeps (avOf X β hp) w w' := Keeps.of_block fun k _ hk => hb k hk
 refine ⟨⟨fun b bi hβ => ?_, fun b bi k hβ hk' hd => ?_, fun k hk' => h.new k (by omega), h.inj⟩, ⟨⟨ho, ht, hu, hs, fun k hk' _ => hb k hk', fun k ob hob => ⟨ob, by rw [hb k (Array.getElem?_eq_some_iff.1 hob).1]; exact hob, rfl, fun _ => rfl⟩⟩, hk, fun _ h _ => h, fun _ _ h => h⟩⟩
 ·by_cases hd : (hp b).isDead = true
  ·cases hh : hp b <;> simp_all [Blk.isDead, BlkOK]
  ·exact (h.ok b bi hβ).mono hk (fun _ h _ => h) (fun _ _ h => h) fun k hk' => hb k (h.dom b bi k hβ hk' (by simpa using hd)).2.2
 ·have := h.dom b bi k hβ hk' hd
  exact ⟨this.1, this.2.1, by omega⟩

theorem HRel.over (hh : HRel E.cc X W0 β hp w) {b k n cap T : Nat} {l m : List (U T)} {news : List Value} (hβ : β b = some ⟨some k, n, cap⟩) (hb : hp b = .row T l true) (o : Nat) (hfit : o + m.length ≤ l.length)
  (hn : Cells E w (avOf X β hp) T m news) : ∃ c te, w.heap[k]? = some (.cells c te (0, 0)) ∧ o * (E.cc T).sz + news.length ≤ c.size ∧
   HRel E.cc X W0 β (upd1 hp b (.row T (l.take o ++ (m ++ l.drop (o + m.length))) true)) (w.setRow k (c.toList.take (o * (E.cc T).sz) ++ news ++ c.toList.drop (o * (E.cc T).sz + news.length)).toArray) ∧
   Tr X W0 β hp w β (upd1 hp b (.row T (l.take o ++ (m ++ l.drop (o + m.length))) true)) (w.setRow k (c.toList.take (o * (E.cc T).sz) ++ news ++ c.toList.drop (o * (E.cc T).sz + news.length)).toArray) := by
 have hok := hh.ok b _ hβ
 rw [hb] at hok
 obtain ⟨hcod, hl, _, hsome⟩ := hok
 obtain ⟨hnc, hcm, c, te, hg, hcs, hcell⟩ := hsome k rfl
 simp only at hl hnc hcm hcs
 have hlen : (l.take o ++ (m ++ l.drop (o + m.length))).length = l.length := by simp; omega
 have hsz : o * (E.cc T).sz + news.length ≤ c.size := by
  rw [hn.1, hcs, ← Nat.add_mul]
  exact Nat.mul_le_mul_right _ (by omega)
 obtain ⟨h1, h2⟩ := hh.write b _ k hβ rfl (by rw [hb]; rfl) (.row T (l.take o ++ (m ++ l.drop (o + m.length))) true) rfl (c.toList.take (o * (E.cc T).sz) ++ news ++ c.toList.drop (o * (E.cc T).sz + news.length)).toArray (fun hk ha => by
  refine ⟨hcod, by rw [hlen, hl], by simp, fun k' hk' => ?_⟩
  simp only [Option.some.injEq] at hk'
  subst hk'
  refine ⟨hnc, hcm, _, te, setRow_heap w k c _ te _ hg, by rw [spliceV_size _ _ _ hsz, hcs], fun i x j y hx hy => ?_⟩
  have hj : j < (E.cc T).sz := by
   have := (List.getElem?_eq_some_iff.1 hy).1
   rw [hcod.size] at this
   exact this
  rw [spliceV _ _ _ hsz]
  by_cases h1 : i < o
  ·rw [List.getElem?_append_left (by simp; omega), List.getElem?_take, if_pos h1] at hx
   obtain ⟨v, hv, hr⟩ := hcell i x j y hx hy
   refine ⟨v, ?_, hr.mono hk ha⟩
   rw [if_neg, hv]
   have : i * (E.cc T).sz + (E.cc T).sz ≤ o * (E.cc T).sz := by
    calc i * (E.cc T).sz + (E.cc T).sz = (i + 1) * (E.cc T).sz := by rw [Nat.add_mul, Nat.one_mul]
     _ ≤ o * (E.cc T).sz := Nat.mul_le_mul_right _ h1
   omega
  ·have hto : (l.take o).length = o := by simp; omega
   rw [List.getElem?_append_right (by omega), hto] at hx
   have hmo := Nat.mul_le_mul_right (E.cc T).sz (show o ≤ i by omega)
   by_cases h2 : i < o + m.length
   ·rw [List.getElem?_append_left (by omega)] at hx
    obtain ⟨v, hv, hr⟩ := hn.2.2 (i - o) x j y hx hy
    have hidx : i * (E.cc T).sz + j - o * (E.cc T).sz = (i - o) * (E.cc T).sz + j := by rw [Nat.sub_mul]; omega
    have hlt := (List.getElem?_eq_some_iff.1 hv).1
    refine ⟨v, ?_, hr.mono hk ha⟩
    rw [if_pos ⟨by omega, by omega⟩, hidx]
    exact hv
   ·rw [List.getElem?_append_right (by omega), List.getElem?_drop] at hx
    have : o + m.length + (i - o - m.length) = i := by omega
    rw [this] at hx
    obtain ⟨v, hv, hr⟩ := hcell i x j y hx hy
    refine ⟨v, ?_, hr.mono hk ha⟩
    rw [if_neg, hv]
    rw [hn.1, ← Nat.add_mul]
    have := Nat.mul_le_mul_right (E.cc T).sz (show o + m.length ≤ i by omega)
    omega)
 exact ⟨c, te, hg, hsz, h1, h2⟩

theorem Cells.take {av : Nat → Prop} {T : Nat} {l : List (U T)} {news : List Value} (hcod : CodOK (E.cc T)) (h : Cells E w av T l news) (n : Nat) : Cells E w av T (l.take n) (news.take (n * (E.cc T).sz)) := by
 obtain ⟨h1, h2, h3⟩ := h
 refine ⟨?_, fun u hu => h2 u (List.mem_of_mem_take hu), fun i x j y hx hy => ?_⟩
 ·rw [List.length_take, List.length_take, h1]
  rcases Nat.le_total n l.length with h | h
  ·rw [Nat.min_eq_left h, Nat.min_eq_left (Nat.mul_le_mul_right _ h)]
  ·rw [Nat.min_eq_right h, Nat.min_eq_right (Nat.mul_le_mul_right _ h)]
 ·rw [List.getElem?_take] at hx
  split at hx
  case isFalse => cases hx
  rename_i hi
  obtain ⟨v, hv, hr⟩ := h3 i x j y hx hy
  have hj : j < (E.cc T).sz := by
   have := (List.getElem?_eq_some_iff.1 hy).1
   rw [hcod.size] at this
   exact this
  refine ⟨v, ?_, hr⟩
  rw [List.getElem?_take, if_pos, hv]
  calc i * (E.cc T).sz + j < i * (E.cc T).sz + (E.cc T).sz := by omega
   _ = (i + 1) * (E.cc T).sz := by rw [Nat.add_mul, Nat.one_mul]
   _ ≤ n * (E.cc T).sz := Nat.mul_le_mul_right _ hi

theorem decs1 {T : Nat} {c : Cod U T} : ∀ {ys : List (IV U)} {l : List (U T)}, decs c (ys.map fun y => [y]) = some l → l.length = ys.length ∧ ∀ (i : Nat) (y : IV U) (x : U T), ys[i]? = some y → l[i]? = some x → c.dec [y] = some x := by
 intro ys
 induction ys with
 | nil => intro l h; simp only [List.map_nil, decs, Option.some.injEq] at h; subst h; simp
 | cons y ys ih =>
  intro l h
  simp only [List.map_cons, decs] at h
  split at h
  ·rename_i x0 l0 h1 h2
   cases h
   obtain ⟨i1, i2⟩ := ih h2
   refine ⟨by simp [i1], fun i y' x hy hx => ?_⟩
   cases i with
   | zero => simp only [List.getElem?_cons_zero, Option.some.injEq] at hy hx; subst hy; subst hx; exact h1
   | succ i => exact i2 i y' x (by simpa using hy) (by simpa using hx)
  ·cases h
theorem intCells_ok : ∀ {xs : List (AV U)} {ys : List (IV U)}, intCells xs = some ys → ys.length = xs.length ∧ ∀ (i : Nat) (y : IV U), ys[i]? = some y → xs[i]? = some (.im y) ∧ ∃ k n, y = .int k n
 | [], ys, h => by simp only [intCells, Option.some.injEq] at h; subst h; simp
 | x :: xs, ys, h => by
  unfold intCells at h
  split at h
  ·rename_i e; cases e
  ·rename_i k n xs' e
   cases e
   simp only [Option.map_eq_some_iff] at h
   obtain ⟨ys', h1, rfl⟩ := h
   obtain ⟨i1, i2⟩ := intCells_ok h1
   refine ⟨by simp [i1], fun i y hy => ?_⟩
   cases i with
   | zero => simp only [List.getElem?_cons_zero, Option.some.injEq] at hy; subst hy; exact ⟨rfl, k, n, rfl⟩
   | succ i => exact ⟨by simpa using (i2 i y (by simpa using hy)).1, (i2 i y (by simpa using hy)).2⟩
  ·cases h
theorem var_cell {cs : List (AV U)} {b k n cap : Nat} (h : HRel E.cc X W0 β hp w) (hb : β b = some ⟨some k, n, cap⟩) (hr : hp b = .var cs) {i : Nat} {x : AV U} (hx : cs[i]? = some x) :
  ∃ v, w.cell? ⟨k, i, none⟩ = some v ∧ RepA E.cc w (avOf X β hp) β x v ∧ v.oneCell' = true := by
 have hok := h.ok b _ hb
 rw [hr] at hok
 obtain ⟨k', c, t, hk, hg, hs, hc⟩ := hok
 simp only [Option.some.injEq] at hk
 subst hk
 have hi : i < c.size := by rw [hs]; exact (List.getElem?_eq_some_iff.1 hx).1
 have hv : c[i]? = some c[i] := Array.getElem?_eq_getElem hi
 exact ⟨c[i], by rw [cell_of hg]; exact hv, hc i x _ hx hv⟩
theorem elemsV_ok (hE : EnvOK P E) {h : Hp U} {tx : TypeId} {x : AV U} {T0 T : Nat} {l : List (U T)} {rd : List Nat} (hs : srcOK E tx x = true) (he : elemsV E h T0 x = some ⟨T, l, rd⟩) (hpos : 0 < (E.cc T).sz)
  {vx : Value} (hh : HRel E.cc X W0 β hp w) (hr : RepA E.cc w (avOf X β hp) β x vx) (hag : ∀ b ∈ rd, hp b = h.get b) :
  ∃ news, Src P (E.cc T).sz tx vx l.length news w ∧ Cells E w (avOf X β hp) T l news ∧
   ∀ m, m ≤ l.length → (Builtin.firstCells (E.cc T).sz m vx).run P w = .ok (news.take (m * (E.cc T).sz)).toArray w := by
 cases x with
 | vsl b off len sz =>
  simp only [srcOK] at hs
  split at hs
  case h_2 => cases hs
  rename_i e' hd
  have hk := (hE.sliceE hd).1
  simp only [elemsV] at he
  split at he
  case isFalse => cases he
  rename_i hsz
  split at he
  case h_2 => cases he
  rename_i cs hb
  split at he
  case h_2 => cases he
  rename_i seg hcut
  split at he
  case h_2 => cases he
  rename_i ys hys
  split at he
  case h_2 => cases he
  rename_i l0 hdec
  simp only [Option.some.injEq, Els.mk.injEq] at he
  obtain ⟨rfl, he, rfl⟩ := he
  cases he
  obtain ⟨hsz1, hsz2⟩ := hsz
  have hcod := hE.cod T0 hpos
  have hbb := hag b (by simp)
  rw [hb] at hbb
  obtain ⟨c1, c2, c3⟩ := cut_some hcut
  obtain ⟨y1, y2⟩ := intCells_ok hys
  obtain ⟨d1, d2⟩ := decs1 hdec
  have hlen : l0.length = len := by omega
  cases hr with
  | vsl0 =>
   have : l0 = [] := List.eq_nil_of_length_eq_zero (by omega)
   subst this
   exact src_none hk _ _
  | vsl hβ hcl =>
   rename_i k n cap cap'
   have key := src_slice (P := P) (E := E) (w := w) (av := avOf X β hp) hk hcod (l := l0) k off cap fun i x j y hx hy => by
    have hj : j = 0 := by
     have := (List.getElem?_eq_some_iff.1 hy).1
     rw [hcod.size, hsz2] at this
     omega
    subst hj
    have hi : i < ys.length := by rw [← d1]; exact (List.getElem?_eq_some_iff.1 hx).1
    have hyi : ys[i]? = some ys[i] := List.getElem?_eq_getElem hi
    obtain ⟨e1, kk, nn, e2⟩ := y2 i _ hyi
    have e3 := c3 i _ e1
    obtain ⟨v, hv, hrep, _⟩ := var_cell hh hβ hbb e3
    have hdx := (hcod.dec _ _ (d2 i _ x hyi hx)).2 0 ys[i] rfl
    obtain ⟨z, hz, hz2⟩ := hdx
    rw [hz] at hy
    cases hy
    refine ⟨v, by rw [hsz2, Nat.mul_one, Nat.add_zero]; exact hv, ?_⟩
    cases hrep with
    | im hrep =>
     rcases hz2 with hz2 | ⟨hz2, _⟩
     ·rw [← hz2]; exact hrep
     ·rw [e2] at hz2; cases hz2
   rw [hlen] at key ⊢
   exact key
 | _ => exact elems_ok hE hs he hpos hh hr hag
theorem overV_ok {T : Nat} {c : Cod U T} (hcod : CodOK c) : ∀ {xs ys : List (AV U)} {l : List (U T)} {i : Nat}, overV c l i xs = some ys → ys.length = xs.length ∧ ∀ (j : Nat) (y : AV U), ys[j]? = some y →
  ∃ z, y = .im z ∧ ((∃ u, l[i + j]? = some u ∧ (c.enc u)[0]? = some z) ∨ (l.length ≤ i + j ∧ xs[j]? = some y))
 | [], ys, l, i, h => by simp only [overV, Option.some.injEq] at h; subst h; simp
 | x :: xs, ys, l, i, h => by
  cases x with
  | im y => cases y with
   | int k n =>
    simp only [overV] at h
    split at h
    case h_2 => cases h
    rename_i o ho
    split at h
    case h_2 => cases h
    rename_i z hz
    split at h
    case h_2 => cases h
    rename_i ys' h1
    cases h
    obtain ⟨i1, i2⟩ := overV_ok hcod h1
    refine ⟨by simp [i1], fun j y hy => ?_⟩
    cases j with
    | zero =>
     simp only [List.getElem?_cons_zero, Option.some.injEq] at hy
     subst hy
     refine ⟨z, rfl, ?_⟩
     by_cases hi : i < l.length
     ·refine Or.inl ⟨l[i], by rw [Nat.add_zero]; exact List.getElem?_eq_getElem hi, ?_⟩
      rw [List.getD_eq_getElem?_getD, List.getElem?_eq_getElem hi] at hz
      simp only [Option.getD_some] at hz
      rw [hz]
      rfl
     ·refine Or.inr ⟨by omega, ?_⟩
      rw [List.getD_eq_getElem?_getD, List.getElem?_eq_none (by omega)] at hz
      simp only [Option.getD_none] at hz
      obtain ⟨z', g1, g2⟩ := (hcod.dec _ _ ho).2 0 (.int k n) rfl
      rw [hz] at g1
      cases g1
      rcases g2 with g2 | ⟨g2, _⟩
      ·rw [← g2]; rfl
      ·cases g2
    | succ j =>
     obtain ⟨z', g1, g2⟩ := i2 j y (by simpa using hy)
     refine ⟨z', g1, ?_⟩
     rw [show i + (j + 1) = i + 1 + j by omega]
     exact g2
   | _ => simp [overV] at h
  | _ => simp [overV] at h

theorem copyA_ok (hE : EnvOK P E) {st : St U} {t tx ty : TypeId} {d x : AV U} {K : KO U R} {r : R} (h : copyA E st t tx d x K = some r) :
  Makes E st K r [d, x] (fun vs w => (Builtin.copy_ #[t, tx] ty #[vs.getD 0 undef, vs.getD 1 undef]).run P w) := by
 unfold copyA at h
 split at h
 case h_2 => cases h
 rename_i e hd
 obtain ⟨hu, hoe⟩ := hE.sliceE hd
 split at h
 case isFalse => cases h
 rename_i hc
 simp only [Bool.and_eq_true, Bool.not_eq_true', beq_eq_false_iff_ne, ne_eq] at hc
 obtain ⟨hsrc, htag⟩ := hc
 have ho := hoe htag
 obtain ⟨i, z, hi, hz, hs, hby, hsz, hcod, hleaf⟩ := hE.tag ho htag
 have hpos : 0 < (E.cc (E.ti e).tag).sz := hcod.pos
 split at h
 ·cases h
 split at h
 ·cases h
 rename_i T l' rd hel
 -- what the model does: n elements, to a place
 have hrun : ∀ {w w' : World} (base : Option Addr) (dLen dCap : Nat) (vx : Value) (news : List Value) (n : Nat), (Builtin.lenOf vx).run P w = .ok l'.length w → n = min l'.length dLen →
   (Builtin.firstCells i.size n vx).run P w = .ok news.toArray w → (base = none → w' = w) → (∀ a, base = some a → (storeCells a news).run P w = .ok () w') →
   (Builtin.copy_ #[t, tx] ty #[.slice base dLen dCap, vx]).run P w = .ok (.int .i64 n) w' := by
  intro w w' base dLen dCap vx news n h1 h2 h3 h4 h5
  subst h2
  have h3 : (Builtin.firstCells i.size (Nat.min l'.length dLen) vx).run P w = .ok news.toArray w := h3
  cases base with
  | none => rw [h4 rfl]; simp [Builtin.copy_, run_underlying hu, sizeOf, typeInfo, hi, h1, h3, goInt]
  | some a => simp [Builtin.copy_, run_underlying hu, sizeOf, typeInfo, hi, h1, h3, h5 a rfl, goInt]
 have hfn : ∀ {w : World} {av : Nat → Prop} (q : Value) (news : List Value) (n : Nat), (∀ m, m ≤ l'.length → (Builtin.firstCells i.size m q).run P w = .ok (news.take (m * i.size)).toArray w) → Cells E w av T l' news → (E.ti e).tag = T →
   (Builtin.firstCells i.size (min l'.length n) q).run P w = .ok (news.take (n * (E.cc T).sz)).toArray w := by
  intro w av q news n hfirst hce hT
  subst hT
  rw [hfirst _ (Nat.min_le_left _ _), hs, ← hsz]
  congr 2
  rcases Nat.le_total n l'.length with h | h
  ·rw [Nat.min_eq_right h]
  ·rw [Nat.min_eq_left h, ← hce.1, List.take_length, List.take_of_length_le]
   rw [hce.1]
   exact Nat.mul_le_mul_right _ h
 split at h
 ·rename_i b
  split at h
  case h_2 => cases h
  rename_i T' l hb
  split at h
  case isFalse => cases h
  rename_i hT
  subst hT
  split at h
  case isFalse => cases h
  rename_i hT
  subst hT
  refine ⟨_, _, _, h, by simp, @fun X W0 β hp w vs hh hl hvs hag _ => ?_⟩
  obtain ⟨a, q, rfl⟩ := two_of hl
  have ha := hvs 0 _ a rfl rfl
  have hq := hvs 1 _ q rfl rfl
  have hbb := hag b (by simp)
  rw [hb] at hbb
  obtain ⟨news, hsr, hce, hfirst⟩ := elemsV_ok hE hsrc hel hpos hh hq fun q hq => hag q (List.mem_cons_of_mem _ hq)
  rw [hsz, ← hs] at hfirst
  cases ha with
  | own0 hβ =>
   have hok := hh.ok b _ hβ
   rw [hbb] at hok
   have hl0 : l = [] := List.eq_nil_of_length_eq_zero (by simpa using hok.2.1)
   subst hl0
   rename_i cap0 a0 hx0
   have := hrun (w := w) (w' := w) a0 0 0 q _ 0 (hsr.len w) (by simp) (hfirst 0 (Nat.zero_le _)) (fun _ => rfl) (fun a h => by simp [storeCells])
   obtain ⟨hh1, tr1⟩ := hh.less b (.row (E.ti e).tag [] true) (fun _ => by rw [hbb]; rfl) (fun _ => by rw [hbb]; rfl) (fun bi _ av hok => by rw [hbb] at hok; exact hok)
   refine ⟨_, _, _, this, by simpa [upds] using hh1, ?_, by simpa [upds] using tr1, fun _ h _ => h⟩
   simp
   exact .im (.int _ _)
  | own hβ =>
   rename_i k n cap
   have hok := hh.ok b _ hβ
   rw [hbb] at hok
   have hn := hok.2.1
   simp only at hn
   subst hn
   have hmin : (l'.take l.length).length = min l'.length l.length := by rw [List.length_take, Nat.min_comm]
   obtain ⟨c, te, hg, hfit, hh1, tr1⟩ := hh.over hβ hbb 0 (m := l'.take l.length) (by rw [Nat.zero_add, hmin]; exact Nat.min_le_right _ _) (hce.take hcod l.length)
   have hst := run_storeCells_at P k 0 te (news.take (l.length * (E.cc (E.ti e).tag).sz)) 0 c w hg (by simpa using hfit) (hce.take hcod l.length).2.1
   have hfn := hfn q news l.length hfirst hce rfl
   have := hrun (w := w) (some ⟨k, 0, none⟩) l.length cap q _ _ (hsr.len w) rfl hfn (fun h => by cases h) (fun a ha => by cases ha; exact hst)
   have heq : l.take 0 ++ (l'.take l.length ++ l.drop (0 + (l'.take l.length).length)) = l'.take l.length ++ l.drop l'.length := by
    rw [List.take_zero, List.nil_append, Nat.zero_add, hmin]
    congr 1
    rcases Nat.le_total l.length l'.length with h | h
    ·rw [Nat.min_eq_right h, List.drop_length, List.drop_of_length_le h]
    ·rw [Nat.min_eq_left h]
   rw [heq] at hh1 tr1
   rw [Nat.zero_mul] at hh1 tr1
   rw [Nat.add_zero] at this
   exact ⟨_, _, _, this, hh1, .im (.int _ _), tr1, fun _ h _ => h⟩
 ·-- a stretch of a row
  rename_i b off len sz
  split at h
  case h_2 => cases h
  rename_i T' l hb
  split at h
  case isFalse => cases h
  rename_i hT
  subst hT
  split at h
  case isFalse => cases h
  rename_i hT
  obtain ⟨hT, hszz, hin⟩ := hT
  subst hT
  refine ⟨_, _, _, h, by simp, @fun X W0 β hp w vs hh hl hvs hag _ => ?_⟩
  obtain ⟨a, q, rfl⟩ := two_of hl
  have ha := hvs 0 _ a rfl rfl
  have hq := hvs 1 _ q rfl rfl
  have hbb := hag b (by simp)
  rw [hb] at hbb
  obtain ⟨news, hsr, hce, hfirst⟩ := elemsV_ok hE hsrc hel hpos hh hq fun q hq => hag q (List.mem_cons_of_mem _ hq)
  rw [hsz, ← hs] at hfirst
  have hmin : (l'.take len).length = min l'.length len := by rw [List.length_take, Nat.min_comm]
  have hfn := hfn q news len hfirst hce rfl
  cases ha with
  | @sub0 _ _ _ a cap =>
   have hn0 : news.take (0 * (E.cc (E.ti e).tag).sz) = [] := by simp
   rw [hn0] at hfn
   have := hrun (w := w) (w' := w) a 0 cap q _ _ (hsr.len w) rfl hfn (fun _ => rfl) (fun a _ => by simp [storeCells])
   obtain ⟨hh1, tr1⟩ := hh.less b (.row (E.ti e).tag (l.take off ++ (l'.take 0 ++ l.drop (off + min l'.length 0))) true) (fun _ => by rw [hbb]; rfl) (fun _ => by rw [hbb]; rfl) (fun bi _ av hok => by
    rw [hbb] at hok
    have : l.take off ++ (l'.take 0 ++ l.drop (off + min l'.length 0)) = l := by simp
    rw [this]
    exact hok)
   exact ⟨_, _, _, this, hh1, .im (.int _ _), tr1, fun _ h _ => h⟩
  | @sub _ _ _ _ k n cap cap' hβ hl hcl =>
   obtain ⟨c, te, hg, hfit, hh1, tr1⟩ := hh.over hβ hbb off (m := l'.take len) (by rw [hmin]; have := Nat.min_le_right l'.length len; omega) (hce.take hcod len)
   have hst := run_storeCells_at P k (off * (E.cc (E.ti e).tag).sz) te (news.take (len * (E.cc (E.ti e).tag).sz)) 0 c w hg (by simpa using hfit) (hce.take hcod len).2.1
   have := hrun (w := w) (some ⟨k, off * sz, none⟩) len cap q _ _ (hsr.len w) rfl hfn (fun h => by cases h) (fun a ha => by cases ha; rw [hszz]; exact hst)
   rw [hmin] at hh1 tr1
   rw [Nat.add_zero] at this
   exact ⟨_, _, _, this, hh1, .im (.int _ _), tr1, fun _ h _ => h⟩
 ·-- a stretch of a variable
  rename_i b off len sz
  split at h
  case h_2 => cases h
  rename_i cs hb
  split at h
  case isFalse => cases h
  rename_i hc
  obtain ⟨hT, hsz1, hsz2, hlen⟩ := hc
  subst hT
  split at h
  case h_2 => cases h
  rename_i seg hcut
  split at h
  case h_2 => cases h
  rename_i seg' hov
  refine ⟨_, _, _, h, by simp, @fun X W0 β hp w vs hh hl hvs hag _ => ?_⟩
  obtain ⟨a, q, rfl⟩ := two_of hl
  have ha := hvs 0 _ a rfl rfl
  have hq := hvs 1 _ q rfl rfl
  have hbb := hag b (by simp)
  rw [hb] at hbb
  obtain ⟨news, hsr, hce, hfirst⟩ := elemsV_ok hE hsrc hel hpos hh hq fun q hq => hag q (List.mem_cons_of_mem _ hq)
  rw [hsz, ← hs] at hfirst
  obtain ⟨c1, c2, c3⟩ := cut_some hcut
  obtain ⟨o1, o2⟩ := overV_ok hcod hov
  have hfn := hfn q news len hfirst hce rfl
  cases ha with
  | vsl0 => omega
  | vsl hβ hcl =>
   rename_i k n cap cap'
   have hnl : (news.take (len * (E.cc (E.ti e).tag).sz)).length = min l'.length len := by
    rw [List.length_take, hce.1, hsz2, Nat.mul_one, Nat.mul_one, Nat.min_comm]
   have hok := hh.ok b _ hβ
   rw [hbb] at hok
   obtain ⟨k', c, te, hk, hg, hcs, hcell⟩ := hok
   simp only [Option.some.injEq] at hk
   subst hk
   have hfit : off + (news.take (len * (E.cc (E.ti e).tag).sz)).length ≤ c.size := by rw [hnl, hcs]; have := Nat.min_le_right l'.length len; omega
   have hst := run_storeCells_at P k off te (news.take (len * (E.cc (E.ti e).tag).sz)) 0 c w hg (by simpa using hfit) (hce.take hcod len).2.1
   have := hrun (w := w) (some ⟨k, off, none⟩) len cap q _ _ (hsr.len w) rfl hfn (fun h => by cases h) (fun a ha => by cases ha; exact hst)
   rw [Nat.add_zero] at this
   have hsl : seg'.length = len := by omega
   obtain ⟨hh1, tr1⟩ := hh.write b _ k hβ rfl (by rw [hbb]; rfl) (.var (cs.take off ++ (seg' ++ cs.drop (off + len)))) rfl (c.toList.take off ++ news.take (len * (E.cc (E.ti e).tag).sz) ++ c.toList.drop (off + (news.take (len * (E.cc (E.ti e).tag).sz)).length)).toArray (fun hkp hap => by
    refine ⟨k, _, te, rfl, setRow_heap w k c _ te _ hg, by rw [spliceV_size _ _ _ hfit, hcs]; simp; omega, fun j x v hx hv => ?_⟩
    have hto : (cs.take off).length = off := by simp; omega
    rw [spliceV _ _ _ hfit] at hv
    have old : ∀ {x : AV U} {v : Value}, cs[j]? = some x → c[j]? = some v → RepA E.cc (w.setRow k (c.toList.take off ++ news.take (len * (E.cc (E.ti e).tag).sz) ++ c.toList.drop (off + (news.take (len * (E.cc (E.ti e).tag).sz)).length)).toArray) (avOf X β (upd1 hp b (.var (cs.take off ++ (seg' ++ cs.drop (off + len)))))) β x v ∧ v.oneCell' = true := fun hx hv =>
     ⟨(hcell j _ _ hx hv).1.mono hkp hap (fun _ _ h => h), (hcell j _ _ hx hv).2⟩
    by_cases h1 : j < off
    ·rw [List.getElem?_append_left (by omega), List.getElem?_take, if_pos h1] at hx
     rw [if_neg (by omega)] at hv
     exact old hx hv
    ·rw [List.getElem?_append_right (by omega), hto] at hx
     by_cases h2 : j < off + len
     ·rw [List.getElem?_append_left (by omega)] at hx
      obtain ⟨z, rfl, hz⟩ := o2 (j - off) x hx
      rw [Nat.zero_add] at hz
      rcases hz with ⟨u, hu, hz⟩ | ⟨hge, hxs⟩
      ·have hlt := (List.getElem?_eq_some_iff.1 hu).1
       obtain ⟨v', hv', hr'⟩ := hce.2.2 (j - off) u 0 z hu hz
       rw [hsz2, Nat.mul_one, Nat.add_zero] at hv'
       rw [if_pos ⟨by omega, by rw [hnl]; have := Nat.le_min.2 ⟨hlt, (show j - off + 1 ≤ len by omega)⟩; omega⟩] at hv
       rw [List.getElem?_take, if_pos (by rw [hsz2]; omega), hv'] at hv
       cases hv
       exact ⟨.im (hr'.mono hkp hap), hce.2.1 _ (List.mem_of_getElem? hv')⟩
      ·rw [if_neg (by rw [hnl, Nat.min_eq_left (by omega)]; omega)] at hv
       have := c3 (j - off) _ hxs
       rw [show off + (j - off) = j by omega] at this
       exact old this hv
     ·rw [List.getElem?_append_right (by omega), List.getElem?_drop, hsl, show off + len + (j - off - len) = j by omega] at hx
      rw [if_neg (by rw [hnl]; have := Nat.min_le_right l'.length len; omega)] at hv
      exact old hx hv)
   exact ⟨_, _, _, this, hh1, .im (.int _ _), tr1, fun _ h _ => h⟩
 ·cases h

end Go.Proofs.Ytmlbioapefgioaa.Va

/- Slice literals; conversions; least and greatest. -/
namespace Go.Proofs.Ytmlbioapefgioaa.Va
open Go

variable {U : Nat → Type} {α : Type} {R : Type} {P : Program} {E : Env U} {X W0 : Nat → Prop} {β : Nat → Option BI} {hp : Nat → Blk U} {w : World}

theorem upds_app (hp : Nat → Blk U) (ws ws' : List (Nat × Blk U)) : upds hp (ws ++ ws') = upds (upds hp ws) ws' := by
 induction ws generalizing hp with
 | nil => rfl
 | cons p ws ih => obtain ⟨b, x⟩ := p; exact ih _

theorem alike_upds {st : Hp U} {b : Nat} : ∀ {ws : List (Nat × Blk U)} {hp : Nat → Blk U}, (∀ p ∈ ws, ∃ T l, p.2 = .row T l false ∧ ∃ lv, st.get p.1 = .row T l lv) → Alike st hp b → Alike st (upds hp ws) b := by
 intro ws
 induction ws with
 | nil => intro hp _ h; exact h
 | cons p ws ih =>
  intro hp hws h
  obtain ⟨b', x'⟩ := p
  obtain ⟨T, l, hx, lv, hst⟩ := hws (b', x') (by simp)
  simp only at hx hst
  subst hx
  exact ih (fun p hp' => hws p (by simp [hp'])) (h.freeze hst)

theorem lit_ok {st : Hp U} {sz : Nat} : ∀ {parts : List (Nat × AV U)} {n : Nat} {es : List (List (IV U))} {ws : List (Nat × Blk U)}, litParts E st sz n parts = some (es, ws) →
  parts.map (·.1) = List.range' n parts.length ∧ es.length = parts.length ∧ (∀ e ∈ es, e.length = sz) ∧ (∀ p ∈ ws, ∃ T l, p.2 = .row T l false ∧ ∃ lv, st.get p.1 = .row T l lv) ∧
  ∀ {X W0 : Nat → Prop} {β : Nat → Option BI} {w : World} {hp : Nat → Blk U} {vs : List Value}, HRel E.cc X W0 β hp w → (∀ p ∈ ws, Alike st hp p.1) → vs.length = parts.length →
   (∀ (j : Nat) (p : Nat × AV U) (v : Value), parts[j]? = some p → vs[j]? = some v → RepA E.cc w (avOf X β hp) β p.2 v) →
   HRel E.cc X W0 β (upds hp ws) w ∧ Tr X W0 β hp w β (upds hp ws) w ∧ (∀ v ∈ vs, v.cells.size = sz ∧ ∀ u ∈ v.cells.toList, u.oneCell' = true) ∧
    ∀ (i : Nat) (e : List (IV U)) (v : Value) (j : Nat) (y : IV U) (u : Value), es[i]? = some e → vs[i]? = some v → e[j]? = some y → v.cells[j]? = some u → Rep E.cc w (avOf X β (upds hp ws)) y u := by
 intro parts
 induction parts with
 | nil =>
  intro n es ws h
  simp only [litParts, Option.some.injEq, Prod.mk.injEq] at h
  obtain ⟨rfl, rfl⟩ := h
  refine ⟨rfl, rfl, by simp, by simp, fun hh _ hl _ => ⟨hh, Tr.refl, fun v hv => ?_, fun i e v j y u he => by simp at he⟩⟩
  rw [List.eq_nil_of_length_eq_zero hl] at hv
  cases hv
 | cons p parts ih =>
  intro n es ws h
  obtain ⟨i, x⟩ := p
  simp only [litParts] at h
  split at h
  case isFalse => cases h
  rename_i hin
  subst hin
  split at h
  case h_2 => cases h
  rename_i cs hcs
  split at h
  case isFalse => cases h
  rename_i hlen
  split at h
  case h_2 => cases h
  rename_i us ws1 es' ws2 hf hrest
  simp only [Option.some.injEq, Prod.mk.injEq] at h
  obtain ⟨rfl, rfl⟩ := h
  obtain ⟨i1, i2, i3, i4, i5⟩ := ih hrest
  have f1 := frz_ids hf
  have f2 := (frz_ok (X := fun _ => False) (W0 := fun _ => False) (β := fun _ => none) (w := default) hf).2.1
  refine ⟨by simp [i1, List.range'_succ], by simp [i2], ?_, ?_, ?_⟩
  ·intro e he
   rcases List.mem_cons.1 he with rfl | he
   ·rw [f1, hlen]
   ·exact i3 e he
  ·intro p hp'
   rcases List.mem_append.1 hp' with hp' | hp'
   ·exact f2 p hp'
   ·exact i4 p hp'
  ·intro X W0 β w hp vs hh hal hl hvs
   cases vs with
   | nil => simp at hl
   | cons v vs =>
    obtain ⟨hc1, hc2⟩ := cells_rep (hvs 0 _ v rfl rfl) hcs
    obtain ⟨_, _, g3⟩ := frz_ok (X := X) (W0 := W0) (β := β) (w := w) hf
    obtain ⟨hh1, tr1, hrep⟩ := g3 hh fun p hp' => hal p (List.mem_append_left _ hp')
    have hrep' := hrep v.cells.toList (by simp [hc1]) fun j x' v' hx' hv' => (hc2 j x' v' hx' (by simpa using hv')).1
    obtain ⟨hh2, tr2, hone, hr2⟩ := i5 hh1 (fun p hp' => alike_upds f2 (hal p (List.mem_append_right _ hp'))) (by simpa using hl) fun j p v' hp' hv' => tr1.rep (hvs (j + 1) p v' (by simpa using hp') (by simpa using hv'))
    rw [upds_app]
    refine ⟨hh2, tr1.trans tr2, ?_, ?_⟩
    ·intro v' hv'
     rcases List.mem_cons.1 hv' with rfl | hv'
     ·refine ⟨by rw [hc1, hlen], fun u hu => ?_⟩
      obtain ⟨j, hj, rfl⟩ := List.mem_iff_getElem.1 hu
      simp at hj
      exact (hc2 j (cs[j]'(by omega)) _ (by simp) (by simp)).2
     ·exact hone v' hv'
    ·intro i' e v' j y u he hv' hy hu
     cases i' with
     | zero =>
      simp at he hv'
      subst he hv'
      have := tr2.rep (.im (hrep' j y u hy (by simpa using hu)))
      cases this with | im h => exact h
     | succ i' => exact hr2 i' e v' j y u (by simpa using he) (by simpa using hv') hy hu

theorem decs_ok {T : Nat} {c : Cod U T} : ∀ {es : List (List (IV U))} {l : List (U T)}, decs c es = some l → l.length = es.length ∧ ∀ (i : Nat) (e : List (IV U)) (x : U T), es[i]? = some e → l[i]? = some x → c.dec e = some x := by
 intro es
 induction es with
 | nil => intro l h; simp only [decs, Option.some.injEq] at h; subst h; simp
 | cons e es ih =>
  intro l h
  simp only [decs] at h
  split at h
  ·rename_i y ys hy hys
   simp only [Option.some.injEq] at h
   subst h
   obtain ⟨h1, h2⟩ := ih hys
   refine ⟨by simp [h1], fun i e' x he hx => ?_⟩
   cases i with
   | zero => simp at he hx; subst he hx; exact hy
   | succ i => exact h2 i e' x (by simpa using he) (by simpa using hx)
  ·cases h

theorem flat_len {s : Nat} : ∀ (vs : List Value), (∀ v ∈ vs, v.cells.size = s) → (vs.flatMap fun v => v.cells.toList).length = vs.length * s
 | [], _ => by simp
 | v :: vs, h => by
  rw [List.flatMap_cons, List.length_append, flat_len vs fun u hu => h u (by simp [hu]), List.length_cons, Nat.add_mul, Nat.one_mul]
  have := h v (by simp)
  simp [this, Nat.add_comm]

theorem buildSliceA_ok (hE : EnvOK P E) {st : St U} {t : TypeId} {len : Nat} {parts : List (Nat × AV U)} {K : KO U R} {r : R} (h : buildSliceA E st t len parts K = some r) :
  Makes E st K r (parts.map (·.2)) (fun vs w => (Instr.buildSlice t len ((parts.map (·.1)).zip vs).toArray).run P w) := by
 unfold buildSliceA at h
 split at h
 case h_2 => cases h
 rename_i e hd
 obtain ⟨hu, hoe⟩ := hE.sliceE hd
 split at h
 case isFalse => cases h
 rename_i hc
 obtain ⟨hlen, htag, hbig⟩ := hc
 have ho := hoe htag
 obtain ⟨i, z, hi, hz, hs, hby, hsz, hcod, hleaf⟩ := hE.tag ho htag
 have hzs : z.cells.size = (E.ti e).size := by rw [(leavesB_rep hleaf).1, hcod.size, hsz]
 split at h
 case h_2 => cases h
 rename_i es ws hl
 split at h
 case h_2 => cases h
 rename_i l hdec
 obtain ⟨p1, p2, p3, p4, p5⟩ := lit_ok hl
 obtain ⟨d1, d2⟩ := decs_ok hdec
 have hln : l.length = len := by rw [d1, p2, hlen]
 refine ⟨_, _, _, h, ?_, @fun X W0 β hp w vs hh hlv hvs hag hnb => ?_⟩
 ·intro p hp'
  rcases List.mem_append.1 hp' with hp' | hp'
  ·exact .inl (List.mem_map_of_mem hp')
  ·simp only [List.mem_singleton] at hp'
   subst hp'
   exact .inr rfl
 have hlv' : vs.length = parts.length := by simpa using hlv
 have hnb' := hnb ⟨_, List.mem_append_right _ (List.mem_singleton.2 rfl), rfl⟩
 obtain ⟨hh1, tr1, hone, hrep⟩ := p5 hh (fun p hp' => by
   obtain ⟨T', l', _, lv, hst⟩ := p4 p hp'
   exact Alike.of_eq hst (hag p.1 (List.mem_map_of_mem hp'))) hlv' fun j p v hp' hv => hvs j p.2 v (by simp [hp']) hv
 have hpos : 0 < (E.ti e).size := by rw [← hsz]; exact hcod.pos
 -- the cells
 have hparts : (parts.map (·.1)).zip vs = (vs.zipIdx 0).map fun x => (x.2, x.1) := by
  rw [p1, ← hlv']
  apply List.ext_getElem?
  intro j
  by_cases hj : j < vs.length
  ·simp [hj]
  ·simp [hj]
 have hrun : (Instr.buildSlice t len ((parts.map (·.1)).zip vs).toArray).run P w = .ok (.slice (some ⟨w.heap.size, 0, none⟩) len len) (w.alloc (.cells (vs.flatMap fun v => v.cells.toList).toArray e)) := by
  by_cases h0 : len = 0
  ·subst h0
   have hv0 : vs = [] := List.eq_nil_of_length_eq_zero (by omega)
   subst hv0
   have hp0 : parts = [] := List.eq_nil_of_length_eq_zero (by omega)
   subst hp0
   simp [Instr.buildSlice, run_underlying hu, sizeOf, typeInfo, hi, Instr.fill, newRow, Array.range_zero']
  ·refine run_buildSlice w t e len _ _ i z hu hi hz (by rw [hs]; omega) (by rw [hs]; exact Nat.mul_ne_zero h0 (by omega)) ?_
   simp only [hparts]
   have hlv2 : vs.length = len := by omega
   have := Great.fill_whole (s := (E.ti e).size) hpos vs ((Array.range (len * i.size)).map (z.cells[· % z.cells.size]!)) (fun v hv => (hone v hv).1) (by simp [hs, hlv2])
   rw [← hs] at this
   exact this
 have hflat : ∀ q, (vs.flatMap fun v => v.cells.toList)[q]? = (vs[q / (E.ti e).size]?).bind (fun v => v.cells[q % (E.ti e).size]?) := Great.flat_get hpos vs fun v hv => (hone v hv).1
 have hflen : (vs.flatMap fun v => v.cells.toList).length = len * (E.ti e).size := by
  rw [flat_len vs fun v hv => (hone v hv).1, hlv', hlen]
 obtain ⟨hh2, tr2⟩ := hh1.alloc st.hp.length hnb' (.cells (vs.flatMap fun v => v.cells.toList).toArray e) len len (.row (E.ti e).tag l true) (fun hk ha hβ => by
  refine ⟨hcod, hln, by simp, fun k hk' => ?_⟩
  simp only [Option.some.injEq] at hk'
  subst hk'
  refine ⟨Nat.le_refl _, ?_, _, e, heap_alloc_new w _, by rw [List.size_toArray, hflen, hsz], fun i' x j y hx hy => ?_⟩
  ·simp only [maxLen]
   have := Nat.mul_le_mul_left len hpos
   omega
  ·have hi' : i' < l.length := (List.getElem?_eq_some_iff.1 hx).1
   have hie : i' < es.length := by omega
   have hiv : i' < vs.length := by omega
   have hdx := d2 i' es[i'] x (List.getElem?_eq_getElem hie) hx
   obtain ⟨q1, q2⟩ := hcod.dec _ _ hdx
   have hj : j < (E.ti e).size := by
    have := (List.getElem?_eq_some_iff.1 hy).1
    rw [hcod.size, hsz] at this
    exact this
   have hje : j < es[i'].length := by rw [q1, hsz]; exact hj
   obtain ⟨zz, hz1, hz2⟩ := q2 j es[i'][j] (List.getElem?_eq_getElem hje)
   rw [hy] at hz1
   cases hz1
   have hjc : j < vs[i'].cells.size := by rw [(hone vs[i'] (List.getElem_mem _)).1]; exact hj
   refine ⟨vs[i'].cells[j], ?_, ((hrep i' es[i'] vs[i'] j _ _ (List.getElem?_eq_getElem hie) (List.getElem?_eq_getElem hiv) (List.getElem?_eq_getElem hje) (Array.getElem?_eq_getElem hjc)).le hz2).mono hk ha⟩
   rw [List.getElem?_toArray, hflat, hsz]
   have e1 : (i' * (E.ti e).size + j) / (E.ti e).size = i' := by
    rw [Nat.add_comm, Nat.add_mul_div_right _ _ hpos, Nat.div_eq_of_lt hj, Nat.zero_add]
   have e2 : (i' * (E.ti e).size + j) % (E.ti e).size = j := by
    rw [Nat.add_comm, Nat.add_mul_mod_self_right, Nat.mod_eq_of_lt hj]
   rw [e1, e2, List.getElem?_eq_getElem hiv]
   simp [hjc])
 rw [← upds_append] at hh2 tr2
 refine ⟨_, _, _, hrun, hh2, .own (by simp [updβ]), tr1.trans tr2, fun q hq hp' => ?_⟩
 have : q ≠ st.hp.length := fun e => hp' _ (List.mem_append_right _ (List.mem_singleton.2 rfl)) e.symm
 simp [updβ, this, hq]

end Go.Proofs.Ytmlbioapefgioaa.Va

/- Conversions; least and greatest. -/
namespace Go.Proofs.Ytmlbioapefgioaa.Va
open Go

variable {U : Nat → Type} {α : Type} {R : Type} {P : Program} {E : Env U} {X W0 : Nat → Prop} {β : Nat → Option BI} {hp : Nat → Blk U} {w : World}

theorem EnvOK.und (hE : EnvOK P E) {t : TypeId} (ho : (E.ti t).d.isOther = false) : ∃ d, P.underlying t = some d := by
 have h1 := hE.desc ho
 cases hd : (E.ti t).d <;> simp only [hd, descB, TD.isOther] at h1 ho
 all_goals (first | (exact absurd ho (by decide)) | (split at h1 <;> first | exact ⟨_, by assumption⟩ | (cases h1)))

theorem src_value {h : Hp U} {av : Nat → Prop} {t e : TypeId} {x : AV U} {v : Value} {q : Els U} (hd : (E.ti t).d = .slice e) (hs : srcOK E t x = true) (he : elemsA E h x = some q) (hr : RepA E.cc w av β x v) :
  ∃ base len cap, v = .slice base len cap := by
 cases hr with
 | im hr =>
  cases hr with
  | slice0 => exact ⟨_, _, _, rfl⟩
  | slice => exact ⟨_, _, _, rfl⟩
  | str => simp [srcOK, hd] at hs
  | _ => simp [elemsA] at he
 | own0 => exact ⟨_, _, _, rfl⟩
 | nn => exact ⟨_, _, _, rfl⟩
 | ns => exact ⟨_, _, _, rfl⟩
 | own => exact ⟨_, _, _, rfl⟩
 | sub0 => exact ⟨_, _, _, rfl⟩
 | sub => exact ⟨_, _, _, rfl⟩
 | _ => simp [elemsA] at he

theorem convertA_ok (hE : EnvOK P E) {st : St U} {src dst : TypeId} {x : AV U} {K : KO U R} {r : R} (h : convertA E st src dst x K = some r) :
  Makes E st K r [x] (fun vs w => (convert src dst (vs.getD 0 undef)).run P w) := by
 unfold convertA at h
 split at h
 ·cases h
 rename_i hos
 have ho : (E.ti src).d.isOther = false := by simpa using hos
 have one : ∀ {vs : List Value}, vs.length = [x].length → ∃ a, vs = [a] := fun h => List.length_eq_one_iff.1 h
 obtain ⟨ds, hus⟩ := hE.und ho
 split at h
 ·rename_i k k' n hd
  have hud := hE.intE hd
  refine ⟨_, _, _, h, by simp, @fun X W0 β hp w vs hh hl hvs _ _ => ?_⟩
  obtain ⟨a, rfl⟩ := one hl
  obtain rfl := rep_int (hvs 0 _ a rfl rfl)
  refine Eff.same hh (vv := .int k (k.wrap n)) ?_ (.im (.int _ _))
  cases ds <;> simp [convert, run_underlying hus, run_underlying hud, Conv.intToInt]
 ·rename_i k k' n hd
  have hud := hE.fltE hd
  refine ⟨_, _, _, h, by simp, @fun X W0 β hp w vs hh hl hvs _ _ => ?_⟩
  obtain ⟨a, rfl⟩ := one hl
  obtain rfl := rep_int (hvs 0 _ a rfl rfl)
  refine Eff.same hh (vv := .float k (k.nearest n)) ?_ (.im (.flt _ _))
  cases ds <;> simp [convert, run_underlying hus, run_underlying hud, Conv.intToFloat]
 ·rename_i s hd
  have hud := hE.strE hd
  refine ⟨_, _, _, h, by simp, @fun X W0 β hp w vs hh hl hvs _ _ => ?_⟩
  obtain ⟨a, rfl⟩ := one hl
  obtain rfl := rep_str (hvs 0 _ a rfl rfl)
  refine Eff.same hh (vv := .string s) ?_ (.im (.str _))
  cases ds <;> simp [convert, run_underlying hus, run_underlying hud]
 ·rename_i e s hds hdd
  obtain ⟨hud, hoe⟩ := hE.sliceE hdd
  split at h
  case h_2 => cases h
  rename_i hde
  have hue := hE.intE hde
  refine ⟨_, _, _, h, by simp, @fun X W0 β hp w vs hh hl hvs _ _ => ?_⟩
  obtain ⟨a, rfl⟩ := one hl
  obtain rfl := rep_str (hvs 0 _ a rfl rfl)
  have hrun := Lib.run_convert_string_bytes w src dst e s hus hud hue
  obtain ⟨hh1, tr1⟩ := hh.world (w' := Lib.bytesWorld w e s) rfl rfl rfl (by rw [Lib.bytesWorld_size]; omega) (fun k hk => Lib.bytesWorld_at_old w e s k hk)
  refine ⟨_, _, _, hrun, hh1, .im ?_, tr1, fun _ h _ => h⟩
  obtain ⟨h1, h2⟩ := hE.toB (b2l s)
  have hbl : (b2l s).length = s.size := by simp [b2l]
  have hav : ¬ avOf X β hp w.heap.size := by
   rintro (hX | ⟨b, bi, hb, hbk, hlv⟩)
   ·exact (hh.new w.heap.size (Nat.le_refl _)).2 hX
   ·have hd : (hp b).isDead = false := by cases hq : hp b <;> simp_all [Blk.isLive, Blk.isDead]
    have := (hh.dom b bi _ hb hbk hd).2.2
    omega
  have key := Rep.slice (cc := E.cc) (w := Lib.bytesWorld w e s) (av := avOf X β hp) E.bt (E.toB (b2l s)) w.heap.size 0 (grownCap w s.size 0 e) (fun i => .int .u8 (s.data.toList.getD i 0).toNat) (by rw [hE.btsz]; omega) hav
   (by rw [h1, hbl]; exact grownCap_ge w s.size 0 e)
   (fun i hi => by
    rw [hE.btsz, Nat.mul_one, h1, hbl] at hi
    rw [Nat.zero_add]
    exact Lib.bytesWorld_cell w e s i hi)
   (fun i x j y hx hy => by
    have hi : i < (b2l s).length := by rw [← h1]; exact (List.getElem?_eq_some_iff.1 hx).1
    obtain ⟨x', e1, e2⟩ := h2 i _ (List.getElem?_eq_getElem hi)
    rw [hx] at e1
    cases e1
    rw [e2] at hy
    have hj : j = 0 := by
     have := (List.getElem?_eq_some_iff.1 hy).1
     simpa using this
    subst hj
    simp at hy
    subst hy
    rw [hE.btsz, Nat.mul_one, Nat.add_zero]
    have : (b2l s)[i] = ((s.data.toList.getD i 0).toNat : Int) := by
     have hi' : i < s.data.toList.length := by simpa [b2l] using hi
     simp only [b2l, List.getElem_map, List.getD, List.getElem?_eq_getElem hi', Option.getD_some]
    rw [this]
    exact .int _ _)
  rw [h1, hbl] at key
  exact key
 ·rename_i e hds hdd _
  have hud := hE.strE hdd
  have hu := (hE.sliceE hds).1
  rw [hu] at hus
  cases hus
  split at h
  case h_2 => cases h
  rename_i hde
  have hue := hE.intE hde
  split at h
  ·refine ⟨_, _, _, h, by simp, @fun X W0 β hp w vs hh hl hvs _ _ => ?_⟩
   obtain ⟨a, rfl⟩ := one hl
   obtain rfl := rep_nils (hvs 0 _ a rfl rfl)
   refine Eff.same hh (vv := .string .empty) ?_ (.im (.str _))
   have := run_convert_bytes_string w src dst e none 0 0 hu hue hud
   simp only [List.getD_cons_zero]
   rw [this]
   simp [Conv.bytesToString]
  ·split at h
   case h_2 => cases h
   rename_i T l rd hel
   split at h
   case isFalse => cases h
   rename_i hsrc
   split at h
   case isFalse => cases h
   rename_i hT
   subst hT
   refine ⟨_, _, _, h, by simp, @fun X W0 β hp w vs hh hl hvs hag _ => ?_⟩
   obtain ⟨a, rfl⟩ := one hl
   have ha := hvs 0 _ a rfl rfl
   obtain ⟨news, hsr, hce, hfirst⟩ := elems_ok (P := P) hE hsrc hel (by rw [hE.btsz]; omega) hh ha hag
   have hf := hfirst l.length (Nat.le_refl _)
   rw [hE.btsz, Nat.mul_one] at hf
   have hnl : news.length = l.length := by rw [hce.1, hE.btsz, Nat.mul_one]
   rw [← hnl, List.take_length] at hf
   obtain ⟨o1, o2⟩ := hE.ofB l
   have hnews : news = (E.ofB l).map (Value.int .u8) := by
    apply List.ext_getElem (by simp [o1, hnl])
    intro q h1 h2
    have hq : q < l.length := by omega
    obtain ⟨n, e1, e2⟩ := o2 q _ (List.getElem?_eq_getElem hq)
    obtain ⟨v, hv, hr⟩ := hce.2.2 q l[q] 0 (.int .u8 n) (List.getElem?_eq_getElem hq) (by rw [e2]; rfl)
    rw [hE.btsz, Nat.mul_one, Nat.add_zero, List.getElem?_eq_getElem h1] at hv
    cases hv
    have h3 := rep_int (β := β) (.im hr)
    have h4 := (List.getElem?_eq_some_iff.1 e1).2
    simp only [List.getElem_map, h4]
    exact h3
   have hkind := src_value hds hsrc hel ha
   obtain ⟨base, len, cap, rfl⟩ := hkind
   have hlen := hsr.len w
   simp [Builtin.lenOf] at hlen
   subst hlen
   have hfold : ∀ (ns : List Int) (s : ByteArray), ns.foldl (fun r n => r.push (UInt8.ofNat n.toNat)) s = ⟨s.data ++ (ns.map fun n => UInt8.ofNat n.toNat).toArray⟩ := by
    intro ns
    induction ns with
    | nil => intro s; simp
    | cons n ns ih =>
     intro s
     rw [List.foldl_cons, ih]
     congr 1
     apply Array.ext'
     simp [ByteArray.push]
   refine Eff.same hh (vv := .string (l2b (E.ofB l))) ?_ (.im (.str _))
   simp only [List.getD_cons_zero]
   rw [run_convert_bytes_string w src dst e base l.length cap hu hue hud]
   cases base with
   | none =>
    have : news = [] := by
     simp [Builtin.firstCells] at hf
     exact hf
    have h0 : l.length = 0 := by rw [← hnl, this]; rfl
    have h1 : E.ofB l = [] := List.eq_nil_of_length_eq_zero (by rw [o1, h0])
    rw [h1]
    simp [Conv.bytesToString, l2b]
    rfl
   | some ad =>
    have hload : (loadCells ad l.length).run P w = .ok ((E.ofB l).map (Value.int .u8)).toArray w := by
     rw [← hnews]
     simpa [Builtin.firstCells, hnl] using hf
    rw [run_bytesToString w ad l.length cap _ hload, hfold]
    congr 2
    simp [l2b, ByteArray.empty, ByteArray.emptyWithCapacity]
    rfl
 ·cases h

theorem minA_ok {x y : AV U} {K : AV U → Option R} {r : R} (h : minA x y K = some r) :
  ∃ v, K v = some r ∧ ∀ {w : World} {av : Nat → Prop} {β : Nat → Option BI} {vx vy : Value} (ts : Array TypeId) (ty : TypeId), RepA E.cc w av β x vx → RepA E.cc w av β y vy →
   ∃ vv, (Builtin.min_ ts ty #[vx, vy]).run P w = .ok vv w ∧ RepA E.cc w av β v vv := by
 unfold minA at h
 split at h
 ·refine ⟨_, h, fun ts ty hx hy => ?_⟩
  obtain rfl := rep_int hx
  obtain rfl := rep_int hy
  exact ⟨_, by simp [Builtin.min_, Builtin.min2], .im (.int _ _)⟩
 ·cases h
theorem maxA_ok {x y : AV U} {K : AV U → Option R} {r : R} (h : maxA x y K = some r) :
  ∃ v, K v = some r ∧ ∀ {w : World} {av : Nat → Prop} {β : Nat → Option BI} {vx vy : Value} (ts : Array TypeId) (ty : TypeId), RepA E.cc w av β x vx → RepA E.cc w av β y vy →
   ∃ vv, (Builtin.max_ ts ty #[vx, vy]).run P w = .ok vv w ∧ RepA E.cc w av β v vv := by
 unfold maxA at h
 split at h
 ·refine ⟨_, h, fun ts ty hx hy => ?_⟩
  obtain rfl := rep_int hx
  obtain rfl := rep_int hy
  exact ⟨_, by simp [Builtin.max_, Builtin.max2], .im (.int _ _)⟩
 ·cases h

end Go.Proofs.Ytmlbioapefgioaa.Va

/- Contracts, and a call by one. -/
namespace Go.Proofs.Ytmlbioapefgioaa.Va
open Go

variable {U : Nat → Type} {α : Type} {R : Type} {P : Program} {E : Env U} {X W0 : Nat → Prop} {β : Nat → Option BI} {hp : Nat → Blk U} {w : World}

def SoundF (P : Program) (cc : (T : Nat) → Cod U T) (f : FuncId) (A : AFun U) : Prop :=
 ∀ (R : Type) (args : List (AV U)) (h : Hp U) (K : AV U → Hp U → Option R) (r : R), A R args h K = some r →
  ∃ res h', K res h' = some r ∧ h.length ≤ h'.length ∧ ∀ (X W0 : Nat → Prop) (β : Nat → Option BI) (w : World) (vals : Array Value), HRel cc X W0 β h.get w → (∀ b, h.length ≤ b → β b = none) →
   vals.size = args.length → (∀ (j : Nat) (x : AV U) (v : Value), args[j]? = some x → vals[j]? = some v → RepA cc w (avOf X β h.get) β x v) →
   Calls P f vals w fun e w' => ∃ vv β', e = .returned vv ∧ HRel cc X W0 β' h'.get w' ∧ (∀ b, h'.length ≤ b → β' b = none) ∧ RepA cc w' (avOf X β' h'.get) β' res vv ∧ Tr X W0 β h.get w β' h'.get w'

theorem renL_get (f : Nat → Nat) : ∀ (xs : List (AV U)) (j : Nat), (AV.renL f xs)[j]? = (xs[j]?).map (AV.ren f)
 | [], j => by simp [AV.renL]
 | x :: xs, 0 => by simp [AV.renL]
 | x :: xs, j + 1 => by simp [AV.renL, renL_get f xs j]
theorem renL_length (f : Nat → Nat) : ∀ (xs : List (AV U)), (AV.renL f xs).length = xs.length
 | [] => rfl
 | x :: xs => by simp [AV.renL, renL_length f xs]
theorem refsL_mem {xs : List (AV U)} {x : AV U} (h : x ∈ xs) {b : Nat} (hb : b ∈ x.refs) : b ∈ AV.refsL xs := by
 induction xs with
 | nil => cases h
 | cons y ys ih =>
  rw [AV.refsL, List.mem_append]
  rcases List.mem_cons.1 h with rfl | h
  ·exact .inl hb
  ·exact .inr (ih h)

theorem RepA.ren {cc : (T : Nat) → Cod U T} {av av' : Nat → Prop} {β' : Nat → Option BI} {f : Nat → Nat} {w : World} {x : AV U} {v : Value} (h : RepA cc w av β x v) (ha : ∀ k, ¬ av k → k < w.heap.size → ¬ av' k)
  (hf : ∀ b ∈ x.refs, ∀ bi, β b = some bi → β' (f b) = some bi) : RepA cc w av' β' (x.ren f) v := by
 induction h with
 | im h => rw [AV.ren]; exact .im (h.mono (fun _ _ _ _ h => h) ha)
 | nn h => rw [AV.ren]; exact .nn (h.mono (fun _ _ _ _ h => h) ha)
 | ns => rw [AV.ren]; exact .ns
 | mp h => rw [AV.ren]; exact .mp (hf _ (by simp [AV.refs]) _ h)
 | gh => rw [AV.ren]; exact .gh
 | yl => rw [AV.ren]; exact .yl
 | own0 h => rw [AV.ren]; exact .own0 (hf _ (by simp [AV.refs]) _ h)
 | own h => rw [AV.ren]; exact .own (hf _ (by simp [AV.refs]) _ h)
 | sub0 => rw [AV.ren]; exact .sub0
 | sub h hl hc => rw [AV.ren]; exact .sub (hf _ (by simp [AV.refs]) _ h) hl hc
 | vsl0 => rw [AV.ren]; exact .vsl0
 | vsl h hc => rw [AV.ren]; exact .vsl (hf _ (by simp [AV.refs]) _ h) hc
 | ptr h => rw [AV.ren]; exact .ptr (hf _ (by simp [AV.refs]) _ h)
 | rptr h => rw [AV.ren]; exact .rptr (hf _ (by simp [AV.refs]) _ h)
 | @iptr cs u k o g hp' hav hcell hrep =>
  rw [AV.ren]
  have hlt : k < w.heap.size := World.block_lt_of_cell? w _ (hcell 0 hp')
  exact .iptr g hp' (ha k hav hlt) hcell fun j y hy => (hrep j y hy).mono (fun _ _ _ _ h => h) ha
 | agg hl h ih =>
  rw [AV.ren]
  refine .agg (by rw [renL_length]; exact hl) fun j x v hx hv => ?_
  rw [renL_get, Option.map_eq_some_iff] at hx
  obtain ⟨y, hy, rfl⟩ := hx
  exact ih j y v hy hv fun b hb => hf b (by rw [AV.refs]; exact refsL_mem (List.mem_of_getElem? hy) hb)
 | tup hl h ih =>
  rw [AV.ren]
  refine .tup (by rw [renL_length]; exact hl) fun j x v hx hv => ?_
  rw [renL_get, Option.map_eq_some_iff] at hx
  obtain ⟨y, hy, rfl⟩ := hx
  exact ih j y v hy hv fun b hb => hf b (by rw [AV.refs]; exact refsL_mem (List.mem_of_getElem? hy) hb)
 | clo hl h ih =>
  rw [AV.ren]
  refine .clo (by rw [renL_length]; exact hl) fun j x v hx hv => ?_
  rw [renL_get, Option.map_eq_some_iff] at hx
  obtain ⟨y, hy, rfl⟩ := hx
  exact ih j y v hy hv fun b hb => hf b (by rw [AV.refs]; exact refsL_mem (List.mem_of_getElem? hy) hb)
 | und => rw [AV.ren]; exact .und
 | bot => rw [AV.ren]; exact .bot

theorem BlkOK.ren {cc : (T : Nat) → Cod U T} {av av' : Nat → Prop} {β' : Nat → Option BI} {f : Nat → Nat} {bi : BI} {w : World} {x : Blk U} (h : BlkOK cc w av β bi x) (ha : ∀ k, ¬ av k → k < w.heap.size → ¬ av' k)
  (hf : ∀ b ∈ x.refs, ∀ bi, β b = some bi → β' (f b) = some bi) : BlkOK cc w av' β' bi (x.ren f) := by
 cases x with
 | dead => trivial
 | var cs =>
  obtain ⟨k, c, t, hk', hh, hs, hc⟩ := h
  refine ⟨k, c, t, hk', hh, by rw [renL_length]; exact hs, fun j x v hx hv => ?_⟩
  rw [renL_get, Option.map_eq_some_iff] at hx
  obtain ⟨y, hy, rfl⟩ := hx
  obtain ⟨h1, h2⟩ := hc j y v hy hv
  exact ⟨h1.ren ha fun b hb => hf b (refsL_mem (List.mem_of_getElem? hy) hb), h2⟩
 | row T l live =>
  obtain ⟨hcod, hn, hnone, hsome⟩ := h
  refine ⟨hcod, hn, hnone, fun k hk' => ?_⟩
  obtain ⟨h1, h2, c, t, hh, hs, hc⟩ := hsome k hk'
  exact ⟨h1, h2, c, t, hh, hs, fun i x j y hx hy => let ⟨v, hv, hr⟩ := hc i x j y hx hy; ⟨v, hv, hr.mono (fun _ _ _ _ h => h) ha⟩⟩
 | map l => exact h

theorem ren_live (f : Nat → Nat) (x : Blk U) : (x.ren f).isLive = x.isLive := by cases x <;> rfl
theorem ren_dead (f : Nat → Nat) (x : Blk U) : (x.ren f).isDead = x.isDead := by cases x <;> rfl

theorem contains_mem {bs : List Nat} {b : Nat} (h : bs.contains b = true) : b ∈ bs := List.contains_iff_mem.1 h
theorem nodupB_inj : ∀ {bs : List Nat}, nodupB bs = true → ∀ (i j b : Nat), bs[i]? = some b → bs[j]? = some b → i = j
 | [], _, i, j, b, h, _ => by simp at h
 | x :: xs, hn, i, j, b, hi, hj => by
  simp only [nodupB, Bool.and_eq_true, Bool.not_eq_true'] at hn
  have hx : x ∉ xs := fun hm => by
   have := List.contains_iff_mem.2 hm
   rw [hn.1] at this
   cases this
  cases i with
  | zero =>
   cases j with
   | zero => rfl
   | succ j =>
    simp at hi hj
    subst hi
    exact absurd (List.mem_of_getElem? hj) hx
  | succ i =>
   cases j with
   | zero =>
    simp at hi hj
    subst hj
    exact absurd (List.mem_of_getElem? hi) hx
   | succ j =>
    rw [nodupB_inj hn.2 i j b (by simpa using hi) (by simpa using hj)]

theorem idxOf_get {bs : List Nat} {b : Nat} (h : b ∈ bs) : bs[bs.idxOf b]? = some b := by
 rw [List.getElem?_eq_getElem (List.idxOf_lt_length_of_mem h)]
 simp

def subβ (β : Nat → Option BI) (bs : List Nat) (i : Nat) : Option BI := (bs[i]?).bind β

theorem subβ_idx {bs : List Nat} {b : Nat} (h : b ∈ bs) : subβ β bs (bs.idxOf b) = β b := by
 simp [subβ, idxOf_get h]

theorem sub_get (h : Hp U) (bs : List Nat) (f : Nat → Nat) (i : Nat) : Hp.get (bs.map fun b => (h.get b).ren f) i = match bs[i]? with | some b => (h.get b).ren f | none => .dead := by
 simp only [Hp.get, List.getD, List.getElem?_map]
 cases bs[i]? <;> rfl

theorem HRel.part (hh : HRel E.cc X W0 β hp w) (st : Hp U) (bs : List Nat) (roots : List Nat) (hc : closedB st roots bs = true) (hag : ∀ b ∈ bs, hp b = st.get b) (Xc Wc : Nat → Prop)
  (hX : ∀ k, Xc k → avOf X β hp k) (hXp : ∀ b ∈ bs, ∀ bi k, β b = some bi → bi.k = some k → (hp b).isDead = false → ¬ Xc k ∧ Wc k) (hnew : ∀ k, w.heap.size ≤ k → Wc k) :
  HRel E.cc Xc Wc (subβ β bs) (Hp.get (bs.map fun b => (st.get b).ren (bs.idxOf ·))) w ∧
   ∀ k, avOf Xc (subβ β bs) (Hp.get (bs.map fun b => (st.get b).ren (bs.idxOf ·))) k → avOf X β hp k := by
 simp only [closedB, Bool.and_eq_true, List.all_eq_true] at hc
 obtain ⟨⟨⟨hroots, hcl⟩, hnd⟩, hlt⟩ := hc
 have hav : ∀ k, avOf Xc (subβ β bs) (Hp.get (bs.map fun b => (st.get b).ren (bs.idxOf ·))) k → avOf X β hp k := by
  rintro k (h | ⟨i, bi, hb, hk, hl⟩)
  ·exact hX k h
  ·rw [sub_get] at hl
   simp only [subβ] at hb
   cases hbi : bs[i]? with
   | none => simp [hbi] at hb
   | some b =>
    simp only [hbi, Option.bind_some] at hb
    simp only [hbi, ren_live] at hl
    exact .inr ⟨b, bi, hb, hk, by rw [hag b (List.mem_of_getElem? hbi)]; exact hl⟩
 have hav' : ∀ k, ¬ avOf X β hp k → k < w.heap.size → ¬ avOf Xc (subβ β bs) (Hp.get (bs.map fun b => (st.get b).ren (bs.idxOf ·))) k := fun k h _ h' => h (hav k h')
 refine ⟨⟨?_, ?_, ?_, ?_⟩, hav⟩
 ·intro i bi hb
  simp only [subβ] at hb
  cases hbi : bs[i]? with
  | none => simp [hbi] at hb
  | some b =>
   simp only [hbi, Option.bind_some] at hb
   rw [sub_get]
   simp only [hbi]
   have hmem := List.mem_of_getElem? hbi
   have hok := hh.ok b bi hb
   rw [hag b hmem] at hok
   exact hok.ren hav' fun c hc' bi' hc'' => by
    rw [subβ_idx (contains_mem (hcl b hmem c hc'))]
    exact hc''
 ·intro i bi k hb hk hd
  simp only [subβ] at hb
  cases hbi : bs[i]? with
  | none => simp [hbi] at hb
  | some b =>
   simp only [hbi, Option.bind_some] at hb
   rw [sub_get] at hd
   simp only [hbi, ren_dead] at hd
   have hmem := List.mem_of_getElem? hbi
   rw [← hag b hmem] at hd
   obtain ⟨h1, h2⟩ := hXp b hmem bi k hb hk hd
   exact ⟨h2, h1, (hh.dom b bi k hb hk hd).2.2⟩
 ·intro k hk
  refine ⟨hnew k hk, fun h => ?_⟩
  rcases hX k h with h | ⟨b, bi, hb, hbk, hl⟩
  ·exact (hh.new k hk).2 h
  ·have hd : (hp b).isDead = false := by cases hq : hp b <;> simp_all [Blk.isLive, Blk.isDead]
   have := (hh.dom b bi k hb hbk hd).2.2
   omega
 ·intro i i' bi bi' k hb hb' hk hk' hd hd'
  simp only [subβ] at hb hb'
  cases hbi : bs[i]? with
  | none => simp [hbi] at hb
  | some b =>
   cases hbi' : bs[i']? with
   | none => simp [hbi'] at hb'
   | some b' =>
    simp only [hbi, hbi', Option.bind_some] at hb hb'
    rw [sub_get] at hd hd'
    simp only [hbi, hbi', ren_dead] at hd hd'
    have hmem := List.mem_of_getElem? hbi
    have hmem' := List.mem_of_getElem? hbi'
    rw [← hag b hmem] at hd
    rw [← hag b' hmem'] at hd'
    have := hh.inj b b' bi bi' k hb hb' hk hk' hd hd'
    subst this
    exact nodupB_inj hnd i i' b hbi hbi'

end Go.Proofs.Ytmlbioapefgioaa.Va

/- What comes back of a call. -/
namespace Go.Proofs.Ytmlbioapefgioaa.Va
open Go

variable {U : Nat → Type} {α : Type} {R : Type} {P : Program} {E : Env U} {X W0 : Nat → Prop} {β : Nat → Option BI} {hp : Nat → Blk U} {w : World}

theorem BlkOK.free {cc : (T : Nat) → Cod U T} {av av' : Nat → Prop} {bi : BI} {w : World} {x : Blk U} (h : BlkOK cc w av β bi x) (hx : x.imRef cc = false) : BlkOK cc w av' β bi x := by
 cases x with
 | dead => trivial
 | var cs =>
  obtain ⟨k, c, t, hk', hh, hs, hc⟩ := h
  exact ⟨k, c, t, hk', hh, hs, fun j x v hx' hv => ⟨(hc j x v hx' hv).1.free (fun _ _ h => h) (imRefL_mem hx x (List.mem_of_getElem? hx')), (hc j x v hx' hv).2⟩⟩
 | row T l live =>
  obtain ⟨hcod, hn, hnone, hsome⟩ := h
  simp only [Blk.imRef, Bool.not_eq_false'] at hx
  refine ⟨hcod, hn, hnone, fun k hk' => ?_⟩
  obtain ⟨h1, h2, c, t, hh, hs, hc⟩ := hsome k hk'
  exact ⟨h1, h2, c, t, hh, hs, fun i x j y hxi hy => let ⟨v, hv, hr⟩ := hc i x j y hxi hy; ⟨v, hv, hr.free (hcod.flat hx x y (List.mem_of_getElem? hy))⟩⟩
 | map l => exact h

theorem BlkOK.of_dead {cc : (T : Nat) → Cod U T} {av : Nat → Prop} {bi : BI} {w : World} {x : Blk U} (h : x.isDead = true) : BlkOK cc w av β bi x := by
 cases x <;> first | trivial | (cases h)
theorem live_dead {x : Blk U} (h : x.isLive = true) : x.isDead = false := by
 cases x <;> first | rfl | (cases h)

theorem numbered_get {f : Nat → Nat} : ∀ {hl : Hp U} {i0 : Nat} {hp : Nat → Blk U}, (∀ i j, i < hl.length → j < hl.length → f (i0 + i) = f (i0 + j) → i = j) → ∀ i, i < hl.length → upds hp (numbered f i0 hl) (f (i0 + i)) = (hl.get i).ren f
 | [], i0, hp, _, i, h => by simp at h
 | x :: hl, i0, hp, hinj, i, h => by
  have hrec := numbered_get (f := f) (hl := hl) (i0 := i0 + 1) (hp := upd1 hp (f i0) (x.ren f)) (fun a b ha hb e => by
   have := hinj (a + 1) (b + 1) (by simp; omega) (by simp; omega) (by rw [show i0 + (a + 1) = i0 + 1 + a by omega, show i0 + (b + 1) = i0 + 1 + b by omega]; exact e)
   omega)
  cases i with
  | zero =>
   simp only [numbered, upds, Nat.add_zero]
   rw [upds_ne, upd1_same]
   ·rfl
   ·intro p hp'
    -- no later one has this number
    have : ∀ (hl' : Hp U) (j0 : Nat), (∀ q, q < hl'.length → f (j0 + q) ≠ f i0) → ∀ p ∈ numbered f j0 hl', p.1 ≠ f i0 := by
     intro hl'
     induction hl' with
     | nil => intro j0 _ p hp; cases hp
     | cons y ys ih =>
      intro j0 hq p hp
      rcases List.mem_cons.1 hp with rfl | hp
      ·exact hq 0 (by simp)
      ·exact ih (j0 + 1) (fun q hq' => by rw [show j0 + 1 + q = j0 + (q + 1) by omega]; exact hq (q + 1) (by simp; omega)) p hp
    exact this hl (i0 + 1) (fun q hq e => by
     have := hinj (q + 1) 0 (by simp; omega) (by simp) (by rw [show i0 + (q + 1) = i0 + 1 + q by omega]; exact e)
     omega) p hp'
  | succ i =>
   have := hrec i (by simpa using h)
   rw [show i0 + (i + 1) = i0 + 1 + i by omega]
   simp only [numbered, upds]
   rw [this]
   rfl

theorem numbered_keys {f : Nat → Nat} : ∀ {hl : Hp U} {i0 : Nat}, ∀ p ∈ numbered f i0 hl, ∃ i, i < hl.length ∧ p.1 = f (i0 + i)
 | [], i0, p, h => by cases h
 | x :: hl, i0, p, h => by
  rcases List.mem_cons.1 h with rfl | h
  ·exact ⟨0, by simp, rfl⟩
  ·obtain ⟨i, hi, e⟩ := numbered_keys p h
   exact ⟨i + 1, by simp; omega, by rw [e]; congr 1; omega⟩

theorem HRel.back {cc : (T : Nat) → Cod U T} (hh : HRel cc X W0 β hp w) (st : Hp U) (bs lent : List Nat) (roots : List Nat) (hc : closedB st roots bs = true) (hag : ∀ b ∈ bs, hp b = st.get b)
  (hlent : ∀ b ∈ lent, b ∉ bs ∧ b < st.length ∧ ∃ T l lv, st.get b = .row T l lv ∧ hp b = .row T l lv)
  (Xc Wc : Nat → Prop) (hXc : ∀ k, Xc k ↔ avOf X β hp k ∧ (¬ ∃ b ∈ bs, ∃ bi, β b = some bi ∧ bi.k = some k ∧ (hp b).isDead = false) ∧ ¬ ∃ b ∈ lent, ∃ bi, β b = some bi ∧ bi.k = some k)
  (hWc : ∀ k, Wc k ↔ (∃ b ∈ bs, ∃ bi, β b = some bi ∧ bi.k = some k ∧ (hp b).isDead = false) ∨ w.heap.size ≤ k)
  (hac : ∀ k, avOf Xc (subβ β bs) (Hp.get (bs.map fun b => (st.get b).ren (bs.idxOf ·))) k → avOf X β hp k)
  {w' : World} {hl : Hp U} {βc : Nat → Option BI} (hm : bs.length ≤ hl.length) (hr : HRel cc Xc Wc βc hl.get w') (hfr : ∀ i, hl.length ≤ i → βc i = none)
  (tr : Tr Xc Wc (subβ β bs) (Hp.get (bs.map fun b => (st.get b).ren (bs.idxOf ·))) w βc hl.get w') (res : AV U) (vv : Value) (hres : RepA cc w' (avOf Xc βc hl.get) βc res vv)
  (hnew : ∀ i, bs.length ≤ i → i < hl.length → β (st.length + (i - bs.length)) = none)
  (ws : List (Nat × Blk U)) (hws : ws = numbered (backNum bs st.length) 0 hl ++ (if res.imRef || hl.any (Blk.imRef cc) then lent.map (frozenBlk st) else [])) :
  ∃ β', HRel cc X W0 β' (upds hp ws) w' ∧ RepA cc w' (avOf X β' (upds hp ws)) β' (res.ren (backNum bs st.length)) vv ∧ Tr X W0 β hp w β' (upds hp ws) w' ∧
   (∀ b, β b = none → (∀ p ∈ ws, p.1 ≠ b) → β' b = none) := by
 simp only [closedB, Bool.and_eq_true, List.all_eq_true, decide_eq_true_eq] at hc
 obtain ⟨⟨⟨hroots, hcl⟩, hnd⟩, hlt⟩ := hc
 -- numbers back
 have bk1 : ∀ i b, bs[i]? = some b → backNum bs st.length i = b := fun i b h => by simp [backNum, h]
 have bk2 : ∀ i, bs.length ≤ i → backNum bs st.length i = st.length + (i - bs.length) := fun i h => by simp [backNum, List.getElem?_eq_none h]
 have bkinj : ∀ i j, i < hl.length → j < hl.length → backNum bs st.length (0 + i) = backNum bs st.length (0 + j) → i = j := by
  intro i j hi hj e
  rw [Nat.zero_add, Nat.zero_add] at e
  by_cases h1 : i < bs.length <;> by_cases h2 : j < bs.length
  ·rw [bk1 i _ (List.getElem?_eq_getElem h1), bk1 j _ (List.getElem?_eq_getElem h2)] at e
   exact nodupB_inj hnd i j bs[i] (List.getElem?_eq_getElem h1) (by rw [List.getElem?_eq_getElem h2, e])
  ·rw [bk1 i _ (List.getElem?_eq_getElem h1), bk2 j (by omega)] at e
   have := hlt bs[i] (List.getElem_mem h1)
   omega
  ·rw [bk1 j _ (List.getElem?_eq_getElem h2), bk2 i (by omega)] at e
   have := hlt bs[j] (List.getElem_mem h2)
   omega
  ·rw [bk2 i (by omega), bk2 j (by omega)] at e
   omega
 -- what the blocks hold behind
 have fzkeys : ∀ p ∈ (if res.imRef || hl.any (Blk.imRef cc) then lent.map (frozenBlk st) else []), p.1 ∈ lent := by
  intro p hp'
  split at hp'
  ·obtain ⟨b, hb, rfl⟩ := List.mem_map.1 hp'
   simp only [frozenBlk]
   split <;> exact hb
  ·cases hp'
 have hP : ∀ i, i < hl.length → upds hp ws (backNum bs st.length i) = (hl.get i).ren (backNum bs st.length) := by
  intro i hi
  rw [hws, upds_app, upds_ne, ← Nat.zero_add i]
  ·rw [numbered_get bkinj i hi]
   simp
  ·intro p hp' e
   have hmem := fzkeys p hp'
   obtain ⟨h1, h2, _⟩ := hlent p.1 hmem
   by_cases hi' : i < bs.length
   ·rw [bk1 i _ (List.getElem?_eq_getElem hi')] at e
    exact h1 (e ▸ List.getElem_mem hi')
   ·rw [bk2 i (by omega)] at e
    omega
 have notnum : ∀ b, b ∉ bs → (∀ i, bs.length ≤ i → i < hl.length → b ≠ st.length + (i - bs.length)) → ∀ p ∈ numbered (backNum bs st.length) 0 hl, p.1 ≠ b := by
  intro b h1 h2 p hp' e
  obtain ⟨i, hi, e'⟩ := numbered_keys p hp'
  rw [Nat.zero_add] at e'
  by_cases hi' : i < bs.length
  ·rw [bk1 i _ (List.getElem?_eq_getElem hi')] at e'
   exact h1 (by rw [← e, e']; exact List.getElem_mem hi')
  ·rw [bk2 i (by omega)] at e'
   exact h2 i (by omega) hi (by rw [← e, e'])
 have hO : ∀ b, b ∉ bs → b ∉ lent → (∀ i, bs.length ≤ i → i < hl.length → b ≠ st.length + (i - bs.length)) → upds hp ws b = hp b := by
  intro b h1 h2 h3
  rw [hws, upds_app, upds_ne, upds_ne (notnum b h1 h3)]
  intro p hp' e
  exact h2 (e ▸ fzkeys p hp')
 have lentnew : ∀ b ∈ lent, ∀ i, bs.length ≤ i → i < hl.length → b ≠ st.length + (i - bs.length) := by
  intro b hb i _ _ e
  have := (hlent b hb).2.1
  omega
 have hL : ∀ b ∈ lent, ∃ T l lv lv', hp b = .row T l lv ∧ upds hp ws b = .row T l lv' ∧ (lv' = true → lv = true) ∧ ((res.imRef || hl.any (Blk.imRef cc)) = true → lv' = false) := by
  intro b hb
  obtain ⟨h1, h2, T, l, lv, h3, h4⟩ := hlent b hb
  have hbase : upds hp (numbered (backNum bs st.length) 0 hl) b = .row T l lv := by rw [upds_ne (notnum b h1 (lentnew b hb)), h4]
  rw [hws, upds_app]
  cases hflag : (res.imRef || hl.any (Blk.imRef cc)) with
  | false =>
   simp only [Bool.false_eq_true, if_false, upds]
   exact ⟨T, l, lv, lv, h4, hbase, id, fun h => by cases h⟩
  | true =>
   simp only [if_true]
   refine ⟨T, l, lv, false, h4, ?_, (fun h => by cases h), fun _ => rfl⟩
   -- lent ones are written frozen, once or more
   have : ∀ (L : List Nat) (g : Nat → Blk U), b ∈ L → upds g (L.map (frozenBlk st)) b = .row T l false := by
    intro L
    induction L with
    | nil => intro g h; cases h
    | cons c L ih =>
     intro g h
     simp only [List.map_cons]
     by_cases hbL : b ∈ L
     ·cases hfb : frozenBlk st c with
      | mk q y => simp only [upds]; exact ih _ hbL
     ·have hcb : b = c := by
       rcases List.mem_cons.1 h with h | h
       ·exact h
       ·exact absurd h hbL
      subst hcb
      have hfb : frozenBlk st b = (b, .row T l false) := by simp [frozenBlk, h3]
      rw [hfb]
      simp only [upds]
      rw [upds_ne, upd1_same]
      intro p hp' e
      obtain ⟨c, hc', rfl⟩ := List.mem_map.1 hp'
      have : (frozenBlk st c).1 = c := by simp only [frozenBlk]; split <;> rfl
      rw [this] at e
      exact hbL (e ▸ hc')
   exact this lent _ hb
 have hold : ∀ i bi, subβ β bs i = some bi → βc i = some bi := tr.β
 -- the new map
 let β' : Nat → Option BI := fun b => match β b with | some bi => some bi | none => if bs.contains b then βc (bs.idxOf b) else if st.length ≤ b then βc (bs.length + (b - st.length)) else none
 have hβ' : ∀ b bi, β b = some bi → β' b = some bi := fun b bi h => by simp [β', h]
 have hβback : ∀ c bi, βc c = some bi → β' (backNum bs st.length c) = some bi := by
  intro c bi h
  have hcl' : c < hl.length := by
   rcases Nat.lt_or_ge c hl.length with h' | h'
   ·exact h'
   ·rw [hfr c h'] at h; cases h
  by_cases hc' : c < bs.length
  ·rw [bk1 c _ (List.getElem?_eq_getElem hc')]
   have hmem : bs[c] ∈ bs := List.getElem_mem hc'
   cases hq : β bs[c] with
   | some bi' =>
    have := hold c bi' (by simp only [subβ, List.getElem?_eq_getElem hc', Option.bind_some]; exact hq)
    rw [h] at this
    cases this
    exact hβ' _ _ hq
   | none =>
    have e : bs.idxOf bs[c] = c := nodupB_inj hnd _ _ bs[c] (idxOf_get hmem) (List.getElem?_eq_getElem hc')
    simp only [β', hq]
    rw [if_pos (List.contains_iff_mem.2 hmem), e]
    exact h
  ·rw [bk2 c (by omega)]
   have hn := hnew c (by omega) hcl'
   simp only [β', hn]
   rw [if_neg (fun hx => by have := hlt _ (List.contains_iff_mem.1 hx); omega), if_pos (by omega), show bs.length + (st.length + (c - bs.length) - st.length) = c by omega]
   exact h
 -- every number that is mapped: passed or new, or else an old one
 have cls : ∀ b bi, β' b = some bi → (∃ i, i < hl.length ∧ b = backNum bs st.length i ∧ βc i = some bi) ∨
   (β b = some bi ∧ b ∉ bs ∧ (∀ i, bs.length ≤ i → i < hl.length → b ≠ st.length + (i - bs.length))) := by
  intro b bi h
  by_cases hb : b ∈ bs
  ·left
   have hi := List.idxOf_lt_length_of_mem hb
   refine ⟨bs.idxOf b, by omega, (bk1 _ _ (idxOf_get hb)).symm, ?_⟩
   cases hq : β b with
   | some bi' =>
    simp only [β', hq] at h
    exact hold _ _ (by rw [subβ_idx hb, hq, h])
   | none =>
    simp only [β', hq] at h
    rwa [if_pos (List.contains_iff_mem.2 hb)] at h
  ·cases hq : β b with
   | some bi' =>
    right
    simp only [β', hq] at h
    refine ⟨by rw [← h], hb, fun i h1 h2 e => ?_⟩
    rw [e, hnew i h1 h2] at hq
    cases hq
   | none =>
    left
    simp only [β', hq] at h
    rw [if_neg (fun hx => hb (List.contains_iff_mem.1 hx))] at h
    split at h
    ·rename_i hge
     have hlen : bs.length + (b - st.length) < hl.length := by
      rcases Nat.lt_or_ge (bs.length + (b - st.length)) hl.length with h' | h'
      ·exact h'
      ·rw [hfr _ h'] at h; cases h
     exact ⟨bs.length + (b - st.length), hlen, by rw [bk2 _ (by omega)]; omega, h⟩
    ·cases h
 have hOL : ∀ b, b ∉ bs → (∀ i, bs.length ≤ i → i < hl.length → b ≠ st.length + (i - bs.length)) →
   ((upds hp ws b).isDead = false → (hp b).isDead = false) ∧ ((upds hp ws b).isLive = true → (hp b).isLive = true) ∧
   (∀ {w : World} {av : Nat → Prop} {β : Nat → Option BI} {bi : BI}, BlkOK cc w av β bi (hp b) → BlkOK cc w av β bi (upds hp ws b)) := by
  intro b h1 h3
  by_cases hb : b ∈ lent
  ·obtain ⟨T, l, lv, lv', e1, e2, e3, _⟩ := hL b hb
   rw [e1, e2]
   exact ⟨fun _ => rfl, e3, fun h => h⟩
  ·rw [hO b h1 hb h3]
   exact ⟨id, id, fun h => h⟩
 -- who is avoided behind
 have hav : ∀ k, ¬ avOf X β hp k → k < w.heap.size → ¬ avOf X β' (upds hp ws) k := by
  rintro k hk hlt' (hX | ⟨b, bi, hb, hbk, hlv⟩)
  ·exact hk (.inl hX)
  ·rcases cls b bi hb with ⟨i, hi, rfl, hbi⟩ | ⟨hbb, h1, h3⟩
   ·rw [hP i hi, ren_live] at hlv
    have : avOf Xc βc hl.get k := .inr ⟨i, bi, hbi, hbk, hlv⟩
    exact tr.av k (fun h => hk (hac k h)) hlt' this
   ·exact hk (.inr ⟨b, bi, hbb, hbk, (hOL b h1 h3).2.1 hlv⟩)
 have havc : (res.imRef || hl.any (Blk.imRef cc)) = true → ∀ k, ¬ avOf Xc βc hl.get k → k < w'.heap.size → ¬ avOf X β' (upds hp ws) k := by
  rintro hflag k hk hlt' (hX | ⟨b, bi, hb, hbk, hlv⟩)
  ·refine hk (.inl ((hXc k).2 ⟨.inl hX, ?_, ?_⟩))
   ·rintro ⟨b, _, bi, h1, h2, h3⟩
    exact (hh.dom b bi k h1 h2 h3).2.1 hX
   ·rintro ⟨b, hb, bi, h1, h2⟩
    obtain ⟨_, _, T, l, lv, _, e⟩ := hlent b hb
    exact (hh.dom b bi k h1 h2 (by rw [e]; rfl)).2.1 hX
  ·rcases cls b bi hb with ⟨i, hi, rfl, hbi⟩ | ⟨hbb, h1, h3⟩
   ·rw [hP i hi, ren_live] at hlv
    exact hk (.inr ⟨i, bi, hbi, hbk, hlv⟩)
   ·have hbl : b ∉ lent := by
     intro hbl
     obtain ⟨T, l, lv, lv', _, e2, _, e4⟩ := hL b hbl
     rw [e2, e4 hflag] at hlv
     cases hlv
    have hlive := (hOL b h1 h3).2.1 hlv
    have hdead : (hp b).isDead = false := live_dead hlive
    refine hk (.inl ((hXc k).2 ⟨.inr ⟨b, bi, hbb, hbk, hlive⟩, ?_, ?_⟩))
    ·rintro ⟨c, hc', ci, e1, e2, e3⟩
     exact h1 (hh.inj b c bi ci k hbb e1 hbk e2 hdead e3 ▸ hc')
    ·rintro ⟨c, hc', ci, e1, e2⟩
     obtain ⟨_, _, T, l, lv, _, e⟩ := hlent c hc'
     exact hbl (hh.inj b c bi ci k hbb e1 hbk e2 hdead (by rw [e]; rfl) ▸ hc')
 have hkeeps : Keeps (avOf X β hp) w w' := fun k off v hk hcell => tr.keeps k off v (fun h => hk (hac k h)) hcell
 -- a value of the callee's
 have value : ∀ {x : AV U} {v : Value}, (x.imRef = true → (res.imRef || hl.any (Blk.imRef cc)) = true) → RepA cc w' (avOf Xc βc hl.get) βc x v → RepA cc w' (avOf X β' (upds hp ws)) β' (x.ren (backNum bs st.length)) v := by
  intro x v hx hv
  cases him : x.imRef with
  | true => exact hv.ren (havc (hx him)) fun b _ bi hb => hβback b bi hb
  | false =>
   have := hv.free (w' := w') (av' := avOf X β' (upds hp ws)) (β' := βc) (fun _ _ h => h) him
   exact this.ren (fun _ h _ => h) fun b _ bi hb => hβback b bi hb
 have block : ∀ {i : Nat} {bi : BI}, i < hl.length → BlkOK cc w' (avOf Xc βc hl.get) βc bi (hl.get i) → BlkOK cc w' (avOf X β' (upds hp ws)) β' bi ((hl.get i).ren (backNum bs st.length)) := by
  intro i bi hi hok
  cases him : (hl.get i).imRef cc with
  | true =>
   have hflag : (res.imRef || hl.any (Blk.imRef cc)) = true := by
    rw [Bool.or_eq_true]
    right
    rw [List.any_eq_true]
    exact ⟨hl.get i, by simp only [Hp.get, List.getD, List.getElem?_eq_getElem hi, Option.getD_some]; exact List.getElem_mem hi, him⟩
   exact hok.ren (havc hflag) fun b _ bi hb => hβback b bi hb
  | false =>
   have := hok.free (av' := avOf X β' (upds hp ws)) him
   exact this.ren (fun _ h _ => h) fun b _ bi hb => hβback b bi hb
 have oldk : ∀ b bi k, β b = some bi → bi.k = some k → (hp b).isDead = false → b ∉ bs → ¬ Wc k := by
  intro b bi k h1 h2 h3 h4 hw
  rcases (hWc k).1 hw with ⟨c, hc', ci, e1, e2, e3⟩ | h
  ·exact h4 (hh.inj b c bi ci k h1 e1 h2 e2 h3 e3 ▸ hc')
  ·have := (hh.dom b bi k h1 h2 h3).2.2
   omega
 refine ⟨β', ⟨?_, ?_, ?_, ?_⟩, value (fun h => by rw [Bool.or_eq_true]; exact .inl h) hres, ⟨⟨tr.fr.os, tr.fr.tape, tr.fr.output, tr.fr.size, fun k hk hW => ?_, tr.fr.kind⟩, hkeeps, hav, hβ'⟩, ?_⟩
 ·intro b bi hb
  rcases cls b bi hb with ⟨i, hi, rfl, hbi⟩ | ⟨hbb, h1, h3⟩
  ·rw [hP i hi]
   exact block hi (hr.ok i bi hbi)
  ·refine (hOL b h1 h3).2.2 ?_
   by_cases hd : (hp b).isDead = true
   ·exact BlkOK.of_dead hd
   ·have hd' : (hp b).isDead = false := by simpa using hd
    exact (hh.ok b bi hbb).mono hkeeps hav hβ' fun k hk => tr.fr.block k (hh.dom b bi k hbb hk hd').2.2 (oldk b bi k hbb hk hd' h1)
 ·intro b bi k hb hk hd
  rcases cls b bi hb with ⟨i, hi, rfl, hbi⟩ | ⟨hbb, h1, h3⟩
  ·rw [hP i hi, ren_dead] at hd
   obtain ⟨d1, d2, d3⟩ := hr.dom i bi k hbi hk hd
   rcases (hWc k).1 d1 with ⟨c, hc', ci, e1, e2, e3⟩ | h
   ·have := hh.dom c ci k e1 e2 e3
    exact ⟨this.1, this.2.1, d3⟩
   ·have := hh.new k h
    exact ⟨this.1, this.2, d3⟩
  ·have hd' := (hOL b h1 h3).1 hd
   have := hh.dom b bi k hbb hk hd'
   exact ⟨this.1, this.2.1, Nat.lt_of_lt_of_le this.2.2 tr.fr.size⟩
 ·intro k hk
  exact hh.new k (Nat.le_trans tr.fr.size hk)
 ·intro b b' bi bi' k hb hb' hk hk' hd hd'
  rcases cls b bi hb with ⟨i, hi, rfl, hbi⟩ | ⟨hbb, h1, h3⟩ <;> rcases cls b' bi' hb' with ⟨i', hi', rfl, hbi'⟩ | ⟨hbb', h1', h3'⟩
  ·rw [hP i hi, ren_dead] at hd
   rw [hP i' hi', ren_dead] at hd'
   rw [hr.inj i i' bi bi' k hbi hbi' hk hk' hd hd']
  ·rw [hP i hi, ren_dead] at hd
   exact absurd (hr.dom i bi k hbi hk hd).1 (oldk b' bi' k hbb' hk' ((hOL b' h1' h3').1 hd') h1')
  ·rw [hP i' hi', ren_dead] at hd'
   exact absurd (hr.dom i' bi' k hbi' hk' hd').1 (oldk b bi k hbb hk ((hOL b h1 h3).1 hd) h1)
  ·exact hh.inj b b' bi bi' k hbb hbb' hk hk' ((hOL b h1 h3).1 hd) ((hOL b' h1' h3').1 hd')
 ·refine tr.fr.block k hk fun hw => ?_
  rcases (hWc k).1 hw with ⟨c, hc', ci, e1, e2, e3⟩ | h
  ·exact hW (hh.dom c ci k e1 e2 e3).1
  ·omega
 ·intro b hb hp'
  cases hq : β' b with
  | none => rfl
  | some bi =>
   rcases cls b bi hq with ⟨i, hi, rfl, hbi⟩ | ⟨hbb, _, _⟩
   ·exfalso
    have hkey : ∀ (L : Hp U) (i0 j : Nat), j < L.length → ∃ p ∈ numbered (backNum bs st.length) i0 L, p.1 = backNum bs st.length (i0 + j) := by
     intro L
     induction L with
     | nil => intro i0 j h; simp at h
     | cons y L ih =>
      intro i0 j h
      cases j with
      | zero => exact ⟨_, List.mem_cons_self .., rfl⟩
      | succ j =>
       obtain ⟨p, h1, h2⟩ := ih (i0 + 1) j (by simpa using h)
       exact ⟨p, List.mem_cons_of_mem _ h1, by rw [h2]; congr 1; omega⟩
    obtain ⟨p, h1, h2⟩ := hkey hl 0 i hi
    rw [Nat.zero_add] at h2
    exact hp' p (by rw [hws]; exact List.mem_append_left _ h1) h2
   ·rw [hb] at hbb; cases hbb

end Go.Proofs.Ytmlbioapefgioaa.Va

/- Rows lent; a call. -/
namespace Go.Proofs.Ytmlbioapefgioaa.Va
open Go

variable {U : Nat → Type} {α : Type} {R : Type} {P : Program} {E : Env U} {X W0 : Nat → Prop} {β : Nat → Option BI} {hp : Nat → Blk U} {w : World}

theorem row_rep {b T : Nat} {l : List (U T)} {lv : Bool} {v : Value} {avc : Nat → Prop} (h : HRel E.cc X W0 β hp w) (hr : hp b = .row T l lv) (hv : RepA E.cc w (avOf X β hp) β (.own b) v)
  (hle : ∀ k, avc k → avOf X β hp k) (hk : ∀ bi k, β b = some bi → bi.k = some k → ¬ avc k) : Rep E.cc w avc (.slice T l) v := by
 cases hv with
 | own0 hβ =>
  have hok := h.ok b _ hβ
  rw [hr] at hok
  have : l = [] := List.eq_nil_of_length_eq_zero (by simpa using hok.2.1)
  subst this
  exact .slice0 _ _ _
 | own hβ =>
  rename_i k n cap
  have hok := h.ok b _ hβ
  rw [hr] at hok
  obtain ⟨hcod, hn, _, hsome⟩ := hok
  obtain ⟨hnc, _, c, t, hg, hs, hc⟩ := hsome k rfl
  simp only at hn
  subst hn
  refine .slice T l k 0 cap (fun i => (c[i]?).getD undef) hcod.pos (hk _ k hβ rfl) hnc (fun i hi => ?_) (fun i x j y hx hy => ?_)
  ·rw [cell_of hg, Nat.zero_add]
   have : i < c.size := by rw [hs]; exact Nat.lt_of_lt_of_le hi (Nat.mul_le_mul_right _ hnc)
   simp [this]
  ·obtain ⟨v, hv, hrep⟩ := hc i x j y hx hy
   rw [hv]
   exact hrep.mono (fun _ _ _ _ h => h) fun k h _ h' => h (hle k h')

theorem row_rep_sub {b T off len : Nat} {l : List (U T)} {lv : Bool} {v : Value} {avc : Nat → Prop} (h : HRel E.cc X W0 β hp w) (hr : hp b = .row T l lv) (hv : RepA E.cc w (avOf X β hp) β (.sub b off len (E.cc T).sz) v)
  (hle : ∀ k, avc k → avOf X β hp k) (hk : ∀ bi k, β b = some bi → bi.k = some k → ¬ avc k) : Rep E.cc w avc (.slice T ((l.drop off).take len)) v := by
 cases hv with
 | sub0 => rw [List.take_zero]; exact .slice0 _ _ _
 | sub hβ hl hcl =>
  rename_i k n cap cap'
  have hok := h.ok b _ hβ
  rw [hr] at hok
  obtain ⟨hcod, hn, _, hsome⟩ := hok
  obtain ⟨hnc, _, c, t, hg, hs, hc⟩ := hsome k rfl
  simp only at hn hnc hs
  subst hn
  have hlen : ((l.drop off).take len).length = len := by simp; omega
  have key := Rep.slice (cc := E.cc) (w := w) (av := avc) T ((l.drop off).take len) k (off * (E.cc T).sz) cap (fun i => (c[off * (E.cc T).sz + i]?).getD undef) hcod.pos (hk _ k hβ rfl) (by rw [hlen]; exact hcl)
   (fun i hi => by
    rw [cell_of hg]
    have : off * (E.cc T).sz + i < c.size := by
     rw [hs]
     rw [hlen] at hi
     calc off * (E.cc T).sz + i < off * (E.cc T).sz + len * (E.cc T).sz := by omega
      _ = (off + len) * (E.cc T).sz := by rw [Nat.add_mul]
      _ ≤ cap' * (E.cc T).sz := Nat.mul_le_mul_right _ (by omega)
    simp [this])
   (fun i x j y hx hy => by
    have hx' : l[off + i]? = some x := by
     rw [List.getElem?_take] at hx
     split at hx
     ·rwa [List.getElem?_drop] at hx
     ·cases hx
    obtain ⟨v, hv, hrep⟩ := hc (off + i) x j y hx' hy
    have : off * (E.cc T).sz + (i * (E.cc T).sz + j) = (off + i) * (E.cc T).sz + j := by rw [Nat.add_mul]; omega
    rw [this, hv]
    exact hrep.mono (fun _ _ _ _ h => h) fun k h _ h' => h (hle k h'))
  rw [hlen] at key
  exact key

mutual
theorem lend_rows {st : Hp U} : ∀ (x : AV U) {x' : AV U} {r : List Nat}, lend E.cc st x = some (x', r) → ∀ b ∈ r, ∃ T l lv, st.get b = .row T l lv
 | .own b, x', r, h => by
  simp only [lend] at h
  split at h
  ·rename_i T l lv hb
   simp only [Option.some.injEq, Prod.mk.injEq] at h
   obtain ⟨rfl, rfl⟩ := h
   intro c hc
   simp at hc
   subst hc
   exact ⟨T, l, lv, hb⟩
  ·cases h
 | .sub b off len sz, x', r, h => by
  simp only [lend] at h
  split at h
  ·rename_i T l lv hb
   split at h
   ·simp only [Option.some.injEq, Prod.mk.injEq] at h
    obtain ⟨rfl, rfl⟩ := h
    intro c hc
    simp at hc
    subst hc
    exact ⟨T, l, lv, hb⟩
   ·cases h
  ·cases h
 | .agg cs, x', r, h => by
  simp only [lend, Option.map_eq_some_iff] at h
  obtain ⟨⟨ys, q⟩, hq, h⟩ := h
  simp only [Prod.mk.injEq] at h
  obtain ⟨rfl, rfl⟩ := h
  exact lendL_rows cs hq
 | .im _, x', r, h => by simp only [lend, Option.some.injEq, Prod.mk.injEq] at h; obtain ⟨rfl, rfl⟩ := h; simp
 | .nn _ _, x', r, h => by simp only [lend, Option.some.injEq, Prod.mk.injEq] at h; obtain ⟨rfl, rfl⟩ := h; simp
 | .ns, x', r, h => by simp only [lend, Option.some.injEq, Prod.mk.injEq] at h; obtain ⟨rfl, rfl⟩ := h; simp
 | .mp _, x', r, h => by simp only [lend, Option.some.injEq, Prod.mk.injEq] at h; obtain ⟨rfl, rfl⟩ := h; simp
 | .gh _ _ _, x', r, h => by simp only [lend, Option.some.injEq, Prod.mk.injEq] at h; obtain ⟨rfl, rfl⟩ := h; simp
 | .yl _, x', r, h => by simp only [lend, Option.some.injEq, Prod.mk.injEq] at h; obtain ⟨rfl, rfl⟩ := h; simp
 | .vsl _ _ _ _, x', r, h => by simp only [lend, Option.some.injEq, Prod.mk.injEq] at h; obtain ⟨rfl, rfl⟩ := h; simp
 | .ptr _ _, x', r, h => by simp only [lend, Option.some.injEq, Prod.mk.injEq] at h; obtain ⟨rfl, rfl⟩ := h; simp
 | .rptr _ _ _ _, x', r, h => by simp only [lend, Option.some.injEq, Prod.mk.injEq] at h; obtain ⟨rfl, rfl⟩ := h; simp
 | .iptr _ _, x', r, h => by simp only [lend, Option.some.injEq, Prod.mk.injEq] at h; obtain ⟨rfl, rfl⟩ := h; simp
 | .tup _, x', r, h => by simp only [lend, Option.some.injEq, Prod.mk.injEq] at h; obtain ⟨rfl, rfl⟩ := h; simp
 | .clo _ _, x', r, h => by simp only [lend, Option.some.injEq, Prod.mk.injEq] at h; obtain ⟨rfl, rfl⟩ := h; simp
 | .und, x', r, h => by simp only [lend, Option.some.injEq, Prod.mk.injEq] at h; obtain ⟨rfl, rfl⟩ := h; simp
 | .bot, x', r, h => by simp only [lend, Option.some.injEq, Prod.mk.injEq] at h; obtain ⟨rfl, rfl⟩ := h; simp
theorem lendL_rows {st : Hp U} : ∀ (xs : List (AV U)) {xs' : List (AV U)} {r : List Nat}, lendL E.cc st xs = some (xs', r) → ∀ b ∈ r, ∃ T l lv, st.get b = .row T l lv
 | [], xs', r, h => by simp only [lendL, Option.some.injEq, Prod.mk.injEq] at h; obtain ⟨rfl, rfl⟩ := h; simp
 | x :: xs, xs', r, h => by
  simp only [lendL] at h
  split at h
  ·rename_i y q ys qs h1 h2
   simp only [Option.some.injEq, Prod.mk.injEq] at h
   obtain ⟨rfl, rfl⟩ := h
   intro b hb
   rcases List.mem_append.1 hb with hb | hb
   ·exact lend_rows x h1 b hb
   ·exact lendL_rows xs h2 b hb
  ·cases h
end

mutual
theorem lend_rep {st : Hp U} {avc : Nat → Prop} (hh : HRel E.cc X W0 β hp w) (hle : ∀ k, avc k → avOf X β hp k) : ∀ (x : AV U) {x' : AV U} {r : List Nat} {v : Value}, lend E.cc st x = some (x', r) →
  (∀ b ∈ r, hp b = st.get b) → (∀ b ∈ r, ∀ bi k, β b = some bi → bi.k = some k → ¬ avc k) → RepA E.cc w (avOf X β hp) β x v → RepA E.cc w avc β x' v
 | .own b, x', r, v, h, hag, hk, hv => by
  simp only [lend] at h
  split at h
  ·rename_i T l lv hb
   simp only [Option.some.injEq, Prod.mk.injEq] at h
   obtain ⟨rfl, rfl⟩ := h
   exact .im (row_rep hh (by rw [hag b (by simp), hb]) hv hle (hk b (by simp)))
  ·cases h
 | .sub b off len sz, x', r, v, h, hag, hk, hv => by
  simp only [lend] at h
  split at h
  ·rename_i T l lv hb
   split at h
   ·rename_i hsz
    subst hsz
    simp only [Option.some.injEq, Prod.mk.injEq] at h
    obtain ⟨rfl, rfl⟩ := h
    exact .im (row_rep_sub hh (by rw [hag b (by simp), hb]) hv hle (hk b (by simp)))
   ·cases h
  ·cases h
 | .agg cs, x', r, v, h, hag, hk, hv => by
  simp only [lend, Option.map_eq_some_iff] at h
  obtain ⟨⟨ys, q⟩, hq, h⟩ := h
  simp only [Prod.mk.injEq] at h
  obtain ⟨rfl, rfl⟩ := h
  cases hv with
  | agg hl hvs =>
   obtain ⟨e1, e2⟩ := lendL_rep hh hle cs hq hag hk
   exact .agg (by rw [e1]; exact hl) fun j x v hx hv' => e2 j x v (fun x0 hx0 => hvs j x0 v hx0 hv') hx
 | .im _, x', r, v, h, _, _, hv => by simp only [lend, Option.some.injEq, Prod.mk.injEq] at h; obtain ⟨rfl, rfl⟩ := h; exact hv.mono (fun _ _ _ _ h => h) (fun k h _ h' => h (hle k h')) (fun _ _ h => h)
 | .nn _ _, x', r, v, h, _, _, hv => by simp only [lend, Option.some.injEq, Prod.mk.injEq] at h; obtain ⟨rfl, rfl⟩ := h; exact hv.mono (fun _ _ _ _ h => h) (fun k h _ h' => h (hle k h')) (fun _ _ h => h)
 | .ns, x', r, v, h, _, _, hv => by simp only [lend, Option.some.injEq, Prod.mk.injEq] at h; obtain ⟨rfl, rfl⟩ := h; exact hv.mono (fun _ _ _ _ h => h) (fun k h _ h' => h (hle k h')) (fun _ _ h => h)
 | .mp _, x', r, v, h, _, _, hv => by simp only [lend, Option.some.injEq, Prod.mk.injEq] at h; obtain ⟨rfl, rfl⟩ := h; exact hv.mono (fun _ _ _ _ h => h) (fun k h _ h' => h (hle k h')) (fun _ _ h => h)
 | .gh _ _ _, x', r, v, h, _, _, hv => by simp only [lend, Option.some.injEq, Prod.mk.injEq] at h; obtain ⟨rfl, rfl⟩ := h; exact hv.mono (fun _ _ _ _ h => h) (fun k h _ h' => h (hle k h')) (fun _ _ h => h)
 | .yl _, x', r, v, h, _, _, hv => by simp only [lend, Option.some.injEq, Prod.mk.injEq] at h; obtain ⟨rfl, rfl⟩ := h; exact hv.mono (fun _ _ _ _ h => h) (fun k h _ h' => h (hle k h')) (fun _ _ h => h)
 | .vsl _ _ _ _, x', r, v, h, _, _, hv => by simp only [lend, Option.some.injEq, Prod.mk.injEq] at h; obtain ⟨rfl, rfl⟩ := h; exact hv.mono (fun _ _ _ _ h => h) (fun k h _ h' => h (hle k h')) (fun _ _ h => h)
 | .ptr _ _, x', r, v, h, _, _, hv => by simp only [lend, Option.some.injEq, Prod.mk.injEq] at h; obtain ⟨rfl, rfl⟩ := h; exact hv.mono (fun _ _ _ _ h => h) (fun k h _ h' => h (hle k h')) (fun _ _ h => h)
 | .rptr _ _ _ _, x', r, v, h, _, _, hv => by simp only [lend, Option.some.injEq, Prod.mk.injEq] at h; obtain ⟨rfl, rfl⟩ := h; exact hv.mono (fun _ _ _ _ h => h) (fun k h _ h' => h (hle k h')) (fun _ _ h => h)
 | .iptr _ _, x', r, v, h, _, _, hv => by simp only [lend, Option.some.injEq, Prod.mk.injEq] at h; obtain ⟨rfl, rfl⟩ := h; exact hv.mono (fun _ _ _ _ h => h) (fun k h _ h' => h (hle k h')) (fun _ _ h => h)
 | .tup _, x', r, v, h, _, _, hv => by simp only [lend, Option.some.injEq, Prod.mk.injEq] at h; obtain ⟨rfl, rfl⟩ := h; exact hv.mono (fun _ _ _ _ h => h) (fun k h _ h' => h (hle k h')) (fun _ _ h => h)
 | .clo _ _, x', r, v, h, _, _, hv => by simp only [lend, Option.some.injEq, Prod.mk.injEq] at h; obtain ⟨rfl, rfl⟩ := h; exact hv.mono (fun _ _ _ _ h => h) (fun k h _ h' => h (hle k h')) (fun _ _ h => h)
 | .und, x', r, v, h, _, _, hv => by simp only [lend, Option.some.injEq, Prod.mk.injEq] at h; obtain ⟨rfl, rfl⟩ := h; exact hv.mono (fun _ _ _ _ h => h) (fun k h _ h' => h (hle k h')) (fun _ _ h => h)
 | .bot, x', r, v, h, _, _, hv => by simp only [lend, Option.some.injEq, Prod.mk.injEq] at h; obtain ⟨rfl, rfl⟩ := h; exact .bot
theorem lendL_rep {st : Hp U} {avc : Nat → Prop} (hh : HRel E.cc X W0 β hp w) (hle : ∀ k, avc k → avOf X β hp k) : ∀ (xs : List (AV U)) {xs' : List (AV U)} {r : List Nat}, lendL E.cc st xs = some (xs', r) →
  (∀ b ∈ r, hp b = st.get b) → (∀ b ∈ r, ∀ bi k, β b = some bi → bi.k = some k → ¬ avc k) →
  xs'.length = xs.length ∧ ∀ (j : Nat) (x' : AV U) (v : Value), (∀ x, xs[j]? = some x → RepA E.cc w (avOf X β hp) β x v) → xs'[j]? = some x' → RepA E.cc w avc β x' v
 | [], xs', r, h, _, _ => by simp only [lendL, Option.some.injEq, Prod.mk.injEq] at h; obtain ⟨rfl, rfl⟩ := h; simp
 | x :: xs, xs', r, h, hag, hk => by
  simp only [lendL] at h
  split at h
  ·rename_i y q ys qs h1 h2
   simp only [Option.some.injEq, Prod.mk.injEq] at h
   obtain ⟨rfl, rfl⟩ := h
   obtain ⟨e1, e2⟩ := lendL_rep hh hle xs h2 (fun b hb => hag b (List.mem_append_right _ hb)) (fun b hb => hk b (List.mem_append_right _ hb))
   refine ⟨by simp [e1], fun j x' v hx hx' => ?_⟩
   cases j with
   | zero =>
    simp at hx'
    subst hx'
    exact lend_rep hh hle x h1 (fun b hb => hag b (List.mem_append_left _ hb)) (fun b hb => hk b (List.mem_append_left _ hb)) (hx x rfl)
   | succ j => exact e2 j x' v (fun x0 h0 => hx x0 (by simpa using h0)) (by simpa using hx')
  ·cases h
end

theorem get_row_lt {st : Hp U} {b T : Nat} {l : List (U T)} {lv : Bool} (h : st.get b = .row T l lv) : b < st.length := by
 rcases Nat.lt_or_ge b st.length with h' | h'
 ·exact h'
 ·simp [Hp.get, List.getD, List.getElem?_eq_none h'] at h

theorem callG_ok {st : St U} {f : FuncId} {args : List (AV U)} {K : KO U R} {r : R} (hΓ : ∀ A, E.Γ.lookup f = some A → SoundF P E.cc f A) (h : callG false E st f args K = some r) :
  ∃ v ws rd, K v ws rd = some r ∧ (∀ p ∈ ws, p.1 ∈ rd ∨ st.hp.length ≤ p.1) ∧ ∀ {X W0 : Nat → Prop} {β : Nat → Option BI} {hp : Nat → Blk U} {w : World} {vals : Array Value}, HRel E.cc X W0 β hp w →
   vals.size = args.length → (∀ (j : Nat) (x : AV U) (u : Value), args[j]? = some x → vals[j]? = some u → RepA E.cc w (avOf X β hp) β x u) →
   (∀ b ∈ rd, hp b = st.hp.get b) → (∀ p ∈ ws, st.hp.length ≤ p.1 → β p.1 = none) →
   Calls P f vals w fun e w' => ∃ vv β', e = .returned vv ∧ HRel E.cc X W0 β' (upds hp ws) w' ∧ RepA E.cc w' (avOf X β' (upds hp ws)) β' v vv ∧ Tr X W0 β hp w β' (upds hp ws) w' ∧
    (∀ b, β b = none → (∀ p ∈ ws, p.1 ≠ b) → β' b = none) := by
 unfold callG at h
 split at h
 ·cases h
 rename_i A hA
 split at h
 ·cases h
 rename_i args' lent hlend
 simp only at h
 split at h
 ·cases h
 rename_i hc
 rw [Bool.false_and] at h
 simp only [] at h
 simp only [Bool.or_eq_true, Bool.not_eq_true', not_or, Bool.not_eq_true, Bool.not_eq_false] at hc
 obtain ⟨hnl, hcl⟩ := hc
 generalize hbs : reach st.hp 4000 (AV.refsL args') [] = bs at h hnl hcl
 obtain ⟨res, hl, hK, hlen, hs⟩ := hΓ A hA _ _ _ _ _ h
 split at hK
 ·cases hK
 rename_i hm
 have hlend' : ∀ b ∈ lent, b ∉ bs := by
  intro b hb hb'
  rw [List.any_eq_false] at hnl
  exact hnl b hb (List.contains_iff_mem.2 hb')
 have hrows := lendL_rows args hlend
 have hroots := hcl
 simp only [closedB, Bool.and_eq_true, List.all_eq_true, decide_eq_true_eq] at hroots
 obtain ⟨⟨⟨hroots, hclo⟩, hnd⟩, hlt⟩ := hroots
 refine ⟨_, _, _, hK, ?_, @fun X W0 β hp w vals hh hsz hvs hag hnew => ?_⟩
 ·intro p hp'
  rcases List.mem_append.1 hp' with hp' | hp'
  ·obtain ⟨i, hi, e⟩ := numbered_keys p hp'
   rw [Nat.zero_add] at e
   by_cases hi' : i < bs.length
   ·left
    rw [e]
    simp only [backNum, List.getElem?_eq_getElem hi']
    exact List.mem_append_left _ (List.getElem_mem hi')
   ·right
    rw [e]
    simp only [backNum, List.getElem?_eq_none (Nat.le_of_not_lt hi')]
    omega
  ·left
   split at hp'
   ·obtain ⟨b, hb, rfl⟩ := List.mem_map.1 hp'
    have : (frozenBlk st.hp b).1 = b := by simp only [frozenBlk]; split <;> rfl
    rw [this]
    exact List.mem_append_right _ hb
   ·cases hp'
 ·let Xc : Nat → Prop := fun k => avOf X β hp k ∧ (¬ ∃ b ∈ bs, ∃ bi, β b = some bi ∧ bi.k = some k ∧ (hp b).isDead = false) ∧ ¬ ∃ b ∈ lent, ∃ bi, β b = some bi ∧ bi.k = some k
  let Wc : Nat → Prop := fun k => (∃ b ∈ bs, ∃ bi, β b = some bi ∧ bi.k = some k ∧ (hp b).isDead = false) ∨ w.heap.size ≤ k
  have hagb : ∀ b ∈ bs, hp b = st.hp.get b := fun b hb => hag b (List.mem_append_left _ hb)
  have hagl : ∀ b ∈ lent, hp b = st.hp.get b := fun b hb => hag b (List.mem_append_right _ hb)
  obtain ⟨hpart, hac⟩ := hh.part st.hp bs (AV.refsL args') hcl hagb Xc Wc (fun k h => h.1) (fun b hb bi k h1 h2 h3 => ⟨fun h => h.2.1 ⟨b, hb, bi, h1, h2, h3⟩, .inl ⟨b, hb, bi, h1, h2, h3⟩⟩) (fun k h => .inr h)
  -- lent blocks are not avoided by the callee
  have hlk : ∀ b ∈ lent, ∀ bi k, β b = some bi → bi.k = some k → ¬ avOf Xc (subβ β bs) (Hp.get (bs.map fun b => (st.hp.get b).ren (bs.idxOf ·))) k := by
   rintro b hb bi k h1 h2 (h | ⟨i, ci, e1, e2, e3⟩)
   ·exact h.2.2 ⟨b, hb, bi, h1, h2⟩
   ·simp only [subβ] at e1
    cases hbi : bs[i]? with
    | none => simp [hbi] at e1
    | some c =>
     simp only [hbi, Option.bind_some] at e1
     rw [sub_get] at e3
     simp only [hbi, ren_live] at e3
     have hmem := List.mem_of_getElem? hbi
     rw [← hagb c hmem] at e3
     obtain ⟨T, l, lv, hr⟩ := hrows b hb
     have := hh.inj b c bi ci k h1 e1 h2 e2 (by rw [hagl b hb, hr]; rfl) (live_dead e3)
     exact hlend' b hb (this ▸ hmem)
  obtain ⟨a1, a2⟩ := lendL_rep hh hac args hlend hagl hlk
  refine (hs Xc Wc (subβ β bs) w vals hpart ?_ ?_ ?_).mono ?_
  ·intro i hi
   simp only [subβ]
   rw [List.getElem?_eq_none (by simpa using hi)]
   rfl
  ·rw [renL_length, a1, hsz]
  ·intro j x v hx hv
   rw [renL_get, Option.map_eq_some_iff] at hx
   obtain ⟨y, hy, rfl⟩ := hx
   have := a2 j y v (fun x0 h0 => hvs j x0 v h0 hv) hy
   refine this.ren (fun _ h _ => h) fun b hb bi hβ => ?_
   have : b ∈ bs := contains_mem (hroots b (refsL_mem (List.mem_of_getElem? hy) hb))
   rw [subβ_idx this]
   exact hβ
  ·rintro e w' ⟨vv, βc, he, hr, hfr, hres, tr⟩
   have hnew' : ∀ i, bs.length ≤ i → i < hl.length → β (st.hp.length + (i - bs.length)) = none := by
    intro i h1 h2
    have hkey : ∀ (L : Hp U) (i0 j : Nat), j < L.length → ∃ p ∈ numbered (backNum bs st.hp.length) i0 L, p.1 = backNum bs st.hp.length (i0 + j) := by
     intro L
     induction L with
     | nil => intro i0 j h; simp at h
     | cons y L ih =>
      intro i0 j h
      cases j with
      | zero => exact ⟨_, List.mem_cons_self .., rfl⟩
      | succ j =>
       obtain ⟨p, h1, h2⟩ := ih (i0 + 1) j (by simpa using h)
       exact ⟨p, List.mem_cons_of_mem _ h1, by rw [h2]; congr 1; omega⟩
    obtain ⟨p, hp1, hp2⟩ := hkey hl 0 i h2
    rw [Nat.zero_add] at hp2
    simp only [backNum, List.getElem?_eq_none h1] at hp2
    have := hnew p (List.mem_append_left _ hp1) (by rw [hp2]; omega)
    rwa [hp2] at this
   obtain ⟨β', q1, q2, q3, q4⟩ := hh.back st.hp bs lent (AV.refsL args') hcl hagb (fun b hb => by
    obtain ⟨T, l, lv, hr⟩ := hrows b hb
    exact ⟨hlend' b hb, get_row_lt hr, T, l, lv, hr, by rw [hagl b hb, hr]⟩) Xc Wc (fun k => Iff.rfl) (fun k => Iff.rfl) hac (by omega) hr hfr tr res vv hres hnew' _ rfl
   exact ⟨vv, β', he, q1, q2, q3, q4⟩

def KeepA (A : AFun U) : Prop :=
 ∀ (R : Type) (args : List (AV U)) (h : Hp U) (K : AV U → Hp U → Option R) (r : R), A R args h K = some r →
  ∃ res new, K res (h ++ new) = some r ∧ ∀ (S : Type) (K' : AV U → Hp U → Option S), A S args h K' = K' res (h ++ new)

mutual
theorem ren_two {f g : Nat → Nat} : ∀ (x : AV U), (∀ b ∈ x.refs, g (f b) = b) → (x.ren f).ren g = x
 | .im v, _ => by rw [AV.ren, AV.ren]
 | .own b, h => by rw [AV.ren, AV.ren, h b (by simp [AV.refs])]
 | .sub b off len sz, h => by rw [AV.ren, AV.ren, h b (by simp [AV.refs])]
 | .vsl b off len sz, h => by rw [AV.ren, AV.ren, h b (by simp [AV.refs])]
 | .ptr b off, h => by rw [AV.ren, AV.ren, h b (by simp [AV.refs])]
 | .rptr b i u sz, h => by rw [AV.ren, AV.ren, h b (by simp [AV.refs])]
 | .iptr cs u, _ => by rw [AV.ren, AV.ren]
 | .agg cs, h => by rw [AV.ren, AV.ren, renL_two cs (fun b hb => h b (by rw [AV.refs]; exact hb))]
 | .tup cs, h => by rw [AV.ren, AV.ren, renL_two cs (fun b hb => h b (by rw [AV.refs]; exact hb))]
 | .clo _ cs, h => by rw [AV.ren, AV.ren, renL_two cs (fun b hb => h b (by rw [AV.refs]; exact hb))]
 | .nn T l, _ => by rw [AV.ren, AV.ren]
 | .ns, _ => by rw [AV.ren, AV.ren]
 | .mp b, h => by rw [AV.ren, AV.ren, h b (by simp [AV.refs])]
 | .gh T l i, _ => by rw [AV.ren, AV.ren]
 | .yl l, _ => by rw [AV.ren, AV.ren]
 | .und, _ => by rw [AV.ren, AV.ren]
 | .bot, _ => by rw [AV.ren, AV.ren]
theorem renL_two {f g : Nat → Nat} : ∀ (xs : List (AV U)), (∀ b ∈ AV.refsL xs, g (f b) = b) → AV.renL g (AV.renL f xs) = xs
 | [], _ => by rw [AV.renL, AV.renL]
 | x :: xs, h => by
  rw [AV.renL, AV.renL, ren_two x (fun b hb => h b (by rw [AV.refsL]; exact List.mem_append_left _ hb)), renL_two xs (fun b hb => h b (by rw [AV.refsL]; exact List.mem_append_right _ hb))]
end
theorem blk_two {f g : Nat → Nat} (x : Blk U) (h : ∀ b ∈ x.refs, g (f b) = b) : (x.ren f).ren g = x := by
 cases x with
 | var cs =>
  show Blk.var (AV.renL g (AV.renL f cs)) = _
  rw [renL_two cs h]
 | _ => rfl

theorem refsL_ex {xs : List (AV U)} {b : Nat} (h : b ∈ AV.refsL xs) : ∃ (j : Nat) (x : AV U), xs[j]? = some x ∧ b ∈ x.refs := by
 induction xs with
 | nil => simp [AV.refsL] at h
 | cons x xs ih =>
  rw [AV.refsL, List.mem_append] at h
  rcases h with h | h
  ·exact ⟨0, x, rfl, h⟩
  ·obtain ⟨j, y, h1, h2⟩ := ih h
   exact ⟨j + 1, y, h1, h2⟩
theorem noSubL_mem {xs : List (AV U)} (h : AV.noSubL xs = true) {j : Nat} {x : AV U} (hx : xs[j]? = some x) : x.noSub = true := by
 induction xs generalizing j with
 | nil => simp at hx
 | cons y xs ih =>
  rw [AV.noSubL, Bool.and_eq_true] at h
  cases j with
  | zero => simp at hx; subst hx; exact h.1
  | succ j => exact ih h.2 (by simpa using hx)

theorem rep_known {av : Nat → Prop} {x : AV U} {v : Value} (h : RepA E.cc w av β x v) : x.noSub = true → ∀ b ∈ x.refs, β b ≠ none := by
 induction h with
 | own0 h => intro _ b hb; simp [AV.refs] at hb; subst hb; rw [h]; simp
 | own h => intro _ b hb; simp [AV.refs] at hb; subst hb; rw [h]; simp
 | ptr h => intro _ b hb; simp [AV.refs] at hb; subst hb; rw [h]; simp
 | mp h => intro _ b hb; simp [AV.refs] at hb; subst hb; rw [h]; simp
 | rptr h => intro _ b hb; simp [AV.refs] at hb; subst hb; rw [h]; simp
 | sub0 => intro h; simp [AV.noSub] at h
 | sub => intro h; simp [AV.noSub] at h
 | vsl0 => intro h; simp [AV.noSub] at h
 | vsl => intro h; simp [AV.noSub] at h
 | @agg xs vs hl h ih =>
  intro hn b hb
  rw [AV.noSub] at hn
  rw [AV.refs] at hb
  obtain ⟨j, x, hx, hb⟩ := refsL_ex hb
  have hj : j < vs.size := by rw [hl]; exact (List.getElem?_eq_some_iff.1 hx).1
  exact ih j x vs[j] hx (Array.getElem?_eq_getElem hj) (noSubL_mem hn hx) b hb
 | @tup xs vs hl h ih =>
  intro hn b hb
  rw [AV.noSub] at hn
  rw [AV.refs] at hb
  obtain ⟨j, x, hx, hb⟩ := refsL_ex hb
  have hj : j < vs.size := by rw [hl]; exact (List.getElem?_eq_some_iff.1 hx).1
  exact ih j x vs[j] hx (Array.getElem?_eq_getElem hj) (noSubL_mem hn hx) b hb
 | @clo g xs vs hl h ih =>
  intro hn b hb
  rw [AV.noSub] at hn
  rw [AV.refs] at hb
  obtain ⟨j, x, hx, hb⟩ := refsL_ex hb
  have hj : j < vs.size := by rw [hl]; exact (List.getElem?_eq_some_iff.1 hx).1
  exact ih j x vs[j] hx (Array.getElem?_eq_getElem hj) (noSubL_mem hn hx) b hb
 | _ => intro _ b hb; simp [AV.refs] at hb

theorem blk_known {av : Nat → Prop} {x : Blk U} {bi : BI} (h : BlkOK E.cc w av β bi x) (hn : x.noSub = true) : ∀ b ∈ x.refs, β b ≠ none := by
 cases x with
 | var cs =>
  obtain ⟨k, c, t, _, _, hs, hc⟩ := h
  intro b hb
  obtain ⟨j, x, hx, hb⟩ := refsL_ex hb
  have hj : j < c.size := by rw [hs]; exact (List.getElem?_eq_some_iff.1 hx).1
  exact rep_known (hc j x c[j] hx (Array.getElem?_eq_getElem hj)).1 (noSubL_mem hn hx) b hb
 | dead => intro b hb; simp [Blk.refs] at hb
 | row => intro b hb; simp [Blk.refs] at hb
 | map => intro b hb; simp [Blk.refs] at hb

theorem reach_seen (h : Hp U) : ∀ (n : Nat) (todo seen : List Nat) (x : Nat), x ∈ seen → x ∈ reach h n todo seen
 | 0, _, _, x, hx => by rw [reach]; exact hx
 | n + 1, [], _, x, hx => by rw [reach]; exact hx
 | n + 1, b :: todo, seen, x, hx => by
  rw [reach]
  split
  ·exact reach_seen h n todo seen x hx
  ·exact reach_seen h n _ _ x (List.mem_append_left _ hx)
theorem reach_all (h : Hp U) (G : Nat → Prop) : ∀ (n : Nat) (todo seen : List Nat), (∀ b, b ∈ reach h n todo seen → G b → ∀ c ∈ (h.get b).refs, G c) → (∀ b ∈ todo, G b) → (∀ b ∈ seen, G b) → ∀ b ∈ reach h n todo seen, G b
 | 0, _, _, _, _, hs, b, hb => by rw [reach] at hb; exact hs b hb
 | n + 1, [], _, _, _, hs, b, hb => by rw [reach] at hb; exact hs b hb
 | n + 1, c :: todo, seen, hst, ht, hs, b, hb => by
  rw [reach] at hb hst
  split at hb
  ·rename_i hc
   rw [if_pos hc] at hst
   exact reach_all h G n todo seen hst (fun b hb => ht b (List.mem_cons_of_mem _ hb)) hs b hb
  ·rename_i hc
   rw [if_neg hc] at hst
   have hc1 : c ∈ reach h n ((h.get c).refs ++ todo) (seen ++ [c]) := reach_seen h n _ _ c (List.mem_append_right _ (List.mem_singleton.2 rfl))
   have gc := ht c (List.mem_cons_self ..)
   refine reach_all h G n _ _ hst (fun b hb => ?_) (fun b hb => ?_) b hb
   ·rcases List.mem_append.1 hb with hb | hb
    ·exact hst c hc1 gc b hb
    ·exact ht b (List.mem_cons_of_mem _ hb)
   ·rcases List.mem_append.1 hb with hb | hb
    ·exact hs b hb
    ·rw [List.mem_singleton.1 hb]; exact gc

theorem numbered_append (f : Nat → Nat) : ∀ (a b : Hp U) (i : Nat), numbered f i (a ++ b) = numbered f i a ++ numbered f (i + a.length) b
 | [], b, i => by simp [numbered]
 | x :: a, b, i => by
  simp only [List.cons_append, numbered, List.length_cons]
  rw [numbered_append f a b (i + 1), show i + 1 + a.length = i + (a.length + 1) by omega]
theorem numbered_length (f : Nat → Nat) : ∀ (a : Hp U) (i : Nat), (numbered f i a).length = a.length
 | [], i => rfl
 | x :: a, i => by simp [numbered, numbered_length f a (i + 1)]
theorem upds_noop {hp : Nat → Blk U} : ∀ {ws : List (Nat × Blk U)}, (∀ p ∈ ws, hp p.1 = p.2) → upds hp ws = hp
 | [], _ => rfl
 | (b, x) :: ws, h => by
  rw [upds]
  have e : upd1 hp b x = hp := by
   funext c
   unfold upd1
   split
   ·rename_i e; rw [e]; exact (h (b, x) (List.mem_cons_self ..)).symm
   ·rfl
  rw [e]
  exact upds_noop fun p hp' => h p (List.mem_cons_of_mem _ hp')
theorem upds_app2 (hp : Nat → Blk U) : ∀ (ws ws' : List (Nat × Blk U)), upds hp (ws ++ ws') = upds (upds hp ws) ws'
 | [], _ => rfl
 | (b, x) :: ws, ws' => by
  rw [List.cons_append, upds, upds]
  exact upds_app2 _ ws ws'
theorem numbered_at (f : Nat → Nat) : ∀ (a : Hp U) (i : Nat) (p : Nat × Blk U), p ∈ numbered f i a → ∃ (j : Nat) (x : Blk U), a[j]? = some x ∧ p = (f (i + j), x.ren f)
 | [], i, p, h => by cases h
 | x :: a, i, p, h => by
  rcases List.mem_cons.1 h with rfl | h
  ·exact ⟨0, x, rfl, rfl⟩
  ·obtain ⟨j, y, h1, h2⟩ := numbered_at f a (i + 1) p h
   exact ⟨j + 1, y, h1, by rw [h2]; congr 2; omega⟩

theorem callF_ok {st : St U} {f : FuncId} {args : List (AV U)} {K : KO U R} {r : R} (hΓ : ∀ A, E.Γ.lookup f = some A → SoundF P E.cc f A)
  (hk : E.ro.contains f = true → ∀ A, E.Γ.lookup f = some A → KeepA A) (h : callF E st f args K = some r) :
  ∃ v ws rd, K v ws rd = some r ∧ (∀ p ∈ ws, p.1 ∈ rd ∨ st.hp.length ≤ p.1) ∧ ∀ {X W0 : Nat → Prop} {β : Nat → Option BI} {hp : Nat → Blk U} {w : World} {vals : Array Value}, HRel E.cc X W0 β hp w →
   vals.size = args.length → (∀ (j : Nat) (x : AV U) (u : Value), args[j]? = some x → vals[j]? = some u → RepA E.cc w (avOf X β hp) β x u) →
   (∀ b ∈ rd, hp b = st.hp.get b) → (∀ p ∈ ws, st.hp.length ≤ p.1 → β p.1 = none) →
   Calls P f vals w fun e w' => ∃ vv β', e = .returned vv ∧ HRel E.cc X W0 β' (upds hp ws) w' ∧ RepA E.cc w' (avOf X β' (upds hp ws)) β' v vv ∧ Tr X W0 β hp w β' (upds hp ws) w' ∧
    (∀ b, β b = none → (∀ p ∈ ws, p.1 ≠ b) → β' b = none) := by
 unfold callF at h
 cases hro : E.ro.contains f with
 | false => rw [hro] at h; exact callG_ok hΓ h
 | true =>
 rw [hro] at h
 have h' := h
 unfold callG at h'
 split at h'
 ·cases h'
 rename_i A hA
 split at h'
 ·cases h'
 rename_i args' lent hlend
 simp only [] at h'
 split at h'
 ·cases h'
 rename_i hc
 obtain ⟨cond, hcond⟩ : ∃ c, c = (AV.noSubL args' && (reach st.hp 4000 (AV.refsL args') []).all fun b => (st.hp.get b).noSub) := ⟨_, rfl⟩
 rw [← hcond, Bool.true_and] at h'
 cases cond with
 | false =>
  refine callG_ok hΓ (f := f) (args := args) (K := K) (st := st) ?_
  unfold callG
  rw [hA]
  simp only [hlend]
  rw [if_neg hc, Bool.false_and]
  exact h'
 | true =>
 simp only [] at h'
 obtain ⟨res, new, h1, h2⟩ := hk hro A hA _ _ _ _ _ h'
 generalize hbs : reach st.hp 4000 (AV.refsL args') [] = bs at h1 h2 hc hcond
 have hlen : (bs.map fun b => (st.hp.get b).ren (bs.idxOf ·)).length = bs.length := by simp
 have hnl : ¬ ((bs.map fun b => (st.hp.get b).ren (bs.idxOf ·)) ++ new).length < bs.length := by rw [List.length_append, hlen]; omega
 rw [if_neg hnl] at h1
 have h0 : callG false E st f args (fun v ws rd => some (v, ws, rd)) = some (res.ren (backNum bs st.hp.length), numbered (backNum bs st.hp.length) 0 ((bs.map fun b => (st.hp.get b).ren (bs.idxOf ·)) ++ new) ++
   (if res.imRef || ((bs.map fun b => (st.hp.get b).ren (bs.idxOf ·)) ++ new).any (Blk.imRef E.cc) then lent.map (frozenBlk st.hp) else []), bs ++ lent) := by
  unfold callG
  rw [hA]
  simp only [hlend, hbs]
  rw [if_neg hc, Bool.false_and]
  simp only []
  rw [h2, if_neg hnl]
 obtain ⟨v, ws, rd, e, g1, g2⟩ := callG_ok hΓ h0
 simp only [Option.some.injEq, Prod.mk.injEq] at e
 obtain ⟨rfl, rfl, rfl⟩ := e
 generalize hfz : (if res.imRef || ((bs.map fun b => (st.hp.get b).ren (bs.idxOf ·)) ++ new).any (Blk.imRef E.cc) then lent.map (frozenBlk st.hp) else []) = fz at h1 g1 g2
 rw [numbered_append, hlen, Nat.zero_add] at h1 g1 g2
 have hd : (numbered (backNum bs st.hp.length) 0 (bs.map fun b => (st.hp.get b).ren (bs.idxOf ·)) ++ numbered (backNum bs st.hp.length) bs.length new).drop bs.length = numbered (backNum bs st.hp.length) bs.length new := by
  rw [List.drop_append_of_le_length (by rw [numbered_length, hlen]; exact Nat.le_refl _), List.drop_of_length_le (by rw [numbered_length, hlen]; exact Nat.le_refl _), List.nil_append]
 rw [hd] at h1
 refine ⟨_, _, _, h1, fun p hp => g1 p ?_, @fun X W0 β hp w vals hh hsz hvs hag hnew => ?_⟩
 ·rcases List.mem_append.1 hp with hp | hp
  ·exact List.mem_append_left _ (List.mem_append_right _ hp)
  ·exact List.mem_append_right _ hp
 ·have hcl : closedB st.hp (AV.refsL args') bs = true := by
   simp only [Bool.or_eq_true, Bool.not_eq_true', not_or, Bool.not_eq_true, Bool.not_eq_false] at hc
   exact hc.2
  have hroots := hcl
  simp only [closedB, Bool.and_eq_true, List.all_eq_true, decide_eq_true_eq] at hroots
  obtain ⟨⟨⟨hroots, hclo⟩, hnd⟩, hlt⟩ := hroots
  have hagb : ∀ b ∈ bs, hp b = st.hp.get b := fun b hb => hag b (List.mem_append_left _ hb)
  have hagl : ∀ b ∈ lent, hp b = st.hp.get b := fun b hb => hag b (List.mem_append_right _ hb)
  rw [eq_comm, Bool.and_eq_true, List.all_eq_true] at hcond
  have hback : ∀ b ∈ bs, backNum bs st.hp.length (bs.idxOf b) = b := fun b hb => by
   unfold backNum
   rw [idxOf_get hb]
  have hold : ∀ p ∈ numbered (backNum bs st.hp.length) 0 (bs.map fun b => (st.hp.get b).ren (bs.idxOf ·)), ∃ b ∈ bs, p = (b, st.hp.get b) := by
   intro p hp'
   obtain ⟨j, x, hx, rfl⟩ := numbered_at _ _ _ _ hp'
   rw [List.getElem?_map, Option.map_eq_some_iff] at hx
   obtain ⟨b, hb, rfl⟩ := hx
   have hm := List.mem_of_getElem? hb
   refine ⟨b, hm, ?_⟩
   rw [Nat.zero_add]
   have e1 : backNum bs st.hp.length j = b := by unfold backNum; rw [hb]
   rw [e1, blk_two _ fun c hc => hback c (contains_mem (hclo b hm c hc))]
  have hknown : ∀ b ∈ bs, β b ≠ none := by
   rw [← hbs]
   refine reach_all st.hp (fun b => β b ≠ none) 4000 _ [] (fun b hb hg c hc => ?_) (fun b hb => ?_) (fun b hb => nomatch hb)
   ·rw [hbs] at hb
    cases hβ : β b with
    | none => exact absurd hβ hg
    | some bi =>
     have hok := hh.ok b bi hβ
     rw [hagb b hb] at hok
     exact blk_known hok (hcond.2 b hb) c hc
   ·obtain ⟨j, x, hx, hb⟩ := refsL_ex hb
    obtain ⟨a1, a2⟩ := lendL_rep (avc := fun _ => False) hh (fun k h => h.elim) args hlend hagl (fun _ _ _ _ _ _ h => h)
    have hj : j < vals.size := by
     have := (List.getElem?_eq_some_iff.1 hx).1
     omega
    exact rep_known (a2 j x vals[j] (fun x0 h0 => hvs j x0 _ h0 (Array.getElem?_eq_getElem hj)) hx) (noSubL_mem hcond.1 hx) b hb
  have key : upds hp (numbered (backNum bs st.hp.length) 0 (bs.map fun b => (st.hp.get b).ren (bs.idxOf ·)) ++ numbered (backNum bs st.hp.length) bs.length new ++ fz) = upds hp (numbered (backNum bs st.hp.length) bs.length new ++ fz) := by
   have e : upds hp (numbered (backNum bs st.hp.length) 0 (bs.map fun b => (st.hp.get b).ren (bs.idxOf ·))) = hp := upds_noop fun p hp' => by
    obtain ⟨b, hb, rfl⟩ := hold p hp'
    exact hagb b hb
   rw [List.append_assoc, upds_app2, e]
  refine (g2 hh hsz hvs hag ?_).mono ?_
  ·intro p hp' hle
   rcases List.mem_append.1 hp' with hp' | hp'
   ·rcases List.mem_append.1 hp' with hp' | hp'
    ·obtain ⟨b, hb, rfl⟩ := hold p hp'
     exact absurd (hlt b hb) (by omega)
    ·exact hnew p (List.mem_append_left _ hp') hle
   ·exact hnew p (List.mem_append_right _ hp') hle
  ·rintro e w' ⟨vv, β', e1, e2, e3, e4, e5⟩
   rw [key] at e2 e3 e4
   refine ⟨vv, β', e1, e2, e3, e4, fun b hb hnb => ?_⟩
   by_cases hm : b ∈ bs
   ·exact absurd hb (hknown b hm)
   ·refine e5 b hb fun p hp' => ?_
    rcases List.mem_append.1 hp' with hp' | hp'
    ·rcases List.mem_append.1 hp' with hp' | hp'
     ·obtain ⟨c, hc, rfl⟩ := hold p hp'
      rintro rfl
      exact hm hc
     ·exact hnb p (List.mem_append_left _ hp')
    ·exact hnb p (List.mem_append_right _ hp')

end Go.Proofs.Ytmlbioapefgioaa.Va

