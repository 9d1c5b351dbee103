/- The plain truth of RecordBack. -/
import Derived.Test.YtpidbpmkogbdeaaFlaw14
import Derived.Test.YtpidbpmkogbdeaaFlaw14RecordBack
import Derived.Test.YtpidbpmkogbdeaaQAwake14
namespace Go.Proofs.Ytpidbpmkogbdeaa.Pure
open Go Go.Proofs.Ytpidbpmkogbdeaa.Va
set_option linter.unusedVariables false
set_option linter.unusedSimpArgs false

theorem RecordBack (a0_0 : Int) (a0_1 : List FieldV) (a1_0 : Int) (a1_1 : List ValueV) (a2 : List Int) (w0 : InR .i64 a0_0) (w1 : a0_1.length * 40 ≤ reachBytes) (w2 : ∀ x3 ∈ a0_1, InR .i64 x3.id ∧ InR .i64 x3.kind ∧ InR .i64 x3.lo ∧ InR .i64 x3.hi ∧ InR .i64 x3.most) (w3 : InR .i64 a1_0) (w4 : a1_1.length * 24 ≤ reachBytes) (w5 : ∀ x11 ∈ a1_1, InR .i64 x11.n ∧ x11.s.size ≤ reachBytes) (w6 : a2.length * 1 ≤ reachBytes) (w7 : ∀ x15 ∈ a2, InR .u8 x15) : law14_RecordBack.c a0_0 a0_1 a1_0 a1_1 a2 = some true := by
  simp only [law14_RecordBack.c, law14_RecordBack.t]
  have rb := reach_eq
  rw [opt_some (law14_great_eq ..)]
  by_cases hg : 40 < a0_1.length ∨ 40 < a1_1.length
  · rw [decide_eq_true hg, bb_pos (by rfl), opt_some awake14, Tw.run_ret]
  rw [decide_eq_false hg, bb_neg (by rfl), opt_some (record_Lay_eq a0_0 a1_0 (by omega))]
  have key : ∀ (x y : Tw Bool), x.run = some true → y.run = some true → (Tw.opt (record_Take.c a0_0 a0_1 a2) fun z3 =>
      (Tw.bb (z3.2.1 == (0 : Int))
       (Tw.opt (record_Lay.c a0_0 a0_1 z3.1 z3.2.2) fun z5 =>
        (Tw.bb (!((ByteArray.toList (l2b z5.2)) == (ByteArray.toList (l2b a2))))
         (Tw.ret false)
         (Tw.bb (z5.1 != (0 : Int))
          (Tw.ret false)
          x)))
       y)).run = some true := by
    intro x y hx hy
    rw [opt_some (record_Take_eq a0_0 w7 (show a2.length ≤ 140737488355328 by omega))]
    by_cases hf : fineF a0_0 a0_1
    rotate_left
    · rw [if_neg hf, bb_neg (by rfl), hy]
    rw [if_pos hf]
    by_cases h0 : (tkR a0_0 a0_1 a2).2.1 = 0
    rotate_left
    · rw [bb_neg (by simpa using h0), hy]
    obtain ⟨vs, h1, h2, h3⟩ := tkR_back hf w7 h0
    have hlen := ((hasL_iff _ _).1 h2).1
    have hr : hasR a0_0 a0_1 a0_0 vs := ⟨hf, rfl, h2⟩
    rw [h1, bb_pos (by rfl), opt_some (record_Lay_eq _ _ (by simp only; omega))]
    simp only
    rw [if_pos hf, if_pos hr, h3, bb_neg (by simp), bb_neg (by rfl), hx]
  have haw : (Tw.opt law14_awake.c fun z6 => Tw.ret z6).run = some true := by rw [opt_some awake14, Tw.run_ret]
  by_cases hr : hasR a0_0 a0_1 a1_0 a1_1
  rotate_left
  · have : ((if fineF a0_0 a0_1 then if hasR a0_0 a0_1 a1_0 a1_1 then ((0 : Int), layR a0_1 a1_1) else (16, []) else (2, []) : Int × List Int).1 == 0) = false := by
      rw [if_neg hr]
      split <;> rfl
    rw [bb_neg this]
    exact key _ _ haw haw
  have hlay := layR_len hr.2.2
  have hlen := ((hasL_iff _ _).1 hr.2.2).1
  have hl8 := hr.1.2.1.2
  have ht := takR_lay (l := a0_1) (vs := a1_1) [] [] hr.2.2
  rw [List.append_nil] at ht
  have hT : tkR a0_0 a0_1 (layR a0_1 a1_1) = (a0_0, 0, a1_1) := by
    unfold tkR
    rw [ht]
    simp
  have he : a1_0 = a0_0 := hr.2.1
  rw [if_pos hr.1, if_pos hr, bb_pos (by rfl), opt_some (record_Take_eq a0_0 hlay.2.2 (by omega)), if_pos hr.1, hT, opt_some (ref14_Same_eq _ _ (by simp only; omega)), bb_neg (by simp [he]), bb_neg (by rfl), opt_some (ref13_Long_eq a0_0 (by omega)), bb_neg (decide_eq_false (by simp only; omega))]
  exact key _ _ haw haw

end Go.Proofs.Ytpidbpmkogbdeaa.Pure
