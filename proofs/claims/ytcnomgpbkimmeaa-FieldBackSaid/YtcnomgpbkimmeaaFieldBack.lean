/- The plain truth of FieldBack. -/
import Derived.Test.YtcnomgpbkimmeaaFlaw12
import Derived.Test.YtcnomgpbkimmeaaQAwake12
namespace Go.Proofs.Ytcnomgpbkimmeaa.Pure
open Go Go.Proofs.Ytcnomgpbkimmeaa.Va
set_option linter.unusedVariables false
set_option linter.unusedSimpArgs false

theorem FieldBack (a0_0 : Int) (a0_1 : Int) (a0_2 : Int) (a0_3 : Int) (a0_4 : Int) (a1_0 : Int) (a1_1 : ByteArray) (a2 : List Int) (w0 : InR .i64 a0_0) (w1 : InR .i64 a0_1) (w2 : InR .i64 a0_2) (w3 : InR .i64 a0_3) (w4 : InR .i64 a0_4) (w5 : InR .i64 a1_0) (w6 : a1_1.size ≤ reachBytes) (w7 : a2.length * 1 ≤ reachBytes) (w8 : ∀ x9 ∈ a2, InR .u8 x9) : law12_FieldBack.c a0_0 a0_1 a0_2 a0_3 a0_4 a1_0 a1_1 a2 = some true := by
  have hl : a2.length ≤ 140737488351232 := by rw [reach_eq] at w7; omega
  have key : (Tw.bb ((takF a0_0 a0_1 a0_2 a0_3 a0_4 a2).2.2.2 == 0)
     (Tw.opt (field_Lay.c a0_0 a0_1 a0_2 a0_3 a0_4 (takF a0_0 a0_1 a0_2 a0_3 a0_4 a2).1 (takF a0_0 a0_1 a0_2 a0_3 a0_4 a2).2.1) fun z4 =>
      (Tw.bb (z4.1 != (0 : Int))
       (Tw.ret false)
       (Tw.bb (decide ((takF a0_0 a0_1 a0_2 a0_3 a0_4 a2).2.2.1 < (0 : Int)))
        (Tw.ret false)
        (Tw.bb (decide ((takF a0_0 a0_1 a0_2 a0_3 a0_4 a2).2.2.1 > (((List.length a2) : Nat) : Int)))
         (Tw.ret false)
         (Tw.dd ((((0 : Int) ≤ (takF a0_0 a0_1 a0_2 a0_3 a0_4 a2).2.2.1) ∧ ((takF a0_0 a0_1 a0_2 a0_3 a0_4 a2).2.2.1 ≤ (((List.length a2) : Nat) : Int)))) inferInstance
          (Tw.bb (!((ByteArray.toList (l2b z4.2)) == (ByteArray.toList (l2b (List.take (Int.toNat (takF a0_0 a0_1 a0_2 a0_3 a0_4 a2).2.2.1) a2)))))
           (Tw.ret false)
           (Tw.opt (field_Has.c a0_0 a0_1 a0_2 a0_3 a0_4 (takF a0_0 a0_1 a0_2 a0_3 a0_4 a2).1 (takF a0_0 a0_1 a0_2 a0_3 a0_4 a2).2.1) fun z5 =>
            (Tw.bb (!z5)
             (Tw.ret false)
             (Tw.opt (some true) fun z6 =>
              (Tw.ret z6)))))
          Tw.no)))))
     (Tw.opt (some true) fun z3 =>
      (Tw.ret z3))).run = some true := by
    by_cases h : (takF a0_0 a0_1 a0_2 a0_3 a0_4 a2).2.2.2 = 0
    rotate_left
    · rw [bb_neg (by simpa using h)]
      rfl
    obtain ⟨hh, n, hn, hnl, hlay⟩ := lay_takF w8 h
    rw [bb_pos (by simpa using h)]
    simp only [Tw.run_opt, field_Lay_eq, if_pos hh.1, if_pos hh, Option.bind_some]
    rw [bb_neg (by rfl), bb_neg (decide_eq_false (by omega)), bb_neg (decide_eq_false (by omega)), dd_pos (by omega), hn, Int.toNat_natCast, hlay, bb_neg (by simp)]
    simp only [Tw.run_opt, field_Has_eq, decide_eq_true hh, Option.bind_some]
    rw [bb_neg (by rfl)]
    rfl
  simp only [law12_FieldBack.c, law12_FieldBack.t, awake12, Tw.run_opt, field_Lay_eq, Option.bind_some]
  have hT := field_Take_eq a0_0 a0_1 a0_2 a0_3 a0_4 w8 (show a2.length ≤ 140737488355328 by omega)
  have other : ∀ x : Int × List Int, (x.1 == 0) = false → (Tw.bb (x.1 == 0) (Tw.no) (Tw.opt (field_Take.c a0_0 a0_1 a0_2 a0_3 a0_4 a2) fun z2 => Tw.ret true)).run = some true := fun x hx => by
    rw [bb_neg hx, Tw.run_opt, hT]
    rfl
  by_cases h : hasF a0_0 a0_1 a0_2 a0_3 a0_4 a1_0 a1_1
  rotate_left
  · have : ((if rgtF a0_0 a0_1 a0_2 a0_3 a0_4 then if hasF a0_0 a0_1 a0_2 a0_3 a0_4 a1_0 a1_1 then ((0 : Int), layF a0_1 a0_2 a0_3 a0_4 a1_0 a1_1) else (16, []) else (2, []) : Int × List Int).1 == 0) = false := by
      rw [if_neg h]
      split <;> rfl
    rw [bb_neg this]
    simp only [Tw.run_opt, hT, Option.bind_some]
    simp only [Tw.run_opt, field_Lay_eq] at key
    exact key
  have hlen := layF_len h
  have hlb := layF_bytes h
  have htk := takF_lay h a2
  rw [if_pos h.1, if_pos h, bb_pos (by rfl), dd_pos (by show (layF _ _ _ _ _ _).length * 1 ≤ _ ∧ (layF _ _ _ _ _ _).length ≤ _; omega), dd_pos (by show ((layF _ _ _ _ _ _).length + _) * 1 ≤ _ ∧ (layF _ _ _ _ _ _).length + _ ≤ _; omega)]
  have hT2 : field_Take.c a0_0 a0_1 a0_2 a0_3 a0_4 (layF a0_1 a0_2 a0_3 a0_4 a1_0 a1_1 ++ a2) = some (a1_0, a1_1, ((layF a0_1 a0_2 a0_3 a0_4 a1_0 a1_1).length : Int), 0) := by
    rw [← htk]
    refine field_Take_eq _ _ _ _ _ (fun x hx => ?_) (by rw [List.length_append]; omega)
    rcases List.mem_append.1 hx with hx | hx
    · exact hlb x hx
    · exact w8 x hx
  simp only [Tw.run_opt, hT2, Option.bind_some, field_Size_eq]
  rw [bb_neg (by simp), bb_neg (by simp), bb_neg (by rfl)]
  simp only [Tw.run_opt, Option.bind_some, hT]
  rw [bb_neg (decide_eq_false (by omega))]
  simp only [field_Lay_eq] at key ⊢
  exact key

end Go.Proofs.Ytcnomgpbkimmeaa.Pure
