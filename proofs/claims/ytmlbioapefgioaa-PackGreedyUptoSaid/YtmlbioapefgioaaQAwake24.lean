/- Layer 24: what must come at any rate, comes. -/
import Derived.Test.YtmlbioapefgioaaQPack2
namespace Go.Proofs.Ytmlbioapefgioaa.Pure
open Go Go.Proofs.Ytmlbioapefgioaa.Va
set_option linter.unusedVariables false
set_option linter.unusedSimpArgs false

def ten24 (n : Nat) : List ItemV := (List.range n).map fun (i : Nat) => ⟨(i : Int), ByteArray.mk (List.toArray [97])⟩
theorem ten24_len (n : Nat) : (ten24 n).length = n := by simp [ten24]
theorem ten24_gd : Gd (ten24 10) := fun x hx => by
  unfold ten24 at hx
  obtain ⟨i, hi, rfl⟩ := List.mem_map.1 hx
  rw [List.mem_range] at hi
  exact ⟨inR_u32 (by show (0 : Int) ≤ (i : Int) ∧ (i : Int) < 4294967296; omega), by show 1 ≤ 64; decide⟩
theorem none0_At (key : Int) : pack_At_none0.c key = some (-1) := by
  have e : w64 (imin 0 1 - 1) = -1 := by rw [show imin 0 1 = 0 from rfl, w64_of (by omega) (by omega)]; rfl
  have hL : pack_At_none0.L3 key (-1) 0 0 = some () := Lp_end (by
    simp only [pack_At_none0.l3]
    rw [bb_neg (decide_eq_false (by omega))]
    rfl)
  simp only [pack_At_none0.c, pack_At_none0.t, e, Tw.run_opt, Tw.run_ret, hL, Option.bind_some]
theorem none0_Put (R key : Int) (b : ByteArray) : pack_Put_none0.c R key b = some (0, (0, (1, [[⟨key, b⟩]]))) := by
  have hw := pack_with0_eq (more := [[⟨key, b⟩]]) (by simp) (fun l h => by rw [List.mem_singleton] at h; subst h; simp)
  simp only [pack_Put_none0.c, pack_Put_none0.t, Tw.run_opt, none0_At, Option.bind_some]
  rw [bb_pos (by rfl)]
  simp only [Tw.run_opt, hw, Option.bind_some]
  rfl

theorem awake24 : law24_awake.c = some true := by
  have h3 : law24_awake.L3 0 [] = some (ten24 10) := by
    refine Lp_seq (fun s => (law24_awake.l3 s.1 s.2).run) (fun i => ((i : Int), ten24 i)) 10 0 (fun i _ hi => ?_) ?_
    · have e1 : w32 ((i : Int) + 1) = ((i + 1 : Nat) : Int) := by rw [w32_of (by omega) (by omega)]; omega
      have hl := ten24_len i
      show (law24_awake.l3 (i : Int) (ten24 i)).run = some (Sum.inl (((i + 1 : Nat) : Int), ten24 (i + 1)))
      have hr : ten24 (i + 1) = ten24 i ++ [⟨(i : Int), ByteArray.mk (List.toArray [97])⟩] := by simp [ten24, List.range_succ]
      simp only [law24_awake.l3]
      rw [bb_pos (decide_eq_true (by omega)), dd_pos (by simp only [List.length_cons, List.length_nil]; omega), e1, hr]
      rfl
    · simp only [law24_awake.l3]
      rw [bb_neg (decide_eq_false (by omega))]
      rfl
  have hg : pack_Greedy.c (ten24 10) 62 = some [ten24 10] := by
    rw [pack_Greedy_eq ten24_gd (by rw [ten24_len]; omega)]
    have hf : frontN (ten24 10) 62 = 10 := by decide
    rw [grd_cons (by rw [ten24_len]; omega), hf, List.take_of_length_le (by rw [ten24_len]; omega), List.drop_of_length_le (by rw [ten24_len]; omega), grd_nil]
  have hfit : pack_Fits.c [ten24 10] 62 = some true := by
    have hb := totI_le64 (fun x hx => (ten24_gd x hx).2)
    rw [ten24_len] at hb
    rw [pack_Fits_eq (fun l h => by rw [List.mem_singleton] at h; subst h; exact ⟨ten24_gd.its, by omega, by rw [ten24_len]; omega⟩) (by simp [ten24_len]) (by simp)]
    rfl
  have h0 : (ten24 10)[0]? = some ⟨0, ByteArray.mk (List.toArray [97])⟩ := rfl
  simp only [law24_awake.c, law24_awake.t, Tw.run_opt, h3, hg, Option.bind_some]
  rw [dd_pos (by rw [ten24_len]; omega)]
  simp only [show Int.toNat (0 : Int) = 0 from rfl, h0, Tw.run_opt, none0_Put, Option.bind_some]
  rw [bb_pos (by rfl), dd_pos (by simp)]
  simp only [show Int.toNat (0 : Int) = 0 from rfl, List.getElem?_cons_zero, Tw.run_opt, Option.bind_some]
  rw [bb_pos (by rw [ten24_len]; rfl)]
  simp only [Tw.run_opt, hfit, Option.bind_some]
  rw [bb_pos (by rfl), bb_pos (by rfl)]
  rfl

end Go.Proofs.Ytmlbioapefgioaa.Pure
