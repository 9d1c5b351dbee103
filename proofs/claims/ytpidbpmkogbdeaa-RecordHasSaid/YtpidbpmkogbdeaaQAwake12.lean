/- Layer 12: what must come at any rate, comes; there and back. -/
import Derived.Test.YtpidbpmkogbdeaaQField
namespace Go.Proofs.Ytpidbpmkogbdeaa.Pure
open Go Go.Proofs.Ytpidbpmkogbdeaa.Va
set_option linter.unusedVariables false
set_option linter.unusedSimpArgs false

theorem rgt_has {d k lo hi m : Int} (h : rgtF d k lo hi m) : hasF d k lo hi m (loF k lo) ByteArray.empty := by
  obtain ⟨h1, _, _⟩ := rng_of h
  refine ⟨h, Int.le_refl _, by omega, ?_⟩
  have := h.2
  unfold moF
  split
  · show (0 : Int) ≤ m
    omega
  · exact Int.le_refl _

theorem takF_lay {d k lo hi m n : Int} {s : ByteArray} (h : hasF d k lo hi m n s) (more : List Int) :
    takF d k lo hi m (layF k lo hi m n s ++ more) = (n, s, ((layF k lo hi m n s).length : Int), 0) := by
  obtain ⟨hr, h1, h2, h3⟩ := id h
  obtain ⟨r1, r2, r3⟩ := rng_of hr
  unfold takF
  rw [if_pos hr]
  by_cases h4 : k = 4
  · have hmo : moF k m = m := by unfold moF; rw [if_pos h4]
    have hlo : loF k lo = 0 := by unfold loF; rw [if_neg (by omega)]
    have hhi : hiF k hi m = 0 := by unfold hiF; rw [if_neg (by omega), if_neg (by omega), if_neg (by omega)]
    have hc : cntF k lo hi m = 1 := by unfold cntF; rw [if_pos h4]
    have hl : layF k lo hi m n s = (s.size : Int) :: b2l s := by unfold layF; rw [if_pos h4]
    have hv : valB (((s.size : Int) :: b2l s ++ more).take 1) = s.size := by
      show valB [(s.size : Int)] = _
      simp [valB]
    have hlen : ((s.size : Int) :: b2l s ++ more).length = s.size + 1 + more.length := by
      rw [List.length_append, List.length_cons, b2l_len]
    rw [hc, hl, hv, hlen, if_neg (by omega), if_pos h4, if_neg (by omega), if_neg (by omega)]
    have e : (((s.size : Int) :: b2l s ++ more).drop 1).take s.size = b2l s := by
      show (b2l s ++ more).take s.size = b2l s
      rw [List.take_append_of_le_length (by rw [b2l_len]; exact Nat.le_refl _), List.take_of_length_le (by rw [b2l_len]; exact Nat.le_refl _)]
    rw [e, l2b_b2l, List.length_cons, b2l_len, show n = 0 by omega, Nat.add_comm]
  · have hmo : moF k m = 0 := by unfold moF; rw [if_neg h4]
    have hc : cntF k lo hi m = widF k lo hi m := by unfold cntF; rw [if_neg h4]
    have hl : layF k lo hi m n s = digs (n - loF k lo).toNat (widF k lo hi m) := by unfold layF; rw [if_neg h4]
    have hs : s = ByteArray.empty := by rw [hmo] at h3; simpa using h3
    have hlt : rngF k lo hi m < 256 ^ widF k lo hi m := wid_lt _
    rw [hc, hl]
    have ht : (digs (n - loF k lo).toNat (widF k lo hi m) ++ more).take (widF k lo hi m) = digs (n - loF k lo).toNat (widF k lo hi m) := by
      rw [List.take_append_of_le_length (by rw [digs_len]; exact Nat.le_refl _), List.take_of_length_le (by rw [digs_len]; exact Nat.le_refl _)]
    have hv : valB (digs (n - loF k lo).toNat (widF k lo hi m)) = (n - loF k lo).toNat := by
      rw [val_digs, Nat.mod_eq_of_lt (by omega)]
    rw [ht, hv, if_neg (by rw [List.length_append, digs_len]; omega), if_neg h4, if_neg (by omega), digs_len, hs, show loF k lo + (((n - loF k lo).toNat : Nat) : Int) = n by omega]

theorem layF_len {d k lo hi m n : Int} {s : ByteArray} (h : hasF d k lo hi m n s) : ((layF k lo hi m n s).length : Int) ≤ sizF d k lo hi m ∧ (layF k lo hi m n s).length ≤ 40 := by
  obtain ⟨hr, h1, h2, h3⟩ := id h
  unfold sizF layF
  rw [if_pos hr]
  by_cases h4 : k = 4
  · have hmo : moF k m = m := by unfold moF; rw [if_pos h4]
    rw [if_pos h4, if_pos h4, List.length_cons, b2l_len]
    have := hr.2
    omega
  · rw [if_neg h4, if_neg h4, digs_len]
    have := widF_le hr
    omega

theorem layF_bytes {d k lo hi m n : Int} {s : ByteArray} (h : hasF d k lo hi m n s) : Bytes (layF k lo hi m n s) := by
  obtain ⟨hr, h1, h2, h3⟩ := id h
  unfold layF
  by_cases h4 : k = 4
  · have hmo : moF k m = m := by unfold moF; rw [if_pos h4]
    rw [if_pos h4]
    have := hr.2
    intro x hx
    rcases List.mem_cons.1 hx with rfl | hx
    · exact inR_u8 (by omega)
    · exact b2l_bytes s x hx
  · rw [if_neg h4]
    exact digs_bytes _ _

theorem lay_takF {d k lo hi m : Int} {b : List Int} (hb : Bytes b) (h : (takF d k lo hi m b).2.2.2 = 0) :
    hasF d k lo hi m (takF d k lo hi m b).1 (takF d k lo hi m b).2.1 ∧ ∃ n : Nat, (takF d k lo hi m b).2.2.1 = (n : Int) ∧ n ≤ b.length ∧ layF k lo hi m (takF d k lo hi m b).1 (takF d k lo hi m b).2.1 = b.take n := by
  unfold takF at h ⊢
  by_cases hr : rgtF d k lo hi m
  rotate_left
  · rw [if_neg hr] at h; cases h
  obtain ⟨r1, r2, r3⟩ := rng_of hr
  rw [if_pos hr] at h ⊢
  by_cases h5 : b.length < cntF k lo hi m
  · rw [if_pos h5] at h; cases h
  rw [if_neg h5] at h ⊢
  by_cases h4 : k = 4
  · have hmo : moF k m = m := by unfold moF; rw [if_pos h4]
    have hlo : loF k lo = 0 := by unfold loF; rw [if_neg (by omega)]
    have hhi : hiF k hi m = 0 := by unfold hiF; rw [if_neg (by omega), if_neg (by omega), if_neg (by omega)]
    have hc : cntF k lo hi m = 1 := by unfold cntF; rw [if_pos h4]
    rw [hc] at h5
    rw [if_pos h4] at h ⊢
    by_cases h6 : valB (b.take 1) > m.toNat
    · rw [if_pos h6] at h; cases h
    rw [if_neg h6] at h ⊢
    by_cases h7 : b.length < 1 + valB (b.take 1)
    · rw [if_pos h7] at h; cases h
    rw [if_neg h7] at h ⊢
    have hm := hr.2
    obtain ⟨v, hv⟩ : ∃ v, v = valB (b.take 1) := ⟨_, rfl⟩
    rw [← hv] at h6 h7 ⊢
    have hsz : (l2b ((b.drop 1).take v)).size = v := by rw [l2b_size, List.length_take, List.length_drop]; omega
    refine ⟨⟨hr, by show loF k lo ≤ 0; omega, by show 0 ≤ hiF k hi m; omega, by show ((l2b ((b.drop 1).take v)).size : Int) ≤ _; rw [hsz, hmo]; omega⟩, 1 + v, rfl, by omega, ?_⟩
    show layF k lo hi m 0 (l2b ((b.drop 1).take v)) = b.take (1 + v)
    unfold layF
    rw [if_pos h4, hsz, b2l_l2b (bytes_take (bytes_drop hb 1) _)]
    cases b with
    | nil => simp at h5
    | cons c b =>
      have hc := (hb c (by simp)).u8
      have hvc : v = c.toNat := by rw [hv]; simp [valB]
      rw [Nat.add_comm, List.take_succ_cons, List.drop_succ_cons, List.drop_zero]
      congr 1
      omega
  · have hmo : moF k m = 0 := by unfold moF; rw [if_neg h4]
    have hc : cntF k lo hi m = widF k lo hi m := by unfold cntF; rw [if_neg h4]
    rw [if_neg h4, hc] at h
    rw [hc] at h5
    rw [if_neg h4, hc]
    by_cases h6 : valB (b.take (widF k lo hi m)) > rngF k lo hi m
    · rw [if_pos h6] at h; cases h
    rw [if_neg h6] at h ⊢
    refine ⟨⟨hr, by show loF k lo ≤ loF k lo + _; omega, by show loF k lo + _ ≤ hiF k hi m; omega, by show (0 : Int) ≤ _; omega⟩, widF k lo hi m, rfl, by omega, ?_⟩
    show layF k lo hi m (loF k lo + ((valB (b.take (widF k lo hi m)) : Nat) : Int)) ByteArray.empty = _
    unfold layF
    rw [if_neg h4, show (loF k lo + ((valB (b.take (widF k lo hi m)) : Nat) : Int) - loF k lo).toNat = valB (b.take (widF k lo hi m)) by omega]
    exact digs_val _ _ (by rw [List.length_take]; omega) (bytes_take hb _)

end Go.Proofs.Ytpidbpmkogbdeaa.Pure
