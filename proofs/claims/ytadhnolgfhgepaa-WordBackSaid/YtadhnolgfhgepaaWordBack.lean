/- The plain truth of WordBack. -/
import Derived.Test.YtadhnolgfhgepaaFlaw01
import Derived.Test.YtadhnolgfhgepaaQAwake01
namespace Go.Proofs.Ytadhnolgfhgepaa.Pure
open Go Go.Proofs.Ytadhnolgfhgepaa.Va
set_option linter.unusedVariables false
set_option linter.unusedSimpArgs false

theorem byteAt_pack {b : List Int} (hb : Bytes b) {n i : Nat} (hi : i < 4 * n) : byteAt (packW b n) i = byt b i := by
  have h0 := byt_range hb (4 * (i / 4))
  have h1 := byt_range hb (4 * (i / 4) + 1)
  have h2 := byt_range hb (4 * (i / 4) + 2)
  have h3 := byt_range hb (4 * (i / 4) + 3)
  have e : (packW b n).getD (i / 4) 0 = wordAt b (i / 4) := by
    unfold packW
    rw [List.getD_eq_getElem?_getD, List.getElem?_map, List.getElem?_range (by omega)]
    rfl
  unfold byteAt
  rw [e]
  unfold wordAt
  have hm : i % 4 = 0 ∨ i % 4 = 1 ∨ i % 4 = 2 ∨ i % 4 = 3 := by omega
  rcases hm with hm | hm | hm | hm
  · have hi4 : i = 4 * (i / 4) := by omega
    rw [hm, show byt b i = byt b (4 * (i / 4)) by rw [← hi4]]
    omega
  · have hi4 : i = 4 * (i / 4) + 1 := by omega
    rw [hm, show byt b i = byt b (4 * (i / 4) + 1) by rw [← hi4]]
    omega
  · have hi4 : i = 4 * (i / 4) + 2 := by omega
    rw [hm, show byt b i = byt b (4 * (i / 4) + 2) by rw [← hi4]]
    omega
  · have hi4 : i = 4 * (i / 4) + 3 := by omega
    rw [hm, show byt b i = byt b (4 * (i / 4) + 3) by rw [← hi4]]
    omega

theorem bytesR_pack {b : List Int} (hb : Bytes b) : bytesR (packW b (needN b.length)) (b.length : Int) = (0, b) := by
  have hlen : (packW b (needN b.length)).length = needN b.length := by simp [packW]
  unfold bytesR
  rw [if_neg (by omega), need_nat, hlen, if_neg (by omega), if_neg (by omega), Int.toNat_natCast]
  have hr : restB (packW b (needN b.length)) b.length = false := by
    unfold restB
    rw [Option.isSome_eq_false_iff, Option.isNone_iff_eq_none, List.find?_eq_none]
    intro k hk
    rw [List.mem_range'_1, hlen] at hk
    rw [byteAt_pack hb (by omega), byt_ge hk.1]
    simp
  rw [hr]
  simp only [Bool.false_eq_true, if_false]
  congr 1
  unfold bytesW
  apply List.ext_getElem?
  intro i
  rw [List.getElem?_map]
  by_cases hi : i < b.length
  · rw [List.getElem?_range hi, byt_some hi, Option.map_some, byteAt_pack hb (by unfold needN; omega)]
  · rw [List.getElem?_eq_none (by simpa using hi), List.getElem?_eq_none (by omega)]
    rfl

theorem WordBack (a0 : List Int) (w0 : a0.length * 1 ≤ reachBytes) (w1 : ∀ x2 ∈ a0, InR .u8 x2) : law01_WordBack.c a0 = some true := by
  have hb : Bytes a0 := w1
  have hl : a0.length ≤ 140737488351232 := by rw [reach_eq] at w0; omega
  have hlen : (packW a0 (needN a0.length)).length = needN a0.length := by simp [packW]
  have hn : InR .i64 (a0.length : Int) := inR_i64 ⟨by omega, by omega⟩
  have h1 := word_Pack_eq hb w0
  have h2 := word_Bytes_eq (packW_words hb (needN a0.length)) (by rw [hlen, reach_eq]; unfold needN; omega) hn
  rw [bytesR_pack hb] at h2
  simp only [law01_WordBack.c, law01_WordBack.t, Tw.run_opt, Tw.run_bb, Tw.run_ret, h1, h2, word_Need_eq _ hn, need_nat, hlen, Option.bind_some, awake01]
  simp

end Go.Proofs.Ytadhnolgfhgepaa.Pure
