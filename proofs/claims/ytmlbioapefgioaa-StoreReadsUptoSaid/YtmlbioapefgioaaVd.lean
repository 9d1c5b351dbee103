/- The evaluator and its proof, put together: VaC, VaD. -/
import Derived.Test.YtmlbioapefgioaaVc
import Derived.Test.YtmlbioapefgioaaV2
import Derived.Test.YtmlbioapefgioaaV6
/- The rows' codes are good. (printed by mkcod.py) -/
set_option linter.unusedSimpArgs false
set_option linter.unusedVariables false
namespace Go.Proofs.Ytmlbioapefgioaa.Va
open Go

theorem cod1_ok : CodOK cod1 where
 size _ := rfl
 pos := by decide
 dec l x h := by
  dsimp only [cod1] at h
  split at h
  ·split at h
   case isFalse => cases h
   rename_i e
   obtain rfl := e
   cases h
   exact ⟨rfl, fun j y hy => ⟨y, hy, .inl rfl⟩⟩
  ·cases h
 flat _ x y hy := by
  simp only [cod1, List.mem_cons, List.not_mem_nil, or_false] at hy
  subst hy
  rfl
theorem cod2_ok : CodOK cod2 where
 size _ := rfl
 pos := by decide
 dec l x h := by
  dsimp only [cod2] at h
  split at h
  ·split at h
   case isFalse => cases h
   rename_i e
   obtain rfl := e
   cases h
   exact ⟨rfl, fun j y hy => ⟨y, hy, .inl rfl⟩⟩
  ·cases h
 flat _ x y hy := by
  simp only [cod2, List.mem_cons, List.not_mem_nil, or_false] at hy
  subst hy
  rfl
theorem cod3_ok : CodOK cod3 where
 size _ := rfl
 pos := by decide
 dec l x h := by
  dsimp only [cod3] at h
  split at h
  ·split at h
   case isFalse => cases h
   rename_i e
   obtain rfl := e
   cases h
   exact ⟨rfl, fun j y hy => ⟨y, hy, .inl rfl⟩⟩
  ·cases h
 flat _ x y hy := by
  simp only [cod3, List.mem_cons, List.not_mem_nil, or_false] at hy
  subst hy
  rfl
theorem cod4_ok : CodOK cod4 where
 size _ := rfl
 pos := by decide
 dec l x h := by
  dsimp only [cod4] at h
  split at h
  ·cases h
   exact ⟨rfl, fun j y hy => ⟨y, hy, .inl rfl⟩⟩
  ·cases h
 flat _ x y hy := by
  simp only [cod4, List.mem_cons, List.not_mem_nil, or_false] at hy
  subst hy
  rfl
theorem cod5_ok : CodOK cod5 where
 size _ := rfl
 pos := by decide
 dec l x h := by
  dsimp only [cod5] at h
  split at h
  ·cases h
   exact ⟨rfl, fun j y hy => ⟨y, hy, .inl rfl⟩⟩
  ·cases h
 flat _ x y hy := by
  simp only [cod5, List.mem_cons, List.not_mem_nil, or_false] at hy
  subst hy
  rfl
theorem cod10_ok : CodOK cod10 where
 size _ := rfl
 pos := by decide
 dec l x h := by
  dsimp only [cod10] at h
  split at h
  ·split at h
   case isFalse => cases h
   rename_i e
   obtain rfl := e
   cases h
   exact ⟨rfl, fun j y hy => ⟨y, hy, .inl rfl⟩⟩
  ·cases h
 flat _ x y hy := by
  simp only [cod10, List.mem_cons, List.not_mem_nil, or_false] at hy
  rcases hy with rfl | rfl <;> rfl
theorem cod11_ok : CodOK cod11 where
 size _ := rfl
 pos := by decide
 dec l x h := by
  dsimp only [cod11] at h
  split at h
  ·cases h
   exact ⟨rfl, fun j y hy => ⟨y, hy, .inl rfl⟩⟩
  ·cases h
   refine ⟨rfl, fun j y hy => ?_⟩
   repeat (cases j with | zero => (first | exact ⟨_, rfl, .inl (Option.some.inj hy).symm⟩ | (cases hy; exact ⟨_, rfl, .inr ⟨rfl, _, rfl⟩⟩)) | succ j => ?_)
   cases hy
  ·cases h
 flat h := by cases h
theorem cod12_ok : CodOK cod12 where
 size _ := rfl
 pos := by decide
 dec l x h := by
  dsimp only [cod12] at h
  split at h
  ·cases h
   exact ⟨rfl, fun j y hy => ⟨y, hy, .inl rfl⟩⟩
  ·cases h
   refine ⟨rfl, fun j y hy => ?_⟩
   repeat (cases j with | zero => (first | exact ⟨_, rfl, .inl (Option.some.inj hy).symm⟩ | (cases hy; exact ⟨_, rfl, .inr ⟨rfl, _, rfl⟩⟩)) | succ j => ?_)
   cases hy
  ·cases h
 flat h := by cases h
theorem cod13_ok : CodOK cod13 where
 size _ := rfl
 pos := by decide
 dec l x h := by
  dsimp only [cod13] at h
  split at h
  ·cases h
   exact ⟨rfl, fun j y hy => ⟨y, hy, .inl rfl⟩⟩
  ·cases h
   refine ⟨rfl, fun j y hy => ?_⟩
   repeat (cases j with | zero => (first | exact ⟨_, rfl, .inl (Option.some.inj hy).symm⟩ | (cases hy; exact ⟨_, rfl, .inr ⟨rfl, _, rfl⟩⟩)) | succ j => ?_)
   cases hy
  ·cases h
 flat h := by cases h
theorem cod14_ok : CodOK cod14 where
 size _ := rfl
 pos := by decide
 dec l x h := by
  dsimp only [cod14] at h
  split at h
  ·split at h
   case isFalse => cases h
   rename_i e
   obtain ⟨rfl, rfl, rfl⟩ := e
   cases h
   exact ⟨rfl, fun j y hy => ⟨y, hy, .inl rfl⟩⟩
  ·cases h
 flat _ x y hy := by
  simp only [cod14, List.mem_cons, List.not_mem_nil, or_false] at hy
  rcases hy with rfl | rfl | rfl <;> rfl
theorem cod15_ok : CodOK cod15 where
 size _ := rfl
 pos := by decide
 dec l x h := by
  dsimp only [cod15] at h
  split at h
  ·cases h
   exact ⟨rfl, fun j y hy => ⟨y, hy, .inl rfl⟩⟩
  ·cases h
   refine ⟨rfl, fun j y hy => ?_⟩
   repeat (cases j with | zero => (first | exact ⟨_, rfl, .inl (Option.some.inj hy).symm⟩ | (cases hy; exact ⟨_, rfl, .inr ⟨rfl, _, rfl⟩⟩)) | succ j => ?_)
   cases hy
  ·cases h
 flat h := by cases h
theorem cod20_ok : CodOK cod20 where
 size _ := rfl
 pos := by decide
 dec l x h := by
  dsimp only [cod20] at h
  split at h
  ·split at h
   case isFalse => cases h
   rename_i e
   obtain ⟨rfl, rfl, rfl⟩ := e
   cases h
   exact ⟨rfl, fun j y hy => ⟨y, hy, .inl rfl⟩⟩
  ·split at h
   case isFalse => cases h
   rename_i e
   obtain ⟨rfl, rfl, rfl⟩ := e
   cases h
   refine ⟨rfl, fun j y hy => ?_⟩
   repeat (cases j with | zero => (first | exact ⟨_, rfl, .inl (Option.some.inj hy).symm⟩ | (cases hy; exact ⟨_, rfl, .inr ⟨rfl, _, rfl⟩⟩)) | succ j => ?_)
   cases hy
  ·cases h
 flat h := by cases h
theorem cod21_ok : CodOK cod21 where
 size _ := rfl
 pos := by decide
 dec l x h := by
  dsimp only [cod21] at h
  split at h
  ·split at h
   case isFalse => cases h
   rename_i e
   obtain ⟨rfl, rfl, rfl, rfl⟩ := e
   cases h
   exact ⟨rfl, fun j y hy => ⟨y, hy, .inl rfl⟩⟩
  ·split at h
   case isFalse => cases h
   rename_i e
   obtain ⟨rfl, rfl, rfl, rfl⟩ := e
   cases h
   refine ⟨rfl, fun j y hy => ?_⟩
   repeat (cases j with | zero => (first | exact ⟨_, rfl, .inl (Option.some.inj hy).symm⟩ | (cases hy; exact ⟨_, rfl, .inr ⟨rfl, _, rfl⟩⟩)) | succ j => ?_)
   cases hy
  ·cases h
 flat h := by cases h
theorem cod22_ok : CodOK cod22 where
 size _ := rfl
 pos := by decide
 dec l x h := by
  dsimp only [cod22] at h
  split at h
  ·split at h
   case isFalse => cases h
   rename_i e
   obtain ⟨rfl, rfl⟩ := e
   cases h
   exact ⟨rfl, fun j y hy => ⟨y, hy, .inl rfl⟩⟩
  ·cases h
 flat _ x y hy := by
  simp only [cod22, List.mem_cons, List.not_mem_nil, or_false] at hy
  rcases hy with rfl | rfl | rfl <;> rfl
theorem cod23_ok : CodOK cod23 where
 size _ := rfl
 pos := by decide
 dec l x h := by
  dsimp only [cod23] at h
  split at h
  ·split at h
   case isFalse => cases h
   rename_i e
   obtain ⟨rfl, rfl, rfl, rfl, rfl⟩ := e
   cases h
   exact ⟨rfl, fun j y hy => ⟨y, hy, .inl rfl⟩⟩
  ·cases h
 flat _ x y hy := by
  simp only [cod23, List.mem_cons, List.not_mem_nil, or_false] at hy
  rcases hy with rfl | rfl | rfl | rfl | rfl <;> rfl
theorem cod24_ok : CodOK cod24 where
 size _ := rfl
 pos := by decide
 dec l x h := by
  dsimp only [cod24] at h
  split at h
  ·split at h
   case isFalse => cases h
   rename_i e
   obtain rfl := e
   cases h
   exact ⟨rfl, fun j y hy => ⟨y, hy, .inl rfl⟩⟩
  ·cases h
 flat _ x y hy := by
  simp only [cod24, List.mem_cons, List.not_mem_nil, or_false] at hy
  rcases hy with rfl | rfl <;> rfl
theorem cod25_ok : CodOK cod25 where
 size _ := rfl
 pos := by decide
 dec l x h := by
  dsimp only [cod25] at h
  split at h
  ·split at h
   case isFalse => cases h
   rename_i e
   obtain ⟨rfl, rfl, rfl⟩ := e
   cases h
   exact ⟨rfl, fun j y hy => ⟨y, hy, .inl rfl⟩⟩
  ·split at h
   case isFalse => cases h
   rename_i e
   obtain ⟨rfl, rfl, rfl⟩ := e
   cases h
   refine ⟨rfl, fun j y hy => ?_⟩
   repeat (cases j with | zero => (first | exact ⟨_, rfl, .inl (Option.some.inj hy).symm⟩ | (cases hy; exact ⟨_, rfl, .inr ⟨rfl, _, rfl⟩⟩)) | succ j => ?_)
   cases hy
  ·split at h
   case isFalse => cases h
   rename_i e
   obtain ⟨rfl, rfl, rfl⟩ := e
   cases h
   refine ⟨rfl, fun j y hy => ?_⟩
   repeat (cases j with | zero => (first | exact ⟨_, rfl, .inl (Option.some.inj hy).symm⟩ | (cases hy; exact ⟨_, rfl, .inr ⟨rfl, _, rfl⟩⟩)) | succ j => ?_)
   cases hy
  ·split at h
   case isFalse => cases h
   rename_i e
   obtain ⟨rfl, rfl, rfl⟩ := e
   cases h
   refine ⟨rfl, fun j y hy => ?_⟩
   repeat (cases j with | zero => (first | exact ⟨_, rfl, .inl (Option.some.inj hy).symm⟩ | (cases hy; exact ⟨_, rfl, .inr ⟨rfl, _, rfl⟩⟩)) | succ j => ?_)
   cases hy
  ·cases h
 flat h := by cases h
theorem cod26_ok : CodOK cod26 where
 size _ := rfl
 pos := by decide
 dec l x h := by
  dsimp only [cod26] at h
  split at h
  ·split at h
   case isFalse => cases h
   rename_i e
   obtain ⟨rfl, rfl, rfl⟩ := e
   cases h
   exact ⟨rfl, fun j y hy => ⟨y, hy, .inl rfl⟩⟩
  ·cases h
 flat _ x y hy := by
  simp only [cod26, List.mem_cons, List.not_mem_nil, or_false] at hy
  rcases hy with rfl | rfl | rfl <;> rfl
theorem cod27_ok : CodOK cod27 where
 size _ := rfl
 pos := by decide
 dec l x h := by
  dsimp only [cod27] at h
  split at h
  ·split at h
   case isFalse => cases h
   rename_i e
   obtain ⟨rfl, rfl⟩ := e
   cases h
   exact ⟨rfl, fun j y hy => ⟨y, hy, .inl rfl⟩⟩
  ·split at h
   case isFalse => cases h
   rename_i e
   obtain ⟨rfl, rfl⟩ := e
   cases h
   refine ⟨rfl, fun j y hy => ?_⟩
   repeat (cases j with | zero => (first | exact ⟨_, rfl, .inl (Option.some.inj hy).symm⟩ | (cases hy; exact ⟨_, rfl, .inr ⟨rfl, _, rfl⟩⟩)) | succ j => ?_)
   cases hy
  ·split at h
   case isFalse => cases h
   rename_i e
   obtain ⟨rfl, rfl⟩ := e
   cases h
   refine ⟨rfl, fun j y hy => ?_⟩
   repeat (cases j with | zero => (first | exact ⟨_, rfl, .inl (Option.some.inj hy).symm⟩ | (cases hy; exact ⟨_, rfl, .inr ⟨rfl, _, rfl⟩⟩)) | succ j => ?_)
   cases hy
  ·split at h
   case isFalse => cases h
   rename_i e
   obtain ⟨rfl, rfl⟩ := e
   cases h
   refine ⟨rfl, fun j y hy => ?_⟩
   repeat (cases j with | zero => (first | exact ⟨_, rfl, .inl (Option.some.inj hy).symm⟩ | (cases hy; exact ⟨_, rfl, .inr ⟨rfl, _, rfl⟩⟩)) | succ j => ?_)
   cases hy
  ·cases h
 flat h := by cases h
theorem cod28_ok : CodOK cod28 where
 size _ := rfl
 pos := by decide
 dec l x h := by
  dsimp only [cod28] at h
  split at h
  ·split at h
   case isFalse => cases h
   rename_i e
   obtain rfl := e
   cases h
   exact ⟨rfl, fun j y hy => ⟨y, hy, .inl rfl⟩⟩
  ·split at h
   case isFalse => cases h
   rename_i e
   obtain rfl := e
   cases h
   refine ⟨rfl, fun j y hy => ?_⟩
   repeat (cases j with | zero => (first | exact ⟨_, rfl, .inl (Option.some.inj hy).symm⟩ | (cases hy; exact ⟨_, rfl, .inr ⟨rfl, _, rfl⟩⟩)) | succ j => ?_)
   cases hy
  ·cases h
 flat h := by cases h
theorem cod29_ok : CodOK cod29 where
 size _ := rfl
 pos := by decide
 dec l x h := by
  dsimp only [cod29] at h
  split at h
  ·split at h
   case isFalse => cases h
   rename_i e
   obtain ⟨rfl, rfl, rfl⟩ := e
   cases h
   exact ⟨rfl, fun j y hy => ⟨y, hy, .inl rfl⟩⟩
  ·split at h
   case isFalse => cases h
   rename_i e
   obtain ⟨rfl, rfl, rfl⟩ := e
   cases h
   refine ⟨rfl, fun j y hy => ?_⟩
   repeat (cases j with | zero => (first | exact ⟨_, rfl, .inl (Option.some.inj hy).symm⟩ | (cases hy; exact ⟨_, rfl, .inr ⟨rfl, _, rfl⟩⟩)) | succ j => ?_)
   cases hy
  ·cases h
 flat h := by cases h
theorem cod30_ok : CodOK cod30 where
 size _ := rfl
 pos := by decide
 dec l x h := by
  dsimp only [cod30] at h
  split at h
  ·split at h
   case isFalse => cases h
   rename_i e
   obtain ⟨rfl, rfl⟩ := e
   cases h
   exact ⟨rfl, fun j y hy => ⟨y, hy, .inl rfl⟩⟩
  ·split at h
   case isFalse => cases h
   rename_i e
   obtain ⟨rfl, rfl⟩ := e
   cases h
   refine ⟨rfl, fun j y hy => ?_⟩
   repeat (cases j with | zero => (first | exact ⟨_, rfl, .inl (Option.some.inj hy).symm⟩ | (cases hy; exact ⟨_, rfl, .inr ⟨rfl, _, rfl⟩⟩)) | succ j => ?_)
   cases hy
  ·cases h
 flat h := by cases h
theorem cod31_ok : CodOK cod31 where
 size _ := rfl
 pos := by decide
 dec l x h := by
  dsimp only [cod31] at h
  split at h
  ·split at h
   case isFalse => cases h
   rename_i e
   obtain ⟨rfl, rfl, rfl, rfl⟩ := e
   cases h
   exact ⟨rfl, fun j y hy => ⟨y, hy, .inl rfl⟩⟩
  ·split at h
   case isFalse => cases h
   rename_i e
   obtain ⟨rfl, rfl, rfl, rfl⟩ := e
   cases h
   refine ⟨rfl, fun j y hy => ?_⟩
   repeat (cases j with | zero => (first | exact ⟨_, rfl, .inl (Option.some.inj hy).symm⟩ | (cases hy; exact ⟨_, rfl, .inr ⟨rfl, _, rfl⟩⟩)) | succ j => ?_)
   cases hy
  ·cases h
 flat h := by cases h

theorem cc_ok : ∀ T, 0 < (cc T).sz → CodOK (cc T)
 | 1, _ => cod1_ok
 | 2, _ => cod2_ok
 | 3, _ => cod3_ok
 | 4, _ => cod4_ok
 | 5, _ => cod5_ok
 | 10, _ => cod10_ok
 | 11, _ => cod11_ok
 | 12, _ => cod12_ok
 | 13, _ => cod13_ok
 | 14, _ => cod14_ok
 | 15, _ => cod15_ok
 | 20, _ => cod20_ok
 | 21, _ => cod21_ok
 | 22, _ => cod22_ok
 | 23, _ => cod23_ok
 | 24, _ => cod24_ok
 | 25, _ => cod25_ok
 | 26, _ => cod26_ok
 | 27, _ => cod27_ok
 | 28, _ => cod28_ok
 | 29, _ => cod29_ok
 | 30, _ => cod30_ok
 | 31, _ => cod31_ok
 | 0, h | 6, h | 7, h | 8, h | 9, h | 16, h | 17, h | 18, h | 19, h => by cases h
 | n + 32, h => by cases h

end Go.Proofs.Ytmlbioapefgioaa.Va

/- Cells of the right makes are elements. (printed by mkcod.py) -/
namespace Go.Proofs.Ytmlbioapefgioaa.Va
open Go

def ct : Nat → List CK
 | 1 => [.int .i64]
 | 2 => [.int .u8]
 | 3 => [.int .u32]
 | 4 => [.bool]
 | 5 => [.str]
 | 10 => [.int .u32, .str]
 | 11 => [.sl 10]
 | 12 => [.sl 3]
 | 13 => [.sl 2]
 | 14 => [.int .i64, .int .i64, .int .i64]
 | 15 => [.sl 11]
 | 20 => [.int .i64, .int .i64, .int .u32, .sl 3]
 | 21 => [.int .i64, .int .i64, .int .i64, .int .i64, .sl 3]
 | 22 => [.int .i64, .int .u32, .str]
 | 23 => [.int .i64, .int .i64, .int .i64, .int .i64, .int .i64]
 | 24 => [.int .i64, .str]
 | 25 => [.int .i64, .int .i64, .int .i64, .sl 2, .sl 3]
 | 26 => [.int .u32, .int .u32, .int .u32]
 | 27 => [.int .i64, .int .i64, .sl 3, .sl 3]
 | 28 => [.int .i64, .sl 23]
 | 29 => [.int .i64, .int .i64, .int .i64, .sl 24]
 | 30 => [.int .i64, .int .i64, .sl 24]
 | 31 => [.int .i64, .int .i64, .int .i64, .int .u32, .str, .sl 10]
 | _ => []

theorem full1 (xs : List (IV U)) (h : fitsC (ct 1) xs) : ∃ x, (cc 1).enc x = xs := by
 obtain ⟨l, _, h⟩ := fitsL (U := U) h
 exact ⟨l.1, h⟩
theorem full2 (xs : List (IV U)) (h : fitsC (ct 2) xs) : ∃ x, (cc 2).enc x = xs := by
 obtain ⟨l, _, h⟩ := fitsL (U := U) h
 exact ⟨l.1, h⟩
theorem full3 (xs : List (IV U)) (h : fitsC (ct 3) xs) : ∃ x, (cc 3).enc x = xs := by
 obtain ⟨l, _, h⟩ := fitsL (U := U) h
 exact ⟨l.1, h⟩
theorem full4 (xs : List (IV U)) (h : fitsC (ct 4) xs) : ∃ x, (cc 4).enc x = xs := by
 obtain ⟨l, _, h⟩ := fitsL (U := U) h
 exact ⟨l.1, h⟩
theorem full5 (xs : List (IV U)) (h : fitsC (ct 5) xs) : ∃ x, (cc 5).enc x = xs := by
 obtain ⟨l, _, h⟩ := fitsL (U := U) h
 exact ⟨l.1, h⟩
theorem full10 (xs : List (IV U)) (h : fitsC (ct 10) xs) : ∃ x, (cc 10).enc x = xs := by
 obtain ⟨l, _, h⟩ := fitsL (U := U) h
 exact ⟨⟨l.1, l.2.1⟩, h⟩
theorem full11 (xs : List (IV U)) (h : fitsC (ct 11) xs) : ∃ x, (cc 11).enc x = xs := by
 obtain ⟨l, _, h⟩ := fitsL (U := U) h
 exact ⟨l.1, h⟩
theorem full12 (xs : List (IV U)) (h : fitsC (ct 12) xs) : ∃ x, (cc 12).enc x = xs := by
 obtain ⟨l, _, h⟩ := fitsL (U := U) h
 exact ⟨l.1, h⟩
theorem full13 (xs : List (IV U)) (h : fitsC (ct 13) xs) : ∃ x, (cc 13).enc x = xs := by
 obtain ⟨l, _, h⟩ := fitsL (U := U) h
 exact ⟨l.1, h⟩
theorem full14 (xs : List (IV U)) (h : fitsC (ct 14) xs) : ∃ x, (cc 14).enc x = xs := by
 obtain ⟨l, _, h⟩ := fitsL (U := U) h
 exact ⟨(l.1, l.2.1, l.2.2.1), h⟩
theorem full15 (xs : List (IV U)) (h : fitsC (ct 15) xs) : ∃ x, (cc 15).enc x = xs := by
 obtain ⟨l, _, h⟩ := fitsL (U := U) h
 exact ⟨l.1, h⟩
theorem full20 (xs : List (IV U)) (h : fitsC (ct 20) xs) : ∃ x, (cc 20).enc x = xs := by
 obtain ⟨l, _, h⟩ := fitsL (U := U) h
 exact ⟨⟨l.1, l.2.1, l.2.2.1, l.2.2.2.1⟩, h⟩
theorem full21 (xs : List (IV U)) (h : fitsC (ct 21) xs) : ∃ x, (cc 21).enc x = xs := by
 obtain ⟨l, _, h⟩ := fitsL (U := U) h
 exact ⟨⟨l.1, l.2.1, l.2.2.1, l.2.2.2.1, l.2.2.2.2.1⟩, h⟩
theorem full22 (xs : List (IV U)) (h : fitsC (ct 22) xs) : ∃ x, (cc 22).enc x = xs := by
 obtain ⟨l, _, h⟩ := fitsL (U := U) h
 exact ⟨⟨l.1, l.2.1, l.2.2.1⟩, h⟩
theorem full23 (xs : List (IV U)) (h : fitsC (ct 23) xs) : ∃ x, (cc 23).enc x = xs := by
 obtain ⟨l, _, h⟩ := fitsL (U := U) h
 exact ⟨⟨l.1, l.2.1, l.2.2.1, l.2.2.2.1, l.2.2.2.2.1⟩, h⟩
theorem full24 (xs : List (IV U)) (h : fitsC (ct 24) xs) : ∃ x, (cc 24).enc x = xs := by
 obtain ⟨l, _, h⟩ := fitsL (U := U) h
 exact ⟨⟨l.1, l.2.1⟩, h⟩
theorem full25 (xs : List (IV U)) (h : fitsC (ct 25) xs) : ∃ x, (cc 25).enc x = xs := by
 obtain ⟨l, _, h⟩ := fitsL (U := U) h
 exact ⟨⟨l.1, l.2.1, l.2.2.1, l.2.2.2.1, l.2.2.2.2.1⟩, h⟩
theorem full26 (xs : List (IV U)) (h : fitsC (ct 26) xs) : ∃ x, (cc 26).enc x = xs := by
 obtain ⟨l, _, h⟩ := fitsL (U := U) h
 exact ⟨(l.1, l.2.1, l.2.2.1), h⟩
theorem full27 (xs : List (IV U)) (h : fitsC (ct 27) xs) : ∃ x, (cc 27).enc x = xs := by
 obtain ⟨l, _, h⟩ := fitsL (U := U) h
 exact ⟨⟨l.1, l.2.1, l.2.2.1, l.2.2.2.1⟩, h⟩
theorem full28 (xs : List (IV U)) (h : fitsC (ct 28) xs) : ∃ x, (cc 28).enc x = xs := by
 obtain ⟨l, _, h⟩ := fitsL (U := U) h
 exact ⟨⟨l.1, l.2.1⟩, h⟩
theorem full29 (xs : List (IV U)) (h : fitsC (ct 29) xs) : ∃ x, (cc 29).enc x = xs := by
 obtain ⟨l, _, h⟩ := fitsL (U := U) h
 exact ⟨⟨l.1, l.2.1, l.2.2.1, l.2.2.2.1⟩, h⟩
theorem full30 (xs : List (IV U)) (h : fitsC (ct 30) xs) : ∃ x, (cc 30).enc x = xs := by
 obtain ⟨l, _, h⟩ := fitsL (U := U) h
 exact ⟨⟨l.1, l.2.1, l.2.2.1⟩, h⟩
theorem full31 (xs : List (IV U)) (h : fitsC (ct 31) xs) : ∃ x, (cc 31).enc x = xs := by
 obtain ⟨l, _, h⟩ := fitsL (U := U) h
 exact ⟨⟨l.1, l.2.1, l.2.2.1, l.2.2.2.1, l.2.2.2.2.1, l.2.2.2.2.2.1⟩, h⟩
theorem full_ok : FullC cc ct
 | 1, xs, _, h => full1 xs h
 | 2, xs, _, h => full2 xs h
 | 3, xs, _, h => full3 xs h
 | 4, xs, _, h => full4 xs h
 | 5, xs, _, h => full5 xs h
 | 10, xs, _, h => full10 xs h
 | 11, xs, _, h => full11 xs h
 | 12, xs, _, h => full12 xs h
 | 13, xs, _, h => full13 xs h
 | 14, xs, _, h => full14 xs h
 | 15, xs, _, h => full15 xs h
 | 20, xs, _, h => full20 xs h
 | 21, xs, _, h => full21 xs h
 | 22, xs, _, h => full22 xs h
 | 23, xs, _, h => full23 xs h
 | 24, xs, _, h => full24 xs h
 | 25, xs, _, h => full25 xs h
 | 26, xs, _, h => full26 xs h
 | 27, xs, _, h => full27 xs h
 | 28, xs, _, h => full28 xs h
 | 29, xs, _, h => full29 xs h
 | 30, xs, _, h => full30 xs h
 | 31, xs, _, h => full31 xs h
 | 0, _, h0, _ => absurd rfl h0
 | 6, [], _, _ => ⟨(), rfl⟩
 | 6, _ :: _, _, h => h.elim
 | 7, [], _, _ => ⟨(), rfl⟩
 | 7, _ :: _, _, h => h.elim
 | 8, [], _, _ => ⟨(), rfl⟩
 | 8, _ :: _, _, h => h.elim
 | 9, [], _, _ => ⟨(), rfl⟩
 | 9, _ :: _, _, h => h.elim
 | 16, [], _, _ => ⟨(), rfl⟩
 | 16, _ :: _, _, h => h.elim
 | 17, [], _, _ => ⟨(), rfl⟩
 | 17, _ :: _, _, h => h.elim
 | 18, [], _, _ => ⟨(), rfl⟩
 | 18, _ :: _, _, h => h.elim
 | 19, [], _, _ => ⟨(), rfl⟩
 | 19, _ :: _, _, h => h.elim
 | n + 32, [], _, _ => ⟨(), rfl⟩
 | n + 32, _ :: _, _, h => h.elim

end Go.Proofs.Ytmlbioapefgioaa.Va

