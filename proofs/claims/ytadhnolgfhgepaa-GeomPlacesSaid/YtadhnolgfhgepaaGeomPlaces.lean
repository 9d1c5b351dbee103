/- The plain truth of GeomPlaces. -/
import Derived.Test.YtadhnolgfhgepaaFlaw08
import Derived.Test.YtadhnolgfhgepaaQAwake08
namespace Go.Proofs.Ytadhnolgfhgepaa.Pure
open Go Go.Proofs.Ytadhnolgfhgepaa.Va
set_option linter.unusedVariables false
set_option linter.unusedSimpArgs false

theorem GeomPlaces (a0_0 : Int) (a0_1 : Int) (a0_2 : Int) (a0_3 : Int) (a0_4 : Int) (a0_5 : Int) (a1 : Int) (a2 : Int) (w0 : InR .i64 a0_0) (w1 : InR .i64 a0_1) (w2 : InR .i64 a0_2) (w3 : InR .i64 a0_3) (w4 : InR .i64 a0_4) (w5 : InR .i64 a0_5) (w6 : InR .i64 a1) (w7 : InR .i64 a2) : law08_GeomPlaces.c a0_0 a0_1 a0_2 a0_3 a0_4 a0_5 a1 a2 = some true := by
  have h : GeoR a0_0 a0_1 a0_2 a0_3 a0_4 a0_5 := ⟨w0, w1, w2, w3, w4, w5⟩
  simp only [law08_GeomPlaces.c, law08_GeomPlaces.t, Tw.run_opt, Tw.run_bb, Tw.run_ret, geom_Check_eq h, ref08_Right_eq h, geom_Sectors_eq h, ref08_Map_eq h, geom_Ledger_eq h, ref08_Find_eq h, geom_Chunk_eq h, geom_Page_eq h, Option.bind_some, awake08]
  by_cases k : GeoOK a0_0 a0_1 a0_2 a0_3 a0_4 a0_5
  · have k' := k
    obtain ⟨k0, k1, k2, k3, k4, k5⟩ := k'
    obtain ⟨n1, rfl⟩ := Int.eq_ofNat_of_zero_le (show 0 ≤ a0_1 by omega)
    obtain ⟨n2, rfl⟩ := Int.eq_ofNat_of_zero_le (show 0 ≤ a0_2 by omega)
    have hn : 2 ≤ n1 := by omega
    simp only [k, if_true, true_and, Int.toNat_natCast, find_ledger hn, find_chunk hn, find_page hn, mapL_len, decide_true]
    simp
  · simp [k]

end Go.Proofs.Ytadhnolgfhgepaa.Pure
