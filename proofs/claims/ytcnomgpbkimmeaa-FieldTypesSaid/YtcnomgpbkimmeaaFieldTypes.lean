/- The plain truth of FieldTypes. -/
import Derived.Test.YtcnomgpbkimmeaaFlaw12
import Derived.Test.YtcnomgpbkimmeaaQAwake12
namespace Go.Proofs.Ytcnomgpbkimmeaa.Pure
open Go Go.Proofs.Ytcnomgpbkimmeaa.Va
set_option linter.unusedVariables false
set_option linter.unusedSimpArgs false

theorem FieldTypes (a0_0 : Int) (a0_1 : Int) (a0_2 : Int) (a0_3 : Int) (a0_4 : Int) (a1_0 : Int) (a1_1 : Int) (a1_2 : Int) (a1_3 : Int) (a1_4 : Int) (a2_0 : Int) (a2_1 : ByteArray) (w0 : InR .i64 a0_0) (w1 : InR .i64 a0_1) (w2 : InR .i64 a0_2) (w3 : InR .i64 a0_3) (w4 : InR .i64 a0_4) (w5 : InR .i64 a1_0) (w6 : InR .i64 a1_1) (w7 : InR .i64 a1_2) (w8 : InR .i64 a1_3) (w9 : InR .i64 a1_4) (w10 : InR .i64 a2_0) (w11 : a2_1.size ≤ reachBytes) : law12_FieldTypes.c a0_0 a0_1 a0_2 a0_3 a0_4 a1_0 a1_1 a1_2 a1_3 a1_4 a2_0 a2_1 = some true := by
  simp only [law12_FieldTypes.c, law12_FieldTypes.t, Tw.run_opt, Tw.run_bb, Tw.run_ret, field_Right_eq, ref12_Right_eq, field_Has_eq, ref12_Has_eq, field_Least_eq, ref12_Least_eq, field_Size_eq, ref12_Size_eq, field_Wider_eq, ref12_Wider_eq, awake12, Option.bind_some]
  simp

end Go.Proofs.Ytcnomgpbkimmeaa.Pure
