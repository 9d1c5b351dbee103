/- Layer 18: what must come at any rate, comes. -/
import Derived.Test.YtadhnolgfhgepaaQItem
import Derived.Test.YtadhnolgfhgepaaFlaw18
namespace Go.Proofs.Ytadhnolgfhgepaa.Pure
open Go Go.Proofs.Ytadhnolgfhgepaa.Va
set_option linter.unusedVariables false
set_option linter.unusedSimpArgs false

theorem some_none1 (a : Int) (b : ByteArray) : item_some_of_item_Put_1_none0.c a b = some () := by
  have : item_some_of_item_Put_1_none0.L3 0 0 a b = some () := Lp_end (by simp [item_some_of_item_Put_1_none0.l3, Tw.run_bb, Tw.run_ret])
  simp only [item_some_of_item_Put_1_none0.c, item_some_of_item_Put_1_none0.t, Tw.run_opt, Tw.run_ret, this, Option.bind_some]
theorem some_none2 (a : Int) (b : ByteArray) : item_some_of_item_Put_2_none0.c a b = some () := by
  have : item_some_of_item_Put_2_none0.L3 0 0 a b = some () := Lp_end (by simp [item_some_of_item_Put_2_none0.l3, Tw.run_bb, Tw.run_ret])
  simp only [item_some_of_item_Put_2_none0.c, item_some_of_item_Put_2_none0.t, Tw.run_opt, Tw.run_ret, this, Option.bind_some]
theorem item_Put_none (a : Int) (b : ByteArray) : item_Put_none0.c a b = some [⟨a, b⟩] := by
  simp only [item_Put_none0.c, item_Put_none0.t, Tw.run_opt, Tw.run_ret, some_none1, some_none2, Option.bind_some]

theorem awake18 : law18_awake.c = some true := by
  have h1 : item_Main.c 3 7 = some (196615, 0) := (item_Main_eq 3 7).trans (by decide)
  have h2 : item_Side.c 0 3 7 = some (16973831, 0) := (item_Side_eq 0 3 7 (by decide)).trans (by decide)
  have h3 : item_Told.c 16973831 = some (0, (3, 7)) := (item_Told_eq (k := 16973831) (by decide)).trans (by decide)
  simp only [law18_awake.c, law18_awake.t, Tw.run_opt, Tw.run_bb, Tw.run_dd, Tw.run_ret, Tw.run_no, h1, h2, h3, item_Put_none, Option.bind_some]
  simp

end Go.Proofs.Ytadhnolgfhgepaa.Pure
