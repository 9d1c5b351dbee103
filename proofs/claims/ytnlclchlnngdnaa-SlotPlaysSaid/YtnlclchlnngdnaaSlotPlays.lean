/- The plain truth of SlotPlays. -/
import Derived.Test.YtnlclchlnngdnaaFlaw32
import Derived.Test.YtnlclchlnngdnaaFlaw32SlotPlays
import Derived.Test.YtnlclchlnngdnaaQAwake32
namespace Go.Proofs.Ytnlclchlnngdnaa.Pure
open Go Go.Proofs.Ytnlclchlnngdnaa.Va
set_option linter.unusedVariables false
set_option linter.unusedSimpArgs false

theorem SlotPlays (a0_0_0 : Int) (a0_0_1 : Int) (a0_0_2 : Int) (a0_0_3 : Int) (a0_0_4 : Int) (a0_0_5 : Int) (a0_1 : Int) (a0_2 : List Act32) (w0 : InR .i64 a0_0_0) (w1 : InR .i64 a0_0_1) (w2 : InR .i64 a0_0_2) (w3 : InR .i64 a0_0_3) (w4 : InR .i64 a0_0_4) (w5 : InR .i64 a0_0_5) (w6 : InR .i64 a0_1) (w7 : a0_2.length * 72 ≤ reachBytes) (w8 : ∀ x9 ∈ a0_2, InR .i64 x9.kind ∧ InR .i64 x9.slot ∧ InR .i64 x9.i ∧ x9.b.length * 1 ≤ reachBytes ∧ (∀ x14 ∈ x9.b, InR .u8 x14) ∧ x9.masks.length * 4 ≤ reachBytes ∧ (∀ x17 ∈ x9.masks, InR .u32 x17)) : law32_SlotPlays.c a0_0_0 a0_0_1 a0_0_2 a0_0_3 a0_0_4 a0_0_5 a0_1 a0_2 = some true := by
  have rb := reach_eq
  have hr : GeoR a0_0_0 a0_0_1 a0_0_2 a0_0_3 a0_0_4 a0_0_5 := ⟨w0, w1, w2, w3, w4, w5⟩
  obtain ⟨b1, hg, hgb⟩ := law32_great_eq hr a0_1 (l := a0_2) (by omega)
  simp only [law32_SlotPlays.c, law32_SlotPlays.t]
  rw [opt_some hg]
  cases b1 with
  | true => rw [bb_pos (by rfl), opt_some awake32, Tw.run_ret]
  | false =>
    obtain ⟨q1, q2, ok⟩ := hgb rfl
    have hx : ∀ x ∈ a0_2, ActS x := fun x hx => ⟨(w8 x hx).2.2.1, (q2 x hx).1, (w8 x hx).2.2.2.2.1, (q2 x hx).2, (w8 x hx).2.2.2.2.2.2⟩
    have ok' := ok
    unfold GeoOK at ok'
    obtain ⟨n, rfl⟩ : ∃ n : Nat, a0_0_0 = (n : Int) := ⟨a0_0_0.toNat, by omega⟩
    obtain ⟨okN, hv, hb, _⟩ := beginS hr ok rfl a0_1 a0_2
    obtain ⟨s', t', h0, h1, h2, h3, h4, h5⟩ := runS hr ok okN rfl hv w6 hx q1
    rw [bb_neg (by rfl), opt_some hb, sm_inl, bb_pos (by rfl), opt_some (x := .inl (true, pairS s' t')) (by exact h5), sm_inl, bb_pos (by rfl), opt_some awake32, Tw.run_ret]

end Go.Proofs.Ytnlclchlnngdnaa.Pure
