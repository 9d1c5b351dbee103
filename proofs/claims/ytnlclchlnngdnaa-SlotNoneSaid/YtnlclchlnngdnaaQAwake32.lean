/- Slots: what must come at any rate. -/
import Derived.Test.YtnlclchlnngdnaaQSlot2
namespace Go.Proofs.Ytnlclchlnngdnaa.Pure
open Go Go.Proofs.Ytnlclchlnngdnaa.Va
set_option linter.unusedVariables false
set_option linter.unusedSimpArgs false

def aw32L : List Act32 := [⟨0, 0, 0, [], []⟩, ⟨1, 0, 0, List.replicate 256 0, []⟩, ⟨1, 0, 1, [7], []⟩]
def aw32S : Fl := aw32L.foldl (fun a x => a.splay 64 3 257 x) (flNew 13 64)
theorem aw32_done : aw32S.sdone 64 3 0 257 = (2, 0) := by decide +kernel
theorem aw32_bytes : aw32S.sbytes 64 3 0 257 = (0, List.replicate 256 0 ++ [7]) := by decide +kernel
set_option maxRecDepth 100000 in
theorem awake32 : law32_awake.c = some true := by
  have hr : GeoR ((64 : Nat) : Int) 3 5 2 1 9 := by refine ⟨?_, ?_, ?_, ?_, ?_, ?_⟩ <;> decide
  have ok : GeoOK ((64 : Nat) : Int) 3 5 2 1 9 := by decide
  have hT : InR .i64 257 := inR_i64 (by decide)
  obtain ⟨okN, hv, hb, hb2⟩ := beginS hr ok (m := 13) (by decide) 257 []
  have hx : ∀ x ∈ aw32L, ActS x := by
    intro x hx
    unfold aw32L at hx
    rcases List.mem_cons.1 hx with rfl | hx
    · exact ⟨inR_i64 (by decide), Nat.zero_le _, (fun x hx => nomatch hx), Nat.zero_le _, words_nil⟩
    rcases List.mem_cons.1 hx with rfl | hx
    · exact ⟨inR_i64 (by decide), (by rw [show (Act32.mk 1 0 0 (List.replicate 256 0) []).b = List.replicate 256 0 from rfl, List.length_replicate]; decide), (fun x hx => by rw [(List.mem_replicate.1 hx).2]; decide), Nat.zero_le _, words_nil⟩
    have hx := List.mem_singleton.1 hx
    subst hx
    exact ⟨inR_i64 (by decide), (show 1 ≤ 1000 by decide), (fun x hx => by rw [List.mem_singleton.1 hx]; decide), Nat.zero_le _, words_nil⟩
  obtain ⟨s', t', h0, h1, h2, h3, h4, h5⟩ := runS hr ok okN rfl hv hT hx (by decide)
  have e1 : s'.sdone 64 3 0 257 = (2, 0) := by rw [h0]; exact aw32_done
  have e2 : s'.sbytes 64 3 0 257 = (0, List.replicate 256 0 ++ [7]) := by rw [h0]; exact aw32_bytes
  clear h0
  have hD := slot_Done_eq hr ok h1 h4 0 257 hT
  have hB := slot_Bytes_eq hr ok h1 h4 0 257 hT
  rw [e1] at hD
  rw [e2] at hB
  simp only [law32_awake.c, law32_awake.t]
  rw [opt_some (x := .inl (true, (flNew 13 64).C, (flNew 13 64).D, (flNew 13 64).A, (flNew 13 64).W, (flNew 13 64).V, (flNew 13 64).C, (flNew 13 64).D, (flNew 13 64).A, (flNew 13 64).W, (flNew 13 64).V)) (by exact hb2.trans hb), sm_inl, bb_neg (by rfl), opt_some (x := .inl (true, pairS s' t')) (by exact h5), sm_inl, bb_neg (by rfl)]
  rw [opt_some (x := ((2 : Int), (0 : Int))) (by exact hD), opt_some (x := ((0 : Int), List.replicate 256 (0 : Int) ++ [7])) (by exact hB), bb_pos (by rfl), bb_pos (by rfl), bb_pos (by rfl), bb_pos (by decide), dd_pos (by decide), opt_some (x := 7) (by decide), Tw.run_ret]
  rfl

end Go.Proofs.Ytnlclchlnngdnaa.Pure
