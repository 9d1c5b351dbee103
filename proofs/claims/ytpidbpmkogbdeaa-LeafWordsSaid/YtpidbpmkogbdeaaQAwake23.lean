/- Layer 23: what must come at any rate, comes. -/
import Derived.Test.YtpidbpmkogbdeaaQLeaf
import Derived.Test.YtpidbpmkogbdeaaFlaw23
namespace Go.Proofs.Ytpidbpmkogbdeaa.Pure
open Go Go.Proofs.Ytpidbpmkogbdeaa.Va
set_option linter.unusedVariables false
set_option linter.unusedSimpArgs false

theorem awake23 : law23_awake.c = some true := by
  have hi : Its [(⟨5, ByteArray.mk (List.toArray [97])⟩ : ItemV)] := by
    intro x hx
    rw [List.mem_singleton] at hx
    subst hx
    exact ⟨by decide, by decide⟩
  have h1 : leaf_Lay.c [(⟨5, ByteArray.mk (List.toArray [97])⟩ : ItemV)] 64 = some (0, [1, 5, 1, 1627389952, 121]) := (leaf_Lay_eq hi (by decide) (by decide)).trans (by
    have e1 : rightI [(⟨5, ByteArray.mk (List.toArray [97])⟩ : ItemV)] = true := by decide
    have e2 : leafL [(⟨5, ByteArray.mk (List.toArray [97])⟩ : ItemV)] = [1, 5, 1, 1627389952] := by decide
    have e3 : totI [(⟨5, ByteArray.mk (List.toArray [97])⟩ : ItemV)] = 3 := by decide
    unfold layL
    rw [e1, e2, e3]
    simp [zs, zsum, zer, pop])
  have h2 : leaf_Room.c 64 = some 62 := (leaf_Room_eq (by decide)).trans (by decide)
  have h3 : leaf_Cost.c 0 (ByteArray.mk (List.toArray [97])) = some 3 := leaf_Cost_eq (x := ⟨0, ByteArray.mk (List.toArray [97])⟩) (by decide)
  simp only [law23_awake.c, law23_awake.t, Tw.run_opt, h1, Option.bind_some, ref01_Same_eq (show ([1, 5, 1, 1627389952, 121] : List Int).length ≤ 140737488351232 by decide)]
  rw [bb_pos (by decide), bb_pos (by decide)]
  simp only [Tw.run_opt, h2, Option.bind_some]
  rw [bb_pos (by decide)]
  simp only [Tw.run_opt, h3, Option.bind_some]
  rfl

end Go.Proofs.Ytpidbpmkogbdeaa.Pure
