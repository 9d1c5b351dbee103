/- Drives: what is done with one, act by act. -/
import Derived.Test.YtkoidgjgdhpdnaaQDrive2
namespace Go.Proofs.Ytkoidgjgdhpdnaa.Pure
open Go Go.Proofs.Ytkoidgjgdhpdnaa.Va
set_option linter.unusedVariables false
set_option linter.unusedSimpArgs false

/-- An act that neither arms nor gives power. -/
def Fl.dact (n : Nat) (s : Fl) (kind k at_ c : Int) (w : List Int) : (Bool × Int × List Int) × Fl :=
  if kind = 0 then ((false, (s.dread n k at_ c).1, (s.dread n k at_ c).2), s)
  else if kind = 1 ∨ kind = 2 then ((false, (s.dwrite n k at_ w).1, []), (s.dwrite n k at_ w).2)
  else if kind = 3 then (((s.blank n k at_).1, (s.blank n k at_).2, []), s)
  else if kind = 4 then ((false, (s.clean n k).1, []), (s.clean n k).2)
  else if kind = 5 then ((false, (s.fresh n k w).1, []), (s.fresh n k w).2)
  else ((false, 0, []), s)
/-! Masks that no fuse asks for. -/
def Fl.setM (s : Fl) (M : List Int) : Fl := { s with M := M }
section
variable {s : Fl} (M : List Int)
end

section
variable {n : Nat} {g1 g2 g3 g4 g5 : Int} (hr : GeoR (n : Int) g1 g2 g3 g4 g5) (ok : GeoOK (n : Int) g1 g2 g3 g4 g5) {s : Fl} (hs : FlOK n s) (hv : (s.V.length : Int) = 2 + 2 * g1 + g2)
include hr ok hs hv
end
/-! Too many acts, or words. -/
theorem ref08_Small_eq {g0 g1 g2 g3 g4 g5 : Int} (hr : GeoR g0 g1 g2 g3 g4 g5) : ∃ b, ref08_Small.c g0 g1 g2 g3 g4 g5 = some b ∧ (b = true → GeoOK g0 g1 g2 g3 g4 g5) := by
  simp only [ref08_Small.c, ref08_Small.t]
  rw [opt_some (ref08_Right_eq hr)]
  by_cases ok : GeoOK g0 g1 g2 g3 g4 g5
  · rw [decide_eq_true ok, bb_pos rfl]
    by_cases h : g0 ≤ 128
    · rw [bb_pos (decide_eq_true h), opt_some (ref08_Map_eq hr)]
      exact ⟨_, by rw [Tw.run_ret], fun _ => ok⟩
    · exact ⟨false, by rw [bb_neg (decide_eq_false h), Tw.run_ret], fun h => nomatch h⟩
  · exact ⟨false, by rw [decide_eq_false ok, bb_neg rfl, Tw.run_ret], fun h => nomatch h⟩

end Go.Proofs.Ytkoidgjgdhpdnaa.Pure
