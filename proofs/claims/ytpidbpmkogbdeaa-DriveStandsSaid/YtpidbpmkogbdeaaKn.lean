/- The program's line of signs, spelt out, and what the rows' closed facts ask of it. (printed by kn.py) -/
import Derived.Test.YtpidbpmkogbdeaaRows
import Derived.Test.YtpidbpmkogbdeaaProg
import Derived.Test.YtpidbpmkogbdeaaChecked
import Derived.Tactics
import Derived.JoinedOf
namespace Go.Proofs.Ytpidbpmkogbdeaa.Kn
open Go
def signs : List Char := ([104, 97, 114, 110, 101, 115, 115, 32, 102, 100, 98, 55, 51, 53, 49, 53, 49, 101, 56, 101, 49, 49, 102, 102, 55, 100, 48, 49, 97, 57, 97, 101, 55, 55, 48, 51, 53, 97, 54, 57, 97, 53, 55, 99, 101, 51, 50, 54, 54, 54, 48, 51, 102, 53, 51, 48, 49, 100, 48, 99, 102, 99, 51, 101, 57, 99, 51, 100, 101, 49, 48, 53, 32, 99, 117, 116, 32, 97, 116, 32, 105, 110, 115, 116, 97, 114, 47, 105, 110, 115, 116, 97, 114, 108, 97, 119, 50, 51, 46, 76, 101, 97, 102, 87, 111, 114, 100, 115, 32, 105, 110, 115, 116, 97, 114, 47, 105, 110, 115, 116, 97, 114, 108, 97, 119, 50, 51, 46, 76, 101, 97, 102, 66, 97, 99, 107, 32, 105, 110, 115, 116, 97, 114, 47, 105, 110, 115, 116, 97, 114, 108, 97, 119, 50, 51, 46, 76, 101, 97, 102, 83, 117, 114, 101, 32, 105, 110, 115, 116, 97, 114, 47, 105, 110, 115, 116, 97, 114, 108, 97, 119, 48, 55, 46, 70, 108, 97, 115, 104, 79, 110, 108, 121, 32, 105, 110, 115, 116, 97, 114, 47, 105, 110, 115, 116, 97, 114, 108, 97, 119, 50, 52, 46, 80, 97, 99, 107, 71, 114, 101, 101, 100, 121, 32, 105, 110, 115, 116, 97, 114, 47, 105, 110, 115, 116, 97, 114, 108, 97, 119, 48, 55, 46, 70, 108, 97, 115, 104, 80, 108, 97, 121, 115, 32, 105, 110, 115, 116, 97, 114, 47, 105, 110, 115, 116, 97, 114, 108, 97, 119, 48, 55, 46, 70, 108, 97, 115, 104, 78, 111, 110, 101, 32, 105, 110, 115, 116, 97, 114, 47, 105, 110, 115, 116, 97, 114, 108, 97, 119, 50, 52, 46, 80, 97, 99, 107, 80, 108, 97, 121, 115, 32, 105, 110, 115, 116, 97, 114, 47, 105, 110, 115, 116, 97, 114, 108, 97, 119, 50, 52, 46, 80, 97, 99, 107, 76, 105, 115, 116, 115, 32, 105, 110, 115, 116, 97, 114, 47, 105, 110, 115, 116, 97, 114, 108, 97, 119, 49, 52, 46, 82, 101, 99, 111, 114, 100, 72, 97, 115, 32, 105, 110, 115, 116, 97, 114, 47, 105, 110, 115, 116, 97, 114, 108, 97, 119, 49, 52, 46, 82, 101, 99, 111, 114, 100, 66, 121, 116, 101, 115, 32, 105, 110, 115, 116, 97, 114, 47, 105, 110, 115, 116, 97, 114, 108, 97, 119, 49, 52, 46, 82, 101, 99, 111, 114, 100, 66, 97, 99, 107, 32, 105, 110, 115, 116, 97, 114, 47, 105, 110, 115, 116, 97, 114, 108, 97, 119, 48, 57, 46, 68, 114, 105, 118, 101, 78, 111, 110, 101, 32, 105, 110, 115, 116, 97, 114, 47, 105, 110, 115, 116, 97, 114, 108, 97, 119, 48, 57, 46, 68, 114, 105, 118, 101, 80, 108, 97, 121, 115, 32, 105, 110, 115, 116, 97, 114, 47, 105, 110, 115, 116, 97, 114, 108, 97, 119, 48, 57, 46, 68, 114, 105, 118, 101, 83, 116, 97, 110, 100, 115] : List Nat).map Char.ofNat
theorem signs_eq : Try.pinned.checked.prog.initOrder.toList = signs := by
  have h : Try.pinned.checked.prog.initOrder = String.ofList signs := by kernel_rfl
  rw [h]
  exact String.toList_ofList
theorem make_of {P : Program} (h : P.initOrder.toList = signs) : P.make = some .cut := by
  unfold Program.make
  rw [h]
  kernel_rfl
theorem headLifts_of {P : Program} (h : P.initOrder.toList = signs) : P.headLifts = [] := by
  unfold Program.headLifts
  rw [h]
  kernel_rfl
theorem liftsFinal_of {P : Program} (h : P.initOrder.toList = signs) : P.liftsFinal = false := by
  unfold Program.liftsFinal
  rw [headLifts_of h, h]
  kernel_rfl
theorem mayEnter_of {P : Program} (h : P.initOrder.toList = signs) (hl : P.laysLater = false) (hb : P.bearsReflect = false) (hd : P.doorFits [] = true) : P.mayEnter = true := by
  unfold Program.mayEnter
  rw [h, hl, hb]
  refine Eq.trans ?_ hd
  kernel_rfl
theorem make_eq : Try.pinned.checked.prog.make = some .cut := make_of signs_eq
theorem liftsFinal_eq : Try.pinned.checked.prog.liftsFinal = false := liftsFinal_of signs_eq
theorem mayEnter_eq : Try.pinned.checked.prog.mayEnter = true := mayEnter_of signs_eq (by kernel_rfl) (by kernel_rfl) (by kernel_rfl)
/-- A row's closed facts, but for these three. -/
noncomputable def rest (P : Program) (f : FuncId) (fn : Func) (s : ChangeSpec) (c : OpenClaim) : { b : Bool // P.make = some .cut → P.liftsFinal = false → P.mayEnter = true → joinedFacts P f fn s c = b } :=
  ⟨_, fun h1 h2 h3 => by rw [joinedFacts, h1, h2, h3]⟩
theorem closed_of {f : FuncId} {fn : Func} {s : ChangeSpec} {c : OpenClaim} (h : (rest Try.pinned.checked.prog f fn s c).1 = true) : joinedFacts Try.pinned.checked.prog f fn s c = true :=
  ((rest Try.pinned.checked.prog f fn s c).2 make_eq liftsFinal_eq mayEnter_eq).trans h
end Go.Proofs.Ytpidbpmkogbdeaa.Kn
