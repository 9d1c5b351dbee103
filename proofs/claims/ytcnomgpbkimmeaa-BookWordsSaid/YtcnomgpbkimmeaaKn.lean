/- The program's line of signs, spelt out, and what the rows' closed facts ask of it. (printed by kn.py) -/
import Derived.Test.YtcnomgpbkimmeaaRows
import Derived.Test.YtcnomgpbkimmeaaProg
import Derived.Test.YtcnomgpbkimmeaaChecked
import Derived.Tactics
import Derived.JoinedOf
namespace Go.Proofs.Ytcnomgpbkimmeaa.Kn
open Go
def signs : List Char := ([104, 97, 114, 110, 101, 115, 115, 32, 56, 57, 99, 54, 48, 52, 97, 99, 56, 53, 101, 54, 97, 53, 53, 57, 98, 50, 49, 49, 53, 97, 57, 101, 48, 100, 56, 53, 102, 56, 56, 55, 101, 101, 48, 50, 57, 55, 52, 49, 99, 49, 48, 53, 52, 50, 55, 102, 55, 49, 97, 56, 54, 50, 99, 98, 99, 98, 98, 52, 54, 48, 101, 52, 32, 99, 117, 116, 32, 97, 116, 32, 105, 110, 115, 116, 97, 114, 47, 105, 110, 115, 116, 97, 114, 108, 97, 119, 50, 53, 46, 84, 97, 98, 108, 101, 87, 111, 114, 100, 115, 32, 105, 110, 115, 116, 97, 114, 47, 105, 110, 115, 116, 97, 114, 108, 97, 119, 50, 53, 46, 84, 97, 98, 108, 101, 66, 97, 99, 107, 32, 105, 110, 115, 116, 97, 114, 47, 105, 110, 115, 116, 97, 114, 108, 97, 119, 50, 53, 46, 84, 97, 98, 108, 101, 83, 117, 114, 101, 32, 105, 110, 115, 116, 97, 114, 47, 105, 110, 115, 116, 97, 114, 108, 97, 119, 51, 52, 46, 66, 111, 111, 107, 67, 104, 97, 110, 103, 101, 115, 32, 105, 110, 115, 116, 97, 114, 47, 105, 110, 115, 116, 97, 114, 108, 97, 119, 51, 52, 46, 66, 111, 111, 107, 87, 111, 114, 100, 115, 32, 105, 110, 115, 116, 97, 114, 47, 105, 110, 115, 116, 97, 114, 108, 97, 119, 51, 52, 46, 66, 111, 111, 107, 66, 97, 99, 107, 32, 105, 110, 115, 116, 97, 114, 47, 105, 110, 115, 116, 97, 114, 108, 97, 119, 49, 48, 46, 70, 114, 97, 109, 101, 87, 111, 114, 100, 115, 32, 105, 110, 115, 116, 97, 114, 47, 105, 110, 115, 116, 97, 114, 108, 97, 119, 49, 48, 46, 70, 114, 97, 109, 101, 66, 97, 99, 107, 32, 105, 110, 115, 116, 97, 114, 47, 105, 110, 115, 116, 97, 114, 108, 97, 119, 49, 48, 46, 70, 114, 97, 109, 101, 83, 117, 114, 101, 32, 105, 110, 115, 116, 97, 114, 47, 105, 110, 115, 116, 97, 114, 108, 97, 119, 49, 48, 46, 70, 114, 97, 109, 101, 67, 117, 116, 32, 105, 110, 115, 116, 97, 114, 47, 105, 110, 115, 116, 97, 114, 108, 97, 119, 51, 53, 46, 77, 111, 100, 101, 68, 111, 119, 110, 32, 105, 110, 115, 116, 97, 114, 47, 105, 110, 115, 116, 97, 114, 108, 97, 119, 49, 50, 46, 70, 105, 101, 108, 100, 84, 121, 112, 101, 115, 32, 105, 110, 115, 116, 97, 114, 47, 105, 110, 115, 116, 97, 114, 108, 97, 119, 49, 50, 46, 70, 105, 101, 108, 100, 87, 105, 100, 101, 114, 32, 105, 110, 115, 116, 97, 114, 47, 105, 110, 115, 116, 97, 114, 108, 97, 119, 49, 50, 46, 70, 105, 101, 108, 100, 66, 121, 116, 101, 115, 32, 105, 110, 115, 116, 97, 114, 47, 105, 110, 115, 116, 97, 114, 108, 97, 119, 49, 50, 46, 70, 105, 101, 108, 100, 66, 97, 99, 107, 32, 105, 110, 115, 116, 97, 114, 47, 105, 110, 115, 116, 97, 114, 108, 97, 119, 51, 53, 46, 77, 111, 100, 101, 66, 97, 99, 107, 32, 105, 110, 115, 116, 97, 114, 47, 105, 110, 115, 116, 97, 114, 108, 97, 119, 51, 53, 46, 77, 111, 100, 101, 83, 116, 101, 112, 115, 32, 105, 110, 115, 116, 97, 114, 47, 105, 110, 115, 116, 97, 114, 108, 97, 119, 51, 54, 46, 66, 111, 111, 116, 78, 101, 120, 116, 32, 105, 110, 115, 116, 97, 114, 47, 105, 110, 115, 116, 97, 114, 108, 97, 119, 51, 54, 46, 66, 111, 111, 116, 69, 110, 100, 115, 32, 105, 110, 115, 116, 97, 114, 47, 105, 110, 115, 116, 97, 114, 108, 97, 119, 52, 51, 46, 87, 101, 97, 114, 79, 102, 32, 105, 110, 115, 116, 97, 114, 47, 105, 110, 115, 116, 97, 114, 108, 97, 119, 52, 51, 46, 87, 101, 97, 114, 67, 111, 117, 110, 116, 115] : List Nat).map Char.ofNat
theorem signs_eq : Try.pinned.checked.prog.initOrder.toList = signs := by
  have h : Try.pinned.checked.prog.initOrder = String.ofList signs := by kernel_rfl
  rw [h]
  exact String.toList_ofList
theorem make_of {P : Program} (h : P.initOrder.toList = signs) : P.make = some .cut := by
  unfold Program.make
  rw [h]
  kernel_rfl
theorem headLifts_of {P : Program} (h : P.initOrder.toList = signs) : P.headLifts = [] := by
  unfold Program.headLifts
  rw [h]
  kernel_rfl
theorem liftsFinal_of {P : Program} (h : P.initOrder.toList = signs) : P.liftsFinal = false := by
  unfold Program.liftsFinal
  rw [headLifts_of h, h]
  kernel_rfl
theorem mayEnter_of {P : Program} (h : P.initOrder.toList = signs) (hl : P.laysLater = false) (hb : P.bearsReflect = false) (hd : P.doorFits [] = true) : P.mayEnter = true := by
  unfold Program.mayEnter
  rw [h, hl, hb]
  refine Eq.trans ?_ hd
  kernel_rfl
theorem make_eq : Try.pinned.checked.prog.make = some .cut := make_of signs_eq
theorem liftsFinal_eq : Try.pinned.checked.prog.liftsFinal = false := liftsFinal_of signs_eq
theorem mayEnter_eq : Try.pinned.checked.prog.mayEnter = true := mayEnter_of signs_eq (by kernel_rfl) (by kernel_rfl) (by kernel_rfl)
/-- A row's closed facts, but for these three. -/
noncomputable def rest (P : Program) (f : FuncId) (fn : Func) (s : ChangeSpec) (c : OpenClaim) : { b : Bool // P.make = some .cut → P.liftsFinal = false → P.mayEnter = true → joinedFacts P f fn s c = b } :=
  ⟨_, fun h1 h2 h3 => by rw [joinedFacts, h1, h2, h3]⟩
theorem closed_of {f : FuncId} {fn : Func} {s : ChangeSpec} {c : OpenClaim} (h : (rest Try.pinned.checked.prog f fn s c).1 = true) : joinedFacts Try.pinned.checked.prog f fn s c = true :=
  ((rest Try.pinned.checked.prog f fn s c).2 make_eq liftsFinal_eq mayEnter_eq).trans h
end Go.Proofs.Ytcnomgpbkimmeaa.Kn
