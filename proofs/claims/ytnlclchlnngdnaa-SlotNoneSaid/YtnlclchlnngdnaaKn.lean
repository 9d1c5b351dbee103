/- The program's line of signs, spelt out, and what the rows' closed facts ask of it. (printed by kn.py) -/
import Derived.Test.YtnlclchlnngdnaaRows
import Derived.Test.YtnlclchlnngdnaaProg
import Derived.Test.YtnlclchlnngdnaaChecked
import Derived.Tactics
import Derived.JoinedOf
namespace Go.Proofs.Ytnlclchlnngdnaa.Kn
open Go
def signs : List Char := ([104, 97, 114, 110, 101, 115, 115, 32, 51, 101, 101, 56, 99, 57, 102, 51, 57, 56, 56, 100, 100, 98, 98, 97, 53, 99, 53, 49, 98, 52, 99, 100, 49, 52, 48, 101, 101, 98, 54, 57, 102, 54, 55, 53, 97, 97, 52, 57, 53, 56, 51, 99, 101, 98, 53, 49, 51, 56, 48, 50, 48, 56, 97, 55, 102, 56, 57, 99, 57, 53, 54, 48, 32, 99, 117, 116, 32, 97, 116, 32, 105, 110, 115, 116, 97, 114, 47, 105, 110, 115, 116, 97, 114, 108, 97, 119, 51, 50, 46, 83, 108, 111, 116, 80, 108, 97, 121, 115, 32, 105, 110, 115, 116, 97, 114, 47, 105, 110, 115, 116, 97, 114, 108, 97, 119, 51, 50, 46, 83, 108, 111, 116, 75, 101, 101, 112, 115, 32, 105, 110, 115, 116, 97, 114, 47, 105, 110, 115, 116, 97, 114, 108, 97, 119, 51, 50, 46, 83, 108, 111, 116, 78, 111, 110, 101] : List Nat).map Char.ofNat
theorem signs_eq : Try.pinned.checked.prog.initOrder.toList = signs := by
  have h : Try.pinned.checked.prog.initOrder = String.ofList signs := by kernel_rfl
  rw [h]
  exact String.toList_ofList
theorem make_of {P : Program} (h : P.initOrder.toList = signs) : P.make = some .cut := by
  unfold Program.make
  rw [h]
  kernel_rfl
theorem headLifts_of {P : Program} (h : P.initOrder.toList = signs) : P.headLifts = [] := by
  unfold Program.headLifts
  rw [h]
  kernel_rfl
theorem liftsFinal_of {P : Program} (h : P.initOrder.toList = signs) : P.liftsFinal = false := by
  unfold Program.liftsFinal
  rw [headLifts_of h, h]
  kernel_rfl
theorem mayEnter_of {P : Program} (h : P.initOrder.toList = signs) (hl : P.laysLater = false) (hb : P.bearsReflect = false) (hd : P.doorFits [] = true) : P.mayEnter = true := by
  unfold Program.mayEnter
  rw [h, hl, hb]
  refine Eq.trans ?_ hd
  kernel_rfl
theorem make_eq : Try.pinned.checked.prog.make = some .cut := make_of signs_eq
theorem liftsFinal_eq : Try.pinned.checked.prog.liftsFinal = false := liftsFinal_of signs_eq
theorem mayEnter_eq : Try.pinned.checked.prog.mayEnter = true := mayEnter_of signs_eq (by kernel_rfl) (by kernel_rfl) (by kernel_rfl)
/-- A row's closed facts, but for these three. -/
noncomputable def rest (P : Program) (f : FuncId) (fn : Func) (s : ChangeSpec) (c : OpenClaim) : { b : Bool // P.make = some .cut → P.liftsFinal = false → P.mayEnter = true → joinedFacts P f fn s c = b } :=
  ⟨_, fun h1 h2 h3 => by rw [joinedFacts, h1, h2, h3]⟩
theorem closed_of {f : FuncId} {fn : Func} {s : ChangeSpec} {c : OpenClaim} (h : (rest Try.pinned.checked.prog f fn s c).1 = true) : joinedFacts Try.pinned.checked.prog f fn s c = true :=
  ((rest Try.pinned.checked.prog f fn s c).2 make_eq liftsFinal_eq mayEnter_eq).trans h
end Go.Proofs.Ytnlclchlnngdnaa.Kn
