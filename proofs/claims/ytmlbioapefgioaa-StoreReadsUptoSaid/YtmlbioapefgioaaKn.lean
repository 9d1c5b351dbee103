/- The program's line of signs, spelt out, and what the rows' closed facts ask of it. (printed by kn.py) -/
import Derived.Test.YtmlbioapefgioaaRows
import Derived.Test.YtmlbioapefgioaaProg
import Derived.Test.YtmlbioapefgioaaChecked
import Derived.Tactics
import Derived.JoinedOf
namespace Go.Proofs.Ytmlbioapefgioaa.Kn
open Go
def signs : List Char := ([104, 97, 114, 110, 101, 115, 115, 32, 51, 98, 54, 99, 53, 54, 97, 53, 98, 101, 48, 99, 102, 51, 57, 48, 54, 57, 57, 56, 53, 99, 51, 48, 101, 48, 51, 56, 51, 98, 99, 53, 101, 48, 97, 51, 52, 51, 51, 56, 101, 53, 99, 56, 53, 56, 97, 50, 56, 55, 52, 56, 51, 98, 99, 51, 56, 56, 99, 50, 55, 57, 48, 55, 32, 99, 117, 116, 32, 97, 116, 32, 105, 110, 115, 116, 97, 114, 47, 105, 110, 115, 116, 97, 114, 108, 97, 119, 50, 52, 46, 80, 97, 99, 107, 71, 114, 101, 101, 100, 121, 32, 105, 110, 115, 116, 97, 114, 47, 105, 110, 115, 116, 97, 114, 108, 97, 119, 50, 52, 46, 80, 97, 99, 107, 80, 108, 97, 121, 115, 32, 105, 110, 115, 116, 97, 114, 47, 105, 110, 115, 116, 97, 114, 108, 97, 119, 50, 52, 46, 80, 97, 99, 107, 76, 105, 115, 116, 115, 32, 105, 110, 115, 116, 97, 114, 47, 105, 110, 115, 116, 97, 114, 108, 97, 119, 52, 51, 46, 87, 101, 97, 114, 79, 102, 32, 105, 110, 115, 116, 97, 114, 47, 105, 110, 115, 116, 97, 114, 108, 97, 119, 52, 51, 46, 87, 101, 97, 114, 67, 111, 117, 110, 116, 115, 32, 105, 110, 115, 116, 97, 114, 47, 105, 110, 115, 116, 97, 114, 108, 97, 119, 50, 56, 46, 83, 116, 111, 114, 101, 77, 97, 112, 32, 105, 110, 115, 116, 97, 114, 47, 105, 110, 115, 116, 97, 114, 108, 97, 119, 50, 56, 46, 83, 116, 111, 114, 101, 80, 108, 97, 121, 115, 32, 105, 110, 115, 116, 97, 114, 47, 105, 110, 115, 116, 97, 114, 108, 97, 119, 50, 56, 46, 83, 116, 111, 114, 101, 82, 101, 97, 100, 115] : List Nat).map Char.ofNat
theorem signs_eq : Try.pinned.checked.prog.initOrder.toList = signs := by
 have h : Try.pinned.checked.prog.initOrder = String.ofList signs := by kernel_rfl
 rw [h]
 exact String.toList_ofList
theorem make_of {P : Program} (h : P.initOrder.toList = signs) : P.make = some .cut := by
 unfold Program.make
 rw [h]
 kernel_rfl
theorem headLifts_of {P : Program} (h : P.initOrder.toList = signs) : P.headLifts = [] := by
 unfold Program.headLifts
 rw [h]
 kernel_rfl
theorem liftsFinal_of {P : Program} (h : P.initOrder.toList = signs) : P.liftsFinal = false := by
 unfold Program.liftsFinal
 rw [headLifts_of h, h]
 kernel_rfl
theorem mayEnter_of {P : Program} (h : P.initOrder.toList = signs) (hl : P.laysLater = false) (hb : P.bearsReflect = false) (hd : P.doorFits [] = true) : P.mayEnter = true := by
 unfold Program.mayEnter
 rw [h, hl, hb]
 refine Eq.trans ?_ hd
 kernel_rfl
theorem make_eq : Try.pinned.checked.prog.make = some .cut := make_of signs_eq
theorem liftsFinal_eq : Try.pinned.checked.prog.liftsFinal = false := liftsFinal_of signs_eq
theorem mayEnter_eq : Try.pinned.checked.prog.mayEnter = true := mayEnter_of signs_eq (by kernel_rfl) (by kernel_rfl) (by kernel_rfl)
/-- A row's closed facts, but for these three. -/
noncomputable def rest (P : Program) (f : FuncId) (fn : Func) (s : ChangeSpec) (c : OpenClaim) : { b : Bool // P.make = some .cut → P.liftsFinal = false → P.mayEnter = true → joinedFacts P f fn s c = b } :=
 ⟨_, fun h1 h2 h3 => by rw [joinedFacts, h1, h2, h3]⟩
theorem closed_of {f : FuncId} {fn : Func} {s : ChangeSpec} {c : OpenClaim} (h : (rest Try.pinned.checked.prog f fn s c).1 = true) : joinedFacts Try.pinned.checked.prog f fn s c = true :=
 ((rest Try.pinned.checked.prog f fn s c).2 make_eq liftsFinal_eq mayEnter_eq).trans h
end Go.Proofs.Ytmlbioapefgioaa.Kn
