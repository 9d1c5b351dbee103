/- The program's line of signs, spelt out, and what the rows' closed facts ask of it. (printed by kn.py) -/
import Derived.Test.YtkoidgjgdhpdnaaRows
import Derived.Test.YtkoidgjgdhpdnaaProg
import Derived.Test.YtkoidgjgdhpdnaaChecked
import Derived.Tactics
import Derived.JoinedOf
namespace Go.Proofs.Ytkoidgjgdhpdnaa.Kn
open Go
def signs : List Char := ([104, 97, 114, 110, 101, 115, 115, 32, 51, 53, 97, 97, 102, 100, 51, 98, 56, 51, 56, 56, 100, 57, 53, 49, 56, 53, 101, 98, 56, 98, 101, 48, 56, 99, 53, 99, 54, 97, 102, 50, 56, 50, 50, 101, 48, 101, 98, 99, 50, 101, 55, 48, 49, 101, 99, 51, 57, 102, 57, 102, 51, 100, 101, 49, 52, 100, 48, 49, 54, 49, 54, 52, 32, 99, 117, 116, 32, 97, 116, 32, 105, 110, 115, 116, 97, 114, 47, 105, 110, 115, 116, 97, 114, 108, 97, 119, 49, 49, 46, 74, 111, 117, 114, 110, 97, 108, 78, 111, 110, 101, 32, 105, 110, 115, 116, 97, 114, 47, 105, 110, 115, 116, 97, 114, 108, 97, 119, 51, 52, 46, 66, 111, 111, 107, 70, 111, 108, 100, 115] : List Nat).map Char.ofNat
theorem signs_eq : Try.pinned.checked.prog.initOrder.toList = signs := by
 have h : Try.pinned.checked.prog.initOrder = String.ofList signs := by kernel_rfl
 rw [h]
 exact String.toList_ofList
theorem make_of {P : Program} (h : P.initOrder.toList = signs) : P.make = some .cut := by
 unfold Program.make
 rw [h]
 kernel_rfl
theorem headLifts_of {P : Program} (h : P.initOrder.toList = signs) : P.headLifts = [] := by
 unfold Program.headLifts
 rw [h]
 kernel_rfl
theorem liftsFinal_of {P : Program} (h : P.initOrder.toList = signs) : P.liftsFinal = false := by
 unfold Program.liftsFinal
 rw [headLifts_of h, h]
 kernel_rfl
theorem mayEnter_of {P : Program} (h : P.initOrder.toList = signs) (hl : P.laysLater = false) (hb : P.bearsReflect = false) (hd : P.doorFits [] = true) : P.mayEnter = true := by
 unfold Program.mayEnter
 rw [h, hl, hb]
 refine Eq.trans ?_ hd
 kernel_rfl
theorem make_eq : Try.pinned.checked.prog.make = some .cut := make_of signs_eq
theorem liftsFinal_eq : Try.pinned.checked.prog.liftsFinal = false := liftsFinal_of signs_eq
theorem mayEnter_eq : Try.pinned.checked.prog.mayEnter = true := mayEnter_of signs_eq (by kernel_rfl) (by kernel_rfl) (by kernel_rfl)
/-- A row's closed facts, but for these three. -/
noncomputable def rest (P : Program) (f : FuncId) (fn : Func) (s : ChangeSpec) (c : OpenClaim) : { b : Bool // P.make = some .cut → P.liftsFinal = false → P.mayEnter = true → joinedFacts P f fn s c = b } :=
 ⟨_, fun h1 h2 h3 => by rw [joinedFacts, h1, h2, h3]⟩
theorem closed_of {f : FuncId} {fn : Func} {s : ChangeSpec} {c : OpenClaim} (h : (rest Try.pinned.checked.prog f fn s c).1 = true) : joinedFacts Try.pinned.checked.prog f fn s c = true :=
 ((rest Try.pinned.checked.prog f fn s c).2 make_eq liftsFinal_eq mayEnter_eq).trans h
end Go.Proofs.Ytkoidgjgdhpdnaa.Kn
