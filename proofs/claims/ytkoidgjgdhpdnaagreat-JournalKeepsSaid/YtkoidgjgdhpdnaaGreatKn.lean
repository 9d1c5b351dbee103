/- The program's line of signs, spelt out, and what the rows' closed facts ask of it. (printed by kn.py) -/
import Derived.Test.YtkoidgjgdhpdnaaGreatRows
import Derived.Test.YtkoidgjgdhpdnaaGreatProg
import Derived.Test.YtkoidgjgdhpdnaaGreatChecked
import Derived.Tactics
import Derived.JoinedOf
namespace Go.Proofs.YtkoidgjgdhpdnaaGreat.Kn
open Go
def signs : List Char := ([104, 97, 114, 110, 101, 115, 115, 32, 52, 98, 52, 53, 100, 56, 100, 50, 52, 54, 52, 56, 49, 101, 53, 54, 98, 54, 98, 57, 101, 100, 101, 57, 56, 99, 54, 101, 102, 51, 53, 56, 54, 97, 100, 56, 57, 55, 49, 52, 54, 56, 99, 97, 52, 99, 55, 52, 53, 55, 48, 51, 102, 98, 55, 53, 97, 101, 57, 52, 97, 99, 56, 55, 32, 99, 117, 116, 32, 97, 116, 32, 105, 110, 115, 116, 97, 114, 47, 105, 110, 115, 116, 97, 114, 108, 97, 119, 49, 49, 46, 74, 111, 117, 114, 110, 97, 108, 80, 108, 97, 121, 115, 32, 105, 110, 115, 116, 97, 114, 47, 105, 110, 115, 116, 97, 114, 108, 97, 119, 49, 49, 46, 74, 111, 117, 114, 110, 97, 108, 75, 101, 101, 112, 115] : List Nat).map Char.ofNat
theorem signs_eq : Tryz.pinned.checked.prog.initOrder.toList = signs := by
 have h : Tryz.pinned.checked.prog.initOrder = String.ofList signs := by kernel_rfl
 rw [h]
 exact String.toList_ofList
theorem make_of {P : Program} (h : P.initOrder.toList = signs) : P.make = some .cut := by
 unfold Program.make
 rw [h]
 kernel_rfl
theorem headLifts_of {P : Program} (h : P.initOrder.toList = signs) : P.headLifts = [] := by
 unfold Program.headLifts
 rw [h]
 kernel_rfl
theorem liftsFinal_of {P : Program} (h : P.initOrder.toList = signs) : P.liftsFinal = false := by
 unfold Program.liftsFinal
 rw [headLifts_of h, h]
 kernel_rfl
theorem mayEnter_of {P : Program} (h : P.initOrder.toList = signs) (hl : P.laysLater = false) (hb : P.bearsReflect = false) (hd : P.doorFits [] = true) : P.mayEnter = true := by
 unfold Program.mayEnter
 rw [h, hl, hb]
 refine Eq.trans ?_ hd
 kernel_rfl
theorem make_eq : Tryz.pinned.checked.prog.make = some .cut := make_of signs_eq
theorem liftsFinal_eq : Tryz.pinned.checked.prog.liftsFinal = false := liftsFinal_of signs_eq
theorem mayEnter_eq : Tryz.pinned.checked.prog.mayEnter = true := mayEnter_of signs_eq (by kernel_rfl) (by kernel_rfl) (by kernel_rfl)
/-- A row's closed facts, but for these three. -/
noncomputable def rest (P : Program) (f : FuncId) (fn : Func) (s : ChangeSpec) (c : OpenClaim) : { b : Bool // P.make = some .cut → P.liftsFinal = false → P.mayEnter = true → joinedFacts P f fn s c = b } :=
 ⟨_, fun h1 h2 h3 => by rw [joinedFacts, h1, h2, h3]⟩
theorem closed_of {f : FuncId} {fn : Func} {s : ChangeSpec} {c : OpenClaim} (h : (rest Tryz.pinned.checked.prog f fn s c).1 = true) : joinedFacts Tryz.pinned.checked.prog f fn s c = true :=
 ((rest Tryz.pinned.checked.prog f fn s c).2 make_eq liftsFinal_eq mayEnter_eq).trans h
end Go.Proofs.YtkoidgjgdhpdnaaGreat.Kn
