/- The evaluator and its proof, put together: Va1. -/
import Derived.Test.YtcnomgpbkimmeaaV1
/- The rows' element types: tags, and how they lie in cells. (printed by mkcod.py) -/
namespace Go.Proofs.Ytcnomgpbkimmeaa.Va
open Go
set_option linter.unusedVariables false

structure ItemV where
  key : Int
  data : ByteArray
  deriving Inhabited

abbrev U : Nat → Type
  | 1 => Int
  | 2 => Int
  | 3 => Int
  | 4 => Bool
  | 5 => ByteArray
  | 10 => ItemV
  | 11 => List ItemV
  | 12 => List Int
  | 13 => List Int
  | 14 => Int × Int × Int
  | _ => Unit

def cod1 : Cod U 1 := { sz := 1, enc := fun (n : Int) => [.int .i64 n], dec := fun | [.int k n] => (if k = .i64 then some n else none : Option Int) | _ => none, flat := true, dflt := (0 : Int) }
def cod2 : Cod U 2 := { sz := 1, enc := fun (n : Int) => [.int .u8 n], dec := fun | [.int k n] => (if k = .u8 then some n else none : Option Int) | _ => none, flat := true, dflt := (0 : Int) }
def cod3 : Cod U 3 := { sz := 1, enc := fun (n : Int) => [.int .u32 n], dec := fun | [.int k n] => (if k = .u32 then some n else none : Option Int) | _ => none, flat := true, dflt := (0 : Int) }
def cod4 : Cod U 4 := { sz := 1, enc := fun (b : Bool) => [.bool b], dec := fun | [.bool b] => some b | _ => none, flat := true, dflt := false }
def cod5 : Cod U 5 := { sz := 1, enc := fun (s : ByteArray) => [.str s], dec := fun | [.str s] => some s | _ => none, flat := true, dflt := ByteArray.empty }
def cod10 : Cod U 10 := { sz := 2, enc := fun (x : ItemV) => [.int .u32 x.key, .str x.data], dec := fun | [.int k0 y0, .str y1] => (if k0 = .u32 then some ⟨y0, y1⟩ else none : Option (ItemV)) | _ => none, flat := true, dflt := (⟨0, ByteArray.empty⟩ : ItemV) }
def cod11 : Cod U 11 := { sz := 1, enc := fun (l : List ItemV) => [.slice 10 l], dec := fun | [.slice 10 l] => some l | [.nils] => some [] | _ => none, flat := false, dflt := ([] : List ItemV) }
def cod12 : Cod U 12 := { sz := 1, enc := fun (l : List Int) => [.slice 3 l], dec := fun | [.slice 3 l] => some l | [.nils] => some [] | _ => none, flat := false, dflt := ([] : List Int) }
def cod13 : Cod U 13 := { sz := 1, enc := fun (l : List Int) => [.slice 2 l], dec := fun | [.slice 2 l] => some l | [.nils] => some [] | _ => none, flat := false, dflt := ([] : List Int) }
def cod14 : Cod U 14 := { sz := 3, enc := fun (x : Int × Int × Int) => [.int .i64 x.1, .int .i64 x.2.1, .int .i64 x.2.2], dec := fun | [.int k0 y0, .int k1 y1, .int k2 y2] => (if k0 = .i64 ∧ k1 = .i64 ∧ k2 = .i64 then some (y0, y1, y2) else none : Option (Int × Int × Int)) | _ => none, flat := true, dflt := ((0, 0, 0) : Int × Int × Int) }

def cc : (T : Nat) → Cod U T
  | 1 => cod1
  | 2 => cod2
  | 3 => cod3
  | 4 => cod4
  | 5 => cod5
  | 10 => cod10
  | 11 => cod11
  | 12 => cod12
  | 13 => cod13
  | 14 => cod14
  | _ => { sz := 0, enc := fun _ => [], dec := fun _ => none, flat := true, dflt := by unfold U; split <;> exact default }

end Go.Proofs.Ytcnomgpbkimmeaa.Va

