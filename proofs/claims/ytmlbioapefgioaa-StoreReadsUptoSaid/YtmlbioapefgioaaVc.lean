/- The evaluator and its proof, put together: Va1. -/
import Derived.Test.YtmlbioapefgioaaV1
/- The rows' element types: tags, and how they lie in cells. (printed by mkcod.py) -/
set_option linter.unusedVariables false
namespace Go.Proofs.Ytmlbioapefgioaa.Va
open Go

structure ItemV where
 key : Int
 data : ByteArray
 deriving Inhabited

structure Act7 where
 kind : Int
 a : Int
 x : Int
 masks : List Int
 deriving Inhabited

structure Act9 where
 kind : Int
 s : Int
 at_ : Int
 n : Int
 w : List Int
 deriving Inhabited

structure Act24 where
 kind : Int
 key : Int
 data : ByteArray
 deriving Inhabited

structure FieldV where
 id : Int
 kind : Int
 lo : Int
 hi : Int
 most : Int
 deriving Inhabited

structure ValueV where
 n : Int
 s : ByteArray
 deriving Inhabited

structure Act32 where
 kind : Int
 slot : Int
 i : Int
 b : List Int
 masks : List Int
 deriving Inhabited

structure Act11 where
 kind : Int
 n : Int
 load : List Int
 whole : List Int
 deriving Inhabited

structure FormV where
 id : Int
 fields : List FieldV
 deriving Inhabited

structure Act28 where
 kind : Int
 id : Int
 form : Int
 vals : List ValueV
 deriving Inhabited

structure KeptV where
 id : Int
 form : Int
 vals : List ValueV
 deriving Inhabited

structure Act27 where
 kind : Int
 gen : Int
 from_ : Int
 key : Int
 data : ByteArray
 items : List ItemV
 deriving Inhabited

abbrev U : Nat → Type
 | 1 => Int
 | 2 => Int
 | 3 => Int
 | 4 => Bool
 | 5 => ByteArray
 | 10 => ItemV
 | 11 => List ItemV
 | 12 => List Int
 | 13 => List Int
 | 14 => Int × Int × Int
 | 15 => List (List ItemV)
 | 20 => Act7
 | 21 => Act9
 | 22 => Act24
 | 23 => FieldV
 | 24 => ValueV
 | 25 => Act32
 | 26 => Int × Int × Int
 | 27 => Act11
 | 28 => FormV
 | 29 => Act28
 | 30 => KeptV
 | 31 => Act27
 | _ => Unit

def cod1 : Cod U 1 := { sz := 1, enc := fun (n : Int) => [.int .i64 n], dec := fun | [.int k n] => (if k = .i64 then some n else none : Option Int) | _ => none, flat := true, dflt := (0 : Int) }
def cod2 : Cod U 2 := { sz := 1, enc := fun (n : Int) => [.int .u8 n], dec := fun | [.int k n] => (if k = .u8 then some n else none : Option Int) | _ => none, flat := true, dflt := (0 : Int) }
def cod3 : Cod U 3 := { sz := 1, enc := fun (n : Int) => [.int .u32 n], dec := fun | [.int k n] => (if k = .u32 then some n else none : Option Int) | _ => none, flat := true, dflt := (0 : Int) }
def cod4 : Cod U 4 := { sz := 1, enc := fun (b : Bool) => [.bool b], dec := fun | [.bool b] => some b | _ => none, flat := true, dflt := false }
def cod5 : Cod U 5 := { sz := 1, enc := fun (s : ByteArray) => [.str s], dec := fun | [.str s] => some s | _ => none, flat := true, dflt := ByteArray.empty }
def cod10 : Cod U 10 := { sz := 2, enc := fun (x : ItemV) => [.int .u32 x.key, .str x.data], dec := fun | [.int k0 y0, .str y1] => (if k0 = .u32 then some ⟨y0, y1⟩ else none : Option (ItemV)) | _ => none, flat := true, dflt := (⟨0, ByteArray.empty⟩ : ItemV) }
def cod11 : Cod U 11 := { sz := 1, enc := fun (l : List ItemV) => [.slice 10 l], dec := fun | [.slice 10 l] => some l | [.nils] => some [] | _ => none, flat := false, dflt := ([] : List ItemV) }
def cod12 : Cod U 12 := { sz := 1, enc := fun (l : List Int) => [.slice 3 l], dec := fun | [.slice 3 l] => some l | [.nils] => some [] | _ => none, flat := false, dflt := ([] : List Int) }
def cod13 : Cod U 13 := { sz := 1, enc := fun (l : List Int) => [.slice 2 l], dec := fun | [.slice 2 l] => some l | [.nils] => some [] | _ => none, flat := false, dflt := ([] : List Int) }
def cod14 : Cod U 14 := { sz := 3, enc := fun (x : Int × Int × Int) => [.int .i64 x.1, .int .i64 x.2.1, .int .i64 x.2.2], dec := fun | [.int k0 y0, .int k1 y1, .int k2 y2] => (if k0 = .i64 ∧ k1 = .i64 ∧ k2 = .i64 then some (y0, y1, y2) else none : Option (Int × Int × Int)) | _ => none, flat := true, dflt := ((0, 0, 0) : Int × Int × Int) }
def cod15 : Cod U 15 := { sz := 1, enc := fun (l : List (List ItemV)) => [.slice 11 l], dec := fun | [.slice 11 l] => some l | [.nils] => some [] | _ => none, flat := false, dflt := ([] : List (List ItemV)) }
def cod20 : Cod U 20 := { sz := 4, enc := fun (x : Act7) => [.int .i64 x.kind, .int .i64 x.a, .int .u32 x.x, .slice 3 x.masks], dec := fun | [.int k0 y0, .int k1 y1, .int k2 y2, .slice 3 y3] => (if k0 = .i64 ∧ k1 = .i64 ∧ k2 = .u32 then some ⟨y0, y1, y2, y3⟩ else none : Option (Act7)) | [.int k0 y0, .int k1 y1, .int k2 y2, .nils] => (if k0 = .i64 ∧ k1 = .i64 ∧ k2 = .u32 then some ⟨y0, y1, y2, []⟩ else none : Option (Act7)) | _ => none, flat := false, dflt := (⟨0, 0, 0, []⟩ : Act7) }
def cod21 : Cod U 21 := { sz := 5, enc := fun (x : Act9) => [.int .i64 x.kind, .int .i64 x.s, .int .i64 x.at_, .int .i64 x.n, .slice 3 x.w], dec := fun | [.int k0 y0, .int k1 y1, .int k2 y2, .int k3 y3, .slice 3 y4] => (if k0 = .i64 ∧ k1 = .i64 ∧ k2 = .i64 ∧ k3 = .i64 then some ⟨y0, y1, y2, y3, y4⟩ else none : Option (Act9)) | [.int k0 y0, .int k1 y1, .int k2 y2, .int k3 y3, .nils] => (if k0 = .i64 ∧ k1 = .i64 ∧ k2 = .i64 ∧ k3 = .i64 then some ⟨y0, y1, y2, y3, []⟩ else none : Option (Act9)) | _ => none, flat := false, dflt := (⟨0, 0, 0, 0, []⟩ : Act9) }
def cod22 : Cod U 22 := { sz := 3, enc := fun (x : Act24) => [.int .i64 x.kind, .int .u32 x.key, .str x.data], dec := fun | [.int k0 y0, .int k1 y1, .str y2] => (if k0 = .i64 ∧ k1 = .u32 then some ⟨y0, y1, y2⟩ else none : Option (Act24)) | _ => none, flat := true, dflt := (⟨0, 0, ByteArray.empty⟩ : Act24) }
def cod23 : Cod U 23 := { sz := 5, enc := fun (x : FieldV) => [.int .i64 x.id, .int .i64 x.kind, .int .i64 x.lo, .int .i64 x.hi, .int .i64 x.most], dec := fun | [.int k0 y0, .int k1 y1, .int k2 y2, .int k3 y3, .int k4 y4] => (if k0 = .i64 ∧ k1 = .i64 ∧ k2 = .i64 ∧ k3 = .i64 ∧ k4 = .i64 then some ⟨y0, y1, y2, y3, y4⟩ else none : Option (FieldV)) | _ => none, flat := true, dflt := (⟨0, 0, 0, 0, 0⟩ : FieldV) }
def cod24 : Cod U 24 := { sz := 2, enc := fun (x : ValueV) => [.int .i64 x.n, .str x.s], dec := fun | [.int k0 y0, .str y1] => (if k0 = .i64 then some ⟨y0, y1⟩ else none : Option (ValueV)) | _ => none, flat := true, dflt := (⟨0, ByteArray.empty⟩ : ValueV) }
def cod25 : Cod U 25 := { sz := 5, enc := fun (x : Act32) => [.int .i64 x.kind, .int .i64 x.slot, .int .i64 x.i, .slice 2 x.b, .slice 3 x.masks], dec := fun | [.int k0 y0, .int k1 y1, .int k2 y2, .slice 2 y3, .slice 3 y4] => (if k0 = .i64 ∧ k1 = .i64 ∧ k2 = .i64 then some ⟨y0, y1, y2, y3, y4⟩ else none : Option (Act32)) | [.int k0 y0, .int k1 y1, .int k2 y2, .nils, .slice 3 y4] => (if k0 = .i64 ∧ k1 = .i64 ∧ k2 = .i64 then some ⟨y0, y1, y2, [], y4⟩ else none : Option (Act32)) | [.int k0 y0, .int k1 y1, .int k2 y2, .slice 2 y3, .nils] => (if k0 = .i64 ∧ k1 = .i64 ∧ k2 = .i64 then some ⟨y0, y1, y2, y3, []⟩ else none : Option (Act32)) | [.int k0 y0, .int k1 y1, .int k2 y2, .nils, .nils] => (if k0 = .i64 ∧ k1 = .i64 ∧ k2 = .i64 then some ⟨y0, y1, y2, [], []⟩ else none : Option (Act32)) | _ => none, flat := false, dflt := (⟨0, 0, 0, [], []⟩ : Act32) }
def cod26 : Cod U 26 := { sz := 3, enc := fun (x : Int × Int × Int) => [.int .u32 x.1, .int .u32 x.2.1, .int .u32 x.2.2], dec := fun | [.int k0 y0, .int k1 y1, .int k2 y2] => (if k0 = .u32 ∧ k1 = .u32 ∧ k2 = .u32 then some (y0, y1, y2) else none : Option (Int × Int × Int)) | _ => none, flat := true, dflt := ((0, 0, 0) : Int × Int × Int) }
def cod27 : Cod U 27 := { sz := 4, enc := fun (x : Act11) => [.int .i64 x.kind, .int .i64 x.n, .slice 3 x.load, .slice 3 x.whole], dec := fun | [.int k0 y0, .int k1 y1, .slice 3 y2, .slice 3 y3] => (if k0 = .i64 ∧ k1 = .i64 then some ⟨y0, y1, y2, y3⟩ else none : Option (Act11)) | [.int k0 y0, .int k1 y1, .nils, .slice 3 y3] => (if k0 = .i64 ∧ k1 = .i64 then some ⟨y0, y1, [], y3⟩ else none : Option (Act11)) | [.int k0 y0, .int k1 y1, .slice 3 y2, .nils] => (if k0 = .i64 ∧ k1 = .i64 then some ⟨y0, y1, y2, []⟩ else none : Option (Act11)) | [.int k0 y0, .int k1 y1, .nils, .nils] => (if k0 = .i64 ∧ k1 = .i64 then some ⟨y0, y1, [], []⟩ else none : Option (Act11)) | _ => none, flat := false, dflt := (⟨0, 0, [], []⟩ : Act11) }
def cod28 : Cod U 28 := { sz := 2, enc := fun (x : FormV) => [.int .i64 x.id, .slice 23 x.fields], dec := fun | [.int k0 y0, .slice 23 y1] => (if k0 = .i64 then some ⟨y0, y1⟩ else none : Option (FormV)) | [.int k0 y0, .nils] => (if k0 = .i64 then some ⟨y0, []⟩ else none : Option (FormV)) | _ => none, flat := false, dflt := (⟨0, []⟩ : FormV) }
def cod29 : Cod U 29 := { sz := 4, enc := fun (x : Act28) => [.int .i64 x.kind, .int .i64 x.id, .int .i64 x.form, .slice 24 x.vals], dec := fun | [.int k0 y0, .int k1 y1, .int k2 y2, .slice 24 y3] => (if k0 = .i64 ∧ k1 = .i64 ∧ k2 = .i64 then some ⟨y0, y1, y2, y3⟩ else none : Option (Act28)) | [.int k0 y0, .int k1 y1, .int k2 y2, .nils] => (if k0 = .i64 ∧ k1 = .i64 ∧ k2 = .i64 then some ⟨y0, y1, y2, []⟩ else none : Option (Act28)) | _ => none, flat := false, dflt := (⟨0, 0, 0, []⟩ : Act28) }
def cod30 : Cod U 30 := { sz := 3, enc := fun (x : KeptV) => [.int .i64 x.id, .int .i64 x.form, .slice 24 x.vals], dec := fun | [.int k0 y0, .int k1 y1, .slice 24 y2] => (if k0 = .i64 ∧ k1 = .i64 then some ⟨y0, y1, y2⟩ else none : Option (KeptV)) | [.int k0 y0, .int k1 y1, .nils] => (if k0 = .i64 ∧ k1 = .i64 then some ⟨y0, y1, []⟩ else none : Option (KeptV)) | _ => none, flat := false, dflt := (⟨0, 0, []⟩ : KeptV) }
def cod31 : Cod U 31 := { sz := 6, enc := fun (x : Act27) => [.int .i64 x.kind, .int .i64 x.gen, .int .i64 x.from_, .int .u32 x.key, .str x.data, .slice 10 x.items], dec := fun | [.int k0 y0, .int k1 y1, .int k2 y2, .int k3 y3, .str y4, .slice 10 y5] => (if k0 = .i64 ∧ k1 = .i64 ∧ k2 = .i64 ∧ k3 = .u32 then some ⟨y0, y1, y2, y3, y4, y5⟩ else none : Option (Act27)) | [.int k0 y0, .int k1 y1, .int k2 y2, .int k3 y3, .str y4, .nils] => (if k0 = .i64 ∧ k1 = .i64 ∧ k2 = .i64 ∧ k3 = .u32 then some ⟨y0, y1, y2, y3, y4, []⟩ else none : Option (Act27)) | _ => none, flat := false, dflt := (⟨0, 0, 0, 0, ByteArray.empty, []⟩ : Act27) }

def cc : (T : Nat) → Cod U T
 | 1 => cod1
 | 2 => cod2
 | 3 => cod3
 | 4 => cod4
 | 5 => cod5
 | 10 => cod10
 | 11 => cod11
 | 12 => cod12
 | 13 => cod13
 | 14 => cod14
 | 15 => cod15
 | 20 => cod20
 | 21 => cod21
 | 22 => cod22
 | 23 => cod23
 | 24 => cod24
 | 25 => cod25
 | 26 => cod26
 | 27 => cod27
 | 28 => cod28
 | 29 => cod29
 | 30 => cod30
 | 31 => cod31
 | _ => { sz := 0, enc := fun _ => [], dec := fun _ => none, flat := true, dflt := by unfold U; split <;> exact default }

end Go.Proofs.Ytmlbioapefgioaa.Va

