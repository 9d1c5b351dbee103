/- The evaluator and its proof, put together: Va0. -/
import Derived.Calls
/- The abstract domain and the evaluator ("Va"): values, owned blocks, operations in continuation style. No proof here. -/
set_option linter.unusedVariables false
namespace Go.Proofs.Ytmlbioapefgioaa.Va
open Go

inductive IV (U : Nat → Type) : Type where
 | int (k : IntKind) (n : Int)
 | bool (b : Bool)
 | str (s : ByteArray)
 | flt (k : FloatKind) (b : Nat)
 | nilp | nils | nilf | nili
 | slice (T : Nat) (l : List (U T))

structure Cod (U : Nat → Type) (T : Nat) where
 sz : Nat
 enc : U T → List (IV U)
 dec : List (IV U) → Option (U T)
 flat : Bool
 dflt : U T

inductive AV (U : Nat → Type) : Type where
 | im (v : IV U)
 | own (b : Nat)
 | sub (b off len sz : Nat)
 | vsl (b off len sz : Nat)
 | ptr (b off : Nat)
 | rptr (b i sub sz : Nat)
 | iptr (cells : List (IV U)) (sub : Nat)
 | agg (cells : List (AV U))
 | tup (xs : List (AV U))
 | clo (f : FuncId) (cap : List (AV U))
 /-- a slice as a value that is known not to be nil -/
 | nn (T : Nat) (l : List (U T))
 /-- a slice that is known to be nil -/
 | ns
 /-- a map of the call's own -/
 | mp (b : Nat)
 /-- what a loop over a function goes through, and how far it has come (no value of the program's) -/
 | gh (T : Nat) (l : List (U T)) (i : Int)
 /-- the body of a loop over a function, as it is handed to it -/
 | yl (l : Nat)
 | und
 | bot

inductive Blk (U : Nat → Type) : Type where
 | dead
 | var (cells : List (AV U))
 | row (T : Nat) (l : List (U T)) (live : Bool)
 /-- a map whose keys are whole numbers -/
 | map (l : List Int)

inductive TD where
 | int (k : IntKind) | bool | str | flt (k : FloatKind) | slice (e : TypeId) | arr (n : Nat) (e : TypeId)
 | struct (fs : List (TypeId × Nat)) | ptr (e : TypeId) | func | map (k : TypeId) | other
 deriving Inhabited

structure TI (U : Nat → Type) where
 d : TD
 size : Nat
 bytes : Nat
 zero : List (IV U)
 tag : Nat
 eqs : Bool

abbrev Hp (U : Nat → Type) := List (Blk U)
abbrev AFun (U : Nat → Type) := (R : Type) → List (AV U) → Hp U → (AV U → Hp U → Option R) → Option R

structure St (U : Nat → Type) where
 tm : List (AV U)
 hp : Hp U
 /-- how many blocks were given to the call: these keep their numbers -/
 m : Nat

inductive Ex where
 | normal | ret | exit (id : Nat)

abbrev LFun (U : Nat → Type) := (R : Type) → St U → (Ex → St U → Option R) → Option R

inductive Ps where
 | cell (j : Nat)
 | to (j : Nat)
inductive Md where
 | im (T : Nat)
 | own (T : Nat)
 /-- a row of the call's own under a new number -/
 | mv (T : Nat)
structure Lv where
 live : List Nat
 md : List (Nat × List Ps × Md)

structure Env (U : Nat → Type) where
 cc : (T : Nat) → Cod U T
 tt : List (TI U)
 bt : Nat
 toB : List Int → List (U bt)
 ofB : List (U bt) → List Int
 Γ : List (FuncId × AFun U)
 Λ : List (Nat × LFun U)
 /-- pieces of code in short, from a point at which ways meet -/
 C : List (Nat × LFun U)
 D : Nat → Lv × Lv
 /-- functions that leave the blocks that they are handed as they were -/
 ro : List FuncId
 /-- how slots are to be seen where the function ends -/
 pre : List (Nat × List Ps × Md) := []
 /-- rows that are let go there -/
 kill : List Nat := []
 /-- is the first part of a row a row, the rest let go? -/
 tr : Bool := false
 /-- functions that are gone through: from what they hold to what they tell, in order -/
 It : List (FuncId × AFun U) := []

variable {U : Nat → Type} {α : Type} {R : Type}

abbrev KO (U : Nat → Type) (R : Type) := AV U → List (Nat × Blk U) → List Nat → Option R

def Hp.get (h : Hp U) (b : Nat) : Blk U := h.getD b .dead
def Hp.set1 (h : Hp U) (b : Nat) (x : Blk U) : Hp U := if b < h.length then h.set b x else h ++ (List.replicate (b - h.length) .dead ++ [x])

def TI.none : TI U := ⟨.other, 0, 0, [], 0, false⟩
def Env.ti (E : Env U) (t : TypeId) : TI U := E.tt.getD t .none
def TI.isAgg (i : TI U) : Bool := match i.d with | .struct _ | .arr _ _ => true | _ => false

def TD.isOther : TD → Bool
 | .other => true
 | _ => false

def constCell : Value → AV U
 | .int k n => .im (.int k n)
 | .bool b => .im (.bool b)
 | .string s => .im (.str s)
 | .float k b => .im (.flt k b)
 | .pointer none => .im .nilp
 | .slice none 0 0 => .im .nils
 | .nilFunc => .im .nilf
 | .nilIface => .im .nili
 | _ => .bot
def constAV : Value → AV U
 | .agg cs => .agg (cs.toList.map constCell)
 | v => constCell v

def St.get (st : St U) : Operand → AV U
 | .tmp t => st.tm.getD t .bot
 | .const v => constAV v
 | .func f => .clo f []
 | .global _ => .bot

def AV.isCell : AV U → Bool
 | .agg _ | .tup _ | .und | .bot | .gh .. => false
 | _ => true
def AV.cells : AV U → Option (List (AV U))
 | .agg cs => if cs.all AV.isCell then some cs else none
 | .bot | .und | .tup _ | .gh .. => none
 | v => some [v]

def packA (agg : Bool) (cs : List (AV U)) : AV U :=
 match agg, cs with
 | true, cs => .agg cs
 | false, [x] => x
 | false, _ => .bot

def cut : Nat → Nat → List α → Option (List α)
 | 0, 0, _ => some []
 | 0, n + 1, x :: xs => (cut 0 n xs).map (x :: ·)
 | 0, _ + 1, [] => none
 | o + 1, n, _ :: xs => cut o n xs
 | _ + 1, _, [] => none

def splice : Nat → List α → List α → Option (List α)
 | 0, [], cs => some cs
 | 0, v :: vs, _ :: cs => (splice 0 vs cs).map (v :: ·)
 | 0, _ :: _, [] => none
 | o + 1, vs, c :: cs => (splice o vs cs).map (c :: ·)
 | _ + 1, _, [] => none

def frz (cc : (T : Nat) → Cod U T) (h : Hp U) : List (AV U) → Option (List (IV U) × List (Nat × Blk U))
 | [] => some ([], [])
 | .im v :: xs => match frz cc h xs with | some (vs, ws) => some (v :: vs, ws) | none => none
 | .own b :: xs => match h.get b with
  | .row T l _ => match frz cc h xs with | some (vs, ws) => some (.slice T l :: vs, (b, .row T l false) :: ws) | none => none
  | _ => none
 | .sub b off len sz :: xs => match h.get b with
  | .row T l _ => if sz = (cc T).sz then
    match frz cc h xs with | some (vs, ws) => some (.slice T ((l.drop off).take len) :: vs, (b, .row T l false) :: ws) | none => none
   else none
  | _ => none
 | _ :: _ => none

def among (n : Nat) (i : Int) (k : Nat → Option R) : Option R :=
 match n with
 | 0 => none
 | m + 1 => if i = m then k m else among m i k

def rowBig : Nat := 16
def room : Nat := 140737488355328

def intOp (op : BinOp) (k : IntKind) (a b : Int) (K : AV U → Option R) : Option R :=
 match op with
 | .add => K (.im (.int k (k.wrap (a + b))))
 | .sub => K (.im (.int k (k.wrap (a - b))))
 | .mul => K (.im (.int k (k.wrap (a * b))))
 | .quo => if b = 0 then none else K (.im (.int k (k.wrap (a.tdiv b))))
 | .rem => if b = 0 then none else K (.im (.int k (a.tmod b)))
 | .and => K (.im (.int k (k.wrap (BitVec.ofInt k.bits a &&& BitVec.ofInt k.bits b).toNat)))
 | .or => K (.im (.int k (k.wrap (BitVec.ofInt k.bits a ||| BitVec.ofInt k.bits b).toNat)))
 | .xor => K (.im (.int k (k.wrap (BitVec.ofInt k.bits a ^^^ BitVec.ofInt k.bits b).toNat)))
 | .andNot => K (.im (.int k (k.wrap (BitVec.ofInt k.bits a &&& ~~~BitVec.ofInt k.bits b).toNat)))
 | .eql => K (.im (.bool (a == b)))
 | .neq => K (.im (.bool (a != b)))
 | .lss => K (.im (.bool (decide (a < b))))
 | .leq => K (.im (.bool (decide (a ≤ b))))
 | .gtr => K (.im (.bool (decide (a > b))))
 | .geq => K (.im (.bool (decide (a ≥ b))))
 | _ => none

def strOp (op : BinOp) (a b : ByteArray) (K : AV U → Option R) : Option R :=
 match op with
 | .add => if ((a.size + b.size : Nat) : Int) > IntKind.i64.max then none else K (.im (.str (a ++ b)))
 | .eql => K (.im (.bool (a.toList == b.toList)))
 | .neq => K (.im (.bool (!(a.toList == b.toList))))
 | .lss => K (.im (.bool (Op.bytesLess a.toList b.toList)))
 | _ => none

def fltOp (op : BinOp) (k : FloatKind) (a b : Nat) (K : AV U → Option R) : Option R :=
 match op with
 | .add => match k.format.add a b with | some r => K (.im (.flt k r)) | none => none
 | .sub => match k.format.sub a b with | some r => K (.im (.flt k r)) | none => none
 | .mul => match k.format.mul a b with | some r => K (.im (.flt k r)) | none => none
 | .quo => match k.format.div a b with | some r => K (.im (.flt k r)) | none => none
 | .eql => K (.im (.bool (k.format.order a b == some .eq)))
 | .neq => K (.im (.bool (k.format.order a b != some .eq)))
 | .lss => K (.im (.bool (k.format.order a b == some .lt)))
 | .leq => K (.im (.bool (k.format.order a b == some .lt || k.format.order a b == some .eq)))
 | .gtr => K (.im (.bool (k.format.order a b == some .gt)))
 | .geq => K (.im (.bool (k.format.order a b == some .gt || k.format.order a b == some .eq)))
 | _ => none

def eqCell : IV U → IV U → Option Bool
 | .int k a, .int k' b => if k = k' then some (a == b) else none
 | .bool a, .bool b => some (a == b)
 | .str a, .str b => some (a.toList == b.toList)
 | _, _ => none
def eqCells : List (AV U) → List (AV U) → Option Bool
 | [], [] => some true
 | .im x :: xs, .im y :: ys => match eqCell x y, eqCells xs ys with
  | some a, some b => some (a && b)
  | _, _ => none
 | _, _ => none

def cts (E : Env U) : Nat → TypeId → List TD
 | 0, _ => []
 | n + 1, t => match (E.ti t).d with
  | .struct fs => fs.flatMap fun p => cts E n p.1
  | .arr k e => (List.replicate k (cts E n e)).flatten
  | d => [d]
def fitI : TD → IV U → Bool
 | .int k, .int k' _ => decide (k = k')
 | .bool, .bool _ => true
 | .str, .str _ => true
 | _, _ => false
def fitsI : List TD → List (AV U) → Bool
 | [], [] => true
 | d :: ds, .im x :: xs => fitI d x && fitsI ds xs
 | _, _ => false

def binA (E : Env U) (op : BinOp) (t : TypeId) (x y : AV U) (K : AV U → Option R) : Option R :=
 match op, x, y with
 | .shl, .im (.int k a), .im (.int _ b) => if b < 0 then none else K (.im (.int k (k.wrap (a * 2 ^ min b.toNat k.bits))))
 | .shr, .im (.int k a), .im (.int _ b) => if b < 0 then none else K (.im (.int k (a.fdiv (2 ^ min b.toNat k.bits))))
 | op, .im (.int k a), .im (.int k' b) => if k = k' then intOp op k a b K else none
 | op, .im (.str a), .im (.str b) => strOp op a b K
 | op, .im (.flt k a), .im (.flt k' b) => if k = k' then fltOp op k a b K else none
 | .eql, .im (.bool a), .im (.bool b) => match (E.ti t).d with | .bool => K (.im (.bool (a == b))) | _ => none
 | .neq, .im (.bool a), .im (.bool b) => match (E.ti t).d with | .bool => K (.im (.bool (!(a == b)))) | _ => none
 | .eql, .agg xs, .agg ys => if (E.ti t).eqs && (E.ti t).isAgg && (fitsI (cts E 6 t) xs && fitsI (cts E 6 t) ys) then match eqCells xs ys with | some b => K (.im (.bool b)) | none => none else none
 | .neq, .agg xs, .agg ys => if (E.ti t).eqs && (E.ti t).isAgg && (fitsI (cts E 6 t) xs && fitsI (cts E 6 t) ys) then match eqCells xs ys with | some b => K (.im (.bool !b)) | none => none else none
 | .eql, .im .nilp, .im .nilp => match (E.ti t).d with | .ptr _ => K (.im (.bool true)) | _ => none
 | .neq, .im .nilp, .im .nilp => match (E.ti t).d with | .ptr _ => K (.im (.bool false)) | _ => none
 | .eql, .ptr _ _, .im .nilp => match (E.ti t).d with | .ptr _ => K (.im (.bool false)) | _ => none
 | .neq, .ptr _ _, .im .nilp => match (E.ti t).d with | .ptr _ => K (.im (.bool true)) | _ => none
 | .eql, .im .nils, .im .nils => match (E.ti t).d with | .slice _ => K (.im (.bool true)) | _ => none
 | .eql, .ns, .im .nils => match (E.ti t).d with | .slice _ => K (.im (.bool true)) | _ => none
 | .eql, .nn _ _, .im .nils => match (E.ti t).d with | .slice _ => K (.im (.bool false)) | _ => none
 | _, _, _ => none

def unA (op : UnOp) (x : AV U) (K : AV U → Option R) : Option R :=
 match op, x with
 | .neg, .im (.int k n) => K (.im (.int k (k.wrap (0 - n))))
 | .xor, .im (.int k n) => K (.im (.int k (k.wrap (BitVec.ofInt k.bits (if k.signed then -1 else k.max) ^^^ BitVec.ofInt k.bits n).toNat)))
 | .not, .im (.bool b) => K (.im (.bool (!b)))
 | _, _ => none

def b2l (s : ByteArray) : List Int := s.data.toList.map fun b => (b.toNat : Int)
def l2b (l : List Int) : ByteArray := ⟨(l.map fun n => UInt8.ofNat n.toNat).toArray⟩


def newVarA (E : Env U) (st : St U) (t : TypeId) (cs : List (AV U)) (K : KO U R) : Option R :=
 match (E.ti t).d with
 | .arr n e =>
  if rowBig < n then none else K (.ptr st.hp.length 0) [(st.hp.length, .var cs)] []
 | _ => K (.ptr st.hp.length 0) [(st.hp.length, .var cs)] []

def allocA (E : Env U) (st : St U) (t : TypeId) (K : KO U R) : Option R :=
 match (E.ti t).d with
 | .arr n e =>
  if rowBig < n then
   if (E.ti e).tag = 0 || (E.ti e).d.isOther || decide (room < n) then none else
   K (.rptr st.hp.length 0 0 (E.cc (E.ti e).tag).sz) [(st.hp.length, .row (E.ti e).tag (List.replicate n (E.cc (E.ti e).tag).dflt) true)] []
  else if (E.ti t).zero.length = 0 then none else K (.ptr st.hp.length 0) [(st.hp.length, .var ((E.ti t).zero.map .im))] []
 | .other => none
 | _ => if (E.ti t).zero.length = 0 then none else K (.ptr st.hp.length 0) [(st.hp.length, .var ((E.ti t).zero.map .im))] []

def loadA (E : Env U) (st : St U) (t : TypeId) (a : AV U) (K : KO U R) : Option R :=
 if (E.ti t).d.isOther then none else
 match a with
 | .ptr b off => match st.hp.get b with
  | .var cs => match cut off (E.ti t).size cs with
   | some xs => K (packA (E.ti t).isAgg xs) [] [b]
   | none => none
  | _ => none
 | .rptr b i sub sz => match st.hp.get b with
  | .row T l _ => if sz = (E.cc T).sz then match l[i]? with
   | some x => match cut sub (E.ti t).size ((E.cc T).enc x) with
    | some xs => K (packA (E.ti t).isAgg (xs.map .im)) [] [b]
    | none => none
   | none => none
   else none
  | _ => none
 | .iptr cs sub => match cut sub (E.ti t).size cs with
  | some xs => K (packA (E.ti t).isAgg (xs.map .im)) [] []
  | none => none
 | _ => none

def storeA (E : Env U) (st : St U) (t : TypeId) (a v : AV U) (K : KO U R) : Option R :=
 match v.cells with
 | none => none
 | some vs =>
  if vs.length = (E.ti t).size && !(E.ti t).d.isOther then
   match a with
   | .ptr b off => match st.hp.get b with
    | .var cs => match splice off vs cs with
     | some cs' => K .und [(b, .var cs')] [b]
     | none => none
    | _ => none
   | .rptr b i sub sz => match st.hp.get b with
    | .row T l true => if sz = (E.cc T).sz then match frz E.cc st.hp vs with
     | some (us, ws) => match l[i]? with
      | some x => if (ws.map (·.1)).contains b then none else
       match splice sub us ((E.cc T).enc x) with
       | some cs => match (E.cc T).dec cs with
        | some y => K .und (ws ++ [(b, .row T (l.set i y) true)]) (b :: ws.map (·.1))
        | none => none
       | none => none
      | none => none
     | none => none
     else none
    | _ => none
   | _ => none
  else none

def fillA (place : Nat → Option (Nat × Nat)) : List (Nat × AV U) → List (AV U) → Option (List (AV U))
 | [], cs => some cs
 | (i, v) :: rest, cs => match place i, v.cells with
  | some (off, sz), some vs => if vs.length = sz then match splice off vs cs with | some cs' => fillA place rest cs' | none => none else none
  | _, _ => none

def placeA (E : Env U) (t : TypeId) (i : Nat) : Option (Nat × Nat) :=
 match (E.ti t).d with
 | .struct fs => match fs[i]? with | some (ft, off) => some (off, (E.ti ft).size) | none => none
 | .arr _ e => some (i * (E.ti e).size, (E.ti e).size)
 | _ => none

def fieldsOK (E : Env U) (t : TypeId) : Bool :=
 match (E.ti t).d with
 | .struct fs => fs.all fun p => !(E.ti p.1).d.isOther
 | _ => true
def buildA (E : Env U) (st : St U) (t : TypeId) (parts : List (Nat × AV U)) (K : KO U R) : Option R :=
 if (E.ti t).isAgg && !((E.ti t).zero.length == 0) && fieldsOK E t then
  match fillA (placeA E t) parts ((E.ti t).zero.map .im) with
  | some cs => K (.agg cs) [] []
  | none => none
 else none

def decs {T : Nat} (c : Cod U T) : List (List (IV U)) → Option (List (U T))
 | [] => some []
 | x :: xs => match c.dec x, decs c xs with | some y, some ys => some (y :: ys) | _, _ => none

def litParts (E : Env U) (h : Hp U) (sz : Nat) : Nat → List (Nat × AV U) → Option (List (List (IV U)) × List (Nat × Blk U))
 | _, [] => some ([], [])
 | n, (i, v) :: rest => if i = n then match v.cells with
   | some vs => if vs.length = sz then match frz E.cc h vs, litParts E h sz (n + 1) rest with
    | some (us, ws), some (es, ws') => some (us :: es, ws ++ ws')
    | _, _ => none
    else none
   | none => none
  else none

def buildSliceA (E : Env U) (st : St U) (t : TypeId) (len : Nat) (parts : List (Nat × AV U)) (K : KO U R) : Option R :=
 match (E.ti t).d with
 | .slice e => if parts.length = len ∧ (E.ti e).tag ≠ 0 ∧ len * (E.ti e).size ≤ 16777216 then
   match litParts E st.hp (E.ti e).size 0 parts with
   | some (es, ws) => match decs (E.cc (E.ti e).tag) es with
    | some l => K (.own st.hp.length) (ws ++ [(st.hp.length, .row (E.ti e).tag l true)]) (ws.map (·.1))
    | none => none
   | none => none
  else none
 | _ => none

def makeSliceA (E : Env U) (st : St U) (t : TypeId) (l c : AV U) (K : KO U R) : Option R :=
 match (E.ti t).d, l, c with
 | .slice e, .im (.int .i64 n), .im (.int .i64 m) =>
  if (E.ti e).tag = 0 then none else if 0 ≤ n ∧ n ≤ m ∧ m ≤ 140737488355328 ∧ m * (E.ti e).bytes ≤ 140737488355328 then
   K (.own st.hp.length) [(st.hp.length, .row (E.ti e).tag (List.replicate n.toNat (E.cc (E.ti e).tag).dflt) true)] []
  else none
 | _, _, _ => none

def boundsA (len : Nat) (lo hi : Option (AV U)) (K : Nat → Nat → Option R) : Option R :=
 match lo, hi with
 | none, none => K 0 len
 | some (.im (.int _ l)), none => if 0 ≤ l ∧ l ≤ len then K l.toNat len else none
 | none, some (.im (.int _ h)) => if 0 ≤ h ∧ h ≤ len then K 0 h.toNat else none
 | some (.im (.int _ l)), some (.im (.int _ h)) => if 0 ≤ l ∧ l ≤ h ∧ h ≤ len then K l.toNat h.toNat else none
 | _, _ => none

def sliceA (E : Env U) (st : St U) (t : TypeId) (x : AV U) (lo hi : Option (AV U)) (mx : Bool) (K : KO U R) : Option R :=
 if mx then none else
 match (E.ti t).d with
 | .str => match x with
  | .im (.str s) => boundsA s.size lo hi fun l h => K (.im (.str (s.extract l h))) [] []
  | _ => none
 | .slice e => if (E.ti e).d.isOther then none else match x with
  | .im .nils => boundsA 0 lo hi fun _ _ => K (.im .nils) [] []
  | .im (.slice T xs) => if (E.cc T).sz = (E.ti e).size then (match lo, hi with
   | none, none => K (.im (.slice T xs)) [] []
   | none, hi => boundsA xs.length none hi fun _ h => K (.im (.slice T (xs.take h))) [] []
   | lo, none => boundsA xs.length lo none fun l _ => K (.im (.slice T (xs.drop l))) [] []
   | lo, hi => boundsA xs.length lo hi fun l h => K (.im (.slice T ((xs.take h).drop l))) [] []) else none
  | .own b => match st.hp.get b with
   | .row T xs _ => if (E.cc T).sz = (E.ti e).size then (match lo, hi with
    | none, none => K (.own b) [] []
    | lo, hi => boundsA xs.length lo hi fun l h => K (.sub b l (h - l) (E.cc T).sz) [] [b]) else none
   | _ => none
  | .sub b off len sz => if sz = (E.ti e).size then boundsA len lo hi fun l h => K (.sub b (off + l) (h - l) sz) [] [] else none
  | .vsl b off len sz => if sz = (E.ti e).size then boundsA len lo hi fun l h => K (.vsl b (off + l * sz) (h - l) sz) [] [] else none
  | _ => none
 | .arr n e => match x with
  | .ptr b off => boundsA n lo hi fun l h => K (.vsl b (off + l * (E.ti e).size) (h - l) (E.ti e).size) [] []
  | .rptr b i 0 sz => if sz = (E.ti e).size then
    match st.hp.get b with
    | .row _ xs _ => if i + n ≤ xs.length then boundsA n lo hi fun l h => K (.sub b (i + l) (h - l) sz) [] [b] else none
    | _ => none
   else none
  | _ => none
 | _ => none

def fieldAddrA (E : Env U) (t : TypeId) (x : AV U) (f : Nat) (K : KO U R) : Option R :=
 match (E.ti t).d with
 | .struct fs => match fs[f]? with
  | some (ft, off) => if (E.ti ft).size = 0 || (E.ti ft).d.isOther then none else match x with
   | .ptr b o => K (.ptr b (o + off)) [] []
   | .rptr b i sub sz => K (.rptr b i (sub + off) sz) [] []
   | .iptr cs sub => K (.iptr cs (sub + off)) [] []
   | _ => none
  | none => none
 | _ => none

def fieldA (E : Env U) (t : TypeId) (x : AV U) (f : Nat) (K : KO U R) : Option R :=
 match (E.ti t).d, x with
 | .struct fs, .agg cs => match fs[f]? with
  | some (ft, off) => if (E.ti ft).d.isOther then none else match cut off (E.ti ft).size cs with
   | some xs => K (packA (E.ti ft).isAgg xs) [] []
   | none => none
  | none => none
 | _, _ => none

def indexAddrA (E : Env U) (st : St U) (t : TypeId) (x ix : AV U) (K : KO U R) : Option R :=
 match ix with
 | .im (.int _ i) => match (E.ti t).d with
  | .slice e => if (E.ti e).d.isOther then none else match x with
   | .own b => match st.hp.get b with
    | .row T l _ => if (E.cc T).sz = (E.ti e).size then (if 0 ≤ i ∧ i < l.length then K (.rptr b i.toNat 0 (E.cc T).sz) [] [b] else none) else none
    | _ => none
   | .sub b off len sz => if sz = (E.ti e).size then (if 0 ≤ i ∧ i < len then K (.rptr b (off + i.toNat) 0 sz) [] [] else none) else none
   | .im (.slice T l) => if (E.cc T).sz = (E.ti e).size then (if 0 ≤ i then match l[i.toNat]? with | some x => K (.iptr ((E.cc T).enc x) 0) [] [] | none => none else none) else none
   | .vsl b off len sz => if sz = (E.ti e).size then among len i fun j => K (.ptr b (off + j * sz)) [] [] else none
   | _ => none
  | .arr n e => match x with
   | .ptr b off => among n i fun j => K (.ptr b (off + j * (E.ti e).size)) [] []
   | .rptr b i0 u sz => if sz = (E.ti e).size then (match u with
     | 0 => if 0 ≤ i ∧ i < n then K (.rptr b (i0 + i.toNat) 0 sz) [] [] else none
     | _ => none) else among n i fun j => K (.rptr b i0 (u + j * (E.ti e).size) sz) [] []
   | .iptr cs sub => among n i fun j => K (.iptr cs (sub + j * (E.ti e).size)) [] []
   | _ => none
  | _ => none
 | _ => none

def indexA (E : Env U) (t : TypeId) (x ix : AV U) (K : KO U R) : Option R :=
 match ix with
 | .im (.int _ i) => match (E.ti t).d, x with
  | .str, .im (.str s) => if 0 ≤ i then match s.data.toList[i.toNat]? with | some b => K (.im (.int .u8 b.toNat)) [] [] | none => none else none
  | .arr n e, .agg cs => among n i fun j => match cut (j * (E.ti e).size) (E.ti e).size cs with
   | some xs => K (packA (E.ti e).isAgg xs) [] []
   | none => none
  | _, _ => none
 | _ => none

structure Els (U : Nat → Type) where
 T : Nat
 l : List (U T)
 rd : List Nat

def elemsA (E : Env U) (h : Hp U) : AV U → Option (Els U)
 | .own b => match h.get b with | .row T l _ => some ⟨T, l, [b]⟩ | _ => none
 | .sub b off len sz => match h.get b with | .row T l _ => if sz = (E.cc T).sz then some ⟨T, (l.drop off).take len, [b]⟩ else none | _ => none
 | .im (.slice T l) => some ⟨T, l, []⟩
 | .nn T l => some ⟨T, l, []⟩
 | .im (.str s) => some ⟨E.bt, E.toB (b2l s), []⟩
 | _ => none

def intCells : List (AV U) → Option (List (IV U))
 | [] => some []
 | .im (.int k n) :: xs => (intCells xs).map (.int k n :: ·)
 | _ => none
def elemsV (E : Env U) (h : Hp U) (T : Nat) : AV U → Option (Els U)
 | .vsl b off len sz => if sz = 1 ∧ (E.cc T).sz = 1 then (match h.get b with
   | .var cs => match cut off len cs with
    | some xs => match intCells xs with
     | some ys => match decs (E.cc T) (ys.map fun y => [y]) with
      | some l => some ⟨T, l, [b]⟩
      | none => none
     | none => none
    | none => none
   | _ => none) else none
 | x => elemsA E h x
def overV {T : Nat} (c : Cod U T) (l : List (U T)) : Nat → List (AV U) → Option (List (AV U))
 | _, [] => some []
 | i, .im (.int k n) :: xs => match c.dec [.int k n] with
  | some o => match c.enc (l.getD i o) with
   | [z] => match overV c l (i + 1) xs with
    | some ys => some (.im z :: ys)
    | none => none
   | _ => none
  | none => none
 | _, _ => none

def srcOK (E : Env U) (t : TypeId) : AV U → Bool
 | .im (.str _) => match (E.ti t).d with | .str => true | _ => false
 | _ => match (E.ti t).d with | .slice _ => true | _ => false

def convertA (E : Env U) (st : St U) (src dst : TypeId) (x : AV U) (K : KO U R) : Option R :=
 if (E.ti src).d.isOther then none else
 match (E.ti src).d, (E.ti dst).d, x with
 | _, .int k, .im (.int _ n) => K (.im (.int k (k.wrap n))) [] []
 | _, .flt k, .im (.int _ n) => K (.im (.flt k (k.nearest n))) [] []
 | _, .str, .im (.str s) => K (.im (.str s)) [] []
 | .str, .slice e, .im (.str s) => match (E.ti e).d with
  | .int .u8 => K (.im (.slice E.bt (E.toB (b2l s)))) [] []
  | _ => none
 | .slice e, .str, x => match (E.ti e).d with
  | .int .u8 => match x with
   | .im .nils => K (.im (.str .empty)) [] []
   | x => match elemsA E st.hp x with
    | some ⟨T, l, rd⟩ => if srcOK E src x then (if h : T = E.bt then K (.im (.str (l2b (E.ofB (h ▸ l))))) [] rd else none) else none
    | none => none
  | _ => none
 | _, _, _ => none

mutual
def AV.ren (f : Nat → Nat) : AV U → AV U
 | .im v => .im v
 | .own b => .own (f b)
 | .sub b off len sz => .sub (f b) off len sz
 | .vsl b off len sz => .vsl (f b) off len sz
 | .ptr b off => .ptr (f b) off
 | .rptr b i u sz => .rptr (f b) i u sz
 | .iptr cs u => .iptr cs u
 | .agg cs => .agg (AV.renL f cs)
 | .tup cs => .tup (AV.renL f cs)
 | .clo g cs => .clo g (AV.renL f cs)
 | .nn T l => .nn T l
 | .ns => .ns
 | .mp b => .mp (f b)
 | .gh T l i => .gh T l i
 | .yl l => .yl l
 | .und => .und
 | .bot => .bot
def AV.renL (f : Nat → Nat) : List (AV U) → List (AV U)
 | [] => []
 | x :: xs => x.ren f :: AV.renL f xs
end
def Blk.ren (f : Nat → Nat) : Blk U → Blk U
 | .var cs => .var (AV.renL f cs)
 | b => b

mutual
def AV.refs : AV U → List Nat
 | .own b => [b]
 | .sub b .. => [b]
 | .vsl b .. => [b]
 | .ptr b .. => [b]
 | .rptr b .. => [b]
 | .mp b => [b]
 | .agg cs | .tup cs | .clo _ cs => AV.refsL cs
 | _ => []
def AV.refsL : List (AV U) → List Nat
 | [] => []
 | x :: xs => x.refs ++ AV.refsL xs
end
def Blk.refs : Blk U → List Nat
 | .var cs => AV.refsL cs
 | _ => []

mutual
def AV.imRef : AV U → Bool
 | .im v => match v with | .slice _ _ => true | _ => false
 | .iptr _ _ => true
 | .agg cs | .tup cs | .clo _ cs => AV.imRefL cs
 | .bot | .und => true
 | .nn _ _ => true
 | .ns => false
 | .own _ | .sub .. | .vsl .. | .ptr .. | .rptr .. | .mp _ | .gh .. | .yl _ => false
def AV.imRefL : List (AV U) → Bool
 | [] => false
 | x :: xs => x.imRef || AV.imRefL xs
end
def Blk.imRef (cc : (T : Nat) → Cod U T) : Blk U → Bool
 | .var cs => AV.imRefL cs
 | .row T _ _ => !(cc T).flat
 | .map _ => false
 | .dead => false

def reach (h : Hp U) : Nat → List Nat → List Nat → List Nat
 | 0, _, seen => seen
 | _ + 1, [], seen => seen
 | n + 1, b :: todo, seen => if seen.contains b then reach h n todo seen else reach h n ((h.get b).refs ++ todo) (seen ++ [b])

def nodupB : List Nat → Bool
 | [] => true
 | x :: xs => !xs.contains x && nodupB xs
def closedB (h : Hp U) (roots bs : List Nat) : Bool :=
 roots.all bs.contains && bs.all (fun b => (h.get b).refs.all bs.contains) && nodupB bs && bs.all (fun b => decide (b < h.length))

mutual
def lend (cc : (T : Nat) → Cod U T) (h : Hp U) : AV U → Option (AV U × List Nat)
 | .own b => match h.get b with | .row T l _ => some (.im (.slice T l), [b]) | _ => none
 | .sub b off len sz => match h.get b with | .row T l _ => if sz = (cc T).sz then some (.im (.slice T ((l.drop off).take len)), [b]) else none | _ => none
 | .agg cs => (lendL cc h cs).map fun (xs, r) => (.agg xs, r)
 | x => some (x, [])
def lendL (cc : (T : Nat) → Cod U T) (h : Hp U) : List (AV U) → Option (List (AV U) × List Nat)
 | [] => some ([], [])
 | x :: xs => match lend cc h x, lendL cc h xs with
  | some (y, r), some (ys, rs) => some (y :: ys, r ++ rs)
  | _, _ => none
end

def numbered (f : Nat → Nat) : Nat → Hp U → List (Nat × Blk U)
 | _, [] => []
 | i, b :: bs => (f i, b.ren f) :: numbered f (i + 1) bs

def backNum (bs : List Nat) (n i : Nat) : Nat := match bs[i]? with | some b => b | none => n + (i - bs.length)

def frozenBlk (h : Hp U) (b : Nat) : Nat × Blk U := match h.get b with | .row T l _ => (b, .row T l false) | x => (b, x)

mutual
def AV.noSub : AV U → Bool
 | .sub .. => false
 | .vsl .. => false
 | .agg cs | .tup cs | .clo _ cs => AV.noSubL cs
 | _ => true
def AV.noSubL : List (AV U) → Bool
 | [] => true
 | x :: xs => x.noSub && AV.noSubL xs
end
def Blk.noSub : Blk U → Bool
 | .var cs => AV.noSubL cs
 | _ => true

def callG (g : Bool) (E : Env U) (st : St U) (f : FuncId) (args : List (AV U)) (K : KO U R) : Option R :=
 match E.Γ.lookup f with
 | none => none
 | some A => match lendL E.cc st.hp args with
  | none => none
  | some (args', lent) =>
   let bs := reach st.hp 4000 (AV.refsL args') []
   if lent.any bs.contains || !closedB st.hp (AV.refsL args') bs then none else
   match g && (AV.noSubL args' && bs.all fun b => (st.hp.get b).noSub) with
   | false => A R (AV.renL (bs.idxOf ·) args') (bs.map fun b => (st.hp.get b).ren (bs.idxOf ·)) fun res hl =>
    if hl.length < bs.length then none else
    K (res.ren (backNum bs st.hp.length))
     (numbered (backNum bs st.hp.length) 0 hl ++ (if res.imRef || hl.any (Blk.imRef E.cc) then lent.map (frozenBlk st.hp) else []))
     (bs ++ lent)
   | true => A R (AV.renL (bs.idxOf ·) args') (bs.map fun b => (st.hp.get b).ren (bs.idxOf ·)) fun res hl =>
    if hl.length < bs.length then none else
    K (res.ren (backNum bs st.hp.length))
     ((numbered (backNum bs st.hp.length) 0 hl).drop bs.length ++ (if res.imRef || hl.any (Blk.imRef E.cc) then lent.map (frozenBlk st.hp) else []))
     (bs ++ lent)
def callF (E : Env U) (st : St U) (f : FuncId) (args : List (AV U)) (K : KO U R) : Option R := callG (E.ro.contains f) E st f args K

def lenA (E : Env U) (st : St U) (t : TypeId) (x : AV U) (K : KO U R) : Option R :=
 match (E.ti t).d, x with
 | .str, .im (.str s) => K (.im (.int .i64 s.size)) [] []
 | .arr n _, _ => K (.im (.int .i64 n)) [] []
 | .slice _, .own b => match st.hp.get b with | .row _ l _ => K (.im (.int .i64 l.length)) [] [b] | _ => none
 | .slice _, .sub _ _ len _ => K (.im (.int .i64 len)) [] []
 | .slice _, .vsl _ _ len _ => K (.im (.int .i64 len)) [] []
 | .slice _, .im .nils => K (.im (.int .i64 0)) [] []
 | .slice _, .im (.slice _ l) => K (.im (.int .i64 l.length)) [] []
 | .map _, .mp b => match st.hp.get b with | .map l => K (.im (.int .i64 l.length)) [] [b] | _ => none
 | _, _ => none

def mapPut (l : List Int) (n : Int) : List Int := if l.contains n then l else l ++ [n]
def makeMapA (st : St U) (K : KO U R) : Option R := K (.mp st.hp.length) [(st.hp.length, .map [])] []
def mapUpdateA (E : Env U) (st : St U) (t : TypeId) (m k : AV U) (K : KO U R) : Option R :=
 match (E.ti t).d with
 | .map kt => match (E.ti kt).d with
  | .int .i64 => match m with
   | .mp b => match k with
    | .im (.int .i64 n) => match st.hp.get b with
     | .map l => K .und [(b, .map (mapPut l n))] [b]
     | _ => none
    | _ => none
   | _ => none
  | _ => none
 | _ => none

def appendA (E : Env U) (st : St U) (t tx : TypeId) (s x : AV U) (K : KO U R) : Option R :=
  match (E.ti t).d with
  | .slice e => if srcOK E tx x && !((E.ti e).tag == 0) then match x with
    | .im .nils => match s with
      | .im .nils => K s [] []
      | .own b => match st.hp.get b with
        | .row _ _ _ => K s [] [b]
        | _ => none
      | _ => none
    | x => match elemsA E st.hp x with
      | none => none
      | some ⟨T, l', rd⟩ => match s with
        | .im .nils => if (E.ti e).tag = T then
            (if l'.length * (E.ti e).bytes ≤ room ∧ l'.length ≤ room then K (.own st.hp.length) [(st.hp.length, .row T l' true)] rd else none) else none
        | .own b => match st.hp.get b with
          | .row T' l true => if h : T = T' then
              (if (E.ti e).tag = T' then
                (if (l.length + l'.length) * (E.ti e).bytes ≤ room ∧ l.length + l'.length ≤ room then
                  K (.own st.hp.length) [(b, .dead), (st.hp.length, .row T' (l ++ (h ▸ l')) true)] (b :: rd) else none) else none) else none
          | _ => none
        | _ => none
    else none
  | _ => none

def copyA (E : Env U) (st : St U) (t tx : TypeId) (d x : AV U) (K : KO U R) : Option R :=
  match (E.ti t).d with
  | .slice e => if srcOK E tx x && !((E.ti e).tag == 0) then match x with
    | .im .nils => none
    | x => match elemsV E st.hp (E.ti e).tag x with
      | none => none
      | some ⟨T, l', rd⟩ => match d with
        | .own b => match st.hp.get b with
          | .row T' l true => if h : T = T' then (if (E.ti e).tag = T' then
              K (.im (.int .i64 (min l'.length l.length : Nat))) [(b, .row T' ((h ▸ l').take l.length ++ l.drop l'.length) true)] (b :: rd) else none) else none
          | _ => none
        | .sub b off len sz => match st.hp.get b with
          | .row T' l true => if h : T = T' then (if (E.ti e).tag = T' ∧ sz = (E.cc T').sz ∧ off + len ≤ l.length then
              K (.im (.int .i64 (min l'.length len : Nat)))
                [(b, .row T' (l.take off ++ ((h ▸ l').take len ++ l.drop (off + min l'.length len))) true)] (b :: rd) else none) else none
          | _ => none
        | .vsl b off len sz => match st.hp.get b with
          | .var cs => if (E.ti e).tag = T ∧ sz = 1 ∧ (E.cc T).sz = 1 ∧ 0 < len then (match cut off len cs with
              | some seg => match overV (E.cc T) l' 0 seg with
                | some seg' => K (.im (.int .i64 (min l'.length len : Nat))) [(b, .var (cs.take off ++ (seg' ++ cs.drop (off + len))))] (b :: rd)
                | none => none
              | none => none) else none
          | _ => none
        | _ => none
    else none
  | _ => none

def minA (x y : AV U) (K : AV U → Option R) : Option R :=
 match x, y with
 | .im (.int k a), .im (.int _ b) => K (.im (.int k (if b < a then b else a)))
 | _, _ => none
def maxA (x y : AV U) (K : AV U → Option R) : Option R :=
 match x, y with
 | .im (.int k a), .im (.int _ b) => K (.im (.int k (if b > a then b else a)))
 | _, _ => none

def St.gets (st : St U) (xs : List Operand) : List (AV U) := xs.map st.get

def capA (E : Env U) (t : TypeId) (x : AV U) (K : AV U → Option R) : Option R :=
 match (E.ti t).d, x with
 | .slice _, .im .nils => K (.im (.int .i64 0))
 | _, _ => none
def appendZ (E : Env U) (st : St U) (t tx : TypeId) (s : AV U) (n : Int) (K : KO U R) : Option R :=
 match (E.ti t).d, (E.ti tx).d, s with
 | .slice e, .int _, .im .nils =>
  if (E.ti e).tag = 0 then none else if 0 < n ∧ n ≤ 140737488355328 ∧ n * (E.ti e).bytes ≤ 140737488355328 then
   K (.own st.hp.length) [(st.hp.length, .row (E.ti e).tag (List.replicate n.toNat (E.cc (E.ti e).tag).dflt) true)] []
  else none
 | _, _, _ => none
def cutA (E : Env U) (st : St U) (t : TypeId) (x hi : AV U) (K : KO U R) : Option R :=
 match (E.ti t).d with
 | .slice e => if (E.ti e).d.isOther then none else match x with
  | .own b => match st.hp.get b with
   | .row T xs true => if (E.cc T).sz = (E.ti e).size then
     boundsA xs.length none (some hi) fun _ h => K (.own st.hp.length) [(b, .dead), (st.hp.length, .row T (xs.take h) true)] [b] else none
   | _ => none
  | x => sliceA E st t x none (some hi) false K
 | _ => none
def sliceO (E : Env U) (st : St U) (t : TypeId) (x : AV U) (lo hi : Option (AV U)) (mx : Bool) (K : KO U R) : Option R :=
 match E.tr, lo, hi, mx with
 | true, none, some h, false => cutA E st t x h K
 | _, lo, hi, mx => sliceA E st t x lo hi mx K

def builtinA (E : Env U) (st : St U) (b : Builtin) (ts : List TypeId) (args : List (AV U)) (K : KO U R) : Option R :=
 match b, ts, args with
 | .len, t :: _, x :: _ => lenA E st t x K
 | .cap, t :: _, [x] => capA E t x fun v => K v [] []
 | .append, [t, tx], [s, x] => match x with
  | .im (.int .i64 n) => appendZ E st t tx s n K
  | x => appendA E st t tx s x K
 | .copy, [t, tx], [d, x] => copyA E st t tx d x K
 | .min, _, [x, y] => minA x y fun v => K v [] []
 | .max, _, [x, y] => maxA x y fun v => K v [] []
 | _, _, _ => none

def opA (E : Env U) (st : St U) (o : Oper) (K : KO U R) : Option R :=
 match o.op with
 | .move x | .assign x => K (st.get x) [] []
 | .pick c a b => match st.get c with
  | .im (.bool t) => match t with | true => K (st.get a) [] [] | false => K (st.get b) [] []
  | _ => none
 | .alloc t => allocA E st t K
 | .box t x => match (st.get x).cells with | some cs => newVarA E st t cs K | none => none
 | .build t parts => match (E.ti t).d, parts.toList with
  | .struct [], [] => K (.agg []) [] []
  | _, ps => buildA E st t (ps.map fun (i, x) => (i, st.get x)) K
 | .buildSlice t len parts => buildSliceA E st t len (parts.toList.map fun (i, x) => (i, st.get x)) K
 | .load t a => loadA E st t (st.get a) K
 | .store t a x => storeA E st t (st.get a) (st.get x) K
 | .nilCheck x => match st.get x with
  | .ptr b off => K (.ptr b off) [] []
  | .rptr b i sub sz => K (.rptr b i sub sz) [] []
  | .iptr cs sub => K (.iptr cs sub) [] []
  | .clo f cs => K (.clo f cs) [] []
  | _ => none
 | .binOp op t x y _ => binA E op t (st.get x) (st.get y) fun v => K v [] []
 | .unOp op _ x => unA op (st.get x) fun v => K v [] []
 | .convert src dst x => convertA E st src dst (st.get x) K
 | .makeFunc (.func f) first cap => if first.size = 0 then K (.clo f (st.gets cap.toList)) [] [] else none
 | .makeSlice t l c => makeSliceA E st t (st.get l) (st.get c) K
 | .makeMap t none => makeMapA st K
 | .mapUpdate t m k v => mapUpdateA E st t (st.get m) (st.get k) K
 | .slice t x lo hi mx => sliceO E st t (st.get x) (lo.map st.get) (hi.map st.get) mx.isSome K
 | .fieldAddr t x f => fieldAddrA E t (st.get x) f K
 | .field t x f => fieldA E t (st.get x) f K
 | .indexAddr t x i => indexAddrA E st t (st.get x) (st.get i) K
 | .index t x i => indexA E t (st.get x) (st.get i) K
 | .extract t i => match st.get t with
  | .tup xs => match xs[i]? with | some x => K x [] [] | none => none
  | _ => none
 | .call c => match c.callee with
  | .builtin b => builtinA E st b c.argTypes.toList (st.gets c.args.toList) K
  | .value f => match st.get f with
   | .clo g cap => callF E st g (st.gets c.args.toList ++ cap) K
   | _ => none
  | _ => none
 | _ => none

def St.put (st : St U) (d : Option Tmp) (v : AV U) : St U :=
 match d with | some d => { st with tm := st.tm.set d v } | none => st
def Hp.writes (h : Hp U) : List (Nat × Blk U) → Hp U
 | [] => h
 | (b, x) :: ws => Hp.writes (h.set1 b x) ws
def St.app (st : St U) (d : Option Tmp) (v : AV U) (ws : List (Nat × Blk U)) : St U :=
 { (st.put d v) with hp := st.hp.writes ws }

def splitB (g : Bool) (v : AV U) (K : AV U → Option R) : Option R :=
 match g, v with
 | true, .im (.bool b) => match b with | true => K (.im (.bool true)) | false => K (.im (.bool false))
 | _, v => K v
def asked (all : List Oper) (o : Oper) : Bool :=
 match o.dst with
 | none => false
 | some d => all.any fun o' => (match o'.guard with | some (j, _) => (match (all[j]?).bind (·.dst) with | some e => Nat.beq e d | none => false) | none => false) ||
   (match o'.op with | .pick (.tmp c) _ _ => Nat.beq c d | _ => false)

def opsA (E : Env U) (all : List Oper) : List Oper → St U → List (List Nat × List Nat) → (St U → List (List Nat × List Nat) → Option R) → Option R
 | [], st, fs, K => K st fs
 | o :: rest, st, fs, K =>
  match o.guard with
  | none => opA E st o fun v ws rd => splitB (asked all o) v fun v => opsA E all rest (st.app o.dst v ws) (fs ++ [(rd, ws.map (·.1))]) K
  | some (j, want) => match (all[j]?).bind (·.dst) with
   | none => none
   | some d => match st.tm.getD d .bot with
    | .im (.bool t) => match want, t with
     | true, true | false, false => opA E st o fun v ws rd => splitB (asked all o) v fun v => opsA E all rest (st.app o.dst v ws) (fs ++ [(rd, ws.map (·.1))]) K
     | true, false | false, true => opsA E all rest (st.put o.dst .und) (fs ++ [([], [])]) K
    | .und => opsA E all rest (st.put o.dst .und) (fs ++ [([], [])]) K
    | _ => none

def Operand.tmps : Operand → List Nat
 | .tmp t => [t]
 | _ => []
def behind (ops : List Oper) : Nat → Nat → Nat → Bool
 | 0, _, _ => false
 | n + 1, i, j => match ops[j]? with
  | some o => o.after.toList.any fun e => (match e.ground with | .textOnly _ | .gcOnly _ => false | _ => true) && (e.on == i || behind ops n i e.on)
  | none => false
def meet (xs ys : List Nat) : Bool := xs.any ys.contains
def tmReads (ops : List Oper) (o : Oper) : List Nat :=
 o.op.operands.toList.flatMap Operand.tmps ++ (match o.guard with | some (j, _) => ((ops[j]?).bind (·.dst)).toList | none => [])
def apartOps (ops : List Oper) (fs : List (List Nat × List Nat)) (i j : Nat) : Bool :=
 match ops[i]?, ops[j]?, fs[i]?, fs[j]? with
 | some a, some b, some (ra, wa), some (rb, wb) =>
  !meet wa (rb ++ wb) && !meet wb ra && !meet a.dst.toList (tmReads ops b ++ b.dst.toList) && !meet b.dst.toList (tmReads ops a)
 | _, _, _, _ => false
def okDraw (ops : List Oper) (fs : List (List Nat × List Nat)) : Bool :=
 ((List.range ops.length).all fun j => match ops[j]? with | some o => o.after.toList.all fun e => (match e.ground with | .textOnly _ | .gcOnly _ => true | _ => decide (e.on < j)) | none => true) &&
 (List.range ops.length).all fun j => (List.range j).all fun i => apartOps ops fs i j || behind ops ops.length i j

def keepL (live : List Nat) : Nat → List (AV U) → List (AV U)
 | _, [] => []
 | i, x :: xs => (if live.contains i then x else .bot) :: keepL live (i + 1) xs
def gc0 (live : List Nat) (st : St U) : Option (St U) :=
 let tm := keepL live 0 st.tm
 let bs := reach st.hp 4000 (AV.refsL tm ++ (List.range st.m).flatMap fun b => (st.hp.get b).refs) (List.range st.m)
 if closedB st.hp (AV.refsL tm) bs && (List.range st.m).isPrefixOf bs then some { tm := AV.renL (bs.idxOf ·) tm, hp := bs.map fun b => (st.hp.get b).ren (bs.idxOf ·), m := st.m } else none

def norm0 (cc : (T : Nat) → Cod U T) : Md → AV U → Hp U → AV U × Hp U
 | .own T, .im .nils, h => if 0 < (cc T).sz then (.own h.length, h ++ [.row T [] true]) else (.im .nils, h)
 | .mv T, .im .nils, h => if 0 < (cc T).sz then (.own h.length, h ++ [.row T [] true]) else (.im .nils, h)
 | .mv _, .ptr b off, h => match h.get b with | .var cs => (.ptr h.length off, h.set1 b .dead ++ [.var cs]) | _ => (.ptr b off, h)
 | .mv _, .own b, h => match h.get b with | .row T l true => (.own h.length, h.set1 b .dead ++ [.row T l true]) | _ => (.own b, h)
 | .im T, .im .nils, h => (.im (.slice T []), h)
 | .im _, .own b, h => match h.get b with | .row T l _ => (.im (.slice T l), h.set1 b (.row T l false)) | _ => (.own b, h)
 | .im _, .sub b off len sz, h => match h.get b with
  | .row T l _ => if sz = (cc T).sz then (.im (.slice T ((l.drop off).take len)), h.set1 b (.row T l false)) else (.sub b off len sz, h)
  | _ => (.sub b off len sz, h)
 | _, x, h => (x, h)
def normP (cc : (T : Nat) → Cod U T) (md : Md) : List Ps → AV U → Hp U → AV U × Hp U
 | [], x, h => norm0 cc md x h
 | .cell j :: p, .agg cs, h => match cs[j]? with
  | some x => match normP cc md p x h with | (y, h') => (.agg (cs.set j y), h')
  | none => (.agg cs, h)
 | .to j :: p, .ptr b off, h => match h.get b with
  | .var cs => match cs[j]? with
   | some x => match normP cc md p x h with
    | (y, h') => match h'.get b with
     | .var cs' => (.ptr b off, h'.set1 b (.var (cs'.set j y)))
     | _ => (.ptr b off, h)
   | none => (.ptr b off, h)
  | _ => (.ptr b off, h)
 | _, x, h => (x, h)
def normS (cc : (T : Nat) → Cod U T) : List (Nat × List Ps × Md) → St U → St U
 | [], st => st
 | (t, p, md) :: ms, st => match normP cc md p (st.tm.getD t .bot) st.hp with | (y, h') => normS cc ms { tm := st.tm.set t y, hp := h', m := st.m }
def gc (cc : (T : Nat) → Cod U T) (lv : Lv) (st : St U) : Option (St U) := gc0 lv.live (normS cc lv.md st)

def loopKey : Code → Nat
 | .region id _ _ => id
 | .seq a _ => loopKey a
 | .block _ b => loopKey b
 | .rangeFunc _ _ a _ => loopKey a
 | _ => 0

def roundsA (step : St U → (Ex → St U → Option R) → Option R) (head out : St U → Option (St U)) : Nat → St U → (Ex → St U → Option R) → Option R
 | 0, _, _ => none
 | n + 1, st, K => step st fun ex st' => match ex with
  | .normal => match head st' with | some s => roundsA step head out n s K | none => none
  | ex => match out st' with | some s => K ex s | none => none

def elV : List (IV U) → AV U
 | [x] => .im x
 | xs => .agg (xs.map .im)
def deadH : List Nat → Hp U → Hp U
 | [], h => h
 | b :: bs, h => deadH bs (h.set1 b .dead)
def doneX : Nat := 1000000
def doneK (K : Ex → St U → Option R) : Ex → St U → Option R := fun ex st => match ex with
 | .exit i => if i = doneX then K .normal st else K (.exit i) st
 | ex => K ex st
def overK (g : Tmp) (v : AV U) (st : St U) (K : Ex → St U → Option R) : Ex → St U → Option R := fun ex s => match ex with
 | .normal => K .normal ⟨st.tm.set g v, s.hp, st.m⟩
 | .ret => K .ret ⟨st.tm, s.hp, st.m⟩
 | .exit id => if id = doneX then none else K (.exit id) ⟨st.tm, s.hp, st.m⟩
def enterA (E : Env U) (g : Tmp) (key : Nat) (f : FuncId) (caps : List (AV U)) (L : LFun U) (st : St U) (K : Ex → St U → Option R) : Option R :=
 match E.It.lookup f with
 | none => none
 | some A =>
  let bs := reach st.hp 4000 (AV.refsL caps) []
  if !closedB st.hp (AV.refsL caps) bs then none else
  A R (AV.renL (bs.idxOf ·) caps) (bs.map fun b => (st.hp.get b).ren (bs.idxOf ·)) fun res _ => match res with
   | .im (.slice T xs) => match gc E.cc (E.D key).1 ⟨st.tm.set g (.gh T xs 0), deadH bs st.hp, st.m⟩ with
    | some s => L _ s (doneK K)
    | none => none
   | _ => none

def codeA (E : Env U) : Code → St U → (Ex → St U → Option R) → Option R
 | .skip, st, K => K .normal st
 | .region _ ops draw, st, K => opsA E ops.toList ops.toList st [] fun st' fs => if !draw || okDraw ops.toList fs then K .normal st' else none
 | .seq a b, st, K => codeA E a st fun ex st' => match ex with
  | .normal => match E.C.lookup (loopKey b) with
   | some L => match gc E.cc (E.D (loopKey b)).1 st' with | some s => L _ s K | none => none
   | none => codeA E b st' K
  | ex => K ex st'
 | .cond c a b, st, K => match st.get c with
  | .im (.bool t) => match t with | true => codeA E a st K | false => codeA E b st K
  | _ => none
 | .block id b, st, K => codeA E b st fun ex st' => match ex with
  | .exit i => if i = id then K .normal st' else K (.exit i) st'
  | ex => K ex st'
 | .loop b, st, K => match E.Λ.lookup (loopKey b) with
  | some L => match gc E.cc (E.D (loopKey b)).1 st with | some s => L _ s K | none => none
  | none => none
 | .exit id, st, K => K (.exit id) st
 | .ret, st, K => K .ret st
 | .scope b, st, K => codeA E b st K
 | .label _, st, K => K .normal st
 | .rangeFunc (.tmp g) ps assign body, st, K => match ps.toList with
  | [_] => match st.tm.getD g .bot with
   | .clo f caps => match E.Λ.lookup (loopKey assign) with
    | some L => enterA E g (loopKey assign) f caps L st K
    | none => none
   | _ => none
  | _ => none
 | .rangeFunc (.global g) ps assign body, st, K => match ps.toList with
  | [p] => match st.tm.getD g .bot with
   | .gh T xs i => if 0 ≤ i ∧ i < (xs.length : Int) then
     match xs[i.toNat]? with
     | some x => codeA E assign ⟨st.tm.set p (elV ((E.cc T).enc x)), st.hp, st.hp.length⟩ fun ex s1 => match ex with
      | .normal => codeA E body s1 (overK g (.gh T xs (i + 1)) st K)
      | _ => none
     | none => none
    else K (.exit doneX) st
   | _ => none
  | _ => none
 | _, _, _ => none

def outK (E : Env U) (key : Nat) (K : Ex → St U → Option R) : Ex → St U → Option R := fun ex st =>
 match gc E.cc (E.D key).2 st with | some s => K ex s | none => none

def noRange : Code → Bool
 | .rangeFunc .. => false
 | .seq a b | .cond _ a b => noRange a && noRange b
 | .block _ b | .scope b | .loop b => noRange b
 | _ => true
def okRange : Code → Bool
 | .rangeFunc (.tmp _) _ a b => noRange a && noRange b
 | .rangeFunc .. => false
 | .seq a b | .cond _ a b => okRange a && okRange b
 | .block _ b | .scope b | .loop b => okRange b
 | _ => true

def loopA (E : Env U) (b : Code) : Nat → St U → (Ex → St U → Option R) → Option R :=
 roundsA (codeA E b) (gc E.cc (E.D (loopKey b)).1) (gc E.cc (E.D (loopKey b)).2)

def loopsOf : Code → List Code
 | .seq a b | .cond _ a b => loopsOf a ++ loopsOf b
 | .block _ b | .scope b => loopsOf b
 | .loop b => b :: loopsOf b
 | .rangeFunc (.tmp g) ps a b => .rangeFunc (.global g) ps a b :: (loopsOf a ++ loopsOf b)
 | _ => []
def Func.loop (fn : Func) (key : Nat) : Code := match fn.body with
 | some c => ((loopsOf c).find? fun b => loopKey b == key).getD .skip
 | none => .skip

def stOf (n : Nat) (xs : List (Nat × AV U)) (h : Hp U) (m : Nat) : St U :=
 { tm := (List.range n).map fun i => (xs.lookup i).getD .bot, hp := h, m := m }

def resA (E : Env U) (st : St U) : List ResultVar → (List (AV U) → Option R) → Option R
 | [], K => K []
 | .tmp t :: rs, K => resA E st rs fun vs => K (st.tm.getD t .bot :: vs)
 | .cell a t :: rs, K => loadA E st t (st.tm.getD a .bot) fun v _ _ => resA E st rs fun vs => K (v :: vs)

def killH : List Nat → Hp U → Hp U
 | [], h => h
 | b :: bs, h => killH bs (match h.get b with | .row _ _ _ => h.set1 b .dead | _ => h)
def killS (bs : List Nat) (st : St U) : St U := { tm := st.tm, hp := killH bs st.hp, m := st.m }
def outV (vs : List (AV U)) : AV U := match vs with | [x] => x | vs => .tup vs
def finA (E : Env U) (fn : Func) (ms : List (Nat × List Ps × Md)) (h : Hp U) (K : AV U → Hp U → Option R) (st : St U) : Option R :=
 resA E st fn.results.toList fun vs => match normS E.cc ms ⟨vs, st.hp, 0⟩ with
   | ⟨vs, hp, _⟩ =>
    let v := outV vs
    let bs := reach hp 4000 (v.refs ++ (List.range h.length).flatMap fun b => (hp.get b).refs) (List.range h.length)
    if closedB hp v.refs bs && (List.range h.length).isPrefixOf bs then K (v.ren (bs.idxOf ·)) (bs.map fun b => (hp.get b).ren (bs.idxOf ·)) else none

def funcA (E : Env U) (fn : Func) (ms : List (Nat × List Ps × Md)) : AFun U := fun _ args h K =>
 match fn.body with
 | none => none
 | some c => match okRange c with
  | false => none
  | true => codeA E c ⟨args ++ List.replicate (fn.ntmps - args.length) .bot, h, h.length⟩ fun ex st =>
   match ex with
   | .exit _ => none
   | _ => finA E fn ms h K (killS E.kill (normS E.cc E.pre st))

end Go.Proofs.Ytmlbioapefgioaa.Va

