/-
  No cell of these rows narrows 'for every input' (looked for: loops, veiled, ifaces, maps, wideKeys, modest, calm, conditions, laid).
  DERIVED. THE GIVEN ROWS OF THIS SEAT. 13 by the template 'for every input the law returns true; each argument reads behind the call as it read before'; 0 by the template 'total and deterministic' (their statements: YtadhnolgfhgepaaTotals.lean).
  GIVEN WITH THE SEED: the statements are not yours to turn. If you find one false, say at which input.
  Laid BY PROGRAM, IN A SANDBOX (cutbox-rows.mjs): the forced cells as the released guide's own fill.sh prints them over the translation 8d8d40c7229ba3ce… (all of the seat's roots in one cut). By AI agents, Wed Nov 11 2026. No macro, syntax, notation, axiom, sorry.
-/
import Derived.Test.YtadhnolgfhgepaaChecked
import GoSem.Claim
import GoSem.ClaimJoined
import GoSem.ClaimMapViews
import Derived.JoinedTies
import Derived.KernelRfl
namespace Go.Proofs.Ytadhnolgfhgepaa
/- THE CELL 'sum', in the pinned program and in every row, IS THE sha256 OF THE DUMP (.gsa) THAT YtadhnolgfhgepaaProg.lean LOADS. Nothing in Lean hashes anything: it is a label: what it is worth is what the hold of that sum in a sandbox is worth. -/
noncomputable def Try.pinned : Pinned := { name := "ytadhnolgfhgepaa", sum := "8d8d40c7229ba3ce58641cb7b9060f813f7f99b336a2e75ae970ac6f11a36b4d", checked := Try.checked }
namespace Rows
def none {H : Type} : Left H := { results := [], args := [] }

/-- 'instarlaw01.WordBits': WHATEVER THE INPUT: true; the input reads as it did. -/
def wordBitsSpec : ChangeSpec := { name := "wordBits", fn := fun _ => fun
  | [d1, d2, d3] => { results := [.lit (.bool true)], args := [d1, d2, d3] }
  | _ => none }
def wordBitsRow : OpenClaim := { program := "ytadhnolgfhgepaa", sum := "8d8d40c7229ba3ce58641cb7b9060f813f7f99b336a2e75ae970ac6f11a36b4d", func := "instar/instarlaw01.WordBits", spec := "wordBits", apart := false }
def WordBitsSaid : Prop := wordBitsRow.holds Try.pinned (OpenSpec.ofChange wordBitsSpec)

/-- ITS FALSE NEIGHBOUR: 'it returns false'. Refute it at one input. -/
def wordBitsWrong : ChangeSpec := { name := "wordBits", fn := fun _ => fun
  | [d1, d2, d3] => { results := [.lit (.bool false)], args := [d1, d2, d3] }
  | _ => none }
def WordBitsWrongFalsely : Prop := wordBitsRow.holds Try.pinned (OpenSpec.ofChange wordBitsWrong)

/-- 'instarlaw01.WordBetween': WHATEVER THE INPUT: true; the input reads as it did. -/
def wordBetweenSpec : ChangeSpec := { name := "wordBetween", fn := fun _ => fun
  | [d1, d2, d3] => { results := [.lit (.bool true)], args := [d1, d2, d3] }
  | _ => none }
def wordBetweenRow : OpenClaim := { program := "ytadhnolgfhgepaa", sum := "8d8d40c7229ba3ce58641cb7b9060f813f7f99b336a2e75ae970ac6f11a36b4d", func := "instar/instarlaw01.WordBetween", spec := "wordBetween", apart := false }
def WordBetweenSaid : Prop := wordBetweenRow.holds Try.pinned (OpenSpec.ofChange wordBetweenSpec)

/-- ITS FALSE NEIGHBOUR: 'it returns false'. Refute it at one input. -/
def wordBetweenWrong : ChangeSpec := { name := "wordBetween", fn := fun _ => fun
  | [d1, d2, d3] => { results := [.lit (.bool false)], args := [d1, d2, d3] }
  | _ => none }
def WordBetweenWrongFalsely : Prop := wordBetweenRow.holds Try.pinned (OpenSpec.ofChange wordBetweenWrong)

/-- 'instarlaw02.ZerosSums': WHATEVER THE INPUT: true; the input reads as it did. -/
def zerosSumsSpec : ChangeSpec := { name := "zerosSums", fn := fun _ => fun
  | [d] => { results := [.lit (.bool true)], args := [d] }
  | _ => none }
def zerosSumsRow : OpenClaim := { program := "ytadhnolgfhgepaa", sum := "8d8d40c7229ba3ce58641cb7b9060f813f7f99b336a2e75ae970ac6f11a36b4d", func := "instar/instarlaw02.ZerosSums", spec := "zerosSums", apart := false }
def ZerosSumsSaid : Prop := zerosSumsRow.holds Try.pinned (OpenSpec.ofChange zerosSumsSpec)

/-- ITS FALSE NEIGHBOUR: 'it returns false'. Refute it at one input. -/
def zerosSumsWrong : ChangeSpec := { name := "zerosSums", fn := fun _ => fun
  | [d] => { results := [.lit (.bool false)], args := [d] }
  | _ => none }
def ZerosSumsWrongFalsely : Prop := zerosSumsRow.holds Try.pinned (OpenSpec.ofChange zerosSumsWrong)

/-- 'instarlaw02.ZerosTwins': WHATEVER THE INPUT: true; the input reads as it did. -/
def zerosTwinsSpec : ChangeSpec := { name := "zerosTwins", fn := fun _ => fun
  | [d1, d2] => { results := [.lit (.bool true)], args := [d1, d2] }
  | _ => none }
def zerosTwinsRow : OpenClaim := { program := "ytadhnolgfhgepaa", sum := "8d8d40c7229ba3ce58641cb7b9060f813f7f99b336a2e75ae970ac6f11a36b4d", func := "instar/instarlaw02.ZerosTwins", spec := "zerosTwins", apart := false }
def ZerosTwinsSaid : Prop := zerosTwinsRow.holds Try.pinned (OpenSpec.ofChange zerosTwinsSpec)

/-- ITS FALSE NEIGHBOUR: 'it returns false'. Refute it at one input. -/
def zerosTwinsWrong : ChangeSpec := { name := "zerosTwins", fn := fun _ => fun
  | [d1, d2] => { results := [.lit (.bool false)], args := [d1, d2] }
  | _ => none }
def ZerosTwinsWrongFalsely : Prop := zerosTwinsRow.holds Try.pinned (OpenSpec.ofChange zerosTwinsWrong)

/-- 'instarlaw02.ZerosSure': WHATEVER THE INPUT: true; the input reads as it did. -/
def zerosSureSpec : ChangeSpec := { name := "zerosSure", fn := fun _ => fun
  | [d1, d2] => { results := [.lit (.bool true)], args := [d1, d2] }
  | _ => none }
def zerosSureRow : OpenClaim := { program := "ytadhnolgfhgepaa", sum := "8d8d40c7229ba3ce58641cb7b9060f813f7f99b336a2e75ae970ac6f11a36b4d", func := "instar/instarlaw02.ZerosSure", spec := "zerosSure", apart := false }
def ZerosSureSaid : Prop := zerosSureRow.holds Try.pinned (OpenSpec.ofChange zerosSureSpec)

/-- ITS FALSE NEIGHBOUR: 'it returns false'. Refute it at one input. -/
def zerosSureWrong : ChangeSpec := { name := "zerosSure", fn := fun _ => fun
  | [d1, d2] => { results := [.lit (.bool false)], args := [d1, d2] }
  | _ => none }
def ZerosSureWrongFalsely : Prop := zerosSureRow.holds Try.pinned (OpenSpec.ofChange zerosSureWrong)

/-- 'instarlaw02.ZerosOne': WHATEVER THE INPUT: true; the input reads as it did. -/
def zerosOneSpec : ChangeSpec := { name := "zerosOne", fn := fun _ => fun
  | [d1, d2] => { results := [.lit (.bool true)], args := [d1, d2] }
  | _ => none }
def zerosOneRow : OpenClaim := { program := "ytadhnolgfhgepaa", sum := "8d8d40c7229ba3ce58641cb7b9060f813f7f99b336a2e75ae970ac6f11a36b4d", func := "instar/instarlaw02.ZerosOne", spec := "zerosOne", apart := false }
def ZerosOneSaid : Prop := zerosOneRow.holds Try.pinned (OpenSpec.ofChange zerosOneSpec)

/-- ITS FALSE NEIGHBOUR: 'it returns false'. Refute it at one input. -/
def zerosOneWrong : ChangeSpec := { name := "zerosOne", fn := fun _ => fun
  | [d1, d2] => { results := [.lit (.bool false)], args := [d1, d2] }
  | _ => none }
def ZerosOneWrongFalsely : Prop := zerosOneRow.holds Try.pinned (OpenSpec.ofChange zerosOneWrong)

/-- 'instarlaw18.ItemKeys': WHATEVER THE INPUT: true; the input reads as it did. -/
def itemKeysSpec : ChangeSpec := { name := "itemKeys", fn := fun _ => fun
  | [d1, d2] => { results := [.lit (.bool true)], args := [d1, d2] }
  | _ => none }
def itemKeysRow : OpenClaim := { program := "ytadhnolgfhgepaa", sum := "8d8d40c7229ba3ce58641cb7b9060f813f7f99b336a2e75ae970ac6f11a36b4d", func := "instar/instarlaw18.ItemKeys", spec := "itemKeys", unfollowed := true, recurses := true, apart := false }
def ItemKeysSaid : Prop := itemKeysRow.holds Try.pinned (OpenSpec.ofChange itemKeysSpec)

/-- ITS FALSE NEIGHBOUR: 'it returns false'. Refute it at one input. -/
def itemKeysWrong : ChangeSpec := { name := "itemKeys", fn := fun _ => fun
  | [d1, d2] => { results := [.lit (.bool false)], args := [d1, d2] }
  | _ => none }
def ItemKeysWrongFalsely : Prop := itemKeysRow.holds Try.pinned (OpenSpec.ofChange itemKeysWrong)

/-- 'instarlaw01.WordPacks': WHATEVER THE INPUT: true; the input reads as it did. -/
def wordPacksSpec : ChangeSpec := { name := "wordPacks", fn := fun _ => fun
  | [d1, d2, d3] => { results := [.lit (.bool true)], args := [d1, d2, d3] }
  | _ => none }
def wordPacksRow : OpenClaim := { program := "ytadhnolgfhgepaa", sum := "8d8d40c7229ba3ce58641cb7b9060f813f7f99b336a2e75ae970ac6f11a36b4d", func := "instar/instarlaw01.WordPacks", spec := "wordPacks", apart := false }
def WordPacksSaid : Prop := wordPacksRow.holds Try.pinned (OpenSpec.ofChange wordPacksSpec)

/-- ITS FALSE NEIGHBOUR: 'it returns false'. Refute it at one input. -/
def wordPacksWrong : ChangeSpec := { name := "wordPacks", fn := fun _ => fun
  | [d1, d2, d3] => { results := [.lit (.bool false)], args := [d1, d2, d3] }
  | _ => none }
def WordPacksWrongFalsely : Prop := wordPacksRow.holds Try.pinned (OpenSpec.ofChange wordPacksWrong)

/-- 'instarlaw01.WordBack': WHATEVER THE INPUT: true; the input reads as it did. -/
def wordBackSpec : ChangeSpec := { name := "wordBack", fn := fun _ => fun
  | [d] => { results := [.lit (.bool true)], args := [d] }
  | _ => none }
def wordBackRow : OpenClaim := { program := "ytadhnolgfhgepaa", sum := "8d8d40c7229ba3ce58641cb7b9060f813f7f99b336a2e75ae970ac6f11a36b4d", func := "instar/instarlaw01.WordBack", spec := "wordBack", apart := false }
def WordBackSaid : Prop := wordBackRow.holds Try.pinned (OpenSpec.ofChange wordBackSpec)

/-- ITS FALSE NEIGHBOUR: 'it returns false'. Refute it at one input. -/
def wordBackWrong : ChangeSpec := { name := "wordBack", fn := fun _ => fun
  | [d] => { results := [.lit (.bool false)], args := [d] }
  | _ => none }
def WordBackWrongFalsely : Prop := wordBackRow.holds Try.pinned (OpenSpec.ofChange wordBackWrong)

/-- 'instarlaw18.ItemByKey': WHATEVER THE INPUT: true; the input reads as it did. -/
def itemByKeySpec : ChangeSpec := { name := "itemByKey", fn := fun _ => fun
  | [d1, d2, d3] => { results := [.lit (.bool true)], args := [d1, d2, d3] }
  | _ => none }
def itemByKeyRow : OpenClaim := { program := "ytadhnolgfhgepaa", sum := "8d8d40c7229ba3ce58641cb7b9060f813f7f99b336a2e75ae970ac6f11a36b4d", func := "instar/instarlaw18.ItemByKey", spec := "itemByKey", unfollowed := true, recurses := true, apart := false }
def ItemByKeySaid : Prop := itemByKeyRow.holds Try.pinned (OpenSpec.ofChange itemByKeySpec)

/-- ITS FALSE NEIGHBOUR: 'it returns false'. Refute it at one input. -/
def itemByKeyWrong : ChangeSpec := { name := "itemByKey", fn := fun _ => fun
  | [d1, d2, d3] => { results := [.lit (.bool false)], args := [d1, d2, d3] }
  | _ => none }
def ItemByKeyWrongFalsely : Prop := itemByKeyRow.holds Try.pinned (OpenSpec.ofChange itemByKeyWrong)

/-- 'instarlaw08.GeomPlaces': WHATEVER THE INPUT: true; the input reads as it did. -/
def geomPlacesSpec : ChangeSpec := { name := "geomPlaces", fn := fun _ => fun
  | [d1, d2, d3] => { results := [.lit (.bool true)], args := [d1, d2, d3] }
  | _ => none }
def geomPlacesRow : OpenClaim := { program := "ytadhnolgfhgepaa", sum := "8d8d40c7229ba3ce58641cb7b9060f813f7f99b336a2e75ae970ac6f11a36b4d", func := "instar/instarlaw08.GeomPlaces", spec := "geomPlaces", apart := false }
def GeomPlacesSaid : Prop := geomPlacesRow.holds Try.pinned (OpenSpec.ofChange geomPlacesSpec)

/-- ITS FALSE NEIGHBOUR: 'it returns false'. Refute it at one input. -/
def geomPlacesWrong : ChangeSpec := { name := "geomPlaces", fn := fun _ => fun
  | [d1, d2, d3] => { results := [.lit (.bool false)], args := [d1, d2, d3] }
  | _ => none }
def GeomPlacesWrongFalsely : Prop := geomPlacesRow.holds Try.pinned (OpenSpec.ofChange geomPlacesWrong)

/-- 'instarlaw18.ItemLists': WHATEVER THE INPUT: true; the input reads as it did. -/
def itemListsSpec : ChangeSpec := { name := "itemLists", fn := fun _ => fun
  | [d1, d2, d3] => { results := [.lit (.bool true)], args := [d1, d2, d3] }
  | _ => none }
def itemListsRow : OpenClaim := { program := "ytadhnolgfhgepaa", sum := "8d8d40c7229ba3ce58641cb7b9060f813f7f99b336a2e75ae970ac6f11a36b4d", func := "instar/instarlaw18.ItemLists", spec := "itemLists", unfollowed := true, recurses := true, apart := false }
def ItemListsSaid : Prop := itemListsRow.holds Try.pinned (OpenSpec.ofChange itemListsSpec)

/-- ITS FALSE NEIGHBOUR: 'it returns false'. Refute it at one input. -/
def itemListsWrong : ChangeSpec := { name := "itemLists", fn := fun _ => fun
  | [d1, d2, d3] => { results := [.lit (.bool false)], args := [d1, d2, d3] }
  | _ => none }
def ItemListsWrongFalsely : Prop := itemListsRow.holds Try.pinned (OpenSpec.ofChange itemListsWrong)

/-- 'instarlaw08.GeomApart': WHATEVER THE INPUT: true; the input reads as it did. -/
def geomApartSpec : ChangeSpec := { name := "geomApart", fn := fun _ => fun
  | [d1, d2] => { results := [.lit (.bool true)], args := [d1, d2] }
  | _ => none }
def geomApartRow : OpenClaim := { program := "ytadhnolgfhgepaa", sum := "8d8d40c7229ba3ce58641cb7b9060f813f7f99b336a2e75ae970ac6f11a36b4d", func := "instar/instarlaw08.GeomApart", spec := "geomApart", apart := false }
def GeomApartSaid : Prop := geomApartRow.holds Try.pinned (OpenSpec.ofChange geomApartSpec)

/-- ITS FALSE NEIGHBOUR: 'it returns false'. Refute it at one input. -/
def geomApartWrong : ChangeSpec := { name := "geomApart", fn := fun _ => fun
  | [d1, d2] => { results := [.lit (.bool false)], args := [d1, d2] }
  | _ => none }
def GeomApartWrongFalsely : Prop := geomApartRow.holds Try.pinned (OpenSpec.ofChange geomApartWrong)

/- THE SECOND FORM. 'bulk': how many values and letters a reading holds, each counted each time it is reached (what is shared counts as often as it is met; a slice's spare places count too). A statement '..UptoSaid' is the law's where the arguments, and the package variables that the reading takes, are together of bulk at most 1048576: NARROWER than '..Said'. Prove '..Said' where nothing that the law and all that it calls make is longer than what came in: it says more and counts as full. Else prove '..UptoSaid'. A law counts once. -/
mutual
def uptoBulk {H : Type} : DataW H → Nat
  | .lit (.string bytes) => bytes.length + 1
  | .lit _ => 1
  | .nil => 1
  | .ptr d => uptoBulk d + 1
  | .slice elems spare => uptoBulkAll elems + uptoBulkAll spare + 1
  | .agg parts => uptoBulkAll parts + 1
  | .iface _ d => uptoBulk d + 1
  | .map entries => uptoBulkEntries entries + 1
  | .held _ => 1
def uptoBulkAll {H : Type} : List (DataW H) → Nat
  | [] => 0
  | d :: r => uptoBulk d + uptoBulkAll r
def uptoBulkEntries {H : Type} : List (Lit × DataW H) → Nat
  | [] => 0
  | x :: r => uptoBulkEntry x + uptoBulkEntries r
def uptoBulkEntry {H : Type} : Lit × DataW H → Nat
  | (.string bytes, d) => bytes.length + uptoBulk d + 1
  | (_, d) => uptoBulk d + 1
 end
def uptoSmall : (H : Type) → List (DataW H) → Bool := fun _ ds => decide (uptoBulkAll ds ≤ 1048576)
def OpenSpec.upto (s : _root_.Go.ChangeSpec) : _root_.Go.OpenSpec := { _root_.Go.OpenSpec.ofChange s with cond := some uptoSmall }

/-- 'instarlaw01.WordBits', WHERE WHAT IT READS IS OF BULK AT MOST 1048576: true; the input reads as it did. -/
def wordBitsUptoRow : OpenClaim := { program := "ytadhnolgfhgepaa", sum := "8d8d40c7229ba3ce58641cb7b9060f813f7f99b336a2e75ae970ac6f11a36b4d", func := "instar/instarlaw01.WordBits", spec := "wordBits", apart := false, narrowed := true }
def WordBitsUptoSaid : Prop := wordBitsUptoRow.holds Try.pinned (OpenSpec.upto wordBitsSpec)

/-- 'instarlaw01.WordBetween', WHERE WHAT IT READS IS OF BULK AT MOST 1048576: true; the input reads as it did. -/
def wordBetweenUptoRow : OpenClaim := { program := "ytadhnolgfhgepaa", sum := "8d8d40c7229ba3ce58641cb7b9060f813f7f99b336a2e75ae970ac6f11a36b4d", func := "instar/instarlaw01.WordBetween", spec := "wordBetween", apart := false, narrowed := true }
def WordBetweenUptoSaid : Prop := wordBetweenUptoRow.holds Try.pinned (OpenSpec.upto wordBetweenSpec)

/-- 'instarlaw02.ZerosSums', WHERE WHAT IT READS IS OF BULK AT MOST 1048576: true; the input reads as it did. -/
def zerosSumsUptoRow : OpenClaim := { program := "ytadhnolgfhgepaa", sum := "8d8d40c7229ba3ce58641cb7b9060f813f7f99b336a2e75ae970ac6f11a36b4d", func := "instar/instarlaw02.ZerosSums", spec := "zerosSums", apart := false, narrowed := true }
def ZerosSumsUptoSaid : Prop := zerosSumsUptoRow.holds Try.pinned (OpenSpec.upto zerosSumsSpec)

/-- 'instarlaw02.ZerosTwins', WHERE WHAT IT READS IS OF BULK AT MOST 1048576: true; the input reads as it did. -/
def zerosTwinsUptoRow : OpenClaim := { program := "ytadhnolgfhgepaa", sum := "8d8d40c7229ba3ce58641cb7b9060f813f7f99b336a2e75ae970ac6f11a36b4d", func := "instar/instarlaw02.ZerosTwins", spec := "zerosTwins", apart := false, narrowed := true }
def ZerosTwinsUptoSaid : Prop := zerosTwinsUptoRow.holds Try.pinned (OpenSpec.upto zerosTwinsSpec)

/-- 'instarlaw02.ZerosSure', WHERE WHAT IT READS IS OF BULK AT MOST 1048576: true; the input reads as it did. -/
def zerosSureUptoRow : OpenClaim := { program := "ytadhnolgfhgepaa", sum := "8d8d40c7229ba3ce58641cb7b9060f813f7f99b336a2e75ae970ac6f11a36b4d", func := "instar/instarlaw02.ZerosSure", spec := "zerosSure", apart := false, narrowed := true }
def ZerosSureUptoSaid : Prop := zerosSureUptoRow.holds Try.pinned (OpenSpec.upto zerosSureSpec)

/-- 'instarlaw02.ZerosOne', WHERE WHAT IT READS IS OF BULK AT MOST 1048576: true; the input reads as it did. -/
def zerosOneUptoRow : OpenClaim := { program := "ytadhnolgfhgepaa", sum := "8d8d40c7229ba3ce58641cb7b9060f813f7f99b336a2e75ae970ac6f11a36b4d", func := "instar/instarlaw02.ZerosOne", spec := "zerosOne", apart := false, narrowed := true }
def ZerosOneUptoSaid : Prop := zerosOneUptoRow.holds Try.pinned (OpenSpec.upto zerosOneSpec)

/-- 'instarlaw18.ItemKeys', WHERE WHAT IT READS IS OF BULK AT MOST 1048576: true; the input reads as it did. -/
def itemKeysUptoRow : OpenClaim := { program := "ytadhnolgfhgepaa", sum := "8d8d40c7229ba3ce58641cb7b9060f813f7f99b336a2e75ae970ac6f11a36b4d", func := "instar/instarlaw18.ItemKeys", spec := "itemKeys", unfollowed := true, recurses := true, apart := false, narrowed := true }
def ItemKeysUptoSaid : Prop := itemKeysUptoRow.holds Try.pinned (OpenSpec.upto itemKeysSpec)

/-- 'instarlaw01.WordPacks', WHERE WHAT IT READS IS OF BULK AT MOST 1048576: true; the input reads as it did. -/
def wordPacksUptoRow : OpenClaim := { program := "ytadhnolgfhgepaa", sum := "8d8d40c7229ba3ce58641cb7b9060f813f7f99b336a2e75ae970ac6f11a36b4d", func := "instar/instarlaw01.WordPacks", spec := "wordPacks", apart := false, narrowed := true }
def WordPacksUptoSaid : Prop := wordPacksUptoRow.holds Try.pinned (OpenSpec.upto wordPacksSpec)

/-- 'instarlaw01.WordBack', WHERE WHAT IT READS IS OF BULK AT MOST 1048576: true; the input reads as it did. -/
def wordBackUptoRow : OpenClaim := { program := "ytadhnolgfhgepaa", sum := "8d8d40c7229ba3ce58641cb7b9060f813f7f99b336a2e75ae970ac6f11a36b4d", func := "instar/instarlaw01.WordBack", spec := "wordBack", apart := false, narrowed := true }
def WordBackUptoSaid : Prop := wordBackUptoRow.holds Try.pinned (OpenSpec.upto wordBackSpec)

/-- 'instarlaw18.ItemByKey', WHERE WHAT IT READS IS OF BULK AT MOST 1048576: true; the input reads as it did. -/
def itemByKeyUptoRow : OpenClaim := { program := "ytadhnolgfhgepaa", sum := "8d8d40c7229ba3ce58641cb7b9060f813f7f99b336a2e75ae970ac6f11a36b4d", func := "instar/instarlaw18.ItemByKey", spec := "itemByKey", unfollowed := true, recurses := true, apart := false, narrowed := true }
def ItemByKeyUptoSaid : Prop := itemByKeyUptoRow.holds Try.pinned (OpenSpec.upto itemByKeySpec)

/-- 'instarlaw08.GeomPlaces', WHERE WHAT IT READS IS OF BULK AT MOST 1048576: true; the input reads as it did. -/
def geomPlacesUptoRow : OpenClaim := { program := "ytadhnolgfhgepaa", sum := "8d8d40c7229ba3ce58641cb7b9060f813f7f99b336a2e75ae970ac6f11a36b4d", func := "instar/instarlaw08.GeomPlaces", spec := "geomPlaces", apart := false, narrowed := true }
def GeomPlacesUptoSaid : Prop := geomPlacesUptoRow.holds Try.pinned (OpenSpec.upto geomPlacesSpec)

/-- 'instarlaw18.ItemLists', WHERE WHAT IT READS IS OF BULK AT MOST 1048576: true; the input reads as it did. -/
def itemListsUptoRow : OpenClaim := { program := "ytadhnolgfhgepaa", sum := "8d8d40c7229ba3ce58641cb7b9060f813f7f99b336a2e75ae970ac6f11a36b4d", func := "instar/instarlaw18.ItemLists", spec := "itemLists", unfollowed := true, recurses := true, apart := false, narrowed := true }
def ItemListsUptoSaid : Prop := itemListsUptoRow.holds Try.pinned (OpenSpec.upto itemListsSpec)

/-- 'instarlaw08.GeomApart', WHERE WHAT IT READS IS OF BULK AT MOST 1048576: true; the input reads as it did. -/
def geomApartUptoRow : OpenClaim := { program := "ytadhnolgfhgepaa", sum := "8d8d40c7229ba3ce58641cb7b9060f813f7f99b336a2e75ae970ac6f11a36b4d", func := "instar/instarlaw08.GeomApart", spec := "geomApart", apart := false, narrowed := true }
def GeomApartUptoSaid : Prop := geomApartUptoRow.holds Try.pinned (OpenSpec.upto geomApartSpec)

end Rows
end Go.Proofs.Ytadhnolgfhgepaa
