/-
  No cell of these rows narrows 'for every input' (looked for: loops, veiled, ifaces, maps, wideKeys, modest, calm, conditions, laid).
  DERIVED. THE GIVEN ROWS OF THIS SEAT. 21 by the template 'for every input the law returns true; each argument reads behind the call as it read before'; 0 by the template 'total and deterministic' (their statements: YtcnomgpbkimmeaaTotals.lean).
  GIVEN WITH THE SEED: the statements are not yours to turn. If you find one false, say at which input.
  Laid BY PROGRAM, IN A SANDBOX (cutbox-rows.mjs): the forced cells as the released guide's own fill.sh prints them over the translation b54afc9958a94514… (all of the seat's roots in one cut). By AI agents, Wed Nov 11 2026. No macro, syntax, notation, axiom, sorry.
-/
import Derived.Test.YtcnomgpbkimmeaaChecked
import GoSem.Claim
import GoSem.ClaimJoined
import GoSem.ClaimMapViews
import Derived.JoinedTies
import Derived.KernelRfl
namespace Go.Proofs.Ytcnomgpbkimmeaa
/- THE CELL 'sum', in the pinned program and in every row, IS THE sha256 OF THE DUMP (.gsa) THAT YtcnomgpbkimmeaaProg.lean LOADS. Nothing in Lean hashes anything: it is a label: what it is worth is what the hold of that sum in a sandbox is worth. -/
noncomputable def Try.pinned : Pinned := { name := "ytcnomgpbkimmeaa", sum := "b54afc9958a945149780fda208f9fee594a579acef739240ed5069ecc88bcfbb", checked := Try.checked }
namespace Rows
def none {H : Type} : Left H := { results := [], args := [] }

/-- 'instarlaw25.TableWords': WHATEVER THE INPUT: true; the input reads as it did. -/
def tableWordsSpec : ChangeSpec := { name := "tableWords", fn := fun _ => fun
  | [d1, d2] => { results := [.lit (.bool true)], args := [d1, d2] }
  | _ => none }
def tableWordsRow : OpenClaim := { program := "ytcnomgpbkimmeaa", sum := "b54afc9958a945149780fda208f9fee594a579acef739240ed5069ecc88bcfbb", func := "instar/instarlaw25.TableWords", spec := "tableWords", apart := false }
def TableWordsSaid : Prop := tableWordsRow.holds Try.pinned (OpenSpec.ofChange tableWordsSpec)

/-- ITS FALSE NEIGHBOUR: 'it returns false'. Refute it at one input. -/
def tableWordsWrong : ChangeSpec := { name := "tableWords", fn := fun _ => fun
  | [d1, d2] => { results := [.lit (.bool false)], args := [d1, d2] }
  | _ => none }
def TableWordsWrongFalsely : Prop := tableWordsRow.holds Try.pinned (OpenSpec.ofChange tableWordsWrong)

/-- 'instarlaw25.TableBack': WHATEVER THE INPUT: true; the input reads as it did. -/
def tableBackSpec : ChangeSpec := { name := "tableBack", fn := fun _ => fun
  | [d1, d2] => { results := [.lit (.bool true)], args := [d1, d2] }
  | _ => none }
def tableBackRow : OpenClaim := { program := "ytcnomgpbkimmeaa", sum := "b54afc9958a945149780fda208f9fee594a579acef739240ed5069ecc88bcfbb", func := "instar/instarlaw25.TableBack", spec := "tableBack", apart := false }
def TableBackSaid : Prop := tableBackRow.holds Try.pinned (OpenSpec.ofChange tableBackSpec)

/-- ITS FALSE NEIGHBOUR: 'it returns false'. Refute it at one input. -/
def tableBackWrong : ChangeSpec := { name := "tableBack", fn := fun _ => fun
  | [d1, d2] => { results := [.lit (.bool false)], args := [d1, d2] }
  | _ => none }
def TableBackWrongFalsely : Prop := tableBackRow.holds Try.pinned (OpenSpec.ofChange tableBackWrong)

/-- 'instarlaw25.TableSure': WHATEVER THE INPUT: true; the input reads as it did. -/
def tableSureSpec : ChangeSpec := { name := "tableSure", fn := fun _ => fun
  | [d1, d2] => { results := [.lit (.bool true)], args := [d1, d2] }
  | _ => none }
def tableSureRow : OpenClaim := { program := "ytcnomgpbkimmeaa", sum := "b54afc9958a945149780fda208f9fee594a579acef739240ed5069ecc88bcfbb", func := "instar/instarlaw25.TableSure", spec := "tableSure", apart := false }
def TableSureSaid : Prop := tableSureRow.holds Try.pinned (OpenSpec.ofChange tableSureSpec)

/-- ITS FALSE NEIGHBOUR: 'it returns false'. Refute it at one input. -/
def tableSureWrong : ChangeSpec := { name := "tableSure", fn := fun _ => fun
  | [d1, d2] => { results := [.lit (.bool false)], args := [d1, d2] }
  | _ => none }
def TableSureWrongFalsely : Prop := tableSureRow.holds Try.pinned (OpenSpec.ofChange tableSureWrong)

/-- 'instarlaw34.BookChanges': WHATEVER THE INPUT: true; the input reads as it did. -/
def bookChangesSpec : ChangeSpec := { name := "bookChanges", fn := fun _ => fun
  | [d1, d2, d3] => { results := [.lit (.bool true)], args := [d1, d2, d3] }
  | _ => none }
def bookChangesRow : OpenClaim := { program := "ytcnomgpbkimmeaa", sum := "b54afc9958a945149780fda208f9fee594a579acef739240ed5069ecc88bcfbb", func := "instar/instarlaw34.BookChanges", spec := "bookChanges", apart := false }
def BookChangesSaid : Prop := bookChangesRow.holds Try.pinned (OpenSpec.ofChange bookChangesSpec)

/-- ITS FALSE NEIGHBOUR: 'it returns false'. Refute it at one input. -/
def bookChangesWrong : ChangeSpec := { name := "bookChanges", fn := fun _ => fun
  | [d1, d2, d3] => { results := [.lit (.bool false)], args := [d1, d2, d3] }
  | _ => none }
def BookChangesWrongFalsely : Prop := bookChangesRow.holds Try.pinned (OpenSpec.ofChange bookChangesWrong)

/-- 'instarlaw34.BookWords': WHATEVER THE INPUT: true; the input reads as it did. -/
def bookWordsSpec : ChangeSpec := { name := "bookWords", fn := fun _ => fun
  | [d1, d2] => { results := [.lit (.bool true)], args := [d1, d2] }
  | _ => none }
def bookWordsRow : OpenClaim := { program := "ytcnomgpbkimmeaa", sum := "b54afc9958a945149780fda208f9fee594a579acef739240ed5069ecc88bcfbb", func := "instar/instarlaw34.BookWords", spec := "bookWords", apart := false }
def BookWordsSaid : Prop := bookWordsRow.holds Try.pinned (OpenSpec.ofChange bookWordsSpec)

/-- ITS FALSE NEIGHBOUR: 'it returns false'. Refute it at one input. -/
def bookWordsWrong : ChangeSpec := { name := "bookWords", fn := fun _ => fun
  | [d1, d2] => { results := [.lit (.bool false)], args := [d1, d2] }
  | _ => none }
def BookWordsWrongFalsely : Prop := bookWordsRow.holds Try.pinned (OpenSpec.ofChange bookWordsWrong)

/-- 'instarlaw34.BookBack': WHATEVER THE INPUT: true; the input reads as it did. -/
def bookBackSpec : ChangeSpec := { name := "bookBack", fn := fun _ => fun
  | [d1, d2] => { results := [.lit (.bool true)], args := [d1, d2] }
  | _ => none }
def bookBackRow : OpenClaim := { program := "ytcnomgpbkimmeaa", sum := "b54afc9958a945149780fda208f9fee594a579acef739240ed5069ecc88bcfbb", func := "instar/instarlaw34.BookBack", spec := "bookBack", apart := false }
def BookBackSaid : Prop := bookBackRow.holds Try.pinned (OpenSpec.ofChange bookBackSpec)

/-- ITS FALSE NEIGHBOUR: 'it returns false'. Refute it at one input. -/
def bookBackWrong : ChangeSpec := { name := "bookBack", fn := fun _ => fun
  | [d1, d2] => { results := [.lit (.bool false)], args := [d1, d2] }
  | _ => none }
def BookBackWrongFalsely : Prop := bookBackRow.holds Try.pinned (OpenSpec.ofChange bookBackWrong)

/-- 'instarlaw10.FrameWords': WHATEVER THE INPUT: true; the input reads as it did. -/
def frameWordsSpec : ChangeSpec := { name := "frameWords", fn := fun _ => fun
  | [d1, d2] => { results := [.lit (.bool true)], args := [d1, d2] }
  | _ => none }
def frameWordsRow : OpenClaim := { program := "ytcnomgpbkimmeaa", sum := "b54afc9958a945149780fda208f9fee594a579acef739240ed5069ecc88bcfbb", func := "instar/instarlaw10.FrameWords", spec := "frameWords", apart := false }
def FrameWordsSaid : Prop := frameWordsRow.holds Try.pinned (OpenSpec.ofChange frameWordsSpec)

/-- ITS FALSE NEIGHBOUR: 'it returns false'. Refute it at one input. -/
def frameWordsWrong : ChangeSpec := { name := "frameWords", fn := fun _ => fun
  | [d1, d2] => { results := [.lit (.bool false)], args := [d1, d2] }
  | _ => none }
def FrameWordsWrongFalsely : Prop := frameWordsRow.holds Try.pinned (OpenSpec.ofChange frameWordsWrong)

/-- 'instarlaw10.FrameBack': WHATEVER THE INPUT: true; the input reads as it did. -/
def frameBackSpec : ChangeSpec := { name := "frameBack", fn := fun _ => fun
  | [d1, d2] => { results := [.lit (.bool true)], args := [d1, d2] }
  | _ => none }
def frameBackRow : OpenClaim := { program := "ytcnomgpbkimmeaa", sum := "b54afc9958a945149780fda208f9fee594a579acef739240ed5069ecc88bcfbb", func := "instar/instarlaw10.FrameBack", spec := "frameBack", apart := false }
def FrameBackSaid : Prop := frameBackRow.holds Try.pinned (OpenSpec.ofChange frameBackSpec)

/-- ITS FALSE NEIGHBOUR: 'it returns false'. Refute it at one input. -/
def frameBackWrong : ChangeSpec := { name := "frameBack", fn := fun _ => fun
  | [d1, d2] => { results := [.lit (.bool false)], args := [d1, d2] }
  | _ => none }
def FrameBackWrongFalsely : Prop := frameBackRow.holds Try.pinned (OpenSpec.ofChange frameBackWrong)

/-- 'instarlaw10.FrameSure': WHATEVER THE INPUT: true; the input reads as it did. -/
def frameSureSpec : ChangeSpec := { name := "frameSure", fn := fun _ => fun
  | [d1, d2, d3] => { results := [.lit (.bool true)], args := [d1, d2, d3] }
  | _ => none }
def frameSureRow : OpenClaim := { program := "ytcnomgpbkimmeaa", sum := "b54afc9958a945149780fda208f9fee594a579acef739240ed5069ecc88bcfbb", func := "instar/instarlaw10.FrameSure", spec := "frameSure", apart := false }
def FrameSureSaid : Prop := frameSureRow.holds Try.pinned (OpenSpec.ofChange frameSureSpec)

/-- ITS FALSE NEIGHBOUR: 'it returns false'. Refute it at one input. -/
def frameSureWrong : ChangeSpec := { name := "frameSure", fn := fun _ => fun
  | [d1, d2, d3] => { results := [.lit (.bool false)], args := [d1, d2, d3] }
  | _ => none }
def FrameSureWrongFalsely : Prop := frameSureRow.holds Try.pinned (OpenSpec.ofChange frameSureWrong)

/-- 'instarlaw10.FrameCut': WHATEVER THE INPUT: true; the input reads as it did. -/
def frameCutSpec : ChangeSpec := { name := "frameCut", fn := fun _ => fun
  | [d1, d2, d3] => { results := [.lit (.bool true)], args := [d1, d2, d3] }
  | _ => none }
def frameCutRow : OpenClaim := { program := "ytcnomgpbkimmeaa", sum := "b54afc9958a945149780fda208f9fee594a579acef739240ed5069ecc88bcfbb", func := "instar/instarlaw10.FrameCut", spec := "frameCut", apart := false }
def FrameCutSaid : Prop := frameCutRow.holds Try.pinned (OpenSpec.ofChange frameCutSpec)

/-- ITS FALSE NEIGHBOUR: 'it returns false'. Refute it at one input. -/
def frameCutWrong : ChangeSpec := { name := "frameCut", fn := fun _ => fun
  | [d1, d2, d3] => { results := [.lit (.bool false)], args := [d1, d2, d3] }
  | _ => none }
def FrameCutWrongFalsely : Prop := frameCutRow.holds Try.pinned (OpenSpec.ofChange frameCutWrong)

/-- 'instarlaw35.ModeDown': WHATEVER THE INPUT: true; the input reads as it did. -/
def modeDownSpec : ChangeSpec := { name := "modeDown", fn := fun _ => fun
  | [d1, d2, d3] => { results := [.lit (.bool true)], args := [d1, d2, d3] }
  | _ => none }
def modeDownRow : OpenClaim := { program := "ytcnomgpbkimmeaa", sum := "b54afc9958a945149780fda208f9fee594a579acef739240ed5069ecc88bcfbb", func := "instar/instarlaw35.ModeDown", spec := "modeDown", unfollowed := true, recurses := true, apart := false }
def ModeDownSaid : Prop := modeDownRow.holds Try.pinned (OpenSpec.ofChange modeDownSpec)

/-- ITS FALSE NEIGHBOUR: 'it returns false'. Refute it at one input. -/
def modeDownWrong : ChangeSpec := { name := "modeDown", fn := fun _ => fun
  | [d1, d2, d3] => { results := [.lit (.bool false)], args := [d1, d2, d3] }
  | _ => none }
def ModeDownWrongFalsely : Prop := modeDownRow.holds Try.pinned (OpenSpec.ofChange modeDownWrong)

/-- 'instarlaw12.FieldTypes': WHATEVER THE INPUT: true; the input reads as it did. -/
def fieldTypesSpec : ChangeSpec := { name := "fieldTypes", fn := fun _ => fun
  | [d1, d2, d3] => { results := [.lit (.bool true)], args := [d1, d2, d3] }
  | _ => none }
def fieldTypesRow : OpenClaim := { program := "ytcnomgpbkimmeaa", sum := "b54afc9958a945149780fda208f9fee594a579acef739240ed5069ecc88bcfbb", func := "instar/instarlaw12.FieldTypes", spec := "fieldTypes", apart := false }
def FieldTypesSaid : Prop := fieldTypesRow.holds Try.pinned (OpenSpec.ofChange fieldTypesSpec)

/-- ITS FALSE NEIGHBOUR: 'it returns false'. Refute it at one input. -/
def fieldTypesWrong : ChangeSpec := { name := "fieldTypes", fn := fun _ => fun
  | [d1, d2, d3] => { results := [.lit (.bool false)], args := [d1, d2, d3] }
  | _ => none }
def FieldTypesWrongFalsely : Prop := fieldTypesRow.holds Try.pinned (OpenSpec.ofChange fieldTypesWrong)

/-- 'instarlaw12.FieldWider': WHATEVER THE INPUT: true; the input reads as it did. -/
def fieldWiderSpec : ChangeSpec := { name := "fieldWider", fn := fun _ => fun
  | [d1, d2, d3] => { results := [.lit (.bool true)], args := [d1, d2, d3] }
  | _ => none }
def fieldWiderRow : OpenClaim := { program := "ytcnomgpbkimmeaa", sum := "b54afc9958a945149780fda208f9fee594a579acef739240ed5069ecc88bcfbb", func := "instar/instarlaw12.FieldWider", spec := "fieldWider", apart := false }
def FieldWiderSaid : Prop := fieldWiderRow.holds Try.pinned (OpenSpec.ofChange fieldWiderSpec)

/-- ITS FALSE NEIGHBOUR: 'it returns false'. Refute it at one input. -/
def fieldWiderWrong : ChangeSpec := { name := "fieldWider", fn := fun _ => fun
  | [d1, d2, d3] => { results := [.lit (.bool false)], args := [d1, d2, d3] }
  | _ => none }
def FieldWiderWrongFalsely : Prop := fieldWiderRow.holds Try.pinned (OpenSpec.ofChange fieldWiderWrong)

/-- 'instarlaw12.FieldBytes': WHATEVER THE INPUT: true; the input reads as it did. -/
def fieldBytesSpec : ChangeSpec := { name := "fieldBytes", fn := fun _ => fun
  | [d1, d2, d3] => { results := [.lit (.bool true)], args := [d1, d2, d3] }
  | _ => none }
def fieldBytesRow : OpenClaim := { program := "ytcnomgpbkimmeaa", sum := "b54afc9958a945149780fda208f9fee594a579acef739240ed5069ecc88bcfbb", func := "instar/instarlaw12.FieldBytes", spec := "fieldBytes", apart := false }
def FieldBytesSaid : Prop := fieldBytesRow.holds Try.pinned (OpenSpec.ofChange fieldBytesSpec)

/-- ITS FALSE NEIGHBOUR: 'it returns false'. Refute it at one input. -/
def fieldBytesWrong : ChangeSpec := { name := "fieldBytes", fn := fun _ => fun
  | [d1, d2, d3] => { results := [.lit (.bool false)], args := [d1, d2, d3] }
  | _ => none }
def FieldBytesWrongFalsely : Prop := fieldBytesRow.holds Try.pinned (OpenSpec.ofChange fieldBytesWrong)

/-- 'instarlaw12.FieldBack': WHATEVER THE INPUT: true; the input reads as it did. -/
def fieldBackSpec : ChangeSpec := { name := "fieldBack", fn := fun _ => fun
  | [d1, d2, d3] => { results := [.lit (.bool true)], args := [d1, d2, d3] }
  | _ => none }
def fieldBackRow : OpenClaim := { program := "ytcnomgpbkimmeaa", sum := "b54afc9958a945149780fda208f9fee594a579acef739240ed5069ecc88bcfbb", func := "instar/instarlaw12.FieldBack", spec := "fieldBack", apart := false }
def FieldBackSaid : Prop := fieldBackRow.holds Try.pinned (OpenSpec.ofChange fieldBackSpec)

/-- ITS FALSE NEIGHBOUR: 'it returns false'. Refute it at one input. -/
def fieldBackWrong : ChangeSpec := { name := "fieldBack", fn := fun _ => fun
  | [d1, d2, d3] => { results := [.lit (.bool false)], args := [d1, d2, d3] }
  | _ => none }
def FieldBackWrongFalsely : Prop := fieldBackRow.holds Try.pinned (OpenSpec.ofChange fieldBackWrong)

/-- 'instarlaw35.ModeBack': WHATEVER THE INPUT: true; the input reads as it did. -/
def modeBackSpec : ChangeSpec := { name := "modeBack", fn := fun _ => fun
  | [d1, d2] => { results := [.lit (.bool true)], args := [d1, d2] }
  | _ => none }
def modeBackRow : OpenClaim := { program := "ytcnomgpbkimmeaa", sum := "b54afc9958a945149780fda208f9fee594a579acef739240ed5069ecc88bcfbb", func := "instar/instarlaw35.ModeBack", spec := "modeBack", unfollowed := true, recurses := true, apart := false }
def ModeBackSaid : Prop := modeBackRow.holds Try.pinned (OpenSpec.ofChange modeBackSpec)

/-- ITS FALSE NEIGHBOUR: 'it returns false'. Refute it at one input. -/
def modeBackWrong : ChangeSpec := { name := "modeBack", fn := fun _ => fun
  | [d1, d2] => { results := [.lit (.bool false)], args := [d1, d2] }
  | _ => none }
def ModeBackWrongFalsely : Prop := modeBackRow.holds Try.pinned (OpenSpec.ofChange modeBackWrong)

/-- 'instarlaw35.ModeSteps': WHATEVER THE INPUT: true; the input reads as it did. -/
def modeStepsSpec : ChangeSpec := { name := "modeSteps", fn := fun _ => fun
  | [d1, d2] => { results := [.lit (.bool true)], args := [d1, d2] }
  | _ => none }
def modeStepsRow : OpenClaim := { program := "ytcnomgpbkimmeaa", sum := "b54afc9958a945149780fda208f9fee594a579acef739240ed5069ecc88bcfbb", func := "instar/instarlaw35.ModeSteps", spec := "modeSteps", unfollowed := true, recurses := true, apart := false }
def ModeStepsSaid : Prop := modeStepsRow.holds Try.pinned (OpenSpec.ofChange modeStepsSpec)

/-- ITS FALSE NEIGHBOUR: 'it returns false'. Refute it at one input. -/
def modeStepsWrong : ChangeSpec := { name := "modeSteps", fn := fun _ => fun
  | [d1, d2] => { results := [.lit (.bool false)], args := [d1, d2] }
  | _ => none }
def ModeStepsWrongFalsely : Prop := modeStepsRow.holds Try.pinned (OpenSpec.ofChange modeStepsWrong)

/-- 'instarlaw36.BootNext': WHATEVER THE INPUT: true; the input reads as it did. -/
def bootNextSpec : ChangeSpec := { name := "bootNext", fn := fun _ => fun
  | [d] => { results := [.lit (.bool true)], args := [d] }
  | _ => none }
def bootNextRow : OpenClaim := { program := "ytcnomgpbkimmeaa", sum := "b54afc9958a945149780fda208f9fee594a579acef739240ed5069ecc88bcfbb", func := "instar/instarlaw36.BootNext", spec := "bootNext", unfollowed := true, recurses := true, apart := false }
def BootNextSaid : Prop := bootNextRow.holds Try.pinned (OpenSpec.ofChange bootNextSpec)

/-- ITS FALSE NEIGHBOUR: 'it returns false'. Refute it at one input. -/
def bootNextWrong : ChangeSpec := { name := "bootNext", fn := fun _ => fun
  | [d] => { results := [.lit (.bool false)], args := [d] }
  | _ => none }
def BootNextWrongFalsely : Prop := bootNextRow.holds Try.pinned (OpenSpec.ofChange bootNextWrong)

/-- 'instarlaw36.BootEnds': WHATEVER THE INPUT: true; the input reads as it did. -/
def bootEndsSpec : ChangeSpec := { name := "bootEnds", fn := fun _ => fun
  | [d1, d2] => { results := [.lit (.bool true)], args := [d1, d2] }
  | _ => none }
def bootEndsRow : OpenClaim := { program := "ytcnomgpbkimmeaa", sum := "b54afc9958a945149780fda208f9fee594a579acef739240ed5069ecc88bcfbb", func := "instar/instarlaw36.BootEnds", spec := "bootEnds", unfollowed := true, recurses := true, apart := false }
def BootEndsSaid : Prop := bootEndsRow.holds Try.pinned (OpenSpec.ofChange bootEndsSpec)

/-- ITS FALSE NEIGHBOUR: 'it returns false'. Refute it at one input. -/
def bootEndsWrong : ChangeSpec := { name := "bootEnds", fn := fun _ => fun
  | [d1, d2] => { results := [.lit (.bool false)], args := [d1, d2] }
  | _ => none }
def BootEndsWrongFalsely : Prop := bootEndsRow.holds Try.pinned (OpenSpec.ofChange bootEndsWrong)

/-- 'instarlaw43.WearOf': WHATEVER THE INPUT: true; the input reads as it did. -/
def wearOfSpec : ChangeSpec := { name := "wearOf", fn := fun _ => fun
  | [d1, d2, d3] => { results := [.lit (.bool true)], args := [d1, d2, d3] }
  | _ => none }
def wearOfRow : OpenClaim := { program := "ytcnomgpbkimmeaa", sum := "b54afc9958a945149780fda208f9fee594a579acef739240ed5069ecc88bcfbb", func := "instar/instarlaw43.WearOf", spec := "wearOf", apart := false }
def WearOfSaid : Prop := wearOfRow.holds Try.pinned (OpenSpec.ofChange wearOfSpec)

/-- ITS FALSE NEIGHBOUR: 'it returns false'. Refute it at one input. -/
def wearOfWrong : ChangeSpec := { name := "wearOf", fn := fun _ => fun
  | [d1, d2, d3] => { results := [.lit (.bool false)], args := [d1, d2, d3] }
  | _ => none }
def WearOfWrongFalsely : Prop := wearOfRow.holds Try.pinned (OpenSpec.ofChange wearOfWrong)

/-- 'instarlaw43.WearCounts': WHATEVER THE INPUT: true; the input reads as it did. -/
def wearCountsSpec : ChangeSpec := { name := "wearCounts", fn := fun _ => fun
  | [d1, d2] => { results := [.lit (.bool true)], args := [d1, d2] }
  | _ => none }
def wearCountsRow : OpenClaim := { program := "ytcnomgpbkimmeaa", sum := "b54afc9958a945149780fda208f9fee594a579acef739240ed5069ecc88bcfbb", func := "instar/instarlaw43.WearCounts", spec := "wearCounts", apart := false }
def WearCountsSaid : Prop := wearCountsRow.holds Try.pinned (OpenSpec.ofChange wearCountsSpec)

/-- ITS FALSE NEIGHBOUR: 'it returns false'. Refute it at one input. -/
def wearCountsWrong : ChangeSpec := { name := "wearCounts", fn := fun _ => fun
  | [d1, d2] => { results := [.lit (.bool false)], args := [d1, d2] }
  | _ => none }
def WearCountsWrongFalsely : Prop := wearCountsRow.holds Try.pinned (OpenSpec.ofChange wearCountsWrong)

/- THE SECOND FORM. 'bulk': how many values and letters a reading holds, each counted each time it is reached (what is shared counts as often as it is met; a slice's spare places count too). A statement '..UptoSaid' is the law's where the arguments, and the package variables that the reading takes, are together of bulk at most 1048576: NARROWER than '..Said'. Prove '..Said' where nothing that the law and all that it calls make is longer than what came in: it says more and counts as full. Else prove '..UptoSaid'. A law counts once. -/
mutual
def uptoBulk {H : Type} : DataW H → Nat
  | .lit (.string bytes) => bytes.length + 1
  | .lit _ => 1
  | .nil => 1
  | .ptr d => uptoBulk d + 1
  | .slice elems spare => uptoBulkAll elems + uptoBulkAll spare + 1
  | .agg parts => uptoBulkAll parts + 1
  | .iface _ d => uptoBulk d + 1
  | .map entries => uptoBulkEntries entries + 1
  | .held _ => 1
def uptoBulkAll {H : Type} : List (DataW H) → Nat
  | [] => 0
  | d :: r => uptoBulk d + uptoBulkAll r
def uptoBulkEntries {H : Type} : List (Lit × DataW H) → Nat
  | [] => 0
  | x :: r => uptoBulkEntry x + uptoBulkEntries r
def uptoBulkEntry {H : Type} : Lit × DataW H → Nat
  | (.string bytes, d) => bytes.length + uptoBulk d + 1
  | (_, d) => uptoBulk d + 1
 end
def uptoSmall : (H : Type) → List (DataW H) → Bool := fun _ ds => decide (uptoBulkAll ds ≤ 1048576)
def OpenSpec.upto (s : _root_.Go.ChangeSpec) : _root_.Go.OpenSpec := { _root_.Go.OpenSpec.ofChange s with cond := some uptoSmall }

/-- 'instarlaw25.TableWords', WHERE WHAT IT READS IS OF BULK AT MOST 1048576: true; the input reads as it did. -/
def tableWordsUptoRow : OpenClaim := { program := "ytcnomgpbkimmeaa", sum := "b54afc9958a945149780fda208f9fee594a579acef739240ed5069ecc88bcfbb", func := "instar/instarlaw25.TableWords", spec := "tableWords", apart := false, narrowed := true }
def TableWordsUptoSaid : Prop := tableWordsUptoRow.holds Try.pinned (OpenSpec.upto tableWordsSpec)

/-- 'instarlaw25.TableBack', WHERE WHAT IT READS IS OF BULK AT MOST 1048576: true; the input reads as it did. -/
def tableBackUptoRow : OpenClaim := { program := "ytcnomgpbkimmeaa", sum := "b54afc9958a945149780fda208f9fee594a579acef739240ed5069ecc88bcfbb", func := "instar/instarlaw25.TableBack", spec := "tableBack", apart := false, narrowed := true }
def TableBackUptoSaid : Prop := tableBackUptoRow.holds Try.pinned (OpenSpec.upto tableBackSpec)

/-- 'instarlaw25.TableSure', WHERE WHAT IT READS IS OF BULK AT MOST 1048576: true; the input reads as it did. -/
def tableSureUptoRow : OpenClaim := { program := "ytcnomgpbkimmeaa", sum := "b54afc9958a945149780fda208f9fee594a579acef739240ed5069ecc88bcfbb", func := "instar/instarlaw25.TableSure", spec := "tableSure", apart := false, narrowed := true }
def TableSureUptoSaid : Prop := tableSureUptoRow.holds Try.pinned (OpenSpec.upto tableSureSpec)

/-- 'instarlaw34.BookChanges', WHERE WHAT IT READS IS OF BULK AT MOST 1048576: true; the input reads as it did. -/
def bookChangesUptoRow : OpenClaim := { program := "ytcnomgpbkimmeaa", sum := "b54afc9958a945149780fda208f9fee594a579acef739240ed5069ecc88bcfbb", func := "instar/instarlaw34.BookChanges", spec := "bookChanges", apart := false, narrowed := true }
def BookChangesUptoSaid : Prop := bookChangesUptoRow.holds Try.pinned (OpenSpec.upto bookChangesSpec)

/-- 'instarlaw34.BookWords', WHERE WHAT IT READS IS OF BULK AT MOST 1048576: true; the input reads as it did. -/
def bookWordsUptoRow : OpenClaim := { program := "ytcnomgpbkimmeaa", sum := "b54afc9958a945149780fda208f9fee594a579acef739240ed5069ecc88bcfbb", func := "instar/instarlaw34.BookWords", spec := "bookWords", apart := false, narrowed := true }
def BookWordsUptoSaid : Prop := bookWordsUptoRow.holds Try.pinned (OpenSpec.upto bookWordsSpec)

/-- 'instarlaw34.BookBack', WHERE WHAT IT READS IS OF BULK AT MOST 1048576: true; the input reads as it did. -/
def bookBackUptoRow : OpenClaim := { program := "ytcnomgpbkimmeaa", sum := "b54afc9958a945149780fda208f9fee594a579acef739240ed5069ecc88bcfbb", func := "instar/instarlaw34.BookBack", spec := "bookBack", apart := false, narrowed := true }
def BookBackUptoSaid : Prop := bookBackUptoRow.holds Try.pinned (OpenSpec.upto bookBackSpec)

/-- 'instarlaw10.FrameWords', WHERE WHAT IT READS IS OF BULK AT MOST 1048576: true; the input reads as it did. -/
def frameWordsUptoRow : OpenClaim := { program := "ytcnomgpbkimmeaa", sum := "b54afc9958a945149780fda208f9fee594a579acef739240ed5069ecc88bcfbb", func := "instar/instarlaw10.FrameWords", spec := "frameWords", apart := false, narrowed := true }
def FrameWordsUptoSaid : Prop := frameWordsUptoRow.holds Try.pinned (OpenSpec.upto frameWordsSpec)

/-- 'instarlaw10.FrameBack', WHERE WHAT IT READS IS OF BULK AT MOST 1048576: true; the input reads as it did. -/
def frameBackUptoRow : OpenClaim := { program := "ytcnomgpbkimmeaa", sum := "b54afc9958a945149780fda208f9fee594a579acef739240ed5069ecc88bcfbb", func := "instar/instarlaw10.FrameBack", spec := "frameBack", apart := false, narrowed := true }
def FrameBackUptoSaid : Prop := frameBackUptoRow.holds Try.pinned (OpenSpec.upto frameBackSpec)

/-- 'instarlaw10.FrameSure', WHERE WHAT IT READS IS OF BULK AT MOST 1048576: true; the input reads as it did. -/
def frameSureUptoRow : OpenClaim := { program := "ytcnomgpbkimmeaa", sum := "b54afc9958a945149780fda208f9fee594a579acef739240ed5069ecc88bcfbb", func := "instar/instarlaw10.FrameSure", spec := "frameSure", apart := false, narrowed := true }
def FrameSureUptoSaid : Prop := frameSureUptoRow.holds Try.pinned (OpenSpec.upto frameSureSpec)

/-- 'instarlaw10.FrameCut', WHERE WHAT IT READS IS OF BULK AT MOST 1048576: true; the input reads as it did. -/
def frameCutUptoRow : OpenClaim := { program := "ytcnomgpbkimmeaa", sum := "b54afc9958a945149780fda208f9fee594a579acef739240ed5069ecc88bcfbb", func := "instar/instarlaw10.FrameCut", spec := "frameCut", apart := false, narrowed := true }
def FrameCutUptoSaid : Prop := frameCutUptoRow.holds Try.pinned (OpenSpec.upto frameCutSpec)

/-- 'instarlaw35.ModeDown', WHERE WHAT IT READS IS OF BULK AT MOST 1048576: true; the input reads as it did. -/
def modeDownUptoRow : OpenClaim := { program := "ytcnomgpbkimmeaa", sum := "b54afc9958a945149780fda208f9fee594a579acef739240ed5069ecc88bcfbb", func := "instar/instarlaw35.ModeDown", spec := "modeDown", unfollowed := true, recurses := true, apart := false, narrowed := true }
def ModeDownUptoSaid : Prop := modeDownUptoRow.holds Try.pinned (OpenSpec.upto modeDownSpec)

/-- 'instarlaw12.FieldTypes', WHERE WHAT IT READS IS OF BULK AT MOST 1048576: true; the input reads as it did. -/
def fieldTypesUptoRow : OpenClaim := { program := "ytcnomgpbkimmeaa", sum := "b54afc9958a945149780fda208f9fee594a579acef739240ed5069ecc88bcfbb", func := "instar/instarlaw12.FieldTypes", spec := "fieldTypes", apart := false, narrowed := true }
def FieldTypesUptoSaid : Prop := fieldTypesUptoRow.holds Try.pinned (OpenSpec.upto fieldTypesSpec)

/-- 'instarlaw12.FieldWider', WHERE WHAT IT READS IS OF BULK AT MOST 1048576: true; the input reads as it did. -/
def fieldWiderUptoRow : OpenClaim := { program := "ytcnomgpbkimmeaa", sum := "b54afc9958a945149780fda208f9fee594a579acef739240ed5069ecc88bcfbb", func := "instar/instarlaw12.FieldWider", spec := "fieldWider", apart := false, narrowed := true }
def FieldWiderUptoSaid : Prop := fieldWiderUptoRow.holds Try.pinned (OpenSpec.upto fieldWiderSpec)

/-- 'instarlaw12.FieldBytes', WHERE WHAT IT READS IS OF BULK AT MOST 1048576: true; the input reads as it did. -/
def fieldBytesUptoRow : OpenClaim := { program := "ytcnomgpbkimmeaa", sum := "b54afc9958a945149780fda208f9fee594a579acef739240ed5069ecc88bcfbb", func := "instar/instarlaw12.FieldBytes", spec := "fieldBytes", apart := false, narrowed := true }
def FieldBytesUptoSaid : Prop := fieldBytesUptoRow.holds Try.pinned (OpenSpec.upto fieldBytesSpec)

/-- 'instarlaw12.FieldBack', WHERE WHAT IT READS IS OF BULK AT MOST 1048576: true; the input reads as it did. -/
def fieldBackUptoRow : OpenClaim := { program := "ytcnomgpbkimmeaa", sum := "b54afc9958a945149780fda208f9fee594a579acef739240ed5069ecc88bcfbb", func := "instar/instarlaw12.FieldBack", spec := "fieldBack", apart := false, narrowed := true }
def FieldBackUptoSaid : Prop := fieldBackUptoRow.holds Try.pinned (OpenSpec.upto fieldBackSpec)

/-- 'instarlaw35.ModeBack', WHERE WHAT IT READS IS OF BULK AT MOST 1048576: true; the input reads as it did. -/
def modeBackUptoRow : OpenClaim := { program := "ytcnomgpbkimmeaa", sum := "b54afc9958a945149780fda208f9fee594a579acef739240ed5069ecc88bcfbb", func := "instar/instarlaw35.ModeBack", spec := "modeBack", unfollowed := true, recurses := true, apart := false, narrowed := true }
def ModeBackUptoSaid : Prop := modeBackUptoRow.holds Try.pinned (OpenSpec.upto modeBackSpec)

/-- 'instarlaw35.ModeSteps', WHERE WHAT IT READS IS OF BULK AT MOST 1048576: true; the input reads as it did. -/
def modeStepsUptoRow : OpenClaim := { program := "ytcnomgpbkimmeaa", sum := "b54afc9958a945149780fda208f9fee594a579acef739240ed5069ecc88bcfbb", func := "instar/instarlaw35.ModeSteps", spec := "modeSteps", unfollowed := true, recurses := true, apart := false, narrowed := true }
def ModeStepsUptoSaid : Prop := modeStepsUptoRow.holds Try.pinned (OpenSpec.upto modeStepsSpec)

/-- 'instarlaw36.BootNext', WHERE WHAT IT READS IS OF BULK AT MOST 1048576: true; the input reads as it did. -/
def bootNextUptoRow : OpenClaim := { program := "ytcnomgpbkimmeaa", sum := "b54afc9958a945149780fda208f9fee594a579acef739240ed5069ecc88bcfbb", func := "instar/instarlaw36.BootNext", spec := "bootNext", unfollowed := true, recurses := true, apart := false, narrowed := true }
def BootNextUptoSaid : Prop := bootNextUptoRow.holds Try.pinned (OpenSpec.upto bootNextSpec)

/-- 'instarlaw36.BootEnds', WHERE WHAT IT READS IS OF BULK AT MOST 1048576: true; the input reads as it did. -/
def bootEndsUptoRow : OpenClaim := { program := "ytcnomgpbkimmeaa", sum := "b54afc9958a945149780fda208f9fee594a579acef739240ed5069ecc88bcfbb", func := "instar/instarlaw36.BootEnds", spec := "bootEnds", unfollowed := true, recurses := true, apart := false, narrowed := true }
def BootEndsUptoSaid : Prop := bootEndsUptoRow.holds Try.pinned (OpenSpec.upto bootEndsSpec)

/-- 'instarlaw43.WearOf', WHERE WHAT IT READS IS OF BULK AT MOST 1048576: true; the input reads as it did. -/
def wearOfUptoRow : OpenClaim := { program := "ytcnomgpbkimmeaa", sum := "b54afc9958a945149780fda208f9fee594a579acef739240ed5069ecc88bcfbb", func := "instar/instarlaw43.WearOf", spec := "wearOf", apart := false, narrowed := true }
def WearOfUptoSaid : Prop := wearOfUptoRow.holds Try.pinned (OpenSpec.upto wearOfSpec)

/-- 'instarlaw43.WearCounts', WHERE WHAT IT READS IS OF BULK AT MOST 1048576: true; the input reads as it did. -/
def wearCountsUptoRow : OpenClaim := { program := "ytcnomgpbkimmeaa", sum := "b54afc9958a945149780fda208f9fee594a579acef739240ed5069ecc88bcfbb", func := "instar/instarlaw43.WearCounts", spec := "wearCounts", apart := false, narrowed := true }
def WearCountsUptoSaid : Prop := wearCountsUptoRow.holds Try.pinned (OpenSpec.upto wearCountsSpec)

end Rows
end Go.Proofs.Ytcnomgpbkimmeaa
