/-
  No cell of these rows narrows 'for every input' (looked for: loops, veiled, ifaces, maps, wideKeys, modest, calm, conditions, laid).
  DERIVED. THE GIVEN ROWS OF THIS SEAT. 15 by the template 'for every input the law returns true; each argument reads behind the call as it read before'; 0 by the template 'total and deterministic' (their statements: YtpidbpmkogbdeaaTotals.lean).
  GIVEN WITH THE SEED: the statements are not yours to turn. If you find one false, say at which input.
  Laid BY PROGRAM, IN A SANDBOX (cutbox-rows.mjs): the forced cells as the released guide's own fill.sh prints them over the translation 489480852f8c57dc… (all of the seat's roots in one cut). By AI agents, Wed Nov 11 2026. No macro, syntax, notation, axiom, sorry.
-/
import Derived.Test.YtpidbpmkogbdeaaChecked
import GoSem.Claim
import GoSem.ClaimJoined
import GoSem.ClaimMapViews
import Derived.JoinedTies
import Derived.KernelRfl
namespace Go.Proofs.Ytpidbpmkogbdeaa
/- THE CELL 'sum', in the pinned program and in every row, IS THE sha256 OF THE DUMP (.gsa) THAT YtpidbpmkogbdeaaProg.lean LOADS. Nothing in Lean hashes anything: it is a label: what it is worth is what the hold of that sum in a sandbox is worth. -/
noncomputable def Try.pinned : Pinned := { name := "ytpidbpmkogbdeaa", sum := "489480852f8c57dcb8d72ee4ebaa2f945bb76b90895d807a2189d79a3939fcdd", checked := Try.checked }
namespace Rows
def none {H : Type} : Left H := { results := [], args := [] }

/-- 'instarlaw23.LeafWords': WHATEVER THE INPUT: true; the input reads as it did. -/
def leafWordsSpec : ChangeSpec := { name := "leafWords", fn := fun _ => fun
  | [d1, d2, d3] => { results := [.lit (.bool true)], args := [d1, d2, d3] }
  | _ => none }
def leafWordsRow : OpenClaim := { program := "ytpidbpmkogbdeaa", sum := "489480852f8c57dcb8d72ee4ebaa2f945bb76b90895d807a2189d79a3939fcdd", func := "instar/instarlaw23.LeafWords", spec := "leafWords", apart := false }
def LeafWordsSaid : Prop := leafWordsRow.holds Try.pinned (OpenSpec.ofChange leafWordsSpec)

/-- ITS FALSE NEIGHBOUR: 'it returns false'. Refute it at one input. -/
def leafWordsWrong : ChangeSpec := { name := "leafWords", fn := fun _ => fun
  | [d1, d2, d3] => { results := [.lit (.bool false)], args := [d1, d2, d3] }
  | _ => none }
def LeafWordsWrongFalsely : Prop := leafWordsRow.holds Try.pinned (OpenSpec.ofChange leafWordsWrong)

/-- 'instarlaw23.LeafBack': WHATEVER THE INPUT: true; the input reads as it did. -/
def leafBackSpec : ChangeSpec := { name := "leafBack", fn := fun _ => fun
  | [d1, d2] => { results := [.lit (.bool true)], args := [d1, d2] }
  | _ => none }
def leafBackRow : OpenClaim := { program := "ytpidbpmkogbdeaa", sum := "489480852f8c57dcb8d72ee4ebaa2f945bb76b90895d807a2189d79a3939fcdd", func := "instar/instarlaw23.LeafBack", spec := "leafBack", apart := false }
def LeafBackSaid : Prop := leafBackRow.holds Try.pinned (OpenSpec.ofChange leafBackSpec)

/-- ITS FALSE NEIGHBOUR: 'it returns false'. Refute it at one input. -/
def leafBackWrong : ChangeSpec := { name := "leafBack", fn := fun _ => fun
  | [d1, d2] => { results := [.lit (.bool false)], args := [d1, d2] }
  | _ => none }
def LeafBackWrongFalsely : Prop := leafBackRow.holds Try.pinned (OpenSpec.ofChange leafBackWrong)

/-- 'instarlaw23.LeafSure': WHATEVER THE INPUT: true; the input reads as it did. -/
def leafSureSpec : ChangeSpec := { name := "leafSure", fn := fun _ => fun
  | [d1, d2] => { results := [.lit (.bool true)], args := [d1, d2] }
  | _ => none }
def leafSureRow : OpenClaim := { program := "ytpidbpmkogbdeaa", sum := "489480852f8c57dcb8d72ee4ebaa2f945bb76b90895d807a2189d79a3939fcdd", func := "instar/instarlaw23.LeafSure", spec := "leafSure", apart := false }
def LeafSureSaid : Prop := leafSureRow.holds Try.pinned (OpenSpec.ofChange leafSureSpec)

/-- ITS FALSE NEIGHBOUR: 'it returns false'. Refute it at one input. -/
def leafSureWrong : ChangeSpec := { name := "leafSure", fn := fun _ => fun
  | [d1, d2] => { results := [.lit (.bool false)], args := [d1, d2] }
  | _ => none }
def LeafSureWrongFalsely : Prop := leafSureRow.holds Try.pinned (OpenSpec.ofChange leafSureWrong)

/-- 'instarlaw07.FlashOnly': WHATEVER THE INPUT: true; the input reads as it did. -/
def flashOnlySpec : ChangeSpec := { name := "flashOnly", fn := fun _ => fun
  | [d1, d2] => { results := [.lit (.bool true)], args := [d1, d2] }
  | _ => none }
def flashOnlyRow : OpenClaim := { program := "ytpidbpmkogbdeaa", sum := "489480852f8c57dcb8d72ee4ebaa2f945bb76b90895d807a2189d79a3939fcdd", func := "instar/instarlaw07.FlashOnly", spec := "flashOnly", apart := false }
def FlashOnlySaid : Prop := flashOnlyRow.holds Try.pinned (OpenSpec.ofChange flashOnlySpec)

/-- ITS FALSE NEIGHBOUR: 'it returns false'. Refute it at one input. -/
def flashOnlyWrong : ChangeSpec := { name := "flashOnly", fn := fun _ => fun
  | [d1, d2] => { results := [.lit (.bool false)], args := [d1, d2] }
  | _ => none }
def FlashOnlyWrongFalsely : Prop := flashOnlyRow.holds Try.pinned (OpenSpec.ofChange flashOnlyWrong)

/-- 'instarlaw24.PackGreedy': WHATEVER THE INPUT: true; the input reads as it did. -/
def packGreedySpec : ChangeSpec := { name := "packGreedy", fn := fun _ => fun
  | [d1, d2, d3] => { results := [.lit (.bool true)], args := [d1, d2, d3] }
  | _ => none }
def packGreedyRow : OpenClaim := { program := "ytpidbpmkogbdeaa", sum := "489480852f8c57dcb8d72ee4ebaa2f945bb76b90895d807a2189d79a3939fcdd", func := "instar/instarlaw24.PackGreedy", spec := "packGreedy", unfollowed := true, recurses := true, apart := false }
def PackGreedySaid : Prop := packGreedyRow.holds Try.pinned (OpenSpec.ofChange packGreedySpec)

/-- ITS FALSE NEIGHBOUR: 'it returns false'. Refute it at one input. -/
def packGreedyWrong : ChangeSpec := { name := "packGreedy", fn := fun _ => fun
  | [d1, d2, d3] => { results := [.lit (.bool false)], args := [d1, d2, d3] }
  | _ => none }
def PackGreedyWrongFalsely : Prop := packGreedyRow.holds Try.pinned (OpenSpec.ofChange packGreedyWrong)

/-- 'instarlaw07.FlashPlays': WHATEVER THE INPUT: true; the input reads as it did. -/
def flashPlaysSpec : ChangeSpec := { name := "flashPlays", fn := fun _ => fun
  | [d1, d2] => { results := [.lit (.bool true)], args := [d1, d2] }
  | _ => none }
def flashPlaysRow : OpenClaim := { program := "ytpidbpmkogbdeaa", sum := "489480852f8c57dcb8d72ee4ebaa2f945bb76b90895d807a2189d79a3939fcdd", func := "instar/instarlaw07.FlashPlays", spec := "flashPlays", apart := false }
def FlashPlaysSaid : Prop := flashPlaysRow.holds Try.pinned (OpenSpec.ofChange flashPlaysSpec)

/-- ITS FALSE NEIGHBOUR: 'it returns false'. Refute it at one input. -/
def flashPlaysWrong : ChangeSpec := { name := "flashPlays", fn := fun _ => fun
  | [d1, d2] => { results := [.lit (.bool false)], args := [d1, d2] }
  | _ => none }
def FlashPlaysWrongFalsely : Prop := flashPlaysRow.holds Try.pinned (OpenSpec.ofChange flashPlaysWrong)

/-- 'instarlaw07.FlashNone': WHATEVER THE INPUT: true; the input reads as it did. -/
def flashNoneSpec : ChangeSpec := { name := "flashNone", fn := fun _ => fun
  | [d] => { results := [.lit (.bool true)], args := [d] }
  | _ => none }
def flashNoneRow : OpenClaim := { program := "ytpidbpmkogbdeaa", sum := "489480852f8c57dcb8d72ee4ebaa2f945bb76b90895d807a2189d79a3939fcdd", func := "instar/instarlaw07.FlashNone", spec := "flashNone", apart := false }
def FlashNoneSaid : Prop := flashNoneRow.holds Try.pinned (OpenSpec.ofChange flashNoneSpec)

/-- ITS FALSE NEIGHBOUR: 'it returns false'. Refute it at one input. -/
def flashNoneWrong : ChangeSpec := { name := "flashNone", fn := fun _ => fun
  | [d] => { results := [.lit (.bool false)], args := [d] }
  | _ => none }
def FlashNoneWrongFalsely : Prop := flashNoneRow.holds Try.pinned (OpenSpec.ofChange flashNoneWrong)

/-- 'instarlaw24.PackPlays': WHATEVER THE INPUT: true; the input reads as it did. -/
def packPlaysSpec : ChangeSpec := { name := "packPlays", fn := fun _ => fun
  | [d1, d2] => { results := [.lit (.bool true)], args := [d1, d2] }
  | _ => none }
def packPlaysRow : OpenClaim := { program := "ytpidbpmkogbdeaa", sum := "489480852f8c57dcb8d72ee4ebaa2f945bb76b90895d807a2189d79a3939fcdd", func := "instar/instarlaw24.PackPlays", spec := "packPlays", unfollowed := true, recurses := true, apart := false }
def PackPlaysSaid : Prop := packPlaysRow.holds Try.pinned (OpenSpec.ofChange packPlaysSpec)

/-- ITS FALSE NEIGHBOUR: 'it returns false'. Refute it at one input. -/
def packPlaysWrong : ChangeSpec := { name := "packPlays", fn := fun _ => fun
  | [d1, d2] => { results := [.lit (.bool false)], args := [d1, d2] }
  | _ => none }
def PackPlaysWrongFalsely : Prop := packPlaysRow.holds Try.pinned (OpenSpec.ofChange packPlaysWrong)

/-- 'instarlaw24.PackLists': WHATEVER THE INPUT: true; the input reads as it did. -/
def packListsSpec : ChangeSpec := { name := "packLists", fn := fun _ => fun
  | [d1, d2, d3] => { results := [.lit (.bool true)], args := [d1, d2, d3] }
  | _ => none }
def packListsRow : OpenClaim := { program := "ytpidbpmkogbdeaa", sum := "489480852f8c57dcb8d72ee4ebaa2f945bb76b90895d807a2189d79a3939fcdd", func := "instar/instarlaw24.PackLists", spec := "packLists", unfollowed := true, recurses := true, apart := false }
def PackListsSaid : Prop := packListsRow.holds Try.pinned (OpenSpec.ofChange packListsSpec)

/-- ITS FALSE NEIGHBOUR: 'it returns false'. Refute it at one input. -/
def packListsWrong : ChangeSpec := { name := "packLists", fn := fun _ => fun
  | [d1, d2, d3] => { results := [.lit (.bool false)], args := [d1, d2, d3] }
  | _ => none }
def PackListsWrongFalsely : Prop := packListsRow.holds Try.pinned (OpenSpec.ofChange packListsWrong)

/-- 'instarlaw14.RecordHas': WHATEVER THE INPUT: true; the input reads as it did. -/
def recordHasSpec : ChangeSpec := { name := "recordHas", fn := fun _ => fun
  | [d1, d2, d3] => { results := [.lit (.bool true)], args := [d1, d2, d3] }
  | _ => none }
def recordHasRow : OpenClaim := { program := "ytpidbpmkogbdeaa", sum := "489480852f8c57dcb8d72ee4ebaa2f945bb76b90895d807a2189d79a3939fcdd", func := "instar/instarlaw14.RecordHas", spec := "recordHas", unfollowed := true, recurses := true, apart := false }
def RecordHasSaid : Prop := recordHasRow.holds Try.pinned (OpenSpec.ofChange recordHasSpec)

/-- ITS FALSE NEIGHBOUR: 'it returns false'. Refute it at one input. -/
def recordHasWrong : ChangeSpec := { name := "recordHas", fn := fun _ => fun
  | [d1, d2, d3] => { results := [.lit (.bool false)], args := [d1, d2, d3] }
  | _ => none }
def RecordHasWrongFalsely : Prop := recordHasRow.holds Try.pinned (OpenSpec.ofChange recordHasWrong)

/-- 'instarlaw14.RecordBytes': WHATEVER THE INPUT: true; the input reads as it did. -/
def recordBytesSpec : ChangeSpec := { name := "recordBytes", fn := fun _ => fun
  | [d1, d2, d3] => { results := [.lit (.bool true)], args := [d1, d2, d3] }
  | _ => none }
def recordBytesRow : OpenClaim := { program := "ytpidbpmkogbdeaa", sum := "489480852f8c57dcb8d72ee4ebaa2f945bb76b90895d807a2189d79a3939fcdd", func := "instar/instarlaw14.RecordBytes", spec := "recordBytes", unfollowed := true, recurses := true, apart := false }
def RecordBytesSaid : Prop := recordBytesRow.holds Try.pinned (OpenSpec.ofChange recordBytesSpec)

/-- ITS FALSE NEIGHBOUR: 'it returns false'. Refute it at one input. -/
def recordBytesWrong : ChangeSpec := { name := "recordBytes", fn := fun _ => fun
  | [d1, d2, d3] => { results := [.lit (.bool false)], args := [d1, d2, d3] }
  | _ => none }
def RecordBytesWrongFalsely : Prop := recordBytesRow.holds Try.pinned (OpenSpec.ofChange recordBytesWrong)

/-- 'instarlaw14.RecordBack': WHATEVER THE INPUT: true; the input reads as it did. -/
def recordBackSpec : ChangeSpec := { name := "recordBack", fn := fun _ => fun
  | [d1, d2, d3] => { results := [.lit (.bool true)], args := [d1, d2, d3] }
  | _ => none }
def recordBackRow : OpenClaim := { program := "ytpidbpmkogbdeaa", sum := "489480852f8c57dcb8d72ee4ebaa2f945bb76b90895d807a2189d79a3939fcdd", func := "instar/instarlaw14.RecordBack", spec := "recordBack", unfollowed := true, recurses := true, apart := false }
def RecordBackSaid : Prop := recordBackRow.holds Try.pinned (OpenSpec.ofChange recordBackSpec)

/-- ITS FALSE NEIGHBOUR: 'it returns false'. Refute it at one input. -/
def recordBackWrong : ChangeSpec := { name := "recordBack", fn := fun _ => fun
  | [d1, d2, d3] => { results := [.lit (.bool false)], args := [d1, d2, d3] }
  | _ => none }
def RecordBackWrongFalsely : Prop := recordBackRow.holds Try.pinned (OpenSpec.ofChange recordBackWrong)

/-- 'instarlaw09.DriveNone': WHATEVER THE INPUT: true; the input reads as it did. -/
def driveNoneSpec : ChangeSpec := { name := "driveNone", fn := fun _ => fun
  | [d1, d2, d3] => { results := [.lit (.bool true)], args := [d1, d2, d3] }
  | _ => none }
def driveNoneRow : OpenClaim := { program := "ytpidbpmkogbdeaa", sum := "489480852f8c57dcb8d72ee4ebaa2f945bb76b90895d807a2189d79a3939fcdd", func := "instar/instarlaw09.DriveNone", spec := "driveNone", unfollowed := true, recurses := true, apart := false }
def DriveNoneSaid : Prop := driveNoneRow.holds Try.pinned (OpenSpec.ofChange driveNoneSpec)

/-- ITS FALSE NEIGHBOUR: 'it returns false'. Refute it at one input. -/
def driveNoneWrong : ChangeSpec := { name := "driveNone", fn := fun _ => fun
  | [d1, d2, d3] => { results := [.lit (.bool false)], args := [d1, d2, d3] }
  | _ => none }
def DriveNoneWrongFalsely : Prop := driveNoneRow.holds Try.pinned (OpenSpec.ofChange driveNoneWrong)

/-- 'instarlaw09.DrivePlays': WHATEVER THE INPUT: true; the input reads as it did. -/
def drivePlaysSpec : ChangeSpec := { name := "drivePlays", fn := fun _ => fun
  | [d1, d2] => { results := [.lit (.bool true)], args := [d1, d2] }
  | _ => none }
def drivePlaysRow : OpenClaim := { program := "ytpidbpmkogbdeaa", sum := "489480852f8c57dcb8d72ee4ebaa2f945bb76b90895d807a2189d79a3939fcdd", func := "instar/instarlaw09.DrivePlays", spec := "drivePlays", unfollowed := true, recurses := true, apart := false }
def DrivePlaysSaid : Prop := drivePlaysRow.holds Try.pinned (OpenSpec.ofChange drivePlaysSpec)

/-- ITS FALSE NEIGHBOUR: 'it returns false'. Refute it at one input. -/
def drivePlaysWrong : ChangeSpec := { name := "drivePlays", fn := fun _ => fun
  | [d1, d2] => { results := [.lit (.bool false)], args := [d1, d2] }
  | _ => none }
def DrivePlaysWrongFalsely : Prop := drivePlaysRow.holds Try.pinned (OpenSpec.ofChange drivePlaysWrong)

/-- 'instarlaw09.DriveStands': WHATEVER THE INPUT: true; the input reads as it did. -/
def driveStandsSpec : ChangeSpec := { name := "driveStands", fn := fun _ => fun
  | [d1, d2, d3] => { results := [.lit (.bool true)], args := [d1, d2, d3] }
  | _ => none }
def driveStandsRow : OpenClaim := { program := "ytpidbpmkogbdeaa", sum := "489480852f8c57dcb8d72ee4ebaa2f945bb76b90895d807a2189d79a3939fcdd", func := "instar/instarlaw09.DriveStands", spec := "driveStands", unfollowed := true, recurses := true, apart := false }
def DriveStandsSaid : Prop := driveStandsRow.holds Try.pinned (OpenSpec.ofChange driveStandsSpec)

/-- ITS FALSE NEIGHBOUR: 'it returns false'. Refute it at one input. -/
def driveStandsWrong : ChangeSpec := { name := "driveStands", fn := fun _ => fun
  | [d1, d2, d3] => { results := [.lit (.bool false)], args := [d1, d2, d3] }
  | _ => none }
def DriveStandsWrongFalsely : Prop := driveStandsRow.holds Try.pinned (OpenSpec.ofChange driveStandsWrong)

/- THE SECOND FORM. 'bulk': how many values and letters a reading holds, each counted each time it is reached (what is shared counts as often as it is met; a slice's spare places count too). A statement '..UptoSaid' is the law's where the arguments, and the package variables that the reading takes, are together of bulk at most 1048576: NARROWER than '..Said'. Prove '..Said' where nothing that the law and all that it calls make is longer than what came in: it says more and counts as full. Else prove '..UptoSaid'. A law counts once. -/
mutual
def uptoBulk {H : Type} : DataW H → Nat
  | .lit (.string bytes) => bytes.length + 1
  | .lit _ => 1
  | .nil => 1
  | .ptr d => uptoBulk d + 1
  | .slice elems spare => uptoBulkAll elems + uptoBulkAll spare + 1
  | .agg parts => uptoBulkAll parts + 1
  | .iface _ d => uptoBulk d + 1
  | .map entries => uptoBulkEntries entries + 1
  | .held _ => 1
def uptoBulkAll {H : Type} : List (DataW H) → Nat
  | [] => 0
  | d :: r => uptoBulk d + uptoBulkAll r
def uptoBulkEntries {H : Type} : List (Lit × DataW H) → Nat
  | [] => 0
  | x :: r => uptoBulkEntry x + uptoBulkEntries r
def uptoBulkEntry {H : Type} : Lit × DataW H → Nat
  | (.string bytes, d) => bytes.length + uptoBulk d + 1
  | (_, d) => uptoBulk d + 1
 end
def uptoSmall : (H : Type) → List (DataW H) → Bool := fun _ ds => decide (uptoBulkAll ds ≤ 1048576)
def OpenSpec.upto (s : _root_.Go.ChangeSpec) : _root_.Go.OpenSpec := { _root_.Go.OpenSpec.ofChange s with cond := some uptoSmall }

/-- 'instarlaw23.LeafWords', WHERE WHAT IT READS IS OF BULK AT MOST 1048576: true; the input reads as it did. -/
def leafWordsUptoRow : OpenClaim := { program := "ytpidbpmkogbdeaa", sum := "489480852f8c57dcb8d72ee4ebaa2f945bb76b90895d807a2189d79a3939fcdd", func := "instar/instarlaw23.LeafWords", spec := "leafWords", apart := false, narrowed := true }
def LeafWordsUptoSaid : Prop := leafWordsUptoRow.holds Try.pinned (OpenSpec.upto leafWordsSpec)

/-- 'instarlaw23.LeafBack', WHERE WHAT IT READS IS OF BULK AT MOST 1048576: true; the input reads as it did. -/
def leafBackUptoRow : OpenClaim := { program := "ytpidbpmkogbdeaa", sum := "489480852f8c57dcb8d72ee4ebaa2f945bb76b90895d807a2189d79a3939fcdd", func := "instar/instarlaw23.LeafBack", spec := "leafBack", apart := false, narrowed := true }
def LeafBackUptoSaid : Prop := leafBackUptoRow.holds Try.pinned (OpenSpec.upto leafBackSpec)

/-- 'instarlaw23.LeafSure', WHERE WHAT IT READS IS OF BULK AT MOST 1048576: true; the input reads as it did. -/
def leafSureUptoRow : OpenClaim := { program := "ytpidbpmkogbdeaa", sum := "489480852f8c57dcb8d72ee4ebaa2f945bb76b90895d807a2189d79a3939fcdd", func := "instar/instarlaw23.LeafSure", spec := "leafSure", apart := false, narrowed := true }
def LeafSureUptoSaid : Prop := leafSureUptoRow.holds Try.pinned (OpenSpec.upto leafSureSpec)

/-- 'instarlaw07.FlashOnly', WHERE WHAT IT READS IS OF BULK AT MOST 1048576: true; the input reads as it did. -/
def flashOnlyUptoRow : OpenClaim := { program := "ytpidbpmkogbdeaa", sum := "489480852f8c57dcb8d72ee4ebaa2f945bb76b90895d807a2189d79a3939fcdd", func := "instar/instarlaw07.FlashOnly", spec := "flashOnly", apart := false, narrowed := true }
def FlashOnlyUptoSaid : Prop := flashOnlyUptoRow.holds Try.pinned (OpenSpec.upto flashOnlySpec)

/-- 'instarlaw24.PackGreedy', WHERE WHAT IT READS IS OF BULK AT MOST 1048576: true; the input reads as it did. -/
def packGreedyUptoRow : OpenClaim := { program := "ytpidbpmkogbdeaa", sum := "489480852f8c57dcb8d72ee4ebaa2f945bb76b90895d807a2189d79a3939fcdd", func := "instar/instarlaw24.PackGreedy", spec := "packGreedy", unfollowed := true, recurses := true, apart := false, narrowed := true }
def PackGreedyUptoSaid : Prop := packGreedyUptoRow.holds Try.pinned (OpenSpec.upto packGreedySpec)

/-- 'instarlaw07.FlashPlays', WHERE WHAT IT READS IS OF BULK AT MOST 1048576: true; the input reads as it did. -/
def flashPlaysUptoRow : OpenClaim := { program := "ytpidbpmkogbdeaa", sum := "489480852f8c57dcb8d72ee4ebaa2f945bb76b90895d807a2189d79a3939fcdd", func := "instar/instarlaw07.FlashPlays", spec := "flashPlays", apart := false, narrowed := true }
def FlashPlaysUptoSaid : Prop := flashPlaysUptoRow.holds Try.pinned (OpenSpec.upto flashPlaysSpec)

/-- 'instarlaw07.FlashNone', WHERE WHAT IT READS IS OF BULK AT MOST 1048576: true; the input reads as it did. -/
def flashNoneUptoRow : OpenClaim := { program := "ytpidbpmkogbdeaa", sum := "489480852f8c57dcb8d72ee4ebaa2f945bb76b90895d807a2189d79a3939fcdd", func := "instar/instarlaw07.FlashNone", spec := "flashNone", apart := false, narrowed := true }
def FlashNoneUptoSaid : Prop := flashNoneUptoRow.holds Try.pinned (OpenSpec.upto flashNoneSpec)

/-- 'instarlaw24.PackPlays', WHERE WHAT IT READS IS OF BULK AT MOST 1048576: true; the input reads as it did. -/
def packPlaysUptoRow : OpenClaim := { program := "ytpidbpmkogbdeaa", sum := "489480852f8c57dcb8d72ee4ebaa2f945bb76b90895d807a2189d79a3939fcdd", func := "instar/instarlaw24.PackPlays", spec := "packPlays", unfollowed := true, recurses := true, apart := false, narrowed := true }
def PackPlaysUptoSaid : Prop := packPlaysUptoRow.holds Try.pinned (OpenSpec.upto packPlaysSpec)

/-- 'instarlaw24.PackLists', WHERE WHAT IT READS IS OF BULK AT MOST 1048576: true; the input reads as it did. -/
def packListsUptoRow : OpenClaim := { program := "ytpidbpmkogbdeaa", sum := "489480852f8c57dcb8d72ee4ebaa2f945bb76b90895d807a2189d79a3939fcdd", func := "instar/instarlaw24.PackLists", spec := "packLists", unfollowed := true, recurses := true, apart := false, narrowed := true }
def PackListsUptoSaid : Prop := packListsUptoRow.holds Try.pinned (OpenSpec.upto packListsSpec)

/-- 'instarlaw14.RecordHas', WHERE WHAT IT READS IS OF BULK AT MOST 1048576: true; the input reads as it did. -/
def recordHasUptoRow : OpenClaim := { program := "ytpidbpmkogbdeaa", sum := "489480852f8c57dcb8d72ee4ebaa2f945bb76b90895d807a2189d79a3939fcdd", func := "instar/instarlaw14.RecordHas", spec := "recordHas", unfollowed := true, recurses := true, apart := false, narrowed := true }
def RecordHasUptoSaid : Prop := recordHasUptoRow.holds Try.pinned (OpenSpec.upto recordHasSpec)

/-- 'instarlaw14.RecordBytes', WHERE WHAT IT READS IS OF BULK AT MOST 1048576: true; the input reads as it did. -/
def recordBytesUptoRow : OpenClaim := { program := "ytpidbpmkogbdeaa", sum := "489480852f8c57dcb8d72ee4ebaa2f945bb76b90895d807a2189d79a3939fcdd", func := "instar/instarlaw14.RecordBytes", spec := "recordBytes", unfollowed := true, recurses := true, apart := false, narrowed := true }
def RecordBytesUptoSaid : Prop := recordBytesUptoRow.holds Try.pinned (OpenSpec.upto recordBytesSpec)

/-- 'instarlaw14.RecordBack', WHERE WHAT IT READS IS OF BULK AT MOST 1048576: true; the input reads as it did. -/
def recordBackUptoRow : OpenClaim := { program := "ytpidbpmkogbdeaa", sum := "489480852f8c57dcb8d72ee4ebaa2f945bb76b90895d807a2189d79a3939fcdd", func := "instar/instarlaw14.RecordBack", spec := "recordBack", unfollowed := true, recurses := true, apart := false, narrowed := true }
def RecordBackUptoSaid : Prop := recordBackUptoRow.holds Try.pinned (OpenSpec.upto recordBackSpec)

/-- 'instarlaw09.DriveNone', WHERE WHAT IT READS IS OF BULK AT MOST 1048576: true; the input reads as it did. -/
def driveNoneUptoRow : OpenClaim := { program := "ytpidbpmkogbdeaa", sum := "489480852f8c57dcb8d72ee4ebaa2f945bb76b90895d807a2189d79a3939fcdd", func := "instar/instarlaw09.DriveNone", spec := "driveNone", unfollowed := true, recurses := true, apart := false, narrowed := true }
def DriveNoneUptoSaid : Prop := driveNoneUptoRow.holds Try.pinned (OpenSpec.upto driveNoneSpec)

/-- 'instarlaw09.DrivePlays', WHERE WHAT IT READS IS OF BULK AT MOST 1048576: true; the input reads as it did. -/
def drivePlaysUptoRow : OpenClaim := { program := "ytpidbpmkogbdeaa", sum := "489480852f8c57dcb8d72ee4ebaa2f945bb76b90895d807a2189d79a3939fcdd", func := "instar/instarlaw09.DrivePlays", spec := "drivePlays", unfollowed := true, recurses := true, apart := false, narrowed := true }
def DrivePlaysUptoSaid : Prop := drivePlaysUptoRow.holds Try.pinned (OpenSpec.upto drivePlaysSpec)

/-- 'instarlaw09.DriveStands', WHERE WHAT IT READS IS OF BULK AT MOST 1048576: true; the input reads as it did. -/
def driveStandsUptoRow : OpenClaim := { program := "ytpidbpmkogbdeaa", sum := "489480852f8c57dcb8d72ee4ebaa2f945bb76b90895d807a2189d79a3939fcdd", func := "instar/instarlaw09.DriveStands", spec := "driveStands", unfollowed := true, recurses := true, apart := false, narrowed := true }
def DriveStandsUptoSaid : Prop := driveStandsUptoRow.holds Try.pinned (OpenSpec.upto driveStandsSpec)

end Rows
end Go.Proofs.Ytpidbpmkogbdeaa
