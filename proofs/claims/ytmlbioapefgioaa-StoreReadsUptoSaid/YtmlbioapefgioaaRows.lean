/-
  No cell of these rows narrows 'for every input' (looked for: loops, veiled, ifaces, maps, wideKeys, modest, calm, conditions, laid).
  DERIVED. THE GIVEN ROWS OF THIS SEAT. 8 by the template 'for every input the law returns true; each argument reads behind the call as it read before'; 0 by the template 'total and deterministic' (their statements: YtmlbioapefgioaaTotals.lean).
  GIVEN WITH THE SEED: the statements are not yours to turn. If you find one false, say at which input.
  Laid BY PROGRAM, IN A SANDBOX (cutbox-rows.mjs): the forced cells as the released guide's own fill.sh prints them over the translation 102136c6b01ae751… (all of the seat's roots in one cut). By AI agents, Wed Nov 11 2026. No macro, syntax, notation, axiom, sorry.
-/
import Derived.Test.YtmlbioapefgioaaChecked
import GoSem.Claim
import GoSem.ClaimJoined
import GoSem.ClaimMapViews
import Derived.JoinedTies
import Derived.KernelRfl
namespace Go.Proofs.Ytmlbioapefgioaa
/- THE CELL 'sum', in the pinned program and in every row, IS THE sha256 OF THE DUMP (.gsa) THAT YtmlbioapefgioaaProg.lean LOADS. Nothing in Lean hashes anything: it is a label: what it is worth is what the hold of that sum in a sandbox is worth. -/
noncomputable def Try.pinned : Pinned := { name := "ytmlbioapefgioaa", sum := "102136c6b01ae751f9bf390f93f4efa1958250956ee67ef0f5a639df25496534", checked := Try.checked }
namespace Rows
def none {H : Type} : Left H := { results := [], args := [] }

/-- 'instarlaw24.PackGreedy': WHATEVER THE INPUT: true; the input reads as it did. -/
def packGreedySpec : ChangeSpec := { name := "packGreedy", fn := fun _ => fun
  | [d1, d2, d3] => { results := [.lit (.bool true)], args := [d1, d2, d3] }
  | _ => none }
def packGreedyRow : OpenClaim := { program := "ytmlbioapefgioaa", sum := "102136c6b01ae751f9bf390f93f4efa1958250956ee67ef0f5a639df25496534", func := "instar/instarlaw24.PackGreedy", spec := "packGreedy", unfollowed := true, recurses := true, apart := false }
def PackGreedySaid : Prop := packGreedyRow.holds Try.pinned (OpenSpec.ofChange packGreedySpec)

/-- ITS FALSE NEIGHBOUR: 'it returns false'. Refute it at one input. -/
def packGreedyWrong : ChangeSpec := { name := "packGreedy", fn := fun _ => fun
  | [d1, d2, d3] => { results := [.lit (.bool false)], args := [d1, d2, d3] }
  | _ => none }
def PackGreedyWrongFalsely : Prop := packGreedyRow.holds Try.pinned (OpenSpec.ofChange packGreedyWrong)

/-- 'instarlaw24.PackPlays': WHATEVER THE INPUT: true; the input reads as it did. -/
def packPlaysSpec : ChangeSpec := { name := "packPlays", fn := fun _ => fun
  | [d1, d2] => { results := [.lit (.bool true)], args := [d1, d2] }
  | _ => none }
def packPlaysRow : OpenClaim := { program := "ytmlbioapefgioaa", sum := "102136c6b01ae751f9bf390f93f4efa1958250956ee67ef0f5a639df25496534", func := "instar/instarlaw24.PackPlays", spec := "packPlays", unfollowed := true, recurses := true, apart := false }
def PackPlaysSaid : Prop := packPlaysRow.holds Try.pinned (OpenSpec.ofChange packPlaysSpec)

/-- ITS FALSE NEIGHBOUR: 'it returns false'. Refute it at one input. -/
def packPlaysWrong : ChangeSpec := { name := "packPlays", fn := fun _ => fun
  | [d1, d2] => { results := [.lit (.bool false)], args := [d1, d2] }
  | _ => none }
def PackPlaysWrongFalsely : Prop := packPlaysRow.holds Try.pinned (OpenSpec.ofChange packPlaysWrong)

/-- 'instarlaw24.PackLists': WHATEVER THE INPUT: true; the input reads as it did. -/
def packListsSpec : ChangeSpec := { name := "packLists", fn := fun _ => fun
  | [d1, d2, d3] => { results := [.lit (.bool true)], args := [d1, d2, d3] }
  | _ => none }
def packListsRow : OpenClaim := { program := "ytmlbioapefgioaa", sum := "102136c6b01ae751f9bf390f93f4efa1958250956ee67ef0f5a639df25496534", func := "instar/instarlaw24.PackLists", spec := "packLists", unfollowed := true, recurses := true, apart := false }
def PackListsSaid : Prop := packListsRow.holds Try.pinned (OpenSpec.ofChange packListsSpec)

/-- ITS FALSE NEIGHBOUR: 'it returns false'. Refute it at one input. -/
def packListsWrong : ChangeSpec := { name := "packLists", fn := fun _ => fun
  | [d1, d2, d3] => { results := [.lit (.bool false)], args := [d1, d2, d3] }
  | _ => none }
def PackListsWrongFalsely : Prop := packListsRow.holds Try.pinned (OpenSpec.ofChange packListsWrong)

/-- 'instarlaw43.WearOf': WHATEVER THE INPUT: true; the input reads as it did. -/
def wearOfSpec : ChangeSpec := { name := "wearOf", fn := fun _ => fun
  | [d1, d2, d3] => { results := [.lit (.bool true)], args := [d1, d2, d3] }
  | _ => none }
def wearOfRow : OpenClaim := { program := "ytmlbioapefgioaa", sum := "102136c6b01ae751f9bf390f93f4efa1958250956ee67ef0f5a639df25496534", func := "instar/instarlaw43.WearOf", spec := "wearOf", apart := false }
def WearOfSaid : Prop := wearOfRow.holds Try.pinned (OpenSpec.ofChange wearOfSpec)

/-- ITS FALSE NEIGHBOUR: 'it returns false'. Refute it at one input. -/
def wearOfWrong : ChangeSpec := { name := "wearOf", fn := fun _ => fun
  | [d1, d2, d3] => { results := [.lit (.bool false)], args := [d1, d2, d3] }
  | _ => none }
def WearOfWrongFalsely : Prop := wearOfRow.holds Try.pinned (OpenSpec.ofChange wearOfWrong)

/-- 'instarlaw43.WearCounts': WHATEVER THE INPUT: true; the input reads as it did. -/
def wearCountsSpec : ChangeSpec := { name := "wearCounts", fn := fun _ => fun
  | [d1, d2] => { results := [.lit (.bool true)], args := [d1, d2] }
  | _ => none }
def wearCountsRow : OpenClaim := { program := "ytmlbioapefgioaa", sum := "102136c6b01ae751f9bf390f93f4efa1958250956ee67ef0f5a639df25496534", func := "instar/instarlaw43.WearCounts", spec := "wearCounts", apart := false }
def WearCountsSaid : Prop := wearCountsRow.holds Try.pinned (OpenSpec.ofChange wearCountsSpec)

/-- ITS FALSE NEIGHBOUR: 'it returns false'. Refute it at one input. -/
def wearCountsWrong : ChangeSpec := { name := "wearCounts", fn := fun _ => fun
  | [d1, d2] => { results := [.lit (.bool false)], args := [d1, d2] }
  | _ => none }
def WearCountsWrongFalsely : Prop := wearCountsRow.holds Try.pinned (OpenSpec.ofChange wearCountsWrong)

/-- 'instarlaw28.StoreMap': WHATEVER THE INPUT: true; the input reads as it did. -/
def storeMapSpec : ChangeSpec := { name := "storeMap", fn := fun _ => fun
  | [d1, d2, d3] => { results := [.lit (.bool true)], args := [d1, d2, d3] }
  | _ => none }
def storeMapRow : OpenClaim := { program := "ytmlbioapefgioaa", sum := "102136c6b01ae751f9bf390f93f4efa1958250956ee67ef0f5a639df25496534", func := "instar/instarlaw28.StoreMap", spec := "storeMap", unfollowed := true, recurses := true, apart := false }
def StoreMapSaid : Prop := storeMapRow.holds Try.pinned (OpenSpec.ofChange storeMapSpec)

/-- ITS FALSE NEIGHBOUR: 'it returns false'. Refute it at one input. -/
def storeMapWrong : ChangeSpec := { name := "storeMap", fn := fun _ => fun
  | [d1, d2, d3] => { results := [.lit (.bool false)], args := [d1, d2, d3] }
  | _ => none }
def StoreMapWrongFalsely : Prop := storeMapRow.holds Try.pinned (OpenSpec.ofChange storeMapWrong)

/-- 'instarlaw28.StorePlays': WHATEVER THE INPUT: true; the input reads as it did. -/
def storePlaysSpec : ChangeSpec := { name := "storePlays", fn := fun _ => fun
  | [d1, d2] => { results := [.lit (.bool true)], args := [d1, d2] }
  | _ => none }
def storePlaysRow : OpenClaim := { program := "ytmlbioapefgioaa", sum := "102136c6b01ae751f9bf390f93f4efa1958250956ee67ef0f5a639df25496534", func := "instar/instarlaw28.StorePlays", spec := "storePlays", unfollowed := true, recurses := true, apart := false }
def StorePlaysSaid : Prop := storePlaysRow.holds Try.pinned (OpenSpec.ofChange storePlaysSpec)

/-- ITS FALSE NEIGHBOUR: 'it returns false'. Refute it at one input. -/
def storePlaysWrong : ChangeSpec := { name := "storePlays", fn := fun _ => fun
  | [d1, d2] => { results := [.lit (.bool false)], args := [d1, d2] }
  | _ => none }
def StorePlaysWrongFalsely : Prop := storePlaysRow.holds Try.pinned (OpenSpec.ofChange storePlaysWrong)

/-- 'instarlaw28.StoreReads': WHATEVER THE INPUT: true; the input reads as it did. -/
def storeReadsSpec : ChangeSpec := { name := "storeReads", fn := fun _ => fun
  | [d1, d2, d3] => { results := [.lit (.bool true)], args := [d1, d2, d3] }
  | _ => none }
def storeReadsRow : OpenClaim := { program := "ytmlbioapefgioaa", sum := "102136c6b01ae751f9bf390f93f4efa1958250956ee67ef0f5a639df25496534", func := "instar/instarlaw28.StoreReads", spec := "storeReads", unfollowed := true, recurses := true, apart := false }
def StoreReadsSaid : Prop := storeReadsRow.holds Try.pinned (OpenSpec.ofChange storeReadsSpec)

/-- ITS FALSE NEIGHBOUR: 'it returns false'. Refute it at one input. -/
def storeReadsWrong : ChangeSpec := { name := "storeReads", fn := fun _ => fun
  | [d1, d2, d3] => { results := [.lit (.bool false)], args := [d1, d2, d3] }
  | _ => none }
def StoreReadsWrongFalsely : Prop := storeReadsRow.holds Try.pinned (OpenSpec.ofChange storeReadsWrong)

/- THE SECOND FORM. 'bulk': how many values and letters a reading holds, each counted each time it is reached (what is shared counts as often as it is met; a slice's spare places count too). A statement '..UptoSaid' is the law's where the arguments, and the package variables that the reading takes, are together of bulk at most 1048576: NARROWER than '..Said'. Prove '..Said' where nothing that the law and all that it calls make is longer than what came in: it says more and counts as full. Else prove '..UptoSaid'. A law counts once. -/
mutual
def uptoBulk {H : Type} : DataW H → Nat
  | .lit (.string bytes) => bytes.length + 1
  | .lit _ => 1
  | .nil => 1
  | .ptr d => uptoBulk d + 1
  | .slice elems spare => uptoBulkAll elems + uptoBulkAll spare + 1
  | .agg parts => uptoBulkAll parts + 1
  | .iface _ d => uptoBulk d + 1
  | .map entries => uptoBulkEntries entries + 1
  | .held _ => 1
def uptoBulkAll {H : Type} : List (DataW H) → Nat
  | [] => 0
  | d :: r => uptoBulk d + uptoBulkAll r
def uptoBulkEntries {H : Type} : List (Lit × DataW H) → Nat
  | [] => 0
  | x :: r => uptoBulkEntry x + uptoBulkEntries r
def uptoBulkEntry {H : Type} : Lit × DataW H → Nat
  | (.string bytes, d) => bytes.length + uptoBulk d + 1
  | (_, d) => uptoBulk d + 1
 end
def uptoSmall : (H : Type) → List (DataW H) → Bool := fun _ ds => decide (uptoBulkAll ds ≤ 1048576)
def OpenSpec.upto (s : _root_.Go.ChangeSpec) : _root_.Go.OpenSpec := { _root_.Go.OpenSpec.ofChange s with cond := some uptoSmall }

/-- 'instarlaw24.PackGreedy', WHERE WHAT IT READS IS OF BULK AT MOST 1048576: true; the input reads as it did. -/
def packGreedyUptoRow : OpenClaim := { program := "ytmlbioapefgioaa", sum := "102136c6b01ae751f9bf390f93f4efa1958250956ee67ef0f5a639df25496534", func := "instar/instarlaw24.PackGreedy", spec := "packGreedy", unfollowed := true, recurses := true, apart := false, narrowed := true }
def PackGreedyUptoSaid : Prop := packGreedyUptoRow.holds Try.pinned (OpenSpec.upto packGreedySpec)

/-- 'instarlaw24.PackPlays', WHERE WHAT IT READS IS OF BULK AT MOST 1048576: true; the input reads as it did. -/
def packPlaysUptoRow : OpenClaim := { program := "ytmlbioapefgioaa", sum := "102136c6b01ae751f9bf390f93f4efa1958250956ee67ef0f5a639df25496534", func := "instar/instarlaw24.PackPlays", spec := "packPlays", unfollowed := true, recurses := true, apart := false, narrowed := true }
def PackPlaysUptoSaid : Prop := packPlaysUptoRow.holds Try.pinned (OpenSpec.upto packPlaysSpec)

/-- 'instarlaw24.PackLists', WHERE WHAT IT READS IS OF BULK AT MOST 1048576: true; the input reads as it did. -/
def packListsUptoRow : OpenClaim := { program := "ytmlbioapefgioaa", sum := "102136c6b01ae751f9bf390f93f4efa1958250956ee67ef0f5a639df25496534", func := "instar/instarlaw24.PackLists", spec := "packLists", unfollowed := true, recurses := true, apart := false, narrowed := true }
def PackListsUptoSaid : Prop := packListsUptoRow.holds Try.pinned (OpenSpec.upto packListsSpec)

/-- 'instarlaw43.WearOf', WHERE WHAT IT READS IS OF BULK AT MOST 1048576: true; the input reads as it did. -/
def wearOfUptoRow : OpenClaim := { program := "ytmlbioapefgioaa", sum := "102136c6b01ae751f9bf390f93f4efa1958250956ee67ef0f5a639df25496534", func := "instar/instarlaw43.WearOf", spec := "wearOf", apart := false, narrowed := true }
def WearOfUptoSaid : Prop := wearOfUptoRow.holds Try.pinned (OpenSpec.upto wearOfSpec)

/-- 'instarlaw43.WearCounts', WHERE WHAT IT READS IS OF BULK AT MOST 1048576: true; the input reads as it did. -/
def wearCountsUptoRow : OpenClaim := { program := "ytmlbioapefgioaa", sum := "102136c6b01ae751f9bf390f93f4efa1958250956ee67ef0f5a639df25496534", func := "instar/instarlaw43.WearCounts", spec := "wearCounts", apart := false, narrowed := true }
def WearCountsUptoSaid : Prop := wearCountsUptoRow.holds Try.pinned (OpenSpec.upto wearCountsSpec)

/-- 'instarlaw28.StoreMap', WHERE WHAT IT READS IS OF BULK AT MOST 1048576: true; the input reads as it did. -/
def storeMapUptoRow : OpenClaim := { program := "ytmlbioapefgioaa", sum := "102136c6b01ae751f9bf390f93f4efa1958250956ee67ef0f5a639df25496534", func := "instar/instarlaw28.StoreMap", spec := "storeMap", unfollowed := true, recurses := true, apart := false, narrowed := true }
def StoreMapUptoSaid : Prop := storeMapUptoRow.holds Try.pinned (OpenSpec.upto storeMapSpec)

/-- 'instarlaw28.StorePlays', WHERE WHAT IT READS IS OF BULK AT MOST 1048576: true; the input reads as it did. -/
def storePlaysUptoRow : OpenClaim := { program := "ytmlbioapefgioaa", sum := "102136c6b01ae751f9bf390f93f4efa1958250956ee67ef0f5a639df25496534", func := "instar/instarlaw28.StorePlays", spec := "storePlays", unfollowed := true, recurses := true, apart := false, narrowed := true }
def StorePlaysUptoSaid : Prop := storePlaysUptoRow.holds Try.pinned (OpenSpec.upto storePlaysSpec)

/-- 'instarlaw28.StoreReads', WHERE WHAT IT READS IS OF BULK AT MOST 1048576: true; the input reads as it did. -/
def storeReadsUptoRow : OpenClaim := { program := "ytmlbioapefgioaa", sum := "102136c6b01ae751f9bf390f93f4efa1958250956ee67ef0f5a639df25496534", func := "instar/instarlaw28.StoreReads", spec := "storeReads", unfollowed := true, recurses := true, apart := false, narrowed := true }
def StoreReadsUptoSaid : Prop := storeReadsUptoRow.holds Try.pinned (OpenSpec.upto storeReadsSpec)

end Rows
end Go.Proofs.Ytmlbioapefgioaa
