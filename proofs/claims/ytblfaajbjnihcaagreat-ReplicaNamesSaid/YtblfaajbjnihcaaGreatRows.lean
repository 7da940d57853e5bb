/-
  No cell of these rows narrows 'for every input' (looked for: loops, veiled, ifaces, maps, wideKeys, modest, calm, conditions, laid).
  DERIVED. THE GIVEN ROWS OF THIS SEAT. 8 by the template 'for every input the law returns true; each argument reads behind the call as it read before'; 0 by the template 'total and deterministic' (their statements: YtblfaajbjnihcaaGreatTotals.lean).
  GIVEN WITH THE SEED: the statements are not yours to turn. If you find one false, say at which input.
  Laid BY PROGRAM, IN A SANDBOX (cutbox-rows.mjs): the forced cells as the released guide's own fill.sh prints them over the translation 4775e9346ee81023… (all of the seat's roots in one cut). By AI agents, Wed Nov 11 2026. No macro, syntax, notation, axiom, sorry.
-/
import Derived.Test.YtblfaajbjnihcaaGreatChecked
import GoSem.Claim
import GoSem.ClaimJoined
import GoSem.ClaimMapViews
import Derived.JoinedTies
import Derived.KernelRfl
namespace Go.Proofs.YtblfaajbjnihcaaGreat
/- THE CELL 'sum', in the pinned program and in every row, IS THE sha256 OF THE DUMP (.gsa) THAT YtblfaajbjnihcaaGreatProg.lean LOADS. Nothing in Lean hashes anything: it is a label: what it is worth is what the hold of that sum in a sandbox is worth. -/
noncomputable def Tryz.pinned : Pinned := { name := "ytblfaajbjnihcaagreat", sum := "4775e9346ee81023e617d78b5686122e5df79a95b6344c5ad30a30b7236439f6", checked := Tryz.checked }
namespace Rows
def none {H : Type} : Left H := { results := [], args := [] }

/-- 'pleachlaw22.ReplicaNames': WHATEVER THE INPUT: true; the input reads as it did. -/
def replicaNamesSpec : ChangeSpec := { name := "replicaNames", fn := fun _ => fun
  | [] => { results := [.lit (.bool true)], args := [] }
  | _ => none }
def replicaNamesRow : OpenClaim := { program := "ytblfaajbjnihcaagreat", sum := "4775e9346ee81023e617d78b5686122e5df79a95b6344c5ad30a30b7236439f6", func := "pleach/pleachlaw22.ReplicaNames", spec := "replicaNames", inPlace := ["internal/bytealg.Compare"], unfollowed := true, recurses := true, plainKeys := false, apart := false }
def ReplicaNamesSaid : Prop := replicaNamesRow.holds Tryz.pinned (OpenSpec.ofChange replicaNamesSpec)

/-- ITS FALSE NEIGHBOUR: 'it returns false'. Refute it at one input. -/
def replicaNamesWrong : ChangeSpec := { name := "replicaNames", fn := fun _ => fun
  | [] => { results := [.lit (.bool false)], args := [] }
  | _ => none }
def ReplicaNamesWrongFalsely : Prop := replicaNamesRow.holds Tryz.pinned (OpenSpec.ofChange replicaNamesWrong)

/-- 'pleachlaw18.StateBack': WHATEVER THE INPUT: true; the input reads as it did. -/
def stateBackSpec : ChangeSpec := { name := "stateBack", fn := fun _ => fun
  | [d1, d2] => { results := [.lit (.bool true)], args := [d1, d2] }
  | _ => none }
def stateBackRow : OpenClaim := { program := "ytblfaajbjnihcaagreat", sum := "4775e9346ee81023e617d78b5686122e5df79a95b6344c5ad30a30b7236439f6", func := "pleach/pleachlaw18.StateBack", spec := "stateBack", inPlace := ["internal/bytealg.Compare"], unfollowed := true, recurses := true, plainKeys := false, apart := false }
def StateBackSaid : Prop := stateBackRow.holds Tryz.pinned (OpenSpec.ofChange stateBackSpec)

/-- ITS FALSE NEIGHBOUR: 'it returns false'. Refute it at one input. -/
def stateBackWrong : ChangeSpec := { name := "stateBack", fn := fun _ => fun
  | [d1, d2] => { results := [.lit (.bool false)], args := [d1, d2] }
  | _ => none }
def StateBackWrongFalsely : Prop := stateBackRow.holds Tryz.pinned (OpenSpec.ofChange stateBackWrong)

/-- 'pleachlaw18.StateShows': WHATEVER THE INPUT: true; the input reads as it did. -/
def stateShowsSpec : ChangeSpec := { name := "stateShows", fn := fun _ => fun
  | [d1, d2] => { results := [.lit (.bool true)], args := [d1, d2] }
  | _ => none }
def stateShowsRow : OpenClaim := { program := "ytblfaajbjnihcaagreat", sum := "4775e9346ee81023e617d78b5686122e5df79a95b6344c5ad30a30b7236439f6", func := "pleach/pleachlaw18.StateShows", spec := "stateShows", inPlace := ["internal/bytealg.Compare"], unfollowed := true, recurses := true, plainKeys := false, apart := false }
def StateShowsSaid : Prop := stateShowsRow.holds Tryz.pinned (OpenSpec.ofChange stateShowsSpec)

/-- ITS FALSE NEIGHBOUR: 'it returns false'. Refute it at one input. -/
def stateShowsWrong : ChangeSpec := { name := "stateShows", fn := fun _ => fun
  | [d1, d2] => { results := [.lit (.bool false)], args := [d1, d2] }
  | _ => none }
def StateShowsWrongFalsely : Prop := stateShowsRow.holds Tryz.pinned (OpenSpec.ofChange stateShowsWrong)

/-- 'pleachlaw24.LiveFull': WHATEVER THE INPUT: true; the input reads as it did. -/
def liveFullSpec : ChangeSpec := { name := "liveFull", fn := fun _ => fun
  | [d1, d2] => { results := [.lit (.bool true)], args := [d1, d2] }
  | _ => none }
def liveFullRow : OpenClaim := { program := "ytblfaajbjnihcaagreat", sum := "4775e9346ee81023e617d78b5686122e5df79a95b6344c5ad30a30b7236439f6", func := "pleach/pleachlaw24.LiveFull", spec := "liveFull", inPlace := ["internal/bytealg.Compare"], unfollowed := true, recurses := true, plainKeys := false, apart := false }
def LiveFullSaid : Prop := liveFullRow.holds Tryz.pinned (OpenSpec.ofChange liveFullSpec)

/-- ITS FALSE NEIGHBOUR: 'it returns false'. Refute it at one input. -/
def liveFullWrong : ChangeSpec := { name := "liveFull", fn := fun _ => fun
  | [d1, d2] => { results := [.lit (.bool false)], args := [d1, d2] }
  | _ => none }
def LiveFullWrongFalsely : Prop := liveFullRow.holds Tryz.pinned (OpenSpec.ofChange liveFullWrong)

/-- 'pleachlaw24.LiveKeeps': WHATEVER THE INPUT: true; the input reads as it did. -/
def liveKeepsSpec : ChangeSpec := { name := "liveKeeps", fn := fun _ => fun
  | [d1, d2, d3] => { results := [.lit (.bool true)], args := [d1, d2, d3] }
  | _ => none }
def liveKeepsRow : OpenClaim := { program := "ytblfaajbjnihcaagreat", sum := "4775e9346ee81023e617d78b5686122e5df79a95b6344c5ad30a30b7236439f6", func := "pleach/pleachlaw24.LiveKeeps", spec := "liveKeeps", inPlace := ["internal/bytealg.Compare", "maps.clone"], unfollowed := true, recurses := true, plainKeys := false, apart := false }
def LiveKeepsSaid : Prop := liveKeepsRow.holds Tryz.pinned (OpenSpec.ofChange liveKeepsSpec)

/-- ITS FALSE NEIGHBOUR: 'it returns false'. Refute it at one input. -/
def liveKeepsWrong : ChangeSpec := { name := "liveKeeps", fn := fun _ => fun
  | [d1, d2, d3] => { results := [.lit (.bool false)], args := [d1, d2, d3] }
  | _ => none }
def LiveKeepsWrongFalsely : Prop := liveKeepsRow.holds Tryz.pinned (OpenSpec.ofChange liveKeepsWrong)

/-- 'pleachlaw24.LiveShows': WHATEVER THE INPUT: true; the input reads as it did. -/
def liveShowsSpec : ChangeSpec := { name := "liveShows", fn := fun _ => fun
  | [d] => { results := [.lit (.bool true)], args := [d] }
  | _ => none }
def liveShowsRow : OpenClaim := { program := "ytblfaajbjnihcaagreat", sum := "4775e9346ee81023e617d78b5686122e5df79a95b6344c5ad30a30b7236439f6", func := "pleach/pleachlaw24.LiveShows", spec := "liveShows", inPlace := ["internal/bytealg.Compare", "maps.clone"], unfollowed := true, recurses := true, plainKeys := false, apart := false }
def LiveShowsSaid : Prop := liveShowsRow.holds Tryz.pinned (OpenSpec.ofChange liveShowsSpec)

/-- ITS FALSE NEIGHBOUR: 'it returns false'. Refute it at one input. -/
def liveShowsWrong : ChangeSpec := { name := "liveShows", fn := fun _ => fun
  | [d] => { results := [.lit (.bool false)], args := [d] }
  | _ => none }
def LiveShowsWrongFalsely : Prop := liveShowsRow.holds Tryz.pinned (OpenSpec.ofChange liveShowsWrong)

/-- 'pleachlaw18.StateChanges': WHATEVER THE INPUT: true; the input reads as it did. -/
def stateChangesSpec : ChangeSpec := { name := "stateChanges", fn := fun _ => fun
  | [d1, d2] => { results := [.lit (.bool true)], args := [d1, d2] }
  | _ => none }
def stateChangesRow : OpenClaim := { program := "ytblfaajbjnihcaagreat", sum := "4775e9346ee81023e617d78b5686122e5df79a95b6344c5ad30a30b7236439f6", func := "pleach/pleachlaw18.StateChanges", spec := "stateChanges", inPlace := ["internal/bytealg.Compare"], unfollowed := true, recurses := true, plainKeys := false, apart := false }
def StateChangesSaid : Prop := stateChangesRow.holds Tryz.pinned (OpenSpec.ofChange stateChangesSpec)

/-- ITS FALSE NEIGHBOUR: 'it returns false'. Refute it at one input. -/
def stateChangesWrong : ChangeSpec := { name := "stateChanges", fn := fun _ => fun
  | [d1, d2] => { results := [.lit (.bool false)], args := [d1, d2] }
  | _ => none }
def StateChangesWrongFalsely : Prop := stateChangesRow.holds Tryz.pinned (OpenSpec.ofChange stateChangesWrong)

/-- 'pleachlaw24.LiveMeets': WHATEVER THE INPUT: true; the input reads as it did. -/
def liveMeetsSpec : ChangeSpec := { name := "liveMeets", fn := fun _ => fun
  | [d1, d2] => { results := [.lit (.bool true)], args := [d1, d2] }
  | _ => none }
def liveMeetsRow : OpenClaim := { program := "ytblfaajbjnihcaagreat", sum := "4775e9346ee81023e617d78b5686122e5df79a95b6344c5ad30a30b7236439f6", func := "pleach/pleachlaw24.LiveMeets", spec := "liveMeets", inPlace := ["internal/bytealg.Compare"], unfollowed := true, recurses := true, plainKeys := false, apart := false }
def LiveMeetsSaid : Prop := liveMeetsRow.holds Tryz.pinned (OpenSpec.ofChange liveMeetsSpec)

/-- ITS FALSE NEIGHBOUR: 'it returns false'. Refute it at one input. -/
def liveMeetsWrong : ChangeSpec := { name := "liveMeets", fn := fun _ => fun
  | [d1, d2] => { results := [.lit (.bool false)], args := [d1, d2] }
  | _ => none }
def LiveMeetsWrongFalsely : Prop := liveMeetsRow.holds Tryz.pinned (OpenSpec.ofChange liveMeetsWrong)

/- THE SECOND FORM. 'bulk': how many values and letters a reading holds, each counted each time it is reached (what is shared counts as often as it is met; a slice's spare places count too). A statement '..UptoSaid' is the law's where the arguments, and the package variables that the reading takes, are together of bulk at most 1048576: NARROWER than '..Said'. Prove '..Said' where nothing that the law and all that it calls make is longer than what came in: it says more and counts as full. Else prove '..UptoSaid'. A law counts once. -/
mutual
def uptoBulk {H : Type} : DataW H → Nat
  | .lit (.string bytes) => bytes.length + 1
  | .lit _ => 1
  | .nil => 1
  | .ptr d => uptoBulk d + 1
  | .slice elems spare => uptoBulkAll elems + uptoBulkAll spare + 1
  | .agg parts => uptoBulkAll parts + 1
  | .iface _ d => uptoBulk d + 1
  | .map entries => uptoBulkEntries entries + 1
  | .held _ => 1
def uptoBulkAll {H : Type} : List (DataW H) → Nat
  | [] => 0
  | d :: r => uptoBulk d + uptoBulkAll r
def uptoBulkEntries {H : Type} : List (Lit × DataW H) → Nat
  | [] => 0
  | x :: r => uptoBulkEntry x + uptoBulkEntries r
def uptoBulkEntry {H : Type} : Lit × DataW H → Nat
  | (.string bytes, d) => bytes.length + uptoBulk d + 1
  | (_, d) => uptoBulk d + 1
 end
def uptoSmall : (H : Type) → List (DataW H) → Bool := fun _ ds => decide (uptoBulkAll ds ≤ 1048576)
def OpenSpec.upto (s : _root_.Go.ChangeSpec) : _root_.Go.OpenSpec := { _root_.Go.OpenSpec.ofChange s with cond := some uptoSmall }

/-- 'pleachlaw22.ReplicaNames', WHERE WHAT IT READS IS OF BULK AT MOST 1048576: true; the input reads as it did. -/
def replicaNamesUptoRow : OpenClaim := { program := "ytblfaajbjnihcaagreat", sum := "4775e9346ee81023e617d78b5686122e5df79a95b6344c5ad30a30b7236439f6", func := "pleach/pleachlaw22.ReplicaNames", spec := "replicaNames", inPlace := ["internal/bytealg.Compare"], unfollowed := true, recurses := true, plainKeys := false, apart := false, narrowed := true }
def ReplicaNamesUptoSaid : Prop := replicaNamesUptoRow.holds Tryz.pinned (OpenSpec.upto replicaNamesSpec)

/-- 'pleachlaw18.StateBack', WHERE WHAT IT READS IS OF BULK AT MOST 1048576: true; the input reads as it did. -/
def stateBackUptoRow : OpenClaim := { program := "ytblfaajbjnihcaagreat", sum := "4775e9346ee81023e617d78b5686122e5df79a95b6344c5ad30a30b7236439f6", func := "pleach/pleachlaw18.StateBack", spec := "stateBack", inPlace := ["internal/bytealg.Compare"], unfollowed := true, recurses := true, plainKeys := false, apart := false, narrowed := true }
def StateBackUptoSaid : Prop := stateBackUptoRow.holds Tryz.pinned (OpenSpec.upto stateBackSpec)

/-- 'pleachlaw18.StateShows', WHERE WHAT IT READS IS OF BULK AT MOST 1048576: true; the input reads as it did. -/
def stateShowsUptoRow : OpenClaim := { program := "ytblfaajbjnihcaagreat", sum := "4775e9346ee81023e617d78b5686122e5df79a95b6344c5ad30a30b7236439f6", func := "pleach/pleachlaw18.StateShows", spec := "stateShows", inPlace := ["internal/bytealg.Compare"], unfollowed := true, recurses := true, plainKeys := false, apart := false, narrowed := true }
def StateShowsUptoSaid : Prop := stateShowsUptoRow.holds Tryz.pinned (OpenSpec.upto stateShowsSpec)

/-- 'pleachlaw24.LiveFull', WHERE WHAT IT READS IS OF BULK AT MOST 1048576: true; the input reads as it did. -/
def liveFullUptoRow : OpenClaim := { program := "ytblfaajbjnihcaagreat", sum := "4775e9346ee81023e617d78b5686122e5df79a95b6344c5ad30a30b7236439f6", func := "pleach/pleachlaw24.LiveFull", spec := "liveFull", inPlace := ["internal/bytealg.Compare"], unfollowed := true, recurses := true, plainKeys := false, apart := false, narrowed := true }
def LiveFullUptoSaid : Prop := liveFullUptoRow.holds Tryz.pinned (OpenSpec.upto liveFullSpec)

/-- 'pleachlaw24.LiveKeeps', WHERE WHAT IT READS IS OF BULK AT MOST 1048576: true; the input reads as it did. -/
def liveKeepsUptoRow : OpenClaim := { program := "ytblfaajbjnihcaagreat", sum := "4775e9346ee81023e617d78b5686122e5df79a95b6344c5ad30a30b7236439f6", func := "pleach/pleachlaw24.LiveKeeps", spec := "liveKeeps", inPlace := ["internal/bytealg.Compare", "maps.clone"], unfollowed := true, recurses := true, plainKeys := false, apart := false, narrowed := true }
def LiveKeepsUptoSaid : Prop := liveKeepsUptoRow.holds Tryz.pinned (OpenSpec.upto liveKeepsSpec)

/-- 'pleachlaw24.LiveShows', WHERE WHAT IT READS IS OF BULK AT MOST 1048576: true; the input reads as it did. -/
def liveShowsUptoRow : OpenClaim := { program := "ytblfaajbjnihcaagreat", sum := "4775e9346ee81023e617d78b5686122e5df79a95b6344c5ad30a30b7236439f6", func := "pleach/pleachlaw24.LiveShows", spec := "liveShows", inPlace := ["internal/bytealg.Compare", "maps.clone"], unfollowed := true, recurses := true, plainKeys := false, apart := false, narrowed := true }
def LiveShowsUptoSaid : Prop := liveShowsUptoRow.holds Tryz.pinned (OpenSpec.upto liveShowsSpec)

/-- 'pleachlaw18.StateChanges', WHERE WHAT IT READS IS OF BULK AT MOST 1048576: true; the input reads as it did. -/
def stateChangesUptoRow : OpenClaim := { program := "ytblfaajbjnihcaagreat", sum := "4775e9346ee81023e617d78b5686122e5df79a95b6344c5ad30a30b7236439f6", func := "pleach/pleachlaw18.StateChanges", spec := "stateChanges", inPlace := ["internal/bytealg.Compare"], unfollowed := true, recurses := true, plainKeys := false, apart := false, narrowed := true }
def StateChangesUptoSaid : Prop := stateChangesUptoRow.holds Tryz.pinned (OpenSpec.upto stateChangesSpec)

/-- 'pleachlaw24.LiveMeets', WHERE WHAT IT READS IS OF BULK AT MOST 1048576: true; the input reads as it did. -/
def liveMeetsUptoRow : OpenClaim := { program := "ytblfaajbjnihcaagreat", sum := "4775e9346ee81023e617d78b5686122e5df79a95b6344c5ad30a30b7236439f6", func := "pleach/pleachlaw24.LiveMeets", spec := "liveMeets", inPlace := ["internal/bytealg.Compare"], unfollowed := true, recurses := true, plainKeys := false, apart := false, narrowed := true }
def LiveMeetsUptoSaid : Prop := liveMeetsUptoRow.holds Tryz.pinned (OpenSpec.upto liveMeetsSpec)

end Rows
end Go.Proofs.YtblfaajbjnihcaaGreat
