/-
  No cell of these rows narrows 'for every input' (looked for: loops, veiled, ifaces, maps, wideKeys, modest, calm, conditions, laid).
  DERIVED. THE GIVEN ROWS OF THIS SEAT. 11 by the template 'for every input the law returns true; each argument reads behind the call as it read before'; 0 by the template 'total and deterministic' (their statements: YtodmemndaaiolaaTotals.lean).
  GIVEN WITH THE SEED: the statements are not yours to turn. If you find one false, say at which input.
  Laid BY PROGRAM, IN A SANDBOX (cutbox-rows.mjs): the forced cells as the released guide's own fill.sh prints them over the translation e2657cb54b4571f9… (all of the seat's roots in one cut). By AI agents, Wed Nov 11 2026. No macro, syntax, notation, axiom, sorry.
-/
import Derived.Test.YtodmemndaaiolaaChecked
import GoSem.Claim
import GoSem.ClaimJoined
import GoSem.ClaimMapViews
import Derived.JoinedTies
import Derived.KernelRfl
namespace Go.Proofs.Ytodmemndaaiolaa
/- THE CELL 'sum', in the pinned program and in every row, IS THE sha256 OF THE DUMP (.gsa) THAT YtodmemndaaiolaaProg.lean LOADS. Nothing in Lean hashes anything: it is a label: what it is worth is what the hold of that sum in a sandbox is worth. -/
noncomputable def Try.pinned : Pinned := { name := "ytodmemndaaiolaa", sum := "e2657cb54b4571f992d39980ab68dbf8484db15e50a06b4e68a24532af2128ff", checked := Try.checked }
namespace Rows
def none {H : Type} : Left H := { results := [], args := [] }

/-- 'swarflaw07.ShipSails': WHATEVER THE INPUT: true; the input reads as it did. -/
def shipSailsSpec : ChangeSpec := { name := "shipSails", fn := fun _ => fun
  | [d1, d2, d3] => { results := [.lit (.bool true)], args := [d1, d2, d3] }
  | _ => none }
def shipSailsRow : OpenClaim := { program := "ytodmemndaaiolaa", sum := "e2657cb54b4571f992d39980ab68dbf8484db15e50a06b4e68a24532af2128ff", func := "swarf/swarflaw07.ShipSails", spec := "shipSails", unfollowed := true, recurses := true, apart := false }
def ShipSailsSaid : Prop := shipSailsRow.holds Try.pinned (OpenSpec.ofChange shipSailsSpec)

/-- ITS FALSE NEIGHBOUR: 'it returns false'. Refute it at one input. -/
def shipSailsWrong : ChangeSpec := { name := "shipSails", fn := fun _ => fun
  | [d1, d2, d3] => { results := [.lit (.bool false)], args := [d1, d2, d3] }
  | _ => none }
def ShipSailsWrongFalsely : Prop := shipSailsRow.holds Try.pinned (OpenSpec.ofChange shipSailsWrong)

/-- 'swarflaw07.ShipBests': WHATEVER THE INPUT: true; the input reads as it did. -/
def shipBestsSpec : ChangeSpec := { name := "shipBests", fn := fun _ => fun
  | [d1, d2] => { results := [.lit (.bool true)], args := [d1, d2] }
  | _ => none }
def shipBestsRow : OpenClaim := { program := "ytodmemndaaiolaa", sum := "e2657cb54b4571f992d39980ab68dbf8484db15e50a06b4e68a24532af2128ff", func := "swarf/swarflaw07.ShipBests", spec := "shipBests", unfollowed := true, recurses := true, apart := false }
def ShipBestsSaid : Prop := shipBestsRow.holds Try.pinned (OpenSpec.ofChange shipBestsSpec)

/-- ITS FALSE NEIGHBOUR: 'it returns false'. Refute it at one input. -/
def shipBestsWrong : ChangeSpec := { name := "shipBests", fn := fun _ => fun
  | [d1, d2] => { results := [.lit (.bool false)], args := [d1, d2] }
  | _ => none }
def ShipBestsWrongFalsely : Prop := shipBestsRow.holds Try.pinned (OpenSpec.ofChange shipBestsWrong)

/-- 'swarflaw07.ShipLighter': WHATEVER THE INPUT: true; the input reads as it did. -/
def shipLighterSpec : ChangeSpec := { name := "shipLighter", fn := fun _ => fun
  | [d] => { results := [.lit (.bool true)], args := [d] }
  | _ => none }
def shipLighterRow : OpenClaim := { program := "ytodmemndaaiolaa", sum := "e2657cb54b4571f992d39980ab68dbf8484db15e50a06b4e68a24532af2128ff", func := "swarf/swarflaw07.ShipLighter", spec := "shipLighter", unfollowed := true, recurses := true, apart := false }
def ShipLighterSaid : Prop := shipLighterRow.holds Try.pinned (OpenSpec.ofChange shipLighterSpec)

/-- ITS FALSE NEIGHBOUR: 'it returns false'. Refute it at one input. -/
def shipLighterWrong : ChangeSpec := { name := "shipLighter", fn := fun _ => fun
  | [d] => { results := [.lit (.bool false)], args := [d] }
  | _ => none }
def ShipLighterWrongFalsely : Prop := shipLighterRow.holds Try.pinned (OpenSpec.ofChange shipLighterWrong)

/-- 'swarflaw07.ShipDeeper': WHATEVER THE INPUT: true; the input reads as it did. -/
def shipDeeperSpec : ChangeSpec := { name := "shipDeeper", fn := fun _ => fun
  | [d] => { results := [.lit (.bool true)], args := [d] }
  | _ => none }
def shipDeeperRow : OpenClaim := { program := "ytodmemndaaiolaa", sum := "e2657cb54b4571f992d39980ab68dbf8484db15e50a06b4e68a24532af2128ff", func := "swarf/swarflaw07.ShipDeeper", spec := "shipDeeper", unfollowed := true, recurses := true, apart := false }
def ShipDeeperSaid : Prop := shipDeeperRow.holds Try.pinned (OpenSpec.ofChange shipDeeperSpec)

/-- ITS FALSE NEIGHBOUR: 'it returns false'. Refute it at one input. -/
def shipDeeperWrong : ChangeSpec := { name := "shipDeeper", fn := fun _ => fun
  | [d] => { results := [.lit (.bool false)], args := [d] }
  | _ => none }
def ShipDeeperWrongFalsely : Prop := shipDeeperRow.holds Try.pinned (OpenSpec.ofChange shipDeeperWrong)

/-- 'swarflaw07.ShipDrafts': WHATEVER THE INPUT: true; the input reads as it did. -/
def shipDraftsSpec : ChangeSpec := { name := "shipDrafts", fn := fun _ => fun
  | [d1, d2, d3, d4, d5] => { results := [.lit (.bool true)], args := [d1, d2, d3, d4, d5] }
  | _ => none }
def shipDraftsRow : OpenClaim := { program := "ytodmemndaaiolaa", sum := "e2657cb54b4571f992d39980ab68dbf8484db15e50a06b4e68a24532af2128ff", func := "swarf/swarflaw07.ShipDrafts", spec := "shipDrafts", unfollowed := true, recurses := true, apart := false }
def ShipDraftsSaid : Prop := shipDraftsRow.holds Try.pinned (OpenSpec.ofChange shipDraftsSpec)

/-- ITS FALSE NEIGHBOUR: 'it returns false'. Refute it at one input. -/
def shipDraftsWrong : ChangeSpec := { name := "shipDrafts", fn := fun _ => fun
  | [d1, d2, d3, d4, d5] => { results := [.lit (.bool false)], args := [d1, d2, d3, d4, d5] }
  | _ => none }
def ShipDraftsWrongFalsely : Prop := shipDraftsRow.holds Try.pinned (OpenSpec.ofChange shipDraftsWrong)

/-- 'swarflaw07.ShipTrue': WHATEVER THE INPUT: true; the input reads as it did. -/
def shipTrueSpec : ChangeSpec := { name := "shipTrue", fn := fun _ => fun
  | [d] => { results := [.lit (.bool true)], args := [d] }
  | _ => none }
def shipTrueRow : OpenClaim := { program := "ytodmemndaaiolaa", sum := "e2657cb54b4571f992d39980ab68dbf8484db15e50a06b4e68a24532af2128ff", func := "swarf/swarflaw07.ShipTrue", spec := "shipTrue", unfollowed := true, recurses := true, apart := false }
def ShipTrueSaid : Prop := shipTrueRow.holds Try.pinned (OpenSpec.ofChange shipTrueSpec)

/-- ITS FALSE NEIGHBOUR: 'it returns false'. Refute it at one input. -/
def shipTrueWrong : ChangeSpec := { name := "shipTrue", fn := fun _ => fun
  | [d] => { results := [.lit (.bool false)], args := [d] }
  | _ => none }
def ShipTrueWrongFalsely : Prop := shipTrueRow.holds Try.pinned (OpenSpec.ofChange shipTrueWrong)

/-- 'swarflaw07.ShipAll': WHATEVER THE INPUT: true; the input reads as it did. -/
def shipAllSpec : ChangeSpec := { name := "shipAll", fn := fun _ => fun
  | [d] => { results := [.lit (.bool true)], args := [d] }
  | _ => none }
def shipAllRow : OpenClaim := { program := "ytodmemndaaiolaa", sum := "e2657cb54b4571f992d39980ab68dbf8484db15e50a06b4e68a24532af2128ff", func := "swarf/swarflaw07.ShipAll", spec := "shipAll", unfollowed := true, recurses := true, apart := false }
def ShipAllSaid : Prop := shipAllRow.holds Try.pinned (OpenSpec.ofChange shipAllSpec)

/-- ITS FALSE NEIGHBOUR: 'it returns false'. Refute it at one input. -/
def shipAllWrong : ChangeSpec := { name := "shipAll", fn := fun _ => fun
  | [d] => { results := [.lit (.bool false)], args := [d] }
  | _ => none }
def ShipAllWrongFalsely : Prop := shipAllRow.holds Try.pinned (OpenSpec.ofChange shipAllWrong)

/-- 'swarflaw07.ShipBetter': WHATEVER THE INPUT: true; the input reads as it did. -/
def shipBetterSpec : ChangeSpec := { name := "shipBetter", fn := fun _ => fun
  | [d] => { results := [.lit (.bool true)], args := [d] }
  | _ => none }
def shipBetterRow : OpenClaim := { program := "ytodmemndaaiolaa", sum := "e2657cb54b4571f992d39980ab68dbf8484db15e50a06b4e68a24532af2128ff", func := "swarf/swarflaw07.ShipBetter", spec := "shipBetter", unfollowed := true, recurses := true, apart := false }
def ShipBetterSaid : Prop := shipBetterRow.holds Try.pinned (OpenSpec.ofChange shipBetterSpec)

/-- ITS FALSE NEIGHBOUR: 'it returns false'. Refute it at one input. -/
def shipBetterWrong : ChangeSpec := { name := "shipBetter", fn := fun _ => fun
  | [d] => { results := [.lit (.bool false)], args := [d] }
  | _ => none }
def ShipBetterWrongFalsely : Prop := shipBetterRow.holds Try.pinned (OpenSpec.ofChange shipBetterWrong)

/-- 'swarflaw07.ShipMost': WHATEVER THE INPUT: true; the input reads as it did. -/
def shipMostSpec : ChangeSpec := { name := "shipMost", fn := fun _ => fun
  | [d] => { results := [.lit (.bool true)], args := [d] }
  | _ => none }
def shipMostRow : OpenClaim := { program := "ytodmemndaaiolaa", sum := "e2657cb54b4571f992d39980ab68dbf8484db15e50a06b4e68a24532af2128ff", func := "swarf/swarflaw07.ShipMost", spec := "shipMost", unfollowed := true, recurses := true, apart := false }
def ShipMostSaid : Prop := shipMostRow.holds Try.pinned (OpenSpec.ofChange shipMostSpec)

/-- ITS FALSE NEIGHBOUR: 'it returns false'. Refute it at one input. -/
def shipMostWrong : ChangeSpec := { name := "shipMost", fn := fun _ => fun
  | [d] => { results := [.lit (.bool false)], args := [d] }
  | _ => none }
def ShipMostWrongFalsely : Prop := shipMostRow.holds Try.pinned (OpenSpec.ofChange shipMostWrong)

/-- 'swarflaw07.ShipTurned': WHATEVER THE INPUT: true; the input reads as it did. -/
def shipTurnedSpec : ChangeSpec := { name := "shipTurned", fn := fun _ => fun
  | [d] => { results := [.lit (.bool true)], args := [d] }
  | _ => none }
def shipTurnedRow : OpenClaim := { program := "ytodmemndaaiolaa", sum := "e2657cb54b4571f992d39980ab68dbf8484db15e50a06b4e68a24532af2128ff", func := "swarf/swarflaw07.ShipTurned", spec := "shipTurned", unfollowed := true, recurses := true, apart := false }
def ShipTurnedSaid : Prop := shipTurnedRow.holds Try.pinned (OpenSpec.ofChange shipTurnedSpec)

/-- ITS FALSE NEIGHBOUR: 'it returns false'. Refute it at one input. -/
def shipTurnedWrong : ChangeSpec := { name := "shipTurned", fn := fun _ => fun
  | [d] => { results := [.lit (.bool false)], args := [d] }
  | _ => none }
def ShipTurnedWrongFalsely : Prop := shipTurnedRow.holds Try.pinned (OpenSpec.ofChange shipTurnedWrong)

/-- 'swarflaw07.ShipHold': WHATEVER THE INPUT: true; the input reads as it did. -/
def shipHoldSpec : ChangeSpec := { name := "shipHold", fn := fun _ => fun
  | [d] => { results := [.lit (.bool true)], args := [d] }
  | _ => none }
def shipHoldRow : OpenClaim := { program := "ytodmemndaaiolaa", sum := "e2657cb54b4571f992d39980ab68dbf8484db15e50a06b4e68a24532af2128ff", func := "swarf/swarflaw07.ShipHold", spec := "shipHold", unfollowed := true, recurses := true, apart := false }
def ShipHoldSaid : Prop := shipHoldRow.holds Try.pinned (OpenSpec.ofChange shipHoldSpec)

/-- ITS FALSE NEIGHBOUR: 'it returns false'. Refute it at one input. -/
def shipHoldWrong : ChangeSpec := { name := "shipHold", fn := fun _ => fun
  | [d] => { results := [.lit (.bool false)], args := [d] }
  | _ => none }
def ShipHoldWrongFalsely : Prop := shipHoldRow.holds Try.pinned (OpenSpec.ofChange shipHoldWrong)

/- THE SECOND FORM. 'bulk': how many values and letters a reading holds, each counted each time it is reached (what is shared counts as often as it is met; a slice's spare places count too). A statement '..UptoSaid' is the law's where the arguments, and the package variables that the reading takes, are together of bulk at most 1048576: NARROWER than '..Said'. Prove '..Said' where nothing that the law and all that it calls make is longer than what came in: it says more and counts as full. Else prove '..UptoSaid'. A law counts once. -/
mutual
def uptoBulk {H : Type} : DataW H → Nat
  | .lit (.string bytes) => bytes.length + 1
  | .lit _ => 1
  | .nil => 1
  | .ptr d => uptoBulk d + 1
  | .slice elems spare => uptoBulkAll elems + uptoBulkAll spare + 1
  | .agg parts => uptoBulkAll parts + 1
  | .iface _ d => uptoBulk d + 1
  | .map entries => uptoBulkEntries entries + 1
  | .held _ => 1
def uptoBulkAll {H : Type} : List (DataW H) → Nat
  | [] => 0
  | d :: r => uptoBulk d + uptoBulkAll r
def uptoBulkEntries {H : Type} : List (Lit × DataW H) → Nat
  | [] => 0
  | x :: r => uptoBulkEntry x + uptoBulkEntries r
def uptoBulkEntry {H : Type} : Lit × DataW H → Nat
  | (.string bytes, d) => bytes.length + uptoBulk d + 1
  | (_, d) => uptoBulk d + 1
 end
def uptoSmall : (H : Type) → List (DataW H) → Bool := fun _ ds => decide (uptoBulkAll ds ≤ 1048576)
def OpenSpec.upto (s : _root_.Go.ChangeSpec) : _root_.Go.OpenSpec := { _root_.Go.OpenSpec.ofChange s with cond := some uptoSmall }

/-- 'swarflaw07.ShipSails', WHERE WHAT IT READS IS OF BULK AT MOST 1048576: true; the input reads as it did. -/
def shipSailsUptoRow : OpenClaim := { program := "ytodmemndaaiolaa", sum := "e2657cb54b4571f992d39980ab68dbf8484db15e50a06b4e68a24532af2128ff", func := "swarf/swarflaw07.ShipSails", spec := "shipSails", unfollowed := true, recurses := true, apart := false, narrowed := true }
def ShipSailsUptoSaid : Prop := shipSailsUptoRow.holds Try.pinned (OpenSpec.upto shipSailsSpec)

/-- 'swarflaw07.ShipBests', WHERE WHAT IT READS IS OF BULK AT MOST 1048576: true; the input reads as it did. -/
def shipBestsUptoRow : OpenClaim := { program := "ytodmemndaaiolaa", sum := "e2657cb54b4571f992d39980ab68dbf8484db15e50a06b4e68a24532af2128ff", func := "swarf/swarflaw07.ShipBests", spec := "shipBests", unfollowed := true, recurses := true, apart := false, narrowed := true }
def ShipBestsUptoSaid : Prop := shipBestsUptoRow.holds Try.pinned (OpenSpec.upto shipBestsSpec)

/-- 'swarflaw07.ShipLighter', WHERE WHAT IT READS IS OF BULK AT MOST 1048576: true; the input reads as it did. -/
def shipLighterUptoRow : OpenClaim := { program := "ytodmemndaaiolaa", sum := "e2657cb54b4571f992d39980ab68dbf8484db15e50a06b4e68a24532af2128ff", func := "swarf/swarflaw07.ShipLighter", spec := "shipLighter", unfollowed := true, recurses := true, apart := false, narrowed := true }
def ShipLighterUptoSaid : Prop := shipLighterUptoRow.holds Try.pinned (OpenSpec.upto shipLighterSpec)

/-- 'swarflaw07.ShipDeeper', WHERE WHAT IT READS IS OF BULK AT MOST 1048576: true; the input reads as it did. -/
def shipDeeperUptoRow : OpenClaim := { program := "ytodmemndaaiolaa", sum := "e2657cb54b4571f992d39980ab68dbf8484db15e50a06b4e68a24532af2128ff", func := "swarf/swarflaw07.ShipDeeper", spec := "shipDeeper", unfollowed := true, recurses := true, apart := false, narrowed := true }
def ShipDeeperUptoSaid : Prop := shipDeeperUptoRow.holds Try.pinned (OpenSpec.upto shipDeeperSpec)

/-- 'swarflaw07.ShipDrafts', WHERE WHAT IT READS IS OF BULK AT MOST 1048576: true; the input reads as it did. -/
def shipDraftsUptoRow : OpenClaim := { program := "ytodmemndaaiolaa", sum := "e2657cb54b4571f992d39980ab68dbf8484db15e50a06b4e68a24532af2128ff", func := "swarf/swarflaw07.ShipDrafts", spec := "shipDrafts", unfollowed := true, recurses := true, apart := false, narrowed := true }
def ShipDraftsUptoSaid : Prop := shipDraftsUptoRow.holds Try.pinned (OpenSpec.upto shipDraftsSpec)

/-- 'swarflaw07.ShipTrue', WHERE WHAT IT READS IS OF BULK AT MOST 1048576: true; the input reads as it did. -/
def shipTrueUptoRow : OpenClaim := { program := "ytodmemndaaiolaa", sum := "e2657cb54b4571f992d39980ab68dbf8484db15e50a06b4e68a24532af2128ff", func := "swarf/swarflaw07.ShipTrue", spec := "shipTrue", unfollowed := true, recurses := true, apart := false, narrowed := true }
def ShipTrueUptoSaid : Prop := shipTrueUptoRow.holds Try.pinned (OpenSpec.upto shipTrueSpec)

/-- 'swarflaw07.ShipAll', WHERE WHAT IT READS IS OF BULK AT MOST 1048576: true; the input reads as it did. -/
def shipAllUptoRow : OpenClaim := { program := "ytodmemndaaiolaa", sum := "e2657cb54b4571f992d39980ab68dbf8484db15e50a06b4e68a24532af2128ff", func := "swarf/swarflaw07.ShipAll", spec := "shipAll", unfollowed := true, recurses := true, apart := false, narrowed := true }
def ShipAllUptoSaid : Prop := shipAllUptoRow.holds Try.pinned (OpenSpec.upto shipAllSpec)

/-- 'swarflaw07.ShipBetter', WHERE WHAT IT READS IS OF BULK AT MOST 1048576: true; the input reads as it did. -/
def shipBetterUptoRow : OpenClaim := { program := "ytodmemndaaiolaa", sum := "e2657cb54b4571f992d39980ab68dbf8484db15e50a06b4e68a24532af2128ff", func := "swarf/swarflaw07.ShipBetter", spec := "shipBetter", unfollowed := true, recurses := true, apart := false, narrowed := true }
def ShipBetterUptoSaid : Prop := shipBetterUptoRow.holds Try.pinned (OpenSpec.upto shipBetterSpec)

/-- 'swarflaw07.ShipMost', WHERE WHAT IT READS IS OF BULK AT MOST 1048576: true; the input reads as it did. -/
def shipMostUptoRow : OpenClaim := { program := "ytodmemndaaiolaa", sum := "e2657cb54b4571f992d39980ab68dbf8484db15e50a06b4e68a24532af2128ff", func := "swarf/swarflaw07.ShipMost", spec := "shipMost", unfollowed := true, recurses := true, apart := false, narrowed := true }
def ShipMostUptoSaid : Prop := shipMostUptoRow.holds Try.pinned (OpenSpec.upto shipMostSpec)

/-- 'swarflaw07.ShipTurned', WHERE WHAT IT READS IS OF BULK AT MOST 1048576: true; the input reads as it did. -/
def shipTurnedUptoRow : OpenClaim := { program := "ytodmemndaaiolaa", sum := "e2657cb54b4571f992d39980ab68dbf8484db15e50a06b4e68a24532af2128ff", func := "swarf/swarflaw07.ShipTurned", spec := "shipTurned", unfollowed := true, recurses := true, apart := false, narrowed := true }
def ShipTurnedUptoSaid : Prop := shipTurnedUptoRow.holds Try.pinned (OpenSpec.upto shipTurnedSpec)

/-- 'swarflaw07.ShipHold', WHERE WHAT IT READS IS OF BULK AT MOST 1048576: true; the input reads as it did. -/
def shipHoldUptoRow : OpenClaim := { program := "ytodmemndaaiolaa", sum := "e2657cb54b4571f992d39980ab68dbf8484db15e50a06b4e68a24532af2128ff", func := "swarf/swarflaw07.ShipHold", spec := "shipHold", unfollowed := true, recurses := true, apart := false, narrowed := true }
def ShipHoldUptoSaid : Prop := shipHoldUptoRow.holds Try.pinned (OpenSpec.upto shipHoldSpec)

end Rows
end Go.Proofs.Ytodmemndaaiolaa
