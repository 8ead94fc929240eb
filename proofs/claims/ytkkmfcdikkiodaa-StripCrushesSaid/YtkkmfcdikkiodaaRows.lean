/-
  No cell of these rows narrows 'for every input' (looked for: loops, veiled, ifaces, maps, wideKeys, modest, calm, conditions, laid).
  DERIVED. THE GIVEN ROWS OF THIS SEAT. 11 by the template 'for every input the law returns true; each argument reads behind the call as it read before'; 0 by the template 'total and deterministic' (their statements: YtkkmfcdikkiodaaTotals.lean).
  GIVEN WITH THE SEED: the statements are not yours to turn. If you find one false, say at which input.
  Laid BY PROGRAM, IN A SANDBOX (cutbox-rows.mjs): the forced cells as the released guide's own fill.sh prints them over the translation 8d04b9928fd49b61… (all of the seat's roots in one cut). By AI agents, Wed Nov 11 2026. No macro, syntax, notation, axiom, sorry.
-/
import Derived.Test.YtkkmfcdikkiodaaChecked
import GoSem.Claim
import GoSem.ClaimJoined
import GoSem.ClaimMapViews
import Derived.JoinedTies
import Derived.KernelRfl
namespace Go.Proofs.Ytkkmfcdikkiodaa
/- THE CELL 'sum', in the pinned program and in every row, IS THE sha256 OF THE DUMP (.gsa) THAT YtkkmfcdikkiodaaProg.lean LOADS. Nothing in Lean hashes anything: it is a label: what it is worth is what the hold of that sum in a sandbox is worth. -/
noncomputable def Try.pinned : Pinned := { name := "ytkkmfcdikkiodaa", sum := "8d04b9928fd49b617c77c7842a5366bfbc24c4919680d9fe3320f92f2a3c57ff", checked := Try.checked }
namespace Rows
def none {H : Type} : Left H := { results := [], args := [] }

/-- 'swarflaw04.StripWorks': WHATEVER THE INPUT: true; the input reads as it did. -/
def stripWorksSpec : ChangeSpec := { name := "stripWorks", fn := fun _ => fun
  | [d1, d2] => { results := [.lit (.bool true)], args := [d1, d2] }
  | _ => none }
def stripWorksRow : OpenClaim := { program := "ytkkmfcdikkiodaa", sum := "8d04b9928fd49b617c77c7842a5366bfbc24c4919680d9fe3320f92f2a3c57ff", func := "swarf/swarflaw04.StripWorks", spec := "stripWorks", unfollowed := true, recurses := true, plainKeys := false, apart := false }
def StripWorksSaid : Prop := stripWorksRow.holds Try.pinned (OpenSpec.ofChange stripWorksSpec)

/-- ITS FALSE NEIGHBOUR: 'it returns false'. Refute it at one input. -/
def stripWorksWrong : ChangeSpec := { name := "stripWorks", fn := fun _ => fun
  | [d1, d2] => { results := [.lit (.bool false)], args := [d1, d2] }
  | _ => none }
def StripWorksWrongFalsely : Prop := stripWorksRow.holds Try.pinned (OpenSpec.ofChange stripWorksWrong)

/-- 'swarflaw04.StripAll': WHATEVER THE INPUT: true; the input reads as it did. -/
def stripAllSpec : ChangeSpec := { name := "stripAll", fn := fun _ => fun
  | [d] => { results := [.lit (.bool true)], args := [d] }
  | _ => none }
def stripAllRow : OpenClaim := { program := "ytkkmfcdikkiodaa", sum := "8d04b9928fd49b617c77c7842a5366bfbc24c4919680d9fe3320f92f2a3c57ff", func := "swarf/swarflaw04.StripAll", spec := "stripAll", unfollowed := true, recurses := true, plainKeys := false, apart := false }
def StripAllSaid : Prop := stripAllRow.holds Try.pinned (OpenSpec.ofChange stripAllSpec)

/-- ITS FALSE NEIGHBOUR: 'it returns false'. Refute it at one input. -/
def stripAllWrong : ChangeSpec := { name := "stripAll", fn := fun _ => fun
  | [d] => { results := [.lit (.bool false)], args := [d] }
  | _ => none }
def StripAllWrongFalsely : Prop := stripAllRow.holds Try.pinned (OpenSpec.ofChange stripAllWrong)

/-- 'swarflaw04.StripClosed': WHATEVER THE INPUT: true; the input reads as it did. -/
def stripClosedSpec : ChangeSpec := { name := "stripClosed", fn := fun _ => fun
  | [d] => { results := [.lit (.bool true)], args := [d] }
  | _ => none }
def stripClosedRow : OpenClaim := { program := "ytkkmfcdikkiodaa", sum := "8d04b9928fd49b617c77c7842a5366bfbc24c4919680d9fe3320f92f2a3c57ff", func := "swarf/swarflaw04.StripClosed", spec := "stripClosed", unfollowed := true, recurses := true, plainKeys := false, apart := false }
def StripClosedSaid : Prop := stripClosedRow.holds Try.pinned (OpenSpec.ofChange stripClosedSpec)

/-- ITS FALSE NEIGHBOUR: 'it returns false'. Refute it at one input. -/
def stripClosedWrong : ChangeSpec := { name := "stripClosed", fn := fun _ => fun
  | [d] => { results := [.lit (.bool false)], args := [d] }
  | _ => none }
def StripClosedWrongFalsely : Prop := stripClosedRow.holds Try.pinned (OpenSpec.ofChange stripClosedWrong)

/-- 'swarflaw04.StripWorked': WHATEVER THE INPUT: true; the input reads as it did. -/
def stripWorkedSpec : ChangeSpec := { name := "stripWorked", fn := fun _ => fun
  | [d] => { results := [.lit (.bool true)], args := [d] }
  | _ => none }
def stripWorkedRow : OpenClaim := { program := "ytkkmfcdikkiodaa", sum := "8d04b9928fd49b617c77c7842a5366bfbc24c4919680d9fe3320f92f2a3c57ff", func := "swarf/swarflaw04.StripWorked", spec := "stripWorked", unfollowed := true, recurses := true, plainKeys := false, apart := false }
def StripWorkedSaid : Prop := stripWorkedRow.holds Try.pinned (OpenSpec.ofChange stripWorkedSpec)

/-- ITS FALSE NEIGHBOUR: 'it returns false'. Refute it at one input. -/
def stripWorkedWrong : ChangeSpec := { name := "stripWorked", fn := fun _ => fun
  | [d] => { results := [.lit (.bool false)], args := [d] }
  | _ => none }
def StripWorkedWrongFalsely : Prop := stripWorkedRow.holds Try.pinned (OpenSpec.ofChange stripWorkedWrong)

/-- 'swarflaw04.StripMore': WHATEVER THE INPUT: true; the input reads as it did. -/
def stripMoreSpec : ChangeSpec := { name := "stripMore", fn := fun _ => fun
  | [d] => { results := [.lit (.bool true)], args := [d] }
  | _ => none }
def stripMoreRow : OpenClaim := { program := "ytkkmfcdikkiodaa", sum := "8d04b9928fd49b617c77c7842a5366bfbc24c4919680d9fe3320f92f2a3c57ff", func := "swarf/swarflaw04.StripMore", spec := "stripMore", unfollowed := true, recurses := true, plainKeys := false, apart := false }
def StripMoreSaid : Prop := stripMoreRow.holds Try.pinned (OpenSpec.ofChange stripMoreSpec)

/-- ITS FALSE NEIGHBOUR: 'it returns false'. Refute it at one input. -/
def stripMoreWrong : ChangeSpec := { name := "stripMore", fn := fun _ => fun
  | [d] => { results := [.lit (.bool false)], args := [d] }
  | _ => none }
def StripMoreWrongFalsely : Prop := stripMoreRow.holds Try.pinned (OpenSpec.ofChange stripMoreWrong)

/-- 'swarflaw04.StripLooks': WHATEVER THE INPUT: true; the input reads as it did. -/
def stripLooksSpec : ChangeSpec := { name := "stripLooks", fn := fun _ => fun
  | [d1, d2, d3] => { results := [.lit (.bool true)], args := [d1, d2, d3] }
  | _ => none }
def stripLooksRow : OpenClaim := { program := "ytkkmfcdikkiodaa", sum := "8d04b9928fd49b617c77c7842a5366bfbc24c4919680d9fe3320f92f2a3c57ff", func := "swarf/swarflaw04.StripLooks", spec := "stripLooks", unfollowed := true, recurses := true, plainKeys := false, apart := false }
def StripLooksSaid : Prop := stripLooksRow.holds Try.pinned (OpenSpec.ofChange stripLooksSpec)

/-- ITS FALSE NEIGHBOUR: 'it returns false'. Refute it at one input. -/
def stripLooksWrong : ChangeSpec := { name := "stripLooks", fn := fun _ => fun
  | [d1, d2, d3] => { results := [.lit (.bool false)], args := [d1, d2, d3] }
  | _ => none }
def StripLooksWrongFalsely : Prop := stripLooksRow.holds Try.pinned (OpenSpec.ofChange stripLooksWrong)

/-- 'swarflaw04.StripTrue': WHATEVER THE INPUT: true; the input reads as it did. -/
def stripTrueSpec : ChangeSpec := { name := "stripTrue", fn := fun _ => fun
  | [d] => { results := [.lit (.bool true)], args := [d] }
  | _ => none }
def stripTrueRow : OpenClaim := { program := "ytkkmfcdikkiodaa", sum := "8d04b9928fd49b617c77c7842a5366bfbc24c4919680d9fe3320f92f2a3c57ff", func := "swarf/swarflaw04.StripTrue", spec := "stripTrue", unfollowed := true, recurses := true, plainKeys := false, apart := false }
def StripTrueSaid : Prop := stripTrueRow.holds Try.pinned (OpenSpec.ofChange stripTrueSpec)

/-- ITS FALSE NEIGHBOUR: 'it returns false'. Refute it at one input. -/
def stripTrueWrong : ChangeSpec := { name := "stripTrue", fn := fun _ => fun
  | [d] => { results := [.lit (.bool false)], args := [d] }
  | _ => none }
def StripTrueWrongFalsely : Prop := stripTrueRow.holds Try.pinned (OpenSpec.ofChange stripTrueWrong)

/-- 'swarflaw04.StripCrushes': WHATEVER THE INPUT: true; the input reads as it did. -/
def stripCrushesSpec : ChangeSpec := { name := "stripCrushes", fn := fun _ => fun
  | [d1, d2, d3] => { results := [.lit (.bool true)], args := [d1, d2, d3] }
  | _ => none }
def stripCrushesRow : OpenClaim := { program := "ytkkmfcdikkiodaa", sum := "8d04b9928fd49b617c77c7842a5366bfbc24c4919680d9fe3320f92f2a3c57ff", func := "swarf/swarflaw04.StripCrushes", spec := "stripCrushes", unfollowed := true, recurses := true, plainKeys := false, apart := false }
def StripCrushesSaid : Prop := stripCrushesRow.holds Try.pinned (OpenSpec.ofChange stripCrushesSpec)

/-- ITS FALSE NEIGHBOUR: 'it returns false'. Refute it at one input. -/
def stripCrushesWrong : ChangeSpec := { name := "stripCrushes", fn := fun _ => fun
  | [d1, d2, d3] => { results := [.lit (.bool false)], args := [d1, d2, d3] }
  | _ => none }
def StripCrushesWrongFalsely : Prop := stripCrushesRow.holds Try.pinned (OpenSpec.ofChange stripCrushesWrong)

/-- 'swarflaw04.StripSafe': WHATEVER THE INPUT: true; the input reads as it did. -/
def stripSafeSpec : ChangeSpec := { name := "stripSafe", fn := fun _ => fun
  | [d] => { results := [.lit (.bool true)], args := [d] }
  | _ => none }
def stripSafeRow : OpenClaim := { program := "ytkkmfcdikkiodaa", sum := "8d04b9928fd49b617c77c7842a5366bfbc24c4919680d9fe3320f92f2a3c57ff", func := "swarf/swarflaw04.StripSafe", spec := "stripSafe", unfollowed := true, recurses := true, plainKeys := false, apart := false }
def StripSafeSaid : Prop := stripSafeRow.holds Try.pinned (OpenSpec.ofChange stripSafeSpec)

/-- ITS FALSE NEIGHBOUR: 'it returns false'. Refute it at one input. -/
def stripSafeWrong : ChangeSpec := { name := "stripSafe", fn := fun _ => fun
  | [d] => { results := [.lit (.bool false)], args := [d] }
  | _ => none }
def StripSafeWrongFalsely : Prop := stripSafeRow.holds Try.pinned (OpenSpec.ofChange stripSafeWrong)

/-- 'swarflaw04.StripAgain': WHATEVER THE INPUT: true; the input reads as it did. -/
def stripAgainSpec : ChangeSpec := { name := "stripAgain", fn := fun _ => fun
  | [d1, d2] => { results := [.lit (.bool true)], args := [d1, d2] }
  | _ => none }
def stripAgainRow : OpenClaim := { program := "ytkkmfcdikkiodaa", sum := "8d04b9928fd49b617c77c7842a5366bfbc24c4919680d9fe3320f92f2a3c57ff", func := "swarf/swarflaw04.StripAgain", spec := "stripAgain", unfollowed := true, recurses := true, plainKeys := false, apart := false }
def StripAgainSaid : Prop := stripAgainRow.holds Try.pinned (OpenSpec.ofChange stripAgainSpec)

/-- ITS FALSE NEIGHBOUR: 'it returns false'. Refute it at one input. -/
def stripAgainWrong : ChangeSpec := { name := "stripAgain", fn := fun _ => fun
  | [d1, d2] => { results := [.lit (.bool false)], args := [d1, d2] }
  | _ => none }
def StripAgainWrongFalsely : Prop := stripAgainRow.holds Try.pinned (OpenSpec.ofChange stripAgainWrong)

/-- 'swarflaw04.StripLooked': WHATEVER THE INPUT: true; the input reads as it did. -/
def stripLookedSpec : ChangeSpec := { name := "stripLooked", fn := fun _ => fun
  | [d] => { results := [.lit (.bool true)], args := [d] }
  | _ => none }
def stripLookedRow : OpenClaim := { program := "ytkkmfcdikkiodaa", sum := "8d04b9928fd49b617c77c7842a5366bfbc24c4919680d9fe3320f92f2a3c57ff", func := "swarf/swarflaw04.StripLooked", spec := "stripLooked", unfollowed := true, recurses := true, plainKeys := false, apart := false }
def StripLookedSaid : Prop := stripLookedRow.holds Try.pinned (OpenSpec.ofChange stripLookedSpec)

/-- ITS FALSE NEIGHBOUR: 'it returns false'. Refute it at one input. -/
def stripLookedWrong : ChangeSpec := { name := "stripLooked", fn := fun _ => fun
  | [d] => { results := [.lit (.bool false)], args := [d] }
  | _ => none }
def StripLookedWrongFalsely : Prop := stripLookedRow.holds Try.pinned (OpenSpec.ofChange stripLookedWrong)

/- THE SECOND FORM. 'bulk': how many values and letters a reading holds, each counted each time it is reached (what is shared counts as often as it is met; a slice's spare places count too). A statement '..UptoSaid' is the law's where the arguments, and the package variables that the reading takes, are together of bulk at most 1048576: NARROWER than '..Said'. Prove '..Said' where nothing that the law and all that it calls make is longer than what came in: it says more and counts as full. Else prove '..UptoSaid'. A law counts once. -/
mutual
def uptoBulk {H : Type} : DataW H → Nat
  | .lit (.string bytes) => bytes.length + 1
  | .lit _ => 1
  | .nil => 1
  | .ptr d => uptoBulk d + 1
  | .slice elems spare => uptoBulkAll elems + uptoBulkAll spare + 1
  | .agg parts => uptoBulkAll parts + 1
  | .iface _ d => uptoBulk d + 1
  | .map entries => uptoBulkEntries entries + 1
  | .held _ => 1
def uptoBulkAll {H : Type} : List (DataW H) → Nat
  | [] => 0
  | d :: r => uptoBulk d + uptoBulkAll r
def uptoBulkEntries {H : Type} : List (Lit × DataW H) → Nat
  | [] => 0
  | x :: r => uptoBulkEntry x + uptoBulkEntries r
def uptoBulkEntry {H : Type} : Lit × DataW H → Nat
  | (.string bytes, d) => bytes.length + uptoBulk d + 1
  | (_, d) => uptoBulk d + 1
 end
def uptoSmall : (H : Type) → List (DataW H) → Bool := fun _ ds => decide (uptoBulkAll ds ≤ 1048576)
def OpenSpec.upto (s : _root_.Go.ChangeSpec) : _root_.Go.OpenSpec := { _root_.Go.OpenSpec.ofChange s with cond := some uptoSmall }

/-- 'swarflaw04.StripWorks', WHERE WHAT IT READS IS OF BULK AT MOST 1048576: true; the input reads as it did. -/
def stripWorksUptoRow : OpenClaim := { program := "ytkkmfcdikkiodaa", sum := "8d04b9928fd49b617c77c7842a5366bfbc24c4919680d9fe3320f92f2a3c57ff", func := "swarf/swarflaw04.StripWorks", spec := "stripWorks", unfollowed := true, recurses := true, plainKeys := false, apart := false, narrowed := true }
def StripWorksUptoSaid : Prop := stripWorksUptoRow.holds Try.pinned (OpenSpec.upto stripWorksSpec)

/-- 'swarflaw04.StripAll', WHERE WHAT IT READS IS OF BULK AT MOST 1048576: true; the input reads as it did. -/
def stripAllUptoRow : OpenClaim := { program := "ytkkmfcdikkiodaa", sum := "8d04b9928fd49b617c77c7842a5366bfbc24c4919680d9fe3320f92f2a3c57ff", func := "swarf/swarflaw04.StripAll", spec := "stripAll", unfollowed := true, recurses := true, plainKeys := false, apart := false, narrowed := true }
def StripAllUptoSaid : Prop := stripAllUptoRow.holds Try.pinned (OpenSpec.upto stripAllSpec)

/-- 'swarflaw04.StripClosed', WHERE WHAT IT READS IS OF BULK AT MOST 1048576: true; the input reads as it did. -/
def stripClosedUptoRow : OpenClaim := { program := "ytkkmfcdikkiodaa", sum := "8d04b9928fd49b617c77c7842a5366bfbc24c4919680d9fe3320f92f2a3c57ff", func := "swarf/swarflaw04.StripClosed", spec := "stripClosed", unfollowed := true, recurses := true, plainKeys := false, apart := false, narrowed := true }
def StripClosedUptoSaid : Prop := stripClosedUptoRow.holds Try.pinned (OpenSpec.upto stripClosedSpec)

/-- 'swarflaw04.StripWorked', WHERE WHAT IT READS IS OF BULK AT MOST 1048576: true; the input reads as it did. -/
def stripWorkedUptoRow : OpenClaim := { program := "ytkkmfcdikkiodaa", sum := "8d04b9928fd49b617c77c7842a5366bfbc24c4919680d9fe3320f92f2a3c57ff", func := "swarf/swarflaw04.StripWorked", spec := "stripWorked", unfollowed := true, recurses := true, plainKeys := false, apart := false, narrowed := true }
def StripWorkedUptoSaid : Prop := stripWorkedUptoRow.holds Try.pinned (OpenSpec.upto stripWorkedSpec)

/-- 'swarflaw04.StripMore', WHERE WHAT IT READS IS OF BULK AT MOST 1048576: true; the input reads as it did. -/
def stripMoreUptoRow : OpenClaim := { program := "ytkkmfcdikkiodaa", sum := "8d04b9928fd49b617c77c7842a5366bfbc24c4919680d9fe3320f92f2a3c57ff", func := "swarf/swarflaw04.StripMore", spec := "stripMore", unfollowed := true, recurses := true, plainKeys := false, apart := false, narrowed := true }
def StripMoreUptoSaid : Prop := stripMoreUptoRow.holds Try.pinned (OpenSpec.upto stripMoreSpec)

/-- 'swarflaw04.StripLooks', WHERE WHAT IT READS IS OF BULK AT MOST 1048576: true; the input reads as it did. -/
def stripLooksUptoRow : OpenClaim := { program := "ytkkmfcdikkiodaa", sum := "8d04b9928fd49b617c77c7842a5366bfbc24c4919680d9fe3320f92f2a3c57ff", func := "swarf/swarflaw04.StripLooks", spec := "stripLooks", unfollowed := true, recurses := true, plainKeys := false, apart := false, narrowed := true }
def StripLooksUptoSaid : Prop := stripLooksUptoRow.holds Try.pinned (OpenSpec.upto stripLooksSpec)

/-- 'swarflaw04.StripTrue', WHERE WHAT IT READS IS OF BULK AT MOST 1048576: true; the input reads as it did. -/
def stripTrueUptoRow : OpenClaim := { program := "ytkkmfcdikkiodaa", sum := "8d04b9928fd49b617c77c7842a5366bfbc24c4919680d9fe3320f92f2a3c57ff", func := "swarf/swarflaw04.StripTrue", spec := "stripTrue", unfollowed := true, recurses := true, plainKeys := false, apart := false, narrowed := true }
def StripTrueUptoSaid : Prop := stripTrueUptoRow.holds Try.pinned (OpenSpec.upto stripTrueSpec)

/-- 'swarflaw04.StripCrushes', WHERE WHAT IT READS IS OF BULK AT MOST 1048576: true; the input reads as it did. -/
def stripCrushesUptoRow : OpenClaim := { program := "ytkkmfcdikkiodaa", sum := "8d04b9928fd49b617c77c7842a5366bfbc24c4919680d9fe3320f92f2a3c57ff", func := "swarf/swarflaw04.StripCrushes", spec := "stripCrushes", unfollowed := true, recurses := true, plainKeys := false, apart := false, narrowed := true }
def StripCrushesUptoSaid : Prop := stripCrushesUptoRow.holds Try.pinned (OpenSpec.upto stripCrushesSpec)

/-- 'swarflaw04.StripSafe', WHERE WHAT IT READS IS OF BULK AT MOST 1048576: true; the input reads as it did. -/
def stripSafeUptoRow : OpenClaim := { program := "ytkkmfcdikkiodaa", sum := "8d04b9928fd49b617c77c7842a5366bfbc24c4919680d9fe3320f92f2a3c57ff", func := "swarf/swarflaw04.StripSafe", spec := "stripSafe", unfollowed := true, recurses := true, plainKeys := false, apart := false, narrowed := true }
def StripSafeUptoSaid : Prop := stripSafeUptoRow.holds Try.pinned (OpenSpec.upto stripSafeSpec)

/-- 'swarflaw04.StripAgain', WHERE WHAT IT READS IS OF BULK AT MOST 1048576: true; the input reads as it did. -/
def stripAgainUptoRow : OpenClaim := { program := "ytkkmfcdikkiodaa", sum := "8d04b9928fd49b617c77c7842a5366bfbc24c4919680d9fe3320f92f2a3c57ff", func := "swarf/swarflaw04.StripAgain", spec := "stripAgain", unfollowed := true, recurses := true, plainKeys := false, apart := false, narrowed := true }
def StripAgainUptoSaid : Prop := stripAgainUptoRow.holds Try.pinned (OpenSpec.upto stripAgainSpec)

/-- 'swarflaw04.StripLooked', WHERE WHAT IT READS IS OF BULK AT MOST 1048576: true; the input reads as it did. -/
def stripLookedUptoRow : OpenClaim := { program := "ytkkmfcdikkiodaa", sum := "8d04b9928fd49b617c77c7842a5366bfbc24c4919680d9fe3320f92f2a3c57ff", func := "swarf/swarflaw04.StripLooked", spec := "stripLooked", unfollowed := true, recurses := true, plainKeys := false, apart := false, narrowed := true }
def StripLookedUptoSaid : Prop := stripLookedUptoRow.holds Try.pinned (OpenSpec.upto stripLookedSpec)

end Rows
end Go.Proofs.Ytkkmfcdikkiodaa
