/-
  No cell of these rows narrows 'for every input' (looked for: loops, veiled, ifaces, maps, wideKeys, modest, calm, conditions, laid).
  DERIVED. THE GIVEN ROWS OF THIS SEAT. 6 by the template 'for every input the law returns true; each argument reads behind the call as it read before'; 0 by the template 'total and deterministic' (their statements: YtdjmpilegommlaaTotals.lean).
  GIVEN WITH THE SEED: the statements are not yours to turn. If you find one false, say at which input.
  Laid BY PROGRAM, IN A SANDBOX (cutbox-rows.mjs): the forced cells as the released guide's own fill.sh prints them over the translation 5ab39b783de5c714… (all of the seat's roots in one cut). By AI agents, Wed Nov 11 2026. No macro, syntax, notation, axiom, sorry.
-/
import Derived.Test.YtdjmpilegommlaaChecked
import GoSem.Claim
import GoSem.ClaimJoined
import GoSem.ClaimMapViews
import Derived.JoinedTies
import Derived.KernelRfl
namespace Go.Proofs.Ytdjmpilegommlaa
/- THE CELL 'sum', in the pinned program and in every row, IS THE sha256 OF THE DUMP (.gsa) THAT YtdjmpilegommlaaProg.lean LOADS. Nothing in Lean hashes anything: it is a label: what it is worth is what the hold of that sum in a sandbox is worth. -/
noncomputable def Try.pinned : Pinned := { name := "ytdjmpilegommlaa", sum := "5ab39b783de5c714225fd4e1fa802ac1b452cde1d2454c975e807903d4b9b934", checked := Try.checked }
namespace Rows
def none {H : Type} : Left H := { results := [], args := [] }

/-- 'pidginlaw18.FlowMasks': WHATEVER THE INPUT: true; the input reads as it did. -/
def flowMasksSpec : ChangeSpec := { name := "flowMasks", fn := fun _ => fun
  | [d] => { results := [.lit (.bool true)], args := [d] }
  | _ => none }
def flowMasksRow : OpenClaim := { program := "ytdjmpilegommlaa", sum := "5ab39b783de5c714225fd4e1fa802ac1b452cde1d2454c975e807903d4b9b934", func := "pidgin/pidginlaw18.FlowMasks", spec := "flowMasks", unfollowed := true, recurses := true, apart := false }
def FlowMasksSaid : Prop := flowMasksRow.holds Try.pinned (OpenSpec.ofChange flowMasksSpec)

/-- ITS FALSE NEIGHBOUR: 'it returns false'. Refute it at one input. -/
def flowMasksWrong : ChangeSpec := { name := "flowMasks", fn := fun _ => fun
  | [d] => { results := [.lit (.bool false)], args := [d] }
  | _ => none }
def FlowMasksWrongFalsely : Prop := flowMasksRow.holds Try.pinned (OpenSpec.ofChange flowMasksWrong)

/-- 'pidginlaw18.FlowLive': WHATEVER THE INPUT: true; the input reads as it did. -/
def flowLiveSpec : ChangeSpec := { name := "flowLive", fn := fun _ => fun
  | [d] => { results := [.lit (.bool true)], args := [d] }
  | _ => none }
def flowLiveRow : OpenClaim := { program := "ytdjmpilegommlaa", sum := "5ab39b783de5c714225fd4e1fa802ac1b452cde1d2454c975e807903d4b9b934", func := "pidgin/pidginlaw18.FlowLive", spec := "flowLive", unfollowed := true, recurses := true, apart := false }
def FlowLiveSaid : Prop := flowLiveRow.holds Try.pinned (OpenSpec.ofChange flowLiveSpec)

/-- ITS FALSE NEIGHBOUR: 'it returns false'. Refute it at one input. -/
def flowLiveWrong : ChangeSpec := { name := "flowLive", fn := fun _ => fun
  | [d] => { results := [.lit (.bool false)], args := [d] }
  | _ => none }
def FlowLiveWrongFalsely : Prop := flowLiveRow.holds Try.pinned (OpenSpec.ofChange flowLiveWrong)

/-- 'pidginlaw18.FlowLess': WHATEVER THE INPUT: true; the input reads as it did. -/
def flowLessSpec : ChangeSpec := { name := "flowLess", fn := fun _ => fun
  | [d] => { results := [.lit (.bool true)], args := [d] }
  | _ => none }
def flowLessRow : OpenClaim := { program := "ytdjmpilegommlaa", sum := "5ab39b783de5c714225fd4e1fa802ac1b452cde1d2454c975e807903d4b9b934", func := "pidgin/pidginlaw18.FlowLess", spec := "flowLess", unfollowed := true, recurses := true, apart := false }
def FlowLessSaid : Prop := flowLessRow.holds Try.pinned (OpenSpec.ofChange flowLessSpec)

/-- ITS FALSE NEIGHBOUR: 'it returns false'. Refute it at one input. -/
def flowLessWrong : ChangeSpec := { name := "flowLess", fn := fun _ => fun
  | [d] => { results := [.lit (.bool false)], args := [d] }
  | _ => none }
def FlowLessWrongFalsely : Prop := flowLessRow.holds Try.pinned (OpenSpec.ofChange flowLessWrong)

/-- 'pidginlaw18.FlowEnds': WHATEVER THE INPUT: true; the input reads as it did. -/
def flowEndsSpec : ChangeSpec := { name := "flowEnds", fn := fun _ => fun
  | [d1, d2] => { results := [.lit (.bool true)], args := [d1, d2] }
  | _ => none }
def flowEndsRow : OpenClaim := { program := "ytdjmpilegommlaa", sum := "5ab39b783de5c714225fd4e1fa802ac1b452cde1d2454c975e807903d4b9b934", func := "pidgin/pidginlaw18.FlowEnds", spec := "flowEnds", unfollowed := true, recurses := true, apart := false }
def FlowEndsSaid : Prop := flowEndsRow.holds Try.pinned (OpenSpec.ofChange flowEndsSpec)

/-- ITS FALSE NEIGHBOUR: 'it returns false'. Refute it at one input. -/
def flowEndsWrong : ChangeSpec := { name := "flowEnds", fn := fun _ => fun
  | [d1, d2] => { results := [.lit (.bool false)], args := [d1, d2] }
  | _ => none }
def FlowEndsWrongFalsely : Prop := flowEndsRow.holds Try.pinned (OpenSpec.ofChange flowEndsWrong)

/-- 'pidginlaw18.FlowTrue': WHATEVER THE INPUT: true; the input reads as it did. -/
def flowTrueSpec : ChangeSpec := { name := "flowTrue", fn := fun _ => fun
  | [d1, d2, d3, d4, d5] => { results := [.lit (.bool true)], args := [d1, d2, d3, d4, d5] }
  | _ => none }
def flowTrueRow : OpenClaim := { program := "ytdjmpilegommlaa", sum := "5ab39b783de5c714225fd4e1fa802ac1b452cde1d2454c975e807903d4b9b934", func := "pidgin/pidginlaw18.FlowTrue", spec := "flowTrue", unfollowed := true, recurses := true, apart := false }
def FlowTrueSaid : Prop := flowTrueRow.holds Try.pinned (OpenSpec.ofChange flowTrueSpec)

/-- ITS FALSE NEIGHBOUR: 'it returns false'. Refute it at one input. -/
def flowTrueWrong : ChangeSpec := { name := "flowTrue", fn := fun _ => fun
  | [d1, d2, d3, d4, d5] => { results := [.lit (.bool false)], args := [d1, d2, d3, d4, d5] }
  | _ => none }
def FlowTrueWrongFalsely : Prop := flowTrueRow.holds Try.pinned (OpenSpec.ofChange flowTrueWrong)

/-- 'pidginlaw18.FlowWays': WHATEVER THE INPUT: true; the input reads as it did. -/
def flowWaysSpec : ChangeSpec := { name := "flowWays", fn := fun _ => fun
  | [d1, d2, d3, d4] => { results := [.lit (.bool true)], args := [d1, d2, d3, d4] }
  | _ => none }
def flowWaysRow : OpenClaim := { program := "ytdjmpilegommlaa", sum := "5ab39b783de5c714225fd4e1fa802ac1b452cde1d2454c975e807903d4b9b934", func := "pidgin/pidginlaw18.FlowWays", spec := "flowWays", unfollowed := true, recurses := true, apart := false }
def FlowWaysSaid : Prop := flowWaysRow.holds Try.pinned (OpenSpec.ofChange flowWaysSpec)

/-- ITS FALSE NEIGHBOUR: 'it returns false'. Refute it at one input. -/
def flowWaysWrong : ChangeSpec := { name := "flowWays", fn := fun _ => fun
  | [d1, d2, d3, d4] => { results := [.lit (.bool false)], args := [d1, d2, d3, d4] }
  | _ => none }
def FlowWaysWrongFalsely : Prop := flowWaysRow.holds Try.pinned (OpenSpec.ofChange flowWaysWrong)

/- THE SECOND FORM. 'bulk': how many values and letters a reading holds, each counted each time it is reached (what is shared counts as often as it is met; a slice's spare places count too). A statement '..UptoSaid' is the law's where the arguments, and the package variables that the reading takes, are together of bulk at most 1048576: NARROWER than '..Said'. Prove '..Said' where nothing that the law and all that it calls make is longer than what came in: it says more and counts as full. Else prove '..UptoSaid'. A law counts once. -/
mutual
def uptoBulk {H : Type} : DataW H → Nat
  | .lit (.string bytes) => bytes.length + 1
  | .lit _ => 1
  | .nil => 1
  | .ptr d => uptoBulk d + 1
  | .slice elems spare => uptoBulkAll elems + uptoBulkAll spare + 1
  | .agg parts => uptoBulkAll parts + 1
  | .iface _ d => uptoBulk d + 1
  | .map entries => uptoBulkEntries entries + 1
  | .held _ => 1
def uptoBulkAll {H : Type} : List (DataW H) → Nat
  | [] => 0
  | d :: r => uptoBulk d + uptoBulkAll r
def uptoBulkEntries {H : Type} : List (Lit × DataW H) → Nat
  | [] => 0
  | x :: r => uptoBulkEntry x + uptoBulkEntries r
def uptoBulkEntry {H : Type} : Lit × DataW H → Nat
  | (.string bytes, d) => bytes.length + uptoBulk d + 1
  | (_, d) => uptoBulk d + 1
 end
def uptoSmall : (H : Type) → List (DataW H) → Bool := fun _ ds => decide (uptoBulkAll ds ≤ 1048576)
def OpenSpec.upto (s : _root_.Go.ChangeSpec) : _root_.Go.OpenSpec := { _root_.Go.OpenSpec.ofChange s with cond := some uptoSmall }

/-- 'pidginlaw18.FlowMasks', WHERE WHAT IT READS IS OF BULK AT MOST 1048576: true; the input reads as it did. -/
def flowMasksUptoRow : OpenClaim := { program := "ytdjmpilegommlaa", sum := "5ab39b783de5c714225fd4e1fa802ac1b452cde1d2454c975e807903d4b9b934", func := "pidgin/pidginlaw18.FlowMasks", spec := "flowMasks", unfollowed := true, recurses := true, apart := false, narrowed := true }
def FlowMasksUptoSaid : Prop := flowMasksUptoRow.holds Try.pinned (OpenSpec.upto flowMasksSpec)

/-- 'pidginlaw18.FlowLive', WHERE WHAT IT READS IS OF BULK AT MOST 1048576: true; the input reads as it did. -/
def flowLiveUptoRow : OpenClaim := { program := "ytdjmpilegommlaa", sum := "5ab39b783de5c714225fd4e1fa802ac1b452cde1d2454c975e807903d4b9b934", func := "pidgin/pidginlaw18.FlowLive", spec := "flowLive", unfollowed := true, recurses := true, apart := false, narrowed := true }
def FlowLiveUptoSaid : Prop := flowLiveUptoRow.holds Try.pinned (OpenSpec.upto flowLiveSpec)

/-- 'pidginlaw18.FlowLess', WHERE WHAT IT READS IS OF BULK AT MOST 1048576: true; the input reads as it did. -/
def flowLessUptoRow : OpenClaim := { program := "ytdjmpilegommlaa", sum := "5ab39b783de5c714225fd4e1fa802ac1b452cde1d2454c975e807903d4b9b934", func := "pidgin/pidginlaw18.FlowLess", spec := "flowLess", unfollowed := true, recurses := true, apart := false, narrowed := true }
def FlowLessUptoSaid : Prop := flowLessUptoRow.holds Try.pinned (OpenSpec.upto flowLessSpec)

/-- 'pidginlaw18.FlowEnds', WHERE WHAT IT READS IS OF BULK AT MOST 1048576: true; the input reads as it did. -/
def flowEndsUptoRow : OpenClaim := { program := "ytdjmpilegommlaa", sum := "5ab39b783de5c714225fd4e1fa802ac1b452cde1d2454c975e807903d4b9b934", func := "pidgin/pidginlaw18.FlowEnds", spec := "flowEnds", unfollowed := true, recurses := true, apart := false, narrowed := true }
def FlowEndsUptoSaid : Prop := flowEndsUptoRow.holds Try.pinned (OpenSpec.upto flowEndsSpec)

/-- 'pidginlaw18.FlowTrue', WHERE WHAT IT READS IS OF BULK AT MOST 1048576: true; the input reads as it did. -/
def flowTrueUptoRow : OpenClaim := { program := "ytdjmpilegommlaa", sum := "5ab39b783de5c714225fd4e1fa802ac1b452cde1d2454c975e807903d4b9b934", func := "pidgin/pidginlaw18.FlowTrue", spec := "flowTrue", unfollowed := true, recurses := true, apart := false, narrowed := true }
def FlowTrueUptoSaid : Prop := flowTrueUptoRow.holds Try.pinned (OpenSpec.upto flowTrueSpec)

/-- 'pidginlaw18.FlowWays', WHERE WHAT IT READS IS OF BULK AT MOST 1048576: true; the input reads as it did. -/
def flowWaysUptoRow : OpenClaim := { program := "ytdjmpilegommlaa", sum := "5ab39b783de5c714225fd4e1fa802ac1b452cde1d2454c975e807903d4b9b934", func := "pidgin/pidginlaw18.FlowWays", spec := "flowWays", unfollowed := true, recurses := true, apart := false, narrowed := true }
def FlowWaysUptoSaid : Prop := flowWaysUptoRow.holds Try.pinned (OpenSpec.upto flowWaysSpec)

end Rows
end Go.Proofs.Ytdjmpilegommlaa
