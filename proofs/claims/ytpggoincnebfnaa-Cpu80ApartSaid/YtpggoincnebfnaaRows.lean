/-
  No cell of these rows narrows 'for every input' (looked for: loops, veiled, ifaces, maps, wideKeys, modest, calm, conditions, laid).
  DERIVED. THE GIVEN ROWS OF THIS SEAT. 7 by the template 'for every input the law returns true; each argument reads behind the call as it read before'; 0 by the template 'total and deterministic' (their statements: YtpggoincnebfnaaTotals.lean).
  GIVEN WITH THE SEED: the statements are not yours to turn. If you find one false, say at which input.
  Laid BY PROGRAM, IN A SANDBOX (cutbox-rows.mjs): the forced cells as the released guide's own fill.sh prints them over the translation 12f50c443fe692bd… (all of the seat's roots in one cut). By AI agents, Wed Nov 11 2026. No macro, syntax, notation, axiom, sorry.
-/
import Derived.Test.YtpggoincnebfnaaChecked
import GoSem.Claim
import GoSem.ClaimJoined
import GoSem.ClaimMapViews
import Derived.JoinedTies
import Derived.KernelRfl
namespace Go.Proofs.Ytpggoincnebfnaa
/- THE CELL 'sum', in the pinned program and in every row, IS THE sha256 OF THE DUMP (.gsa) THAT YtpggoincnebfnaaProg.lean LOADS. Nothing in Lean hashes anything: it is a label: what it is worth is what the hold of that sum in a sandbox is worth. -/
noncomputable def Try.pinned : Pinned := { name := "ytpggoincnebfnaa", sum := "12f50c443fe692bd390484463f44115d9ee42330dd870a229c09f89aa969d746", checked := Try.checked }
namespace Rows
def none {H : Type} : Left H := { results := [], args := [] }

/-- 'pidginlaw10.Cpu80Steps': WHATEVER THE INPUT: true; the input reads as it did. -/
def cpu80StepsSpec : ChangeSpec := { name := "cpu80Steps", fn := fun _ => fun
  | [d1, d2, d3] => { results := [.lit (.bool true)], args := [d1, d2, d3] }
  | _ => none }
def cpu80StepsRow : OpenClaim := { program := "ytpggoincnebfnaa", sum := "12f50c443fe692bd390484463f44115d9ee42330dd870a229c09f89aa969d746", func := "pidgin/pidginlaw10.Cpu80Steps", spec := "cpu80Steps", unfollowed := true, recurses := true, apart := false }
def Cpu80StepsSaid : Prop := cpu80StepsRow.holds Try.pinned (OpenSpec.ofChange cpu80StepsSpec)

/-- ITS FALSE NEIGHBOUR: 'it returns false'. Refute it at one input. -/
def cpu80StepsWrong : ChangeSpec := { name := "cpu80Steps", fn := fun _ => fun
  | [d1, d2, d3] => { results := [.lit (.bool false)], args := [d1, d2, d3] }
  | _ => none }
def Cpu80StepsWrongFalsely : Prop := cpu80StepsRow.holds Try.pinned (OpenSpec.ofChange cpu80StepsWrong)

/-- 'pidginlaw10.Cpu80Runs': WHATEVER THE INPUT: true; the input reads as it did. -/
def cpu80RunsSpec : ChangeSpec := { name := "cpu80Runs", fn := fun _ => fun
  | [d1, d2, d3] => { results := [.lit (.bool true)], args := [d1, d2, d3] }
  | _ => none }
def cpu80RunsRow : OpenClaim := { program := "ytpggoincnebfnaa", sum := "12f50c443fe692bd390484463f44115d9ee42330dd870a229c09f89aa969d746", func := "pidgin/pidginlaw10.Cpu80Runs", spec := "cpu80Runs", unfollowed := true, recurses := true, apart := false }
def Cpu80RunsSaid : Prop := cpu80RunsRow.holds Try.pinned (OpenSpec.ofChange cpu80RunsSpec)

/-- ITS FALSE NEIGHBOUR: 'it returns false'. Refute it at one input. -/
def cpu80RunsWrong : ChangeSpec := { name := "cpu80Runs", fn := fun _ => fun
  | [d1, d2, d3] => { results := [.lit (.bool false)], args := [d1, d2, d3] }
  | _ => none }
def Cpu80RunsWrongFalsely : Prop := cpu80RunsRow.holds Try.pinned (OpenSpec.ofChange cpu80RunsWrong)

/-- 'pidginlaw10.Cpu80Opens': WHATEVER THE INPUT: true; the input reads as it did. -/
def cpu80OpensSpec : ChangeSpec := { name := "cpu80Opens", fn := fun _ => fun
  | [d1, d2, d3, d4] => { results := [.lit (.bool true)], args := [d1, d2, d3, d4] }
  | _ => none }
def cpu80OpensRow : OpenClaim := { program := "ytpggoincnebfnaa", sum := "12f50c443fe692bd390484463f44115d9ee42330dd870a229c09f89aa969d746", func := "pidgin/pidginlaw10.Cpu80Opens", spec := "cpu80Opens", unfollowed := true, recurses := true, apart := false }
def Cpu80OpensSaid : Prop := cpu80OpensRow.holds Try.pinned (OpenSpec.ofChange cpu80OpensSpec)

/-- ITS FALSE NEIGHBOUR: 'it returns false'. Refute it at one input. -/
def cpu80OpensWrong : ChangeSpec := { name := "cpu80Opens", fn := fun _ => fun
  | [d1, d2, d3, d4] => { results := [.lit (.bool false)], args := [d1, d2, d3, d4] }
  | _ => none }
def Cpu80OpensWrongFalsely : Prop := cpu80OpensRow.holds Try.pinned (OpenSpec.ofChange cpu80OpensWrong)

/-- 'pidginlaw10.Cpu80Stack': WHATEVER THE INPUT: true; the input reads as it did. -/
def cpu80StackSpec : ChangeSpec := { name := "cpu80Stack", fn := fun _ => fun
  | [d1, d2, d3] => { results := [.lit (.bool true)], args := [d1, d2, d3] }
  | _ => none }
def cpu80StackRow : OpenClaim := { program := "ytpggoincnebfnaa", sum := "12f50c443fe692bd390484463f44115d9ee42330dd870a229c09f89aa969d746", func := "pidgin/pidginlaw10.Cpu80Stack", spec := "cpu80Stack", unfollowed := true, recurses := true, apart := false }
def Cpu80StackSaid : Prop := cpu80StackRow.holds Try.pinned (OpenSpec.ofChange cpu80StackSpec)

/-- ITS FALSE NEIGHBOUR: 'it returns false'. Refute it at one input. -/
def cpu80StackWrong : ChangeSpec := { name := "cpu80Stack", fn := fun _ => fun
  | [d1, d2, d3] => { results := [.lit (.bool false)], args := [d1, d2, d3] }
  | _ => none }
def Cpu80StackWrongFalsely : Prop := cpu80StackRow.holds Try.pinned (OpenSpec.ofChange cpu80StackWrong)

/-- 'pidginlaw10.Cpu80Nils': WHATEVER THE INPUT: true; the input reads as it did. -/
def cpu80NilsSpec : ChangeSpec := { name := "cpu80Nils", fn := fun _ => fun
  | [d1, d2] => { results := [.lit (.bool true)], args := [d1, d2] }
  | _ => none }
def cpu80NilsRow : OpenClaim := { program := "ytpggoincnebfnaa", sum := "12f50c443fe692bd390484463f44115d9ee42330dd870a229c09f89aa969d746", func := "pidgin/pidginlaw10.Cpu80Nils", spec := "cpu80Nils", unfollowed := true, recurses := true, apart := false }
def Cpu80NilsSaid : Prop := cpu80NilsRow.holds Try.pinned (OpenSpec.ofChange cpu80NilsSpec)

/-- ITS FALSE NEIGHBOUR: 'it returns false'. Refute it at one input. -/
def cpu80NilsWrong : ChangeSpec := { name := "cpu80Nils", fn := fun _ => fun
  | [d1, d2] => { results := [.lit (.bool false)], args := [d1, d2] }
  | _ => none }
def Cpu80NilsWrongFalsely : Prop := cpu80NilsRow.holds Try.pinned (OpenSpec.ofChange cpu80NilsWrong)

/-- 'pidginlaw10.Cpu80Moves': WHATEVER THE INPUT: true; the input reads as it did. -/
def cpu80MovesSpec : ChangeSpec := { name := "cpu80Moves", fn := fun _ => fun
  | [d1, d2, d3, d4] => { results := [.lit (.bool true)], args := [d1, d2, d3, d4] }
  | _ => none }
def cpu80MovesRow : OpenClaim := { program := "ytpggoincnebfnaa", sum := "12f50c443fe692bd390484463f44115d9ee42330dd870a229c09f89aa969d746", func := "pidgin/pidginlaw10.Cpu80Moves", spec := "cpu80Moves", unfollowed := true, recurses := true, apart := false }
def Cpu80MovesSaid : Prop := cpu80MovesRow.holds Try.pinned (OpenSpec.ofChange cpu80MovesSpec)

/-- ITS FALSE NEIGHBOUR: 'it returns false'. Refute it at one input. -/
def cpu80MovesWrong : ChangeSpec := { name := "cpu80Moves", fn := fun _ => fun
  | [d1, d2, d3, d4] => { results := [.lit (.bool false)], args := [d1, d2, d3, d4] }
  | _ => none }
def Cpu80MovesWrongFalsely : Prop := cpu80MovesRow.holds Try.pinned (OpenSpec.ofChange cpu80MovesWrong)

/-- 'pidginlaw10.Cpu80Apart': WHATEVER THE INPUT: true; the input reads as it did. -/
def cpu80ApartSpec : ChangeSpec := { name := "cpu80Apart", fn := fun _ => fun
  | [d1, d2] => { results := [.lit (.bool true)], args := [d1, d2] }
  | _ => none }
def cpu80ApartRow : OpenClaim := { program := "ytpggoincnebfnaa", sum := "12f50c443fe692bd390484463f44115d9ee42330dd870a229c09f89aa969d746", func := "pidgin/pidginlaw10.Cpu80Apart", spec := "cpu80Apart", unfollowed := true, recurses := true, apart := false }
def Cpu80ApartSaid : Prop := cpu80ApartRow.holds Try.pinned (OpenSpec.ofChange cpu80ApartSpec)

/-- ITS FALSE NEIGHBOUR: 'it returns false'. Refute it at one input. -/
def cpu80ApartWrong : ChangeSpec := { name := "cpu80Apart", fn := fun _ => fun
  | [d1, d2] => { results := [.lit (.bool false)], args := [d1, d2] }
  | _ => none }
def Cpu80ApartWrongFalsely : Prop := cpu80ApartRow.holds Try.pinned (OpenSpec.ofChange cpu80ApartWrong)

/- THE SECOND FORM. 'bulk': how many values and letters a reading holds, each counted each time it is reached (what is shared counts as often as it is met; a slice's spare places count too). A statement '..UptoSaid' is the law's where the arguments, and the package variables that the reading takes, are together of bulk at most 1048576: NARROWER than '..Said'. Prove '..Said' where nothing that the law and all that it calls make is longer than what came in: it says more and counts as full. Else prove '..UptoSaid'. A law counts once. -/
mutual
def uptoBulk {H : Type} : DataW H → Nat
  | .lit (.string bytes) => bytes.length + 1
  | .lit _ => 1
  | .nil => 1
  | .ptr d => uptoBulk d + 1
  | .slice elems spare => uptoBulkAll elems + uptoBulkAll spare + 1
  | .agg parts => uptoBulkAll parts + 1
  | .iface _ d => uptoBulk d + 1
  | .map entries => uptoBulkEntries entries + 1
  | .held _ => 1
def uptoBulkAll {H : Type} : List (DataW H) → Nat
  | [] => 0
  | d :: r => uptoBulk d + uptoBulkAll r
def uptoBulkEntries {H : Type} : List (Lit × DataW H) → Nat
  | [] => 0
  | x :: r => uptoBulkEntry x + uptoBulkEntries r
def uptoBulkEntry {H : Type} : Lit × DataW H → Nat
  | (.string bytes, d) => bytes.length + uptoBulk d + 1
  | (_, d) => uptoBulk d + 1
 end
def uptoSmall : (H : Type) → List (DataW H) → Bool := fun _ ds => decide (uptoBulkAll ds ≤ 1048576)
def OpenSpec.upto (s : _root_.Go.ChangeSpec) : _root_.Go.OpenSpec := { _root_.Go.OpenSpec.ofChange s with cond := some uptoSmall }

/-- 'pidginlaw10.Cpu80Steps', WHERE WHAT IT READS IS OF BULK AT MOST 1048576: true; the input reads as it did. -/
def cpu80StepsUptoRow : OpenClaim := { program := "ytpggoincnebfnaa", sum := "12f50c443fe692bd390484463f44115d9ee42330dd870a229c09f89aa969d746", func := "pidgin/pidginlaw10.Cpu80Steps", spec := "cpu80Steps", unfollowed := true, recurses := true, apart := false, narrowed := true }
def Cpu80StepsUptoSaid : Prop := cpu80StepsUptoRow.holds Try.pinned (OpenSpec.upto cpu80StepsSpec)

/-- 'pidginlaw10.Cpu80Runs', WHERE WHAT IT READS IS OF BULK AT MOST 1048576: true; the input reads as it did. -/
def cpu80RunsUptoRow : OpenClaim := { program := "ytpggoincnebfnaa", sum := "12f50c443fe692bd390484463f44115d9ee42330dd870a229c09f89aa969d746", func := "pidgin/pidginlaw10.Cpu80Runs", spec := "cpu80Runs", unfollowed := true, recurses := true, apart := false, narrowed := true }
def Cpu80RunsUptoSaid : Prop := cpu80RunsUptoRow.holds Try.pinned (OpenSpec.upto cpu80RunsSpec)

/-- 'pidginlaw10.Cpu80Opens', WHERE WHAT IT READS IS OF BULK AT MOST 1048576: true; the input reads as it did. -/
def cpu80OpensUptoRow : OpenClaim := { program := "ytpggoincnebfnaa", sum := "12f50c443fe692bd390484463f44115d9ee42330dd870a229c09f89aa969d746", func := "pidgin/pidginlaw10.Cpu80Opens", spec := "cpu80Opens", unfollowed := true, recurses := true, apart := false, narrowed := true }
def Cpu80OpensUptoSaid : Prop := cpu80OpensUptoRow.holds Try.pinned (OpenSpec.upto cpu80OpensSpec)

/-- 'pidginlaw10.Cpu80Stack', WHERE WHAT IT READS IS OF BULK AT MOST 1048576: true; the input reads as it did. -/
def cpu80StackUptoRow : OpenClaim := { program := "ytpggoincnebfnaa", sum := "12f50c443fe692bd390484463f44115d9ee42330dd870a229c09f89aa969d746", func := "pidgin/pidginlaw10.Cpu80Stack", spec := "cpu80Stack", unfollowed := true, recurses := true, apart := false, narrowed := true }
def Cpu80StackUptoSaid : Prop := cpu80StackUptoRow.holds Try.pinned (OpenSpec.upto cpu80StackSpec)

/-- 'pidginlaw10.Cpu80Nils', WHERE WHAT IT READS IS OF BULK AT MOST 1048576: true; the input reads as it did. -/
def cpu80NilsUptoRow : OpenClaim := { program := "ytpggoincnebfnaa", sum := "12f50c443fe692bd390484463f44115d9ee42330dd870a229c09f89aa969d746", func := "pidgin/pidginlaw10.Cpu80Nils", spec := "cpu80Nils", unfollowed := true, recurses := true, apart := false, narrowed := true }
def Cpu80NilsUptoSaid : Prop := cpu80NilsUptoRow.holds Try.pinned (OpenSpec.upto cpu80NilsSpec)

/-- 'pidginlaw10.Cpu80Moves', WHERE WHAT IT READS IS OF BULK AT MOST 1048576: true; the input reads as it did. -/
def cpu80MovesUptoRow : OpenClaim := { program := "ytpggoincnebfnaa", sum := "12f50c443fe692bd390484463f44115d9ee42330dd870a229c09f89aa969d746", func := "pidgin/pidginlaw10.Cpu80Moves", spec := "cpu80Moves", unfollowed := true, recurses := true, apart := false, narrowed := true }
def Cpu80MovesUptoSaid : Prop := cpu80MovesUptoRow.holds Try.pinned (OpenSpec.upto cpu80MovesSpec)

/-- 'pidginlaw10.Cpu80Apart', WHERE WHAT IT READS IS OF BULK AT MOST 1048576: true; the input reads as it did. -/
def cpu80ApartUptoRow : OpenClaim := { program := "ytpggoincnebfnaa", sum := "12f50c443fe692bd390484463f44115d9ee42330dd870a229c09f89aa969d746", func := "pidgin/pidginlaw10.Cpu80Apart", spec := "cpu80Apart", unfollowed := true, recurses := true, apart := false, narrowed := true }
def Cpu80ApartUptoSaid : Prop := cpu80ApartUptoRow.holds Try.pinned (OpenSpec.upto cpu80ApartSpec)

end Rows
end Go.Proofs.Ytpggoincnebfnaa
