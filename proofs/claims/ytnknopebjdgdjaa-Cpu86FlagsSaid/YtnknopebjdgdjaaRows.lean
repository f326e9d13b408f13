/-
  No cell of these rows narrows 'for every input' (looked for: loops, veiled, ifaces, maps, wideKeys, modest, calm, conditions, laid).
  DERIVED. THE GIVEN ROWS OF THIS SEAT. 7 by the template 'for every input the law returns true; each argument reads behind the call as it read before'; 0 by the template 'total and deterministic' (their statements: YtnknopebjdgdjaaTotals.lean).
  GIVEN WITH THE SEED: the statements are not yours to turn. If you find one false, say at which input.
  Laid BY PROGRAM, IN A SANDBOX (cutbox-rows.mjs): the forced cells as the released guide's own fill.sh prints them over the translation b3625ee3e659a6de… (all of the seat's roots in one cut). By AI agents, Wed Nov 11 2026. No macro, syntax, notation, axiom, sorry.
-/
import Derived.Test.YtnknopebjdgdjaaChecked
import GoSem.Claim
import GoSem.ClaimJoined
import GoSem.ClaimMapViews
import Derived.JoinedTies
import Derived.KernelRfl
namespace Go.Proofs.Ytnknopebjdgdjaa
/- THE CELL 'sum', in the pinned program and in every row, IS THE sha256 OF THE DUMP (.gsa) THAT YtnknopebjdgdjaaProg.lean LOADS. Nothing in Lean hashes anything: it is a label: what it is worth is what the hold of that sum in a sandbox is worth. -/
noncomputable def Try.pinned : Pinned := { name := "ytnknopebjdgdjaa", sum := "b3625ee3e659a6de6a3b925a47887194882ae8f0f244f42b3d8c55ea800c851a", checked := Try.checked }
namespace Rows
def none {H : Type} : Left H := { results := [], args := [] }

/-- 'pidginlaw11.Cpu86Opens': WHATEVER THE INPUT: true; the input reads as it did. -/
def cpu86OpensSpec : ChangeSpec := { name := "cpu86Opens", fn := fun _ => fun
  | [d1, d2, d3, d4] => { results := [.lit (.bool true)], args := [d1, d2, d3, d4] }
  | _ => none }
def cpu86OpensRow : OpenClaim := { program := "ytnknopebjdgdjaa", sum := "b3625ee3e659a6de6a3b925a47887194882ae8f0f244f42b3d8c55ea800c851a", func := "pidgin/pidginlaw11.Cpu86Opens", spec := "cpu86Opens", unfollowed := true, recurses := true, apart := false }
def Cpu86OpensSaid : Prop := cpu86OpensRow.holds Try.pinned (OpenSpec.ofChange cpu86OpensSpec)

/-- ITS FALSE NEIGHBOUR: 'it returns false'. Refute it at one input. -/
def cpu86OpensWrong : ChangeSpec := { name := "cpu86Opens", fn := fun _ => fun
  | [d1, d2, d3, d4] => { results := [.lit (.bool false)], args := [d1, d2, d3, d4] }
  | _ => none }
def Cpu86OpensWrongFalsely : Prop := cpu86OpensRow.holds Try.pinned (OpenSpec.ofChange cpu86OpensWrong)

/-- 'pidginlaw11.Cpu86AsEight': WHATEVER THE INPUT: true; the input reads as it did. -/
def cpu86AsEightSpec : ChangeSpec := { name := "cpu86AsEight", fn := fun _ => fun
  | [d1, d2, d3, d4] => { results := [.lit (.bool true)], args := [d1, d2, d3, d4] }
  | _ => none }
def cpu86AsEightRow : OpenClaim := { program := "ytnknopebjdgdjaa", sum := "b3625ee3e659a6de6a3b925a47887194882ae8f0f244f42b3d8c55ea800c851a", func := "pidgin/pidginlaw11.Cpu86AsEight", spec := "cpu86AsEight", unfollowed := true, recurses := true, apart := false }
def Cpu86AsEightSaid : Prop := cpu86AsEightRow.holds Try.pinned (OpenSpec.ofChange cpu86AsEightSpec)

/-- ITS FALSE NEIGHBOUR: 'it returns false'. Refute it at one input. -/
def cpu86AsEightWrong : ChangeSpec := { name := "cpu86AsEight", fn := fun _ => fun
  | [d1, d2, d3, d4] => { results := [.lit (.bool false)], args := [d1, d2, d3, d4] }
  | _ => none }
def Cpu86AsEightWrongFalsely : Prop := cpu86AsEightRow.holds Try.pinned (OpenSpec.ofChange cpu86AsEightWrong)

/-- 'pidginlaw11.Cpu86Jumps': WHATEVER THE INPUT: true; the input reads as it did. -/
def cpu86JumpsSpec : ChangeSpec := { name := "cpu86Jumps", fn := fun _ => fun
  | [d1, d2, d3] => { results := [.lit (.bool true)], args := [d1, d2, d3] }
  | _ => none }
def cpu86JumpsRow : OpenClaim := { program := "ytnknopebjdgdjaa", sum := "b3625ee3e659a6de6a3b925a47887194882ae8f0f244f42b3d8c55ea800c851a", func := "pidgin/pidginlaw11.Cpu86Jumps", spec := "cpu86Jumps", unfollowed := true, recurses := true, apart := false }
def Cpu86JumpsSaid : Prop := cpu86JumpsRow.holds Try.pinned (OpenSpec.ofChange cpu86JumpsSpec)

/-- ITS FALSE NEIGHBOUR: 'it returns false'. Refute it at one input. -/
def cpu86JumpsWrong : ChangeSpec := { name := "cpu86Jumps", fn := fun _ => fun
  | [d1, d2, d3] => { results := [.lit (.bool false)], args := [d1, d2, d3] }
  | _ => none }
def Cpu86JumpsWrongFalsely : Prop := cpu86JumpsRow.holds Try.pinned (OpenSpec.ofChange cpu86JumpsWrong)

/-- 'pidginlaw11.Cpu86Runs': WHATEVER THE INPUT: true; the input reads as it did. -/
def cpu86RunsSpec : ChangeSpec := { name := "cpu86Runs", fn := fun _ => fun
  | [d1, d2, d3] => { results := [.lit (.bool true)], args := [d1, d2, d3] }
  | _ => none }
def cpu86RunsRow : OpenClaim := { program := "ytnknopebjdgdjaa", sum := "b3625ee3e659a6de6a3b925a47887194882ae8f0f244f42b3d8c55ea800c851a", func := "pidgin/pidginlaw11.Cpu86Runs", spec := "cpu86Runs", unfollowed := true, recurses := true, apart := false }
def Cpu86RunsSaid : Prop := cpu86RunsRow.holds Try.pinned (OpenSpec.ofChange cpu86RunsSpec)

/-- ITS FALSE NEIGHBOUR: 'it returns false'. Refute it at one input. -/
def cpu86RunsWrong : ChangeSpec := { name := "cpu86Runs", fn := fun _ => fun
  | [d1, d2, d3] => { results := [.lit (.bool false)], args := [d1, d2, d3] }
  | _ => none }
def Cpu86RunsWrongFalsely : Prop := cpu86RunsRow.holds Try.pinned (OpenSpec.ofChange cpu86RunsWrong)

/-- 'pidginlaw11.Cpu86Flags': WHATEVER THE INPUT: true; the input reads as it did. -/
def cpu86FlagsSpec : ChangeSpec := { name := "cpu86Flags", fn := fun _ => fun
  | [d1, d2] => { results := [.lit (.bool true)], args := [d1, d2] }
  | _ => none }
def cpu86FlagsRow : OpenClaim := { program := "ytnknopebjdgdjaa", sum := "b3625ee3e659a6de6a3b925a47887194882ae8f0f244f42b3d8c55ea800c851a", func := "pidgin/pidginlaw11.Cpu86Flags", spec := "cpu86Flags", unfollowed := true, recurses := true, apart := false }
def Cpu86FlagsSaid : Prop := cpu86FlagsRow.holds Try.pinned (OpenSpec.ofChange cpu86FlagsSpec)

/-- ITS FALSE NEIGHBOUR: 'it returns false'. Refute it at one input. -/
def cpu86FlagsWrong : ChangeSpec := { name := "cpu86Flags", fn := fun _ => fun
  | [d1, d2] => { results := [.lit (.bool false)], args := [d1, d2] }
  | _ => none }
def Cpu86FlagsWrongFalsely : Prop := cpu86FlagsRow.holds Try.pinned (OpenSpec.ofChange cpu86FlagsWrong)

/-- 'pidginlaw11.Cpu86Nils': WHATEVER THE INPUT: true; the input reads as it did. -/
def cpu86NilsSpec : ChangeSpec := { name := "cpu86Nils", fn := fun _ => fun
  | [d1, d2] => { results := [.lit (.bool true)], args := [d1, d2] }
  | _ => none }
def cpu86NilsRow : OpenClaim := { program := "ytnknopebjdgdjaa", sum := "b3625ee3e659a6de6a3b925a47887194882ae8f0f244f42b3d8c55ea800c851a", func := "pidgin/pidginlaw11.Cpu86Nils", spec := "cpu86Nils", unfollowed := true, recurses := true, apart := false }
def Cpu86NilsSaid : Prop := cpu86NilsRow.holds Try.pinned (OpenSpec.ofChange cpu86NilsSpec)

/-- ITS FALSE NEIGHBOUR: 'it returns false'. Refute it at one input. -/
def cpu86NilsWrong : ChangeSpec := { name := "cpu86Nils", fn := fun _ => fun
  | [d1, d2] => { results := [.lit (.bool false)], args := [d1, d2] }
  | _ => none }
def Cpu86NilsWrongFalsely : Prop := cpu86NilsRow.holds Try.pinned (OpenSpec.ofChange cpu86NilsWrong)

/-- 'pidginlaw11.Cpu86Wide': WHATEVER THE INPUT: true; the input reads as it did. -/
def cpu86WideSpec : ChangeSpec := { name := "cpu86Wide", fn := fun _ => fun
  | [d1, d2, d3, d4] => { results := [.lit (.bool true)], args := [d1, d2, d3, d4] }
  | _ => none }
def cpu86WideRow : OpenClaim := { program := "ytnknopebjdgdjaa", sum := "b3625ee3e659a6de6a3b925a47887194882ae8f0f244f42b3d8c55ea800c851a", func := "pidgin/pidginlaw11.Cpu86Wide", spec := "cpu86Wide", unfollowed := true, recurses := true, apart := false }
def Cpu86WideSaid : Prop := cpu86WideRow.holds Try.pinned (OpenSpec.ofChange cpu86WideSpec)

/-- ITS FALSE NEIGHBOUR: 'it returns false'. Refute it at one input. -/
def cpu86WideWrong : ChangeSpec := { name := "cpu86Wide", fn := fun _ => fun
  | [d1, d2, d3, d4] => { results := [.lit (.bool false)], args := [d1, d2, d3, d4] }
  | _ => none }
def Cpu86WideWrongFalsely : Prop := cpu86WideRow.holds Try.pinned (OpenSpec.ofChange cpu86WideWrong)

/- THE SECOND FORM. 'bulk': how many values and letters a reading holds, each counted each time it is reached (what is shared counts as often as it is met; a slice's spare places count too). A statement '..UptoSaid' is the law's where the arguments, and the package variables that the reading takes, are together of bulk at most 1048576: NARROWER than '..Said'. Prove '..Said' where nothing that the law and all that it calls make is longer than what came in: it says more and counts as full. Else prove '..UptoSaid'. A law counts once. -/
mutual
def uptoBulk {H : Type} : DataW H → Nat
  | .lit (.string bytes) => bytes.length + 1
  | .lit _ => 1
  | .nil => 1
  | .ptr d => uptoBulk d + 1
  | .slice elems spare => uptoBulkAll elems + uptoBulkAll spare + 1
  | .agg parts => uptoBulkAll parts + 1
  | .iface _ d => uptoBulk d + 1
  | .map entries => uptoBulkEntries entries + 1
  | .held _ => 1
def uptoBulkAll {H : Type} : List (DataW H) → Nat
  | [] => 0
  | d :: r => uptoBulk d + uptoBulkAll r
def uptoBulkEntries {H : Type} : List (Lit × DataW H) → Nat
  | [] => 0
  | x :: r => uptoBulkEntry x + uptoBulkEntries r
def uptoBulkEntry {H : Type} : Lit × DataW H → Nat
  | (.string bytes, d) => bytes.length + uptoBulk d + 1
  | (_, d) => uptoBulk d + 1
 end
def uptoSmall : (H : Type) → List (DataW H) → Bool := fun _ ds => decide (uptoBulkAll ds ≤ 1048576)
def OpenSpec.upto (s : _root_.Go.ChangeSpec) : _root_.Go.OpenSpec := { _root_.Go.OpenSpec.ofChange s with cond := some uptoSmall }

/-- 'pidginlaw11.Cpu86Opens', WHERE WHAT IT READS IS OF BULK AT MOST 1048576: true; the input reads as it did. -/
def cpu86OpensUptoRow : OpenClaim := { program := "ytnknopebjdgdjaa", sum := "b3625ee3e659a6de6a3b925a47887194882ae8f0f244f42b3d8c55ea800c851a", func := "pidgin/pidginlaw11.Cpu86Opens", spec := "cpu86Opens", unfollowed := true, recurses := true, apart := false, narrowed := true }
def Cpu86OpensUptoSaid : Prop := cpu86OpensUptoRow.holds Try.pinned (OpenSpec.upto cpu86OpensSpec)

/-- 'pidginlaw11.Cpu86AsEight', WHERE WHAT IT READS IS OF BULK AT MOST 1048576: true; the input reads as it did. -/
def cpu86AsEightUptoRow : OpenClaim := { program := "ytnknopebjdgdjaa", sum := "b3625ee3e659a6de6a3b925a47887194882ae8f0f244f42b3d8c55ea800c851a", func := "pidgin/pidginlaw11.Cpu86AsEight", spec := "cpu86AsEight", unfollowed := true, recurses := true, apart := false, narrowed := true }
def Cpu86AsEightUptoSaid : Prop := cpu86AsEightUptoRow.holds Try.pinned (OpenSpec.upto cpu86AsEightSpec)

/-- 'pidginlaw11.Cpu86Jumps', WHERE WHAT IT READS IS OF BULK AT MOST 1048576: true; the input reads as it did. -/
def cpu86JumpsUptoRow : OpenClaim := { program := "ytnknopebjdgdjaa", sum := "b3625ee3e659a6de6a3b925a47887194882ae8f0f244f42b3d8c55ea800c851a", func := "pidgin/pidginlaw11.Cpu86Jumps", spec := "cpu86Jumps", unfollowed := true, recurses := true, apart := false, narrowed := true }
def Cpu86JumpsUptoSaid : Prop := cpu86JumpsUptoRow.holds Try.pinned (OpenSpec.upto cpu86JumpsSpec)

/-- 'pidginlaw11.Cpu86Runs', WHERE WHAT IT READS IS OF BULK AT MOST 1048576: true; the input reads as it did. -/
def cpu86RunsUptoRow : OpenClaim := { program := "ytnknopebjdgdjaa", sum := "b3625ee3e659a6de6a3b925a47887194882ae8f0f244f42b3d8c55ea800c851a", func := "pidgin/pidginlaw11.Cpu86Runs", spec := "cpu86Runs", unfollowed := true, recurses := true, apart := false, narrowed := true }
def Cpu86RunsUptoSaid : Prop := cpu86RunsUptoRow.holds Try.pinned (OpenSpec.upto cpu86RunsSpec)

/-- 'pidginlaw11.Cpu86Flags', WHERE WHAT IT READS IS OF BULK AT MOST 1048576: true; the input reads as it did. -/
def cpu86FlagsUptoRow : OpenClaim := { program := "ytnknopebjdgdjaa", sum := "b3625ee3e659a6de6a3b925a47887194882ae8f0f244f42b3d8c55ea800c851a", func := "pidgin/pidginlaw11.Cpu86Flags", spec := "cpu86Flags", unfollowed := true, recurses := true, apart := false, narrowed := true }
def Cpu86FlagsUptoSaid : Prop := cpu86FlagsUptoRow.holds Try.pinned (OpenSpec.upto cpu86FlagsSpec)

/-- 'pidginlaw11.Cpu86Nils', WHERE WHAT IT READS IS OF BULK AT MOST 1048576: true; the input reads as it did. -/
def cpu86NilsUptoRow : OpenClaim := { program := "ytnknopebjdgdjaa", sum := "b3625ee3e659a6de6a3b925a47887194882ae8f0f244f42b3d8c55ea800c851a", func := "pidgin/pidginlaw11.Cpu86Nils", spec := "cpu86Nils", unfollowed := true, recurses := true, apart := false, narrowed := true }
def Cpu86NilsUptoSaid : Prop := cpu86NilsUptoRow.holds Try.pinned (OpenSpec.upto cpu86NilsSpec)

/-- 'pidginlaw11.Cpu86Wide', WHERE WHAT IT READS IS OF BULK AT MOST 1048576: true; the input reads as it did. -/
def cpu86WideUptoRow : OpenClaim := { program := "ytnknopebjdgdjaa", sum := "b3625ee3e659a6de6a3b925a47887194882ae8f0f244f42b3d8c55ea800c851a", func := "pidgin/pidginlaw11.Cpu86Wide", spec := "cpu86Wide", unfollowed := true, recurses := true, apart := false, narrowed := true }
def Cpu86WideUptoSaid : Prop := cpu86WideUptoRow.holds Try.pinned (OpenSpec.upto cpu86WideSpec)

end Rows
end Go.Proofs.Ytnknopebjdgdjaa
