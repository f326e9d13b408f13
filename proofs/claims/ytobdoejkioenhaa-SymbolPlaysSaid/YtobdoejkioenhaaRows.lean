/-
  No cell of these rows narrows 'for every input' (looked for: loops, veiled, ifaces, maps, wideKeys, modest, calm, conditions, laid).
  DERIVED. THE GIVEN ROWS OF THIS SEAT. 4 by the template 'for every input the law returns true; each argument reads behind the call as it read before'; 0 by the template 'total and deterministic' (their statements: YtobdoejkioenhaaTotals.lean).
  GIVEN WITH THE SEED: the statements are not yours to turn. If you find one false, say at which input.
  Laid BY PROGRAM, IN A SANDBOX (cutbox-rows.mjs): the forced cells as the released guide's own fill.sh prints them over the translation 4f9bce56fd3e6aac… (all of the seat's roots in one cut). By AI agents, Wed Nov 11 2026. No macro, syntax, notation, axiom, sorry.
-/
import Derived.Test.YtobdoejkioenhaaChecked
import GoSem.Claim
import GoSem.ClaimJoined
import GoSem.ClaimMapViews
import Derived.JoinedTies
import Derived.KernelRfl
namespace Go.Proofs.Ytobdoejkioenhaa
/- THE CELL 'sum', in the pinned program and in every row, IS THE sha256 OF THE DUMP (.gsa) THAT YtobdoejkioenhaaProg.lean LOADS. Nothing in Lean hashes anything: it is a label: what it is worth is what the hold of that sum in a sandbox is worth. -/
noncomputable def Try.pinned : Pinned := { name := "ytobdoejkioenhaa", sum := "4f9bce56fd3e6aac2ad035ebd0432574e10a394dff17e0645496664330a3b613", checked := Try.checked }
namespace Rows
def none {H : Type} : Left H := { results := [], args := [] }

/-- 'pidginlaw13.SymbolFull': WHATEVER THE INPUT: true; the input reads as it did. -/
def symbolFullSpec : ChangeSpec := { name := "symbolFull", fn := fun _ => fun
  | [d1, d2] => { results := [.lit (.bool true)], args := [d1, d2] }
  | _ => none }
def symbolFullRow : OpenClaim := { program := "ytobdoejkioenhaa", sum := "4f9bce56fd3e6aac2ad035ebd0432574e10a394dff17e0645496664330a3b613", func := "pidgin/pidginlaw13.SymbolFull", spec := "symbolFull", apart := false }
def SymbolFullSaid : Prop := symbolFullRow.holds Try.pinned (OpenSpec.ofChange symbolFullSpec)

/-- ITS FALSE NEIGHBOUR: 'it returns false'. Refute it at one input. -/
def symbolFullWrong : ChangeSpec := { name := "symbolFull", fn := fun _ => fun
  | [d1, d2] => { results := [.lit (.bool false)], args := [d1, d2] }
  | _ => none }
def SymbolFullWrongFalsely : Prop := symbolFullRow.holds Try.pinned (OpenSpec.ofChange symbolFullWrong)

/-- 'pidginlaw13.SymbolOrder': WHATEVER THE INPUT: true; the input reads as it did. -/
def symbolOrderSpec : ChangeSpec := { name := "symbolOrder", fn := fun _ => fun
  | [d1, d2, d3] => { results := [.lit (.bool true)], args := [d1, d2, d3] }
  | _ => none }
def symbolOrderRow : OpenClaim := { program := "ytobdoejkioenhaa", sum := "4f9bce56fd3e6aac2ad035ebd0432574e10a394dff17e0645496664330a3b613", func := "pidgin/pidginlaw13.SymbolOrder", spec := "symbolOrder", unfollowed := true, recurses := true, apart := false }
def SymbolOrderSaid : Prop := symbolOrderRow.holds Try.pinned (OpenSpec.ofChange symbolOrderSpec)

/-- ITS FALSE NEIGHBOUR: 'it returns false'. Refute it at one input. -/
def symbolOrderWrong : ChangeSpec := { name := "symbolOrder", fn := fun _ => fun
  | [d1, d2, d3] => { results := [.lit (.bool false)], args := [d1, d2, d3] }
  | _ => none }
def SymbolOrderWrongFalsely : Prop := symbolOrderRow.holds Try.pinned (OpenSpec.ofChange symbolOrderWrong)

/-- 'pidginlaw13.SymbolPlays': WHATEVER THE INPUT: true; the input reads as it did. -/
def symbolPlaysSpec : ChangeSpec := { name := "symbolPlays", fn := fun _ => fun
  | [d] => { results := [.lit (.bool true)], args := [d] }
  | _ => none }
def symbolPlaysRow : OpenClaim := { program := "ytobdoejkioenhaa", sum := "4f9bce56fd3e6aac2ad035ebd0432574e10a394dff17e0645496664330a3b613", func := "pidgin/pidginlaw13.SymbolPlays", spec := "symbolPlays", unfollowed := true, recurses := true, apart := false }
def SymbolPlaysSaid : Prop := symbolPlaysRow.holds Try.pinned (OpenSpec.ofChange symbolPlaysSpec)

/-- ITS FALSE NEIGHBOUR: 'it returns false'. Refute it at one input. -/
def symbolPlaysWrong : ChangeSpec := { name := "symbolPlays", fn := fun _ => fun
  | [d] => { results := [.lit (.bool false)], args := [d] }
  | _ => none }
def SymbolPlaysWrongFalsely : Prop := symbolPlaysRow.holds Try.pinned (OpenSpec.ofChange symbolPlaysWrong)

/-- 'pidginlaw13.SymbolStays': WHATEVER THE INPUT: true; the input reads as it did. -/
def symbolStaysSpec : ChangeSpec := { name := "symbolStays", fn := fun _ => fun
  | [d] => { results := [.lit (.bool true)], args := [d] }
  | _ => none }
def symbolStaysRow : OpenClaim := { program := "ytobdoejkioenhaa", sum := "4f9bce56fd3e6aac2ad035ebd0432574e10a394dff17e0645496664330a3b613", func := "pidgin/pidginlaw13.SymbolStays", spec := "symbolStays", unfollowed := true, recurses := true, apart := false }
def SymbolStaysSaid : Prop := symbolStaysRow.holds Try.pinned (OpenSpec.ofChange symbolStaysSpec)

/-- ITS FALSE NEIGHBOUR: 'it returns false'. Refute it at one input. -/
def symbolStaysWrong : ChangeSpec := { name := "symbolStays", fn := fun _ => fun
  | [d] => { results := [.lit (.bool false)], args := [d] }
  | _ => none }
def SymbolStaysWrongFalsely : Prop := symbolStaysRow.holds Try.pinned (OpenSpec.ofChange symbolStaysWrong)

/- THE SECOND FORM. 'bulk': how many values and letters a reading holds, each counted each time it is reached (what is shared counts as often as it is met; a slice's spare places count too). A statement '..UptoSaid' is the law's where the arguments, and the package variables that the reading takes, are together of bulk at most 1048576: NARROWER than '..Said'. Prove '..Said' where nothing that the law and all that it calls make is longer than what came in: it says more and counts as full. Else prove '..UptoSaid'. A law counts once. -/
mutual
def uptoBulk {H : Type} : DataW H → Nat
  | .lit (.string bytes) => bytes.length + 1
  | .lit _ => 1
  | .nil => 1
  | .ptr d => uptoBulk d + 1
  | .slice elems spare => uptoBulkAll elems + uptoBulkAll spare + 1
  | .agg parts => uptoBulkAll parts + 1
  | .iface _ d => uptoBulk d + 1
  | .map entries => uptoBulkEntries entries + 1
  | .held _ => 1
def uptoBulkAll {H : Type} : List (DataW H) → Nat
  | [] => 0
  | d :: r => uptoBulk d + uptoBulkAll r
def uptoBulkEntries {H : Type} : List (Lit × DataW H) → Nat
  | [] => 0
  | x :: r => uptoBulkEntry x + uptoBulkEntries r
def uptoBulkEntry {H : Type} : Lit × DataW H → Nat
  | (.string bytes, d) => bytes.length + uptoBulk d + 1
  | (_, d) => uptoBulk d + 1
 end
def uptoSmall : (H : Type) → List (DataW H) → Bool := fun _ ds => decide (uptoBulkAll ds ≤ 1048576)
def OpenSpec.upto (s : _root_.Go.ChangeSpec) : _root_.Go.OpenSpec := { _root_.Go.OpenSpec.ofChange s with cond := some uptoSmall }

/-- 'pidginlaw13.SymbolFull', WHERE WHAT IT READS IS OF BULK AT MOST 1048576: true; the input reads as it did. -/
def symbolFullUptoRow : OpenClaim := { program := "ytobdoejkioenhaa", sum := "4f9bce56fd3e6aac2ad035ebd0432574e10a394dff17e0645496664330a3b613", func := "pidgin/pidginlaw13.SymbolFull", spec := "symbolFull", apart := false, narrowed := true }
def SymbolFullUptoSaid : Prop := symbolFullUptoRow.holds Try.pinned (OpenSpec.upto symbolFullSpec)

/-- 'pidginlaw13.SymbolOrder', WHERE WHAT IT READS IS OF BULK AT MOST 1048576: true; the input reads as it did. -/
def symbolOrderUptoRow : OpenClaim := { program := "ytobdoejkioenhaa", sum := "4f9bce56fd3e6aac2ad035ebd0432574e10a394dff17e0645496664330a3b613", func := "pidgin/pidginlaw13.SymbolOrder", spec := "symbolOrder", unfollowed := true, recurses := true, apart := false, narrowed := true }
def SymbolOrderUptoSaid : Prop := symbolOrderUptoRow.holds Try.pinned (OpenSpec.upto symbolOrderSpec)

/-- 'pidginlaw13.SymbolPlays', WHERE WHAT IT READS IS OF BULK AT MOST 1048576: true; the input reads as it did. -/
def symbolPlaysUptoRow : OpenClaim := { program := "ytobdoejkioenhaa", sum := "4f9bce56fd3e6aac2ad035ebd0432574e10a394dff17e0645496664330a3b613", func := "pidgin/pidginlaw13.SymbolPlays", spec := "symbolPlays", unfollowed := true, recurses := true, apart := false, narrowed := true }
def SymbolPlaysUptoSaid : Prop := symbolPlaysUptoRow.holds Try.pinned (OpenSpec.upto symbolPlaysSpec)

/-- 'pidginlaw13.SymbolStays', WHERE WHAT IT READS IS OF BULK AT MOST 1048576: true; the input reads as it did. -/
def symbolStaysUptoRow : OpenClaim := { program := "ytobdoejkioenhaa", sum := "4f9bce56fd3e6aac2ad035ebd0432574e10a394dff17e0645496664330a3b613", func := "pidgin/pidginlaw13.SymbolStays", spec := "symbolStays", unfollowed := true, recurses := true, apart := false, narrowed := true }
def SymbolStaysUptoSaid : Prop := symbolStaysUptoRow.holds Try.pinned (OpenSpec.upto symbolStaysSpec)

end Rows
end Go.Proofs.Ytobdoejkioenhaa
