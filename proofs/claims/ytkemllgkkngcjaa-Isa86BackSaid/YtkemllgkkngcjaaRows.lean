/-
  No cell of these rows narrows 'for every input' (looked for: loops, veiled, ifaces, maps, wideKeys, modest, calm, conditions, laid).
  DERIVED. THE GIVEN ROWS OF THIS SEAT. 4 by the template 'for every input the law returns true; each argument reads behind the call as it read before'; 0 by the template 'total and deterministic' (their statements: YtkemllgkkngcjaaTotals.lean).
  GIVEN WITH THE SEED: the statements are not yours to turn. If you find one false, say at which input.
  Laid BY PROGRAM, IN A SANDBOX (cutbox-rows.mjs): the forced cells as the released guide's own fill.sh prints them over the translation 5aead177263bad5a… (all of the seat's roots in one cut). By AI agents, Wed Nov 11 2026. No macro, syntax, notation, axiom, sorry.
-/
import Derived.Test.YtkemllgkkngcjaaChecked
import GoSem.Claim
import GoSem.ClaimJoined
import GoSem.ClaimMapViews
import Derived.JoinedTies
import Derived.KernelRfl
namespace Go.Proofs.Ytkemllgkkngcjaa
/- THE CELL 'sum', in the pinned program and in every row, IS THE sha256 OF THE DUMP (.gsa) THAT YtkemllgkkngcjaaProg.lean LOADS. Nothing in Lean hashes anything: it is a label: what it is worth is what the hold of that sum in a sandbox is worth. -/
noncomputable def Try.pinned : Pinned := { name := "ytkemllgkkngcjaa", sum := "5aead177263bad5ad9220261c412354419e169384a86a57a46f9ecd4873b0a28", checked := Try.checked }
namespace Rows
def none {H : Type} : Left H := { results := [], args := [] }

/-- 'pidginlaw08.Isa86Whole': WHATEVER THE INPUT: true; the input reads as it did. -/
def isa86WholeSpec : ChangeSpec := { name := "isa86Whole", fn := fun _ => fun
  | [d] => { results := [.lit (.bool true)], args := [d] }
  | _ => none }
def isa86WholeRow : OpenClaim := { program := "ytkemllgkkngcjaa", sum := "5aead177263bad5ad9220261c412354419e169384a86a57a46f9ecd4873b0a28", func := "pidgin/pidginlaw08.Isa86Whole", spec := "isa86Whole", apart := false }
def Isa86WholeSaid : Prop := isa86WholeRow.holds Try.pinned (OpenSpec.ofChange isa86WholeSpec)

/-- ITS FALSE NEIGHBOUR: 'it returns false'. Refute it at one input. -/
def isa86WholeWrong : ChangeSpec := { name := "isa86Whole", fn := fun _ => fun
  | [d] => { results := [.lit (.bool false)], args := [d] }
  | _ => none }
def Isa86WholeWrongFalsely : Prop := isa86WholeRow.holds Try.pinned (OpenSpec.ofChange isa86WholeWrong)

/-- 'pidginlaw08.Isa86Apart': WHATEVER THE INPUT: true; the input reads as it did. -/
def isa86ApartSpec : ChangeSpec := { name := "isa86Apart", fn := fun _ => fun
  | [d1, d2] => { results := [.lit (.bool true)], args := [d1, d2] }
  | _ => none }
def isa86ApartRow : OpenClaim := { program := "ytkemllgkkngcjaa", sum := "5aead177263bad5ad9220261c412354419e169384a86a57a46f9ecd4873b0a28", func := "pidgin/pidginlaw08.Isa86Apart", spec := "isa86Apart", apart := false }
def Isa86ApartSaid : Prop := isa86ApartRow.holds Try.pinned (OpenSpec.ofChange isa86ApartSpec)

/-- ITS FALSE NEIGHBOUR: 'it returns false'. Refute it at one input. -/
def isa86ApartWrong : ChangeSpec := { name := "isa86Apart", fn := fun _ => fun
  | [d1, d2] => { results := [.lit (.bool false)], args := [d1, d2] }
  | _ => none }
def Isa86ApartWrongFalsely : Prop := isa86ApartRow.holds Try.pinned (OpenSpec.ofChange isa86ApartWrong)

/-- 'pidginlaw08.Isa86Near': WHATEVER THE INPUT: true; the input reads as it did. -/
def isa86NearSpec : ChangeSpec := { name := "isa86Near", fn := fun _ => fun
  | [d1, d2] => { results := [.lit (.bool true)], args := [d1, d2] }
  | _ => none }
def isa86NearRow : OpenClaim := { program := "ytkemllgkkngcjaa", sum := "5aead177263bad5ad9220261c412354419e169384a86a57a46f9ecd4873b0a28", func := "pidgin/pidginlaw08.Isa86Near", spec := "isa86Near", apart := false }
def Isa86NearSaid : Prop := isa86NearRow.holds Try.pinned (OpenSpec.ofChange isa86NearSpec)

/-- ITS FALSE NEIGHBOUR: 'it returns false'. Refute it at one input. -/
def isa86NearWrong : ChangeSpec := { name := "isa86Near", fn := fun _ => fun
  | [d1, d2] => { results := [.lit (.bool false)], args := [d1, d2] }
  | _ => none }
def Isa86NearWrongFalsely : Prop := isa86NearRow.holds Try.pinned (OpenSpec.ofChange isa86NearWrong)

/-- 'pidginlaw08.Isa86Back': WHATEVER THE INPUT: true; the input reads as it did. -/
def isa86BackSpec : ChangeSpec := { name := "isa86Back", fn := fun _ => fun
  | [d1, d2] => { results := [.lit (.bool true)], args := [d1, d2] }
  | _ => none }
def isa86BackRow : OpenClaim := { program := "ytkemllgkkngcjaa", sum := "5aead177263bad5ad9220261c412354419e169384a86a57a46f9ecd4873b0a28", func := "pidgin/pidginlaw08.Isa86Back", spec := "isa86Back", apart := false }
def Isa86BackSaid : Prop := isa86BackRow.holds Try.pinned (OpenSpec.ofChange isa86BackSpec)

/-- ITS FALSE NEIGHBOUR: 'it returns false'. Refute it at one input. -/
def isa86BackWrong : ChangeSpec := { name := "isa86Back", fn := fun _ => fun
  | [d1, d2] => { results := [.lit (.bool false)], args := [d1, d2] }
  | _ => none }
def Isa86BackWrongFalsely : Prop := isa86BackRow.holds Try.pinned (OpenSpec.ofChange isa86BackWrong)

/- THE SECOND FORM. 'bulk': how many values and letters a reading holds, each counted each time it is reached (what is shared counts as often as it is met; a slice's spare places count too). A statement '..UptoSaid' is the law's where the arguments, and the package variables that the reading takes, are together of bulk at most 1048576: NARROWER than '..Said'. Prove '..Said' where nothing that the law and all that it calls make is longer than what came in: it says more and counts as full. Else prove '..UptoSaid'. A law counts once. -/
mutual
def uptoBulk {H : Type} : DataW H → Nat
  | .lit (.string bytes) => bytes.length + 1
  | .lit _ => 1
  | .nil => 1
  | .ptr d => uptoBulk d + 1
  | .slice elems spare => uptoBulkAll elems + uptoBulkAll spare + 1
  | .agg parts => uptoBulkAll parts + 1
  | .iface _ d => uptoBulk d + 1
  | .map entries => uptoBulkEntries entries + 1
  | .held _ => 1
def uptoBulkAll {H : Type} : List (DataW H) → Nat
  | [] => 0
  | d :: r => uptoBulk d + uptoBulkAll r
def uptoBulkEntries {H : Type} : List (Lit × DataW H) → Nat
  | [] => 0
  | x :: r => uptoBulkEntry x + uptoBulkEntries r
def uptoBulkEntry {H : Type} : Lit × DataW H → Nat
  | (.string bytes, d) => bytes.length + uptoBulk d + 1
  | (_, d) => uptoBulk d + 1
 end
def uptoSmall : (H : Type) → List (DataW H) → Bool := fun _ ds => decide (uptoBulkAll ds ≤ 1048576)
def OpenSpec.upto (s : _root_.Go.ChangeSpec) : _root_.Go.OpenSpec := { _root_.Go.OpenSpec.ofChange s with cond := some uptoSmall }

/-- 'pidginlaw08.Isa86Whole', WHERE WHAT IT READS IS OF BULK AT MOST 1048576: true; the input reads as it did. -/
def isa86WholeUptoRow : OpenClaim := { program := "ytkemllgkkngcjaa", sum := "5aead177263bad5ad9220261c412354419e169384a86a57a46f9ecd4873b0a28", func := "pidgin/pidginlaw08.Isa86Whole", spec := "isa86Whole", apart := false, narrowed := true }
def Isa86WholeUptoSaid : Prop := isa86WholeUptoRow.holds Try.pinned (OpenSpec.upto isa86WholeSpec)

/-- 'pidginlaw08.Isa86Apart', WHERE WHAT IT READS IS OF BULK AT MOST 1048576: true; the input reads as it did. -/
def isa86ApartUptoRow : OpenClaim := { program := "ytkemllgkkngcjaa", sum := "5aead177263bad5ad9220261c412354419e169384a86a57a46f9ecd4873b0a28", func := "pidgin/pidginlaw08.Isa86Apart", spec := "isa86Apart", apart := false, narrowed := true }
def Isa86ApartUptoSaid : Prop := isa86ApartUptoRow.holds Try.pinned (OpenSpec.upto isa86ApartSpec)

/-- 'pidginlaw08.Isa86Near', WHERE WHAT IT READS IS OF BULK AT MOST 1048576: true; the input reads as it did. -/
def isa86NearUptoRow : OpenClaim := { program := "ytkemllgkkngcjaa", sum := "5aead177263bad5ad9220261c412354419e169384a86a57a46f9ecd4873b0a28", func := "pidgin/pidginlaw08.Isa86Near", spec := "isa86Near", apart := false, narrowed := true }
def Isa86NearUptoSaid : Prop := isa86NearUptoRow.holds Try.pinned (OpenSpec.upto isa86NearSpec)

/-- 'pidginlaw08.Isa86Back', WHERE WHAT IT READS IS OF BULK AT MOST 1048576: true; the input reads as it did. -/
def isa86BackUptoRow : OpenClaim := { program := "ytkemllgkkngcjaa", sum := "5aead177263bad5ad9220261c412354419e169384a86a57a46f9ecd4873b0a28", func := "pidgin/pidginlaw08.Isa86Back", spec := "isa86Back", apart := false, narrowed := true }
def Isa86BackUptoSaid : Prop := isa86BackUptoRow.holds Try.pinned (OpenSpec.upto isa86BackSpec)

end Rows
end Go.Proofs.Ytkemllgkkngcjaa
