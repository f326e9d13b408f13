/-
  No cell of these rows narrows 'for every input' (looked for: loops, veiled, ifaces, maps, wideKeys, modest, calm, conditions, laid).
  DERIVED. THE GIVEN ROWS OF THIS SEAT. 6 by the template 'for every input the law returns true; each argument reads behind the call as it read before'; 0 by the template 'total and deterministic' (their statements: YtofimkcfenemlaaTotals.lean).
  GIVEN WITH THE SEED: the statements are not yours to turn. If you find one false, say at which input.
  Laid BY PROGRAM, IN A SANDBOX (cutbox-rows.mjs): the forced cells as the released guide's own fill.sh prints them over the translation 460cb4094b556a06… (all of the seat's roots in one cut). By AI agents, Wed Nov 11 2026. No macro, syntax, notation, axiom, sorry.
-/
import Derived.Test.YtofimkcfenemlaaChecked
import GoSem.Claim
import GoSem.ClaimJoined
import GoSem.ClaimMapViews
import Derived.JoinedTies
import Derived.KernelRfl
namespace Go.Proofs.Ytofimkcfenemlaa
/- THE CELL 'sum', in the pinned program and in every row, IS THE sha256 OF THE DUMP (.gsa) THAT YtofimkcfenemlaaProg.lean LOADS. Nothing in Lean hashes anything: it is a label: what it is worth is what the hold of that sum in a sandbox is worth. -/
noncomputable def Try.pinned : Pinned := { name := "ytofimkcfenemlaa", sum := "460cb4094b556a0666efa12add316034acbbfd9e53d9591a91553fc51432b155", checked := Try.checked }
namespace Rows
def none {H : Type} : Left H := { results := [], args := [] }

/-- 'pidginlaw06.Isa80Forms': WHATEVER THE INPUT: true; the input reads as it did. -/
def isa80FormsSpec : ChangeSpec := { name := "isa80Forms", fn := fun _ => fun
  | [d] => { results := [.lit (.bool true)], args := [d] }
  | _ => none }
def isa80FormsRow : OpenClaim := { program := "ytofimkcfenemlaa", sum := "460cb4094b556a0666efa12add316034acbbfd9e53d9591a91553fc51432b155", func := "pidgin/pidginlaw06.Isa80Forms", spec := "isa80Forms", apart := false }
def Isa80FormsSaid : Prop := isa80FormsRow.holds Try.pinned (OpenSpec.ofChange isa80FormsSpec)

/-- ITS FALSE NEIGHBOUR: 'it returns false'. Refute it at one input. -/
def isa80FormsWrong : ChangeSpec := { name := "isa80Forms", fn := fun _ => fun
  | [d] => { results := [.lit (.bool false)], args := [d] }
  | _ => none }
def Isa80FormsWrongFalsely : Prop := isa80FormsRow.holds Try.pinned (OpenSpec.ofChange isa80FormsWrong)

/-- 'pidginlaw06.Isa80Moves': WHATEVER THE INPUT: true; the input reads as it did. -/
def isa80MovesSpec : ChangeSpec := { name := "isa80Moves", fn := fun _ => fun
  | [d1, d2] => { results := [.lit (.bool true)], args := [d1, d2] }
  | _ => none }
def isa80MovesRow : OpenClaim := { program := "ytofimkcfenemlaa", sum := "460cb4094b556a0666efa12add316034acbbfd9e53d9591a91553fc51432b155", func := "pidgin/pidginlaw06.Isa80Moves", spec := "isa80Moves", apart := false }
def Isa80MovesSaid : Prop := isa80MovesRow.holds Try.pinned (OpenSpec.ofChange isa80MovesSpec)

/-- ITS FALSE NEIGHBOUR: 'it returns false'. Refute it at one input. -/
def isa80MovesWrong : ChangeSpec := { name := "isa80Moves", fn := fun _ => fun
  | [d1, d2] => { results := [.lit (.bool false)], args := [d1, d2] }
  | _ => none }
def Isa80MovesWrongFalsely : Prop := isa80MovesRow.holds Try.pinned (OpenSpec.ofChange isa80MovesWrong)

/-- 'pidginlaw06.Isa80Bytes': WHATEVER THE INPUT: true; the input reads as it did. -/
def isa80BytesSpec : ChangeSpec := { name := "isa80Bytes", fn := fun _ => fun
  | [d1, d2, d3] => { results := [.lit (.bool true)], args := [d1, d2, d3] }
  | _ => none }
def isa80BytesRow : OpenClaim := { program := "ytofimkcfenemlaa", sum := "460cb4094b556a0666efa12add316034acbbfd9e53d9591a91553fc51432b155", func := "pidgin/pidginlaw06.Isa80Bytes", spec := "isa80Bytes", apart := false }
def Isa80BytesSaid : Prop := isa80BytesRow.holds Try.pinned (OpenSpec.ofChange isa80BytesSpec)

/-- ITS FALSE NEIGHBOUR: 'it returns false'. Refute it at one input. -/
def isa80BytesWrong : ChangeSpec := { name := "isa80Bytes", fn := fun _ => fun
  | [d1, d2, d3] => { results := [.lit (.bool false)], args := [d1, d2, d3] }
  | _ => none }
def Isa80BytesWrongFalsely : Prop := isa80BytesRow.holds Try.pinned (OpenSpec.ofChange isa80BytesWrong)

/-- 'pidginlaw06.Isa80Back': WHATEVER THE INPUT: true; the input reads as it did. -/
def isa80BackSpec : ChangeSpec := { name := "isa80Back", fn := fun _ => fun
  | [d1, d2, d3] => { results := [.lit (.bool true)], args := [d1, d2, d3] }
  | _ => none }
def isa80BackRow : OpenClaim := { program := "ytofimkcfenemlaa", sum := "460cb4094b556a0666efa12add316034acbbfd9e53d9591a91553fc51432b155", func := "pidgin/pidginlaw06.Isa80Back", spec := "isa80Back", apart := false }
def Isa80BackSaid : Prop := isa80BackRow.holds Try.pinned (OpenSpec.ofChange isa80BackSpec)

/-- ITS FALSE NEIGHBOUR: 'it returns false'. Refute it at one input. -/
def isa80BackWrong : ChangeSpec := { name := "isa80Back", fn := fun _ => fun
  | [d1, d2, d3] => { results := [.lit (.bool false)], args := [d1, d2, d3] }
  | _ => none }
def Isa80BackWrongFalsely : Prop := isa80BackRow.holds Try.pinned (OpenSpec.ofChange isa80BackWrong)

/-- 'pidginlaw06.Isa80Many': WHATEVER THE INPUT: true; the input reads as it did. -/
def isa80ManySpec : ChangeSpec := { name := "isa80Many", fn := fun _ => fun
  | [d] => { results := [.lit (.bool true)], args := [d] }
  | _ => none }
def isa80ManyRow : OpenClaim := { program := "ytofimkcfenemlaa", sum := "460cb4094b556a0666efa12add316034acbbfd9e53d9591a91553fc51432b155", func := "pidgin/pidginlaw06.Isa80Many", spec := "isa80Many", apart := false }
def Isa80ManySaid : Prop := isa80ManyRow.holds Try.pinned (OpenSpec.ofChange isa80ManySpec)

/-- ITS FALSE NEIGHBOUR: 'it returns false'. Refute it at one input. -/
def isa80ManyWrong : ChangeSpec := { name := "isa80Many", fn := fun _ => fun
  | [d] => { results := [.lit (.bool false)], args := [d] }
  | _ => none }
def Isa80ManyWrongFalsely : Prop := isa80ManyRow.holds Try.pinned (OpenSpec.ofChange isa80ManyWrong)

/-- 'pidginlaw06.Isa80Kinds': WHATEVER THE INPUT: true; the input reads as it did. -/
def isa80KindsSpec : ChangeSpec := { name := "isa80Kinds", fn := fun _ => fun
  | [d] => { results := [.lit (.bool true)], args := [d] }
  | _ => none }
def isa80KindsRow : OpenClaim := { program := "ytofimkcfenemlaa", sum := "460cb4094b556a0666efa12add316034acbbfd9e53d9591a91553fc51432b155", func := "pidgin/pidginlaw06.Isa80Kinds", spec := "isa80Kinds", apart := false }
def Isa80KindsSaid : Prop := isa80KindsRow.holds Try.pinned (OpenSpec.ofChange isa80KindsSpec)

/-- ITS FALSE NEIGHBOUR: 'it returns false'. Refute it at one input. -/
def isa80KindsWrong : ChangeSpec := { name := "isa80Kinds", fn := fun _ => fun
  | [d] => { results := [.lit (.bool false)], args := [d] }
  | _ => none }
def Isa80KindsWrongFalsely : Prop := isa80KindsRow.holds Try.pinned (OpenSpec.ofChange isa80KindsWrong)

/- THE SECOND FORM. 'bulk': how many values and letters a reading holds, each counted each time it is reached (what is shared counts as often as it is met; a slice's spare places count too). A statement '..UptoSaid' is the law's where the arguments, and the package variables that the reading takes, are together of bulk at most 1048576: NARROWER than '..Said'. Prove '..Said' where nothing that the law and all that it calls make is longer than what came in: it says more and counts as full. Else prove '..UptoSaid'. A law counts once. -/
mutual
def uptoBulk {H : Type} : DataW H → Nat
  | .lit (.string bytes) => bytes.length + 1
  | .lit _ => 1
  | .nil => 1
  | .ptr d => uptoBulk d + 1
  | .slice elems spare => uptoBulkAll elems + uptoBulkAll spare + 1
  | .agg parts => uptoBulkAll parts + 1
  | .iface _ d => uptoBulk d + 1
  | .map entries => uptoBulkEntries entries + 1
  | .held _ => 1
def uptoBulkAll {H : Type} : List (DataW H) → Nat
  | [] => 0
  | d :: r => uptoBulk d + uptoBulkAll r
def uptoBulkEntries {H : Type} : List (Lit × DataW H) → Nat
  | [] => 0
  | x :: r => uptoBulkEntry x + uptoBulkEntries r
def uptoBulkEntry {H : Type} : Lit × DataW H → Nat
  | (.string bytes, d) => bytes.length + uptoBulk d + 1
  | (_, d) => uptoBulk d + 1
 end
def uptoSmall : (H : Type) → List (DataW H) → Bool := fun _ ds => decide (uptoBulkAll ds ≤ 1048576)
def OpenSpec.upto (s : _root_.Go.ChangeSpec) : _root_.Go.OpenSpec := { _root_.Go.OpenSpec.ofChange s with cond := some uptoSmall }

/-- 'pidginlaw06.Isa80Forms', WHERE WHAT IT READS IS OF BULK AT MOST 1048576: true; the input reads as it did. -/
def isa80FormsUptoRow : OpenClaim := { program := "ytofimkcfenemlaa", sum := "460cb4094b556a0666efa12add316034acbbfd9e53d9591a91553fc51432b155", func := "pidgin/pidginlaw06.Isa80Forms", spec := "isa80Forms", apart := false, narrowed := true }
def Isa80FormsUptoSaid : Prop := isa80FormsUptoRow.holds Try.pinned (OpenSpec.upto isa80FormsSpec)

/-- 'pidginlaw06.Isa80Moves', WHERE WHAT IT READS IS OF BULK AT MOST 1048576: true; the input reads as it did. -/
def isa80MovesUptoRow : OpenClaim := { program := "ytofimkcfenemlaa", sum := "460cb4094b556a0666efa12add316034acbbfd9e53d9591a91553fc51432b155", func := "pidgin/pidginlaw06.Isa80Moves", spec := "isa80Moves", apart := false, narrowed := true }
def Isa80MovesUptoSaid : Prop := isa80MovesUptoRow.holds Try.pinned (OpenSpec.upto isa80MovesSpec)

/-- 'pidginlaw06.Isa80Bytes', WHERE WHAT IT READS IS OF BULK AT MOST 1048576: true; the input reads as it did. -/
def isa80BytesUptoRow : OpenClaim := { program := "ytofimkcfenemlaa", sum := "460cb4094b556a0666efa12add316034acbbfd9e53d9591a91553fc51432b155", func := "pidgin/pidginlaw06.Isa80Bytes", spec := "isa80Bytes", apart := false, narrowed := true }
def Isa80BytesUptoSaid : Prop := isa80BytesUptoRow.holds Try.pinned (OpenSpec.upto isa80BytesSpec)

/-- 'pidginlaw06.Isa80Back', WHERE WHAT IT READS IS OF BULK AT MOST 1048576: true; the input reads as it did. -/
def isa80BackUptoRow : OpenClaim := { program := "ytofimkcfenemlaa", sum := "460cb4094b556a0666efa12add316034acbbfd9e53d9591a91553fc51432b155", func := "pidgin/pidginlaw06.Isa80Back", spec := "isa80Back", apart := false, narrowed := true }
def Isa80BackUptoSaid : Prop := isa80BackUptoRow.holds Try.pinned (OpenSpec.upto isa80BackSpec)

/-- 'pidginlaw06.Isa80Many', WHERE WHAT IT READS IS OF BULK AT MOST 1048576: true; the input reads as it did. -/
def isa80ManyUptoRow : OpenClaim := { program := "ytofimkcfenemlaa", sum := "460cb4094b556a0666efa12add316034acbbfd9e53d9591a91553fc51432b155", func := "pidgin/pidginlaw06.Isa80Many", spec := "isa80Many", apart := false, narrowed := true }
def Isa80ManyUptoSaid : Prop := isa80ManyUptoRow.holds Try.pinned (OpenSpec.upto isa80ManySpec)

/-- 'pidginlaw06.Isa80Kinds', WHERE WHAT IT READS IS OF BULK AT MOST 1048576: true; the input reads as it did. -/
def isa80KindsUptoRow : OpenClaim := { program := "ytofimkcfenemlaa", sum := "460cb4094b556a0666efa12add316034acbbfd9e53d9591a91553fc51432b155", func := "pidgin/pidginlaw06.Isa80Kinds", spec := "isa80Kinds", apart := false, narrowed := true }
def Isa80KindsUptoSaid : Prop := isa80KindsUptoRow.holds Try.pinned (OpenSpec.upto isa80KindsSpec)

end Rows
end Go.Proofs.Ytofimkcfenemlaa
