/- Contexts in which an opcode's size is given. -/
import Derived.Test.YtofimkcfenemlaaIc
import Derived.Test.YtofimkcfenemlaaLyU
namespace Go.Proofs.Ytofimkcfenemlaa
open Go Go.Ly Go.RowKit
set_option linter.unusedVariables false
set_option linter.unusedSimpArgs false
noncomputable def sizeK (k : Int) (l : List Value) : Option (Bool × Value) := match l with
  | [.int .u8 op] => some (inb op && (sizeT op == k), .int .i64 k)
  | _ => none
theorem sizeK_ans (f : Nat) (k : Int) (h : Answers Try.prog f sizeC) : Answers Try.prog f (sizeK k) := by
  intro args g v hc hg
  unfold sizeK at hc
  split at hc
  · rename_i op
    simp only [Option.some.injEq, Prod.mk.injEq] at hc
    obtain ⟨rfl, rfl⟩ := hc
    simp only [Bool.and_eq_true, beq_iff_eq] at hg
    rw [← hg.2]
    exact h [.int .u8 op] (inb op) _ rfl hg.1
  · cases hc
noncomputable def sctx (k : Int) : Ctx := (ictx.with 14 (sizeK k)).with 15 (sizeK k)
theorem sok (k : Int) : (sctx k).Ok Try.prog := (iok.with (sizeK_ans 14 k size14_ans)).with (sizeK_ans 15 k size15_ans)
end Go.Proofs.Ytofimkcfenemlaa
