/- The turn of a byte, in a form that a run can open whatever the kind is. -/
import Derived.Test.YtabhfbmaomkmhaaWCon
namespace Go.Proofs.Ytabhfbmaomkmhaa
open Go Go.Lx Go.RowKit
set_option linter.unusedVariables false
noncomputable def turnA (k a : Int) (c : Bool) : Int :=
  bif k == 0 then (2 * a + a / 128) % 256 else bif k == 1 then a / 2 + a % 2 * 128 else bif k == 2 then (2 * a + cI c) % 256 else bif k == 3 then a / 2 + 128 * cI c else a
noncomputable def turnB (k a : Int) (c : Bool) : Bool :=
  bif k == 0 then decide (128 ≤ a) else bif k == 1 then a % 2 == 1 else bif k == 2 then decide (128 ≤ a) else bif k == 3 then a % 2 == 1 else c
theorem turnR_eq (k a : Int) (c : Bool) : turnR k a c = .tuple ⟨[.int .u8 (turnA k a c), .bool (turnB k a c)]⟩ := by
  unfold turnR turnA turnB
  cases (k == 0) <;> cases (k == 1) <;> cases (k == 2) <;> cases (k == 3) <;> rfl
noncomputable def conU (l : List Value) : Option (Bool × Value) := match l with
  | [.int .i64 k, .int .u8 a, .bool c] => some (inb a, .tuple ⟨[.int .u8 (turnA k a c), .bool (turnB k a c)]⟩)
  | _ => none
theorem ansU (f : Nat) (h : Answers Try.prog f conT) : Answers Try.prog f conU := by
  intro args g v hc hg
  refine h args g v ?_ hg
  unfold conU at hc
  split at hc
  · rw [← hc]
    show some (_, turnR _ _ _) = _
    rw [turnR_eq]
  · cases hc
noncomputable def uctx : Ctx := xctx.with 39 conU |>.with 40 conU
theorem uok : uctx.Ok Try.prog := xok.with (ansU 39 ans39) |>.with (ansU 40 ans40)
end Go.Proofs.Ytabhfbmaomkmhaa
