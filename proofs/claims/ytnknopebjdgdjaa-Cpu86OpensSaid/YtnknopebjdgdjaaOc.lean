/- Cpu86Opens: short words. By program (genopen86.py). -/
import Derived.Test.YtnknopebjdgdjaaOb
import Derived.KernelRfl
namespace Go.Proofs.Ytnknopebjdgdjaa
open Go Go.Ly Go.RowKit
set_option linter.unusedVariables false
set_option linter.unusedSimpArgs false
theorem gL3 : ctxB.fn.get 3 = some Try.f3 := by kernel_rfl
noncomputable def lowQ (r : Int) : Bool := IntKind.u8.wrap (r.fdiv 1) == IntKind.u8.wrap (bits BinOp.and IntKind.u16 r 255)
noncomputable def zrow (size : Int) : Rw := Rw.gen size.toNat fun i j => (cellsL (Value.int IntKind.u8 0))[j]?.getD undef
noncomputable def irow (n : Nat) (f : Nat → Int) : Rw := Rw.gen n fun i j => Value.int IntKind.u8 (f (0 + i))
theorem zrow_n (size : Int) : (zrow size).n = size.toNat := rfl
theorem irow_n (n : Nat) (f : Nat → Int) : (irow n f).n = n := rfl
theorem lowQ_ok {r : Int} (h : B16 r) : lowQ r = true := by
  unfold B16 at h; unfold lowQ
  rw [Int.fdiv_one, u16_and255 r h.1 (by omega), IntKind.wrap_u8', IntKind.wrap_u8', beq_iff_eq]; omega
end Go.Proofs.Ytnknopebjdgdjaa
