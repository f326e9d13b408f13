/- The law Cpu86Opens: whatever its arguments are. By program (genopen86.py). -/
import Derived.Test.YtnknopebjdgdjaaOpNNN
import Derived.Test.YtnknopebjdgdjaaOpNNS
import Derived.Test.YtnknopebjdgdjaaOpNSN
import Derived.Test.YtnknopebjdgdjaaOpNSS
import Derived.Test.YtnknopebjdgdjaaOpSNN
import Derived.Test.YtnknopebjdgdjaaOpSNS
import Derived.Test.YtnknopebjdgdjaaOpSSN
import Derived.Test.YtnknopebjdgdjaaOpSSS
import Derived.Test.YtnknopebjdgdjaaLw
namespace Go.Proofs.Ytnknopebjdgdjaa
open Go Go.Ly Go.RowKit
set_option linter.unusedVariables false
theorem opens_walk (W : World) (v0 v1 v2 v3 : Value) (h0 : ∃ cs, v0 = .agg ⟨cs⟩ ∧ CksOk W [.int .u16, .int .u16, .int .u16, .int .u16, .int .u16, .int .u16, .int .u16, .int .u16, .bool, .bool, .bool, .bool, .bool, .int .u16, .bool, .slice [.int .u8], .slice [.int .u16, .int .u8], .slice [.int .u16, .int .u8]] cs)
    (h1 : CkOk W (.int .i64) v1) (h2 : CkOk W (.int .i64) v2) (h3 : CkOk W (.int .i64) v3) : Calls Try.prog 3 #[v0, v1, v2, v3] W fun e W' => e = .returned (.bool true) ∧ Below W.heap.size W W' := by
  obtain ⟨s, iv, cv, dv, hs, rfl, hi, hc, hd⟩ := sv_open h0
  obtain ⟨f, n, li, pi, hI, _, _⟩ := in_cases hi
  obtain ⟨fa, fb, k, lc, pc, hC, _, _⟩ := m_cases 1 hc
  obtain ⟨fc, fd, l, ld, pd, hD, _, _⟩ := m_cases 2 hd
  simp only [CkOk] at h1 h2 h3
  obtain ⟨code, rfl, _⟩ := h1
  obtain ⟨data, rfl, _⟩ := h2
  obtain ⟨reg, rfl, _⟩ := h3
  obtain ⟨⟨b0, b1, b2, b3, _, _, _, _⟩, _⟩ := hs
  refine calls_start hI hC hD (by simp [plain, plainL]) ?_
  rcases hI with ⟨rfl, _, _, _⟩ | ⟨rfl, _⟩ <;> rcases hC with ⟨rfl, _, _, _⟩ | ⟨rfl, _⟩ <;> rcases hD with ⟨rfl, _, _, _⟩ | ⟨rfl, _⟩
  · exact opNNN_all s n k l f fa fb fc fd code data reg (lowQ_ok b0) (lowQ_ok b1) (lowQ_ok b2) (lowQ_ok b3)
  · exact opNNS_all s n k l f fa fb fc fd code data reg (lowQ_ok b0) (lowQ_ok b1) (lowQ_ok b2) (lowQ_ok b3)
  · exact opNSN_all s n k l f fa fb fc fd code data reg (lowQ_ok b0) (lowQ_ok b1) (lowQ_ok b2) (lowQ_ok b3)
  · exact opNSS_all s n k l f fa fb fc fd code data reg (lowQ_ok b0) (lowQ_ok b1) (lowQ_ok b2) (lowQ_ok b3)
  · exact opSNN_all s n k l f fa fb fc fd code data reg (lowQ_ok b0) (lowQ_ok b1) (lowQ_ok b2) (lowQ_ok b3)
  · exact opSNS_all s n k l f fa fb fc fd code data reg (lowQ_ok b0) (lowQ_ok b1) (lowQ_ok b2) (lowQ_ok b3)
  · exact opSSN_all s n k l f fa fb fc fd code data reg (lowQ_ok b0) (lowQ_ok b1) (lowQ_ok b2) (lowQ_ok b3)
  · exact opSSS_all s n k l f fa fb fc fd code data reg (lowQ_ok b0) (lowQ_ok b1) (lowQ_ok b2) (lowQ_ok b3)
end Go.Proofs.Ytnknopebjdgdjaa
