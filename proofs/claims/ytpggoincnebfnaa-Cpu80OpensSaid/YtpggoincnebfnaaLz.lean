/- The law Cpu80Opens: whatever its arguments are. -/
import Derived.Test.YtpggoincnebfnaaLp
import Derived.Test.YtpggoincnebfnaaLw
namespace Go.Proofs.Ytpggoincnebfnaa
open Go Go.Ly Go.RowKit
set_option linter.unusedVariables false
set_option linter.unusedSimpArgs false
theorem orP_eq {h l : Int} (hh : B8 h) (hl : B8 l) : orP h l = 256 * h + l := by
  show or16 (w16 (w16 h * 256)) (w16 l) = _
  simp [hh, hl]
theorem opens_walk (W : World) (v0 v1 v2 v3 : Value) (h0 : ∃ cs, v0 = .agg ⟨cs⟩ ∧ CksOk W [.int .u8, .int .u8, .int .u8, .int .u8, .int .u8, .int .u8, .int .u8, .int .u8, .bool, .bool, .bool, .bool, .bool, .int .u16, .int .u16, .bool, .slice [.int .u8], .slice [.int .u16, .int .u8]] cs)
    (h1 : CkOk W (.int .i64) v1) (h2 : CkOk W (.int .i64) v2) (h3 : CkOk W (.int .i64) v3) : Calls Try.prog 5 #[v0, v1, v2, v3] W fun e W' => e = .returned (.bool true) ∧ Below W.heap.size W W' := by
  obtain ⟨s, iv, mv, hs, rfl, hi, hm⟩ := sv_open h0
  obtain ⟨f, n, li, pi, hI, _, _⟩ := in_cases hi
  obtain ⟨a, b, k, lm, pm, hM, _, _⟩ := m_cases hm
  simp only [CkOk] at h1 h2 h3
  obtain ⟨size, rfl, _⟩ := h1
  obtain ⟨p, rfl, _⟩ := h2
  obtain ⟨cond, rfl, _⟩ := h3
  obtain ⟨⟨b0, b1, b2, b3, b4, b5, _, _⟩, _, _⟩ := hs
  refine calls_start hI hM (by simp [plain, plainL]) ?_
  have e0 := orP_eq b0 b1
  have e1 := orP_eq b2 b3
  have e2 := orP_eq b4 b5
  rcases hI with ⟨rfl, _, _, _⟩ | ⟨rfl, _⟩ <;> rcases hM with ⟨rfl, _, _, _⟩ | ⟨rfl, _⟩
  · exact opNN_all s n k f a b size p cond e0 e1 e2 (inb_of b0) (inb_of b1) (inb_of b2) (inb_of b3) (inb_of b4) (inb_of b5)
  · exact opNS_all s n k f a b size p cond e0 e1 e2 (inb_of b0) (inb_of b1) (inb_of b2) (inb_of b3) (inb_of b4) (inb_of b5)
  · exact opSN_all s n k f a b size p cond e0 e1 e2 (inb_of b0) (inb_of b1) (inb_of b2) (inb_of b3) (inb_of b4) (inb_of b5)
  · exact opSS_all s n k f a b size p cond e0 e1 e2 (inb_of b0) (inb_of b1) (inb_of b2) (inb_of b3) (inb_of b4) (inb_of b5)
end Go.Proofs.Ytpggoincnebfnaa
