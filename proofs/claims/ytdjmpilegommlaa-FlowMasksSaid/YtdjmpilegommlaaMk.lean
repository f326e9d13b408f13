/- FlowMasks, at every byte. By program (genmasks.py). -/
import Derived.Test.YtdjmpilegommlaaFb
import Derived.KernelRfl
import Derived.OpenShut
namespace Go.Proofs.Ytdjmpilegommlaa
open Go Go.Ly Go.RowKit
set_option linter.unusedVariables false
theorem get3 : ctxM.fn.get 3 = some Try.f3 := by kernel_rfl
theorem masksR (op : Int) : (Ly.run ctxM 300 [(0, true), (0, true), (0, true), (1, true), (2, true), (2, true)] (Ly.start Try.f3 [.int .u8 op] H0)).out? = some ([(inb op, true), (inb op, true), ((usesT op == usesT op) == true, true), (inb op, true), (inb op, true), ((setsT op == setsT op) == true, true)], .bool true) := by kernel_rfl
theorem masks_walk (W : World) (v0 : Value) (h0 : CkOk W (.int .u8) v0) : Calls Try.prog 3 #[v0] W fun e W' => e = .returned (.bool true) ∧ Below W.heap.size W W' := by
  simp only [CkOk] at h0
  obtain ⟨n, rfl, hn⟩ := h0
  have h2 := (inb_iff n).2 (bounds_u8 hn)
  exact calls_trust ctxM_ok 300 _ get3 (by kernel_rfl) (by simp [plain, plainL]) (by simp [plain]) (masksR n) (by simp [trusted, h2]) W
end Go.Proofs.Ytdjmpilegommlaa
