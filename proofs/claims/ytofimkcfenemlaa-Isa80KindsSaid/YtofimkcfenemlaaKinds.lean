/- The law Isa80Kinds returns true at every opcode, and writes nothing that was there. -/
import Derived.Test.YtofimkcfenemlaaKindsAll
namespace Go.Proofs.Ytofimkcfenemlaa
open Go.Lx Go.RowKit
theorem fn8_get : (env.shut 3000 [16]).fn.get 8 = some Try.f8 := by kernel_rfl
theorem kinds_walk (a : Int) (h : (Lit.int .u8 a).wf = true) (w : World) : Calls Try.prog 8 #[.int .u8 a] w fun e w' => e = .returned (.bool true) ∧ Below w.heap.size w w' := by
  have hb := bounds_u8 h
  obtain ⟨n, rfl⟩ := Int.eq_ofNat_of_zero_le hb.1
  exact calls_yes (Env.shut_ok envOk 3000 [16]) 6000 fn8_get (by kernel_rfl) (by simp [VRL, VR]) (kinds_yes n (by omega)) w
end Go.Proofs.Ytofimkcfenemlaa
