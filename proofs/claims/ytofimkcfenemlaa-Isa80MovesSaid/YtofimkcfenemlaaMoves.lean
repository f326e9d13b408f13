/- The law Isa80Moves returns true at every two bytes, and writes nothing that was there. -/
import Derived.Test.YtofimkcfenemlaaMovesAll
namespace Go.Proofs.Ytofimkcfenemlaa
open Go.Lx Go.RowKit
theorem fn4_get : (env.shut 3000 [9, 14, 16]).fn.get 4 = some Try.f4 := by kernel_rfl
theorem moves_d (a b : Int) : (Lx.run (env.shut 3000 [9, 14, 16]) 3000 [(0, false), (0, false), (0, true)] (Lx.start Try.f4 [.int .u8 a, .int .u8 b] H0)).out? =
    some ([(decide ((7 : Int) < a) == false, false), (decide ((7 : Int) < a) == false, false), (decide ((7 : Int) < a), true)], .bool true) := by kernel_rfl
theorem moves_s (a b : Int) : (Lx.run (env.shut 3000 [9, 14, 16]) 3000 [(0, true), (0, true), (0, false), (0, true)] (Lx.start Try.f4 [.int .u8 a, .int .u8 b] H0)).out? =
    some ([(decide ((7 : Int) < a) == false, true), (decide ((7 : Int) < a) == false, true), (decide ((7 : Int) < a), false), (decide ((7 : Int) < b), true)], .bool true) := by kernel_rfl
theorem moves_walk (a b : Int) (h : (Lit.int .u8 a).wf = true) (h' : (Lit.int .u8 b).wf = true) (w : World) : Calls Try.prog 4 #[.int .u8 a, .int .u8 b] w fun e w' => e = .returned (.bool true) ∧ Below w.heap.size w w' := by
  have ha := bounds_u8 h
  have hb := bounds_u8 h'
  by_cases h1 : 7 < a
  · exact calls_trust (Env.shut_ok envOk 3000 [9, 14, 16]) 3000 _ fn4_get (by kernel_rfl) (by simp [plainL, plain]) (by simp [plain]) (moves_d a b) (by simp [trusted, h1]) w
  · by_cases h2 : 7 < b
    · exact calls_trust (Env.shut_ok envOk 3000 [9, 14, 16]) 3000 _ fn4_get (by kernel_rfl) (by simp [plainL, plain]) (by simp [plain]) (moves_s a b) (by simp [trusted, h1, h2]) w
    · obtain ⟨n, rfl⟩ := Int.eq_ofNat_of_zero_le ha.1
      obtain ⟨m, rfl⟩ := Int.eq_ofNat_of_zero_le hb.1
      have := moves_yes (n * 8 + m) (by omega)
      rw [show (n * 8 + m) / 8 = n by omega, show (n * 8 + m) % 8 = m by omega] at this
      exact calls_yes (Env.shut_ok envOk 3000 [9, 14, 16]) 6000 fn4_get (by kernel_rfl) (by simp [VRL, VR]) this w
end Go.Proofs.Ytofimkcfenemlaa
