/- Function 4 at inputs by number, run by the evaluator: part 0. By program (batch.py). -/
import Derived.Test.YtofimkcfenemlaaCtx
import Derived.Test.YtofimkcfenemlaaLxO
import Derived.KernelRfl
namespace Go.Proofs.Ytofimkcfenemlaa
open Go.Lx
theorem moves0 : ((List.range 16).all fun i => yes (Lx.run (env.shut 3000 [9, 14, 16]) 6000 [] (Lx.start Try.f4 [.int .u8 (((0 + i) / 8 : Nat) : Int), .int .u8 (((0 + i) % 8 : Nat) : Int)] H0)).val?) = true := by kernel_rfl
theorem moves1 : ((List.range 16).all fun i => yes (Lx.run (env.shut 3000 [9, 14, 16]) 6000 [] (Lx.start Try.f4 [.int .u8 (((16 + i) / 8 : Nat) : Int), .int .u8 (((16 + i) % 8 : Nat) : Int)] H0)).val?) = true := by kernel_rfl
theorem moves2 : ((List.range 16).all fun i => yes (Lx.run (env.shut 3000 [9, 14, 16]) 6000 [] (Lx.start Try.f4 [.int .u8 (((32 + i) / 8 : Nat) : Int), .int .u8 (((32 + i) % 8 : Nat) : Int)] H0)).val?) = true := by kernel_rfl
theorem moves3 : ((List.range 16).all fun i => yes (Lx.run (env.shut 3000 [9, 14, 16]) 6000 [] (Lx.start Try.f4 [.int .u8 (((48 + i) / 8 : Nat) : Int), .int .u8 (((48 + i) % 8 : Nat) : Int)] H0)).val?) = true := by kernel_rfl
end Go.Proofs.Ytofimkcfenemlaa
