/- Function 3 at inputs by number, run by the evaluator: part 0. By program (batch.py). -/
import Derived.Test.YtofimkcfenemlaaCtx
import Derived.Test.YtofimkcfenemlaaLxO
import Derived.KernelRfl
namespace Go.Proofs.Ytofimkcfenemlaa
open Go.Lx
theorem forms0 : ((List.range 8).all fun i => yes (Lx.run (env.shut 3000 [16]) 6000 [] (Lx.start Try.f3 [.int .u8 (((0 + i) : Nat) : Int)] H0)).val?) = true := by kernel_rfl
theorem forms1 : ((List.range 8).all fun i => yes (Lx.run (env.shut 3000 [16]) 6000 [] (Lx.start Try.f3 [.int .u8 (((8 + i) : Nat) : Int)] H0)).val?) = true := by kernel_rfl
theorem forms2 : ((List.range 8).all fun i => yes (Lx.run (env.shut 3000 [16]) 6000 [] (Lx.start Try.f3 [.int .u8 (((16 + i) : Nat) : Int)] H0)).val?) = true := by kernel_rfl
theorem forms3 : ((List.range 8).all fun i => yes (Lx.run (env.shut 3000 [16]) 6000 [] (Lx.start Try.f3 [.int .u8 (((24 + i) : Nat) : Int)] H0)).val?) = true := by kernel_rfl
end Go.Proofs.Ytofimkcfenemlaa
