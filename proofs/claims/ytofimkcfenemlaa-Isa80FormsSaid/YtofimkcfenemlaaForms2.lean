/- Function 3 at inputs by number, run by the evaluator: part 2. By program (batch.py). -/
import Derived.Test.YtofimkcfenemlaaCtx
import Derived.Test.YtofimkcfenemlaaLxO
import Derived.KernelRfl
namespace Go.Proofs.Ytofimkcfenemlaa
open Go.Lx
theorem forms8 : ((List.range 8).all fun i => yes (Lx.run (env.shut 3000 [16]) 6000 [] (Lx.start Try.f3 [.int .u8 (((64 + i) : Nat) : Int)] H0)).val?) = true := by kernel_rfl
theorem forms9 : ((List.range 8).all fun i => yes (Lx.run (env.shut 3000 [16]) 6000 [] (Lx.start Try.f3 [.int .u8 (((72 + i) : Nat) : Int)] H0)).val?) = true := by kernel_rfl
theorem forms10 : ((List.range 8).all fun i => yes (Lx.run (env.shut 3000 [16]) 6000 [] (Lx.start Try.f3 [.int .u8 (((80 + i) : Nat) : Int)] H0)).val?) = true := by kernel_rfl
theorem forms11 : ((List.range 8).all fun i => yes (Lx.run (env.shut 3000 [16]) 6000 [] (Lx.start Try.f3 [.int .u8 (((88 + i) : Nat) : Int)] H0)).val?) = true := by kernel_rfl
end Go.Proofs.Ytofimkcfenemlaa
