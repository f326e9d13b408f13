/- Function 3 at inputs by number, run by the evaluator: part 4. By program (batch.py). -/
import Derived.Test.YtofimkcfenemlaaCtx
import Derived.Test.YtofimkcfenemlaaLxO
import Derived.KernelRfl
namespace Go.Proofs.Ytofimkcfenemlaa
open Go.Lx
theorem forms16 : ((List.range 8).all fun i => yes (Lx.run (env.shut 3000 [16]) 6000 [] (Lx.start Try.f3 [.int .u8 (((128 + i) : Nat) : Int)] H0)).val?) = true := by kernel_rfl
theorem forms17 : ((List.range 8).all fun i => yes (Lx.run (env.shut 3000 [16]) 6000 [] (Lx.start Try.f3 [.int .u8 (((136 + i) : Nat) : Int)] H0)).val?) = true := by kernel_rfl
theorem forms18 : ((List.range 8).all fun i => yes (Lx.run (env.shut 3000 [16]) 6000 [] (Lx.start Try.f3 [.int .u8 (((144 + i) : Nat) : Int)] H0)).val?) = true := by kernel_rfl
theorem forms19 : ((List.range 8).all fun i => yes (Lx.run (env.shut 3000 [16]) 6000 [] (Lx.start Try.f3 [.int .u8 (((152 + i) : Nat) : Int)] H0)).val?) = true := by kernel_rfl
end Go.Proofs.Ytofimkcfenemlaa
