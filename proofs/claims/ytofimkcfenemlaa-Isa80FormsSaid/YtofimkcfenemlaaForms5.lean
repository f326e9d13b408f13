/- Function 3 at inputs by number, run by the evaluator: part 5. By program (batch.py). -/
import Derived.Test.YtofimkcfenemlaaCtx
import Derived.Test.YtofimkcfenemlaaLxO
import Derived.KernelRfl
namespace Go.Proofs.Ytofimkcfenemlaa
open Go.Lx
theorem forms20 : ((List.range 8).all fun i => yes (Lx.run (env.shut 3000 [16]) 6000 [] (Lx.start Try.f3 [.int .u8 (((160 + i) : Nat) : Int)] H0)).val?) = true := by kernel_rfl
theorem forms21 : ((List.range 8).all fun i => yes (Lx.run (env.shut 3000 [16]) 6000 [] (Lx.start Try.f3 [.int .u8 (((168 + i) : Nat) : Int)] H0)).val?) = true := by kernel_rfl
theorem forms22 : ((List.range 8).all fun i => yes (Lx.run (env.shut 3000 [16]) 6000 [] (Lx.start Try.f3 [.int .u8 (((176 + i) : Nat) : Int)] H0)).val?) = true := by kernel_rfl
theorem forms23 : ((List.range 8).all fun i => yes (Lx.run (env.shut 3000 [16]) 6000 [] (Lx.start Try.f3 [.int .u8 (((184 + i) : Nat) : Int)] H0)).val?) = true := by kernel_rfl
end Go.Proofs.Ytofimkcfenemlaa
