/- Function 3 at inputs by number, run by the evaluator: part 7. By program (batch.py). -/
import Derived.Test.YtofimkcfenemlaaCtx
import Derived.Test.YtofimkcfenemlaaLxO
import Derived.KernelRfl
namespace Go.Proofs.Ytofimkcfenemlaa
open Go.Lx
theorem forms28 : ((List.range 8).all fun i => yes (Lx.run (env.shut 3000 [16]) 6000 [] (Lx.start Try.f3 [.int .u8 (((224 + i) : Nat) : Int)] H0)).val?) = true := by kernel_rfl
theorem forms29 : ((List.range 8).all fun i => yes (Lx.run (env.shut 3000 [16]) 6000 [] (Lx.start Try.f3 [.int .u8 (((232 + i) : Nat) : Int)] H0)).val?) = true := by kernel_rfl
theorem forms30 : ((List.range 8).all fun i => yes (Lx.run (env.shut 3000 [16]) 6000 [] (Lx.start Try.f3 [.int .u8 (((240 + i) : Nat) : Int)] H0)).val?) = true := by kernel_rfl
theorem forms31 : ((List.range 8).all fun i => yes (Lx.run (env.shut 3000 [16]) 6000 [] (Lx.start Try.f3 [.int .u8 (((248 + i) : Nat) : Int)] H0)).val?) = true := by kernel_rfl
end Go.Proofs.Ytofimkcfenemlaa
