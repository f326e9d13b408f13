/- Function 8 at inputs by number, run by the evaluator: part 0. By program (batch.py). -/
import Derived.Test.YtofimkcfenemlaaCtx
import Derived.Test.YtofimkcfenemlaaLxO
import Derived.KernelRfl
namespace Go.Proofs.Ytofimkcfenemlaa
open Go.Lx
theorem kinds0 : ((List.range 16).all fun i => yes (Lx.run (env.shut 3000 [16]) 6000 [] (Lx.start Try.f8 [.int .u8 (((0 + i) : Nat) : Int)] H0)).val?) = true := by kernel_rfl
theorem kinds1 : ((List.range 16).all fun i => yes (Lx.run (env.shut 3000 [16]) 6000 [] (Lx.start Try.f8 [.int .u8 (((16 + i) : Nat) : Int)] H0)).val?) = true := by kernel_rfl
theorem kinds2 : ((List.range 16).all fun i => yes (Lx.run (env.shut 3000 [16]) 6000 [] (Lx.start Try.f8 [.int .u8 (((32 + i) : Nat) : Int)] H0)).val?) = true := by kernel_rfl
theorem kinds3 : ((List.range 16).all fun i => yes (Lx.run (env.shut 3000 [16]) 6000 [] (Lx.start Try.f8 [.int .u8 (((48 + i) : Nat) : Int)] H0)).val?) = true := by kernel_rfl
theorem kinds4 : ((List.range 16).all fun i => yes (Lx.run (env.shut 3000 [16]) 6000 [] (Lx.start Try.f8 [.int .u8 (((64 + i) : Nat) : Int)] H0)).val?) = true := by kernel_rfl
theorem kinds5 : ((List.range 16).all fun i => yes (Lx.run (env.shut 3000 [16]) 6000 [] (Lx.start Try.f8 [.int .u8 (((80 + i) : Nat) : Int)] H0)).val?) = true := by kernel_rfl
theorem kinds6 : ((List.range 16).all fun i => yes (Lx.run (env.shut 3000 [16]) 6000 [] (Lx.start Try.f8 [.int .u8 (((96 + i) : Nat) : Int)] H0)).val?) = true := by kernel_rfl
theorem kinds7 : ((List.range 16).all fun i => yes (Lx.run (env.shut 3000 [16]) 6000 [] (Lx.start Try.f8 [.int .u8 (((112 + i) : Nat) : Int)] H0)).val?) = true := by kernel_rfl
end Go.Proofs.Ytofimkcfenemlaa
