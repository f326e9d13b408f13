/- Function 8 at inputs by number, run by the evaluator: part 1. By program (batch.py). -/
import Derived.Test.YtofimkcfenemlaaCtx
import Derived.Test.YtofimkcfenemlaaLxO
import Derived.KernelRfl
namespace Go.Proofs.Ytofimkcfenemlaa
open Go.Lx
theorem kinds8 : ((List.range 16).all fun i => yes (Lx.run (env.shut 3000 [16]) 6000 [] (Lx.start Try.f8 [.int .u8 (((128 + i) : Nat) : Int)] H0)).val?) = true := by kernel_rfl
theorem kinds9 : ((List.range 16).all fun i => yes (Lx.run (env.shut 3000 [16]) 6000 [] (Lx.start Try.f8 [.int .u8 (((144 + i) : Nat) : Int)] H0)).val?) = true := by kernel_rfl
theorem kinds10 : ((List.range 16).all fun i => yes (Lx.run (env.shut 3000 [16]) 6000 [] (Lx.start Try.f8 [.int .u8 (((160 + i) : Nat) : Int)] H0)).val?) = true := by kernel_rfl
theorem kinds11 : ((List.range 16).all fun i => yes (Lx.run (env.shut 3000 [16]) 6000 [] (Lx.start Try.f8 [.int .u8 (((176 + i) : Nat) : Int)] H0)).val?) = true := by kernel_rfl
theorem kinds12 : ((List.range 16).all fun i => yes (Lx.run (env.shut 3000 [16]) 6000 [] (Lx.start Try.f8 [.int .u8 (((192 + i) : Nat) : Int)] H0)).val?) = true := by kernel_rfl
theorem kinds13 : ((List.range 16).all fun i => yes (Lx.run (env.shut 3000 [16]) 6000 [] (Lx.start Try.f8 [.int .u8 (((208 + i) : Nat) : Int)] H0)).val?) = true := by kernel_rfl
theorem kinds14 : ((List.range 16).all fun i => yes (Lx.run (env.shut 3000 [16]) 6000 [] (Lx.start Try.f8 [.int .u8 (((224 + i) : Nat) : Int)] H0)).val?) = true := by kernel_rfl
theorem kinds15 : ((List.range 16).all fun i => yes (Lx.run (env.shut 3000 [16]) 6000 [] (Lx.start Try.f8 [.int .u8 (((240 + i) : Nat) : Int)] H0)).val?) = true := by kernel_rfl
end Go.Proofs.Ytofimkcfenemlaa
