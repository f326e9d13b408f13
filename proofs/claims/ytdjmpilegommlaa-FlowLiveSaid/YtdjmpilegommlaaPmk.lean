/- Part 11 of the texts that the law needs, laid together. By program (pack.py). -/
import Derived.Test.YtdjmpilegommlaaPmc
import Derived.KernelRfl
set_option linter.unusedVariables false
set_option linter.unusedSimpArgs false
noncomputable section
namespace Go.Proofs.Ytdjmpilegommlaa
open Go Go.Ly Go.RowKit
theorem tab12_12 : ((List.range 8).all fun i => tabI (Ly.run env.bare 60000 [] (Ly.start Try.f12 [.int .u8 (((96 + i) : Nat) : Int)] H0)).val? (setsT (((96 + i) : Nat) : Int))) = true := by kernel_rfl
theorem tab12_13 : ((List.range 8).all fun i => tabI (Ly.run env.bare 60000 [] (Ly.start Try.f12 [.int .u8 (((104 + i) : Nat) : Int)] H0)).val? (setsT (((104 + i) : Nat) : Int))) = true := by kernel_rfl
theorem tab12_14 : ((List.range 8).all fun i => tabI (Ly.run env.bare 60000 [] (Ly.start Try.f12 [.int .u8 (((112 + i) : Nat) : Int)] H0)).val? (setsT (((112 + i) : Nat) : Int))) = true := by kernel_rfl
theorem tab12_15 : ((List.range 8).all fun i => tabI (Ly.run env.bare 60000 [] (Ly.start Try.f12 [.int .u8 (((120 + i) : Nat) : Int)] H0)).val? (setsT (((120 + i) : Nat) : Int))) = true := by kernel_rfl
theorem tab12_16 : ((List.range 8).all fun i => tabI (Ly.run env.bare 60000 [] (Ly.start Try.f12 [.int .u8 (((128 + i) : Nat) : Int)] H0)).val? (setsT (((128 + i) : Nat) : Int))) = true := by kernel_rfl
theorem tab12_17 : ((List.range 8).all fun i => tabI (Ly.run env.bare 60000 [] (Ly.start Try.f12 [.int .u8 (((136 + i) : Nat) : Int)] H0)).val? (setsT (((136 + i) : Nat) : Int))) = true := by kernel_rfl
end Go.Proofs.Ytdjmpilegommlaa
end
