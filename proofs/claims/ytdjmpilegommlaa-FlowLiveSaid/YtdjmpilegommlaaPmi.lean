/- Part 9 of the texts that the law needs, laid together. By program (pack.py). -/
import Derived.Test.YtdjmpilegommlaaPmc
import Derived.KernelRfl
set_option linter.unusedVariables false
set_option linter.unusedSimpArgs false
noncomputable section
namespace Go.Proofs.Ytdjmpilegommlaa
open Go Go.Ly Go.RowKit
theorem tab12_0 : ((List.range 8).all fun i => tabI (Ly.run env.bare 60000 [] (Ly.start Try.f12 [.int .u8 (((0 + i) : Nat) : Int)] H0)).val? (setsT (((0 + i) : Nat) : Int))) = true := by kernel_rfl
theorem tab12_1 : ((List.range 8).all fun i => tabI (Ly.run env.bare 60000 [] (Ly.start Try.f12 [.int .u8 (((8 + i) : Nat) : Int)] H0)).val? (setsT (((8 + i) : Nat) : Int))) = true := by kernel_rfl
theorem tab12_2 : ((List.range 8).all fun i => tabI (Ly.run env.bare 60000 [] (Ly.start Try.f12 [.int .u8 (((16 + i) : Nat) : Int)] H0)).val? (setsT (((16 + i) : Nat) : Int))) = true := by kernel_rfl
theorem tab12_3 : ((List.range 8).all fun i => tabI (Ly.run env.bare 60000 [] (Ly.start Try.f12 [.int .u8 (((24 + i) : Nat) : Int)] H0)).val? (setsT (((24 + i) : Nat) : Int))) = true := by kernel_rfl
theorem tab12_4 : ((List.range 8).all fun i => tabI (Ly.run env.bare 60000 [] (Ly.start Try.f12 [.int .u8 (((32 + i) : Nat) : Int)] H0)).val? (setsT (((32 + i) : Nat) : Int))) = true := by kernel_rfl
theorem tab12_5 : ((List.range 8).all fun i => tabI (Ly.run env.bare 60000 [] (Ly.start Try.f12 [.int .u8 (((40 + i) : Nat) : Int)] H0)).val? (setsT (((40 + i) : Nat) : Int))) = true := by kernel_rfl
end Go.Proofs.Ytdjmpilegommlaa
end
