/- Part 10 of the texts that the law needs, laid together. By program (pack.py). -/
import Derived.Test.YtdjmpilegommlaaPmc
import Derived.KernelRfl
set_option linter.unusedVariables false
set_option linter.unusedSimpArgs false
noncomputable section
namespace Go.Proofs.Ytdjmpilegommlaa
open Go Go.Ly Go.RowKit
theorem tab12_6 : ((List.range 8).all fun i => tabI (Ly.run env.bare 60000 [] (Ly.start Try.f12 [.int .u8 (((48 + i) : Nat) : Int)] H0)).val? (setsT (((48 + i) : Nat) : Int))) = true := by kernel_rfl
theorem tab12_7 : ((List.range 8).all fun i => tabI (Ly.run env.bare 60000 [] (Ly.start Try.f12 [.int .u8 (((56 + i) : Nat) : Int)] H0)).val? (setsT (((56 + i) : Nat) : Int))) = true := by kernel_rfl
theorem tab12_8 : ((List.range 8).all fun i => tabI (Ly.run env.bare 60000 [] (Ly.start Try.f12 [.int .u8 (((64 + i) : Nat) : Int)] H0)).val? (setsT (((64 + i) : Nat) : Int))) = true := by kernel_rfl
theorem tab12_9 : ((List.range 8).all fun i => tabI (Ly.run env.bare 60000 [] (Ly.start Try.f12 [.int .u8 (((72 + i) : Nat) : Int)] H0)).val? (setsT (((72 + i) : Nat) : Int))) = true := by kernel_rfl
theorem tab12_10 : ((List.range 8).all fun i => tabI (Ly.run env.bare 60000 [] (Ly.start Try.f12 [.int .u8 (((80 + i) : Nat) : Int)] H0)).val? (setsT (((80 + i) : Nat) : Int))) = true := by kernel_rfl
theorem tab12_11 : ((List.range 8).all fun i => tabI (Ly.run env.bare 60000 [] (Ly.start Try.f12 [.int .u8 (((88 + i) : Nat) : Int)] H0)).val? (setsT (((88 + i) : Nat) : Int))) = true := by kernel_rfl
end Go.Proofs.Ytdjmpilegommlaa
end
