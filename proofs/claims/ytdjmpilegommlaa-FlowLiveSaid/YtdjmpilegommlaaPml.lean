/- Part 12 of the texts that the law needs, laid together. By program (pack.py). -/
import Derived.Test.YtdjmpilegommlaaPmc
import Derived.KernelRfl
set_option linter.unusedVariables false
set_option linter.unusedSimpArgs false
noncomputable section
namespace Go.Proofs.Ytdjmpilegommlaa
open Go Go.Ly Go.RowKit
theorem tab12_18 : ((List.range 8).all fun i => tabI (Ly.run env.bare 60000 [] (Ly.start Try.f12 [.int .u8 (((144 + i) : Nat) : Int)] H0)).val? (setsT (((144 + i) : Nat) : Int))) = true := by kernel_rfl
theorem tab12_19 : ((List.range 8).all fun i => tabI (Ly.run env.bare 60000 [] (Ly.start Try.f12 [.int .u8 (((152 + i) : Nat) : Int)] H0)).val? (setsT (((152 + i) : Nat) : Int))) = true := by kernel_rfl
theorem tab12_20 : ((List.range 8).all fun i => tabI (Ly.run env.bare 60000 [] (Ly.start Try.f12 [.int .u8 (((160 + i) : Nat) : Int)] H0)).val? (setsT (((160 + i) : Nat) : Int))) = true := by kernel_rfl
theorem tab12_21 : ((List.range 8).all fun i => tabI (Ly.run env.bare 60000 [] (Ly.start Try.f12 [.int .u8 (((168 + i) : Nat) : Int)] H0)).val? (setsT (((168 + i) : Nat) : Int))) = true := by kernel_rfl
theorem tab12_22 : ((List.range 8).all fun i => tabI (Ly.run env.bare 60000 [] (Ly.start Try.f12 [.int .u8 (((176 + i) : Nat) : Int)] H0)).val? (setsT (((176 + i) : Nat) : Int))) = true := by kernel_rfl
theorem tab12_23 : ((List.range 8).all fun i => tabI (Ly.run env.bare 60000 [] (Ly.start Try.f12 [.int .u8 (((184 + i) : Nat) : Int)] H0)).val? (setsT (((184 + i) : Nat) : Int))) = true := by kernel_rfl
end Go.Proofs.Ytdjmpilegommlaa
end
