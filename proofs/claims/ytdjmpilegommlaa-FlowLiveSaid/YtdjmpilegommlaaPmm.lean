/- Part 13 of the texts that the law needs, laid together. By program (pack.py). -/
import Derived.Test.YtdjmpilegommlaaPmc
import Derived.KernelRfl
set_option linter.unusedVariables false
set_option linter.unusedSimpArgs false
noncomputable section
namespace Go.Proofs.Ytdjmpilegommlaa
open Go Go.Ly Go.RowKit
theorem tab12_24 : ((List.range 8).all fun i => tabI (Ly.run env.bare 60000 [] (Ly.start Try.f12 [.int .u8 (((192 + i) : Nat) : Int)] H0)).val? (setsT (((192 + i) : Nat) : Int))) = true := by kernel_rfl
theorem tab12_25 : ((List.range 8).all fun i => tabI (Ly.run env.bare 60000 [] (Ly.start Try.f12 [.int .u8 (((200 + i) : Nat) : Int)] H0)).val? (setsT (((200 + i) : Nat) : Int))) = true := by kernel_rfl
theorem tab12_26 : ((List.range 8).all fun i => tabI (Ly.run env.bare 60000 [] (Ly.start Try.f12 [.int .u8 (((208 + i) : Nat) : Int)] H0)).val? (setsT (((208 + i) : Nat) : Int))) = true := by kernel_rfl
theorem tab12_27 : ((List.range 8).all fun i => tabI (Ly.run env.bare 60000 [] (Ly.start Try.f12 [.int .u8 (((216 + i) : Nat) : Int)] H0)).val? (setsT (((216 + i) : Nat) : Int))) = true := by kernel_rfl
theorem tab12_28 : ((List.range 8).all fun i => tabI (Ly.run env.bare 60000 [] (Ly.start Try.f12 [.int .u8 (((224 + i) : Nat) : Int)] H0)).val? (setsT (((224 + i) : Nat) : Int))) = true := by kernel_rfl
theorem tab12_29 : ((List.range 8).all fun i => tabI (Ly.run env.bare 60000 [] (Ly.start Try.f12 [.int .u8 (((232 + i) : Nat) : Int)] H0)).val? (setsT (((232 + i) : Nat) : Int))) = true := by kernel_rfl
end Go.Proofs.Ytdjmpilegommlaa
end
