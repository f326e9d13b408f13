/- Part 7 of the texts that the law needs, laid together. By program (pack.py). -/
import Derived.Test.YtdjmpilegommlaaPmc
import Derived.KernelRfl
set_option linter.unusedVariables false
set_option linter.unusedSimpArgs false
noncomputable section
namespace Go.Proofs.Ytdjmpilegommlaa
open Go Go.Ly Go.RowKit
theorem tab10_0 : ((List.range 8).all fun i => tabI (Ly.run env.bare 60000 [] (Ly.start Try.f10 [.int .u8 (((0 + i) : Nat) : Int)] H0)).val? (usesT (((0 + i) : Nat) : Int))) = true := by kernel_rfl
theorem tab10_1 : ((List.range 8).all fun i => tabI (Ly.run env.bare 60000 [] (Ly.start Try.f10 [.int .u8 (((8 + i) : Nat) : Int)] H0)).val? (usesT (((8 + i) : Nat) : Int))) = true := by kernel_rfl
theorem tab10_2 : ((List.range 8).all fun i => tabI (Ly.run env.bare 60000 [] (Ly.start Try.f10 [.int .u8 (((16 + i) : Nat) : Int)] H0)).val? (usesT (((16 + i) : Nat) : Int))) = true := by kernel_rfl
theorem tab10_3 : ((List.range 8).all fun i => tabI (Ly.run env.bare 60000 [] (Ly.start Try.f10 [.int .u8 (((24 + i) : Nat) : Int)] H0)).val? (usesT (((24 + i) : Nat) : Int))) = true := by kernel_rfl
theorem tab10_4 : ((List.range 8).all fun i => tabI (Ly.run env.bare 60000 [] (Ly.start Try.f10 [.int .u8 (((32 + i) : Nat) : Int)] H0)).val? (usesT (((32 + i) : Nat) : Int))) = true := by kernel_rfl
theorem tab10_5 : ((List.range 8).all fun i => tabI (Ly.run env.bare 60000 [] (Ly.start Try.f10 [.int .u8 (((40 + i) : Nat) : Int)] H0)).val? (usesT (((40 + i) : Nat) : Int))) = true := by kernel_rfl
theorem tab10_6 : ((List.range 8).all fun i => tabI (Ly.run env.bare 60000 [] (Ly.start Try.f10 [.int .u8 (((48 + i) : Nat) : Int)] H0)).val? (usesT (((48 + i) : Nat) : Int))) = true := by kernel_rfl
theorem tab10_7 : ((List.range 8).all fun i => tabI (Ly.run env.bare 60000 [] (Ly.start Try.f10 [.int .u8 (((56 + i) : Nat) : Int)] H0)).val? (usesT (((56 + i) : Nat) : Int))) = true := by kernel_rfl
theorem tab10_8 : ((List.range 8).all fun i => tabI (Ly.run env.bare 60000 [] (Ly.start Try.f10 [.int .u8 (((64 + i) : Nat) : Int)] H0)).val? (usesT (((64 + i) : Nat) : Int))) = true := by kernel_rfl
theorem tab10_9 : ((List.range 8).all fun i => tabI (Ly.run env.bare 60000 [] (Ly.start Try.f10 [.int .u8 (((72 + i) : Nat) : Int)] H0)).val? (usesT (((72 + i) : Nat) : Int))) = true := by kernel_rfl
theorem tab10_10 : ((List.range 8).all fun i => tabI (Ly.run env.bare 60000 [] (Ly.start Try.f10 [.int .u8 (((80 + i) : Nat) : Int)] H0)).val? (usesT (((80 + i) : Nat) : Int))) = true := by kernel_rfl
theorem tab10_11 : ((List.range 8).all fun i => tabI (Ly.run env.bare 60000 [] (Ly.start Try.f10 [.int .u8 (((88 + i) : Nat) : Int)] H0)).val? (usesT (((88 + i) : Nat) : Int))) = true := by kernel_rfl
theorem tab10_12 : ((List.range 8).all fun i => tabI (Ly.run env.bare 60000 [] (Ly.start Try.f10 [.int .u8 (((96 + i) : Nat) : Int)] H0)).val? (usesT (((96 + i) : Nat) : Int))) = true := by kernel_rfl
theorem tab10_13 : ((List.range 8).all fun i => tabI (Ly.run env.bare 60000 [] (Ly.start Try.f10 [.int .u8 (((104 + i) : Nat) : Int)] H0)).val? (usesT (((104 + i) : Nat) : Int))) = true := by kernel_rfl
theorem tab10_14 : ((List.range 8).all fun i => tabI (Ly.run env.bare 60000 [] (Ly.start Try.f10 [.int .u8 (((112 + i) : Nat) : Int)] H0)).val? (usesT (((112 + i) : Nat) : Int))) = true := by kernel_rfl
theorem tab10_15 : ((List.range 8).all fun i => tabI (Ly.run env.bare 60000 [] (Ly.start Try.f10 [.int .u8 (((120 + i) : Nat) : Int)] H0)).val? (usesT (((120 + i) : Nat) : Int))) = true := by kernel_rfl
end Go.Proofs.Ytdjmpilegommlaa
end
