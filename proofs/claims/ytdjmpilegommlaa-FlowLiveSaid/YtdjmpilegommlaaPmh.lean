/- Part 8 of the texts that the law needs, laid together. By program (pack.py). -/
import Derived.Test.YtdjmpilegommlaaPmc
import Derived.KernelRfl
set_option linter.unusedVariables false
set_option linter.unusedSimpArgs false
noncomputable section
namespace Go.Proofs.Ytdjmpilegommlaa
open Go Go.Ly Go.RowKit
theorem tab10_16 : ((List.range 8).all fun i => tabI (Ly.run env.bare 60000 [] (Ly.start Try.f10 [.int .u8 (((128 + i) : Nat) : Int)] H0)).val? (usesT (((128 + i) : Nat) : Int))) = true := by kernel_rfl
theorem tab10_17 : ((List.range 8).all fun i => tabI (Ly.run env.bare 60000 [] (Ly.start Try.f10 [.int .u8 (((136 + i) : Nat) : Int)] H0)).val? (usesT (((136 + i) : Nat) : Int))) = true := by kernel_rfl
theorem tab10_18 : ((List.range 8).all fun i => tabI (Ly.run env.bare 60000 [] (Ly.start Try.f10 [.int .u8 (((144 + i) : Nat) : Int)] H0)).val? (usesT (((144 + i) : Nat) : Int))) = true := by kernel_rfl
theorem tab10_19 : ((List.range 8).all fun i => tabI (Ly.run env.bare 60000 [] (Ly.start Try.f10 [.int .u8 (((152 + i) : Nat) : Int)] H0)).val? (usesT (((152 + i) : Nat) : Int))) = true := by kernel_rfl
theorem tab10_20 : ((List.range 8).all fun i => tabI (Ly.run env.bare 60000 [] (Ly.start Try.f10 [.int .u8 (((160 + i) : Nat) : Int)] H0)).val? (usesT (((160 + i) : Nat) : Int))) = true := by kernel_rfl
theorem tab10_21 : ((List.range 8).all fun i => tabI (Ly.run env.bare 60000 [] (Ly.start Try.f10 [.int .u8 (((168 + i) : Nat) : Int)] H0)).val? (usesT (((168 + i) : Nat) : Int))) = true := by kernel_rfl
theorem tab10_22 : ((List.range 8).all fun i => tabI (Ly.run env.bare 60000 [] (Ly.start Try.f10 [.int .u8 (((176 + i) : Nat) : Int)] H0)).val? (usesT (((176 + i) : Nat) : Int))) = true := by kernel_rfl
theorem tab10_23 : ((List.range 8).all fun i => tabI (Ly.run env.bare 60000 [] (Ly.start Try.f10 [.int .u8 (((184 + i) : Nat) : Int)] H0)).val? (usesT (((184 + i) : Nat) : Int))) = true := by kernel_rfl
theorem tab10_24 : ((List.range 8).all fun i => tabI (Ly.run env.bare 60000 [] (Ly.start Try.f10 [.int .u8 (((192 + i) : Nat) : Int)] H0)).val? (usesT (((192 + i) : Nat) : Int))) = true := by kernel_rfl
theorem tab10_25 : ((List.range 8).all fun i => tabI (Ly.run env.bare 60000 [] (Ly.start Try.f10 [.int .u8 (((200 + i) : Nat) : Int)] H0)).val? (usesT (((200 + i) : Nat) : Int))) = true := by kernel_rfl
theorem tab10_26 : ((List.range 8).all fun i => tabI (Ly.run env.bare 60000 [] (Ly.start Try.f10 [.int .u8 (((208 + i) : Nat) : Int)] H0)).val? (usesT (((208 + i) : Nat) : Int))) = true := by kernel_rfl
theorem tab10_27 : ((List.range 8).all fun i => tabI (Ly.run env.bare 60000 [] (Ly.start Try.f10 [.int .u8 (((216 + i) : Nat) : Int)] H0)).val? (usesT (((216 + i) : Nat) : Int))) = true := by kernel_rfl
theorem tab10_28 : ((List.range 8).all fun i => tabI (Ly.run env.bare 60000 [] (Ly.start Try.f10 [.int .u8 (((224 + i) : Nat) : Int)] H0)).val? (usesT (((224 + i) : Nat) : Int))) = true := by kernel_rfl
theorem tab10_29 : ((List.range 8).all fun i => tabI (Ly.run env.bare 60000 [] (Ly.start Try.f10 [.int .u8 (((232 + i) : Nat) : Int)] H0)).val? (usesT (((232 + i) : Nat) : Int))) = true := by kernel_rfl
theorem tab10_30 : ((List.range 8).all fun i => tabI (Ly.run env.bare 60000 [] (Ly.start Try.f10 [.int .u8 (((240 + i) : Nat) : Int)] H0)).val? (usesT (((240 + i) : Nat) : Int))) = true := by kernel_rfl
theorem tab10_31 : ((List.range 8).all fun i => tabI (Ly.run env.bare 60000 [] (Ly.start Try.f10 [.int .u8 (((248 + i) : Nat) : Int)] H0)).val? (usesT (((248 + i) : Nat) : Int))) = true := by kernel_rfl
end Go.Proofs.Ytdjmpilegommlaa
end
