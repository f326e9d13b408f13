/- Runs at bytes, function 9. By program (gentab.py). -/
import Derived.Test.YtdjmpilegommlaaT0
import Derived.KernelRfl
namespace Go.Proofs.Ytdjmpilegommlaa
open Go Go.Ly Go.RowKit
theorem tab9_0 : ((List.range 8).all fun i => tabI (Ly.run env.bare 60000 [] (Ly.start Try.f9 [.int .u8 (((0 + i) : Nat) : Int)] H0)).val? (usesT (((0 + i) : Nat) : Int))) = true := by kernel_rfl
theorem tab9_1 : ((List.range 8).all fun i => tabI (Ly.run env.bare 60000 [] (Ly.start Try.f9 [.int .u8 (((8 + i) : Nat) : Int)] H0)).val? (usesT (((8 + i) : Nat) : Int))) = true := by kernel_rfl
theorem tab9_2 : ((List.range 8).all fun i => tabI (Ly.run env.bare 60000 [] (Ly.start Try.f9 [.int .u8 (((16 + i) : Nat) : Int)] H0)).val? (usesT (((16 + i) : Nat) : Int))) = true := by kernel_rfl
theorem tab9_3 : ((List.range 8).all fun i => tabI (Ly.run env.bare 60000 [] (Ly.start Try.f9 [.int .u8 (((24 + i) : Nat) : Int)] H0)).val? (usesT (((24 + i) : Nat) : Int))) = true := by kernel_rfl
theorem tab9_4 : ((List.range 8).all fun i => tabI (Ly.run env.bare 60000 [] (Ly.start Try.f9 [.int .u8 (((32 + i) : Nat) : Int)] H0)).val? (usesT (((32 + i) : Nat) : Int))) = true := by kernel_rfl
theorem tab9_5 : ((List.range 8).all fun i => tabI (Ly.run env.bare 60000 [] (Ly.start Try.f9 [.int .u8 (((40 + i) : Nat) : Int)] H0)).val? (usesT (((40 + i) : Nat) : Int))) = true := by kernel_rfl
theorem tab9_6 : ((List.range 8).all fun i => tabI (Ly.run env.bare 60000 [] (Ly.start Try.f9 [.int .u8 (((48 + i) : Nat) : Int)] H0)).val? (usesT (((48 + i) : Nat) : Int))) = true := by kernel_rfl
theorem tab9_7 : ((List.range 8).all fun i => tabI (Ly.run env.bare 60000 [] (Ly.start Try.f9 [.int .u8 (((56 + i) : Nat) : Int)] H0)).val? (usesT (((56 + i) : Nat) : Int))) = true := by kernel_rfl
theorem tab9_8 : ((List.range 8).all fun i => tabI (Ly.run env.bare 60000 [] (Ly.start Try.f9 [.int .u8 (((64 + i) : Nat) : Int)] H0)).val? (usesT (((64 + i) : Nat) : Int))) = true := by kernel_rfl
theorem tab9_9 : ((List.range 8).all fun i => tabI (Ly.run env.bare 60000 [] (Ly.start Try.f9 [.int .u8 (((72 + i) : Nat) : Int)] H0)).val? (usesT (((72 + i) : Nat) : Int))) = true := by kernel_rfl
theorem tab9_10 : ((List.range 8).all fun i => tabI (Ly.run env.bare 60000 [] (Ly.start Try.f9 [.int .u8 (((80 + i) : Nat) : Int)] H0)).val? (usesT (((80 + i) : Nat) : Int))) = true := by kernel_rfl
theorem tab9_11 : ((List.range 8).all fun i => tabI (Ly.run env.bare 60000 [] (Ly.start Try.f9 [.int .u8 (((88 + i) : Nat) : Int)] H0)).val? (usesT (((88 + i) : Nat) : Int))) = true := by kernel_rfl
theorem tab9_12 : ((List.range 8).all fun i => tabI (Ly.run env.bare 60000 [] (Ly.start Try.f9 [.int .u8 (((96 + i) : Nat) : Int)] H0)).val? (usesT (((96 + i) : Nat) : Int))) = true := by kernel_rfl
theorem tab9_13 : ((List.range 8).all fun i => tabI (Ly.run env.bare 60000 [] (Ly.start Try.f9 [.int .u8 (((104 + i) : Nat) : Int)] H0)).val? (usesT (((104 + i) : Nat) : Int))) = true := by kernel_rfl
theorem tab9_14 : ((List.range 8).all fun i => tabI (Ly.run env.bare 60000 [] (Ly.start Try.f9 [.int .u8 (((112 + i) : Nat) : Int)] H0)).val? (usesT (((112 + i) : Nat) : Int))) = true := by kernel_rfl
theorem tab9_15 : ((List.range 8).all fun i => tabI (Ly.run env.bare 60000 [] (Ly.start Try.f9 [.int .u8 (((120 + i) : Nat) : Int)] H0)).val? (usesT (((120 + i) : Nat) : Int))) = true := by kernel_rfl
theorem tab9_16 : ((List.range 8).all fun i => tabI (Ly.run env.bare 60000 [] (Ly.start Try.f9 [.int .u8 (((128 + i) : Nat) : Int)] H0)).val? (usesT (((128 + i) : Nat) : Int))) = true := by kernel_rfl
theorem tab9_17 : ((List.range 8).all fun i => tabI (Ly.run env.bare 60000 [] (Ly.start Try.f9 [.int .u8 (((136 + i) : Nat) : Int)] H0)).val? (usesT (((136 + i) : Nat) : Int))) = true := by kernel_rfl
theorem tab9_18 : ((List.range 8).all fun i => tabI (Ly.run env.bare 60000 [] (Ly.start Try.f9 [.int .u8 (((144 + i) : Nat) : Int)] H0)).val? (usesT (((144 + i) : Nat) : Int))) = true := by kernel_rfl
theorem tab9_19 : ((List.range 8).all fun i => tabI (Ly.run env.bare 60000 [] (Ly.start Try.f9 [.int .u8 (((152 + i) : Nat) : Int)] H0)).val? (usesT (((152 + i) : Nat) : Int))) = true := by kernel_rfl
theorem tab9_20 : ((List.range 8).all fun i => tabI (Ly.run env.bare 60000 [] (Ly.start Try.f9 [.int .u8 (((160 + i) : Nat) : Int)] H0)).val? (usesT (((160 + i) : Nat) : Int))) = true := by kernel_rfl
theorem tab9_21 : ((List.range 8).all fun i => tabI (Ly.run env.bare 60000 [] (Ly.start Try.f9 [.int .u8 (((168 + i) : Nat) : Int)] H0)).val? (usesT (((168 + i) : Nat) : Int))) = true := by kernel_rfl
theorem tab9_22 : ((List.range 8).all fun i => tabI (Ly.run env.bare 60000 [] (Ly.start Try.f9 [.int .u8 (((176 + i) : Nat) : Int)] H0)).val? (usesT (((176 + i) : Nat) : Int))) = true := by kernel_rfl
theorem tab9_23 : ((List.range 8).all fun i => tabI (Ly.run env.bare 60000 [] (Ly.start Try.f9 [.int .u8 (((184 + i) : Nat) : Int)] H0)).val? (usesT (((184 + i) : Nat) : Int))) = true := by kernel_rfl
theorem tab9_24 : ((List.range 8).all fun i => tabI (Ly.run env.bare 60000 [] (Ly.start Try.f9 [.int .u8 (((192 + i) : Nat) : Int)] H0)).val? (usesT (((192 + i) : Nat) : Int))) = true := by kernel_rfl
theorem tab9_25 : ((List.range 8).all fun i => tabI (Ly.run env.bare 60000 [] (Ly.start Try.f9 [.int .u8 (((200 + i) : Nat) : Int)] H0)).val? (usesT (((200 + i) : Nat) : Int))) = true := by kernel_rfl
theorem tab9_26 : ((List.range 8).all fun i => tabI (Ly.run env.bare 60000 [] (Ly.start Try.f9 [.int .u8 (((208 + i) : Nat) : Int)] H0)).val? (usesT (((208 + i) : Nat) : Int))) = true := by kernel_rfl
theorem tab9_27 : ((List.range 8).all fun i => tabI (Ly.run env.bare 60000 [] (Ly.start Try.f9 [.int .u8 (((216 + i) : Nat) : Int)] H0)).val? (usesT (((216 + i) : Nat) : Int))) = true := by kernel_rfl
theorem tab9_28 : ((List.range 8).all fun i => tabI (Ly.run env.bare 60000 [] (Ly.start Try.f9 [.int .u8 (((224 + i) : Nat) : Int)] H0)).val? (usesT (((224 + i) : Nat) : Int))) = true := by kernel_rfl
theorem tab9_29 : ((List.range 8).all fun i => tabI (Ly.run env.bare 60000 [] (Ly.start Try.f9 [.int .u8 (((232 + i) : Nat) : Int)] H0)).val? (usesT (((232 + i) : Nat) : Int))) = true := by kernel_rfl
theorem tab9_30 : ((List.range 8).all fun i => tabI (Ly.run env.bare 60000 [] (Ly.start Try.f9 [.int .u8 (((240 + i) : Nat) : Int)] H0)).val? (usesT (((240 + i) : Nat) : Int))) = true := by kernel_rfl
theorem tab9_31 : ((List.range 8).all fun i => tabI (Ly.run env.bare 60000 [] (Ly.start Try.f9 [.int .u8 (((248 + i) : Nat) : Int)] H0)).val? (usesT (((248 + i) : Nat) : Int))) = true := by kernel_rfl
end Go.Proofs.Ytdjmpilegommlaa
