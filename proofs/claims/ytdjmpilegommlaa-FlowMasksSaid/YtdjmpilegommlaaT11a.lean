/- Runs at bytes, function 11. By program (gentab.py). -/
import Derived.Test.YtdjmpilegommlaaT0
import Derived.KernelRfl
namespace Go.Proofs.Ytdjmpilegommlaa
open Go Go.Ly Go.RowKit
theorem tab11_0 : ((List.range 8).all fun i => tabI (Ly.run env.bare 60000 [] (Ly.start Try.f11 [.int .u8 (((0 + i) : Nat) : Int)] H0)).val? (setsT (((0 + i) : Nat) : Int))) = true := by kernel_rfl
theorem tab11_1 : ((List.range 8).all fun i => tabI (Ly.run env.bare 60000 [] (Ly.start Try.f11 [.int .u8 (((8 + i) : Nat) : Int)] H0)).val? (setsT (((8 + i) : Nat) : Int))) = true := by kernel_rfl
theorem tab11_2 : ((List.range 8).all fun i => tabI (Ly.run env.bare 60000 [] (Ly.start Try.f11 [.int .u8 (((16 + i) : Nat) : Int)] H0)).val? (setsT (((16 + i) : Nat) : Int))) = true := by kernel_rfl
theorem tab11_3 : ((List.range 8).all fun i => tabI (Ly.run env.bare 60000 [] (Ly.start Try.f11 [.int .u8 (((24 + i) : Nat) : Int)] H0)).val? (setsT (((24 + i) : Nat) : Int))) = true := by kernel_rfl
theorem tab11_4 : ((List.range 8).all fun i => tabI (Ly.run env.bare 60000 [] (Ly.start Try.f11 [.int .u8 (((32 + i) : Nat) : Int)] H0)).val? (setsT (((32 + i) : Nat) : Int))) = true := by kernel_rfl
theorem tab11_5 : ((List.range 8).all fun i => tabI (Ly.run env.bare 60000 [] (Ly.start Try.f11 [.int .u8 (((40 + i) : Nat) : Int)] H0)).val? (setsT (((40 + i) : Nat) : Int))) = true := by kernel_rfl
theorem tab11_6 : ((List.range 8).all fun i => tabI (Ly.run env.bare 60000 [] (Ly.start Try.f11 [.int .u8 (((48 + i) : Nat) : Int)] H0)).val? (setsT (((48 + i) : Nat) : Int))) = true := by kernel_rfl
theorem tab11_7 : ((List.range 8).all fun i => tabI (Ly.run env.bare 60000 [] (Ly.start Try.f11 [.int .u8 (((56 + i) : Nat) : Int)] H0)).val? (setsT (((56 + i) : Nat) : Int))) = true := by kernel_rfl
theorem tab11_8 : ((List.range 8).all fun i => tabI (Ly.run env.bare 60000 [] (Ly.start Try.f11 [.int .u8 (((64 + i) : Nat) : Int)] H0)).val? (setsT (((64 + i) : Nat) : Int))) = true := by kernel_rfl
theorem tab11_9 : ((List.range 8).all fun i => tabI (Ly.run env.bare 60000 [] (Ly.start Try.f11 [.int .u8 (((72 + i) : Nat) : Int)] H0)).val? (setsT (((72 + i) : Nat) : Int))) = true := by kernel_rfl
theorem tab11_10 : ((List.range 8).all fun i => tabI (Ly.run env.bare 60000 [] (Ly.start Try.f11 [.int .u8 (((80 + i) : Nat) : Int)] H0)).val? (setsT (((80 + i) : Nat) : Int))) = true := by kernel_rfl
theorem tab11_11 : ((List.range 8).all fun i => tabI (Ly.run env.bare 60000 [] (Ly.start Try.f11 [.int .u8 (((88 + i) : Nat) : Int)] H0)).val? (setsT (((88 + i) : Nat) : Int))) = true := by kernel_rfl
theorem tab11_12 : ((List.range 8).all fun i => tabI (Ly.run env.bare 60000 [] (Ly.start Try.f11 [.int .u8 (((96 + i) : Nat) : Int)] H0)).val? (setsT (((96 + i) : Nat) : Int))) = true := by kernel_rfl
theorem tab11_13 : ((List.range 8).all fun i => tabI (Ly.run env.bare 60000 [] (Ly.start Try.f11 [.int .u8 (((104 + i) : Nat) : Int)] H0)).val? (setsT (((104 + i) : Nat) : Int))) = true := by kernel_rfl
theorem tab11_14 : ((List.range 8).all fun i => tabI (Ly.run env.bare 60000 [] (Ly.start Try.f11 [.int .u8 (((112 + i) : Nat) : Int)] H0)).val? (setsT (((112 + i) : Nat) : Int))) = true := by kernel_rfl
theorem tab11_15 : ((List.range 8).all fun i => tabI (Ly.run env.bare 60000 [] (Ly.start Try.f11 [.int .u8 (((120 + i) : Nat) : Int)] H0)).val? (setsT (((120 + i) : Nat) : Int))) = true := by kernel_rfl
theorem tab11_16 : ((List.range 8).all fun i => tabI (Ly.run env.bare 60000 [] (Ly.start Try.f11 [.int .u8 (((128 + i) : Nat) : Int)] H0)).val? (setsT (((128 + i) : Nat) : Int))) = true := by kernel_rfl
theorem tab11_17 : ((List.range 8).all fun i => tabI (Ly.run env.bare 60000 [] (Ly.start Try.f11 [.int .u8 (((136 + i) : Nat) : Int)] H0)).val? (setsT (((136 + i) : Nat) : Int))) = true := by kernel_rfl
theorem tab11_18 : ((List.range 8).all fun i => tabI (Ly.run env.bare 60000 [] (Ly.start Try.f11 [.int .u8 (((144 + i) : Nat) : Int)] H0)).val? (setsT (((144 + i) : Nat) : Int))) = true := by kernel_rfl
theorem tab11_19 : ((List.range 8).all fun i => tabI (Ly.run env.bare 60000 [] (Ly.start Try.f11 [.int .u8 (((152 + i) : Nat) : Int)] H0)).val? (setsT (((152 + i) : Nat) : Int))) = true := by kernel_rfl
theorem tab11_20 : ((List.range 8).all fun i => tabI (Ly.run env.bare 60000 [] (Ly.start Try.f11 [.int .u8 (((160 + i) : Nat) : Int)] H0)).val? (setsT (((160 + i) : Nat) : Int))) = true := by kernel_rfl
theorem tab11_21 : ((List.range 8).all fun i => tabI (Ly.run env.bare 60000 [] (Ly.start Try.f11 [.int .u8 (((168 + i) : Nat) : Int)] H0)).val? (setsT (((168 + i) : Nat) : Int))) = true := by kernel_rfl
theorem tab11_22 : ((List.range 8).all fun i => tabI (Ly.run env.bare 60000 [] (Ly.start Try.f11 [.int .u8 (((176 + i) : Nat) : Int)] H0)).val? (setsT (((176 + i) : Nat) : Int))) = true := by kernel_rfl
theorem tab11_23 : ((List.range 8).all fun i => tabI (Ly.run env.bare 60000 [] (Ly.start Try.f11 [.int .u8 (((184 + i) : Nat) : Int)] H0)).val? (setsT (((184 + i) : Nat) : Int))) = true := by kernel_rfl
theorem tab11_24 : ((List.range 8).all fun i => tabI (Ly.run env.bare 60000 [] (Ly.start Try.f11 [.int .u8 (((192 + i) : Nat) : Int)] H0)).val? (setsT (((192 + i) : Nat) : Int))) = true := by kernel_rfl
theorem tab11_25 : ((List.range 8).all fun i => tabI (Ly.run env.bare 60000 [] (Ly.start Try.f11 [.int .u8 (((200 + i) : Nat) : Int)] H0)).val? (setsT (((200 + i) : Nat) : Int))) = true := by kernel_rfl
theorem tab11_26 : ((List.range 8).all fun i => tabI (Ly.run env.bare 60000 [] (Ly.start Try.f11 [.int .u8 (((208 + i) : Nat) : Int)] H0)).val? (setsT (((208 + i) : Nat) : Int))) = true := by kernel_rfl
theorem tab11_27 : ((List.range 8).all fun i => tabI (Ly.run env.bare 60000 [] (Ly.start Try.f11 [.int .u8 (((216 + i) : Nat) : Int)] H0)).val? (setsT (((216 + i) : Nat) : Int))) = true := by kernel_rfl
theorem tab11_28 : ((List.range 8).all fun i => tabI (Ly.run env.bare 60000 [] (Ly.start Try.f11 [.int .u8 (((224 + i) : Nat) : Int)] H0)).val? (setsT (((224 + i) : Nat) : Int))) = true := by kernel_rfl
theorem tab11_29 : ((List.range 8).all fun i => tabI (Ly.run env.bare 60000 [] (Ly.start Try.f11 [.int .u8 (((232 + i) : Nat) : Int)] H0)).val? (setsT (((232 + i) : Nat) : Int))) = true := by kernel_rfl
theorem tab11_30 : ((List.range 8).all fun i => tabI (Ly.run env.bare 60000 [] (Ly.start Try.f11 [.int .u8 (((240 + i) : Nat) : Int)] H0)).val? (setsT (((240 + i) : Nat) : Int))) = true := by kernel_rfl
theorem tab11_31 : ((List.range 8).all fun i => tabI (Ly.run env.bare 60000 [] (Ly.start Try.f11 [.int .u8 (((248 + i) : Nat) : Int)] H0)).val? (setsT (((248 + i) : Nat) : Int))) = true := by kernel_rfl
end Go.Proofs.Ytdjmpilegommlaa
