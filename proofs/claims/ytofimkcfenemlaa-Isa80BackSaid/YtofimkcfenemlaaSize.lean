/- Functions of a byte that answer by a table: 14, 15. By program (table.py). -/
import Derived.Test.YtofimkcfenemlaaCy
import Derived.Test.YtofimkcfenemlaaLyT
import Derived.KernelRfl
namespace Go.Proofs.Ytofimkcfenemlaa
open Go Go.Ly Go.RowKit
set_option linter.unusedVariables false
/-- the table -/
noncomputable def sizeL : List Nat := [1, 3, 1, 1, 1, 1, 2, 1, 0, 1, 1, 1, 1, 1, 2, 1, 0, 3, 1, 1, 1, 1, 2, 1, 0, 1, 1, 1, 1, 1, 2, 1, 0, 3, 3, 1, 1, 1, 2, 1, 0, 1, 3, 1, 1, 1, 2, 1, 0, 3, 3, 1, 1, 1, 2, 1, 0, 1, 3, 1, 1, 1, 2, 1, 1, 1, 1, 1, 1, 1, 1, 1, 1, 1, 1, 1, 1, 1, 1, 1, 1, 1, 1, 1, 1, 1, 1, 1, 1, 1, 1, 1, 1, 1, 1, 1, 1, 1, 1, 1, 1, 1, 1, 1, 1, 1, 1, 1, 1, 1, 1, 1, 1, 1, 1, 1, 1, 1, 1, 1, 1, 1, 1, 1, 1, 1, 1, 1, 1, 1, 1, 1, 1, 1, 1, 1, 1, 1, 1, 1, 1, 1, 1, 1, 1, 1, 1, 1, 1, 1, 1, 1, 1, 1, 1, 1, 1, 1, 1, 1, 1, 1, 1, 1, 1, 1, 1, 1, 1, 1, 1, 1, 1, 1, 1, 1, 1, 1, 1, 1, 1, 1, 1, 1, 1, 1, 1, 1, 1, 1, 1, 1, 1, 1, 3, 3, 3, 1, 2, 1, 1, 1, 3, 0, 3, 3, 2, 1, 1, 1, 3, 2, 3, 1, 2, 1, 1, 0, 3, 2, 3, 0, 2, 1, 1, 1, 3, 1, 3, 1, 2, 1, 1, 1, 3, 1, 3, 0, 2, 1, 1, 1, 3, 1, 3, 1, 2, 1, 1, 1, 3, 1, 3, 0, 2, 1]
noncomputable def sizeT (op : Int) : Int := ((sizeL[op.toNat]?).getD 0 : Nat)
noncomputable def sizeC (l : List Value) : Option (Bool × Value) := match l with
  | [.int .u8 op] => some (inb op, .int .i64 (sizeT op))
  | _ => none
noncomputable def sizeI : Option Value → Int → Bool
  | some (.int .i64 x), b => x == b
  | _, _ => false
theorem sizeI_eq {o : Option Value} {b : Int} (h : sizeI o b = true) : o = some (.int .i64 b) := by
  unfold sizeI at h
  split at h
  · simp at h; subst h; rfl
  · cases h
theorem size14_0 : ((List.range 16).all fun i => sizeI (Ly.run env.bare 6000 [] (Ly.start Try.f14 [.int .u8 (((0 + i) : Nat) : Int)] H0)).val? (sizeT (((0 + i) : Nat) : Int))) = true := by kernel_rfl
theorem size14_1 : ((List.range 16).all fun i => sizeI (Ly.run env.bare 6000 [] (Ly.start Try.f14 [.int .u8 (((16 + i) : Nat) : Int)] H0)).val? (sizeT (((16 + i) : Nat) : Int))) = true := by kernel_rfl
theorem size14_2 : ((List.range 16).all fun i => sizeI (Ly.run env.bare 6000 [] (Ly.start Try.f14 [.int .u8 (((32 + i) : Nat) : Int)] H0)).val? (sizeT (((32 + i) : Nat) : Int))) = true := by kernel_rfl
theorem size14_3 : ((List.range 16).all fun i => sizeI (Ly.run env.bare 6000 [] (Ly.start Try.f14 [.int .u8 (((48 + i) : Nat) : Int)] H0)).val? (sizeT (((48 + i) : Nat) : Int))) = true := by kernel_rfl
theorem size14_4 : ((List.range 16).all fun i => sizeI (Ly.run env.bare 6000 [] (Ly.start Try.f14 [.int .u8 (((64 + i) : Nat) : Int)] H0)).val? (sizeT (((64 + i) : Nat) : Int))) = true := by kernel_rfl
theorem size14_5 : ((List.range 16).all fun i => sizeI (Ly.run env.bare 6000 [] (Ly.start Try.f14 [.int .u8 (((80 + i) : Nat) : Int)] H0)).val? (sizeT (((80 + i) : Nat) : Int))) = true := by kernel_rfl
theorem size14_6 : ((List.range 16).all fun i => sizeI (Ly.run env.bare 6000 [] (Ly.start Try.f14 [.int .u8 (((96 + i) : Nat) : Int)] H0)).val? (sizeT (((96 + i) : Nat) : Int))) = true := by kernel_rfl
theorem size14_7 : ((List.range 16).all fun i => sizeI (Ly.run env.bare 6000 [] (Ly.start Try.f14 [.int .u8 (((112 + i) : Nat) : Int)] H0)).val? (sizeT (((112 + i) : Nat) : Int))) = true := by kernel_rfl
theorem size14_8 : ((List.range 16).all fun i => sizeI (Ly.run env.bare 6000 [] (Ly.start Try.f14 [.int .u8 (((128 + i) : Nat) : Int)] H0)).val? (sizeT (((128 + i) : Nat) : Int))) = true := by kernel_rfl
theorem size14_9 : ((List.range 16).all fun i => sizeI (Ly.run env.bare 6000 [] (Ly.start Try.f14 [.int .u8 (((144 + i) : Nat) : Int)] H0)).val? (sizeT (((144 + i) : Nat) : Int))) = true := by kernel_rfl
theorem size14_10 : ((List.range 16).all fun i => sizeI (Ly.run env.bare 6000 [] (Ly.start Try.f14 [.int .u8 (((160 + i) : Nat) : Int)] H0)).val? (sizeT (((160 + i) : Nat) : Int))) = true := by kernel_rfl
theorem size14_11 : ((List.range 16).all fun i => sizeI (Ly.run env.bare 6000 [] (Ly.start Try.f14 [.int .u8 (((176 + i) : Nat) : Int)] H0)).val? (sizeT (((176 + i) : Nat) : Int))) = true := by kernel_rfl
theorem size14_12 : ((List.range 16).all fun i => sizeI (Ly.run env.bare 6000 [] (Ly.start Try.f14 [.int .u8 (((192 + i) : Nat) : Int)] H0)).val? (sizeT (((192 + i) : Nat) : Int))) = true := by kernel_rfl
theorem size14_13 : ((List.range 16).all fun i => sizeI (Ly.run env.bare 6000 [] (Ly.start Try.f14 [.int .u8 (((208 + i) : Nat) : Int)] H0)).val? (sizeT (((208 + i) : Nat) : Int))) = true := by kernel_rfl
theorem size14_14 : ((List.range 16).all fun i => sizeI (Ly.run env.bare 6000 [] (Ly.start Try.f14 [.int .u8 (((224 + i) : Nat) : Int)] H0)).val? (sizeT (((224 + i) : Nat) : Int))) = true := by kernel_rfl
theorem size14_15 : ((List.range 16).all fun i => sizeI (Ly.run env.bare 6000 [] (Ly.start Try.f14 [.int .u8 (((240 + i) : Nat) : Int)] H0)).val? (sizeT (((240 + i) : Nat) : Int))) = true := by kernel_rfl
theorem size14_all (n : Nat) (h : n < 256) : sizeI (Ly.run env.bare 6000 [] (Ly.start Try.f14 [.int .u8 ((n : Nat) : Int)] H0)).val? (sizeT ((n : Nat) : Int)) = true := by
  rcases Nat.lt_or_ge n 16 with g0 | g0
  · exact range_all (p := fun n => sizeI (Ly.run env.bare 6000 [] (Ly.start Try.f14 [.int .u8 ((n : Nat) : Int)] H0)).val? (sizeT ((n : Nat) : Int))) size14_0 n (by omega) (by omega)
  rcases Nat.lt_or_ge n 32 with g1 | g1
  · exact range_all (p := fun n => sizeI (Ly.run env.bare 6000 [] (Ly.start Try.f14 [.int .u8 ((n : Nat) : Int)] H0)).val? (sizeT ((n : Nat) : Int))) size14_1 n (by omega) (by omega)
  rcases Nat.lt_or_ge n 48 with g2 | g2
  · exact range_all (p := fun n => sizeI (Ly.run env.bare 6000 [] (Ly.start Try.f14 [.int .u8 ((n : Nat) : Int)] H0)).val? (sizeT ((n : Nat) : Int))) size14_2 n (by omega) (by omega)
  rcases Nat.lt_or_ge n 64 with g3 | g3
  · exact range_all (p := fun n => sizeI (Ly.run env.bare 6000 [] (Ly.start Try.f14 [.int .u8 ((n : Nat) : Int)] H0)).val? (sizeT ((n : Nat) : Int))) size14_3 n (by omega) (by omega)
  rcases Nat.lt_or_ge n 80 with g4 | g4
  · exact range_all (p := fun n => sizeI (Ly.run env.bare 6000 [] (Ly.start Try.f14 [.int .u8 ((n : Nat) : Int)] H0)).val? (sizeT ((n : Nat) : Int))) size14_4 n (by omega) (by omega)
  rcases Nat.lt_or_ge n 96 with g5 | g5
  · exact range_all (p := fun n => sizeI (Ly.run env.bare 6000 [] (Ly.start Try.f14 [.int .u8 ((n : Nat) : Int)] H0)).val? (sizeT ((n : Nat) : Int))) size14_5 n (by omega) (by omega)
  rcases Nat.lt_or_ge n 112 with g6 | g6
  · exact range_all (p := fun n => sizeI (Ly.run env.bare 6000 [] (Ly.start Try.f14 [.int .u8 ((n : Nat) : Int)] H0)).val? (sizeT ((n : Nat) : Int))) size14_6 n (by omega) (by omega)
  rcases Nat.lt_or_ge n 128 with g7 | g7
  · exact range_all (p := fun n => sizeI (Ly.run env.bare 6000 [] (Ly.start Try.f14 [.int .u8 ((n : Nat) : Int)] H0)).val? (sizeT ((n : Nat) : Int))) size14_7 n (by omega) (by omega)
  rcases Nat.lt_or_ge n 144 with g8 | g8
  · exact range_all (p := fun n => sizeI (Ly.run env.bare 6000 [] (Ly.start Try.f14 [.int .u8 ((n : Nat) : Int)] H0)).val? (sizeT ((n : Nat) : Int))) size14_8 n (by omega) (by omega)
  rcases Nat.lt_or_ge n 160 with g9 | g9
  · exact range_all (p := fun n => sizeI (Ly.run env.bare 6000 [] (Ly.start Try.f14 [.int .u8 ((n : Nat) : Int)] H0)).val? (sizeT ((n : Nat) : Int))) size14_9 n (by omega) (by omega)
  rcases Nat.lt_or_ge n 176 with g10 | g10
  · exact range_all (p := fun n => sizeI (Ly.run env.bare 6000 [] (Ly.start Try.f14 [.int .u8 ((n : Nat) : Int)] H0)).val? (sizeT ((n : Nat) : Int))) size14_10 n (by omega) (by omega)
  rcases Nat.lt_or_ge n 192 with g11 | g11
  · exact range_all (p := fun n => sizeI (Ly.run env.bare 6000 [] (Ly.start Try.f14 [.int .u8 ((n : Nat) : Int)] H0)).val? (sizeT ((n : Nat) : Int))) size14_11 n (by omega) (by omega)
  rcases Nat.lt_or_ge n 208 with g12 | g12
  · exact range_all (p := fun n => sizeI (Ly.run env.bare 6000 [] (Ly.start Try.f14 [.int .u8 ((n : Nat) : Int)] H0)).val? (sizeT ((n : Nat) : Int))) size14_12 n (by omega) (by omega)
  rcases Nat.lt_or_ge n 224 with g13 | g13
  · exact range_all (p := fun n => sizeI (Ly.run env.bare 6000 [] (Ly.start Try.f14 [.int .u8 ((n : Nat) : Int)] H0)).val? (sizeT ((n : Nat) : Int))) size14_13 n (by omega) (by omega)
  rcases Nat.lt_or_ge n 240 with g14 | g14
  · exact range_all (p := fun n => sizeI (Ly.run env.bare 6000 [] (Ly.start Try.f14 [.int .u8 ((n : Nat) : Int)] H0)).val? (sizeT ((n : Nat) : Int))) size14_14 n (by omega) (by omega)
  rcases Nat.lt_or_ge n 256 with g15 | g15
  · exact range_all (p := fun n => sizeI (Ly.run env.bare 6000 [] (Ly.start Try.f14 [.int .u8 ((n : Nat) : Int)] H0)).val? (sizeT ((n : Nat) : Int))) size14_15 n (by omega) (by omega)
  omega
theorem size14_get : env.bare.fn.get 14 = some Try.f14 := by kernel_rfl
theorem size14_ans : Answers Try.prog 14 sizeC := by
  intro args g v h hg
  unfold sizeC at h
  split at h
  · rename_i op
    simp only [Option.some.injEq, Prod.mk.injEq] at h
    obtain ⟨rfl, rfl⟩ := h
    rw [inb_iff] at hg
    obtain ⟨n, rfl⟩ := Int.eq_ofNat_of_zero_le hg.1
    refine ⟨by simp [plain, plainL], by simp [plain], fun w => ?_⟩
    exact calls_plain (by simp [VRL, VR]) (fun ρ v' h => by simpa [VR] using h) (LCalls_run (Env.bare_ok envOk) 6000 size14_get (by kernel_rfl) (sizeI_eq (size14_all n (by omega)))) w
  · cases h
theorem size15_0 : ((List.range 16).all fun i => sizeI (Ly.run env.bare 6000 [] (Ly.start Try.f15 [.int .u8 (((0 + i) : Nat) : Int)] H0)).val? (sizeT (((0 + i) : Nat) : Int))) = true := by kernel_rfl
theorem size15_1 : ((List.range 16).all fun i => sizeI (Ly.run env.bare 6000 [] (Ly.start Try.f15 [.int .u8 (((16 + i) : Nat) : Int)] H0)).val? (sizeT (((16 + i) : Nat) : Int))) = true := by kernel_rfl
theorem size15_2 : ((List.range 16).all fun i => sizeI (Ly.run env.bare 6000 [] (Ly.start Try.f15 [.int .u8 (((32 + i) : Nat) : Int)] H0)).val? (sizeT (((32 + i) : Nat) : Int))) = true := by kernel_rfl
theorem size15_3 : ((List.range 16).all fun i => sizeI (Ly.run env.bare 6000 [] (Ly.start Try.f15 [.int .u8 (((48 + i) : Nat) : Int)] H0)).val? (sizeT (((48 + i) : Nat) : Int))) = true := by kernel_rfl
theorem size15_4 : ((List.range 16).all fun i => sizeI (Ly.run env.bare 6000 [] (Ly.start Try.f15 [.int .u8 (((64 + i) : Nat) : Int)] H0)).val? (sizeT (((64 + i) : Nat) : Int))) = true := by kernel_rfl
theorem size15_5 : ((List.range 16).all fun i => sizeI (Ly.run env.bare 6000 [] (Ly.start Try.f15 [.int .u8 (((80 + i) : Nat) : Int)] H0)).val? (sizeT (((80 + i) : Nat) : Int))) = true := by kernel_rfl
theorem size15_6 : ((List.range 16).all fun i => sizeI (Ly.run env.bare 6000 [] (Ly.start Try.f15 [.int .u8 (((96 + i) : Nat) : Int)] H0)).val? (sizeT (((96 + i) : Nat) : Int))) = true := by kernel_rfl
theorem size15_7 : ((List.range 16).all fun i => sizeI (Ly.run env.bare 6000 [] (Ly.start Try.f15 [.int .u8 (((112 + i) : Nat) : Int)] H0)).val? (sizeT (((112 + i) : Nat) : Int))) = true := by kernel_rfl
theorem size15_8 : ((List.range 16).all fun i => sizeI (Ly.run env.bare 6000 [] (Ly.start Try.f15 [.int .u8 (((128 + i) : Nat) : Int)] H0)).val? (sizeT (((128 + i) : Nat) : Int))) = true := by kernel_rfl
theorem size15_9 : ((List.range 16).all fun i => sizeI (Ly.run env.bare 6000 [] (Ly.start Try.f15 [.int .u8 (((144 + i) : Nat) : Int)] H0)).val? (sizeT (((144 + i) : Nat) : Int))) = true := by kernel_rfl
theorem size15_10 : ((List.range 16).all fun i => sizeI (Ly.run env.bare 6000 [] (Ly.start Try.f15 [.int .u8 (((160 + i) : Nat) : Int)] H0)).val? (sizeT (((160 + i) : Nat) : Int))) = true := by kernel_rfl
theorem size15_11 : ((List.range 16).all fun i => sizeI (Ly.run env.bare 6000 [] (Ly.start Try.f15 [.int .u8 (((176 + i) : Nat) : Int)] H0)).val? (sizeT (((176 + i) : Nat) : Int))) = true := by kernel_rfl
theorem size15_12 : ((List.range 16).all fun i => sizeI (Ly.run env.bare 6000 [] (Ly.start Try.f15 [.int .u8 (((192 + i) : Nat) : Int)] H0)).val? (sizeT (((192 + i) : Nat) : Int))) = true := by kernel_rfl
theorem size15_13 : ((List.range 16).all fun i => sizeI (Ly.run env.bare 6000 [] (Ly.start Try.f15 [.int .u8 (((208 + i) : Nat) : Int)] H0)).val? (sizeT (((208 + i) : Nat) : Int))) = true := by kernel_rfl
theorem size15_14 : ((List.range 16).all fun i => sizeI (Ly.run env.bare 6000 [] (Ly.start Try.f15 [.int .u8 (((224 + i) : Nat) : Int)] H0)).val? (sizeT (((224 + i) : Nat) : Int))) = true := by kernel_rfl
theorem size15_15 : ((List.range 16).all fun i => sizeI (Ly.run env.bare 6000 [] (Ly.start Try.f15 [.int .u8 (((240 + i) : Nat) : Int)] H0)).val? (sizeT (((240 + i) : Nat) : Int))) = true := by kernel_rfl
theorem size15_all (n : Nat) (h : n < 256) : sizeI (Ly.run env.bare 6000 [] (Ly.start Try.f15 [.int .u8 ((n : Nat) : Int)] H0)).val? (sizeT ((n : Nat) : Int)) = true := by
  rcases Nat.lt_or_ge n 16 with g0 | g0
  · exact range_all (p := fun n => sizeI (Ly.run env.bare 6000 [] (Ly.start Try.f15 [.int .u8 ((n : Nat) : Int)] H0)).val? (sizeT ((n : Nat) : Int))) size15_0 n (by omega) (by omega)
  rcases Nat.lt_or_ge n 32 with g1 | g1
  · exact range_all (p := fun n => sizeI (Ly.run env.bare 6000 [] (Ly.start Try.f15 [.int .u8 ((n : Nat) : Int)] H0)).val? (sizeT ((n : Nat) : Int))) size15_1 n (by omega) (by omega)
  rcases Nat.lt_or_ge n 48 with g2 | g2
  · exact range_all (p := fun n => sizeI (Ly.run env.bare 6000 [] (Ly.start Try.f15 [.int .u8 ((n : Nat) : Int)] H0)).val? (sizeT ((n : Nat) : Int))) size15_2 n (by omega) (by omega)
  rcases Nat.lt_or_ge n 64 with g3 | g3
  · exact range_all (p := fun n => sizeI (Ly.run env.bare 6000 [] (Ly.start Try.f15 [.int .u8 ((n : Nat) : Int)] H0)).val? (sizeT ((n : Nat) : Int))) size15_3 n (by omega) (by omega)
  rcases Nat.lt_or_ge n 80 with g4 | g4
  · exact range_all (p := fun n => sizeI (Ly.run env.bare 6000 [] (Ly.start Try.f15 [.int .u8 ((n : Nat) : Int)] H0)).val? (sizeT ((n : Nat) : Int))) size15_4 n (by omega) (by omega)
  rcases Nat.lt_or_ge n 96 with g5 | g5
  · exact range_all (p := fun n => sizeI (Ly.run env.bare 6000 [] (Ly.start Try.f15 [.int .u8 ((n : Nat) : Int)] H0)).val? (sizeT ((n : Nat) : Int))) size15_5 n (by omega) (by omega)
  rcases Nat.lt_or_ge n 112 with g6 | g6
  · exact range_all (p := fun n => sizeI (Ly.run env.bare 6000 [] (Ly.start Try.f15 [.int .u8 ((n : Nat) : Int)] H0)).val? (sizeT ((n : Nat) : Int))) size15_6 n (by omega) (by omega)
  rcases Nat.lt_or_ge n 128 with g7 | g7
  · exact range_all (p := fun n => sizeI (Ly.run env.bare 6000 [] (Ly.start Try.f15 [.int .u8 ((n : Nat) : Int)] H0)).val? (sizeT ((n : Nat) : Int))) size15_7 n (by omega) (by omega)
  rcases Nat.lt_or_ge n 144 with g8 | g8
  · exact range_all (p := fun n => sizeI (Ly.run env.bare 6000 [] (Ly.start Try.f15 [.int .u8 ((n : Nat) : Int)] H0)).val? (sizeT ((n : Nat) : Int))) size15_8 n (by omega) (by omega)
  rcases Nat.lt_or_ge n 160 with g9 | g9
  · exact range_all (p := fun n => sizeI (Ly.run env.bare 6000 [] (Ly.start Try.f15 [.int .u8 ((n : Nat) : Int)] H0)).val? (sizeT ((n : Nat) : Int))) size15_9 n (by omega) (by omega)
  rcases Nat.lt_or_ge n 176 with g10 | g10
  · exact range_all (p := fun n => sizeI (Ly.run env.bare 6000 [] (Ly.start Try.f15 [.int .u8 ((n : Nat) : Int)] H0)).val? (sizeT ((n : Nat) : Int))) size15_10 n (by omega) (by omega)
  rcases Nat.lt_or_ge n 192 with g11 | g11
  · exact range_all (p := fun n => sizeI (Ly.run env.bare 6000 [] (Ly.start Try.f15 [.int .u8 ((n : Nat) : Int)] H0)).val? (sizeT ((n : Nat) : Int))) size15_11 n (by omega) (by omega)
  rcases Nat.lt_or_ge n 208 with g12 | g12
  · exact range_all (p := fun n => sizeI (Ly.run env.bare 6000 [] (Ly.start Try.f15 [.int .u8 ((n : Nat) : Int)] H0)).val? (sizeT ((n : Nat) : Int))) size15_12 n (by omega) (by omega)
  rcases Nat.lt_or_ge n 224 with g13 | g13
  · exact range_all (p := fun n => sizeI (Ly.run env.bare 6000 [] (Ly.start Try.f15 [.int .u8 ((n : Nat) : Int)] H0)).val? (sizeT ((n : Nat) : Int))) size15_13 n (by omega) (by omega)
  rcases Nat.lt_or_ge n 240 with g14 | g14
  · exact range_all (p := fun n => sizeI (Ly.run env.bare 6000 [] (Ly.start Try.f15 [.int .u8 ((n : Nat) : Int)] H0)).val? (sizeT ((n : Nat) : Int))) size15_14 n (by omega) (by omega)
  rcases Nat.lt_or_ge n 256 with g15 | g15
  · exact range_all (p := fun n => sizeI (Ly.run env.bare 6000 [] (Ly.start Try.f15 [.int .u8 ((n : Nat) : Int)] H0)).val? (sizeT ((n : Nat) : Int))) size15_15 n (by omega) (by omega)
  omega
theorem size15_get : env.bare.fn.get 15 = some Try.f15 := by kernel_rfl
theorem size15_ans : Answers Try.prog 15 sizeC := by
  intro args g v h hg
  unfold sizeC at h
  split at h
  · rename_i op
    simp only [Option.some.injEq, Prod.mk.injEq] at h
    obtain ⟨rfl, rfl⟩ := h
    rw [inb_iff] at hg
    obtain ⟨n, rfl⟩ := Int.eq_ofNat_of_zero_le hg.1
    refine ⟨by simp [plain, plainL], by simp [plain], fun w => ?_⟩
    exact calls_plain (by simp [VRL, VR]) (fun ρ v' h => by simpa [VR] using h) (LCalls_run (Env.bare_ok envOk) 6000 size15_get (by kernel_rfl) (sizeI_eq (size15_all n (by omega)))) w
  · cases h
end Go.Proofs.Ytofimkcfenemlaa
