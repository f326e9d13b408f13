/- Functions of a byte that answer by a table: 43, 32. By program (table.py). -/
import Derived.Test.YtpggoincnebfnaaCy
import Derived.Test.YtpggoincnebfnaaLyV
import Derived.KernelRfl
namespace Go.Proofs.Ytpggoincnebfnaa
open Go Go.Ly Go.RowKit
set_option linter.unusedVariables false
/-- the table -/
noncomputable def sizeL : List Nat := [1, 3, 1, 1, 1, 1, 2, 1, 0, 1, 1, 1, 1, 1, 2, 1, 0, 3, 1, 1, 1, 1, 2, 1, 0, 1, 1, 1, 1, 1, 2, 1, 0, 3, 3, 1, 1, 1, 2, 1, 0, 1, 3, 1, 1, 1, 2, 1, 0, 3, 3, 1, 1, 1, 2, 1, 0, 1, 3, 1, 1, 1, 2, 1, 1, 1, 1, 1, 1, 1, 1, 1, 1, 1, 1, 1, 1, 1, 1, 1, 1, 1, 1, 1, 1, 1, 1, 1, 1, 1, 1, 1, 1, 1, 1, 1, 1, 1, 1, 1, 1, 1, 1, 1, 1, 1, 1, 1, 1, 1, 1, 1, 1, 1, 1, 1, 1, 1, 1, 1, 1, 1, 1, 1, 1, 1, 1, 1, 1, 1, 1, 1, 1, 1, 1, 1, 1, 1, 1, 1, 1, 1, 1, 1, 1, 1, 1, 1, 1, 1, 1, 1, 1, 1, 1, 1, 1, 1, 1, 1, 1, 1, 1, 1, 1, 1, 1, 1, 1, 1, 1, 1, 1, 1, 1, 1, 1, 1, 1, 1, 1, 1, 1, 1, 1, 1, 1, 1, 1, 1, 1, 1, 1, 1, 3, 3, 3, 1, 2, 1, 1, 1, 3, 0, 3, 3, 2, 1, 1, 1, 3, 2, 3, 1, 2, 1, 1, 0, 3, 2, 3, 0, 2, 1, 1, 1, 3, 1, 3, 1, 2, 1, 1, 1, 3, 1, 3, 0, 2, 1, 1, 1, 3, 1, 3, 1, 2, 1, 1, 1, 3, 1, 3, 0, 2, 1]
noncomputable def sizeT (op : Int) : Int := ((sizeL[op.toNat]?).getD 0 : Nat)
noncomputable def sizeC (l : List Value) : Option (Bool × Value) := match l with
  | [.int .u8 op] => some (inb op, .int .i64 (sizeT op))
  | _ => none
noncomputable def sizeI : Option Value → Int → Bool
  | some (.int .i64 x), b => x == b
  | _, _ => false
theorem sizeI_eq {o : Option Value} {b : Int} (h : sizeI o b = true) : o = some (.int .i64 b) := by
  unfold sizeI at h
  split at h
  · simp at h; subst h; rfl
  · cases h
theorem size43_0 : ((List.range 16).all fun i => sizeI (Ly.run env.bare 6000 [] (Ly.start Try.f43 [.int .u8 (((0 + i) : Nat) : Int)] H0)).val? (sizeT (((0 + i) : Nat) : Int))) = true := by kernel_rfl
theorem size43_1 : ((List.range 16).all fun i => sizeI (Ly.run env.bare 6000 [] (Ly.start Try.f43 [.int .u8 (((16 + i) : Nat) : Int)] H0)).val? (sizeT (((16 + i) : Nat) : Int))) = true := by kernel_rfl
theorem size43_2 : ((List.range 16).all fun i => sizeI (Ly.run env.bare 6000 [] (Ly.start Try.f43 [.int .u8 (((32 + i) : Nat) : Int)] H0)).val? (sizeT (((32 + i) : Nat) : Int))) = true := by kernel_rfl
theorem size43_3 : ((List.range 16).all fun i => sizeI (Ly.run env.bare 6000 [] (Ly.start Try.f43 [.int .u8 (((48 + i) : Nat) : Int)] H0)).val? (sizeT (((48 + i) : Nat) : Int))) = true := by kernel_rfl
theorem size43_4 : ((List.range 16).all fun i => sizeI (Ly.run env.bare 6000 [] (Ly.start Try.f43 [.int .u8 (((64 + i) : Nat) : Int)] H0)).val? (sizeT (((64 + i) : Nat) : Int))) = true := by kernel_rfl
theorem size43_5 : ((List.range 16).all fun i => sizeI (Ly.run env.bare 6000 [] (Ly.start Try.f43 [.int .u8 (((80 + i) : Nat) : Int)] H0)).val? (sizeT (((80 + i) : Nat) : Int))) = true := by kernel_rfl
theorem size43_6 : ((List.range 16).all fun i => sizeI (Ly.run env.bare 6000 [] (Ly.start Try.f43 [.int .u8 (((96 + i) : Nat) : Int)] H0)).val? (sizeT (((96 + i) : Nat) : Int))) = true := by kernel_rfl
theorem size43_7 : ((List.range 16).all fun i => sizeI (Ly.run env.bare 6000 [] (Ly.start Try.f43 [.int .u8 (((112 + i) : Nat) : Int)] H0)).val? (sizeT (((112 + i) : Nat) : Int))) = true := by kernel_rfl
theorem size43_8 : ((List.range 16).all fun i => sizeI (Ly.run env.bare 6000 [] (Ly.start Try.f43 [.int .u8 (((128 + i) : Nat) : Int)] H0)).val? (sizeT (((128 + i) : Nat) : Int))) = true := by kernel_rfl
theorem size43_9 : ((List.range 16).all fun i => sizeI (Ly.run env.bare 6000 [] (Ly.start Try.f43 [.int .u8 (((144 + i) : Nat) : Int)] H0)).val? (sizeT (((144 + i) : Nat) : Int))) = true := by kernel_rfl
theorem size43_10 : ((List.range 16).all fun i => sizeI (Ly.run env.bare 6000 [] (Ly.start Try.f43 [.int .u8 (((160 + i) : Nat) : Int)] H0)).val? (sizeT (((160 + i) : Nat) : Int))) = true := by kernel_rfl
theorem size43_11 : ((List.range 16).all fun i => sizeI (Ly.run env.bare 6000 [] (Ly.start Try.f43 [.int .u8 (((176 + i) : Nat) : Int)] H0)).val? (sizeT (((176 + i) : Nat) : Int))) = true := by kernel_rfl
theorem size43_12 : ((List.range 16).all fun i => sizeI (Ly.run env.bare 6000 [] (Ly.start Try.f43 [.int .u8 (((192 + i) : Nat) : Int)] H0)).val? (sizeT (((192 + i) : Nat) : Int))) = true := by kernel_rfl
theorem size43_13 : ((List.range 16).all fun i => sizeI (Ly.run env.bare 6000 [] (Ly.start Try.f43 [.int .u8 (((208 + i) : Nat) : Int)] H0)).val? (sizeT (((208 + i) : Nat) : Int))) = true := by kernel_rfl
theorem size43_14 : ((List.range 16).all fun i => sizeI (Ly.run env.bare 6000 [] (Ly.start Try.f43 [.int .u8 (((224 + i) : Nat) : Int)] H0)).val? (sizeT (((224 + i) : Nat) : Int))) = true := by kernel_rfl
theorem size43_15 : ((List.range 16).all fun i => sizeI (Ly.run env.bare 6000 [] (Ly.start Try.f43 [.int .u8 (((240 + i) : Nat) : Int)] H0)).val? (sizeT (((240 + i) : Nat) : Int))) = true := by kernel_rfl
theorem size43_all (n : Nat) (h : n < 256) : sizeI (Ly.run env.bare 6000 [] (Ly.start Try.f43 [.int .u8 ((n : Nat) : Int)] H0)).val? (sizeT ((n : Nat) : Int)) = true := by
  rcases Nat.lt_or_ge n 16 with g0 | g0
  · exact range_all (p := fun n => sizeI (Ly.run env.bare 6000 [] (Ly.start Try.f43 [.int .u8 ((n : Nat) : Int)] H0)).val? (sizeT ((n : Nat) : Int))) size43_0 n (by omega) (by omega)
  rcases Nat.lt_or_ge n 32 with g1 | g1
  · exact range_all (p := fun n => sizeI (Ly.run env.bare 6000 [] (Ly.start Try.f43 [.int .u8 ((n : Nat) : Int)] H0)).val? (sizeT ((n : Nat) : Int))) size43_1 n (by omega) (by omega)
  rcases Nat.lt_or_ge n 48 with g2 | g2
  · exact range_all (p := fun n => sizeI (Ly.run env.bare 6000 [] (Ly.start Try.f43 [.int .u8 ((n : Nat) : Int)] H0)).val? (sizeT ((n : Nat) : Int))) size43_2 n (by omega) (by omega)
  rcases Nat.lt_or_ge n 64 with g3 | g3
  · exact range_all (p := fun n => sizeI (Ly.run env.bare 6000 [] (Ly.start Try.f43 [.int .u8 ((n : Nat) : Int)] H0)).val? (sizeT ((n : Nat) : Int))) size43_3 n (by omega) (by omega)
  rcases Nat.lt_or_ge n 80 with g4 | g4
  · exact range_all (p := fun n => sizeI (Ly.run env.bare 6000 [] (Ly.start Try.f43 [.int .u8 ((n : Nat) : Int)] H0)).val? (sizeT ((n : Nat) : Int))) size43_4 n (by omega) (by omega)
  rcases Nat.lt_or_ge n 96 with g5 | g5
  · exact range_all (p := fun n => sizeI (Ly.run env.bare 6000 [] (Ly.start Try.f43 [.int .u8 ((n : Nat) : Int)] H0)).val? (sizeT ((n : Nat) : Int))) size43_5 n (by omega) (by omega)
  rcases Nat.lt_or_ge n 112 with g6 | g6
  · exact range_all (p := fun n => sizeI (Ly.run env.bare 6000 [] (Ly.start Try.f43 [.int .u8 ((n : Nat) : Int)] H0)).val? (sizeT ((n : Nat) : Int))) size43_6 n (by omega) (by omega)
  rcases Nat.lt_or_ge n 128 with g7 | g7
  · exact range_all (p := fun n => sizeI (Ly.run env.bare 6000 [] (Ly.start Try.f43 [.int .u8 ((n : Nat) : Int)] H0)).val? (sizeT ((n : Nat) : Int))) size43_7 n (by omega) (by omega)
  rcases Nat.lt_or_ge n 144 with g8 | g8
  · exact range_all (p := fun n => sizeI (Ly.run env.bare 6000 [] (Ly.start Try.f43 [.int .u8 ((n : Nat) : Int)] H0)).val? (sizeT ((n : Nat) : Int))) size43_8 n (by omega) (by omega)
  rcases Nat.lt_or_ge n 160 with g9 | g9
  · exact range_all (p := fun n => sizeI (Ly.run env.bare 6000 [] (Ly.start Try.f43 [.int .u8 ((n : Nat) : Int)] H0)).val? (sizeT ((n : Nat) : Int))) size43_9 n (by omega) (by omega)
  rcases Nat.lt_or_ge n 176 with g10 | g10
  · exact range_all (p := fun n => sizeI (Ly.run env.bare 6000 [] (Ly.start Try.f43 [.int .u8 ((n : Nat) : Int)] H0)).val? (sizeT ((n : Nat) : Int))) size43_10 n (by omega) (by omega)
  rcases Nat.lt_or_ge n 192 with g11 | g11
  · exact range_all (p := fun n => sizeI (Ly.run env.bare 6000 [] (Ly.start Try.f43 [.int .u8 ((n : Nat) : Int)] H0)).val? (sizeT ((n : Nat) : Int))) size43_11 n (by omega) (by omega)
  rcases Nat.lt_or_ge n 208 with g12 | g12
  · exact range_all (p := fun n => sizeI (Ly.run env.bare 6000 [] (Ly.start Try.f43 [.int .u8 ((n : Nat) : Int)] H0)).val? (sizeT ((n : Nat) : Int))) size43_12 n (by omega) (by omega)
  rcases Nat.lt_or_ge n 224 with g13 | g13
  · exact range_all (p := fun n => sizeI (Ly.run env.bare 6000 [] (Ly.start Try.f43 [.int .u8 ((n : Nat) : Int)] H0)).val? (sizeT ((n : Nat) : Int))) size43_13 n (by omega) (by omega)
  rcases Nat.lt_or_ge n 240 with g14 | g14
  · exact range_all (p := fun n => sizeI (Ly.run env.bare 6000 [] (Ly.start Try.f43 [.int .u8 ((n : Nat) : Int)] H0)).val? (sizeT ((n : Nat) : Int))) size43_14 n (by omega) (by omega)
  rcases Nat.lt_or_ge n 256 with g15 | g15
  · exact range_all (p := fun n => sizeI (Ly.run env.bare 6000 [] (Ly.start Try.f43 [.int .u8 ((n : Nat) : Int)] H0)).val? (sizeT ((n : Nat) : Int))) size43_15 n (by omega) (by omega)
  omega
theorem size43_get : env.bare.fn.get 43 = some Try.f43 := by kernel_rfl
theorem size43_ans : Answers Try.prog 43 sizeC := by
  intro args g v h hg
  unfold sizeC at h
  split at h
  · rename_i op
    simp only [Option.some.injEq, Prod.mk.injEq] at h
    obtain ⟨rfl, rfl⟩ := h
    rw [inb_iff] at hg
    obtain ⟨n, rfl⟩ := Int.eq_ofNat_of_zero_le hg.1
    refine ⟨by simp [plain, plainL], by simp [plain], fun w => ?_⟩
    exact calls_plain (by simp [VRL, VR]) (fun ρ v' h => by simpa [VR] using h) (LCalls_run (Env.bare_ok envOk) 6000 size43_get (by kernel_rfl) (sizeI_eq (size43_all n (by omega)))) w
  · cases h
theorem size32_0 : ((List.range 16).all fun i => sizeI (Ly.run env.bare 6000 [] (Ly.start Try.f32 [.int .u8 (((0 + i) : Nat) : Int)] H0)).val? (sizeT (((0 + i) : Nat) : Int))) = true := by kernel_rfl
theorem size32_1 : ((List.range 16).all fun i => sizeI (Ly.run env.bare 6000 [] (Ly.start Try.f32 [.int .u8 (((16 + i) : Nat) : Int)] H0)).val? (sizeT (((16 + i) : Nat) : Int))) = true := by kernel_rfl
theorem size32_2 : ((List.range 16).all fun i => sizeI (Ly.run env.bare 6000 [] (Ly.start Try.f32 [.int .u8 (((32 + i) : Nat) : Int)] H0)).val? (sizeT (((32 + i) : Nat) : Int))) = true := by kernel_rfl
theorem size32_3 : ((List.range 16).all fun i => sizeI (Ly.run env.bare 6000 [] (Ly.start Try.f32 [.int .u8 (((48 + i) : Nat) : Int)] H0)).val? (sizeT (((48 + i) : Nat) : Int))) = true := by kernel_rfl
theorem size32_4 : ((List.range 16).all fun i => sizeI (Ly.run env.bare 6000 [] (Ly.start Try.f32 [.int .u8 (((64 + i) : Nat) : Int)] H0)).val? (sizeT (((64 + i) : Nat) : Int))) = true := by kernel_rfl
theorem size32_5 : ((List.range 16).all fun i => sizeI (Ly.run env.bare 6000 [] (Ly.start Try.f32 [.int .u8 (((80 + i) : Nat) : Int)] H0)).val? (sizeT (((80 + i) : Nat) : Int))) = true := by kernel_rfl
theorem size32_6 : ((List.range 16).all fun i => sizeI (Ly.run env.bare 6000 [] (Ly.start Try.f32 [.int .u8 (((96 + i) : Nat) : Int)] H0)).val? (sizeT (((96 + i) : Nat) : Int))) = true := by kernel_rfl
theorem size32_7 : ((List.range 16).all fun i => sizeI (Ly.run env.bare 6000 [] (Ly.start Try.f32 [.int .u8 (((112 + i) : Nat) : Int)] H0)).val? (sizeT (((112 + i) : Nat) : Int))) = true := by kernel_rfl
theorem size32_8 : ((List.range 16).all fun i => sizeI (Ly.run env.bare 6000 [] (Ly.start Try.f32 [.int .u8 (((128 + i) : Nat) : Int)] H0)).val? (sizeT (((128 + i) : Nat) : Int))) = true := by kernel_rfl
theorem size32_9 : ((List.range 16).all fun i => sizeI (Ly.run env.bare 6000 [] (Ly.start Try.f32 [.int .u8 (((144 + i) : Nat) : Int)] H0)).val? (sizeT (((144 + i) : Nat) : Int))) = true := by kernel_rfl
theorem size32_10 : ((List.range 16).all fun i => sizeI (Ly.run env.bare 6000 [] (Ly.start Try.f32 [.int .u8 (((160 + i) : Nat) : Int)] H0)).val? (sizeT (((160 + i) : Nat) : Int))) = true := by kernel_rfl
theorem size32_11 : ((List.range 16).all fun i => sizeI (Ly.run env.bare 6000 [] (Ly.start Try.f32 [.int .u8 (((176 + i) : Nat) : Int)] H0)).val? (sizeT (((176 + i) : Nat) : Int))) = true := by kernel_rfl
theorem size32_12 : ((List.range 16).all fun i => sizeI (Ly.run env.bare 6000 [] (Ly.start Try.f32 [.int .u8 (((192 + i) : Nat) : Int)] H0)).val? (sizeT (((192 + i) : Nat) : Int))) = true := by kernel_rfl
theorem size32_13 : ((List.range 16).all fun i => sizeI (Ly.run env.bare 6000 [] (Ly.start Try.f32 [.int .u8 (((208 + i) : Nat) : Int)] H0)).val? (sizeT (((208 + i) : Nat) : Int))) = true := by kernel_rfl
theorem size32_14 : ((List.range 16).all fun i => sizeI (Ly.run env.bare 6000 [] (Ly.start Try.f32 [.int .u8 (((224 + i) : Nat) : Int)] H0)).val? (sizeT (((224 + i) : Nat) : Int))) = true := by kernel_rfl
theorem size32_15 : ((List.range 16).all fun i => sizeI (Ly.run env.bare 6000 [] (Ly.start Try.f32 [.int .u8 (((240 + i) : Nat) : Int)] H0)).val? (sizeT (((240 + i) : Nat) : Int))) = true := by kernel_rfl
theorem size32_all (n : Nat) (h : n < 256) : sizeI (Ly.run env.bare 6000 [] (Ly.start Try.f32 [.int .u8 ((n : Nat) : Int)] H0)).val? (sizeT ((n : Nat) : Int)) = true := by
  rcases Nat.lt_or_ge n 16 with g0 | g0
  · exact range_all (p := fun n => sizeI (Ly.run env.bare 6000 [] (Ly.start Try.f32 [.int .u8 ((n : Nat) : Int)] H0)).val? (sizeT ((n : Nat) : Int))) size32_0 n (by omega) (by omega)
  rcases Nat.lt_or_ge n 32 with g1 | g1
  · exact range_all (p := fun n => sizeI (Ly.run env.bare 6000 [] (Ly.start Try.f32 [.int .u8 ((n : Nat) : Int)] H0)).val? (sizeT ((n : Nat) : Int))) size32_1 n (by omega) (by omega)
  rcases Nat.lt_or_ge n 48 with g2 | g2
  · exact range_all (p := fun n => sizeI (Ly.run env.bare 6000 [] (Ly.start Try.f32 [.int .u8 ((n : Nat) : Int)] H0)).val? (sizeT ((n : Nat) : Int))) size32_2 n (by omega) (by omega)
  rcases Nat.lt_or_ge n 64 with g3 | g3
  · exact range_all (p := fun n => sizeI (Ly.run env.bare 6000 [] (Ly.start Try.f32 [.int .u8 ((n : Nat) : Int)] H0)).val? (sizeT ((n : Nat) : Int))) size32_3 n (by omega) (by omega)
  rcases Nat.lt_or_ge n 80 with g4 | g4
  · exact range_all (p := fun n => sizeI (Ly.run env.bare 6000 [] (Ly.start Try.f32 [.int .u8 ((n : Nat) : Int)] H0)).val? (sizeT ((n : Nat) : Int))) size32_4 n (by omega) (by omega)
  rcases Nat.lt_or_ge n 96 with g5 | g5
  · exact range_all (p := fun n => sizeI (Ly.run env.bare 6000 [] (Ly.start Try.f32 [.int .u8 ((n : Nat) : Int)] H0)).val? (sizeT ((n : Nat) : Int))) size32_5 n (by omega) (by omega)
  rcases Nat.lt_or_ge n 112 with g6 | g6
  · exact range_all (p := fun n => sizeI (Ly.run env.bare 6000 [] (Ly.start Try.f32 [.int .u8 ((n : Nat) : Int)] H0)).val? (sizeT ((n : Nat) : Int))) size32_6 n (by omega) (by omega)
  rcases Nat.lt_or_ge n 128 with g7 | g7
  · exact range_all (p := fun n => sizeI (Ly.run env.bare 6000 [] (Ly.start Try.f32 [.int .u8 ((n : Nat) : Int)] H0)).val? (sizeT ((n : Nat) : Int))) size32_7 n (by omega) (by omega)
  rcases Nat.lt_or_ge n 144 with g8 | g8
  · exact range_all (p := fun n => sizeI (Ly.run env.bare 6000 [] (Ly.start Try.f32 [.int .u8 ((n : Nat) : Int)] H0)).val? (sizeT ((n : Nat) : Int))) size32_8 n (by omega) (by omega)
  rcases Nat.lt_or_ge n 160 with g9 | g9
  · exact range_all (p := fun n => sizeI (Ly.run env.bare 6000 [] (Ly.start Try.f32 [.int .u8 ((n : Nat) : Int)] H0)).val? (sizeT ((n : Nat) : Int))) size32_9 n (by omega) (by omega)
  rcases Nat.lt_or_ge n 176 with g10 | g10
  · exact range_all (p := fun n => sizeI (Ly.run env.bare 6000 [] (Ly.start Try.f32 [.int .u8 ((n : Nat) : Int)] H0)).val? (sizeT ((n : Nat) : Int))) size32_10 n (by omega) (by omega)
  rcases Nat.lt_or_ge n 192 with g11 | g11
  · exact range_all (p := fun n => sizeI (Ly.run env.bare 6000 [] (Ly.start Try.f32 [.int .u8 ((n : Nat) : Int)] H0)).val? (sizeT ((n : Nat) : Int))) size32_11 n (by omega) (by omega)
  rcases Nat.lt_or_ge n 208 with g12 | g12
  · exact range_all (p := fun n => sizeI (Ly.run env.bare 6000 [] (Ly.start Try.f32 [.int .u8 ((n : Nat) : Int)] H0)).val? (sizeT ((n : Nat) : Int))) size32_12 n (by omega) (by omega)
  rcases Nat.lt_or_ge n 224 with g13 | g13
  · exact range_all (p := fun n => sizeI (Ly.run env.bare 6000 [] (Ly.start Try.f32 [.int .u8 ((n : Nat) : Int)] H0)).val? (sizeT ((n : Nat) : Int))) size32_13 n (by omega) (by omega)
  rcases Nat.lt_or_ge n 240 with g14 | g14
  · exact range_all (p := fun n => sizeI (Ly.run env.bare 6000 [] (Ly.start Try.f32 [.int .u8 ((n : Nat) : Int)] H0)).val? (sizeT ((n : Nat) : Int))) size32_14 n (by omega) (by omega)
  rcases Nat.lt_or_ge n 256 with g15 | g15
  · exact range_all (p := fun n => sizeI (Ly.run env.bare 6000 [] (Ly.start Try.f32 [.int .u8 ((n : Nat) : Int)] H0)).val? (sizeT ((n : Nat) : Int))) size32_15 n (by omega) (by omega)
  omega
theorem size32_get : env.bare.fn.get 32 = some Try.f32 := by kernel_rfl
theorem size32_ans : Answers Try.prog 32 sizeC := by
  intro args g v h hg
  unfold sizeC at h
  split at h
  · rename_i op
    simp only [Option.some.injEq, Prod.mk.injEq] at h
    obtain ⟨rfl, rfl⟩ := h
    rw [inb_iff] at hg
    obtain ⟨n, rfl⟩ := Int.eq_ofNat_of_zero_le hg.1
    refine ⟨by simp [plain, plainL], by simp [plain], fun w => ?_⟩
    exact calls_plain (by simp [VRL, VR]) (fun ρ v' h => by simpa [VR] using h) (LCalls_run (Env.bare_ok envOk) 6000 size32_get (by kernel_rfl) (sizeI_eq (size32_all n (by omega)))) w
  · cases h
end Go.Proofs.Ytpggoincnebfnaa
