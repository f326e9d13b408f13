/- The parity of a byte, in the program and in the reference: what each answers at every byte. -/
import Derived.Test.YtnknopebjdgdjaaCy
import Derived.Test.YtnknopebjdgdjaaLyV
import Derived.KernelRfl
import Derived.OpenShut
namespace Go.Proofs.Ytnknopebjdgdjaa
open Go.Ly Go.RowKit
/-- an even number of ones -/
noncomputable def par (b : Int) : Bool := (b % 2 + b / 2 % 2 + b / 4 % 2 + b / 8 % 2 + b / 16 % 2 + b / 32 % 2 + b / 64 % 2 + b / 128 % 2) % 2 == 0
noncomputable def isB : Option Value → Bool → Bool
  | some (.bool x), b => x == b
  | _, _ => false
theorem isB_eq {o : Option Value} {b : Bool} (h : isB o b = true) : o = some (.bool b) := by
  unfold isB at h
  split at h
  · simp at h; subst h; rfl
  · cases h
theorem par37_0 : ((List.range 32).all fun i => isB (Ly.run env.bare 3000 [] (Ly.start Try.f101 [.int .u8 (((0 + i) : Nat) : Int)] H0)).val? (par (((0 + i) : Nat) : Int))) = true := by kernel_rfl
theorem par38_0 : ((List.range 32).all fun i => isB (Ly.run env.bare 3000 [] (Ly.start Try.f56 [.int .u8 (((0 + i) : Nat) : Int)] H0)).val? (par (((0 + i) : Nat) : Int))) = true := by kernel_rfl
theorem par37_1 : ((List.range 32).all fun i => isB (Ly.run env.bare 3000 [] (Ly.start Try.f101 [.int .u8 (((32 + i) : Nat) : Int)] H0)).val? (par (((32 + i) : Nat) : Int))) = true := by kernel_rfl
theorem par38_1 : ((List.range 32).all fun i => isB (Ly.run env.bare 3000 [] (Ly.start Try.f56 [.int .u8 (((32 + i) : Nat) : Int)] H0)).val? (par (((32 + i) : Nat) : Int))) = true := by kernel_rfl
theorem par37_2 : ((List.range 32).all fun i => isB (Ly.run env.bare 3000 [] (Ly.start Try.f101 [.int .u8 (((64 + i) : Nat) : Int)] H0)).val? (par (((64 + i) : Nat) : Int))) = true := by kernel_rfl
theorem par38_2 : ((List.range 32).all fun i => isB (Ly.run env.bare 3000 [] (Ly.start Try.f56 [.int .u8 (((64 + i) : Nat) : Int)] H0)).val? (par (((64 + i) : Nat) : Int))) = true := by kernel_rfl
theorem par37_3 : ((List.range 32).all fun i => isB (Ly.run env.bare 3000 [] (Ly.start Try.f101 [.int .u8 (((96 + i) : Nat) : Int)] H0)).val? (par (((96 + i) : Nat) : Int))) = true := by kernel_rfl
theorem par38_3 : ((List.range 32).all fun i => isB (Ly.run env.bare 3000 [] (Ly.start Try.f56 [.int .u8 (((96 + i) : Nat) : Int)] H0)).val? (par (((96 + i) : Nat) : Int))) = true := by kernel_rfl
theorem par37_4 : ((List.range 32).all fun i => isB (Ly.run env.bare 3000 [] (Ly.start Try.f101 [.int .u8 (((128 + i) : Nat) : Int)] H0)).val? (par (((128 + i) : Nat) : Int))) = true := by kernel_rfl
theorem par38_4 : ((List.range 32).all fun i => isB (Ly.run env.bare 3000 [] (Ly.start Try.f56 [.int .u8 (((128 + i) : Nat) : Int)] H0)).val? (par (((128 + i) : Nat) : Int))) = true := by kernel_rfl
theorem par37_5 : ((List.range 32).all fun i => isB (Ly.run env.bare 3000 [] (Ly.start Try.f101 [.int .u8 (((160 + i) : Nat) : Int)] H0)).val? (par (((160 + i) : Nat) : Int))) = true := by kernel_rfl
theorem par38_5 : ((List.range 32).all fun i => isB (Ly.run env.bare 3000 [] (Ly.start Try.f56 [.int .u8 (((160 + i) : Nat) : Int)] H0)).val? (par (((160 + i) : Nat) : Int))) = true := by kernel_rfl
theorem par37_6 : ((List.range 32).all fun i => isB (Ly.run env.bare 3000 [] (Ly.start Try.f101 [.int .u8 (((192 + i) : Nat) : Int)] H0)).val? (par (((192 + i) : Nat) : Int))) = true := by kernel_rfl
theorem par38_6 : ((List.range 32).all fun i => isB (Ly.run env.bare 3000 [] (Ly.start Try.f56 [.int .u8 (((192 + i) : Nat) : Int)] H0)).val? (par (((192 + i) : Nat) : Int))) = true := by kernel_rfl
theorem par37_7 : ((List.range 32).all fun i => isB (Ly.run env.bare 3000 [] (Ly.start Try.f101 [.int .u8 (((224 + i) : Nat) : Int)] H0)).val? (par (((224 + i) : Nat) : Int))) = true := by kernel_rfl
theorem par38_7 : ((List.range 32).all fun i => isB (Ly.run env.bare 3000 [] (Ly.start Try.f56 [.int .u8 (((224 + i) : Nat) : Int)] H0)).val? (par (((224 + i) : Nat) : Int))) = true := by kernel_rfl
theorem par37_all (n : Nat) (h : n < 256) : isB (Ly.run env.bare 3000 [] (Ly.start Try.f101 [.int .u8 (n : Int)] H0)).val? (par (n : Int)) = true := by
  rcases Nat.lt_or_ge n 32 with g0 | g0
  · exact range_all (p := fun n => isB (Ly.run env.bare 3000 [] (Ly.start Try.f101 [.int .u8 (n : Int)] H0)).val? (par (n : Int))) par37_0 n (by omega) (by omega)
  rcases Nat.lt_or_ge n 64 with g1 | g1
  · exact range_all (p := fun n => isB (Ly.run env.bare 3000 [] (Ly.start Try.f101 [.int .u8 (n : Int)] H0)).val? (par (n : Int))) par37_1 n (by omega) (by omega)
  rcases Nat.lt_or_ge n 96 with g2 | g2
  · exact range_all (p := fun n => isB (Ly.run env.bare 3000 [] (Ly.start Try.f101 [.int .u8 (n : Int)] H0)).val? (par (n : Int))) par37_2 n (by omega) (by omega)
  rcases Nat.lt_or_ge n 128 with g3 | g3
  · exact range_all (p := fun n => isB (Ly.run env.bare 3000 [] (Ly.start Try.f101 [.int .u8 (n : Int)] H0)).val? (par (n : Int))) par37_3 n (by omega) (by omega)
  rcases Nat.lt_or_ge n 160 with g4 | g4
  · exact range_all (p := fun n => isB (Ly.run env.bare 3000 [] (Ly.start Try.f101 [.int .u8 (n : Int)] H0)).val? (par (n : Int))) par37_4 n (by omega) (by omega)
  rcases Nat.lt_or_ge n 192 with g5 | g5
  · exact range_all (p := fun n => isB (Ly.run env.bare 3000 [] (Ly.start Try.f101 [.int .u8 (n : Int)] H0)).val? (par (n : Int))) par37_5 n (by omega) (by omega)
  rcases Nat.lt_or_ge n 224 with g6 | g6
  · exact range_all (p := fun n => isB (Ly.run env.bare 3000 [] (Ly.start Try.f101 [.int .u8 (n : Int)] H0)).val? (par (n : Int))) par37_6 n (by omega) (by omega)
  rcases Nat.lt_or_ge n 256 with g7 | g7
  · exact range_all (p := fun n => isB (Ly.run env.bare 3000 [] (Ly.start Try.f101 [.int .u8 (n : Int)] H0)).val? (par (n : Int))) par37_7 n (by omega) (by omega)
  omega
theorem get37 : env.bare.fn.get 101 = some Try.f101 := by kernel_rfl
theorem par37_calls (b : Int) (h0 : 0 ≤ b) (h1 : b ≤ 255) (w : World) : Calls Try.prog 101 #[.int .u8 b] w fun e w' => e = .returned (.bool (par b)) ∧ Below w.heap.size w w' := by
  obtain ⟨n, rfl⟩ := Int.eq_ofNat_of_zero_le h0
  exact calls_plain (by simp [VRL, VR]) (fun ρ v' h => by simpa [VR] using h) (LCalls_run (Env.bare_ok envOk) 3000 get37 (by kernel_rfl) (isB_eq (par37_all n (by omega)))) w
theorem par38_all (n : Nat) (h : n < 256) : isB (Ly.run env.bare 3000 [] (Ly.start Try.f56 [.int .u8 (n : Int)] H0)).val? (par (n : Int)) = true := by
  rcases Nat.lt_or_ge n 32 with g0 | g0
  · exact range_all (p := fun n => isB (Ly.run env.bare 3000 [] (Ly.start Try.f56 [.int .u8 (n : Int)] H0)).val? (par (n : Int))) par38_0 n (by omega) (by omega)
  rcases Nat.lt_or_ge n 64 with g1 | g1
  · exact range_all (p := fun n => isB (Ly.run env.bare 3000 [] (Ly.start Try.f56 [.int .u8 (n : Int)] H0)).val? (par (n : Int))) par38_1 n (by omega) (by omega)
  rcases Nat.lt_or_ge n 96 with g2 | g2
  · exact range_all (p := fun n => isB (Ly.run env.bare 3000 [] (Ly.start Try.f56 [.int .u8 (n : Int)] H0)).val? (par (n : Int))) par38_2 n (by omega) (by omega)
  rcases Nat.lt_or_ge n 128 with g3 | g3
  · exact range_all (p := fun n => isB (Ly.run env.bare 3000 [] (Ly.start Try.f56 [.int .u8 (n : Int)] H0)).val? (par (n : Int))) par38_3 n (by omega) (by omega)
  rcases Nat.lt_or_ge n 160 with g4 | g4
  · exact range_all (p := fun n => isB (Ly.run env.bare 3000 [] (Ly.start Try.f56 [.int .u8 (n : Int)] H0)).val? (par (n : Int))) par38_4 n (by omega) (by omega)
  rcases Nat.lt_or_ge n 192 with g5 | g5
  · exact range_all (p := fun n => isB (Ly.run env.bare 3000 [] (Ly.start Try.f56 [.int .u8 (n : Int)] H0)).val? (par (n : Int))) par38_5 n (by omega) (by omega)
  rcases Nat.lt_or_ge n 224 with g6 | g6
  · exact range_all (p := fun n => isB (Ly.run env.bare 3000 [] (Ly.start Try.f56 [.int .u8 (n : Int)] H0)).val? (par (n : Int))) par38_6 n (by omega) (by omega)
  rcases Nat.lt_or_ge n 256 with g7 | g7
  · exact range_all (p := fun n => isB (Ly.run env.bare 3000 [] (Ly.start Try.f56 [.int .u8 (n : Int)] H0)).val? (par (n : Int))) par38_7 n (by omega) (by omega)
  omega
theorem get38 : env.bare.fn.get 56 = some Try.f56 := by kernel_rfl
theorem par38_calls (b : Int) (h0 : 0 ≤ b) (h1 : b ≤ 255) (w : World) : Calls Try.prog 56 #[.int .u8 b] w fun e w' => e = .returned (.bool (par b)) ∧ Below w.heap.size w w' := by
  obtain ⟨n, rfl⟩ := Int.eq_ofNat_of_zero_le h0
  exact calls_plain (by simp [VRL, VR]) (fun ρ v' h => by simpa [VR] using h) (LCalls_run (Env.bare_ok envOk) 3000 get38 (by kernel_rfl) (isB_eq (par38_all n (by omega)))) w
end Go.Proofs.Ytnknopebjdgdjaa
