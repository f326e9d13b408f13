/- A function of a byte that answers a text by a table: 73. By program (names.py). -/
import Derived.Test.YtpggoincnebfnaaCy
import Derived.Test.YtpggoincnebfnaaLyV
import Derived.KernelRfl
namespace Go.Proofs.Ytpggoincnebfnaa
open Go Go.Ly Go.RowKit
set_option linter.unusedVariables false
/-- the table -/
noncomputable def nameL : List (List UInt8) := [[82, 78, 90], [80, 79, 80], [74, 78, 90], [74, 77, 80], [67, 78, 90], [80, 85, 83, 72], [65, 68, 73], [82, 83, 84], [82, 90], [82, 69, 84], [74, 90], [], [67, 90], [67, 65, 76, 76], [65, 67, 73], [82, 83, 84], [82, 78, 67], [80, 79, 80], [74, 78, 67], [79, 85, 84], [67, 78, 67], [80, 85, 83, 72], [83, 85, 73], [82, 83, 84], [82, 67], [], [74, 67], [73, 78], [67, 67], [], [83, 66, 73], [82, 83, 84], [82, 80, 79], [80, 79, 80], [74, 80, 79], [88, 84, 72, 76], [67, 80, 79], [80, 85, 83, 72], [65, 78, 73], [82, 83, 84], [82, 80, 69], [80, 67, 72, 76], [74, 80, 69], [88, 67, 72, 71], [67, 80, 69], [], [88, 82, 73], [82, 83, 84], [82, 80], [80, 79, 80], [74, 80], [68, 73], [67, 80], [80, 85, 83, 72], [79, 82, 73], [82, 83, 84], [82, 77], [83, 80, 72, 76], [74, 77], [69, 73], [67, 77], [], [67, 80, 73], [82, 83, 84]]
noncomputable def nameT (op : Int) : ByteArray := ⟨⟨(nameL[op.toNat - 192]?).getD []⟩⟩
noncomputable def nameC (l : List Value) : Option (Bool × Value) := match l with
  | [.int .u8 op] => some (decide (192 ≤ op) && decide (op < 256), .string (nameT op))
  | _ => none
noncomputable def nameI : Option Value → ByteArray → Bool
  | some (.string x), b => strEq x b
  | _, _ => false
theorem nameI_eq {o : Option Value} {b : ByteArray} (h : nameI o b = true) : o = some (.string b) := by
  unfold nameI at h
  split at h
  · rename_i x
    unfold strEq at h
    rw [eqB_eq] at h
    have h1 : x.data.toList = b.data.toList := by simpa using h
    have : x = b := ByteArray.ext (Array.ext' h1)
    rw [this]
  · cases h
theorem name73_12 : ((List.range 16).all fun i => nameI (Ly.run env.bare 9000 [] (Ly.start Try.f73 [.int .u8 (((192 + i) : Nat) : Int)] H0)).val? (nameT (((192 + i) : Nat) : Int))) = true := by kernel_rfl
theorem name73_13 : ((List.range 16).all fun i => nameI (Ly.run env.bare 9000 [] (Ly.start Try.f73 [.int .u8 (((208 + i) : Nat) : Int)] H0)).val? (nameT (((208 + i) : Nat) : Int))) = true := by kernel_rfl
theorem name73_14 : ((List.range 16).all fun i => nameI (Ly.run env.bare 9000 [] (Ly.start Try.f73 [.int .u8 (((224 + i) : Nat) : Int)] H0)).val? (nameT (((224 + i) : Nat) : Int))) = true := by kernel_rfl
theorem name73_15 : ((List.range 16).all fun i => nameI (Ly.run env.bare 9000 [] (Ly.start Try.f73 [.int .u8 (((240 + i) : Nat) : Int)] H0)).val? (nameT (((240 + i) : Nat) : Int))) = true := by kernel_rfl
theorem name73_all (n : Nat) (h0 : 192 ≤ n) (h : n < 256) : nameI (Ly.run env.bare 9000 [] (Ly.start Try.f73 [.int .u8 ((n : Nat) : Int)] H0)).val? (nameT ((n : Nat) : Int)) = true := by
  rcases Nat.lt_or_ge n 208 with g12 | g12
  · exact range_all (p := fun n => nameI (Ly.run env.bare 9000 [] (Ly.start Try.f73 [.int .u8 ((n : Nat) : Int)] H0)).val? (nameT ((n : Nat) : Int))) name73_12 n (by omega) (by omega)
  rcases Nat.lt_or_ge n 224 with g13 | g13
  · exact range_all (p := fun n => nameI (Ly.run env.bare 9000 [] (Ly.start Try.f73 [.int .u8 ((n : Nat) : Int)] H0)).val? (nameT ((n : Nat) : Int))) name73_13 n (by omega) (by omega)
  rcases Nat.lt_or_ge n 240 with g14 | g14
  · exact range_all (p := fun n => nameI (Ly.run env.bare 9000 [] (Ly.start Try.f73 [.int .u8 ((n : Nat) : Int)] H0)).val? (nameT ((n : Nat) : Int))) name73_14 n (by omega) (by omega)
  rcases Nat.lt_or_ge n 256 with g15 | g15
  · exact range_all (p := fun n => nameI (Ly.run env.bare 9000 [] (Ly.start Try.f73 [.int .u8 ((n : Nat) : Int)] H0)).val? (nameT ((n : Nat) : Int))) name73_15 n (by omega) (by omega)
  omega
theorem name73_get : env.bare.fn.get 73 = some Try.f73 := by kernel_rfl
theorem name73_ans : Answers Try.prog 73 nameC := by
  intro args g v h hg
  unfold nameC at h
  split at h
  · rename_i op
    simp only [Option.some.injEq, Prod.mk.injEq] at h
    obtain ⟨rfl, rfl⟩ := h
    simp only [Bool.and_eq_true, decide_eq_true_eq] at hg
    obtain ⟨n, rfl⟩ := Int.eq_ofNat_of_zero_le (show (0 : Int) ≤ op by omega)
    refine ⟨by simp [plain, plainL], by simp [plain], fun w => ?_⟩
    exact calls_plain (by simp [VRL, VR]) (fun ρ v' h => by simpa [VR] using h) (LCalls_run (Env.bare_ok envOk) 9000 name73_get (by kernel_rfl) (nameI_eq (name73_all n (by omega) (by omega)))) w
  · cases h
end Go.Proofs.Ytpggoincnebfnaa
