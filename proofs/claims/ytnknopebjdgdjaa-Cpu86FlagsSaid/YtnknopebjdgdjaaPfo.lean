/- Part 15 of the texts that the law needs, laid together. By program (pack.py). -/
import Derived.Test.YtnknopebjdgdjaaPfn
import Derived.KernelRfl
set_option linter.unusedVariables false
set_option linter.unusedSimpArgs false
noncomputable section
namespace Go.Proofs.Ytnknopebjdgdjaa
open Go Go.Ly Go.RowKit
section
variable {m : Mc} {g h : Nat → Int} {op n sz : Int}
variable (hr : Rw16 m) (hn : B16 n)
include hr hn
set_option linter.unusedSectionVars false
theorem dsm1_1 (h2 : 2 ≤ op) (h9 : op ≤ 9) : DoF m g h op 1 1 n sz := by
  cases e : (op != 9) with
  | true => exact .reg (sm1_1t m g h op n sz) (tSm h2 h9 e) (by omega) (hb_slo _ hr.1) rfl rfl
  | false => exact .reg (sm1_1f m g h op n sz) (tSm h2 h9 e) (by omega) ⟨rfl, hr.1⟩ rfl rfl
theorem dsm1_2 (h2 : 2 ≤ op) (h9 : op ≤ 9) : DoF m g h op 1 2 n sz := by
  cases e : (op != 9) with
  | true => exact .reg (sm1_2t m g h op n sz) (tSm h2 h9 e) (by omega) (hb_slo _ hr.1) rfl rfl
  | false => exact .reg (sm1_2f m g h op n sz) (tSm h2 h9 e) (by omega) ⟨rfl, hr.1⟩ rfl rfl
theorem dsm1_3 (h2 : 2 ≤ op) (h9 : op ≤ 9) : DoF m g h op 1 3 n sz := by
  cases e : (op != 9) with
  | true => exact .reg (sm1_3t m g h op n sz) (tSm h2 h9 e) (by omega) (hb_slo _ hr.1) rfl rfl
  | false => exact .reg (sm1_3f m g h op n sz) (tSm h2 h9 e) (by omega) ⟨rfl, hr.1⟩ rfl rfl
theorem dsm1_4 (h2 : 2 ≤ op) (h9 : op ≤ 9) : DoF m g h op 1 4 n sz := by
  cases e : (op != 9) with
  | true => exact .reg (sm1_4t m g h op n sz) (tSm h2 h9 e) (by omega) (hb_slo _ hr.1) rfl rfl
  | false => exact .reg (sm1_4f m g h op n sz) (tSm h2 h9 e) (by omega) ⟨rfl, hr.1⟩ rfl rfl
theorem dsm1_6 (h2 : 2 ≤ op) (h9 : op ≤ 9) : DoF m g h op 1 6 n sz := by
  cases e : (op != 9) with
  | true => exact .reg (sm1_6t m g h op n sz) (tSm h2 h9 e) (by omega) (hb_slo _ hr.1) rfl rfl
  | false => exact .reg (sm1_6f m g h op n sz) (tSm h2 h9 e) (by omega) ⟨rfl, hr.1⟩ rfl rfl
theorem dsm1_7 (h2 : 2 ≤ op) (h9 : op ≤ 9) : DoF m g h op 1 7 n sz := by
  cases e : (op != 9) with
  | true => exact .reg (sm1_7t m g h op n sz) (tSm h2 h9 e) (by omega) (hb_slo _ hr.1) rfl rfl
  | false => exact .reg (sm1_7f m g h op n sz) (tSm h2 h9 e) (by omega) ⟨rfl, hr.1⟩ rfl rfl
theorem dsm1_8 (h2 : 2 ≤ op) (h9 : op ≤ 9) : DoF m g h op 1 8 n sz := by
  cases e : (op != 9) with
  | true => exact .reg (sm1_8t m g h op n sz) (tSm h2 h9 e) (by omega) (hb_slo _ hr.1) rfl rfl
  | false => exact .reg (sm1_8f m g h op n sz) (tSm h2 h9 e) (by omega) ⟨rfl, hr.1⟩ rfl rfl
theorem dsm2_1 (h2 : 2 ≤ op) (h9 : op ≤ 9) : DoF m g h op 2 1 n sz := by
  cases e : (op != 9) with
  | true => exact .reg (sm2_1t m g h op n sz) (tSm h2 h9 e) (by omega) ⟨rfl, hr.1⟩ rfl rfl
  | false => exact .reg (sm2_1f m g h op n sz) (tSm h2 h9 e) (by omega) ⟨rfl, hr.1⟩ rfl rfl
theorem dsm2_2 (h2 : 2 ≤ op) (h9 : op ≤ 9) : DoF m g h op 2 2 n sz := by
  cases e : (op != 9) with
  | true => exact .reg (sm2_2t m g h op n sz) (tSm h2 h9 e) (by omega) ⟨rfl, hr.1⟩ rfl rfl
  | false => exact .reg (sm2_2f m g h op n sz) (tSm h2 h9 e) (by omega) ⟨rfl, hr.1⟩ rfl rfl
theorem dsm2_3 (h2 : 2 ≤ op) (h9 : op ≤ 9) : DoF m g h op 2 3 n sz := by
  cases e : (op != 9) with
  | true => exact .reg (sm2_3t m g h op n sz) (tSm h2 h9 e) (by omega) ⟨rfl, hr.1⟩ rfl rfl
  | false => exact .reg (sm2_3f m g h op n sz) (tSm h2 h9 e) (by omega) ⟨rfl, hr.1⟩ rfl rfl
theorem dsm2_4 (h2 : 2 ≤ op) (h9 : op ≤ 9) : DoF m g h op 2 4 n sz := by
  cases e : (op != 9) with
  | true => exact .reg (sm2_4t m g h op n sz) (tSm h2 h9 e) (by omega) ⟨rfl, hr.1⟩ rfl rfl
  | false => exact .reg (sm2_4f m g h op n sz) (tSm h2 h9 e) (by omega) ⟨rfl, hr.1⟩ rfl rfl
theorem dsm2_6 (h2 : 2 ≤ op) (h9 : op ≤ 9) : DoF m g h op 2 6 n sz := by
  cases e : (op != 9) with
  | true => exact .reg (sm2_6t m g h op n sz) (tSm h2 h9 e) (by omega) ⟨rfl, hr.1⟩ rfl rfl
  | false => exact .reg (sm2_6f m g h op n sz) (tSm h2 h9 e) (by omega) ⟨rfl, hr.1⟩ rfl rfl
theorem dsm2_7 (h2 : 2 ≤ op) (h9 : op ≤ 9) : DoF m g h op 2 7 n sz := by
  cases e : (op != 9) with
  | true => exact .reg (sm2_7t m g h op n sz) (tSm h2 h9 e) (by omega) ⟨rfl, hr.1⟩ rfl rfl
  | false => exact .reg (sm2_7f m g h op n sz) (tSm h2 h9 e) (by omega) ⟨rfl, hr.1⟩ rfl rfl
theorem dsm2_8 (h2 : 2 ≤ op) (h9 : op ≤ 9) : DoF m g h op 2 8 n sz := by
  cases e : (op != 9) with
  | true => exact .reg (sm2_8t m g h op n sz) (tSm h2 h9 e) (by omega) ⟨rfl, hr.1⟩ rfl rfl
  | false => exact .reg (sm2_8f m g h op n sz) (tSm h2 h9 e) (by omega) ⟨rfl, hr.1⟩ rfl rfl
theorem dsm3_1 (h2 : 2 ≤ op) (h9 : op ≤ 9) : DoF m g h op 3 1 n sz := by
  cases e : (op != 9) with
  | true => exact .reg (sm3_1t m g h op n sz) (tSm h2 h9 e) (by omega) ⟨rfl, hr.1⟩ rfl rfl
  | false => exact .reg (sm3_1f m g h op n sz) (tSm h2 h9 e) (by omega) ⟨rfl, hr.1⟩ rfl rfl
theorem dsm3_2 (h2 : 2 ≤ op) (h9 : op ≤ 9) : DoF m g h op 3 2 n sz := by
  cases e : (op != 9) with
  | true => exact .reg (sm3_2t m g h op n sz) (tSm h2 h9 e) (by omega) ⟨rfl, hr.1⟩ rfl rfl
  | false => exact .reg (sm3_2f m g h op n sz) (tSm h2 h9 e) (by omega) ⟨rfl, hr.1⟩ rfl rfl
theorem dsm3_3 (h2 : 2 ≤ op) (h9 : op ≤ 9) : DoF m g h op 3 3 n sz := by
  cases e : (op != 9) with
  | true => exact .reg (sm3_3t m g h op n sz) (tSm h2 h9 e) (by omega) ⟨rfl, hr.1⟩ rfl rfl
  | false => exact .reg (sm3_3f m g h op n sz) (tSm h2 h9 e) (by omega) ⟨rfl, hr.1⟩ rfl rfl
theorem dsm3_4 (h2 : 2 ≤ op) (h9 : op ≤ 9) : DoF m g h op 3 4 n sz := by
  cases e : (op != 9) with
  | true => exact .reg (sm3_4t m g h op n sz) (tSm h2 h9 e) (by omega) ⟨rfl, hr.1⟩ rfl rfl
  | false => exact .reg (sm3_4f m g h op n sz) (tSm h2 h9 e) (by omega) ⟨rfl, hr.1⟩ rfl rfl
theorem dsm3_6 (h2 : 2 ≤ op) (h9 : op ≤ 9) : DoF m g h op 3 6 n sz := by
  cases e : (op != 9) with
  | true => exact .reg (sm3_6t m g h op n sz) (tSm h2 h9 e) (by omega) ⟨rfl, hr.1⟩ rfl rfl
  | false => exact .reg (sm3_6f m g h op n sz) (tSm h2 h9 e) (by omega) ⟨rfl, hr.1⟩ rfl rfl
theorem dsm3_7 (h2 : 2 ≤ op) (h9 : op ≤ 9) : DoF m g h op 3 7 n sz := by
  cases e : (op != 9) with
  | true => exact .reg (sm3_7t m g h op n sz) (tSm h2 h9 e) (by omega) ⟨rfl, hr.1⟩ rfl rfl
  | false => exact .reg (sm3_7f m g h op n sz) (tSm h2 h9 e) (by omega) ⟨rfl, hr.1⟩ rfl rfl
theorem dsm3_8 (h2 : 2 ≤ op) (h9 : op ≤ 9) : DoF m g h op 3 8 n sz := by
  cases e : (op != 9) with
  | true => exact .reg (sm3_8t m g h op n sz) (tSm h2 h9 e) (by omega) ⟨rfl, hr.1⟩ rfl rfl
  | false => exact .reg (sm3_8f m g h op n sz) (tSm h2 h9 e) (by omega) ⟨rfl, hr.1⟩ rfl rfl
theorem dsm4_1 (h2 : 2 ≤ op) (h9 : op ≤ 9) : DoF m g h op 4 1 n sz := by
  cases e : (op != 9) with
  | true => exact .reg (sm4_1t m g h op n sz) (tSm h2 h9 e) (by omega) ⟨rfl, hr.1⟩ rfl rfl
  | false => exact .reg (sm4_1f m g h op n sz) (tSm h2 h9 e) (by omega) ⟨rfl, hr.1⟩ rfl rfl
theorem dsm4_2 (h2 : 2 ≤ op) (h9 : op ≤ 9) : DoF m g h op 4 2 n sz := by
  cases e : (op != 9) with
  | true => exact .reg (sm4_2t m g h op n sz) (tSm h2 h9 e) (by omega) ⟨rfl, hr.1⟩ rfl rfl
  | false => exact .reg (sm4_2f m g h op n sz) (tSm h2 h9 e) (by omega) ⟨rfl, hr.1⟩ rfl rfl
theorem dsm4_3 (h2 : 2 ≤ op) (h9 : op ≤ 9) : DoF m g h op 4 3 n sz := by
  cases e : (op != 9) with
  | true => exact .reg (sm4_3t m g h op n sz) (tSm h2 h9 e) (by omega) ⟨rfl, hr.1⟩ rfl rfl
  | false => exact .reg (sm4_3f m g h op n sz) (tSm h2 h9 e) (by omega) ⟨rfl, hr.1⟩ rfl rfl
theorem dsm4_4 (h2 : 2 ≤ op) (h9 : op ≤ 9) : DoF m g h op 4 4 n sz := by
  cases e : (op != 9) with
  | true => exact .reg (sm4_4t m g h op n sz) (tSm h2 h9 e) (by omega) ⟨rfl, hr.1⟩ rfl rfl
  | false => exact .reg (sm4_4f m g h op n sz) (tSm h2 h9 e) (by omega) ⟨rfl, hr.1⟩ rfl rfl
theorem dsm4_6 (h2 : 2 ≤ op) (h9 : op ≤ 9) : DoF m g h op 4 6 n sz := by
  cases e : (op != 9) with
  | true => exact .reg (sm4_6t m g h op n sz) (tSm h2 h9 e) (by omega) ⟨rfl, hr.1⟩ rfl rfl
  | false => exact .reg (sm4_6f m g h op n sz) (tSm h2 h9 e) (by omega) ⟨rfl, hr.1⟩ rfl rfl
theorem dsm4_7 (h2 : 2 ≤ op) (h9 : op ≤ 9) : DoF m g h op 4 7 n sz := by
  cases e : (op != 9) with
  | true => exact .reg (sm4_7t m g h op n sz) (tSm h2 h9 e) (by omega) ⟨rfl, hr.1⟩ rfl rfl
  | false => exact .reg (sm4_7f m g h op n sz) (tSm h2 h9 e) (by omega) ⟨rfl, hr.1⟩ rfl rfl
theorem dsm4_8 (h2 : 2 ≤ op) (h9 : op ≤ 9) : DoF m g h op 4 8 n sz := by
  cases e : (op != 9) with
  | true => exact .reg (sm4_8t m g h op n sz) (tSm h2 h9 e) (by omega) ⟨rfl, hr.1⟩ rfl rfl
  | false => exact .reg (sm4_8f m g h op n sz) (tSm h2 h9 e) (by omega) ⟨rfl, hr.1⟩ rfl rfl
theorem dsm6_1 (h2 : 2 ≤ op) (h9 : op ≤ 9) : DoF m g h op 6 1 n sz := by
  cases e : (op != 9) with
  | true => exact .reg (sm6_1t m g h op n sz) (tSm h2 h9 e) (by omega) ⟨rfl, hr.1⟩ rfl rfl
  | false => exact .reg (sm6_1f m g h op n sz) (tSm h2 h9 e) (by omega) ⟨rfl, hr.1⟩ rfl rfl
theorem dsm6_2 (h2 : 2 ≤ op) (h9 : op ≤ 9) : DoF m g h op 6 2 n sz := by
  cases e : (op != 9) with
  | true => exact .reg (sm6_2t m g h op n sz) (tSm h2 h9 e) (by omega) ⟨rfl, hr.1⟩ rfl rfl
  | false => exact .reg (sm6_2f m g h op n sz) (tSm h2 h9 e) (by omega) ⟨rfl, hr.1⟩ rfl rfl
theorem dsm6_3 (h2 : 2 ≤ op) (h9 : op ≤ 9) : DoF m g h op 6 3 n sz := by
  cases e : (op != 9) with
  | true => exact .reg (sm6_3t m g h op n sz) (tSm h2 h9 e) (by omega) ⟨rfl, hr.1⟩ rfl rfl
  | false => exact .reg (sm6_3f m g h op n sz) (tSm h2 h9 e) (by omega) ⟨rfl, hr.1⟩ rfl rfl
theorem dsm6_4 (h2 : 2 ≤ op) (h9 : op ≤ 9) : DoF m g h op 6 4 n sz := by
  cases e : (op != 9) with
  | true => exact .reg (sm6_4t m g h op n sz) (tSm h2 h9 e) (by omega) ⟨rfl, hr.1⟩ rfl rfl
  | false => exact .reg (sm6_4f m g h op n sz) (tSm h2 h9 e) (by omega) ⟨rfl, hr.1⟩ rfl rfl
theorem dsm6_6 (h2 : 2 ≤ op) (h9 : op ≤ 9) : DoF m g h op 6 6 n sz := by
  cases e : (op != 9) with
  | true => exact .reg (sm6_6t m g h op n sz) (tSm h2 h9 e) (by omega) ⟨rfl, hr.1⟩ rfl rfl
  | false => exact .reg (sm6_6f m g h op n sz) (tSm h2 h9 e) (by omega) ⟨rfl, hr.1⟩ rfl rfl
theorem dsm6_7 (h2 : 2 ≤ op) (h9 : op ≤ 9) : DoF m g h op 6 7 n sz := by
  cases e : (op != 9) with
  | true => exact .reg (sm6_7t m g h op n sz) (tSm h2 h9 e) (by omega) ⟨rfl, hr.1⟩ rfl rfl
  | false => exact .reg (sm6_7f m g h op n sz) (tSm h2 h9 e) (by omega) ⟨rfl, hr.1⟩ rfl rfl
theorem dsm6_8 (h2 : 2 ≤ op) (h9 : op ≤ 9) : DoF m g h op 6 8 n sz := by
  cases e : (op != 9) with
  | true => exact .reg (sm6_8t m g h op n sz) (tSm h2 h9 e) (by omega) ⟨rfl, hr.1⟩ rfl rfl
  | false => exact .reg (sm6_8f m g h op n sz) (tSm h2 h9 e) (by omega) ⟨rfl, hr.1⟩ rfl rfl
theorem dsm7_1 (h2 : 2 ≤ op) (h9 : op ≤ 9) : DoF m g h op 7 1 n sz := by
  cases e : (op != 9) with
  | true => exact .reg (sm7_1t m g h op n sz) (tSm h2 h9 e) (by omega) ⟨rfl, hr.1⟩ rfl rfl
  | false => exact .reg (sm7_1f m g h op n sz) (tSm h2 h9 e) (by omega) ⟨rfl, hr.1⟩ rfl rfl
theorem dsm7_2 (h2 : 2 ≤ op) (h9 : op ≤ 9) : DoF m g h op 7 2 n sz := by
  cases e : (op != 9) with
  | true => exact .reg (sm7_2t m g h op n sz) (tSm h2 h9 e) (by omega) ⟨rfl, hr.1⟩ rfl rfl
  | false => exact .reg (sm7_2f m g h op n sz) (tSm h2 h9 e) (by omega) ⟨rfl, hr.1⟩ rfl rfl
theorem dsm7_3 (h2 : 2 ≤ op) (h9 : op ≤ 9) : DoF m g h op 7 3 n sz := by
  cases e : (op != 9) with
  | true => exact .reg (sm7_3t m g h op n sz) (tSm h2 h9 e) (by omega) ⟨rfl, hr.1⟩ rfl rfl
  | false => exact .reg (sm7_3f m g h op n sz) (tSm h2 h9 e) (by omega) ⟨rfl, hr.1⟩ rfl rfl
theorem dsm7_4 (h2 : 2 ≤ op) (h9 : op ≤ 9) : DoF m g h op 7 4 n sz := by
  cases e : (op != 9) with
  | true => exact .reg (sm7_4t m g h op n sz) (tSm h2 h9 e) (by omega) ⟨rfl, hr.1⟩ rfl rfl
  | false => exact .reg (sm7_4f m g h op n sz) (tSm h2 h9 e) (by omega) ⟨rfl, hr.1⟩ rfl rfl
theorem dsm7_6 (h2 : 2 ≤ op) (h9 : op ≤ 9) : DoF m g h op 7 6 n sz := by
  cases e : (op != 9) with
  | true => exact .reg (sm7_6t m g h op n sz) (tSm h2 h9 e) (by omega) ⟨rfl, hr.1⟩ rfl rfl
  | false => exact .reg (sm7_6f m g h op n sz) (tSm h2 h9 e) (by omega) ⟨rfl, hr.1⟩ rfl rfl
theorem dsm7_7 (h2 : 2 ≤ op) (h9 : op ≤ 9) : DoF m g h op 7 7 n sz := by
  cases e : (op != 9) with
  | true => exact .reg (sm7_7t m g h op n sz) (tSm h2 h9 e) (by omega) ⟨rfl, hr.1⟩ rfl rfl
  | false => exact .reg (sm7_7f m g h op n sz) (tSm h2 h9 e) (by omega) ⟨rfl, hr.1⟩ rfl rfl
theorem dsm7_8 (h2 : 2 ≤ op) (h9 : op ≤ 9) : DoF m g h op 7 8 n sz := by
  cases e : (op != 9) with
  | true => exact .reg (sm7_8t m g h op n sz) (tSm h2 h9 e) (by omega) ⟨rfl, hr.1⟩ rfl rfl
  | false => exact .reg (sm7_8f m g h op n sz) (tSm h2 h9 e) (by omega) ⟨rfl, hr.1⟩ rfl rfl
theorem dsm8_1 (h2 : 2 ≤ op) (h9 : op ≤ 9) : DoF m g h op 8 1 n sz := by
  cases e : (op != 9) with
  | true => exact .reg (sm8_1t m g h op n sz) (tSm h2 h9 e) (by omega) ⟨rfl, hr.1⟩ rfl rfl
  | false => exact .reg (sm8_1f m g h op n sz) (tSm h2 h9 e) (by omega) ⟨rfl, hr.1⟩ rfl rfl
theorem dsm8_2 (h2 : 2 ≤ op) (h9 : op ≤ 9) : DoF m g h op 8 2 n sz := by
  cases e : (op != 9) with
  | true => exact .reg (sm8_2t m g h op n sz) (tSm h2 h9 e) (by omega) ⟨rfl, hr.1⟩ rfl rfl
  | false => exact .reg (sm8_2f m g h op n sz) (tSm h2 h9 e) (by omega) ⟨rfl, hr.1⟩ rfl rfl
theorem dsm8_3 (h2 : 2 ≤ op) (h9 : op ≤ 9) : DoF m g h op 8 3 n sz := by
  cases e : (op != 9) with
  | true => exact .reg (sm8_3t m g h op n sz) (tSm h2 h9 e) (by omega) ⟨rfl, hr.1⟩ rfl rfl
  | false => exact .reg (sm8_3f m g h op n sz) (tSm h2 h9 e) (by omega) ⟨rfl, hr.1⟩ rfl rfl
theorem dsm8_4 (h2 : 2 ≤ op) (h9 : op ≤ 9) : DoF m g h op 8 4 n sz := by
  cases e : (op != 9) with
  | true => exact .reg (sm8_4t m g h op n sz) (tSm h2 h9 e) (by omega) ⟨rfl, hr.1⟩ rfl rfl
  | false => exact .reg (sm8_4f m g h op n sz) (tSm h2 h9 e) (by omega) ⟨rfl, hr.1⟩ rfl rfl
theorem dsm8_6 (h2 : 2 ≤ op) (h9 : op ≤ 9) : DoF m g h op 8 6 n sz := by
  cases e : (op != 9) with
  | true => exact .reg (sm8_6t m g h op n sz) (tSm h2 h9 e) (by omega) ⟨rfl, hr.1⟩ rfl rfl
  | false => exact .reg (sm8_6f m g h op n sz) (tSm h2 h9 e) (by omega) ⟨rfl, hr.1⟩ rfl rfl
theorem dsm8_7 (h2 : 2 ≤ op) (h9 : op ≤ 9) : DoF m g h op 8 7 n sz := by
  cases e : (op != 9) with
  | true => exact .reg (sm8_7t m g h op n sz) (tSm h2 h9 e) (by omega) ⟨rfl, hr.1⟩ rfl rfl
  | false => exact .reg (sm8_7f m g h op n sz) (tSm h2 h9 e) (by omega) ⟨rfl, hr.1⟩ rfl rfl
theorem dsm8_8 (h2 : 2 ≤ op) (h9 : op ≤ 9) : DoF m g h op 8 8 n sz := by
  cases e : (op != 9) with
  | true => exact .reg (sm8_8t m g h op n sz) (tSm h2 h9 e) (by omega) ⟨rfl, hr.1⟩ rfl rfl
  | false => exact .reg (sm8_8f m g h op n sz) (tSm h2 h9 e) (by omega) ⟨rfl, hr.1⟩ rfl rfl
theorem dsm1_17 (h2 : 2 ≤ op) (h9 : op ≤ 9) : DoF m g h op 1 17 n sz := by
  cases e : (op != 9) with
  | true => exact .reg (sm1_17t m g h op n sz) (tJ0_ok h2 h9 (by simp only [trusted, sumG_ok h2 h9, e, (rg_ok hr.2.1).1, (rg_ok hr.2.1).2, and_self])) (by omega) (hb_slo _ hr.1) rfl rfl
  | false => exact .reg (sm1_17f m g h op n sz) (tJ0_ok h2 h9 (by simp only [trusted, sumG_ok h2 h9, e, (rg_ok hr.2.1).1, (rg_ok hr.2.1).2, and_self])) (by omega) ⟨rfl, hr.1⟩ rfl rfl
theorem dsm2_17 (h2 : 2 ≤ op) (h9 : op ≤ 9) : DoF m g h op 2 17 n sz := by
  cases e : (op != 9) with
  | true => exact .reg (sm2_17t m g h op n sz) (tJ0_ok h2 h9 (by simp only [trusted, sumG_ok h2 h9, e, (rg_ok hr.2.1).1, (rg_ok hr.2.1).2, and_self])) (by omega) ⟨rfl, hr.1⟩ rfl rfl
  | false => exact .reg (sm2_17f m g h op n sz) (tJ0_ok h2 h9 (by simp only [trusted, sumG_ok h2 h9, e, (rg_ok hr.2.1).1, (rg_ok hr.2.1).2, and_self])) (by omega) ⟨rfl, hr.1⟩ rfl rfl
theorem dsm3_17 (h2 : 2 ≤ op) (h9 : op ≤ 9) : DoF m g h op 3 17 n sz := by
  cases e : (op != 9) with
  | true => exact .reg (sm3_17t m g h op n sz) (tJ0_ok h2 h9 (by simp only [trusted, sumG_ok h2 h9, e, (rg_ok hr.2.1).1, (rg_ok hr.2.1).2, and_self])) (by omega) ⟨rfl, hr.1⟩ rfl rfl
  | false => exact .reg (sm3_17f m g h op n sz) (tJ0_ok h2 h9 (by simp only [trusted, sumG_ok h2 h9, e, (rg_ok hr.2.1).1, (rg_ok hr.2.1).2, and_self])) (by omega) ⟨rfl, hr.1⟩ rfl rfl
theorem dsm4_17 (h2 : 2 ≤ op) (h9 : op ≤ 9) : DoF m g h op 4 17 n sz := by
  cases e : (op != 9) with
  | true => exact .reg (sm4_17t m g h op n sz) (tJ0_ok h2 h9 (by simp only [trusted, sumG_ok h2 h9, e, (rg_ok hr.2.1).1, (rg_ok hr.2.1).2, and_self])) (by omega) ⟨rfl, hr.1⟩ rfl rfl
  | false => exact .reg (sm4_17f m g h op n sz) (tJ0_ok h2 h9 (by simp only [trusted, sumG_ok h2 h9, e, (rg_ok hr.2.1).1, (rg_ok hr.2.1).2, and_self])) (by omega) ⟨rfl, hr.1⟩ rfl rfl
theorem dsm6_17 (h2 : 2 ≤ op) (h9 : op ≤ 9) : DoF m g h op 6 17 n sz := by
  cases e : (op != 9) with
  | true => exact .reg (sm6_17t m g h op n sz) (tJ0_ok h2 h9 (by simp only [trusted, sumG_ok h2 h9, e, (rg_ok hr.2.1).1, (rg_ok hr.2.1).2, and_self])) (by omega) ⟨rfl, hr.1⟩ rfl rfl
  | false => exact .reg (sm6_17f m g h op n sz) (tJ0_ok h2 h9 (by simp only [trusted, sumG_ok h2 h9, e, (rg_ok hr.2.1).1, (rg_ok hr.2.1).2, and_self])) (by omega) ⟨rfl, hr.1⟩ rfl rfl
theorem dsm7_17 (h2 : 2 ≤ op) (h9 : op ≤ 9) : DoF m g h op 7 17 n sz := by
  cases e : (op != 9) with
  | true => exact .reg (sm7_17t m g h op n sz) (tJ0_ok h2 h9 (by simp only [trusted, sumG_ok h2 h9, e, (rg_ok hr.2.1).1, (rg_ok hr.2.1).2, and_self])) (by omega) ⟨rfl, hr.1⟩ rfl rfl
  | false => exact .reg (sm7_17f m g h op n sz) (tJ0_ok h2 h9 (by simp only [trusted, sumG_ok h2 h9, e, (rg_ok hr.2.1).1, (rg_ok hr.2.1).2, and_self])) (by omega) ⟨rfl, hr.1⟩ rfl rfl
theorem dsm8_17 (h2 : 2 ≤ op) (h9 : op ≤ 9) : DoF m g h op 8 17 n sz := by
  cases e : (op != 9) with
  | true => exact .reg (sm8_17t m g h op n sz) (tJ0_ok h2 h9 (by simp only [trusted, sumG_ok h2 h9, e, (rg_ok hr.2.1).1, (rg_ok hr.2.1).2, and_self])) (by omega) ⟨rfl, hr.1⟩ rfl rfl
  | false => exact .reg (sm8_17f m g h op n sz) (tJ0_ok h2 h9 (by simp only [trusted, sumG_ok h2 h9, e, (rg_ok hr.2.1).1, (rg_ok hr.2.1).2, and_self])) (by omega) ⟨rfl, hr.1⟩ rfl rfl
theorem dsm1_20 (h2 : 2 ≤ op) (h9 : op ≤ 9) : DoF m g h op 1 20 n sz := by
  cases e : (op != 9) with
  | true => exact .reg (sm1_20t m g h op n sz) (tSm h2 h9 e) (by omega) (hb_slo _ hr.1) rfl rfl
  | false => exact .reg (sm1_20f m g h op n sz) (tSm h2 h9 e) (by omega) ⟨rfl, hr.1⟩ rfl rfl
theorem dsm2_20 (h2 : 2 ≤ op) (h9 : op ≤ 9) : DoF m g h op 2 20 n sz := by
  cases e : (op != 9) with
  | true => exact .reg (sm2_20t m g h op n sz) (tSm h2 h9 e) (by omega) ⟨rfl, hr.1⟩ rfl rfl
  | false => exact .reg (sm2_20f m g h op n sz) (tSm h2 h9 e) (by omega) ⟨rfl, hr.1⟩ rfl rfl
theorem dsm3_20 (h2 : 2 ≤ op) (h9 : op ≤ 9) : DoF m g h op 3 20 n sz := by
  cases e : (op != 9) with
  | true => exact .reg (sm3_20t m g h op n sz) (tSm h2 h9 e) (by omega) ⟨rfl, hr.1⟩ rfl rfl
  | false => exact .reg (sm3_20f m g h op n sz) (tSm h2 h9 e) (by omega) ⟨rfl, hr.1⟩ rfl rfl
theorem dsm4_20 (h2 : 2 ≤ op) (h9 : op ≤ 9) : DoF m g h op 4 20 n sz := by
  cases e : (op != 9) with
  | true => exact .reg (sm4_20t m g h op n sz) (tSm h2 h9 e) (by omega) ⟨rfl, hr.1⟩ rfl rfl
  | false => exact .reg (sm4_20f m g h op n sz) (tSm h2 h9 e) (by omega) ⟨rfl, hr.1⟩ rfl rfl
theorem dsm6_20 (h2 : 2 ≤ op) (h9 : op ≤ 9) : DoF m g h op 6 20 n sz := by
  cases e : (op != 9) with
  | true => exact .reg (sm6_20t m g h op n sz) (tSm h2 h9 e) (by omega) ⟨rfl, hr.1⟩ rfl rfl
  | false => exact .reg (sm6_20f m g h op n sz) (tSm h2 h9 e) (by omega) ⟨rfl, hr.1⟩ rfl rfl
theorem dsm7_20 (h2 : 2 ≤ op) (h9 : op ≤ 9) : DoF m g h op 7 20 n sz := by
  cases e : (op != 9) with
  | true => exact .reg (sm7_20t m g h op n sz) (tSm h2 h9 e) (by omega) ⟨rfl, hr.1⟩ rfl rfl
  | false => exact .reg (sm7_20f m g h op n sz) (tSm h2 h9 e) (by omega) ⟨rfl, hr.1⟩ rfl rfl
theorem dsm8_20 (h2 : 2 ≤ op) (h9 : op ≤ 9) : DoF m g h op 8 20 n sz := by
  cases e : (op != 9) with
  | true => exact .reg (sm8_20t m g h op n sz) (tSm h2 h9 e) (by omega) ⟨rfl, hr.1⟩ rfl rfl
  | false => exact .reg (sm8_20f m g h op n sz) (tSm h2 h9 e) (by omega) ⟨rfl, hr.1⟩ rfl rfl
end
end Go.Proofs.Ytnknopebjdgdjaa
namespace Go.Proofs.Ytnknopebjdgdjaa
open Go Go.Ly Go.RowKit
variable (m : Mc) (g h : Nat → Int) (op n sz : Int)
include m g h op n sz
set_option linter.unusedSectionVars false
end Go.Proofs.Ytnknopebjdgdjaa
namespace Go.Proofs.Ytnknopebjdgdjaa
open Go Go.Ly Go.RowKit
variable (m : Mc) (g h : Nat → Int) (op n sz : Int)
include m g h op n sz
set_option linter.unusedSectionVars false
theorem sm10_10t : eD (pJ0 7 [(6, true), (0, true)]) m g h op 10 10 n sz = oD (tJ0 op [(sumG op, true), (op != 9, true)]) 46 (hP ({ fl16M m sz op m.r1 m.r1 with r1 := (f16v (nSum m op m.r1 m.r1)) }) g h) := by kernel_rfl
theorem sm10_10f : eD (pJ0 7 [(6, true), (0, false)]) m g h op 10 10 n sz = oD (tJ0 op [(sumG op, true), (op != 9, false)]) 46 (hP (fl16M m sz op m.r1 m.r1) g h) := by kernel_rfl
theorem sm10_11t : eD (pJ0 7 [(6, true), (0, true)]) m g h op 10 11 n sz = oD (tJ0 op [(sumG op, true), (op != 9, true)]) 46 (hP ({ fl16M m sz op m.r1 m.r2 with r1 := (f16v (nSum m op m.r1 m.r2)) }) g h) := by kernel_rfl
theorem sm10_11f : eD (pJ0 7 [(6, true), (0, false)]) m g h op 10 11 n sz = oD (tJ0 op [(sumG op, true), (op != 9, false)]) 46 (hP (fl16M m sz op m.r1 m.r2) g h) := by kernel_rfl
theorem sm10_12t : eD (pJ0 7 [(6, true), (0, true)]) m g h op 10 12 n sz = oD (tJ0 op [(sumG op, true), (op != 9, true)]) 46 (hP ({ fl16M m sz op m.r1 m.r3 with r1 := (f16v (nSum m op m.r1 m.r3)) }) g h) := by kernel_rfl
theorem sm10_12f : eD (pJ0 7 [(6, true), (0, false)]) m g h op 10 12 n sz = oD (tJ0 op [(sumG op, true), (op != 9, false)]) 46 (hP (fl16M m sz op m.r1 m.r3) g h) := by kernel_rfl
theorem sm10_13t : eD (pJ0 7 [(6, true), (0, true)]) m g h op 10 13 n sz = oD (tJ0 op [(sumG op, true), (op != 9, true)]) 46 (hP ({ fl16M m sz op m.r1 m.r4 with r1 := (f16v (nSum m op m.r1 m.r4)) }) g h) := by kernel_rfl
theorem sm10_13f : eD (pJ0 7 [(6, true), (0, false)]) m g h op 10 13 n sz = oD (tJ0 op [(sumG op, true), (op != 9, false)]) 46 (hP (fl16M m sz op m.r1 m.r4) g h) := by kernel_rfl
theorem sm10_14t : eD (pJ0 7 [(6, true), (0, true)]) m g h op 10 14 n sz = oD (tJ0 op [(sumG op, true), (op != 9, true)]) 46 (hP ({ fl16M m sz op m.r1 m.r5 with r1 := (f16v (nSum m op m.r1 m.r5)) }) g h) := by kernel_rfl
theorem sm10_14f : eD (pJ0 7 [(6, true), (0, false)]) m g h op 10 14 n sz = oD (tJ0 op [(sumG op, true), (op != 9, false)]) 46 (hP (fl16M m sz op m.r1 m.r5) g h) := by kernel_rfl
theorem sm10_15t : eD (pJ0 7 [(6, true), (0, true)]) m g h op 10 15 n sz = oD (tJ0 op [(sumG op, true), (op != 9, true)]) 46 (hP ({ fl16M m sz op m.r1 m.r6 with r1 := (f16v (nSum m op m.r1 m.r6)) }) g h) := by kernel_rfl
theorem sm10_15f : eD (pJ0 7 [(6, true), (0, false)]) m g h op 10 15 n sz = oD (tJ0 op [(sumG op, true), (op != 9, false)]) 46 (hP (fl16M m sz op m.r1 m.r6) g h) := by kernel_rfl
theorem sm10_16t : eD (pJ0 7 [(6, true), (0, true)]) m g h op 10 16 n sz = oD (tJ0 op [(sumG op, true), (op != 9, true)]) 46 (hP ({ fl16M m sz op m.r1 m.r7 with r1 := (f16v (nSum m op m.r1 m.r7)) }) g h) := by kernel_rfl
theorem sm10_16f : eD (pJ0 7 [(6, true), (0, false)]) m g h op 10 16 n sz = oD (tJ0 op [(sumG op, true), (op != 9, false)]) 46 (hP (fl16M m sz op m.r1 m.r7) g h) := by kernel_rfl
end Go.Proofs.Ytnknopebjdgdjaa
namespace Go.Proofs.Ytnknopebjdgdjaa
open Go Go.Ly Go.RowKit
variable (m : Mc) (g h : Nat → Int) (op n sz : Int)
include m g h op n sz
set_option linter.unusedSectionVars false
theorem sm11_10t : eD (pJ0 7 [(6, true), (0, true)]) m g h op 11 10 n sz = oD (tJ0 op [(sumG op, true), (op != 9, true)]) 46 (hP ({ fl16M m sz op m.r2 m.r1 with r2 := (f16v (nSum m op m.r2 m.r1)) }) g h) := by kernel_rfl
theorem sm11_10f : eD (pJ0 7 [(6, true), (0, false)]) m g h op 11 10 n sz = oD (tJ0 op [(sumG op, true), (op != 9, false)]) 46 (hP (fl16M m sz op m.r2 m.r1) g h) := by kernel_rfl
theorem sm11_11t : eD (pJ0 7 [(6, true), (0, true)]) m g h op 11 11 n sz = oD (tJ0 op [(sumG op, true), (op != 9, true)]) 46 (hP ({ fl16M m sz op m.r2 m.r2 with r2 := (f16v (nSum m op m.r2 m.r2)) }) g h) := by kernel_rfl
theorem sm11_11f : eD (pJ0 7 [(6, true), (0, false)]) m g h op 11 11 n sz = oD (tJ0 op [(sumG op, true), (op != 9, false)]) 46 (hP (fl16M m sz op m.r2 m.r2) g h) := by kernel_rfl
theorem sm11_12t : eD (pJ0 7 [(6, true), (0, true)]) m g h op 11 12 n sz = oD (tJ0 op [(sumG op, true), (op != 9, true)]) 46 (hP ({ fl16M m sz op m.r2 m.r3 with r2 := (f16v (nSum m op m.r2 m.r3)) }) g h) := by kernel_rfl
theorem sm11_12f : eD (pJ0 7 [(6, true), (0, false)]) m g h op 11 12 n sz = oD (tJ0 op [(sumG op, true), (op != 9, false)]) 46 (hP (fl16M m sz op m.r2 m.r3) g h) := by kernel_rfl
theorem sm11_13t : eD (pJ0 7 [(6, true), (0, true)]) m g h op 11 13 n sz = oD (tJ0 op [(sumG op, true), (op != 9, true)]) 46 (hP ({ fl16M m sz op m.r2 m.r4 with r2 := (f16v (nSum m op m.r2 m.r4)) }) g h) := by kernel_rfl
theorem sm11_13f : eD (pJ0 7 [(6, true), (0, false)]) m g h op 11 13 n sz = oD (tJ0 op [(sumG op, true), (op != 9, false)]) 46 (hP (fl16M m sz op m.r2 m.r4) g h) := by kernel_rfl
theorem sm11_14t : eD (pJ0 7 [(6, true), (0, true)]) m g h op 11 14 n sz = oD (tJ0 op [(sumG op, true), (op != 9, true)]) 46 (hP ({ fl16M m sz op m.r2 m.r5 with r2 := (f16v (nSum m op m.r2 m.r5)) }) g h) := by kernel_rfl
theorem sm11_14f : eD (pJ0 7 [(6, true), (0, false)]) m g h op 11 14 n sz = oD (tJ0 op [(sumG op, true), (op != 9, false)]) 46 (hP (fl16M m sz op m.r2 m.r5) g h) := by kernel_rfl
theorem sm11_15t : eD (pJ0 7 [(6, true), (0, true)]) m g h op 11 15 n sz = oD (tJ0 op [(sumG op, true), (op != 9, true)]) 46 (hP ({ fl16M m sz op m.r2 m.r6 with r2 := (f16v (nSum m op m.r2 m.r6)) }) g h) := by kernel_rfl
theorem sm11_15f : eD (pJ0 7 [(6, true), (0, false)]) m g h op 11 15 n sz = oD (tJ0 op [(sumG op, true), (op != 9, false)]) 46 (hP (fl16M m sz op m.r2 m.r6) g h) := by kernel_rfl
theorem sm11_16t : eD (pJ0 7 [(6, true), (0, true)]) m g h op 11 16 n sz = oD (tJ0 op [(sumG op, true), (op != 9, true)]) 46 (hP ({ fl16M m sz op m.r2 m.r7 with r2 := (f16v (nSum m op m.r2 m.r7)) }) g h) := by kernel_rfl
theorem sm11_16f : eD (pJ0 7 [(6, true), (0, false)]) m g h op 11 16 n sz = oD (tJ0 op [(sumG op, true), (op != 9, false)]) 46 (hP (fl16M m sz op m.r2 m.r7) g h) := by kernel_rfl
end Go.Proofs.Ytnknopebjdgdjaa
namespace Go.Proofs.Ytnknopebjdgdjaa
open Go Go.Ly Go.RowKit
variable (m : Mc) (g h : Nat → Int) (op n sz : Int)
include m g h op n sz
set_option linter.unusedSectionVars false
theorem sm12_10t : eD (pJ0 7 [(6, true), (0, true)]) m g h op 12 10 n sz = oD (tJ0 op [(sumG op, true), (op != 9, true)]) 46 (hP ({ fl16M m sz op m.r3 m.r1 with r3 := (f16v (nSum m op m.r3 m.r1)) }) g h) := by kernel_rfl
theorem sm12_10f : eD (pJ0 7 [(6, true), (0, false)]) m g h op 12 10 n sz = oD (tJ0 op [(sumG op, true), (op != 9, false)]) 46 (hP (fl16M m sz op m.r3 m.r1) g h) := by kernel_rfl
theorem sm12_11t : eD (pJ0 7 [(6, true), (0, true)]) m g h op 12 11 n sz = oD (tJ0 op [(sumG op, true), (op != 9, true)]) 46 (hP ({ fl16M m sz op m.r3 m.r2 with r3 := (f16v (nSum m op m.r3 m.r2)) }) g h) := by kernel_rfl
theorem sm12_11f : eD (pJ0 7 [(6, true), (0, false)]) m g h op 12 11 n sz = oD (tJ0 op [(sumG op, true), (op != 9, false)]) 46 (hP (fl16M m sz op m.r3 m.r2) g h) := by kernel_rfl
theorem sm12_12t : eD (pJ0 7 [(6, true), (0, true)]) m g h op 12 12 n sz = oD (tJ0 op [(sumG op, true), (op != 9, true)]) 46 (hP ({ fl16M m sz op m.r3 m.r3 with r3 := (f16v (nSum m op m.r3 m.r3)) }) g h) := by kernel_rfl
theorem sm12_12f : eD (pJ0 7 [(6, true), (0, false)]) m g h op 12 12 n sz = oD (tJ0 op [(sumG op, true), (op != 9, false)]) 46 (hP (fl16M m sz op m.r3 m.r3) g h) := by kernel_rfl
theorem sm12_13t : eD (pJ0 7 [(6, true), (0, true)]) m g h op 12 13 n sz = oD (tJ0 op [(sumG op, true), (op != 9, true)]) 46 (hP ({ fl16M m sz op m.r3 m.r4 with r3 := (f16v (nSum m op m.r3 m.r4)) }) g h) := by kernel_rfl
theorem sm12_13f : eD (pJ0 7 [(6, true), (0, false)]) m g h op 12 13 n sz = oD (tJ0 op [(sumG op, true), (op != 9, false)]) 46 (hP (fl16M m sz op m.r3 m.r4) g h) := by kernel_rfl
theorem sm12_14t : eD (pJ0 7 [(6, true), (0, true)]) m g h op 12 14 n sz = oD (tJ0 op [(sumG op, true), (op != 9, true)]) 46 (hP ({ fl16M m sz op m.r3 m.r5 with r3 := (f16v (nSum m op m.r3 m.r5)) }) g h) := by kernel_rfl
theorem sm12_14f : eD (pJ0 7 [(6, true), (0, false)]) m g h op 12 14 n sz = oD (tJ0 op [(sumG op, true), (op != 9, false)]) 46 (hP (fl16M m sz op m.r3 m.r5) g h) := by kernel_rfl
theorem sm12_15t : eD (pJ0 7 [(6, true), (0, true)]) m g h op 12 15 n sz = oD (tJ0 op [(sumG op, true), (op != 9, true)]) 46 (hP ({ fl16M m sz op m.r3 m.r6 with r3 := (f16v (nSum m op m.r3 m.r6)) }) g h) := by kernel_rfl
theorem sm12_15f : eD (pJ0 7 [(6, true), (0, false)]) m g h op 12 15 n sz = oD (tJ0 op [(sumG op, true), (op != 9, false)]) 46 (hP (fl16M m sz op m.r3 m.r6) g h) := by kernel_rfl
theorem sm12_16t : eD (pJ0 7 [(6, true), (0, true)]) m g h op 12 16 n sz = oD (tJ0 op [(sumG op, true), (op != 9, true)]) 46 (hP ({ fl16M m sz op m.r3 m.r7 with r3 := (f16v (nSum m op m.r3 m.r7)) }) g h) := by kernel_rfl
theorem sm12_16f : eD (pJ0 7 [(6, true), (0, false)]) m g h op 12 16 n sz = oD (tJ0 op [(sumG op, true), (op != 9, false)]) 46 (hP (fl16M m sz op m.r3 m.r7) g h) := by kernel_rfl
end Go.Proofs.Ytnknopebjdgdjaa
namespace Go.Proofs.Ytnknopebjdgdjaa
open Go Go.Ly Go.RowKit
variable (m : Mc) (g h : Nat → Int) (op n sz : Int)
include m g h op n sz
set_option linter.unusedSectionVars false
theorem sm13_10t : eD (pJ0 7 [(6, true), (0, true)]) m g h op 13 10 n sz = oD (tJ0 op [(sumG op, true), (op != 9, true)]) 46 (hP ({ fl16M m sz op m.r4 m.r1 with r4 := (f16v (nSum m op m.r4 m.r1)) }) g h) := by kernel_rfl
theorem sm13_10f : eD (pJ0 7 [(6, true), (0, false)]) m g h op 13 10 n sz = oD (tJ0 op [(sumG op, true), (op != 9, false)]) 46 (hP (fl16M m sz op m.r4 m.r1) g h) := by kernel_rfl
theorem sm13_11t : eD (pJ0 7 [(6, true), (0, true)]) m g h op 13 11 n sz = oD (tJ0 op [(sumG op, true), (op != 9, true)]) 46 (hP ({ fl16M m sz op m.r4 m.r2 with r4 := (f16v (nSum m op m.r4 m.r2)) }) g h) := by kernel_rfl
theorem sm13_11f : eD (pJ0 7 [(6, true), (0, false)]) m g h op 13 11 n sz = oD (tJ0 op [(sumG op, true), (op != 9, false)]) 46 (hP (fl16M m sz op m.r4 m.r2) g h) := by kernel_rfl
theorem sm13_12t : eD (pJ0 7 [(6, true), (0, true)]) m g h op 13 12 n sz = oD (tJ0 op [(sumG op, true), (op != 9, true)]) 46 (hP ({ fl16M m sz op m.r4 m.r3 with r4 := (f16v (nSum m op m.r4 m.r3)) }) g h) := by kernel_rfl
theorem sm13_12f : eD (pJ0 7 [(6, true), (0, false)]) m g h op 13 12 n sz = oD (tJ0 op [(sumG op, true), (op != 9, false)]) 46 (hP (fl16M m sz op m.r4 m.r3) g h) := by kernel_rfl
theorem sm13_13t : eD (pJ0 7 [(6, true), (0, true)]) m g h op 13 13 n sz = oD (tJ0 op [(sumG op, true), (op != 9, true)]) 46 (hP ({ fl16M m sz op m.r4 m.r4 with r4 := (f16v (nSum m op m.r4 m.r4)) }) g h) := by kernel_rfl
theorem sm13_13f : eD (pJ0 7 [(6, true), (0, false)]) m g h op 13 13 n sz = oD (tJ0 op [(sumG op, true), (op != 9, false)]) 46 (hP (fl16M m sz op m.r4 m.r4) g h) := by kernel_rfl
theorem sm13_14t : eD (pJ0 7 [(6, true), (0, true)]) m g h op 13 14 n sz = oD (tJ0 op [(sumG op, true), (op != 9, true)]) 46 (hP ({ fl16M m sz op m.r4 m.r5 with r4 := (f16v (nSum m op m.r4 m.r5)) }) g h) := by kernel_rfl
theorem sm13_14f : eD (pJ0 7 [(6, true), (0, false)]) m g h op 13 14 n sz = oD (tJ0 op [(sumG op, true), (op != 9, false)]) 46 (hP (fl16M m sz op m.r4 m.r5) g h) := by kernel_rfl
theorem sm13_15t : eD (pJ0 7 [(6, true), (0, true)]) m g h op 13 15 n sz = oD (tJ0 op [(sumG op, true), (op != 9, true)]) 46 (hP ({ fl16M m sz op m.r4 m.r6 with r4 := (f16v (nSum m op m.r4 m.r6)) }) g h) := by kernel_rfl
theorem sm13_15f : eD (pJ0 7 [(6, true), (0, false)]) m g h op 13 15 n sz = oD (tJ0 op [(sumG op, true), (op != 9, false)]) 46 (hP (fl16M m sz op m.r4 m.r6) g h) := by kernel_rfl
theorem sm13_16t : eD (pJ0 7 [(6, true), (0, true)]) m g h op 13 16 n sz = oD (tJ0 op [(sumG op, true), (op != 9, true)]) 46 (hP ({ fl16M m sz op m.r4 m.r7 with r4 := (f16v (nSum m op m.r4 m.r7)) }) g h) := by kernel_rfl
theorem sm13_16f : eD (pJ0 7 [(6, true), (0, false)]) m g h op 13 16 n sz = oD (tJ0 op [(sumG op, true), (op != 9, false)]) 46 (hP (fl16M m sz op m.r4 m.r7) g h) := by kernel_rfl
end Go.Proofs.Ytnknopebjdgdjaa
namespace Go.Proofs.Ytnknopebjdgdjaa
open Go Go.Ly Go.RowKit
variable (m : Mc) (g h : Nat → Int) (op n sz : Int)
include m g h op n sz
set_option linter.unusedSectionVars false
theorem sm14_10t : eD (pJ0 7 [(6, true), (0, true)]) m g h op 14 10 n sz = oD (tJ0 op [(sumG op, true), (op != 9, true)]) 46 (hP ({ fl16M m sz op m.r5 m.r1 with r5 := (f16v (nSum m op m.r5 m.r1)) }) g h) := by kernel_rfl
theorem sm14_10f : eD (pJ0 7 [(6, true), (0, false)]) m g h op 14 10 n sz = oD (tJ0 op [(sumG op, true), (op != 9, false)]) 46 (hP (fl16M m sz op m.r5 m.r1) g h) := by kernel_rfl
theorem sm14_11t : eD (pJ0 7 [(6, true), (0, true)]) m g h op 14 11 n sz = oD (tJ0 op [(sumG op, true), (op != 9, true)]) 46 (hP ({ fl16M m sz op m.r5 m.r2 with r5 := (f16v (nSum m op m.r5 m.r2)) }) g h) := by kernel_rfl
theorem sm14_11f : eD (pJ0 7 [(6, true), (0, false)]) m g h op 14 11 n sz = oD (tJ0 op [(sumG op, true), (op != 9, false)]) 46 (hP (fl16M m sz op m.r5 m.r2) g h) := by kernel_rfl
theorem sm14_12t : eD (pJ0 7 [(6, true), (0, true)]) m g h op 14 12 n sz = oD (tJ0 op [(sumG op, true), (op != 9, true)]) 46 (hP ({ fl16M m sz op m.r5 m.r3 with r5 := (f16v (nSum m op m.r5 m.r3)) }) g h) := by kernel_rfl
theorem sm14_12f : eD (pJ0 7 [(6, true), (0, false)]) m g h op 14 12 n sz = oD (tJ0 op [(sumG op, true), (op != 9, false)]) 46 (hP (fl16M m sz op m.r5 m.r3) g h) := by kernel_rfl
theorem sm14_13t : eD (pJ0 7 [(6, true), (0, true)]) m g h op 14 13 n sz = oD (tJ0 op [(sumG op, true), (op != 9, true)]) 46 (hP ({ fl16M m sz op m.r5 m.r4 with r5 := (f16v (nSum m op m.r5 m.r4)) }) g h) := by kernel_rfl
theorem sm14_13f : eD (pJ0 7 [(6, true), (0, false)]) m g h op 14 13 n sz = oD (tJ0 op [(sumG op, true), (op != 9, false)]) 46 (hP (fl16M m sz op m.r5 m.r4) g h) := by kernel_rfl
theorem sm14_14t : eD (pJ0 7 [(6, true), (0, true)]) m g h op 14 14 n sz = oD (tJ0 op [(sumG op, true), (op != 9, true)]) 46 (hP ({ fl16M m sz op m.r5 m.r5 with r5 := (f16v (nSum m op m.r5 m.r5)) }) g h) := by kernel_rfl
theorem sm14_14f : eD (pJ0 7 [(6, true), (0, false)]) m g h op 14 14 n sz = oD (tJ0 op [(sumG op, true), (op != 9, false)]) 46 (hP (fl16M m sz op m.r5 m.r5) g h) := by kernel_rfl
theorem sm14_15t : eD (pJ0 7 [(6, true), (0, true)]) m g h op 14 15 n sz = oD (tJ0 op [(sumG op, true), (op != 9, true)]) 46 (hP ({ fl16M m sz op m.r5 m.r6 with r5 := (f16v (nSum m op m.r5 m.r6)) }) g h) := by kernel_rfl
theorem sm14_15f : eD (pJ0 7 [(6, true), (0, false)]) m g h op 14 15 n sz = oD (tJ0 op [(sumG op, true), (op != 9, false)]) 46 (hP (fl16M m sz op m.r5 m.r6) g h) := by kernel_rfl
theorem sm14_16t : eD (pJ0 7 [(6, true), (0, true)]) m g h op 14 16 n sz = oD (tJ0 op [(sumG op, true), (op != 9, true)]) 46 (hP ({ fl16M m sz op m.r5 m.r7 with r5 := (f16v (nSum m op m.r5 m.r7)) }) g h) := by kernel_rfl
theorem sm14_16f : eD (pJ0 7 [(6, true), (0, false)]) m g h op 14 16 n sz = oD (tJ0 op [(sumG op, true), (op != 9, false)]) 46 (hP (fl16M m sz op m.r5 m.r7) g h) := by kernel_rfl
end Go.Proofs.Ytnknopebjdgdjaa
namespace Go.Proofs.Ytnknopebjdgdjaa
open Go Go.Ly Go.RowKit
variable (m : Mc) (g h : Nat → Int) (op n sz : Int)
include m g h op n sz
set_option linter.unusedSectionVars false
theorem sm15_10t : eD (pJ0 7 [(6, true), (0, true)]) m g h op 15 10 n sz = oD (tJ0 op [(sumG op, true), (op != 9, true)]) 46 (hP ({ fl16M m sz op m.r6 m.r1 with r6 := (f16v (nSum m op m.r6 m.r1)) }) g h) := by kernel_rfl
theorem sm15_10f : eD (pJ0 7 [(6, true), (0, false)]) m g h op 15 10 n sz = oD (tJ0 op [(sumG op, true), (op != 9, false)]) 46 (hP (fl16M m sz op m.r6 m.r1) g h) := by kernel_rfl
theorem sm15_11t : eD (pJ0 7 [(6, true), (0, true)]) m g h op 15 11 n sz = oD (tJ0 op [(sumG op, true), (op != 9, true)]) 46 (hP ({ fl16M m sz op m.r6 m.r2 with r6 := (f16v (nSum m op m.r6 m.r2)) }) g h) := by kernel_rfl
theorem sm15_11f : eD (pJ0 7 [(6, true), (0, false)]) m g h op 15 11 n sz = oD (tJ0 op [(sumG op, true), (op != 9, false)]) 46 (hP (fl16M m sz op m.r6 m.r2) g h) := by kernel_rfl
theorem sm15_12t : eD (pJ0 7 [(6, true), (0, true)]) m g h op 15 12 n sz = oD (tJ0 op [(sumG op, true), (op != 9, true)]) 46 (hP ({ fl16M m sz op m.r6 m.r3 with r6 := (f16v (nSum m op m.r6 m.r3)) }) g h) := by kernel_rfl
theorem sm15_12f : eD (pJ0 7 [(6, true), (0, false)]) m g h op 15 12 n sz = oD (tJ0 op [(sumG op, true), (op != 9, false)]) 46 (hP (fl16M m sz op m.r6 m.r3) g h) := by kernel_rfl
theorem sm15_13t : eD (pJ0 7 [(6, true), (0, true)]) m g h op 15 13 n sz = oD (tJ0 op [(sumG op, true), (op != 9, true)]) 46 (hP ({ fl16M m sz op m.r6 m.r4 with r6 := (f16v (nSum m op m.r6 m.r4)) }) g h) := by kernel_rfl
theorem sm15_13f : eD (pJ0 7 [(6, true), (0, false)]) m g h op 15 13 n sz = oD (tJ0 op [(sumG op, true), (op != 9, false)]) 46 (hP (fl16M m sz op m.r6 m.r4) g h) := by kernel_rfl
theorem sm15_14t : eD (pJ0 7 [(6, true), (0, true)]) m g h op 15 14 n sz = oD (tJ0 op [(sumG op, true), (op != 9, true)]) 46 (hP ({ fl16M m sz op m.r6 m.r5 with r6 := (f16v (nSum m op m.r6 m.r5)) }) g h) := by kernel_rfl
theorem sm15_14f : eD (pJ0 7 [(6, true), (0, false)]) m g h op 15 14 n sz = oD (tJ0 op [(sumG op, true), (op != 9, false)]) 46 (hP (fl16M m sz op m.r6 m.r5) g h) := by kernel_rfl
theorem sm15_15t : eD (pJ0 7 [(6, true), (0, true)]) m g h op 15 15 n sz = oD (tJ0 op [(sumG op, true), (op != 9, true)]) 46 (hP ({ fl16M m sz op m.r6 m.r6 with r6 := (f16v (nSum m op m.r6 m.r6)) }) g h) := by kernel_rfl
theorem sm15_15f : eD (pJ0 7 [(6, true), (0, false)]) m g h op 15 15 n sz = oD (tJ0 op [(sumG op, true), (op != 9, false)]) 46 (hP (fl16M m sz op m.r6 m.r6) g h) := by kernel_rfl
theorem sm15_16t : eD (pJ0 7 [(6, true), (0, true)]) m g h op 15 16 n sz = oD (tJ0 op [(sumG op, true), (op != 9, true)]) 46 (hP ({ fl16M m sz op m.r6 m.r7 with r6 := (f16v (nSum m op m.r6 m.r7)) }) g h) := by kernel_rfl
theorem sm15_16f : eD (pJ0 7 [(6, true), (0, false)]) m g h op 15 16 n sz = oD (tJ0 op [(sumG op, true), (op != 9, false)]) 46 (hP (fl16M m sz op m.r6 m.r7) g h) := by kernel_rfl
end Go.Proofs.Ytnknopebjdgdjaa
namespace Go.Proofs.Ytnknopebjdgdjaa
open Go Go.Ly Go.RowKit
variable (m : Mc) (g h : Nat → Int) (op n sz : Int)
include m g h op n sz
set_option linter.unusedSectionVars false
theorem sm16_10t : eD (pJ0 7 [(6, true), (0, true)]) m g h op 16 10 n sz = oD (tJ0 op [(sumG op, true), (op != 9, true)]) 46 (hP ({ fl16M m sz op m.r7 m.r1 with r7 := (f16v (nSum m op m.r7 m.r1)) }) g h) := by kernel_rfl
theorem sm16_10f : eD (pJ0 7 [(6, true), (0, false)]) m g h op 16 10 n sz = oD (tJ0 op [(sumG op, true), (op != 9, false)]) 46 (hP (fl16M m sz op m.r7 m.r1) g h) := by kernel_rfl
theorem sm16_11t : eD (pJ0 7 [(6, true), (0, true)]) m g h op 16 11 n sz = oD (tJ0 op [(sumG op, true), (op != 9, true)]) 46 (hP ({ fl16M m sz op m.r7 m.r2 with r7 := (f16v (nSum m op m.r7 m.r2)) }) g h) := by kernel_rfl
theorem sm16_11f : eD (pJ0 7 [(6, true), (0, false)]) m g h op 16 11 n sz = oD (tJ0 op [(sumG op, true), (op != 9, false)]) 46 (hP (fl16M m sz op m.r7 m.r2) g h) := by kernel_rfl
theorem sm16_12t : eD (pJ0 7 [(6, true), (0, true)]) m g h op 16 12 n sz = oD (tJ0 op [(sumG op, true), (op != 9, true)]) 46 (hP ({ fl16M m sz op m.r7 m.r3 with r7 := (f16v (nSum m op m.r7 m.r3)) }) g h) := by kernel_rfl
theorem sm16_12f : eD (pJ0 7 [(6, true), (0, false)]) m g h op 16 12 n sz = oD (tJ0 op [(sumG op, true), (op != 9, false)]) 46 (hP (fl16M m sz op m.r7 m.r3) g h) := by kernel_rfl
theorem sm16_13t : eD (pJ0 7 [(6, true), (0, true)]) m g h op 16 13 n sz = oD (tJ0 op [(sumG op, true), (op != 9, true)]) 46 (hP ({ fl16M m sz op m.r7 m.r4 with r7 := (f16v (nSum m op m.r7 m.r4)) }) g h) := by kernel_rfl
theorem sm16_13f : eD (pJ0 7 [(6, true), (0, false)]) m g h op 16 13 n sz = oD (tJ0 op [(sumG op, true), (op != 9, false)]) 46 (hP (fl16M m sz op m.r7 m.r4) g h) := by kernel_rfl
theorem sm16_14t : eD (pJ0 7 [(6, true), (0, true)]) m g h op 16 14 n sz = oD (tJ0 op [(sumG op, true), (op != 9, true)]) 46 (hP ({ fl16M m sz op m.r7 m.r5 with r7 := (f16v (nSum m op m.r7 m.r5)) }) g h) := by kernel_rfl
theorem sm16_14f : eD (pJ0 7 [(6, true), (0, false)]) m g h op 16 14 n sz = oD (tJ0 op [(sumG op, true), (op != 9, false)]) 46 (hP (fl16M m sz op m.r7 m.r5) g h) := by kernel_rfl
theorem sm16_15t : eD (pJ0 7 [(6, true), (0, true)]) m g h op 16 15 n sz = oD (tJ0 op [(sumG op, true), (op != 9, true)]) 46 (hP ({ fl16M m sz op m.r7 m.r6 with r7 := (f16v (nSum m op m.r7 m.r6)) }) g h) := by kernel_rfl
theorem sm16_15f : eD (pJ0 7 [(6, true), (0, false)]) m g h op 16 15 n sz = oD (tJ0 op [(sumG op, true), (op != 9, false)]) 46 (hP (fl16M m sz op m.r7 m.r6) g h) := by kernel_rfl
theorem sm16_16t : eD (pJ0 7 [(6, true), (0, true)]) m g h op 16 16 n sz = oD (tJ0 op [(sumG op, true), (op != 9, true)]) 46 (hP ({ fl16M m sz op m.r7 m.r7 with r7 := (f16v (nSum m op m.r7 m.r7)) }) g h) := by kernel_rfl
theorem sm16_16f : eD (pJ0 7 [(6, true), (0, false)]) m g h op 16 16 n sz = oD (tJ0 op [(sumG op, true), (op != 9, false)]) 46 (hP (fl16M m sz op m.r7 m.r7) g h) := by kernel_rfl
end Go.Proofs.Ytnknopebjdgdjaa
namespace Go.Proofs.Ytnknopebjdgdjaa
open Go Go.Ly Go.RowKit
section
variable {m : Mc} {g h : Nat → Int} {op n sz : Int}
variable (hr : Rw16 m) (hn : B16 n)
include hr hn
set_option linter.unusedSectionVars false
theorem dsm10_10 (h2 : 2 ≤ op) (h9 : op ≤ 9) : DoF m g h op 10 10 n sz := by
  cases e : (op != 9) with
  | true => exact .reg (sm10_10t m g h op n sz) (tSm h2 h9 e) (by omega) ⟨rfl, hr.1⟩ rfl rfl
  | false => exact .reg (sm10_10f m g h op n sz) (tSm h2 h9 e) (by omega) ⟨rfl, hr.1⟩ rfl rfl
theorem dsm10_11 (h2 : 2 ≤ op) (h9 : op ≤ 9) : DoF m g h op 10 11 n sz := by
  cases e : (op != 9) with
  | true => exact .reg (sm10_11t m g h op n sz) (tSm h2 h9 e) (by omega) ⟨rfl, hr.1⟩ rfl rfl
  | false => exact .reg (sm10_11f m g h op n sz) (tSm h2 h9 e) (by omega) ⟨rfl, hr.1⟩ rfl rfl
theorem dsm10_12 (h2 : 2 ≤ op) (h9 : op ≤ 9) : DoF m g h op 10 12 n sz := by
  cases e : (op != 9) with
  | true => exact .reg (sm10_12t m g h op n sz) (tSm h2 h9 e) (by omega) ⟨rfl, hr.1⟩ rfl rfl
  | false => exact .reg (sm10_12f m g h op n sz) (tSm h2 h9 e) (by omega) ⟨rfl, hr.1⟩ rfl rfl
theorem dsm10_13 (h2 : 2 ≤ op) (h9 : op ≤ 9) : DoF m g h op 10 13 n sz := by
  cases e : (op != 9) with
  | true => exact .reg (sm10_13t m g h op n sz) (tSm h2 h9 e) (by omega) ⟨rfl, hr.1⟩ rfl rfl
  | false => exact .reg (sm10_13f m g h op n sz) (tSm h2 h9 e) (by omega) ⟨rfl, hr.1⟩ rfl rfl
theorem dsm10_14 (h2 : 2 ≤ op) (h9 : op ≤ 9) : DoF m g h op 10 14 n sz := by
  cases e : (op != 9) with
  | true => exact .reg (sm10_14t m g h op n sz) (tSm h2 h9 e) (by omega) ⟨rfl, hr.1⟩ rfl rfl
  | false => exact .reg (sm10_14f m g h op n sz) (tSm h2 h9 e) (by omega) ⟨rfl, hr.1⟩ rfl rfl
theorem dsm10_15 (h2 : 2 ≤ op) (h9 : op ≤ 9) : DoF m g h op 10 15 n sz := by
  cases e : (op != 9) with
  | true => exact .reg (sm10_15t m g h op n sz) (tSm h2 h9 e) (by omega) ⟨rfl, hr.1⟩ rfl rfl
  | false => exact .reg (sm10_15f m g h op n sz) (tSm h2 h9 e) (by omega) ⟨rfl, hr.1⟩ rfl rfl
theorem dsm10_16 (h2 : 2 ≤ op) (h9 : op ≤ 9) : DoF m g h op 10 16 n sz := by
  cases e : (op != 9) with
  | true => exact .reg (sm10_16t m g h op n sz) (tSm h2 h9 e) (by omega) ⟨rfl, hr.1⟩ rfl rfl
  | false => exact .reg (sm10_16f m g h op n sz) (tSm h2 h9 e) (by omega) ⟨rfl, hr.1⟩ rfl rfl
theorem dsm11_10 (h2 : 2 ≤ op) (h9 : op ≤ 9) : DoF m g h op 11 10 n sz := by
  cases e : (op != 9) with
  | true => exact .reg (sm11_10t m g h op n sz) (tSm h2 h9 e) (by omega) ⟨rfl, hr.1⟩ rfl rfl
  | false => exact .reg (sm11_10f m g h op n sz) (tSm h2 h9 e) (by omega) ⟨rfl, hr.1⟩ rfl rfl
theorem dsm11_11 (h2 : 2 ≤ op) (h9 : op ≤ 9) : DoF m g h op 11 11 n sz := by
  cases e : (op != 9) with
  | true => exact .reg (sm11_11t m g h op n sz) (tSm h2 h9 e) (by omega) ⟨rfl, hr.1⟩ rfl rfl
  | false => exact .reg (sm11_11f m g h op n sz) (tSm h2 h9 e) (by omega) ⟨rfl, hr.1⟩ rfl rfl
theorem dsm11_12 (h2 : 2 ≤ op) (h9 : op ≤ 9) : DoF m g h op 11 12 n sz := by
  cases e : (op != 9) with
  | true => exact .reg (sm11_12t m g h op n sz) (tSm h2 h9 e) (by omega) ⟨rfl, hr.1⟩ rfl rfl
  | false => exact .reg (sm11_12f m g h op n sz) (tSm h2 h9 e) (by omega) ⟨rfl, hr.1⟩ rfl rfl
theorem dsm11_13 (h2 : 2 ≤ op) (h9 : op ≤ 9) : DoF m g h op 11 13 n sz := by
  cases e : (op != 9) with
  | true => exact .reg (sm11_13t m g h op n sz) (tSm h2 h9 e) (by omega) ⟨rfl, hr.1⟩ rfl rfl
  | false => exact .reg (sm11_13f m g h op n sz) (tSm h2 h9 e) (by omega) ⟨rfl, hr.1⟩ rfl rfl
theorem dsm11_14 (h2 : 2 ≤ op) (h9 : op ≤ 9) : DoF m g h op 11 14 n sz := by
  cases e : (op != 9) with
  | true => exact .reg (sm11_14t m g h op n sz) (tSm h2 h9 e) (by omega) ⟨rfl, hr.1⟩ rfl rfl
  | false => exact .reg (sm11_14f m g h op n sz) (tSm h2 h9 e) (by omega) ⟨rfl, hr.1⟩ rfl rfl
theorem dsm11_15 (h2 : 2 ≤ op) (h9 : op ≤ 9) : DoF m g h op 11 15 n sz := by
  cases e : (op != 9) with
  | true => exact .reg (sm11_15t m g h op n sz) (tSm h2 h9 e) (by omega) ⟨rfl, hr.1⟩ rfl rfl
  | false => exact .reg (sm11_15f m g h op n sz) (tSm h2 h9 e) (by omega) ⟨rfl, hr.1⟩ rfl rfl
theorem dsm11_16 (h2 : 2 ≤ op) (h9 : op ≤ 9) : DoF m g h op 11 16 n sz := by
  cases e : (op != 9) with
  | true => exact .reg (sm11_16t m g h op n sz) (tSm h2 h9 e) (by omega) ⟨rfl, hr.1⟩ rfl rfl
  | false => exact .reg (sm11_16f m g h op n sz) (tSm h2 h9 e) (by omega) ⟨rfl, hr.1⟩ rfl rfl
theorem dsm12_10 (h2 : 2 ≤ op) (h9 : op ≤ 9) : DoF m g h op 12 10 n sz := by
  cases e : (op != 9) with
  | true => exact .reg (sm12_10t m g h op n sz) (tSm h2 h9 e) (by omega) ⟨rfl, hr.1⟩ rfl rfl
  | false => exact .reg (sm12_10f m g h op n sz) (tSm h2 h9 e) (by omega) ⟨rfl, hr.1⟩ rfl rfl
theorem dsm12_11 (h2 : 2 ≤ op) (h9 : op ≤ 9) : DoF m g h op 12 11 n sz := by
  cases e : (op != 9) with
  | true => exact .reg (sm12_11t m g h op n sz) (tSm h2 h9 e) (by omega) ⟨rfl, hr.1⟩ rfl rfl
  | false => exact .reg (sm12_11f m g h op n sz) (tSm h2 h9 e) (by omega) ⟨rfl, hr.1⟩ rfl rfl
theorem dsm12_12 (h2 : 2 ≤ op) (h9 : op ≤ 9) : DoF m g h op 12 12 n sz := by
  cases e : (op != 9) with
  | true => exact .reg (sm12_12t m g h op n sz) (tSm h2 h9 e) (by omega) ⟨rfl, hr.1⟩ rfl rfl
  | false => exact .reg (sm12_12f m g h op n sz) (tSm h2 h9 e) (by omega) ⟨rfl, hr.1⟩ rfl rfl
theorem dsm12_13 (h2 : 2 ≤ op) (h9 : op ≤ 9) : DoF m g h op 12 13 n sz := by
  cases e : (op != 9) with
  | true => exact .reg (sm12_13t m g h op n sz) (tSm h2 h9 e) (by omega) ⟨rfl, hr.1⟩ rfl rfl
  | false => exact .reg (sm12_13f m g h op n sz) (tSm h2 h9 e) (by omega) ⟨rfl, hr.1⟩ rfl rfl
theorem dsm12_14 (h2 : 2 ≤ op) (h9 : op ≤ 9) : DoF m g h op 12 14 n sz := by
  cases e : (op != 9) with
  | true => exact .reg (sm12_14t m g h op n sz) (tSm h2 h9 e) (by omega) ⟨rfl, hr.1⟩ rfl rfl
  | false => exact .reg (sm12_14f m g h op n sz) (tSm h2 h9 e) (by omega) ⟨rfl, hr.1⟩ rfl rfl
theorem dsm12_15 (h2 : 2 ≤ op) (h9 : op ≤ 9) : DoF m g h op 12 15 n sz := by
  cases e : (op != 9) with
  | true => exact .reg (sm12_15t m g h op n sz) (tSm h2 h9 e) (by omega) ⟨rfl, hr.1⟩ rfl rfl
  | false => exact .reg (sm12_15f m g h op n sz) (tSm h2 h9 e) (by omega) ⟨rfl, hr.1⟩ rfl rfl
theorem dsm12_16 (h2 : 2 ≤ op) (h9 : op ≤ 9) : DoF m g h op 12 16 n sz := by
  cases e : (op != 9) with
  | true => exact .reg (sm12_16t m g h op n sz) (tSm h2 h9 e) (by omega) ⟨rfl, hr.1⟩ rfl rfl
  | false => exact .reg (sm12_16f m g h op n sz) (tSm h2 h9 e) (by omega) ⟨rfl, hr.1⟩ rfl rfl
theorem dsm13_10 (h2 : 2 ≤ op) (h9 : op ≤ 9) : DoF m g h op 13 10 n sz := by
  cases e : (op != 9) with
  | true => exact .reg (sm13_10t m g h op n sz) (tSm h2 h9 e) (by omega) ⟨rfl, hr.1⟩ rfl rfl
  | false => exact .reg (sm13_10f m g h op n sz) (tSm h2 h9 e) (by omega) ⟨rfl, hr.1⟩ rfl rfl
theorem dsm13_11 (h2 : 2 ≤ op) (h9 : op ≤ 9) : DoF m g h op 13 11 n sz := by
  cases e : (op != 9) with
  | true => exact .reg (sm13_11t m g h op n sz) (tSm h2 h9 e) (by omega) ⟨rfl, hr.1⟩ rfl rfl
  | false => exact .reg (sm13_11f m g h op n sz) (tSm h2 h9 e) (by omega) ⟨rfl, hr.1⟩ rfl rfl
theorem dsm13_12 (h2 : 2 ≤ op) (h9 : op ≤ 9) : DoF m g h op 13 12 n sz := by
  cases e : (op != 9) with
  | true => exact .reg (sm13_12t m g h op n sz) (tSm h2 h9 e) (by omega) ⟨rfl, hr.1⟩ rfl rfl
  | false => exact .reg (sm13_12f m g h op n sz) (tSm h2 h9 e) (by omega) ⟨rfl, hr.1⟩ rfl rfl
theorem dsm13_13 (h2 : 2 ≤ op) (h9 : op ≤ 9) : DoF m g h op 13 13 n sz := by
  cases e : (op != 9) with
  | true => exact .reg (sm13_13t m g h op n sz) (tSm h2 h9 e) (by omega) ⟨rfl, hr.1⟩ rfl rfl
  | false => exact .reg (sm13_13f m g h op n sz) (tSm h2 h9 e) (by omega) ⟨rfl, hr.1⟩ rfl rfl
theorem dsm13_14 (h2 : 2 ≤ op) (h9 : op ≤ 9) : DoF m g h op 13 14 n sz := by
  cases e : (op != 9) with
  | true => exact .reg (sm13_14t m g h op n sz) (tSm h2 h9 e) (by omega) ⟨rfl, hr.1⟩ rfl rfl
  | false => exact .reg (sm13_14f m g h op n sz) (tSm h2 h9 e) (by omega) ⟨rfl, hr.1⟩ rfl rfl
theorem dsm13_15 (h2 : 2 ≤ op) (h9 : op ≤ 9) : DoF m g h op 13 15 n sz := by
  cases e : (op != 9) with
  | true => exact .reg (sm13_15t m g h op n sz) (tSm h2 h9 e) (by omega) ⟨rfl, hr.1⟩ rfl rfl
  | false => exact .reg (sm13_15f m g h op n sz) (tSm h2 h9 e) (by omega) ⟨rfl, hr.1⟩ rfl rfl
theorem dsm13_16 (h2 : 2 ≤ op) (h9 : op ≤ 9) : DoF m g h op 13 16 n sz := by
  cases e : (op != 9) with
  | true => exact .reg (sm13_16t m g h op n sz) (tSm h2 h9 e) (by omega) ⟨rfl, hr.1⟩ rfl rfl
  | false => exact .reg (sm13_16f m g h op n sz) (tSm h2 h9 e) (by omega) ⟨rfl, hr.1⟩ rfl rfl
theorem dsm14_10 (h2 : 2 ≤ op) (h9 : op ≤ 9) : DoF m g h op 14 10 n sz := by
  cases e : (op != 9) with
  | true => exact .reg (sm14_10t m g h op n sz) (tSm h2 h9 e) (by omega) ⟨rfl, hr.1⟩ rfl rfl
  | false => exact .reg (sm14_10f m g h op n sz) (tSm h2 h9 e) (by omega) ⟨rfl, hr.1⟩ rfl rfl
theorem dsm14_11 (h2 : 2 ≤ op) (h9 : op ≤ 9) : DoF m g h op 14 11 n sz := by
  cases e : (op != 9) with
  | true => exact .reg (sm14_11t m g h op n sz) (tSm h2 h9 e) (by omega) ⟨rfl, hr.1⟩ rfl rfl
  | false => exact .reg (sm14_11f m g h op n sz) (tSm h2 h9 e) (by omega) ⟨rfl, hr.1⟩ rfl rfl
theorem dsm14_12 (h2 : 2 ≤ op) (h9 : op ≤ 9) : DoF m g h op 14 12 n sz := by
  cases e : (op != 9) with
  | true => exact .reg (sm14_12t m g h op n sz) (tSm h2 h9 e) (by omega) ⟨rfl, hr.1⟩ rfl rfl
  | false => exact .reg (sm14_12f m g h op n sz) (tSm h2 h9 e) (by omega) ⟨rfl, hr.1⟩ rfl rfl
theorem dsm14_13 (h2 : 2 ≤ op) (h9 : op ≤ 9) : DoF m g h op 14 13 n sz := by
  cases e : (op != 9) with
  | true => exact .reg (sm14_13t m g h op n sz) (tSm h2 h9 e) (by omega) ⟨rfl, hr.1⟩ rfl rfl
  | false => exact .reg (sm14_13f m g h op n sz) (tSm h2 h9 e) (by omega) ⟨rfl, hr.1⟩ rfl rfl
theorem dsm14_14 (h2 : 2 ≤ op) (h9 : op ≤ 9) : DoF m g h op 14 14 n sz := by
  cases e : (op != 9) with
  | true => exact .reg (sm14_14t m g h op n sz) (tSm h2 h9 e) (by omega) ⟨rfl, hr.1⟩ rfl rfl
  | false => exact .reg (sm14_14f m g h op n sz) (tSm h2 h9 e) (by omega) ⟨rfl, hr.1⟩ rfl rfl
theorem dsm14_15 (h2 : 2 ≤ op) (h9 : op ≤ 9) : DoF m g h op 14 15 n sz := by
  cases e : (op != 9) with
  | true => exact .reg (sm14_15t m g h op n sz) (tSm h2 h9 e) (by omega) ⟨rfl, hr.1⟩ rfl rfl
  | false => exact .reg (sm14_15f m g h op n sz) (tSm h2 h9 e) (by omega) ⟨rfl, hr.1⟩ rfl rfl
theorem dsm14_16 (h2 : 2 ≤ op) (h9 : op ≤ 9) : DoF m g h op 14 16 n sz := by
  cases e : (op != 9) with
  | true => exact .reg (sm14_16t m g h op n sz) (tSm h2 h9 e) (by omega) ⟨rfl, hr.1⟩ rfl rfl
  | false => exact .reg (sm14_16f m g h op n sz) (tSm h2 h9 e) (by omega) ⟨rfl, hr.1⟩ rfl rfl
theorem dsm15_10 (h2 : 2 ≤ op) (h9 : op ≤ 9) : DoF m g h op 15 10 n sz := by
  cases e : (op != 9) with
  | true => exact .reg (sm15_10t m g h op n sz) (tSm h2 h9 e) (by omega) ⟨rfl, hr.1⟩ rfl rfl
  | false => exact .reg (sm15_10f m g h op n sz) (tSm h2 h9 e) (by omega) ⟨rfl, hr.1⟩ rfl rfl
theorem dsm15_11 (h2 : 2 ≤ op) (h9 : op ≤ 9) : DoF m g h op 15 11 n sz := by
  cases e : (op != 9) with
  | true => exact .reg (sm15_11t m g h op n sz) (tSm h2 h9 e) (by omega) ⟨rfl, hr.1⟩ rfl rfl
  | false => exact .reg (sm15_11f m g h op n sz) (tSm h2 h9 e) (by omega) ⟨rfl, hr.1⟩ rfl rfl
theorem dsm15_12 (h2 : 2 ≤ op) (h9 : op ≤ 9) : DoF m g h op 15 12 n sz := by
  cases e : (op != 9) with
  | true => exact .reg (sm15_12t m g h op n sz) (tSm h2 h9 e) (by omega) ⟨rfl, hr.1⟩ rfl rfl
  | false => exact .reg (sm15_12f m g h op n sz) (tSm h2 h9 e) (by omega) ⟨rfl, hr.1⟩ rfl rfl
theorem dsm15_13 (h2 : 2 ≤ op) (h9 : op ≤ 9) : DoF m g h op 15 13 n sz := by
  cases e : (op != 9) with
  | true => exact .reg (sm15_13t m g h op n sz) (tSm h2 h9 e) (by omega) ⟨rfl, hr.1⟩ rfl rfl
  | false => exact .reg (sm15_13f m g h op n sz) (tSm h2 h9 e) (by omega) ⟨rfl, hr.1⟩ rfl rfl
theorem dsm15_14 (h2 : 2 ≤ op) (h9 : op ≤ 9) : DoF m g h op 15 14 n sz := by
  cases e : (op != 9) with
  | true => exact .reg (sm15_14t m g h op n sz) (tSm h2 h9 e) (by omega) ⟨rfl, hr.1⟩ rfl rfl
  | false => exact .reg (sm15_14f m g h op n sz) (tSm h2 h9 e) (by omega) ⟨rfl, hr.1⟩ rfl rfl
theorem dsm15_15 (h2 : 2 ≤ op) (h9 : op ≤ 9) : DoF m g h op 15 15 n sz := by
  cases e : (op != 9) with
  | true => exact .reg (sm15_15t m g h op n sz) (tSm h2 h9 e) (by omega) ⟨rfl, hr.1⟩ rfl rfl
  | false => exact .reg (sm15_15f m g h op n sz) (tSm h2 h9 e) (by omega) ⟨rfl, hr.1⟩ rfl rfl
theorem dsm15_16 (h2 : 2 ≤ op) (h9 : op ≤ 9) : DoF m g h op 15 16 n sz := by
  cases e : (op != 9) with
  | true => exact .reg (sm15_16t m g h op n sz) (tSm h2 h9 e) (by omega) ⟨rfl, hr.1⟩ rfl rfl
  | false => exact .reg (sm15_16f m g h op n sz) (tSm h2 h9 e) (by omega) ⟨rfl, hr.1⟩ rfl rfl
theorem dsm16_10 (h2 : 2 ≤ op) (h9 : op ≤ 9) : DoF m g h op 16 10 n sz := by
  cases e : (op != 9) with
  | true => exact .reg (sm16_10t m g h op n sz) (tSm h2 h9 e) (by omega) ⟨rfl, hr.1⟩ rfl rfl
  | false => exact .reg (sm16_10f m g h op n sz) (tSm h2 h9 e) (by omega) ⟨rfl, hr.1⟩ rfl rfl
theorem dsm16_11 (h2 : 2 ≤ op) (h9 : op ≤ 9) : DoF m g h op 16 11 n sz := by
  cases e : (op != 9) with
  | true => exact .reg (sm16_11t m g h op n sz) (tSm h2 h9 e) (by omega) ⟨rfl, hr.1⟩ rfl rfl
  | false => exact .reg (sm16_11f m g h op n sz) (tSm h2 h9 e) (by omega) ⟨rfl, hr.1⟩ rfl rfl
theorem dsm16_12 (h2 : 2 ≤ op) (h9 : op ≤ 9) : DoF m g h op 16 12 n sz := by
  cases e : (op != 9) with
  | true => exact .reg (sm16_12t m g h op n sz) (tSm h2 h9 e) (by omega) ⟨rfl, hr.1⟩ rfl rfl
  | false => exact .reg (sm16_12f m g h op n sz) (tSm h2 h9 e) (by omega) ⟨rfl, hr.1⟩ rfl rfl
theorem dsm16_13 (h2 : 2 ≤ op) (h9 : op ≤ 9) : DoF m g h op 16 13 n sz := by
  cases e : (op != 9) with
  | true => exact .reg (sm16_13t m g h op n sz) (tSm h2 h9 e) (by omega) ⟨rfl, hr.1⟩ rfl rfl
  | false => exact .reg (sm16_13f m g h op n sz) (tSm h2 h9 e) (by omega) ⟨rfl, hr.1⟩ rfl rfl
theorem dsm16_14 (h2 : 2 ≤ op) (h9 : op ≤ 9) : DoF m g h op 16 14 n sz := by
  cases e : (op != 9) with
  | true => exact .reg (sm16_14t m g h op n sz) (tSm h2 h9 e) (by omega) ⟨rfl, hr.1⟩ rfl rfl
  | false => exact .reg (sm16_14f m g h op n sz) (tSm h2 h9 e) (by omega) ⟨rfl, hr.1⟩ rfl rfl
theorem dsm16_15 (h2 : 2 ≤ op) (h9 : op ≤ 9) : DoF m g h op 16 15 n sz := by
  cases e : (op != 9) with
  | true => exact .reg (sm16_15t m g h op n sz) (tSm h2 h9 e) (by omega) ⟨rfl, hr.1⟩ rfl rfl
  | false => exact .reg (sm16_15f m g h op n sz) (tSm h2 h9 e) (by omega) ⟨rfl, hr.1⟩ rfl rfl
theorem dsm16_16 (h2 : 2 ≤ op) (h9 : op ≤ 9) : DoF m g h op 16 16 n sz := by
  cases e : (op != 9) with
  | true => exact .reg (sm16_16t m g h op n sz) (tSm h2 h9 e) (by omega) ⟨rfl, hr.1⟩ rfl rfl
  | false => exact .reg (sm16_16f m g h op n sz) (tSm h2 h9 e) (by omega) ⟨rfl, hr.1⟩ rfl rfl
end
end Go.Proofs.Ytnknopebjdgdjaa
namespace Go.Proofs.Ytnknopebjdgdjaa
open Go Go.Ly Go.RowKit
variable (m : Mc) (g h : Nat → Int) (op n sz : Int)
include m g h op n sz
set_option linter.unusedSectionVars false
theorem mv1_1 : eD [] m g h 1 1 1 n sz = oD [] 45 (hP { m with r0 := slo m.r0 (lo8 m.r0), ip := ipN m sz } g h) := by kernel_rfl
theorem mv1_2 : eD [] m g h 1 1 2 n sz = oD [] 45 (hP { m with r0 := slo m.r0 (lo8 m.r1), ip := ipN m sz } g h) := by kernel_rfl
theorem mv1_3 : eD [] m g h 1 1 3 n sz = oD [] 45 (hP { m with r0 := slo m.r0 (lo8 m.r2), ip := ipN m sz } g h) := by kernel_rfl
theorem mv1_4 : eD [] m g h 1 1 4 n sz = oD [] 45 (hP { m with r0 := slo m.r0 (lo8 m.r3), ip := ipN m sz } g h) := by kernel_rfl
theorem mv1_6 : eD [] m g h 1 1 6 n sz = oD [] 45 (hP { m with r0 := slo m.r0 (hi8 m.r1), ip := ipN m sz } g h) := by kernel_rfl
theorem mv1_7 : eD [] m g h 1 1 7 n sz = oD [] 45 (hP { m with r0 := slo m.r0 (hi8 m.r2), ip := ipN m sz } g h) := by kernel_rfl
theorem mv1_8 : eD [] m g h 1 1 8 n sz = oD [] 45 (hP { m with r0 := slo m.r0 (hi8 m.r3), ip := ipN m sz } g h) := by kernel_rfl
theorem mv1_20 : eD [] m g h 1 1 20 n sz = oD [] 45 (hP { m with r0 := slo m.r0 n, ip := ipN m sz } g h) := by kernel_rfl
theorem mv1_17 : eD [(41, true), (0, true)] m g h 1 1 17 n sz = oD [(decide (0 ≤ m.r3) && decide (m.r3 < 65536), true), (Nat.blt (adr m.r3) 65536, true)] 45 (hP { m with r0 := slo m.r0 (ldB h m.r3), ip := ipN m sz } g h) := by kernel_rfl
theorem mv2_1 : eD [] m g h 1 2 1 n sz = oD [] 45 (hP { m with r1 := slo m.r1 (lo8 m.r0), ip := ipN m sz } g h) := by kernel_rfl
theorem mv2_2 : eD [] m g h 1 2 2 n sz = oD [] 45 (hP { m with r1 := slo m.r1 (lo8 m.r1), ip := ipN m sz } g h) := by kernel_rfl
theorem mv2_3 : eD [] m g h 1 2 3 n sz = oD [] 45 (hP { m with r1 := slo m.r1 (lo8 m.r2), ip := ipN m sz } g h) := by kernel_rfl
theorem mv2_4 : eD [] m g h 1 2 4 n sz = oD [] 45 (hP { m with r1 := slo m.r1 (lo8 m.r3), ip := ipN m sz } g h) := by kernel_rfl
theorem mv2_6 : eD [] m g h 1 2 6 n sz = oD [] 45 (hP { m with r1 := slo m.r1 (hi8 m.r1), ip := ipN m sz } g h) := by kernel_rfl
theorem mv2_7 : eD [] m g h 1 2 7 n sz = oD [] 45 (hP { m with r1 := slo m.r1 (hi8 m.r2), ip := ipN m sz } g h) := by kernel_rfl
theorem mv2_8 : eD [] m g h 1 2 8 n sz = oD [] 45 (hP { m with r1 := slo m.r1 (hi8 m.r3), ip := ipN m sz } g h) := by kernel_rfl
theorem mv2_20 : eD [] m g h 1 2 20 n sz = oD [] 45 (hP { m with r1 := slo m.r1 n, ip := ipN m sz } g h) := by kernel_rfl
theorem mv2_17 : eD [(41, true), (0, true)] m g h 1 2 17 n sz = oD [(decide (0 ≤ m.r3) && decide (m.r3 < 65536), true), (Nat.blt (adr m.r3) 65536, true)] 45 (hP { m with r1 := slo m.r1 (ldB h m.r3), ip := ipN m sz } g h) := by kernel_rfl
theorem mv3_1 : eD [] m g h 1 3 1 n sz = oD [] 45 (hP { m with r2 := slo m.r2 (lo8 m.r0), ip := ipN m sz } g h) := by kernel_rfl
theorem mv3_2 : eD [] m g h 1 3 2 n sz = oD [] 45 (hP { m with r2 := slo m.r2 (lo8 m.r1), ip := ipN m sz } g h) := by kernel_rfl
theorem mv3_3 : eD [] m g h 1 3 3 n sz = oD [] 45 (hP { m with r2 := slo m.r2 (lo8 m.r2), ip := ipN m sz } g h) := by kernel_rfl
theorem mv3_4 : eD [] m g h 1 3 4 n sz = oD [] 45 (hP { m with r2 := slo m.r2 (lo8 m.r3), ip := ipN m sz } g h) := by kernel_rfl
end Go.Proofs.Ytnknopebjdgdjaa
end
