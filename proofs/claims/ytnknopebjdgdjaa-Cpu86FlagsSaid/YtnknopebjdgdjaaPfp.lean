/- Part 16 of the texts that the law needs, laid together. By program (pack.py). -/
import Derived.Test.YtnknopebjdgdjaaPfn
import Derived.Test.YtnknopebjdgdjaaPfo
import Derived.KernelRfl
set_option linter.unusedVariables false
set_option linter.unusedSimpArgs false
noncomputable section
namespace Go.Proofs.Ytnknopebjdgdjaa
open Go Go.Ly Go.RowKit
variable (m : Mc) (g h : Nat → Int) (op n sz : Int)
include m g h op n sz
set_option linter.unusedSectionVars false
theorem mv3_6 : eD [] m g h 1 3 6 n sz = oD [] 45 (hP { m with r2 := slo m.r2 (hi8 m.r1), ip := ipN m sz } g h) := by kernel_rfl
theorem mv3_7 : eD [] m g h 1 3 7 n sz = oD [] 45 (hP { m with r2 := slo m.r2 (hi8 m.r2), ip := ipN m sz } g h) := by kernel_rfl
theorem mv3_8 : eD [] m g h 1 3 8 n sz = oD [] 45 (hP { m with r2 := slo m.r2 (hi8 m.r3), ip := ipN m sz } g h) := by kernel_rfl
theorem mv3_20 : eD [] m g h 1 3 20 n sz = oD [] 45 (hP { m with r2 := slo m.r2 n, ip := ipN m sz } g h) := by kernel_rfl
theorem mv3_17 : eD [(41, true), (0, true)] m g h 1 3 17 n sz = oD [(decide (0 ≤ m.r3) && decide (m.r3 < 65536), true), (Nat.blt (adr m.r3) 65536, true)] 45 (hP { m with r2 := slo m.r2 (ldB h m.r3), ip := ipN m sz } g h) := by kernel_rfl
theorem mv4_1 : eD [] m g h 1 4 1 n sz = oD [] 45 (hP { m with r3 := slo m.r3 (lo8 m.r0), ip := ipN m sz } g h) := by kernel_rfl
theorem mv4_2 : eD [] m g h 1 4 2 n sz = oD [] 45 (hP { m with r3 := slo m.r3 (lo8 m.r1), ip := ipN m sz } g h) := by kernel_rfl
theorem mv4_3 : eD [] m g h 1 4 3 n sz = oD [] 45 (hP { m with r3 := slo m.r3 (lo8 m.r2), ip := ipN m sz } g h) := by kernel_rfl
theorem mv4_4 : eD [] m g h 1 4 4 n sz = oD [] 45 (hP { m with r3 := slo m.r3 (lo8 m.r3), ip := ipN m sz } g h) := by kernel_rfl
theorem mv4_6 : eD [] m g h 1 4 6 n sz = oD [] 45 (hP { m with r3 := slo m.r3 (hi8 m.r1), ip := ipN m sz } g h) := by kernel_rfl
theorem mv4_7 : eD [] m g h 1 4 7 n sz = oD [] 45 (hP { m with r3 := slo m.r3 (hi8 m.r2), ip := ipN m sz } g h) := by kernel_rfl
theorem mv4_8 : eD [] m g h 1 4 8 n sz = oD [] 45 (hP { m with r3 := slo m.r3 (hi8 m.r3), ip := ipN m sz } g h) := by kernel_rfl
theorem mv4_20 : eD [] m g h 1 4 20 n sz = oD [] 45 (hP { m with r3 := slo m.r3 n, ip := ipN m sz } g h) := by kernel_rfl
theorem mv4_17 : eD [(41, true), (0, true)] m g h 1 4 17 n sz = oD [(decide (0 ≤ m.r3) && decide (m.r3 < 65536), true), (Nat.blt (adr m.r3) 65536, true)] 45 (hP { m with r3 := slo m.r3 (ldB h m.r3), ip := ipN m sz } g h) := by kernel_rfl
end Go.Proofs.Ytnknopebjdgdjaa
namespace Go.Proofs.Ytnknopebjdgdjaa
open Go Go.Ly Go.RowKit
variable (m : Mc) (g h : Nat → Int) (op n sz : Int)
include m g h op n sz
set_option linter.unusedSectionVars false
theorem mv6_1 : eD [] m g h 1 6 1 n sz = oD [] 45 (hP { m with r1 := shi m.r1 (lo8 m.r0), ip := ipN m sz } g h) := by kernel_rfl
theorem mv6_2 : eD [] m g h 1 6 2 n sz = oD [] 45 (hP { m with r1 := shi m.r1 (lo8 m.r1), ip := ipN m sz } g h) := by kernel_rfl
theorem mv6_3 : eD [] m g h 1 6 3 n sz = oD [] 45 (hP { m with r1 := shi m.r1 (lo8 m.r2), ip := ipN m sz } g h) := by kernel_rfl
theorem mv6_4 : eD [] m g h 1 6 4 n sz = oD [] 45 (hP { m with r1 := shi m.r1 (lo8 m.r3), ip := ipN m sz } g h) := by kernel_rfl
theorem mv6_6 : eD [] m g h 1 6 6 n sz = oD [] 45 (hP { m with r1 := shi m.r1 (hi8 m.r1), ip := ipN m sz } g h) := by kernel_rfl
theorem mv6_7 : eD [] m g h 1 6 7 n sz = oD [] 45 (hP { m with r1 := shi m.r1 (hi8 m.r2), ip := ipN m sz } g h) := by kernel_rfl
theorem mv6_8 : eD [] m g h 1 6 8 n sz = oD [] 45 (hP { m with r1 := shi m.r1 (hi8 m.r3), ip := ipN m sz } g h) := by kernel_rfl
theorem mv6_20 : eD [] m g h 1 6 20 n sz = oD [] 45 (hP { m with r1 := shi m.r1 n, ip := ipN m sz } g h) := by kernel_rfl
theorem mv6_17 : eD [(41, true), (0, true)] m g h 1 6 17 n sz = oD [(decide (0 ≤ m.r3) && decide (m.r3 < 65536), true), (Nat.blt (adr m.r3) 65536, true)] 45 (hP { m with r1 := shi m.r1 (ldB h m.r3), ip := ipN m sz } g h) := by kernel_rfl
theorem mv7_1 : eD [] m g h 1 7 1 n sz = oD [] 45 (hP { m with r2 := shi m.r2 (lo8 m.r0), ip := ipN m sz } g h) := by kernel_rfl
theorem mv7_2 : eD [] m g h 1 7 2 n sz = oD [] 45 (hP { m with r2 := shi m.r2 (lo8 m.r1), ip := ipN m sz } g h) := by kernel_rfl
theorem mv7_3 : eD [] m g h 1 7 3 n sz = oD [] 45 (hP { m with r2 := shi m.r2 (lo8 m.r2), ip := ipN m sz } g h) := by kernel_rfl
theorem mv7_4 : eD [] m g h 1 7 4 n sz = oD [] 45 (hP { m with r2 := shi m.r2 (lo8 m.r3), ip := ipN m sz } g h) := by kernel_rfl
theorem mv7_6 : eD [] m g h 1 7 6 n sz = oD [] 45 (hP { m with r2 := shi m.r2 (hi8 m.r1), ip := ipN m sz } g h) := by kernel_rfl
theorem mv7_7 : eD [] m g h 1 7 7 n sz = oD [] 45 (hP { m with r2 := shi m.r2 (hi8 m.r2), ip := ipN m sz } g h) := by kernel_rfl
theorem mv7_8 : eD [] m g h 1 7 8 n sz = oD [] 45 (hP { m with r2 := shi m.r2 (hi8 m.r3), ip := ipN m sz } g h) := by kernel_rfl
theorem mv7_20 : eD [] m g h 1 7 20 n sz = oD [] 45 (hP { m with r2 := shi m.r2 n, ip := ipN m sz } g h) := by kernel_rfl
theorem mv7_17 : eD [(41, true), (0, true)] m g h 1 7 17 n sz = oD [(decide (0 ≤ m.r3) && decide (m.r3 < 65536), true), (Nat.blt (adr m.r3) 65536, true)] 45 (hP { m with r2 := shi m.r2 (ldB h m.r3), ip := ipN m sz } g h) := by kernel_rfl
theorem mv8_1 : eD [] m g h 1 8 1 n sz = oD [] 45 (hP { m with r3 := shi m.r3 (lo8 m.r0), ip := ipN m sz } g h) := by kernel_rfl
theorem mv8_2 : eD [] m g h 1 8 2 n sz = oD [] 45 (hP { m with r3 := shi m.r3 (lo8 m.r1), ip := ipN m sz } g h) := by kernel_rfl
end Go.Proofs.Ytnknopebjdgdjaa
namespace Go.Proofs.Ytnknopebjdgdjaa
open Go Go.Ly Go.RowKit
variable (m : Mc) (g h : Nat → Int) (op n sz : Int)
include m g h op n sz
set_option linter.unusedSectionVars false
theorem mv8_3 : eD [] m g h 1 8 3 n sz = oD [] 45 (hP { m with r3 := shi m.r3 (lo8 m.r2), ip := ipN m sz } g h) := by kernel_rfl
theorem mv8_4 : eD [] m g h 1 8 4 n sz = oD [] 45 (hP { m with r3 := shi m.r3 (lo8 m.r3), ip := ipN m sz } g h) := by kernel_rfl
theorem mv8_6 : eD [] m g h 1 8 6 n sz = oD [] 45 (hP { m with r3 := shi m.r3 (hi8 m.r1), ip := ipN m sz } g h) := by kernel_rfl
theorem mv8_7 : eD [] m g h 1 8 7 n sz = oD [] 45 (hP { m with r3 := shi m.r3 (hi8 m.r2), ip := ipN m sz } g h) := by kernel_rfl
theorem mv8_8 : eD [] m g h 1 8 8 n sz = oD [] 45 (hP { m with r3 := shi m.r3 (hi8 m.r3), ip := ipN m sz } g h) := by kernel_rfl
theorem mv8_20 : eD [] m g h 1 8 20 n sz = oD [] 45 (hP { m with r3 := shi m.r3 n, ip := ipN m sz } g h) := by kernel_rfl
theorem mv8_17 : eD [(41, true), (0, true)] m g h 1 8 17 n sz = oD [(decide (0 ≤ m.r3) && decide (m.r3 < 65536), true), (Nat.blt (adr m.r3) 65536, true)] 45 (hP { m with r3 := shi m.r3 (ldB h m.r3), ip := ipN m sz } g h) := by kernel_rfl
theorem mv1_18 : eD [(42, true), (0, true)] m g h 1 1 18 n sz = oD [(decide (0 ≤ m.r6) && decide (m.r6 < 65536), true), (Nat.blt (adr m.r6) 65536, true)] 45 (hP { m with r0 := slo m.r0 (ldB h m.r6), ip := ipN m sz } g h) := by kernel_rfl
theorem mv1_19 : eD [(41, true), (0, true)] m g h 1 1 19 n sz = oD [(decide (0 ≤ n) && decide (n < 65536), true), (Nat.blt (adr n) 65536, true)] 45 (hP { m with r0 := slo m.r0 (ldB h n), ip := ipN m sz } g h) := by kernel_rfl
end Go.Proofs.Ytnknopebjdgdjaa
namespace Go.Proofs.Ytnknopebjdgdjaa
open Go Go.Ly Go.RowKit
variable (m : Mc) (g h : Nat → Int) (op n sz : Int)
include m g h op n sz
set_option linter.unusedSectionVars false
theorem mv10_10 : eD [] m g h 1 10 10 n sz = oD [] 45 (hP { m with r1 := m.r1, ip := ipN m sz } g h) := by kernel_rfl
theorem mv10_11 : eD [] m g h 1 10 11 n sz = oD [] 45 (hP { m with r1 := m.r2, ip := ipN m sz } g h) := by kernel_rfl
theorem mv10_12 : eD [] m g h 1 10 12 n sz = oD [] 45 (hP { m with r1 := m.r3, ip := ipN m sz } g h) := by kernel_rfl
theorem mv10_13 : eD [] m g h 1 10 13 n sz = oD [] 45 (hP { m with r1 := m.r4, ip := ipN m sz } g h) := by kernel_rfl
theorem mv10_14 : eD [] m g h 1 10 14 n sz = oD [] 45 (hP { m with r1 := m.r5, ip := ipN m sz } g h) := by kernel_rfl
theorem mv10_15 : eD [] m g h 1 10 15 n sz = oD [] 45 (hP { m with r1 := m.r6, ip := ipN m sz } g h) := by kernel_rfl
theorem mv10_16 : eD [] m g h 1 10 16 n sz = oD [] 45 (hP { m with r1 := m.r7, ip := ipN m sz } g h) := by kernel_rfl
theorem mv10_20 : eD [] m g h 1 10 20 n sz = oD [] 45 (hP { m with r1 := n, ip := ipN m sz } g h) := by kernel_rfl
theorem mv10_19 : eD [(34, true), (0, true), (0, true), (0, true)] m g h 1 10 19 n sz = oD [(decide (0 ≤ n) && decide (n < 65536), true), (Nat.blt (adr n) 65536, true), (decide (0 ≤ (nadr n)) && decide ((nadr n) < 65536), true), (Nat.blt (adr (nadr n)) 65536, true)] 45 (hP { m with r1 := (ldW h n), ip := ipN m sz } g h) := by kernel_rfl
theorem mv11_10 : eD [] m g h 1 11 10 n sz = oD [] 45 (hP { m with r2 := m.r1, ip := ipN m sz } g h) := by kernel_rfl
theorem mv11_11 : eD [] m g h 1 11 11 n sz = oD [] 45 (hP { m with r2 := m.r2, ip := ipN m sz } g h) := by kernel_rfl
theorem mv11_12 : eD [] m g h 1 11 12 n sz = oD [] 45 (hP { m with r2 := m.r3, ip := ipN m sz } g h) := by kernel_rfl
theorem mv11_13 : eD [] m g h 1 11 13 n sz = oD [] 45 (hP { m with r2 := m.r4, ip := ipN m sz } g h) := by kernel_rfl
end Go.Proofs.Ytnknopebjdgdjaa
namespace Go.Proofs.Ytnknopebjdgdjaa
open Go Go.Ly Go.RowKit
variable (m : Mc) (g h : Nat → Int) (op n sz : Int)
include m g h op n sz
set_option linter.unusedSectionVars false
theorem mv11_14 : eD [] m g h 1 11 14 n sz = oD [] 45 (hP { m with r2 := m.r5, ip := ipN m sz } g h) := by kernel_rfl
theorem mv11_15 : eD [] m g h 1 11 15 n sz = oD [] 45 (hP { m with r2 := m.r6, ip := ipN m sz } g h) := by kernel_rfl
theorem mv11_16 : eD [] m g h 1 11 16 n sz = oD [] 45 (hP { m with r2 := m.r7, ip := ipN m sz } g h) := by kernel_rfl
theorem mv11_20 : eD [] m g h 1 11 20 n sz = oD [] 45 (hP { m with r2 := n, ip := ipN m sz } g h) := by kernel_rfl
theorem mv11_19 : eD [(34, true), (0, true), (0, true), (0, true)] m g h 1 11 19 n sz = oD [(decide (0 ≤ n) && decide (n < 65536), true), (Nat.blt (adr n) 65536, true), (decide (0 ≤ (nadr n)) && decide ((nadr n) < 65536), true), (Nat.blt (adr (nadr n)) 65536, true)] 45 (hP { m with r2 := (ldW h n), ip := ipN m sz } g h) := by kernel_rfl
theorem mv12_10 : eD [] m g h 1 12 10 n sz = oD [] 45 (hP { m with r3 := m.r1, ip := ipN m sz } g h) := by kernel_rfl
theorem mv12_11 : eD [] m g h 1 12 11 n sz = oD [] 45 (hP { m with r3 := m.r2, ip := ipN m sz } g h) := by kernel_rfl
theorem mv12_12 : eD [] m g h 1 12 12 n sz = oD [] 45 (hP { m with r3 := m.r3, ip := ipN m sz } g h) := by kernel_rfl
theorem mv12_13 : eD [] m g h 1 12 13 n sz = oD [] 45 (hP { m with r3 := m.r4, ip := ipN m sz } g h) := by kernel_rfl
theorem mv12_14 : eD [] m g h 1 12 14 n sz = oD [] 45 (hP { m with r3 := m.r5, ip := ipN m sz } g h) := by kernel_rfl
theorem mv12_15 : eD [] m g h 1 12 15 n sz = oD [] 45 (hP { m with r3 := m.r6, ip := ipN m sz } g h) := by kernel_rfl
theorem mv12_16 : eD [] m g h 1 12 16 n sz = oD [] 45 (hP { m with r3 := m.r7, ip := ipN m sz } g h) := by kernel_rfl
theorem mv12_20 : eD [] m g h 1 12 20 n sz = oD [] 45 (hP { m with r3 := n, ip := ipN m sz } g h) := by kernel_rfl
theorem mv12_19 : eD [(34, true), (0, true), (0, true), (0, true)] m g h 1 12 19 n sz = oD [(decide (0 ≤ n) && decide (n < 65536), true), (Nat.blt (adr n) 65536, true), (decide (0 ≤ (nadr n)) && decide ((nadr n) < 65536), true), (Nat.blt (adr (nadr n)) 65536, true)] 45 (hP { m with r3 := (ldW h n), ip := ipN m sz } g h) := by kernel_rfl
theorem mv13_10 : eD [] m g h 1 13 10 n sz = oD [] 45 (hP { m with r4 := m.r1, ip := ipN m sz } g h) := by kernel_rfl
theorem mv13_11 : eD [] m g h 1 13 11 n sz = oD [] 45 (hP { m with r4 := m.r2, ip := ipN m sz } g h) := by kernel_rfl
theorem mv13_12 : eD [] m g h 1 13 12 n sz = oD [] 45 (hP { m with r4 := m.r3, ip := ipN m sz } g h) := by kernel_rfl
theorem mv13_13 : eD [] m g h 1 13 13 n sz = oD [] 45 (hP { m with r4 := m.r4, ip := ipN m sz } g h) := by kernel_rfl
theorem mv13_14 : eD [] m g h 1 13 14 n sz = oD [] 45 (hP { m with r4 := m.r5, ip := ipN m sz } g h) := by kernel_rfl
theorem mv13_15 : eD [] m g h 1 13 15 n sz = oD [] 45 (hP { m with r4 := m.r6, ip := ipN m sz } g h) := by kernel_rfl
theorem mv13_16 : eD [] m g h 1 13 16 n sz = oD [] 45 (hP { m with r4 := m.r7, ip := ipN m sz } g h) := by kernel_rfl
theorem mv13_20 : eD [] m g h 1 13 20 n sz = oD [] 45 (hP { m with r4 := n, ip := ipN m sz } g h) := by kernel_rfl
end Go.Proofs.Ytnknopebjdgdjaa
namespace Go.Proofs.Ytnknopebjdgdjaa
open Go Go.Ly Go.RowKit
variable (m : Mc) (g h : Nat → Int) (op n sz : Int)
include m g h op n sz
set_option linter.unusedSectionVars false
theorem mv13_19 : eD [(34, true), (0, true), (0, true), (0, true)] m g h 1 13 19 n sz = oD [(decide (0 ≤ n) && decide (n < 65536), true), (Nat.blt (adr n) 65536, true), (decide (0 ≤ (nadr n)) && decide ((nadr n) < 65536), true), (Nat.blt (adr (nadr n)) 65536, true)] 45 (hP { m with r4 := (ldW h n), ip := ipN m sz } g h) := by kernel_rfl
theorem mv14_10 : eD [] m g h 1 14 10 n sz = oD [] 45 (hP { m with r5 := m.r1, ip := ipN m sz } g h) := by kernel_rfl
theorem mv14_11 : eD [] m g h 1 14 11 n sz = oD [] 45 (hP { m with r5 := m.r2, ip := ipN m sz } g h) := by kernel_rfl
theorem mv14_12 : eD [] m g h 1 14 12 n sz = oD [] 45 (hP { m with r5 := m.r3, ip := ipN m sz } g h) := by kernel_rfl
theorem mv14_13 : eD [] m g h 1 14 13 n sz = oD [] 45 (hP { m with r5 := m.r4, ip := ipN m sz } g h) := by kernel_rfl
theorem mv14_14 : eD [] m g h 1 14 14 n sz = oD [] 45 (hP { m with r5 := m.r5, ip := ipN m sz } g h) := by kernel_rfl
theorem mv14_15 : eD [] m g h 1 14 15 n sz = oD [] 45 (hP { m with r5 := m.r6, ip := ipN m sz } g h) := by kernel_rfl
theorem mv14_16 : eD [] m g h 1 14 16 n sz = oD [] 45 (hP { m with r5 := m.r7, ip := ipN m sz } g h) := by kernel_rfl
theorem mv14_20 : eD [] m g h 1 14 20 n sz = oD [] 45 (hP { m with r5 := n, ip := ipN m sz } g h) := by kernel_rfl
theorem mv14_19 : eD [(34, true), (0, true), (0, true), (0, true)] m g h 1 14 19 n sz = oD [(decide (0 ≤ n) && decide (n < 65536), true), (Nat.blt (adr n) 65536, true), (decide (0 ≤ (nadr n)) && decide ((nadr n) < 65536), true), (Nat.blt (adr (nadr n)) 65536, true)] 45 (hP { m with r5 := (ldW h n), ip := ipN m sz } g h) := by kernel_rfl
theorem mv15_10 : eD [] m g h 1 15 10 n sz = oD [] 45 (hP { m with r6 := m.r1, ip := ipN m sz } g h) := by kernel_rfl
theorem mv15_11 : eD [] m g h 1 15 11 n sz = oD [] 45 (hP { m with r6 := m.r2, ip := ipN m sz } g h) := by kernel_rfl
theorem mv15_12 : eD [] m g h 1 15 12 n sz = oD [] 45 (hP { m with r6 := m.r3, ip := ipN m sz } g h) := by kernel_rfl
theorem mv15_13 : eD [] m g h 1 15 13 n sz = oD [] 45 (hP { m with r6 := m.r4, ip := ipN m sz } g h) := by kernel_rfl
theorem mv15_14 : eD [] m g h 1 15 14 n sz = oD [] 45 (hP { m with r6 := m.r5, ip := ipN m sz } g h) := by kernel_rfl
theorem mv15_15 : eD [] m g h 1 15 15 n sz = oD [] 45 (hP { m with r6 := m.r6, ip := ipN m sz } g h) := by kernel_rfl
theorem mv15_16 : eD [] m g h 1 15 16 n sz = oD [] 45 (hP { m with r6 := m.r7, ip := ipN m sz } g h) := by kernel_rfl
theorem mv15_20 : eD [] m g h 1 15 20 n sz = oD [] 45 (hP { m with r6 := n, ip := ipN m sz } g h) := by kernel_rfl
theorem mv15_19 : eD [(34, true), (0, true), (0, true), (0, true)] m g h 1 15 19 n sz = oD [(decide (0 ≤ n) && decide (n < 65536), true), (Nat.blt (adr n) 65536, true), (decide (0 ≤ (nadr n)) && decide ((nadr n) < 65536), true), (Nat.blt (adr (nadr n)) 65536, true)] 45 (hP { m with r6 := (ldW h n), ip := ipN m sz } g h) := by kernel_rfl
theorem mv16_10 : eD [] m g h 1 16 10 n sz = oD [] 45 (hP { m with r7 := m.r1, ip := ipN m sz } g h) := by kernel_rfl
theorem mv16_11 : eD [] m g h 1 16 11 n sz = oD [] 45 (hP { m with r7 := m.r2, ip := ipN m sz } g h) := by kernel_rfl
end Go.Proofs.Ytnknopebjdgdjaa
namespace Go.Proofs.Ytnknopebjdgdjaa
open Go Go.Ly Go.RowKit
variable (m : Mc) (g h : Nat → Int) (op n sz : Int)
include m g h op n sz
set_option linter.unusedSectionVars false
theorem mv16_12 : eD [] m g h 1 16 12 n sz = oD [] 45 (hP { m with r7 := m.r3, ip := ipN m sz } g h) := by kernel_rfl
theorem mv16_13 : eD [] m g h 1 16 13 n sz = oD [] 45 (hP { m with r7 := m.r4, ip := ipN m sz } g h) := by kernel_rfl
theorem mv16_14 : eD [] m g h 1 16 14 n sz = oD [] 45 (hP { m with r7 := m.r5, ip := ipN m sz } g h) := by kernel_rfl
theorem mv16_15 : eD [] m g h 1 16 15 n sz = oD [] 45 (hP { m with r7 := m.r6, ip := ipN m sz } g h) := by kernel_rfl
theorem mv16_16 : eD [] m g h 1 16 16 n sz = oD [] 45 (hP { m with r7 := m.r7, ip := ipN m sz } g h) := by kernel_rfl
theorem mv16_20 : eD [] m g h 1 16 20 n sz = oD [] 45 (hP { m with r7 := n, ip := ipN m sz } g h) := by kernel_rfl
theorem mv16_19 : eD [(34, true), (0, true), (0, true), (0, true)] m g h 1 16 19 n sz = oD [(decide (0 ≤ n) && decide (n < 65536), true), (Nat.blt (adr n) 65536, true), (decide (0 ≤ (nadr n)) && decide ((nadr n) < 65536), true), (Nat.blt (adr (nadr n)) 65536, true)] 45 (hP { m with r7 := (ldW h n), ip := ipN m sz } g h) := by kernel_rfl
end Go.Proofs.Ytnknopebjdgdjaa
namespace Go.Proofs.Ytnknopebjdgdjaa
open Go Go.Ly Go.RowKit
variable (m : Mc) (g h : Nat → Int) (op n sz : Int)
include m g h op n sz
set_option linter.unusedSectionVars false
theorem mv17_1 : eD [(53, true), (0, true)] m g h 1 17 1 n sz = oD [(decide (0 ≤ m.r3) && decide (m.r3 < 65536), true), (Nat.blt (adr m.r3) 65536, true)] 46 (hQ { m with ip := ipN m sz } g (stB h m.r3 (lo8 m.r0))) := by kernel_rfl
theorem mv17_2 : eD [(53, true), (0, true)] m g h 1 17 2 n sz = oD [(decide (0 ≤ m.r3) && decide (m.r3 < 65536), true), (Nat.blt (adr m.r3) 65536, true)] 46 (hQ { m with ip := ipN m sz } g (stB h m.r3 (lo8 m.r1))) := by kernel_rfl
theorem mv17_3 : eD [(53, true), (0, true)] m g h 1 17 3 n sz = oD [(decide (0 ≤ m.r3) && decide (m.r3 < 65536), true), (Nat.blt (adr m.r3) 65536, true)] 46 (hQ { m with ip := ipN m sz } g (stB h m.r3 (lo8 m.r2))) := by kernel_rfl
theorem mv17_4 : eD [(53, true), (0, true)] m g h 1 17 4 n sz = oD [(decide (0 ≤ m.r3) && decide (m.r3 < 65536), true), (Nat.blt (adr m.r3) 65536, true)] 46 (hQ { m with ip := ipN m sz } g (stB h m.r3 (lo8 m.r3))) := by kernel_rfl
theorem mv17_6 : eD [(53, true), (0, true)] m g h 1 17 6 n sz = oD [(decide (0 ≤ m.r3) && decide (m.r3 < 65536), true), (Nat.blt (adr m.r3) 65536, true)] 46 (hQ { m with ip := ipN m sz } g (stB h m.r3 (hi8 m.r1))) := by kernel_rfl
theorem mv17_7 : eD [(53, true), (0, true)] m g h 1 17 7 n sz = oD [(decide (0 ≤ m.r3) && decide (m.r3 < 65536), true), (Nat.blt (adr m.r3) 65536, true)] 46 (hQ { m with ip := ipN m sz } g (stB h m.r3 (hi8 m.r2))) := by kernel_rfl
theorem mv17_8 : eD [(53, true), (0, true)] m g h 1 17 8 n sz = oD [(decide (0 ≤ m.r3) && decide (m.r3 < 65536), true), (Nat.blt (adr m.r3) 65536, true)] 46 (hQ { m with ip := ipN m sz } g (stB h m.r3 (hi8 m.r3))) := by kernel_rfl
theorem mv18_1 : eD [(54, true), (0, true)] m g h 1 18 1 n sz = oD [(decide (0 ≤ m.r6) && decide (m.r6 < 65536), true), (Nat.blt (adr m.r6) 65536, true)] 46 (hQ { m with ip := ipN m sz } g (stB h m.r6 (lo8 m.r0))) := by kernel_rfl
theorem mv19_1 : eD [(53, true), (0, true)] m g h 1 19 1 n sz = oD [(decide (0 ≤ n) && decide (n < 65536), true), (Nat.blt (adr n) 65536, true)] 46 (hQ { m with ip := ipN m sz } g (stB h n (lo8 m.r0))) := by kernel_rfl
theorem mv17_20 : eD [(45, true), (0, true)] m g h 1 17 20 n sz = oD [(decide (0 ≤ m.r3) && decide (m.r3 < 65536), true), (Nat.blt (adr m.r3) 65536, true)] 46 (hQ { m with ip := ipN m sz } g (stB h m.r3 n)) := by kernel_rfl
theorem mv19_10 : eD [(45, true), (0, true), (2, true), (0, true)] m g h 1 19 10 n sz = oD [(decide (0 ≤ n) && decide (n < 65536), true), (Nat.blt (adr n) 65536, true), (decide (0 ≤ (nadr n)) && decide ((nadr n) < 65536), true), (Nat.blt (adr (nadr n)) 65536, true)] 46 (hQ { m with ip := ipN m sz } g (stW h n m.r1)) := by kernel_rfl
theorem mv19_11 : eD [(45, true), (0, true), (2, true), (0, true)] m g h 1 19 11 n sz = oD [(decide (0 ≤ n) && decide (n < 65536), true), (Nat.blt (adr n) 65536, true), (decide (0 ≤ (nadr n)) && decide ((nadr n) < 65536), true), (Nat.blt (adr (nadr n)) 65536, true)] 46 (hQ { m with ip := ipN m sz } g (stW h n m.r2)) := by kernel_rfl
theorem mv19_12 : eD [(45, true), (0, true), (2, true), (0, true)] m g h 1 19 12 n sz = oD [(decide (0 ≤ n) && decide (n < 65536), true), (Nat.blt (adr n) 65536, true), (decide (0 ≤ (nadr n)) && decide ((nadr n) < 65536), true), (Nat.blt (adr (nadr n)) 65536, true)] 46 (hQ { m with ip := ipN m sz } g (stW h n m.r3)) := by kernel_rfl
theorem mv19_13 : eD [(45, true), (0, true), (2, true), (0, true)] m g h 1 19 13 n sz = oD [(decide (0 ≤ n) && decide (n < 65536), true), (Nat.blt (adr n) 65536, true), (decide (0 ≤ (nadr n)) && decide ((nadr n) < 65536), true), (Nat.blt (adr (nadr n)) 65536, true)] 46 (hQ { m with ip := ipN m sz } g (stW h n m.r4)) := by kernel_rfl
theorem mv19_14 : eD [(45, true), (0, true), (2, true), (0, true)] m g h 1 19 14 n sz = oD [(decide (0 ≤ n) && decide (n < 65536), true), (Nat.blt (adr n) 65536, true), (decide (0 ≤ (nadr n)) && decide ((nadr n) < 65536), true), (Nat.blt (adr (nadr n)) 65536, true)] 46 (hQ { m with ip := ipN m sz } g (stW h n m.r5)) := by kernel_rfl
theorem mv19_15 : eD [(45, true), (0, true), (2, true), (0, true)] m g h 1 19 15 n sz = oD [(decide (0 ≤ n) && decide (n < 65536), true), (Nat.blt (adr n) 65536, true), (decide (0 ≤ (nadr n)) && decide ((nadr n) < 65536), true), (Nat.blt (adr (nadr n)) 65536, true)] 46 (hQ { m with ip := ipN m sz } g (stW h n m.r6)) := by kernel_rfl
theorem mv19_16 : eD [(45, true), (0, true), (2, true), (0, true)] m g h 1 19 16 n sz = oD [(decide (0 ≤ n) && decide (n < 65536), true), (Nat.blt (adr n) 65536, true), (decide (0 ≤ (nadr n)) && decide ((nadr n) < 65536), true), (Nat.blt (adr (nadr n)) 65536, true)] 46 (hQ { m with ip := ipN m sz } g (stW h n m.r7)) := by kernel_rfl
end Go.Proofs.Ytnknopebjdgdjaa
namespace Go.Proofs.Ytnknopebjdgdjaa
open Go Go.Ly Go.RowKit
section
variable {m : Mc} {g h : Nat → Int} {op n sz : Int}
variable (hr : Rw16 m) (hn : B16 n)
include hr hn
set_option linter.unusedSectionVars false
theorem dmv1_1 : DoF m g h 1 1 1 n sz := .reg (mv1_1 m g h 0 n sz) trivial (by omega) (hb_slo _ hr.1) rfl rfl
theorem dmv1_2 : DoF m g h 1 1 2 n sz := .reg (mv1_2 m g h 0 n sz) trivial (by omega) (hb_slo _ hr.1) rfl rfl
theorem dmv1_3 : DoF m g h 1 1 3 n sz := .reg (mv1_3 m g h 0 n sz) trivial (by omega) (hb_slo _ hr.1) rfl rfl
theorem dmv1_4 : DoF m g h 1 1 4 n sz := .reg (mv1_4 m g h 0 n sz) trivial (by omega) (hb_slo _ hr.1) rfl rfl
theorem dmv1_6 : DoF m g h 1 1 6 n sz := .reg (mv1_6 m g h 0 n sz) trivial (by omega) (hb_slo _ hr.1) rfl rfl
theorem dmv1_7 : DoF m g h 1 1 7 n sz := .reg (mv1_7 m g h 0 n sz) trivial (by omega) (hb_slo _ hr.1) rfl rfl
theorem dmv1_8 : DoF m g h 1 1 8 n sz := .reg (mv1_8 m g h 0 n sz) trivial (by omega) (hb_slo _ hr.1) rfl rfl
theorem dmv1_20 : DoF m g h 1 1 20 n sz := .reg (mv1_20 m g h 0 n sz) trivial (by omega) (hb_slo _ hr.1) rfl rfl
theorem dmv1_17 : DoF m g h 1 1 17 n sz := .reg (mv1_17 m g h 0 n sz) (by simp only [trusted, (rg_ok hr.2.1).1, (rg_ok hr.2.1).2, and_self]) (by omega) (hb_slo _ hr.1) rfl rfl
theorem dmv17_1 : DoF m g h 1 17 1 n sz := .memB (mv17_1 m g h 0 n sz) (by simp only [trusted, (rg_ok hr.2.1).1, (rg_ok hr.2.1).2, and_self]) (by omega) ⟨rfl, hr.1⟩ rfl rfl
theorem dmv2_1 : DoF m g h 1 2 1 n sz := .reg (mv2_1 m g h 0 n sz) trivial (by omega) ⟨rfl, hr.1⟩ rfl rfl
theorem dmv2_2 : DoF m g h 1 2 2 n sz := .reg (mv2_2 m g h 0 n sz) trivial (by omega) ⟨rfl, hr.1⟩ rfl rfl
theorem dmv2_3 : DoF m g h 1 2 3 n sz := .reg (mv2_3 m g h 0 n sz) trivial (by omega) ⟨rfl, hr.1⟩ rfl rfl
theorem dmv2_4 : DoF m g h 1 2 4 n sz := .reg (mv2_4 m g h 0 n sz) trivial (by omega) ⟨rfl, hr.1⟩ rfl rfl
theorem dmv2_6 : DoF m g h 1 2 6 n sz := .reg (mv2_6 m g h 0 n sz) trivial (by omega) ⟨rfl, hr.1⟩ rfl rfl
theorem dmv2_7 : DoF m g h 1 2 7 n sz := .reg (mv2_7 m g h 0 n sz) trivial (by omega) ⟨rfl, hr.1⟩ rfl rfl
theorem dmv2_8 : DoF m g h 1 2 8 n sz := .reg (mv2_8 m g h 0 n sz) trivial (by omega) ⟨rfl, hr.1⟩ rfl rfl
theorem dmv2_20 : DoF m g h 1 2 20 n sz := .reg (mv2_20 m g h 0 n sz) trivial (by omega) ⟨rfl, hr.1⟩ rfl rfl
theorem dmv2_17 : DoF m g h 1 2 17 n sz := .reg (mv2_17 m g h 0 n sz) (by simp only [trusted, (rg_ok hr.2.1).1, (rg_ok hr.2.1).2, and_self]) (by omega) ⟨rfl, hr.1⟩ rfl rfl
theorem dmv17_2 : DoF m g h 1 17 2 n sz := .memB (mv17_2 m g h 0 n sz) (by simp only [trusted, (rg_ok hr.2.1).1, (rg_ok hr.2.1).2, and_self]) (by omega) ⟨rfl, hr.1⟩ rfl rfl
theorem dmv3_1 : DoF m g h 1 3 1 n sz := .reg (mv3_1 m g h 0 n sz) trivial (by omega) ⟨rfl, hr.1⟩ rfl rfl
theorem dmv3_2 : DoF m g h 1 3 2 n sz := .reg (mv3_2 m g h 0 n sz) trivial (by omega) ⟨rfl, hr.1⟩ rfl rfl
theorem dmv3_3 : DoF m g h 1 3 3 n sz := .reg (mv3_3 m g h 0 n sz) trivial (by omega) ⟨rfl, hr.1⟩ rfl rfl
theorem dmv3_4 : DoF m g h 1 3 4 n sz := .reg (mv3_4 m g h 0 n sz) trivial (by omega) ⟨rfl, hr.1⟩ rfl rfl
theorem dmv3_6 : DoF m g h 1 3 6 n sz := .reg (mv3_6 m g h 0 n sz) trivial (by omega) ⟨rfl, hr.1⟩ rfl rfl
theorem dmv3_7 : DoF m g h 1 3 7 n sz := .reg (mv3_7 m g h 0 n sz) trivial (by omega) ⟨rfl, hr.1⟩ rfl rfl
theorem dmv3_8 : DoF m g h 1 3 8 n sz := .reg (mv3_8 m g h 0 n sz) trivial (by omega) ⟨rfl, hr.1⟩ rfl rfl
theorem dmv3_20 : DoF m g h 1 3 20 n sz := .reg (mv3_20 m g h 0 n sz) trivial (by omega) ⟨rfl, hr.1⟩ rfl rfl
theorem dmv3_17 : DoF m g h 1 3 17 n sz := .reg (mv3_17 m g h 0 n sz) (by simp only [trusted, (rg_ok hr.2.1).1, (rg_ok hr.2.1).2, and_self]) (by omega) ⟨rfl, hr.1⟩ rfl rfl
theorem dmv17_3 : DoF m g h 1 17 3 n sz := .memB (mv17_3 m g h 0 n sz) (by simp only [trusted, (rg_ok hr.2.1).1, (rg_ok hr.2.1).2, and_self]) (by omega) ⟨rfl, hr.1⟩ rfl rfl
theorem dmv4_1 : DoF m g h 1 4 1 n sz := .reg (mv4_1 m g h 0 n sz) trivial (by omega) ⟨rfl, hr.1⟩ rfl rfl
theorem dmv4_2 : DoF m g h 1 4 2 n sz := .reg (mv4_2 m g h 0 n sz) trivial (by omega) ⟨rfl, hr.1⟩ rfl rfl
theorem dmv4_3 : DoF m g h 1 4 3 n sz := .reg (mv4_3 m g h 0 n sz) trivial (by omega) ⟨rfl, hr.1⟩ rfl rfl
theorem dmv4_4 : DoF m g h 1 4 4 n sz := .reg (mv4_4 m g h 0 n sz) trivial (by omega) ⟨rfl, hr.1⟩ rfl rfl
theorem dmv4_6 : DoF m g h 1 4 6 n sz := .reg (mv4_6 m g h 0 n sz) trivial (by omega) ⟨rfl, hr.1⟩ rfl rfl
theorem dmv4_7 : DoF m g h 1 4 7 n sz := .reg (mv4_7 m g h 0 n sz) trivial (by omega) ⟨rfl, hr.1⟩ rfl rfl
theorem dmv4_8 : DoF m g h 1 4 8 n sz := .reg (mv4_8 m g h 0 n sz) trivial (by omega) ⟨rfl, hr.1⟩ rfl rfl
theorem dmv4_20 : DoF m g h 1 4 20 n sz := .reg (mv4_20 m g h 0 n sz) trivial (by omega) ⟨rfl, hr.1⟩ rfl rfl
theorem dmv4_17 : DoF m g h 1 4 17 n sz := .reg (mv4_17 m g h 0 n sz) (by simp only [trusted, (rg_ok hr.2.1).1, (rg_ok hr.2.1).2, and_self]) (by omega) ⟨rfl, hr.1⟩ rfl rfl
theorem dmv17_4 : DoF m g h 1 17 4 n sz := .memB (mv17_4 m g h 0 n sz) (by simp only [trusted, (rg_ok hr.2.1).1, (rg_ok hr.2.1).2, and_self]) (by omega) ⟨rfl, hr.1⟩ rfl rfl
theorem dmv6_1 : DoF m g h 1 6 1 n sz := .reg (mv6_1 m g h 0 n sz) trivial (by omega) ⟨rfl, hr.1⟩ rfl rfl
theorem dmv6_2 : DoF m g h 1 6 2 n sz := .reg (mv6_2 m g h 0 n sz) trivial (by omega) ⟨rfl, hr.1⟩ rfl rfl
theorem dmv6_3 : DoF m g h 1 6 3 n sz := .reg (mv6_3 m g h 0 n sz) trivial (by omega) ⟨rfl, hr.1⟩ rfl rfl
theorem dmv6_4 : DoF m g h 1 6 4 n sz := .reg (mv6_4 m g h 0 n sz) trivial (by omega) ⟨rfl, hr.1⟩ rfl rfl
theorem dmv6_6 : DoF m g h 1 6 6 n sz := .reg (mv6_6 m g h 0 n sz) trivial (by omega) ⟨rfl, hr.1⟩ rfl rfl
theorem dmv6_7 : DoF m g h 1 6 7 n sz := .reg (mv6_7 m g h 0 n sz) trivial (by omega) ⟨rfl, hr.1⟩ rfl rfl
theorem dmv6_8 : DoF m g h 1 6 8 n sz := .reg (mv6_8 m g h 0 n sz) trivial (by omega) ⟨rfl, hr.1⟩ rfl rfl
theorem dmv6_20 : DoF m g h 1 6 20 n sz := .reg (mv6_20 m g h 0 n sz) trivial (by omega) ⟨rfl, hr.1⟩ rfl rfl
theorem dmv6_17 : DoF m g h 1 6 17 n sz := .reg (mv6_17 m g h 0 n sz) (by simp only [trusted, (rg_ok hr.2.1).1, (rg_ok hr.2.1).2, and_self]) (by omega) ⟨rfl, hr.1⟩ rfl rfl
theorem dmv17_6 : DoF m g h 1 17 6 n sz := .memB (mv17_6 m g h 0 n sz) (by simp only [trusted, (rg_ok hr.2.1).1, (rg_ok hr.2.1).2, and_self]) (by omega) ⟨rfl, hr.1⟩ rfl rfl
theorem dmv7_1 : DoF m g h 1 7 1 n sz := .reg (mv7_1 m g h 0 n sz) trivial (by omega) ⟨rfl, hr.1⟩ rfl rfl
theorem dmv7_2 : DoF m g h 1 7 2 n sz := .reg (mv7_2 m g h 0 n sz) trivial (by omega) ⟨rfl, hr.1⟩ rfl rfl
theorem dmv7_3 : DoF m g h 1 7 3 n sz := .reg (mv7_3 m g h 0 n sz) trivial (by omega) ⟨rfl, hr.1⟩ rfl rfl
theorem dmv7_4 : DoF m g h 1 7 4 n sz := .reg (mv7_4 m g h 0 n sz) trivial (by omega) ⟨rfl, hr.1⟩ rfl rfl
theorem dmv7_6 : DoF m g h 1 7 6 n sz := .reg (mv7_6 m g h 0 n sz) trivial (by omega) ⟨rfl, hr.1⟩ rfl rfl
theorem dmv7_7 : DoF m g h 1 7 7 n sz := .reg (mv7_7 m g h 0 n sz) trivial (by omega) ⟨rfl, hr.1⟩ rfl rfl
theorem dmv7_8 : DoF m g h 1 7 8 n sz := .reg (mv7_8 m g h 0 n sz) trivial (by omega) ⟨rfl, hr.1⟩ rfl rfl
theorem dmv7_20 : DoF m g h 1 7 20 n sz := .reg (mv7_20 m g h 0 n sz) trivial (by omega) ⟨rfl, hr.1⟩ rfl rfl
theorem dmv7_17 : DoF m g h 1 7 17 n sz := .reg (mv7_17 m g h 0 n sz) (by simp only [trusted, (rg_ok hr.2.1).1, (rg_ok hr.2.1).2, and_self]) (by omega) ⟨rfl, hr.1⟩ rfl rfl
theorem dmv17_7 : DoF m g h 1 17 7 n sz := .memB (mv17_7 m g h 0 n sz) (by simp only [trusted, (rg_ok hr.2.1).1, (rg_ok hr.2.1).2, and_self]) (by omega) ⟨rfl, hr.1⟩ rfl rfl
theorem dmv8_1 : DoF m g h 1 8 1 n sz := .reg (mv8_1 m g h 0 n sz) trivial (by omega) ⟨rfl, hr.1⟩ rfl rfl
theorem dmv8_2 : DoF m g h 1 8 2 n sz := .reg (mv8_2 m g h 0 n sz) trivial (by omega) ⟨rfl, hr.1⟩ rfl rfl
theorem dmv8_3 : DoF m g h 1 8 3 n sz := .reg (mv8_3 m g h 0 n sz) trivial (by omega) ⟨rfl, hr.1⟩ rfl rfl
theorem dmv8_4 : DoF m g h 1 8 4 n sz := .reg (mv8_4 m g h 0 n sz) trivial (by omega) ⟨rfl, hr.1⟩ rfl rfl
theorem dmv8_6 : DoF m g h 1 8 6 n sz := .reg (mv8_6 m g h 0 n sz) trivial (by omega) ⟨rfl, hr.1⟩ rfl rfl
theorem dmv8_7 : DoF m g h 1 8 7 n sz := .reg (mv8_7 m g h 0 n sz) trivial (by omega) ⟨rfl, hr.1⟩ rfl rfl
theorem dmv8_8 : DoF m g h 1 8 8 n sz := .reg (mv8_8 m g h 0 n sz) trivial (by omega) ⟨rfl, hr.1⟩ rfl rfl
theorem dmv8_20 : DoF m g h 1 8 20 n sz := .reg (mv8_20 m g h 0 n sz) trivial (by omega) ⟨rfl, hr.1⟩ rfl rfl
theorem dmv8_17 : DoF m g h 1 8 17 n sz := .reg (mv8_17 m g h 0 n sz) (by simp only [trusted, (rg_ok hr.2.1).1, (rg_ok hr.2.1).2, and_self]) (by omega) ⟨rfl, hr.1⟩ rfl rfl
theorem dmv17_8 : DoF m g h 1 17 8 n sz := .memB (mv17_8 m g h 0 n sz) (by simp only [trusted, (rg_ok hr.2.1).1, (rg_ok hr.2.1).2, and_self]) (by omega) ⟨rfl, hr.1⟩ rfl rfl
theorem dmv1_18 : DoF m g h 1 1 18 n sz := .reg (mv1_18 m g h 0 n sz) (by simp only [trusted, (rg_ok hr.2.2).1, (rg_ok hr.2.2).2, and_self]) (by omega) (hb_slo _ hr.1) rfl rfl
theorem dmv1_19 : DoF m g h 1 1 19 n sz := .reg (mv1_19 m g h 0 n sz) (by simp only [trusted, (rg_ok hn).1, (rg_ok hn).2, and_self]) (by omega) (hb_slo _ hr.1) rfl rfl
theorem dmv18_1 : DoF m g h 1 18 1 n sz := .memB (mv18_1 m g h 0 n sz) (by simp only [trusted, (rg_ok hr.2.2).1, (rg_ok hr.2.2).2, and_self]) (by omega) ⟨rfl, hr.1⟩ rfl rfl
theorem dmv19_1 : DoF m g h 1 19 1 n sz := .memB (mv19_1 m g h 0 n sz) (by simp only [trusted, (rg_ok hn).1, (rg_ok hn).2, and_self]) (by omega) ⟨rfl, hr.1⟩ rfl rfl
theorem dmv17_20 : DoF m g h 1 17 20 n sz := .memB (mv17_20 m g h 0 n sz) (by simp only [trusted, (rg_ok hr.2.1).1, (rg_ok hr.2.1).2, and_self]) (by omega) ⟨rfl, hr.1⟩ rfl rfl
theorem dmv10_10 : DoF m g h 1 10 10 n sz := .reg (mv10_10 m g h 0 n sz) trivial (by omega) ⟨rfl, hr.1⟩ rfl rfl
theorem dmv10_11 : DoF m g h 1 10 11 n sz := .reg (mv10_11 m g h 0 n sz) trivial (by omega) ⟨rfl, hr.1⟩ rfl rfl
theorem dmv10_12 : DoF m g h 1 10 12 n sz := .reg (mv10_12 m g h 0 n sz) trivial (by omega) ⟨rfl, hr.1⟩ rfl rfl
theorem dmv10_13 : DoF m g h 1 10 13 n sz := .reg (mv10_13 m g h 0 n sz) trivial (by omega) ⟨rfl, hr.1⟩ rfl rfl
theorem dmv10_14 : DoF m g h 1 10 14 n sz := .reg (mv10_14 m g h 0 n sz) trivial (by omega) ⟨rfl, hr.1⟩ rfl rfl
theorem dmv10_15 : DoF m g h 1 10 15 n sz := .reg (mv10_15 m g h 0 n sz) trivial (by omega) ⟨rfl, hr.1⟩ rfl rfl
theorem dmv10_16 : DoF m g h 1 10 16 n sz := .reg (mv10_16 m g h 0 n sz) trivial (by omega) ⟨rfl, hr.1⟩ rfl rfl
theorem dmv10_20 : DoF m g h 1 10 20 n sz := .reg (mv10_20 m g h 0 n sz) trivial (by omega) ⟨rfl, hr.1⟩ rfl rfl
theorem dmv10_19 : DoF m g h 1 10 19 n sz := .reg (mv10_19 m g h 0 n sz) (by simp only [trusted, (rg_ok hn).1, (rg_ok hn).2, (rg_ok (nadr_16 n)).1, (rg_ok (nadr_16 n)).2, and_self]) (by omega) ⟨rfl, hr.1⟩ rfl rfl
theorem dmv19_10 : DoF m g h 1 19 10 n sz := .memW (mv19_10 m g h 0 n sz) (by simp only [trusted, (rg_ok hn).1, (rg_ok hn).2, (rg_ok (nadr_16 n)).1, (rg_ok (nadr_16 n)).2, and_self]) (by omega) ⟨rfl, hr.1⟩ rfl rfl
theorem dmv11_10 : DoF m g h 1 11 10 n sz := .reg (mv11_10 m g h 0 n sz) trivial (by omega) ⟨rfl, hr.1⟩ rfl rfl
theorem dmv11_11 : DoF m g h 1 11 11 n sz := .reg (mv11_11 m g h 0 n sz) trivial (by omega) ⟨rfl, hr.1⟩ rfl rfl
theorem dmv11_12 : DoF m g h 1 11 12 n sz := .reg (mv11_12 m g h 0 n sz) trivial (by omega) ⟨rfl, hr.1⟩ rfl rfl
theorem dmv11_13 : DoF m g h 1 11 13 n sz := .reg (mv11_13 m g h 0 n sz) trivial (by omega) ⟨rfl, hr.1⟩ rfl rfl
theorem dmv11_14 : DoF m g h 1 11 14 n sz := .reg (mv11_14 m g h 0 n sz) trivial (by omega) ⟨rfl, hr.1⟩ rfl rfl
theorem dmv11_15 : DoF m g h 1 11 15 n sz := .reg (mv11_15 m g h 0 n sz) trivial (by omega) ⟨rfl, hr.1⟩ rfl rfl
theorem dmv11_16 : DoF m g h 1 11 16 n sz := .reg (mv11_16 m g h 0 n sz) trivial (by omega) ⟨rfl, hr.1⟩ rfl rfl
theorem dmv11_20 : DoF m g h 1 11 20 n sz := .reg (mv11_20 m g h 0 n sz) trivial (by omega) ⟨rfl, hr.1⟩ rfl rfl
theorem dmv11_19 : DoF m g h 1 11 19 n sz := .reg (mv11_19 m g h 0 n sz) (by simp only [trusted, (rg_ok hn).1, (rg_ok hn).2, (rg_ok (nadr_16 n)).1, (rg_ok (nadr_16 n)).2, and_self]) (by omega) ⟨rfl, hr.1⟩ rfl rfl
theorem dmv19_11 : DoF m g h 1 19 11 n sz := .memW (mv19_11 m g h 0 n sz) (by simp only [trusted, (rg_ok hn).1, (rg_ok hn).2, (rg_ok (nadr_16 n)).1, (rg_ok (nadr_16 n)).2, and_self]) (by omega) ⟨rfl, hr.1⟩ rfl rfl
theorem dmv12_10 : DoF m g h 1 12 10 n sz := .reg (mv12_10 m g h 0 n sz) trivial (by omega) ⟨rfl, hr.1⟩ rfl rfl
theorem dmv12_11 : DoF m g h 1 12 11 n sz := .reg (mv12_11 m g h 0 n sz) trivial (by omega) ⟨rfl, hr.1⟩ rfl rfl
theorem dmv12_12 : DoF m g h 1 12 12 n sz := .reg (mv12_12 m g h 0 n sz) trivial (by omega) ⟨rfl, hr.1⟩ rfl rfl
theorem dmv12_13 : DoF m g h 1 12 13 n sz := .reg (mv12_13 m g h 0 n sz) trivial (by omega) ⟨rfl, hr.1⟩ rfl rfl
theorem dmv12_14 : DoF m g h 1 12 14 n sz := .reg (mv12_14 m g h 0 n sz) trivial (by omega) ⟨rfl, hr.1⟩ rfl rfl
theorem dmv12_15 : DoF m g h 1 12 15 n sz := .reg (mv12_15 m g h 0 n sz) trivial (by omega) ⟨rfl, hr.1⟩ rfl rfl
theorem dmv12_16 : DoF m g h 1 12 16 n sz := .reg (mv12_16 m g h 0 n sz) trivial (by omega) ⟨rfl, hr.1⟩ rfl rfl
theorem dmv12_20 : DoF m g h 1 12 20 n sz := .reg (mv12_20 m g h 0 n sz) trivial (by omega) ⟨rfl, hr.1⟩ rfl rfl
theorem dmv12_19 : DoF m g h 1 12 19 n sz := .reg (mv12_19 m g h 0 n sz) (by simp only [trusted, (rg_ok hn).1, (rg_ok hn).2, (rg_ok (nadr_16 n)).1, (rg_ok (nadr_16 n)).2, and_self]) (by omega) ⟨rfl, hr.1⟩ rfl rfl
theorem dmv19_12 : DoF m g h 1 19 12 n sz := .memW (mv19_12 m g h 0 n sz) (by simp only [trusted, (rg_ok hn).1, (rg_ok hn).2, (rg_ok (nadr_16 n)).1, (rg_ok (nadr_16 n)).2, and_self]) (by omega) ⟨rfl, hr.1⟩ rfl rfl
theorem dmv13_10 : DoF m g h 1 13 10 n sz := .reg (mv13_10 m g h 0 n sz) trivial (by omega) ⟨rfl, hr.1⟩ rfl rfl
theorem dmv13_11 : DoF m g h 1 13 11 n sz := .reg (mv13_11 m g h 0 n sz) trivial (by omega) ⟨rfl, hr.1⟩ rfl rfl
theorem dmv13_12 : DoF m g h 1 13 12 n sz := .reg (mv13_12 m g h 0 n sz) trivial (by omega) ⟨rfl, hr.1⟩ rfl rfl
theorem dmv13_13 : DoF m g h 1 13 13 n sz := .reg (mv13_13 m g h 0 n sz) trivial (by omega) ⟨rfl, hr.1⟩ rfl rfl
theorem dmv13_14 : DoF m g h 1 13 14 n sz := .reg (mv13_14 m g h 0 n sz) trivial (by omega) ⟨rfl, hr.1⟩ rfl rfl
theorem dmv13_15 : DoF m g h 1 13 15 n sz := .reg (mv13_15 m g h 0 n sz) trivial (by omega) ⟨rfl, hr.1⟩ rfl rfl
theorem dmv13_16 : DoF m g h 1 13 16 n sz := .reg (mv13_16 m g h 0 n sz) trivial (by omega) ⟨rfl, hr.1⟩ rfl rfl
theorem dmv13_20 : DoF m g h 1 13 20 n sz := .reg (mv13_20 m g h 0 n sz) trivial (by omega) ⟨rfl, hr.1⟩ rfl rfl
theorem dmv13_19 : DoF m g h 1 13 19 n sz := .reg (mv13_19 m g h 0 n sz) (by simp only [trusted, (rg_ok hn).1, (rg_ok hn).2, (rg_ok (nadr_16 n)).1, (rg_ok (nadr_16 n)).2, and_self]) (by omega) ⟨rfl, hr.1⟩ rfl rfl
theorem dmv19_13 : DoF m g h 1 19 13 n sz := .memW (mv19_13 m g h 0 n sz) (by simp only [trusted, (rg_ok hn).1, (rg_ok hn).2, (rg_ok (nadr_16 n)).1, (rg_ok (nadr_16 n)).2, and_self]) (by omega) ⟨rfl, hr.1⟩ rfl rfl
theorem dmv14_10 : DoF m g h 1 14 10 n sz := .reg (mv14_10 m g h 0 n sz) trivial (by omega) ⟨rfl, hr.1⟩ rfl rfl
theorem dmv14_11 : DoF m g h 1 14 11 n sz := .reg (mv14_11 m g h 0 n sz) trivial (by omega) ⟨rfl, hr.1⟩ rfl rfl
theorem dmv14_12 : DoF m g h 1 14 12 n sz := .reg (mv14_12 m g h 0 n sz) trivial (by omega) ⟨rfl, hr.1⟩ rfl rfl
theorem dmv14_13 : DoF m g h 1 14 13 n sz := .reg (mv14_13 m g h 0 n sz) trivial (by omega) ⟨rfl, hr.1⟩ rfl rfl
theorem dmv14_14 : DoF m g h 1 14 14 n sz := .reg (mv14_14 m g h 0 n sz) trivial (by omega) ⟨rfl, hr.1⟩ rfl rfl
theorem dmv14_15 : DoF m g h 1 14 15 n sz := .reg (mv14_15 m g h 0 n sz) trivial (by omega) ⟨rfl, hr.1⟩ rfl rfl
theorem dmv14_16 : DoF m g h 1 14 16 n sz := .reg (mv14_16 m g h 0 n sz) trivial (by omega) ⟨rfl, hr.1⟩ rfl rfl
theorem dmv14_20 : DoF m g h 1 14 20 n sz := .reg (mv14_20 m g h 0 n sz) trivial (by omega) ⟨rfl, hr.1⟩ rfl rfl
theorem dmv14_19 : DoF m g h 1 14 19 n sz := .reg (mv14_19 m g h 0 n sz) (by simp only [trusted, (rg_ok hn).1, (rg_ok hn).2, (rg_ok (nadr_16 n)).1, (rg_ok (nadr_16 n)).2, and_self]) (by omega) ⟨rfl, hr.1⟩ rfl rfl
theorem dmv19_14 : DoF m g h 1 19 14 n sz := .memW (mv19_14 m g h 0 n sz) (by simp only [trusted, (rg_ok hn).1, (rg_ok hn).2, (rg_ok (nadr_16 n)).1, (rg_ok (nadr_16 n)).2, and_self]) (by omega) ⟨rfl, hr.1⟩ rfl rfl
theorem dmv15_10 : DoF m g h 1 15 10 n sz := .reg (mv15_10 m g h 0 n sz) trivial (by omega) ⟨rfl, hr.1⟩ rfl rfl
theorem dmv15_11 : DoF m g h 1 15 11 n sz := .reg (mv15_11 m g h 0 n sz) trivial (by omega) ⟨rfl, hr.1⟩ rfl rfl
theorem dmv15_12 : DoF m g h 1 15 12 n sz := .reg (mv15_12 m g h 0 n sz) trivial (by omega) ⟨rfl, hr.1⟩ rfl rfl
theorem dmv15_13 : DoF m g h 1 15 13 n sz := .reg (mv15_13 m g h 0 n sz) trivial (by omega) ⟨rfl, hr.1⟩ rfl rfl
theorem dmv15_14 : DoF m g h 1 15 14 n sz := .reg (mv15_14 m g h 0 n sz) trivial (by omega) ⟨rfl, hr.1⟩ rfl rfl
theorem dmv15_15 : DoF m g h 1 15 15 n sz := .reg (mv15_15 m g h 0 n sz) trivial (by omega) ⟨rfl, hr.1⟩ rfl rfl
theorem dmv15_16 : DoF m g h 1 15 16 n sz := .reg (mv15_16 m g h 0 n sz) trivial (by omega) ⟨rfl, hr.1⟩ rfl rfl
theorem dmv15_20 : DoF m g h 1 15 20 n sz := .reg (mv15_20 m g h 0 n sz) trivial (by omega) ⟨rfl, hr.1⟩ rfl rfl
theorem dmv15_19 : DoF m g h 1 15 19 n sz := .reg (mv15_19 m g h 0 n sz) (by simp only [trusted, (rg_ok hn).1, (rg_ok hn).2, (rg_ok (nadr_16 n)).1, (rg_ok (nadr_16 n)).2, and_self]) (by omega) ⟨rfl, hr.1⟩ rfl rfl
theorem dmv19_15 : DoF m g h 1 19 15 n sz := .memW (mv19_15 m g h 0 n sz) (by simp only [trusted, (rg_ok hn).1, (rg_ok hn).2, (rg_ok (nadr_16 n)).1, (rg_ok (nadr_16 n)).2, and_self]) (by omega) ⟨rfl, hr.1⟩ rfl rfl
theorem dmv16_10 : DoF m g h 1 16 10 n sz := .reg (mv16_10 m g h 0 n sz) trivial (by omega) ⟨rfl, hr.1⟩ rfl rfl
theorem dmv16_11 : DoF m g h 1 16 11 n sz := .reg (mv16_11 m g h 0 n sz) trivial (by omega) ⟨rfl, hr.1⟩ rfl rfl
theorem dmv16_12 : DoF m g h 1 16 12 n sz := .reg (mv16_12 m g h 0 n sz) trivial (by omega) ⟨rfl, hr.1⟩ rfl rfl
theorem dmv16_13 : DoF m g h 1 16 13 n sz := .reg (mv16_13 m g h 0 n sz) trivial (by omega) ⟨rfl, hr.1⟩ rfl rfl
theorem dmv16_14 : DoF m g h 1 16 14 n sz := .reg (mv16_14 m g h 0 n sz) trivial (by omega) ⟨rfl, hr.1⟩ rfl rfl
theorem dmv16_15 : DoF m g h 1 16 15 n sz := .reg (mv16_15 m g h 0 n sz) trivial (by omega) ⟨rfl, hr.1⟩ rfl rfl
theorem dmv16_16 : DoF m g h 1 16 16 n sz := .reg (mv16_16 m g h 0 n sz) trivial (by omega) ⟨rfl, hr.1⟩ rfl rfl
theorem dmv16_20 : DoF m g h 1 16 20 n sz := .reg (mv16_20 m g h 0 n sz) trivial (by omega) ⟨rfl, hr.1⟩ rfl rfl
theorem dmv16_19 : DoF m g h 1 16 19 n sz := .reg (mv16_19 m g h 0 n sz) (by simp only [trusted, (rg_ok hn).1, (rg_ok hn).2, (rg_ok (nadr_16 n)).1, (rg_ok (nadr_16 n)).2, and_self]) (by omega) ⟨rfl, hr.1⟩ rfl rfl
theorem dmv19_16 : DoF m g h 1 19 16 n sz := .memW (mv19_16 m g h 0 n sz) (by simp only [trusted, (rg_ok hn).1, (rg_ok hn).2, (rg_ok (nadr_16 n)).1, (rg_ok (nadr_16 n)).2, and_self]) (by omega) ⟨rfl, hr.1⟩ rfl rfl
end
end Go.Proofs.Ytnknopebjdgdjaa
namespace Go.Proofs.Ytnknopebjdgdjaa
open Go Go.Ly Go.RowKit
variable (m : Mc) (g h : Nat → Int) (op n sz : Int)
include m g h op n sz
set_option linter.unusedSectionVars false
theorem in1 : eD (pJ1 14 [(12, true)]) m g h op 1 0 n sz = oD (tJ1 op [(incG op, true)]) 46 (hP { in8M m sz op (lo8 m.r0) with r0 := slo m.r0 (f8v (nInc m op (lo8 m.r0))) } g h) := by kernel_rfl
theorem in2 : eD (pJ1 14 [(12, true)]) m g h op 2 0 n sz = oD (tJ1 op [(incG op, true)]) 46 (hP { in8M m sz op (lo8 m.r1) with r1 := slo m.r1 (f8v (nInc m op (lo8 m.r1))) } g h) := by kernel_rfl
theorem in3 : eD (pJ1 14 [(12, true)]) m g h op 3 0 n sz = oD (tJ1 op [(incG op, true)]) 46 (hP { in8M m sz op (lo8 m.r2) with r2 := slo m.r2 (f8v (nInc m op (lo8 m.r2))) } g h) := by kernel_rfl
theorem in4 : eD (pJ1 14 [(12, true)]) m g h op 4 0 n sz = oD (tJ1 op [(incG op, true)]) 46 (hP { in8M m sz op (lo8 m.r3) with r3 := slo m.r3 (f8v (nInc m op (lo8 m.r3))) } g h) := by kernel_rfl
theorem in6 : eD (pJ1 14 [(12, true)]) m g h op 6 0 n sz = oD (tJ1 op [(incG op, true)]) 46 (hP { in8M m sz op (hi8 m.r1) with r1 := shi m.r1 (f8v (nInc m op (hi8 m.r1))) } g h) := by kernel_rfl
theorem in7 : eD (pJ1 14 [(12, true)]) m g h op 7 0 n sz = oD (tJ1 op [(incG op, true)]) 46 (hP { in8M m sz op (hi8 m.r2) with r2 := shi m.r2 (f8v (nInc m op (hi8 m.r2))) } g h) := by kernel_rfl
theorem in8 : eD (pJ1 14 [(12, true)]) m g h op 8 0 n sz = oD (tJ1 op [(incG op, true)]) 46 (hP { in8M m sz op (hi8 m.r3) with r3 := shi m.r3 (f8v (nInc m op (hi8 m.r3))) } g h) := by kernel_rfl
theorem in10 : eD (pJ1 7 [(4, true)]) m g h op 10 0 n sz = oD (tJ1 op [(incG op, true)]) 46 (hP { in16M m sz op m.r1 with r1 := (f16v (nInc m op m.r1)) } g h) := by kernel_rfl
theorem in11 : eD (pJ1 7 [(4, true)]) m g h op 11 0 n sz = oD (tJ1 op [(incG op, true)]) 46 (hP { in16M m sz op m.r2 with r2 := (f16v (nInc m op m.r2)) } g h) := by kernel_rfl
theorem in12 : eD (pJ1 7 [(4, true)]) m g h op 12 0 n sz = oD (tJ1 op [(incG op, true)]) 46 (hP { in16M m sz op m.r3 with r3 := (f16v (nInc m op m.r3)) } g h) := by kernel_rfl
theorem in13 : eD (pJ1 7 [(4, true)]) m g h op 13 0 n sz = oD (tJ1 op [(incG op, true)]) 46 (hP { in16M m sz op m.r4 with r4 := (f16v (nInc m op m.r4)) } g h) := by kernel_rfl
theorem in14 : eD (pJ1 7 [(4, true)]) m g h op 14 0 n sz = oD (tJ1 op [(incG op, true)]) 46 (hP { in16M m sz op m.r5 with r5 := (f16v (nInc m op m.r5)) } g h) := by kernel_rfl
theorem in15 : eD (pJ1 7 [(4, true)]) m g h op 15 0 n sz = oD (tJ1 op [(incG op, true)]) 46 (hP { in16M m sz op m.r6 with r6 := (f16v (nInc m op m.r6)) } g h) := by kernel_rfl
theorem in16 : eD (pJ1 7 [(4, true)]) m g h op 16 0 n sz = oD (tJ1 op [(incG op, true)]) 46 (hP { in16M m sz op m.r7 with r7 := (f16v (nInc m op m.r7)) } g h) := by kernel_rfl
theorem in17 : eD (pJ1 14 [(7, true), (0, true), (0, true), (7, true), (0, true)]) m g h op 17 0 n sz = oD (tJ1 op [(decide (0 ≤ m.r3) && decide (m.r3 < 65536), true), (Nat.blt (adr m.r3) 65536, true), (incG op, true), (decide (0 ≤ m.r3) && decide (m.r3 < 65536), true), (Nat.blt (adr m.r3) 65536, true)]) 47 (hQ (in8M m sz op (ldB h m.r3)) g (stB h m.r3 (f8v (nInc m op (ldB h m.r3))))) := by kernel_rfl
theorem nt1 : eD [] m g h 16 1 0 n sz = oD [] 45 (hP { m with r0 := slo m.r0 (bits .xor .u16 65535 (lo8 m.r0)), ip := ipN m sz } g h) := by kernel_rfl
theorem nt2 : eD [] m g h 16 2 0 n sz = oD [] 45 (hP { m with r1 := slo m.r1 (bits .xor .u16 65535 (lo8 m.r1)), ip := ipN m sz } g h) := by kernel_rfl
theorem nt3 : eD [] m g h 16 3 0 n sz = oD [] 45 (hP { m with r2 := slo m.r2 (bits .xor .u16 65535 (lo8 m.r2)), ip := ipN m sz } g h) := by kernel_rfl
theorem nt4 : eD [] m g h 16 4 0 n sz = oD [] 45 (hP { m with r3 := slo m.r3 (bits .xor .u16 65535 (lo8 m.r3)), ip := ipN m sz } g h) := by kernel_rfl
theorem nt6 : eD [] m g h 16 6 0 n sz = oD [] 45 (hP { m with r1 := shi m.r1 (bits .xor .u16 65535 (hi8 m.r1)), ip := ipN m sz } g h) := by kernel_rfl
theorem nt7 : eD [] m g h 16 7 0 n sz = oD [] 45 (hP { m with r2 := shi m.r2 (bits .xor .u16 65535 (hi8 m.r2)), ip := ipN m sz } g h) := by kernel_rfl
end Go.Proofs.Ytnknopebjdgdjaa
namespace Go.Proofs.Ytnknopebjdgdjaa
open Go Go.Ly Go.RowKit
variable (m : Mc) (g h : Nat → Int) (op n sz : Int)
include m g h op n sz
set_option linter.unusedSectionVars false
theorem nt8 : eD [] m g h 16 8 0 n sz = oD [] 45 (hP { m with r3 := shi m.r3 (bits .xor .u16 65535 (hi8 m.r3)), ip := ipN m sz } g h) := by kernel_rfl
end Go.Proofs.Ytnknopebjdgdjaa
namespace Go.Proofs.Ytnknopebjdgdjaa
open Go Go.Ly Go.RowKit
section
variable {m : Mc} {g h : Nat → Int} {op n sz : Int}
variable (hr : Rw16 m) (hn : B16 n)
include hr hn
set_option linter.unusedSectionVars false
theorem din1 (h2 : 10 ≤ op) (h9 : op ≤ 11) : DoF m g h op 1 0 n sz := .reg (in1 m g h op n sz) (tJ1_ok h2 h9 (by simp only [trusted, incG_ok h2 h9, and_self])) (by omega) (hb_slo _ hr.1) rfl rfl
theorem din2 (h2 : 10 ≤ op) (h9 : op ≤ 11) : DoF m g h op 2 0 n sz := .reg (in2 m g h op n sz) (tJ1_ok h2 h9 (by simp only [trusted, incG_ok h2 h9, and_self])) (by omega) ⟨rfl, hr.1⟩ rfl rfl
theorem din3 (h2 : 10 ≤ op) (h9 : op ≤ 11) : DoF m g h op 3 0 n sz := .reg (in3 m g h op n sz) (tJ1_ok h2 h9 (by simp only [trusted, incG_ok h2 h9, and_self])) (by omega) ⟨rfl, hr.1⟩ rfl rfl
theorem din4 (h2 : 10 ≤ op) (h9 : op ≤ 11) : DoF m g h op 4 0 n sz := .reg (in4 m g h op n sz) (tJ1_ok h2 h9 (by simp only [trusted, incG_ok h2 h9, and_self])) (by omega) ⟨rfl, hr.1⟩ rfl rfl
theorem din6 (h2 : 10 ≤ op) (h9 : op ≤ 11) : DoF m g h op 6 0 n sz := .reg (in6 m g h op n sz) (tJ1_ok h2 h9 (by simp only [trusted, incG_ok h2 h9, and_self])) (by omega) ⟨rfl, hr.1⟩ rfl rfl
theorem din7 (h2 : 10 ≤ op) (h9 : op ≤ 11) : DoF m g h op 7 0 n sz := .reg (in7 m g h op n sz) (tJ1_ok h2 h9 (by simp only [trusted, incG_ok h2 h9, and_self])) (by omega) ⟨rfl, hr.1⟩ rfl rfl
theorem din8 (h2 : 10 ≤ op) (h9 : op ≤ 11) : DoF m g h op 8 0 n sz := .reg (in8 m g h op n sz) (tJ1_ok h2 h9 (by simp only [trusted, incG_ok h2 h9, and_self])) (by omega) ⟨rfl, hr.1⟩ rfl rfl
theorem din10 (h2 : 10 ≤ op) (h9 : op ≤ 11) : DoF m g h op 10 0 n sz := .reg (in10 m g h op n sz) (tJ1_ok h2 h9 (by simp only [trusted, incG_ok h2 h9, and_self])) (by omega) ⟨rfl, hr.1⟩ rfl rfl
theorem din11 (h2 : 10 ≤ op) (h9 : op ≤ 11) : DoF m g h op 11 0 n sz := .reg (in11 m g h op n sz) (tJ1_ok h2 h9 (by simp only [trusted, incG_ok h2 h9, and_self])) (by omega) ⟨rfl, hr.1⟩ rfl rfl
theorem din12 (h2 : 10 ≤ op) (h9 : op ≤ 11) : DoF m g h op 12 0 n sz := .reg (in12 m g h op n sz) (tJ1_ok h2 h9 (by simp only [trusted, incG_ok h2 h9, and_self])) (by omega) ⟨rfl, hr.1⟩ rfl rfl
theorem din13 (h2 : 10 ≤ op) (h9 : op ≤ 11) : DoF m g h op 13 0 n sz := .reg (in13 m g h op n sz) (tJ1_ok h2 h9 (by simp only [trusted, incG_ok h2 h9, and_self])) (by omega) ⟨rfl, hr.1⟩ rfl rfl
theorem din14 (h2 : 10 ≤ op) (h9 : op ≤ 11) : DoF m g h op 14 0 n sz := .reg (in14 m g h op n sz) (tJ1_ok h2 h9 (by simp only [trusted, incG_ok h2 h9, and_self])) (by omega) ⟨rfl, hr.1⟩ rfl rfl
theorem din15 (h2 : 10 ≤ op) (h9 : op ≤ 11) : DoF m g h op 15 0 n sz := .reg (in15 m g h op n sz) (tJ1_ok h2 h9 (by simp only [trusted, incG_ok h2 h9, and_self])) (by omega) ⟨rfl, hr.1⟩ rfl rfl
theorem din16 (h2 : 10 ≤ op) (h9 : op ≤ 11) : DoF m g h op 16 0 n sz := .reg (in16 m g h op n sz) (tJ1_ok h2 h9 (by simp only [trusted, incG_ok h2 h9, and_self])) (by omega) ⟨rfl, hr.1⟩ rfl rfl
theorem din17 (h2 : 10 ≤ op) (h9 : op ≤ 11) : DoF m g h op 17 0 n sz := .memB (in17 m g h op n sz) (tJ1_ok h2 h9 (by simp only [trusted, incG_ok h2 h9, (rg_ok hr.2.1).1, (rg_ok hr.2.1).2, and_self])) (by omega) ⟨rfl, hr.1⟩ rfl rfl
theorem dnt1 : DoF m g h 16 1 0 n sz := .reg (nt1 m g h 0 n sz) trivial (by omega) (hb_slo _ hr.1) rfl rfl
theorem dnt2 : DoF m g h 16 2 0 n sz := .reg (nt2 m g h 0 n sz) trivial (by omega) ⟨rfl, hr.1⟩ rfl rfl
theorem dnt3 : DoF m g h 16 3 0 n sz := .reg (nt3 m g h 0 n sz) trivial (by omega) ⟨rfl, hr.1⟩ rfl rfl
theorem dnt4 : DoF m g h 16 4 0 n sz := .reg (nt4 m g h 0 n sz) trivial (by omega) ⟨rfl, hr.1⟩ rfl rfl
theorem dnt6 : DoF m g h 16 6 0 n sz := .reg (nt6 m g h 0 n sz) trivial (by omega) ⟨rfl, hr.1⟩ rfl rfl
theorem dnt7 : DoF m g h 16 7 0 n sz := .reg (nt7 m g h 0 n sz) trivial (by omega) ⟨rfl, hr.1⟩ rfl rfl
theorem dnt8 : DoF m g h 16 8 0 n sz := .reg (nt8 m g h 0 n sz) trivial (by omega) ⟨rfl, hr.1⟩ rfl rfl
end
end Go.Proofs.Ytnknopebjdgdjaa
namespace Go.Proofs.Ytnknopebjdgdjaa
open Go Go.Ly Go.RowKit
variable (m : Mc) (g h : Nat → Int) (op n sz : Int)
include m g h op n sz
set_option linter.unusedSectionVars false
theorem tu12_1t : eD [(54, true)] m g h 12 1 0 n sz = oD [(tpB 128 (lo8 m.r0), true)] 45 (hP { m with r0 := slo m.r0 (upL 255 (lo8 m.r0)), fc := tpB 128 (lo8 m.r0), ip := ipN m sz } g h) := by kernel_rfl
theorem tu12_1f : eD [(54, false)] m g h 12 1 0 n sz = oD [(tpB 128 (lo8 m.r0), false)] 45 (hP { m with r0 := slo m.r0 (upR 255 (lo8 m.r0)), fc := tpB 128 (lo8 m.r0), ip := ipN m sz } g h) := by kernel_rfl
theorem tu13_1t : eD [(55, true)] m g h 13 1 0 n sz = oD [(tpB 1 (lo8 m.r0), true)] 45 (hP { m with r0 := slo m.r0 (dnT 128 (lo8 m.r0)), fc := tpB 1 (lo8 m.r0), ip := ipN m sz } g h) := by kernel_rfl
theorem tu13_1f : eD [(55, false)] m g h 13 1 0 n sz = oD [(tpB 1 (lo8 m.r0), false)] 45 (hP { m with r0 := slo m.r0 (Int.fdiv (lo8 m.r0) 2), fc := tpB 1 (lo8 m.r0), ip := ipN m sz } g h) := by kernel_rfl
theorem tu14_1t : eD [(54, true)] m g h 14 1 0 n sz = oD [(m.fc, true)] 45 (hP { m with r0 := slo m.r0 (upL 255 (lo8 m.r0)), fc := tpB 128 (lo8 m.r0), ip := ipN m sz } g h) := by kernel_rfl
theorem tu14_1f : eD [(54, false)] m g h 14 1 0 n sz = oD [(m.fc, false)] 45 (hP { m with r0 := slo m.r0 (upR 255 (lo8 m.r0)), fc := tpB 128 (lo8 m.r0), ip := ipN m sz } g h) := by kernel_rfl
theorem tu15_1t : eD [(55, true)] m g h 15 1 0 n sz = oD [(m.fc, true)] 45 (hP { m with r0 := slo m.r0 (dnT 128 (lo8 m.r0)), fc := tpB 1 (lo8 m.r0), ip := ipN m sz } g h) := by kernel_rfl
theorem tu15_1f : eD [(55, false)] m g h 15 1 0 n sz = oD [(m.fc, false)] 45 (hP { m with r0 := slo m.r0 (Int.fdiv (lo8 m.r0) 2), fc := tpB 1 (lo8 m.r0), ip := ipN m sz } g h) := by kernel_rfl
theorem tu12_2t : eD [(54, true)] m g h 12 2 0 n sz = oD [(tpB 128 (lo8 m.r1), true)] 45 (hP { m with r1 := slo m.r1 (upL 255 (lo8 m.r1)), fc := tpB 128 (lo8 m.r1), ip := ipN m sz } g h) := by kernel_rfl
theorem tu12_2f : eD [(54, false)] m g h 12 2 0 n sz = oD [(tpB 128 (lo8 m.r1), false)] 45 (hP { m with r1 := slo m.r1 (upR 255 (lo8 m.r1)), fc := tpB 128 (lo8 m.r1), ip := ipN m sz } g h) := by kernel_rfl
theorem tu13_2t : eD [(55, true)] m g h 13 2 0 n sz = oD [(tpB 1 (lo8 m.r1), true)] 45 (hP { m with r1 := slo m.r1 (dnT 128 (lo8 m.r1)), fc := tpB 1 (lo8 m.r1), ip := ipN m sz } g h) := by kernel_rfl
theorem tu13_2f : eD [(55, false)] m g h 13 2 0 n sz = oD [(tpB 1 (lo8 m.r1), false)] 45 (hP { m with r1 := slo m.r1 (Int.fdiv (lo8 m.r1) 2), fc := tpB 1 (lo8 m.r1), ip := ipN m sz } g h) := by kernel_rfl
theorem tu14_2t : eD [(54, true)] m g h 14 2 0 n sz = oD [(m.fc, true)] 45 (hP { m with r1 := slo m.r1 (upL 255 (lo8 m.r1)), fc := tpB 128 (lo8 m.r1), ip := ipN m sz } g h) := by kernel_rfl
theorem tu14_2f : eD [(54, false)] m g h 14 2 0 n sz = oD [(m.fc, false)] 45 (hP { m with r1 := slo m.r1 (upR 255 (lo8 m.r1)), fc := tpB 128 (lo8 m.r1), ip := ipN m sz } g h) := by kernel_rfl
theorem tu15_2t : eD [(55, true)] m g h 15 2 0 n sz = oD [(m.fc, true)] 45 (hP { m with r1 := slo m.r1 (dnT 128 (lo8 m.r1)), fc := tpB 1 (lo8 m.r1), ip := ipN m sz } g h) := by kernel_rfl
theorem tu15_2f : eD [(55, false)] m g h 15 2 0 n sz = oD [(m.fc, false)] 45 (hP { m with r1 := slo m.r1 (Int.fdiv (lo8 m.r1) 2), fc := tpB 1 (lo8 m.r1), ip := ipN m sz } g h) := by kernel_rfl
theorem tu12_3t : eD [(54, true)] m g h 12 3 0 n sz = oD [(tpB 128 (lo8 m.r2), true)] 45 (hP { m with r2 := slo m.r2 (upL 255 (lo8 m.r2)), fc := tpB 128 (lo8 m.r2), ip := ipN m sz } g h) := by kernel_rfl
theorem tu12_3f : eD [(54, false)] m g h 12 3 0 n sz = oD [(tpB 128 (lo8 m.r2), false)] 45 (hP { m with r2 := slo m.r2 (upR 255 (lo8 m.r2)), fc := tpB 128 (lo8 m.r2), ip := ipN m sz } g h) := by kernel_rfl
theorem tu13_3t : eD [(55, true)] m g h 13 3 0 n sz = oD [(tpB 1 (lo8 m.r2), true)] 45 (hP { m with r2 := slo m.r2 (dnT 128 (lo8 m.r2)), fc := tpB 1 (lo8 m.r2), ip := ipN m sz } g h) := by kernel_rfl
theorem tu13_3f : eD [(55, false)] m g h 13 3 0 n sz = oD [(tpB 1 (lo8 m.r2), false)] 45 (hP { m with r2 := slo m.r2 (Int.fdiv (lo8 m.r2) 2), fc := tpB 1 (lo8 m.r2), ip := ipN m sz } g h) := by kernel_rfl
theorem tu14_3t : eD [(54, true)] m g h 14 3 0 n sz = oD [(m.fc, true)] 45 (hP { m with r2 := slo m.r2 (upL 255 (lo8 m.r2)), fc := tpB 128 (lo8 m.r2), ip := ipN m sz } g h) := by kernel_rfl
theorem tu14_3f : eD [(54, false)] m g h 14 3 0 n sz = oD [(m.fc, false)] 45 (hP { m with r2 := slo m.r2 (upR 255 (lo8 m.r2)), fc := tpB 128 (lo8 m.r2), ip := ipN m sz } g h) := by kernel_rfl
theorem tu15_3t : eD [(55, true)] m g h 15 3 0 n sz = oD [(m.fc, true)] 45 (hP { m with r2 := slo m.r2 (dnT 128 (lo8 m.r2)), fc := tpB 1 (lo8 m.r2), ip := ipN m sz } g h) := by kernel_rfl
theorem tu15_3f : eD [(55, false)] m g h 15 3 0 n sz = oD [(m.fc, false)] 45 (hP { m with r2 := slo m.r2 (Int.fdiv (lo8 m.r2) 2), fc := tpB 1 (lo8 m.r2), ip := ipN m sz } g h) := by kernel_rfl
end Go.Proofs.Ytnknopebjdgdjaa
namespace Go.Proofs.Ytnknopebjdgdjaa
open Go Go.Ly Go.RowKit
variable (m : Mc) (g h : Nat → Int) (op n sz : Int)
include m g h op n sz
set_option linter.unusedSectionVars false
theorem tu12_4t : eD [(54, true)] m g h 12 4 0 n sz = oD [(tpB 128 (lo8 m.r3), true)] 45 (hP { m with r3 := slo m.r3 (upL 255 (lo8 m.r3)), fc := tpB 128 (lo8 m.r3), ip := ipN m sz } g h) := by kernel_rfl
theorem tu12_4f : eD [(54, false)] m g h 12 4 0 n sz = oD [(tpB 128 (lo8 m.r3), false)] 45 (hP { m with r3 := slo m.r3 (upR 255 (lo8 m.r3)), fc := tpB 128 (lo8 m.r3), ip := ipN m sz } g h) := by kernel_rfl
theorem tu13_4t : eD [(55, true)] m g h 13 4 0 n sz = oD [(tpB 1 (lo8 m.r3), true)] 45 (hP { m with r3 := slo m.r3 (dnT 128 (lo8 m.r3)), fc := tpB 1 (lo8 m.r3), ip := ipN m sz } g h) := by kernel_rfl
theorem tu13_4f : eD [(55, false)] m g h 13 4 0 n sz = oD [(tpB 1 (lo8 m.r3), false)] 45 (hP { m with r3 := slo m.r3 (Int.fdiv (lo8 m.r3) 2), fc := tpB 1 (lo8 m.r3), ip := ipN m sz } g h) := by kernel_rfl
theorem tu14_4t : eD [(54, true)] m g h 14 4 0 n sz = oD [(m.fc, true)] 45 (hP { m with r3 := slo m.r3 (upL 255 (lo8 m.r3)), fc := tpB 128 (lo8 m.r3), ip := ipN m sz } g h) := by kernel_rfl
theorem tu14_4f : eD [(54, false)] m g h 14 4 0 n sz = oD [(m.fc, false)] 45 (hP { m with r3 := slo m.r3 (upR 255 (lo8 m.r3)), fc := tpB 128 (lo8 m.r3), ip := ipN m sz } g h) := by kernel_rfl
theorem tu15_4t : eD [(55, true)] m g h 15 4 0 n sz = oD [(m.fc, true)] 45 (hP { m with r3 := slo m.r3 (dnT 128 (lo8 m.r3)), fc := tpB 1 (lo8 m.r3), ip := ipN m sz } g h) := by kernel_rfl
theorem tu15_4f : eD [(55, false)] m g h 15 4 0 n sz = oD [(m.fc, false)] 45 (hP { m with r3 := slo m.r3 (Int.fdiv (lo8 m.r3) 2), fc := tpB 1 (lo8 m.r3), ip := ipN m sz } g h) := by kernel_rfl
theorem tu12_6t : eD [(54, true)] m g h 12 6 0 n sz = oD [(tpB 128 (hi8 m.r1), true)] 45 (hP { m with r1 := shi m.r1 (upL 255 (hi8 m.r1)), fc := tpB 128 (hi8 m.r1), ip := ipN m sz } g h) := by kernel_rfl
theorem tu12_6f : eD [(54, false)] m g h 12 6 0 n sz = oD [(tpB 128 (hi8 m.r1), false)] 45 (hP { m with r1 := shi m.r1 (upR 255 (hi8 m.r1)), fc := tpB 128 (hi8 m.r1), ip := ipN m sz } g h) := by kernel_rfl
theorem tu13_6t : eD [(55, true)] m g h 13 6 0 n sz = oD [(tpB 1 (hi8 m.r1), true)] 45 (hP { m with r1 := shi m.r1 (dnT 128 (hi8 m.r1)), fc := tpB 1 (hi8 m.r1), ip := ipN m sz } g h) := by kernel_rfl
theorem tu13_6f : eD [(55, false)] m g h 13 6 0 n sz = oD [(tpB 1 (hi8 m.r1), false)] 45 (hP { m with r1 := shi m.r1 (Int.fdiv (hi8 m.r1) 2), fc := tpB 1 (hi8 m.r1), ip := ipN m sz } g h) := by kernel_rfl
theorem tu14_6t : eD [(54, true)] m g h 14 6 0 n sz = oD [(m.fc, true)] 45 (hP { m with r1 := shi m.r1 (upL 255 (hi8 m.r1)), fc := tpB 128 (hi8 m.r1), ip := ipN m sz } g h) := by kernel_rfl
theorem tu14_6f : eD [(54, false)] m g h 14 6 0 n sz = oD [(m.fc, false)] 45 (hP { m with r1 := shi m.r1 (upR 255 (hi8 m.r1)), fc := tpB 128 (hi8 m.r1), ip := ipN m sz } g h) := by kernel_rfl
theorem tu15_6t : eD [(55, true)] m g h 15 6 0 n sz = oD [(m.fc, true)] 45 (hP { m with r1 := shi m.r1 (dnT 128 (hi8 m.r1)), fc := tpB 1 (hi8 m.r1), ip := ipN m sz } g h) := by kernel_rfl
theorem tu15_6f : eD [(55, false)] m g h 15 6 0 n sz = oD [(m.fc, false)] 45 (hP { m with r1 := shi m.r1 (Int.fdiv (hi8 m.r1) 2), fc := tpB 1 (hi8 m.r1), ip := ipN m sz } g h) := by kernel_rfl
end Go.Proofs.Ytnknopebjdgdjaa
end
