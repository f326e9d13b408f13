/- Part 17 of the texts that the law needs, laid together. By program (pack.py). -/
import Derived.Test.YtnknopebjdgdjaaPfn
import Derived.Test.YtnknopebjdgdjaaPfp
import Derived.KernelRfl
set_option linter.unusedVariables false
set_option linter.unusedSimpArgs false
noncomputable section
namespace Go.Proofs.Ytnknopebjdgdjaa
open Go Go.Ly Go.RowKit
variable (m : Mc) (g h : Nat → Int) (op n sz : Int)
include m g h op n sz
set_option linter.unusedSectionVars false
theorem tu12_7t : eD [(54, true)] m g h 12 7 0 n sz = oD [(tpB 128 (hi8 m.r2), true)] 45 (hP { m with r2 := shi m.r2 (upL 255 (hi8 m.r2)), fc := tpB 128 (hi8 m.r2), ip := ipN m sz } g h) := by kernel_rfl
theorem tu12_7f : eD [(54, false)] m g h 12 7 0 n sz = oD [(tpB 128 (hi8 m.r2), false)] 45 (hP { m with r2 := shi m.r2 (upR 255 (hi8 m.r2)), fc := tpB 128 (hi8 m.r2), ip := ipN m sz } g h) := by kernel_rfl
theorem tu13_7t : eD [(55, true)] m g h 13 7 0 n sz = oD [(tpB 1 (hi8 m.r2), true)] 45 (hP { m with r2 := shi m.r2 (dnT 128 (hi8 m.r2)), fc := tpB 1 (hi8 m.r2), ip := ipN m sz } g h) := by kernel_rfl
theorem tu13_7f : eD [(55, false)] m g h 13 7 0 n sz = oD [(tpB 1 (hi8 m.r2), false)] 45 (hP { m with r2 := shi m.r2 (Int.fdiv (hi8 m.r2) 2), fc := tpB 1 (hi8 m.r2), ip := ipN m sz } g h) := by kernel_rfl
theorem tu14_7t : eD [(54, true)] m g h 14 7 0 n sz = oD [(m.fc, true)] 45 (hP { m with r2 := shi m.r2 (upL 255 (hi8 m.r2)), fc := tpB 128 (hi8 m.r2), ip := ipN m sz } g h) := by kernel_rfl
theorem tu14_7f : eD [(54, false)] m g h 14 7 0 n sz = oD [(m.fc, false)] 45 (hP { m with r2 := shi m.r2 (upR 255 (hi8 m.r2)), fc := tpB 128 (hi8 m.r2), ip := ipN m sz } g h) := by kernel_rfl
theorem tu15_7t : eD [(55, true)] m g h 15 7 0 n sz = oD [(m.fc, true)] 45 (hP { m with r2 := shi m.r2 (dnT 128 (hi8 m.r2)), fc := tpB 1 (hi8 m.r2), ip := ipN m sz } g h) := by kernel_rfl
theorem tu15_7f : eD [(55, false)] m g h 15 7 0 n sz = oD [(m.fc, false)] 45 (hP { m with r2 := shi m.r2 (Int.fdiv (hi8 m.r2) 2), fc := tpB 1 (hi8 m.r2), ip := ipN m sz } g h) := by kernel_rfl
theorem tu12_8t : eD [(54, true)] m g h 12 8 0 n sz = oD [(tpB 128 (hi8 m.r3), true)] 45 (hP { m with r3 := shi m.r3 (upL 255 (hi8 m.r3)), fc := tpB 128 (hi8 m.r3), ip := ipN m sz } g h) := by kernel_rfl
theorem tu12_8f : eD [(54, false)] m g h 12 8 0 n sz = oD [(tpB 128 (hi8 m.r3), false)] 45 (hP { m with r3 := shi m.r3 (upR 255 (hi8 m.r3)), fc := tpB 128 (hi8 m.r3), ip := ipN m sz } g h) := by kernel_rfl
theorem tu13_8t : eD [(55, true)] m g h 13 8 0 n sz = oD [(tpB 1 (hi8 m.r3), true)] 45 (hP { m with r3 := shi m.r3 (dnT 128 (hi8 m.r3)), fc := tpB 1 (hi8 m.r3), ip := ipN m sz } g h) := by kernel_rfl
theorem tu13_8f : eD [(55, false)] m g h 13 8 0 n sz = oD [(tpB 1 (hi8 m.r3), false)] 45 (hP { m with r3 := shi m.r3 (Int.fdiv (hi8 m.r3) 2), fc := tpB 1 (hi8 m.r3), ip := ipN m sz } g h) := by kernel_rfl
theorem tu14_8t : eD [(54, true)] m g h 14 8 0 n sz = oD [(m.fc, true)] 45 (hP { m with r3 := shi m.r3 (upL 255 (hi8 m.r3)), fc := tpB 128 (hi8 m.r3), ip := ipN m sz } g h) := by kernel_rfl
theorem tu14_8f : eD [(54, false)] m g h 14 8 0 n sz = oD [(m.fc, false)] 45 (hP { m with r3 := shi m.r3 (upR 255 (hi8 m.r3)), fc := tpB 128 (hi8 m.r3), ip := ipN m sz } g h) := by kernel_rfl
theorem tu15_8t : eD [(55, true)] m g h 15 8 0 n sz = oD [(m.fc, true)] 45 (hP { m with r3 := shi m.r3 (dnT 128 (hi8 m.r3)), fc := tpB 1 (hi8 m.r3), ip := ipN m sz } g h) := by kernel_rfl
theorem tu15_8f : eD [(55, false)] m g h 15 8 0 n sz = oD [(m.fc, false)] 45 (hP { m with r3 := shi m.r3 (Int.fdiv (hi8 m.r3) 2), fc := tpB 1 (hi8 m.r3), ip := ipN m sz } g h) := by kernel_rfl
end Go.Proofs.Ytnknopebjdgdjaa
namespace Go.Proofs.Ytnknopebjdgdjaa
open Go Go.Ly Go.RowKit
variable (m : Mc) (g h : Nat → Int) (op n sz : Int)
include m g h op n sz
set_option linter.unusedSectionVars false
theorem tu12_10t : eD [(39, true)] m g h 12 10 0 n sz = oD [(tpB 32768 m.r1, true)] 45 (hP { m with r1 := (upL 65535 m.r1), fc := tpB 32768 m.r1, ip := ipN m sz } g h) := by kernel_rfl
theorem tu12_10f : eD [(39, false)] m g h 12 10 0 n sz = oD [(tpB 32768 m.r1, false)] 45 (hP { m with r1 := (upR 65535 m.r1), fc := tpB 32768 m.r1, ip := ipN m sz } g h) := by kernel_rfl
theorem tu13_10t : eD [(40, true)] m g h 13 10 0 n sz = oD [(tpB 1 m.r1, true)] 45 (hP { m with r1 := (dnT 32768 m.r1), fc := tpB 1 m.r1, ip := ipN m sz } g h) := by kernel_rfl
theorem tu13_10f : eD [(40, false)] m g h 13 10 0 n sz = oD [(tpB 1 m.r1, false)] 45 (hP { m with r1 := (Int.fdiv m.r1 2), fc := tpB 1 m.r1, ip := ipN m sz } g h) := by kernel_rfl
theorem tu14_10t : eD [(39, true)] m g h 14 10 0 n sz = oD [(m.fc, true)] 45 (hP { m with r1 := (upL 65535 m.r1), fc := tpB 32768 m.r1, ip := ipN m sz } g h) := by kernel_rfl
theorem tu14_10f : eD [(39, false)] m g h 14 10 0 n sz = oD [(m.fc, false)] 45 (hP { m with r1 := (upR 65535 m.r1), fc := tpB 32768 m.r1, ip := ipN m sz } g h) := by kernel_rfl
theorem tu15_10t : eD [(40, true)] m g h 15 10 0 n sz = oD [(m.fc, true)] 45 (hP { m with r1 := (dnT 32768 m.r1), fc := tpB 1 m.r1, ip := ipN m sz } g h) := by kernel_rfl
theorem tu15_10f : eD [(40, false)] m g h 15 10 0 n sz = oD [(m.fc, false)] 45 (hP { m with r1 := (Int.fdiv m.r1 2), fc := tpB 1 m.r1, ip := ipN m sz } g h) := by kernel_rfl
theorem tu12_11t : eD [(39, true)] m g h 12 11 0 n sz = oD [(tpB 32768 m.r2, true)] 45 (hP { m with r2 := (upL 65535 m.r2), fc := tpB 32768 m.r2, ip := ipN m sz } g h) := by kernel_rfl
theorem tu12_11f : eD [(39, false)] m g h 12 11 0 n sz = oD [(tpB 32768 m.r2, false)] 45 (hP { m with r2 := (upR 65535 m.r2), fc := tpB 32768 m.r2, ip := ipN m sz } g h) := by kernel_rfl
theorem tu13_11t : eD [(40, true)] m g h 13 11 0 n sz = oD [(tpB 1 m.r2, true)] 45 (hP { m with r2 := (dnT 32768 m.r2), fc := tpB 1 m.r2, ip := ipN m sz } g h) := by kernel_rfl
theorem tu13_11f : eD [(40, false)] m g h 13 11 0 n sz = oD [(tpB 1 m.r2, false)] 45 (hP { m with r2 := (Int.fdiv m.r2 2), fc := tpB 1 m.r2, ip := ipN m sz } g h) := by kernel_rfl
theorem tu14_11t : eD [(39, true)] m g h 14 11 0 n sz = oD [(m.fc, true)] 45 (hP { m with r2 := (upL 65535 m.r2), fc := tpB 32768 m.r2, ip := ipN m sz } g h) := by kernel_rfl
theorem tu14_11f : eD [(39, false)] m g h 14 11 0 n sz = oD [(m.fc, false)] 45 (hP { m with r2 := (upR 65535 m.r2), fc := tpB 32768 m.r2, ip := ipN m sz } g h) := by kernel_rfl
theorem tu15_11t : eD [(40, true)] m g h 15 11 0 n sz = oD [(m.fc, true)] 45 (hP { m with r2 := (dnT 32768 m.r2), fc := tpB 1 m.r2, ip := ipN m sz } g h) := by kernel_rfl
theorem tu15_11f : eD [(40, false)] m g h 15 11 0 n sz = oD [(m.fc, false)] 45 (hP { m with r2 := (Int.fdiv m.r2 2), fc := tpB 1 m.r2, ip := ipN m sz } g h) := by kernel_rfl
theorem tu12_12t : eD [(39, true)] m g h 12 12 0 n sz = oD [(tpB 32768 m.r3, true)] 45 (hP { m with r3 := (upL 65535 m.r3), fc := tpB 32768 m.r3, ip := ipN m sz } g h) := by kernel_rfl
theorem tu12_12f : eD [(39, false)] m g h 12 12 0 n sz = oD [(tpB 32768 m.r3, false)] 45 (hP { m with r3 := (upR 65535 m.r3), fc := tpB 32768 m.r3, ip := ipN m sz } g h) := by kernel_rfl
theorem tu13_12t : eD [(40, true)] m g h 13 12 0 n sz = oD [(tpB 1 m.r3, true)] 45 (hP { m with r3 := (dnT 32768 m.r3), fc := tpB 1 m.r3, ip := ipN m sz } g h) := by kernel_rfl
theorem tu13_12f : eD [(40, false)] m g h 13 12 0 n sz = oD [(tpB 1 m.r3, false)] 45 (hP { m with r3 := (Int.fdiv m.r3 2), fc := tpB 1 m.r3, ip := ipN m sz } g h) := by kernel_rfl
theorem tu14_12t : eD [(39, true)] m g h 14 12 0 n sz = oD [(m.fc, true)] 45 (hP { m with r3 := (upL 65535 m.r3), fc := tpB 32768 m.r3, ip := ipN m sz } g h) := by kernel_rfl
theorem tu14_12f : eD [(39, false)] m g h 14 12 0 n sz = oD [(m.fc, false)] 45 (hP { m with r3 := (upR 65535 m.r3), fc := tpB 32768 m.r3, ip := ipN m sz } g h) := by kernel_rfl
theorem tu15_12t : eD [(40, true)] m g h 15 12 0 n sz = oD [(m.fc, true)] 45 (hP { m with r3 := (dnT 32768 m.r3), fc := tpB 1 m.r3, ip := ipN m sz } g h) := by kernel_rfl
theorem tu15_12f : eD [(40, false)] m g h 15 12 0 n sz = oD [(m.fc, false)] 45 (hP { m with r3 := (Int.fdiv m.r3 2), fc := tpB 1 m.r3, ip := ipN m sz } g h) := by kernel_rfl
end Go.Proofs.Ytnknopebjdgdjaa
namespace Go.Proofs.Ytnknopebjdgdjaa
open Go Go.Ly Go.RowKit
variable (m : Mc) (g h : Nat → Int) (op n sz : Int)
include m g h op n sz
set_option linter.unusedSectionVars false
theorem tu12_13t : eD [(39, true)] m g h 12 13 0 n sz = oD [(tpB 32768 m.r4, true)] 45 (hP { m with r4 := (upL 65535 m.r4), fc := tpB 32768 m.r4, ip := ipN m sz } g h) := by kernel_rfl
theorem tu12_13f : eD [(39, false)] m g h 12 13 0 n sz = oD [(tpB 32768 m.r4, false)] 45 (hP { m with r4 := (upR 65535 m.r4), fc := tpB 32768 m.r4, ip := ipN m sz } g h) := by kernel_rfl
theorem tu13_13t : eD [(40, true)] m g h 13 13 0 n sz = oD [(tpB 1 m.r4, true)] 45 (hP { m with r4 := (dnT 32768 m.r4), fc := tpB 1 m.r4, ip := ipN m sz } g h) := by kernel_rfl
theorem tu13_13f : eD [(40, false)] m g h 13 13 0 n sz = oD [(tpB 1 m.r4, false)] 45 (hP { m with r4 := (Int.fdiv m.r4 2), fc := tpB 1 m.r4, ip := ipN m sz } g h) := by kernel_rfl
theorem tu14_13t : eD [(39, true)] m g h 14 13 0 n sz = oD [(m.fc, true)] 45 (hP { m with r4 := (upL 65535 m.r4), fc := tpB 32768 m.r4, ip := ipN m sz } g h) := by kernel_rfl
theorem tu14_13f : eD [(39, false)] m g h 14 13 0 n sz = oD [(m.fc, false)] 45 (hP { m with r4 := (upR 65535 m.r4), fc := tpB 32768 m.r4, ip := ipN m sz } g h) := by kernel_rfl
theorem tu15_13t : eD [(40, true)] m g h 15 13 0 n sz = oD [(m.fc, true)] 45 (hP { m with r4 := (dnT 32768 m.r4), fc := tpB 1 m.r4, ip := ipN m sz } g h) := by kernel_rfl
theorem tu15_13f : eD [(40, false)] m g h 15 13 0 n sz = oD [(m.fc, false)] 45 (hP { m with r4 := (Int.fdiv m.r4 2), fc := tpB 1 m.r4, ip := ipN m sz } g h) := by kernel_rfl
theorem tu12_14t : eD [(39, true)] m g h 12 14 0 n sz = oD [(tpB 32768 m.r5, true)] 45 (hP { m with r5 := (upL 65535 m.r5), fc := tpB 32768 m.r5, ip := ipN m sz } g h) := by kernel_rfl
theorem tu12_14f : eD [(39, false)] m g h 12 14 0 n sz = oD [(tpB 32768 m.r5, false)] 45 (hP { m with r5 := (upR 65535 m.r5), fc := tpB 32768 m.r5, ip := ipN m sz } g h) := by kernel_rfl
theorem tu13_14t : eD [(40, true)] m g h 13 14 0 n sz = oD [(tpB 1 m.r5, true)] 45 (hP { m with r5 := (dnT 32768 m.r5), fc := tpB 1 m.r5, ip := ipN m sz } g h) := by kernel_rfl
theorem tu13_14f : eD [(40, false)] m g h 13 14 0 n sz = oD [(tpB 1 m.r5, false)] 45 (hP { m with r5 := (Int.fdiv m.r5 2), fc := tpB 1 m.r5, ip := ipN m sz } g h) := by kernel_rfl
theorem tu14_14t : eD [(39, true)] m g h 14 14 0 n sz = oD [(m.fc, true)] 45 (hP { m with r5 := (upL 65535 m.r5), fc := tpB 32768 m.r5, ip := ipN m sz } g h) := by kernel_rfl
theorem tu14_14f : eD [(39, false)] m g h 14 14 0 n sz = oD [(m.fc, false)] 45 (hP { m with r5 := (upR 65535 m.r5), fc := tpB 32768 m.r5, ip := ipN m sz } g h) := by kernel_rfl
theorem tu15_14t : eD [(40, true)] m g h 15 14 0 n sz = oD [(m.fc, true)] 45 (hP { m with r5 := (dnT 32768 m.r5), fc := tpB 1 m.r5, ip := ipN m sz } g h) := by kernel_rfl
theorem tu15_14f : eD [(40, false)] m g h 15 14 0 n sz = oD [(m.fc, false)] 45 (hP { m with r5 := (Int.fdiv m.r5 2), fc := tpB 1 m.r5, ip := ipN m sz } g h) := by kernel_rfl
theorem tu12_15t : eD [(39, true)] m g h 12 15 0 n sz = oD [(tpB 32768 m.r6, true)] 45 (hP { m with r6 := (upL 65535 m.r6), fc := tpB 32768 m.r6, ip := ipN m sz } g h) := by kernel_rfl
theorem tu12_15f : eD [(39, false)] m g h 12 15 0 n sz = oD [(tpB 32768 m.r6, false)] 45 (hP { m with r6 := (upR 65535 m.r6), fc := tpB 32768 m.r6, ip := ipN m sz } g h) := by kernel_rfl
theorem tu13_15t : eD [(40, true)] m g h 13 15 0 n sz = oD [(tpB 1 m.r6, true)] 45 (hP { m with r6 := (dnT 32768 m.r6), fc := tpB 1 m.r6, ip := ipN m sz } g h) := by kernel_rfl
theorem tu13_15f : eD [(40, false)] m g h 13 15 0 n sz = oD [(tpB 1 m.r6, false)] 45 (hP { m with r6 := (Int.fdiv m.r6 2), fc := tpB 1 m.r6, ip := ipN m sz } g h) := by kernel_rfl
theorem tu14_15t : eD [(39, true)] m g h 14 15 0 n sz = oD [(m.fc, true)] 45 (hP { m with r6 := (upL 65535 m.r6), fc := tpB 32768 m.r6, ip := ipN m sz } g h) := by kernel_rfl
theorem tu14_15f : eD [(39, false)] m g h 14 15 0 n sz = oD [(m.fc, false)] 45 (hP { m with r6 := (upR 65535 m.r6), fc := tpB 32768 m.r6, ip := ipN m sz } g h) := by kernel_rfl
theorem tu15_15t : eD [(40, true)] m g h 15 15 0 n sz = oD [(m.fc, true)] 45 (hP { m with r6 := (dnT 32768 m.r6), fc := tpB 1 m.r6, ip := ipN m sz } g h) := by kernel_rfl
theorem tu15_15f : eD [(40, false)] m g h 15 15 0 n sz = oD [(m.fc, false)] 45 (hP { m with r6 := (Int.fdiv m.r6 2), fc := tpB 1 m.r6, ip := ipN m sz } g h) := by kernel_rfl
end Go.Proofs.Ytnknopebjdgdjaa
namespace Go.Proofs.Ytnknopebjdgdjaa
open Go Go.Ly Go.RowKit
variable (m : Mc) (g h : Nat → Int) (op n sz : Int)
include m g h op n sz
set_option linter.unusedSectionVars false
theorem tu12_16t : eD [(39, true)] m g h 12 16 0 n sz = oD [(tpB 32768 m.r7, true)] 45 (hP { m with r7 := (upL 65535 m.r7), fc := tpB 32768 m.r7, ip := ipN m sz } g h) := by kernel_rfl
theorem tu12_16f : eD [(39, false)] m g h 12 16 0 n sz = oD [(tpB 32768 m.r7, false)] 45 (hP { m with r7 := (upR 65535 m.r7), fc := tpB 32768 m.r7, ip := ipN m sz } g h) := by kernel_rfl
theorem tu13_16t : eD [(40, true)] m g h 13 16 0 n sz = oD [(tpB 1 m.r7, true)] 45 (hP { m with r7 := (dnT 32768 m.r7), fc := tpB 1 m.r7, ip := ipN m sz } g h) := by kernel_rfl
theorem tu13_16f : eD [(40, false)] m g h 13 16 0 n sz = oD [(tpB 1 m.r7, false)] 45 (hP { m with r7 := (Int.fdiv m.r7 2), fc := tpB 1 m.r7, ip := ipN m sz } g h) := by kernel_rfl
theorem tu14_16t : eD [(39, true)] m g h 14 16 0 n sz = oD [(m.fc, true)] 45 (hP { m with r7 := (upL 65535 m.r7), fc := tpB 32768 m.r7, ip := ipN m sz } g h) := by kernel_rfl
theorem tu14_16f : eD [(39, false)] m g h 14 16 0 n sz = oD [(m.fc, false)] 45 (hP { m with r7 := (upR 65535 m.r7), fc := tpB 32768 m.r7, ip := ipN m sz } g h) := by kernel_rfl
theorem tu15_16t : eD [(40, true)] m g h 15 16 0 n sz = oD [(m.fc, true)] 45 (hP { m with r7 := (dnT 32768 m.r7), fc := tpB 1 m.r7, ip := ipN m sz } g h) := by kernel_rfl
theorem tu15_16f : eD [(40, false)] m g h 15 16 0 n sz = oD [(m.fc, false)] 45 (hP { m with r7 := (Int.fdiv m.r7 2), fc := tpB 1 m.r7, ip := ipN m sz } g h) := by kernel_rfl
end Go.Proofs.Ytnknopebjdgdjaa
namespace Go.Proofs.Ytnknopebjdgdjaa
open Go Go.Ly Go.RowKit
section
variable {m : Mc} {g h : Nat → Int} {op n sz : Int}
variable (hr : Rw16 m) (hn : B16 n)
include hr hn
set_option linter.unusedSectionVars false
theorem dtu12_1 : DoF m g h 12 1 0 n sz := by
  cases e : tpB 128 (lo8 m.r0) with
  | true => exact .reg (tu12_1t m g h 0 n sz) (tEm e) (by omega) (hb_slo _ hr.1) rfl rfl
  | false => exact .reg (tu12_1f m g h 0 n sz) (tEm e) (by omega) (hb_slo _ hr.1) rfl rfl
theorem dtu13_1 : DoF m g h 13 1 0 n sz := by
  cases e : tpB 1 (lo8 m.r0) with
  | true => exact .reg (tu13_1t m g h 0 n sz) (tEm e) (by omega) (hb_slo _ hr.1) rfl rfl
  | false => exact .reg (tu13_1f m g h 0 n sz) (tEm e) (by omega) (hb_slo _ hr.1) rfl rfl
theorem dtu14_1 : DoF m g h 14 1 0 n sz := by
  cases e : m.fc with
  | true => exact .reg (tu14_1t m g h 0 n sz) (tEm e) (by omega) (hb_slo _ hr.1) rfl rfl
  | false => exact .reg (tu14_1f m g h 0 n sz) (tEm e) (by omega) (hb_slo _ hr.1) rfl rfl
theorem dtu15_1 : DoF m g h 15 1 0 n sz := by
  cases e : m.fc with
  | true => exact .reg (tu15_1t m g h 0 n sz) (tEm e) (by omega) (hb_slo _ hr.1) rfl rfl
  | false => exact .reg (tu15_1f m g h 0 n sz) (tEm e) (by omega) (hb_slo _ hr.1) rfl rfl
theorem dtu12_2 : DoF m g h 12 2 0 n sz := by
  cases e : tpB 128 (lo8 m.r1) with
  | true => exact .reg (tu12_2t m g h 0 n sz) (tEm e) (by omega) ⟨rfl, hr.1⟩ rfl rfl
  | false => exact .reg (tu12_2f m g h 0 n sz) (tEm e) (by omega) ⟨rfl, hr.1⟩ rfl rfl
theorem dtu13_2 : DoF m g h 13 2 0 n sz := by
  cases e : tpB 1 (lo8 m.r1) with
  | true => exact .reg (tu13_2t m g h 0 n sz) (tEm e) (by omega) ⟨rfl, hr.1⟩ rfl rfl
  | false => exact .reg (tu13_2f m g h 0 n sz) (tEm e) (by omega) ⟨rfl, hr.1⟩ rfl rfl
theorem dtu14_2 : DoF m g h 14 2 0 n sz := by
  cases e : m.fc with
  | true => exact .reg (tu14_2t m g h 0 n sz) (tEm e) (by omega) ⟨rfl, hr.1⟩ rfl rfl
  | false => exact .reg (tu14_2f m g h 0 n sz) (tEm e) (by omega) ⟨rfl, hr.1⟩ rfl rfl
theorem dtu15_2 : DoF m g h 15 2 0 n sz := by
  cases e : m.fc with
  | true => exact .reg (tu15_2t m g h 0 n sz) (tEm e) (by omega) ⟨rfl, hr.1⟩ rfl rfl
  | false => exact .reg (tu15_2f m g h 0 n sz) (tEm e) (by omega) ⟨rfl, hr.1⟩ rfl rfl
theorem dtu12_3 : DoF m g h 12 3 0 n sz := by
  cases e : tpB 128 (lo8 m.r2) with
  | true => exact .reg (tu12_3t m g h 0 n sz) (tEm e) (by omega) ⟨rfl, hr.1⟩ rfl rfl
  | false => exact .reg (tu12_3f m g h 0 n sz) (tEm e) (by omega) ⟨rfl, hr.1⟩ rfl rfl
theorem dtu13_3 : DoF m g h 13 3 0 n sz := by
  cases e : tpB 1 (lo8 m.r2) with
  | true => exact .reg (tu13_3t m g h 0 n sz) (tEm e) (by omega) ⟨rfl, hr.1⟩ rfl rfl
  | false => exact .reg (tu13_3f m g h 0 n sz) (tEm e) (by omega) ⟨rfl, hr.1⟩ rfl rfl
theorem dtu14_3 : DoF m g h 14 3 0 n sz := by
  cases e : m.fc with
  | true => exact .reg (tu14_3t m g h 0 n sz) (tEm e) (by omega) ⟨rfl, hr.1⟩ rfl rfl
  | false => exact .reg (tu14_3f m g h 0 n sz) (tEm e) (by omega) ⟨rfl, hr.1⟩ rfl rfl
theorem dtu15_3 : DoF m g h 15 3 0 n sz := by
  cases e : m.fc with
  | true => exact .reg (tu15_3t m g h 0 n sz) (tEm e) (by omega) ⟨rfl, hr.1⟩ rfl rfl
  | false => exact .reg (tu15_3f m g h 0 n sz) (tEm e) (by omega) ⟨rfl, hr.1⟩ rfl rfl
theorem dtu12_4 : DoF m g h 12 4 0 n sz := by
  cases e : tpB 128 (lo8 m.r3) with
  | true => exact .reg (tu12_4t m g h 0 n sz) (tEm e) (by omega) ⟨rfl, hr.1⟩ rfl rfl
  | false => exact .reg (tu12_4f m g h 0 n sz) (tEm e) (by omega) ⟨rfl, hr.1⟩ rfl rfl
theorem dtu13_4 : DoF m g h 13 4 0 n sz := by
  cases e : tpB 1 (lo8 m.r3) with
  | true => exact .reg (tu13_4t m g h 0 n sz) (tEm e) (by omega) ⟨rfl, hr.1⟩ rfl rfl
  | false => exact .reg (tu13_4f m g h 0 n sz) (tEm e) (by omega) ⟨rfl, hr.1⟩ rfl rfl
theorem dtu14_4 : DoF m g h 14 4 0 n sz := by
  cases e : m.fc with
  | true => exact .reg (tu14_4t m g h 0 n sz) (tEm e) (by omega) ⟨rfl, hr.1⟩ rfl rfl
  | false => exact .reg (tu14_4f m g h 0 n sz) (tEm e) (by omega) ⟨rfl, hr.1⟩ rfl rfl
theorem dtu15_4 : DoF m g h 15 4 0 n sz := by
  cases e : m.fc with
  | true => exact .reg (tu15_4t m g h 0 n sz) (tEm e) (by omega) ⟨rfl, hr.1⟩ rfl rfl
  | false => exact .reg (tu15_4f m g h 0 n sz) (tEm e) (by omega) ⟨rfl, hr.1⟩ rfl rfl
theorem dtu12_6 : DoF m g h 12 6 0 n sz := by
  cases e : tpB 128 (hi8 m.r1) with
  | true => exact .reg (tu12_6t m g h 0 n sz) (tEm e) (by omega) ⟨rfl, hr.1⟩ rfl rfl
  | false => exact .reg (tu12_6f m g h 0 n sz) (tEm e) (by omega) ⟨rfl, hr.1⟩ rfl rfl
theorem dtu13_6 : DoF m g h 13 6 0 n sz := by
  cases e : tpB 1 (hi8 m.r1) with
  | true => exact .reg (tu13_6t m g h 0 n sz) (tEm e) (by omega) ⟨rfl, hr.1⟩ rfl rfl
  | false => exact .reg (tu13_6f m g h 0 n sz) (tEm e) (by omega) ⟨rfl, hr.1⟩ rfl rfl
theorem dtu14_6 : DoF m g h 14 6 0 n sz := by
  cases e : m.fc with
  | true => exact .reg (tu14_6t m g h 0 n sz) (tEm e) (by omega) ⟨rfl, hr.1⟩ rfl rfl
  | false => exact .reg (tu14_6f m g h 0 n sz) (tEm e) (by omega) ⟨rfl, hr.1⟩ rfl rfl
theorem dtu15_6 : DoF m g h 15 6 0 n sz := by
  cases e : m.fc with
  | true => exact .reg (tu15_6t m g h 0 n sz) (tEm e) (by omega) ⟨rfl, hr.1⟩ rfl rfl
  | false => exact .reg (tu15_6f m g h 0 n sz) (tEm e) (by omega) ⟨rfl, hr.1⟩ rfl rfl
theorem dtu12_7 : DoF m g h 12 7 0 n sz := by
  cases e : tpB 128 (hi8 m.r2) with
  | true => exact .reg (tu12_7t m g h 0 n sz) (tEm e) (by omega) ⟨rfl, hr.1⟩ rfl rfl
  | false => exact .reg (tu12_7f m g h 0 n sz) (tEm e) (by omega) ⟨rfl, hr.1⟩ rfl rfl
theorem dtu13_7 : DoF m g h 13 7 0 n sz := by
  cases e : tpB 1 (hi8 m.r2) with
  | true => exact .reg (tu13_7t m g h 0 n sz) (tEm e) (by omega) ⟨rfl, hr.1⟩ rfl rfl
  | false => exact .reg (tu13_7f m g h 0 n sz) (tEm e) (by omega) ⟨rfl, hr.1⟩ rfl rfl
theorem dtu14_7 : DoF m g h 14 7 0 n sz := by
  cases e : m.fc with
  | true => exact .reg (tu14_7t m g h 0 n sz) (tEm e) (by omega) ⟨rfl, hr.1⟩ rfl rfl
  | false => exact .reg (tu14_7f m g h 0 n sz) (tEm e) (by omega) ⟨rfl, hr.1⟩ rfl rfl
theorem dtu15_7 : DoF m g h 15 7 0 n sz := by
  cases e : m.fc with
  | true => exact .reg (tu15_7t m g h 0 n sz) (tEm e) (by omega) ⟨rfl, hr.1⟩ rfl rfl
  | false => exact .reg (tu15_7f m g h 0 n sz) (tEm e) (by omega) ⟨rfl, hr.1⟩ rfl rfl
theorem dtu12_8 : DoF m g h 12 8 0 n sz := by
  cases e : tpB 128 (hi8 m.r3) with
  | true => exact .reg (tu12_8t m g h 0 n sz) (tEm e) (by omega) ⟨rfl, hr.1⟩ rfl rfl
  | false => exact .reg (tu12_8f m g h 0 n sz) (tEm e) (by omega) ⟨rfl, hr.1⟩ rfl rfl
theorem dtu13_8 : DoF m g h 13 8 0 n sz := by
  cases e : tpB 1 (hi8 m.r3) with
  | true => exact .reg (tu13_8t m g h 0 n sz) (tEm e) (by omega) ⟨rfl, hr.1⟩ rfl rfl
  | false => exact .reg (tu13_8f m g h 0 n sz) (tEm e) (by omega) ⟨rfl, hr.1⟩ rfl rfl
theorem dtu14_8 : DoF m g h 14 8 0 n sz := by
  cases e : m.fc with
  | true => exact .reg (tu14_8t m g h 0 n sz) (tEm e) (by omega) ⟨rfl, hr.1⟩ rfl rfl
  | false => exact .reg (tu14_8f m g h 0 n sz) (tEm e) (by omega) ⟨rfl, hr.1⟩ rfl rfl
theorem dtu15_8 : DoF m g h 15 8 0 n sz := by
  cases e : m.fc with
  | true => exact .reg (tu15_8t m g h 0 n sz) (tEm e) (by omega) ⟨rfl, hr.1⟩ rfl rfl
  | false => exact .reg (tu15_8f m g h 0 n sz) (tEm e) (by omega) ⟨rfl, hr.1⟩ rfl rfl
theorem dtu12_10 : DoF m g h 12 10 0 n sz := by
  cases e : tpB 32768 m.r1 with
  | true => exact .reg (tu12_10t m g h 0 n sz) (tEm e) (by omega) ⟨rfl, hr.1⟩ rfl rfl
  | false => exact .reg (tu12_10f m g h 0 n sz) (tEm e) (by omega) ⟨rfl, hr.1⟩ rfl rfl
theorem dtu13_10 : DoF m g h 13 10 0 n sz := by
  cases e : tpB 1 m.r1 with
  | true => exact .reg (tu13_10t m g h 0 n sz) (tEm e) (by omega) ⟨rfl, hr.1⟩ rfl rfl
  | false => exact .reg (tu13_10f m g h 0 n sz) (tEm e) (by omega) ⟨rfl, hr.1⟩ rfl rfl
theorem dtu14_10 : DoF m g h 14 10 0 n sz := by
  cases e : m.fc with
  | true => exact .reg (tu14_10t m g h 0 n sz) (tEm e) (by omega) ⟨rfl, hr.1⟩ rfl rfl
  | false => exact .reg (tu14_10f m g h 0 n sz) (tEm e) (by omega) ⟨rfl, hr.1⟩ rfl rfl
theorem dtu15_10 : DoF m g h 15 10 0 n sz := by
  cases e : m.fc with
  | true => exact .reg (tu15_10t m g h 0 n sz) (tEm e) (by omega) ⟨rfl, hr.1⟩ rfl rfl
  | false => exact .reg (tu15_10f m g h 0 n sz) (tEm e) (by omega) ⟨rfl, hr.1⟩ rfl rfl
theorem dtu12_11 : DoF m g h 12 11 0 n sz := by
  cases e : tpB 32768 m.r2 with
  | true => exact .reg (tu12_11t m g h 0 n sz) (tEm e) (by omega) ⟨rfl, hr.1⟩ rfl rfl
  | false => exact .reg (tu12_11f m g h 0 n sz) (tEm e) (by omega) ⟨rfl, hr.1⟩ rfl rfl
theorem dtu13_11 : DoF m g h 13 11 0 n sz := by
  cases e : tpB 1 m.r2 with
  | true => exact .reg (tu13_11t m g h 0 n sz) (tEm e) (by omega) ⟨rfl, hr.1⟩ rfl rfl
  | false => exact .reg (tu13_11f m g h 0 n sz) (tEm e) (by omega) ⟨rfl, hr.1⟩ rfl rfl
theorem dtu14_11 : DoF m g h 14 11 0 n sz := by
  cases e : m.fc with
  | true => exact .reg (tu14_11t m g h 0 n sz) (tEm e) (by omega) ⟨rfl, hr.1⟩ rfl rfl
  | false => exact .reg (tu14_11f m g h 0 n sz) (tEm e) (by omega) ⟨rfl, hr.1⟩ rfl rfl
theorem dtu15_11 : DoF m g h 15 11 0 n sz := by
  cases e : m.fc with
  | true => exact .reg (tu15_11t m g h 0 n sz) (tEm e) (by omega) ⟨rfl, hr.1⟩ rfl rfl
  | false => exact .reg (tu15_11f m g h 0 n sz) (tEm e) (by omega) ⟨rfl, hr.1⟩ rfl rfl
theorem dtu12_12 : DoF m g h 12 12 0 n sz := by
  cases e : tpB 32768 m.r3 with
  | true => exact .reg (tu12_12t m g h 0 n sz) (tEm e) (by omega) ⟨rfl, hr.1⟩ rfl rfl
  | false => exact .reg (tu12_12f m g h 0 n sz) (tEm e) (by omega) ⟨rfl, hr.1⟩ rfl rfl
theorem dtu13_12 : DoF m g h 13 12 0 n sz := by
  cases e : tpB 1 m.r3 with
  | true => exact .reg (tu13_12t m g h 0 n sz) (tEm e) (by omega) ⟨rfl, hr.1⟩ rfl rfl
  | false => exact .reg (tu13_12f m g h 0 n sz) (tEm e) (by omega) ⟨rfl, hr.1⟩ rfl rfl
theorem dtu14_12 : DoF m g h 14 12 0 n sz := by
  cases e : m.fc with
  | true => exact .reg (tu14_12t m g h 0 n sz) (tEm e) (by omega) ⟨rfl, hr.1⟩ rfl rfl
  | false => exact .reg (tu14_12f m g h 0 n sz) (tEm e) (by omega) ⟨rfl, hr.1⟩ rfl rfl
theorem dtu15_12 : DoF m g h 15 12 0 n sz := by
  cases e : m.fc with
  | true => exact .reg (tu15_12t m g h 0 n sz) (tEm e) (by omega) ⟨rfl, hr.1⟩ rfl rfl
  | false => exact .reg (tu15_12f m g h 0 n sz) (tEm e) (by omega) ⟨rfl, hr.1⟩ rfl rfl
theorem dtu12_13 : DoF m g h 12 13 0 n sz := by
  cases e : tpB 32768 m.r4 with
  | true => exact .reg (tu12_13t m g h 0 n sz) (tEm e) (by omega) ⟨rfl, hr.1⟩ rfl rfl
  | false => exact .reg (tu12_13f m g h 0 n sz) (tEm e) (by omega) ⟨rfl, hr.1⟩ rfl rfl
theorem dtu13_13 : DoF m g h 13 13 0 n sz := by
  cases e : tpB 1 m.r4 with
  | true => exact .reg (tu13_13t m g h 0 n sz) (tEm e) (by omega) ⟨rfl, hr.1⟩ rfl rfl
  | false => exact .reg (tu13_13f m g h 0 n sz) (tEm e) (by omega) ⟨rfl, hr.1⟩ rfl rfl
theorem dtu14_13 : DoF m g h 14 13 0 n sz := by
  cases e : m.fc with
  | true => exact .reg (tu14_13t m g h 0 n sz) (tEm e) (by omega) ⟨rfl, hr.1⟩ rfl rfl
  | false => exact .reg (tu14_13f m g h 0 n sz) (tEm e) (by omega) ⟨rfl, hr.1⟩ rfl rfl
theorem dtu15_13 : DoF m g h 15 13 0 n sz := by
  cases e : m.fc with
  | true => exact .reg (tu15_13t m g h 0 n sz) (tEm e) (by omega) ⟨rfl, hr.1⟩ rfl rfl
  | false => exact .reg (tu15_13f m g h 0 n sz) (tEm e) (by omega) ⟨rfl, hr.1⟩ rfl rfl
theorem dtu12_14 : DoF m g h 12 14 0 n sz := by
  cases e : tpB 32768 m.r5 with
  | true => exact .reg (tu12_14t m g h 0 n sz) (tEm e) (by omega) ⟨rfl, hr.1⟩ rfl rfl
  | false => exact .reg (tu12_14f m g h 0 n sz) (tEm e) (by omega) ⟨rfl, hr.1⟩ rfl rfl
theorem dtu13_14 : DoF m g h 13 14 0 n sz := by
  cases e : tpB 1 m.r5 with
  | true => exact .reg (tu13_14t m g h 0 n sz) (tEm e) (by omega) ⟨rfl, hr.1⟩ rfl rfl
  | false => exact .reg (tu13_14f m g h 0 n sz) (tEm e) (by omega) ⟨rfl, hr.1⟩ rfl rfl
theorem dtu14_14 : DoF m g h 14 14 0 n sz := by
  cases e : m.fc with
  | true => exact .reg (tu14_14t m g h 0 n sz) (tEm e) (by omega) ⟨rfl, hr.1⟩ rfl rfl
  | false => exact .reg (tu14_14f m g h 0 n sz) (tEm e) (by omega) ⟨rfl, hr.1⟩ rfl rfl
theorem dtu15_14 : DoF m g h 15 14 0 n sz := by
  cases e : m.fc with
  | true => exact .reg (tu15_14t m g h 0 n sz) (tEm e) (by omega) ⟨rfl, hr.1⟩ rfl rfl
  | false => exact .reg (tu15_14f m g h 0 n sz) (tEm e) (by omega) ⟨rfl, hr.1⟩ rfl rfl
theorem dtu12_15 : DoF m g h 12 15 0 n sz := by
  cases e : tpB 32768 m.r6 with
  | true => exact .reg (tu12_15t m g h 0 n sz) (tEm e) (by omega) ⟨rfl, hr.1⟩ rfl rfl
  | false => exact .reg (tu12_15f m g h 0 n sz) (tEm e) (by omega) ⟨rfl, hr.1⟩ rfl rfl
theorem dtu13_15 : DoF m g h 13 15 0 n sz := by
  cases e : tpB 1 m.r6 with
  | true => exact .reg (tu13_15t m g h 0 n sz) (tEm e) (by omega) ⟨rfl, hr.1⟩ rfl rfl
  | false => exact .reg (tu13_15f m g h 0 n sz) (tEm e) (by omega) ⟨rfl, hr.1⟩ rfl rfl
theorem dtu14_15 : DoF m g h 14 15 0 n sz := by
  cases e : m.fc with
  | true => exact .reg (tu14_15t m g h 0 n sz) (tEm e) (by omega) ⟨rfl, hr.1⟩ rfl rfl
  | false => exact .reg (tu14_15f m g h 0 n sz) (tEm e) (by omega) ⟨rfl, hr.1⟩ rfl rfl
theorem dtu15_15 : DoF m g h 15 15 0 n sz := by
  cases e : m.fc with
  | true => exact .reg (tu15_15t m g h 0 n sz) (tEm e) (by omega) ⟨rfl, hr.1⟩ rfl rfl
  | false => exact .reg (tu15_15f m g h 0 n sz) (tEm e) (by omega) ⟨rfl, hr.1⟩ rfl rfl
theorem dtu12_16 : DoF m g h 12 16 0 n sz := by
  cases e : tpB 32768 m.r7 with
  | true => exact .reg (tu12_16t m g h 0 n sz) (tEm e) (by omega) ⟨rfl, hr.1⟩ rfl rfl
  | false => exact .reg (tu12_16f m g h 0 n sz) (tEm e) (by omega) ⟨rfl, hr.1⟩ rfl rfl
theorem dtu13_16 : DoF m g h 13 16 0 n sz := by
  cases e : tpB 1 m.r7 with
  | true => exact .reg (tu13_16t m g h 0 n sz) (tEm e) (by omega) ⟨rfl, hr.1⟩ rfl rfl
  | false => exact .reg (tu13_16f m g h 0 n sz) (tEm e) (by omega) ⟨rfl, hr.1⟩ rfl rfl
theorem dtu14_16 : DoF m g h 14 16 0 n sz := by
  cases e : m.fc with
  | true => exact .reg (tu14_16t m g h 0 n sz) (tEm e) (by omega) ⟨rfl, hr.1⟩ rfl rfl
  | false => exact .reg (tu14_16f m g h 0 n sz) (tEm e) (by omega) ⟨rfl, hr.1⟩ rfl rfl
theorem dtu15_16 : DoF m g h 15 16 0 n sz := by
  cases e : m.fc with
  | true => exact .reg (tu15_16t m g h 0 n sz) (tEm e) (by omega) ⟨rfl, hr.1⟩ rfl rfl
  | false => exact .reg (tu15_16f m g h 0 n sz) (tEm e) (by omega) ⟨rfl, hr.1⟩ rfl rfl
end
end Go.Proofs.Ytnknopebjdgdjaa
namespace Go.Proofs.Ytnknopebjdgdjaa
open Go Go.Ly Go.RowKit
variable (m : Mc) (g h : Nat → Int) (op n sz : Int)
include m g h op n sz
set_option linter.unusedSectionVars false
theorem xc1_1 : eD [] m g h 17 1 1 n sz = oD [] 45 (hP { m with r0 := slo (slo m.r0 (lo8 m.r0)) (lo8 m.r0), ip := ipN m sz } g h) := by kernel_rfl
theorem xc1_2 : eD [] m g h 17 1 2 n sz = oD [] 45 (hP { m with r0 := slo m.r0 (lo8 m.r1), r1 := slo m.r1 (lo8 m.r0), ip := ipN m sz } g h) := by kernel_rfl
theorem xc1_3 : eD [] m g h 17 1 3 n sz = oD [] 45 (hP { m with r0 := slo m.r0 (lo8 m.r2), r2 := slo m.r2 (lo8 m.r0), ip := ipN m sz } g h) := by kernel_rfl
theorem xc1_4 : eD [] m g h 17 1 4 n sz = oD [] 45 (hP { m with r0 := slo m.r0 (lo8 m.r3), r3 := slo m.r3 (lo8 m.r0), ip := ipN m sz } g h) := by kernel_rfl
theorem xc1_6 : eD [] m g h 17 1 6 n sz = oD [] 45 (hP { m with r0 := slo m.r0 (hi8 m.r1), r1 := shi m.r1 (lo8 m.r0), ip := ipN m sz } g h) := by kernel_rfl
theorem xc1_7 : eD [] m g h 17 1 7 n sz = oD [] 45 (hP { m with r0 := slo m.r0 (hi8 m.r2), r2 := shi m.r2 (lo8 m.r0), ip := ipN m sz } g h) := by kernel_rfl
theorem xc1_8 : eD [] m g h 17 1 8 n sz = oD [] 45 (hP { m with r0 := slo m.r0 (hi8 m.r3), r3 := shi m.r3 (lo8 m.r0), ip := ipN m sz } g h) := by kernel_rfl
theorem xc2_1 : eD [] m g h 17 2 1 n sz = oD [] 45 (hP { m with r1 := slo m.r1 (lo8 m.r0), r0 := slo m.r0 (lo8 m.r1), ip := ipN m sz } g h) := by kernel_rfl
theorem xc2_2 : eD [] m g h 17 2 2 n sz = oD [] 45 (hP { m with r1 := slo (slo m.r1 (lo8 m.r1)) (lo8 m.r1), ip := ipN m sz } g h) := by kernel_rfl
theorem xc2_3 : eD [] m g h 17 2 3 n sz = oD [] 45 (hP { m with r1 := slo m.r1 (lo8 m.r2), r2 := slo m.r2 (lo8 m.r1), ip := ipN m sz } g h) := by kernel_rfl
theorem xc2_4 : eD [] m g h 17 2 4 n sz = oD [] 45 (hP { m with r1 := slo m.r1 (lo8 m.r3), r3 := slo m.r3 (lo8 m.r1), ip := ipN m sz } g h) := by kernel_rfl
theorem xc2_6 : eD [] m g h 17 2 6 n sz = oD [] 45 (hP { m with r1 := shi (slo m.r1 (hi8 m.r1)) (lo8 m.r1), ip := ipN m sz } g h) := by kernel_rfl
theorem xc2_7 : eD [] m g h 17 2 7 n sz = oD [] 45 (hP { m with r1 := slo m.r1 (hi8 m.r2), r2 := shi m.r2 (lo8 m.r1), ip := ipN m sz } g h) := by kernel_rfl
theorem xc2_8 : eD [] m g h 17 2 8 n sz = oD [] 45 (hP { m with r1 := slo m.r1 (hi8 m.r3), r3 := shi m.r3 (lo8 m.r1), ip := ipN m sz } g h) := by kernel_rfl
theorem xc3_1 : eD [] m g h 17 3 1 n sz = oD [] 45 (hP { m with r2 := slo m.r2 (lo8 m.r0), r0 := slo m.r0 (lo8 m.r2), ip := ipN m sz } g h) := by kernel_rfl
theorem xc3_2 : eD [] m g h 17 3 2 n sz = oD [] 45 (hP { m with r2 := slo m.r2 (lo8 m.r1), r1 := slo m.r1 (lo8 m.r2), ip := ipN m sz } g h) := by kernel_rfl
theorem xc3_3 : eD [] m g h 17 3 3 n sz = oD [] 45 (hP { m with r2 := slo (slo m.r2 (lo8 m.r2)) (lo8 m.r2), ip := ipN m sz } g h) := by kernel_rfl
theorem xc3_4 : eD [] m g h 17 3 4 n sz = oD [] 45 (hP { m with r2 := slo m.r2 (lo8 m.r3), r3 := slo m.r3 (lo8 m.r2), ip := ipN m sz } g h) := by kernel_rfl
theorem xc3_6 : eD [] m g h 17 3 6 n sz = oD [] 45 (hP { m with r2 := slo m.r2 (hi8 m.r1), r1 := shi m.r1 (lo8 m.r2), ip := ipN m sz } g h) := by kernel_rfl
theorem xc3_7 : eD [] m g h 17 3 7 n sz = oD [] 45 (hP { m with r2 := shi (slo m.r2 (hi8 m.r2)) (lo8 m.r2), ip := ipN m sz } g h) := by kernel_rfl
theorem xc3_8 : eD [] m g h 17 3 8 n sz = oD [] 45 (hP { m with r2 := slo m.r2 (hi8 m.r3), r3 := shi m.r3 (lo8 m.r2), ip := ipN m sz } g h) := by kernel_rfl
end Go.Proofs.Ytnknopebjdgdjaa
namespace Go.Proofs.Ytnknopebjdgdjaa
open Go Go.Ly Go.RowKit
variable (m : Mc) (g h : Nat → Int) (op n sz : Int)
include m g h op n sz
set_option linter.unusedSectionVars false
theorem xc4_1 : eD [] m g h 17 4 1 n sz = oD [] 45 (hP { m with r3 := slo m.r3 (lo8 m.r0), r0 := slo m.r0 (lo8 m.r3), ip := ipN m sz } g h) := by kernel_rfl
theorem xc4_2 : eD [] m g h 17 4 2 n sz = oD [] 45 (hP { m with r3 := slo m.r3 (lo8 m.r1), r1 := slo m.r1 (lo8 m.r3), ip := ipN m sz } g h) := by kernel_rfl
theorem xc4_3 : eD [] m g h 17 4 3 n sz = oD [] 45 (hP { m with r3 := slo m.r3 (lo8 m.r2), r2 := slo m.r2 (lo8 m.r3), ip := ipN m sz } g h) := by kernel_rfl
theorem xc4_4 : eD [] m g h 17 4 4 n sz = oD [] 45 (hP { m with r3 := slo (slo m.r3 (lo8 m.r3)) (lo8 m.r3), ip := ipN m sz } g h) := by kernel_rfl
theorem xc4_6 : eD [] m g h 17 4 6 n sz = oD [] 45 (hP { m with r3 := slo m.r3 (hi8 m.r1), r1 := shi m.r1 (lo8 m.r3), ip := ipN m sz } g h) := by kernel_rfl
theorem xc4_7 : eD [] m g h 17 4 7 n sz = oD [] 45 (hP { m with r3 := slo m.r3 (hi8 m.r2), r2 := shi m.r2 (lo8 m.r3), ip := ipN m sz } g h) := by kernel_rfl
theorem xc4_8 : eD [] m g h 17 4 8 n sz = oD [] 45 (hP { m with r3 := shi (slo m.r3 (hi8 m.r3)) (lo8 m.r3), ip := ipN m sz } g h) := by kernel_rfl
theorem xc6_1 : eD [] m g h 17 6 1 n sz = oD [] 45 (hP { m with r1 := shi m.r1 (lo8 m.r0), r0 := slo m.r0 (hi8 m.r1), ip := ipN m sz } g h) := by kernel_rfl
theorem xc6_2 : eD [] m g h 17 6 2 n sz = oD [] 45 (hP { m with r1 := slo (shi m.r1 (lo8 m.r1)) (hi8 m.r1), ip := ipN m sz } g h) := by kernel_rfl
theorem xc6_3 : eD [] m g h 17 6 3 n sz = oD [] 45 (hP { m with r1 := shi m.r1 (lo8 m.r2), r2 := slo m.r2 (hi8 m.r1), ip := ipN m sz } g h) := by kernel_rfl
theorem xc6_4 : eD [] m g h 17 6 4 n sz = oD [] 45 (hP { m with r1 := shi m.r1 (lo8 m.r3), r3 := slo m.r3 (hi8 m.r1), ip := ipN m sz } g h) := by kernel_rfl
theorem xc6_6 : eD [] m g h 17 6 6 n sz = oD [] 45 (hP { m with r1 := shi (shi m.r1 (hi8 m.r1)) (hi8 m.r1), ip := ipN m sz } g h) := by kernel_rfl
theorem xc6_7 : eD [] m g h 17 6 7 n sz = oD [] 45 (hP { m with r1 := shi m.r1 (hi8 m.r2), r2 := shi m.r2 (hi8 m.r1), ip := ipN m sz } g h) := by kernel_rfl
theorem xc6_8 : eD [] m g h 17 6 8 n sz = oD [] 45 (hP { m with r1 := shi m.r1 (hi8 m.r3), r3 := shi m.r3 (hi8 m.r1), ip := ipN m sz } g h) := by kernel_rfl
end Go.Proofs.Ytnknopebjdgdjaa
namespace Go.Proofs.Ytnknopebjdgdjaa
open Go Go.Ly Go.RowKit
variable (m : Mc) (g h : Nat → Int) (op n sz : Int)
include m g h op n sz
set_option linter.unusedSectionVars false
theorem xc7_1 : eD [] m g h 17 7 1 n sz = oD [] 45 (hP { m with r2 := shi m.r2 (lo8 m.r0), r0 := slo m.r0 (hi8 m.r2), ip := ipN m sz } g h) := by kernel_rfl
theorem xc7_2 : eD [] m g h 17 7 2 n sz = oD [] 45 (hP { m with r2 := shi m.r2 (lo8 m.r1), r1 := slo m.r1 (hi8 m.r2), ip := ipN m sz } g h) := by kernel_rfl
theorem xc7_3 : eD [] m g h 17 7 3 n sz = oD [] 45 (hP { m with r2 := slo (shi m.r2 (lo8 m.r2)) (hi8 m.r2), ip := ipN m sz } g h) := by kernel_rfl
theorem xc7_4 : eD [] m g h 17 7 4 n sz = oD [] 45 (hP { m with r2 := shi m.r2 (lo8 m.r3), r3 := slo m.r3 (hi8 m.r2), ip := ipN m sz } g h) := by kernel_rfl
theorem xc7_6 : eD [] m g h 17 7 6 n sz = oD [] 45 (hP { m with r2 := shi m.r2 (hi8 m.r1), r1 := shi m.r1 (hi8 m.r2), ip := ipN m sz } g h) := by kernel_rfl
theorem xc7_7 : eD [] m g h 17 7 7 n sz = oD [] 45 (hP { m with r2 := shi (shi m.r2 (hi8 m.r2)) (hi8 m.r2), ip := ipN m sz } g h) := by kernel_rfl
theorem xc7_8 : eD [] m g h 17 7 8 n sz = oD [] 45 (hP { m with r2 := shi m.r2 (hi8 m.r3), r3 := shi m.r3 (hi8 m.r2), ip := ipN m sz } g h) := by kernel_rfl
theorem xc8_1 : eD [] m g h 17 8 1 n sz = oD [] 45 (hP { m with r3 := shi m.r3 (lo8 m.r0), r0 := slo m.r0 (hi8 m.r3), ip := ipN m sz } g h) := by kernel_rfl
theorem xc8_2 : eD [] m g h 17 8 2 n sz = oD [] 45 (hP { m with r3 := shi m.r3 (lo8 m.r1), r1 := slo m.r1 (hi8 m.r3), ip := ipN m sz } g h) := by kernel_rfl
theorem xc8_3 : eD [] m g h 17 8 3 n sz = oD [] 45 (hP { m with r3 := shi m.r3 (lo8 m.r2), r2 := slo m.r2 (hi8 m.r3), ip := ipN m sz } g h) := by kernel_rfl
theorem xc8_4 : eD [] m g h 17 8 4 n sz = oD [] 45 (hP { m with r3 := slo (shi m.r3 (lo8 m.r3)) (hi8 m.r3), ip := ipN m sz } g h) := by kernel_rfl
theorem xc8_6 : eD [] m g h 17 8 6 n sz = oD [] 45 (hP { m with r3 := shi m.r3 (hi8 m.r1), r1 := shi m.r1 (hi8 m.r3), ip := ipN m sz } g h) := by kernel_rfl
theorem xc8_7 : eD [] m g h 17 8 7 n sz = oD [] 45 (hP { m with r3 := shi m.r3 (hi8 m.r2), r2 := shi m.r2 (hi8 m.r3), ip := ipN m sz } g h) := by kernel_rfl
theorem xc8_8 : eD [] m g h 17 8 8 n sz = oD [] 45 (hP { m with r3 := shi (shi m.r3 (hi8 m.r3)) (hi8 m.r3), ip := ipN m sz } g h) := by kernel_rfl
end Go.Proofs.Ytnknopebjdgdjaa
namespace Go.Proofs.Ytnknopebjdgdjaa
open Go Go.Ly Go.RowKit
section
variable {m : Mc} {g h : Nat → Int} {op n sz : Int}
variable (hr : Rw16 m) (hn : B16 n)
include hr hn
set_option linter.unusedSectionVars false
theorem dxc1_1 : DoF m g h 17 1 1 n sz := .reg (xc1_1 m g h 0 n sz) trivial (by omega) ⟨(hb_slo _ (hb_slo _ hr.1).2).1.trans (hb_slo _ hr.1).1, (hb_slo _ (hb_slo _ hr.1).2).2⟩ rfl rfl
theorem dxc1_2 : DoF m g h 17 1 2 n sz := .reg (xc1_2 m g h 0 n sz) trivial (by omega) (hb_slo _ hr.1) rfl rfl
theorem dxc1_3 : DoF m g h 17 1 3 n sz := .reg (xc1_3 m g h 0 n sz) trivial (by omega) (hb_slo _ hr.1) rfl rfl
theorem dxc1_4 : DoF m g h 17 1 4 n sz := .reg (xc1_4 m g h 0 n sz) trivial (by omega) (hb_slo _ hr.1) rfl rfl
theorem dxc1_6 : DoF m g h 17 1 6 n sz := .reg (xc1_6 m g h 0 n sz) trivial (by omega) (hb_slo _ hr.1) rfl rfl
theorem dxc1_7 : DoF m g h 17 1 7 n sz := .reg (xc1_7 m g h 0 n sz) trivial (by omega) (hb_slo _ hr.1) rfl rfl
theorem dxc1_8 : DoF m g h 17 1 8 n sz := .reg (xc1_8 m g h 0 n sz) trivial (by omega) (hb_slo _ hr.1) rfl rfl
theorem dxc2_1 : DoF m g h 17 2 1 n sz := .reg (xc2_1 m g h 0 n sz) trivial (by omega) (hb_slo _ hr.1) rfl rfl
theorem dxc2_2 : DoF m g h 17 2 2 n sz := .reg (xc2_2 m g h 0 n sz) trivial (by omega) ⟨rfl, hr.1⟩ rfl rfl
theorem dxc2_3 : DoF m g h 17 2 3 n sz := .reg (xc2_3 m g h 0 n sz) trivial (by omega) ⟨rfl, hr.1⟩ rfl rfl
theorem dxc2_4 : DoF m g h 17 2 4 n sz := .reg (xc2_4 m g h 0 n sz) trivial (by omega) ⟨rfl, hr.1⟩ rfl rfl
theorem dxc2_6 : DoF m g h 17 2 6 n sz := .reg (xc2_6 m g h 0 n sz) trivial (by omega) ⟨rfl, hr.1⟩ rfl rfl
theorem dxc2_7 : DoF m g h 17 2 7 n sz := .reg (xc2_7 m g h 0 n sz) trivial (by omega) ⟨rfl, hr.1⟩ rfl rfl
theorem dxc2_8 : DoF m g h 17 2 8 n sz := .reg (xc2_8 m g h 0 n sz) trivial (by omega) ⟨rfl, hr.1⟩ rfl rfl
theorem dxc3_1 : DoF m g h 17 3 1 n sz := .reg (xc3_1 m g h 0 n sz) trivial (by omega) (hb_slo _ hr.1) rfl rfl
theorem dxc3_2 : DoF m g h 17 3 2 n sz := .reg (xc3_2 m g h 0 n sz) trivial (by omega) ⟨rfl, hr.1⟩ rfl rfl
theorem dxc3_3 : DoF m g h 17 3 3 n sz := .reg (xc3_3 m g h 0 n sz) trivial (by omega) ⟨rfl, hr.1⟩ rfl rfl
theorem dxc3_4 : DoF m g h 17 3 4 n sz := .reg (xc3_4 m g h 0 n sz) trivial (by omega) ⟨rfl, hr.1⟩ rfl rfl
theorem dxc3_6 : DoF m g h 17 3 6 n sz := .reg (xc3_6 m g h 0 n sz) trivial (by omega) ⟨rfl, hr.1⟩ rfl rfl
theorem dxc3_7 : DoF m g h 17 3 7 n sz := .reg (xc3_7 m g h 0 n sz) trivial (by omega) ⟨rfl, hr.1⟩ rfl rfl
theorem dxc3_8 : DoF m g h 17 3 8 n sz := .reg (xc3_8 m g h 0 n sz) trivial (by omega) ⟨rfl, hr.1⟩ rfl rfl
theorem dxc4_1 : DoF m g h 17 4 1 n sz := .reg (xc4_1 m g h 0 n sz) trivial (by omega) (hb_slo _ hr.1) rfl rfl
theorem dxc4_2 : DoF m g h 17 4 2 n sz := .reg (xc4_2 m g h 0 n sz) trivial (by omega) ⟨rfl, hr.1⟩ rfl rfl
theorem dxc4_3 : DoF m g h 17 4 3 n sz := .reg (xc4_3 m g h 0 n sz) trivial (by omega) ⟨rfl, hr.1⟩ rfl rfl
theorem dxc4_4 : DoF m g h 17 4 4 n sz := .reg (xc4_4 m g h 0 n sz) trivial (by omega) ⟨rfl, hr.1⟩ rfl rfl
theorem dxc4_6 : DoF m g h 17 4 6 n sz := .reg (xc4_6 m g h 0 n sz) trivial (by omega) ⟨rfl, hr.1⟩ rfl rfl
theorem dxc4_7 : DoF m g h 17 4 7 n sz := .reg (xc4_7 m g h 0 n sz) trivial (by omega) ⟨rfl, hr.1⟩ rfl rfl
theorem dxc4_8 : DoF m g h 17 4 8 n sz := .reg (xc4_8 m g h 0 n sz) trivial (by omega) ⟨rfl, hr.1⟩ rfl rfl
theorem dxc6_1 : DoF m g h 17 6 1 n sz := .reg (xc6_1 m g h 0 n sz) trivial (by omega) (hb_slo _ hr.1) rfl rfl
theorem dxc6_2 : DoF m g h 17 6 2 n sz := .reg (xc6_2 m g h 0 n sz) trivial (by omega) ⟨rfl, hr.1⟩ rfl rfl
theorem dxc6_3 : DoF m g h 17 6 3 n sz := .reg (xc6_3 m g h 0 n sz) trivial (by omega) ⟨rfl, hr.1⟩ rfl rfl
theorem dxc6_4 : DoF m g h 17 6 4 n sz := .reg (xc6_4 m g h 0 n sz) trivial (by omega) ⟨rfl, hr.1⟩ rfl rfl
theorem dxc6_6 : DoF m g h 17 6 6 n sz := .reg (xc6_6 m g h 0 n sz) trivial (by omega) ⟨rfl, hr.1⟩ rfl rfl
theorem dxc6_7 : DoF m g h 17 6 7 n sz := .reg (xc6_7 m g h 0 n sz) trivial (by omega) ⟨rfl, hr.1⟩ rfl rfl
theorem dxc6_8 : DoF m g h 17 6 8 n sz := .reg (xc6_8 m g h 0 n sz) trivial (by omega) ⟨rfl, hr.1⟩ rfl rfl
theorem dxc7_1 : DoF m g h 17 7 1 n sz := .reg (xc7_1 m g h 0 n sz) trivial (by omega) (hb_slo _ hr.1) rfl rfl
theorem dxc7_2 : DoF m g h 17 7 2 n sz := .reg (xc7_2 m g h 0 n sz) trivial (by omega) ⟨rfl, hr.1⟩ rfl rfl
theorem dxc7_3 : DoF m g h 17 7 3 n sz := .reg (xc7_3 m g h 0 n sz) trivial (by omega) ⟨rfl, hr.1⟩ rfl rfl
theorem dxc7_4 : DoF m g h 17 7 4 n sz := .reg (xc7_4 m g h 0 n sz) trivial (by omega) ⟨rfl, hr.1⟩ rfl rfl
theorem dxc7_6 : DoF m g h 17 7 6 n sz := .reg (xc7_6 m g h 0 n sz) trivial (by omega) ⟨rfl, hr.1⟩ rfl rfl
theorem dxc7_7 : DoF m g h 17 7 7 n sz := .reg (xc7_7 m g h 0 n sz) trivial (by omega) ⟨rfl, hr.1⟩ rfl rfl
theorem dxc7_8 : DoF m g h 17 7 8 n sz := .reg (xc7_8 m g h 0 n sz) trivial (by omega) ⟨rfl, hr.1⟩ rfl rfl
theorem dxc8_1 : DoF m g h 17 8 1 n sz := .reg (xc8_1 m g h 0 n sz) trivial (by omega) (hb_slo _ hr.1) rfl rfl
theorem dxc8_2 : DoF m g h 17 8 2 n sz := .reg (xc8_2 m g h 0 n sz) trivial (by omega) ⟨rfl, hr.1⟩ rfl rfl
theorem dxc8_3 : DoF m g h 17 8 3 n sz := .reg (xc8_3 m g h 0 n sz) trivial (by omega) ⟨rfl, hr.1⟩ rfl rfl
theorem dxc8_4 : DoF m g h 17 8 4 n sz := .reg (xc8_4 m g h 0 n sz) trivial (by omega) ⟨rfl, hr.1⟩ rfl rfl
theorem dxc8_6 : DoF m g h 17 8 6 n sz := .reg (xc8_6 m g h 0 n sz) trivial (by omega) ⟨rfl, hr.1⟩ rfl rfl
theorem dxc8_7 : DoF m g h 17 8 7 n sz := .reg (xc8_7 m g h 0 n sz) trivial (by omega) ⟨rfl, hr.1⟩ rfl rfl
theorem dxc8_8 : DoF m g h 17 8 8 n sz := .reg (xc8_8 m g h 0 n sz) trivial (by omega) ⟨rfl, hr.1⟩ rfl rfl
end
end Go.Proofs.Ytnknopebjdgdjaa
namespace Go.Proofs.Ytnknopebjdgdjaa
open Go Go.Ly Go.RowKit
variable (m : Mc) (g h : Nat → Int) (op n sz : Int)
include m g h op n sz
set_option linter.unusedSectionVars false
theorem xc10_10 : eD [] m g h 17 10 10 n sz = oD [] 45 (hP { m with r1 := m.r1, ip := ipN m sz } g h) := by kernel_rfl
theorem xc10_11 : eD [] m g h 17 10 11 n sz = oD [] 45 (hP { m with r1 := m.r2, r2 := m.r1, ip := ipN m sz } g h) := by kernel_rfl
theorem xc10_12 : eD [] m g h 17 10 12 n sz = oD [] 45 (hP { m with r1 := m.r3, r3 := m.r1, ip := ipN m sz } g h) := by kernel_rfl
theorem xc10_13 : eD [] m g h 17 10 13 n sz = oD [] 45 (hP { m with r1 := m.r4, r4 := m.r1, ip := ipN m sz } g h) := by kernel_rfl
theorem xc10_14 : eD [] m g h 17 10 14 n sz = oD [] 45 (hP { m with r1 := m.r5, r5 := m.r1, ip := ipN m sz } g h) := by kernel_rfl
theorem xc10_15 : eD [] m g h 17 10 15 n sz = oD [] 45 (hP { m with r1 := m.r6, r6 := m.r1, ip := ipN m sz } g h) := by kernel_rfl
theorem xc10_16 : eD [] m g h 17 10 16 n sz = oD [] 45 (hP { m with r1 := m.r7, r7 := m.r1, ip := ipN m sz } g h) := by kernel_rfl
theorem xc11_10 : eD [] m g h 17 11 10 n sz = oD [] 45 (hP { m with r2 := m.r1, r1 := m.r2, ip := ipN m sz } g h) := by kernel_rfl
theorem xc11_11 : eD [] m g h 17 11 11 n sz = oD [] 45 (hP { m with r2 := m.r2, ip := ipN m sz } g h) := by kernel_rfl
theorem xc11_12 : eD [] m g h 17 11 12 n sz = oD [] 45 (hP { m with r2 := m.r3, r3 := m.r2, ip := ipN m sz } g h) := by kernel_rfl
theorem xc11_13 : eD [] m g h 17 11 13 n sz = oD [] 45 (hP { m with r2 := m.r4, r4 := m.r2, ip := ipN m sz } g h) := by kernel_rfl
theorem xc11_14 : eD [] m g h 17 11 14 n sz = oD [] 45 (hP { m with r2 := m.r5, r5 := m.r2, ip := ipN m sz } g h) := by kernel_rfl
theorem xc11_15 : eD [] m g h 17 11 15 n sz = oD [] 45 (hP { m with r2 := m.r6, r6 := m.r2, ip := ipN m sz } g h) := by kernel_rfl
theorem xc11_16 : eD [] m g h 17 11 16 n sz = oD [] 45 (hP { m with r2 := m.r7, r7 := m.r2, ip := ipN m sz } g h) := by kernel_rfl
theorem xc12_10 : eD [] m g h 17 12 10 n sz = oD [] 45 (hP { m with r3 := m.r1, r1 := m.r3, ip := ipN m sz } g h) := by kernel_rfl
theorem xc12_11 : eD [] m g h 17 12 11 n sz = oD [] 45 (hP { m with r3 := m.r2, r2 := m.r3, ip := ipN m sz } g h) := by kernel_rfl
theorem xc12_12 : eD [] m g h 17 12 12 n sz = oD [] 45 (hP { m with r3 := m.r3, ip := ipN m sz } g h) := by kernel_rfl
theorem xc12_13 : eD [] m g h 17 12 13 n sz = oD [] 45 (hP { m with r3 := m.r4, r4 := m.r3, ip := ipN m sz } g h) := by kernel_rfl
theorem xc12_14 : eD [] m g h 17 12 14 n sz = oD [] 45 (hP { m with r3 := m.r5, r5 := m.r3, ip := ipN m sz } g h) := by kernel_rfl
theorem xc12_15 : eD [] m g h 17 12 15 n sz = oD [] 45 (hP { m with r3 := m.r6, r6 := m.r3, ip := ipN m sz } g h) := by kernel_rfl
theorem xc12_16 : eD [] m g h 17 12 16 n sz = oD [] 45 (hP { m with r3 := m.r7, r7 := m.r3, ip := ipN m sz } g h) := by kernel_rfl
theorem xc13_10 : eD [] m g h 17 13 10 n sz = oD [] 45 (hP { m with r4 := m.r1, r1 := m.r4, ip := ipN m sz } g h) := by kernel_rfl
theorem xc13_11 : eD [] m g h 17 13 11 n sz = oD [] 45 (hP { m with r4 := m.r2, r2 := m.r4, ip := ipN m sz } g h) := by kernel_rfl
theorem xc13_12 : eD [] m g h 17 13 12 n sz = oD [] 45 (hP { m with r4 := m.r3, r3 := m.r4, ip := ipN m sz } g h) := by kernel_rfl
end Go.Proofs.Ytnknopebjdgdjaa
namespace Go.Proofs.Ytnknopebjdgdjaa
open Go Go.Ly Go.RowKit
variable (m : Mc) (g h : Nat → Int) (op n sz : Int)
include m g h op n sz
set_option linter.unusedSectionVars false
theorem xc13_13 : eD [] m g h 17 13 13 n sz = oD [] 45 (hP { m with r4 := m.r4, ip := ipN m sz } g h) := by kernel_rfl
theorem xc13_14 : eD [] m g h 17 13 14 n sz = oD [] 45 (hP { m with r4 := m.r5, r5 := m.r4, ip := ipN m sz } g h) := by kernel_rfl
theorem xc13_15 : eD [] m g h 17 13 15 n sz = oD [] 45 (hP { m with r4 := m.r6, r6 := m.r4, ip := ipN m sz } g h) := by kernel_rfl
theorem xc13_16 : eD [] m g h 17 13 16 n sz = oD [] 45 (hP { m with r4 := m.r7, r7 := m.r4, ip := ipN m sz } g h) := by kernel_rfl
theorem xc14_10 : eD [] m g h 17 14 10 n sz = oD [] 45 (hP { m with r5 := m.r1, r1 := m.r5, ip := ipN m sz } g h) := by kernel_rfl
theorem xc14_11 : eD [] m g h 17 14 11 n sz = oD [] 45 (hP { m with r5 := m.r2, r2 := m.r5, ip := ipN m sz } g h) := by kernel_rfl
theorem xc14_12 : eD [] m g h 17 14 12 n sz = oD [] 45 (hP { m with r5 := m.r3, r3 := m.r5, ip := ipN m sz } g h) := by kernel_rfl
theorem xc14_13 : eD [] m g h 17 14 13 n sz = oD [] 45 (hP { m with r5 := m.r4, r4 := m.r5, ip := ipN m sz } g h) := by kernel_rfl
theorem xc14_14 : eD [] m g h 17 14 14 n sz = oD [] 45 (hP { m with r5 := m.r5, ip := ipN m sz } g h) := by kernel_rfl
theorem xc14_15 : eD [] m g h 17 14 15 n sz = oD [] 45 (hP { m with r5 := m.r6, r6 := m.r5, ip := ipN m sz } g h) := by kernel_rfl
theorem xc14_16 : eD [] m g h 17 14 16 n sz = oD [] 45 (hP { m with r5 := m.r7, r7 := m.r5, ip := ipN m sz } g h) := by kernel_rfl
theorem xc15_10 : eD [] m g h 17 15 10 n sz = oD [] 45 (hP { m with r6 := m.r1, r1 := m.r6, ip := ipN m sz } g h) := by kernel_rfl
theorem xc15_11 : eD [] m g h 17 15 11 n sz = oD [] 45 (hP { m with r6 := m.r2, r2 := m.r6, ip := ipN m sz } g h) := by kernel_rfl
theorem xc15_12 : eD [] m g h 17 15 12 n sz = oD [] 45 (hP { m with r6 := m.r3, r3 := m.r6, ip := ipN m sz } g h) := by kernel_rfl
theorem xc15_13 : eD [] m g h 17 15 13 n sz = oD [] 45 (hP { m with r6 := m.r4, r4 := m.r6, ip := ipN m sz } g h) := by kernel_rfl
theorem xc15_14 : eD [] m g h 17 15 14 n sz = oD [] 45 (hP { m with r6 := m.r5, r5 := m.r6, ip := ipN m sz } g h) := by kernel_rfl
theorem xc15_15 : eD [] m g h 17 15 15 n sz = oD [] 45 (hP { m with r6 := m.r6, ip := ipN m sz } g h) := by kernel_rfl
theorem xc15_16 : eD [] m g h 17 15 16 n sz = oD [] 45 (hP { m with r6 := m.r7, r7 := m.r6, ip := ipN m sz } g h) := by kernel_rfl
theorem xc16_10 : eD [] m g h 17 16 10 n sz = oD [] 45 (hP { m with r7 := m.r1, r1 := m.r7, ip := ipN m sz } g h) := by kernel_rfl
theorem xc16_11 : eD [] m g h 17 16 11 n sz = oD [] 45 (hP { m with r7 := m.r2, r2 := m.r7, ip := ipN m sz } g h) := by kernel_rfl
theorem xc16_12 : eD [] m g h 17 16 12 n sz = oD [] 45 (hP { m with r7 := m.r3, r3 := m.r7, ip := ipN m sz } g h) := by kernel_rfl
theorem xc16_13 : eD [] m g h 17 16 13 n sz = oD [] 45 (hP { m with r7 := m.r4, r4 := m.r7, ip := ipN m sz } g h) := by kernel_rfl
theorem xc16_14 : eD [] m g h 17 16 14 n sz = oD [] 45 (hP { m with r7 := m.r5, r5 := m.r7, ip := ipN m sz } g h) := by kernel_rfl
theorem xc16_15 : eD [] m g h 17 16 15 n sz = oD [] 45 (hP { m with r7 := m.r6, r6 := m.r7, ip := ipN m sz } g h) := by kernel_rfl
end Go.Proofs.Ytnknopebjdgdjaa
namespace Go.Proofs.Ytnknopebjdgdjaa
open Go Go.Ly Go.RowKit
variable (m : Mc) (g h : Nat → Int) (op n sz : Int)
include m g h op n sz
set_option linter.unusedSectionVars false
theorem xc16_16 : eD [] m g h 17 16 16 n sz = oD [] 45 (hP { m with r7 := m.r7, ip := ipN m sz } g h) := by kernel_rfl
end Go.Proofs.Ytnknopebjdgdjaa
namespace Go.Proofs.Ytnknopebjdgdjaa
open Go Go.Ly Go.RowKit
section
variable {m : Mc} {g h : Nat → Int} {op n sz : Int}
variable (hr : Rw16 m) (hn : B16 n)
include hr hn
set_option linter.unusedSectionVars false
theorem dxc10_10 : DoF m g h 17 10 10 n sz := .reg (xc10_10 m g h 0 n sz) trivial (by omega) ⟨rfl, hr.1⟩ rfl rfl
theorem dxc10_11 : DoF m g h 17 10 11 n sz := .reg (xc10_11 m g h 0 n sz) trivial (by omega) ⟨rfl, hr.1⟩ rfl rfl
theorem dxc10_12 : DoF m g h 17 10 12 n sz := .reg (xc10_12 m g h 0 n sz) trivial (by omega) ⟨rfl, hr.1⟩ rfl rfl
theorem dxc10_13 : DoF m g h 17 10 13 n sz := .reg (xc10_13 m g h 0 n sz) trivial (by omega) ⟨rfl, hr.1⟩ rfl rfl
theorem dxc10_14 : DoF m g h 17 10 14 n sz := .reg (xc10_14 m g h 0 n sz) trivial (by omega) ⟨rfl, hr.1⟩ rfl rfl
theorem dxc10_15 : DoF m g h 17 10 15 n sz := .reg (xc10_15 m g h 0 n sz) trivial (by omega) ⟨rfl, hr.1⟩ rfl rfl
theorem dxc10_16 : DoF m g h 17 10 16 n sz := .reg (xc10_16 m g h 0 n sz) trivial (by omega) ⟨rfl, hr.1⟩ rfl rfl
theorem dxc11_10 : DoF m g h 17 11 10 n sz := .reg (xc11_10 m g h 0 n sz) trivial (by omega) ⟨rfl, hr.1⟩ rfl rfl
theorem dxc11_11 : DoF m g h 17 11 11 n sz := .reg (xc11_11 m g h 0 n sz) trivial (by omega) ⟨rfl, hr.1⟩ rfl rfl
theorem dxc11_12 : DoF m g h 17 11 12 n sz := .reg (xc11_12 m g h 0 n sz) trivial (by omega) ⟨rfl, hr.1⟩ rfl rfl
theorem dxc11_13 : DoF m g h 17 11 13 n sz := .reg (xc11_13 m g h 0 n sz) trivial (by omega) ⟨rfl, hr.1⟩ rfl rfl
theorem dxc11_14 : DoF m g h 17 11 14 n sz := .reg (xc11_14 m g h 0 n sz) trivial (by omega) ⟨rfl, hr.1⟩ rfl rfl
theorem dxc11_15 : DoF m g h 17 11 15 n sz := .reg (xc11_15 m g h 0 n sz) trivial (by omega) ⟨rfl, hr.1⟩ rfl rfl
theorem dxc11_16 : DoF m g h 17 11 16 n sz := .reg (xc11_16 m g h 0 n sz) trivial (by omega) ⟨rfl, hr.1⟩ rfl rfl
theorem dxc12_10 : DoF m g h 17 12 10 n sz := .reg (xc12_10 m g h 0 n sz) trivial (by omega) ⟨rfl, hr.1⟩ rfl rfl
theorem dxc12_11 : DoF m g h 17 12 11 n sz := .reg (xc12_11 m g h 0 n sz) trivial (by omega) ⟨rfl, hr.1⟩ rfl rfl
theorem dxc12_12 : DoF m g h 17 12 12 n sz := .reg (xc12_12 m g h 0 n sz) trivial (by omega) ⟨rfl, hr.1⟩ rfl rfl
theorem dxc12_13 : DoF m g h 17 12 13 n sz := .reg (xc12_13 m g h 0 n sz) trivial (by omega) ⟨rfl, hr.1⟩ rfl rfl
theorem dxc12_14 : DoF m g h 17 12 14 n sz := .reg (xc12_14 m g h 0 n sz) trivial (by omega) ⟨rfl, hr.1⟩ rfl rfl
theorem dxc12_15 : DoF m g h 17 12 15 n sz := .reg (xc12_15 m g h 0 n sz) trivial (by omega) ⟨rfl, hr.1⟩ rfl rfl
theorem dxc12_16 : DoF m g h 17 12 16 n sz := .reg (xc12_16 m g h 0 n sz) trivial (by omega) ⟨rfl, hr.1⟩ rfl rfl
theorem dxc13_10 : DoF m g h 17 13 10 n sz := .reg (xc13_10 m g h 0 n sz) trivial (by omega) ⟨rfl, hr.1⟩ rfl rfl
theorem dxc13_11 : DoF m g h 17 13 11 n sz := .reg (xc13_11 m g h 0 n sz) trivial (by omega) ⟨rfl, hr.1⟩ rfl rfl
theorem dxc13_12 : DoF m g h 17 13 12 n sz := .reg (xc13_12 m g h 0 n sz) trivial (by omega) ⟨rfl, hr.1⟩ rfl rfl
theorem dxc13_13 : DoF m g h 17 13 13 n sz := .reg (xc13_13 m g h 0 n sz) trivial (by omega) ⟨rfl, hr.1⟩ rfl rfl
theorem dxc13_14 : DoF m g h 17 13 14 n sz := .reg (xc13_14 m g h 0 n sz) trivial (by omega) ⟨rfl, hr.1⟩ rfl rfl
theorem dxc13_15 : DoF m g h 17 13 15 n sz := .reg (xc13_15 m g h 0 n sz) trivial (by omega) ⟨rfl, hr.1⟩ rfl rfl
theorem dxc13_16 : DoF m g h 17 13 16 n sz := .reg (xc13_16 m g h 0 n sz) trivial (by omega) ⟨rfl, hr.1⟩ rfl rfl
theorem dxc14_10 : DoF m g h 17 14 10 n sz := .reg (xc14_10 m g h 0 n sz) trivial (by omega) ⟨rfl, hr.1⟩ rfl rfl
theorem dxc14_11 : DoF m g h 17 14 11 n sz := .reg (xc14_11 m g h 0 n sz) trivial (by omega) ⟨rfl, hr.1⟩ rfl rfl
theorem dxc14_12 : DoF m g h 17 14 12 n sz := .reg (xc14_12 m g h 0 n sz) trivial (by omega) ⟨rfl, hr.1⟩ rfl rfl
theorem dxc14_13 : DoF m g h 17 14 13 n sz := .reg (xc14_13 m g h 0 n sz) trivial (by omega) ⟨rfl, hr.1⟩ rfl rfl
theorem dxc14_14 : DoF m g h 17 14 14 n sz := .reg (xc14_14 m g h 0 n sz) trivial (by omega) ⟨rfl, hr.1⟩ rfl rfl
theorem dxc14_15 : DoF m g h 17 14 15 n sz := .reg (xc14_15 m g h 0 n sz) trivial (by omega) ⟨rfl, hr.1⟩ rfl rfl
theorem dxc14_16 : DoF m g h 17 14 16 n sz := .reg (xc14_16 m g h 0 n sz) trivial (by omega) ⟨rfl, hr.1⟩ rfl rfl
theorem dxc15_10 : DoF m g h 17 15 10 n sz := .reg (xc15_10 m g h 0 n sz) trivial (by omega) ⟨rfl, hr.1⟩ rfl rfl
theorem dxc15_11 : DoF m g h 17 15 11 n sz := .reg (xc15_11 m g h 0 n sz) trivial (by omega) ⟨rfl, hr.1⟩ rfl rfl
theorem dxc15_12 : DoF m g h 17 15 12 n sz := .reg (xc15_12 m g h 0 n sz) trivial (by omega) ⟨rfl, hr.1⟩ rfl rfl
theorem dxc15_13 : DoF m g h 17 15 13 n sz := .reg (xc15_13 m g h 0 n sz) trivial (by omega) ⟨rfl, hr.1⟩ rfl rfl
theorem dxc15_14 : DoF m g h 17 15 14 n sz := .reg (xc15_14 m g h 0 n sz) trivial (by omega) ⟨rfl, hr.1⟩ rfl rfl
theorem dxc15_15 : DoF m g h 17 15 15 n sz := .reg (xc15_15 m g h 0 n sz) trivial (by omega) ⟨rfl, hr.1⟩ rfl rfl
theorem dxc15_16 : DoF m g h 17 15 16 n sz := .reg (xc15_16 m g h 0 n sz) trivial (by omega) ⟨rfl, hr.1⟩ rfl rfl
theorem dxc16_10 : DoF m g h 17 16 10 n sz := .reg (xc16_10 m g h 0 n sz) trivial (by omega) ⟨rfl, hr.1⟩ rfl rfl
theorem dxc16_11 : DoF m g h 17 16 11 n sz := .reg (xc16_11 m g h 0 n sz) trivial (by omega) ⟨rfl, hr.1⟩ rfl rfl
theorem dxc16_12 : DoF m g h 17 16 12 n sz := .reg (xc16_12 m g h 0 n sz) trivial (by omega) ⟨rfl, hr.1⟩ rfl rfl
theorem dxc16_13 : DoF m g h 17 16 13 n sz := .reg (xc16_13 m g h 0 n sz) trivial (by omega) ⟨rfl, hr.1⟩ rfl rfl
theorem dxc16_14 : DoF m g h 17 16 14 n sz := .reg (xc16_14 m g h 0 n sz) trivial (by omega) ⟨rfl, hr.1⟩ rfl rfl
theorem dxc16_15 : DoF m g h 17 16 15 n sz := .reg (xc16_15 m g h 0 n sz) trivial (by omega) ⟨rfl, hr.1⟩ rfl rfl
theorem dxc16_16 : DoF m g h 17 16 16 n sz := .reg (xc16_16 m g h 0 n sz) trivial (by omega) ⟨rfl, hr.1⟩ rfl rfl
end
end Go.Proofs.Ytnknopebjdgdjaa
end
