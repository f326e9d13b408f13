/- Part 8 of the texts that the law needs, laid together. By program (pack.py). -/
import Derived.Test.YtkemllgkkngcjaaPqc
import Derived.Test.YtkemllgkkngcjaaPqg
import Derived.KernelRfl
set_option linter.unusedVariables false
set_option linter.unusedSimpArgs false
noncomputable section
namespace Go.Proofs.Ytkemllgkkngcjaa
open Go Go.Ly Go.RowKit
theorem byte2 {p : Int → Prop} (h : ∀ n : Fin 256, p (n.val : Int)) (b : Int) (h0 : 0 ≤ b ∧ b ≤ 255) : p b := fin_all 256 h b h0.1 (by omega)
theorem a2 (a : Int) (h : 0 ≤ a ∧ a ≤ 255) : (bits .and .u8 a 2 == 0) = (a / 2 % 2 == 0) := byte2 (p := fun a => (bits .and .u8 a 2 == 0) = (a / 2 % 2 == 0)) (by decide +kernel) a h
theorem a252 (a : Int) (h : 0 ≤ a ∧ a ≤ 255) : (bits .and .u8 a 252 == 136) = (a / 4 == 34) := byte2 (p := fun a => (bits .and .u8 a 252 == 136) = (a / 4 == 34)) (by decide +kernel) a h
theorem a1 (a : Int) (h : 0 ≤ a ∧ a ≤ 255) : bits .and .u8 a 1 = a % 2 := byte2 (p := fun a => bits .and .u8 a 1 = a % 2) (by decide +kernel) a h
theorem a15 (a : Int) (h : 0 ≤ a ∧ a ≤ 255) : bits .and .u8 a 15 = a % 16 := byte2 (p := fun a => bits .and .u8 a 15 = a % 16) (by decide +kernel) a h
theorem rgs_t (x : Int) : rgs x true = x % 8 + 9 := rfl
theorem rgs_f (x : Int) : rgs x false = x % 8 + 1 := rfl
theorem fdv (a : Int) (h : 0 ≤ a ∧ a ≤ 255) (k : Int) (hk : 0 ≤ k) : a.fdiv k = a / k := Int.fdiv_eq_ediv_of_nonneg _ hk
theorem gu_0 (a m : Int) : endsAt [] (Ly.run ctxU 900 [(4, true), (3, true)] (Ly.start Try.f15 [.int .u8 a, .int .u8 m] H0)) = some ([(decide (a < 64) == true, true), (decide (bits .and .u8 a 7 < 2), true)], .tuple ⟨[.int .i64 (IntKind.i64.wrap (IntKind.i64.wrap (a.fdiv 8) + 2)), .int .i64 (rgs m (bits .and .u8 a 1 == 1)), .int .i64 (rgs (m.fdiv 8) (bits .and .u8 a 1 == 1))]⟩, 0, []) := by kernel_rfl
theorem gu_1 (a m : Int) : endsAt [] (Ly.run ctxU 900 [(4, true), (3, false), (0, true), (3, true)] (Ly.start Try.f15 [.int .u8 a, .int .u8 m] H0)) = some ([(decide (a < 64) == true, true), (decide (bits .and .u8 a 7 < 2), false), (decide (a < 64) == true, true), (bits .and .u8 a 7 == 2, true)], .tuple ⟨[.int .i64 (IntKind.i64.wrap (IntKind.i64.wrap (a.fdiv 8) + 2)), .int .i64 (rgs (m.fdiv 8) (bits .and .u8 a 1 == 1)), .int .i64 17]⟩, 0, []) := by kernel_rfl
theorem gu_2 (a m : Int) : endsAt [] (Ly.run ctxU 900 [(4, true), (3, false), (0, true), (3, false), (0, true), (3, true)] (Ly.start Try.f15 [.int .u8 a, .int .u8 m] H0)) = some ([(decide (a < 64) == true, true), (decide (bits .and .u8 a 7 < 2), false), (decide (a < 64) == true, true), (bits .and .u8 a 7 == 2, false), (decide (a < 64) == true, true), (bits .and .u8 a 7 == 4, true)], .tuple ⟨[.int .i64 (IntKind.i64.wrap (IntKind.i64.wrap (a.fdiv 8) + 2)), .int .i64 1, .int .i64 20]⟩, 0, []) := by kernel_rfl
theorem gu_3 (a m : Int) : endsAt [] (Ly.run ctxU 900 [(4, true), (3, false), (0, true), (3, false), (0, true), (3, false), (0, true)] (Ly.start Try.f15 [.int .u8 a, .int .u8 m] H0)) = some ([(decide (a < 64) == true, true), (decide (bits .and .u8 a 7 < 2), false), (decide (a < 64) == true, true), (bits .and .u8 a 7 == 2, false), (decide (a < 64) == true, true), (bits .and .u8 a 7 == 4, false), (a == 39, true)], .tuple ⟨[.int .i64 22, .int .i64 0, .int .i64 0]⟩, 0, []) := by kernel_rfl
theorem gu_4 (a m : Int) : endsAt [] (Ly.run ctxU 900 [(4, true), (3, false), (0, true), (3, false), (0, true), (3, false), (0, false), (1, true)] (Ly.start Try.f15 [.int .u8 a, .int .u8 m] H0)) = some ([(decide (a < 64) == true, true), (decide (bits .and .u8 a 7 < 2), false), (decide (a < 64) == true, true), (bits .and .u8 a 7 == 2, false), (decide (a < 64) == true, true), (bits .and .u8 a 7 == 4, false), (a == 39, false), (a.fdiv 16 == 4, true)], .tuple ⟨[.int .i64 (IntKind.i64.wrap (10 + IntKind.i64.wrap (bits .and .u8 (a.fdiv 8) 1))), .int .i64 (rgs a true), .int .i64 0]⟩, 0, []) := by kernel_rfl
theorem gu_5 (a m : Int) : endsAt [] (Ly.run ctxU 900 [(4, true), (3, false), (0, true), (3, false), (0, true), (3, false), (0, false), (1, false), (1, true)] (Ly.start Try.f15 [.int .u8 a, .int .u8 m] H0)) = some ([(decide (a < 64) == true, true), (decide (bits .and .u8 a 7 < 2), false), (decide (a < 64) == true, true), (bits .and .u8 a 7 == 2, false), (decide (a < 64) == true, true), (bits .and .u8 a 7 == 4, false), (a == 39, false), (a.fdiv 16 == 4, false), (a.fdiv 16 == 5, true)], .tuple ⟨[.int .i64 (IntKind.i64.wrap (18 + IntKind.i64.wrap (bits .and .u8 (a.fdiv 8) 1))), .int .i64 (rgs a true), .int .i64 0]⟩, 0, []) := by kernel_rfl
theorem gu_6 (a m : Int) : endsAt [] (Ly.run ctxU 900 [(4, true), (3, false), (0, true), (3, false), (0, true), (3, false), (0, false), (1, false), (1, false), (1, true)] (Ly.start Try.f15 [.int .u8 a, .int .u8 m] H0)) = some ([(decide (a < 64) == true, true), (decide (bits .and .u8 a 7 < 2), false), (decide (a < 64) == true, true), (bits .and .u8 a 7 == 2, false), (decide (a < 64) == true, true), (bits .and .u8 a 7 == 4, false), (a == 39, false), (a.fdiv 16 == 4, false), (a.fdiv 16 == 5, false), (a.fdiv 16 == 7, true)], .tuple ⟨[.int .i64 (IntKind.i64.wrap (40 + IntKind.i64.wrap (bits .and .u8 a 15))), .int .i64 20, .int .i64 0]⟩, 0, []) := by kernel_rfl
theorem gu_7 (a m : Int) : endsAt [] (Ly.run ctxU 900 [(4, true), (3, false), (0, true), (3, false), (0, true), (3, false), (0, false), (1, false), (1, false), (1, false), (0, false), (0, false), (0, false), (1, true)] (Ly.start Try.f15 [.int .u8 a, .int .u8 m] H0)) = some ([(decide (a < 64) == true, true), (decide (bits .and .u8 a 7 < 2), false), (decide (a < 64) == true, true), (bits .and .u8 a 7 == 2, false), (decide (a < 64) == true, true), (bits .and .u8 a 7 == 4, false), (a == 39, false), (a.fdiv 16 == 4, false), (a.fdiv 16 == 5, false), (a.fdiv 16 == 7, false), (a == 128, false), (a == 134, false), (a == 135, false), (a.fdiv 8 == 22, true)], .tuple ⟨[.int .i64 1, .int .i64 (rgs a false), .int .i64 20]⟩, 0, []) := by kernel_rfl
theorem gu_8 (a m : Int) : endsAt [] (Ly.run ctxU 900 [(4, true), (3, false), (0, true), (3, false), (0, true), (3, false), (0, false), (1, false), (1, false), (1, false), (0, false), (0, false), (0, false), (1, false), (1, true)] (Ly.start Try.f15 [.int .u8 a, .int .u8 m] H0)) = some ([(decide (a < 64) == true, true), (decide (bits .and .u8 a 7 < 2), false), (decide (a < 64) == true, true), (bits .and .u8 a 7 == 2, false), (decide (a < 64) == true, true), (bits .and .u8 a 7 == 4, false), (a == 39, false), (a.fdiv 16 == 4, false), (a.fdiv 16 == 5, false), (a.fdiv 16 == 7, false), (a == 128, false), (a == 134, false), (a == 135, false), (a.fdiv 8 == 22, false), (a.fdiv 8 == 23, true)], .tuple ⟨[.int .i64 1, .int .i64 (rgs a true), .int .i64 20]⟩, 0, []) := by kernel_rfl
theorem gu_9 (a m : Int) : endsAt [] (Ly.run ctxU 900 [(4, true), (3, false), (0, true), (3, false), (0, true), (3, false), (0, false), (1, false), (1, false), (1, false), (0, false), (0, false), (0, false), (1, false), (1, false), (0, false), (0, false), (0, false), (0, false), (0, false), (4, false), (0, true), (1, true), (0, true)] (Ly.start Try.f15 [.int .u8 a, .int .u8 m] H0)) = some ([(decide (a < 64) == true, true), (decide (bits .and .u8 a 7 < 2), false), (decide (a < 64) == true, true), (bits .and .u8 a 7 == 2, false), (decide (a < 64) == true, true), (bits .and .u8 a 7 == 4, false), (a == 39, false), (a.fdiv 16 == 4, false), (a.fdiv 16 == 5, false), (a.fdiv 16 == 7, false), (a == 128, false), (a == 134, false), (a == 135, false), (a.fdiv 8 == 22, false), (a.fdiv 8 == 23, false), (a == 198, false), (a == 208, false), (a == 209, false), (a == 246, false), ((a == 254) == true, false), (a == 254, false), (bits .and .u8 a 252 == 136, true), (m.fdiv 64 == 3, true), (bits .and .u8 a 2 == 0, true)], .tuple ⟨[.int .i64 1, .int .i64 (rgs m (bits .and .u8 a 1 == 1)), .int .i64 (rgs (m.fdiv 8) (bits .and .u8 a 1 == 1))]⟩, 0, []) := by kernel_rfl
theorem gu_10 (a m : Int) : endsAt [] (Ly.run ctxU 900 [(4, true), (3, false), (0, true), (3, false), (0, true), (3, false), (0, false), (1, false), (1, false), (1, false), (0, false), (0, false), (0, false), (1, false), (1, false), (0, false), (0, false), (0, false), (0, false), (0, false), (4, false), (0, true), (1, true), (0, false)] (Ly.start Try.f15 [.int .u8 a, .int .u8 m] H0)) = some ([(decide (a < 64) == true, true), (decide (bits .and .u8 a 7 < 2), false), (decide (a < 64) == true, true), (bits .and .u8 a 7 == 2, false), (decide (a < 64) == true, true), (bits .and .u8 a 7 == 4, false), (a == 39, false), (a.fdiv 16 == 4, false), (a.fdiv 16 == 5, false), (a.fdiv 16 == 7, false), (a == 128, false), (a == 134, false), (a == 135, false), (a.fdiv 8 == 22, false), (a.fdiv 8 == 23, false), (a == 198, false), (a == 208, false), (a == 209, false), (a == 246, false), ((a == 254) == true, false), (a == 254, false), (bits .and .u8 a 252 == 136, true), (m.fdiv 64 == 3, true), (bits .and .u8 a 2 == 0, false)], .tuple ⟨[.int .i64 1, .int .i64 (rgs (m.fdiv 8) (bits .and .u8 a 1 == 1)), .int .i64 (rgs m (bits .and .u8 a 1 == 1))]⟩, 0, []) := by kernel_rfl
theorem gu_11 (a m : Int) : endsAt [] (Ly.run ctxU 900 [(4, true), (3, false), (0, true), (3, false), (0, true), (3, false), (0, false), (1, false), (1, false), (1, false), (0, false), (0, false), (0, false), (1, false), (1, false), (0, false), (0, false), (0, false), (0, false), (0, false), (4, false), (0, true), (1, false), (0, true), (0, true)] (Ly.start Try.f15 [.int .u8 a, .int .u8 m] H0)) = some ([(decide (a < 64) == true, true), (decide (bits .and .u8 a 7 < 2), false), (decide (a < 64) == true, true), (bits .and .u8 a 7 == 2, false), (decide (a < 64) == true, true), (bits .and .u8 a 7 == 4, false), (a == 39, false), (a.fdiv 16 == 4, false), (a.fdiv 16 == 5, false), (a.fdiv 16 == 7, false), (a == 128, false), (a == 134, false), (a == 135, false), (a.fdiv 8 == 22, false), (a.fdiv 8 == 23, false), (a == 198, false), (a == 208, false), (a == 209, false), (a == 246, false), ((a == 254) == true, false), (a == 254, false), (bits .and .u8 a 252 == 136, true), (m.fdiv 64 == 3, false), (bits .and .u8 m 7 == 7, true), (bits .and .u8 a 2 == 0, true)], .tuple ⟨[.int .i64 1, .int .i64 17, .int .i64 (rgs (m.fdiv 8) (bits .and .u8 a 1 == 1))]⟩, 0, []) := by kernel_rfl
theorem gu_12 (a m : Int) : endsAt [] (Ly.run ctxU 900 [(4, true), (3, false), (0, true), (3, false), (0, true), (3, false), (0, false), (1, false), (1, false), (1, false), (0, false), (0, false), (0, false), (1, false), (1, false), (0, false), (0, false), (0, false), (0, false), (0, false), (4, false), (0, true), (1, false), (0, true), (0, false)] (Ly.start Try.f15 [.int .u8 a, .int .u8 m] H0)) = some ([(decide (a < 64) == true, true), (decide (bits .and .u8 a 7 < 2), false), (decide (a < 64) == true, true), (bits .and .u8 a 7 == 2, false), (decide (a < 64) == true, true), (bits .and .u8 a 7 == 4, false), (a == 39, false), (a.fdiv 16 == 4, false), (a.fdiv 16 == 5, false), (a.fdiv 16 == 7, false), (a == 128, false), (a == 134, false), (a == 135, false), (a.fdiv 8 == 22, false), (a.fdiv 8 == 23, false), (a == 198, false), (a == 208, false), (a == 209, false), (a == 246, false), ((a == 254) == true, false), (a == 254, false), (bits .and .u8 a 252 == 136, true), (m.fdiv 64 == 3, false), (bits .and .u8 m 7 == 7, true), (bits .and .u8 a 2 == 0, false)], .tuple ⟨[.int .i64 1, .int .i64 (rgs (m.fdiv 8) (bits .and .u8 a 1 == 1)), .int .i64 17]⟩, 0, []) := by kernel_rfl
theorem gu_13 (a m : Int) : endsAt [] (Ly.run ctxU 900 [(4, true), (3, false), (0, true), (3, false), (0, true), (3, false), (0, false), (1, false), (1, false), (1, false), (0, false), (0, false), (0, false), (1, false), (1, false), (0, false), (0, false), (0, false), (0, false), (0, false), (4, false), (0, true), (1, false), (0, false), (0, true), (0, true)] (Ly.start Try.f15 [.int .u8 a, .int .u8 m] H0)) = some ([(decide (a < 64) == true, true), (decide (bits .and .u8 a 7 < 2), false), (decide (a < 64) == true, true), (bits .and .u8 a 7 == 2, false), (decide (a < 64) == true, true), (bits .and .u8 a 7 == 4, false), (a == 39, false), (a.fdiv 16 == 4, false), (a.fdiv 16 == 5, false), (a.fdiv 16 == 7, false), (a == 128, false), (a == 134, false), (a == 135, false), (a.fdiv 8 == 22, false), (a.fdiv 8 == 23, false), (a == 198, false), (a == 208, false), (a == 209, false), (a == 246, false), ((a == 254) == true, false), (a == 254, false), (bits .and .u8 a 252 == 136, true), (m.fdiv 64 == 3, false), (bits .and .u8 m 7 == 7, false), (bits .and .u8 m 7 == 4, true), (bits .and .u8 a 2 == 0, true)], .tuple ⟨[.int .i64 1, .int .i64 18, .int .i64 (rgs (m.fdiv 8) (bits .and .u8 a 1 == 1))]⟩, 0, []) := by kernel_rfl
theorem gu_14 (a m : Int) : endsAt [] (Ly.run ctxU 900 [(4, true), (3, false), (0, true), (3, false), (0, true), (3, false), (0, false), (1, false), (1, false), (1, false), (0, false), (0, false), (0, false), (1, false), (1, false), (0, false), (0, false), (0, false), (0, false), (0, false), (4, false), (0, true), (1, false), (0, false), (0, true), (0, false)] (Ly.start Try.f15 [.int .u8 a, .int .u8 m] H0)) = some ([(decide (a < 64) == true, true), (decide (bits .and .u8 a 7 < 2), false), (decide (a < 64) == true, true), (bits .and .u8 a 7 == 2, false), (decide (a < 64) == true, true), (bits .and .u8 a 7 == 4, false), (a == 39, false), (a.fdiv 16 == 4, false), (a.fdiv 16 == 5, false), (a.fdiv 16 == 7, false), (a == 128, false), (a == 134, false), (a == 135, false), (a.fdiv 8 == 22, false), (a.fdiv 8 == 23, false), (a == 198, false), (a == 208, false), (a == 209, false), (a == 246, false), ((a == 254) == true, false), (a == 254, false), (bits .and .u8 a 252 == 136, true), (m.fdiv 64 == 3, false), (bits .and .u8 m 7 == 7, false), (bits .and .u8 m 7 == 4, true), (bits .and .u8 a 2 == 0, false)], .tuple ⟨[.int .i64 1, .int .i64 (rgs (m.fdiv 8) (bits .and .u8 a 1 == 1)), .int .i64 18]⟩, 0, []) := by kernel_rfl
theorem gu_15 (a m : Int) : endsAt [] (Ly.run ctxU 900 [(4, true), (3, false), (0, true), (3, false), (0, true), (3, false), (0, false), (1, false), (1, false), (1, false), (0, false), (0, false), (0, false), (1, false), (1, false), (0, false), (0, false), (0, false), (0, false), (0, false), (4, false), (0, true), (1, false), (0, false), (0, false), (0, true), (0, true)] (Ly.start Try.f15 [.int .u8 a, .int .u8 m] H0)) = some ([(decide (a < 64) == true, true), (decide (bits .and .u8 a 7 < 2), false), (decide (a < 64) == true, true), (bits .and .u8 a 7 == 2, false), (decide (a < 64) == true, true), (bits .and .u8 a 7 == 4, false), (a == 39, false), (a.fdiv 16 == 4, false), (a.fdiv 16 == 5, false), (a.fdiv 16 == 7, false), (a == 128, false), (a == 134, false), (a == 135, false), (a.fdiv 8 == 22, false), (a.fdiv 8 == 23, false), (a == 198, false), (a == 208, false), (a == 209, false), (a == 246, false), ((a == 254) == true, false), (a == 254, false), (bits .and .u8 a 252 == 136, true), (m.fdiv 64 == 3, false), (bits .and .u8 m 7 == 7, false), (bits .and .u8 m 7 == 4, false), (bits .and .u8 m 7 == 6, true), (bits .and .u8 a 2 == 0, true)], .tuple ⟨[.int .i64 1, .int .i64 19, .int .i64 (rgs (m.fdiv 8) (bits .and .u8 a 1 == 1))]⟩, 0, []) := by kernel_rfl
theorem gu_16 (a m : Int) : endsAt [] (Ly.run ctxU 900 [(4, true), (3, false), (0, true), (3, false), (0, true), (3, false), (0, false), (1, false), (1, false), (1, false), (0, false), (0, false), (0, false), (1, false), (1, false), (0, false), (0, false), (0, false), (0, false), (0, false), (4, false), (0, true), (1, false), (0, false), (0, false), (0, true), (0, false)] (Ly.start Try.f15 [.int .u8 a, .int .u8 m] H0)) = some ([(decide (a < 64) == true, true), (decide (bits .and .u8 a 7 < 2), false), (decide (a < 64) == true, true), (bits .and .u8 a 7 == 2, false), (decide (a < 64) == true, true), (bits .and .u8 a 7 == 4, false), (a == 39, false), (a.fdiv 16 == 4, false), (a.fdiv 16 == 5, false), (a.fdiv 16 == 7, false), (a == 128, false), (a == 134, false), (a == 135, false), (a.fdiv 8 == 22, false), (a.fdiv 8 == 23, false), (a == 198, false), (a == 208, false), (a == 209, false), (a == 246, false), ((a == 254) == true, false), (a == 254, false), (bits .and .u8 a 252 == 136, true), (m.fdiv 64 == 3, false), (bits .and .u8 m 7 == 7, false), (bits .and .u8 m 7 == 4, false), (bits .and .u8 m 7 == 6, true), (bits .and .u8 a 2 == 0, false)], .tuple ⟨[.int .i64 1, .int .i64 (rgs (m.fdiv 8) (bits .and .u8 a 1 == 1)), .int .i64 19]⟩, 0, []) := by kernel_rfl
theorem gu_17 (a m : Int) : endsAt [] (Ly.run ctxU 900 [(4, true), (3, false), (0, true), (3, false), (0, true), (3, false), (0, false), (1, false), (1, false), (1, false), (0, false), (0, false), (0, false), (1, false), (1, false), (0, false), (0, false), (0, false), (0, false), (0, false), (4, false), (0, true), (1, false), (0, false), (0, false), (0, false), (0, true)] (Ly.start Try.f15 [.int .u8 a, .int .u8 m] H0)) = some ([(decide (a < 64) == true, true), (decide (bits .and .u8 a 7 < 2), false), (decide (a < 64) == true, true), (bits .and .u8 a 7 == 2, false), (decide (a < 64) == true, true), (bits .and .u8 a 7 == 4, false), (a == 39, false), (a.fdiv 16 == 4, false), (a.fdiv 16 == 5, false), (a.fdiv 16 == 7, false), (a == 128, false), (a == 134, false), (a == 135, false), (a.fdiv 8 == 22, false), (a.fdiv 8 == 23, false), (a == 198, false), (a == 208, false), (a == 209, false), (a == 246, false), ((a == 254) == true, false), (a == 254, false), (bits .and .u8 a 252 == 136, true), (m.fdiv 64 == 3, false), (bits .and .u8 m 7 == 7, false), (bits .and .u8 m 7 == 4, false), (bits .and .u8 m 7 == 6, false), (bits .and .u8 a 2 == 0, true)], .tuple ⟨[.int .i64 1, .int .i64 0, .int .i64 (rgs (m.fdiv 8) (bits .and .u8 a 1 == 1))]⟩, 0, []) := by kernel_rfl
theorem gu_18 (a m : Int) : endsAt [] (Ly.run ctxU 900 [(4, true), (3, false), (0, true), (3, false), (0, true), (3, false), (0, false), (1, false), (1, false), (1, false), (0, false), (0, false), (0, false), (1, false), (1, false), (0, false), (0, false), (0, false), (0, false), (0, false), (4, false), (0, true), (1, false), (0, false), (0, false), (0, false), (0, false)] (Ly.start Try.f15 [.int .u8 a, .int .u8 m] H0)) = some ([(decide (a < 64) == true, true), (decide (bits .and .u8 a 7 < 2), false), (decide (a < 64) == true, true), (bits .and .u8 a 7 == 2, false), (decide (a < 64) == true, true), (bits .and .u8 a 7 == 4, false), (a == 39, false), (a.fdiv 16 == 4, false), (a.fdiv 16 == 5, false), (a.fdiv 16 == 7, false), (a == 128, false), (a == 134, false), (a == 135, false), (a.fdiv 8 == 22, false), (a.fdiv 8 == 23, false), (a == 198, false), (a == 208, false), (a == 209, false), (a == 246, false), ((a == 254) == true, false), (a == 254, false), (bits .and .u8 a 252 == 136, true), (m.fdiv 64 == 3, false), (bits .and .u8 m 7 == 7, false), (bits .and .u8 m 7 == 4, false), (bits .and .u8 m 7 == 6, false), (bits .and .u8 a 2 == 0, false)], .tuple ⟨[.int .i64 1, .int .i64 (rgs (m.fdiv 8) (bits .and .u8 a 1 == 1)), .int .i64 0]⟩, 0, []) := by kernel_rfl
theorem gu_19 (a m : Int) : endsAt [] (Ly.run ctxU 900 [(4, true), (3, false), (0, true), (3, false), (0, true), (3, false), (0, false), (1, false), (1, false), (1, false), (0, false), (0, false), (0, false), (1, false), (1, false), (0, false), (0, false), (0, false), (0, false), (0, false), (4, false), (0, false)] (Ly.start Try.f15 [.int .u8 a, .int .u8 m] H0)) = some ([(decide (a < 64) == true, true), (decide (bits .and .u8 a 7 < 2), false), (decide (a < 64) == true, true), (bits .and .u8 a 7 == 2, false), (decide (a < 64) == true, true), (bits .and .u8 a 7 == 4, false), (a == 39, false), (a.fdiv 16 == 4, false), (a.fdiv 16 == 5, false), (a.fdiv 16 == 7, false), (a == 128, false), (a == 134, false), (a == 135, false), (a.fdiv 8 == 22, false), (a.fdiv 8 == 23, false), (a == 198, false), (a == 208, false), (a == 209, false), (a == 246, false), ((a == 254) == true, false), (a == 254, false), (bits .and .u8 a 252 == 136, false)], .tuple ⟨[.int .i64 (gsAlone a).op, .int .i64 (gsAlone a).d, .int .i64 (gsAlone a).s]⟩, 0, []) := by kernel_rfl
theorem gu_20 (a m : Int) : endsAt [] (Ly.run ctxU 900 [(4, false), (4, false), (4, false), (4, false), (1, true)] (Ly.start Try.f15 [.int .u8 a, .int .u8 m] H0)) = some ([(decide (a < 64) == true, false), (decide (a < 64) == true, false), (decide (a < 64) == true, false), (a == 39, false), (a.fdiv 16 == 4, true)], .tuple ⟨[.int .i64 (IntKind.i64.wrap (10 + IntKind.i64.wrap (bits .and .u8 (a.fdiv 8) 1))), .int .i64 (rgs a true), .int .i64 0]⟩, 0, []) := by kernel_rfl
theorem gu_21 (a m : Int) : endsAt [] (Ly.run ctxU 900 [(4, false), (4, false), (4, false), (4, false), (1, false), (1, true)] (Ly.start Try.f15 [.int .u8 a, .int .u8 m] H0)) = some ([(decide (a < 64) == true, false), (decide (a < 64) == true, false), (decide (a < 64) == true, false), (a == 39, false), (a.fdiv 16 == 4, false), (a.fdiv 16 == 5, true)], .tuple ⟨[.int .i64 (IntKind.i64.wrap (18 + IntKind.i64.wrap (bits .and .u8 (a.fdiv 8) 1))), .int .i64 (rgs a true), .int .i64 0]⟩, 0, []) := by kernel_rfl
theorem gu_22 (a m : Int) : endsAt [] (Ly.run ctxU 900 [(4, false), (4, false), (4, false), (4, false), (1, false), (1, false), (1, true)] (Ly.start Try.f15 [.int .u8 a, .int .u8 m] H0)) = some ([(decide (a < 64) == true, false), (decide (a < 64) == true, false), (decide (a < 64) == true, false), (a == 39, false), (a.fdiv 16 == 4, false), (a.fdiv 16 == 5, false), (a.fdiv 16 == 7, true)], .tuple ⟨[.int .i64 (IntKind.i64.wrap (40 + IntKind.i64.wrap (bits .and .u8 a 15))), .int .i64 20, .int .i64 0]⟩, 0, []) := by kernel_rfl
theorem gu_23 (a m : Int) : endsAt [] (Ly.run ctxU 900 [(4, false), (4, false), (4, false), (4, false), (1, false), (1, false), (1, false), (0, true)] (Ly.start Try.f15 [.int .u8 a, .int .u8 m] H0)) = some ([(decide (a < 64) == true, false), (decide (a < 64) == true, false), (decide (a < 64) == true, false), (a == 39, false), (a.fdiv 16 == 4, false), (a.fdiv 16 == 5, false), (a.fdiv 16 == 7, false), (a == 128, true)], .tuple ⟨[.int .i64 (IntKind.i64.wrap (IntKind.i64.wrap (bits .and .u8 (m.fdiv 8) 7) + 2)), .int .i64 (rgs m (bits .and .u8 a 1 == 1)), .int .i64 20]⟩, 0, []) := by kernel_rfl
theorem gu_24 (a m : Int) : endsAt [] (Ly.run ctxU 900 [(4, false), (4, false), (4, false), (4, false), (1, false), (1, false), (1, false), (0, false), (0, true), (0, true)] (Ly.start Try.f15 [.int .u8 a, .int .u8 m] H0)) = some ([(decide (a < 64) == true, false), (decide (a < 64) == true, false), (decide (a < 64) == true, false), (a == 39, false), (a.fdiv 16 == 4, false), (a.fdiv 16 == 5, false), (a.fdiv 16 == 7, false), (a == 128, false), (a == 134, true), (a == 134, true)], .tuple ⟨[.int .i64 17, .int .i64 (rgs m (bits .and .u8 a 1 == 1)), .int .i64 (rgs (m.fdiv 8) (bits .and .u8 a 1 == 1))]⟩, 0, []) := by kernel_rfl
theorem gu_25 (a m : Int) : endsAt [] (Ly.run ctxU 900 [(4, false), (4, false), (4, false), (4, false), (1, false), (1, false), (1, false), (0, false), (0, false), (0, true)] (Ly.start Try.f15 [.int .u8 a, .int .u8 m] H0)) = some ([(decide (a < 64) == true, false), (decide (a < 64) == true, false), (decide (a < 64) == true, false), (a == 39, false), (a.fdiv 16 == 4, false), (a.fdiv 16 == 5, false), (a.fdiv 16 == 7, false), (a == 128, false), (a == 134, false), (a == 135, true)], .tuple ⟨[.int .i64 17, .int .i64 (rgs m (bits .and .u8 a 1 == 1)), .int .i64 (rgs (m.fdiv 8) (bits .and .u8 a 1 == 1))]⟩, 0, []) := by kernel_rfl
theorem gu_26 (a m : Int) : endsAt [] (Ly.run ctxU 900 [(4, false), (4, false), (4, false), (4, false), (1, false), (1, false), (1, false), (0, false), (0, false), (0, false), (1, true)] (Ly.start Try.f15 [.int .u8 a, .int .u8 m] H0)) = some ([(decide (a < 64) == true, false), (decide (a < 64) == true, false), (decide (a < 64) == true, false), (a == 39, false), (a.fdiv 16 == 4, false), (a.fdiv 16 == 5, false), (a.fdiv 16 == 7, false), (a == 128, false), (a == 134, false), (a == 135, false), (a.fdiv 8 == 22, true)], .tuple ⟨[.int .i64 1, .int .i64 (rgs a false), .int .i64 20]⟩, 0, []) := by kernel_rfl
theorem gu_27 (a m : Int) : endsAt [] (Ly.run ctxU 900 [(4, false), (4, false), (4, false), (4, false), (1, false), (1, false), (1, false), (0, false), (0, false), (0, false), (1, false), (1, true)] (Ly.start Try.f15 [.int .u8 a, .int .u8 m] H0)) = some ([(decide (a < 64) == true, false), (decide (a < 64) == true, false), (decide (a < 64) == true, false), (a == 39, false), (a.fdiv 16 == 4, false), (a.fdiv 16 == 5, false), (a.fdiv 16 == 7, false), (a == 128, false), (a == 134, false), (a == 135, false), (a.fdiv 8 == 22, false), (a.fdiv 8 == 23, true)], .tuple ⟨[.int .i64 1, .int .i64 (rgs a true), .int .i64 20]⟩, 0, []) := by kernel_rfl
theorem gu_28 (a m : Int) : endsAt [] (Ly.run ctxU 900 [(4, false), (4, false), (4, false), (4, false), (1, false), (1, false), (1, false), (0, false), (0, false), (0, false), (1, false), (1, false), (0, true)] (Ly.start Try.f15 [.int .u8 a, .int .u8 m] H0)) = some ([(decide (a < 64) == true, false), (decide (a < 64) == true, false), (decide (a < 64) == true, false), (a == 39, false), (a.fdiv 16 == 4, false), (a.fdiv 16 == 5, false), (a.fdiv 16 == 7, false), (a == 128, false), (a == 134, false), (a == 135, false), (a.fdiv 8 == 22, false), (a.fdiv 8 == 23, false), (a == 198, true)], .tuple ⟨[.int .i64 1, .int .i64 17, .int .i64 20]⟩, 0, []) := by kernel_rfl
theorem gu_29 (a m : Int) : endsAt [] (Ly.run ctxU 900 [(4, false), (4, false), (4, false), (4, false), (1, false), (1, false), (1, false), (0, false), (0, false), (0, false), (1, false), (1, false), (0, false), (0, true), (0, true)] (Ly.start Try.f15 [.int .u8 a, .int .u8 m] H0)) = some ([(decide (a < 64) == true, false), (decide (a < 64) == true, false), (decide (a < 64) == true, false), (a == 39, false), (a.fdiv 16 == 4, false), (a.fdiv 16 == 5, false), (a.fdiv 16 == 7, false), (a == 128, false), (a == 134, false), (a == 135, false), (a.fdiv 8 == 22, false), (a.fdiv 8 == 23, false), (a == 198, false), (a == 208, true), (a == 208, true)], .tuple ⟨[.int .i64 (IntKind.i64.wrap (12 + IntKind.i64.wrap (bits .and .u8 (m.fdiv 8) 7))), .int .i64 (rgs m (bits .and .u8 a 1 == 1)), .int .i64 0]⟩, 0, []) := by kernel_rfl
theorem gu_30 (a m : Int) : endsAt [] (Ly.run ctxU 900 [(4, false), (4, false), (4, false), (4, false), (1, false), (1, false), (1, false), (0, false), (0, false), (0, false), (1, false), (1, false), (0, false), (0, false), (0, true)] (Ly.start Try.f15 [.int .u8 a, .int .u8 m] H0)) = some ([(decide (a < 64) == true, false), (decide (a < 64) == true, false), (decide (a < 64) == true, false), (a == 39, false), (a.fdiv 16 == 4, false), (a.fdiv 16 == 5, false), (a.fdiv 16 == 7, false), (a == 128, false), (a == 134, false), (a == 135, false), (a.fdiv 8 == 22, false), (a.fdiv 8 == 23, false), (a == 198, false), (a == 208, false), (a == 209, true)], .tuple ⟨[.int .i64 (IntKind.i64.wrap (12 + IntKind.i64.wrap (bits .and .u8 (m.fdiv 8) 7))), .int .i64 (rgs m (bits .and .u8 a 1 == 1)), .int .i64 0]⟩, 0, []) := by kernel_rfl
theorem gu_31 (a m : Int) : endsAt [] (Ly.run ctxU 900 [(4, false), (4, false), (4, false), (4, false), (1, false), (1, false), (1, false), (0, false), (0, false), (0, false), (1, false), (1, false), (0, false), (0, false), (0, false), (0, true)] (Ly.start Try.f15 [.int .u8 a, .int .u8 m] H0)) = some ([(decide (a < 64) == true, false), (decide (a < 64) == true, false), (decide (a < 64) == true, false), (a == 39, false), (a.fdiv 16 == 4, false), (a.fdiv 16 == 5, false), (a.fdiv 16 == 7, false), (a == 128, false), (a == 134, false), (a == 135, false), (a.fdiv 8 == 22, false), (a.fdiv 8 == 23, false), (a == 198, false), (a == 208, false), (a == 209, false), (a == 246, true)], .tuple ⟨[.int .i64 16, .int .i64 (rgs m (bits .and .u8 a 1 == 1)), .int .i64 0]⟩, 0, []) := by kernel_rfl
theorem gu_32 (a m : Int) : endsAt [] (Ly.run ctxU 900 [(4, false), (4, false), (4, false), (4, false), (1, false), (1, false), (1, false), (0, false), (0, false), (0, false), (1, false), (1, false), (0, false), (0, false), (0, false), (0, false), (0, true), (4, true)] (Ly.start Try.f15 [.int .u8 a, .int .u8 m] H0)) = some ([(decide (a < 64) == true, false), (decide (a < 64) == true, false), (decide (a < 64) == true, false), (a == 39, false), (a.fdiv 16 == 4, false), (a.fdiv 16 == 5, false), (a.fdiv 16 == 7, false), (a == 128, false), (a == 134, false), (a == 135, false), (a.fdiv 8 == 22, false), (a.fdiv 8 == 23, false), (a == 198, false), (a == 208, false), (a == 209, false), (a == 246, false), ((a == 254) == true, true), (m.fdiv 64 == 0, true)], .tuple ⟨[.int .i64 (IntKind.i64.wrap (10 + IntKind.i64.wrap (bits .and .u8 (m.fdiv 8) 7))), .int .i64 17, .int .i64 0]⟩, 0, []) := by kernel_rfl
theorem gu_33 (a m : Int) : endsAt [] (Ly.run ctxU 900 [(4, false), (4, false), (4, false), (4, false), (1, false), (1, false), (1, false), (0, false), (0, false), (0, false), (1, false), (1, false), (0, false), (0, false), (0, false), (0, false), (0, true), (4, false), (0, true)] (Ly.start Try.f15 [.int .u8 a, .int .u8 m] H0)) = some ([(decide (a < 64) == true, false), (decide (a < 64) == true, false), (decide (a < 64) == true, false), (a == 39, false), (a.fdiv 16 == 4, false), (a.fdiv 16 == 5, false), (a.fdiv 16 == 7, false), (a == 128, false), (a == 134, false), (a == 135, false), (a.fdiv 8 == 22, false), (a.fdiv 8 == 23, false), (a == 198, false), (a == 208, false), (a == 209, false), (a == 246, false), ((a == 254) == true, true), (m.fdiv 64 == 0, false), (a == 254, true)], .tuple ⟨[.int .i64 (IntKind.i64.wrap (10 + IntKind.i64.wrap (bits .and .u8 (m.fdiv 8) 7))), .int .i64 (rgs m (bits .and .u8 a 1 == 1)), .int .i64 0]⟩, 0, []) := by kernel_rfl
theorem gu_34 (a m : Int) : endsAt [] (Ly.run ctxU 900 [(4, false), (4, false), (4, false), (4, false), (1, false), (1, false), (1, false), (0, false), (0, false), (0, false), (1, false), (1, false), (0, false), (0, false), (0, false), (0, false), (0, false), (4, false), (0, true), (1, true), (0, true)] (Ly.start Try.f15 [.int .u8 a, .int .u8 m] H0)) = some ([(decide (a < 64) == true, false), (decide (a < 64) == true, false), (decide (a < 64) == true, false), (a == 39, false), (a.fdiv 16 == 4, false), (a.fdiv 16 == 5, false), (a.fdiv 16 == 7, false), (a == 128, false), (a == 134, false), (a == 135, false), (a.fdiv 8 == 22, false), (a.fdiv 8 == 23, false), (a == 198, false), (a == 208, false), (a == 209, false), (a == 246, false), ((a == 254) == true, false), (a == 254, false), (bits .and .u8 a 252 == 136, true), (m.fdiv 64 == 3, true), (bits .and .u8 a 2 == 0, true)], .tuple ⟨[.int .i64 1, .int .i64 (rgs m (bits .and .u8 a 1 == 1)), .int .i64 (rgs (m.fdiv 8) (bits .and .u8 a 1 == 1))]⟩, 0, []) := by kernel_rfl
theorem gu_35 (a m : Int) : endsAt [] (Ly.run ctxU 900 [(4, false), (4, false), (4, false), (4, false), (1, false), (1, false), (1, false), (0, false), (0, false), (0, false), (1, false), (1, false), (0, false), (0, false), (0, false), (0, false), (0, false), (4, false), (0, true), (1, true), (0, false)] (Ly.start Try.f15 [.int .u8 a, .int .u8 m] H0)) = some ([(decide (a < 64) == true, false), (decide (a < 64) == true, false), (decide (a < 64) == true, false), (a == 39, false), (a.fdiv 16 == 4, false), (a.fdiv 16 == 5, false), (a.fdiv 16 == 7, false), (a == 128, false), (a == 134, false), (a == 135, false), (a.fdiv 8 == 22, false), (a.fdiv 8 == 23, false), (a == 198, false), (a == 208, false), (a == 209, false), (a == 246, false), ((a == 254) == true, false), (a == 254, false), (bits .and .u8 a 252 == 136, true), (m.fdiv 64 == 3, true), (bits .and .u8 a 2 == 0, false)], .tuple ⟨[.int .i64 1, .int .i64 (rgs (m.fdiv 8) (bits .and .u8 a 1 == 1)), .int .i64 (rgs m (bits .and .u8 a 1 == 1))]⟩, 0, []) := by kernel_rfl
theorem gu_36 (a m : Int) : endsAt [] (Ly.run ctxU 900 [(4, false), (4, false), (4, false), (4, false), (1, false), (1, false), (1, false), (0, false), (0, false), (0, false), (1, false), (1, false), (0, false), (0, false), (0, false), (0, false), (0, false), (4, false), (0, true), (1, false), (0, true), (0, true)] (Ly.start Try.f15 [.int .u8 a, .int .u8 m] H0)) = some ([(decide (a < 64) == true, false), (decide (a < 64) == true, false), (decide (a < 64) == true, false), (a == 39, false), (a.fdiv 16 == 4, false), (a.fdiv 16 == 5, false), (a.fdiv 16 == 7, false), (a == 128, false), (a == 134, false), (a == 135, false), (a.fdiv 8 == 22, false), (a.fdiv 8 == 23, false), (a == 198, false), (a == 208, false), (a == 209, false), (a == 246, false), ((a == 254) == true, false), (a == 254, false), (bits .and .u8 a 252 == 136, true), (m.fdiv 64 == 3, false), (bits .and .u8 m 7 == 7, true), (bits .and .u8 a 2 == 0, true)], .tuple ⟨[.int .i64 1, .int .i64 17, .int .i64 (rgs (m.fdiv 8) (bits .and .u8 a 1 == 1))]⟩, 0, []) := by kernel_rfl
theorem gu_37 (a m : Int) : endsAt [] (Ly.run ctxU 900 [(4, false), (4, false), (4, false), (4, false), (1, false), (1, false), (1, false), (0, false), (0, false), (0, false), (1, false), (1, false), (0, false), (0, false), (0, false), (0, false), (0, false), (4, false), (0, true), (1, false), (0, true), (0, false)] (Ly.start Try.f15 [.int .u8 a, .int .u8 m] H0)) = some ([(decide (a < 64) == true, false), (decide (a < 64) == true, false), (decide (a < 64) == true, false), (a == 39, false), (a.fdiv 16 == 4, false), (a.fdiv 16 == 5, false), (a.fdiv 16 == 7, false), (a == 128, false), (a == 134, false), (a == 135, false), (a.fdiv 8 == 22, false), (a.fdiv 8 == 23, false), (a == 198, false), (a == 208, false), (a == 209, false), (a == 246, false), ((a == 254) == true, false), (a == 254, false), (bits .and .u8 a 252 == 136, true), (m.fdiv 64 == 3, false), (bits .and .u8 m 7 == 7, true), (bits .and .u8 a 2 == 0, false)], .tuple ⟨[.int .i64 1, .int .i64 (rgs (m.fdiv 8) (bits .and .u8 a 1 == 1)), .int .i64 17]⟩, 0, []) := by kernel_rfl
theorem gu_38 (a m : Int) : endsAt [] (Ly.run ctxU 900 [(4, false), (4, false), (4, false), (4, false), (1, false), (1, false), (1, false), (0, false), (0, false), (0, false), (1, false), (1, false), (0, false), (0, false), (0, false), (0, false), (0, false), (4, false), (0, true), (1, false), (0, false), (0, true), (0, true)] (Ly.start Try.f15 [.int .u8 a, .int .u8 m] H0)) = some ([(decide (a < 64) == true, false), (decide (a < 64) == true, false), (decide (a < 64) == true, false), (a == 39, false), (a.fdiv 16 == 4, false), (a.fdiv 16 == 5, false), (a.fdiv 16 == 7, false), (a == 128, false), (a == 134, false), (a == 135, false), (a.fdiv 8 == 22, false), (a.fdiv 8 == 23, false), (a == 198, false), (a == 208, false), (a == 209, false), (a == 246, false), ((a == 254) == true, false), (a == 254, false), (bits .and .u8 a 252 == 136, true), (m.fdiv 64 == 3, false), (bits .and .u8 m 7 == 7, false), (bits .and .u8 m 7 == 4, true), (bits .and .u8 a 2 == 0, true)], .tuple ⟨[.int .i64 1, .int .i64 18, .int .i64 (rgs (m.fdiv 8) (bits .and .u8 a 1 == 1))]⟩, 0, []) := by kernel_rfl
theorem gu_39 (a m : Int) : endsAt [] (Ly.run ctxU 900 [(4, false), (4, false), (4, false), (4, false), (1, false), (1, false), (1, false), (0, false), (0, false), (0, false), (1, false), (1, false), (0, false), (0, false), (0, false), (0, false), (0, false), (4, false), (0, true), (1, false), (0, false), (0, true), (0, false)] (Ly.start Try.f15 [.int .u8 a, .int .u8 m] H0)) = some ([(decide (a < 64) == true, false), (decide (a < 64) == true, false), (decide (a < 64) == true, false), (a == 39, false), (a.fdiv 16 == 4, false), (a.fdiv 16 == 5, false), (a.fdiv 16 == 7, false), (a == 128, false), (a == 134, false), (a == 135, false), (a.fdiv 8 == 22, false), (a.fdiv 8 == 23, false), (a == 198, false), (a == 208, false), (a == 209, false), (a == 246, false), ((a == 254) == true, false), (a == 254, false), (bits .and .u8 a 252 == 136, true), (m.fdiv 64 == 3, false), (bits .and .u8 m 7 == 7, false), (bits .and .u8 m 7 == 4, true), (bits .and .u8 a 2 == 0, false)], .tuple ⟨[.int .i64 1, .int .i64 (rgs (m.fdiv 8) (bits .and .u8 a 1 == 1)), .int .i64 18]⟩, 0, []) := by kernel_rfl
theorem gu_40 (a m : Int) : endsAt [] (Ly.run ctxU 900 [(4, false), (4, false), (4, false), (4, false), (1, false), (1, false), (1, false), (0, false), (0, false), (0, false), (1, false), (1, false), (0, false), (0, false), (0, false), (0, false), (0, false), (4, false), (0, true), (1, false), (0, false), (0, false), (0, true), (0, true)] (Ly.start Try.f15 [.int .u8 a, .int .u8 m] H0)) = some ([(decide (a < 64) == true, false), (decide (a < 64) == true, false), (decide (a < 64) == true, false), (a == 39, false), (a.fdiv 16 == 4, false), (a.fdiv 16 == 5, false), (a.fdiv 16 == 7, false), (a == 128, false), (a == 134, false), (a == 135, false), (a.fdiv 8 == 22, false), (a.fdiv 8 == 23, false), (a == 198, false), (a == 208, false), (a == 209, false), (a == 246, false), ((a == 254) == true, false), (a == 254, false), (bits .and .u8 a 252 == 136, true), (m.fdiv 64 == 3, false), (bits .and .u8 m 7 == 7, false), (bits .and .u8 m 7 == 4, false), (bits .and .u8 m 7 == 6, true), (bits .and .u8 a 2 == 0, true)], .tuple ⟨[.int .i64 1, .int .i64 19, .int .i64 (rgs (m.fdiv 8) (bits .and .u8 a 1 == 1))]⟩, 0, []) := by kernel_rfl
theorem gu_41 (a m : Int) : endsAt [] (Ly.run ctxU 900 [(4, false), (4, false), (4, false), (4, false), (1, false), (1, false), (1, false), (0, false), (0, false), (0, false), (1, false), (1, false), (0, false), (0, false), (0, false), (0, false), (0, false), (4, false), (0, true), (1, false), (0, false), (0, false), (0, true), (0, false)] (Ly.start Try.f15 [.int .u8 a, .int .u8 m] H0)) = some ([(decide (a < 64) == true, false), (decide (a < 64) == true, false), (decide (a < 64) == true, false), (a == 39, false), (a.fdiv 16 == 4, false), (a.fdiv 16 == 5, false), (a.fdiv 16 == 7, false), (a == 128, false), (a == 134, false), (a == 135, false), (a.fdiv 8 == 22, false), (a.fdiv 8 == 23, false), (a == 198, false), (a == 208, false), (a == 209, false), (a == 246, false), ((a == 254) == true, false), (a == 254, false), (bits .and .u8 a 252 == 136, true), (m.fdiv 64 == 3, false), (bits .and .u8 m 7 == 7, false), (bits .and .u8 m 7 == 4, false), (bits .and .u8 m 7 == 6, true), (bits .and .u8 a 2 == 0, false)], .tuple ⟨[.int .i64 1, .int .i64 (rgs (m.fdiv 8) (bits .and .u8 a 1 == 1)), .int .i64 19]⟩, 0, []) := by kernel_rfl
theorem gu_42 (a m : Int) : endsAt [] (Ly.run ctxU 900 [(4, false), (4, false), (4, false), (4, false), (1, false), (1, false), (1, false), (0, false), (0, false), (0, false), (1, false), (1, false), (0, false), (0, false), (0, false), (0, false), (0, false), (4, false), (0, true), (1, false), (0, false), (0, false), (0, false), (0, true)] (Ly.start Try.f15 [.int .u8 a, .int .u8 m] H0)) = some ([(decide (a < 64) == true, false), (decide (a < 64) == true, false), (decide (a < 64) == true, false), (a == 39, false), (a.fdiv 16 == 4, false), (a.fdiv 16 == 5, false), (a.fdiv 16 == 7, false), (a == 128, false), (a == 134, false), (a == 135, false), (a.fdiv 8 == 22, false), (a.fdiv 8 == 23, false), (a == 198, false), (a == 208, false), (a == 209, false), (a == 246, false), ((a == 254) == true, false), (a == 254, false), (bits .and .u8 a 252 == 136, true), (m.fdiv 64 == 3, false), (bits .and .u8 m 7 == 7, false), (bits .and .u8 m 7 == 4, false), (bits .and .u8 m 7 == 6, false), (bits .and .u8 a 2 == 0, true)], .tuple ⟨[.int .i64 1, .int .i64 0, .int .i64 (rgs (m.fdiv 8) (bits .and .u8 a 1 == 1))]⟩, 0, []) := by kernel_rfl
theorem gu_43 (a m : Int) : endsAt [] (Ly.run ctxU 900 [(4, false), (4, false), (4, false), (4, false), (1, false), (1, false), (1, false), (0, false), (0, false), (0, false), (1, false), (1, false), (0, false), (0, false), (0, false), (0, false), (0, false), (4, false), (0, true), (1, false), (0, false), (0, false), (0, false), (0, false)] (Ly.start Try.f15 [.int .u8 a, .int .u8 m] H0)) = some ([(decide (a < 64) == true, false), (decide (a < 64) == true, false), (decide (a < 64) == true, false), (a == 39, false), (a.fdiv 16 == 4, false), (a.fdiv 16 == 5, false), (a.fdiv 16 == 7, false), (a == 128, false), (a == 134, false), (a == 135, false), (a.fdiv 8 == 22, false), (a.fdiv 8 == 23, false), (a == 198, false), (a == 208, false), (a == 209, false), (a == 246, false), ((a == 254) == true, false), (a == 254, false), (bits .and .u8 a 252 == 136, true), (m.fdiv 64 == 3, false), (bits .and .u8 m 7 == 7, false), (bits .and .u8 m 7 == 4, false), (bits .and .u8 m 7 == 6, false), (bits .and .u8 a 2 == 0, false)], .tuple ⟨[.int .i64 1, .int .i64 (rgs (m.fdiv 8) (bits .and .u8 a 1 == 1)), .int .i64 0]⟩, 0, []) := by kernel_rfl
theorem gu_44 (a m : Int) : endsAt [] (Ly.run ctxU 900 [(4, false), (4, false), (4, false), (4, false), (1, false), (1, false), (1, false), (0, false), (0, false), (0, false), (1, false), (1, false), (0, false), (0, false), (0, false), (0, false), (0, false), (4, false), (0, false)] (Ly.start Try.f15 [.int .u8 a, .int .u8 m] H0)) = some ([(decide (a < 64) == true, false), (decide (a < 64) == true, false), (decide (a < 64) == true, false), (a == 39, false), (a.fdiv 16 == 4, false), (a.fdiv 16 == 5, false), (a.fdiv 16 == 7, false), (a == 128, false), (a == 134, false), (a == 135, false), (a.fdiv 8 == 22, false), (a.fdiv 8 == 23, false), (a == 198, false), (a == 208, false), (a == 209, false), (a == 246, false), ((a == 254) == true, false), (a == 254, false), (bits .and .u8 a 252 == 136, false)], .tuple ⟨[.int .i64 (gsAlone a).op, .int .i64 (gsAlone a).d, .int .i64 (gsAlone a).s]⟩, 0, []) := by kernel_rfl
theorem gGu : ctxU.fn.get 15 = some Try.f15 := by kernel_rfl
theorem guess_call (a m : Int) (ha : 0 ≤ a ∧ a ≤ 255) (hm : 0 ≤ m ∧ m ≤ 255) : LCalls Try.prog 15 [.int .u8 a, .int .u8 m] H0 (fun u _ => u = t3V (gs a m)) := by
  have e8 := fdv a ha 8 (by omega)
  have e16 := fdv a ha 16 (by omega)
  have g8 := fdv m hm 8 (by omega)
  have g64 := fdv m hm 64 (by omega)
  have k1 := a1 a ha
  have k2 := a2 a ha
  have k3 := a252 a ha
  have k4 := a15 a ha
  have k7 := and7 a
  have k8 := and7 m
  have k5 := a1 (a / 8) (by omega)
  have k6 := and7 (m / 8)
  have r1 : IntKind.i64.wrap (IntKind.i64.wrap (a / 8) + 2) = a / 8 + 2 := by rw [IntKind.wrap_i64, IntKind.wrap_i64]; omega
  have r2 : IntKind.i64.wrap (10 + IntKind.i64.wrap (a / 8 % 2)) = 10 + a / 8 % 2 := by rw [IntKind.wrap_i64, IntKind.wrap_i64]; omega
  have r3 : IntKind.i64.wrap (18 + IntKind.i64.wrap (a / 8 % 2)) = 18 + a / 8 % 2 := by rw [IntKind.wrap_i64, IntKind.wrap_i64]; omega
  have r4 : IntKind.i64.wrap (40 + IntKind.i64.wrap (a % 16)) = 40 + a % 16 := by rw [IntKind.wrap_i64, IntKind.wrap_i64]; omega
  have r5 : IntKind.i64.wrap (IntKind.i64.wrap (m / 8 % 8) + 2) = m / 8 % 8 + 2 := by rw [IntKind.wrap_i64, IntKind.wrap_i64]; omega
  have r6 : IntKind.i64.wrap (12 + IntKind.i64.wrap (m / 8 % 8)) = 12 + m / 8 % 8 := by rw [IntKind.wrap_i64, IntKind.wrap_i64]; omega
  have r7 : IntKind.i64.wrap (10 + IntKind.i64.wrap (m / 8 % 8)) = 10 + m / 8 % 8 := by rw [IntKind.wrap_i64, IntKind.wrap_i64]; omega
  rcases Bool.eq_false_or_eq_true (decide (a < 64) == true) with h0 | h0
  · rcases Bool.eq_false_or_eq_true (decide (bits BinOp.and IntKind.u8 a 7 < 2)) with h1 | h1
    · exact (LCalls_of ctxU_ok gGu (by kernel_rfl) (MWp.ends ctxU_ok 900 _ (gu_0 a m) ⟨h0, h1, trivial⟩)).mono (fun u K h => h.1.trans (by have z0 := h0; have z1 := h1; simp only [nz, e8, e16, g8, g64, k1, k2, k3, k4, k5, k6, k7, k8] at z0 z1; (simp only [t3V, gs, gsMoved, e8, e16, g8, g64, k1, k2, k3, k4, k5, k6, k7, k8, r1, r2, r3, r4, r5, r6, r7, cA, rgs_t, rgs_f, z0, z1])))
    · rcases Bool.eq_false_or_eq_true (bits BinOp.and IntKind.u8 a 7 == 2) with h3 | h3
      · exact (LCalls_of ctxU_ok gGu (by kernel_rfl) (MWp.ends ctxU_ok 900 _ (gu_1 a m) ⟨h0, h1, h0, h3, trivial⟩)).mono (fun u K h => h.1.trans (by have z0 := h0; have z1 := h1; have z2 := h3; simp only [nz, e8, e16, g8, g64, k1, k2, k3, k4, k5, k6, k7, k8] at z0 z1 z2; (simp only [t3V, gs, gsMoved, e8, e16, g8, g64, k1, k2, k3, k4, k5, k6, k7, k8, r1, r2, r3, r4, r5, r6, r7, cA, rgs_t, rgs_f, z0, z1, z2])))
      · rcases Bool.eq_false_or_eq_true (bits BinOp.and IntKind.u8 a 7 == 4) with h5 | h5
        · exact (LCalls_of ctxU_ok gGu (by kernel_rfl) (MWp.ends ctxU_ok 900 _ (gu_2 a m) ⟨h0, h1, h0, h3, h0, h5, trivial⟩)).mono (fun u K h => h.1.trans (by have z0 := h0; have z1 := h1; have z2 := h3; have z3 := h5; simp only [nz, e8, e16, g8, g64, k1, k2, k3, k4, k5, k6, k7, k8] at z0 z1 z2 z3; (simp only [t3V, gs, gsMoved, e8, e16, g8, g64, k1, k2, k3, k4, k5, k6, k7, k8, r1, r2, r3, r4, r5, r6, r7, cA, rgs_t, rgs_f, z0, z1, z2, z3])))
        · rcases Bool.eq_false_or_eq_true (a == 39) with h6 | h6
          · exact (LCalls_of ctxU_ok gGu (by kernel_rfl) (MWp.ends ctxU_ok 900 _ (gu_3 a m) ⟨h0, h1, h0, h3, h0, h5, h6, trivial⟩)).mono (fun u K h => h.1.trans (by have z0 := h0; have z1 := h1; have z2 := h3; have z3 := h5; have z4 := h6; simp only [nz, e8, e16, g8, g64, k1, k2, k3, k4, k5, k6, k7, k8] at z0 z1 z2 z3 z4; (simp only [t3V, gs, gsMoved, e8, e16, g8, g64, k1, k2, k3, k4, k5, k6, k7, k8, r1, r2, r3, r4, r5, r6, r7, cA, rgs_t, rgs_f, z0, z1, z2, z3, z4])))
          · rcases Bool.eq_false_or_eq_true (a.fdiv 16 == 4) with h7 | h7
            · exact (LCalls_of ctxU_ok gGu (by kernel_rfl) (MWp.ends ctxU_ok 900 _ (gu_4 a m) ⟨h0, h1, h0, h3, h0, h5, h6, h7, trivial⟩)).mono (fun u K h => h.1.trans (by have z0 := h0; have z1 := h1; have z2 := h3; have z3 := h5; have z4 := h6; have z5 := h7; simp only [nz, e8, e16, g8, g64, k1, k2, k3, k4, k5, k6, k7, k8] at z0 z1 z2 z3 z4 z5; (simp only [t3V, gs, gsMoved, e8, e16, g8, g64, k1, k2, k3, k4, k5, k6, k7, k8, r1, r2, r3, r4, r5, r6, r7, cA, rgs_t, rgs_f, z0, z1, z2, z3, z4, z5])))
            · rcases Bool.eq_false_or_eq_true (a.fdiv 16 == 5) with h8 | h8
              · exact (LCalls_of ctxU_ok gGu (by kernel_rfl) (MWp.ends ctxU_ok 900 _ (gu_5 a m) ⟨h0, h1, h0, h3, h0, h5, h6, h7, h8, trivial⟩)).mono (fun u K h => h.1.trans (by have z0 := h0; have z1 := h1; have z2 := h3; have z3 := h5; have z4 := h6; have z5 := h7; have z6 := h8; simp only [nz, e8, e16, g8, g64, k1, k2, k3, k4, k5, k6, k7, k8] at z0 z1 z2 z3 z4 z5 z6; (simp only [t3V, gs, gsMoved, e8, e16, g8, g64, k1, k2, k3, k4, k5, k6, k7, k8, r1, r2, r3, r4, r5, r6, r7, cA, rgs_t, rgs_f, z0, z1, z2, z3, z4, z5, z6])))
              · rcases Bool.eq_false_or_eq_true (a.fdiv 16 == 7) with h9 | h9
                · exact (LCalls_of ctxU_ok gGu (by kernel_rfl) (MWp.ends ctxU_ok 900 _ (gu_6 a m) ⟨h0, h1, h0, h3, h0, h5, h6, h7, h8, h9, trivial⟩)).mono (fun u K h => h.1.trans (by have z0 := h0; have z1 := h1; have z2 := h3; have z3 := h5; have z4 := h6; have z5 := h7; have z6 := h8; have z7 := h9; simp only [nz, e8, e16, g8, g64, k1, k2, k3, k4, k5, k6, k7, k8] at z0 z1 z2 z3 z4 z5 z6 z7; (simp only [t3V, gs, gsMoved, e8, e16, g8, g64, k1, k2, k3, k4, k5, k6, k7, k8, r1, r2, r3, r4, r5, r6, r7, cA, rgs_t, rgs_f, z0, z1, z2, z3, z4, z5, z6, z7])))
                · have h10 : (a == 128) = false := by first | assumption | (simp only [nz, decide_eq_true_eq, decide_eq_false_iff_not, beq_eq_false_iff_ne, beq_iff_eq, ne_eq] at *; omega)
                  have h11 : (a == 134) = false := by first | assumption | (simp only [nz, decide_eq_true_eq, decide_eq_false_iff_not, beq_eq_false_iff_ne, beq_iff_eq, ne_eq] at *; omega)
                  have h12 : (a == 135) = false := by first | assumption | (simp only [nz, decide_eq_true_eq, decide_eq_false_iff_not, beq_eq_false_iff_ne, beq_iff_eq, ne_eq] at *; omega)
                  rcases Bool.eq_false_or_eq_true (a.fdiv 8 == 22) with h13 | h13
                  · exact (LCalls_of ctxU_ok gGu (by kernel_rfl) (MWp.ends ctxU_ok 900 _ (gu_7 a m) ⟨h0, h1, h0, h3, h0, h5, h6, h7, h8, h9, h10, h11, h12, h13, trivial⟩)).mono (fun u K h => h.1.trans (by have z0 := h0; have z1 := h1; have z2 := h3; have z3 := h5; have z4 := h6; have z5 := h7; have z6 := h8; have z7 := h9; have z8 := h10; have z9 := h11; have z10 := h12; have z11 := h13; simp only [nz, e8, e16, g8, g64, k1, k2, k3, k4, k5, k6, k7, k8] at z0 z1 z2 z3 z4 z5 z6 z7 z8 z9 z10 z11; (simp only [t3V, gs, gsMoved, e8, e16, g8, g64, k1, k2, k3, k4, k5, k6, k7, k8, r1, r2, r3, r4, r5, r6, r7, cA, rgs_t, rgs_f, z0, z1, z2, z3, z4, z5, z6, z7, z8, z9, z10, z11])))
                  · rcases Bool.eq_false_or_eq_true (a.fdiv 8 == 23) with h14 | h14
                    · exact (LCalls_of ctxU_ok gGu (by kernel_rfl) (MWp.ends ctxU_ok 900 _ (gu_8 a m) ⟨h0, h1, h0, h3, h0, h5, h6, h7, h8, h9, h10, h11, h12, h13, h14, trivial⟩)).mono (fun u K h => h.1.trans (by have z0 := h0; have z1 := h1; have z2 := h3; have z3 := h5; have z4 := h6; have z5 := h7; have z6 := h8; have z7 := h9; have z8 := h10; have z9 := h11; have z10 := h12; have z11 := h13; have z12 := h14; simp only [nz, e8, e16, g8, g64, k1, k2, k3, k4, k5, k6, k7, k8] at z0 z1 z2 z3 z4 z5 z6 z7 z8 z9 z10 z11 z12; (simp only [t3V, gs, gsMoved, e8, e16, g8, g64, k1, k2, k3, k4, k5, k6, k7, k8, r1, r2, r3, r4, r5, r6, r7, cA, rgs_t, rgs_f, z0, z1, z2, z3, z4, z5, z6, z7, z8, z9, z10, z11, z12])))
                    · have h15 : (a == 198) = false := by first | assumption | (simp only [nz, decide_eq_true_eq, decide_eq_false_iff_not, beq_eq_false_iff_ne, beq_iff_eq, ne_eq] at *; omega)
                      have h16 : (a == 208) = false := by first | assumption | (simp only [nz, decide_eq_true_eq, decide_eq_false_iff_not, beq_eq_false_iff_ne, beq_iff_eq, ne_eq] at *; omega)
                      have h17 : (a == 209) = false := by first | assumption | (simp only [nz, decide_eq_true_eq, decide_eq_false_iff_not, beq_eq_false_iff_ne, beq_iff_eq, ne_eq] at *; omega)
                      have h18 : (a == 246) = false := by first | assumption | (simp only [nz, decide_eq_true_eq, decide_eq_false_iff_not, beq_eq_false_iff_ne, beq_iff_eq, ne_eq] at *; omega)
                      have h19 : ((a == 254) == true) = false := by first | assumption | (simp only [nz, decide_eq_true_eq, decide_eq_false_iff_not, beq_eq_false_iff_ne, beq_iff_eq, ne_eq] at *; omega)
                      have h20 : (a == 254) = false := by first | assumption | (simp only [nz, decide_eq_true_eq, decide_eq_false_iff_not, beq_eq_false_iff_ne, beq_iff_eq, ne_eq] at *; omega)
                      rcases Bool.eq_false_or_eq_true (bits BinOp.and IntKind.u8 a 252 == 136) with h21 | h21
                      · rcases Bool.eq_false_or_eq_true (m.fdiv 64 == 3) with h22 | h22
                        · rcases Bool.eq_false_or_eq_true (bits BinOp.and IntKind.u8 a 2 == 0) with h23 | h23
                          · exact (LCalls_of ctxU_ok gGu (by kernel_rfl) (MWp.ends ctxU_ok 900 _ (gu_9 a m) ⟨h0, h1, h0, h3, h0, h5, h6, h7, h8, h9, h10, h11, h12, h13, h14, h15, h16, h17, h18, h19, h20, h21, h22, h23, trivial⟩)).mono (fun u K h => h.1.trans (by have z0 := h0; have z1 := h1; have z2 := h3; have z3 := h5; have z4 := h6; have z5 := h7; have z6 := h8; have z7 := h9; have z8 := h10; have z9 := h11; have z10 := h12; have z11 := h13; have z12 := h14; have z13 := h15; have z14 := h16; have z15 := h17; have z16 := h18; have z17 := h19; have z18 := h20; have z19 := h21; have z20 := h22; have z21 := h23; simp only [nz, e8, e16, g8, g64, k1, k2, k3, k4, k5, k6, k7, k8] at z0 z1 z2 z3 z4 z5 z6 z7 z8 z9 z10 z11 z12 z13 z14 z15 z16 z17 z18 z19 z20 z21; (simp only [t3V, gs, gsMoved, e8, e16, g8, g64, k1, k2, k3, k4, k5, k6, k7, k8, r1, r2, r3, r4, r5, r6, r7, cA, rgs_t, rgs_f, z0, z1, z2, z3, z4, z5, z6, z7, z8, z9, z10, z11, z12, z13, z14, z15, z16, z17, z18, z19, z20, z21])))
                          · exact (LCalls_of ctxU_ok gGu (by kernel_rfl) (MWp.ends ctxU_ok 900 _ (gu_10 a m) ⟨h0, h1, h0, h3, h0, h5, h6, h7, h8, h9, h10, h11, h12, h13, h14, h15, h16, h17, h18, h19, h20, h21, h22, h23, trivial⟩)).mono (fun u K h => h.1.trans (by have z0 := h0; have z1 := h1; have z2 := h3; have z3 := h5; have z4 := h6; have z5 := h7; have z6 := h8; have z7 := h9; have z8 := h10; have z9 := h11; have z10 := h12; have z11 := h13; have z12 := h14; have z13 := h15; have z14 := h16; have z15 := h17; have z16 := h18; have z17 := h19; have z18 := h20; have z19 := h21; have z20 := h22; have z21 := h23; simp only [nz, e8, e16, g8, g64, k1, k2, k3, k4, k5, k6, k7, k8] at z0 z1 z2 z3 z4 z5 z6 z7 z8 z9 z10 z11 z12 z13 z14 z15 z16 z17 z18 z19 z20 z21; (simp only [t3V, gs, gsMoved, e8, e16, g8, g64, k1, k2, k3, k4, k5, k6, k7, k8, r1, r2, r3, r4, r5, r6, r7, cA, rgs_t, rgs_f, z0, z1, z2, z3, z4, z5, z6, z7, z8, z9, z10, z11, z12, z13, z14, z15, z16, z17, z18, z19, z20, z21])))
                        · rcases Bool.eq_false_or_eq_true (bits BinOp.and IntKind.u8 m 7 == 7) with h23 | h23
                          · rcases Bool.eq_false_or_eq_true (bits BinOp.and IntKind.u8 a 2 == 0) with h24 | h24
                            · exact (LCalls_of ctxU_ok gGu (by kernel_rfl) (MWp.ends ctxU_ok 900 _ (gu_11 a m) ⟨h0, h1, h0, h3, h0, h5, h6, h7, h8, h9, h10, h11, h12, h13, h14, h15, h16, h17, h18, h19, h20, h21, h22, h23, h24, trivial⟩)).mono (fun u K h => h.1.trans (by have z0 := h0; have z1 := h1; have z2 := h3; have z3 := h5; have z4 := h6; have z5 := h7; have z6 := h8; have z7 := h9; have z8 := h10; have z9 := h11; have z10 := h12; have z11 := h13; have z12 := h14; have z13 := h15; have z14 := h16; have z15 := h17; have z16 := h18; have z17 := h19; have z18 := h20; have z19 := h21; have z20 := h22; have z21 := h23; have z22 := h24; simp only [nz, e8, e16, g8, g64, k1, k2, k3, k4, k5, k6, k7, k8] at z0 z1 z2 z3 z4 z5 z6 z7 z8 z9 z10 z11 z12 z13 z14 z15 z16 z17 z18 z19 z20 z21 z22; (simp only [t3V, gs, gsMoved, e8, e16, g8, g64, k1, k2, k3, k4, k5, k6, k7, k8, r1, r2, r3, r4, r5, r6, r7, cA, rgs_t, rgs_f, z0, z1, z2, z3, z4, z5, z6, z7, z8, z9, z10, z11, z12, z13, z14, z15, z16, z17, z18, z19, z20, z21, z22])))
                            · exact (LCalls_of ctxU_ok gGu (by kernel_rfl) (MWp.ends ctxU_ok 900 _ (gu_12 a m) ⟨h0, h1, h0, h3, h0, h5, h6, h7, h8, h9, h10, h11, h12, h13, h14, h15, h16, h17, h18, h19, h20, h21, h22, h23, h24, trivial⟩)).mono (fun u K h => h.1.trans (by have z0 := h0; have z1 := h1; have z2 := h3; have z3 := h5; have z4 := h6; have z5 := h7; have z6 := h8; have z7 := h9; have z8 := h10; have z9 := h11; have z10 := h12; have z11 := h13; have z12 := h14; have z13 := h15; have z14 := h16; have z15 := h17; have z16 := h18; have z17 := h19; have z18 := h20; have z19 := h21; have z20 := h22; have z21 := h23; have z22 := h24; simp only [nz, e8, e16, g8, g64, k1, k2, k3, k4, k5, k6, k7, k8] at z0 z1 z2 z3 z4 z5 z6 z7 z8 z9 z10 z11 z12 z13 z14 z15 z16 z17 z18 z19 z20 z21 z22; (simp only [t3V, gs, gsMoved, e8, e16, g8, g64, k1, k2, k3, k4, k5, k6, k7, k8, r1, r2, r3, r4, r5, r6, r7, cA, rgs_t, rgs_f, z0, z1, z2, z3, z4, z5, z6, z7, z8, z9, z10, z11, z12, z13, z14, z15, z16, z17, z18, z19, z20, z21, z22])))
                          · rcases Bool.eq_false_or_eq_true (bits BinOp.and IntKind.u8 m 7 == 4) with h24 | h24
                            · rcases Bool.eq_false_or_eq_true (bits BinOp.and IntKind.u8 a 2 == 0) with h25 | h25
                              · exact (LCalls_of ctxU_ok gGu (by kernel_rfl) (MWp.ends ctxU_ok 900 _ (gu_13 a m) ⟨h0, h1, h0, h3, h0, h5, h6, h7, h8, h9, h10, h11, h12, h13, h14, h15, h16, h17, h18, h19, h20, h21, h22, h23, h24, h25, trivial⟩)).mono (fun u K h => h.1.trans (by have z0 := h0; have z1 := h1; have z2 := h3; have z3 := h5; have z4 := h6; have z5 := h7; have z6 := h8; have z7 := h9; have z8 := h10; have z9 := h11; have z10 := h12; have z11 := h13; have z12 := h14; have z13 := h15; have z14 := h16; have z15 := h17; have z16 := h18; have z17 := h19; have z18 := h20; have z19 := h21; have z20 := h22; have z21 := h23; have z22 := h24; have z23 := h25; simp only [nz, e8, e16, g8, g64, k1, k2, k3, k4, k5, k6, k7, k8] at z0 z1 z2 z3 z4 z5 z6 z7 z8 z9 z10 z11 z12 z13 z14 z15 z16 z17 z18 z19 z20 z21 z22 z23; (simp only [t3V, gs, gsMoved, e8, e16, g8, g64, k1, k2, k3, k4, k5, k6, k7, k8, r1, r2, r3, r4, r5, r6, r7, cA, rgs_t, rgs_f, z0, z1, z2, z3, z4, z5, z6, z7, z8, z9, z10, z11, z12, z13, z14, z15, z16, z17, z18, z19, z20, z21, z22, z23])))
                              · exact (LCalls_of ctxU_ok gGu (by kernel_rfl) (MWp.ends ctxU_ok 900 _ (gu_14 a m) ⟨h0, h1, h0, h3, h0, h5, h6, h7, h8, h9, h10, h11, h12, h13, h14, h15, h16, h17, h18, h19, h20, h21, h22, h23, h24, h25, trivial⟩)).mono (fun u K h => h.1.trans (by have z0 := h0; have z1 := h1; have z2 := h3; have z3 := h5; have z4 := h6; have z5 := h7; have z6 := h8; have z7 := h9; have z8 := h10; have z9 := h11; have z10 := h12; have z11 := h13; have z12 := h14; have z13 := h15; have z14 := h16; have z15 := h17; have z16 := h18; have z17 := h19; have z18 := h20; have z19 := h21; have z20 := h22; have z21 := h23; have z22 := h24; have z23 := h25; simp only [nz, e8, e16, g8, g64, k1, k2, k3, k4, k5, k6, k7, k8] at z0 z1 z2 z3 z4 z5 z6 z7 z8 z9 z10 z11 z12 z13 z14 z15 z16 z17 z18 z19 z20 z21 z22 z23; (simp only [t3V, gs, gsMoved, e8, e16, g8, g64, k1, k2, k3, k4, k5, k6, k7, k8, r1, r2, r3, r4, r5, r6, r7, cA, rgs_t, rgs_f, z0, z1, z2, z3, z4, z5, z6, z7, z8, z9, z10, z11, z12, z13, z14, z15, z16, z17, z18, z19, z20, z21, z22, z23])))
                            · rcases Bool.eq_false_or_eq_true (bits BinOp.and IntKind.u8 m 7 == 6) with h25 | h25
                              · rcases Bool.eq_false_or_eq_true (bits BinOp.and IntKind.u8 a 2 == 0) with h26 | h26
                                · exact (LCalls_of ctxU_ok gGu (by kernel_rfl) (MWp.ends ctxU_ok 900 _ (gu_15 a m) ⟨h0, h1, h0, h3, h0, h5, h6, h7, h8, h9, h10, h11, h12, h13, h14, h15, h16, h17, h18, h19, h20, h21, h22, h23, h24, h25, h26, trivial⟩)).mono (fun u K h => h.1.trans (by have z0 := h0; have z1 := h1; have z2 := h3; have z3 := h5; have z4 := h6; have z5 := h7; have z6 := h8; have z7 := h9; have z8 := h10; have z9 := h11; have z10 := h12; have z11 := h13; have z12 := h14; have z13 := h15; have z14 := h16; have z15 := h17; have z16 := h18; have z17 := h19; have z18 := h20; have z19 := h21; have z20 := h22; have z21 := h23; have z22 := h24; have z23 := h25; have z24 := h26; simp only [nz, e8, e16, g8, g64, k1, k2, k3, k4, k5, k6, k7, k8] at z0 z1 z2 z3 z4 z5 z6 z7 z8 z9 z10 z11 z12 z13 z14 z15 z16 z17 z18 z19 z20 z21 z22 z23 z24; (simp only [t3V, gs, gsMoved, e8, e16, g8, g64, k1, k2, k3, k4, k5, k6, k7, k8, r1, r2, r3, r4, r5, r6, r7, cA, rgs_t, rgs_f, z0, z1, z2, z3, z4, z5, z6, z7, z8, z9, z10, z11, z12, z13, z14, z15, z16, z17, z18, z19, z20, z21, z22, z23, z24])))
                                · exact (LCalls_of ctxU_ok gGu (by kernel_rfl) (MWp.ends ctxU_ok 900 _ (gu_16 a m) ⟨h0, h1, h0, h3, h0, h5, h6, h7, h8, h9, h10, h11, h12, h13, h14, h15, h16, h17, h18, h19, h20, h21, h22, h23, h24, h25, h26, trivial⟩)).mono (fun u K h => h.1.trans (by have z0 := h0; have z1 := h1; have z2 := h3; have z3 := h5; have z4 := h6; have z5 := h7; have z6 := h8; have z7 := h9; have z8 := h10; have z9 := h11; have z10 := h12; have z11 := h13; have z12 := h14; have z13 := h15; have z14 := h16; have z15 := h17; have z16 := h18; have z17 := h19; have z18 := h20; have z19 := h21; have z20 := h22; have z21 := h23; have z22 := h24; have z23 := h25; have z24 := h26; simp only [nz, e8, e16, g8, g64, k1, k2, k3, k4, k5, k6, k7, k8] at z0 z1 z2 z3 z4 z5 z6 z7 z8 z9 z10 z11 z12 z13 z14 z15 z16 z17 z18 z19 z20 z21 z22 z23 z24; (simp only [t3V, gs, gsMoved, e8, e16, g8, g64, k1, k2, k3, k4, k5, k6, k7, k8, r1, r2, r3, r4, r5, r6, r7, cA, rgs_t, rgs_f, z0, z1, z2, z3, z4, z5, z6, z7, z8, z9, z10, z11, z12, z13, z14, z15, z16, z17, z18, z19, z20, z21, z22, z23, z24])))
                              · rcases Bool.eq_false_or_eq_true (bits BinOp.and IntKind.u8 a 2 == 0) with h26 | h26
                                · exact (LCalls_of ctxU_ok gGu (by kernel_rfl) (MWp.ends ctxU_ok 900 _ (gu_17 a m) ⟨h0, h1, h0, h3, h0, h5, h6, h7, h8, h9, h10, h11, h12, h13, h14, h15, h16, h17, h18, h19, h20, h21, h22, h23, h24, h25, h26, trivial⟩)).mono (fun u K h => h.1.trans (by have z0 := h0; have z1 := h1; have z2 := h3; have z3 := h5; have z4 := h6; have z5 := h7; have z6 := h8; have z7 := h9; have z8 := h10; have z9 := h11; have z10 := h12; have z11 := h13; have z12 := h14; have z13 := h15; have z14 := h16; have z15 := h17; have z16 := h18; have z17 := h19; have z18 := h20; have z19 := h21; have z20 := h22; have z21 := h23; have z22 := h24; have z23 := h25; have z24 := h26; simp only [nz, e8, e16, g8, g64, k1, k2, k3, k4, k5, k6, k7, k8] at z0 z1 z2 z3 z4 z5 z6 z7 z8 z9 z10 z11 z12 z13 z14 z15 z16 z17 z18 z19 z20 z21 z22 z23 z24; (simp only [t3V, gs, gsMoved, e8, e16, g8, g64, k1, k2, k3, k4, k5, k6, k7, k8, r1, r2, r3, r4, r5, r6, r7, cA, rgs_t, rgs_f, z0, z1, z2, z3, z4, z5, z6, z7, z8, z9, z10, z11, z12, z13, z14, z15, z16, z17, z18, z19, z20, z21, z22, z23, z24])))
                                · exact (LCalls_of ctxU_ok gGu (by kernel_rfl) (MWp.ends ctxU_ok 900 _ (gu_18 a m) ⟨h0, h1, h0, h3, h0, h5, h6, h7, h8, h9, h10, h11, h12, h13, h14, h15, h16, h17, h18, h19, h20, h21, h22, h23, h24, h25, h26, trivial⟩)).mono (fun u K h => h.1.trans (by have z0 := h0; have z1 := h1; have z2 := h3; have z3 := h5; have z4 := h6; have z5 := h7; have z6 := h8; have z7 := h9; have z8 := h10; have z9 := h11; have z10 := h12; have z11 := h13; have z12 := h14; have z13 := h15; have z14 := h16; have z15 := h17; have z16 := h18; have z17 := h19; have z18 := h20; have z19 := h21; have z20 := h22; have z21 := h23; have z22 := h24; have z23 := h25; have z24 := h26; simp only [nz, e8, e16, g8, g64, k1, k2, k3, k4, k5, k6, k7, k8] at z0 z1 z2 z3 z4 z5 z6 z7 z8 z9 z10 z11 z12 z13 z14 z15 z16 z17 z18 z19 z20 z21 z22 z23 z24; (simp only [t3V, gs, gsMoved, e8, e16, g8, g64, k1, k2, k3, k4, k5, k6, k7, k8, r1, r2, r3, r4, r5, r6, r7, cA, rgs_t, rgs_f, z0, z1, z2, z3, z4, z5, z6, z7, z8, z9, z10, z11, z12, z13, z14, z15, z16, z17, z18, z19, z20, z21, z22, z23, z24])))
                      · exact (LCalls_of ctxU_ok gGu (by kernel_rfl) (MWp.ends ctxU_ok 900 _ (gu_19 a m) ⟨h0, h1, h0, h3, h0, h5, h6, h7, h8, h9, h10, h11, h12, h13, h14, h15, h16, h17, h18, h19, h20, h21, trivial⟩)).mono (fun u K h => h.1.trans (by have z0 := h0; have z1 := h1; have z2 := h3; have z3 := h5; have z4 := h6; have z5 := h7; have z6 := h8; have z7 := h9; have z8 := h10; have z9 := h11; have z10 := h12; have z11 := h13; have z12 := h14; have z13 := h15; have z14 := h16; have z15 := h17; have z16 := h18; have z17 := h19; have z18 := h20; have z19 := h21; simp only [nz, e8, e16, g8, g64, k1, k2, k3, k4, k5, k6, k7, k8] at z0 z1 z2 z3 z4 z5 z6 z7 z8 z9 z10 z11 z12 z13 z14 z15 z16 z17 z18 z19; (simp only [t3V, gs, gsMoved, e8, e16, g8, g64, k1, k2, k3, k4, k5, k6, k7, k8, r1, r2, r3, r4, r5, r6, r7, cA, rgs_t, rgs_f, z0, z1, z2, z3, z4, z5, z6, z7, z8, z9, z10, z11, z12, z13, z14, z15, z16, z17, z18, z19])))
  · have h3 : (a == 39) = false := by first | assumption | (simp only [nz, decide_eq_true_eq, decide_eq_false_iff_not, beq_eq_false_iff_ne, beq_iff_eq, ne_eq] at *; omega)
    rcases Bool.eq_false_or_eq_true (a.fdiv 16 == 4) with h4 | h4
    · exact (LCalls_of ctxU_ok gGu (by kernel_rfl) (MWp.ends ctxU_ok 900 _ (gu_20 a m) ⟨h0, h0, h0, h3, h4, trivial⟩)).mono (fun u K h => h.1.trans (by have z0 := h0; have z1 := h3; have z2 := h4; simp only [nz, e8, e16, g8, g64, k1, k2, k3, k4, k5, k6, k7, k8] at z0 z1 z2; (simp only [t3V, gs, gsMoved, e8, e16, g8, g64, k1, k2, k3, k4, k5, k6, k7, k8, r1, r2, r3, r4, r5, r6, r7, cA, rgs_t, rgs_f, z0, z1, z2])))
    · rcases Bool.eq_false_or_eq_true (a.fdiv 16 == 5) with h5 | h5
      · exact (LCalls_of ctxU_ok gGu (by kernel_rfl) (MWp.ends ctxU_ok 900 _ (gu_21 a m) ⟨h0, h0, h0, h3, h4, h5, trivial⟩)).mono (fun u K h => h.1.trans (by have z0 := h0; have z1 := h3; have z2 := h4; have z3 := h5; simp only [nz, e8, e16, g8, g64, k1, k2, k3, k4, k5, k6, k7, k8] at z0 z1 z2 z3; (simp only [t3V, gs, gsMoved, e8, e16, g8, g64, k1, k2, k3, k4, k5, k6, k7, k8, r1, r2, r3, r4, r5, r6, r7, cA, rgs_t, rgs_f, z0, z1, z2, z3])))
      · rcases Bool.eq_false_or_eq_true (a.fdiv 16 == 7) with h6 | h6
        · exact (LCalls_of ctxU_ok gGu (by kernel_rfl) (MWp.ends ctxU_ok 900 _ (gu_22 a m) ⟨h0, h0, h0, h3, h4, h5, h6, trivial⟩)).mono (fun u K h => h.1.trans (by have z0 := h0; have z1 := h3; have z2 := h4; have z3 := h5; have z4 := h6; simp only [nz, e8, e16, g8, g64, k1, k2, k3, k4, k5, k6, k7, k8] at z0 z1 z2 z3 z4; (simp only [t3V, gs, gsMoved, e8, e16, g8, g64, k1, k2, k3, k4, k5, k6, k7, k8, r1, r2, r3, r4, r5, r6, r7, cA, rgs_t, rgs_f, z0, z1, z2, z3, z4])))
        · rcases Bool.eq_false_or_eq_true (a == 128) with h7 | h7
          · exact (LCalls_of ctxU_ok gGu (by kernel_rfl) (MWp.ends ctxU_ok 900 _ (gu_23 a m) ⟨h0, h0, h0, h3, h4, h5, h6, h7, trivial⟩)).mono (fun u K h => h.1.trans (by have z0 := h0; have z1 := h3; have z2 := h4; have z3 := h5; have z4 := h6; have z5 := h7; simp only [nz, e8, e16, g8, g64, k1, k2, k3, k4, k5, k6, k7, k8] at z0 z1 z2 z3 z4 z5; (simp only [t3V, gs, gsMoved, e8, e16, g8, g64, k1, k2, k3, k4, k5, k6, k7, k8, r1, r2, r3, r4, r5, r6, r7, cA, rgs_t, rgs_f, z0, z1, z2, z3, z4, z5])))
          · rcases Bool.eq_false_or_eq_true (a == 134) with h8 | h8
            · exact (LCalls_of ctxU_ok gGu (by kernel_rfl) (MWp.ends ctxU_ok 900 _ (gu_24 a m) ⟨h0, h0, h0, h3, h4, h5, h6, h7, h8, h8, trivial⟩)).mono (fun u K h => h.1.trans (by have z0 := h0; have z1 := h3; have z2 := h4; have z3 := h5; have z4 := h6; have z5 := h7; have z6 := h8; simp only [nz, e8, e16, g8, g64, k1, k2, k3, k4, k5, k6, k7, k8] at z0 z1 z2 z3 z4 z5 z6; (simp only [t3V, gs, gsMoved, e8, e16, g8, g64, k1, k2, k3, k4, k5, k6, k7, k8, r1, r2, r3, r4, r5, r6, r7, cA, rgs_t, rgs_f, z0, z1, z2, z3, z4, z5, z6])))
            · rcases Bool.eq_false_or_eq_true (a == 135) with h9 | h9
              · exact (LCalls_of ctxU_ok gGu (by kernel_rfl) (MWp.ends ctxU_ok 900 _ (gu_25 a m) ⟨h0, h0, h0, h3, h4, h5, h6, h7, h8, h9, trivial⟩)).mono (fun u K h => h.1.trans (by have z0 := h0; have z1 := h3; have z2 := h4; have z3 := h5; have z4 := h6; have z5 := h7; have z6 := h8; have z7 := h9; simp only [nz, e8, e16, g8, g64, k1, k2, k3, k4, k5, k6, k7, k8] at z0 z1 z2 z3 z4 z5 z6 z7; (simp only [t3V, gs, gsMoved, e8, e16, g8, g64, k1, k2, k3, k4, k5, k6, k7, k8, r1, r2, r3, r4, r5, r6, r7, cA, rgs_t, rgs_f, z0, z1, z2, z3, z4, z5, z6, z7])))
              · rcases Bool.eq_false_or_eq_true (a.fdiv 8 == 22) with h10 | h10
                · exact (LCalls_of ctxU_ok gGu (by kernel_rfl) (MWp.ends ctxU_ok 900 _ (gu_26 a m) ⟨h0, h0, h0, h3, h4, h5, h6, h7, h8, h9, h10, trivial⟩)).mono (fun u K h => h.1.trans (by have z0 := h0; have z1 := h3; have z2 := h4; have z3 := h5; have z4 := h6; have z5 := h7; have z6 := h8; have z7 := h9; have z8 := h10; simp only [nz, e8, e16, g8, g64, k1, k2, k3, k4, k5, k6, k7, k8] at z0 z1 z2 z3 z4 z5 z6 z7 z8; (simp only [t3V, gs, gsMoved, e8, e16, g8, g64, k1, k2, k3, k4, k5, k6, k7, k8, r1, r2, r3, r4, r5, r6, r7, cA, rgs_t, rgs_f, z0, z1, z2, z3, z4, z5, z6, z7, z8])))
                · rcases Bool.eq_false_or_eq_true (a.fdiv 8 == 23) with h11 | h11
                  · exact (LCalls_of ctxU_ok gGu (by kernel_rfl) (MWp.ends ctxU_ok 900 _ (gu_27 a m) ⟨h0, h0, h0, h3, h4, h5, h6, h7, h8, h9, h10, h11, trivial⟩)).mono (fun u K h => h.1.trans (by have z0 := h0; have z1 := h3; have z2 := h4; have z3 := h5; have z4 := h6; have z5 := h7; have z6 := h8; have z7 := h9; have z8 := h10; have z9 := h11; simp only [nz, e8, e16, g8, g64, k1, k2, k3, k4, k5, k6, k7, k8] at z0 z1 z2 z3 z4 z5 z6 z7 z8 z9; (simp only [t3V, gs, gsMoved, e8, e16, g8, g64, k1, k2, k3, k4, k5, k6, k7, k8, r1, r2, r3, r4, r5, r6, r7, cA, rgs_t, rgs_f, z0, z1, z2, z3, z4, z5, z6, z7, z8, z9])))
                  · rcases Bool.eq_false_or_eq_true (a == 198) with h12 | h12
                    · exact (LCalls_of ctxU_ok gGu (by kernel_rfl) (MWp.ends ctxU_ok 900 _ (gu_28 a m) ⟨h0, h0, h0, h3, h4, h5, h6, h7, h8, h9, h10, h11, h12, trivial⟩)).mono (fun u K h => h.1.trans (by have z0 := h0; have z1 := h3; have z2 := h4; have z3 := h5; have z4 := h6; have z5 := h7; have z6 := h8; have z7 := h9; have z8 := h10; have z9 := h11; have z10 := h12; simp only [nz, e8, e16, g8, g64, k1, k2, k3, k4, k5, k6, k7, k8] at z0 z1 z2 z3 z4 z5 z6 z7 z8 z9 z10; (simp only [t3V, gs, gsMoved, e8, e16, g8, g64, k1, k2, k3, k4, k5, k6, k7, k8, r1, r2, r3, r4, r5, r6, r7, cA, rgs_t, rgs_f, z0, z1, z2, z3, z4, z5, z6, z7, z8, z9, z10])))
                    · rcases Bool.eq_false_or_eq_true (a == 208) with h13 | h13
                      · exact (LCalls_of ctxU_ok gGu (by kernel_rfl) (MWp.ends ctxU_ok 900 _ (gu_29 a m) ⟨h0, h0, h0, h3, h4, h5, h6, h7, h8, h9, h10, h11, h12, h13, h13, trivial⟩)).mono (fun u K h => h.1.trans (by have z0 := h0; have z1 := h3; have z2 := h4; have z3 := h5; have z4 := h6; have z5 := h7; have z6 := h8; have z7 := h9; have z8 := h10; have z9 := h11; have z10 := h12; have z11 := h13; simp only [nz, e8, e16, g8, g64, k1, k2, k3, k4, k5, k6, k7, k8] at z0 z1 z2 z3 z4 z5 z6 z7 z8 z9 z10 z11; (simp only [t3V, gs, gsMoved, e8, e16, g8, g64, k1, k2, k3, k4, k5, k6, k7, k8, r1, r2, r3, r4, r5, r6, r7, cA, rgs_t, rgs_f, z0, z1, z2, z3, z4, z5, z6, z7, z8, z9, z10, z11])))
                      · rcases Bool.eq_false_or_eq_true (a == 209) with h14 | h14
                        · exact (LCalls_of ctxU_ok gGu (by kernel_rfl) (MWp.ends ctxU_ok 900 _ (gu_30 a m) ⟨h0, h0, h0, h3, h4, h5, h6, h7, h8, h9, h10, h11, h12, h13, h14, trivial⟩)).mono (fun u K h => h.1.trans (by have z0 := h0; have z1 := h3; have z2 := h4; have z3 := h5; have z4 := h6; have z5 := h7; have z6 := h8; have z7 := h9; have z8 := h10; have z9 := h11; have z10 := h12; have z11 := h13; have z12 := h14; simp only [nz, e8, e16, g8, g64, k1, k2, k3, k4, k5, k6, k7, k8] at z0 z1 z2 z3 z4 z5 z6 z7 z8 z9 z10 z11 z12; (simp only [t3V, gs, gsMoved, e8, e16, g8, g64, k1, k2, k3, k4, k5, k6, k7, k8, r1, r2, r3, r4, r5, r6, r7, cA, rgs_t, rgs_f, z0, z1, z2, z3, z4, z5, z6, z7, z8, z9, z10, z11, z12])))
                        · rcases Bool.eq_false_or_eq_true (a == 246) with h15 | h15
                          · exact (LCalls_of ctxU_ok gGu (by kernel_rfl) (MWp.ends ctxU_ok 900 _ (gu_31 a m) ⟨h0, h0, h0, h3, h4, h5, h6, h7, h8, h9, h10, h11, h12, h13, h14, h15, trivial⟩)).mono (fun u K h => h.1.trans (by have z0 := h0; have z1 := h3; have z2 := h4; have z3 := h5; have z4 := h6; have z5 := h7; have z6 := h8; have z7 := h9; have z8 := h10; have z9 := h11; have z10 := h12; have z11 := h13; have z12 := h14; have z13 := h15; simp only [nz, e8, e16, g8, g64, k1, k2, k3, k4, k5, k6, k7, k8] at z0 z1 z2 z3 z4 z5 z6 z7 z8 z9 z10 z11 z12 z13; (simp only [t3V, gs, gsMoved, e8, e16, g8, g64, k1, k2, k3, k4, k5, k6, k7, k8, r1, r2, r3, r4, r5, r6, r7, cA, rgs_t, rgs_f, z0, z1, z2, z3, z4, z5, z6, z7, z8, z9, z10, z11, z12, z13])))
                          · rcases Bool.eq_false_or_eq_true ((a == 254) == true) with h16 | h16
                            · rcases Bool.eq_false_or_eq_true (m.fdiv 64 == 0) with h17 | h17
                              · exact (LCalls_of ctxU_ok gGu (by kernel_rfl) (MWp.ends ctxU_ok 900 _ (gu_32 a m) ⟨h0, h0, h0, h3, h4, h5, h6, h7, h8, h9, h10, h11, h12, h13, h14, h15, h16, h17, trivial⟩)).mono (fun u K h => h.1.trans (by have z0 := h0; have z1 := h3; have z2 := h4; have z3 := h5; have z4 := h6; have z5 := h7; have z6 := h8; have z7 := h9; have z8 := h10; have z9 := h11; have z10 := h12; have z11 := h13; have z12 := h14; have z13 := h15; have z14 := h16; have z15 := h17; simp only [nz, e8, e16, g8, g64, k1, k2, k3, k4, k5, k6, k7, k8] at z0 z1 z2 z3 z4 z5 z6 z7 z8 z9 z10 z11 z12 z13 z14 z15; (simp only [t3V, gs, gsMoved, e8, e16, g8, g64, k1, k2, k3, k4, k5, k6, k7, k8, r1, r2, r3, r4, r5, r6, r7, cA, rgs_t, rgs_f, z0, z1, z2, z3, z4, z5, z6, z7, z8, z9, z10, z11, z12, z13, z14, z15])))
                              · have h18 : (a == 254) = true := by first | assumption | (simp only [nz, decide_eq_true_eq, decide_eq_false_iff_not, beq_eq_false_iff_ne, beq_iff_eq, ne_eq] at *; omega)
                                exact (LCalls_of ctxU_ok gGu (by kernel_rfl) (MWp.ends ctxU_ok 900 _ (gu_33 a m) ⟨h0, h0, h0, h3, h4, h5, h6, h7, h8, h9, h10, h11, h12, h13, h14, h15, h16, h17, h18, trivial⟩)).mono (fun u K h => h.1.trans (by have z0 := h0; have z1 := h3; have z2 := h4; have z3 := h5; have z4 := h6; have z5 := h7; have z6 := h8; have z7 := h9; have z8 := h10; have z9 := h11; have z10 := h12; have z11 := h13; have z12 := h14; have z13 := h15; have z14 := h16; have z15 := h17; have z16 := h18; simp only [nz, e8, e16, g8, g64, k1, k2, k3, k4, k5, k6, k7, k8] at z0 z1 z2 z3 z4 z5 z6 z7 z8 z9 z10 z11 z12 z13 z14 z15 z16; (simp only [t3V, gs, gsMoved, e8, e16, g8, g64, k1, k2, k3, k4, k5, k6, k7, k8, r1, r2, r3, r4, r5, r6, r7, cA, rgs_t, rgs_f, z0, z1, z2, z3, z4, z5, z6, z7, z8, z9, z10, z11, z12, z13, z14, z15, z16])))
                            · have h17 : (a == 254) = false := by first | assumption | (simp only [nz, decide_eq_true_eq, decide_eq_false_iff_not, beq_eq_false_iff_ne, beq_iff_eq, ne_eq] at *; omega)
                              rcases Bool.eq_false_or_eq_true (bits BinOp.and IntKind.u8 a 252 == 136) with h18 | h18
                              · rcases Bool.eq_false_or_eq_true (m.fdiv 64 == 3) with h19 | h19
                                · rcases Bool.eq_false_or_eq_true (bits BinOp.and IntKind.u8 a 2 == 0) with h20 | h20
                                  · exact (LCalls_of ctxU_ok gGu (by kernel_rfl) (MWp.ends ctxU_ok 900 _ (gu_34 a m) ⟨h0, h0, h0, h3, h4, h5, h6, h7, h8, h9, h10, h11, h12, h13, h14, h15, h16, h17, h18, h19, h20, trivial⟩)).mono (fun u K h => h.1.trans (by have z0 := h0; have z1 := h3; have z2 := h4; have z3 := h5; have z4 := h6; have z5 := h7; have z6 := h8; have z7 := h9; have z8 := h10; have z9 := h11; have z10 := h12; have z11 := h13; have z12 := h14; have z13 := h15; have z14 := h16; have z15 := h17; have z16 := h18; have z17 := h19; have z18 := h20; simp only [nz, e8, e16, g8, g64, k1, k2, k3, k4, k5, k6, k7, k8] at z0 z1 z2 z3 z4 z5 z6 z7 z8 z9 z10 z11 z12 z13 z14 z15 z16 z17 z18; (simp only [t3V, gs, gsMoved, e8, e16, g8, g64, k1, k2, k3, k4, k5, k6, k7, k8, r1, r2, r3, r4, r5, r6, r7, cA, rgs_t, rgs_f, z0, z1, z2, z3, z4, z5, z6, z7, z8, z9, z10, z11, z12, z13, z14, z15, z16, z17, z18])))
                                  · exact (LCalls_of ctxU_ok gGu (by kernel_rfl) (MWp.ends ctxU_ok 900 _ (gu_35 a m) ⟨h0, h0, h0, h3, h4, h5, h6, h7, h8, h9, h10, h11, h12, h13, h14, h15, h16, h17, h18, h19, h20, trivial⟩)).mono (fun u K h => h.1.trans (by have z0 := h0; have z1 := h3; have z2 := h4; have z3 := h5; have z4 := h6; have z5 := h7; have z6 := h8; have z7 := h9; have z8 := h10; have z9 := h11; have z10 := h12; have z11 := h13; have z12 := h14; have z13 := h15; have z14 := h16; have z15 := h17; have z16 := h18; have z17 := h19; have z18 := h20; simp only [nz, e8, e16, g8, g64, k1, k2, k3, k4, k5, k6, k7, k8] at z0 z1 z2 z3 z4 z5 z6 z7 z8 z9 z10 z11 z12 z13 z14 z15 z16 z17 z18; (simp only [t3V, gs, gsMoved, e8, e16, g8, g64, k1, k2, k3, k4, k5, k6, k7, k8, r1, r2, r3, r4, r5, r6, r7, cA, rgs_t, rgs_f, z0, z1, z2, z3, z4, z5, z6, z7, z8, z9, z10, z11, z12, z13, z14, z15, z16, z17, z18])))
                                · rcases Bool.eq_false_or_eq_true (bits BinOp.and IntKind.u8 m 7 == 7) with h20 | h20
                                  · rcases Bool.eq_false_or_eq_true (bits BinOp.and IntKind.u8 a 2 == 0) with h21 | h21
                                    · exact (LCalls_of ctxU_ok gGu (by kernel_rfl) (MWp.ends ctxU_ok 900 _ (gu_36 a m) ⟨h0, h0, h0, h3, h4, h5, h6, h7, h8, h9, h10, h11, h12, h13, h14, h15, h16, h17, h18, h19, h20, h21, trivial⟩)).mono (fun u K h => h.1.trans (by have z0 := h0; have z1 := h3; have z2 := h4; have z3 := h5; have z4 := h6; have z5 := h7; have z6 := h8; have z7 := h9; have z8 := h10; have z9 := h11; have z10 := h12; have z11 := h13; have z12 := h14; have z13 := h15; have z14 := h16; have z15 := h17; have z16 := h18; have z17 := h19; have z18 := h20; have z19 := h21; simp only [nz, e8, e16, g8, g64, k1, k2, k3, k4, k5, k6, k7, k8] at z0 z1 z2 z3 z4 z5 z6 z7 z8 z9 z10 z11 z12 z13 z14 z15 z16 z17 z18 z19; (simp only [t3V, gs, gsMoved, e8, e16, g8, g64, k1, k2, k3, k4, k5, k6, k7, k8, r1, r2, r3, r4, r5, r6, r7, cA, rgs_t, rgs_f, z0, z1, z2, z3, z4, z5, z6, z7, z8, z9, z10, z11, z12, z13, z14, z15, z16, z17, z18, z19])))
                                    · exact (LCalls_of ctxU_ok gGu (by kernel_rfl) (MWp.ends ctxU_ok 900 _ (gu_37 a m) ⟨h0, h0, h0, h3, h4, h5, h6, h7, h8, h9, h10, h11, h12, h13, h14, h15, h16, h17, h18, h19, h20, h21, trivial⟩)).mono (fun u K h => h.1.trans (by have z0 := h0; have z1 := h3; have z2 := h4; have z3 := h5; have z4 := h6; have z5 := h7; have z6 := h8; have z7 := h9; have z8 := h10; have z9 := h11; have z10 := h12; have z11 := h13; have z12 := h14; have z13 := h15; have z14 := h16; have z15 := h17; have z16 := h18; have z17 := h19; have z18 := h20; have z19 := h21; simp only [nz, e8, e16, g8, g64, k1, k2, k3, k4, k5, k6, k7, k8] at z0 z1 z2 z3 z4 z5 z6 z7 z8 z9 z10 z11 z12 z13 z14 z15 z16 z17 z18 z19; (simp only [t3V, gs, gsMoved, e8, e16, g8, g64, k1, k2, k3, k4, k5, k6, k7, k8, r1, r2, r3, r4, r5, r6, r7, cA, rgs_t, rgs_f, z0, z1, z2, z3, z4, z5, z6, z7, z8, z9, z10, z11, z12, z13, z14, z15, z16, z17, z18, z19])))
                                  · rcases Bool.eq_false_or_eq_true (bits BinOp.and IntKind.u8 m 7 == 4) with h21 | h21
                                    · rcases Bool.eq_false_or_eq_true (bits BinOp.and IntKind.u8 a 2 == 0) with h22 | h22
                                      · exact (LCalls_of ctxU_ok gGu (by kernel_rfl) (MWp.ends ctxU_ok 900 _ (gu_38 a m) ⟨h0, h0, h0, h3, h4, h5, h6, h7, h8, h9, h10, h11, h12, h13, h14, h15, h16, h17, h18, h19, h20, h21, h22, trivial⟩)).mono (fun u K h => h.1.trans (by have z0 := h0; have z1 := h3; have z2 := h4; have z3 := h5; have z4 := h6; have z5 := h7; have z6 := h8; have z7 := h9; have z8 := h10; have z9 := h11; have z10 := h12; have z11 := h13; have z12 := h14; have z13 := h15; have z14 := h16; have z15 := h17; have z16 := h18; have z17 := h19; have z18 := h20; have z19 := h21; have z20 := h22; simp only [nz, e8, e16, g8, g64, k1, k2, k3, k4, k5, k6, k7, k8] at z0 z1 z2 z3 z4 z5 z6 z7 z8 z9 z10 z11 z12 z13 z14 z15 z16 z17 z18 z19 z20; (simp only [t3V, gs, gsMoved, e8, e16, g8, g64, k1, k2, k3, k4, k5, k6, k7, k8, r1, r2, r3, r4, r5, r6, r7, cA, rgs_t, rgs_f, z0, z1, z2, z3, z4, z5, z6, z7, z8, z9, z10, z11, z12, z13, z14, z15, z16, z17, z18, z19, z20])))
                                      · exact (LCalls_of ctxU_ok gGu (by kernel_rfl) (MWp.ends ctxU_ok 900 _ (gu_39 a m) ⟨h0, h0, h0, h3, h4, h5, h6, h7, h8, h9, h10, h11, h12, h13, h14, h15, h16, h17, h18, h19, h20, h21, h22, trivial⟩)).mono (fun u K h => h.1.trans (by have z0 := h0; have z1 := h3; have z2 := h4; have z3 := h5; have z4 := h6; have z5 := h7; have z6 := h8; have z7 := h9; have z8 := h10; have z9 := h11; have z10 := h12; have z11 := h13; have z12 := h14; have z13 := h15; have z14 := h16; have z15 := h17; have z16 := h18; have z17 := h19; have z18 := h20; have z19 := h21; have z20 := h22; simp only [nz, e8, e16, g8, g64, k1, k2, k3, k4, k5, k6, k7, k8] at z0 z1 z2 z3 z4 z5 z6 z7 z8 z9 z10 z11 z12 z13 z14 z15 z16 z17 z18 z19 z20; (simp only [t3V, gs, gsMoved, e8, e16, g8, g64, k1, k2, k3, k4, k5, k6, k7, k8, r1, r2, r3, r4, r5, r6, r7, cA, rgs_t, rgs_f, z0, z1, z2, z3, z4, z5, z6, z7, z8, z9, z10, z11, z12, z13, z14, z15, z16, z17, z18, z19, z20])))
                                    · rcases Bool.eq_false_or_eq_true (bits BinOp.and IntKind.u8 m 7 == 6) with h22 | h22
                                      · rcases Bool.eq_false_or_eq_true (bits BinOp.and IntKind.u8 a 2 == 0) with h23 | h23
                                        · exact (LCalls_of ctxU_ok gGu (by kernel_rfl) (MWp.ends ctxU_ok 900 _ (gu_40 a m) ⟨h0, h0, h0, h3, h4, h5, h6, h7, h8, h9, h10, h11, h12, h13, h14, h15, h16, h17, h18, h19, h20, h21, h22, h23, trivial⟩)).mono (fun u K h => h.1.trans (by have z0 := h0; have z1 := h3; have z2 := h4; have z3 := h5; have z4 := h6; have z5 := h7; have z6 := h8; have z7 := h9; have z8 := h10; have z9 := h11; have z10 := h12; have z11 := h13; have z12 := h14; have z13 := h15; have z14 := h16; have z15 := h17; have z16 := h18; have z17 := h19; have z18 := h20; have z19 := h21; have z20 := h22; have z21 := h23; simp only [nz, e8, e16, g8, g64, k1, k2, k3, k4, k5, k6, k7, k8] at z0 z1 z2 z3 z4 z5 z6 z7 z8 z9 z10 z11 z12 z13 z14 z15 z16 z17 z18 z19 z20 z21; (simp only [t3V, gs, gsMoved, e8, e16, g8, g64, k1, k2, k3, k4, k5, k6, k7, k8, r1, r2, r3, r4, r5, r6, r7, cA, rgs_t, rgs_f, z0, z1, z2, z3, z4, z5, z6, z7, z8, z9, z10, z11, z12, z13, z14, z15, z16, z17, z18, z19, z20, z21])))
                                        · exact (LCalls_of ctxU_ok gGu (by kernel_rfl) (MWp.ends ctxU_ok 900 _ (gu_41 a m) ⟨h0, h0, h0, h3, h4, h5, h6, h7, h8, h9, h10, h11, h12, h13, h14, h15, h16, h17, h18, h19, h20, h21, h22, h23, trivial⟩)).mono (fun u K h => h.1.trans (by have z0 := h0; have z1 := h3; have z2 := h4; have z3 := h5; have z4 := h6; have z5 := h7; have z6 := h8; have z7 := h9; have z8 := h10; have z9 := h11; have z10 := h12; have z11 := h13; have z12 := h14; have z13 := h15; have z14 := h16; have z15 := h17; have z16 := h18; have z17 := h19; have z18 := h20; have z19 := h21; have z20 := h22; have z21 := h23; simp only [nz, e8, e16, g8, g64, k1, k2, k3, k4, k5, k6, k7, k8] at z0 z1 z2 z3 z4 z5 z6 z7 z8 z9 z10 z11 z12 z13 z14 z15 z16 z17 z18 z19 z20 z21; (simp only [t3V, gs, gsMoved, e8, e16, g8, g64, k1, k2, k3, k4, k5, k6, k7, k8, r1, r2, r3, r4, r5, r6, r7, cA, rgs_t, rgs_f, z0, z1, z2, z3, z4, z5, z6, z7, z8, z9, z10, z11, z12, z13, z14, z15, z16, z17, z18, z19, z20, z21])))
                                      · rcases Bool.eq_false_or_eq_true (bits BinOp.and IntKind.u8 a 2 == 0) with h23 | h23
                                        · exact (LCalls_of ctxU_ok gGu (by kernel_rfl) (MWp.ends ctxU_ok 900 _ (gu_42 a m) ⟨h0, h0, h0, h3, h4, h5, h6, h7, h8, h9, h10, h11, h12, h13, h14, h15, h16, h17, h18, h19, h20, h21, h22, h23, trivial⟩)).mono (fun u K h => h.1.trans (by have z0 := h0; have z1 := h3; have z2 := h4; have z3 := h5; have z4 := h6; have z5 := h7; have z6 := h8; have z7 := h9; have z8 := h10; have z9 := h11; have z10 := h12; have z11 := h13; have z12 := h14; have z13 := h15; have z14 := h16; have z15 := h17; have z16 := h18; have z17 := h19; have z18 := h20; have z19 := h21; have z20 := h22; have z21 := h23; simp only [nz, e8, e16, g8, g64, k1, k2, k3, k4, k5, k6, k7, k8] at z0 z1 z2 z3 z4 z5 z6 z7 z8 z9 z10 z11 z12 z13 z14 z15 z16 z17 z18 z19 z20 z21; (simp only [t3V, gs, gsMoved, e8, e16, g8, g64, k1, k2, k3, k4, k5, k6, k7, k8, r1, r2, r3, r4, r5, r6, r7, cA, rgs_t, rgs_f, z0, z1, z2, z3, z4, z5, z6, z7, z8, z9, z10, z11, z12, z13, z14, z15, z16, z17, z18, z19, z20, z21])))
                                        · exact (LCalls_of ctxU_ok gGu (by kernel_rfl) (MWp.ends ctxU_ok 900 _ (gu_43 a m) ⟨h0, h0, h0, h3, h4, h5, h6, h7, h8, h9, h10, h11, h12, h13, h14, h15, h16, h17, h18, h19, h20, h21, h22, h23, trivial⟩)).mono (fun u K h => h.1.trans (by have z0 := h0; have z1 := h3; have z2 := h4; have z3 := h5; have z4 := h6; have z5 := h7; have z6 := h8; have z7 := h9; have z8 := h10; have z9 := h11; have z10 := h12; have z11 := h13; have z12 := h14; have z13 := h15; have z14 := h16; have z15 := h17; have z16 := h18; have z17 := h19; have z18 := h20; have z19 := h21; have z20 := h22; have z21 := h23; simp only [nz, e8, e16, g8, g64, k1, k2, k3, k4, k5, k6, k7, k8] at z0 z1 z2 z3 z4 z5 z6 z7 z8 z9 z10 z11 z12 z13 z14 z15 z16 z17 z18 z19 z20 z21; (simp only [t3V, gs, gsMoved, e8, e16, g8, g64, k1, k2, k3, k4, k5, k6, k7, k8, r1, r2, r3, r4, r5, r6, r7, cA, rgs_t, rgs_f, z0, z1, z2, z3, z4, z5, z6, z7, z8, z9, z10, z11, z12, z13, z14, z15, z16, z17, z18, z19, z20, z21])))
                              · exact (LCalls_of ctxU_ok gGu (by kernel_rfl) (MWp.ends ctxU_ok 900 _ (gu_44 a m) ⟨h0, h0, h0, h3, h4, h5, h6, h7, h8, h9, h10, h11, h12, h13, h14, h15, h16, h17, h18, trivial⟩)).mono (fun u K h => h.1.trans (by have z0 := h0; have z1 := h3; have z2 := h4; have z3 := h5; have z4 := h6; have z5 := h7; have z6 := h8; have z7 := h9; have z8 := h10; have z9 := h11; have z10 := h12; have z11 := h13; have z12 := h14; have z13 := h15; have z14 := h16; have z15 := h17; have z16 := h18; simp only [nz, e8, e16, g8, g64, k1, k2, k3, k4, k5, k6, k7, k8] at z0 z1 z2 z3 z4 z5 z6 z7 z8 z9 z10 z11 z12 z13 z14 z15 z16; (simp only [t3V, gs, gsMoved, e8, e16, g8, g64, k1, k2, k3, k4, k5, k6, k7, k8, r1, r2, r3, r4, r5, r6, r7, cA, rgs_t, rgs_f, z0, z1, z2, z3, z4, z5, z6, z7, z8, z9, z10, z11, z12, z13, z14, z15, z16])))
def guessC (l : List Value) : Option (Bool × Value) := match l with
  | [.int .u8 a, .int .u8 m] => some (by1 a && by1 m, t3V (gs a m))
  | _ => none
theorem guess_ans : Answers Try.prog 15 guessC := by
  intro args g v h hg
  unfold guessC at h
  split at h
  · rename_i a m
    simp only [Option.some.injEq, Prod.mk.injEq] at h
    obtain ⟨rfl, rfl⟩ := h
    simp only [Bool.and_eq_true, by1_iff] at hg
    exact ⟨by simp [plain, plainL], by simp [t3V, plain, plainL], fun w => calls_plain (by simp [VRL, VR]) (fun ρ v' h => plain_eq (by simp [t3V, plain, plainL]) h) (guess_call a m hg.1 hg.2) w⟩
  · cases h
end Go.Proofs.Ytkemllgkkngcjaa
namespace Go.Proofs.Ytkemllgkkngcjaa
open Go Go.Ly Go.RowKit
structure R6 where
  op : Int
  d : Int
  s : Int
  n : Int
  l : Int
  k : Int
def r6V (r : R6) : Value := .tuple ⟨[.agg ⟨[.int .i64 r.op, .int .i64 r.d, .int .i64 r.s, .int .u16 r.n]⟩, .int .i64 r.l, .int .i64 r.k]⟩
def rS : R6 := ⟨0, 0, 0, 0, 0, 2⟩
def rF : R6 := ⟨0, 0, 0, 0, 0, 12⟩
def mt (T : T3) (a m : Int) : Bool := ((hd T.op T.d T.s).n != 0) && (((hd T.op T.d T.s).b0 == a) && (((hd T.op T.d T.s).n == 1) || ((hd T.op T.d T.s).b1 == m)))
def rim (t : Int) (k : Nat) (f : Nat → Int) : Int := bif t == 0 then 0 else bif t == 1 then IntKind.u16.wrap (f k) else bif t == 2 then bits .or .u16 (IntKind.u16.wrap (f k)) (IntKind.u16.wrap (IntKind.u16.wrap (f (k + 1)) * 256)) else IntKind.u16.wrap (IntKind.i8.wrap (f k))
def rdS (T : T3) (f : Nat → Int) (n : Nat) : R6 := bif Nat.blt n (lenB T.op T.d T.s) then rS else ⟨T.op, T.d, T.s, rim (hd T.op T.d T.s).t (bif (hd T.op T.d T.s).n == 1 then 1 else 2) f, lenB T.op T.d T.s, 0⟩
def sc1 (f : Nat → Int) : Nat → Int → R6
  | 0, _ => rF
  | k + 1, m => bif mt (gs (f 0) m) (f 0) m then rdS (gs (f 0) m) f 1 else sc1 f k (m + 1)
def rd2 (n : Nat) (f : Nat → Int) : R6 := bif mt (gs (f 0) (f 1)) (f 0) (f 1) then rdS (gs (f 0) (f 1)) f n else rF
def rd (n : Nat) (f : Nat → Int) : R6 := bif Nat.beq n 0 then rS else bif Nat.beq n 1 then sc1 f 256 0 else rd2 n f
def rdG (n : Nat) (f : Nat → Int) : Bool := Nat.beq n 0 || (by1 (f 0) && (Nat.beq n 1 || (by1 (f 1) && Nat.ble n 9223372036854775807)))
theorem rdS_short {T : T3} (f : Nat → Int) {n : Nat} (h : n < lenB T.op T.d T.s) : rdS T f n = rS := by
  unfold rdS
  have : Nat.blt n (lenB T.op T.d T.s) = true := by rw [Nat.blt_eq]; exact h
  rw [this]; rfl
theorem rdS_long {T : T3} (f : Nat → Int) {n : Nat} (h : lenB T.op T.d T.s ≤ n) : rdS T f n = ⟨T.op, T.d, T.s, rim (hd T.op T.d T.s).t (bif (hd T.op T.d T.s).n == 1 then 1 else 2) f, lenB T.op T.d T.s, 0⟩ := by
  unfold rdS
  have : Nat.blt n (lenB T.op T.d T.s) = false := by
    cases hb : Nat.blt n (lenB T.op T.d T.s) with
    | false => rfl
    | true => rw [Nat.blt_eq] at hb; omega
  rw [this]; rfl
theorem lenB_12 {T : T3} (h : (hd T.op T.d T.s).n ≠ 1 ∨ (hd T.op T.d T.s).t ≠ 0) : 2 ≤ lenB T.op T.d T.s := by
  unfold lenB
  rcases h with h | h
  · have : ((hd T.op T.d T.s).n == 1) = false := by simpa using h
    rw [this]; simp only [cond_false]; omega
  · have : ((hd T.op T.d T.s).t == 0) = false := by simpa using h
    rw [this]
    cases ((hd T.op T.d T.s).n == 1) <;> cases ((hd T.op T.d T.s).t == 2) <;> decide
def tl (c : Int) : Nat := bif c == 0 then 0 else bif c == 2 then 2 else 1
def l0 (b : Bool) : Nat := bif b then 1 else 2
theorem lenB_at {T : T3} {b : Bool} {c : Int} (h1 : ((hd T.op T.d T.s).n == 1) = b) (ht : ((hd T.op T.d T.s).t == c) = true) : lenB T.op T.d T.s = l0 b + tl c := by
  unfold lenB; rw [h1, beq_iff_eq.1 ht]; rfl
theorem rdS_S {T : T3} {b : Bool} {c : Int} {f : Nat → Int} {n : Nat} (h1 : ((hd T.op T.d T.s).n == 1) = b) (ht : ((hd T.op T.d T.s).t == c) = true) (hn : n < l0 b + tl c) : rdS T f n = rS := rdS_short f (by rw [lenB_at h1 ht]; exact hn)
theorem rdS_L {T : T3} {b : Bool} {c : Int} {f : Nat → Int} {n : Nat} (h1 : ((hd T.op T.d T.s).n == 1) = b) (ht : ((hd T.op T.d T.s).t == c) = true) (hn : l0 b + tl c ≤ n) : rdS T f n = ⟨T.op, T.d, T.s, rim c (l0 b) f, (l0 b + tl c : Nat), 0⟩ := by
  rw [rdS_long f (by rw [lenB_at h1 ht]; exact hn), lenB_at h1 ht, h1, beq_iff_eq.1 ht]; rfl
theorem rdS_12 {T : T3} {f : Nat → Int} (h : ((hd T.op T.d T.s).n == 1) = false ∨ ((hd T.op T.d T.s).t == 0) = false) : rdS T f 1 = rS :=
  rdS_short f (lenB_12 (by rcases h with h | h; exact .inl (by simpa using h); exact .inr (by simpa using h)))
section
variable {T : T3} {a m : Int}
theorem t_3 (h0 : ((hd T.op T.d T.s).n == 0) = false) (a0 : ((hd T.op T.d T.s).t == 0) = false) (a1 : ((hd T.op T.d T.s).t == 1) = false) (a2 : ((hd T.op T.d T.s).t == 2) = false) : ((hd T.op T.d T.s).t == 3) = true := by
  simp only [beq_eq_false_iff_ne, ne_eq, beq_iff_eq] at *
  have := hd_t h0
  omega
theorem mt_n0 (h : ((hd T.op T.d T.s).n == 0) = true) : mt T a m = false := by
  unfold mt; rw [beq_iff_eq.1 h]; rfl
theorem mt_b0 (h : ((!(true && ((hd T.op T.d T.s).b0 == a && true))) == false) = false) : mt T a m = false := by
  unfold mt
  cases e : ((hd T.op T.d T.s).b0 == a) with
  | true => rw [e] at h; cases h
  | false => cases ((hd T.op T.d T.s).n != 0) <;> rfl
theorem mt_b1 (h1 : ((hd T.op T.d T.s).n == 1) = false) (h : ((hd T.op T.d T.s).b1 != m) = true) : mt T a m = false := by
  unfold mt
  have : ((hd T.op T.d T.s).b1 == m) = false := by
    cases e : ((hd T.op T.d T.s).b1 == m) with
    | true => simp only [bne, e] at h; cases h
    | false => rfl
  rw [this, h1]
  cases ((hd T.op T.d T.s).n != 0) <;> cases ((hd T.op T.d T.s).b0 == a) <;> rfl
theorem mt_1 (h0 : ((hd T.op T.d T.s).n == 0) = false) (h1 : ((hd T.op T.d T.s).n == 1) = true) (h : ((!(true && ((hd T.op T.d T.s).b0 == a && true))) == false) = true) : mt T a m = true := by
  unfold mt
  rw [h1]; simp only [bne, h0]
  cases e : ((hd T.op T.d T.s).b0 == a) with
  | false => rw [e] at h; cases h
  | true => rfl
theorem mt_2 (h0 : ((hd T.op T.d T.s).n == 0) = false) (h : ((!(true && ((hd T.op T.d T.s).b0 == a && true))) == false) = true) (hm : ((hd T.op T.d T.s).b1 != m) = false) : mt T a m = true := by
  unfold mt
  have : ((hd T.op T.d T.s).b1 == m) = true := by simpa using hm
  rw [this]; simp only [bne, h0]
  cases e : ((hd T.op T.d T.s).b0 == a) with
  | false => rw [e] at h; cases h
  | true => cases ((hd T.op T.d T.s).n == 1) <;> rfl
theorem mt_bm (h : ((!(true && ((hd T.op T.d T.s).b0 == a && ((hd T.op T.d T.s).b1 == m && true)))) == false) = true) : ((hd T.op T.d T.s).b1 != m) = false := by
  cases e : ((hd T.op T.d T.s).b1 == m) with
  | true => simp only [bne, e]; rfl
  | false => rw [e] at h; cases e2 : ((hd T.op T.d T.s).b0 == a) <;> (rw [e2] at h; cases h)
theorem mt_bt (h0 : ((hd T.op T.d T.s).n == 0) = false) (h : ((!(true && ((hd T.op T.d T.s).b0 == a && ((hd T.op T.d T.s).b1 == m && true)))) == false) = true) : mt T a m = true := by
  refine mt_2 h0 ?_ (mt_bm h)
  cases e : ((hd T.op T.d T.s).b0 == a) with
  | true => rfl
  | false => rw [e] at h; cases h
theorem mt_bf (h1 : ((hd T.op T.d T.s).n == 1) = false) (h : ((!(true && ((hd T.op T.d T.s).b0 == a && ((hd T.op T.d T.s).b1 == m && true)))) == false) = false) : mt T a m = false := by
  cases e : ((hd T.op T.d T.s).b0 == a) with
  | false => exact mt_b0 (by rw [e]; rfl)
  | true =>
    cases e2 : ((hd T.op T.d T.s).b1 == m) with
    | false => exact mt_b1 h1 (by simp only [bne, e2]; rfl)
    | true => rw [e, e2] at h; cases h
end
end Go.Proofs.Ytkemllgkkngcjaa
namespace Go.Proofs.Ytkemllgkkngcjaa
open Go Go.Ly Go.RowKit
theorem lenB_le (op d s : Int) : 1 ≤ lenB op d s ∧ lenB op d s ≤ 4 := by
  unfold lenB
  cases ((hd op d s).n == 1) <;> cases ((hd op d s).t == 0) <;> cases ((hd op d s).t == 2) <;> decide
end Go.Proofs.Ytkemllgkkngcjaa
namespace Go.Proofs.Ytkemllgkkngcjaa
open Go Go.Ly Go.RowKit
theorem or_add8 (h l : Nat) (hl : l < 256) : (256 * h) ||| l = 256 * h + l := by
  have := Nat.two_pow_add_eq_or_of_lt (i := 8) (b := l) (by omega) h
  simpa using this.symm
theorem or_hi {a b : Int} (ha : 0 ≤ a ∧ a ≤ 255) (hb : 0 ≤ b ∧ b ≤ 255) : bits .or .u16 a (b * 256) = a + 256 * b := by
  obtain ⟨a', rfl⟩ := Int.eq_ofNat_of_zero_le ha.1
  obtain ⟨b', rfl⟩ := Int.eq_ofNat_of_zero_le hb.1
  show IntKind.u16.wrap ((BitVec.ofInt 16 (a' : Int) ||| BitVec.ofInt 16 ((b' : Int) * 256)).toNat : Nat) = _
  have e1 : (BitVec.ofInt 16 (a' : Int)).toNat = a' := by rw [BitVec.toNat_ofInt]; omega
  have e2 : (BitVec.ofInt 16 ((b' : Int) * 256)).toNat = 256 * b' := by rw [BitVec.toNat_ofInt]; omega
  rw [BitVec.toNat_or, e1, e2, Nat.or_comm, or_add8 b' a' (by omega), IntKind.wrap_u16]; omega
def byt (x : Int) : Prop := 0 ≤ x ∧ x ≤ 255
theorem rim_0 (c : Nat) (f : Nat → Int) : rim 0 c f = 0 := rfl
theorem rim_1 {c : Nat} {f : Nat → Int} (h : byt (f c)) : rim 1 c f = f c := by
  show IntKind.u16.wrap (f c) = f c
  unfold byt at h; rw [IntKind.wrap_u16]; omega
theorem rim_2 {c : Nat} {f : Nat → Int} (h : byt (f c)) (h' : byt (f (c + 1))) : rim 2 c f = f c + 256 * f (c + 1) := by
  show bits .or .u16 (IntKind.u16.wrap (f c)) (IntKind.u16.wrap (IntKind.u16.wrap (f (c + 1)) * 256)) = _
  have e1 : IntKind.u16.wrap (f c) = f c := by unfold byt at h; rw [IntKind.wrap_u16]; omega
  have e2 : IntKind.u16.wrap (IntKind.u16.wrap (f (c + 1)) * 256) = f (c + 1) * 256 := by unfold byt at h'; rw [IntKind.wrap_u16, IntKind.wrap_u16]; omega
  rw [e1, e2, or_hi h h']
theorem rim_3 {c : Nat} {f : Nat → Int} (h : byt (f c)) : (f c ≤ 127 ∧ rim 3 c f = f c) ∨ (128 ≤ f c ∧ rim 3 c f = f c + 65280) := by
  have : rim 3 c f = IntKind.u16.wrap (IntKind.i8.wrap (f c)) := rfl
  rw [this, IntKind.wrap_u16, i8w]; unfold byt at h; omega
structure Fit (T : T3) (n : Nat) (f : Nat → Int) : Prop where
  nz : (hd T.op T.d T.s).n ≠ 0
  b0 : (hd T.op T.d T.s).b0 = f 0
  b1 : (hd T.op T.d T.s).n ≠ 1 → (hd T.op T.d T.s).b1 = f 1
  le : lenB T.op T.d T.s ≤ n
def rimT (T : T3) (f : Nat → Int) : Int := rim (hd T.op T.d T.s).t (l0 ((hd T.op T.d T.s).n == 1)) f
def rdT (T : T3) (f : Nat → Int) : R6 := ⟨T.op, T.d, T.s, rimT T f, lenB T.op T.d T.s, 0⟩
theorem mt_on {T : T3} {a m : Int} (h : mt T a m = true) : (hd T.op T.d T.s).n ≠ 0 ∧ (hd T.op T.d T.s).b0 = a ∧ ((hd T.op T.d T.s).n ≠ 1 → (hd T.op T.d T.s).b1 = m) := by
  unfold mt at h
  simp only [Bool.and_eq_true, Bool.or_eq_true, bne_iff_ne, ne_eq, beq_iff_eq] at h
  exact ⟨h.1, h.2.1, fun k => h.2.2.resolve_left k⟩
theorem mt_of {T : T3} {a m : Int} (h : (hd T.op T.d T.s).n ≠ 0) (h0 : (hd T.op T.d T.s).b0 = a) (h1 : (hd T.op T.d T.s).n ≠ 1 → (hd T.op T.d T.s).b1 = m) : mt T a m = true := by
  unfold mt
  simp only [Bool.and_eq_true, Bool.or_eq_true, bne_iff_ne, ne_eq, beq_iff_eq]
  refine ⟨h, h0, ?_⟩
  by_cases k : (hd T.op T.d T.s).n = 1
  · exact .inl k
  · exact .inr (h1 k)
theorem rdS_T {T : T3} {f : Nat → Int} {n : Nat} (h : lenB T.op T.d T.s ≤ n) : rdS T f n = rdT T f := rdS_long f h
theorem rdS_or (T : T3) (f : Nat → Int) (n : Nat) : (n < lenB T.op T.d T.s ∧ rdS T f n = rS) ∨ (lenB T.op T.d T.s ≤ n ∧ rdS T f n = rdT T f) := by
  by_cases h : n < lenB T.op T.d T.s
  · exact .inl ⟨h, rdS_short f h⟩
  · exact .inr ⟨by omega, rdS_T (by omega)⟩
theorem len1 {T : T3} (h : lenB T.op T.d T.s ≤ 1) : (hd T.op T.d T.s).n = 1 ∧ (hd T.op T.d T.s).t = 0 := by
  by_cases h1 : (hd T.op T.d T.s).n = 1
  · by_cases h2 : (hd T.op T.d T.s).t = 0
    · exact ⟨h1, h2⟩
    · have := lenB_12 (T := T) (.inr h2); omega
  · have := lenB_12 (T := T) (.inl h1); omega
theorem sc1_or (f : Nat → Int) : ∀ (k : Nat) (m : Int), sc1 f k m = rS ∨ sc1 f k m = rF ∨ ∃ T, Fit T 1 f ∧ sc1 f k m = rdT T f
  | 0, m => .inr (.inl rfl)
  | k + 1, m => by
    have e : sc1 f (k + 1) m = bif mt (gs (f 0) m) (f 0) m then rdS (gs (f 0) m) f 1 else sc1 f k (m + 1) := rfl
    rw [e]
    cases hm : mt (gs (f 0) m) (f 0) m with
    | false => exact sc1_or f k (m + 1)
    | true =>
      simp only [cond_true]
      obtain ⟨h0, h1, h2⟩ := mt_on hm
      rcases rdS_or (gs (f 0) m) f 1 with ⟨_, h⟩ | ⟨hl, h⟩
      · exact .inl h
      · exact .inr (.inr ⟨_, ⟨h0, h1, fun k => absurd (len1 hl).1 k, hl⟩, h⟩)
theorem rd_1 (f : Nat → Int) : rd 1 f = sc1 f 256 0 := rfl
theorem rd_n {n : Nat} (h : 2 ≤ n) (f : Nat → Int) : rd n f = rd2 n f := by
  obtain ⟨k, rfl⟩ : ∃ k, n = k + 2 := ⟨n - 2, by omega⟩
  rfl
theorem rd_or (n : Nat) (f : Nat → Int) : rd n f = rS ∨ rd n f = rF ∨ ∃ T, Fit T n f ∧ rd n f = rdT T f := by
  by_cases h0 : n = 0
  · subst h0; exact .inl rfl
  by_cases h1 : n = 1
  · subst h1; exact sc1_or f 256 0
  rw [rd_n (by omega)]
  unfold rd2
  cases hm : mt (gs (f 0) (f 1)) (f 0) (f 1) with
  | false => exact .inr (.inl rfl)
  | true =>
    simp only [cond_true]
    obtain ⟨h0, h1, h2⟩ := mt_on hm
    rcases rdS_or (gs (f 0) (f 1)) f n with ⟨_, h⟩ | ⟨hl, h⟩
    · exact .inl h
    · exact .inr (.inr ⟨_, ⟨h0, h1, h2, hl⟩, h⟩)
section
variable {T : T3} {n : Nat} {f : Nat → Int}
theorem Fit.one (F : Fit T n f) (h : (hd T.op T.d T.s).n = 1) {m : Int} (hm : byt m) : gs (f 0) m = T := by
  rw [← F.b0]; exact (hd_one h).2.2 m hm.1 hm.2
theorem Fit.two (F : Fit T n f) (h : (hd T.op T.d T.s).n ≠ 1) : gs (f 0) (f 1) = T := by
  rw [← F.b0, ← F.b1 h]; exact (hd_two F.nz h).2.2.2.2
theorem Fit.b (F : Fit T n f) : (hd T.op T.d T.s).n = 1 ∨ (hd T.op T.d T.s).n = 2 := by
  by_cases h : (hd T.op T.d T.s).n = 1
  · exact .inl h
  · exact .inr (hd_two F.nz h).1
theorem Fit.t (F : Fit T n f) : (hd T.op T.d T.s).t = 0 ∨ (hd T.op T.d T.s).t = 1 ∨ (hd T.op T.d T.s).t = 2 ∨ (hd T.op T.d T.s).t = 3 := by
  have := hd_t F.nz; omega
theorem Fit.len (F : Fit T n f) : ∃ (b : Bool) (c : Int), (c = 0 ∨ c = 1 ∨ c = 2 ∨ c = 3) ∧ ((hd T.op T.d T.s).n == 1) = b ∧ (hd T.op T.d T.s).t = c ∧ lenB T.op T.d T.s = l0 b + tl c ∧ rimT T f = rim c (l0 b) f :=
  ⟨_, _, F.t, rfl, rfl, lenB_at rfl (by simp), rfl⟩
theorem fit_rim (F : Fit T n f) (hB : ∀ e, e < n → byt (f e)) : 0 ≤ rimT T f ∧ rimT T f ≤ 65535 ∧ rk T.op T.d T.s (rimT T f) = 0 ∧ ∀ e, e < lenB T.op T.d T.s → atB T.op T.d T.s (rimT T f) e = f e := by
  obtain ⟨b, c, hc, h1, ht, hl, hr⟩ := F.len
  have hle := F.le
  have nz : ((hd T.op T.d T.s).n == 0) = false := by simpa using F.nz
  have hrk : rk T.op T.d T.s (rimT T f) = bif ((c == 0) && (rimT T f != 0)) || (((c == 1) && decide (255 < rimT T f)) || ((c == 3) && !(nearN (rimT T f)))) then 5 else 0 := by
    unfold rk; rw [nz, ht]; rfl
  have a0 : atB T.op T.d T.s (rimT T f) 0 = f 0 := by rw [← F.b0]; rfl
  rw [hrk, hl]
  rw [hl] at hle
  rw [hr]
  cases b with
  | true =>
    have a1 : atB T.op T.d T.s (rimT T f) 1 = rimT T f % 256 := by unfold atB; rw [h1]; rfl
    have a2 : atB T.op T.d T.s (rimT T f) 2 = rimT T f / 256 := by unfold atB; rw [h1]; rfl
    rw [hr] at a0 a1 a2
    rcases hc with rfl | rfl | rfl | rfl
    · have hle : 1 ≤ n := hle
      refine ⟨by rw [rim_0]; omega, by rw [rim_0]; omega, by rw [rim_0]; rfl, fun e he => ?_⟩
      have he : e < 1 := he
      obtain rfl : e = 0 := by omega
      exact a0
    · have hle : 2 ≤ n := hle
      have k1 := hB 1 (by omega)
      have hv : rim 1 (l0 true) f = f 1 := rim_1 k1
      rw [hv] at a0 a1 a2 ⊢
      unfold byt at k1
      refine ⟨by omega, by omega, ?_, fun e he => ?_⟩
      · have : decide (255 < f 1) = false := by simp; omega
        rw [this]; rfl
      · have he : e < 2 := he
        have : e = 0 ∨ e = 1 := by omega
        rcases this with rfl | rfl
        · exact a0
        · rw [a1]; omega
    · have hle : 3 ≤ n := hle
      have k1 := hB 1 (by omega)
      have k2 := hB 2 (by omega)
      have hv : rim 2 (l0 true) f = f 1 + 256 * f 2 := rim_2 k1 k2
      rw [hv] at a0 a1 a2 ⊢
      unfold byt at k1 k2
      refine ⟨by omega, by omega, rfl, fun e he => ?_⟩
      have he : e < 3 := he
      have : e = 0 ∨ e = 1 ∨ e = 2 := by omega
      rcases this with rfl | rfl | rfl
      · exact a0
      · rw [a1]; omega
      · rw [a2]; omega
    · have hle : 2 ≤ n := hle
      have k1 := hB 1 (by omega)
      have hv : (f 1 ≤ 127 ∧ rim 3 (l0 true) f = f 1) ∨ (128 ≤ f 1 ∧ rim 3 (l0 true) f = f 1 + 65280) := rim_3 k1
      unfold byt at k1
      refine ⟨by omega, by omega, ?_, fun e he => ?_⟩
      · have : nearN (rim 3 (l0 true) f) = true := by unfold nearN; simp only [Bool.or_eq_true, decide_eq_true_eq]; omega
        rw [this]; rfl
      · have he : e < 2 := he
        have : e = 0 ∨ e = 1 := by omega
        rcases this with rfl | rfl
        · exact a0
        · rw [a1]; omega
  | false =>
    have h1' : (hd T.op T.d T.s).n ≠ 1 := by simpa using h1
    have a1 : atB T.op T.d T.s (rimT T f) 1 = f 1 := by unfold atB; rw [h1, F.b1 h1']; rfl
    have a2 : atB T.op T.d T.s (rimT T f) 2 = rimT T f % 256 := by unfold atB; rw [h1]; rfl
    have a3 : atB T.op T.d T.s (rimT T f) 3 = rimT T f / 256 := by unfold atB; rw [h1]; rfl
    rw [hr] at a0 a1 a2 a3
    rcases hc with rfl | rfl | rfl | rfl
    · have hle : 2 ≤ n := hle
      refine ⟨by rw [rim_0]; omega, by rw [rim_0]; omega, by rw [rim_0]; rfl, fun e he => ?_⟩
      have he : e < 2 := he
      have : e = 0 ∨ e = 1 := by omega
      rcases this with rfl | rfl
      · exact a0
      · exact a1
    · have hle : 3 ≤ n := hle
      have k1 := hB 2 (by omega)
      have hv : rim 1 (l0 false) f = f 2 := rim_1 k1
      rw [hv] at a0 a1 a2 a3 ⊢
      unfold byt at k1
      refine ⟨by omega, by omega, ?_, fun e he => ?_⟩
      · have : decide (255 < f 2) = false := by simp; omega
        rw [this]; rfl
      · have he : e < 3 := he
        have : e = 0 ∨ e = 1 ∨ e = 2 := by omega
        rcases this with rfl | rfl | rfl
        · exact a0
        · exact a1
        · rw [a2]; omega
    · have hle : 4 ≤ n := hle
      have k1 := hB 2 (by omega)
      have k2 := hB 3 (by omega)
      have hv : rim 2 (l0 false) f = f 2 + 256 * f 3 := rim_2 k1 k2
      rw [hv] at a0 a1 a2 a3 ⊢
      unfold byt at k1 k2
      refine ⟨by omega, by omega, rfl, fun e he => ?_⟩
      have he : e < 4 := he
      have : e = 0 ∨ e = 1 ∨ e = 2 ∨ e = 3 := by omega
      rcases this with rfl | rfl | rfl | rfl
      · exact a0
      · exact a1
      · rw [a2]; omega
      · rw [a3]; omega
    · have hle : 3 ≤ n := hle
      have k1 := hB 2 (by omega)
      have hv : (f 2 ≤ 127 ∧ rim 3 (l0 false) f = f 2) ∨ (128 ≤ f 2 ∧ rim 3 (l0 false) f = f 2 + 65280) := rim_3 k1
      unfold byt at k1
      refine ⟨by omega, by omega, ?_, fun e he => ?_⟩
      · have : nearN (rim 3 (l0 false) f) = true := by unfold nearN; simp only [Bool.or_eq_true, decide_eq_true_eq]; omega
        rw [this]; rfl
      · have he : e < 3 := he
        have : e = 0 ∨ e = 1 ∨ e = 2 := by omega
        rcases this with rfl | rfl | rfl
        · exact a0
        · exact a1
        · rw [a2]; omega
theorem sc1_rS : ∀ (k : Nat) (m : Int), (∃ j : Nat, j < k ∧ mt (gs (f 0) (m + j)) (f 0) (m + j) = true) → (∀ j : Nat, j < k → mt (gs (f 0) (m + j)) (f 0) (m + j) = true → 1 < lenB (gs (f 0) (m + j)).op (gs (f 0) (m + j)).d (gs (f 0) (m + j)).s) → sc1 f k m = rS
  | 0, m, ⟨j, hj, _⟩, _ => absurd hj (by omega)
  | k + 1, m, ⟨j, hj, hm⟩, hl => by
    have e : sc1 f (k + 1) m = bif mt (gs (f 0) m) (f 0) m then rdS (gs (f 0) m) f 1 else sc1 f k (m + 1) := rfl
    have z : m + ((0 : Nat) : Int) = m := by omega
    rw [e]
    cases hx : mt (gs (f 0) m) (f 0) m with
    | true =>
      have := hl 0 (by omega)
      rw [z] at this
      exact rdS_short f (this hx)
    | false =>
      have hj0 : j ≠ 0 := by
        rintro rfl
        rw [z, hx] at hm; cases hm
      obtain ⟨i, rfl⟩ : ∃ i, j = i + 1 := ⟨j - 1, by omega⟩
      have sh : ∀ i : Nat, m + ((i + 1 : Nat) : Int) = m + 1 + (i : Int) := fun i => by omega
      refine sc1_rS k (m + 1) ⟨i, by omega, by rw [← sh]; exact hm⟩ fun i hi => ?_
      rw [← sh]
      exact hl (i + 1) (by omega)
theorem fit_cut (F : Fit T n f) (hB : ∀ e, e < n → byt (f e)) {c : Nat} (h0 : 1 ≤ c) (hc : c < lenB T.op T.d T.s) : rd c f = rS := by
  have hle := F.le
  have b1 := hB 1 (by omega)
  have bz : byt 0 := ⟨by omega, by omega⟩
  by_cases h1 : c = 1
  · subst h1
    rw [rd_1]
    by_cases h : (hd T.op T.d T.s).n = 1
    · have g : gs (f 0) 0 = T := F.one h bz
      have e : sc1 f 256 0 = bif mt (gs (f 0) 0) (f 0) 0 then rdS (gs (f 0) 0) f 1 else sc1 f 255 (0 + 1) := rfl
      rw [e, g, mt_of F.nz F.b0 (fun k => absurd h k)]
      exact rdS_short f hc
    · refine sc1_rS 256 0 ⟨(f 1).toNat, by unfold byt at b1; omega, ?_⟩ fun j hj hm => ?_
      · have : (0 : Int) + ((f 1).toNat : Int) = f 1 := by unfold byt at b1; omega
        rw [this, F.two h]
        exact mt_of F.nz F.b0 F.b1
      · obtain ⟨z, y0, y1⟩ := mt_on hm
        by_cases k : (hd (gs (f 0) (0 + (j : Int))).op (gs (f 0) (0 + (j : Int))).d (gs (f 0) (0 + (j : Int))).s).n = 1
        · have := (hd_one k).2.2 (f 1) b1.1 b1.2
          rw [y0, F.two h] at this
          have q : T = gs (f 0) (0 + (j : Int)) := this
          rw [← q] at k
          exact absurd k h
        · exact lenB_12 (.inl k)
  · rw [rd_n (by omega)]
    have g : gs (f 0) (f 1) = T := by
      by_cases h : (hd T.op T.d T.s).n = 1
      · exact F.one h b1
      · exact F.two h
    unfold rd2
    rw [g, mt_of F.nz F.b0 F.b1]
    exact rdS_short f hc
end
end Go.Proofs.Ytkemllgkkngcjaa
namespace Go.Proofs.Ytkemllgkkngcjaa
open Go Go.Ly Go.RowKit
def ctxD : Ctx := ctxG.with 15 guessC
theorem ctxD_ok : ctxD.Ok Try.prog := ctxG_ok.with guess_ans
end Go.Proofs.Ytkemllgkkngcjaa
namespace Go.Proofs.Ytkemllgkkngcjaa
open Go Go.Ly Go.RowKit
abbrev hg (a m : Int) : Hd := hd (gs a m).op (gs a m).d (gs a m).s
abbrev st8 (n : Nat) (f : Nat → Int) : St := Ly.start Try.f8 [sl 0 n] (mkH [some (ints .u8 f n)])
def d8 : St := Ly.start Try.f8 [] H0
def st2 (f : Nat → Int) : St := Ly.start Try.f8 [sl 0 2] (mkH [some (ints .u8 f 2)])
def st1 (f : Nat → Int) : St := Ly.start Try.f8 [sl 0 1] (mkH [some (ints .u8 f 1)])
def kX : List KI := ((Ly.run ctxD 59 [] (st2 fun _ => 0)).st d8).top.k
def kY : List KI := ((Ly.run ctxD 56 [] (st2 fun _ => 0)).st d8).top.k
def all8 : List Value := (List.range 256).map fun (k : Nat) => .int .u8 (k : Int)
def xO (f : Nat → Int) : List (Option LO) := [some (ints .u8 f 1), some (.cells [.int .i64 0, .int .i64 0, .int .i64 0, .int .u16 0] 26), some (.row all8 5 1)]
def xV (i m : Int) : List Value := slots 143 [(0, sl 0 1), (2, .pointer (some ⟨1, 0, none⟩)), (8, .int .u8 m), (39, .slice (some ⟨2, 0, none⟩) 256 18446744073709551616), (40, .int .i64 256), (41, .int .i64 i)]
def yV (i : Int) : List Value := slots 143 [(0, sl 0 1), (2, .pointer (some ⟨1, 0, none⟩)), (39, .slice (some ⟨2, 0, none⟩) 256 18446744073709551616), (40, .int .i64 256), (41, .int .i64 i)]
def sX (f : Nat → Int) (i m : Int) : St := mkSt Try.f8 kX none 1 (xV i m) (xO f)
def sY (f : Nat → Int) (i : Int) : St := mkSt Try.f8 kY none 1 (yV i) (xO f)
end Go.Proofs.Ytkemllgkkngcjaa
namespace Go.Proofs.Ytkemllgkkngcjaa
open Go Go.Ly Go.RowKit
set_option maxRecDepth 100000 in
theorem rdA_all (f : Nat → Int) : (List.range 256).map (fun (i : Nat) => headAt [0, 2, 8, 39, 40, 41] [0, 1, 2] d8 (Ly.run ctxD 3 [] (sY f i))) = (List.range 256).map (fun (i : Nat) => (true, [], true, (Try.f8, kX, none, 1), xV i i, xO f)) := by kernel_rfl
theorem rdA (f : Nat → Int) (i : Nat) (h : i < 256) : headAt [0, 2, 8, 39, 40, 41] [0, 1, 2] d8 (Ly.run ctxD 3 [] (sY f i)) = (true, [], true, (Try.f8, kX, none, 1), xV i i, xO f) := by
  have k := rdA_all f
  rw [List.map_inj_left] at k
  exact k i (List.mem_range.2 h)
set_option maxRecDepth 100000 in
theorem rdE0 (f : Nat → Int) : headAt [0, 2, 39, 40, 41] [0, 1, 512] d8 (Ly.run ctxD 7456 [] (st1 f)) = (true, [], true, (Try.f8, kY, none, 1), yV 0, xO f) := by kernel_rfl
theorem xP (f : Nat → Int) : ∀ o ∈ xO f, ∀ x, o = some x → plainO x := by
  intro o ho x hx
  simp only [xO, List.mem_cons, List.not_mem_nil, or_false] at ho
  rcases ho with rfl | rfl | rfl <;> (simp only [Option.some.injEq] at hx; subst hx)
  · exact plain_ints
  · exact trivial
  · exact trivial
theorem rx_0 (f : Nat → Int) (i m : Int) : headAt [0, 2, 39, 40, 41] [0, 1, 2] d8 (Ly.run ctxD 56 (dp [5, 1, 39]) (sX f i m)) = (true, [(by1 (f 0) && by1 m, true), ((hg (f 0) m).n == 0, true), (decide (IntKind.i64.wrap (i + 1) < 256), true)], true, (Try.f8, kY, none, 1), yV (IntKind.i64.wrap (i + 1)), xO f) := by kernel_rfl
theorem rx_1 (f : Nat → Int) (i m : Int) : endsAt [] (Ly.run ctxD 3000 (dp [5, 1, 38]) (sX f i m)) = some ([(by1 (f 0) && by1 m, true), ((hg (f 0) m).n == 0, true), (decide (IntKind.i64.wrap (i + 1) < 256), false)], r6V rF, 4, []) := by kernel_rfl
theorem rx_2 (f : Nat → Int) (i m : Int) : endsAt [] (Ly.run ctxD 3000 (dp [5, 0, 1, 1, 29]) (sX f i m)) = some ([(by1 (f 0) && by1 m, true), ((hg (f 0) m).n == 0, false), ((hg (f 0) m).n == 1, true), ((hg (f 0) m).t == 0, true), ((!(true && ((hg (f 0) m).b0 == f 0 && true))) == false, true)], .tuple ⟨[.agg ⟨[.int .i64 (gs (f 0) m).op, .int .i64 (gs (f 0) m).d, .int .i64 (gs (f 0) m).s, .int .u16 0]⟩, .int .i64 (1), .int .i64 0]⟩, 6, []) := by kernel_rfl
theorem rx_3 (f : Nat → Int) (i m : Int) : headAt [0, 2, 39, 40, 41] [0, 1, 2] d8 (Ly.run ctxD 56 (dp [5, 0, 1, 1, 28, 15]) (sX f i m)) = (true, [(by1 (f 0) && by1 m, true), ((hg (f 0) m).n == 0, false), ((hg (f 0) m).n == 1, true), ((hg (f 0) m).t == 0, true), ((!(true && ((hg (f 0) m).b0 == f 0 && true))) == false, false), (decide (IntKind.i64.wrap (i + 1) < 256), true)], true, (Try.f8, kY, none, 1), yV (IntKind.i64.wrap (i + 1)), xO f) := by kernel_rfl
theorem rx_4 (f : Nat → Int) (i m : Int) : endsAt [] (Ly.run ctxD 3000 (dp [5, 0, 1, 1, 28, 14]) (sX f i m)) = some ([(by1 (f 0) && by1 m, true), ((hg (f 0) m).n == 0, false), ((hg (f 0) m).n == 1, true), ((hg (f 0) m).t == 0, true), ((!(true && ((hg (f 0) m).b0 == f 0 && true))) == false, false), (decide (IntKind.i64.wrap (i + 1) < 256), false)], r6V rF, 5, []) := by kernel_rfl
theorem rx_5 (f : Nat → Int) (i m : Int) : endsAt [] (Ly.run ctxD 3000 (dp [5, 0, 1, 0, 1, 29]) (sX f i m)) = some ([(by1 (f 0) && by1 m, true), ((hg (f 0) m).n == 0, false), ((hg (f 0) m).n == 1, true), ((hg (f 0) m).t == 0, false), ((hg (f 0) m).t == 1, true), ((!(true && ((hg (f 0) m).b0 == f 0 && true))) == false, true)], r6V rS, 5, []) := by kernel_rfl
theorem rx_6 (f : Nat → Int) (i m : Int) : headAt [0, 2, 39, 40, 41] [0, 1, 2] d8 (Ly.run ctxD 56 (dp [5, 0, 1, 0, 1, 28, 15]) (sX f i m)) = (true, [(by1 (f 0) && by1 m, true), ((hg (f 0) m).n == 0, false), ((hg (f 0) m).n == 1, true), ((hg (f 0) m).t == 0, false), ((hg (f 0) m).t == 1, true), ((!(true && ((hg (f 0) m).b0 == f 0 && true))) == false, false), (decide (IntKind.i64.wrap (i + 1) < 256), true)], true, (Try.f8, kY, none, 1), yV (IntKind.i64.wrap (i + 1)), xO f) := by kernel_rfl
theorem rx_7 (f : Nat → Int) (i m : Int) : endsAt [] (Ly.run ctxD 3000 (dp [5, 0, 1, 0, 1, 28, 14]) (sX f i m)) = some ([(by1 (f 0) && by1 m, true), ((hg (f 0) m).n == 0, false), ((hg (f 0) m).n == 1, true), ((hg (f 0) m).t == 0, false), ((hg (f 0) m).t == 1, true), ((!(true && ((hg (f 0) m).b0 == f 0 && true))) == false, false), (decide (IntKind.i64.wrap (i + 1) < 256), false)], r6V rF, 5, []) := by kernel_rfl
theorem rx_8 (f : Nat → Int) (i m : Int) : endsAt [] (Ly.run ctxD 3000 (dp [5, 0, 1, 0, 0, 1, 29]) (sX f i m)) = some ([(by1 (f 0) && by1 m, true), ((hg (f 0) m).n == 0, false), ((hg (f 0) m).n == 1, true), ((hg (f 0) m).t == 0, false), ((hg (f 0) m).t == 1, false), ((hg (f 0) m).t == 2, true), ((!(true && ((hg (f 0) m).b0 == f 0 && true))) == false, true)], r6V rS, 5, []) := by kernel_rfl
theorem rx_9 (f : Nat → Int) (i m : Int) : headAt [0, 2, 39, 40, 41] [0, 1, 2] d8 (Ly.run ctxD 56 (dp [5, 0, 1, 0, 0, 1, 28, 15]) (sX f i m)) = (true, [(by1 (f 0) && by1 m, true), ((hg (f 0) m).n == 0, false), ((hg (f 0) m).n == 1, true), ((hg (f 0) m).t == 0, false), ((hg (f 0) m).t == 1, false), ((hg (f 0) m).t == 2, true), ((!(true && ((hg (f 0) m).b0 == f 0 && true))) == false, false), (decide (IntKind.i64.wrap (i + 1) < 256), true)], true, (Try.f8, kY, none, 1), yV (IntKind.i64.wrap (i + 1)), xO f) := by kernel_rfl
theorem rx_10 (f : Nat → Int) (i m : Int) : endsAt [] (Ly.run ctxD 3000 (dp [5, 0, 1, 0, 0, 1, 28, 14]) (sX f i m)) = some ([(by1 (f 0) && by1 m, true), ((hg (f 0) m).n == 0, false), ((hg (f 0) m).n == 1, true), ((hg (f 0) m).t == 0, false), ((hg (f 0) m).t == 1, false), ((hg (f 0) m).t == 2, true), ((!(true && ((hg (f 0) m).b0 == f 0 && true))) == false, false), (decide (IntKind.i64.wrap (i + 1) < 256), false)], r6V rF, 5, []) := by kernel_rfl
theorem rx_11 (f : Nat → Int) (i m : Int) : endsAt [] (Ly.run ctxD 3000 (dp [5, 0, 1, 0, 0, 0, 1, 29]) (sX f i m)) = some ([(by1 (f 0) && by1 m, true), ((hg (f 0) m).n == 0, false), ((hg (f 0) m).n == 1, true), ((hg (f 0) m).t == 0, false), ((hg (f 0) m).t == 1, false), ((hg (f 0) m).t == 2, false), ((hg (f 0) m).t == 3, true), ((!(true && ((hg (f 0) m).b0 == f 0 && true))) == false, true)], r6V rS, 5, []) := by kernel_rfl
theorem rx_12 (f : Nat → Int) (i m : Int) : headAt [0, 2, 39, 40, 41] [0, 1, 2] d8 (Ly.run ctxD 56 (dp [5, 0, 1, 0, 0, 0, 1, 28, 15]) (sX f i m)) = (true, [(by1 (f 0) && by1 m, true), ((hg (f 0) m).n == 0, false), ((hg (f 0) m).n == 1, true), ((hg (f 0) m).t == 0, false), ((hg (f 0) m).t == 1, false), ((hg (f 0) m).t == 2, false), ((hg (f 0) m).t == 3, true), ((!(true && ((hg (f 0) m).b0 == f 0 && true))) == false, false), (decide (IntKind.i64.wrap (i + 1) < 256), true)], true, (Try.f8, kY, none, 1), yV (IntKind.i64.wrap (i + 1)), xO f) := by kernel_rfl
theorem rx_13 (f : Nat → Int) (i m : Int) : endsAt [] (Ly.run ctxD 3000 (dp [5, 0, 1, 0, 0, 0, 1, 28, 14]) (sX f i m)) = some ([(by1 (f 0) && by1 m, true), ((hg (f 0) m).n == 0, false), ((hg (f 0) m).n == 1, true), ((hg (f 0) m).t == 0, false), ((hg (f 0) m).t == 1, false), ((hg (f 0) m).t == 2, false), ((hg (f 0) m).t == 3, true), ((!(true && ((hg (f 0) m).b0 == f 0 && true))) == false, false), (decide (IntKind.i64.wrap (i + 1) < 256), false)], r6V rF, 5, []) := by kernel_rfl
theorem rx_14 (f : Nat → Int) (i m : Int) : headAt [0, 2, 39, 40, 41] [0, 1, 2] d8 (Ly.run ctxD 56 (dp [5, 0, 0, 1, 29, 29, 1]) (sX f i m)) = (true, [(by1 (f 0) && by1 m, true), ((hg (f 0) m).n == 0, false), ((hg (f 0) m).n == 1, false), ((hg (f 0) m).t == 0, true), ((!(true && ((hg (f 0) m).b0 == f 0 && true))) == false, true), ((hg (f 0) m).b1 != m, true), (decide (IntKind.i64.wrap (i + 1) < 256), true)], true, (Try.f8, kY, none, 1), yV (IntKind.i64.wrap (i + 1)), xO f) := by kernel_rfl
theorem rx_15 (f : Nat → Int) (i m : Int) : endsAt [] (Ly.run ctxD 3000 (dp [5, 0, 0, 1, 29, 29, 0]) (sX f i m)) = some ([(by1 (f 0) && by1 m, true), ((hg (f 0) m).n == 0, false), ((hg (f 0) m).n == 1, false), ((hg (f 0) m).t == 0, true), ((!(true && ((hg (f 0) m).b0 == f 0 && true))) == false, true), ((hg (f 0) m).b1 != m, true), (decide (IntKind.i64.wrap (i + 1) < 256), false)], r6V rF, 5, []) := by kernel_rfl
theorem rx_16 (f : Nat → Int) (i m : Int) : endsAt [] (Ly.run ctxD 3000 (dp [5, 0, 0, 1, 29, 28]) (sX f i m)) = some ([(by1 (f 0) && by1 m, true), ((hg (f 0) m).n == 0, false), ((hg (f 0) m).n == 1, false), ((hg (f 0) m).t == 0, true), ((!(true && ((hg (f 0) m).b0 == f 0 && true))) == false, true), ((hg (f 0) m).b1 != m, false)], r6V rS, 5, []) := by kernel_rfl
theorem rx_17 (f : Nat → Int) (i m : Int) : headAt [0, 2, 39, 40, 41] [0, 1, 2] d8 (Ly.run ctxD 56 (dp [5, 0, 0, 1, 28, 15]) (sX f i m)) = (true, [(by1 (f 0) && by1 m, true), ((hg (f 0) m).n == 0, false), ((hg (f 0) m).n == 1, false), ((hg (f 0) m).t == 0, true), ((!(true && ((hg (f 0) m).b0 == f 0 && true))) == false, false), (decide (IntKind.i64.wrap (i + 1) < 256), true)], true, (Try.f8, kY, none, 1), yV (IntKind.i64.wrap (i + 1)), xO f) := by kernel_rfl
theorem rx_18 (f : Nat → Int) (i m : Int) : endsAt [] (Ly.run ctxD 3000 (dp [5, 0, 0, 1, 28, 14]) (sX f i m)) = some ([(by1 (f 0) && by1 m, true), ((hg (f 0) m).n == 0, false), ((hg (f 0) m).n == 1, false), ((hg (f 0) m).t == 0, true), ((!(true && ((hg (f 0) m).b0 == f 0 && true))) == false, false), (decide (IntKind.i64.wrap (i + 1) < 256), false)], r6V rF, 5, []) := by kernel_rfl
theorem rx_19 (f : Nat → Int) (i m : Int) : headAt [0, 2, 39, 40, 41] [0, 1, 2] d8 (Ly.run ctxD 56 (dp [5, 0, 0, 0, 1, 29, 29, 1]) (sX f i m)) = (true, [(by1 (f 0) && by1 m, true), ((hg (f 0) m).n == 0, false), ((hg (f 0) m).n == 1, false), ((hg (f 0) m).t == 0, false), ((hg (f 0) m).t == 1, true), ((!(true && ((hg (f 0) m).b0 == f 0 && true))) == false, true), ((hg (f 0) m).b1 != m, true), (decide (IntKind.i64.wrap (i + 1) < 256), true)], true, (Try.f8, kY, none, 1), yV (IntKind.i64.wrap (i + 1)), xO f) := by kernel_rfl
theorem rx_20 (f : Nat → Int) (i m : Int) : endsAt [] (Ly.run ctxD 3000 (dp [5, 0, 0, 0, 1, 29, 29, 0]) (sX f i m)) = some ([(by1 (f 0) && by1 m, true), ((hg (f 0) m).n == 0, false), ((hg (f 0) m).n == 1, false), ((hg (f 0) m).t == 0, false), ((hg (f 0) m).t == 1, true), ((!(true && ((hg (f 0) m).b0 == f 0 && true))) == false, true), ((hg (f 0) m).b1 != m, true), (decide (IntKind.i64.wrap (i + 1) < 256), false)], r6V rF, 5, []) := by kernel_rfl
theorem rx_21 (f : Nat → Int) (i m : Int) : endsAt [] (Ly.run ctxD 3000 (dp [5, 0, 0, 0, 1, 29, 28]) (sX f i m)) = some ([(by1 (f 0) && by1 m, true), ((hg (f 0) m).n == 0, false), ((hg (f 0) m).n == 1, false), ((hg (f 0) m).t == 0, false), ((hg (f 0) m).t == 1, true), ((!(true && ((hg (f 0) m).b0 == f 0 && true))) == false, true), ((hg (f 0) m).b1 != m, false)], r6V rS, 5, []) := by kernel_rfl
theorem rx_22 (f : Nat → Int) (i m : Int) : headAt [0, 2, 39, 40, 41] [0, 1, 2] d8 (Ly.run ctxD 56 (dp [5, 0, 0, 0, 1, 28, 15]) (sX f i m)) = (true, [(by1 (f 0) && by1 m, true), ((hg (f 0) m).n == 0, false), ((hg (f 0) m).n == 1, false), ((hg (f 0) m).t == 0, false), ((hg (f 0) m).t == 1, true), ((!(true && ((hg (f 0) m).b0 == f 0 && true))) == false, false), (decide (IntKind.i64.wrap (i + 1) < 256), true)], true, (Try.f8, kY, none, 1), yV (IntKind.i64.wrap (i + 1)), xO f) := by kernel_rfl
theorem rx_23 (f : Nat → Int) (i m : Int) : endsAt [] (Ly.run ctxD 3000 (dp [5, 0, 0, 0, 1, 28, 14]) (sX f i m)) = some ([(by1 (f 0) && by1 m, true), ((hg (f 0) m).n == 0, false), ((hg (f 0) m).n == 1, false), ((hg (f 0) m).t == 0, false), ((hg (f 0) m).t == 1, true), ((!(true && ((hg (f 0) m).b0 == f 0 && true))) == false, false), (decide (IntKind.i64.wrap (i + 1) < 256), false)], r6V rF, 5, []) := by kernel_rfl
theorem rx_24 (f : Nat → Int) (i m : Int) : headAt [0, 2, 39, 40, 41] [0, 1, 2] d8 (Ly.run ctxD 56 (dp [5, 0, 0, 0, 0, 1, 29, 29, 1]) (sX f i m)) = (true, [(by1 (f 0) && by1 m, true), ((hg (f 0) m).n == 0, false), ((hg (f 0) m).n == 1, false), ((hg (f 0) m).t == 0, false), ((hg (f 0) m).t == 1, false), ((hg (f 0) m).t == 2, true), ((!(true && ((hg (f 0) m).b0 == f 0 && true))) == false, true), ((hg (f 0) m).b1 != m, true), (decide (IntKind.i64.wrap (i + 1) < 256), true)], true, (Try.f8, kY, none, 1), yV (IntKind.i64.wrap (i + 1)), xO f) := by kernel_rfl
theorem rx_25 (f : Nat → Int) (i m : Int) : endsAt [] (Ly.run ctxD 3000 (dp [5, 0, 0, 0, 0, 1, 29, 29, 0]) (sX f i m)) = some ([(by1 (f 0) && by1 m, true), ((hg (f 0) m).n == 0, false), ((hg (f 0) m).n == 1, false), ((hg (f 0) m).t == 0, false), ((hg (f 0) m).t == 1, false), ((hg (f 0) m).t == 2, true), ((!(true && ((hg (f 0) m).b0 == f 0 && true))) == false, true), ((hg (f 0) m).b1 != m, true), (decide (IntKind.i64.wrap (i + 1) < 256), false)], r6V rF, 5, []) := by kernel_rfl
theorem rx_26 (f : Nat → Int) (i m : Int) : endsAt [] (Ly.run ctxD 3000 (dp [5, 0, 0, 0, 0, 1, 29, 28]) (sX f i m)) = some ([(by1 (f 0) && by1 m, true), ((hg (f 0) m).n == 0, false), ((hg (f 0) m).n == 1, false), ((hg (f 0) m).t == 0, false), ((hg (f 0) m).t == 1, false), ((hg (f 0) m).t == 2, true), ((!(true && ((hg (f 0) m).b0 == f 0 && true))) == false, true), ((hg (f 0) m).b1 != m, false)], r6V rS, 5, []) := by kernel_rfl
theorem rx_27 (f : Nat → Int) (i m : Int) : headAt [0, 2, 39, 40, 41] [0, 1, 2] d8 (Ly.run ctxD 56 (dp [5, 0, 0, 0, 0, 1, 28, 15]) (sX f i m)) = (true, [(by1 (f 0) && by1 m, true), ((hg (f 0) m).n == 0, false), ((hg (f 0) m).n == 1, false), ((hg (f 0) m).t == 0, false), ((hg (f 0) m).t == 1, false), ((hg (f 0) m).t == 2, true), ((!(true && ((hg (f 0) m).b0 == f 0 && true))) == false, false), (decide (IntKind.i64.wrap (i + 1) < 256), true)], true, (Try.f8, kY, none, 1), yV (IntKind.i64.wrap (i + 1)), xO f) := by kernel_rfl
theorem rx_28 (f : Nat → Int) (i m : Int) : endsAt [] (Ly.run ctxD 3000 (dp [5, 0, 0, 0, 0, 1, 28, 14]) (sX f i m)) = some ([(by1 (f 0) && by1 m, true), ((hg (f 0) m).n == 0, false), ((hg (f 0) m).n == 1, false), ((hg (f 0) m).t == 0, false), ((hg (f 0) m).t == 1, false), ((hg (f 0) m).t == 2, true), ((!(true && ((hg (f 0) m).b0 == f 0 && true))) == false, false), (decide (IntKind.i64.wrap (i + 1) < 256), false)], r6V rF, 5, []) := by kernel_rfl
theorem rx_29 (f : Nat → Int) (i m : Int) : headAt [0, 2, 39, 40, 41] [0, 1, 2] d8 (Ly.run ctxD 56 (dp [5, 0, 0, 0, 0, 0, 1, 29, 29, 1]) (sX f i m)) = (true, [(by1 (f 0) && by1 m, true), ((hg (f 0) m).n == 0, false), ((hg (f 0) m).n == 1, false), ((hg (f 0) m).t == 0, false), ((hg (f 0) m).t == 1, false), ((hg (f 0) m).t == 2, false), ((hg (f 0) m).t == 3, true), ((!(true && ((hg (f 0) m).b0 == f 0 && true))) == false, true), ((hg (f 0) m).b1 != m, true), (decide (IntKind.i64.wrap (i + 1) < 256), true)], true, (Try.f8, kY, none, 1), yV (IntKind.i64.wrap (i + 1)), xO f) := by kernel_rfl
theorem rx_30 (f : Nat → Int) (i m : Int) : endsAt [] (Ly.run ctxD 3000 (dp [5, 0, 0, 0, 0, 0, 1, 29, 29, 0]) (sX f i m)) = some ([(by1 (f 0) && by1 m, true), ((hg (f 0) m).n == 0, false), ((hg (f 0) m).n == 1, false), ((hg (f 0) m).t == 0, false), ((hg (f 0) m).t == 1, false), ((hg (f 0) m).t == 2, false), ((hg (f 0) m).t == 3, true), ((!(true && ((hg (f 0) m).b0 == f 0 && true))) == false, true), ((hg (f 0) m).b1 != m, true), (decide (IntKind.i64.wrap (i + 1) < 256), false)], r6V rF, 5, []) := by kernel_rfl
theorem rx_31 (f : Nat → Int) (i m : Int) : endsAt [] (Ly.run ctxD 3000 (dp [5, 0, 0, 0, 0, 0, 1, 29, 28]) (sX f i m)) = some ([(by1 (f 0) && by1 m, true), ((hg (f 0) m).n == 0, false), ((hg (f 0) m).n == 1, false), ((hg (f 0) m).t == 0, false), ((hg (f 0) m).t == 1, false), ((hg (f 0) m).t == 2, false), ((hg (f 0) m).t == 3, true), ((!(true && ((hg (f 0) m).b0 == f 0 && true))) == false, true), ((hg (f 0) m).b1 != m, false)], r6V rS, 5, []) := by kernel_rfl
theorem rx_32 (f : Nat → Int) (i m : Int) : headAt [0, 2, 39, 40, 41] [0, 1, 2] d8 (Ly.run ctxD 56 (dp [5, 0, 0, 0, 0, 0, 1, 28, 15]) (sX f i m)) = (true, [(by1 (f 0) && by1 m, true), ((hg (f 0) m).n == 0, false), ((hg (f 0) m).n == 1, false), ((hg (f 0) m).t == 0, false), ((hg (f 0) m).t == 1, false), ((hg (f 0) m).t == 2, false), ((hg (f 0) m).t == 3, true), ((!(true && ((hg (f 0) m).b0 == f 0 && true))) == false, false), (decide (IntKind.i64.wrap (i + 1) < 256), true)], true, (Try.f8, kY, none, 1), yV (IntKind.i64.wrap (i + 1)), xO f) := by kernel_rfl
theorem rx_33 (f : Nat → Int) (i m : Int) : endsAt [] (Ly.run ctxD 3000 (dp [5, 0, 0, 0, 0, 0, 1, 28, 14]) (sX f i m)) = some ([(by1 (f 0) && by1 m, true), ((hg (f 0) m).n == 0, false), ((hg (f 0) m).n == 1, false), ((hg (f 0) m).t == 0, false), ((hg (f 0) m).t == 1, false), ((hg (f 0) m).t == 2, false), ((hg (f 0) m).t == 3, true), ((!(true && ((hg (f 0) m).b0 == f 0 && true))) == false, false), (decide (IntKind.i64.wrap (i + 1) < 256), false)], r6V rF, 5, []) := by kernel_rfl
theorem rd_round (f : Nat → Int) (i m : Int) (hb : (by1 (f 0) && by1 m) = true) {r : R6}
    (hM : mt (gs (f 0) m) (f 0) m = true → r = rdS (gs (f 0) m) f 1)
    (hN : mt (gs (f 0) m) (f 0) m = false → decide (IntKind.i64.wrap (i + 1) < 256) = true → MWp Try.prog (sY f (IntKind.i64.wrap (i + 1))) (fun v _ => v = r6V r))
    (hE : mt (gs (f 0) m) (f 0) m = false → decide (IntKind.i64.wrap (i + 1) < 256) = false → r = rF) : MWp Try.prog (sX f i m) (fun v _ => v = r6V r) := by
  rcases Bool.eq_false_or_eq_true ((hg (f 0) m).n == 0) with h1 | h1
  · rcases Bool.eq_false_or_eq_true (decide (IntKind.i64.wrap (i + 1) < 256)) with h2 | h2
    · exact MWp.head ctxD_ok _ _ 56 _ (rx_0 f i m) ⟨hb, h1, h2, trivial⟩ (xP f) (hN (mt_n0 h1) h2)
    · exact (MWp.ends ctxD_ok 3000 _ (rx_1 f i m) ⟨hb, h1, h2, trivial⟩).mono (fun u K h => h.1.trans (by rw [hE (mt_n0 h1) h2] <;> rfl))
  · rcases Bool.eq_false_or_eq_true ((hg (f 0) m).n == 1) with h2 | h2
    · rcases Bool.eq_false_or_eq_true ((hg (f 0) m).t == 0) with h3 | h3
      · rcases Bool.eq_false_or_eq_true ((!(true && ((hg (f 0) m).b0 == f 0 && true))) == false) with h4 | h4
        · exact (MWp.ends ctxD_ok 3000 _ (rx_2 f i m) ⟨hb, h1, h2, h3, h4, trivial⟩).mono (fun u K h => h.1.trans (by rw [(hM (mt_1 h1 h2 h4)).trans (rdS_L h2 h3 (by decide))] <;> rfl))
        · rcases Bool.eq_false_or_eq_true (decide (IntKind.i64.wrap (i + 1) < 256)) with h5 | h5
          · exact MWp.head ctxD_ok _ _ 56 _ (rx_3 f i m) ⟨hb, h1, h2, h3, h4, h5, trivial⟩ (xP f) (hN (mt_b0 h4) h5)
          · exact (MWp.ends ctxD_ok 3000 _ (rx_4 f i m) ⟨hb, h1, h2, h3, h4, h5, trivial⟩).mono (fun u K h => h.1.trans (by rw [hE (mt_b0 h4) h5] <;> rfl))
      · rcases Bool.eq_false_or_eq_true ((hg (f 0) m).t == 1) with h4 | h4
        · rcases Bool.eq_false_or_eq_true ((!(true && ((hg (f 0) m).b0 == f 0 && true))) == false) with h5 | h5
          · exact (MWp.ends ctxD_ok 3000 _ (rx_5 f i m) ⟨hb, h1, h2, h3, h4, h5, trivial⟩).mono (fun u K h => h.1.trans (by rw [(hM (mt_1 h1 h2 h5)).trans (rdS_12 (.inr h3))] <;> rfl))
          · rcases Bool.eq_false_or_eq_true (decide (IntKind.i64.wrap (i + 1) < 256)) with h6 | h6
            · exact MWp.head ctxD_ok _ _ 56 _ (rx_6 f i m) ⟨hb, h1, h2, h3, h4, h5, h6, trivial⟩ (xP f) (hN (mt_b0 h5) h6)
            · exact (MWp.ends ctxD_ok 3000 _ (rx_7 f i m) ⟨hb, h1, h2, h3, h4, h5, h6, trivial⟩).mono (fun u K h => h.1.trans (by rw [hE (mt_b0 h5) h6] <;> rfl))
        · rcases Bool.eq_false_or_eq_true ((hg (f 0) m).t == 2) with h5 | h5
          · rcases Bool.eq_false_or_eq_true ((!(true && ((hg (f 0) m).b0 == f 0 && true))) == false) with h6 | h6
            · exact (MWp.ends ctxD_ok 3000 _ (rx_8 f i m) ⟨hb, h1, h2, h3, h4, h5, h6, trivial⟩).mono (fun u K h => h.1.trans (by rw [(hM (mt_1 h1 h2 h6)).trans (rdS_12 (.inr h3))] <;> rfl))
            · rcases Bool.eq_false_or_eq_true (decide (IntKind.i64.wrap (i + 1) < 256)) with h7 | h7
              · exact MWp.head ctxD_ok _ _ 56 _ (rx_9 f i m) ⟨hb, h1, h2, h3, h4, h5, h6, h7, trivial⟩ (xP f) (hN (mt_b0 h6) h7)
              · exact (MWp.ends ctxD_ok 3000 _ (rx_10 f i m) ⟨hb, h1, h2, h3, h4, h5, h6, h7, trivial⟩).mono (fun u K h => h.1.trans (by rw [hE (mt_b0 h6) h7] <;> rfl))
          · have h6 : ((hg (f 0) m).t == 3) = true := by exact t_3 ‹_› ‹_› ‹_› ‹_›
            rcases Bool.eq_false_or_eq_true ((!(true && ((hg (f 0) m).b0 == f 0 && true))) == false) with h7 | h7
            · exact (MWp.ends ctxD_ok 3000 _ (rx_11 f i m) ⟨hb, h1, h2, h3, h4, h5, h6, h7, trivial⟩).mono (fun u K h => h.1.trans (by rw [(hM (mt_1 h1 h2 h7)).trans (rdS_12 (.inr h3))] <;> rfl))
            · rcases Bool.eq_false_or_eq_true (decide (IntKind.i64.wrap (i + 1) < 256)) with h8 | h8
              · exact MWp.head ctxD_ok _ _ 56 _ (rx_12 f i m) ⟨hb, h1, h2, h3, h4, h5, h6, h7, h8, trivial⟩ (xP f) (hN (mt_b0 h7) h8)
              · exact (MWp.ends ctxD_ok 3000 _ (rx_13 f i m) ⟨hb, h1, h2, h3, h4, h5, h6, h7, h8, trivial⟩).mono (fun u K h => h.1.trans (by rw [hE (mt_b0 h7) h8] <;> rfl))
    · rcases Bool.eq_false_or_eq_true ((hg (f 0) m).t == 0) with h3 | h3
      · rcases Bool.eq_false_or_eq_true ((!(true && ((hg (f 0) m).b0 == f 0 && true))) == false) with h4 | h4
        · rcases Bool.eq_false_or_eq_true ((hg (f 0) m).b1 != m) with h5 | h5
          · rcases Bool.eq_false_or_eq_true (decide (IntKind.i64.wrap (i + 1) < 256)) with h6 | h6
            · exact MWp.head ctxD_ok _ _ 56 _ (rx_14 f i m) ⟨hb, h1, h2, h3, h4, h5, h6, trivial⟩ (xP f) (hN (mt_b1 h2 h5) h6)
            · exact (MWp.ends ctxD_ok 3000 _ (rx_15 f i m) ⟨hb, h1, h2, h3, h4, h5, h6, trivial⟩).mono (fun u K h => h.1.trans (by rw [hE (mt_b1 h2 h5) h6] <;> rfl))
          · exact (MWp.ends ctxD_ok 3000 _ (rx_16 f i m) ⟨hb, h1, h2, h3, h4, h5, trivial⟩).mono (fun u K h => h.1.trans (by rw [(hM (mt_2 h1 h4 h5)).trans (rdS_12 (.inl h2))] <;> rfl))
        · rcases Bool.eq_false_or_eq_true (decide (IntKind.i64.wrap (i + 1) < 256)) with h5 | h5
          · exact MWp.head ctxD_ok _ _ 56 _ (rx_17 f i m) ⟨hb, h1, h2, h3, h4, h5, trivial⟩ (xP f) (hN (mt_b0 h4) h5)
          · exact (MWp.ends ctxD_ok 3000 _ (rx_18 f i m) ⟨hb, h1, h2, h3, h4, h5, trivial⟩).mono (fun u K h => h.1.trans (by rw [hE (mt_b0 h4) h5] <;> rfl))
      · rcases Bool.eq_false_or_eq_true ((hg (f 0) m).t == 1) with h4 | h4
        · rcases Bool.eq_false_or_eq_true ((!(true && ((hg (f 0) m).b0 == f 0 && true))) == false) with h5 | h5
          · rcases Bool.eq_false_or_eq_true ((hg (f 0) m).b1 != m) with h6 | h6
            · rcases Bool.eq_false_or_eq_true (decide (IntKind.i64.wrap (i + 1) < 256)) with h7 | h7
              · exact MWp.head ctxD_ok _ _ 56 _ (rx_19 f i m) ⟨hb, h1, h2, h3, h4, h5, h6, h7, trivial⟩ (xP f) (hN (mt_b1 h2 h6) h7)
              · exact (MWp.ends ctxD_ok 3000 _ (rx_20 f i m) ⟨hb, h1, h2, h3, h4, h5, h6, h7, trivial⟩).mono (fun u K h => h.1.trans (by rw [hE (mt_b1 h2 h6) h7] <;> rfl))
            · exact (MWp.ends ctxD_ok 3000 _ (rx_21 f i m) ⟨hb, h1, h2, h3, h4, h5, h6, trivial⟩).mono (fun u K h => h.1.trans (by rw [(hM (mt_2 h1 h5 h6)).trans (rdS_12 (.inl h2))] <;> rfl))
          · rcases Bool.eq_false_or_eq_true (decide (IntKind.i64.wrap (i + 1) < 256)) with h6 | h6
            · exact MWp.head ctxD_ok _ _ 56 _ (rx_22 f i m) ⟨hb, h1, h2, h3, h4, h5, h6, trivial⟩ (xP f) (hN (mt_b0 h5) h6)
            · exact (MWp.ends ctxD_ok 3000 _ (rx_23 f i m) ⟨hb, h1, h2, h3, h4, h5, h6, trivial⟩).mono (fun u K h => h.1.trans (by rw [hE (mt_b0 h5) h6] <;> rfl))
        · rcases Bool.eq_false_or_eq_true ((hg (f 0) m).t == 2) with h5 | h5
          · rcases Bool.eq_false_or_eq_true ((!(true && ((hg (f 0) m).b0 == f 0 && true))) == false) with h6 | h6
            · rcases Bool.eq_false_or_eq_true ((hg (f 0) m).b1 != m) with h7 | h7
              · rcases Bool.eq_false_or_eq_true (decide (IntKind.i64.wrap (i + 1) < 256)) with h8 | h8
                · exact MWp.head ctxD_ok _ _ 56 _ (rx_24 f i m) ⟨hb, h1, h2, h3, h4, h5, h6, h7, h8, trivial⟩ (xP f) (hN (mt_b1 h2 h7) h8)
                · exact (MWp.ends ctxD_ok 3000 _ (rx_25 f i m) ⟨hb, h1, h2, h3, h4, h5, h6, h7, h8, trivial⟩).mono (fun u K h => h.1.trans (by rw [hE (mt_b1 h2 h7) h8] <;> rfl))
              · exact (MWp.ends ctxD_ok 3000 _ (rx_26 f i m) ⟨hb, h1, h2, h3, h4, h5, h6, h7, trivial⟩).mono (fun u K h => h.1.trans (by rw [(hM (mt_2 h1 h6 h7)).trans (rdS_12 (.inl h2))] <;> rfl))
            · rcases Bool.eq_false_or_eq_true (decide (IntKind.i64.wrap (i + 1) < 256)) with h7 | h7
              · exact MWp.head ctxD_ok _ _ 56 _ (rx_27 f i m) ⟨hb, h1, h2, h3, h4, h5, h6, h7, trivial⟩ (xP f) (hN (mt_b0 h6) h7)
              · exact (MWp.ends ctxD_ok 3000 _ (rx_28 f i m) ⟨hb, h1, h2, h3, h4, h5, h6, h7, trivial⟩).mono (fun u K h => h.1.trans (by rw [hE (mt_b0 h6) h7] <;> rfl))
          · have h6 : ((hg (f 0) m).t == 3) = true := by exact t_3 ‹_› ‹_› ‹_› ‹_›
            rcases Bool.eq_false_or_eq_true ((!(true && ((hg (f 0) m).b0 == f 0 && true))) == false) with h7 | h7
            · rcases Bool.eq_false_or_eq_true ((hg (f 0) m).b1 != m) with h8 | h8
              · rcases Bool.eq_false_or_eq_true (decide (IntKind.i64.wrap (i + 1) < 256)) with h9 | h9
                · exact MWp.head ctxD_ok _ _ 56 _ (rx_29 f i m) ⟨hb, h1, h2, h3, h4, h5, h6, h7, h8, h9, trivial⟩ (xP f) (hN (mt_b1 h2 h8) h9)
                · exact (MWp.ends ctxD_ok 3000 _ (rx_30 f i m) ⟨hb, h1, h2, h3, h4, h5, h6, h7, h8, h9, trivial⟩).mono (fun u K h => h.1.trans (by rw [hE (mt_b1 h2 h8) h9] <;> rfl))
              · exact (MWp.ends ctxD_ok 3000 _ (rx_31 f i m) ⟨hb, h1, h2, h3, h4, h5, h6, h7, h8, trivial⟩).mono (fun u K h => h.1.trans (by rw [(hM (mt_2 h1 h7 h8)).trans (rdS_12 (.inl h2))] <;> rfl))
            · rcases Bool.eq_false_or_eq_true (decide (IntKind.i64.wrap (i + 1) < 256)) with h8 | h8
              · exact MWp.head ctxD_ok _ _ 56 _ (rx_32 f i m) ⟨hb, h1, h2, h3, h4, h5, h6, h7, h8, trivial⟩ (xP f) (hN (mt_b0 h7) h8)
              · exact (MWp.ends ctxD_ok 3000 _ (rx_33 f i m) ⟨hb, h1, h2, h3, h4, h5, h6, h7, h8, trivial⟩).mono (fun u K h => h.1.trans (by rw [hE (mt_b0 h7) h8] <;> rfl))
theorem rd_loop (f : Nat → Int) (h0 : by1 (f 0) = true) : ∀ (k i : Nat), i + k = 255 → MWp Try.prog (sX f i i) (fun v _ => v = r6V (sc1 f (k + 1) i))
  | 0, i, hi => by
    have hb : (by1 (f 0) && by1 (i : Int)) = true := by rw [h0]; simp only [by1, Bool.true_and, Bool.and_eq_true, decide_eq_true_eq]; omega
    have hw : IntKind.i64.wrap ((i : Int) + 1) = i + 1 := by rw [IntKind.wrap_i64]; omega
    refine rd_round f i i hb (fun h => ?_) (fun h hx => ?_) (fun h hx => ?_)
    · simp only [sc1, h, cond_true]
    · rw [hw] at hx; simp only [decide_eq_true_eq] at hx; omega
    · simp only [sc1, h, cond_false]
  | k + 1, i, hi => by
    have hb : (by1 (f 0) && by1 (i : Int)) = true := by rw [h0]; simp only [by1, Bool.true_and, Bool.and_eq_true, decide_eq_true_eq]; omega
    have hw : IntKind.i64.wrap ((i : Int) + 1) = i + 1 := by rw [IntKind.wrap_i64]; omega
    have hs : mt (gs (f 0) i) (f 0) i = false → sc1 f (k + 1 + 1) i = sc1 f (k + 1) ((i + 1 : Nat) : Int) := fun h => by
      show (bif mt (gs (f 0) i) (f 0) i then _ else _) = _
      rw [h]; rfl
    refine rd_round f i i hb (fun h => ?_) (fun h hx => ?_) (fun h hx => ?_)
    · show (bif mt (gs (f 0) i) (f 0) i then _ else _) = _
      rw [h]; rfl
    · rw [hw, hs h]
      exact MWp.head ctxD_ok _ _ 3 [] (rdA f (i + 1) (by omega)) trivial (xP f) (rd_loop f h0 k (i + 1) (by omega))
    · rw [hw] at hx; simp only [decide_eq_false_iff_not] at hx; omega
theorem gRd : ctxD.fn.get 8 = some Try.f8 := by kernel_rfl
theorem rd_one (f : Nat → Int) (h0 : by1 (f 0) = true) : LCalls Try.prog 8 [sl 0 1] (mkH [some (ints .u8 f 1)]) (fun u _ => u = r6V (sc1 f 256 0)) := by
  refine LCalls_of ctxD_ok gRd (by kernel_rfl) ?_
  refine MWp.head ctxD_ok _ _ 7456 [] (rdE0 f) trivial (xP f) ?_
  exact MWp.head ctxD_ok _ _ 3 [] (rdA f 0 (by omega)) trivial (xP f) (rd_loop f h0 255 0 rfl)
end Go.Proofs.Ytkemllgkkngcjaa
namespace Go.Proofs.Ytkemllgkkngcjaa
open Go Go.Ly Go.RowKit
theorem ry_0 (n : Nat) (f : Nat → Int) : endsAt [] (Ly.run ctxD 3000 (dp [0, 1, 1, 1, 7, 1, 1, 1]) (st8 n f)) = some ([((n : Int) == 0, false), (decide (1 < (n : Int)), true), (true && decide (1 < (n : Int)), true), (Nat.blt 1 n, true), (true && decide (0 < (n : Int)), true), (Nat.blt 0 n, true), (by1 (f 0) && by1 (f 1), true), ((hg (f 0) (f 1)).n == 0, true)], r6V rF, 4, []) := by kernel_rfl
theorem ry_1 (n : Nat) (f : Nat → Int) : endsAt [] (Ly.run ctxD 3000 (dp [0, 1, 1, 1, 7, 1, 1, 0, 1, 1, 0, 17, 3, 5, 31]) (st8 n f)) = some ([((n : Int) == 0, false), (decide (1 < (n : Int)), true), (true && decide (1 < (n : Int)), true), (Nat.blt 1 n, true), (true && decide (0 < (n : Int)), true), (Nat.blt 0 n, true), (by1 (f 0) && by1 (f 1), true), ((hg (f 0) (f 1)).n == 0, false), ((hg (f 0) (f 1)).n == 1, true), ((hg (f 0) (f 1)).t == 0, true), (decide ((n : Int) < 1), false), (decide ((1 : Int) ≤ (n : Int)), true), (Nat.ble 1 n && true, true), ((!(true && ((hg (f 0) (f 1)).b0 == f 0 && true))) == false, true), (decide ((n : Int) < 1), true)], r6V rS, 5, []) := by kernel_rfl
theorem ry_2 (n : Nat) (f : Nat → Int) : endsAt [] (Ly.run ctxD 3000 (dp [0, 1, 1, 1, 7, 1, 1, 0, 1, 1, 0, 17, 3, 5, 30, 3]) (st8 n f)) = some ([((n : Int) == 0, false), (decide (1 < (n : Int)), true), (true && decide (1 < (n : Int)), true), (Nat.blt 1 n, true), (true && decide (0 < (n : Int)), true), (Nat.blt 0 n, true), (by1 (f 0) && by1 (f 1), true), ((hg (f 0) (f 1)).n == 0, false), ((hg (f 0) (f 1)).n == 1, true), ((hg (f 0) (f 1)).t == 0, true), (decide ((n : Int) < 1), false), (decide ((1 : Int) ≤ (n : Int)), true), (Nat.ble 1 n && true, true), ((!(true && ((hg (f 0) (f 1)).b0 == f 0 && true))) == false, true), (decide ((n : Int) < 1), false), (decide ((1 : Int) ≤ (n : Int)), true)], .tuple ⟨[.agg ⟨[.int .i64 (gs (f 0) (f 1)).op, .int .i64 (gs (f 0) (f 1)).d, .int .i64 (gs (f 0) (f 1)).s, .int .u16 0]⟩, .int .i64 (1), .int .i64 0]⟩, 6, []) := by kernel_rfl
theorem ry_3 (n : Nat) (f : Nat → Int) : endsAt [] (Ly.run ctxD 3000 (dp [0, 1, 1, 1, 7, 1, 1, 0, 1, 1, 0, 17, 3, 4]) (st8 n f)) = some ([((n : Int) == 0, false), (decide (1 < (n : Int)), true), (true && decide (1 < (n : Int)), true), (Nat.blt 1 n, true), (true && decide (0 < (n : Int)), true), (Nat.blt 0 n, true), (by1 (f 0) && by1 (f 1), true), ((hg (f 0) (f 1)).n == 0, false), ((hg (f 0) (f 1)).n == 1, true), ((hg (f 0) (f 1)).t == 0, true), (decide ((n : Int) < 1), false), (decide ((1 : Int) ≤ (n : Int)), true), (Nat.ble 1 n && true, true), ((!(true && ((hg (f 0) (f 1)).b0 == f 0 && true))) == false, false)], r6V rF, 5, []) := by kernel_rfl
theorem ry_4 (n : Nat) (f : Nat → Int) : endsAt [] (Ly.run ctxD 3000 (dp [0, 1, 1, 1, 7, 1, 1, 0, 1, 0, 1, 0, 17, 3, 5, 31]) (st8 n f)) = some ([((n : Int) == 0, false), (decide (1 < (n : Int)), true), (true && decide (1 < (n : Int)), true), (Nat.blt 1 n, true), (true && decide (0 < (n : Int)), true), (Nat.blt 0 n, true), (by1 (f 0) && by1 (f 1), true), ((hg (f 0) (f 1)).n == 0, false), ((hg (f 0) (f 1)).n == 1, true), ((hg (f 0) (f 1)).t == 0, false), ((hg (f 0) (f 1)).t == 1, true), (decide ((n : Int) < 1), false), (decide ((1 : Int) ≤ (n : Int)), true), (Nat.ble 1 n && true, true), ((!(true && ((hg (f 0) (f 1)).b0 == f 0 && true))) == false, true), (decide ((n : Int) < 2), true)], r6V rS, 5, []) := by kernel_rfl
theorem ry_5 (n : Nat) (f : Nat → Int) : endsAt [] (Ly.run ctxD 3000 (dp [0, 1, 1, 1, 7, 1, 1, 0, 1, 0, 1, 0, 17, 3, 5, 30, 3, 5]) (st8 n f)) = some ([((n : Int) == 0, false), (decide (1 < (n : Int)), true), (true && decide (1 < (n : Int)), true), (Nat.blt 1 n, true), (true && decide (0 < (n : Int)), true), (Nat.blt 0 n, true), (by1 (f 0) && by1 (f 1), true), ((hg (f 0) (f 1)).n == 0, false), ((hg (f 0) (f 1)).n == 1, true), ((hg (f 0) (f 1)).t == 0, false), ((hg (f 0) (f 1)).t == 1, true), (decide ((n : Int) < 1), false), (decide ((1 : Int) ≤ (n : Int)), true), (Nat.ble 1 n && true, true), ((!(true && ((hg (f 0) (f 1)).b0 == f 0 && true))) == false, true), (decide ((n : Int) < 2), false), (decide ((2 : Int) ≤ (n : Int)), true), (Nat.blt 1 n, true)], .tuple ⟨[.agg ⟨[.int .i64 (gs (f 0) (f 1)).op, .int .i64 (gs (f 0) (f 1)).d, .int .i64 (gs (f 0) (f 1)).s, .int .u16 (IntKind.u16.wrap (f 1))]⟩, .int .i64 (2), .int .i64 0]⟩, 6, []) := by kernel_rfl
theorem ry_6 (n : Nat) (f : Nat → Int) : endsAt [] (Ly.run ctxD 3000 (dp [0, 1, 1, 1, 7, 1, 1, 0, 1, 0, 1, 0, 17, 3, 4]) (st8 n f)) = some ([((n : Int) == 0, false), (decide (1 < (n : Int)), true), (true && decide (1 < (n : Int)), true), (Nat.blt 1 n, true), (true && decide (0 < (n : Int)), true), (Nat.blt 0 n, true), (by1 (f 0) && by1 (f 1), true), ((hg (f 0) (f 1)).n == 0, false), ((hg (f 0) (f 1)).n == 1, true), ((hg (f 0) (f 1)).t == 0, false), ((hg (f 0) (f 1)).t == 1, true), (decide ((n : Int) < 1), false), (decide ((1 : Int) ≤ (n : Int)), true), (Nat.ble 1 n && true, true), ((!(true && ((hg (f 0) (f 1)).b0 == f 0 && true))) == false, false)], r6V rF, 5, []) := by kernel_rfl
theorem ry_7 (n : Nat) (f : Nat → Int) : endsAt [] (Ly.run ctxD 3000 (dp [0, 1, 1, 1, 7, 1, 1, 0, 1, 0, 0, 1, 0, 17, 3, 5, 31]) (st8 n f)) = some ([((n : Int) == 0, false), (decide (1 < (n : Int)), true), (true && decide (1 < (n : Int)), true), (Nat.blt 1 n, true), (true && decide (0 < (n : Int)), true), (Nat.blt 0 n, true), (by1 (f 0) && by1 (f 1), true), ((hg (f 0) (f 1)).n == 0, false), ((hg (f 0) (f 1)).n == 1, true), ((hg (f 0) (f 1)).t == 0, false), ((hg (f 0) (f 1)).t == 1, false), ((hg (f 0) (f 1)).t == 2, true), (decide ((n : Int) < 1), false), (decide ((1 : Int) ≤ (n : Int)), true), (Nat.ble 1 n && true, true), ((!(true && ((hg (f 0) (f 1)).b0 == f 0 && true))) == false, true), (decide ((n : Int) < 3), true)], r6V rS, 5, []) := by kernel_rfl
theorem ry_8 (n : Nat) (f : Nat → Int) : endsAt [] (Ly.run ctxD 3000 (dp [0, 1, 1, 1, 7, 1, 1, 0, 1, 0, 0, 1, 0, 17, 3, 5, 30, 3, 9, 3]) (st8 n f)) = some ([((n : Int) == 0, false), (decide (1 < (n : Int)), true), (true && decide (1 < (n : Int)), true), (Nat.blt 1 n, true), (true && decide (0 < (n : Int)), true), (Nat.blt 0 n, true), (by1 (f 0) && by1 (f 1), true), ((hg (f 0) (f 1)).n == 0, false), ((hg (f 0) (f 1)).n == 1, true), ((hg (f 0) (f 1)).t == 0, false), ((hg (f 0) (f 1)).t == 1, false), ((hg (f 0) (f 1)).t == 2, true), (decide ((n : Int) < 1), false), (decide ((1 : Int) ≤ (n : Int)), true), (Nat.ble 1 n && true, true), ((!(true && ((hg (f 0) (f 1)).b0 == f 0 && true))) == false, true), (decide ((n : Int) < 3), false), (decide ((3 : Int) ≤ (n : Int)), true), (Nat.blt 1 n, true), (Nat.blt 2 n, true)], .tuple ⟨[.agg ⟨[.int .i64 (gs (f 0) (f 1)).op, .int .i64 (gs (f 0) (f 1)).d, .int .i64 (gs (f 0) (f 1)).s, .int .u16 (bits .or .u16 (IntKind.u16.wrap (f 1)) (IntKind.u16.wrap (IntKind.u16.wrap (f 2) * 256)))]⟩, .int .i64 (3), .int .i64 0]⟩, 6, []) := by kernel_rfl
theorem ry_9 (n : Nat) (f : Nat → Int) : endsAt [] (Ly.run ctxD 3000 (dp [0, 1, 1, 1, 7, 1, 1, 0, 1, 0, 0, 1, 0, 17, 3, 4]) (st8 n f)) = some ([((n : Int) == 0, false), (decide (1 < (n : Int)), true), (true && decide (1 < (n : Int)), true), (Nat.blt 1 n, true), (true && decide (0 < (n : Int)), true), (Nat.blt 0 n, true), (by1 (f 0) && by1 (f 1), true), ((hg (f 0) (f 1)).n == 0, false), ((hg (f 0) (f 1)).n == 1, true), ((hg (f 0) (f 1)).t == 0, false), ((hg (f 0) (f 1)).t == 1, false), ((hg (f 0) (f 1)).t == 2, true), (decide ((n : Int) < 1), false), (decide ((1 : Int) ≤ (n : Int)), true), (Nat.ble 1 n && true, true), ((!(true && ((hg (f 0) (f 1)).b0 == f 0 && true))) == false, false)], r6V rF, 5, []) := by kernel_rfl
theorem ry_10 (n : Nat) (f : Nat → Int) : endsAt [] (Ly.run ctxD 3000 (dp [0, 1, 1, 1, 7, 1, 1, 0, 1, 0, 0, 0, 1, 0, 17, 3, 5, 31]) (st8 n f)) = some ([((n : Int) == 0, false), (decide (1 < (n : Int)), true), (true && decide (1 < (n : Int)), true), (Nat.blt 1 n, true), (true && decide (0 < (n : Int)), true), (Nat.blt 0 n, true), (by1 (f 0) && by1 (f 1), true), ((hg (f 0) (f 1)).n == 0, false), ((hg (f 0) (f 1)).n == 1, true), ((hg (f 0) (f 1)).t == 0, false), ((hg (f 0) (f 1)).t == 1, false), ((hg (f 0) (f 1)).t == 2, false), ((hg (f 0) (f 1)).t == 3, true), (decide ((n : Int) < 1), false), (decide ((1 : Int) ≤ (n : Int)), true), (Nat.ble 1 n && true, true), ((!(true && ((hg (f 0) (f 1)).b0 == f 0 && true))) == false, true), (decide ((n : Int) < 2), true)], r6V rS, 5, []) := by kernel_rfl
theorem ry_11 (n : Nat) (f : Nat → Int) : endsAt [] (Ly.run ctxD 3000 (dp [0, 1, 1, 1, 7, 1, 1, 0, 1, 0, 0, 0, 1, 0, 17, 3, 5, 30, 3, 7]) (st8 n f)) = some ([((n : Int) == 0, false), (decide (1 < (n : Int)), true), (true && decide (1 < (n : Int)), true), (Nat.blt 1 n, true), (true && decide (0 < (n : Int)), true), (Nat.blt 0 n, true), (by1 (f 0) && by1 (f 1), true), ((hg (f 0) (f 1)).n == 0, false), ((hg (f 0) (f 1)).n == 1, true), ((hg (f 0) (f 1)).t == 0, false), ((hg (f 0) (f 1)).t == 1, false), ((hg (f 0) (f 1)).t == 2, false), ((hg (f 0) (f 1)).t == 3, true), (decide ((n : Int) < 1), false), (decide ((1 : Int) ≤ (n : Int)), true), (Nat.ble 1 n && true, true), ((!(true && ((hg (f 0) (f 1)).b0 == f 0 && true))) == false, true), (decide ((n : Int) < 2), false), (decide ((2 : Int) ≤ (n : Int)), true), (Nat.blt 1 n, true)], .tuple ⟨[.agg ⟨[.int .i64 (gs (f 0) (f 1)).op, .int .i64 (gs (f 0) (f 1)).d, .int .i64 (gs (f 0) (f 1)).s, .int .u16 (IntKind.u16.wrap (IntKind.i8.wrap (f 1)))]⟩, .int .i64 (2), .int .i64 0]⟩, 6, []) := by kernel_rfl
theorem ry_12 (n : Nat) (f : Nat → Int) : endsAt [] (Ly.run ctxD 3000 (dp [0, 1, 1, 1, 7, 1, 1, 0, 1, 0, 0, 0, 1, 0, 17, 3, 4]) (st8 n f)) = some ([((n : Int) == 0, false), (decide (1 < (n : Int)), true), (true && decide (1 < (n : Int)), true), (Nat.blt 1 n, true), (true && decide (0 < (n : Int)), true), (Nat.blt 0 n, true), (by1 (f 0) && by1 (f 1), true), ((hg (f 0) (f 1)).n == 0, false), ((hg (f 0) (f 1)).n == 1, true), ((hg (f 0) (f 1)).t == 0, false), ((hg (f 0) (f 1)).t == 1, false), ((hg (f 0) (f 1)).t == 2, false), ((hg (f 0) (f 1)).t == 3, true), (decide ((n : Int) < 1), false), (decide ((1 : Int) ≤ (n : Int)), true), (Nat.ble 1 n && true, true), ((!(true && ((hg (f 0) (f 1)).b0 == f 0 && true))) == false, false)], r6V rF, 5, []) := by kernel_rfl
theorem ry_13 (n : Nat) (f : Nat → Int) : endsAt [] (Ly.run ctxD 3000 (dp [0, 1, 1, 1, 7, 1, 1, 0, 0, 1, 0, 17, 3, 5, 28, 3]) (st8 n f)) = some ([((n : Int) == 0, false), (decide (1 < (n : Int)), true), (true && decide (1 < (n : Int)), true), (Nat.blt 1 n, true), (true && decide (0 < (n : Int)), true), (Nat.blt 0 n, true), (by1 (f 0) && by1 (f 1), true), ((hg (f 0) (f 1)).n == 0, false), ((hg (f 0) (f 1)).n == 1, false), ((hg (f 0) (f 1)).t == 0, true), (decide ((n : Int) < 2), false), (decide ((2 : Int) ≤ (n : Int)), true), (Nat.ble 2 n && true, true), ((!(true && ((hg (f 0) (f 1)).b0 == f 0 && ((hg (f 0) (f 1)).b1 == f 1 && true)))) == false, true), ((hg (f 0) (f 1)).b1 != f 1, false), (decide ((n : Int) < 2), true)], r6V rS, 5, []) := by kernel_rfl
theorem ry_14 (n : Nat) (f : Nat → Int) : endsAt [] (Ly.run ctxD 3000 (dp [0, 1, 1, 1, 7, 1, 1, 0, 0, 1, 0, 17, 3, 5, 28, 2, 3]) (st8 n f)) = some ([((n : Int) == 0, false), (decide (1 < (n : Int)), true), (true && decide (1 < (n : Int)), true), (Nat.blt 1 n, true), (true && decide (0 < (n : Int)), true), (Nat.blt 0 n, true), (by1 (f 0) && by1 (f 1), true), ((hg (f 0) (f 1)).n == 0, false), ((hg (f 0) (f 1)).n == 1, false), ((hg (f 0) (f 1)).t == 0, true), (decide ((n : Int) < 2), false), (decide ((2 : Int) ≤ (n : Int)), true), (Nat.ble 2 n && true, true), ((!(true && ((hg (f 0) (f 1)).b0 == f 0 && ((hg (f 0) (f 1)).b1 == f 1 && true)))) == false, true), ((hg (f 0) (f 1)).b1 != f 1, false), (decide ((n : Int) < 2), false), (decide ((2 : Int) ≤ (n : Int)), true)], .tuple ⟨[.agg ⟨[.int .i64 (gs (f 0) (f 1)).op, .int .i64 (gs (f 0) (f 1)).d, .int .i64 (gs (f 0) (f 1)).s, .int .u16 0]⟩, .int .i64 (2), .int .i64 0]⟩, 6, []) := by kernel_rfl
theorem ry_15 (n : Nat) (f : Nat → Int) : endsAt [] (Ly.run ctxD 3000 (dp [0, 1, 1, 1, 7, 1, 1, 0, 0, 1, 0, 17, 3, 4]) (st8 n f)) = some ([((n : Int) == 0, false), (decide (1 < (n : Int)), true), (true && decide (1 < (n : Int)), true), (Nat.blt 1 n, true), (true && decide (0 < (n : Int)), true), (Nat.blt 0 n, true), (by1 (f 0) && by1 (f 1), true), ((hg (f 0) (f 1)).n == 0, false), ((hg (f 0) (f 1)).n == 1, false), ((hg (f 0) (f 1)).t == 0, true), (decide ((n : Int) < 2), false), (decide ((2 : Int) ≤ (n : Int)), true), (Nat.ble 2 n && true, true), ((!(true && ((hg (f 0) (f 1)).b0 == f 0 && ((hg (f 0) (f 1)).b1 == f 1 && true)))) == false, false)], r6V rF, 5, []) := by kernel_rfl
theorem ry_16 (n : Nat) (f : Nat → Int) : endsAt [] (Ly.run ctxD 3000 (dp [0, 1, 1, 1, 7, 1, 1, 0, 0, 0, 1, 0, 17, 3, 5, 28, 3]) (st8 n f)) = some ([((n : Int) == 0, false), (decide (1 < (n : Int)), true), (true && decide (1 < (n : Int)), true), (Nat.blt 1 n, true), (true && decide (0 < (n : Int)), true), (Nat.blt 0 n, true), (by1 (f 0) && by1 (f 1), true), ((hg (f 0) (f 1)).n == 0, false), ((hg (f 0) (f 1)).n == 1, false), ((hg (f 0) (f 1)).t == 0, false), ((hg (f 0) (f 1)).t == 1, true), (decide ((n : Int) < 2), false), (decide ((2 : Int) ≤ (n : Int)), true), (Nat.ble 2 n && true, true), ((!(true && ((hg (f 0) (f 1)).b0 == f 0 && ((hg (f 0) (f 1)).b1 == f 1 && true)))) == false, true), ((hg (f 0) (f 1)).b1 != f 1, false), (decide ((n : Int) < 3), true)], r6V rS, 5, []) := by kernel_rfl
theorem ry_17 (n : Nat) (f : Nat → Int) : endsAt [] (Ly.run ctxD 3000 (dp [0, 1, 1, 1, 7, 1, 1, 0, 0, 0, 1, 0, 17, 3, 5, 28, 2, 3, 5]) (st8 n f)) = some ([((n : Int) == 0, false), (decide (1 < (n : Int)), true), (true && decide (1 < (n : Int)), true), (Nat.blt 1 n, true), (true && decide (0 < (n : Int)), true), (Nat.blt 0 n, true), (by1 (f 0) && by1 (f 1), true), ((hg (f 0) (f 1)).n == 0, false), ((hg (f 0) (f 1)).n == 1, false), ((hg (f 0) (f 1)).t == 0, false), ((hg (f 0) (f 1)).t == 1, true), (decide ((n : Int) < 2), false), (decide ((2 : Int) ≤ (n : Int)), true), (Nat.ble 2 n && true, true), ((!(true && ((hg (f 0) (f 1)).b0 == f 0 && ((hg (f 0) (f 1)).b1 == f 1 && true)))) == false, true), ((hg (f 0) (f 1)).b1 != f 1, false), (decide ((n : Int) < 3), false), (decide ((3 : Int) ≤ (n : Int)), true), (Nat.blt 2 n, true)], .tuple ⟨[.agg ⟨[.int .i64 (gs (f 0) (f 1)).op, .int .i64 (gs (f 0) (f 1)).d, .int .i64 (gs (f 0) (f 1)).s, .int .u16 (IntKind.u16.wrap (f 2))]⟩, .int .i64 (3), .int .i64 0]⟩, 6, []) := by kernel_rfl
theorem ry_18 (n : Nat) (f : Nat → Int) : endsAt [] (Ly.run ctxD 3000 (dp [0, 1, 1, 1, 7, 1, 1, 0, 0, 0, 1, 0, 17, 3, 4]) (st8 n f)) = some ([((n : Int) == 0, false), (decide (1 < (n : Int)), true), (true && decide (1 < (n : Int)), true), (Nat.blt 1 n, true), (true && decide (0 < (n : Int)), true), (Nat.blt 0 n, true), (by1 (f 0) && by1 (f 1), true), ((hg (f 0) (f 1)).n == 0, false), ((hg (f 0) (f 1)).n == 1, false), ((hg (f 0) (f 1)).t == 0, false), ((hg (f 0) (f 1)).t == 1, true), (decide ((n : Int) < 2), false), (decide ((2 : Int) ≤ (n : Int)), true), (Nat.ble 2 n && true, true), ((!(true && ((hg (f 0) (f 1)).b0 == f 0 && ((hg (f 0) (f 1)).b1 == f 1 && true)))) == false, false)], r6V rF, 5, []) := by kernel_rfl
theorem ry_19 (n : Nat) (f : Nat → Int) : endsAt [] (Ly.run ctxD 3000 (dp [0, 1, 1, 1, 7, 1, 1, 0, 0, 0, 0, 1, 0, 17, 3, 5, 28, 3]) (st8 n f)) = some ([((n : Int) == 0, false), (decide (1 < (n : Int)), true), (true && decide (1 < (n : Int)), true), (Nat.blt 1 n, true), (true && decide (0 < (n : Int)), true), (Nat.blt 0 n, true), (by1 (f 0) && by1 (f 1), true), ((hg (f 0) (f 1)).n == 0, false), ((hg (f 0) (f 1)).n == 1, false), ((hg (f 0) (f 1)).t == 0, false), ((hg (f 0) (f 1)).t == 1, false), ((hg (f 0) (f 1)).t == 2, true), (decide ((n : Int) < 2), false), (decide ((2 : Int) ≤ (n : Int)), true), (Nat.ble 2 n && true, true), ((!(true && ((hg (f 0) (f 1)).b0 == f 0 && ((hg (f 0) (f 1)).b1 == f 1 && true)))) == false, true), ((hg (f 0) (f 1)).b1 != f 1, false), (decide ((n : Int) < 4), true)], r6V rS, 5, []) := by kernel_rfl
theorem ry_20 (n : Nat) (f : Nat → Int) : endsAt [] (Ly.run ctxD 3000 (dp [0, 1, 1, 1, 7, 1, 1, 0, 0, 0, 0, 1, 0, 17, 3, 5, 28, 2, 3, 9, 3]) (st8 n f)) = some ([((n : Int) == 0, false), (decide (1 < (n : Int)), true), (true && decide (1 < (n : Int)), true), (Nat.blt 1 n, true), (true && decide (0 < (n : Int)), true), (Nat.blt 0 n, true), (by1 (f 0) && by1 (f 1), true), ((hg (f 0) (f 1)).n == 0, false), ((hg (f 0) (f 1)).n == 1, false), ((hg (f 0) (f 1)).t == 0, false), ((hg (f 0) (f 1)).t == 1, false), ((hg (f 0) (f 1)).t == 2, true), (decide ((n : Int) < 2), false), (decide ((2 : Int) ≤ (n : Int)), true), (Nat.ble 2 n && true, true), ((!(true && ((hg (f 0) (f 1)).b0 == f 0 && ((hg (f 0) (f 1)).b1 == f 1 && true)))) == false, true), ((hg (f 0) (f 1)).b1 != f 1, false), (decide ((n : Int) < 4), false), (decide ((4 : Int) ≤ (n : Int)), true), (Nat.blt 2 n, true), (Nat.blt 3 n, true)], .tuple ⟨[.agg ⟨[.int .i64 (gs (f 0) (f 1)).op, .int .i64 (gs (f 0) (f 1)).d, .int .i64 (gs (f 0) (f 1)).s, .int .u16 (bits .or .u16 (IntKind.u16.wrap (f 2)) (IntKind.u16.wrap (IntKind.u16.wrap (f 3) * 256)))]⟩, .int .i64 (4), .int .i64 0]⟩, 6, []) := by kernel_rfl
theorem ry_21 (n : Nat) (f : Nat → Int) : endsAt [] (Ly.run ctxD 3000 (dp [0, 1, 1, 1, 7, 1, 1, 0, 0, 0, 0, 1, 0, 17, 3, 4]) (st8 n f)) = some ([((n : Int) == 0, false), (decide (1 < (n : Int)), true), (true && decide (1 < (n : Int)), true), (Nat.blt 1 n, true), (true && decide (0 < (n : Int)), true), (Nat.blt 0 n, true), (by1 (f 0) && by1 (f 1), true), ((hg (f 0) (f 1)).n == 0, false), ((hg (f 0) (f 1)).n == 1, false), ((hg (f 0) (f 1)).t == 0, false), ((hg (f 0) (f 1)).t == 1, false), ((hg (f 0) (f 1)).t == 2, true), (decide ((n : Int) < 2), false), (decide ((2 : Int) ≤ (n : Int)), true), (Nat.ble 2 n && true, true), ((!(true && ((hg (f 0) (f 1)).b0 == f 0 && ((hg (f 0) (f 1)).b1 == f 1 && true)))) == false, false)], r6V rF, 5, []) := by kernel_rfl
theorem ry_22 (n : Nat) (f : Nat → Int) : endsAt [] (Ly.run ctxD 3000 (dp [0, 1, 1, 1, 7, 1, 1, 0, 0, 0, 0, 0, 1, 0, 17, 3, 5, 28, 3]) (st8 n f)) = some ([((n : Int) == 0, false), (decide (1 < (n : Int)), true), (true && decide (1 < (n : Int)), true), (Nat.blt 1 n, true), (true && decide (0 < (n : Int)), true), (Nat.blt 0 n, true), (by1 (f 0) && by1 (f 1), true), ((hg (f 0) (f 1)).n == 0, false), ((hg (f 0) (f 1)).n == 1, false), ((hg (f 0) (f 1)).t == 0, false), ((hg (f 0) (f 1)).t == 1, false), ((hg (f 0) (f 1)).t == 2, false), ((hg (f 0) (f 1)).t == 3, true), (decide ((n : Int) < 2), false), (decide ((2 : Int) ≤ (n : Int)), true), (Nat.ble 2 n && true, true), ((!(true && ((hg (f 0) (f 1)).b0 == f 0 && ((hg (f 0) (f 1)).b1 == f 1 && true)))) == false, true), ((hg (f 0) (f 1)).b1 != f 1, false), (decide ((n : Int) < 3), true)], r6V rS, 5, []) := by kernel_rfl
theorem ry_23 (n : Nat) (f : Nat → Int) : endsAt [] (Ly.run ctxD 3000 (dp [0, 1, 1, 1, 7, 1, 1, 0, 0, 0, 0, 0, 1, 0, 17, 3, 5, 28, 2, 3, 7]) (st8 n f)) = some ([((n : Int) == 0, false), (decide (1 < (n : Int)), true), (true && decide (1 < (n : Int)), true), (Nat.blt 1 n, true), (true && decide (0 < (n : Int)), true), (Nat.blt 0 n, true), (by1 (f 0) && by1 (f 1), true), ((hg (f 0) (f 1)).n == 0, false), ((hg (f 0) (f 1)).n == 1, false), ((hg (f 0) (f 1)).t == 0, false), ((hg (f 0) (f 1)).t == 1, false), ((hg (f 0) (f 1)).t == 2, false), ((hg (f 0) (f 1)).t == 3, true), (decide ((n : Int) < 2), false), (decide ((2 : Int) ≤ (n : Int)), true), (Nat.ble 2 n && true, true), ((!(true && ((hg (f 0) (f 1)).b0 == f 0 && ((hg (f 0) (f 1)).b1 == f 1 && true)))) == false, true), ((hg (f 0) (f 1)).b1 != f 1, false), (decide ((n : Int) < 3), false), (decide ((3 : Int) ≤ (n : Int)), true), (Nat.blt 2 n, true)], .tuple ⟨[.agg ⟨[.int .i64 (gs (f 0) (f 1)).op, .int .i64 (gs (f 0) (f 1)).d, .int .i64 (gs (f 0) (f 1)).s, .int .u16 (IntKind.u16.wrap (IntKind.i8.wrap (f 2)))]⟩, .int .i64 (3), .int .i64 0]⟩, 6, []) := by kernel_rfl
theorem ry_24 (n : Nat) (f : Nat → Int) : endsAt [] (Ly.run ctxD 3000 (dp [0, 1, 1, 1, 7, 1, 1, 0, 0, 0, 0, 0, 1, 0, 17, 3, 4]) (st8 n f)) = some ([((n : Int) == 0, false), (decide (1 < (n : Int)), true), (true && decide (1 < (n : Int)), true), (Nat.blt 1 n, true), (true && decide (0 < (n : Int)), true), (Nat.blt 0 n, true), (by1 (f 0) && by1 (f 1), true), ((hg (f 0) (f 1)).n == 0, false), ((hg (f 0) (f 1)).n == 1, false), ((hg (f 0) (f 1)).t == 0, false), ((hg (f 0) (f 1)).t == 1, false), ((hg (f 0) (f 1)).t == 2, false), ((hg (f 0) (f 1)).t == 3, true), (decide ((n : Int) < 2), false), (decide ((2 : Int) ≤ (n : Int)), true), (Nat.ble 2 n && true, true), ((!(true && ((hg (f 0) (f 1)).b0 == f 0 && ((hg (f 0) (f 1)).b1 == f 1 && true)))) == false, false)], r6V rF, 5, []) := by kernel_rfl
theorem gRd2 : ctxD.fn.get 8 = some Try.f8 := by kernel_rfl
theorem rd2_T {n : Nat} {f : Nat → Int} (h : mt (gs (f 0) (f 1)) (f 0) (f 1) = true) : rd2 n f = rdS (gs (f 0) (f 1)) f n := by unfold rd2; rw [h]; rfl
theorem rd2_F {n : Nat} {f : Nat → Int} (h : mt (gs (f 0) (f 1)) (f 0) (f 1) = false) : rd2 n f = rF := by unfold rd2; rw [h]; rfl
theorem rd_two (n : Nat) (f : Nat → Int) (h2 : 2 ≤ n) (hb : (by1 (f 0) && by1 (f 1)) = true) : LCalls Try.prog 8 [sl 0 n] (mkH [some (ints .u8 f n)]) (fun u _ => u = r6V (rd2 n f)) := by
  have h0 : ((n : Int) == 0) = false := by first | exact t_3 ‹_› ‹_› ‹_› ‹_› | exact mt_bm ‹_› | (simp only [Nat.blt_eq, Nat.ble_eq, Bool.and_true, Bool.true_and, Bool.and_eq_true, decide_eq_true_eq, decide_eq_false_iff_not, beq_eq_false_iff_ne, ne_eq] at *; omega)
  have h1 : (decide (1 < (n : Int))) = true := by first | exact t_3 ‹_› ‹_› ‹_› ‹_› | exact mt_bm ‹_› | (simp only [Nat.blt_eq, Nat.ble_eq, Bool.and_true, Bool.true_and, Bool.and_eq_true, decide_eq_true_eq, decide_eq_false_iff_not, beq_eq_false_iff_ne, ne_eq] at *; omega)
  have h2 : (true && decide (1 < (n : Int))) = true := by first | exact t_3 ‹_› ‹_› ‹_› ‹_› | exact mt_bm ‹_› | (simp only [Nat.blt_eq, Nat.ble_eq, Bool.and_true, Bool.true_and, Bool.and_eq_true, decide_eq_true_eq, decide_eq_false_iff_not, beq_eq_false_iff_ne, ne_eq] at *; omega)
  have h3 : (Nat.blt 1 n) = true := by first | exact t_3 ‹_› ‹_› ‹_› ‹_› | exact mt_bm ‹_› | (simp only [Nat.blt_eq, Nat.ble_eq, Bool.and_true, Bool.true_and, Bool.and_eq_true, decide_eq_true_eq, decide_eq_false_iff_not, beq_eq_false_iff_ne, ne_eq] at *; omega)
  have h4 : (true && decide (0 < (n : Int))) = true := by first | exact t_3 ‹_› ‹_› ‹_› ‹_› | exact mt_bm ‹_› | (simp only [Nat.blt_eq, Nat.ble_eq, Bool.and_true, Bool.true_and, Bool.and_eq_true, decide_eq_true_eq, decide_eq_false_iff_not, beq_eq_false_iff_ne, ne_eq] at *; omega)
  have h5 : (Nat.blt 0 n) = true := by first | exact t_3 ‹_› ‹_› ‹_› ‹_› | exact mt_bm ‹_› | (simp only [Nat.blt_eq, Nat.ble_eq, Bool.and_true, Bool.true_and, Bool.and_eq_true, decide_eq_true_eq, decide_eq_false_iff_not, beq_eq_false_iff_ne, ne_eq] at *; omega)
  rcases Bool.eq_false_or_eq_true ((hg (f 0) (f 1)).n == 0) with h7 | h7
  · exact (LCalls_of ctxD_ok gRd2 (by kernel_rfl) (MWp.ends ctxD_ok 3000 _ (ry_0 n f) ⟨h0, h1, h2, h3, h4, h5, hb, h7, trivial⟩)).mono (fun u K h => h.1.trans (by rw [rd2_F (mt_n0 h7)] <;> rfl))
  · rcases Bool.eq_false_or_eq_true ((hg (f 0) (f 1)).n == 1) with h8 | h8
    · rcases Bool.eq_false_or_eq_true ((hg (f 0) (f 1)).t == 0) with h9 | h9
      · have h10 : (decide ((n : Int) < 1)) = false := by first | exact t_3 ‹_› ‹_› ‹_› ‹_› | exact mt_bm ‹_› | (simp only [Nat.blt_eq, Nat.ble_eq, Bool.and_true, Bool.true_and, Bool.and_eq_true, decide_eq_true_eq, decide_eq_false_iff_not, beq_eq_false_iff_ne, ne_eq] at *; omega)
        have h11 : (decide ((1 : Int) ≤ (n : Int))) = true := by first | exact t_3 ‹_› ‹_› ‹_› ‹_› | exact mt_bm ‹_› | (simp only [Nat.blt_eq, Nat.ble_eq, Bool.and_true, Bool.true_and, Bool.and_eq_true, decide_eq_true_eq, decide_eq_false_iff_not, beq_eq_false_iff_ne, ne_eq] at *; omega)
        have h12 : (Nat.ble 1 n && true) = true := by first | exact t_3 ‹_› ‹_› ‹_› ‹_› | exact mt_bm ‹_› | (simp only [Nat.blt_eq, Nat.ble_eq, Bool.and_true, Bool.true_and, Bool.and_eq_true, decide_eq_true_eq, decide_eq_false_iff_not, beq_eq_false_iff_ne, ne_eq] at *; omega)
        rcases Bool.eq_false_or_eq_true ((!(true && ((hg (f 0) (f 1)).b0 == f 0 && true))) == false) with h13 | h13
        · rcases Bool.eq_false_or_eq_true (decide ((n : Int) < 1)) with h14 | h14
          · exact (LCalls_of ctxD_ok gRd2 (by kernel_rfl) (MWp.ends ctxD_ok 3000 _ (ry_1 n f) ⟨h0, h1, h2, h3, h4, h5, hb, h7, h8, h9, h10, h11, h12, h13, h14, trivial⟩)).mono (fun u K h => h.1.trans (by rw [(rd2_T (mt_1 h7 h8 h13)).trans (rdS_S h8 h9 (by simp only [Nat.blt_eq, Nat.ble_eq, decide_eq_true_eq, decide_eq_false_iff_not, show l0 true = 1 from rfl, show l0 false = 2 from rfl, show tl 0 = 0 from rfl, show tl 1 = 1 from rfl, show tl 2 = 2 from rfl, show tl 3 = 1 from rfl] at *; omega))] <;> rfl))
          · exact (LCalls_of ctxD_ok gRd2 (by kernel_rfl) (MWp.ends ctxD_ok 3000 _ (ry_2 n f) ⟨h0, h1, h2, h3, h4, h5, hb, h7, h8, h9, h10, h11, h12, h13, h14, h11, trivial⟩)).mono (fun u K h => h.1.trans (by rw [(rd2_T (mt_1 h7 h8 h13)).trans (rdS_L h8 h9 (by simp only [Nat.blt_eq, Nat.ble_eq, decide_eq_true_eq, decide_eq_false_iff_not, show l0 true = 1 from rfl, show l0 false = 2 from rfl, show tl 0 = 0 from rfl, show tl 1 = 1 from rfl, show tl 2 = 2 from rfl, show tl 3 = 1 from rfl] at *; omega))] <;> rfl))
        · exact (LCalls_of ctxD_ok gRd2 (by kernel_rfl) (MWp.ends ctxD_ok 3000 _ (ry_3 n f) ⟨h0, h1, h2, h3, h4, h5, hb, h7, h8, h9, h10, h11, h12, h13, trivial⟩)).mono (fun u K h => h.1.trans (by rw [rd2_F (mt_b0 h13)] <;> rfl))
      · rcases Bool.eq_false_or_eq_true ((hg (f 0) (f 1)).t == 1) with h10 | h10
        · have h11 : (decide ((n : Int) < 1)) = false := by first | exact t_3 ‹_› ‹_› ‹_› ‹_› | exact mt_bm ‹_› | (simp only [Nat.blt_eq, Nat.ble_eq, Bool.and_true, Bool.true_and, Bool.and_eq_true, decide_eq_true_eq, decide_eq_false_iff_not, beq_eq_false_iff_ne, ne_eq] at *; omega)
          have h12 : (decide ((1 : Int) ≤ (n : Int))) = true := by first | exact t_3 ‹_› ‹_› ‹_› ‹_› | exact mt_bm ‹_› | (simp only [Nat.blt_eq, Nat.ble_eq, Bool.and_true, Bool.true_and, Bool.and_eq_true, decide_eq_true_eq, decide_eq_false_iff_not, beq_eq_false_iff_ne, ne_eq] at *; omega)
          have h13 : (Nat.ble 1 n && true) = true := by first | exact t_3 ‹_› ‹_› ‹_› ‹_› | exact mt_bm ‹_› | (simp only [Nat.blt_eq, Nat.ble_eq, Bool.and_true, Bool.true_and, Bool.and_eq_true, decide_eq_true_eq, decide_eq_false_iff_not, beq_eq_false_iff_ne, ne_eq] at *; omega)
          rcases Bool.eq_false_or_eq_true ((!(true && ((hg (f 0) (f 1)).b0 == f 0 && true))) == false) with h14 | h14
          · rcases Bool.eq_false_or_eq_true (decide ((n : Int) < 2)) with h15 | h15
            · exact (LCalls_of ctxD_ok gRd2 (by kernel_rfl) (MWp.ends ctxD_ok 3000 _ (ry_4 n f) ⟨h0, h1, h2, h3, h4, h5, hb, h7, h8, h9, h10, h11, h12, h13, h14, h15, trivial⟩)).mono (fun u K h => h.1.trans (by rw [(rd2_T (mt_1 h7 h8 h14)).trans (rdS_S h8 h10 (by simp only [Nat.blt_eq, Nat.ble_eq, decide_eq_true_eq, decide_eq_false_iff_not, show l0 true = 1 from rfl, show l0 false = 2 from rfl, show tl 0 = 0 from rfl, show tl 1 = 1 from rfl, show tl 2 = 2 from rfl, show tl 3 = 1 from rfl] at *; omega))] <;> rfl))
            · have h16 : (decide ((2 : Int) ≤ (n : Int))) = true := by first | exact t_3 ‹_› ‹_› ‹_› ‹_› | exact mt_bm ‹_› | (simp only [Nat.blt_eq, Nat.ble_eq, Bool.and_true, Bool.true_and, Bool.and_eq_true, decide_eq_true_eq, decide_eq_false_iff_not, beq_eq_false_iff_ne, ne_eq] at *; omega)
              exact (LCalls_of ctxD_ok gRd2 (by kernel_rfl) (MWp.ends ctxD_ok 3000 _ (ry_5 n f) ⟨h0, h1, h2, h3, h4, h5, hb, h7, h8, h9, h10, h11, h12, h13, h14, h15, h16, h3, trivial⟩)).mono (fun u K h => h.1.trans (by rw [(rd2_T (mt_1 h7 h8 h14)).trans (rdS_L h8 h10 (by simp only [Nat.blt_eq, Nat.ble_eq, decide_eq_true_eq, decide_eq_false_iff_not, show l0 true = 1 from rfl, show l0 false = 2 from rfl, show tl 0 = 0 from rfl, show tl 1 = 1 from rfl, show tl 2 = 2 from rfl, show tl 3 = 1 from rfl] at *; omega))] <;> rfl))
          · exact (LCalls_of ctxD_ok gRd2 (by kernel_rfl) (MWp.ends ctxD_ok 3000 _ (ry_6 n f) ⟨h0, h1, h2, h3, h4, h5, hb, h7, h8, h9, h10, h11, h12, h13, h14, trivial⟩)).mono (fun u K h => h.1.trans (by rw [rd2_F (mt_b0 h14)] <;> rfl))
        · rcases Bool.eq_false_or_eq_true ((hg (f 0) (f 1)).t == 2) with h11 | h11
          · have h12 : (decide ((n : Int) < 1)) = false := by first | exact t_3 ‹_› ‹_› ‹_› ‹_› | exact mt_bm ‹_› | (simp only [Nat.blt_eq, Nat.ble_eq, Bool.and_true, Bool.true_and, Bool.and_eq_true, decide_eq_true_eq, decide_eq_false_iff_not, beq_eq_false_iff_ne, ne_eq] at *; omega)
            have h13 : (decide ((1 : Int) ≤ (n : Int))) = true := by first | exact t_3 ‹_› ‹_› ‹_› ‹_› | exact mt_bm ‹_› | (simp only [Nat.blt_eq, Nat.ble_eq, Bool.and_true, Bool.true_and, Bool.and_eq_true, decide_eq_true_eq, decide_eq_false_iff_not, beq_eq_false_iff_ne, ne_eq] at *; omega)
            have h14 : (Nat.ble 1 n && true) = true := by first | exact t_3 ‹_› ‹_› ‹_› ‹_› | exact mt_bm ‹_› | (simp only [Nat.blt_eq, Nat.ble_eq, Bool.and_true, Bool.true_and, Bool.and_eq_true, decide_eq_true_eq, decide_eq_false_iff_not, beq_eq_false_iff_ne, ne_eq] at *; omega)
            rcases Bool.eq_false_or_eq_true ((!(true && ((hg (f 0) (f 1)).b0 == f 0 && true))) == false) with h15 | h15
            · rcases Bool.eq_false_or_eq_true (decide ((n : Int) < 3)) with h16 | h16
              · exact (LCalls_of ctxD_ok gRd2 (by kernel_rfl) (MWp.ends ctxD_ok 3000 _ (ry_7 n f) ⟨h0, h1, h2, h3, h4, h5, hb, h7, h8, h9, h10, h11, h12, h13, h14, h15, h16, trivial⟩)).mono (fun u K h => h.1.trans (by rw [(rd2_T (mt_1 h7 h8 h15)).trans (rdS_S h8 h11 (by simp only [Nat.blt_eq, Nat.ble_eq, decide_eq_true_eq, decide_eq_false_iff_not, show l0 true = 1 from rfl, show l0 false = 2 from rfl, show tl 0 = 0 from rfl, show tl 1 = 1 from rfl, show tl 2 = 2 from rfl, show tl 3 = 1 from rfl] at *; omega))] <;> rfl))
              · have h17 : (decide ((3 : Int) ≤ (n : Int))) = true := by first | exact t_3 ‹_› ‹_› ‹_› ‹_› | exact mt_bm ‹_› | (simp only [Nat.blt_eq, Nat.ble_eq, Bool.and_true, Bool.true_and, Bool.and_eq_true, decide_eq_true_eq, decide_eq_false_iff_not, beq_eq_false_iff_ne, ne_eq] at *; omega)
                have h19 : (Nat.blt 2 n) = true := by first | exact t_3 ‹_› ‹_› ‹_› ‹_› | exact mt_bm ‹_› | (simp only [Nat.blt_eq, Nat.ble_eq, Bool.and_true, Bool.true_and, Bool.and_eq_true, decide_eq_true_eq, decide_eq_false_iff_not, beq_eq_false_iff_ne, ne_eq] at *; omega)
                exact (LCalls_of ctxD_ok gRd2 (by kernel_rfl) (MWp.ends ctxD_ok 3000 _ (ry_8 n f) ⟨h0, h1, h2, h3, h4, h5, hb, h7, h8, h9, h10, h11, h12, h13, h14, h15, h16, h17, h3, h19, trivial⟩)).mono (fun u K h => h.1.trans (by rw [(rd2_T (mt_1 h7 h8 h15)).trans (rdS_L h8 h11 (by simp only [Nat.blt_eq, Nat.ble_eq, decide_eq_true_eq, decide_eq_false_iff_not, show l0 true = 1 from rfl, show l0 false = 2 from rfl, show tl 0 = 0 from rfl, show tl 1 = 1 from rfl, show tl 2 = 2 from rfl, show tl 3 = 1 from rfl] at *; omega))] <;> rfl))
            · exact (LCalls_of ctxD_ok gRd2 (by kernel_rfl) (MWp.ends ctxD_ok 3000 _ (ry_9 n f) ⟨h0, h1, h2, h3, h4, h5, hb, h7, h8, h9, h10, h11, h12, h13, h14, h15, trivial⟩)).mono (fun u K h => h.1.trans (by rw [rd2_F (mt_b0 h15)] <;> rfl))
          · have h12 : ((hg (f 0) (f 1)).t == 3) = true := by first | exact t_3 ‹_› ‹_› ‹_› ‹_› | exact mt_bm ‹_› | (simp only [Nat.blt_eq, Nat.ble_eq, Bool.and_true, Bool.true_and, Bool.and_eq_true, decide_eq_true_eq, decide_eq_false_iff_not, beq_eq_false_iff_ne, ne_eq] at *; omega)
            have h13 : (decide ((n : Int) < 1)) = false := by first | exact t_3 ‹_› ‹_› ‹_› ‹_› | exact mt_bm ‹_› | (simp only [Nat.blt_eq, Nat.ble_eq, Bool.and_true, Bool.true_and, Bool.and_eq_true, decide_eq_true_eq, decide_eq_false_iff_not, beq_eq_false_iff_ne, ne_eq] at *; omega)
            have h14 : (decide ((1 : Int) ≤ (n : Int))) = true := by first | exact t_3 ‹_› ‹_› ‹_› ‹_› | exact mt_bm ‹_› | (simp only [Nat.blt_eq, Nat.ble_eq, Bool.and_true, Bool.true_and, Bool.and_eq_true, decide_eq_true_eq, decide_eq_false_iff_not, beq_eq_false_iff_ne, ne_eq] at *; omega)
            have h15 : (Nat.ble 1 n && true) = true := by first | exact t_3 ‹_› ‹_› ‹_› ‹_› | exact mt_bm ‹_› | (simp only [Nat.blt_eq, Nat.ble_eq, Bool.and_true, Bool.true_and, Bool.and_eq_true, decide_eq_true_eq, decide_eq_false_iff_not, beq_eq_false_iff_ne, ne_eq] at *; omega)
            rcases Bool.eq_false_or_eq_true ((!(true && ((hg (f 0) (f 1)).b0 == f 0 && true))) == false) with h16 | h16
            · rcases Bool.eq_false_or_eq_true (decide ((n : Int) < 2)) with h17 | h17
              · exact (LCalls_of ctxD_ok gRd2 (by kernel_rfl) (MWp.ends ctxD_ok 3000 _ (ry_10 n f) ⟨h0, h1, h2, h3, h4, h5, hb, h7, h8, h9, h10, h11, h12, h13, h14, h15, h16, h17, trivial⟩)).mono (fun u K h => h.1.trans (by rw [(rd2_T (mt_1 h7 h8 h16)).trans (rdS_S h8 h12 (by simp only [Nat.blt_eq, Nat.ble_eq, decide_eq_true_eq, decide_eq_false_iff_not, show l0 true = 1 from rfl, show l0 false = 2 from rfl, show tl 0 = 0 from rfl, show tl 1 = 1 from rfl, show tl 2 = 2 from rfl, show tl 3 = 1 from rfl] at *; omega))] <;> rfl))
              · have h18 : (decide ((2 : Int) ≤ (n : Int))) = true := by first | exact t_3 ‹_› ‹_› ‹_› ‹_› | exact mt_bm ‹_› | (simp only [Nat.blt_eq, Nat.ble_eq, Bool.and_true, Bool.true_and, Bool.and_eq_true, decide_eq_true_eq, decide_eq_false_iff_not, beq_eq_false_iff_ne, ne_eq] at *; omega)
                exact (LCalls_of ctxD_ok gRd2 (by kernel_rfl) (MWp.ends ctxD_ok 3000 _ (ry_11 n f) ⟨h0, h1, h2, h3, h4, h5, hb, h7, h8, h9, h10, h11, h12, h13, h14, h15, h16, h17, h18, h3, trivial⟩)).mono (fun u K h => h.1.trans (by rw [(rd2_T (mt_1 h7 h8 h16)).trans (rdS_L h8 h12 (by simp only [Nat.blt_eq, Nat.ble_eq, decide_eq_true_eq, decide_eq_false_iff_not, show l0 true = 1 from rfl, show l0 false = 2 from rfl, show tl 0 = 0 from rfl, show tl 1 = 1 from rfl, show tl 2 = 2 from rfl, show tl 3 = 1 from rfl] at *; omega))] <;> rfl))
            · exact (LCalls_of ctxD_ok gRd2 (by kernel_rfl) (MWp.ends ctxD_ok 3000 _ (ry_12 n f) ⟨h0, h1, h2, h3, h4, h5, hb, h7, h8, h9, h10, h11, h12, h13, h14, h15, h16, trivial⟩)).mono (fun u K h => h.1.trans (by rw [rd2_F (mt_b0 h16)] <;> rfl))
    · rcases Bool.eq_false_or_eq_true ((hg (f 0) (f 1)).t == 0) with h9 | h9
      · have h10 : (decide ((n : Int) < 2)) = false := by first | exact t_3 ‹_› ‹_› ‹_› ‹_› | exact mt_bm ‹_› | (simp only [Nat.blt_eq, Nat.ble_eq, Bool.and_true, Bool.true_and, Bool.and_eq_true, decide_eq_true_eq, decide_eq_false_iff_not, beq_eq_false_iff_ne, ne_eq] at *; omega)
        have h11 : (decide ((2 : Int) ≤ (n : Int))) = true := by first | exact t_3 ‹_› ‹_› ‹_› ‹_› | exact mt_bm ‹_› | (simp only [Nat.blt_eq, Nat.ble_eq, Bool.and_true, Bool.true_and, Bool.and_eq_true, decide_eq_true_eq, decide_eq_false_iff_not, beq_eq_false_iff_ne, ne_eq] at *; omega)
        have h12 : (Nat.ble 2 n && true) = true := by first | exact t_3 ‹_› ‹_› ‹_› ‹_› | exact mt_bm ‹_› | (simp only [Nat.blt_eq, Nat.ble_eq, Bool.and_true, Bool.true_and, Bool.and_eq_true, decide_eq_true_eq, decide_eq_false_iff_not, beq_eq_false_iff_ne, ne_eq] at *; omega)
        rcases Bool.eq_false_or_eq_true ((!(true && ((hg (f 0) (f 1)).b0 == f 0 && ((hg (f 0) (f 1)).b1 == f 1 && true)))) == false) with h13 | h13
        · have h14 : ((hg (f 0) (f 1)).b1 != f 1) = false := by first | exact t_3 ‹_› ‹_› ‹_› ‹_› | exact mt_bm ‹_› | (simp only [Nat.blt_eq, Nat.ble_eq, Bool.and_true, Bool.true_and, Bool.and_eq_true, decide_eq_true_eq, decide_eq_false_iff_not, beq_eq_false_iff_ne, ne_eq] at *; omega)
          rcases Bool.eq_false_or_eq_true (decide ((n : Int) < 2)) with h15 | h15
          · exact (LCalls_of ctxD_ok gRd2 (by kernel_rfl) (MWp.ends ctxD_ok 3000 _ (ry_13 n f) ⟨h0, h1, h2, h3, h4, h5, hb, h7, h8, h9, h10, h11, h12, h13, h14, h15, trivial⟩)).mono (fun u K h => h.1.trans (by rw [(rd2_T (mt_bt h7 h13)).trans (rdS_S h8 h9 (by simp only [Nat.blt_eq, Nat.ble_eq, decide_eq_true_eq, decide_eq_false_iff_not, show l0 true = 1 from rfl, show l0 false = 2 from rfl, show tl 0 = 0 from rfl, show tl 1 = 1 from rfl, show tl 2 = 2 from rfl, show tl 3 = 1 from rfl] at *; omega))] <;> rfl))
          · exact (LCalls_of ctxD_ok gRd2 (by kernel_rfl) (MWp.ends ctxD_ok 3000 _ (ry_14 n f) ⟨h0, h1, h2, h3, h4, h5, hb, h7, h8, h9, h10, h11, h12, h13, h14, h15, h11, trivial⟩)).mono (fun u K h => h.1.trans (by rw [(rd2_T (mt_bt h7 h13)).trans (rdS_L h8 h9 (by simp only [Nat.blt_eq, Nat.ble_eq, decide_eq_true_eq, decide_eq_false_iff_not, show l0 true = 1 from rfl, show l0 false = 2 from rfl, show tl 0 = 0 from rfl, show tl 1 = 1 from rfl, show tl 2 = 2 from rfl, show tl 3 = 1 from rfl] at *; omega))] <;> rfl))
        · exact (LCalls_of ctxD_ok gRd2 (by kernel_rfl) (MWp.ends ctxD_ok 3000 _ (ry_15 n f) ⟨h0, h1, h2, h3, h4, h5, hb, h7, h8, h9, h10, h11, h12, h13, trivial⟩)).mono (fun u K h => h.1.trans (by rw [rd2_F (mt_bf h8 h13)] <;> rfl))
      · rcases Bool.eq_false_or_eq_true ((hg (f 0) (f 1)).t == 1) with h10 | h10
        · have h11 : (decide ((n : Int) < 2)) = false := by first | exact t_3 ‹_› ‹_› ‹_› ‹_› | exact mt_bm ‹_› | (simp only [Nat.blt_eq, Nat.ble_eq, Bool.and_true, Bool.true_and, Bool.and_eq_true, decide_eq_true_eq, decide_eq_false_iff_not, beq_eq_false_iff_ne, ne_eq] at *; omega)
          have h12 : (decide ((2 : Int) ≤ (n : Int))) = true := by first | exact t_3 ‹_› ‹_› ‹_› ‹_› | exact mt_bm ‹_› | (simp only [Nat.blt_eq, Nat.ble_eq, Bool.and_true, Bool.true_and, Bool.and_eq_true, decide_eq_true_eq, decide_eq_false_iff_not, beq_eq_false_iff_ne, ne_eq] at *; omega)
          have h13 : (Nat.ble 2 n && true) = true := by first | exact t_3 ‹_› ‹_› ‹_› ‹_› | exact mt_bm ‹_› | (simp only [Nat.blt_eq, Nat.ble_eq, Bool.and_true, Bool.true_and, Bool.and_eq_true, decide_eq_true_eq, decide_eq_false_iff_not, beq_eq_false_iff_ne, ne_eq] at *; omega)
          rcases Bool.eq_false_or_eq_true ((!(true && ((hg (f 0) (f 1)).b0 == f 0 && ((hg (f 0) (f 1)).b1 == f 1 && true)))) == false) with h14 | h14
          · have h15 : ((hg (f 0) (f 1)).b1 != f 1) = false := by first | exact t_3 ‹_› ‹_› ‹_› ‹_› | exact mt_bm ‹_› | (simp only [Nat.blt_eq, Nat.ble_eq, Bool.and_true, Bool.true_and, Bool.and_eq_true, decide_eq_true_eq, decide_eq_false_iff_not, beq_eq_false_iff_ne, ne_eq] at *; omega)
            rcases Bool.eq_false_or_eq_true (decide ((n : Int) < 3)) with h16 | h16
            · exact (LCalls_of ctxD_ok gRd2 (by kernel_rfl) (MWp.ends ctxD_ok 3000 _ (ry_16 n f) ⟨h0, h1, h2, h3, h4, h5, hb, h7, h8, h9, h10, h11, h12, h13, h14, h15, h16, trivial⟩)).mono (fun u K h => h.1.trans (by rw [(rd2_T (mt_bt h7 h14)).trans (rdS_S h8 h10 (by simp only [Nat.blt_eq, Nat.ble_eq, decide_eq_true_eq, decide_eq_false_iff_not, show l0 true = 1 from rfl, show l0 false = 2 from rfl, show tl 0 = 0 from rfl, show tl 1 = 1 from rfl, show tl 2 = 2 from rfl, show tl 3 = 1 from rfl] at *; omega))] <;> rfl))
            · have h17 : (decide ((3 : Int) ≤ (n : Int))) = true := by first | exact t_3 ‹_› ‹_› ‹_› ‹_› | exact mt_bm ‹_› | (simp only [Nat.blt_eq, Nat.ble_eq, Bool.and_true, Bool.true_and, Bool.and_eq_true, decide_eq_true_eq, decide_eq_false_iff_not, beq_eq_false_iff_ne, ne_eq] at *; omega)
              have h18 : (Nat.blt 2 n) = true := by first | exact t_3 ‹_› ‹_› ‹_› ‹_› | exact mt_bm ‹_› | (simp only [Nat.blt_eq, Nat.ble_eq, Bool.and_true, Bool.true_and, Bool.and_eq_true, decide_eq_true_eq, decide_eq_false_iff_not, beq_eq_false_iff_ne, ne_eq] at *; omega)
              exact (LCalls_of ctxD_ok gRd2 (by kernel_rfl) (MWp.ends ctxD_ok 3000 _ (ry_17 n f) ⟨h0, h1, h2, h3, h4, h5, hb, h7, h8, h9, h10, h11, h12, h13, h14, h15, h16, h17, h18, trivial⟩)).mono (fun u K h => h.1.trans (by rw [(rd2_T (mt_bt h7 h14)).trans (rdS_L h8 h10 (by simp only [Nat.blt_eq, Nat.ble_eq, decide_eq_true_eq, decide_eq_false_iff_not, show l0 true = 1 from rfl, show l0 false = 2 from rfl, show tl 0 = 0 from rfl, show tl 1 = 1 from rfl, show tl 2 = 2 from rfl, show tl 3 = 1 from rfl] at *; omega))] <;> rfl))
          · exact (LCalls_of ctxD_ok gRd2 (by kernel_rfl) (MWp.ends ctxD_ok 3000 _ (ry_18 n f) ⟨h0, h1, h2, h3, h4, h5, hb, h7, h8, h9, h10, h11, h12, h13, h14, trivial⟩)).mono (fun u K h => h.1.trans (by rw [rd2_F (mt_bf h8 h14)] <;> rfl))
        · rcases Bool.eq_false_or_eq_true ((hg (f 0) (f 1)).t == 2) with h11 | h11
          · have h12 : (decide ((n : Int) < 2)) = false := by first | exact t_3 ‹_› ‹_› ‹_› ‹_› | exact mt_bm ‹_› | (simp only [Nat.blt_eq, Nat.ble_eq, Bool.and_true, Bool.true_and, Bool.and_eq_true, decide_eq_true_eq, decide_eq_false_iff_not, beq_eq_false_iff_ne, ne_eq] at *; omega)
            have h13 : (decide ((2 : Int) ≤ (n : Int))) = true := by first | exact t_3 ‹_› ‹_› ‹_› ‹_› | exact mt_bm ‹_› | (simp only [Nat.blt_eq, Nat.ble_eq, Bool.and_true, Bool.true_and, Bool.and_eq_true, decide_eq_true_eq, decide_eq_false_iff_not, beq_eq_false_iff_ne, ne_eq] at *; omega)
            have h14 : (Nat.ble 2 n && true) = true := by first | exact t_3 ‹_› ‹_› ‹_› ‹_› | exact mt_bm ‹_› | (simp only [Nat.blt_eq, Nat.ble_eq, Bool.and_true, Bool.true_and, Bool.and_eq_true, decide_eq_true_eq, decide_eq_false_iff_not, beq_eq_false_iff_ne, ne_eq] at *; omega)
            rcases Bool.eq_false_or_eq_true ((!(true && ((hg (f 0) (f 1)).b0 == f 0 && ((hg (f 0) (f 1)).b1 == f 1 && true)))) == false) with h15 | h15
            · have h16 : ((hg (f 0) (f 1)).b1 != f 1) = false := by first | exact t_3 ‹_› ‹_› ‹_› ‹_› | exact mt_bm ‹_› | (simp only [Nat.blt_eq, Nat.ble_eq, Bool.and_true, Bool.true_and, Bool.and_eq_true, decide_eq_true_eq, decide_eq_false_iff_not, beq_eq_false_iff_ne, ne_eq] at *; omega)
              rcases Bool.eq_false_or_eq_true (decide ((n : Int) < 4)) with h17 | h17
              · exact (LCalls_of ctxD_ok gRd2 (by kernel_rfl) (MWp.ends ctxD_ok 3000 _ (ry_19 n f) ⟨h0, h1, h2, h3, h4, h5, hb, h7, h8, h9, h10, h11, h12, h13, h14, h15, h16, h17, trivial⟩)).mono (fun u K h => h.1.trans (by rw [(rd2_T (mt_bt h7 h15)).trans (rdS_S h8 h11 (by simp only [Nat.blt_eq, Nat.ble_eq, decide_eq_true_eq, decide_eq_false_iff_not, show l0 true = 1 from rfl, show l0 false = 2 from rfl, show tl 0 = 0 from rfl, show tl 1 = 1 from rfl, show tl 2 = 2 from rfl, show tl 3 = 1 from rfl] at *; omega))] <;> rfl))
              · have h18 : (decide ((4 : Int) ≤ (n : Int))) = true := by first | exact t_3 ‹_› ‹_› ‹_› ‹_› | exact mt_bm ‹_› | (simp only [Nat.blt_eq, Nat.ble_eq, Bool.and_true, Bool.true_and, Bool.and_eq_true, decide_eq_true_eq, decide_eq_false_iff_not, beq_eq_false_iff_ne, ne_eq] at *; omega)
                have h19 : (Nat.blt 2 n) = true := by first | exact t_3 ‹_› ‹_› ‹_› ‹_› | exact mt_bm ‹_› | (simp only [Nat.blt_eq, Nat.ble_eq, Bool.and_true, Bool.true_and, Bool.and_eq_true, decide_eq_true_eq, decide_eq_false_iff_not, beq_eq_false_iff_ne, ne_eq] at *; omega)
                have h20 : (Nat.blt 3 n) = true := by first | exact t_3 ‹_› ‹_› ‹_› ‹_› | exact mt_bm ‹_› | (simp only [Nat.blt_eq, Nat.ble_eq, Bool.and_true, Bool.true_and, Bool.and_eq_true, decide_eq_true_eq, decide_eq_false_iff_not, beq_eq_false_iff_ne, ne_eq] at *; omega)
                exact (LCalls_of ctxD_ok gRd2 (by kernel_rfl) (MWp.ends ctxD_ok 3000 _ (ry_20 n f) ⟨h0, h1, h2, h3, h4, h5, hb, h7, h8, h9, h10, h11, h12, h13, h14, h15, h16, h17, h18, h19, h20, trivial⟩)).mono (fun u K h => h.1.trans (by rw [(rd2_T (mt_bt h7 h15)).trans (rdS_L h8 h11 (by simp only [Nat.blt_eq, Nat.ble_eq, decide_eq_true_eq, decide_eq_false_iff_not, show l0 true = 1 from rfl, show l0 false = 2 from rfl, show tl 0 = 0 from rfl, show tl 1 = 1 from rfl, show tl 2 = 2 from rfl, show tl 3 = 1 from rfl] at *; omega))] <;> rfl))
            · exact (LCalls_of ctxD_ok gRd2 (by kernel_rfl) (MWp.ends ctxD_ok 3000 _ (ry_21 n f) ⟨h0, h1, h2, h3, h4, h5, hb, h7, h8, h9, h10, h11, h12, h13, h14, h15, trivial⟩)).mono (fun u K h => h.1.trans (by rw [rd2_F (mt_bf h8 h15)] <;> rfl))
          · have h12 : ((hg (f 0) (f 1)).t == 3) = true := by first | exact t_3 ‹_› ‹_› ‹_› ‹_› | exact mt_bm ‹_› | (simp only [Nat.blt_eq, Nat.ble_eq, Bool.and_true, Bool.true_and, Bool.and_eq_true, decide_eq_true_eq, decide_eq_false_iff_not, beq_eq_false_iff_ne, ne_eq] at *; omega)
            have h13 : (decide ((n : Int) < 2)) = false := by first | exact t_3 ‹_› ‹_› ‹_› ‹_› | exact mt_bm ‹_› | (simp only [Nat.blt_eq, Nat.ble_eq, Bool.and_true, Bool.true_and, Bool.and_eq_true, decide_eq_true_eq, decide_eq_false_iff_not, beq_eq_false_iff_ne, ne_eq] at *; omega)
            have h14 : (decide ((2 : Int) ≤ (n : Int))) = true := by first | exact t_3 ‹_› ‹_› ‹_› ‹_› | exact mt_bm ‹_› | (simp only [Nat.blt_eq, Nat.ble_eq, Bool.and_true, Bool.true_and, Bool.and_eq_true, decide_eq_true_eq, decide_eq_false_iff_not, beq_eq_false_iff_ne, ne_eq] at *; omega)
            have h15 : (Nat.ble 2 n && true) = true := by first | exact t_3 ‹_› ‹_› ‹_› ‹_› | exact mt_bm ‹_› | (simp only [Nat.blt_eq, Nat.ble_eq, Bool.and_true, Bool.true_and, Bool.and_eq_true, decide_eq_true_eq, decide_eq_false_iff_not, beq_eq_false_iff_ne, ne_eq] at *; omega)
            rcases Bool.eq_false_or_eq_true ((!(true && ((hg (f 0) (f 1)).b0 == f 0 && ((hg (f 0) (f 1)).b1 == f 1 && true)))) == false) with h16 | h16
            · have h17 : ((hg (f 0) (f 1)).b1 != f 1) = false := by first | exact t_3 ‹_› ‹_› ‹_› ‹_› | exact mt_bm ‹_› | (simp only [Nat.blt_eq, Nat.ble_eq, Bool.and_true, Bool.true_and, Bool.and_eq_true, decide_eq_true_eq, decide_eq_false_iff_not, beq_eq_false_iff_ne, ne_eq] at *; omega)
              rcases Bool.eq_false_or_eq_true (decide ((n : Int) < 3)) with h18 | h18
              · exact (LCalls_of ctxD_ok gRd2 (by kernel_rfl) (MWp.ends ctxD_ok 3000 _ (ry_22 n f) ⟨h0, h1, h2, h3, h4, h5, hb, h7, h8, h9, h10, h11, h12, h13, h14, h15, h16, h17, h18, trivial⟩)).mono (fun u K h => h.1.trans (by rw [(rd2_T (mt_bt h7 h16)).trans (rdS_S h8 h12 (by simp only [Nat.blt_eq, Nat.ble_eq, decide_eq_true_eq, decide_eq_false_iff_not, show l0 true = 1 from rfl, show l0 false = 2 from rfl, show tl 0 = 0 from rfl, show tl 1 = 1 from rfl, show tl 2 = 2 from rfl, show tl 3 = 1 from rfl] at *; omega))] <;> rfl))
              · have h19 : (decide ((3 : Int) ≤ (n : Int))) = true := by first | exact t_3 ‹_› ‹_› ‹_› ‹_› | exact mt_bm ‹_› | (simp only [Nat.blt_eq, Nat.ble_eq, Bool.and_true, Bool.true_and, Bool.and_eq_true, decide_eq_true_eq, decide_eq_false_iff_not, beq_eq_false_iff_ne, ne_eq] at *; omega)
                have h20 : (Nat.blt 2 n) = true := by first | exact t_3 ‹_› ‹_› ‹_› ‹_› | exact mt_bm ‹_› | (simp only [Nat.blt_eq, Nat.ble_eq, Bool.and_true, Bool.true_and, Bool.and_eq_true, decide_eq_true_eq, decide_eq_false_iff_not, beq_eq_false_iff_ne, ne_eq] at *; omega)
                exact (LCalls_of ctxD_ok gRd2 (by kernel_rfl) (MWp.ends ctxD_ok 3000 _ (ry_23 n f) ⟨h0, h1, h2, h3, h4, h5, hb, h7, h8, h9, h10, h11, h12, h13, h14, h15, h16, h17, h18, h19, h20, trivial⟩)).mono (fun u K h => h.1.trans (by rw [(rd2_T (mt_bt h7 h16)).trans (rdS_L h8 h12 (by simp only [Nat.blt_eq, Nat.ble_eq, decide_eq_true_eq, decide_eq_false_iff_not, show l0 true = 1 from rfl, show l0 false = 2 from rfl, show tl 0 = 0 from rfl, show tl 1 = 1 from rfl, show tl 2 = 2 from rfl, show tl 3 = 1 from rfl] at *; omega))] <;> rfl))
            · exact (LCalls_of ctxD_ok gRd2 (by kernel_rfl) (MWp.ends ctxD_ok 3000 _ (ry_24 n f) ⟨h0, h1, h2, h3, h4, h5, hb, h7, h8, h9, h10, h11, h12, h13, h14, h15, h16, trivial⟩)).mono (fun u K h => h.1.trans (by rw [rd2_F (mt_bf h8 h16)] <;> rfl))
end Go.Proofs.Ytkemllgkkngcjaa
namespace Go.Proofs.Ytkemllgkkngcjaa
open Go Go.Ly Go.RowKit
theorem rd_nil : LCalls Try.prog 8 [.slice none 0 0] (mkH []) (fun u _ => u = r6V rS) :=
  LCalls_trust (v := r6V rS) ctxD_ok 3000 [] gRd (by kernel_rfl) (t := []) (by kernel_rfl) trivial
theorem rd_zero (f : Nat → Int) : LCalls Try.prog 8 [sl 0 0] (mkH [some (ints .u8 f 0)]) (fun u _ => u = r6V rS) :=
  LCalls_trust (v := r6V rS) ctxD_ok 3000 [] gRd (by kernel_rfl) (t := []) (by kernel_rfl) trivial
def rdMk (n : Nat) (f : Nat → Int) : Bool × Value := (rdG n f, r6V (rd n f))
theorem rdMk_S (n : Nat) (f : Nat → Int) (h : (rdMk n f).1 = true) : LCalls Try.prog 8 [sl 0 n] (mkH [some (ints .u8 f n)]) (fun u _ => u = (rdMk n f).2) := by
  have hg : rdG n f = true := h
  show LCalls Try.prog 8 [sl 0 n] (mkH [some (ints .u8 f n)]) (fun u _ => u = r6V (rd n f))
  match n, hg with
  | 0, _ => exact rd_zero f
  | 1, hg => exact rd_one f (by unfold rdG at hg; simp only [show Nat.beq 1 0 = false from rfl, show Nat.beq 1 1 = true from rfl, Bool.false_or, Bool.true_or, Bool.and_true] at hg; exact hg)
  | k + 2, hg =>
    refine rd_two (k + 2) f (by omega) ?_
    unfold rdG at hg
    simp only [show Nat.beq (k + 2) 0 = false from rfl, show Nat.beq (k + 2) 1 = false from rfl, Bool.false_or, Bool.and_eq_true] at hg
    rw [hg.1, hg.2.1]; rfl
theorem rd_con (args : List Value) (ρ : Ren) (args' : List Value) (w : World) (H : Heap) (ha : VRL ρ args args') (hr : Rep ρ H w) : ConGood Try.prog ρ 8 args' w (con1 .u8 rdMk H args) :=
  con1_good (fun n p => by simp [rdMk, r6V, plain, plainL]) rdMk_S (fun p => rd_nil) args ρ args' w H ha hr
end Go.Proofs.Ytkemllgkkngcjaa
namespace Go.Proofs.Ytkemllgkkngcjaa
open Go Go.Ly Go.RowKit
def ctxV : Ctx := ctxB.withC 8 (con1 .u8 rdMk)
theorem ctxV_ok : ctxV.Ok Try.prog := ctxB_ok.withC rd_con
end Go.Proofs.Ytkemllgkkngcjaa
namespace Go.Proofs.Ytkemllgkkngcjaa
open Go Go.Ly Go.RowKit
def wv (k : Nat) (f : Nat → Int) : Rw := Rw.gen k fun i _ => .int .u8 (f (0 + i))
def rW (k : Nat) (f : Nat → Int) : R6 := rd (wv k f).n (wv k f).at
def av (r : R6) : Rw := Rw.gen (lenB r.op r.d r.s) fun i _ => .int .u8 (atB r.op r.d r.s r.n (0 + i))
theorem wh_big (n : Nat) (f : Nat → Int) : (Ly.run ctxV 3000 [(0, true)] (Ly.start Try.f3 [sl 0 n] (mkH [some (ints .u8 f n)]))).out? = some ([(decide (1000 < (n : Int)), true)], .bool true) := by kernel_rfl
theorem wh_nil : (Ly.run ctxV 3000 [] (Ly.start Try.f3 [.slice none 0 0] (mkH []))).out? = some ([], .bool true) := by kernel_rfl
theorem wh_bad (n : Nat) (f : Nat → Int) : (Ly.run ctxV 3000 [(0, false), (0, true), (0, true), (0, true), (2, true)] (Ly.start Try.f3 [sl 0 n] (mkH [some (ints .u8 f n)]))).out? = some ([(decide (1000 < (n : Int)), false), (Nat.ble (0 + n) n && ((wv n f).ints .u8 && (rdMk (wv n f).n (wv n f).at).1), true), ((rW n f).k != 0, true), ((((rW n f).op == 0) && (((rW n f).d == 0) && (((rW n f).s == 0) && (((rW n f).n == 0) && true)))) == true, true), (((rW n f).l == 0) == true, true)], .bool true) := by kernel_rfl
theorem wh_1 (n : Nat) (f : Nat → Int) : (Ly.run ctxV 3000 [(0, false), (0, true), (0, false), (0, true), (0, true), (5, true), (3, true), (1, true), (2, false), (0, true), (3, false)] (Ly.start Try.f3 [sl 0 n] (mkH [some (ints .u8 f n)]))).out? = some ([(decide (1000 < (n : Int)), false), (Nat.ble (0 + n) n && ((wv n f).ints .u8 && (rdMk (wv n f).n (wv n f).at).1), true), ((rW n f).k != 0, false), (inN (rW n f).n, true), (rk (rW n f).op (rW n f).d (rW n f).s (rW n f).n == 0, true), ((decide ((n : Int) < (rW n f).l)) == false, true), (true && (decide (0 ≤ (rW n f).l) && decide ((rW n f).l ≤ (n : Int))), true), (Nat.ble (0 + lenB (rW n f).op (rW n f).d (rW n f).s) (lenB (rW n f).op (rW n f).d (rW n f).s) && (Nat.ble (0 + ((rW n f).l.toNat - 0)) n && ((av (rW n f)).ints .u8 && ((wv ((rW n f).l.toNat - 0) f).ints .u8 && Nat.ble (av (rW n f)).n 9223372036854775807))), true), (!((av (rW n f)).n.beq (wv ((rW n f).l.toNat - 0) f).n && eqU (av (rW n f)).n (av (rW n f)).at (wv ((rW n f).l.toNat - 0) f).at), false), (decide (0 < (rW n f).l), true), (decide (1 < (rW n f).l), false)], .bool true) := by kernel_rfl
theorem wh_2 (n : Nat) (f : Nat → Int) : (Ly.run ctxV 3000 [(0, false), (0, true), (0, false), (0, true), (0, true), (5, true), (3, true), (1, true), (2, false), (0, true), (3, true), (0, true), (0, true), (0, false), (0, false)] (Ly.start Try.f3 [sl 0 n] (mkH [some (ints .u8 f n)]))).out? = some ([(decide (1000 < (n : Int)), false), (Nat.ble (0 + n) n && ((wv n f).ints .u8 && (rdMk (wv n f).n (wv n f).at).1), true), ((rW n f).k != 0, false), (inN (rW n f).n, true), (rk (rW n f).op (rW n f).d (rW n f).s (rW n f).n == 0, true), ((decide ((n : Int) < (rW n f).l)) == false, true), (true && (decide (0 ≤ (rW n f).l) && decide ((rW n f).l ≤ (n : Int))), true), (Nat.ble (0 + lenB (rW n f).op (rW n f).d (rW n f).s) (lenB (rW n f).op (rW n f).d (rW n f).s) && (Nat.ble (0 + ((rW n f).l.toNat - 0)) n && ((av (rW n f)).ints .u8 && ((wv ((rW n f).l.toNat - 0) f).ints .u8 && Nat.ble (av (rW n f)).n 9223372036854775807))), true), (!((av (rW n f)).n.beq (wv ((rW n f).l.toNat - 0) f).n && eqU (av (rW n f)).n (av (rW n f)).at (wv ((rW n f).l.toNat - 0) f).at), false), (decide (0 < (rW n f).l), true), (decide (1 < (rW n f).l), true), (true && (true && decide (1 ≤ (n : Int))), true), (Nat.ble 1 n && (true && (rdMk (wv 1 f).n (wv 1 f).at).1), true), ((rW 1 f).k != 2, false), (decide (2 < (rW n f).l), false)], .bool true) := by kernel_rfl
theorem wh_3 (n : Nat) (f : Nat → Int) : (Ly.run ctxV 3000 [(0, false), (0, true), (0, false), (0, true), (0, true), (5, true), (3, true), (1, true), (2, false), (0, true), (3, true), (0, true), (0, true), (0, false), (0, true), (0, true), (0, true), (0, false), (0, false)] (Ly.start Try.f3 [sl 0 n] (mkH [some (ints .u8 f n)]))).out? = some ([(decide (1000 < (n : Int)), false), (Nat.ble (0 + n) n && ((wv n f).ints .u8 && (rdMk (wv n f).n (wv n f).at).1), true), ((rW n f).k != 0, false), (inN (rW n f).n, true), (rk (rW n f).op (rW n f).d (rW n f).s (rW n f).n == 0, true), ((decide ((n : Int) < (rW n f).l)) == false, true), (true && (decide (0 ≤ (rW n f).l) && decide ((rW n f).l ≤ (n : Int))), true), (Nat.ble (0 + lenB (rW n f).op (rW n f).d (rW n f).s) (lenB (rW n f).op (rW n f).d (rW n f).s) && (Nat.ble (0 + ((rW n f).l.toNat - 0)) n && ((av (rW n f)).ints .u8 && ((wv ((rW n f).l.toNat - 0) f).ints .u8 && Nat.ble (av (rW n f)).n 9223372036854775807))), true), (!((av (rW n f)).n.beq (wv ((rW n f).l.toNat - 0) f).n && eqU (av (rW n f)).n (av (rW n f)).at (wv ((rW n f).l.toNat - 0) f).at), false), (decide (0 < (rW n f).l), true), (decide (1 < (rW n f).l), true), (true && (true && decide (1 ≤ (n : Int))), true), (Nat.ble 1 n && (true && (rdMk (wv 1 f).n (wv 1 f).at).1), true), ((rW 1 f).k != 2, false), (decide (2 < (rW n f).l), true), (true && (true && decide (2 ≤ (n : Int))), true), (Nat.ble 2 n && (true && (rdMk (wv 2 f).n (wv 2 f).at).1), true), ((rW 2 f).k != 2, false), (decide (3 < (rW n f).l), false)], .bool true) := by kernel_rfl
theorem wh_4 (n : Nat) (f : Nat → Int) : (Ly.run ctxV 3000 [(0, false), (0, true), (0, false), (0, true), (0, true), (5, true), (3, true), (1, true), (2, false), (0, true), (3, true), (0, true), (0, true), (0, false), (0, true), (0, true), (0, true), (0, false), (0, true), (0, true), (0, true), (0, false), (0, false)] (Ly.start Try.f3 [sl 0 n] (mkH [some (ints .u8 f n)]))).out? = some ([(decide (1000 < (n : Int)), false), (Nat.ble (0 + n) n && ((wv n f).ints .u8 && (rdMk (wv n f).n (wv n f).at).1), true), ((rW n f).k != 0, false), (inN (rW n f).n, true), (rk (rW n f).op (rW n f).d (rW n f).s (rW n f).n == 0, true), ((decide ((n : Int) < (rW n f).l)) == false, true), (true && (decide (0 ≤ (rW n f).l) && decide ((rW n f).l ≤ (n : Int))), true), (Nat.ble (0 + lenB (rW n f).op (rW n f).d (rW n f).s) (lenB (rW n f).op (rW n f).d (rW n f).s) && (Nat.ble (0 + ((rW n f).l.toNat - 0)) n && ((av (rW n f)).ints .u8 && ((wv ((rW n f).l.toNat - 0) f).ints .u8 && Nat.ble (av (rW n f)).n 9223372036854775807))), true), (!((av (rW n f)).n.beq (wv ((rW n f).l.toNat - 0) f).n && eqU (av (rW n f)).n (av (rW n f)).at (wv ((rW n f).l.toNat - 0) f).at), false), (decide (0 < (rW n f).l), true), (decide (1 < (rW n f).l), true), (true && (true && decide (1 ≤ (n : Int))), true), (Nat.ble 1 n && (true && (rdMk (wv 1 f).n (wv 1 f).at).1), true), ((rW 1 f).k != 2, false), (decide (2 < (rW n f).l), true), (true && (true && decide (2 ≤ (n : Int))), true), (Nat.ble 2 n && (true && (rdMk (wv 2 f).n (wv 2 f).at).1), true), ((rW 2 f).k != 2, false), (decide (3 < (rW n f).l), true), (true && (true && decide (3 ≤ (n : Int))), true), (Nat.ble 3 n && (true && (rdMk (wv 3 f).n (wv 3 f).at).1), true), ((rW 3 f).k != 2, false), (decide (4 < (rW n f).l), false)], .bool true) := by kernel_rfl
theorem gWh : ctxV.fn.get 3 = some Try.f3 := by kernel_rfl
theorem wv_at (k : Nat) (f : Nat → Int) : (wv k f).at = f := by
  funext e
  show intV (.int .u8 (f (0 + e))) = f e
  rw [Nat.zero_add]; rfl
theorem wv_n (k : Nat) (f : Nat → Int) : (wv k f).n = k := rfl
theorem rW_eq (k : Nat) (f : Nat → Int) : rW k f = rd k f := by unfold rW; rw [wv_at]; rfl
theorem gen_u8 (l : Nat) (f : Nat → Int) : (Rw.gen l fun i _ => .int .u8 (f i)).ints .u8 = true := by
  show ((List.range l).all fun e => isK .u8 (.int .u8 (f e))) = true
  rw [List.all_eq_true]; intro e _; rfl
theorem rdG_of {n : Nat} {f : Nat → Int} (hn : n ≤ 1000000) (hB : ∀ e, e < n → byt (f e)) : rdG n f = true := by
  unfold rdG
  have hb : ∀ e, e < n → by1 (f e) = true := fun e he => by1_iff.2 (hB e he)
  match n, hn, hb with
  | 0, _, _ => rfl
  | 1, _, hb => rw [hb 0 (by omega)]; rfl
  | k + 2, hn, hb =>
    rw [hb 0 (by omega), hb 1 (by omega)]
    have : Nat.ble (k + 2) 9223372036854775807 = true := by rw [Nat.ble_eq]; omega
    rw [this, Bool.true_and, Bool.true_and, Bool.or_true, Bool.or_true]
theorem ble_t {a b : Nat} (h : a ≤ b) : Nat.ble a b = true := by rw [Nat.ble_eq]; exact h
theorem whole_run (n : Nat) (f : Nat → Int) (hB : ∀ e, e < n → byt (f e)) : LCalls Try.prog 3 [sl 0 n] (mkH [some (ints .u8 f n)]) (fun u _ => u = .bool true) := by
  by_cases hn : 1000 < n
  · exact LCalls_trust ctxV_ok 3000 _ gWh (by kernel_rfl) (wh_big n f) ⟨decide_eq_true (by omega), trivial⟩
  have g1 : decide (1000 < (n : Int)) = false := decide_eq_false (by omega)
  have g2 : ∀ c, c ≤ n → (rdMk (wv c f).n (wv c f).at).1 = true := fun c hc => by
    show rdG (wv c f).n (wv c f).at = true
    rw [wv_at, wv_n]; exact rdG_of (by omega) fun e he => hB e (by omega)
  have g3 : (Nat.ble (0 + n) n && ((wv n f).ints .u8 && (rdMk (wv n f).n (wv n f).at).1)) = true := by
    rw [ble_t (show 0 + n ≤ n by omega), g2 n (Nat.le_refl n), show (wv n f).ints .u8 = true from gen_u8 n fun i => f (0 + i)]; rfl
  have gc : ∀ c, 1 ≤ c → c ≤ n → (true && (true && decide ((c : Int) ≤ (n : Int)))) = true ∧ (Nat.ble c n && (true && (rdMk (wv c f).n (wv c f).at).1)) = true := fun c h0 hc => by
    rw [g2 c hc, ble_t hc, Bool.true_and, Bool.true_and]
    exact ⟨decide_eq_true (by omega), rfl⟩
  have hbad : ∀ r : R6, r = rS ∨ r = rF → rd n f = r → LCalls Try.prog 3 [sl 0 n] (mkH [some (ints .u8 f n)]) (fun u _ => u = .bool true) := fun r hr e => by
    refine LCalls_trust ctxV_ok 3000 _ gWh (by kernel_rfl) (wh_bad n f) ?_
    have e' : rW n f = r := (rW_eq n f).trans e
    rw [e']
    rcases hr with rfl | rfl <;> exact ⟨g1, g3, rfl, rfl, rfl, trivial⟩
  rcases rd_or n f with h | h | ⟨T, Fi, h⟩
  · exact hbad _ (.inl rfl) h
  · exact hbad _ (.inr rfl) h
  have e : rW n f = rdT T f := (rW_eq n f).trans h
  obtain ⟨k0, k1, k2, k3⟩ := fit_rim Fi hB
  have hle := Fi.le
  have hp := lenB_le T.op T.d T.s
  have eop : (rdT T f).op = T.op := rfl
  have ed : (rdT T f).d = T.d := rfl
  have es : (rdT T f).s = T.s := rfl
  have en : (rdT T f).n = rimT T f := rfl
  have el : (rdT T f).l = (lenB T.op T.d T.s : Int) := rfl
  have ek : (rdT T f).k = 0 := rfl
  have c1 : ((rdT T f).k != 0) = false := rfl
  have c2 : inN (rdT T f).n = true := by rw [en]; simp only [inN, Bool.and_eq_true, decide_eq_true_eq]; omega
  have c3 : (rk (rdT T f).op (rdT T f).d (rdT T f).s (rdT T f).n == 0) = true := by rw [eop, ed, es, en, k2]; rfl
  have c4 : ((decide ((n : Int) < (rdT T f).l)) == false) = true := by
    rw [el, decide_eq_false (show ¬ ((n : Int) < (lenB T.op T.d T.s : Int)) by omega)]; rfl
  have c5 : (true && (decide (0 ≤ (rdT T f).l) && decide ((rdT T f).l ≤ (n : Int)))) = true := by
    rw [el, decide_eq_true (show (0 : Int) ≤ (lenB T.op T.d T.s : Int) by omega), decide_eq_true (show (lenB T.op T.d T.s : Int) ≤ (n : Int) by omega)]; rfl
  have ln : (rdT T f).l.toNat - 0 = lenB T.op T.d T.s := by rw [el]; omega
  have an : (av (rdT T f)).n = lenB T.op T.d T.s := rfl
  have ai : (av (rdT T f)).ints .u8 = true := gen_u8 _ fun i => atB (rdT T f).op (rdT T f).d (rdT T f).s (rdT T f).n (0 + i)
  have aa : ∀ i, (av (rdT T f)).at i = atB T.op T.d T.s (rimT T f) i := fun i => by
    show intV (.int .u8 (atB T.op T.d T.s (rimT T f) (0 + i))) = _
    rw [Nat.zero_add]; rfl
  have wi : ∀ c, (wv c f).ints .u8 = true := fun c => gen_u8 c fun i => f (0 + i)
  have c6 : (Nat.ble (0 + lenB (rdT T f).op (rdT T f).d (rdT T f).s) (lenB (rdT T f).op (rdT T f).d (rdT T f).s) && (Nat.ble (0 + ((rdT T f).l.toNat - 0)) n && ((av (rdT T f)).ints .u8 && ((wv ((rdT T f).l.toNat - 0) f).ints .u8 && Nat.ble (av (rdT T f)).n 9223372036854775807)))) = true := by
    rw [ln, eop, ed, es, ai, wi, an, ble_t (show 0 + lenB T.op T.d T.s ≤ lenB T.op T.d T.s by omega), ble_t (show 0 + lenB T.op T.d T.s ≤ n by omega), ble_t (show lenB T.op T.d T.s ≤ 9223372036854775807 by omega)]; rfl
  have c7 : (!((av (rdT T f)).n.beq (wv ((rdT T f).l.toNat - 0) f).n && eqU (av (rdT T f)).n (av (rdT T f)).at (wv ((rdT T f).l.toNat - 0) f).at)) = false := by
    rw [ln, wv_at, wv_n, an, Nat.beq_refl, eqU_true fun i hi => by rw [aa, k3 i hi]]; rfl
  have c8 : ∀ c : Nat, 1 ≤ c → c < lenB T.op T.d T.s → ((rW c f).k != 2) = false := fun c h0 hc => by
    rw [rW_eq, fit_cut Fi hB h0 hc]; rfl
  have lt : ∀ c : Int, c < (lenB T.op T.d T.s : Int) → decide (c < (rdT T f).l) = true := fun c h => decide_eq_true h
  have nl : ∀ c : Int, ¬ c < (lenB T.op T.d T.s : Int) → decide (c < (rdT T f).l) = false := fun c h => decide_eq_false h
  have hl : lenB T.op T.d T.s = 1 ∨ lenB T.op T.d T.s = 2 ∨ lenB T.op T.d T.s = 3 ∨ lenB T.op T.d T.s = 4 := by omega
  rcases hl with hl | hl | hl | hl
  · refine LCalls_trust ctxV_ok 3000 _ gWh (by kernel_rfl) (wh_1 n f) ?_
    rw [e]
    exact ⟨g1, g3, c1, c2, c3, c4, c5, c6, c7, lt 0 (by omega), nl 1 (by omega), trivial⟩
  · refine LCalls_trust ctxV_ok 3000 _ gWh (by kernel_rfl) (wh_2 n f) ?_
    rw [e]
    exact ⟨g1, g3, c1, c2, c3, c4, c5, c6, c7, lt 0 (by omega), lt 1 (by omega), (gc 1 (by omega) (by omega)).1, (gc 1 (by omega) (by omega)).2, c8 1 (by omega) (by omega), nl 2 (by omega), trivial⟩
  · refine LCalls_trust ctxV_ok 3000 _ gWh (by kernel_rfl) (wh_3 n f) ?_
    rw [e]
    exact ⟨g1, g3, c1, c2, c3, c4, c5, c6, c7, lt 0 (by omega), lt 1 (by omega), (gc 1 (by omega) (by omega)).1, (gc 1 (by omega) (by omega)).2, c8 1 (by omega) (by omega), lt 2 (by omega), (gc 2 (by omega) (by omega)).1, (gc 2 (by omega) (by omega)).2, c8 2 (by omega) (by omega), nl 3 (by omega), trivial⟩
  · refine LCalls_trust ctxV_ok 3000 _ gWh (by kernel_rfl) (wh_4 n f) ?_
    rw [e]
    exact ⟨g1, g3, c1, c2, c3, c4, c5, c6, c7, lt 0 (by omega), lt 1 (by omega), (gc 1 (by omega) (by omega)).1, (gc 1 (by omega) (by omega)).2, c8 1 (by omega) (by omega), lt 2 (by omega), (gc 2 (by omega) (by omega)).1, (gc 2 (by omega) (by omega)).2, c8 2 (by omega) (by omega), lt 3 (by omega), (gc 3 (by omega) (by omega)).1, (gc 3 (by omega) (by omega)).2, c8 3 (by omega) (by omega), nl 4 (by omega), trivial⟩
theorem whole_nil : LCalls Try.prog 3 [.slice none 0 0] (mkH []) (fun u _ => u = .bool true) :=
  LCalls_trust ctxV_ok 3000 [] gWh (by kernel_rfl) wh_nil trivial
theorem whole_walk (W : World) (v0 : Value) (h0 : CkOk W (.slice [.int .u8]) v0) : Calls Try.prog 3 #[v0] W fun e W' => e = .returned (.bool true) ∧ Below W.heap.size W W' := by
  rcases ck_row h0 with rfl | ⟨m, f, p, hr, hf, _⟩
  · exact calls_plain (plainL_VR _ (by simp [plain, plainL])) (fun ρ v' h => plain_eq (by simp [plain]) h) whole_nil W
  · exact calls_row (args := []) (whole_run m f (fun e he => bounds_u8 (hf e he))) (by simp [plain]) (by simp [plainL]) hr
end Go.Proofs.Ytkemllgkkngcjaa
end
