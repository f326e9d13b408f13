/- The flags of a result, 8 and 16 bits wide: a contract. -/
import Derived.Test.YtnknopebjdgdjaaWd
import Derived.Test.YtnknopebjdgdjaaLyX
import Derived.KernelRfl
import Derived.Laws.BitsLemmas
import Derived.Laws.BitsAllLaws
namespace Go.Proofs.Ytnknopebjdgdjaa
open Go Go.Ly Go.RowKit
set_option linter.unusedVariables false
set_option linter.unusedSimpArgs false
theorem wraps_u16 (n : Int) (h₀ : 0 ≤ n) (h₁ : n < 2 ^ 16) : IntKind.u16.wrap n = n := by rw [IntKind.wrap_u16]; omega
theorem wraps_u32 (n : Int) (h₀ : 0 ≤ n) (h₁ : n < 2 ^ 32) : IntKind.u32.wrap n = n := by rw [IntKind.wrap_u32]; omega
theorem u16_and255 (x : Int) (h₀ : 0 ≤ x) (h₁ : x < 65536) : bits .and .u16 x 255 = x % 256 := bits_mask .u16 16 (by decide) wraps_u16 8 (by decide) x h₀ h₁
theorem u16_and65535 (x : Int) (h₀ : 0 ≤ x) (h₁ : x < 65536) : bits .and .u16 x 65535 = x := by
  have := bits_mask .u16 16 (by decide) wraps_u16 16 (by decide) x h₀ h₁
  rw [show bits .and .u16 x 65535 = x % 2 ^ 16 from this]; omega
theorem u32_and1 (x : Int) (h₀ : 0 ≤ x) (h₁ : x < 4294967296) : bits .and .u32 x 1 = x % 2 := bits_mask .u32 32 (by decide) wraps_u32 1 (by decide) x h₀ h₁
theorem u32_and15 (x : Int) (h₀ : 0 ≤ x) (h₁ : x < 4294967296) : bits .and .u32 x 15 = x % 16 := bits_mask .u32 32 (by decide) wraps_u32 4 (by decide) x h₀ h₁
theorem nat_and_pow (x i : Nat) : x &&& 2 ^ i = x / 2 ^ i % 2 * 2 ^ i := by
  apply Nat.eq_of_testBit_eq; intro j
  have hb : x.testBit i = decide (x / 2 ^ i % 2 = 1) := by rw [Nat.testBit_eq_decide_div_mod_eq]
  rw [Nat.testBit_and, Nat.testBit_two_pow]
  rcases Nat.mod_two_eq_zero_or_one (x / 2 ^ i) with h | h
  · rw [h, Nat.zero_mul, Nat.zero_testBit]
    by_cases hij : i = j
    · subst hij; rw [hb, h]; rfl
    · simp [hij]
  · rw [h, Nat.one_mul, Nat.testBit_two_pow]
    by_cases hij : i = j
    · subst hij; rw [hb, h]; rfl
    · simp [hij]
theorem u16_bit7 (x : Int) (h₀ : 0 ≤ x) (h₁ : x < 256) : (bits .and .u16 x 128 != 0) = decide (128 ≤ x) := by
  obtain ⟨n, rfl⟩ := Int.eq_ofNat_of_zero_le h₀
  have := u16_and_nat n 128 (by omega) (by omega)
  rw [show ((128 : Nat) : Int) = 128 from rfl] at this
  rw [this, show (128 : Nat) = 2 ^ 7 from rfl, nat_and_pow, Bool.eq_iff_iff]
  simp only [bne_iff_ne, ne_eq, decide_eq_true_eq]
  omega
theorem u16_bit15 (x : Int) (h₀ : 0 ≤ x) (h₁ : x < 65536) : (bits .and .u16 x 32768 != 0) = decide (32768 ≤ x) := by
  obtain ⟨n, rfl⟩ := Int.eq_ofNat_of_zero_le h₀
  have := u16_and_nat n 32768 (by omega) (by omega)
  rw [show ((32768 : Nat) : Int) = 32768 from rfl] at this
  rw [this, show (32768 : Nat) = 2 ^ 15 from rfl, nat_and_pow, Bool.eq_iff_iff]
  simp only [bne_iff_ne, ne_eq, decide_eq_true_eq]
  omega
noncomputable def flags8 (n : Int) (x : Bool) : Value := .tuple ⟨[.int .u16 (n % 256), .agg ⟨[.bool (decide (128 ≤ n % 256)), .bool (n % 256 == 0), .bool x, .bool (par (n % 256)), .bool (n / 256 % 2 == 1)]⟩]⟩
noncomputable def flags16 (n : Int) (x : Bool) : Value := .tuple ⟨[.int .u16 (n % 65536), .agg ⟨[.bool (decide (32768 ≤ n % 65536)), .bool (n % 65536 == 0), .bool x, .bool (par (n % 256)), .bool (n / 65536 % 2 == 1)]⟩]⟩
noncomputable def in32 (n : Int) : Bool := decide (0 ≤ n) && decide (n < 4294967296)
noncomputable def flagsC (l : List Value) : Option (Bool × Value) := match l with
  | [.int .u64 w, .int .u32 n, .bool x] => some ((w == 8 || w == 16) && in32 n, bif w == 8 then flags8 n x else flags16 n x)
  | _ => none
theorem gF80 : wctx.fn.get 80 = some Try.f80 := by kernel_rfl
theorem f8R (n : Int) (x : Bool) : (Ly.run wctx 600 [(2, true)] (Ly.start Try.f80 [.int .u64 8, .int .u32 n, .bool x] H0)).out? = some ([(inb (IntKind.u8.wrap (bits BinOp.and IntKind.u16 (IntKind.u16.wrap n) 255)), true)],
  .tuple ⟨[.int .u16 (bits BinOp.and IntKind.u16 (IntKind.u16.wrap n) 255), .agg ⟨[.bool (bits BinOp.and IntKind.u16 (bits BinOp.and IntKind.u16 (IntKind.u16.wrap n) 255) 128 != 0), .bool (bits BinOp.and IntKind.u16 (IntKind.u16.wrap n) 255 == 0), .bool x,
    .bool (par (IntKind.u8.wrap (bits BinOp.and IntKind.u16 (IntKind.u16.wrap n) 255))), .bool (bits BinOp.and IntKind.u32 (n.fdiv 256) 1 == 1)]⟩]⟩) := by kernel_rfl
theorem f16R (n : Int) (x : Bool) : (Ly.run wctx 600 [(2, true)] (Ly.start Try.f80 [.int .u64 16, .int .u32 n, .bool x] H0)).out? = some ([(inb (IntKind.u8.wrap (bits BinOp.and IntKind.u16 (IntKind.u16.wrap n) 65535)), true)],
  .tuple ⟨[.int .u16 (bits BinOp.and IntKind.u16 (IntKind.u16.wrap n) 65535), .agg ⟨[.bool (bits BinOp.and IntKind.u16 (bits BinOp.and IntKind.u16 (IntKind.u16.wrap n) 65535) 32768 != 0), .bool (bits BinOp.and IntKind.u16 (IntKind.u16.wrap n) 65535 == 0), .bool x,
    .bool (par (IntKind.u8.wrap (bits BinOp.and IntKind.u16 (IntKind.u16.wrap n) 65535))), .bool (bits BinOp.and IntKind.u32 (n.fdiv 65536) 1 == 1)]⟩]⟩) := by kernel_rfl
theorem fdivp (n m : Int) (hm : 0 ≤ m) : n.fdiv m = n / m := Int.fdiv_eq_ediv_of_nonneg n hm
theorem flags_ans : Answers Try.prog 80 flagsC := by
  intro args g v h hg
  unfold flagsC at h
  split at h
  · rename_i w n x
    simp only [Option.some.injEq, Prod.mk.injEq] at h
    obtain ⟨rfl, rfl⟩ := h
    simp only [Bool.and_eq_true, Bool.or_eq_true, beq_iff_eq, in32, decide_eq_true_eq] at hg
    obtain ⟨hw, h0, h1⟩ := hg
    have e1 : IntKind.u16.wrap n = n % 65536 := IntKind.wrap_u16 n
    rcases hw with rfl | rfl
    · have e2 : bits BinOp.and IntKind.u16 (IntKind.u16.wrap n) 255 = n % 256 := by rw [e1, u16_and255 _ (by omega) (by omega)]; omega
      have e3 : bits BinOp.and IntKind.u32 (n.fdiv 256) 1 = n / 256 % 2 := by rw [fdivp _ _ (by omega), u32_and1 _ (by omega) (by omega)]
      have e4 : IntKind.u8.wrap (n % 256) = n % 256 := by rw [IntKind.wrap_u8']; omega
      have hr := f8R n x
      rw [e2, e3, e4, u16_bit7 _ (by omega) (by omega)] at hr
      refine ⟨by simp [plain, plainL], by simp [plain, plainL, flags8], fun w => ?_⟩
      exact calls_trust wok 600 _ gF80 (by kernel_rfl) (by simp [plain, plainL]) (by simp [plain, plainL]) hr ⟨(inb_iff _).2 (by omega), trivial⟩ w
    · have e2 : bits BinOp.and IntKind.u16 (IntKind.u16.wrap n) 65535 = n % 65536 := by rw [e1, u16_and65535 _ (by omega) (by omega)]
      have e3 : bits BinOp.and IntKind.u32 (n.fdiv 65536) 1 = n / 65536 % 2 := by rw [fdivp _ _ (by omega), u32_and1 _ (by omega) (by omega)]
      have e4 : IntKind.u8.wrap (n % 65536) = n % 256 := by rw [IntKind.wrap_u8']; omega
      have hr := f16R n x
      rw [e2, e3, e4, u16_bit15 _ (by omega) (by omega)] at hr
      refine ⟨by simp [plain, plainL], by simp [plain, plainL, flags16], fun w => ?_⟩
      exact calls_trust wok 600 _ gF80 (by kernel_rfl) (by simp [plain, plainL]) (by simp [plain, plainL]) hr ⟨(inb_iff _).2 (by omega), trivial⟩ w
  · cases h
noncomputable def yctx : Ctx := xctx.with 80 flagsC
theorem yok : yctx.Ok Try.prog := xok.with flags_ans
end Go.Proofs.Ytnknopebjdgdjaa
