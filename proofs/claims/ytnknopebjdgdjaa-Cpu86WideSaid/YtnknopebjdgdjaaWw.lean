/- Cpu86Wide: the tests come out; the walk. By program (genw.py). -/
import Derived.Test.YtnknopebjdgdjaaWr
import Derived.Test.YtnknopebjdgdjaaE8
namespace Go.Proofs.Ytnknopebjdgdjaa
open Go Go.Ly Go.RowKit
set_option linter.unusedVariables false
set_option linter.unusedSimpArgs false
theorem nat_or_hi (x y : Nat) (h : x < 256) : x ||| y * 256 = x + y * 256 := by
  rw [Nat.or_comm, Nat.mul_comm, show (256 : Nat) = 2 ^ 8 from rfl, ← Nat.two_pow_add_eq_or_of_lt (by omega) y]; omega
/-- a word's high byte is set -/
theorem high_set (a y : Int) (h0 : 0 ≤ a) (h1 : a < 65536) (h2 : 0 ≤ y) (h3 : y < 256) : bits .or .u16 (bits .andNot .u16 a 65280) (y * 256) = a % 256 + y * 256 := by
  obtain ⟨n, rfl⟩ := Int.eq_ofNat_of_zero_le h0
  obtain ⟨k, rfl⟩ := Int.eq_ofNat_of_zero_le h2
  have e := u16_andNot_nat n 65280 (by omega) (by omega)
  rw [show (65535 - 65280 : Nat) = 2 ^ 8 - 1 from rfl, Nat.and_two_pow_sub_one_eq_mod] at e
  rw [show ((65280 : Nat) : Int) = 65280 from rfl] at e
  rw [e]
  have e2 := u16_or_nat (n % 2 ^ 8) (k * 256) (by omega) (by omega)
  rw [nat_or_hi _ _ (by omega)] at e2
  rw [show ((k * 256 : Nat) : Int) = (k : Int) * 256 by omega] at e2
  rw [e2]; omega
theorem lowm (m q : Int) (h0 : 0 ≤ m) (h1 : m ≤ 65535) : bits .or .u16 (bits .andNot .u16 m 255) (q % 256) = m / 256 * 256 + q % 256 := low_set m _ h0 (by omega) (by omega) (by omega)
theorem highm (m q r : Int) (h0 : 0 ≤ m) (h1 : m ≤ 65535) : bits .or .u16 (bits .andNot .u16 (m / 256 * 256 + q % 256) 65280) (IntKind.u16.wrap (IntKind.u16.wrap (IntKind.u8.wrap (r % 256)) * 256)) = q % 256 + r % 256 * 256 := by
  have e : IntKind.u16.wrap (IntKind.u16.wrap (IntKind.u8.wrap (r % 256)) * 256) = r % 256 * 256 := by rw [IntKind.wrap_u8', IntKind.wrap_u16, IntKind.wrap_u16]; omega
  rw [e, high_set _ _ (by omega) (by omega) (by omega) (by omega)]; omega
theorem hib (m q : Int) (h0 : 0 ≤ m) (h1 : m ≤ 65535) : IntKind.u16.wrap (IntKind.u8.wrap ((m / 256 * 256 + q % 256).fdiv 256)) = m / 256 := by
  rw [fdivp _ _ (by omega), IntKind.wrap_u8', IntKind.wrap_u16]; omega
theorem hb0 (m : Int) (h0 : 0 ≤ m) (h1 : m ≤ 65535) : IntKind.u16.wrap (IntKind.u8.wrap (m.fdiv 256)) = m / 256 := by
  rw [fdivp _ _ (by omega), IntKind.wrap_u8', IntKind.wrap_u16]; omega
theorem lb0 (m : Int) : IntKind.u16.wrap (IntKind.u8.wrap m) = m % 256 := by
  rw [IntKind.wrap_u8', IntKind.wrap_u16]; omega
theorem g9 : ctxX.fn.get 9 = some Try.f9 := by kernel_rfl
theorem says9 {m n : Int} {l s z x p c : Bool} {t : List (Bool × Bool)} (q : Path) (h : (Ly.run ctxX 20000 q (Ly.start Try.f9 [.int .u16 m, .int .u16 n, .bool l, .agg ⟨[.bool s, .bool z, .bool x, .bool p, .bool c]⟩] H0)).out? = some (t, .bool true)) (ht : trusted t) (W : World) :
    Calls Try.prog 9 ⟨[.int .u16 m, .int .u16 n, .bool l, .agg ⟨[.bool s, .bool z, .bool x, .bool p, .bool c]⟩]⟩ W (fun e W' => e = .returned (.bool true) ∧ Below W.heap.size W W') :=
  calls_trust ctxX_ok 20000 q g9 (by kernel_rfl) (by simp [plain, plainL]) (by simp [plain]) h ht W
theorem t9_ftt (m n : Int) (s z x p : Bool) (h0 : 0 ≤ m) (h1 : m ≤ 65535) (h2 : 0 ≤ n) (h3 : n ≤ 65535) (hk : ((IntKind.u32.wrap (IntKind.u32.wrap (m % 256 + n % 256) + 0)) / 256 % 2 == 1) = true) (W : World) :
    Calls Try.prog 9 ⟨[.int .u16 m, .int .u16 n, .bool false, .agg ⟨[.bool s, .bool z, .bool x, .bool p, .bool true]⟩]⟩ W (fun e W' => e = .returned (.bool true) ∧ Below W.heap.size W W') := by
  refine says9 _ (w9_ftt m n s z x p true) ?_ W
  have wm : IntKind.u32.wrap m = m := w32 m h0 (by omega)
  have wn : IntKind.u32.wrap n = n := w32 n h2 (by omega)
  have wm2 : IntKind.u32.wrap (m % 256) = m % 256 := w32 _ (by omega) (by omega)
  have wn2 : IntKind.u32.wrap (n % 256) = n % 256 := w32 _ (by omega) (by omega)
  have wm3 : IntKind.u32.wrap (m / 256) = m / 256 := w32 _ (by omega) (by omega)
  have wn3 : IntKind.u32.wrap (n / 256) = n / 256 := w32 _ (by omega) (by omega)
  have i1 : in32 (IntKind.u32.wrap (IntKind.u32.wrap (m + n) + 0)) = true := by simp only [in32, IntKind.wrap_u32, Bool.and_eq_true, decide_eq_true_eq]; omega
  have i2 : in32 (IntKind.u32.wrap (IntKind.u32.wrap (m % 256 + n % 256) + 0)) = true := by simp only [in32, IntKind.wrap_u32, Bool.and_eq_true, decide_eq_true_eq]; omega
  have i3 : in32 (IntKind.u32.wrap (IntKind.u32.wrap (m / 256 + n / 256) + 1)) = true := by simp only [in32, IntKind.wrap_u32, Bool.and_eq_true, decide_eq_true_eq]; omega
  have hk' : ((IntKind.u32.wrap (IntKind.u32.wrap (m % 256 + n % 256) + 0)) / 256 % 2 = 1) := by simpa using hk
  simp only [IntKind.wrap_u32] at hk'
  have f1 : (IntKind.u32.wrap (IntKind.u32.wrap (m + n) + 0)) % 65536 = (IntKind.u32.wrap (IntKind.u32.wrap (m % 256 + n % 256) + 0)) % 256 + (IntKind.u32.wrap (IntKind.u32.wrap (m / 256 + n / 256) + 1)) % 256 * 256 := by simp only [IntKind.wrap_u32]; omega
  have f2 : ((IntKind.u32.wrap (IntKind.u32.wrap (m + n) + 0)) / 65536 % 2 == 1) = ((IntKind.u32.wrap (IntKind.u32.wrap (m / 256 + n / 256) + 1)) / 256 % 2 == 1) := by rw [Bool.eq_iff_iff]; simp only [beq_iff_eq, IntKind.wrap_u32]; omega
  have f3 : decide (32768 ≤ (IntKind.u32.wrap (IntKind.u32.wrap (m % 256 + n % 256) + 0)) % 256 + (IntKind.u32.wrap (IntKind.u32.wrap (m / 256 + n / 256) + 1)) % 256 * 256) = decide (128 ≤ (IntKind.u32.wrap (IntKind.u32.wrap (m / 256 + n / 256) + 1)) % 256) := by rw [decide_eq_decide]; omega
  have ff : (false == true) = false := rfl
  have tt : (true == true) = true := rfl
  simp only [Int.fdiv_one, lb0 m, lb0 n, hb0 n h2 h3, hb0 m h0 h1, hib m _ h0 h1, lowm m _ h0 h1, highm m _ _ h0 h1, wy, Int.mul_one, wm, wn, wm2, wn2, wm3, wn3, i1, i2, i3, f1, f2, f3, hk, ff, tt, trusted, Bool.true_and, Bool.and_self, true_and, and_true, Bool.and_true, beq_self_eq_true]
theorem t9_ftf (m n : Int) (s z x p : Bool) (h0 : 0 ≤ m) (h1 : m ≤ 65535) (h2 : 0 ≤ n) (h3 : n ≤ 65535) (hk : ((IntKind.u32.wrap (IntKind.u32.wrap (m % 256 + n % 256) + 0)) / 256 % 2 == 1) = false) (W : World) :
    Calls Try.prog 9 ⟨[.int .u16 m, .int .u16 n, .bool false, .agg ⟨[.bool s, .bool z, .bool x, .bool p, .bool true]⟩]⟩ W (fun e W' => e = .returned (.bool true) ∧ Below W.heap.size W W') := by
  refine says9 _ (w9_ftf m n s z x p true) ?_ W
  have wm : IntKind.u32.wrap m = m := w32 m h0 (by omega)
  have wn : IntKind.u32.wrap n = n := w32 n h2 (by omega)
  have wm2 : IntKind.u32.wrap (m % 256) = m % 256 := w32 _ (by omega) (by omega)
  have wn2 : IntKind.u32.wrap (n % 256) = n % 256 := w32 _ (by omega) (by omega)
  have wm3 : IntKind.u32.wrap (m / 256) = m / 256 := w32 _ (by omega) (by omega)
  have wn3 : IntKind.u32.wrap (n / 256) = n / 256 := w32 _ (by omega) (by omega)
  have i1 : in32 (IntKind.u32.wrap (IntKind.u32.wrap (m + n) + 0)) = true := by simp only [in32, IntKind.wrap_u32, Bool.and_eq_true, decide_eq_true_eq]; omega
  have i2 : in32 (IntKind.u32.wrap (IntKind.u32.wrap (m % 256 + n % 256) + 0)) = true := by simp only [in32, IntKind.wrap_u32, Bool.and_eq_true, decide_eq_true_eq]; omega
  have i3 : in32 (IntKind.u32.wrap (IntKind.u32.wrap (m / 256 + n / 256) + 0)) = true := by simp only [in32, IntKind.wrap_u32, Bool.and_eq_true, decide_eq_true_eq]; omega
  have hk' : ¬ ((IntKind.u32.wrap (IntKind.u32.wrap (m % 256 + n % 256) + 0)) / 256 % 2 = 1) := by simpa using hk
  simp only [IntKind.wrap_u32] at hk'
  have f1 : (IntKind.u32.wrap (IntKind.u32.wrap (m + n) + 0)) % 65536 = (IntKind.u32.wrap (IntKind.u32.wrap (m % 256 + n % 256) + 0)) % 256 + (IntKind.u32.wrap (IntKind.u32.wrap (m / 256 + n / 256) + 0)) % 256 * 256 := by simp only [IntKind.wrap_u32]; omega
  have f2 : ((IntKind.u32.wrap (IntKind.u32.wrap (m + n) + 0)) / 65536 % 2 == 1) = ((IntKind.u32.wrap (IntKind.u32.wrap (m / 256 + n / 256) + 0)) / 256 % 2 == 1) := by rw [Bool.eq_iff_iff]; simp only [beq_iff_eq, IntKind.wrap_u32]; omega
  have f3 : decide (32768 ≤ (IntKind.u32.wrap (IntKind.u32.wrap (m % 256 + n % 256) + 0)) % 256 + (IntKind.u32.wrap (IntKind.u32.wrap (m / 256 + n / 256) + 0)) % 256 * 256) = decide (128 ≤ (IntKind.u32.wrap (IntKind.u32.wrap (m / 256 + n / 256) + 0)) % 256) := by rw [decide_eq_decide]; omega
  have ff : (false == true) = false := rfl
  have tt : (true == true) = true := rfl
  simp only [Int.fdiv_one, lb0 m, lb0 n, hb0 n h2 h3, hb0 m h0 h1, hib m _ h0 h1, lowm m _ h0 h1, highm m _ _ h0 h1, wy, Int.mul_one, wm, wn, wm2, wn2, wm3, wn3, i1, i2, i3, f1, f2, f3, hk, ff, tt, trusted, Bool.true_and, Bool.and_self, true_and, and_true, Bool.and_true, beq_self_eq_true]
theorem t9_fft (m n : Int) (s z x p : Bool) (h0 : 0 ≤ m) (h1 : m ≤ 65535) (h2 : 0 ≤ n) (h3 : n ≤ 65535) (hk : ((IntKind.u32.wrap (IntKind.u32.wrap (m % 256 + n % 256) + 0)) / 256 % 2 == 1) = true) (W : World) :
    Calls Try.prog 9 ⟨[.int .u16 m, .int .u16 n, .bool false, .agg ⟨[.bool s, .bool z, .bool x, .bool p, .bool false]⟩]⟩ W (fun e W' => e = .returned (.bool true) ∧ Below W.heap.size W W') := by
  refine says9 _ (w9_fft m n s z x p false) ?_ W
  have wm : IntKind.u32.wrap m = m := w32 m h0 (by omega)
  have wn : IntKind.u32.wrap n = n := w32 n h2 (by omega)
  have wm2 : IntKind.u32.wrap (m % 256) = m % 256 := w32 _ (by omega) (by omega)
  have wn2 : IntKind.u32.wrap (n % 256) = n % 256 := w32 _ (by omega) (by omega)
  have wm3 : IntKind.u32.wrap (m / 256) = m / 256 := w32 _ (by omega) (by omega)
  have wn3 : IntKind.u32.wrap (n / 256) = n / 256 := w32 _ (by omega) (by omega)
  have i1 : in32 (IntKind.u32.wrap (IntKind.u32.wrap (m + n) + 0)) = true := by simp only [in32, IntKind.wrap_u32, Bool.and_eq_true, decide_eq_true_eq]; omega
  have i2 : in32 (IntKind.u32.wrap (IntKind.u32.wrap (m % 256 + n % 256) + 0)) = true := by simp only [in32, IntKind.wrap_u32, Bool.and_eq_true, decide_eq_true_eq]; omega
  have i3 : in32 (IntKind.u32.wrap (IntKind.u32.wrap (m / 256 + n / 256) + 1)) = true := by simp only [in32, IntKind.wrap_u32, Bool.and_eq_true, decide_eq_true_eq]; omega
  have hk' : ((IntKind.u32.wrap (IntKind.u32.wrap (m % 256 + n % 256) + 0)) / 256 % 2 = 1) := by simpa using hk
  simp only [IntKind.wrap_u32] at hk'
  have f1 : (IntKind.u32.wrap (IntKind.u32.wrap (m + n) + 0)) % 65536 = (IntKind.u32.wrap (IntKind.u32.wrap (m % 256 + n % 256) + 0)) % 256 + (IntKind.u32.wrap (IntKind.u32.wrap (m / 256 + n / 256) + 1)) % 256 * 256 := by simp only [IntKind.wrap_u32]; omega
  have f2 : ((IntKind.u32.wrap (IntKind.u32.wrap (m + n) + 0)) / 65536 % 2 == 1) = ((IntKind.u32.wrap (IntKind.u32.wrap (m / 256 + n / 256) + 1)) / 256 % 2 == 1) := by rw [Bool.eq_iff_iff]; simp only [beq_iff_eq, IntKind.wrap_u32]; omega
  have f3 : decide (32768 ≤ (IntKind.u32.wrap (IntKind.u32.wrap (m % 256 + n % 256) + 0)) % 256 + (IntKind.u32.wrap (IntKind.u32.wrap (m / 256 + n / 256) + 1)) % 256 * 256) = decide (128 ≤ (IntKind.u32.wrap (IntKind.u32.wrap (m / 256 + n / 256) + 1)) % 256) := by rw [decide_eq_decide]; omega
  have ff : (false == true) = false := rfl
  have tt : (true == true) = true := rfl
  simp only [Int.fdiv_one, lb0 m, lb0 n, hb0 n h2 h3, hb0 m h0 h1, hib m _ h0 h1, lowm m _ h0 h1, highm m _ _ h0 h1, wy, Int.mul_one, wm, wn, wm2, wn2, wm3, wn3, i1, i2, i3, f1, f2, f3, hk, ff, tt, trusted, Bool.true_and, Bool.and_self, true_and, and_true, Bool.and_true, beq_self_eq_true]
theorem t9_fff (m n : Int) (s z x p : Bool) (h0 : 0 ≤ m) (h1 : m ≤ 65535) (h2 : 0 ≤ n) (h3 : n ≤ 65535) (hk : ((IntKind.u32.wrap (IntKind.u32.wrap (m % 256 + n % 256) + 0)) / 256 % 2 == 1) = false) (W : World) :
    Calls Try.prog 9 ⟨[.int .u16 m, .int .u16 n, .bool false, .agg ⟨[.bool s, .bool z, .bool x, .bool p, .bool false]⟩]⟩ W (fun e W' => e = .returned (.bool true) ∧ Below W.heap.size W W') := by
  refine says9 _ (w9_fff m n s z x p false) ?_ W
  have wm : IntKind.u32.wrap m = m := w32 m h0 (by omega)
  have wn : IntKind.u32.wrap n = n := w32 n h2 (by omega)
  have wm2 : IntKind.u32.wrap (m % 256) = m % 256 := w32 _ (by omega) (by omega)
  have wn2 : IntKind.u32.wrap (n % 256) = n % 256 := w32 _ (by omega) (by omega)
  have wm3 : IntKind.u32.wrap (m / 256) = m / 256 := w32 _ (by omega) (by omega)
  have wn3 : IntKind.u32.wrap (n / 256) = n / 256 := w32 _ (by omega) (by omega)
  have i1 : in32 (IntKind.u32.wrap (IntKind.u32.wrap (m + n) + 0)) = true := by simp only [in32, IntKind.wrap_u32, Bool.and_eq_true, decide_eq_true_eq]; omega
  have i2 : in32 (IntKind.u32.wrap (IntKind.u32.wrap (m % 256 + n % 256) + 0)) = true := by simp only [in32, IntKind.wrap_u32, Bool.and_eq_true, decide_eq_true_eq]; omega
  have i3 : in32 (IntKind.u32.wrap (IntKind.u32.wrap (m / 256 + n / 256) + 0)) = true := by simp only [in32, IntKind.wrap_u32, Bool.and_eq_true, decide_eq_true_eq]; omega
  have hk' : ¬ ((IntKind.u32.wrap (IntKind.u32.wrap (m % 256 + n % 256) + 0)) / 256 % 2 = 1) := by simpa using hk
  simp only [IntKind.wrap_u32] at hk'
  have f1 : (IntKind.u32.wrap (IntKind.u32.wrap (m + n) + 0)) % 65536 = (IntKind.u32.wrap (IntKind.u32.wrap (m % 256 + n % 256) + 0)) % 256 + (IntKind.u32.wrap (IntKind.u32.wrap (m / 256 + n / 256) + 0)) % 256 * 256 := by simp only [IntKind.wrap_u32]; omega
  have f2 : ((IntKind.u32.wrap (IntKind.u32.wrap (m + n) + 0)) / 65536 % 2 == 1) = ((IntKind.u32.wrap (IntKind.u32.wrap (m / 256 + n / 256) + 0)) / 256 % 2 == 1) := by rw [Bool.eq_iff_iff]; simp only [beq_iff_eq, IntKind.wrap_u32]; omega
  have f3 : decide (32768 ≤ (IntKind.u32.wrap (IntKind.u32.wrap (m % 256 + n % 256) + 0)) % 256 + (IntKind.u32.wrap (IntKind.u32.wrap (m / 256 + n / 256) + 0)) % 256 * 256) = decide (128 ≤ (IntKind.u32.wrap (IntKind.u32.wrap (m / 256 + n / 256) + 0)) % 256) := by rw [decide_eq_decide]; omega
  have ff : (false == true) = false := rfl
  have tt : (true == true) = true := rfl
  simp only [Int.fdiv_one, lb0 m, lb0 n, hb0 n h2 h3, hb0 m h0 h1, hib m _ h0 h1, lowm m _ h0 h1, highm m _ _ h0 h1, wy, Int.mul_one, wm, wn, wm2, wn2, wm3, wn3, i1, i2, i3, f1, f2, f3, hk, ff, tt, trusted, Bool.true_and, Bool.and_self, true_and, and_true, Bool.and_true, beq_self_eq_true]
theorem t9_ttt (m n : Int) (s z x p : Bool) (h0 : 0 ≤ m) (h1 : m ≤ 65535) (h2 : 0 ≤ n) (h3 : n ≤ 65535) (hk : ((IntKind.u32.wrap (IntKind.u32.wrap (m % 256 - n % 256) - 0)) / 256 % 2 == 1) = true) (W : World) :
    Calls Try.prog 9 ⟨[.int .u16 m, .int .u16 n, .bool true, .agg ⟨[.bool s, .bool z, .bool x, .bool p, .bool true]⟩]⟩ W (fun e W' => e = .returned (.bool true) ∧ Below W.heap.size W W') := by
  refine says9 _ (w9_ttt m n s z x p true) ?_ W
  have wm : IntKind.u32.wrap m = m := w32 m h0 (by omega)
  have wn : IntKind.u32.wrap n = n := w32 n h2 (by omega)
  have wm2 : IntKind.u32.wrap (m % 256) = m % 256 := w32 _ (by omega) (by omega)
  have wn2 : IntKind.u32.wrap (n % 256) = n % 256 := w32 _ (by omega) (by omega)
  have wm3 : IntKind.u32.wrap (m / 256) = m / 256 := w32 _ (by omega) (by omega)
  have wn3 : IntKind.u32.wrap (n / 256) = n / 256 := w32 _ (by omega) (by omega)
  have i1 : in32 (IntKind.u32.wrap (IntKind.u32.wrap (m - n) - 0)) = true := by simp only [in32, IntKind.wrap_u32, Bool.and_eq_true, decide_eq_true_eq]; omega
  have i2 : in32 (IntKind.u32.wrap (IntKind.u32.wrap (m % 256 - n % 256) - 0)) = true := by simp only [in32, IntKind.wrap_u32, Bool.and_eq_true, decide_eq_true_eq]; omega
  have i3 : in32 (IntKind.u32.wrap (IntKind.u32.wrap (m / 256 - n / 256) - 1)) = true := by simp only [in32, IntKind.wrap_u32, Bool.and_eq_true, decide_eq_true_eq]; omega
  have hk' : ((IntKind.u32.wrap (IntKind.u32.wrap (m % 256 - n % 256) - 0)) / 256 % 2 = 1) := by simpa using hk
  simp only [IntKind.wrap_u32] at hk'
  have f1 : (IntKind.u32.wrap (IntKind.u32.wrap (m - n) - 0)) % 65536 = (IntKind.u32.wrap (IntKind.u32.wrap (m % 256 - n % 256) - 0)) % 256 + (IntKind.u32.wrap (IntKind.u32.wrap (m / 256 - n / 256) - 1)) % 256 * 256 := by simp only [IntKind.wrap_u32]; omega
  have f2 : ((IntKind.u32.wrap (IntKind.u32.wrap (m - n) - 0)) / 65536 % 2 == 1) = ((IntKind.u32.wrap (IntKind.u32.wrap (m / 256 - n / 256) - 1)) / 256 % 2 == 1) := by rw [Bool.eq_iff_iff]; simp only [beq_iff_eq, IntKind.wrap_u32]; omega
  have f3 : decide (32768 ≤ (IntKind.u32.wrap (IntKind.u32.wrap (m % 256 - n % 256) - 0)) % 256 + (IntKind.u32.wrap (IntKind.u32.wrap (m / 256 - n / 256) - 1)) % 256 * 256) = decide (128 ≤ (IntKind.u32.wrap (IntKind.u32.wrap (m / 256 - n / 256) - 1)) % 256) := by rw [decide_eq_decide]; omega
  have ff : (false == true) = false := rfl
  have tt : (true == true) = true := rfl
  simp only [Int.fdiv_one, lb0 m, lb0 n, hb0 n h2 h3, hb0 m h0 h1, hib m _ h0 h1, lowm m _ h0 h1, highm m _ _ h0 h1, wy, Int.mul_one, wm, wn, wm2, wn2, wm3, wn3, i1, i2, i3, f1, f2, f3, hk, ff, tt, trusted, Bool.true_and, Bool.and_self, true_and, and_true, Bool.and_true, beq_self_eq_true]
theorem t9_ttf (m n : Int) (s z x p : Bool) (h0 : 0 ≤ m) (h1 : m ≤ 65535) (h2 : 0 ≤ n) (h3 : n ≤ 65535) (hk : ((IntKind.u32.wrap (IntKind.u32.wrap (m % 256 - n % 256) - 0)) / 256 % 2 == 1) = false) (W : World) :
    Calls Try.prog 9 ⟨[.int .u16 m, .int .u16 n, .bool true, .agg ⟨[.bool s, .bool z, .bool x, .bool p, .bool true]⟩]⟩ W (fun e W' => e = .returned (.bool true) ∧ Below W.heap.size W W') := by
  refine says9 _ (w9_ttf m n s z x p true) ?_ W
  have wm : IntKind.u32.wrap m = m := w32 m h0 (by omega)
  have wn : IntKind.u32.wrap n = n := w32 n h2 (by omega)
  have wm2 : IntKind.u32.wrap (m % 256) = m % 256 := w32 _ (by omega) (by omega)
  have wn2 : IntKind.u32.wrap (n % 256) = n % 256 := w32 _ (by omega) (by omega)
  have wm3 : IntKind.u32.wrap (m / 256) = m / 256 := w32 _ (by omega) (by omega)
  have wn3 : IntKind.u32.wrap (n / 256) = n / 256 := w32 _ (by omega) (by omega)
  have i1 : in32 (IntKind.u32.wrap (IntKind.u32.wrap (m - n) - 0)) = true := by simp only [in32, IntKind.wrap_u32, Bool.and_eq_true, decide_eq_true_eq]; omega
  have i2 : in32 (IntKind.u32.wrap (IntKind.u32.wrap (m % 256 - n % 256) - 0)) = true := by simp only [in32, IntKind.wrap_u32, Bool.and_eq_true, decide_eq_true_eq]; omega
  have i3 : in32 (IntKind.u32.wrap (IntKind.u32.wrap (m / 256 - n / 256) - 0)) = true := by simp only [in32, IntKind.wrap_u32, Bool.and_eq_true, decide_eq_true_eq]; omega
  have hk' : ¬ ((IntKind.u32.wrap (IntKind.u32.wrap (m % 256 - n % 256) - 0)) / 256 % 2 = 1) := by simpa using hk
  simp only [IntKind.wrap_u32] at hk'
  have f1 : (IntKind.u32.wrap (IntKind.u32.wrap (m - n) - 0)) % 65536 = (IntKind.u32.wrap (IntKind.u32.wrap (m % 256 - n % 256) - 0)) % 256 + (IntKind.u32.wrap (IntKind.u32.wrap (m / 256 - n / 256) - 0)) % 256 * 256 := by simp only [IntKind.wrap_u32]; omega
  have f2 : ((IntKind.u32.wrap (IntKind.u32.wrap (m - n) - 0)) / 65536 % 2 == 1) = ((IntKind.u32.wrap (IntKind.u32.wrap (m / 256 - n / 256) - 0)) / 256 % 2 == 1) := by rw [Bool.eq_iff_iff]; simp only [beq_iff_eq, IntKind.wrap_u32]; omega
  have f3 : decide (32768 ≤ (IntKind.u32.wrap (IntKind.u32.wrap (m % 256 - n % 256) - 0)) % 256 + (IntKind.u32.wrap (IntKind.u32.wrap (m / 256 - n / 256) - 0)) % 256 * 256) = decide (128 ≤ (IntKind.u32.wrap (IntKind.u32.wrap (m / 256 - n / 256) - 0)) % 256) := by rw [decide_eq_decide]; omega
  have ff : (false == true) = false := rfl
  have tt : (true == true) = true := rfl
  simp only [Int.fdiv_one, lb0 m, lb0 n, hb0 n h2 h3, hb0 m h0 h1, hib m _ h0 h1, lowm m _ h0 h1, highm m _ _ h0 h1, wy, Int.mul_one, wm, wn, wm2, wn2, wm3, wn3, i1, i2, i3, f1, f2, f3, hk, ff, tt, trusted, Bool.true_and, Bool.and_self, true_and, and_true, Bool.and_true, beq_self_eq_true]
theorem t9_tft (m n : Int) (s z x p : Bool) (h0 : 0 ≤ m) (h1 : m ≤ 65535) (h2 : 0 ≤ n) (h3 : n ≤ 65535) (hk : ((IntKind.u32.wrap (IntKind.u32.wrap (m % 256 - n % 256) - 0)) / 256 % 2 == 1) = true) (W : World) :
    Calls Try.prog 9 ⟨[.int .u16 m, .int .u16 n, .bool true, .agg ⟨[.bool s, .bool z, .bool x, .bool p, .bool false]⟩]⟩ W (fun e W' => e = .returned (.bool true) ∧ Below W.heap.size W W') := by
  refine says9 _ (w9_tft m n s z x p false) ?_ W
  have wm : IntKind.u32.wrap m = m := w32 m h0 (by omega)
  have wn : IntKind.u32.wrap n = n := w32 n h2 (by omega)
  have wm2 : IntKind.u32.wrap (m % 256) = m % 256 := w32 _ (by omega) (by omega)
  have wn2 : IntKind.u32.wrap (n % 256) = n % 256 := w32 _ (by omega) (by omega)
  have wm3 : IntKind.u32.wrap (m / 256) = m / 256 := w32 _ (by omega) (by omega)
  have wn3 : IntKind.u32.wrap (n / 256) = n / 256 := w32 _ (by omega) (by omega)
  have i1 : in32 (IntKind.u32.wrap (IntKind.u32.wrap (m - n) - 0)) = true := by simp only [in32, IntKind.wrap_u32, Bool.and_eq_true, decide_eq_true_eq]; omega
  have i2 : in32 (IntKind.u32.wrap (IntKind.u32.wrap (m % 256 - n % 256) - 0)) = true := by simp only [in32, IntKind.wrap_u32, Bool.and_eq_true, decide_eq_true_eq]; omega
  have i3 : in32 (IntKind.u32.wrap (IntKind.u32.wrap (m / 256 - n / 256) - 1)) = true := by simp only [in32, IntKind.wrap_u32, Bool.and_eq_true, decide_eq_true_eq]; omega
  have hk' : ((IntKind.u32.wrap (IntKind.u32.wrap (m % 256 - n % 256) - 0)) / 256 % 2 = 1) := by simpa using hk
  simp only [IntKind.wrap_u32] at hk'
  have f1 : (IntKind.u32.wrap (IntKind.u32.wrap (m - n) - 0)) % 65536 = (IntKind.u32.wrap (IntKind.u32.wrap (m % 256 - n % 256) - 0)) % 256 + (IntKind.u32.wrap (IntKind.u32.wrap (m / 256 - n / 256) - 1)) % 256 * 256 := by simp only [IntKind.wrap_u32]; omega
  have f2 : ((IntKind.u32.wrap (IntKind.u32.wrap (m - n) - 0)) / 65536 % 2 == 1) = ((IntKind.u32.wrap (IntKind.u32.wrap (m / 256 - n / 256) - 1)) / 256 % 2 == 1) := by rw [Bool.eq_iff_iff]; simp only [beq_iff_eq, IntKind.wrap_u32]; omega
  have f3 : decide (32768 ≤ (IntKind.u32.wrap (IntKind.u32.wrap (m % 256 - n % 256) - 0)) % 256 + (IntKind.u32.wrap (IntKind.u32.wrap (m / 256 - n / 256) - 1)) % 256 * 256) = decide (128 ≤ (IntKind.u32.wrap (IntKind.u32.wrap (m / 256 - n / 256) - 1)) % 256) := by rw [decide_eq_decide]; omega
  have ff : (false == true) = false := rfl
  have tt : (true == true) = true := rfl
  simp only [Int.fdiv_one, lb0 m, lb0 n, hb0 n h2 h3, hb0 m h0 h1, hib m _ h0 h1, lowm m _ h0 h1, highm m _ _ h0 h1, wy, Int.mul_one, wm, wn, wm2, wn2, wm3, wn3, i1, i2, i3, f1, f2, f3, hk, ff, tt, trusted, Bool.true_and, Bool.and_self, true_and, and_true, Bool.and_true, beq_self_eq_true]
theorem t9_tff (m n : Int) (s z x p : Bool) (h0 : 0 ≤ m) (h1 : m ≤ 65535) (h2 : 0 ≤ n) (h3 : n ≤ 65535) (hk : ((IntKind.u32.wrap (IntKind.u32.wrap (m % 256 - n % 256) - 0)) / 256 % 2 == 1) = false) (W : World) :
    Calls Try.prog 9 ⟨[.int .u16 m, .int .u16 n, .bool true, .agg ⟨[.bool s, .bool z, .bool x, .bool p, .bool false]⟩]⟩ W (fun e W' => e = .returned (.bool true) ∧ Below W.heap.size W W') := by
  refine says9 _ (w9_tff m n s z x p false) ?_ W
  have wm : IntKind.u32.wrap m = m := w32 m h0 (by omega)
  have wn : IntKind.u32.wrap n = n := w32 n h2 (by omega)
  have wm2 : IntKind.u32.wrap (m % 256) = m % 256 := w32 _ (by omega) (by omega)
  have wn2 : IntKind.u32.wrap (n % 256) = n % 256 := w32 _ (by omega) (by omega)
  have wm3 : IntKind.u32.wrap (m / 256) = m / 256 := w32 _ (by omega) (by omega)
  have wn3 : IntKind.u32.wrap (n / 256) = n / 256 := w32 _ (by omega) (by omega)
  have i1 : in32 (IntKind.u32.wrap (IntKind.u32.wrap (m - n) - 0)) = true := by simp only [in32, IntKind.wrap_u32, Bool.and_eq_true, decide_eq_true_eq]; omega
  have i2 : in32 (IntKind.u32.wrap (IntKind.u32.wrap (m % 256 - n % 256) - 0)) = true := by simp only [in32, IntKind.wrap_u32, Bool.and_eq_true, decide_eq_true_eq]; omega
  have i3 : in32 (IntKind.u32.wrap (IntKind.u32.wrap (m / 256 - n / 256) - 0)) = true := by simp only [in32, IntKind.wrap_u32, Bool.and_eq_true, decide_eq_true_eq]; omega
  have hk' : ¬ ((IntKind.u32.wrap (IntKind.u32.wrap (m % 256 - n % 256) - 0)) / 256 % 2 = 1) := by simpa using hk
  simp only [IntKind.wrap_u32] at hk'
  have f1 : (IntKind.u32.wrap (IntKind.u32.wrap (m - n) - 0)) % 65536 = (IntKind.u32.wrap (IntKind.u32.wrap (m % 256 - n % 256) - 0)) % 256 + (IntKind.u32.wrap (IntKind.u32.wrap (m / 256 - n / 256) - 0)) % 256 * 256 := by simp only [IntKind.wrap_u32]; omega
  have f2 : ((IntKind.u32.wrap (IntKind.u32.wrap (m - n) - 0)) / 65536 % 2 == 1) = ((IntKind.u32.wrap (IntKind.u32.wrap (m / 256 - n / 256) - 0)) / 256 % 2 == 1) := by rw [Bool.eq_iff_iff]; simp only [beq_iff_eq, IntKind.wrap_u32]; omega
  have f3 : decide (32768 ≤ (IntKind.u32.wrap (IntKind.u32.wrap (m % 256 - n % 256) - 0)) % 256 + (IntKind.u32.wrap (IntKind.u32.wrap (m / 256 - n / 256) - 0)) % 256 * 256) = decide (128 ≤ (IntKind.u32.wrap (IntKind.u32.wrap (m / 256 - n / 256) - 0)) % 256) := by rw [decide_eq_decide]; omega
  have ff : (false == true) = false := rfl
  have tt : (true == true) = true := rfl
  simp only [Int.fdiv_one, lb0 m, lb0 n, hb0 n h2 h3, hb0 m h0 h1, hib m _ h0 h1, lowm m _ h0 h1, highm m _ _ h0 h1, wy, Int.mul_one, wm, wn, wm2, wn2, wm3, wn3, i1, i2, i3, f1, f2, f3, hk, ff, tt, trusted, Bool.true_and, Bool.and_self, true_and, and_true, Bool.and_true, beq_self_eq_true]
theorem w9_walk (W : World) (v0 v1 v2 v3 : Value) (h0 : CkOk W (.int .u16) v0) (h1 : CkOk W (.int .u16) v1) (h2 : CkOk W .bool v2) (h3 : ∃ cs, v3 = .agg ⟨cs⟩ ∧ CksOk W [.bool, .bool, .bool, .bool, .bool] cs) :
    Calls Try.prog 9 #[v0, v1, v2, v3] W fun e W' => e = .returned (.bool true) ∧ Below W.heap.size W W' := by
  simp only [CkOk] at h0 h1 h2
  obtain ⟨m, rfl, wa⟩ := h0
  obtain ⟨n, rfl, wb⟩ := h1
  obtain ⟨l, rfl⟩ := h2
  obtain ⟨cs, rfl, h3⟩ := h3
  simp only [CksOk, CkOk] at h3
  obtain ⟨_, _, rfl, ⟨s, rfl⟩, _, _, rfl, ⟨z, rfl⟩, _, _, rfl, ⟨x, rfl⟩, _, _, rfl, ⟨p, rfl⟩, _, _, rfl, ⟨c, rfl⟩, rfl⟩ := h3
  have hm := bounds_u16 wa
  have hn := bounds_u16 wb
  cases l <;> cases c
  · cases hk : ((IntKind.u32.wrap (IntKind.u32.wrap (m % 256 + n % 256) + 0)) / 256 % 2 == 1)
    · exact t9_fff m n s z x p hm.1 hm.2 hn.1 hn.2 hk W
    · exact t9_fft m n s z x p hm.1 hm.2 hn.1 hn.2 hk W
  · cases hk : ((IntKind.u32.wrap (IntKind.u32.wrap (m % 256 + n % 256) + 0)) / 256 % 2 == 1)
    · exact t9_ftf m n s z x p hm.1 hm.2 hn.1 hn.2 hk W
    · exact t9_ftt m n s z x p hm.1 hm.2 hn.1 hn.2 hk W
  · cases hk : ((IntKind.u32.wrap (IntKind.u32.wrap (m % 256 - n % 256) - 0)) / 256 % 2 == 1)
    · exact t9_tff m n s z x p hm.1 hm.2 hn.1 hn.2 hk W
    · exact t9_tft m n s z x p hm.1 hm.2 hn.1 hn.2 hk W
  · cases hk : ((IntKind.u32.wrap (IntKind.u32.wrap (m % 256 - n % 256) - 0)) / 256 % 2 == 1)
    · exact t9_ttf m n s z x p hm.1 hm.2 hn.1 hn.2 hk W
    · exact t9_ttt m n s z x p hm.1 hm.2 hn.1 hn.2 hk W
end Go.Proofs.Ytnknopebjdgdjaa
