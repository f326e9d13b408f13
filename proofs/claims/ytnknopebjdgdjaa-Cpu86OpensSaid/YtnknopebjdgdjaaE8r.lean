/- Cpu86AsEight: the runs. By program (gene8.py). -/
import Derived.Test.YtnknopebjdgdjaaCb
import Derived.KernelRfl
import Derived.OpenShut
namespace Go.Proofs.Ytnknopebjdgdjaa
open Go Go.Ly Go.RowKit
set_option linter.unusedVariables false
set_option linter.unusedSimpArgs false
theorem nat_hi (x : Nat) (h : x < 65536) : x &&& 65280 = x / 256 * 256 := by
  have h1 : (x &&& 65280) / 2 ^ 8 = x / 2 ^ 8 := by
    rw [Nat.and_div_two_pow, show 65280 / 2 ^ 8 = 2 ^ 8 - 1 from rfl, Nat.and_two_pow_sub_one_eq_mod]; omega
  have h2 : (x &&& 65280) % 2 ^ 8 = 0 := by
    rw [Nat.and_mod_two_pow, show 65280 % 2 ^ 8 = 0 from rfl, Nat.and_zero]
  omega
/-- a word's low byte is set -/
theorem low_set (a y : Int) (h0 : 0 ≤ a) (h1 : a < 65536) (h2 : 0 ≤ y) (h3 : y < 256) : bits .or .u16 (bits .andNot .u16 a 255) y = a / 256 * 256 + y := by
  obtain ⟨n, rfl⟩ := Int.eq_ofNat_of_zero_le h0
  have e := u16_andNot_nat n 255 (by omega) (by omega)
  rw [show (65535 - 255 : Nat) = 65280 from rfl, nat_hi n (by omega)] at e
  rw [show ((255 : Nat) : Int) = 255 from rfl] at e
  rw [e]
  exact bits_join .u16 16 (by decide) wraps_u16 8 _ y (by omega) (by omega) (by omega) h2 (by omega) (by omega)
theorem w16 (a : Int) (h0 : 0 ≤ a) (h1 : a < 65536) : IntKind.u16.wrap a = a := by rw [IntKind.wrap_u16]; omega
theorem w8 (a : Int) (h0 : 0 ≤ a) (h1 : a < 256) : IntKind.u8.wrap a = a := by rw [IntKind.wrap_u8']; omega
theorem w32 (a : Int) (h0 : 0 ≤ a) (h1 : a < 4294967296) : IntKind.u32.wrap a = a := by rw [IntKind.wrap_u32]; omega
theorem wy (m : Int) : IntKind.u16.wrap (IntKind.u16.wrap (IntKind.u8.wrap (m % 256))) = m % 256 := by rw [IntKind.wrap_u8', IntKind.wrap_u16, IntKind.wrap_u16]; omega
theorem low8 (a m : Int) (h0 : 0 ≤ a) (h1 : a ≤ 255) : IntKind.u8.wrap (bits .or .u16 (bits .andNot .u16 a 255) (m % 256)) = m % 256 := by
  rw [low_set a _ h0 (by omega) (by omega) (by omega), IntKind.wrap_u8']; omega
theorem bq {p q : Bool} (h : p = q) : (p == q) = true := by rw [h]; exact beq_self_eq_true q
theorem dq {p q : Prop} [Decidable p] [Decidable q] (h : p ↔ q) : (decide p == decide q) = true := bq (decide_eq_decide.2 h)
theorem bz (x : Int) : (x == 0) = decide (x = 0) := rfl
theorem a8_0t (a : Int) (b : Int) (s : Bool) (z : Bool) (x : Bool) (p : Bool) (c : Bool) : (Ly.run ctxA 20000 [(295, true), (10, true), (13, true), (23, true), (9, true)] (Ly.start
  Try.f4
  [Value.int IntKind.u8 a, Value.int IntKind.u8 b, Value.int IntKind.i64 0,
    Value.agg { toList := [Value.bool s, Value.bool z, Value.bool x, Value.bool p, Value.bool c] }]
  H0)).out? = some ([(c == true, true),
 (true &&
   in32
     (IntKind.u32.wrap
       (IntKind.u32.wrap
           (IntKind.u32.wrap (IntKind.u16.wrap (IntKind.u8.wrap ((IntKind.u16.wrap a).fdiv 1))) +
             IntKind.u32.wrap (IntKind.u16.wrap (IntKind.u8.wrap ((IntKind.u16.wrap b).fdiv 1)))) +
         0)), true),
 (inb a && inb b, true),
 ((IntKind.u8.wrap
       ((bits BinOp.or IntKind.u16 (bits BinOp.andNot IntKind.u16 (IntKind.u16.wrap a) 255)
             (IntKind.u16.wrap
               (IntKind.u16.wrap
                   (IntKind.u8.wrap
                     (IntKind.u32.wrap
                         (IntKind.u32.wrap
                             (IntKind.u32.wrap (IntKind.u16.wrap (IntKind.u8.wrap ((IntKind.u16.wrap a).fdiv 1))) +
                               IntKind.u32.wrap (IntKind.u16.wrap (IntKind.u8.wrap ((IntKind.u16.wrap b).fdiv 1)))) +
                           0) %
                       256)) *
                 1))).fdiv
         1) ==
     (a + b + 0) % 256) ==
   true, true),
 ((decide
         (128 ≤
           IntKind.u32.wrap
               (IntKind.u32.wrap
                   (IntKind.u32.wrap (IntKind.u16.wrap (IntKind.u8.wrap ((IntKind.u16.wrap a).fdiv 1))) +
                     IntKind.u32.wrap (IntKind.u16.wrap (IntKind.u8.wrap ((IntKind.u16.wrap b).fdiv 1)))) +
                 0) %
             256) ==
       decide (128 ≤ (a + b + 0) % 256) &&
     ((IntKind.u32.wrap
               (IntKind.u32.wrap
                   (IntKind.u32.wrap (IntKind.u16.wrap (IntKind.u8.wrap ((IntKind.u16.wrap a).fdiv 1))) +
                     IntKind.u32.wrap (IntKind.u16.wrap (IntKind.u8.wrap ((IntKind.u16.wrap b).fdiv 1)))) +
                 0) %
             256 ==
           0) ==
         ((a + b + 0) % 256 == 0) &&
       (decide
             (15 <
               IntKind.u32.wrap
                 (IntKind.u32.wrap
                     (bits BinOp.and IntKind.u32
                         (IntKind.u32.wrap (IntKind.u16.wrap (IntKind.u8.wrap ((IntKind.u16.wrap a).fdiv 1)))) 15 +
                       bits BinOp.and IntKind.u32
                         (IntKind.u32.wrap (IntKind.u16.wrap (IntKind.u8.wrap ((IntKind.u16.wrap b).fdiv 1)))) 15) +
                   0)) ==
           decide (15 < a % 16 + b % 16 + 0) &&
         (par
               (IntKind.u32.wrap
                   (IntKind.u32.wrap
                       (IntKind.u32.wrap (IntKind.u16.wrap (IntKind.u8.wrap ((IntKind.u16.wrap a).fdiv 1))) +
                         IntKind.u32.wrap (IntKind.u16.wrap (IntKind.u8.wrap ((IntKind.u16.wrap b).fdiv 1)))) +
                     0) %
                 256) ==
             par ((a + b + 0) % 256) &&
           ((IntKind.u32.wrap
                       (IntKind.u32.wrap
                           (IntKind.u32.wrap (IntKind.u16.wrap (IntKind.u8.wrap ((IntKind.u16.wrap a).fdiv 1))) +
                             IntKind.u32.wrap (IntKind.u16.wrap (IntKind.u8.wrap ((IntKind.u16.wrap b).fdiv 1)))) +
                         0) /
                     256 %
                   2 ==
                 1) ==
               decide (255 < a + b + 0) &&
             true))))) ==
   true, true)], Value.bool true) := by kernel_rfl
theorem a8_0f (a : Int) (b : Int) (s : Bool) (z : Bool) (x : Bool) (p : Bool) (c : Bool) : (Ly.run ctxA 20000 [(295, false), (7, true), (13, true), (23, true), (9, true)] (Ly.start
  Try.f4
  [Value.int IntKind.u8 a, Value.int IntKind.u8 b, Value.int IntKind.i64 0,
    Value.agg { toList := [Value.bool s, Value.bool z, Value.bool x, Value.bool p, Value.bool c] }]
  H0)).out? = some ([(c == true, false),
 (true &&
   in32
     (IntKind.u32.wrap
       (IntKind.u32.wrap
           (IntKind.u32.wrap (IntKind.u16.wrap (IntKind.u8.wrap ((IntKind.u16.wrap a).fdiv 1))) +
             IntKind.u32.wrap (IntKind.u16.wrap (IntKind.u8.wrap ((IntKind.u16.wrap b).fdiv 1)))) +
         0)), true),
 (inb a && inb b, true),
 ((IntKind.u8.wrap
       ((bits BinOp.or IntKind.u16 (bits BinOp.andNot IntKind.u16 (IntKind.u16.wrap a) 255)
             (IntKind.u16.wrap
               (IntKind.u16.wrap
                   (IntKind.u8.wrap
                     (IntKind.u32.wrap
                         (IntKind.u32.wrap
                             (IntKind.u32.wrap (IntKind.u16.wrap (IntKind.u8.wrap ((IntKind.u16.wrap a).fdiv 1))) +
                               IntKind.u32.wrap (IntKind.u16.wrap (IntKind.u8.wrap ((IntKind.u16.wrap b).fdiv 1)))) +
                           0) %
                       256)) *
                 1))).fdiv
         1) ==
     (a + b + 0) % 256) ==
   true, true),
 ((decide
         (128 ≤
           IntKind.u32.wrap
               (IntKind.u32.wrap
                   (IntKind.u32.wrap (IntKind.u16.wrap (IntKind.u8.wrap ((IntKind.u16.wrap a).fdiv 1))) +
                     IntKind.u32.wrap (IntKind.u16.wrap (IntKind.u8.wrap ((IntKind.u16.wrap b).fdiv 1)))) +
                 0) %
             256) ==
       decide (128 ≤ (a + b + 0) % 256) &&
     ((IntKind.u32.wrap
               (IntKind.u32.wrap
                   (IntKind.u32.wrap (IntKind.u16.wrap (IntKind.u8.wrap ((IntKind.u16.wrap a).fdiv 1))) +
                     IntKind.u32.wrap (IntKind.u16.wrap (IntKind.u8.wrap ((IntKind.u16.wrap b).fdiv 1)))) +
                 0) %
             256 ==
           0) ==
         ((a + b + 0) % 256 == 0) &&
       (decide
             (15 <
               IntKind.u32.wrap
                 (IntKind.u32.wrap
                     (bits BinOp.and IntKind.u32
                         (IntKind.u32.wrap (IntKind.u16.wrap (IntKind.u8.wrap ((IntKind.u16.wrap a).fdiv 1)))) 15 +
                       bits BinOp.and IntKind.u32
                         (IntKind.u32.wrap (IntKind.u16.wrap (IntKind.u8.wrap ((IntKind.u16.wrap b).fdiv 1)))) 15) +
                   0)) ==
           decide (15 < a % 16 + b % 16 + 0) &&
         (par
               (IntKind.u32.wrap
                   (IntKind.u32.wrap
                       (IntKind.u32.wrap (IntKind.u16.wrap (IntKind.u8.wrap ((IntKind.u16.wrap a).fdiv 1))) +
                         IntKind.u32.wrap (IntKind.u16.wrap (IntKind.u8.wrap ((IntKind.u16.wrap b).fdiv 1)))) +
                     0) %
                 256) ==
             par ((a + b + 0) % 256) &&
           ((IntKind.u32.wrap
                       (IntKind.u32.wrap
                           (IntKind.u32.wrap (IntKind.u16.wrap (IntKind.u8.wrap ((IntKind.u16.wrap a).fdiv 1))) +
                             IntKind.u32.wrap (IntKind.u16.wrap (IntKind.u8.wrap ((IntKind.u16.wrap b).fdiv 1)))) +
                         0) /
                     256 %
                   2 ==
                 1) ==
               decide (255 < a + b + 0) &&
             true))))) ==
   true, true)], Value.bool true) := by kernel_rfl
theorem a8_2f (a : Int) (b : Int) (s : Bool) (z : Bool) (x : Bool) (p : Bool) (c : Bool) : (Ly.run ctxA 20000 [(303, true), (13, true), (23, true), (9, true)] (Ly.start
  Try.f4
  [Value.int IntKind.u8 a, Value.int IntKind.u8 b, Value.int IntKind.i64 2,
    Value.agg { toList := [Value.bool s, Value.bool z, Value.bool x, Value.bool p, Value.bool false] }]
  H0)).out? = some ([(true &&
   in32
     (IntKind.u32.wrap
       (IntKind.u32.wrap
           (IntKind.u32.wrap (IntKind.u16.wrap (IntKind.u8.wrap ((IntKind.u16.wrap a).fdiv 1))) +
             IntKind.u32.wrap (IntKind.u16.wrap (IntKind.u8.wrap ((IntKind.u16.wrap b).fdiv 1)))) +
         0)), true),
 (inb a && inb b, true),
 ((IntKind.u8.wrap
       ((bits BinOp.or IntKind.u16 (bits BinOp.andNot IntKind.u16 (IntKind.u16.wrap a) 255)
             (IntKind.u16.wrap
               (IntKind.u16.wrap
                   (IntKind.u8.wrap
                     (IntKind.u32.wrap
                         (IntKind.u32.wrap
                             (IntKind.u32.wrap (IntKind.u16.wrap (IntKind.u8.wrap ((IntKind.u16.wrap a).fdiv 1))) +
                               IntKind.u32.wrap (IntKind.u16.wrap (IntKind.u8.wrap ((IntKind.u16.wrap b).fdiv 1)))) +
                           0) %
                       256)) *
                 1))).fdiv
         1) ==
     (a + b + 0) % 256) ==
   true, true),
 ((decide
         (128 ≤
           IntKind.u32.wrap
               (IntKind.u32.wrap
                   (IntKind.u32.wrap (IntKind.u16.wrap (IntKind.u8.wrap ((IntKind.u16.wrap a).fdiv 1))) +
                     IntKind.u32.wrap (IntKind.u16.wrap (IntKind.u8.wrap ((IntKind.u16.wrap b).fdiv 1)))) +
                 0) %
             256) ==
       decide (128 ≤ (a + b + 0) % 256) &&
     ((IntKind.u32.wrap
               (IntKind.u32.wrap
                   (IntKind.u32.wrap (IntKind.u16.wrap (IntKind.u8.wrap ((IntKind.u16.wrap a).fdiv 1))) +
                     IntKind.u32.wrap (IntKind.u16.wrap (IntKind.u8.wrap ((IntKind.u16.wrap b).fdiv 1)))) +
                 0) %
             256 ==
           0) ==
         ((a + b + 0) % 256 == 0) &&
       (decide
             (15 <
               IntKind.u32.wrap
                 (IntKind.u32.wrap
                     (bits BinOp.and IntKind.u32
                         (IntKind.u32.wrap (IntKind.u16.wrap (IntKind.u8.wrap ((IntKind.u16.wrap a).fdiv 1)))) 15 +
                       bits BinOp.and IntKind.u32
                         (IntKind.u32.wrap (IntKind.u16.wrap (IntKind.u8.wrap ((IntKind.u16.wrap b).fdiv 1)))) 15) +
                   0)) ==
           decide (15 < a % 16 + b % 16 + 0) &&
         (par
               (IntKind.u32.wrap
                   (IntKind.u32.wrap
                       (IntKind.u32.wrap (IntKind.u16.wrap (IntKind.u8.wrap ((IntKind.u16.wrap a).fdiv 1))) +
                         IntKind.u32.wrap (IntKind.u16.wrap (IntKind.u8.wrap ((IntKind.u16.wrap b).fdiv 1)))) +
                     0) %
                 256) ==
             par ((a + b + 0) % 256) &&
           ((IntKind.u32.wrap
                       (IntKind.u32.wrap
                           (IntKind.u32.wrap (IntKind.u16.wrap (IntKind.u8.wrap ((IntKind.u16.wrap a).fdiv 1))) +
                             IntKind.u32.wrap (IntKind.u16.wrap (IntKind.u8.wrap ((IntKind.u16.wrap b).fdiv 1)))) +
                         0) /
                     256 %
                   2 ==
                 1) ==
               decide (255 < a + b + 0) &&
             true))))) ==
   true, true)], Value.bool true) := by kernel_rfl
theorem a8_2t (a : Int) (b : Int) (s : Bool) (z : Bool) (x : Bool) (p : Bool) (c : Bool) : (Ly.run ctxA 20000 [(306, true), (13, true), (23, true), (9, true)] (Ly.start
  Try.f4
  [Value.int IntKind.u8 a, Value.int IntKind.u8 b, Value.int IntKind.i64 2,
    Value.agg { toList := [Value.bool s, Value.bool z, Value.bool x, Value.bool p, Value.bool true] }]
  H0)).out? = some ([(true &&
   in32
     (IntKind.u32.wrap
       (IntKind.u32.wrap
           (IntKind.u32.wrap (IntKind.u16.wrap (IntKind.u8.wrap ((IntKind.u16.wrap a).fdiv 1))) +
             IntKind.u32.wrap (IntKind.u16.wrap (IntKind.u8.wrap ((IntKind.u16.wrap b).fdiv 1)))) +
         1)), true),
 (inb a && inb b, true),
 ((IntKind.u8.wrap
       ((bits BinOp.or IntKind.u16 (bits BinOp.andNot IntKind.u16 (IntKind.u16.wrap a) 255)
             (IntKind.u16.wrap
               (IntKind.u16.wrap
                   (IntKind.u8.wrap
                     (IntKind.u32.wrap
                         (IntKind.u32.wrap
                             (IntKind.u32.wrap (IntKind.u16.wrap (IntKind.u8.wrap ((IntKind.u16.wrap a).fdiv 1))) +
                               IntKind.u32.wrap (IntKind.u16.wrap (IntKind.u8.wrap ((IntKind.u16.wrap b).fdiv 1)))) +
                           1) %
                       256)) *
                 1))).fdiv
         1) ==
     (a + b + 1) % 256) ==
   true, true),
 ((decide
         (128 ≤
           IntKind.u32.wrap
               (IntKind.u32.wrap
                   (IntKind.u32.wrap (IntKind.u16.wrap (IntKind.u8.wrap ((IntKind.u16.wrap a).fdiv 1))) +
                     IntKind.u32.wrap (IntKind.u16.wrap (IntKind.u8.wrap ((IntKind.u16.wrap b).fdiv 1)))) +
                 1) %
             256) ==
       decide (128 ≤ (a + b + 1) % 256) &&
     ((IntKind.u32.wrap
               (IntKind.u32.wrap
                   (IntKind.u32.wrap (IntKind.u16.wrap (IntKind.u8.wrap ((IntKind.u16.wrap a).fdiv 1))) +
                     IntKind.u32.wrap (IntKind.u16.wrap (IntKind.u8.wrap ((IntKind.u16.wrap b).fdiv 1)))) +
                 1) %
             256 ==
           0) ==
         ((a + b + 1) % 256 == 0) &&
       (decide
             (15 <
               IntKind.u32.wrap
                 (IntKind.u32.wrap
                     (bits BinOp.and IntKind.u32
                         (IntKind.u32.wrap (IntKind.u16.wrap (IntKind.u8.wrap ((IntKind.u16.wrap a).fdiv 1)))) 15 +
                       bits BinOp.and IntKind.u32
                         (IntKind.u32.wrap (IntKind.u16.wrap (IntKind.u8.wrap ((IntKind.u16.wrap b).fdiv 1)))) 15) +
                   1)) ==
           decide (15 < a % 16 + b % 16 + 1) &&
         (par
               (IntKind.u32.wrap
                   (IntKind.u32.wrap
                       (IntKind.u32.wrap (IntKind.u16.wrap (IntKind.u8.wrap ((IntKind.u16.wrap a).fdiv 1))) +
                         IntKind.u32.wrap (IntKind.u16.wrap (IntKind.u8.wrap ((IntKind.u16.wrap b).fdiv 1)))) +
                     1) %
                 256) ==
             par ((a + b + 1) % 256) &&
           ((IntKind.u32.wrap
                       (IntKind.u32.wrap
                           (IntKind.u32.wrap (IntKind.u16.wrap (IntKind.u8.wrap ((IntKind.u16.wrap a).fdiv 1))) +
                             IntKind.u32.wrap (IntKind.u16.wrap (IntKind.u8.wrap ((IntKind.u16.wrap b).fdiv 1)))) +
                         1) /
                     256 %
                   2 ==
                 1) ==
               decide (255 < a + b + 1) &&
             true))))) ==
   true, true)], Value.bool true) := by kernel_rfl
theorem a8_3f (a : Int) (b : Int) (s : Bool) (z : Bool) (x : Bool) (p : Bool) (c : Bool) : (Ly.run ctxA 20000 [(306, true), (13, true), (7, true), (16, true), (9, true)] (Ly.start
  Try.f4
  [Value.int IntKind.u8 a, Value.int IntKind.u8 b, Value.int IntKind.i64 3,
    Value.agg { toList := [Value.bool s, Value.bool z, Value.bool x, Value.bool p, Value.bool false] }]
  H0)).out? = some ([(true &&
   in32
     (IntKind.u32.wrap
       (IntKind.u32.wrap
           (IntKind.u32.wrap (IntKind.u16.wrap (IntKind.u8.wrap ((IntKind.u16.wrap a).fdiv 1))) -
             IntKind.u32.wrap (IntKind.u16.wrap (IntKind.u8.wrap ((IntKind.u16.wrap b).fdiv 1)))) -
         0)), true),
 (inb a && inb b, true),
 (inb a && inb b, true),
 ((IntKind.u8.wrap
       ((bits BinOp.or IntKind.u16 (bits BinOp.andNot IntKind.u16 (IntKind.u16.wrap a) 255)
             (IntKind.u16.wrap
               (IntKind.u16.wrap
                   (IntKind.u8.wrap
                     (IntKind.u32.wrap
                         (IntKind.u32.wrap
                             (IntKind.u32.wrap (IntKind.u16.wrap (IntKind.u8.wrap ((IntKind.u16.wrap a).fdiv 1))) -
                               IntKind.u32.wrap (IntKind.u16.wrap (IntKind.u8.wrap ((IntKind.u16.wrap b).fdiv 1)))) -
                           0) %
                       256)) *
                 1))).fdiv
         1) ==
     (a - b - 0) % 256) ==
   true, true),
 ((decide
         (128 ≤
           IntKind.u32.wrap
               (IntKind.u32.wrap
                   (IntKind.u32.wrap (IntKind.u16.wrap (IntKind.u8.wrap ((IntKind.u16.wrap a).fdiv 1))) -
                     IntKind.u32.wrap (IntKind.u16.wrap (IntKind.u8.wrap ((IntKind.u16.wrap b).fdiv 1)))) -
                 0) %
             256) ==
       decide (128 ≤ (a - b - 0) % 256) &&
     ((IntKind.u32.wrap
               (IntKind.u32.wrap
                   (IntKind.u32.wrap (IntKind.u16.wrap (IntKind.u8.wrap ((IntKind.u16.wrap a).fdiv 1))) -
                     IntKind.u32.wrap (IntKind.u16.wrap (IntKind.u8.wrap ((IntKind.u16.wrap b).fdiv 1)))) -
                 0) %
             256 ==
           0) ==
         ((a - b - 0) % 256 == 0) &&
       (decide
             (bits BinOp.and IntKind.u32
                 (IntKind.u32.wrap (IntKind.u16.wrap (IntKind.u8.wrap ((IntKind.u16.wrap a).fdiv 1)))) 15 <
               IntKind.u32.wrap
                 (bits BinOp.and IntKind.u32
                     (IntKind.u32.wrap (IntKind.u16.wrap (IntKind.u8.wrap ((IntKind.u16.wrap b).fdiv 1)))) 15 +
                   0)) ==
           !decide (15 < a % 16 + 15 - b % 16 + 1) &&
         (par
               (IntKind.u32.wrap
                   (IntKind.u32.wrap
                       (IntKind.u32.wrap (IntKind.u16.wrap (IntKind.u8.wrap ((IntKind.u16.wrap a).fdiv 1))) -
                         IntKind.u32.wrap (IntKind.u16.wrap (IntKind.u8.wrap ((IntKind.u16.wrap b).fdiv 1)))) -
                     0) %
                 256) ==
             par ((a - b - 0) % 256) &&
           ((IntKind.u32.wrap
                       (IntKind.u32.wrap
                           (IntKind.u32.wrap (IntKind.u16.wrap (IntKind.u8.wrap ((IntKind.u16.wrap a).fdiv 1))) -
                             IntKind.u32.wrap (IntKind.u16.wrap (IntKind.u8.wrap ((IntKind.u16.wrap b).fdiv 1)))) -
                         0) /
                     256 %
                   2 ==
                 1) ==
               decide (a - b - 0 < 0) &&
             true))))) ==
   true, true)], Value.bool true) := by kernel_rfl
theorem a8_3t (a : Int) (b : Int) (s : Bool) (z : Bool) (x : Bool) (p : Bool) (c : Bool) : (Ly.run ctxA 20000 [(309, true), (13, true), (7, true), (16, true), (9, true)] (Ly.start
  Try.f4
  [Value.int IntKind.u8 a, Value.int IntKind.u8 b, Value.int IntKind.i64 3,
    Value.agg { toList := [Value.bool s, Value.bool z, Value.bool x, Value.bool p, Value.bool true] }]
  H0)).out? = some ([(true &&
   in32
     (IntKind.u32.wrap
       (IntKind.u32.wrap
           (IntKind.u32.wrap (IntKind.u16.wrap (IntKind.u8.wrap ((IntKind.u16.wrap a).fdiv 1))) -
             IntKind.u32.wrap (IntKind.u16.wrap (IntKind.u8.wrap ((IntKind.u16.wrap b).fdiv 1)))) -
         1)), true),
 (inb a && inb b, true),
 (inb a && inb b, true),
 ((IntKind.u8.wrap
       ((bits BinOp.or IntKind.u16 (bits BinOp.andNot IntKind.u16 (IntKind.u16.wrap a) 255)
             (IntKind.u16.wrap
               (IntKind.u16.wrap
                   (IntKind.u8.wrap
                     (IntKind.u32.wrap
                         (IntKind.u32.wrap
                             (IntKind.u32.wrap (IntKind.u16.wrap (IntKind.u8.wrap ((IntKind.u16.wrap a).fdiv 1))) -
                               IntKind.u32.wrap (IntKind.u16.wrap (IntKind.u8.wrap ((IntKind.u16.wrap b).fdiv 1)))) -
                           1) %
                       256)) *
                 1))).fdiv
         1) ==
     (a - b - 1) % 256) ==
   true, true),
 ((decide
         (128 ≤
           IntKind.u32.wrap
               (IntKind.u32.wrap
                   (IntKind.u32.wrap (IntKind.u16.wrap (IntKind.u8.wrap ((IntKind.u16.wrap a).fdiv 1))) -
                     IntKind.u32.wrap (IntKind.u16.wrap (IntKind.u8.wrap ((IntKind.u16.wrap b).fdiv 1)))) -
                 1) %
             256) ==
       decide (128 ≤ (a - b - 1) % 256) &&
     ((IntKind.u32.wrap
               (IntKind.u32.wrap
                   (IntKind.u32.wrap (IntKind.u16.wrap (IntKind.u8.wrap ((IntKind.u16.wrap a).fdiv 1))) -
                     IntKind.u32.wrap (IntKind.u16.wrap (IntKind.u8.wrap ((IntKind.u16.wrap b).fdiv 1)))) -
                 1) %
             256 ==
           0) ==
         ((a - b - 1) % 256 == 0) &&
       (decide
             (bits BinOp.and IntKind.u32
                 (IntKind.u32.wrap (IntKind.u16.wrap (IntKind.u8.wrap ((IntKind.u16.wrap a).fdiv 1)))) 15 <
               IntKind.u32.wrap
                 (bits BinOp.and IntKind.u32
                     (IntKind.u32.wrap (IntKind.u16.wrap (IntKind.u8.wrap ((IntKind.u16.wrap b).fdiv 1)))) 15 +
                   1)) ==
           !decide (15 < a % 16 + 15 - b % 16 + 0) &&
         (par
               (IntKind.u32.wrap
                   (IntKind.u32.wrap
                       (IntKind.u32.wrap (IntKind.u16.wrap (IntKind.u8.wrap ((IntKind.u16.wrap a).fdiv 1))) -
                         IntKind.u32.wrap (IntKind.u16.wrap (IntKind.u8.wrap ((IntKind.u16.wrap b).fdiv 1)))) -
                     1) %
                 256) ==
             par ((a - b - 1) % 256) &&
           ((IntKind.u32.wrap
                       (IntKind.u32.wrap
                           (IntKind.u32.wrap (IntKind.u16.wrap (IntKind.u8.wrap ((IntKind.u16.wrap a).fdiv 1))) -
                             IntKind.u32.wrap (IntKind.u16.wrap (IntKind.u8.wrap ((IntKind.u16.wrap b).fdiv 1)))) -
                         1) /
                     256 %
                   2 ==
                 1) ==
               decide (a - b - 1 < 0) &&
             true))))) ==
   true, true)], Value.bool true) := by kernel_rfl
theorem a8_5t (a : Int) (b : Int) (s : Bool) (z : Bool) (x : Bool) (p : Bool) (c : Bool) : (Ly.run ctxA 20000 [(295, true), (13, true), (13, true), (7, true), (16, true), (9, true)] (Ly.start
  Try.f4
  [Value.int IntKind.u8 a, Value.int IntKind.u8 b, Value.int IntKind.i64 5,
    Value.agg { toList := [Value.bool s, Value.bool z, Value.bool x, Value.bool p, Value.bool c] }]
  H0)).out? = some ([(c == true, true),
 (true &&
   in32
     (IntKind.u32.wrap
       (IntKind.u32.wrap
           (IntKind.u32.wrap (IntKind.u16.wrap (IntKind.u8.wrap ((IntKind.u16.wrap a).fdiv 1))) -
             IntKind.u32.wrap (IntKind.u16.wrap (IntKind.u8.wrap ((IntKind.u16.wrap b).fdiv 1)))) -
         0)), true),
 (inb a && inb b, true),
 (inb a && inb b, true),
 ((IntKind.u8.wrap
       ((bits BinOp.or IntKind.u16 (bits BinOp.andNot IntKind.u16 (IntKind.u16.wrap a) 255)
             (IntKind.u16.wrap
               (IntKind.u16.wrap
                   (IntKind.u8.wrap
                     (IntKind.u32.wrap
                         (IntKind.u32.wrap
                             (IntKind.u32.wrap (IntKind.u16.wrap (IntKind.u8.wrap ((IntKind.u16.wrap a).fdiv 1))) -
                               IntKind.u32.wrap (IntKind.u16.wrap (IntKind.u8.wrap ((IntKind.u16.wrap b).fdiv 1)))) -
                           0) %
                       256)) *
                 1))).fdiv
         1) ==
     (a - b - 0) % 256) ==
   true, true),
 ((decide
         (128 ≤
           IntKind.u32.wrap
               (IntKind.u32.wrap
                   (IntKind.u32.wrap (IntKind.u16.wrap (IntKind.u8.wrap ((IntKind.u16.wrap a).fdiv 1))) -
                     IntKind.u32.wrap (IntKind.u16.wrap (IntKind.u8.wrap ((IntKind.u16.wrap b).fdiv 1)))) -
                 0) %
             256) ==
       decide (128 ≤ (a - b - 0) % 256) &&
     ((IntKind.u32.wrap
               (IntKind.u32.wrap
                   (IntKind.u32.wrap (IntKind.u16.wrap (IntKind.u8.wrap ((IntKind.u16.wrap a).fdiv 1))) -
                     IntKind.u32.wrap (IntKind.u16.wrap (IntKind.u8.wrap ((IntKind.u16.wrap b).fdiv 1)))) -
                 0) %
             256 ==
           0) ==
         ((a - b - 0) % 256 == 0) &&
       (decide
             (bits BinOp.and IntKind.u32
                 (IntKind.u32.wrap (IntKind.u16.wrap (IntKind.u8.wrap ((IntKind.u16.wrap a).fdiv 1)))) 15 <
               IntKind.u32.wrap
                 (bits BinOp.and IntKind.u32
                     (IntKind.u32.wrap (IntKind.u16.wrap (IntKind.u8.wrap ((IntKind.u16.wrap b).fdiv 1)))) 15 +
                   0)) ==
           !decide (15 < a % 16 + 15 - b % 16 + 1) &&
         (par
               (IntKind.u32.wrap
                   (IntKind.u32.wrap
                       (IntKind.u32.wrap (IntKind.u16.wrap (IntKind.u8.wrap ((IntKind.u16.wrap a).fdiv 1))) -
                         IntKind.u32.wrap (IntKind.u16.wrap (IntKind.u8.wrap ((IntKind.u16.wrap b).fdiv 1)))) -
                     0) %
                 256) ==
             par ((a - b - 0) % 256) &&
           ((IntKind.u32.wrap
                       (IntKind.u32.wrap
                           (IntKind.u32.wrap (IntKind.u16.wrap (IntKind.u8.wrap ((IntKind.u16.wrap a).fdiv 1))) -
                             IntKind.u32.wrap (IntKind.u16.wrap (IntKind.u8.wrap ((IntKind.u16.wrap b).fdiv 1)))) -
                         0) /
                     256 %
                   2 ==
                 1) ==
               decide (a - b - 0 < 0) &&
             true))))) ==
   true, true)], Value.bool true) := by kernel_rfl
theorem a8_5f (a : Int) (b : Int) (s : Bool) (z : Bool) (x : Bool) (p : Bool) (c : Bool) : (Ly.run ctxA 20000 [(295, false), (10, true), (13, true), (7, true), (16, true), (9, true)] (Ly.start
  Try.f4
  [Value.int IntKind.u8 a, Value.int IntKind.u8 b, Value.int IntKind.i64 5,
    Value.agg { toList := [Value.bool s, Value.bool z, Value.bool x, Value.bool p, Value.bool c] }]
  H0)).out? = some ([(c == true, false),
 (true &&
   in32
     (IntKind.u32.wrap
       (IntKind.u32.wrap
           (IntKind.u32.wrap (IntKind.u16.wrap (IntKind.u8.wrap ((IntKind.u16.wrap a).fdiv 1))) -
             IntKind.u32.wrap (IntKind.u16.wrap (IntKind.u8.wrap ((IntKind.u16.wrap b).fdiv 1)))) -
         0)), true),
 (inb a && inb b, true),
 (inb a && inb b, true),
 ((IntKind.u8.wrap
       ((bits BinOp.or IntKind.u16 (bits BinOp.andNot IntKind.u16 (IntKind.u16.wrap a) 255)
             (IntKind.u16.wrap
               (IntKind.u16.wrap
                   (IntKind.u8.wrap
                     (IntKind.u32.wrap
                         (IntKind.u32.wrap
                             (IntKind.u32.wrap (IntKind.u16.wrap (IntKind.u8.wrap ((IntKind.u16.wrap a).fdiv 1))) -
                               IntKind.u32.wrap (IntKind.u16.wrap (IntKind.u8.wrap ((IntKind.u16.wrap b).fdiv 1)))) -
                           0) %
                       256)) *
                 1))).fdiv
         1) ==
     (a - b - 0) % 256) ==
   true, true),
 ((decide
         (128 ≤
           IntKind.u32.wrap
               (IntKind.u32.wrap
                   (IntKind.u32.wrap (IntKind.u16.wrap (IntKind.u8.wrap ((IntKind.u16.wrap a).fdiv 1))) -
                     IntKind.u32.wrap (IntKind.u16.wrap (IntKind.u8.wrap ((IntKind.u16.wrap b).fdiv 1)))) -
                 0) %
             256) ==
       decide (128 ≤ (a - b - 0) % 256) &&
     ((IntKind.u32.wrap
               (IntKind.u32.wrap
                   (IntKind.u32.wrap (IntKind.u16.wrap (IntKind.u8.wrap ((IntKind.u16.wrap a).fdiv 1))) -
                     IntKind.u32.wrap (IntKind.u16.wrap (IntKind.u8.wrap ((IntKind.u16.wrap b).fdiv 1)))) -
                 0) %
             256 ==
           0) ==
         ((a - b - 0) % 256 == 0) &&
       (decide
             (bits BinOp.and IntKind.u32
                 (IntKind.u32.wrap (IntKind.u16.wrap (IntKind.u8.wrap ((IntKind.u16.wrap a).fdiv 1)))) 15 <
               IntKind.u32.wrap
                 (bits BinOp.and IntKind.u32
                     (IntKind.u32.wrap (IntKind.u16.wrap (IntKind.u8.wrap ((IntKind.u16.wrap b).fdiv 1)))) 15 +
                   0)) ==
           !decide (15 < a % 16 + 15 - b % 16 + 1) &&
         (par
               (IntKind.u32.wrap
                   (IntKind.u32.wrap
                       (IntKind.u32.wrap (IntKind.u16.wrap (IntKind.u8.wrap ((IntKind.u16.wrap a).fdiv 1))) -
                         IntKind.u32.wrap (IntKind.u16.wrap (IntKind.u8.wrap ((IntKind.u16.wrap b).fdiv 1)))) -
                     0) %
                 256) ==
             par ((a - b - 0) % 256) &&
           ((IntKind.u32.wrap
                       (IntKind.u32.wrap
                           (IntKind.u32.wrap (IntKind.u16.wrap (IntKind.u8.wrap ((IntKind.u16.wrap a).fdiv 1))) -
                             IntKind.u32.wrap (IntKind.u16.wrap (IntKind.u8.wrap ((IntKind.u16.wrap b).fdiv 1)))) -
                         0) /
                     256 %
                   2 ==
                 1) ==
               decide (a - b - 0 < 0) &&
             true))))) ==
   true, true)], Value.bool true) := by kernel_rfl
theorem a8_7t (a : Int) (b : Int) (s : Bool) (z : Bool) (x : Bool) (p : Bool) (c : Bool) : (Ly.run ctxA 20000 [(295, true), (13, true), (7, true), (7, true), (16, true), (9, true)] (Ly.start
  Try.f4
  [Value.int IntKind.u8 a, Value.int IntKind.u8 b, Value.int IntKind.i64 7,
    Value.agg { toList := [Value.bool s, Value.bool z, Value.bool x, Value.bool p, Value.bool c] }]
  H0)).out? = some ([(c == true, true),
 (true &&
   in32
     (IntKind.u32.wrap
       (IntKind.u32.wrap
           (IntKind.u32.wrap (IntKind.u16.wrap (IntKind.u8.wrap ((IntKind.u16.wrap a).fdiv 1))) -
             IntKind.u32.wrap (IntKind.u16.wrap (IntKind.u8.wrap ((IntKind.u16.wrap b).fdiv 1)))) -
         0)), true),
 (inb a && inb b, true),
 (inb a && inb b, true),
 ((IntKind.u8.wrap ((IntKind.u16.wrap a).fdiv 1) == a) == true, true),
 ((decide
         (128 ≤
           IntKind.u32.wrap
               (IntKind.u32.wrap
                   (IntKind.u32.wrap (IntKind.u16.wrap (IntKind.u8.wrap ((IntKind.u16.wrap a).fdiv 1))) -
                     IntKind.u32.wrap (IntKind.u16.wrap (IntKind.u8.wrap ((IntKind.u16.wrap b).fdiv 1)))) -
                 0) %
             256) ==
       decide (128 ≤ (a - b - 0) % 256) &&
     ((IntKind.u32.wrap
               (IntKind.u32.wrap
                   (IntKind.u32.wrap (IntKind.u16.wrap (IntKind.u8.wrap ((IntKind.u16.wrap a).fdiv 1))) -
                     IntKind.u32.wrap (IntKind.u16.wrap (IntKind.u8.wrap ((IntKind.u16.wrap b).fdiv 1)))) -
                 0) %
             256 ==
           0) ==
         ((a - b - 0) % 256 == 0) &&
       (decide
             (bits BinOp.and IntKind.u32
                 (IntKind.u32.wrap (IntKind.u16.wrap (IntKind.u8.wrap ((IntKind.u16.wrap a).fdiv 1)))) 15 <
               IntKind.u32.wrap
                 (bits BinOp.and IntKind.u32
                     (IntKind.u32.wrap (IntKind.u16.wrap (IntKind.u8.wrap ((IntKind.u16.wrap b).fdiv 1)))) 15 +
                   0)) ==
           !decide (15 < a % 16 + 15 - b % 16 + 1) &&
         (par
               (IntKind.u32.wrap
                   (IntKind.u32.wrap
                       (IntKind.u32.wrap (IntKind.u16.wrap (IntKind.u8.wrap ((IntKind.u16.wrap a).fdiv 1))) -
                         IntKind.u32.wrap (IntKind.u16.wrap (IntKind.u8.wrap ((IntKind.u16.wrap b).fdiv 1)))) -
                     0) %
                 256) ==
             par ((a - b - 0) % 256) &&
           ((IntKind.u32.wrap
                       (IntKind.u32.wrap
                           (IntKind.u32.wrap (IntKind.u16.wrap (IntKind.u8.wrap ((IntKind.u16.wrap a).fdiv 1))) -
                             IntKind.u32.wrap (IntKind.u16.wrap (IntKind.u8.wrap ((IntKind.u16.wrap b).fdiv 1)))) -
                         0) /
                     256 %
                   2 ==
                 1) ==
               decide (a - b - 0 < 0) &&
             true))))) ==
   true, true)], Value.bool true) := by kernel_rfl
theorem a8_7f (a : Int) (b : Int) (s : Bool) (z : Bool) (x : Bool) (p : Bool) (c : Bool) : (Ly.run ctxA 20000 [(295, false), (10, true), (7, true), (7, true), (16, true), (9, true)] (Ly.start
  Try.f4
  [Value.int IntKind.u8 a, Value.int IntKind.u8 b, Value.int IntKind.i64 7,
    Value.agg { toList := [Value.bool s, Value.bool z, Value.bool x, Value.bool p, Value.bool c] }]
  H0)).out? = some ([(c == true, false),
 (true &&
   in32
     (IntKind.u32.wrap
       (IntKind.u32.wrap
           (IntKind.u32.wrap (IntKind.u16.wrap (IntKind.u8.wrap ((IntKind.u16.wrap a).fdiv 1))) -
             IntKind.u32.wrap (IntKind.u16.wrap (IntKind.u8.wrap ((IntKind.u16.wrap b).fdiv 1)))) -
         0)), true),
 (inb a && inb b, true),
 (inb a && inb b, true),
 ((IntKind.u8.wrap ((IntKind.u16.wrap a).fdiv 1) == a) == true, true),
 ((decide
         (128 ≤
           IntKind.u32.wrap
               (IntKind.u32.wrap
                   (IntKind.u32.wrap (IntKind.u16.wrap (IntKind.u8.wrap ((IntKind.u16.wrap a).fdiv 1))) -
                     IntKind.u32.wrap (IntKind.u16.wrap (IntKind.u8.wrap ((IntKind.u16.wrap b).fdiv 1)))) -
                 0) %
             256) ==
       decide (128 ≤ (a - b - 0) % 256) &&
     ((IntKind.u32.wrap
               (IntKind.u32.wrap
                   (IntKind.u32.wrap (IntKind.u16.wrap (IntKind.u8.wrap ((IntKind.u16.wrap a).fdiv 1))) -
                     IntKind.u32.wrap (IntKind.u16.wrap (IntKind.u8.wrap ((IntKind.u16.wrap b).fdiv 1)))) -
                 0) %
             256 ==
           0) ==
         ((a - b - 0) % 256 == 0) &&
       (decide
             (bits BinOp.and IntKind.u32
                 (IntKind.u32.wrap (IntKind.u16.wrap (IntKind.u8.wrap ((IntKind.u16.wrap a).fdiv 1)))) 15 <
               IntKind.u32.wrap
                 (bits BinOp.and IntKind.u32
                     (IntKind.u32.wrap (IntKind.u16.wrap (IntKind.u8.wrap ((IntKind.u16.wrap b).fdiv 1)))) 15 +
                   0)) ==
           !decide (15 < a % 16 + 15 - b % 16 + 1) &&
         (par
               (IntKind.u32.wrap
                   (IntKind.u32.wrap
                       (IntKind.u32.wrap (IntKind.u16.wrap (IntKind.u8.wrap ((IntKind.u16.wrap a).fdiv 1))) -
                         IntKind.u32.wrap (IntKind.u16.wrap (IntKind.u8.wrap ((IntKind.u16.wrap b).fdiv 1)))) -
                     0) %
                 256) ==
             par ((a - b - 0) % 256) &&
           ((IntKind.u32.wrap
                       (IntKind.u32.wrap
                           (IntKind.u32.wrap (IntKind.u16.wrap (IntKind.u8.wrap ((IntKind.u16.wrap a).fdiv 1))) -
                             IntKind.u32.wrap (IntKind.u16.wrap (IntKind.u8.wrap ((IntKind.u16.wrap b).fdiv 1)))) -
                         0) /
                     256 %
                   2 ==
                 1) ==
               decide (a - b - 0 < 0) &&
             true))))) ==
   true, true)], Value.bool true) := by kernel_rfl
end Go.Proofs.Ytnknopebjdgdjaa
