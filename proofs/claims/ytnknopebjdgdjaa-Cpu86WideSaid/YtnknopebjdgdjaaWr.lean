/- Cpu86Wide: the runs. By program (genw.py). -/
import Derived.Test.YtnknopebjdgdjaaWx
namespace Go.Proofs.Ytnknopebjdgdjaa
open Go Go.Ly Go.RowKit
set_option linter.unusedVariables false
set_option linter.unusedSimpArgs false
theorem w9_ftt (m : Int) (n : Int) (s : Bool) (z : Bool) (x : Bool) (p : Bool) (c : Bool) : (Ly.run ctxX 20000 [(381, true), (10, true), (218, true), (10, true), (221, true), (10, true), (31, true), (13, true), (13, true), (15, true)] (Ly.start
  Try.f9
  [Value.int IntKind.u16 m, Value.int IntKind.u16 n, Value.bool false,
    Value.agg { toList := [Value.bool s, Value.bool z, Value.bool x, Value.bool p, Value.bool c] }]
  H0)).out? = some ([(c == true, true),
 (true && in32 (IntKind.u32.wrap (IntKind.u32.wrap (IntKind.u32.wrap m + IntKind.u32.wrap n) + 0)), true),
 (c == true, true),
 (true &&
   in32
     (IntKind.u32.wrap
       (IntKind.u32.wrap
           (IntKind.u32.wrap (IntKind.u16.wrap (IntKind.u8.wrap (m.fdiv 1))) +
             IntKind.u32.wrap (IntKind.u16.wrap (IntKind.u8.wrap (n.fdiv 1)))) +
         0)), true),
 ((IntKind.u32.wrap
           (IntKind.u32.wrap
               (IntKind.u32.wrap (IntKind.u16.wrap (IntKind.u8.wrap (m.fdiv 1))) +
                 IntKind.u32.wrap (IntKind.u16.wrap (IntKind.u8.wrap (n.fdiv 1)))) +
             0) /
         256 %
       2 ==
     1) ==
   true, true),
 (true &&
   in32
     (IntKind.u32.wrap
       (IntKind.u32.wrap
           (IntKind.u32.wrap
               (IntKind.u16.wrap
                 (IntKind.u8.wrap
                   ((bits BinOp.or IntKind.u16 (bits BinOp.andNot IntKind.u16 m 255)
                         (IntKind.u16.wrap
                           (IntKind.u16.wrap
                               (IntKind.u8.wrap
                                 (IntKind.u32.wrap
                                     (IntKind.u32.wrap
                                         (IntKind.u32.wrap (IntKind.u16.wrap (IntKind.u8.wrap (m.fdiv 1))) +
                                           IntKind.u32.wrap (IntKind.u16.wrap (IntKind.u8.wrap (n.fdiv 1)))) +
                                       0) %
                                   256)) *
                             1))).fdiv
                     256))) +
             IntKind.u32.wrap (IntKind.u16.wrap (IntKind.u8.wrap (n.fdiv 256)))) +
         1)), true),
 ((IntKind.u32.wrap (IntKind.u32.wrap (IntKind.u32.wrap m + IntKind.u32.wrap n) + 0) % 65536 ==
     bits BinOp.or IntKind.u16
       (bits BinOp.andNot IntKind.u16
         (bits BinOp.or IntKind.u16 (bits BinOp.andNot IntKind.u16 m 255)
           (IntKind.u16.wrap
             (IntKind.u16.wrap
                 (IntKind.u8.wrap
                   (IntKind.u32.wrap
                       (IntKind.u32.wrap
                           (IntKind.u32.wrap (IntKind.u16.wrap (IntKind.u8.wrap (m.fdiv 1))) +
                             IntKind.u32.wrap (IntKind.u16.wrap (IntKind.u8.wrap (n.fdiv 1)))) +
                         0) %
                     256)) *
               1)))
         65280)
       (IntKind.u16.wrap
         (IntKind.u16.wrap
             (IntKind.u8.wrap
               (IntKind.u32.wrap
                   (IntKind.u32.wrap
                       (IntKind.u32.wrap
                           (IntKind.u16.wrap
                             (IntKind.u8.wrap
                               ((bits BinOp.or IntKind.u16 (bits BinOp.andNot IntKind.u16 m 255)
                                     (IntKind.u16.wrap
                                       (IntKind.u16.wrap
                                           (IntKind.u8.wrap
                                             (IntKind.u32.wrap
                                                 (IntKind.u32.wrap
                                                     (IntKind.u32.wrap (IntKind.u16.wrap (IntKind.u8.wrap (m.fdiv 1))) +
                                                       IntKind.u32.wrap
                                                         (IntKind.u16.wrap (IntKind.u8.wrap (n.fdiv 1)))) +
                                                   0) %
                                               256)) *
                                         1))).fdiv
                                 256))) +
                         IntKind.u32.wrap (IntKind.u16.wrap (IntKind.u8.wrap (n.fdiv 256)))) +
                     1) %
                 256)) *
           256))) ==
   true, true),
 (((IntKind.u32.wrap (IntKind.u32.wrap (IntKind.u32.wrap m + IntKind.u32.wrap n) + 0) / 65536 % 2 == 1) ==
     (IntKind.u32.wrap
             (IntKind.u32.wrap
                 (IntKind.u32.wrap
                     (IntKind.u16.wrap
                       (IntKind.u8.wrap
                         ((bits BinOp.or IntKind.u16 (bits BinOp.andNot IntKind.u16 m 255)
                               (IntKind.u16.wrap
                                 (IntKind.u16.wrap
                                     (IntKind.u8.wrap
                                       (IntKind.u32.wrap
                                           (IntKind.u32.wrap
                                               (IntKind.u32.wrap (IntKind.u16.wrap (IntKind.u8.wrap (m.fdiv 1))) +
                                                 IntKind.u32.wrap (IntKind.u16.wrap (IntKind.u8.wrap (n.fdiv 1)))) +
                                             0) %
                                         256)) *
                                   1))).fdiv
                           256))) +
                   IntKind.u32.wrap (IntKind.u16.wrap (IntKind.u8.wrap (n.fdiv 256)))) +
               1) /
           256 %
         2 ==
       1)) ==
   true, true),
 ((decide (32768 ≤ IntKind.u32.wrap (IntKind.u32.wrap (IntKind.u32.wrap m + IntKind.u32.wrap n) + 0) % 65536) ==
     decide
       (128 ≤
         IntKind.u32.wrap
             (IntKind.u32.wrap
                 (IntKind.u32.wrap
                     (IntKind.u16.wrap
                       (IntKind.u8.wrap
                         ((bits BinOp.or IntKind.u16 (bits BinOp.andNot IntKind.u16 m 255)
                               (IntKind.u16.wrap
                                 (IntKind.u16.wrap
                                     (IntKind.u8.wrap
                                       (IntKind.u32.wrap
                                           (IntKind.u32.wrap
                                               (IntKind.u32.wrap (IntKind.u16.wrap (IntKind.u8.wrap (m.fdiv 1))) +
                                                 IntKind.u32.wrap (IntKind.u16.wrap (IntKind.u8.wrap (n.fdiv 1)))) +
                                             0) %
                                         256)) *
                                   1))).fdiv
                           256))) +
                   IntKind.u32.wrap (IntKind.u16.wrap (IntKind.u8.wrap (n.fdiv 256)))) +
               1) %
           256)) ==
   true, true),
 (((IntKind.u32.wrap (IntKind.u32.wrap (IntKind.u32.wrap m + IntKind.u32.wrap n) + 0) % 65536 == 0) ==
     (IntKind.u32.wrap (IntKind.u32.wrap (IntKind.u32.wrap m + IntKind.u32.wrap n) + 0) % 65536 == 0)) ==
   true, true)], Value.bool true) := by kernel_rfl
theorem w9_ftf (m : Int) (n : Int) (s : Bool) (z : Bool) (x : Bool) (p : Bool) (c : Bool) : (Ly.run ctxX 20000 [(381, true), (10, true), (218, true), (10, true), (221, false), (7, true), (31, true), (13, true), (13, true), (15, true)] (Ly.start
  Try.f9
  [Value.int IntKind.u16 m, Value.int IntKind.u16 n, Value.bool false,
    Value.agg { toList := [Value.bool s, Value.bool z, Value.bool x, Value.bool p, Value.bool c] }]
  H0)).out? = some ([(c == true, true),
 (true && in32 (IntKind.u32.wrap (IntKind.u32.wrap (IntKind.u32.wrap m + IntKind.u32.wrap n) + 0)), true),
 (c == true, true),
 (true &&
   in32
     (IntKind.u32.wrap
       (IntKind.u32.wrap
           (IntKind.u32.wrap (IntKind.u16.wrap (IntKind.u8.wrap (m.fdiv 1))) +
             IntKind.u32.wrap (IntKind.u16.wrap (IntKind.u8.wrap (n.fdiv 1)))) +
         0)), true),
 ((IntKind.u32.wrap
           (IntKind.u32.wrap
               (IntKind.u32.wrap (IntKind.u16.wrap (IntKind.u8.wrap (m.fdiv 1))) +
                 IntKind.u32.wrap (IntKind.u16.wrap (IntKind.u8.wrap (n.fdiv 1)))) +
             0) /
         256 %
       2 ==
     1) ==
   true, false),
 (true &&
   in32
     (IntKind.u32.wrap
       (IntKind.u32.wrap
           (IntKind.u32.wrap
               (IntKind.u16.wrap
                 (IntKind.u8.wrap
                   ((bits BinOp.or IntKind.u16 (bits BinOp.andNot IntKind.u16 m 255)
                         (IntKind.u16.wrap
                           (IntKind.u16.wrap
                               (IntKind.u8.wrap
                                 (IntKind.u32.wrap
                                     (IntKind.u32.wrap
                                         (IntKind.u32.wrap (IntKind.u16.wrap (IntKind.u8.wrap (m.fdiv 1))) +
                                           IntKind.u32.wrap (IntKind.u16.wrap (IntKind.u8.wrap (n.fdiv 1)))) +
                                       0) %
                                   256)) *
                             1))).fdiv
                     256))) +
             IntKind.u32.wrap (IntKind.u16.wrap (IntKind.u8.wrap (n.fdiv 256)))) +
         0)), true),
 ((IntKind.u32.wrap (IntKind.u32.wrap (IntKind.u32.wrap m + IntKind.u32.wrap n) + 0) % 65536 ==
     bits BinOp.or IntKind.u16
       (bits BinOp.andNot IntKind.u16
         (bits BinOp.or IntKind.u16 (bits BinOp.andNot IntKind.u16 m 255)
           (IntKind.u16.wrap
             (IntKind.u16.wrap
                 (IntKind.u8.wrap
                   (IntKind.u32.wrap
                       (IntKind.u32.wrap
                           (IntKind.u32.wrap (IntKind.u16.wrap (IntKind.u8.wrap (m.fdiv 1))) +
                             IntKind.u32.wrap (IntKind.u16.wrap (IntKind.u8.wrap (n.fdiv 1)))) +
                         0) %
                     256)) *
               1)))
         65280)
       (IntKind.u16.wrap
         (IntKind.u16.wrap
             (IntKind.u8.wrap
               (IntKind.u32.wrap
                   (IntKind.u32.wrap
                       (IntKind.u32.wrap
                           (IntKind.u16.wrap
                             (IntKind.u8.wrap
                               ((bits BinOp.or IntKind.u16 (bits BinOp.andNot IntKind.u16 m 255)
                                     (IntKind.u16.wrap
                                       (IntKind.u16.wrap
                                           (IntKind.u8.wrap
                                             (IntKind.u32.wrap
                                                 (IntKind.u32.wrap
                                                     (IntKind.u32.wrap (IntKind.u16.wrap (IntKind.u8.wrap (m.fdiv 1))) +
                                                       IntKind.u32.wrap
                                                         (IntKind.u16.wrap (IntKind.u8.wrap (n.fdiv 1)))) +
                                                   0) %
                                               256)) *
                                         1))).fdiv
                                 256))) +
                         IntKind.u32.wrap (IntKind.u16.wrap (IntKind.u8.wrap (n.fdiv 256)))) +
                     0) %
                 256)) *
           256))) ==
   true, true),
 (((IntKind.u32.wrap (IntKind.u32.wrap (IntKind.u32.wrap m + IntKind.u32.wrap n) + 0) / 65536 % 2 == 1) ==
     (IntKind.u32.wrap
             (IntKind.u32.wrap
                 (IntKind.u32.wrap
                     (IntKind.u16.wrap
                       (IntKind.u8.wrap
                         ((bits BinOp.or IntKind.u16 (bits BinOp.andNot IntKind.u16 m 255)
                               (IntKind.u16.wrap
                                 (IntKind.u16.wrap
                                     (IntKind.u8.wrap
                                       (IntKind.u32.wrap
                                           (IntKind.u32.wrap
                                               (IntKind.u32.wrap (IntKind.u16.wrap (IntKind.u8.wrap (m.fdiv 1))) +
                                                 IntKind.u32.wrap (IntKind.u16.wrap (IntKind.u8.wrap (n.fdiv 1)))) +
                                             0) %
                                         256)) *
                                   1))).fdiv
                           256))) +
                   IntKind.u32.wrap (IntKind.u16.wrap (IntKind.u8.wrap (n.fdiv 256)))) +
               0) /
           256 %
         2 ==
       1)) ==
   true, true),
 ((decide (32768 ≤ IntKind.u32.wrap (IntKind.u32.wrap (IntKind.u32.wrap m + IntKind.u32.wrap n) + 0) % 65536) ==
     decide
       (128 ≤
         IntKind.u32.wrap
             (IntKind.u32.wrap
                 (IntKind.u32.wrap
                     (IntKind.u16.wrap
                       (IntKind.u8.wrap
                         ((bits BinOp.or IntKind.u16 (bits BinOp.andNot IntKind.u16 m 255)
                               (IntKind.u16.wrap
                                 (IntKind.u16.wrap
                                     (IntKind.u8.wrap
                                       (IntKind.u32.wrap
                                           (IntKind.u32.wrap
                                               (IntKind.u32.wrap (IntKind.u16.wrap (IntKind.u8.wrap (m.fdiv 1))) +
                                                 IntKind.u32.wrap (IntKind.u16.wrap (IntKind.u8.wrap (n.fdiv 1)))) +
                                             0) %
                                         256)) *
                                   1))).fdiv
                           256))) +
                   IntKind.u32.wrap (IntKind.u16.wrap (IntKind.u8.wrap (n.fdiv 256)))) +
               0) %
           256)) ==
   true, true),
 (((IntKind.u32.wrap (IntKind.u32.wrap (IntKind.u32.wrap m + IntKind.u32.wrap n) + 0) % 65536 == 0) ==
     (IntKind.u32.wrap (IntKind.u32.wrap (IntKind.u32.wrap m + IntKind.u32.wrap n) + 0) % 65536 == 0)) ==
   true, true)], Value.bool true) := by kernel_rfl
theorem w9_fft (m : Int) (n : Int) (s : Bool) (z : Bool) (x : Bool) (p : Bool) (c : Bool) : (Ly.run ctxX 20000 [(381, false), (7, true), (218, false), (7, true), (221, true), (10, true), (31, true), (13, true), (13, true), (15, true)] (Ly.start
  Try.f9
  [Value.int IntKind.u16 m, Value.int IntKind.u16 n, Value.bool false,
    Value.agg { toList := [Value.bool s, Value.bool z, Value.bool x, Value.bool p, Value.bool c] }]
  H0)).out? = some ([(c == true, false),
 (true && in32 (IntKind.u32.wrap (IntKind.u32.wrap (IntKind.u32.wrap m + IntKind.u32.wrap n) + 0)), true),
 (c == true, false),
 (true &&
   in32
     (IntKind.u32.wrap
       (IntKind.u32.wrap
           (IntKind.u32.wrap (IntKind.u16.wrap (IntKind.u8.wrap (m.fdiv 1))) +
             IntKind.u32.wrap (IntKind.u16.wrap (IntKind.u8.wrap (n.fdiv 1)))) +
         0)), true),
 ((IntKind.u32.wrap
           (IntKind.u32.wrap
               (IntKind.u32.wrap (IntKind.u16.wrap (IntKind.u8.wrap (m.fdiv 1))) +
                 IntKind.u32.wrap (IntKind.u16.wrap (IntKind.u8.wrap (n.fdiv 1)))) +
             0) /
         256 %
       2 ==
     1) ==
   true, true),
 (true &&
   in32
     (IntKind.u32.wrap
       (IntKind.u32.wrap
           (IntKind.u32.wrap
               (IntKind.u16.wrap
                 (IntKind.u8.wrap
                   ((bits BinOp.or IntKind.u16 (bits BinOp.andNot IntKind.u16 m 255)
                         (IntKind.u16.wrap
                           (IntKind.u16.wrap
                               (IntKind.u8.wrap
                                 (IntKind.u32.wrap
                                     (IntKind.u32.wrap
                                         (IntKind.u32.wrap (IntKind.u16.wrap (IntKind.u8.wrap (m.fdiv 1))) +
                                           IntKind.u32.wrap (IntKind.u16.wrap (IntKind.u8.wrap (n.fdiv 1)))) +
                                       0) %
                                   256)) *
                             1))).fdiv
                     256))) +
             IntKind.u32.wrap (IntKind.u16.wrap (IntKind.u8.wrap (n.fdiv 256)))) +
         1)), true),
 ((IntKind.u32.wrap (IntKind.u32.wrap (IntKind.u32.wrap m + IntKind.u32.wrap n) + 0) % 65536 ==
     bits BinOp.or IntKind.u16
       (bits BinOp.andNot IntKind.u16
         (bits BinOp.or IntKind.u16 (bits BinOp.andNot IntKind.u16 m 255)
           (IntKind.u16.wrap
             (IntKind.u16.wrap
                 (IntKind.u8.wrap
                   (IntKind.u32.wrap
                       (IntKind.u32.wrap
                           (IntKind.u32.wrap (IntKind.u16.wrap (IntKind.u8.wrap (m.fdiv 1))) +
                             IntKind.u32.wrap (IntKind.u16.wrap (IntKind.u8.wrap (n.fdiv 1)))) +
                         0) %
                     256)) *
               1)))
         65280)
       (IntKind.u16.wrap
         (IntKind.u16.wrap
             (IntKind.u8.wrap
               (IntKind.u32.wrap
                   (IntKind.u32.wrap
                       (IntKind.u32.wrap
                           (IntKind.u16.wrap
                             (IntKind.u8.wrap
                               ((bits BinOp.or IntKind.u16 (bits BinOp.andNot IntKind.u16 m 255)
                                     (IntKind.u16.wrap
                                       (IntKind.u16.wrap
                                           (IntKind.u8.wrap
                                             (IntKind.u32.wrap
                                                 (IntKind.u32.wrap
                                                     (IntKind.u32.wrap (IntKind.u16.wrap (IntKind.u8.wrap (m.fdiv 1))) +
                                                       IntKind.u32.wrap
                                                         (IntKind.u16.wrap (IntKind.u8.wrap (n.fdiv 1)))) +
                                                   0) %
                                               256)) *
                                         1))).fdiv
                                 256))) +
                         IntKind.u32.wrap (IntKind.u16.wrap (IntKind.u8.wrap (n.fdiv 256)))) +
                     1) %
                 256)) *
           256))) ==
   true, true),
 (((IntKind.u32.wrap (IntKind.u32.wrap (IntKind.u32.wrap m + IntKind.u32.wrap n) + 0) / 65536 % 2 == 1) ==
     (IntKind.u32.wrap
             (IntKind.u32.wrap
                 (IntKind.u32.wrap
                     (IntKind.u16.wrap
                       (IntKind.u8.wrap
                         ((bits BinOp.or IntKind.u16 (bits BinOp.andNot IntKind.u16 m 255)
                               (IntKind.u16.wrap
                                 (IntKind.u16.wrap
                                     (IntKind.u8.wrap
                                       (IntKind.u32.wrap
                                           (IntKind.u32.wrap
                                               (IntKind.u32.wrap (IntKind.u16.wrap (IntKind.u8.wrap (m.fdiv 1))) +
                                                 IntKind.u32.wrap (IntKind.u16.wrap (IntKind.u8.wrap (n.fdiv 1)))) +
                                             0) %
                                         256)) *
                                   1))).fdiv
                           256))) +
                   IntKind.u32.wrap (IntKind.u16.wrap (IntKind.u8.wrap (n.fdiv 256)))) +
               1) /
           256 %
         2 ==
       1)) ==
   true, true),
 ((decide (32768 ≤ IntKind.u32.wrap (IntKind.u32.wrap (IntKind.u32.wrap m + IntKind.u32.wrap n) + 0) % 65536) ==
     decide
       (128 ≤
         IntKind.u32.wrap
             (IntKind.u32.wrap
                 (IntKind.u32.wrap
                     (IntKind.u16.wrap
                       (IntKind.u8.wrap
                         ((bits BinOp.or IntKind.u16 (bits BinOp.andNot IntKind.u16 m 255)
                               (IntKind.u16.wrap
                                 (IntKind.u16.wrap
                                     (IntKind.u8.wrap
                                       (IntKind.u32.wrap
                                           (IntKind.u32.wrap
                                               (IntKind.u32.wrap (IntKind.u16.wrap (IntKind.u8.wrap (m.fdiv 1))) +
                                                 IntKind.u32.wrap (IntKind.u16.wrap (IntKind.u8.wrap (n.fdiv 1)))) +
                                             0) %
                                         256)) *
                                   1))).fdiv
                           256))) +
                   IntKind.u32.wrap (IntKind.u16.wrap (IntKind.u8.wrap (n.fdiv 256)))) +
               1) %
           256)) ==
   true, true),
 (((IntKind.u32.wrap (IntKind.u32.wrap (IntKind.u32.wrap m + IntKind.u32.wrap n) + 0) % 65536 == 0) ==
     (IntKind.u32.wrap (IntKind.u32.wrap (IntKind.u32.wrap m + IntKind.u32.wrap n) + 0) % 65536 == 0)) ==
   true, true)], Value.bool true) := by kernel_rfl
theorem w9_fff (m : Int) (n : Int) (s : Bool) (z : Bool) (x : Bool) (p : Bool) (c : Bool) : (Ly.run ctxX 20000 [(381, false), (7, true), (218, false), (7, true), (221, false), (7, true), (31, true), (13, true), (13, true), (15, true)] (Ly.start
  Try.f9
  [Value.int IntKind.u16 m, Value.int IntKind.u16 n, Value.bool false,
    Value.agg { toList := [Value.bool s, Value.bool z, Value.bool x, Value.bool p, Value.bool c] }]
  H0)).out? = some ([(c == true, false),
 (true && in32 (IntKind.u32.wrap (IntKind.u32.wrap (IntKind.u32.wrap m + IntKind.u32.wrap n) + 0)), true),
 (c == true, false),
 (true &&
   in32
     (IntKind.u32.wrap
       (IntKind.u32.wrap
           (IntKind.u32.wrap (IntKind.u16.wrap (IntKind.u8.wrap (m.fdiv 1))) +
             IntKind.u32.wrap (IntKind.u16.wrap (IntKind.u8.wrap (n.fdiv 1)))) +
         0)), true),
 ((IntKind.u32.wrap
           (IntKind.u32.wrap
               (IntKind.u32.wrap (IntKind.u16.wrap (IntKind.u8.wrap (m.fdiv 1))) +
                 IntKind.u32.wrap (IntKind.u16.wrap (IntKind.u8.wrap (n.fdiv 1)))) +
             0) /
         256 %
       2 ==
     1) ==
   true, false),
 (true &&
   in32
     (IntKind.u32.wrap
       (IntKind.u32.wrap
           (IntKind.u32.wrap
               (IntKind.u16.wrap
                 (IntKind.u8.wrap
                   ((bits BinOp.or IntKind.u16 (bits BinOp.andNot IntKind.u16 m 255)
                         (IntKind.u16.wrap
                           (IntKind.u16.wrap
                               (IntKind.u8.wrap
                                 (IntKind.u32.wrap
                                     (IntKind.u32.wrap
                                         (IntKind.u32.wrap (IntKind.u16.wrap (IntKind.u8.wrap (m.fdiv 1))) +
                                           IntKind.u32.wrap (IntKind.u16.wrap (IntKind.u8.wrap (n.fdiv 1)))) +
                                       0) %
                                   256)) *
                             1))).fdiv
                     256))) +
             IntKind.u32.wrap (IntKind.u16.wrap (IntKind.u8.wrap (n.fdiv 256)))) +
         0)), true),
 ((IntKind.u32.wrap (IntKind.u32.wrap (IntKind.u32.wrap m + IntKind.u32.wrap n) + 0) % 65536 ==
     bits BinOp.or IntKind.u16
       (bits BinOp.andNot IntKind.u16
         (bits BinOp.or IntKind.u16 (bits BinOp.andNot IntKind.u16 m 255)
           (IntKind.u16.wrap
             (IntKind.u16.wrap
                 (IntKind.u8.wrap
                   (IntKind.u32.wrap
                       (IntKind.u32.wrap
                           (IntKind.u32.wrap (IntKind.u16.wrap (IntKind.u8.wrap (m.fdiv 1))) +
                             IntKind.u32.wrap (IntKind.u16.wrap (IntKind.u8.wrap (n.fdiv 1)))) +
                         0) %
                     256)) *
               1)))
         65280)
       (IntKind.u16.wrap
         (IntKind.u16.wrap
             (IntKind.u8.wrap
               (IntKind.u32.wrap
                   (IntKind.u32.wrap
                       (IntKind.u32.wrap
                           (IntKind.u16.wrap
                             (IntKind.u8.wrap
                               ((bits BinOp.or IntKind.u16 (bits BinOp.andNot IntKind.u16 m 255)
                                     (IntKind.u16.wrap
                                       (IntKind.u16.wrap
                                           (IntKind.u8.wrap
                                             (IntKind.u32.wrap
                                                 (IntKind.u32.wrap
                                                     (IntKind.u32.wrap (IntKind.u16.wrap (IntKind.u8.wrap (m.fdiv 1))) +
                                                       IntKind.u32.wrap
                                                         (IntKind.u16.wrap (IntKind.u8.wrap (n.fdiv 1)))) +
                                                   0) %
                                               256)) *
                                         1))).fdiv
                                 256))) +
                         IntKind.u32.wrap (IntKind.u16.wrap (IntKind.u8.wrap (n.fdiv 256)))) +
                     0) %
                 256)) *
           256))) ==
   true, true),
 (((IntKind.u32.wrap (IntKind.u32.wrap (IntKind.u32.wrap m + IntKind.u32.wrap n) + 0) / 65536 % 2 == 1) ==
     (IntKind.u32.wrap
             (IntKind.u32.wrap
                 (IntKind.u32.wrap
                     (IntKind.u16.wrap
                       (IntKind.u8.wrap
                         ((bits BinOp.or IntKind.u16 (bits BinOp.andNot IntKind.u16 m 255)
                               (IntKind.u16.wrap
                                 (IntKind.u16.wrap
                                     (IntKind.u8.wrap
                                       (IntKind.u32.wrap
                                           (IntKind.u32.wrap
                                               (IntKind.u32.wrap (IntKind.u16.wrap (IntKind.u8.wrap (m.fdiv 1))) +
                                                 IntKind.u32.wrap (IntKind.u16.wrap (IntKind.u8.wrap (n.fdiv 1)))) +
                                             0) %
                                         256)) *
                                   1))).fdiv
                           256))) +
                   IntKind.u32.wrap (IntKind.u16.wrap (IntKind.u8.wrap (n.fdiv 256)))) +
               0) /
           256 %
         2 ==
       1)) ==
   true, true),
 ((decide (32768 ≤ IntKind.u32.wrap (IntKind.u32.wrap (IntKind.u32.wrap m + IntKind.u32.wrap n) + 0) % 65536) ==
     decide
       (128 ≤
         IntKind.u32.wrap
             (IntKind.u32.wrap
                 (IntKind.u32.wrap
                     (IntKind.u16.wrap
                       (IntKind.u8.wrap
                         ((bits BinOp.or IntKind.u16 (bits BinOp.andNot IntKind.u16 m 255)
                               (IntKind.u16.wrap
                                 (IntKind.u16.wrap
                                     (IntKind.u8.wrap
                                       (IntKind.u32.wrap
                                           (IntKind.u32.wrap
                                               (IntKind.u32.wrap (IntKind.u16.wrap (IntKind.u8.wrap (m.fdiv 1))) +
                                                 IntKind.u32.wrap (IntKind.u16.wrap (IntKind.u8.wrap (n.fdiv 1)))) +
                                             0) %
                                         256)) *
                                   1))).fdiv
                           256))) +
                   IntKind.u32.wrap (IntKind.u16.wrap (IntKind.u8.wrap (n.fdiv 256)))) +
               0) %
           256)) ==
   true, true),
 (((IntKind.u32.wrap (IntKind.u32.wrap (IntKind.u32.wrap m + IntKind.u32.wrap n) + 0) % 65536 == 0) ==
     (IntKind.u32.wrap (IntKind.u32.wrap (IntKind.u32.wrap m + IntKind.u32.wrap n) + 0) % 65536 == 0)) ==
   true, true)], Value.bool true) := by kernel_rfl
theorem w9_ttt (m : Int) (n : Int) (s : Bool) (z : Bool) (x : Bool) (p : Bool) (c : Bool) : (Ly.run ctxX 20000 [(381, true), (13, true), (218, true), (13, true), (221, true), (13, true), (31, true), (13, true), (13, true), (15, true)] (Ly.start
  Try.f9
  [Value.int IntKind.u16 m, Value.int IntKind.u16 n, Value.bool true,
    Value.agg { toList := [Value.bool s, Value.bool z, Value.bool x, Value.bool p, Value.bool c] }]
  H0)).out? = some ([(c == true, true),
 (true && in32 (IntKind.u32.wrap (IntKind.u32.wrap (IntKind.u32.wrap m - IntKind.u32.wrap n) - 0)), true),
 (c == true, true),
 (true &&
   in32
     (IntKind.u32.wrap
       (IntKind.u32.wrap
           (IntKind.u32.wrap (IntKind.u16.wrap (IntKind.u8.wrap (m.fdiv 1))) -
             IntKind.u32.wrap (IntKind.u16.wrap (IntKind.u8.wrap (n.fdiv 1)))) -
         0)), true),
 ((IntKind.u32.wrap
           (IntKind.u32.wrap
               (IntKind.u32.wrap (IntKind.u16.wrap (IntKind.u8.wrap (m.fdiv 1))) -
                 IntKind.u32.wrap (IntKind.u16.wrap (IntKind.u8.wrap (n.fdiv 1)))) -
             0) /
         256 %
       2 ==
     1) ==
   true, true),
 (true &&
   in32
     (IntKind.u32.wrap
       (IntKind.u32.wrap
           (IntKind.u32.wrap
               (IntKind.u16.wrap
                 (IntKind.u8.wrap
                   ((bits BinOp.or IntKind.u16 (bits BinOp.andNot IntKind.u16 m 255)
                         (IntKind.u16.wrap
                           (IntKind.u16.wrap
                               (IntKind.u8.wrap
                                 (IntKind.u32.wrap
                                     (IntKind.u32.wrap
                                         (IntKind.u32.wrap (IntKind.u16.wrap (IntKind.u8.wrap (m.fdiv 1))) -
                                           IntKind.u32.wrap (IntKind.u16.wrap (IntKind.u8.wrap (n.fdiv 1)))) -
                                       0) %
                                   256)) *
                             1))).fdiv
                     256))) -
             IntKind.u32.wrap (IntKind.u16.wrap (IntKind.u8.wrap (n.fdiv 256)))) -
         1)), true),
 ((IntKind.u32.wrap (IntKind.u32.wrap (IntKind.u32.wrap m - IntKind.u32.wrap n) - 0) % 65536 ==
     bits BinOp.or IntKind.u16
       (bits BinOp.andNot IntKind.u16
         (bits BinOp.or IntKind.u16 (bits BinOp.andNot IntKind.u16 m 255)
           (IntKind.u16.wrap
             (IntKind.u16.wrap
                 (IntKind.u8.wrap
                   (IntKind.u32.wrap
                       (IntKind.u32.wrap
                           (IntKind.u32.wrap (IntKind.u16.wrap (IntKind.u8.wrap (m.fdiv 1))) -
                             IntKind.u32.wrap (IntKind.u16.wrap (IntKind.u8.wrap (n.fdiv 1)))) -
                         0) %
                     256)) *
               1)))
         65280)
       (IntKind.u16.wrap
         (IntKind.u16.wrap
             (IntKind.u8.wrap
               (IntKind.u32.wrap
                   (IntKind.u32.wrap
                       (IntKind.u32.wrap
                           (IntKind.u16.wrap
                             (IntKind.u8.wrap
                               ((bits BinOp.or IntKind.u16 (bits BinOp.andNot IntKind.u16 m 255)
                                     (IntKind.u16.wrap
                                       (IntKind.u16.wrap
                                           (IntKind.u8.wrap
                                             (IntKind.u32.wrap
                                                 (IntKind.u32.wrap
                                                     (IntKind.u32.wrap (IntKind.u16.wrap (IntKind.u8.wrap (m.fdiv 1))) -
                                                       IntKind.u32.wrap
                                                         (IntKind.u16.wrap (IntKind.u8.wrap (n.fdiv 1)))) -
                                                   0) %
                                               256)) *
                                         1))).fdiv
                                 256))) -
                         IntKind.u32.wrap (IntKind.u16.wrap (IntKind.u8.wrap (n.fdiv 256)))) -
                     1) %
                 256)) *
           256))) ==
   true, true),
 (((IntKind.u32.wrap (IntKind.u32.wrap (IntKind.u32.wrap m - IntKind.u32.wrap n) - 0) / 65536 % 2 == 1) ==
     (IntKind.u32.wrap
             (IntKind.u32.wrap
                 (IntKind.u32.wrap
                     (IntKind.u16.wrap
                       (IntKind.u8.wrap
                         ((bits BinOp.or IntKind.u16 (bits BinOp.andNot IntKind.u16 m 255)
                               (IntKind.u16.wrap
                                 (IntKind.u16.wrap
                                     (IntKind.u8.wrap
                                       (IntKind.u32.wrap
                                           (IntKind.u32.wrap
                                               (IntKind.u32.wrap (IntKind.u16.wrap (IntKind.u8.wrap (m.fdiv 1))) -
                                                 IntKind.u32.wrap (IntKind.u16.wrap (IntKind.u8.wrap (n.fdiv 1)))) -
                                             0) %
                                         256)) *
                                   1))).fdiv
                           256))) -
                   IntKind.u32.wrap (IntKind.u16.wrap (IntKind.u8.wrap (n.fdiv 256)))) -
               1) /
           256 %
         2 ==
       1)) ==
   true, true),
 ((decide (32768 ≤ IntKind.u32.wrap (IntKind.u32.wrap (IntKind.u32.wrap m - IntKind.u32.wrap n) - 0) % 65536) ==
     decide
       (128 ≤
         IntKind.u32.wrap
             (IntKind.u32.wrap
                 (IntKind.u32.wrap
                     (IntKind.u16.wrap
                       (IntKind.u8.wrap
                         ((bits BinOp.or IntKind.u16 (bits BinOp.andNot IntKind.u16 m 255)
                               (IntKind.u16.wrap
                                 (IntKind.u16.wrap
                                     (IntKind.u8.wrap
                                       (IntKind.u32.wrap
                                           (IntKind.u32.wrap
                                               (IntKind.u32.wrap (IntKind.u16.wrap (IntKind.u8.wrap (m.fdiv 1))) -
                                                 IntKind.u32.wrap (IntKind.u16.wrap (IntKind.u8.wrap (n.fdiv 1)))) -
                                             0) %
                                         256)) *
                                   1))).fdiv
                           256))) -
                   IntKind.u32.wrap (IntKind.u16.wrap (IntKind.u8.wrap (n.fdiv 256)))) -
               1) %
           256)) ==
   true, true),
 (((IntKind.u32.wrap (IntKind.u32.wrap (IntKind.u32.wrap m - IntKind.u32.wrap n) - 0) % 65536 == 0) ==
     (IntKind.u32.wrap (IntKind.u32.wrap (IntKind.u32.wrap m - IntKind.u32.wrap n) - 0) % 65536 == 0)) ==
   true, true)], Value.bool true) := by kernel_rfl
theorem w9_ttf (m : Int) (n : Int) (s : Bool) (z : Bool) (x : Bool) (p : Bool) (c : Bool) : (Ly.run ctxX 20000 [(381, true), (13, true), (218, true), (13, true), (221, false), (10, true), (31, true), (13, true), (13, true), (15, true)] (Ly.start
  Try.f9
  [Value.int IntKind.u16 m, Value.int IntKind.u16 n, Value.bool true,
    Value.agg { toList := [Value.bool s, Value.bool z, Value.bool x, Value.bool p, Value.bool c] }]
  H0)).out? = some ([(c == true, true),
 (true && in32 (IntKind.u32.wrap (IntKind.u32.wrap (IntKind.u32.wrap m - IntKind.u32.wrap n) - 0)), true),
 (c == true, true),
 (true &&
   in32
     (IntKind.u32.wrap
       (IntKind.u32.wrap
           (IntKind.u32.wrap (IntKind.u16.wrap (IntKind.u8.wrap (m.fdiv 1))) -
             IntKind.u32.wrap (IntKind.u16.wrap (IntKind.u8.wrap (n.fdiv 1)))) -
         0)), true),
 ((IntKind.u32.wrap
           (IntKind.u32.wrap
               (IntKind.u32.wrap (IntKind.u16.wrap (IntKind.u8.wrap (m.fdiv 1))) -
                 IntKind.u32.wrap (IntKind.u16.wrap (IntKind.u8.wrap (n.fdiv 1)))) -
             0) /
         256 %
       2 ==
     1) ==
   true, false),
 (true &&
   in32
     (IntKind.u32.wrap
       (IntKind.u32.wrap
           (IntKind.u32.wrap
               (IntKind.u16.wrap
                 (IntKind.u8.wrap
                   ((bits BinOp.or IntKind.u16 (bits BinOp.andNot IntKind.u16 m 255)
                         (IntKind.u16.wrap
                           (IntKind.u16.wrap
                               (IntKind.u8.wrap
                                 (IntKind.u32.wrap
                                     (IntKind.u32.wrap
                                         (IntKind.u32.wrap (IntKind.u16.wrap (IntKind.u8.wrap (m.fdiv 1))) -
                                           IntKind.u32.wrap (IntKind.u16.wrap (IntKind.u8.wrap (n.fdiv 1)))) -
                                       0) %
                                   256)) *
                             1))).fdiv
                     256))) -
             IntKind.u32.wrap (IntKind.u16.wrap (IntKind.u8.wrap (n.fdiv 256)))) -
         0)), true),
 ((IntKind.u32.wrap (IntKind.u32.wrap (IntKind.u32.wrap m - IntKind.u32.wrap n) - 0) % 65536 ==
     bits BinOp.or IntKind.u16
       (bits BinOp.andNot IntKind.u16
         (bits BinOp.or IntKind.u16 (bits BinOp.andNot IntKind.u16 m 255)
           (IntKind.u16.wrap
             (IntKind.u16.wrap
                 (IntKind.u8.wrap
                   (IntKind.u32.wrap
                       (IntKind.u32.wrap
                           (IntKind.u32.wrap (IntKind.u16.wrap (IntKind.u8.wrap (m.fdiv 1))) -
                             IntKind.u32.wrap (IntKind.u16.wrap (IntKind.u8.wrap (n.fdiv 1)))) -
                         0) %
                     256)) *
               1)))
         65280)
       (IntKind.u16.wrap
         (IntKind.u16.wrap
             (IntKind.u8.wrap
               (IntKind.u32.wrap
                   (IntKind.u32.wrap
                       (IntKind.u32.wrap
                           (IntKind.u16.wrap
                             (IntKind.u8.wrap
                               ((bits BinOp.or IntKind.u16 (bits BinOp.andNot IntKind.u16 m 255)
                                     (IntKind.u16.wrap
                                       (IntKind.u16.wrap
                                           (IntKind.u8.wrap
                                             (IntKind.u32.wrap
                                                 (IntKind.u32.wrap
                                                     (IntKind.u32.wrap (IntKind.u16.wrap (IntKind.u8.wrap (m.fdiv 1))) -
                                                       IntKind.u32.wrap
                                                         (IntKind.u16.wrap (IntKind.u8.wrap (n.fdiv 1)))) -
                                                   0) %
                                               256)) *
                                         1))).fdiv
                                 256))) -
                         IntKind.u32.wrap (IntKind.u16.wrap (IntKind.u8.wrap (n.fdiv 256)))) -
                     0) %
                 256)) *
           256))) ==
   true, true),
 (((IntKind.u32.wrap (IntKind.u32.wrap (IntKind.u32.wrap m - IntKind.u32.wrap n) - 0) / 65536 % 2 == 1) ==
     (IntKind.u32.wrap
             (IntKind.u32.wrap
                 (IntKind.u32.wrap
                     (IntKind.u16.wrap
                       (IntKind.u8.wrap
                         ((bits BinOp.or IntKind.u16 (bits BinOp.andNot IntKind.u16 m 255)
                               (IntKind.u16.wrap
                                 (IntKind.u16.wrap
                                     (IntKind.u8.wrap
                                       (IntKind.u32.wrap
                                           (IntKind.u32.wrap
                                               (IntKind.u32.wrap (IntKind.u16.wrap (IntKind.u8.wrap (m.fdiv 1))) -
                                                 IntKind.u32.wrap (IntKind.u16.wrap (IntKind.u8.wrap (n.fdiv 1)))) -
                                             0) %
                                         256)) *
                                   1))).fdiv
                           256))) -
                   IntKind.u32.wrap (IntKind.u16.wrap (IntKind.u8.wrap (n.fdiv 256)))) -
               0) /
           256 %
         2 ==
       1)) ==
   true, true),
 ((decide (32768 ≤ IntKind.u32.wrap (IntKind.u32.wrap (IntKind.u32.wrap m - IntKind.u32.wrap n) - 0) % 65536) ==
     decide
       (128 ≤
         IntKind.u32.wrap
             (IntKind.u32.wrap
                 (IntKind.u32.wrap
                     (IntKind.u16.wrap
                       (IntKind.u8.wrap
                         ((bits BinOp.or IntKind.u16 (bits BinOp.andNot IntKind.u16 m 255)
                               (IntKind.u16.wrap
                                 (IntKind.u16.wrap
                                     (IntKind.u8.wrap
                                       (IntKind.u32.wrap
                                           (IntKind.u32.wrap
                                               (IntKind.u32.wrap (IntKind.u16.wrap (IntKind.u8.wrap (m.fdiv 1))) -
                                                 IntKind.u32.wrap (IntKind.u16.wrap (IntKind.u8.wrap (n.fdiv 1)))) -
                                             0) %
                                         256)) *
                                   1))).fdiv
                           256))) -
                   IntKind.u32.wrap (IntKind.u16.wrap (IntKind.u8.wrap (n.fdiv 256)))) -
               0) %
           256)) ==
   true, true),
 (((IntKind.u32.wrap (IntKind.u32.wrap (IntKind.u32.wrap m - IntKind.u32.wrap n) - 0) % 65536 == 0) ==
     (IntKind.u32.wrap (IntKind.u32.wrap (IntKind.u32.wrap m - IntKind.u32.wrap n) - 0) % 65536 == 0)) ==
   true, true)], Value.bool true) := by kernel_rfl
theorem w9_tft (m : Int) (n : Int) (s : Bool) (z : Bool) (x : Bool) (p : Bool) (c : Bool) : (Ly.run ctxX 20000 [(381, false), (10, true), (218, false), (10, true), (221, true), (13, true), (31, true), (13, true), (13, true), (15, true)] (Ly.start
  Try.f9
  [Value.int IntKind.u16 m, Value.int IntKind.u16 n, Value.bool true,
    Value.agg { toList := [Value.bool s, Value.bool z, Value.bool x, Value.bool p, Value.bool c] }]
  H0)).out? = some ([(c == true, false),
 (true && in32 (IntKind.u32.wrap (IntKind.u32.wrap (IntKind.u32.wrap m - IntKind.u32.wrap n) - 0)), true),
 (c == true, false),
 (true &&
   in32
     (IntKind.u32.wrap
       (IntKind.u32.wrap
           (IntKind.u32.wrap (IntKind.u16.wrap (IntKind.u8.wrap (m.fdiv 1))) -
             IntKind.u32.wrap (IntKind.u16.wrap (IntKind.u8.wrap (n.fdiv 1)))) -
         0)), true),
 ((IntKind.u32.wrap
           (IntKind.u32.wrap
               (IntKind.u32.wrap (IntKind.u16.wrap (IntKind.u8.wrap (m.fdiv 1))) -
                 IntKind.u32.wrap (IntKind.u16.wrap (IntKind.u8.wrap (n.fdiv 1)))) -
             0) /
         256 %
       2 ==
     1) ==
   true, true),
 (true &&
   in32
     (IntKind.u32.wrap
       (IntKind.u32.wrap
           (IntKind.u32.wrap
               (IntKind.u16.wrap
                 (IntKind.u8.wrap
                   ((bits BinOp.or IntKind.u16 (bits BinOp.andNot IntKind.u16 m 255)
                         (IntKind.u16.wrap
                           (IntKind.u16.wrap
                               (IntKind.u8.wrap
                                 (IntKind.u32.wrap
                                     (IntKind.u32.wrap
                                         (IntKind.u32.wrap (IntKind.u16.wrap (IntKind.u8.wrap (m.fdiv 1))) -
                                           IntKind.u32.wrap (IntKind.u16.wrap (IntKind.u8.wrap (n.fdiv 1)))) -
                                       0) %
                                   256)) *
                             1))).fdiv
                     256))) -
             IntKind.u32.wrap (IntKind.u16.wrap (IntKind.u8.wrap (n.fdiv 256)))) -
         1)), true),
 ((IntKind.u32.wrap (IntKind.u32.wrap (IntKind.u32.wrap m - IntKind.u32.wrap n) - 0) % 65536 ==
     bits BinOp.or IntKind.u16
       (bits BinOp.andNot IntKind.u16
         (bits BinOp.or IntKind.u16 (bits BinOp.andNot IntKind.u16 m 255)
           (IntKind.u16.wrap
             (IntKind.u16.wrap
                 (IntKind.u8.wrap
                   (IntKind.u32.wrap
                       (IntKind.u32.wrap
                           (IntKind.u32.wrap (IntKind.u16.wrap (IntKind.u8.wrap (m.fdiv 1))) -
                             IntKind.u32.wrap (IntKind.u16.wrap (IntKind.u8.wrap (n.fdiv 1)))) -
                         0) %
                     256)) *
               1)))
         65280)
       (IntKind.u16.wrap
         (IntKind.u16.wrap
             (IntKind.u8.wrap
               (IntKind.u32.wrap
                   (IntKind.u32.wrap
                       (IntKind.u32.wrap
                           (IntKind.u16.wrap
                             (IntKind.u8.wrap
                               ((bits BinOp.or IntKind.u16 (bits BinOp.andNot IntKind.u16 m 255)
                                     (IntKind.u16.wrap
                                       (IntKind.u16.wrap
                                           (IntKind.u8.wrap
                                             (IntKind.u32.wrap
                                                 (IntKind.u32.wrap
                                                     (IntKind.u32.wrap (IntKind.u16.wrap (IntKind.u8.wrap (m.fdiv 1))) -
                                                       IntKind.u32.wrap
                                                         (IntKind.u16.wrap (IntKind.u8.wrap (n.fdiv 1)))) -
                                                   0) %
                                               256)) *
                                         1))).fdiv
                                 256))) -
                         IntKind.u32.wrap (IntKind.u16.wrap (IntKind.u8.wrap (n.fdiv 256)))) -
                     1) %
                 256)) *
           256))) ==
   true, true),
 (((IntKind.u32.wrap (IntKind.u32.wrap (IntKind.u32.wrap m - IntKind.u32.wrap n) - 0) / 65536 % 2 == 1) ==
     (IntKind.u32.wrap
             (IntKind.u32.wrap
                 (IntKind.u32.wrap
                     (IntKind.u16.wrap
                       (IntKind.u8.wrap
                         ((bits BinOp.or IntKind.u16 (bits BinOp.andNot IntKind.u16 m 255)
                               (IntKind.u16.wrap
                                 (IntKind.u16.wrap
                                     (IntKind.u8.wrap
                                       (IntKind.u32.wrap
                                           (IntKind.u32.wrap
                                               (IntKind.u32.wrap (IntKind.u16.wrap (IntKind.u8.wrap (m.fdiv 1))) -
                                                 IntKind.u32.wrap (IntKind.u16.wrap (IntKind.u8.wrap (n.fdiv 1)))) -
                                             0) %
                                         256)) *
                                   1))).fdiv
                           256))) -
                   IntKind.u32.wrap (IntKind.u16.wrap (IntKind.u8.wrap (n.fdiv 256)))) -
               1) /
           256 %
         2 ==
       1)) ==
   true, true),
 ((decide (32768 ≤ IntKind.u32.wrap (IntKind.u32.wrap (IntKind.u32.wrap m - IntKind.u32.wrap n) - 0) % 65536) ==
     decide
       (128 ≤
         IntKind.u32.wrap
             (IntKind.u32.wrap
                 (IntKind.u32.wrap
                     (IntKind.u16.wrap
                       (IntKind.u8.wrap
                         ((bits BinOp.or IntKind.u16 (bits BinOp.andNot IntKind.u16 m 255)
                               (IntKind.u16.wrap
                                 (IntKind.u16.wrap
                                     (IntKind.u8.wrap
                                       (IntKind.u32.wrap
                                           (IntKind.u32.wrap
                                               (IntKind.u32.wrap (IntKind.u16.wrap (IntKind.u8.wrap (m.fdiv 1))) -
                                                 IntKind.u32.wrap (IntKind.u16.wrap (IntKind.u8.wrap (n.fdiv 1)))) -
                                             0) %
                                         256)) *
                                   1))).fdiv
                           256))) -
                   IntKind.u32.wrap (IntKind.u16.wrap (IntKind.u8.wrap (n.fdiv 256)))) -
               1) %
           256)) ==
   true, true),
 (((IntKind.u32.wrap (IntKind.u32.wrap (IntKind.u32.wrap m - IntKind.u32.wrap n) - 0) % 65536 == 0) ==
     (IntKind.u32.wrap (IntKind.u32.wrap (IntKind.u32.wrap m - IntKind.u32.wrap n) - 0) % 65536 == 0)) ==
   true, true)], Value.bool true) := by kernel_rfl
theorem w9_tff (m : Int) (n : Int) (s : Bool) (z : Bool) (x : Bool) (p : Bool) (c : Bool) : (Ly.run ctxX 20000 [(381, false), (10, true), (218, false), (10, true), (221, false), (10, true), (31, true), (13, true), (13, true), (15, true)] (Ly.start
  Try.f9
  [Value.int IntKind.u16 m, Value.int IntKind.u16 n, Value.bool true,
    Value.agg { toList := [Value.bool s, Value.bool z, Value.bool x, Value.bool p, Value.bool c] }]
  H0)).out? = some ([(c == true, false),
 (true && in32 (IntKind.u32.wrap (IntKind.u32.wrap (IntKind.u32.wrap m - IntKind.u32.wrap n) - 0)), true),
 (c == true, false),
 (true &&
   in32
     (IntKind.u32.wrap
       (IntKind.u32.wrap
           (IntKind.u32.wrap (IntKind.u16.wrap (IntKind.u8.wrap (m.fdiv 1))) -
             IntKind.u32.wrap (IntKind.u16.wrap (IntKind.u8.wrap (n.fdiv 1)))) -
         0)), true),
 ((IntKind.u32.wrap
           (IntKind.u32.wrap
               (IntKind.u32.wrap (IntKind.u16.wrap (IntKind.u8.wrap (m.fdiv 1))) -
                 IntKind.u32.wrap (IntKind.u16.wrap (IntKind.u8.wrap (n.fdiv 1)))) -
             0) /
         256 %
       2 ==
     1) ==
   true, false),
 (true &&
   in32
     (IntKind.u32.wrap
       (IntKind.u32.wrap
           (IntKind.u32.wrap
               (IntKind.u16.wrap
                 (IntKind.u8.wrap
                   ((bits BinOp.or IntKind.u16 (bits BinOp.andNot IntKind.u16 m 255)
                         (IntKind.u16.wrap
                           (IntKind.u16.wrap
                               (IntKind.u8.wrap
                                 (IntKind.u32.wrap
                                     (IntKind.u32.wrap
                                         (IntKind.u32.wrap (IntKind.u16.wrap (IntKind.u8.wrap (m.fdiv 1))) -
                                           IntKind.u32.wrap (IntKind.u16.wrap (IntKind.u8.wrap (n.fdiv 1)))) -
                                       0) %
                                   256)) *
                             1))).fdiv
                     256))) -
             IntKind.u32.wrap (IntKind.u16.wrap (IntKind.u8.wrap (n.fdiv 256)))) -
         0)), true),
 ((IntKind.u32.wrap (IntKind.u32.wrap (IntKind.u32.wrap m - IntKind.u32.wrap n) - 0) % 65536 ==
     bits BinOp.or IntKind.u16
       (bits BinOp.andNot IntKind.u16
         (bits BinOp.or IntKind.u16 (bits BinOp.andNot IntKind.u16 m 255)
           (IntKind.u16.wrap
             (IntKind.u16.wrap
                 (IntKind.u8.wrap
                   (IntKind.u32.wrap
                       (IntKind.u32.wrap
                           (IntKind.u32.wrap (IntKind.u16.wrap (IntKind.u8.wrap (m.fdiv 1))) -
                             IntKind.u32.wrap (IntKind.u16.wrap (IntKind.u8.wrap (n.fdiv 1)))) -
                         0) %
                     256)) *
               1)))
         65280)
       (IntKind.u16.wrap
         (IntKind.u16.wrap
             (IntKind.u8.wrap
               (IntKind.u32.wrap
                   (IntKind.u32.wrap
                       (IntKind.u32.wrap
                           (IntKind.u16.wrap
                             (IntKind.u8.wrap
                               ((bits BinOp.or IntKind.u16 (bits BinOp.andNot IntKind.u16 m 255)
                                     (IntKind.u16.wrap
                                       (IntKind.u16.wrap
                                           (IntKind.u8.wrap
                                             (IntKind.u32.wrap
                                                 (IntKind.u32.wrap
                                                     (IntKind.u32.wrap (IntKind.u16.wrap (IntKind.u8.wrap (m.fdiv 1))) -
                                                       IntKind.u32.wrap
                                                         (IntKind.u16.wrap (IntKind.u8.wrap (n.fdiv 1)))) -
                                                   0) %
                                               256)) *
                                         1))).fdiv
                                 256))) -
                         IntKind.u32.wrap (IntKind.u16.wrap (IntKind.u8.wrap (n.fdiv 256)))) -
                     0) %
                 256)) *
           256))) ==
   true, true),
 (((IntKind.u32.wrap (IntKind.u32.wrap (IntKind.u32.wrap m - IntKind.u32.wrap n) - 0) / 65536 % 2 == 1) ==
     (IntKind.u32.wrap
             (IntKind.u32.wrap
                 (IntKind.u32.wrap
                     (IntKind.u16.wrap
                       (IntKind.u8.wrap
                         ((bits BinOp.or IntKind.u16 (bits BinOp.andNot IntKind.u16 m 255)
                               (IntKind.u16.wrap
                                 (IntKind.u16.wrap
                                     (IntKind.u8.wrap
                                       (IntKind.u32.wrap
                                           (IntKind.u32.wrap
                                               (IntKind.u32.wrap (IntKind.u16.wrap (IntKind.u8.wrap (m.fdiv 1))) -
                                                 IntKind.u32.wrap (IntKind.u16.wrap (IntKind.u8.wrap (n.fdiv 1)))) -
                                             0) %
                                         256)) *
                                   1))).fdiv
                           256))) -
                   IntKind.u32.wrap (IntKind.u16.wrap (IntKind.u8.wrap (n.fdiv 256)))) -
               0) /
           256 %
         2 ==
       1)) ==
   true, true),
 ((decide (32768 ≤ IntKind.u32.wrap (IntKind.u32.wrap (IntKind.u32.wrap m - IntKind.u32.wrap n) - 0) % 65536) ==
     decide
       (128 ≤
         IntKind.u32.wrap
             (IntKind.u32.wrap
                 (IntKind.u32.wrap
                     (IntKind.u16.wrap
                       (IntKind.u8.wrap
                         ((bits BinOp.or IntKind.u16 (bits BinOp.andNot IntKind.u16 m 255)
                               (IntKind.u16.wrap
                                 (IntKind.u16.wrap
                                     (IntKind.u8.wrap
                                       (IntKind.u32.wrap
                                           (IntKind.u32.wrap
                                               (IntKind.u32.wrap (IntKind.u16.wrap (IntKind.u8.wrap (m.fdiv 1))) -
                                                 IntKind.u32.wrap (IntKind.u16.wrap (IntKind.u8.wrap (n.fdiv 1)))) -
                                             0) %
                                         256)) *
                                   1))).fdiv
                           256))) -
                   IntKind.u32.wrap (IntKind.u16.wrap (IntKind.u8.wrap (n.fdiv 256)))) -
               0) %
           256)) ==
   true, true),
 (((IntKind.u32.wrap (IntKind.u32.wrap (IntKind.u32.wrap m - IntKind.u32.wrap n) - 0) % 65536 == 0) ==
     (IntKind.u32.wrap (IntKind.u32.wrap (IntKind.u32.wrap m - IntKind.u32.wrap n) - 0) % 65536 == 0)) ==
   true, true)], Value.bool true) := by kernel_rfl
end Go.Proofs.Ytnknopebjdgdjaa
