/- The runs of the laws with all functions closed (printed by wip/tools/sx.sh from wip/word/laws.txt). -/
import Derived.Test.YtabhfbmaomkmhaaWCon
namespace Go.Proofs.Ytabhfbmaomkmhaa
open Go Go.Lx Go.RowKit
set_option linter.unusedVariables false
noncomputable def tens3T0 (a : Int) (b : Int) : List (Bool × Bool) := [(decide (99 < a) == false, true),
 (decide (99 < a) == false, true),
 (decide (99 < a), false),
 (decide (99 < b), true)]
noncomputable def tens3V0 (a : Int) (b : Int) : Value := Value.bool true
theorem tens3R0 (a : Int) (b : Int) : (Lx.run (xctx) 20000 [(0, true), (0, true), (0, false), (0, true)] (Lx.start Try.f3 ([Value.int
    IntKind.u8 a,
  Value.int IntKind.u8 b]) H0)).out? = some (tens3T0 a b, tens3V0 a b) := by kernel_rfl
noncomputable def tens3T1 (a : Int) (b : Int) : List (Bool × Bool) := [(decide (99 < a) == false, true),
 (decide (99 < a) == false, true),
 (decide (99 < a), false),
 (decide (99 < b), false),
 (inb (IntKind.u8.wrap (IntKind.u8.wrap (IntKind.u8.wrap (a.tdiv 10) * 16) + a.tmod 10)) &&
   inb (IntKind.u8.wrap (IntKind.u8.wrap (IntKind.u8.wrap (b.tdiv 10) * 16) + b.tmod 10)), true),
 (inb
   ((IntKind.u8.wrap (IntKind.u8.wrap (IntKind.u8.wrap (a.tdiv 10) * 16) + a.tmod 10) +
         IntKind.u8.wrap (IntKind.u8.wrap (IntKind.u8.wrap (b.tdiv 10) * 16) + b.tmod 10) +
       cI false) %
     256), true),
 ((IntKind.i64.wrap
       (((IntKind.u8.wrap (IntKind.u8.wrap (IntKind.u8.wrap (a.tdiv 10) * 16) + a.tmod 10) +
                   IntKind.u8.wrap (IntKind.u8.wrap (IntKind.u8.wrap (b.tdiv 10) * 16) + b.tmod 10) +
                 cI false) %
               256 +
             6 *
               cI
                 (daaL
                   ((IntKind.u8.wrap (IntKind.u8.wrap (IntKind.u8.wrap (a.tdiv 10) * 16) + a.tmod 10) +
                         IntKind.u8.wrap (IntKind.u8.wrap (IntKind.u8.wrap (b.tdiv 10) * 16) + b.tmod 10) +
                       cI false) %
                     256)
                   (decide
                     (15 <
                       IntKind.u8.wrap (IntKind.u8.wrap (IntKind.u8.wrap (a.tdiv 10) * 16) + a.tmod 10) % 16 +
                           IntKind.u8.wrap (IntKind.u8.wrap (IntKind.u8.wrap (b.tdiv 10) * 16) + b.tmod 10) % 16 +
                         cI false))) +
           96 *
             cI
               (daaH
                 ((IntKind.u8.wrap (IntKind.u8.wrap (IntKind.u8.wrap (a.tdiv 10) * 16) + a.tmod 10) +
                       IntKind.u8.wrap (IntKind.u8.wrap (IntKind.u8.wrap (b.tdiv 10) * 16) + b.tmod 10) +
                     cI false) %
                   256)
                 (decide
                   (15 <
                     IntKind.u8.wrap (IntKind.u8.wrap (IntKind.u8.wrap (a.tdiv 10) * 16) + a.tmod 10) % 16 +
                         IntKind.u8.wrap (IntKind.u8.wrap (IntKind.u8.wrap (b.tdiv 10) * 16) + b.tmod 10) % 16 +
                       cI false))
                 (decide
                   (255 <
                     IntKind.u8.wrap (IntKind.u8.wrap (IntKind.u8.wrap (a.tdiv 10) * 16) + a.tmod 10) +
                         IntKind.u8.wrap (IntKind.u8.wrap (IntKind.u8.wrap (b.tdiv 10) * 16) + b.tmod 10) +
                       cI false)))) %
         256) ==
     IntKind.i64.wrap
       (IntKind.i64.wrap
           ((IntKind.i64.wrap ((IntKind.i64.wrap (IntKind.i64.wrap a + IntKind.i64.wrap b)).tdiv 10)).tmod 10 * 16) +
         (IntKind.i64.wrap (IntKind.i64.wrap a + IntKind.i64.wrap b)).tmod 10)) ==
   true, true),
 ((IntKind.i64.wrap
       (((IntKind.u8.wrap (IntKind.u8.wrap (IntKind.u8.wrap (a.tdiv 10) * 16) + a.tmod 10) +
                   IntKind.u8.wrap (IntKind.u8.wrap (IntKind.u8.wrap (b.tdiv 10) * 16) + b.tmod 10) +
                 cI false) %
               256 +
             6 *
               cI
                 (daaL
                   ((IntKind.u8.wrap (IntKind.u8.wrap (IntKind.u8.wrap (a.tdiv 10) * 16) + a.tmod 10) +
                         IntKind.u8.wrap (IntKind.u8.wrap (IntKind.u8.wrap (b.tdiv 10) * 16) + b.tmod 10) +
                       cI false) %
                     256)
                   (decide
                     (15 <
                       IntKind.u8.wrap (IntKind.u8.wrap (IntKind.u8.wrap (a.tdiv 10) * 16) + a.tmod 10) % 16 +
                           IntKind.u8.wrap (IntKind.u8.wrap (IntKind.u8.wrap (b.tdiv 10) * 16) + b.tmod 10) % 16 +
                         cI false))) +
           96 *
             cI
               (daaH
                 ((IntKind.u8.wrap (IntKind.u8.wrap (IntKind.u8.wrap (a.tdiv 10) * 16) + a.tmod 10) +
                       IntKind.u8.wrap (IntKind.u8.wrap (IntKind.u8.wrap (b.tdiv 10) * 16) + b.tmod 10) +
                     cI false) %
                   256)
                 (decide
                   (15 <
                     IntKind.u8.wrap (IntKind.u8.wrap (IntKind.u8.wrap (a.tdiv 10) * 16) + a.tmod 10) % 16 +
                         IntKind.u8.wrap (IntKind.u8.wrap (IntKind.u8.wrap (b.tdiv 10) * 16) + b.tmod 10) % 16 +
                       cI false))
                 (decide
                   (255 <
                     IntKind.u8.wrap (IntKind.u8.wrap (IntKind.u8.wrap (a.tdiv 10) * 16) + a.tmod 10) +
                         IntKind.u8.wrap (IntKind.u8.wrap (IntKind.u8.wrap (b.tdiv 10) * 16) + b.tmod 10) +
                       cI false)))) %
         256) ==
     IntKind.i64.wrap
       (IntKind.i64.wrap
           ((IntKind.i64.wrap ((IntKind.i64.wrap (IntKind.i64.wrap a + IntKind.i64.wrap b)).tdiv 10)).tmod 10 * 16) +
         (IntKind.i64.wrap (IntKind.i64.wrap a + IntKind.i64.wrap b)).tmod 10)) ==
   true, true),
 ((IntKind.i64.wrap
       (((IntKind.u8.wrap (IntKind.u8.wrap (IntKind.u8.wrap (a.tdiv 10) * 16) + a.tmod 10) +
                   IntKind.u8.wrap (IntKind.u8.wrap (IntKind.u8.wrap (b.tdiv 10) * 16) + b.tmod 10) +
                 cI false) %
               256 +
             6 *
               cI
                 (daaL
                   ((IntKind.u8.wrap (IntKind.u8.wrap (IntKind.u8.wrap (a.tdiv 10) * 16) + a.tmod 10) +
                         IntKind.u8.wrap (IntKind.u8.wrap (IntKind.u8.wrap (b.tdiv 10) * 16) + b.tmod 10) +
                       cI false) %
                     256)
                   (decide
                     (15 <
                       IntKind.u8.wrap (IntKind.u8.wrap (IntKind.u8.wrap (a.tdiv 10) * 16) + a.tmod 10) % 16 +
                           IntKind.u8.wrap (IntKind.u8.wrap (IntKind.u8.wrap (b.tdiv 10) * 16) + b.tmod 10) % 16 +
                         cI false))) +
           96 *
             cI
               (daaH
                 ((IntKind.u8.wrap (IntKind.u8.wrap (IntKind.u8.wrap (a.tdiv 10) * 16) + a.tmod 10) +
                       IntKind.u8.wrap (IntKind.u8.wrap (IntKind.u8.wrap (b.tdiv 10) * 16) + b.tmod 10) +
                     cI false) %
                   256)
                 (decide
                   (15 <
                     IntKind.u8.wrap (IntKind.u8.wrap (IntKind.u8.wrap (a.tdiv 10) * 16) + a.tmod 10) % 16 +
                         IntKind.u8.wrap (IntKind.u8.wrap (IntKind.u8.wrap (b.tdiv 10) * 16) + b.tmod 10) % 16 +
                       cI false))
                 (decide
                   (255 <
                     IntKind.u8.wrap (IntKind.u8.wrap (IntKind.u8.wrap (a.tdiv 10) * 16) + a.tmod 10) +
                         IntKind.u8.wrap (IntKind.u8.wrap (IntKind.u8.wrap (b.tdiv 10) * 16) + b.tmod 10) +
                       cI false)))) %
         256) ==
     IntKind.i64.wrap
       (IntKind.i64.wrap
           ((IntKind.i64.wrap ((IntKind.i64.wrap (IntKind.i64.wrap a + IntKind.i64.wrap b)).tdiv 10)).tmod 10 * 16) +
         (IntKind.i64.wrap (IntKind.i64.wrap a + IntKind.i64.wrap b)).tmod 10)) ==
   true, true),
 ((IntKind.i64.wrap
       (((IntKind.u8.wrap (IntKind.u8.wrap (IntKind.u8.wrap (a.tdiv 10) * 16) + a.tmod 10) +
                   IntKind.u8.wrap (IntKind.u8.wrap (IntKind.u8.wrap (b.tdiv 10) * 16) + b.tmod 10) +
                 cI false) %
               256 +
             6 *
               cI
                 (daaL
                   ((IntKind.u8.wrap (IntKind.u8.wrap (IntKind.u8.wrap (a.tdiv 10) * 16) + a.tmod 10) +
                         IntKind.u8.wrap (IntKind.u8.wrap (IntKind.u8.wrap (b.tdiv 10) * 16) + b.tmod 10) +
                       cI false) %
                     256)
                   (decide
                     (15 <
                       IntKind.u8.wrap (IntKind.u8.wrap (IntKind.u8.wrap (a.tdiv 10) * 16) + a.tmod 10) % 16 +
                           IntKind.u8.wrap (IntKind.u8.wrap (IntKind.u8.wrap (b.tdiv 10) * 16) + b.tmod 10) % 16 +
                         cI false))) +
           96 *
             cI
               (daaH
                 ((IntKind.u8.wrap (IntKind.u8.wrap (IntKind.u8.wrap (a.tdiv 10) * 16) + a.tmod 10) +
                       IntKind.u8.wrap (IntKind.u8.wrap (IntKind.u8.wrap (b.tdiv 10) * 16) + b.tmod 10) +
                     cI false) %
                   256)
                 (decide
                   (15 <
                     IntKind.u8.wrap (IntKind.u8.wrap (IntKind.u8.wrap (a.tdiv 10) * 16) + a.tmod 10) % 16 +
                         IntKind.u8.wrap (IntKind.u8.wrap (IntKind.u8.wrap (b.tdiv 10) * 16) + b.tmod 10) % 16 +
                       cI false))
                 (decide
                   (255 <
                     IntKind.u8.wrap (IntKind.u8.wrap (IntKind.u8.wrap (a.tdiv 10) * 16) + a.tmod 10) +
                         IntKind.u8.wrap (IntKind.u8.wrap (IntKind.u8.wrap (b.tdiv 10) * 16) + b.tmod 10) +
                       cI false)))) %
         256) ==
     IntKind.i64.wrap
       (IntKind.i64.wrap
           ((IntKind.i64.wrap ((IntKind.i64.wrap (IntKind.i64.wrap a + IntKind.i64.wrap b)).tdiv 10)).tmod 10 * 16) +
         (IntKind.i64.wrap (IntKind.i64.wrap a + IntKind.i64.wrap b)).tmod 10)) ==
   true, true),
 ((IntKind.i64.wrap
       (((IntKind.u8.wrap (IntKind.u8.wrap (IntKind.u8.wrap (a.tdiv 10) * 16) + a.tmod 10) +
                   IntKind.u8.wrap (IntKind.u8.wrap (IntKind.u8.wrap (b.tdiv 10) * 16) + b.tmod 10) +
                 cI false) %
               256 +
             6 *
               cI
                 (daaL
                   ((IntKind.u8.wrap (IntKind.u8.wrap (IntKind.u8.wrap (a.tdiv 10) * 16) + a.tmod 10) +
                         IntKind.u8.wrap (IntKind.u8.wrap (IntKind.u8.wrap (b.tdiv 10) * 16) + b.tmod 10) +
                       cI false) %
                     256)
                   (decide
                     (15 <
                       IntKind.u8.wrap (IntKind.u8.wrap (IntKind.u8.wrap (a.tdiv 10) * 16) + a.tmod 10) % 16 +
                           IntKind.u8.wrap (IntKind.u8.wrap (IntKind.u8.wrap (b.tdiv 10) * 16) + b.tmod 10) % 16 +
                         cI false))) +
           96 *
             cI
               (daaH
                 ((IntKind.u8.wrap (IntKind.u8.wrap (IntKind.u8.wrap (a.tdiv 10) * 16) + a.tmod 10) +
                       IntKind.u8.wrap (IntKind.u8.wrap (IntKind.u8.wrap (b.tdiv 10) * 16) + b.tmod 10) +
                     cI false) %
                   256)
                 (decide
                   (15 <
                     IntKind.u8.wrap (IntKind.u8.wrap (IntKind.u8.wrap (a.tdiv 10) * 16) + a.tmod 10) % 16 +
                         IntKind.u8.wrap (IntKind.u8.wrap (IntKind.u8.wrap (b.tdiv 10) * 16) + b.tmod 10) % 16 +
                       cI false))
                 (decide
                   (255 <
                     IntKind.u8.wrap (IntKind.u8.wrap (IntKind.u8.wrap (a.tdiv 10) * 16) + a.tmod 10) +
                         IntKind.u8.wrap (IntKind.u8.wrap (IntKind.u8.wrap (b.tdiv 10) * 16) + b.tmod 10) +
                       cI false)))) %
         256) ==
     IntKind.i64.wrap
       (IntKind.i64.wrap
           ((IntKind.i64.wrap ((IntKind.i64.wrap (IntKind.i64.wrap a + IntKind.i64.wrap b)).tdiv 10)).tmod 10 * 16) +
         (IntKind.i64.wrap (IntKind.i64.wrap a + IntKind.i64.wrap b)).tmod 10)) ==
   true, true),
 (IntKind.i64.wrap
     (((IntKind.u8.wrap (IntKind.u8.wrap (IntKind.u8.wrap (a.tdiv 10) * 16) + a.tmod 10) +
                 IntKind.u8.wrap (IntKind.u8.wrap (IntKind.u8.wrap (b.tdiv 10) * 16) + b.tmod 10) +
               cI false) %
             256 +
           6 *
             cI
               (daaL
                 ((IntKind.u8.wrap (IntKind.u8.wrap (IntKind.u8.wrap (a.tdiv 10) * 16) + a.tmod 10) +
                       IntKind.u8.wrap (IntKind.u8.wrap (IntKind.u8.wrap (b.tdiv 10) * 16) + b.tmod 10) +
                     cI false) %
                   256)
                 (decide
                   (15 <
                     IntKind.u8.wrap (IntKind.u8.wrap (IntKind.u8.wrap (a.tdiv 10) * 16) + a.tmod 10) % 16 +
                         IntKind.u8.wrap (IntKind.u8.wrap (IntKind.u8.wrap (b.tdiv 10) * 16) + b.tmod 10) % 16 +
                       cI false))) +
         96 *
           cI
             (daaH
               ((IntKind.u8.wrap (IntKind.u8.wrap (IntKind.u8.wrap (a.tdiv 10) * 16) + a.tmod 10) +
                     IntKind.u8.wrap (IntKind.u8.wrap (IntKind.u8.wrap (b.tdiv 10) * 16) + b.tmod 10) +
                   cI false) %
                 256)
               (decide
                 (15 <
                   IntKind.u8.wrap (IntKind.u8.wrap (IntKind.u8.wrap (a.tdiv 10) * 16) + a.tmod 10) % 16 +
                       IntKind.u8.wrap (IntKind.u8.wrap (IntKind.u8.wrap (b.tdiv 10) * 16) + b.tmod 10) % 16 +
                     cI false))
               (decide
                 (255 <
                   IntKind.u8.wrap (IntKind.u8.wrap (IntKind.u8.wrap (a.tdiv 10) * 16) + a.tmod 10) +
                       IntKind.u8.wrap (IntKind.u8.wrap (IntKind.u8.wrap (b.tdiv 10) * 16) + b.tmod 10) +
                     cI false)))) %
       256) ==
   IntKind.i64.wrap
     (IntKind.i64.wrap
         ((IntKind.i64.wrap ((IntKind.i64.wrap (IntKind.i64.wrap a + IntKind.i64.wrap b)).tdiv 10)).tmod 10 * 16) +
       (IntKind.i64.wrap (IntKind.i64.wrap a + IntKind.i64.wrap b)).tmod 10), true),
 ((daaH
       ((IntKind.u8.wrap (IntKind.u8.wrap (IntKind.u8.wrap (a.tdiv 10) * 16) + a.tmod 10) +
             IntKind.u8.wrap (IntKind.u8.wrap (IntKind.u8.wrap (b.tdiv 10) * 16) + b.tmod 10) +
           cI false) %
         256)
       (decide
         (15 <
           IntKind.u8.wrap (IntKind.u8.wrap (IntKind.u8.wrap (a.tdiv 10) * 16) + a.tmod 10) % 16 +
               IntKind.u8.wrap (IntKind.u8.wrap (IntKind.u8.wrap (b.tdiv 10) * 16) + b.tmod 10) % 16 +
             cI false))
       (decide
         (255 <
           IntKind.u8.wrap (IntKind.u8.wrap (IntKind.u8.wrap (a.tdiv 10) * 16) + a.tmod 10) +
               IntKind.u8.wrap (IntKind.u8.wrap (IntKind.u8.wrap (b.tdiv 10) * 16) + b.tmod 10) +
             cI false)) ==
     decide (99 < IntKind.i64.wrap (IntKind.i64.wrap a + IntKind.i64.wrap b))) ==
   true, true),
 (daaH
     ((IntKind.u8.wrap (IntKind.u8.wrap (IntKind.u8.wrap (a.tdiv 10) * 16) + a.tmod 10) +
           IntKind.u8.wrap (IntKind.u8.wrap (IntKind.u8.wrap (b.tdiv 10) * 16) + b.tmod 10) +
         cI false) %
       256)
     (decide
       (15 <
         IntKind.u8.wrap (IntKind.u8.wrap (IntKind.u8.wrap (a.tdiv 10) * 16) + a.tmod 10) % 16 +
             IntKind.u8.wrap (IntKind.u8.wrap (IntKind.u8.wrap (b.tdiv 10) * 16) + b.tmod 10) % 16 +
           cI false))
     (decide
       (255 <
         IntKind.u8.wrap (IntKind.u8.wrap (IntKind.u8.wrap (a.tdiv 10) * 16) + a.tmod 10) +
             IntKind.u8.wrap (IntKind.u8.wrap (IntKind.u8.wrap (b.tdiv 10) * 16) + b.tmod 10) +
           cI false)) ==
   decide (99 < IntKind.i64.wrap (IntKind.i64.wrap a + IntKind.i64.wrap b)), true)]
noncomputable def tens3V1 (a : Int) (b : Int) : Value := Value.bool true
theorem tens3R1 (a : Int) (b : Int) : (Lx.run (xctx) 20000 [(0, true), (0, true), (0, false), (0, false), (4, true), (0, true), (3, true), (0, true), (0, true), (0, true), (0, true), (0, true), (0, true), (0, true)] (Lx.start Try.f3 ([Value.int
    IntKind.u8 a,
  Value.int IntKind.u8 b]) H0)).out? = some (tens3T1 a b, tens3V1 a b) := by kernel_rfl
noncomputable def tens3T4 (a : Int) (b : Int) : List (Bool × Bool) := [(decide (99 < a) == false, false),
 (decide (99 < a) == false, false),
 (decide (99 < a), true)]
noncomputable def tens3V4 (a : Int) (b : Int) : Value := Value.bool true
theorem tens3R4 (a : Int) (b : Int) : (Lx.run (xctx) 20000 [(0, false), (0, false), (0, true)] (Lx.start Try.f3 ([Value.int
    IntKind.u8 a,
  Value.int IntKind.u8 b]) H0)).out? = some (tens3T4 a b, tens3V4 a b) := by kernel_rfl
noncomputable def bits4T0 (a : Int) (b : Int) : List (Bool × Bool) := [(inb a && inb b, true),
 (inb a && inb b, true),
 (inb a && inb b, true),
 (inb a && inb b, true),
 (inb a && inb b, true),
 (inb a && inb b, true),
 ((bits BinOp.and IntKind.u8 a b == bits BinOp.and IntKind.u8 a b) == true, true),
 ((bits BinOp.and IntKind.u8 a b == bits BinOp.and IntKind.u8 a b) == true, true),
 ((bits BinOp.and IntKind.u8 a b == bits BinOp.and IntKind.u8 a b) == true, true),
 (bits BinOp.and IntKind.u8 a b == bits BinOp.and IntKind.u8 a b, true),
 ((bits BinOp.or IntKind.u8 a b == bits BinOp.or IntKind.u8 a b) == true, true),
 ((bits BinOp.or IntKind.u8 a b == bits BinOp.or IntKind.u8 a b) == true, true),
 ((bits BinOp.or IntKind.u8 a b == bits BinOp.or IntKind.u8 a b) == true, true),
 (bits BinOp.or IntKind.u8 a b == bits BinOp.or IntKind.u8 a b, true),
 ((bits BinOp.xor IntKind.u8 a b == bits BinOp.xor IntKind.u8 a b) == true, true),
 ((bits BinOp.xor IntKind.u8 a b == bits BinOp.xor IntKind.u8 a b) == true, true),
 ((bits BinOp.xor IntKind.u8 a b == bits BinOp.xor IntKind.u8 a b) == true, true),
 ((bits BinOp.xor IntKind.u8 a b == bits BinOp.xor IntKind.u8 a b) == true, true),
 (bits BinOp.xor IntKind.u8 a b == bits BinOp.xor IntKind.u8 a b, true),
 ((decide (128 ≤ bits BinOp.and IntKind.u8 a b) == decide (128 ≤ bits BinOp.and IntKind.u8 a b) &&
     ((bits BinOp.and IntKind.u8 a b == 0) == (bits BinOp.and IntKind.u8 a b == 0) &&
       ((bits BinOp.and IntKind.u8 (bits BinOp.or IntKind.u8 a b) 8 != 0) ==
           (bits BinOp.and IntKind.u8 (bits BinOp.or IntKind.u8 a b) 8 != 0) &&
         (par (bits BinOp.and IntKind.u8 a b) == par (bits BinOp.and IntKind.u8 a b) && (false == false && true))))) ==
   true, true),
 ((decide (128 ≤ bits BinOp.and IntKind.u8 a b) == decide (128 ≤ bits BinOp.and IntKind.u8 a b) &&
     ((bits BinOp.and IntKind.u8 a b == 0) == (bits BinOp.and IntKind.u8 a b == 0) &&
       ((bits BinOp.and IntKind.u8 (bits BinOp.or IntKind.u8 a b) 8 != 0) ==
           (bits BinOp.and IntKind.u8 (bits BinOp.or IntKind.u8 a b) 8 != 0) &&
         (par (bits BinOp.and IntKind.u8 a b) == par (bits BinOp.and IntKind.u8 a b) && (false == false && true))))) ==
   true, true),
 ((decide (128 ≤ bits BinOp.and IntKind.u8 a b) == decide (128 ≤ bits BinOp.and IntKind.u8 a b) &&
     ((bits BinOp.and IntKind.u8 a b == 0) == (bits BinOp.and IntKind.u8 a b == 0) &&
       ((bits BinOp.and IntKind.u8 (bits BinOp.or IntKind.u8 a b) 8 != 0) ==
           (bits BinOp.and IntKind.u8 (bits BinOp.or IntKind.u8 a b) 8 != 0) &&
         (par (bits BinOp.and IntKind.u8 a b) == par (bits BinOp.and IntKind.u8 a b) && (false == false && true))))) ==
   true, true),
 ((decide (128 ≤ bits BinOp.and IntKind.u8 a b) == decide (128 ≤ bits BinOp.and IntKind.u8 a b) &&
     ((bits BinOp.and IntKind.u8 a b == 0) == (bits BinOp.and IntKind.u8 a b == 0) &&
       ((bits BinOp.and IntKind.u8 (bits BinOp.or IntKind.u8 a b) 8 != 0) ==
           (bits BinOp.and IntKind.u8 (bits BinOp.or IntKind.u8 a b) 8 != 0) &&
         (par (bits BinOp.and IntKind.u8 a b) == par (bits BinOp.and IntKind.u8 a b) && (false == false && true))))) ==
   true, true),
 (decide (128 ≤ bits BinOp.and IntKind.u8 a b) == decide (128 ≤ bits BinOp.and IntKind.u8 a b) &&
   ((bits BinOp.and IntKind.u8 a b == 0) == (bits BinOp.and IntKind.u8 a b == 0) &&
     ((bits BinOp.and IntKind.u8 (bits BinOp.or IntKind.u8 a b) 8 != 0) ==
         (bits BinOp.and IntKind.u8 (bits BinOp.or IntKind.u8 a b) 8 != 0) &&
       (par (bits BinOp.and IntKind.u8 a b) == par (bits BinOp.and IntKind.u8 a b) &&
         (false == false && true)))), true),
 ((decide (128 ≤ bits BinOp.or IntKind.u8 a b) == decide (128 ≤ bits BinOp.or IntKind.u8 a b) &&
     ((bits BinOp.or IntKind.u8 a b == 0) == (bits BinOp.or IntKind.u8 a b == 0) &&
       (false == false &&
         (par (bits BinOp.or IntKind.u8 a b) == par (bits BinOp.or IntKind.u8 a b) && (false == false && true))))) ==
   true, true),
 ((decide (128 ≤ bits BinOp.or IntKind.u8 a b) == decide (128 ≤ bits BinOp.or IntKind.u8 a b) &&
     ((bits BinOp.or IntKind.u8 a b == 0) == (bits BinOp.or IntKind.u8 a b == 0) &&
       (false == false &&
         (par (bits BinOp.or IntKind.u8 a b) == par (bits BinOp.or IntKind.u8 a b) && (false == false && true))))) ==
   true, true),
 ((decide (128 ≤ bits BinOp.or IntKind.u8 a b) == decide (128 ≤ bits BinOp.or IntKind.u8 a b) &&
     ((bits BinOp.or IntKind.u8 a b == 0) == (bits BinOp.or IntKind.u8 a b == 0) &&
       (false == false &&
         (par (bits BinOp.or IntKind.u8 a b) == par (bits BinOp.or IntKind.u8 a b) && (false == false && true))))) ==
   true, true),
 ((decide (128 ≤ bits BinOp.or IntKind.u8 a b) == decide (128 ≤ bits BinOp.or IntKind.u8 a b) &&
     ((bits BinOp.or IntKind.u8 a b == 0) == (bits BinOp.or IntKind.u8 a b == 0) &&
       (false == false &&
         (par (bits BinOp.or IntKind.u8 a b) == par (bits BinOp.or IntKind.u8 a b) && (false == false && true))))) ==
   true, true),
 (decide (128 ≤ bits BinOp.or IntKind.u8 a b) == decide (128 ≤ bits BinOp.or IntKind.u8 a b) &&
   ((bits BinOp.or IntKind.u8 a b == 0) == (bits BinOp.or IntKind.u8 a b == 0) &&
     (false == false &&
       (par (bits BinOp.or IntKind.u8 a b) == par (bits BinOp.or IntKind.u8 a b) && (false == false && true)))), true),
 ((decide (128 ≤ bits BinOp.xor IntKind.u8 a b) == decide (128 ≤ bits BinOp.xor IntKind.u8 a b) &&
     ((bits BinOp.xor IntKind.u8 a b == 0) == (bits BinOp.xor IntKind.u8 a b == 0) &&
       (false == false &&
         (par (bits BinOp.xor IntKind.u8 a b) == par (bits BinOp.xor IntKind.u8 a b) && (false == false && true))))) ==
   true, true),
 (decide (128 ≤ bits BinOp.xor IntKind.u8 a b) == decide (128 ≤ bits BinOp.xor IntKind.u8 a b) &&
   ((bits BinOp.xor IntKind.u8 a b == 0) == (bits BinOp.xor IntKind.u8 a b == 0) &&
     (false == false &&
       (par (bits BinOp.xor IntKind.u8 a b) == par (bits BinOp.xor IntKind.u8 a b) &&
         (false == false && true)))), true)]
noncomputable def bits4V0 (a : Int) (b : Int) : Value := Value.bool true
theorem bits4R0 (a : Int) (b : Int) : (Lx.run (xctx) 20000 [(0, true), (0, true), (0, true), (0, true), (0, true), (0, true), (0, true), (0, true), (0, true), (0, true), (0, true), (0, true), (0, true), (0, true), (0, true), (0, true), (0, true), (0, true), (0, true), (0, true), (0, true), (0, true), (0, true), (0, true), (0, true), (0, true), (0, true), (0, true), (0, true), (0, true), (0, true)] (Lx.start Try.f4 ([Value.int
    IntKind.u8 a,
  Value.int IntKind.u8 b]) H0)).out? = some (bits4T0 a b, bits4V0 a b) := by kernel_rfl
noncomputable def wide5T0 (a : Int) (b : Int) : List (Bool × Bool) := [(decide (0 ≤ a) && decide (a ≤ 65535) &&
   (decide (0 ≤ b) && decide (b ≤ 65535)), true),
 (inb (IntKind.u8.wrap a) && inb (IntKind.u8.wrap b), true),
 (inb (IntKind.u8.wrap (a.fdiv (pw 8 IntKind.u16))) && inb (IntKind.u8.wrap (b.fdiv (pw 8 IntKind.u16))), true),
 (((a + b) % 65536 ==
     IntKind.u16.wrap
       (IntKind.u16.wrap
           (IntKind.u16.wrap
               ((IntKind.u8.wrap (a.fdiv (pw 8 IntKind.u16)) + IntKind.u8.wrap (b.fdiv (pw 8 IntKind.u16)) +
                   cI (decide (255 < IntKind.u8.wrap a + IntKind.u8.wrap b + cI false))) %
                 256) *
             pw 8 IntKind.u16) +
         IntKind.u16.wrap ((IntKind.u8.wrap a + IntKind.u8.wrap b + cI false) % 256))) ==
   true, true),
 (((a + b) % 65536 ==
     IntKind.u16.wrap
       (IntKind.u16.wrap
           (IntKind.u16.wrap
               ((IntKind.u8.wrap (a.fdiv (pw 8 IntKind.u16)) + IntKind.u8.wrap (b.fdiv (pw 8 IntKind.u16)) +
                   cI (decide (255 < IntKind.u8.wrap a + IntKind.u8.wrap b + cI false))) %
                 256) *
             pw 8 IntKind.u16) +
         IntKind.u16.wrap ((IntKind.u8.wrap a + IntKind.u8.wrap b + cI false) % 256))) ==
   true, true),
 (((a + b) % 65536 ==
     IntKind.u16.wrap
       (IntKind.u16.wrap
           (IntKind.u16.wrap
               ((IntKind.u8.wrap (a.fdiv (pw 8 IntKind.u16)) + IntKind.u8.wrap (b.fdiv (pw 8 IntKind.u16)) +
                   cI (decide (255 < IntKind.u8.wrap a + IntKind.u8.wrap b + cI false))) %
                 256) *
             pw 8 IntKind.u16) +
         IntKind.u16.wrap ((IntKind.u8.wrap a + IntKind.u8.wrap b + cI false) % 256))) ==
   true, true),
 (((a + b) % 65536 ==
     IntKind.u16.wrap
       (IntKind.u16.wrap
           (IntKind.u16.wrap
               ((IntKind.u8.wrap (a.fdiv (pw 8 IntKind.u16)) + IntKind.u8.wrap (b.fdiv (pw 8 IntKind.u16)) +
                   cI (decide (255 < IntKind.u8.wrap a + IntKind.u8.wrap b + cI false))) %
                 256) *
             pw 8 IntKind.u16) +
         IntKind.u16.wrap ((IntKind.u8.wrap a + IntKind.u8.wrap b + cI false) % 256))) ==
   true, true),
 ((a + b) % 65536 ==
   IntKind.u16.wrap
     (IntKind.u16.wrap
         (IntKind.u16.wrap
             ((IntKind.u8.wrap (a.fdiv (pw 8 IntKind.u16)) + IntKind.u8.wrap (b.fdiv (pw 8 IntKind.u16)) +
                 cI (decide (255 < IntKind.u8.wrap a + IntKind.u8.wrap b + cI false))) %
               256) *
           pw 8 IntKind.u16) +
       IntKind.u16.wrap ((IntKind.u8.wrap a + IntKind.u8.wrap b + cI false) % 256)), true),
 ((decide (65535 < a + b) ==
     decide
       (255 <
         IntKind.u8.wrap (a.fdiv (pw 8 IntKind.u16)) + IntKind.u8.wrap (b.fdiv (pw 8 IntKind.u16)) +
           cI (decide (255 < IntKind.u8.wrap a + IntKind.u8.wrap b + cI false)))) ==
   true, true),
 (decide (65535 < a + b) ==
   decide
     (255 <
       IntKind.u8.wrap (a.fdiv (pw 8 IntKind.u16)) + IntKind.u8.wrap (b.fdiv (pw 8 IntKind.u16)) +
         cI (decide (255 < IntKind.u8.wrap a + IntKind.u8.wrap b + cI false))), true)]
noncomputable def wide5V0 (a : Int) (b : Int) : Value := Value.bool true
theorem wide5R0 (a : Int) (b : Int) : (Lx.run (xctx) 20000 [(0, true), (0, true), (2, true), (1, true), (0, true), (0, true), (0, true), (0, true), (0, true), (0, true)] (Lx.start Try.f5 ([Value.int
    IntKind.u16 a,
  Value.int IntKind.u16 b]) H0)).out? = some (wide5T0 a b, wide5V0 a b) := by kernel_rfl
noncomputable def sums6T0 (a : Int) (b : Int) (c : Bool) : List (Bool × Bool) := [(inb a && inb b, true),
 (inb a && inb b, true),
 (inb a && inb b, true),
 (inb a && inb b, true),
 (((a + b + cI c) % 256 == (a + b + cI c) % 256) == true, true),
 (((a + b + cI c) % 256 == (a + b + cI c) % 256) == true, true),
 (((a + b + cI c) % 256 == (a + b + cI c) % 256) == true, true),
 (((a + b + cI c) % 256 == (a + b + cI c) % 256) == true, true),
 ((a + b + cI c) % 256 == (a + b + cI c) % 256, true),
 ((decide (128 ≤ (a + b + cI c) % 256) == decide (128 ≤ (a + b + cI c) % 256) &&
     (((a + b + cI c) % 256 == 0) == ((a + b + cI c) % 256 == 0) &&
       (decide (15 < a % 16 + b % 16 + cI c) == decide (15 < a % 16 + b % 16 + cI c) &&
         (par ((a + b + cI c) % 256) == par ((a + b + cI c) % 256) &&
           (decide (255 < a + b + cI c) == decide (255 < a + b + cI c) && true))))) ==
   true, true),
 ((decide (128 ≤ (a + b + cI c) % 256) == decide (128 ≤ (a + b + cI c) % 256) &&
     (((a + b + cI c) % 256 == 0) == ((a + b + cI c) % 256 == 0) &&
       (decide (15 < a % 16 + b % 16 + cI c) == decide (15 < a % 16 + b % 16 + cI c) &&
         (par ((a + b + cI c) % 256) == par ((a + b + cI c) % 256) &&
           (decide (255 < a + b + cI c) == decide (255 < a + b + cI c) && true))))) ==
   true, true),
 ((decide (128 ≤ (a + b + cI c) % 256) == decide (128 ≤ (a + b + cI c) % 256) &&
     (((a + b + cI c) % 256 == 0) == ((a + b + cI c) % 256 == 0) &&
       (decide (15 < a % 16 + b % 16 + cI c) == decide (15 < a % 16 + b % 16 + cI c) &&
         (par ((a + b + cI c) % 256) == par ((a + b + cI c) % 256) &&
           (decide (255 < a + b + cI c) == decide (255 < a + b + cI c) && true))))) ==
   true, true),
 (decide (128 ≤ (a + b + cI c) % 256) == decide (128 ≤ (a + b + cI c) % 256) &&
   (((a + b + cI c) % 256 == 0) == ((a + b + cI c) % 256 == 0) &&
     (decide (15 < a % 16 + b % 16 + cI c) == decide (15 < a % 16 + b % 16 + cI c) &&
       (par ((a + b + cI c) % 256) == par ((a + b + cI c) % 256) &&
         (decide (255 < a + b + cI c) == decide (255 < a + b + cI c) && true)))), true),
 (((a - b - cI c) % 256 == (a - b - cI c) % 256) == true, true),
 (((a - b - cI c) % 256 == (a - b - cI c) % 256) == true, true),
 (((a - b - cI c) % 256 == (a - b - cI c) % 256) == true, true),
 (((a - b - cI c) % 256 == (a - b - cI c) % 256) == true, true),
 ((a - b - cI c) % 256 == (a - b - cI c) % 256, true),
 ((decide (128 ≤ (a - b - cI c) % 256) == decide (128 ≤ (a - b - cI c) % 256) &&
     (((a - b - cI c) % 256 == 0) == ((a - b - cI c) % 256 == 0) &&
       (decide (15 < a % 16 + 15 - b % 16 + cI !c) == decide (15 < a % 16 + 15 - b % 16 + cI !c) &&
         (par ((a - b - cI c) % 256) == par ((a - b - cI c) % 256) &&
           (decide (a - b - cI c < 0) == decide (a - b - cI c < 0) && true))))) ==
   true, true),
 (decide (128 ≤ (a - b - cI c) % 256) == decide (128 ≤ (a - b - cI c) % 256) &&
   (((a - b - cI c) % 256 == 0) == ((a - b - cI c) % 256 == 0) &&
     (decide (15 < a % 16 + 15 - b % 16 + cI !c) == decide (15 < a % 16 + 15 - b % 16 + cI !c) &&
       (par ((a - b - cI c) % 256) == par ((a - b - cI c) % 256) &&
         (decide (a - b - cI c < 0) == decide (a - b - cI c < 0) && true)))), true)]
noncomputable def sums6V0 (a : Int) (b : Int) (c : Bool) : Value := Value.bool true
theorem sums6R0 (a : Int) (b : Int) (c : Bool) : (Lx.run (xctx) 20000 [(0, true), (0, true), (0, true), (0, true), (0, true), (0, true), (0, true), (0, true), (0, true), (0, true), (0, true), (0, true), (0, true), (0, true), (0, true), (0, true), (0, true), (0, true), (0, true), (0, true)] (Lx.start Try.f6 ([Value.int
    IntKind.u8 a,
  Value.int IntKind.u8 b, Value.bool c]) H0)).out? = some (sums6T0 a b c, sums6V0 a b c) := by kernel_rfl
noncomputable def signs7T0 (a : Int) (b : Int) (c : Bool) : List (Bool × Bool) := [(inb a && inb b, true),
 (inb a && inb b, true),
 (inb a && inb b, true),
 (inb a && inb b, true),
 (inb a && inb b, true),
 ((decide (128 ≤ (a + b + cI c) % 256) == decide (128 ≤ (a + b + cI c) % 256)) == true, true),
 ((decide (128 ≤ (a + b + cI c) % 256) == decide (128 ≤ (a + b + cI c) % 256)) == true, true),
 ((decide (128 ≤ (a + b + cI c) % 256) == decide (128 ≤ (a + b + cI c) % 256)) == true, true),
 ((decide (128 ≤ (a + b + cI c) % 256) == decide (128 ≤ (a + b + cI c) % 256)) == true, true),
 ((decide (128 ≤ (a + b + cI c) % 256) == decide (128 ≤ (a + b + cI c) % 256)) == true, true),
 (decide (128 ≤ (a + b + cI c) % 256) == decide (128 ≤ (a + b + cI c) % 256), true),
 ((((a + b + cI c) % 256 == 0) == ((a + b + cI c) % 256 == 0)) == true, true),
 ((((a + b + cI c) % 256 == 0) == ((a + b + cI c) % 256 == 0)) == true, true),
 ((((a + b + cI c) % 256 == 0) == ((a + b + cI c) % 256 == 0)) == true, true),
 ((((a + b + cI c) % 256 == 0) == ((a + b + cI c) % 256 == 0)) == true, true),
 (decide (0 ≤ (a + b + cI c) % 256) && decide ((a + b + cI c) % 256 ≤ 255), true),
 ((((a + b + cI c) % 256 == 0) == ((a + b + cI c) % 256 == 0)) == true, true),
 (((a + b + cI c) % 256 == 0) == ((a + b + cI c) % 256 == 0), true),
 ((par ((a + b + cI c) % 256) == par ((a + b + cI c) % 256)) == true, true),
 ((par ((a + b + cI c) % 256) == par ((a + b + cI c) % 256)) == true, true),
 ((par ((a + b + cI c) % 256) == par ((a + b + cI c) % 256)) == true, true),
 ((decide (128 ≤ (a - b - cI c) % 256) == decide (128 ≤ (a - b - cI c) % 256)) == true, true),
 ((decide (128 ≤ (a - b - cI c) % 256) == decide (128 ≤ (a - b - cI c) % 256)) == true, true),
 ((decide (128 ≤ (a - b - cI c) % 256) == decide (128 ≤ (a - b - cI c) % 256)) == true, true),
 ((decide (128 ≤ (a - b - cI c) % 256) == decide (128 ≤ (a - b - cI c) % 256)) == true, true),
 ((decide (128 ≤ (a - b - cI c) % 256) == decide (128 ≤ (a - b - cI c) % 256)) == true, true),
 (decide (128 ≤ (a - b - cI c) % 256) == decide (128 ≤ (a - b - cI c) % 256), true),
 ((((a - b - cI c) % 256 == 0) == ((a - b - cI c) % 256 == 0)) == true, true),
 ((((a - b - cI c) % 256 == 0) == ((a - b - cI c) % 256 == 0)) == true, true),
 ((((a - b - cI c) % 256 == 0) == ((a - b - cI c) % 256 == 0)) == true, true),
 ((((a - b - cI c) % 256 == 0) == ((a - b - cI c) % 256 == 0)) == true, true),
 (decide (0 ≤ (a - b - cI c) % 256) && decide ((a - b - cI c) % 256 ≤ 255), true),
 ((((a - b - cI c) % 256 == 0) == ((a - b - cI c) % 256 == 0)) == true, true),
 (((a - b - cI c) % 256 == 0) == ((a - b - cI c) % 256 == 0), true),
 (par ((a + b + cI c) % 256) == par ((a + b + cI c) % 256), true),
 ((par ((a - b - cI c) % 256) == par ((a - b - cI c) % 256)) == true, true),
 ((par ((a - b - cI c) % 256) == par ((a - b - cI c) % 256)) == true, true),
 ((par ((a - b - cI c) % 256) == par ((a - b - cI c) % 256)) == true, true),
 ((decide (128 ≤ bits BinOp.and IntKind.u8 a b) == decide (128 ≤ bits BinOp.and IntKind.u8 a b)) == true, true),
 ((decide (128 ≤ bits BinOp.and IntKind.u8 a b) == decide (128 ≤ bits BinOp.and IntKind.u8 a b)) == true, true),
 ((decide (128 ≤ bits BinOp.and IntKind.u8 a b) == decide (128 ≤ bits BinOp.and IntKind.u8 a b)) == true, true),
 ((decide (128 ≤ bits BinOp.and IntKind.u8 a b) == decide (128 ≤ bits BinOp.and IntKind.u8 a b)) == true, true),
 ((decide (128 ≤ bits BinOp.and IntKind.u8 a b) == decide (128 ≤ bits BinOp.and IntKind.u8 a b)) == true, true),
 (decide (128 ≤ bits BinOp.and IntKind.u8 a b) == decide (128 ≤ bits BinOp.and IntKind.u8 a b), true),
 (((bits BinOp.and IntKind.u8 a b == 0) == (bits BinOp.and IntKind.u8 a b == 0)) == true, true),
 (((bits BinOp.and IntKind.u8 a b == 0) == (bits BinOp.and IntKind.u8 a b == 0)) == true, true),
 (((bits BinOp.and IntKind.u8 a b == 0) == (bits BinOp.and IntKind.u8 a b == 0)) == true, true),
 (((bits BinOp.and IntKind.u8 a b == 0) == (bits BinOp.and IntKind.u8 a b == 0)) == true, true),
 (decide (0 ≤ bits BinOp.and IntKind.u8 a b) && decide (bits BinOp.and IntKind.u8 a b ≤ 255), true),
 (((bits BinOp.and IntKind.u8 a b == 0) == (bits BinOp.and IntKind.u8 a b == 0)) == true, true),
 ((bits BinOp.and IntKind.u8 a b == 0) == (bits BinOp.and IntKind.u8 a b == 0), true),
 (par ((a - b - cI c) % 256) == par ((a - b - cI c) % 256), true),
 ((par (bits BinOp.and IntKind.u8 a b) == par (bits BinOp.and IntKind.u8 a b)) == true, true),
 ((par (bits BinOp.and IntKind.u8 a b) == par (bits BinOp.and IntKind.u8 a b)) == true, true),
 ((par (bits BinOp.and IntKind.u8 a b) == par (bits BinOp.and IntKind.u8 a b)) == true, true),
 ((decide (128 ≤ bits BinOp.or IntKind.u8 a b) == decide (128 ≤ bits BinOp.or IntKind.u8 a b)) == true, true),
 ((decide (128 ≤ bits BinOp.or IntKind.u8 a b) == decide (128 ≤ bits BinOp.or IntKind.u8 a b)) == true, true),
 ((decide (128 ≤ bits BinOp.or IntKind.u8 a b) == decide (128 ≤ bits BinOp.or IntKind.u8 a b)) == true, true),
 ((decide (128 ≤ bits BinOp.or IntKind.u8 a b) == decide (128 ≤ bits BinOp.or IntKind.u8 a b)) == true, true),
 ((decide (128 ≤ bits BinOp.or IntKind.u8 a b) == decide (128 ≤ bits BinOp.or IntKind.u8 a b)) == true, true),
 (decide (128 ≤ bits BinOp.or IntKind.u8 a b) == decide (128 ≤ bits BinOp.or IntKind.u8 a b), true),
 (((bits BinOp.or IntKind.u8 a b == 0) == (bits BinOp.or IntKind.u8 a b == 0)) == true, true),
 (((bits BinOp.or IntKind.u8 a b == 0) == (bits BinOp.or IntKind.u8 a b == 0)) == true, true),
 (((bits BinOp.or IntKind.u8 a b == 0) == (bits BinOp.or IntKind.u8 a b == 0)) == true, true),
 (((bits BinOp.or IntKind.u8 a b == 0) == (bits BinOp.or IntKind.u8 a b == 0)) == true, true),
 (decide (0 ≤ bits BinOp.or IntKind.u8 a b) && decide (bits BinOp.or IntKind.u8 a b ≤ 255), true),
 (((bits BinOp.or IntKind.u8 a b == 0) == (bits BinOp.or IntKind.u8 a b == 0)) == true, true),
 ((bits BinOp.or IntKind.u8 a b == 0) == (bits BinOp.or IntKind.u8 a b == 0), true),
 (par (bits BinOp.and IntKind.u8 a b) == par (bits BinOp.and IntKind.u8 a b), true),
 ((par (bits BinOp.or IntKind.u8 a b) == par (bits BinOp.or IntKind.u8 a b)) == true, true),
 ((par (bits BinOp.or IntKind.u8 a b) == par (bits BinOp.or IntKind.u8 a b)) == true, true),
 ((par (bits BinOp.or IntKind.u8 a b) == par (bits BinOp.or IntKind.u8 a b)) == true, true),
 ((decide (128 ≤ bits BinOp.xor IntKind.u8 a b) == decide (128 ≤ bits BinOp.xor IntKind.u8 a b)) == true, true),
 ((decide (128 ≤ bits BinOp.xor IntKind.u8 a b) == decide (128 ≤ bits BinOp.xor IntKind.u8 a b)) == true, true),
 ((decide (128 ≤ bits BinOp.xor IntKind.u8 a b) == decide (128 ≤ bits BinOp.xor IntKind.u8 a b)) == true, true),
 ((decide (128 ≤ bits BinOp.xor IntKind.u8 a b) == decide (128 ≤ bits BinOp.xor IntKind.u8 a b)) == true, true),
 ((decide (128 ≤ bits BinOp.xor IntKind.u8 a b) == decide (128 ≤ bits BinOp.xor IntKind.u8 a b)) == true, true),
 (decide (128 ≤ bits BinOp.xor IntKind.u8 a b) == decide (128 ≤ bits BinOp.xor IntKind.u8 a b), true),
 (((bits BinOp.xor IntKind.u8 a b == 0) == (bits BinOp.xor IntKind.u8 a b == 0)) == true, true),
 (((bits BinOp.xor IntKind.u8 a b == 0) == (bits BinOp.xor IntKind.u8 a b == 0)) == true, true),
 (((bits BinOp.xor IntKind.u8 a b == 0) == (bits BinOp.xor IntKind.u8 a b == 0)) == true, true),
 (((bits BinOp.xor IntKind.u8 a b == 0) == (bits BinOp.xor IntKind.u8 a b == 0)) == true, true),
 (decide (0 ≤ bits BinOp.xor IntKind.u8 a b) && decide (bits BinOp.xor IntKind.u8 a b ≤ 255), true),
 (((bits BinOp.xor IntKind.u8 a b == 0) == (bits BinOp.xor IntKind.u8 a b == 0)) == true, true),
 ((bits BinOp.xor IntKind.u8 a b == 0) == (bits BinOp.xor IntKind.u8 a b == 0), true),
 (par (bits BinOp.or IntKind.u8 a b) == par (bits BinOp.or IntKind.u8 a b), true),
 ((par (bits BinOp.xor IntKind.u8 a b) == par (bits BinOp.xor IntKind.u8 a b)) == true, true),
 ((par (bits BinOp.xor IntKind.u8 a b) == par (bits BinOp.xor IntKind.u8 a b)) == true, true),
 ((par (bits BinOp.xor IntKind.u8 a b) == par (bits BinOp.xor IntKind.u8 a b)) == true, true),
 (par (bits BinOp.xor IntKind.u8 a b) == par (bits BinOp.xor IntKind.u8 a b), true)]
noncomputable def signs7V0 (a : Int) (b : Int) (c : Bool) : Value := Value.bool true
theorem signs7R0 (a : Int) (b : Int) (c : Bool) : (Lx.run (xctx) 20000 [(0, true), (0, true), (0, true), (0, true), (0, true), (0, true), (0, true), (0, true), (0, true), (0, true), (0, true), (0, true), (0, true), (0, true), (0, true), (0, true), (0, true), (0, true), (0, true), (0, true), (0, true), (0, true), (0, true), (0, true), (0, true), (0, true), (0, true), (0, true), (0, true), (0, true), (0, true), (0, true), (0, true), (0, true), (0, true), (0, true), (0, true), (0, true), (0, true), (0, true), (0, true), (0, true), (0, true), (0, true), (0, true), (0, true), (0, true), (0, true), (0, true), (0, true), (0, true), (0, true), (0, true), (0, true), (0, true), (0, true), (0, true), (0, true), (0, true), (0, true), (0, true), (0, true), (0, true), (0, true), (0, true), (0, true), (0, true), (0, true), (0, true), (0, true), (0, true), (0, true), (0, true), (0, true), (0, true), (0, true), (0, true), (0, true), (0, true), (0, true), (0, true), (0, true), (0, true), (0, true), (0, true), (0, true), (0, true), (0, true), (0, true), (0, true)] (Lx.start Try.f7 ([Value.int
    IntKind.u8 a,
  Value.int IntKind.u8 b, Value.bool c]) H0)).out? = some (signs7T0 a b c, signs7V0 a b c) := by kernel_rfl
noncomputable def steps8T0 (a : Int) (s : Bool) (z : Bool) (x : Bool) (p : Bool) (c : Bool) : List (Bool × Bool) := [(inb
   a, true),
 (inb a, true),
 (inb a, true),
 (inb a, true),
 (inb a, true),
 (inb a, true),
 (((a + 1) % 256 == (a + 1) % 256) == true, true),
 (((a + 1) % 256 == (a + 1) % 256) == true, true),
 (((a + 1) % 256 == (a + 1) % 256) == true, true),
 ((a + 1) % 256 == (a + 1) % 256, true),
 (((a - 1) % 256 == (a - 1) % 256) == true, true),
 (((a - 1) % 256 == (a - 1) % 256) == true, true),
 (((a - 1) % 256 == (a - 1) % 256) == true, true),
 ((a - 1) % 256 == (a - 1) % 256, true),
 (((a + 6 * cI (daaL a x) + 96 * cI (daaH a x c)) % 256 == (a + 6 * cI (daaL a x) + 96 * cI (daaH a x c)) % 256) ==
   true, true),
 (((a + 6 * cI (daaL a x) + 96 * cI (daaH a x c)) % 256 == (a + 6 * cI (daaL a x) + 96 * cI (daaH a x c)) % 256) ==
   true, true),
 (((a + 6 * cI (daaL a x) + 96 * cI (daaH a x c)) % 256 == (a + 6 * cI (daaL a x) + 96 * cI (daaH a x c)) % 256) ==
   true, true),
 (((a + 6 * cI (daaL a x) + 96 * cI (daaH a x c)) % 256 == (a + 6 * cI (daaL a x) + 96 * cI (daaH a x c)) % 256) ==
   true, true),
 ((a + 6 * cI (daaL a x) + 96 * cI (daaH a x c)) % 256 == (a + 6 * cI (daaL a x) + 96 * cI (daaH a x c)) % 256, true),
 ((decide (128 ≤ (a + 1) % 256) == decide (128 ≤ (a + 1) % 256) &&
     (((a + 1) % 256 == 0) == ((a + 1) % 256 == 0) &&
       (decide (15 < a % 16 + 1) == decide (15 < a % 16 + 1) &&
         (par ((a + 1) % 256) == par ((a + 1) % 256) && (c == c && true))))) ==
   true, true),
 ((decide (128 ≤ (a + 1) % 256) == decide (128 ≤ (a + 1) % 256) &&
     (((a + 1) % 256 == 0) == ((a + 1) % 256 == 0) &&
       (decide (15 < a % 16 + 1) == decide (15 < a % 16 + 1) &&
         (par ((a + 1) % 256) == par ((a + 1) % 256) && (c == c && true))))) ==
   true, true),
 ((decide (128 ≤ (a + 1) % 256) == decide (128 ≤ (a + 1) % 256) &&
     (((a + 1) % 256 == 0) == ((a + 1) % 256 == 0) &&
       (decide (15 < a % 16 + 1) == decide (15 < a % 16 + 1) &&
         (par ((a + 1) % 256) == par ((a + 1) % 256) && (c == c && true))))) ==
   true, true),
 ((decide (128 ≤ (a + 1) % 256) == decide (128 ≤ (a + 1) % 256) &&
     (((a + 1) % 256 == 0) == ((a + 1) % 256 == 0) &&
       (decide (15 < a % 16 + 1) == decide (15 < a % 16 + 1) &&
         (par ((a + 1) % 256) == par ((a + 1) % 256) && (c == c && true))))) ==
   true, true),
 (decide (128 ≤ (a + 1) % 256) == decide (128 ≤ (a + 1) % 256) &&
   (((a + 1) % 256 == 0) == ((a + 1) % 256 == 0) &&
     (decide (15 < a % 16 + 1) == decide (15 < a % 16 + 1) &&
       (par ((a + 1) % 256) == par ((a + 1) % 256) && (c == c && true)))), true),
 ((decide (128 ≤ (a - 1) % 256) == decide (128 ≤ (a - 1) % 256) &&
     (((a - 1) % 256 == 0) == ((a - 1) % 256 == 0) &&
       (decide (15 < a % 16 + 15) == decide (15 < a % 16 + 15) &&
         (par ((a - 1) % 256) == par ((a - 1) % 256) && (c == c && true))))) ==
   true, true),
 ((decide (128 ≤ (a - 1) % 256) == decide (128 ≤ (a - 1) % 256) &&
     (((a - 1) % 256 == 0) == ((a - 1) % 256 == 0) &&
       (decide (15 < a % 16 + 15) == decide (15 < a % 16 + 15) &&
         (par ((a - 1) % 256) == par ((a - 1) % 256) && (c == c && true))))) ==
   true, true),
 ((decide (128 ≤ (a - 1) % 256) == decide (128 ≤ (a - 1) % 256) &&
     (((a - 1) % 256 == 0) == ((a - 1) % 256 == 0) &&
       (decide (15 < a % 16 + 15) == decide (15 < a % 16 + 15) &&
         (par ((a - 1) % 256) == par ((a - 1) % 256) && (c == c && true))))) ==
   true, true),
 ((decide (128 ≤ (a - 1) % 256) == decide (128 ≤ (a - 1) % 256) &&
     (((a - 1) % 256 == 0) == ((a - 1) % 256 == 0) &&
       (decide (15 < a % 16 + 15) == decide (15 < a % 16 + 15) &&
         (par ((a - 1) % 256) == par ((a - 1) % 256) && (c == c && true))))) ==
   true, true),
 (decide (128 ≤ (a - 1) % 256) == decide (128 ≤ (a - 1) % 256) &&
   (((a - 1) % 256 == 0) == ((a - 1) % 256 == 0) &&
     (decide (15 < a % 16 + 15) == decide (15 < a % 16 + 15) &&
       (par ((a - 1) % 256) == par ((a - 1) % 256) && (c == c && true)))), true),
 ((decide (128 ≤ (a + 6 * cI (daaL a x) + 96 * cI (daaH a x c)) % 256) ==
       decide (128 ≤ (a + 6 * cI (daaL a x) + 96 * cI (daaH a x c)) % 256) &&
     (((a + 6 * cI (daaL a x) + 96 * cI (daaH a x c)) % 256 == 0) ==
         ((a + 6 * cI (daaL a x) + 96 * cI (daaH a x c)) % 256 == 0) &&
       (decide (9 < a % 16) == decide (9 < a % 16) &&
         (par ((a + 6 * cI (daaL a x) + 96 * cI (daaH a x c)) % 256) ==
             par ((a + 6 * cI (daaL a x) + 96 * cI (daaH a x c)) % 256) &&
           (daaH a x c == daaH a x c && true))))) ==
   true, true),
 (decide (128 ≤ (a + 6 * cI (daaL a x) + 96 * cI (daaH a x c)) % 256) ==
     decide (128 ≤ (a + 6 * cI (daaL a x) + 96 * cI (daaH a x c)) % 256) &&
   (((a + 6 * cI (daaL a x) + 96 * cI (daaH a x c)) % 256 == 0) ==
       ((a + 6 * cI (daaL a x) + 96 * cI (daaH a x c)) % 256 == 0) &&
     (decide (9 < a % 16) == decide (9 < a % 16) &&
       (par ((a + 6 * cI (daaL a x) + 96 * cI (daaH a x c)) % 256) ==
           par ((a + 6 * cI (daaL a x) + 96 * cI (daaH a x c)) % 256) &&
         (daaH a x c == daaH a x c && true)))), true)]
noncomputable def steps8V0 (a : Int) (s : Bool) (z : Bool) (x : Bool) (p : Bool) (c : Bool) : Value := Value.bool true
theorem steps8R0 (a : Int) (s : Bool) (z : Bool) (x : Bool) (p : Bool) (c : Bool) : (Lx.run (xctx) 20000 [(0, true), (0, true), (0, true), (0, true), (0, true), (0, true), (0, true), (0, true), (0, true), (0, true), (0, true), (0, true), (0, true), (0, true), (0, true), (0, true), (0, true), (0, true), (0, true), (0, true), (0, true), (0, true), (0, true), (0, true), (0, true), (0, true), (0, true), (0, true), (0, true), (0, true), (0, true)] (Lx.start Try.f8 ([Value.int
    IntKind.u8 a,
  Value.agg
    {
      toList :=
        [Value.bool s, Value.bool z, Value.bool x, Value.bool p,
          Value.bool c] }]) H0)).out? = some (steps8T0 a s z x p c, steps8V0 a s z x p c) := by kernel_rfl
noncomputable def bytes9T0 (s : Bool) (z : Bool) (x : Bool) (p : Bool) (c : Bool) (a : Int) : List (Bool × Bool) := [((128 *
                 cI s +
               64 * cI z +
             16 * cI x +
           4 * cI p +
         2 +
       cI c ==
     128 * cI s + 64 * cI z + 16 * cI x + 4 * cI p + 2 + cI c) ==
   true, true),
 ((128 * cI s + 64 * cI z + 16 * cI x + 4 * cI p + 2 + cI c ==
     128 * cI s + 64 * cI z + 16 * cI x + 4 * cI p + 2 + cI c) ==
   true, true),
 (inb a, true),
 ((128 * cI s + 64 * cI z + 16 * cI x + 4 * cI p + 2 + cI c ==
     128 * cI s + 64 * cI z + 16 * cI x + 4 * cI p + 2 + cI c) ==
   true, true),
 ((128 * cI s + 64 * cI z + 16 * cI x + 4 * cI p + 2 + cI c ==
     128 * cI s + 64 * cI z + 16 * cI x + 4 * cI p + 2 + cI c) ==
   true, true),
 ((128 * cI s + 64 * cI z + 16 * cI x + 4 * cI p + 2 + cI c ==
     128 * cI s + 64 * cI z + 16 * cI x + 4 * cI p + 2 + cI c) ==
   true, true),
 (inb a, true),
 ((128 * cI s + 64 * cI z + 16 * cI x + 4 * cI p + 2 + cI c ==
     128 * cI s + 64 * cI z + 16 * cI x + 4 * cI p + 2 + cI c) ==
   true, true),
 (128 * cI s + 64 * cI z + 16 * cI x + 4 * cI p + 2 + cI c ==
   128 * cI s + 64 * cI z + 16 * cI x + 4 * cI p + 2 + cI c, true),
 ((decide (128 ≤ a) == decide (128 ≤ a) &&
     ((a / 64 % 2 == 1) == (a / 64 % 2 == 1) &&
       ((a / 16 % 2 == 1) == (a / 16 % 2 == 1) &&
         ((a / 4 % 2 == 1) == (a / 4 % 2 == 1) && ((a % 2 == 1) == (a % 2 == 1) && true))))) ==
   true, true),
 ((decide (128 ≤ a) == decide (128 ≤ a) &&
     ((a / 64 % 2 == 1) == (a / 64 % 2 == 1) &&
       ((a / 16 % 2 == 1) == (a / 16 % 2 == 1) &&
         ((a / 4 % 2 == 1) == (a / 4 % 2 == 1) && ((a % 2 == 1) == (a % 2 == 1) && true))))) ==
   true, true),
 (decide (0 ≤ a) && decide (a ≤ 255), true),
 ((decide (128 ≤ a) == decide (128 ≤ a) &&
     ((a / 64 % 2 == 1) == (a / 64 % 2 == 1) &&
       ((a / 16 % 2 == 1) == (a / 16 % 2 == 1) &&
         ((a / 4 % 2 == 1) == (a / 4 % 2 == 1) && ((a % 2 == 1) == (a % 2 == 1) && true))))) ==
   true, true),
 ((decide (128 ≤ a) == decide (128 ≤ a) &&
     ((a / 64 % 2 == 1) == (a / 64 % 2 == 1) &&
       ((a / 16 % 2 == 1) == (a / 16 % 2 == 1) &&
         ((a / 4 % 2 == 1) == (a / 4 % 2 == 1) && ((a % 2 == 1) == (a % 2 == 1) && true))))) ==
   true, true),
 (decide (0 ≤ a) && decide (a ≤ 255), true),
 ((decide (128 ≤ a) == decide (128 ≤ a) &&
     ((a / 64 % 2 == 1) == (a / 64 % 2 == 1) &&
       ((a / 16 % 2 == 1) == (a / 16 % 2 == 1) &&
         ((a / 4 % 2 == 1) == (a / 4 % 2 == 1) && ((a % 2 == 1) == (a % 2 == 1) && true))))) ==
   true, true),
 (decide (128 ≤ a) == decide (128 ≤ a) &&
   ((a / 64 % 2 == 1) == (a / 64 % 2 == 1) &&
     ((a / 16 % 2 == 1) == (a / 16 % 2 == 1) &&
       ((a / 4 % 2 == 1) == (a / 4 % 2 == 1) && ((a % 2 == 1) == (a % 2 == 1) && true)))), true),
 ((par a == par a) == true, true),
 ((par a == par a) == true, true),
 ((par a == par a) == true, true),
 ((par a == par a) == true, true),
 (inb (128 * cI s + 64 * cI z + 16 * cI x + 4 * cI p + 2 + cI c), true),
 ((par a == par a) == true, true),
 ((par a == par a) == true, true),
 ((par a == par a) == true, true),
 (par a == par a, true),
 ((decide (128 ≤ 128 * cI s + 64 * cI z + 16 * cI x + 4 * cI p + 2 + cI c) == s &&
     (((128 * cI s + 64 * cI z + 16 * cI x + 4 * cI p + 2 + cI c) / 64 % 2 == 1) == z &&
       (((128 * cI s + 64 * cI z + 16 * cI x + 4 * cI p + 2 + cI c) / 16 % 2 == 1) == x &&
         (((128 * cI s + 64 * cI z + 16 * cI x + 4 * cI p + 2 + cI c) / 4 % 2 == 1) == p &&
           (((128 * cI s + 64 * cI z + 16 * cI x + 4 * cI p + 2 + cI c) % 2 == 1) == c && true))))) ==
   true, true),
 (decide (128 ≤ 128 * cI s + 64 * cI z + 16 * cI x + 4 * cI p + 2 + cI c) == s &&
   (((128 * cI s + 64 * cI z + 16 * cI x + 4 * cI p + 2 + cI c) / 64 % 2 == 1) == z &&
     (((128 * cI s + 64 * cI z + 16 * cI x + 4 * cI p + 2 + cI c) / 16 % 2 == 1) == x &&
       (((128 * cI s + 64 * cI z + 16 * cI x + 4 * cI p + 2 + cI c) / 4 % 2 == 1) == p &&
         (((128 * cI s + 64 * cI z + 16 * cI x + 4 * cI p + 2 + cI c) % 2 == 1) == c && true)))), true)]
noncomputable def bytes9V0 (s : Bool) (z : Bool) (x : Bool) (p : Bool) (c : Bool) (a : Int) : Value := Value.bool true
theorem bytes9R0 (s : Bool) (z : Bool) (x : Bool) (p : Bool) (c : Bool) (a : Int) : (Lx.run (xctx) 20000 [(2, true), (0, true), (0, true), (0, true), (0, true), (0, true), (0, true), (0, true), (0, true), (0, true), (0, true), (0, true), (0, true), (0, true), (0, true), (0, true), (0, true), (0, true), (0, true), (0, true), (1, true), (0, true), (0, true), (0, true), (0, true), (0, true), (0, true), (0, true)] (Lx.start Try.f9 ([Value.agg
    { toList := [Value.bool s, Value.bool z, Value.bool x, Value.bool p, Value.bool c] },
  Value.int IntKind.u8 a]) H0)).out? = some (bytes9T0 s z x p c a, bytes9V0 s z x p c a) := by kernel_rfl
noncomputable def back11T0 (a : Int) (b : Int) (c : Bool) : List (Bool × Bool) := [(inb a && inb b, true),
 (inb ((a + b + cI c) % 256) && inb b, true),
 (inb a && inb b, true),
 (inb a, true),
 (inb ((2 * a + cI c) % 256), true),
 (inb a, true),
 (inb ((2 * a + a / 128) % 256), true),
 ((((a + b + cI c) % 256 - b - cI c) % 256 == a) == true, true),
 ((((a + b + cI c) % 256 - b - cI c) % 256 == a) == true, true),
 ((((a + b + cI c) % 256 - b - cI c) % 256 == a) == true, true),
 ((((a + b + cI c) % 256 - b - cI c) % 256 == a) == true, true),
 ((((a + b + cI c) % 256 - b - cI c) % 256 == a) == true, true),
 (((a + b + cI c) % 256 - b - cI c) % 256 == a, true),
 ((((a + b + cI c) % 256 == 0) == ((a + b + cI c) % 256 == 0)) == true, true),
 ((((a + b + cI c) % 256 == 0) == ((a + b + cI c) % 256 == 0)) == true, true),
 ((((a + b + cI c) % 256 == 0) == ((a + b + cI c) % 256 == 0)) == true, true),
 ((((a + b + cI c) % 256 == 0) == ((a + b + cI c) % 256 == 0)) == true, true),
 ((((a + b + cI c) % 256 == 0) == ((a + b + cI c) % 256 == 0)) == true, true),
 ((((a + b + cI c) % 256 == 0) == ((a + b + cI c) % 256 == 0)) == true, true),
 (((a + b + cI c) % 256 == 0) == ((a + b + cI c) % 256 == 0), true),
 ((decide (a - b - cI false < 0) == decide (a < b)) == true, true),
 ((decide (a - b - cI false < 0) == decide (a < b)) == true, true),
 ((decide (a - b - cI false < 0) == decide (a < b)) == true, true),
 ((decide (a - b - cI false < 0) == decide (a < b)) == true, true),
 ((decide (a - b - cI false < 0) == decide (a < b)) == true, true),
 ((decide (a - b - cI false < 0) == decide (a < b)) == true, true),
 (decide (a - b - cI false < 0) == decide (a < b), true),
 ((((a - b - cI false) % 256 == 0) == (a == b)) == true, true),
 ((((a - b - cI false) % 256 == 0) == (a == b)) == true, true),
 ((((a - b - cI false) % 256 == 0) == (a == b)) == true, true),
 (((a - b - cI false) % 256 == 0) == (a == b), true),
 (((2 * a + cI c) % 256 / 2 + 128 * cI (decide (128 ≤ a)) == a) == true, true),
 (((2 * a + cI c) % 256 / 2 + 128 * cI (decide (128 ≤ a)) == a) == true, true),
 (((2 * a + cI c) % 256 / 2 + 128 * cI (decide (128 ≤ a)) == a) == true, true),
 ((2 * a + cI c) % 256 / 2 + 128 * cI (decide (128 ≤ a)) == a, true),
 ((((2 * a + cI c) % 256 % 2 == 1) == c) == true, true),
 ((((2 * a + cI c) % 256 % 2 == 1) == c) == true, true),
 ((((2 * a + cI c) % 256 % 2 == 1) == c) == true, true),
 (((2 * a + cI c) % 256 % 2 == 1) == c, true),
 (((2 * a + a / 128) % 256 / 2 + (2 * a + a / 128) % 256 % 2 * 128 == a) == true, true),
 ((2 * a + a / 128) % 256 / 2 + (2 * a + a / 128) % 256 % 2 * 128 == a, true)]
noncomputable def back11V0 (a : Int) (b : Int) (c : Bool) : Value := Value.bool true
theorem back11R0 (a : Int) (b : Int) (c : Bool) : (Lx.run (xctx) 20000 [(0, true), (0, true), (0, true), (0, true), (0, true), (0, true), (0, true), (0, true), (0, true), (0, true), (0, true), (0, true), (0, true), (0, true), (0, true), (0, true), (0, true), (0, true), (0, true), (0, true), (0, true), (0, true), (0, true), (0, true), (0, true), (0, true), (0, true), (0, true), (0, true), (0, true), (0, true), (0, true), (0, true), (0, true), (0, true), (0, true), (0, true), (0, true), (0, true), (0, true), (0, true)] (Lx.start Try.f11 ([Value.int
    IntKind.u8 a,
  Value.int IntKind.u8 b, Value.bool c]) H0)).out? = some (back11T0 a b c, back11V0 a b c) := by kernel_rfl
end Go.Proofs.Ytabhfbmaomkmhaa
