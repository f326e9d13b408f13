/- Isa80Bytes: the runs of the law, and its walk. -/
import Derived.Test.YtofimkcfenemlaaRd
import Derived.Test.YtofimkcfenemlaaLyV
namespace Go.Proofs.Ytofimkcfenemlaa
open Go Go.Ly Go.RowKit
set_option linter.unusedSimpArgs false
set_option linter.unusedVariables false
set_option maxHeartbeats 2000000
set_option maxRecDepth 100000
theorem b5R0 (op : Int) (n : Int) (m : Nat) (f : Nat →
  Int) : (Ly.run (lctx) 20000 [(0, false), (0, true), (0, true), (0, true), (0, true), (0, true), (0, true), (11, true), (0, true), (0, true), (0, true), (0, true), (0, true), (0, true), (0, true), (0, true), (1, true)] (Ly.start
  Try.f5 [Value.int IntKind.u8 op, Value.int IntKind.u16 n, sl 0 m]
  (mkH
    [some
        (ints IntKind.u8 f
          m)]))).out? = some ([(decide (1000 < (m : Int)), false),
 (inb op && (decide (0 ≤ n) && decide (n ≤ 65535)), true),
 (sizeT op == 0, true),
 (inb op && (decide (0 ≤ n) && decide (n ≤ 65535)), true),
 (sizeT op == 0, true),
 ((0 + m).ble m &&
   (Rw.ints IntKind.u8 (Rw.gen m fun i j => Value.int IntKind.u8 (f (0 + i))) &&
     (rdP (Rw.gen m fun i j => Value.int IntKind.u8 (f (0 + i))).n
         (Rw.gen m fun i j => Value.int IntKind.u8 (f (0 + i))).at).fst), true),
 ((0 + m).ble m &&
   (Rw.ints IntKind.u8 (Rw.gen m fun i j => Value.int IntKind.u8 (f (0 + i))) &&
     (rdR (Rw.gen m fun i j => Value.int IntKind.u8 (f (0 + i))).n
         (Rw.gen m fun i j => Value.int IntKind.u8 (f (0 + i))).at).fst), true),
 ((rdO (Rw.gen m fun i j => Value.int IntKind.u8 (f (0 + i))).n
         (Rw.gen m fun i j => Value.int IntKind.u8 (f (0 + i))).at ==
       rdO (Rw.gen m fun i j => Value.int IntKind.u8 (f (0 + i))).n
         (Rw.gen m fun i j => Value.int IntKind.u8 (f (0 + i))).at &&
     (rdN (Rw.gen m fun i j => Value.int IntKind.u8 (f (0 + i))).n
           (Rw.gen m fun i j => Value.int IntKind.u8 (f (0 + i))).at ==
         rdN (Rw.gen m fun i j => Value.int IntKind.u8 (f (0 + i))).n
           (Rw.gen m fun i j => Value.int IntKind.u8 (f (0 + i))).at &&
       true)) ==
   true, true),
 ((rdO (Rw.gen m fun i j => Value.int IntKind.u8 (f (0 + i))).n
         (Rw.gen m fun i j => Value.int IntKind.u8 (f (0 + i))).at ==
       rdO (Rw.gen m fun i j => Value.int IntKind.u8 (f (0 + i))).n
         (Rw.gen m fun i j => Value.int IntKind.u8 (f (0 + i))).at &&
     (rdN (Rw.gen m fun i j => Value.int IntKind.u8 (f (0 + i))).n
           (Rw.gen m fun i j => Value.int IntKind.u8 (f (0 + i))).at ==
         rdN (Rw.gen m fun i j => Value.int IntKind.u8 (f (0 + i))).n
           (Rw.gen m fun i j => Value.int IntKind.u8 (f (0 + i))).at &&
       true)) ==
   true, true),
 ((rdO (Rw.gen m fun i j => Value.int IntKind.u8 (f (0 + i))).n
         (Rw.gen m fun i j => Value.int IntKind.u8 (f (0 + i))).at ==
       rdO (Rw.gen m fun i j => Value.int IntKind.u8 (f (0 + i))).n
         (Rw.gen m fun i j => Value.int IntKind.u8 (f (0 + i))).at &&
     (rdN (Rw.gen m fun i j => Value.int IntKind.u8 (f (0 + i))).n
           (Rw.gen m fun i j => Value.int IntKind.u8 (f (0 + i))).at ==
         rdN (Rw.gen m fun i j => Value.int IntKind.u8 (f (0 + i))).n
           (Rw.gen m fun i j => Value.int IntKind.u8 (f (0 + i))).at &&
       true)) ==
   true, true),
 (rdO (Rw.gen m fun i j => Value.int IntKind.u8 (f (0 + i))).n
       (Rw.gen m fun i j => Value.int IntKind.u8 (f (0 + i))).at ==
     rdO (Rw.gen m fun i j => Value.int IntKind.u8 (f (0 + i))).n
       (Rw.gen m fun i j => Value.int IntKind.u8 (f (0 + i))).at &&
   (rdN (Rw.gen m fun i j => Value.int IntKind.u8 (f (0 + i))).n
         (Rw.gen m fun i j => Value.int IntKind.u8 (f (0 + i))).at ==
       rdN (Rw.gen m fun i j => Value.int IntKind.u8 (f (0 + i))).n
         (Rw.gen m fun i j => Value.int IntKind.u8 (f (0 + i))).at &&
     true), true),
 ((rdS (Rw.gen m fun i j => Value.int IntKind.u8 (f (0 + i))).n
       (Rw.gen m fun i j => Value.int IntKind.u8 (f (0 + i))).at ==
     rdS (Rw.gen m fun i j => Value.int IntKind.u8 (f (0 + i))).n
       (Rw.gen m fun i j => Value.int IntKind.u8 (f (0 + i))).at) ==
   true, true),
 ((rdS (Rw.gen m fun i j => Value.int IntKind.u8 (f (0 + i))).n
       (Rw.gen m fun i j => Value.int IntKind.u8 (f (0 + i))).at ==
     rdS (Rw.gen m fun i j => Value.int IntKind.u8 (f (0 + i))).n
       (Rw.gen m fun i j => Value.int IntKind.u8 (f (0 + i))).at) ==
   true, true),
 ((rdS (Rw.gen m fun i j => Value.int IntKind.u8 (f (0 + i))).n
       (Rw.gen m fun i j => Value.int IntKind.u8 (f (0 + i))).at ==
     rdS (Rw.gen m fun i j => Value.int IntKind.u8 (f (0 + i))).n
       (Rw.gen m fun i j => Value.int IntKind.u8 (f (0 + i))).at) ==
   true, true),
 (rdS (Rw.gen m fun i j => Value.int IntKind.u8 (f (0 + i))).n
     (Rw.gen m fun i j => Value.int IntKind.u8 (f (0 + i))).at ==
   rdS (Rw.gen m fun i j => Value.int IntKind.u8 (f (0 + i))).n
     (Rw.gen m fun i j => Value.int IntKind.u8 (f (0 + i))).at, true),
 ((rdK (Rw.gen m fun i j => Value.int IntKind.u8 (f (0 + i))).n
       (Rw.gen m fun i j => Value.int IntKind.u8 (f (0 + i))).at ==
     rdK (Rw.gen m fun i j => Value.int IntKind.u8 (f (0 + i))).n
       (Rw.gen m fun i j => Value.int IntKind.u8 (f (0 + i))).at) ==
   true, true),
 (rdK (Rw.gen m fun i j => Value.int IntKind.u8 (f (0 + i))).n
     (Rw.gen m fun i j => Value.int IntKind.u8 (f (0 + i))).at ==
   rdK (Rw.gen m fun i j => Value.int IntKind.u8 (f (0 + i))).n
     (Rw.gen m fun i j => Value.int IntKind.u8 (f (0 + i))).at, true)], Value.bool true) := by kernel_rfl
theorem b5R1 (op : Int) (n : Int) (m : Nat) (f : Nat →
  Int) : (Ly.run (lctx) 20000 [(0, false), (0, true), (0, false), (0, true), (0, true), (0, true), (0, false), (0, true), (0, true), (0, true), (0, true), (1, true), (0, true), (0, true), (0, true), (6, true), (0, true), (0, true), (0, true), (0, true), (0, true), (0, true), (0, true), (0, true), (1, true)] (Ly.start
  Try.f5 [Value.int IntKind.u8 op, Value.int IntKind.u16 n, sl 0 m]
  (mkH
    [some
        (ints IntKind.u8 f
          m)]))).out? = some ([(decide (1000 < (m : Int)), false),
 (inb op && (decide (0 ≤ n) && decide (n ≤ 65535)), true),
 (sizeT op == 0, false),
 (sizeT op == 1, true),
 (n == 0, true),
 (inb op && (decide (0 ≤ n) && decide (n ≤ 65535)), true),
 (sizeT op == 0, false),
 (sizeT op == 1, true),
 (n == 0, true),
 ((0 + m).ble m &&
   (Rw.ints IntKind.u8 (Rw.gen m fun i j => Value.int IntKind.u8 (f (0 + i))) &&
     (rdP (Rw.gen m fun i j => Value.int IntKind.u8 (f (0 + i))).n
         (Rw.gen m fun i j => Value.int IntKind.u8 (f (0 + i))).at).fst), true),
 ((0 + m).ble m &&
   (Rw.ints IntKind.u8 (Rw.gen m fun i j => Value.int IntKind.u8 (f (0 + i))) &&
     (rdR (Rw.gen m fun i j => Value.int IntKind.u8 (f (0 + i))).n
         (Rw.gen m fun i j => Value.int IntKind.u8 (f (0 + i))).at).fst), true),
 (((Rw.lst 1
             (List.take 1
               (List.drop 0
                 (LO.cells
                     [Value.int IntKind.u8 op, Value.int IntKind.u8 (IntKind.u8.wrap n),
                       Value.int IntKind.u8 (IntKind.u8.wrap (n.fdiv 256))]
                     5).cs))).n.beq
       (Rw.lst 1 (List.take 1 (List.drop 0 (LO.cells [Value.int IntKind.u8 op] 5).cs))).n &&
     eqU
       (Rw.lst 1
           (List.take 1
             (List.drop 0
               (LO.cells
                   [Value.int IntKind.u8 op, Value.int IntKind.u8 (IntKind.u8.wrap n),
                     Value.int IntKind.u8 (IntKind.u8.wrap (n.fdiv 256))]
                   5).cs))).n
       (Rw.lst 1
           (List.take 1
             (List.drop 0
               (LO.cells
                   [Value.int IntKind.u8 op, Value.int IntKind.u8 (IntKind.u8.wrap n),
                     Value.int IntKind.u8 (IntKind.u8.wrap (n.fdiv 256))]
                   5).cs))).at
       (Rw.lst 1 (List.take 1 (List.drop 0 (LO.cells [Value.int IntKind.u8 op] 5).cs))).at) ==
   true, true),
 (((Rw.lst 1
             (List.take 1
               (List.drop 0
                 (LO.cells
                     [Value.int IntKind.u8 op, Value.int IntKind.u8 (IntKind.u8.wrap n),
                       Value.int IntKind.u8 (IntKind.u8.wrap (n.fdiv 256))]
                     5).cs))).n.beq
       (Rw.lst 1 (List.take 1 (List.drop 0 (LO.cells [Value.int IntKind.u8 op] 5).cs))).n &&
     eqU
       (Rw.lst 1
           (List.take 1
             (List.drop 0
               (LO.cells
                   [Value.int IntKind.u8 op, Value.int IntKind.u8 (IntKind.u8.wrap n),
                     Value.int IntKind.u8 (IntKind.u8.wrap (n.fdiv 256))]
                   5).cs))).n
       (Rw.lst 1
           (List.take 1
             (List.drop 0
               (LO.cells
                   [Value.int IntKind.u8 op, Value.int IntKind.u8 (IntKind.u8.wrap n),
                     Value.int IntKind.u8 (IntKind.u8.wrap (n.fdiv 256))]
                   5).cs))).at
       (Rw.lst 1 (List.take 1 (List.drop 0 (LO.cells [Value.int IntKind.u8 op] 5).cs))).at) ==
   true, true),
 (((Rw.lst 1
             (List.take 1
               (List.drop 0
                 (LO.cells
                     [Value.int IntKind.u8 op, Value.int IntKind.u8 (IntKind.u8.wrap n),
                       Value.int IntKind.u8 (IntKind.u8.wrap (n.fdiv 256))]
                     5).cs))).n.beq
       (Rw.lst 1 (List.take 1 (List.drop 0 (LO.cells [Value.int IntKind.u8 op] 5).cs))).n &&
     eqU
       (Rw.lst 1
           (List.take 1
             (List.drop 0
               (LO.cells
                   [Value.int IntKind.u8 op, Value.int IntKind.u8 (IntKind.u8.wrap n),
                     Value.int IntKind.u8 (IntKind.u8.wrap (n.fdiv 256))]
                   5).cs))).n
       (Rw.lst 1
           (List.take 1
             (List.drop 0
               (LO.cells
                   [Value.int IntKind.u8 op, Value.int IntKind.u8 (IntKind.u8.wrap n),
                     Value.int IntKind.u8 (IntKind.u8.wrap (n.fdiv 256))]
                   5).cs))).at
       (Rw.lst 1 (List.take 1 (List.drop 0 (LO.cells [Value.int IntKind.u8 op] 5).cs))).at) ==
   true, true),
 ((Rw.lst 1
           (List.take 1
             (List.drop 0
               (LO.cells
                   [Value.int IntKind.u8 op, Value.int IntKind.u8 (IntKind.u8.wrap n),
                     Value.int IntKind.u8 (IntKind.u8.wrap (n.fdiv 256))]
                   5).cs))).n.beq
     (Rw.lst 1 (List.take 1 (List.drop 0 (LO.cells [Value.int IntKind.u8 op] 5).cs))).n &&
   eqU
     (Rw.lst 1
         (List.take 1
           (List.drop 0
             (LO.cells
                 [Value.int IntKind.u8 op, Value.int IntKind.u8 (IntKind.u8.wrap n),
                   Value.int IntKind.u8 (IntKind.u8.wrap (n.fdiv 256))]
                 5).cs))).n
     (Rw.lst 1
         (List.take 1
           (List.drop 0
             (LO.cells
                 [Value.int IntKind.u8 op, Value.int IntKind.u8 (IntKind.u8.wrap n),
                   Value.int IntKind.u8 (IntKind.u8.wrap (n.fdiv 256))]
                 5).cs))).at
     (Rw.lst 1 (List.take 1 (List.drop 0 (LO.cells [Value.int IntKind.u8 op] 5).cs))).at, true),
 ((rdO (Rw.gen m fun i j => Value.int IntKind.u8 (f (0 + i))).n
         (Rw.gen m fun i j => Value.int IntKind.u8 (f (0 + i))).at ==
       rdO (Rw.gen m fun i j => Value.int IntKind.u8 (f (0 + i))).n
         (Rw.gen m fun i j => Value.int IntKind.u8 (f (0 + i))).at &&
     (rdN (Rw.gen m fun i j => Value.int IntKind.u8 (f (0 + i))).n
           (Rw.gen m fun i j => Value.int IntKind.u8 (f (0 + i))).at ==
         rdN (Rw.gen m fun i j => Value.int IntKind.u8 (f (0 + i))).n
           (Rw.gen m fun i j => Value.int IntKind.u8 (f (0 + i))).at &&
       true)) ==
   true, true),
 ((rdO (Rw.gen m fun i j => Value.int IntKind.u8 (f (0 + i))).n
         (Rw.gen m fun i j => Value.int IntKind.u8 (f (0 + i))).at ==
       rdO (Rw.gen m fun i j => Value.int IntKind.u8 (f (0 + i))).n
         (Rw.gen m fun i j => Value.int IntKind.u8 (f (0 + i))).at &&
     (rdN (Rw.gen m fun i j => Value.int IntKind.u8 (f (0 + i))).n
           (Rw.gen m fun i j => Value.int IntKind.u8 (f (0 + i))).at ==
         rdN (Rw.gen m fun i j => Value.int IntKind.u8 (f (0 + i))).n
           (Rw.gen m fun i j => Value.int IntKind.u8 (f (0 + i))).at &&
       true)) ==
   true, true),
 ((rdO (Rw.gen m fun i j => Value.int IntKind.u8 (f (0 + i))).n
         (Rw.gen m fun i j => Value.int IntKind.u8 (f (0 + i))).at ==
       rdO (Rw.gen m fun i j => Value.int IntKind.u8 (f (0 + i))).n
         (Rw.gen m fun i j => Value.int IntKind.u8 (f (0 + i))).at &&
     (rdN (Rw.gen m fun i j => Value.int IntKind.u8 (f (0 + i))).n
           (Rw.gen m fun i j => Value.int IntKind.u8 (f (0 + i))).at ==
         rdN (Rw.gen m fun i j => Value.int IntKind.u8 (f (0 + i))).n
           (Rw.gen m fun i j => Value.int IntKind.u8 (f (0 + i))).at &&
       true)) ==
   true, true),
 (rdO (Rw.gen m fun i j => Value.int IntKind.u8 (f (0 + i))).n
       (Rw.gen m fun i j => Value.int IntKind.u8 (f (0 + i))).at ==
     rdO (Rw.gen m fun i j => Value.int IntKind.u8 (f (0 + i))).n
       (Rw.gen m fun i j => Value.int IntKind.u8 (f (0 + i))).at &&
   (rdN (Rw.gen m fun i j => Value.int IntKind.u8 (f (0 + i))).n
         (Rw.gen m fun i j => Value.int IntKind.u8 (f (0 + i))).at ==
       rdN (Rw.gen m fun i j => Value.int IntKind.u8 (f (0 + i))).n
         (Rw.gen m fun i j => Value.int IntKind.u8 (f (0 + i))).at &&
     true), true),
 ((rdS (Rw.gen m fun i j => Value.int IntKind.u8 (f (0 + i))).n
       (Rw.gen m fun i j => Value.int IntKind.u8 (f (0 + i))).at ==
     rdS (Rw.gen m fun i j => Value.int IntKind.u8 (f (0 + i))).n
       (Rw.gen m fun i j => Value.int IntKind.u8 (f (0 + i))).at) ==
   true, true),
 ((rdS (Rw.gen m fun i j => Value.int IntKind.u8 (f (0 + i))).n
       (Rw.gen m fun i j => Value.int IntKind.u8 (f (0 + i))).at ==
     rdS (Rw.gen m fun i j => Value.int IntKind.u8 (f (0 + i))).n
       (Rw.gen m fun i j => Value.int IntKind.u8 (f (0 + i))).at) ==
   true, true),
 ((rdS (Rw.gen m fun i j => Value.int IntKind.u8 (f (0 + i))).n
       (Rw.gen m fun i j => Value.int IntKind.u8 (f (0 + i))).at ==
     rdS (Rw.gen m fun i j => Value.int IntKind.u8 (f (0 + i))).n
       (Rw.gen m fun i j => Value.int IntKind.u8 (f (0 + i))).at) ==
   true, true),
 (rdS (Rw.gen m fun i j => Value.int IntKind.u8 (f (0 + i))).n
     (Rw.gen m fun i j => Value.int IntKind.u8 (f (0 + i))).at ==
   rdS (Rw.gen m fun i j => Value.int IntKind.u8 (f (0 + i))).n
     (Rw.gen m fun i j => Value.int IntKind.u8 (f (0 + i))).at, true),
 ((rdK (Rw.gen m fun i j => Value.int IntKind.u8 (f (0 + i))).n
       (Rw.gen m fun i j => Value.int IntKind.u8 (f (0 + i))).at ==
     rdK (Rw.gen m fun i j => Value.int IntKind.u8 (f (0 + i))).n
       (Rw.gen m fun i j => Value.int IntKind.u8 (f (0 + i))).at) ==
   true, true),
 (rdK (Rw.gen m fun i j => Value.int IntKind.u8 (f (0 + i))).n
     (Rw.gen m fun i j => Value.int IntKind.u8 (f (0 + i))).at ==
   rdK (Rw.gen m fun i j => Value.int IntKind.u8 (f (0 + i))).n
     (Rw.gen m fun i j => Value.int IntKind.u8 (f (0 + i))).at, true)], Value.bool true) := by kernel_rfl
theorem b5R3 (op : Int) (n : Int) (m : Nat) (f : Nat →
  Int) : (Ly.run (lctx) 20000 [(0, false), (0, true), (0, false), (0, true), (0, false), (0, true), (0, false), (0, true), (0, false), (0, true), (0, true), (11, true), (0, true), (0, true), (0, true), (0, true), (0, true), (0, true), (0, true), (0, true), (1, true)] (Ly.start
  Try.f5 [Value.int IntKind.u8 op, Value.int IntKind.u16 n, sl 0 m]
  (mkH
    [some
        (ints IntKind.u8 f
          m)]))).out? = some ([(decide (1000 < (m : Int)), false),
 (inb op && (decide (0 ≤ n) && decide (n ≤ 65535)), true),
 (sizeT op == 0, false),
 (sizeT op == 1, true),
 (n == 0, false),
 (inb op && (decide (0 ≤ n) && decide (n ≤ 65535)), true),
 (sizeT op == 0, false),
 (sizeT op == 1, true),
 (n == 0, false),
 ((0 + m).ble m &&
   (Rw.ints IntKind.u8 (Rw.gen m fun i j => Value.int IntKind.u8 (f (0 + i))) &&
     (rdP (Rw.gen m fun i j => Value.int IntKind.u8 (f (0 + i))).n
         (Rw.gen m fun i j => Value.int IntKind.u8 (f (0 + i))).at).fst), true),
 ((0 + m).ble m &&
   (Rw.ints IntKind.u8 (Rw.gen m fun i j => Value.int IntKind.u8 (f (0 + i))) &&
     (rdR (Rw.gen m fun i j => Value.int IntKind.u8 (f (0 + i))).n
         (Rw.gen m fun i j => Value.int IntKind.u8 (f (0 + i))).at).fst), true),
 ((rdO (Rw.gen m fun i j => Value.int IntKind.u8 (f (0 + i))).n
         (Rw.gen m fun i j => Value.int IntKind.u8 (f (0 + i))).at ==
       rdO (Rw.gen m fun i j => Value.int IntKind.u8 (f (0 + i))).n
         (Rw.gen m fun i j => Value.int IntKind.u8 (f (0 + i))).at &&
     (rdN (Rw.gen m fun i j => Value.int IntKind.u8 (f (0 + i))).n
           (Rw.gen m fun i j => Value.int IntKind.u8 (f (0 + i))).at ==
         rdN (Rw.gen m fun i j => Value.int IntKind.u8 (f (0 + i))).n
           (Rw.gen m fun i j => Value.int IntKind.u8 (f (0 + i))).at &&
       true)) ==
   true, true),
 ((rdO (Rw.gen m fun i j => Value.int IntKind.u8 (f (0 + i))).n
         (Rw.gen m fun i j => Value.int IntKind.u8 (f (0 + i))).at ==
       rdO (Rw.gen m fun i j => Value.int IntKind.u8 (f (0 + i))).n
         (Rw.gen m fun i j => Value.int IntKind.u8 (f (0 + i))).at &&
     (rdN (Rw.gen m fun i j => Value.int IntKind.u8 (f (0 + i))).n
           (Rw.gen m fun i j => Value.int IntKind.u8 (f (0 + i))).at ==
         rdN (Rw.gen m fun i j => Value.int IntKind.u8 (f (0 + i))).n
           (Rw.gen m fun i j => Value.int IntKind.u8 (f (0 + i))).at &&
       true)) ==
   true, true),
 ((rdO (Rw.gen m fun i j => Value.int IntKind.u8 (f (0 + i))).n
         (Rw.gen m fun i j => Value.int IntKind.u8 (f (0 + i))).at ==
       rdO (Rw.gen m fun i j => Value.int IntKind.u8 (f (0 + i))).n
         (Rw.gen m fun i j => Value.int IntKind.u8 (f (0 + i))).at &&
     (rdN (Rw.gen m fun i j => Value.int IntKind.u8 (f (0 + i))).n
           (Rw.gen m fun i j => Value.int IntKind.u8 (f (0 + i))).at ==
         rdN (Rw.gen m fun i j => Value.int IntKind.u8 (f (0 + i))).n
           (Rw.gen m fun i j => Value.int IntKind.u8 (f (0 + i))).at &&
       true)) ==
   true, true),
 (rdO (Rw.gen m fun i j => Value.int IntKind.u8 (f (0 + i))).n
       (Rw.gen m fun i j => Value.int IntKind.u8 (f (0 + i))).at ==
     rdO (Rw.gen m fun i j => Value.int IntKind.u8 (f (0 + i))).n
       (Rw.gen m fun i j => Value.int IntKind.u8 (f (0 + i))).at &&
   (rdN (Rw.gen m fun i j => Value.int IntKind.u8 (f (0 + i))).n
         (Rw.gen m fun i j => Value.int IntKind.u8 (f (0 + i))).at ==
       rdN (Rw.gen m fun i j => Value.int IntKind.u8 (f (0 + i))).n
         (Rw.gen m fun i j => Value.int IntKind.u8 (f (0 + i))).at &&
     true), true),
 ((rdS (Rw.gen m fun i j => Value.int IntKind.u8 (f (0 + i))).n
       (Rw.gen m fun i j => Value.int IntKind.u8 (f (0 + i))).at ==
     rdS (Rw.gen m fun i j => Value.int IntKind.u8 (f (0 + i))).n
       (Rw.gen m fun i j => Value.int IntKind.u8 (f (0 + i))).at) ==
   true, true),
 ((rdS (Rw.gen m fun i j => Value.int IntKind.u8 (f (0 + i))).n
       (Rw.gen m fun i j => Value.int IntKind.u8 (f (0 + i))).at ==
     rdS (Rw.gen m fun i j => Value.int IntKind.u8 (f (0 + i))).n
       (Rw.gen m fun i j => Value.int IntKind.u8 (f (0 + i))).at) ==
   true, true),
 ((rdS (Rw.gen m fun i j => Value.int IntKind.u8 (f (0 + i))).n
       (Rw.gen m fun i j => Value.int IntKind.u8 (f (0 + i))).at ==
     rdS (Rw.gen m fun i j => Value.int IntKind.u8 (f (0 + i))).n
       (Rw.gen m fun i j => Value.int IntKind.u8 (f (0 + i))).at) ==
   true, true),
 (rdS (Rw.gen m fun i j => Value.int IntKind.u8 (f (0 + i))).n
     (Rw.gen m fun i j => Value.int IntKind.u8 (f (0 + i))).at ==
   rdS (Rw.gen m fun i j => Value.int IntKind.u8 (f (0 + i))).n
     (Rw.gen m fun i j => Value.int IntKind.u8 (f (0 + i))).at, true),
 ((rdK (Rw.gen m fun i j => Value.int IntKind.u8 (f (0 + i))).n
       (Rw.gen m fun i j => Value.int IntKind.u8 (f (0 + i))).at ==
     rdK (Rw.gen m fun i j => Value.int IntKind.u8 (f (0 + i))).n
       (Rw.gen m fun i j => Value.int IntKind.u8 (f (0 + i))).at) ==
   true, true),
 (rdK (Rw.gen m fun i j => Value.int IntKind.u8 (f (0 + i))).n
     (Rw.gen m fun i j => Value.int IntKind.u8 (f (0 + i))).at ==
   rdK (Rw.gen m fun i j => Value.int IntKind.u8 (f (0 + i))).n
     (Rw.gen m fun i j => Value.int IntKind.u8 (f (0 + i))).at, true)], Value.bool true) := by kernel_rfl
theorem b5R4 (op : Int) (n : Int) (m : Nat) (f : Nat →
  Int) : (Ly.run (lctx) 20000 [(0, false), (0, true), (0, false), (0, false), (0, true), (0, true), (0, true), (0, false), (0, false), (0, true), (0, true), (0, true), (0, true), (1, true), (0, true), (0, true), (0, true), (6, true), (0, true), (0, true), (0, true), (0, true), (0, true), (0, true), (0, true), (0, true), (1, true)] (Ly.start
  Try.f5 [Value.int IntKind.u8 op, Value.int IntKind.u16 n, sl 0 m]
  (mkH
    [some
        (ints IntKind.u8 f
          m)]))).out? = some ([(decide (1000 < (m : Int)), false),
 (inb op && (decide (0 ≤ n) && decide (n ≤ 65535)), true),
 (sizeT op == 0, false),
 (sizeT op == 1, false),
 (sizeT op == 2, true),
 (decide (n ≤ 255), true),
 (inb op && (decide (0 ≤ n) && decide (n ≤ 65535)), true),
 (sizeT op == 0, false),
 (sizeT op == 1, false),
 (sizeT op == 2, true),
 (decide (n ≤ 255), true),
 ((0 + m).ble m &&
   (Rw.ints IntKind.u8 (Rw.gen m fun i j => Value.int IntKind.u8 (f (0 + i))) &&
     (rdP (Rw.gen m fun i j => Value.int IntKind.u8 (f (0 + i))).n
         (Rw.gen m fun i j => Value.int IntKind.u8 (f (0 + i))).at).fst), true),
 ((0 + m).ble m &&
   (Rw.ints IntKind.u8 (Rw.gen m fun i j => Value.int IntKind.u8 (f (0 + i))) &&
     (rdR (Rw.gen m fun i j => Value.int IntKind.u8 (f (0 + i))).n
         (Rw.gen m fun i j => Value.int IntKind.u8 (f (0 + i))).at).fst), true),
 (((Rw.lst 2
             (List.take 2
               (List.drop 0
                 (LO.cells
                     [Value.int IntKind.u8 op, Value.int IntKind.u8 (IntKind.u8.wrap n),
                       Value.int IntKind.u8 (IntKind.u8.wrap (n.fdiv 256))]
                     5).cs))).n.beq
       (Rw.lst 2
           (List.take 2
             (List.drop 0 (LO.cells [Value.int IntKind.u8 op, Value.int IntKind.u8 (IntKind.u8.wrap n)] 5).cs))).n &&
     eqU
       (Rw.lst 2
           (List.take 2
             (List.drop 0
               (LO.cells
                   [Value.int IntKind.u8 op, Value.int IntKind.u8 (IntKind.u8.wrap n),
                     Value.int IntKind.u8 (IntKind.u8.wrap (n.fdiv 256))]
                   5).cs))).n
       (Rw.lst 2
           (List.take 2
             (List.drop 0
               (LO.cells
                   [Value.int IntKind.u8 op, Value.int IntKind.u8 (IntKind.u8.wrap n),
                     Value.int IntKind.u8 (IntKind.u8.wrap (n.fdiv 256))]
                   5).cs))).at
       (Rw.lst 2
           (List.take 2
             (List.drop 0 (LO.cells [Value.int IntKind.u8 op, Value.int IntKind.u8 (IntKind.u8.wrap n)] 5).cs))).at) ==
   true, true),
 (((Rw.lst 2
             (List.take 2
               (List.drop 0
                 (LO.cells
                     [Value.int IntKind.u8 op, Value.int IntKind.u8 (IntKind.u8.wrap n),
                       Value.int IntKind.u8 (IntKind.u8.wrap (n.fdiv 256))]
                     5).cs))).n.beq
       (Rw.lst 2
           (List.take 2
             (List.drop 0 (LO.cells [Value.int IntKind.u8 op, Value.int IntKind.u8 (IntKind.u8.wrap n)] 5).cs))).n &&
     eqU
       (Rw.lst 2
           (List.take 2
             (List.drop 0
               (LO.cells
                   [Value.int IntKind.u8 op, Value.int IntKind.u8 (IntKind.u8.wrap n),
                     Value.int IntKind.u8 (IntKind.u8.wrap (n.fdiv 256))]
                   5).cs))).n
       (Rw.lst 2
           (List.take 2
             (List.drop 0
               (LO.cells
                   [Value.int IntKind.u8 op, Value.int IntKind.u8 (IntKind.u8.wrap n),
                     Value.int IntKind.u8 (IntKind.u8.wrap (n.fdiv 256))]
                   5).cs))).at
       (Rw.lst 2
           (List.take 2
             (List.drop 0 (LO.cells [Value.int IntKind.u8 op, Value.int IntKind.u8 (IntKind.u8.wrap n)] 5).cs))).at) ==
   true, true),
 (((Rw.lst 2
             (List.take 2
               (List.drop 0
                 (LO.cells
                     [Value.int IntKind.u8 op, Value.int IntKind.u8 (IntKind.u8.wrap n),
                       Value.int IntKind.u8 (IntKind.u8.wrap (n.fdiv 256))]
                     5).cs))).n.beq
       (Rw.lst 2
           (List.take 2
             (List.drop 0 (LO.cells [Value.int IntKind.u8 op, Value.int IntKind.u8 (IntKind.u8.wrap n)] 5).cs))).n &&
     eqU
       (Rw.lst 2
           (List.take 2
             (List.drop 0
               (LO.cells
                   [Value.int IntKind.u8 op, Value.int IntKind.u8 (IntKind.u8.wrap n),
                     Value.int IntKind.u8 (IntKind.u8.wrap (n.fdiv 256))]
                   5).cs))).n
       (Rw.lst 2
           (List.take 2
             (List.drop 0
               (LO.cells
                   [Value.int IntKind.u8 op, Value.int IntKind.u8 (IntKind.u8.wrap n),
                     Value.int IntKind.u8 (IntKind.u8.wrap (n.fdiv 256))]
                   5).cs))).at
       (Rw.lst 2
           (List.take 2
             (List.drop 0 (LO.cells [Value.int IntKind.u8 op, Value.int IntKind.u8 (IntKind.u8.wrap n)] 5).cs))).at) ==
   true, true),
 ((Rw.lst 2
           (List.take 2
             (List.drop 0
               (LO.cells
                   [Value.int IntKind.u8 op, Value.int IntKind.u8 (IntKind.u8.wrap n),
                     Value.int IntKind.u8 (IntKind.u8.wrap (n.fdiv 256))]
                   5).cs))).n.beq
     (Rw.lst 2
         (List.take 2
           (List.drop 0 (LO.cells [Value.int IntKind.u8 op, Value.int IntKind.u8 (IntKind.u8.wrap n)] 5).cs))).n &&
   eqU
     (Rw.lst 2
         (List.take 2
           (List.drop 0
             (LO.cells
                 [Value.int IntKind.u8 op, Value.int IntKind.u8 (IntKind.u8.wrap n),
                   Value.int IntKind.u8 (IntKind.u8.wrap (n.fdiv 256))]
                 5).cs))).n
     (Rw.lst 2
         (List.take 2
           (List.drop 0
             (LO.cells
                 [Value.int IntKind.u8 op, Value.int IntKind.u8 (IntKind.u8.wrap n),
                   Value.int IntKind.u8 (IntKind.u8.wrap (n.fdiv 256))]
                 5).cs))).at
     (Rw.lst 2
         (List.take 2
           (List.drop 0
             (LO.cells [Value.int IntKind.u8 op, Value.int IntKind.u8 (IntKind.u8.wrap n)] 5).cs))).at, true),
 ((rdO (Rw.gen m fun i j => Value.int IntKind.u8 (f (0 + i))).n
         (Rw.gen m fun i j => Value.int IntKind.u8 (f (0 + i))).at ==
       rdO (Rw.gen m fun i j => Value.int IntKind.u8 (f (0 + i))).n
         (Rw.gen m fun i j => Value.int IntKind.u8 (f (0 + i))).at &&
     (rdN (Rw.gen m fun i j => Value.int IntKind.u8 (f (0 + i))).n
           (Rw.gen m fun i j => Value.int IntKind.u8 (f (0 + i))).at ==
         rdN (Rw.gen m fun i j => Value.int IntKind.u8 (f (0 + i))).n
           (Rw.gen m fun i j => Value.int IntKind.u8 (f (0 + i))).at &&
       true)) ==
   true, true),
 ((rdO (Rw.gen m fun i j => Value.int IntKind.u8 (f (0 + i))).n
         (Rw.gen m fun i j => Value.int IntKind.u8 (f (0 + i))).at ==
       rdO (Rw.gen m fun i j => Value.int IntKind.u8 (f (0 + i))).n
         (Rw.gen m fun i j => Value.int IntKind.u8 (f (0 + i))).at &&
     (rdN (Rw.gen m fun i j => Value.int IntKind.u8 (f (0 + i))).n
           (Rw.gen m fun i j => Value.int IntKind.u8 (f (0 + i))).at ==
         rdN (Rw.gen m fun i j => Value.int IntKind.u8 (f (0 + i))).n
           (Rw.gen m fun i j => Value.int IntKind.u8 (f (0 + i))).at &&
       true)) ==
   true, true),
 ((rdO (Rw.gen m fun i j => Value.int IntKind.u8 (f (0 + i))).n
         (Rw.gen m fun i j => Value.int IntKind.u8 (f (0 + i))).at ==
       rdO (Rw.gen m fun i j => Value.int IntKind.u8 (f (0 + i))).n
         (Rw.gen m fun i j => Value.int IntKind.u8 (f (0 + i))).at &&
     (rdN (Rw.gen m fun i j => Value.int IntKind.u8 (f (0 + i))).n
           (Rw.gen m fun i j => Value.int IntKind.u8 (f (0 + i))).at ==
         rdN (Rw.gen m fun i j => Value.int IntKind.u8 (f (0 + i))).n
           (Rw.gen m fun i j => Value.int IntKind.u8 (f (0 + i))).at &&
       true)) ==
   true, true),
 (rdO (Rw.gen m fun i j => Value.int IntKind.u8 (f (0 + i))).n
       (Rw.gen m fun i j => Value.int IntKind.u8 (f (0 + i))).at ==
     rdO (Rw.gen m fun i j => Value.int IntKind.u8 (f (0 + i))).n
       (Rw.gen m fun i j => Value.int IntKind.u8 (f (0 + i))).at &&
   (rdN (Rw.gen m fun i j => Value.int IntKind.u8 (f (0 + i))).n
         (Rw.gen m fun i j => Value.int IntKind.u8 (f (0 + i))).at ==
       rdN (Rw.gen m fun i j => Value.int IntKind.u8 (f (0 + i))).n
         (Rw.gen m fun i j => Value.int IntKind.u8 (f (0 + i))).at &&
     true), true),
 ((rdS (Rw.gen m fun i j => Value.int IntKind.u8 (f (0 + i))).n
       (Rw.gen m fun i j => Value.int IntKind.u8 (f (0 + i))).at ==
     rdS (Rw.gen m fun i j => Value.int IntKind.u8 (f (0 + i))).n
       (Rw.gen m fun i j => Value.int IntKind.u8 (f (0 + i))).at) ==
   true, true),
 ((rdS (Rw.gen m fun i j => Value.int IntKind.u8 (f (0 + i))).n
       (Rw.gen m fun i j => Value.int IntKind.u8 (f (0 + i))).at ==
     rdS (Rw.gen m fun i j => Value.int IntKind.u8 (f (0 + i))).n
       (Rw.gen m fun i j => Value.int IntKind.u8 (f (0 + i))).at) ==
   true, true),
 ((rdS (Rw.gen m fun i j => Value.int IntKind.u8 (f (0 + i))).n
       (Rw.gen m fun i j => Value.int IntKind.u8 (f (0 + i))).at ==
     rdS (Rw.gen m fun i j => Value.int IntKind.u8 (f (0 + i))).n
       (Rw.gen m fun i j => Value.int IntKind.u8 (f (0 + i))).at) ==
   true, true),
 (rdS (Rw.gen m fun i j => Value.int IntKind.u8 (f (0 + i))).n
     (Rw.gen m fun i j => Value.int IntKind.u8 (f (0 + i))).at ==
   rdS (Rw.gen m fun i j => Value.int IntKind.u8 (f (0 + i))).n
     (Rw.gen m fun i j => Value.int IntKind.u8 (f (0 + i))).at, true),
 ((rdK (Rw.gen m fun i j => Value.int IntKind.u8 (f (0 + i))).n
       (Rw.gen m fun i j => Value.int IntKind.u8 (f (0 + i))).at ==
     rdK (Rw.gen m fun i j => Value.int IntKind.u8 (f (0 + i))).n
       (Rw.gen m fun i j => Value.int IntKind.u8 (f (0 + i))).at) ==
   true, true),
 (rdK (Rw.gen m fun i j => Value.int IntKind.u8 (f (0 + i))).n
     (Rw.gen m fun i j => Value.int IntKind.u8 (f (0 + i))).at ==
   rdK (Rw.gen m fun i j => Value.int IntKind.u8 (f (0 + i))).n
     (Rw.gen m fun i j => Value.int IntKind.u8 (f (0 + i))).at, true)], Value.bool true) := by kernel_rfl
theorem b5R6 (op : Int) (n : Int) (m : Nat) (f : Nat →
  Int) : (Ly.run (lctx) 20000 [(0, false), (0, true), (0, false), (0, false), (0, true), (0, false), (0, true), (0, false), (0, false), (0, true), (0, false), (0, true), (0, true), (11, true), (0, true), (0, true), (0, true), (0, true), (0, true), (0, true), (0, true), (0, true), (1, true)] (Ly.start
  Try.f5 [Value.int IntKind.u8 op, Value.int IntKind.u16 n, sl 0 m]
  (mkH
    [some
        (ints IntKind.u8 f
          m)]))).out? = some ([(decide (1000 < (m : Int)), false),
 (inb op && (decide (0 ≤ n) && decide (n ≤ 65535)), true),
 (sizeT op == 0, false),
 (sizeT op == 1, false),
 (sizeT op == 2, true),
 (decide (n ≤ 255), false),
 (inb op && (decide (0 ≤ n) && decide (n ≤ 65535)), true),
 (sizeT op == 0, false),
 (sizeT op == 1, false),
 (sizeT op == 2, true),
 (decide (n ≤ 255), false),
 ((0 + m).ble m &&
   (Rw.ints IntKind.u8 (Rw.gen m fun i j => Value.int IntKind.u8 (f (0 + i))) &&
     (rdP (Rw.gen m fun i j => Value.int IntKind.u8 (f (0 + i))).n
         (Rw.gen m fun i j => Value.int IntKind.u8 (f (0 + i))).at).fst), true),
 ((0 + m).ble m &&
   (Rw.ints IntKind.u8 (Rw.gen m fun i j => Value.int IntKind.u8 (f (0 + i))) &&
     (rdR (Rw.gen m fun i j => Value.int IntKind.u8 (f (0 + i))).n
         (Rw.gen m fun i j => Value.int IntKind.u8 (f (0 + i))).at).fst), true),
 ((rdO (Rw.gen m fun i j => Value.int IntKind.u8 (f (0 + i))).n
         (Rw.gen m fun i j => Value.int IntKind.u8 (f (0 + i))).at ==
       rdO (Rw.gen m fun i j => Value.int IntKind.u8 (f (0 + i))).n
         (Rw.gen m fun i j => Value.int IntKind.u8 (f (0 + i))).at &&
     (rdN (Rw.gen m fun i j => Value.int IntKind.u8 (f (0 + i))).n
           (Rw.gen m fun i j => Value.int IntKind.u8 (f (0 + i))).at ==
         rdN (Rw.gen m fun i j => Value.int IntKind.u8 (f (0 + i))).n
           (Rw.gen m fun i j => Value.int IntKind.u8 (f (0 + i))).at &&
       true)) ==
   true, true),
 ((rdO (Rw.gen m fun i j => Value.int IntKind.u8 (f (0 + i))).n
         (Rw.gen m fun i j => Value.int IntKind.u8 (f (0 + i))).at ==
       rdO (Rw.gen m fun i j => Value.int IntKind.u8 (f (0 + i))).n
         (Rw.gen m fun i j => Value.int IntKind.u8 (f (0 + i))).at &&
     (rdN (Rw.gen m fun i j => Value.int IntKind.u8 (f (0 + i))).n
           (Rw.gen m fun i j => Value.int IntKind.u8 (f (0 + i))).at ==
         rdN (Rw.gen m fun i j => Value.int IntKind.u8 (f (0 + i))).n
           (Rw.gen m fun i j => Value.int IntKind.u8 (f (0 + i))).at &&
       true)) ==
   true, true),
 ((rdO (Rw.gen m fun i j => Value.int IntKind.u8 (f (0 + i))).n
         (Rw.gen m fun i j => Value.int IntKind.u8 (f (0 + i))).at ==
       rdO (Rw.gen m fun i j => Value.int IntKind.u8 (f (0 + i))).n
         (Rw.gen m fun i j => Value.int IntKind.u8 (f (0 + i))).at &&
     (rdN (Rw.gen m fun i j => Value.int IntKind.u8 (f (0 + i))).n
           (Rw.gen m fun i j => Value.int IntKind.u8 (f (0 + i))).at ==
         rdN (Rw.gen m fun i j => Value.int IntKind.u8 (f (0 + i))).n
           (Rw.gen m fun i j => Value.int IntKind.u8 (f (0 + i))).at &&
       true)) ==
   true, true),
 (rdO (Rw.gen m fun i j => Value.int IntKind.u8 (f (0 + i))).n
       (Rw.gen m fun i j => Value.int IntKind.u8 (f (0 + i))).at ==
     rdO (Rw.gen m fun i j => Value.int IntKind.u8 (f (0 + i))).n
       (Rw.gen m fun i j => Value.int IntKind.u8 (f (0 + i))).at &&
   (rdN (Rw.gen m fun i j => Value.int IntKind.u8 (f (0 + i))).n
         (Rw.gen m fun i j => Value.int IntKind.u8 (f (0 + i))).at ==
       rdN (Rw.gen m fun i j => Value.int IntKind.u8 (f (0 + i))).n
         (Rw.gen m fun i j => Value.int IntKind.u8 (f (0 + i))).at &&
     true), true),
 ((rdS (Rw.gen m fun i j => Value.int IntKind.u8 (f (0 + i))).n
       (Rw.gen m fun i j => Value.int IntKind.u8 (f (0 + i))).at ==
     rdS (Rw.gen m fun i j => Value.int IntKind.u8 (f (0 + i))).n
       (Rw.gen m fun i j => Value.int IntKind.u8 (f (0 + i))).at) ==
   true, true),
 ((rdS (Rw.gen m fun i j => Value.int IntKind.u8 (f (0 + i))).n
       (Rw.gen m fun i j => Value.int IntKind.u8 (f (0 + i))).at ==
     rdS (Rw.gen m fun i j => Value.int IntKind.u8 (f (0 + i))).n
       (Rw.gen m fun i j => Value.int IntKind.u8 (f (0 + i))).at) ==
   true, true),
 ((rdS (Rw.gen m fun i j => Value.int IntKind.u8 (f (0 + i))).n
       (Rw.gen m fun i j => Value.int IntKind.u8 (f (0 + i))).at ==
     rdS (Rw.gen m fun i j => Value.int IntKind.u8 (f (0 + i))).n
       (Rw.gen m fun i j => Value.int IntKind.u8 (f (0 + i))).at) ==
   true, true),
 (rdS (Rw.gen m fun i j => Value.int IntKind.u8 (f (0 + i))).n
     (Rw.gen m fun i j => Value.int IntKind.u8 (f (0 + i))).at ==
   rdS (Rw.gen m fun i j => Value.int IntKind.u8 (f (0 + i))).n
     (Rw.gen m fun i j => Value.int IntKind.u8 (f (0 + i))).at, true),
 ((rdK (Rw.gen m fun i j => Value.int IntKind.u8 (f (0 + i))).n
       (Rw.gen m fun i j => Value.int IntKind.u8 (f (0 + i))).at ==
     rdK (Rw.gen m fun i j => Value.int IntKind.u8 (f (0 + i))).n
       (Rw.gen m fun i j => Value.int IntKind.u8 (f (0 + i))).at) ==
   true, true),
 (rdK (Rw.gen m fun i j => Value.int IntKind.u8 (f (0 + i))).n
     (Rw.gen m fun i j => Value.int IntKind.u8 (f (0 + i))).at ==
   rdK (Rw.gen m fun i j => Value.int IntKind.u8 (f (0 + i))).n
     (Rw.gen m fun i j => Value.int IntKind.u8 (f (0 + i))).at, true)], Value.bool true) := by kernel_rfl
theorem b5R7 (op : Int) (n : Int) (m : Nat) (f : Nat →
  Int) : (Ly.run (lctx) 20000 [(0, false), (0, true), (0, false), (0, false), (0, false), (0, true), (0, true), (0, false), (0, false), (0, false), (0, true), (0, true), (0, true), (1, true), (0, true), (0, true), (0, true), (6, true), (0, true), (0, true), (0, true), (0, true), (0, true), (0, true), (0, true), (0, true), (1, true)] (Ly.start
  Try.f5 [Value.int IntKind.u8 op, Value.int IntKind.u16 n, sl 0 m]
  (mkH
    [some
        (ints IntKind.u8 f
          m)]))).out? = some ([(decide (1000 < (m : Int)), false),
 (inb op && (decide (0 ≤ n) && decide (n ≤ 65535)), true),
 (sizeT op == 0, false),
 (sizeT op == 1, false),
 (sizeT op == 2, false),
 (sizeT op == 3, true),
 (inb op && (decide (0 ≤ n) && decide (n ≤ 65535)), true),
 (sizeT op == 0, false),
 (sizeT op == 1, false),
 (sizeT op == 2, false),
 (sizeT op == 3, true),
 ((0 + m).ble m &&
   (Rw.ints IntKind.u8 (Rw.gen m fun i j => Value.int IntKind.u8 (f (0 + i))) &&
     (rdP (Rw.gen m fun i j => Value.int IntKind.u8 (f (0 + i))).n
         (Rw.gen m fun i j => Value.int IntKind.u8 (f (0 + i))).at).fst), true),
 ((0 + m).ble m &&
   (Rw.ints IntKind.u8 (Rw.gen m fun i j => Value.int IntKind.u8 (f (0 + i))) &&
     (rdR (Rw.gen m fun i j => Value.int IntKind.u8 (f (0 + i))).n
         (Rw.gen m fun i j => Value.int IntKind.u8 (f (0 + i))).at).fst), true),
 (((Rw.lst 3
             (List.take 3
               (List.drop 0
                 (LO.cells
                     [Value.int IntKind.u8 op, Value.int IntKind.u8 (IntKind.u8.wrap n),
                       Value.int IntKind.u8 (IntKind.u8.wrap (n.fdiv 256))]
                     5).cs))).n.beq
       (Rw.lst 3
           (List.take 3
             (List.drop 0
               (LO.cells
                   [Value.int IntKind.u8 op, Value.int IntKind.u8 (IntKind.u8.wrap (bits BinOp.and IntKind.u16 n 255)),
                     Value.int IntKind.u8 (IntKind.u8.wrap (n.fdiv 256))]
                   5).cs))).n &&
     eqU
       (Rw.lst 3
           (List.take 3
             (List.drop 0
               (LO.cells
                   [Value.int IntKind.u8 op, Value.int IntKind.u8 (IntKind.u8.wrap n),
                     Value.int IntKind.u8 (IntKind.u8.wrap (n.fdiv 256))]
                   5).cs))).n
       (Rw.lst 3
           (List.take 3
             (List.drop 0
               (LO.cells
                   [Value.int IntKind.u8 op, Value.int IntKind.u8 (IntKind.u8.wrap n),
                     Value.int IntKind.u8 (IntKind.u8.wrap (n.fdiv 256))]
                   5).cs))).at
       (Rw.lst 3
           (List.take 3
             (List.drop 0
               (LO.cells
                   [Value.int IntKind.u8 op, Value.int IntKind.u8 (IntKind.u8.wrap (bits BinOp.and IntKind.u16 n 255)),
                     Value.int IntKind.u8 (IntKind.u8.wrap (n.fdiv 256))]
                   5).cs))).at) ==
   true, true),
 (((Rw.lst 3
             (List.take 3
               (List.drop 0
                 (LO.cells
                     [Value.int IntKind.u8 op, Value.int IntKind.u8 (IntKind.u8.wrap n),
                       Value.int IntKind.u8 (IntKind.u8.wrap (n.fdiv 256))]
                     5).cs))).n.beq
       (Rw.lst 3
           (List.take 3
             (List.drop 0
               (LO.cells
                   [Value.int IntKind.u8 op, Value.int IntKind.u8 (IntKind.u8.wrap (bits BinOp.and IntKind.u16 n 255)),
                     Value.int IntKind.u8 (IntKind.u8.wrap (n.fdiv 256))]
                   5).cs))).n &&
     eqU
       (Rw.lst 3
           (List.take 3
             (List.drop 0
               (LO.cells
                   [Value.int IntKind.u8 op, Value.int IntKind.u8 (IntKind.u8.wrap n),
                     Value.int IntKind.u8 (IntKind.u8.wrap (n.fdiv 256))]
                   5).cs))).n
       (Rw.lst 3
           (List.take 3
             (List.drop 0
               (LO.cells
                   [Value.int IntKind.u8 op, Value.int IntKind.u8 (IntKind.u8.wrap n),
                     Value.int IntKind.u8 (IntKind.u8.wrap (n.fdiv 256))]
                   5).cs))).at
       (Rw.lst 3
           (List.take 3
             (List.drop 0
               (LO.cells
                   [Value.int IntKind.u8 op, Value.int IntKind.u8 (IntKind.u8.wrap (bits BinOp.and IntKind.u16 n 255)),
                     Value.int IntKind.u8 (IntKind.u8.wrap (n.fdiv 256))]
                   5).cs))).at) ==
   true, true),
 (((Rw.lst 3
             (List.take 3
               (List.drop 0
                 (LO.cells
                     [Value.int IntKind.u8 op, Value.int IntKind.u8 (IntKind.u8.wrap n),
                       Value.int IntKind.u8 (IntKind.u8.wrap (n.fdiv 256))]
                     5).cs))).n.beq
       (Rw.lst 3
           (List.take 3
             (List.drop 0
               (LO.cells
                   [Value.int IntKind.u8 op, Value.int IntKind.u8 (IntKind.u8.wrap (bits BinOp.and IntKind.u16 n 255)),
                     Value.int IntKind.u8 (IntKind.u8.wrap (n.fdiv 256))]
                   5).cs))).n &&
     eqU
       (Rw.lst 3
           (List.take 3
             (List.drop 0
               (LO.cells
                   [Value.int IntKind.u8 op, Value.int IntKind.u8 (IntKind.u8.wrap n),
                     Value.int IntKind.u8 (IntKind.u8.wrap (n.fdiv 256))]
                   5).cs))).n
       (Rw.lst 3
           (List.take 3
             (List.drop 0
               (LO.cells
                   [Value.int IntKind.u8 op, Value.int IntKind.u8 (IntKind.u8.wrap n),
                     Value.int IntKind.u8 (IntKind.u8.wrap (n.fdiv 256))]
                   5).cs))).at
       (Rw.lst 3
           (List.take 3
             (List.drop 0
               (LO.cells
                   [Value.int IntKind.u8 op, Value.int IntKind.u8 (IntKind.u8.wrap (bits BinOp.and IntKind.u16 n 255)),
                     Value.int IntKind.u8 (IntKind.u8.wrap (n.fdiv 256))]
                   5).cs))).at) ==
   true, true),
 ((Rw.lst 3
           (List.take 3
             (List.drop 0
               (LO.cells
                   [Value.int IntKind.u8 op, Value.int IntKind.u8 (IntKind.u8.wrap n),
                     Value.int IntKind.u8 (IntKind.u8.wrap (n.fdiv 256))]
                   5).cs))).n.beq
     (Rw.lst 3
         (List.take 3
           (List.drop 0
             (LO.cells
                 [Value.int IntKind.u8 op, Value.int IntKind.u8 (IntKind.u8.wrap (bits BinOp.and IntKind.u16 n 255)),
                   Value.int IntKind.u8 (IntKind.u8.wrap (n.fdiv 256))]
                 5).cs))).n &&
   eqU
     (Rw.lst 3
         (List.take 3
           (List.drop 0
             (LO.cells
                 [Value.int IntKind.u8 op, Value.int IntKind.u8 (IntKind.u8.wrap n),
                   Value.int IntKind.u8 (IntKind.u8.wrap (n.fdiv 256))]
                 5).cs))).n
     (Rw.lst 3
         (List.take 3
           (List.drop 0
             (LO.cells
                 [Value.int IntKind.u8 op, Value.int IntKind.u8 (IntKind.u8.wrap n),
                   Value.int IntKind.u8 (IntKind.u8.wrap (n.fdiv 256))]
                 5).cs))).at
     (Rw.lst 3
         (List.take 3
           (List.drop 0
             (LO.cells
                 [Value.int IntKind.u8 op, Value.int IntKind.u8 (IntKind.u8.wrap (bits BinOp.and IntKind.u16 n 255)),
                   Value.int IntKind.u8 (IntKind.u8.wrap (n.fdiv 256))]
                 5).cs))).at, true),
 ((rdO (Rw.gen m fun i j => Value.int IntKind.u8 (f (0 + i))).n
         (Rw.gen m fun i j => Value.int IntKind.u8 (f (0 + i))).at ==
       rdO (Rw.gen m fun i j => Value.int IntKind.u8 (f (0 + i))).n
         (Rw.gen m fun i j => Value.int IntKind.u8 (f (0 + i))).at &&
     (rdN (Rw.gen m fun i j => Value.int IntKind.u8 (f (0 + i))).n
           (Rw.gen m fun i j => Value.int IntKind.u8 (f (0 + i))).at ==
         rdN (Rw.gen m fun i j => Value.int IntKind.u8 (f (0 + i))).n
           (Rw.gen m fun i j => Value.int IntKind.u8 (f (0 + i))).at &&
       true)) ==
   true, true),
 ((rdO (Rw.gen m fun i j => Value.int IntKind.u8 (f (0 + i))).n
         (Rw.gen m fun i j => Value.int IntKind.u8 (f (0 + i))).at ==
       rdO (Rw.gen m fun i j => Value.int IntKind.u8 (f (0 + i))).n
         (Rw.gen m fun i j => Value.int IntKind.u8 (f (0 + i))).at &&
     (rdN (Rw.gen m fun i j => Value.int IntKind.u8 (f (0 + i))).n
           (Rw.gen m fun i j => Value.int IntKind.u8 (f (0 + i))).at ==
         rdN (Rw.gen m fun i j => Value.int IntKind.u8 (f (0 + i))).n
           (Rw.gen m fun i j => Value.int IntKind.u8 (f (0 + i))).at &&
       true)) ==
   true, true),
 ((rdO (Rw.gen m fun i j => Value.int IntKind.u8 (f (0 + i))).n
         (Rw.gen m fun i j => Value.int IntKind.u8 (f (0 + i))).at ==
       rdO (Rw.gen m fun i j => Value.int IntKind.u8 (f (0 + i))).n
         (Rw.gen m fun i j => Value.int IntKind.u8 (f (0 + i))).at &&
     (rdN (Rw.gen m fun i j => Value.int IntKind.u8 (f (0 + i))).n
           (Rw.gen m fun i j => Value.int IntKind.u8 (f (0 + i))).at ==
         rdN (Rw.gen m fun i j => Value.int IntKind.u8 (f (0 + i))).n
           (Rw.gen m fun i j => Value.int IntKind.u8 (f (0 + i))).at &&
       true)) ==
   true, true),
 (rdO (Rw.gen m fun i j => Value.int IntKind.u8 (f (0 + i))).n
       (Rw.gen m fun i j => Value.int IntKind.u8 (f (0 + i))).at ==
     rdO (Rw.gen m fun i j => Value.int IntKind.u8 (f (0 + i))).n
       (Rw.gen m fun i j => Value.int IntKind.u8 (f (0 + i))).at &&
   (rdN (Rw.gen m fun i j => Value.int IntKind.u8 (f (0 + i))).n
         (Rw.gen m fun i j => Value.int IntKind.u8 (f (0 + i))).at ==
       rdN (Rw.gen m fun i j => Value.int IntKind.u8 (f (0 + i))).n
         (Rw.gen m fun i j => Value.int IntKind.u8 (f (0 + i))).at &&
     true), true),
 ((rdS (Rw.gen m fun i j => Value.int IntKind.u8 (f (0 + i))).n
       (Rw.gen m fun i j => Value.int IntKind.u8 (f (0 + i))).at ==
     rdS (Rw.gen m fun i j => Value.int IntKind.u8 (f (0 + i))).n
       (Rw.gen m fun i j => Value.int IntKind.u8 (f (0 + i))).at) ==
   true, true),
 ((rdS (Rw.gen m fun i j => Value.int IntKind.u8 (f (0 + i))).n
       (Rw.gen m fun i j => Value.int IntKind.u8 (f (0 + i))).at ==
     rdS (Rw.gen m fun i j => Value.int IntKind.u8 (f (0 + i))).n
       (Rw.gen m fun i j => Value.int IntKind.u8 (f (0 + i))).at) ==
   true, true),
 ((rdS (Rw.gen m fun i j => Value.int IntKind.u8 (f (0 + i))).n
       (Rw.gen m fun i j => Value.int IntKind.u8 (f (0 + i))).at ==
     rdS (Rw.gen m fun i j => Value.int IntKind.u8 (f (0 + i))).n
       (Rw.gen m fun i j => Value.int IntKind.u8 (f (0 + i))).at) ==
   true, true),
 (rdS (Rw.gen m fun i j => Value.int IntKind.u8 (f (0 + i))).n
     (Rw.gen m fun i j => Value.int IntKind.u8 (f (0 + i))).at ==
   rdS (Rw.gen m fun i j => Value.int IntKind.u8 (f (0 + i))).n
     (Rw.gen m fun i j => Value.int IntKind.u8 (f (0 + i))).at, true),
 ((rdK (Rw.gen m fun i j => Value.int IntKind.u8 (f (0 + i))).n
       (Rw.gen m fun i j => Value.int IntKind.u8 (f (0 + i))).at ==
     rdK (Rw.gen m fun i j => Value.int IntKind.u8 (f (0 + i))).n
       (Rw.gen m fun i j => Value.int IntKind.u8 (f (0 + i))).at) ==
   true, true),
 (rdK (Rw.gen m fun i j => Value.int IntKind.u8 (f (0 + i))).n
     (Rw.gen m fun i j => Value.int IntKind.u8 (f (0 + i))).at ==
   rdK (Rw.gen m fun i j => Value.int IntKind.u8 (f (0 + i))).n
     (Rw.gen m fun i j => Value.int IntKind.u8 (f (0 + i))).at, true)], Value.bool true) := by kernel_rfl
theorem b5nR0 (op : Int) (n : Int) : (Ly.run (lctx) 20000 [(1, true), (0, true), (0, true), (0, true)] (Ly.start
  Try.f5 [Value.int IntKind.u8 op, Value.int IntKind.u16 n, Value.slice none 0 0]
  H0)).out? = some ([(inb op && (decide (0 ≤ n) && decide (n ≤ 65535)), true),
 (sizeT op == 0, true),
 (inb op && (decide (0 ≤ n) && decide (n ≤ 65535)), true),
 (sizeT op == 0, true)], Value.bool true) := by kernel_rfl
theorem b5nR1 (op : Int) (n : Int) : (Ly.run (lctx) 20000 [(1, true), (0, false), (0, true), (0, true), (0, true), (0, false), (0, true), (0, true), (3, true), (0, true), (0, true), (0, true)] (Ly.start
  Try.f5 [Value.int IntKind.u8 op, Value.int IntKind.u16 n, Value.slice none 0 0]
  H0)).out? = some ([(inb op && (decide (0 ≤ n) && decide (n ≤ 65535)), true),
 (sizeT op == 0, false),
 (sizeT op == 1, true),
 (n == 0, true),
 (inb op && (decide (0 ≤ n) && decide (n ≤ 65535)), true),
 (sizeT op == 0, false),
 (sizeT op == 1, true),
 (n == 0, true),
 (((Rw.lst 1
             (List.take 1
               (List.drop 0
                 (LO.cells
                     [Value.int IntKind.u8 op, Value.int IntKind.u8 (IntKind.u8.wrap n),
                       Value.int IntKind.u8 (IntKind.u8.wrap (n.fdiv 256))]
                     5).cs))).n.beq
       (Rw.lst 1 (List.take 1 (List.drop 0 (LO.cells [Value.int IntKind.u8 op] 5).cs))).n &&
     eqU
       (Rw.lst 1
           (List.take 1
             (List.drop 0
               (LO.cells
                   [Value.int IntKind.u8 op, Value.int IntKind.u8 (IntKind.u8.wrap n),
                     Value.int IntKind.u8 (IntKind.u8.wrap (n.fdiv 256))]
                   5).cs))).n
       (Rw.lst 1
           (List.take 1
             (List.drop 0
               (LO.cells
                   [Value.int IntKind.u8 op, Value.int IntKind.u8 (IntKind.u8.wrap n),
                     Value.int IntKind.u8 (IntKind.u8.wrap (n.fdiv 256))]
                   5).cs))).at
       (Rw.lst 1 (List.take 1 (List.drop 0 (LO.cells [Value.int IntKind.u8 op] 5).cs))).at) ==
   true, true),
 (((Rw.lst 1
             (List.take 1
               (List.drop 0
                 (LO.cells
                     [Value.int IntKind.u8 op, Value.int IntKind.u8 (IntKind.u8.wrap n),
                       Value.int IntKind.u8 (IntKind.u8.wrap (n.fdiv 256))]
                     5).cs))).n.beq
       (Rw.lst 1 (List.take 1 (List.drop 0 (LO.cells [Value.int IntKind.u8 op] 5).cs))).n &&
     eqU
       (Rw.lst 1
           (List.take 1
             (List.drop 0
               (LO.cells
                   [Value.int IntKind.u8 op, Value.int IntKind.u8 (IntKind.u8.wrap n),
                     Value.int IntKind.u8 (IntKind.u8.wrap (n.fdiv 256))]
                   5).cs))).n
       (Rw.lst 1
           (List.take 1
             (List.drop 0
               (LO.cells
                   [Value.int IntKind.u8 op, Value.int IntKind.u8 (IntKind.u8.wrap n),
                     Value.int IntKind.u8 (IntKind.u8.wrap (n.fdiv 256))]
                   5).cs))).at
       (Rw.lst 1 (List.take 1 (List.drop 0 (LO.cells [Value.int IntKind.u8 op] 5).cs))).at) ==
   true, true),
 (((Rw.lst 1
             (List.take 1
               (List.drop 0
                 (LO.cells
                     [Value.int IntKind.u8 op, Value.int IntKind.u8 (IntKind.u8.wrap n),
                       Value.int IntKind.u8 (IntKind.u8.wrap (n.fdiv 256))]
                     5).cs))).n.beq
       (Rw.lst 1 (List.take 1 (List.drop 0 (LO.cells [Value.int IntKind.u8 op] 5).cs))).n &&
     eqU
       (Rw.lst 1
           (List.take 1
             (List.drop 0
               (LO.cells
                   [Value.int IntKind.u8 op, Value.int IntKind.u8 (IntKind.u8.wrap n),
                     Value.int IntKind.u8 (IntKind.u8.wrap (n.fdiv 256))]
                   5).cs))).n
       (Rw.lst 1
           (List.take 1
             (List.drop 0
               (LO.cells
                   [Value.int IntKind.u8 op, Value.int IntKind.u8 (IntKind.u8.wrap n),
                     Value.int IntKind.u8 (IntKind.u8.wrap (n.fdiv 256))]
                   5).cs))).at
       (Rw.lst 1 (List.take 1 (List.drop 0 (LO.cells [Value.int IntKind.u8 op] 5).cs))).at) ==
   true, true),
 ((Rw.lst 1
           (List.take 1
             (List.drop 0
               (LO.cells
                   [Value.int IntKind.u8 op, Value.int IntKind.u8 (IntKind.u8.wrap n),
                     Value.int IntKind.u8 (IntKind.u8.wrap (n.fdiv 256))]
                   5).cs))).n.beq
     (Rw.lst 1 (List.take 1 (List.drop 0 (LO.cells [Value.int IntKind.u8 op] 5).cs))).n &&
   eqU
     (Rw.lst 1
         (List.take 1
           (List.drop 0
             (LO.cells
                 [Value.int IntKind.u8 op, Value.int IntKind.u8 (IntKind.u8.wrap n),
                   Value.int IntKind.u8 (IntKind.u8.wrap (n.fdiv 256))]
                 5).cs))).n
     (Rw.lst 1
         (List.take 1
           (List.drop 0
             (LO.cells
                 [Value.int IntKind.u8 op, Value.int IntKind.u8 (IntKind.u8.wrap n),
                   Value.int IntKind.u8 (IntKind.u8.wrap (n.fdiv 256))]
                 5).cs))).at
     (Rw.lst 1
         (List.take 1
           (List.drop 0 (LO.cells [Value.int IntKind.u8 op] 5).cs))).at, true)], Value.bool true) := by kernel_rfl
theorem b5nR3 (op : Int) (n : Int) : (Ly.run (lctx) 20000 [(1, true), (0, false), (0, true), (0, false), (0, true), (0, false), (0, true), (0, false)] (Ly.start
  Try.f5 [Value.int IntKind.u8 op, Value.int IntKind.u16 n, Value.slice none 0 0]
  H0)).out? = some ([(inb op && (decide (0 ≤ n) && decide (n ≤ 65535)), true),
 (sizeT op == 0, false),
 (sizeT op == 1, true),
 (n == 0, false),
 (inb op && (decide (0 ≤ n) && decide (n ≤ 65535)), true),
 (sizeT op == 0, false),
 (sizeT op == 1, true),
 (n == 0, false)], Value.bool true) := by kernel_rfl
theorem b5nR4 (op : Int) (n : Int) : (Ly.run (lctx) 20000 [(1, true), (0, false), (0, false), (0, true), (0, true), (0, true), (0, false), (0, false), (0, true), (0, true), (3, true), (0, true), (0, true), (0, true)] (Ly.start
  Try.f5 [Value.int IntKind.u8 op, Value.int IntKind.u16 n, Value.slice none 0 0]
  H0)).out? = some ([(inb op && (decide (0 ≤ n) && decide (n ≤ 65535)), true),
 (sizeT op == 0, false),
 (sizeT op == 1, false),
 (sizeT op == 2, true),
 (decide (n ≤ 255), true),
 (inb op && (decide (0 ≤ n) && decide (n ≤ 65535)), true),
 (sizeT op == 0, false),
 (sizeT op == 1, false),
 (sizeT op == 2, true),
 (decide (n ≤ 255), true),
 (((Rw.lst 2
             (List.take 2
               (List.drop 0
                 (LO.cells
                     [Value.int IntKind.u8 op, Value.int IntKind.u8 (IntKind.u8.wrap n),
                       Value.int IntKind.u8 (IntKind.u8.wrap (n.fdiv 256))]
                     5).cs))).n.beq
       (Rw.lst 2
           (List.take 2
             (List.drop 0 (LO.cells [Value.int IntKind.u8 op, Value.int IntKind.u8 (IntKind.u8.wrap n)] 5).cs))).n &&
     eqU
       (Rw.lst 2
           (List.take 2
             (List.drop 0
               (LO.cells
                   [Value.int IntKind.u8 op, Value.int IntKind.u8 (IntKind.u8.wrap n),
                     Value.int IntKind.u8 (IntKind.u8.wrap (n.fdiv 256))]
                   5).cs))).n
       (Rw.lst 2
           (List.take 2
             (List.drop 0
               (LO.cells
                   [Value.int IntKind.u8 op, Value.int IntKind.u8 (IntKind.u8.wrap n),
                     Value.int IntKind.u8 (IntKind.u8.wrap (n.fdiv 256))]
                   5).cs))).at
       (Rw.lst 2
           (List.take 2
             (List.drop 0 (LO.cells [Value.int IntKind.u8 op, Value.int IntKind.u8 (IntKind.u8.wrap n)] 5).cs))).at) ==
   true, true),
 (((Rw.lst 2
             (List.take 2
               (List.drop 0
                 (LO.cells
                     [Value.int IntKind.u8 op, Value.int IntKind.u8 (IntKind.u8.wrap n),
                       Value.int IntKind.u8 (IntKind.u8.wrap (n.fdiv 256))]
                     5).cs))).n.beq
       (Rw.lst 2
           (List.take 2
             (List.drop 0 (LO.cells [Value.int IntKind.u8 op, Value.int IntKind.u8 (IntKind.u8.wrap n)] 5).cs))).n &&
     eqU
       (Rw.lst 2
           (List.take 2
             (List.drop 0
               (LO.cells
                   [Value.int IntKind.u8 op, Value.int IntKind.u8 (IntKind.u8.wrap n),
                     Value.int IntKind.u8 (IntKind.u8.wrap (n.fdiv 256))]
                   5).cs))).n
       (Rw.lst 2
           (List.take 2
             (List.drop 0
               (LO.cells
                   [Value.int IntKind.u8 op, Value.int IntKind.u8 (IntKind.u8.wrap n),
                     Value.int IntKind.u8 (IntKind.u8.wrap (n.fdiv 256))]
                   5).cs))).at
       (Rw.lst 2
           (List.take 2
             (List.drop 0 (LO.cells [Value.int IntKind.u8 op, Value.int IntKind.u8 (IntKind.u8.wrap n)] 5).cs))).at) ==
   true, true),
 (((Rw.lst 2
             (List.take 2
               (List.drop 0
                 (LO.cells
                     [Value.int IntKind.u8 op, Value.int IntKind.u8 (IntKind.u8.wrap n),
                       Value.int IntKind.u8 (IntKind.u8.wrap (n.fdiv 256))]
                     5).cs))).n.beq
       (Rw.lst 2
           (List.take 2
             (List.drop 0 (LO.cells [Value.int IntKind.u8 op, Value.int IntKind.u8 (IntKind.u8.wrap n)] 5).cs))).n &&
     eqU
       (Rw.lst 2
           (List.take 2
             (List.drop 0
               (LO.cells
                   [Value.int IntKind.u8 op, Value.int IntKind.u8 (IntKind.u8.wrap n),
                     Value.int IntKind.u8 (IntKind.u8.wrap (n.fdiv 256))]
                   5).cs))).n
       (Rw.lst 2
           (List.take 2
             (List.drop 0
               (LO.cells
                   [Value.int IntKind.u8 op, Value.int IntKind.u8 (IntKind.u8.wrap n),
                     Value.int IntKind.u8 (IntKind.u8.wrap (n.fdiv 256))]
                   5).cs))).at
       (Rw.lst 2
           (List.take 2
             (List.drop 0 (LO.cells [Value.int IntKind.u8 op, Value.int IntKind.u8 (IntKind.u8.wrap n)] 5).cs))).at) ==
   true, true),
 ((Rw.lst 2
           (List.take 2
             (List.drop 0
               (LO.cells
                   [Value.int IntKind.u8 op, Value.int IntKind.u8 (IntKind.u8.wrap n),
                     Value.int IntKind.u8 (IntKind.u8.wrap (n.fdiv 256))]
                   5).cs))).n.beq
     (Rw.lst 2
         (List.take 2
           (List.drop 0 (LO.cells [Value.int IntKind.u8 op, Value.int IntKind.u8 (IntKind.u8.wrap n)] 5).cs))).n &&
   eqU
     (Rw.lst 2
         (List.take 2
           (List.drop 0
             (LO.cells
                 [Value.int IntKind.u8 op, Value.int IntKind.u8 (IntKind.u8.wrap n),
                   Value.int IntKind.u8 (IntKind.u8.wrap (n.fdiv 256))]
                 5).cs))).n
     (Rw.lst 2
         (List.take 2
           (List.drop 0
             (LO.cells
                 [Value.int IntKind.u8 op, Value.int IntKind.u8 (IntKind.u8.wrap n),
                   Value.int IntKind.u8 (IntKind.u8.wrap (n.fdiv 256))]
                 5).cs))).at
     (Rw.lst 2
         (List.take 2
           (List.drop 0
             (LO.cells [Value.int IntKind.u8 op, Value.int IntKind.u8 (IntKind.u8.wrap n)]
                 5).cs))).at, true)], Value.bool true) := by kernel_rfl
theorem b5nR6 (op : Int) (n : Int) : (Ly.run (lctx) 20000 [(1, true), (0, false), (0, false), (0, true), (0, false), (0, true), (0, false), (0, false), (0, true), (0, false)] (Ly.start
  Try.f5 [Value.int IntKind.u8 op, Value.int IntKind.u16 n, Value.slice none 0 0]
  H0)).out? = some ([(inb op && (decide (0 ≤ n) && decide (n ≤ 65535)), true),
 (sizeT op == 0, false),
 (sizeT op == 1, false),
 (sizeT op == 2, true),
 (decide (n ≤ 255), false),
 (inb op && (decide (0 ≤ n) && decide (n ≤ 65535)), true),
 (sizeT op == 0, false),
 (sizeT op == 1, false),
 (sizeT op == 2, true),
 (decide (n ≤ 255), false)], Value.bool true) := by kernel_rfl
theorem b5nR7 (op : Int) (n : Int) : (Ly.run (lctx) 20000 [(1, true), (0, false), (0, false), (0, false), (0, true), (0, true), (0, false), (0, false), (0, false), (0, true), (3, true), (0, true), (0, true), (0, true)] (Ly.start
  Try.f5 [Value.int IntKind.u8 op, Value.int IntKind.u16 n, Value.slice none 0 0]
  H0)).out? = some ([(inb op && (decide (0 ≤ n) && decide (n ≤ 65535)), true),
 (sizeT op == 0, false),
 (sizeT op == 1, false),
 (sizeT op == 2, false),
 (sizeT op == 3, true),
 (inb op && (decide (0 ≤ n) && decide (n ≤ 65535)), true),
 (sizeT op == 0, false),
 (sizeT op == 1, false),
 (sizeT op == 2, false),
 (sizeT op == 3, true),
 (((Rw.lst 3
             (List.take 3
               (List.drop 0
                 (LO.cells
                     [Value.int IntKind.u8 op, Value.int IntKind.u8 (IntKind.u8.wrap n),
                       Value.int IntKind.u8 (IntKind.u8.wrap (n.fdiv 256))]
                     5).cs))).n.beq
       (Rw.lst 3
           (List.take 3
             (List.drop 0
               (LO.cells
                   [Value.int IntKind.u8 op, Value.int IntKind.u8 (IntKind.u8.wrap (bits BinOp.and IntKind.u16 n 255)),
                     Value.int IntKind.u8 (IntKind.u8.wrap (n.fdiv 256))]
                   5).cs))).n &&
     eqU
       (Rw.lst 3
           (List.take 3
             (List.drop 0
               (LO.cells
                   [Value.int IntKind.u8 op, Value.int IntKind.u8 (IntKind.u8.wrap n),
                     Value.int IntKind.u8 (IntKind.u8.wrap (n.fdiv 256))]
                   5).cs))).n
       (Rw.lst 3
           (List.take 3
             (List.drop 0
               (LO.cells
                   [Value.int IntKind.u8 op, Value.int IntKind.u8 (IntKind.u8.wrap n),
                     Value.int IntKind.u8 (IntKind.u8.wrap (n.fdiv 256))]
                   5).cs))).at
       (Rw.lst 3
           (List.take 3
             (List.drop 0
               (LO.cells
                   [Value.int IntKind.u8 op, Value.int IntKind.u8 (IntKind.u8.wrap (bits BinOp.and IntKind.u16 n 255)),
                     Value.int IntKind.u8 (IntKind.u8.wrap (n.fdiv 256))]
                   5).cs))).at) ==
   true, true),
 (((Rw.lst 3
             (List.take 3
               (List.drop 0
                 (LO.cells
                     [Value.int IntKind.u8 op, Value.int IntKind.u8 (IntKind.u8.wrap n),
                       Value.int IntKind.u8 (IntKind.u8.wrap (n.fdiv 256))]
                     5).cs))).n.beq
       (Rw.lst 3
           (List.take 3
             (List.drop 0
               (LO.cells
                   [Value.int IntKind.u8 op, Value.int IntKind.u8 (IntKind.u8.wrap (bits BinOp.and IntKind.u16 n 255)),
                     Value.int IntKind.u8 (IntKind.u8.wrap (n.fdiv 256))]
                   5).cs))).n &&
     eqU
       (Rw.lst 3
           (List.take 3
             (List.drop 0
               (LO.cells
                   [Value.int IntKind.u8 op, Value.int IntKind.u8 (IntKind.u8.wrap n),
                     Value.int IntKind.u8 (IntKind.u8.wrap (n.fdiv 256))]
                   5).cs))).n
       (Rw.lst 3
           (List.take 3
             (List.drop 0
               (LO.cells
                   [Value.int IntKind.u8 op, Value.int IntKind.u8 (IntKind.u8.wrap n),
                     Value.int IntKind.u8 (IntKind.u8.wrap (n.fdiv 256))]
                   5).cs))).at
       (Rw.lst 3
           (List.take 3
             (List.drop 0
               (LO.cells
                   [Value.int IntKind.u8 op, Value.int IntKind.u8 (IntKind.u8.wrap (bits BinOp.and IntKind.u16 n 255)),
                     Value.int IntKind.u8 (IntKind.u8.wrap (n.fdiv 256))]
                   5).cs))).at) ==
   true, true),
 (((Rw.lst 3
             (List.take 3
               (List.drop 0
                 (LO.cells
                     [Value.int IntKind.u8 op, Value.int IntKind.u8 (IntKind.u8.wrap n),
                       Value.int IntKind.u8 (IntKind.u8.wrap (n.fdiv 256))]
                     5).cs))).n.beq
       (Rw.lst 3
           (List.take 3
             (List.drop 0
               (LO.cells
                   [Value.int IntKind.u8 op, Value.int IntKind.u8 (IntKind.u8.wrap (bits BinOp.and IntKind.u16 n 255)),
                     Value.int IntKind.u8 (IntKind.u8.wrap (n.fdiv 256))]
                   5).cs))).n &&
     eqU
       (Rw.lst 3
           (List.take 3
             (List.drop 0
               (LO.cells
                   [Value.int IntKind.u8 op, Value.int IntKind.u8 (IntKind.u8.wrap n),
                     Value.int IntKind.u8 (IntKind.u8.wrap (n.fdiv 256))]
                   5).cs))).n
       (Rw.lst 3
           (List.take 3
             (List.drop 0
               (LO.cells
                   [Value.int IntKind.u8 op, Value.int IntKind.u8 (IntKind.u8.wrap n),
                     Value.int IntKind.u8 (IntKind.u8.wrap (n.fdiv 256))]
                   5).cs))).at
       (Rw.lst 3
           (List.take 3
             (List.drop 0
               (LO.cells
                   [Value.int IntKind.u8 op, Value.int IntKind.u8 (IntKind.u8.wrap (bits BinOp.and IntKind.u16 n 255)),
                     Value.int IntKind.u8 (IntKind.u8.wrap (n.fdiv 256))]
                   5).cs))).at) ==
   true, true),
 ((Rw.lst 3
           (List.take 3
             (List.drop 0
               (LO.cells
                   [Value.int IntKind.u8 op, Value.int IntKind.u8 (IntKind.u8.wrap n),
                     Value.int IntKind.u8 (IntKind.u8.wrap (n.fdiv 256))]
                   5).cs))).n.beq
     (Rw.lst 3
         (List.take 3
           (List.drop 0
             (LO.cells
                 [Value.int IntKind.u8 op, Value.int IntKind.u8 (IntKind.u8.wrap (bits BinOp.and IntKind.u16 n 255)),
                   Value.int IntKind.u8 (IntKind.u8.wrap (n.fdiv 256))]
                 5).cs))).n &&
   eqU
     (Rw.lst 3
         (List.take 3
           (List.drop 0
             (LO.cells
                 [Value.int IntKind.u8 op, Value.int IntKind.u8 (IntKind.u8.wrap n),
                   Value.int IntKind.u8 (IntKind.u8.wrap (n.fdiv 256))]
                 5).cs))).n
     (Rw.lst 3
         (List.take 3
           (List.drop 0
             (LO.cells
                 [Value.int IntKind.u8 op, Value.int IntKind.u8 (IntKind.u8.wrap n),
                   Value.int IntKind.u8 (IntKind.u8.wrap (n.fdiv 256))]
                 5).cs))).at
     (Rw.lst 3
         (List.take 3
           (List.drop 0
             (LO.cells
                 [Value.int IntKind.u8 op, Value.int IntKind.u8 (IntKind.u8.wrap (bits BinOp.and IntKind.u16 n 255)),
                   Value.int IntKind.u8 (IntKind.u8.wrap (n.fdiv 256))]
                 5).cs))).at, true)], Value.bool true) := by kernel_rfl
theorem b5xR0 (op : Int) (n : Int) (m : Nat) (f : Nat →
  Int) : (Ly.run (lctx) 20000 [(0, true)] (Ly.start Try.f5 [Value.int IntKind.u8 op, Value.int IntKind.u16 n, sl 0 m]
  (mkH [some (ints IntKind.u8 f m)]))).out? = some ([(decide (1000 < (m : Int)), true)], Value.bool true) := by kernel_rfl
theorem get5 : lctx.fn.get 5 = some Try.f5 := by kernel_rfl
theorem gen_ints (k : IntKind) (n : Nat) (g : Nat → Int) : Rw.ints k (Rw.gen n fun i j => Value.int k (g i)) = true := by
  have e : kbeq k k = true := by cases k <;> rfl
  simp [Rw.ints, isK, e]
theorem gen_n (n : Nat) (g : Nat → Nat → Value) : (Rw.gen n g).n = n := rfl
theorem gen_at (k : IntKind) (n : Nat) (g : Nat → Int) : (Rw.gen n fun i j => Value.int k (g i)).at = g := rfl
theorem lst_n (n : Nat) (l : List Value) : (Rw.lst n l).n = n := rfl
theorem lst_at (n : Nat) (l : List Value) : (Rw.lst n l).at = fun e => intV ((l[e]?).getD undef) := rfl
theorem and255w (n : Int) (h0 : 0 ≤ n) (h1 : n ≤ 65535) : IntKind.u8.wrap (bits .and .u16 n 255) = IntKind.u8.wrap n := by
  have e : bits .and .u16 n 255 = n % 256 := by
    obtain ⟨k, rfl⟩ := Int.eq_ofNat_of_zero_le h0
    have h3 : (BitVec.ofInt 16 (k : Int)).toNat = k := by rw [BitVec.toNat_ofInt]; omega
    have h4 : (BitVec.ofInt 16 255).toNat = 255 := by rfl
    have h5 : k &&& 255 = k % 256 := Nat.and_two_pow_sub_one_eq_mod k 8
    show IntKind.u16.wrap ((BitVec.ofInt 16 (k : Int) &&& BitVec.ofInt 16 255).toNat : Nat) = _
    rw [BitVec.toNat_and, h3, h4, h5, IntKind.wrap_u16]
    omega
  rw [e, IntKind.wrap_u8, IntKind.wrap_u8]; omega
theorem u8_id (n : Int) (h0 : 0 ≤ n) (h1 : n ≤ 255) : IntKind.u8.wrap n = n := by rw [IntKind.wrap_u8]; omega
theorem rdG_ok (m : Nat) (f : Nat → Int) (hf : ∀ e, e < m → 0 ≤ f e ∧ f e ≤ 255) : rdG m f = true := by
  unfold rdG
  by_cases h0 : m = 0
  · subst h0; rfl
  · have a0 : inb (f 0) = true := (inb_iff _).2 (hf 0 (by omega))
    have b0 : Nat.beq m 0 = false := by rw [Bool.eq_false_iff, Ne, Nat.beq_eq]; omega
    rw [b0, a0]
    by_cases h1 : 1 < m
    · have a1 : inb (f 1) = true := (inb_iff _).2 (hf 1 h1)
      by_cases h2 : 2 < m
      · have a2 : inb (f 2) = true := (inb_iff _).2 (hf 2 h2)
        simp [a1, a2]
      · simp [a1, show Nat.blt 2 m = false by rw [Bool.eq_false_iff, Ne, Nat.blt_eq]; omega]
    · simp [show Nat.blt 1 m = false by rw [Bool.eq_false_iff, Ne, Nat.blt_eq]; omega, show Nat.blt 2 m = false by rw [Bool.eq_false_iff, Ne, Nat.blt_eq]; omega]

theorem b5_row (op n : Int) (m : Nat) (f : Nat → Int) (h1 : inb op = true) (hn0 : 0 ≤ n) (hn1 : n ≤ 65535) (hf : ∀ e, e < m → 0 ≤ f e ∧ f e ≤ 255) : LCalls Try.prog 5 [.int .u8 op, .int .u16 n, sl 0 m] (mkH [some (ints .u8 f m)]) (fun u _ => u = .bool true) := by
  by_cases hm : (1000 : Int) < m
  · exact LCalls_trust lok 20000 _ get5 (by kernel_rfl) (b5xR0 op n m f) (by simp [trusted, hm])
  have hG := rdG_ok m f hf
  have hG2 : rdG m (fun i => f (0 + i)) = true := by simpa using hG
  have hb := (inb_iff op).1 h1
  have aw := and255w n hn0 hn1
  have fd := fdiv256 n
  rcases size_cases op hb.1 hb.2 with e1 | e1 | e1 | e1
  · exact LCalls_trust lok 20000 _ get5 (by kernel_rfl) (b5R0 op n m f) (by simp [trusted, h1, hn0, hn1, hm, hG, rdP, rdR, gen_ints, gen_n, gen_at, lst_n, lst_at, eqU, LO.cs, List.range_succ, aw, fd, e1] <;> omega)
  · by_cases z : n = 0
    · exact LCalls_trust lok 20000 _ get5 (by kernel_rfl) (b5R1 op n m f) (by simp [trusted, h1, hn0, hn1, hm, hG, rdP, rdR, gen_ints, gen_n, gen_at, lst_n, lst_at, eqU, LO.cs, List.range_succ, aw, fd, e1, z] <;> omega)
    · exact LCalls_trust lok 20000 _ get5 (by kernel_rfl) (b5R3 op n m f) (by simp [trusted, h1, hn0, hn1, hm, hG, rdP, rdR, gen_ints, gen_n, gen_at, lst_n, lst_at, eqU, LO.cs, List.range_succ, aw, fd, e1, z] <;> omega)
  · by_cases z : n ≤ 255
    · exact LCalls_trust lok 20000 _ get5 (by kernel_rfl) (b5R4 op n m f) (by simp [trusted, h1, hn0, hn1, hm, hG, rdP, rdR, gen_ints, gen_n, gen_at, lst_n, lst_at, eqU, LO.cs, List.range_succ, aw, fd, e1, z] <;> omega)
    · exact LCalls_trust lok 20000 _ get5 (by kernel_rfl) (b5R6 op n m f) (by simp [trusted, h1, hn0, hn1, hm, hG, rdP, rdR, gen_ints, gen_n, gen_at, lst_n, lst_at, eqU, LO.cs, List.range_succ, aw, fd, e1, z] <;> omega)
  · exact LCalls_trust lok 20000 _ get5 (by kernel_rfl) (b5R7 op n m f) (by simp [trusted, h1, hn0, hn1, hm, hG, rdP, rdR, gen_ints, gen_n, gen_at, lst_n, lst_at, eqU, LO.cs, List.range_succ, aw, fd, e1] <;> omega)
theorem b5_nil (op n : Int) (h1 : inb op = true) (hn0 : 0 ≤ n) (hn1 : n ≤ 65535) : LCalls Try.prog 5 [.int .u8 op, .int .u16 n, .slice none 0 0] H0 (fun u _ => u = .bool true) := by
  have hm : True := trivial
  have hG : True := trivial
  have hb := (inb_iff op).1 h1
  have aw := and255w n hn0 hn1
  have fd := fdiv256 n
  rcases size_cases op hb.1 hb.2 with e1 | e1 | e1 | e1
  · exact LCalls_trust lok 20000 _ get5 (by kernel_rfl) (b5nR0 op n) (by simp [trusted, h1, hn0, hn1, hm, hG, rdP, rdR, gen_ints, gen_n, gen_at, lst_n, lst_at, eqU, LO.cs, List.range_succ, aw, fd, e1] <;> omega)
  · by_cases z : n = 0
    · exact LCalls_trust lok 20000 _ get5 (by kernel_rfl) (b5nR1 op n) (by simp [trusted, h1, hn0, hn1, hm, hG, rdP, rdR, gen_ints, gen_n, gen_at, lst_n, lst_at, eqU, LO.cs, List.range_succ, aw, fd, e1, z] <;> omega)
    · exact LCalls_trust lok 20000 _ get5 (by kernel_rfl) (b5nR3 op n) (by simp [trusted, h1, hn0, hn1, hm, hG, rdP, rdR, gen_ints, gen_n, gen_at, lst_n, lst_at, eqU, LO.cs, List.range_succ, aw, fd, e1, z] <;> omega)
  · by_cases z : n ≤ 255
    · exact LCalls_trust lok 20000 _ get5 (by kernel_rfl) (b5nR4 op n) (by simp [trusted, h1, hn0, hn1, hm, hG, rdP, rdR, gen_ints, gen_n, gen_at, lst_n, lst_at, eqU, LO.cs, List.range_succ, aw, fd, e1, z] <;> omega)
    · exact LCalls_trust lok 20000 _ get5 (by kernel_rfl) (b5nR6 op n) (by simp [trusted, h1, hn0, hn1, hm, hG, rdP, rdR, gen_ints, gen_n, gen_at, lst_n, lst_at, eqU, LO.cs, List.range_succ, aw, fd, e1, z] <;> omega)
  · exact LCalls_trust lok 20000 _ get5 (by kernel_rfl) (b5nR7 op n) (by simp [trusted, h1, hn0, hn1, hm, hG, rdP, rdR, gen_ints, gen_n, gen_at, lst_n, lst_at, eqU, LO.cs, List.range_succ, aw, fd, e1] <;> omega)
theorem b5_walk (W : World) (v0 v1 v2 : Value) (h0 : CkOk W (.int .u8) v0) (h1 : CkOk W (.int .u16) v1) (h2 : CkOk W (.slice [.int .u8]) v2) : Calls Try.prog 5 #[v0, v1, v2] W fun e W' => e = .returned (.bool true) ∧ Below W.heap.size W W' := by
  simp only [CkOk] at h0 h1
  obtain ⟨op, rfl, wo⟩ := h0
  obtain ⟨n, rfl, wn⟩ := h1
  have hn := bounds_u16 wn
  have ho := bounds_u8 wo
  have hi := (inb_iff op).2 ho
  rcases ck_row h2 with rfl | ⟨m, f, p, hr, hf, _⟩
  · exact calls_plain (plainL_VR _ (by simp [plain, plainL])) (fun ρ v' h => plain_eq (by simp [plain]) h) (b5_nil op n hi hn.1 hn.2) W
  · exact calls_row (args := [.int .u8 op, .int .u16 n]) (b5_row op n m f hi hn.1 hn.2 (fun e he => bounds_u8 (hf e he))) (by simp [plain]) (by simp [plain, plainL]) hr
end Go.Proofs.Ytofimkcfenemlaa
