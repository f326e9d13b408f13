/- Isa80Back: runs of the law. -/
import Derived.Test.YtofimkcfenemlaaB5
namespace Go.Proofs.Ytofimkcfenemlaa
open Go Go.Ly Go.RowKit
set_option linter.unusedSimpArgs false
set_option linter.unusedVariables false
set_option maxHeartbeats 4000000
set_option maxRecDepth 100000
theorem b6R86 (op : Int) (n : Int) (m : Nat) (f : Nat →
  Int) : (Ly.run (lctx) 20000 [(0, false), (0, true), (0, false), (0, false), (0, false), (0, true), (4, true), (0, true), (0, true), (0, true), (0, true), (0, true), (0, true), (0, false), (0, true), (0, true), (0, true), (0, true), (0, false), (0, true), (0, true), (0, true), (0, true), (0, false), (0, false), (0, true), (0, false), (0, true), (0, false), (0, false), (0, true), (0, true), (5, true), (0, true), (0, true), (0, true), (0, true), (0, true), (0, true), (0, true), (0, true), (1, true)] (Ly.start
  Try.f6 [Value.int IntKind.u8 op, Value.int IntKind.u16 n, sl 0 m]
  (mkH
    [some
        (ints IntKind.u8 f
          m)]))).out? = some ([(decide (1000 < (m : Int)), false),
 (inb op && (decide (0 ≤ n) && decide (n ≤ 65535)), true),
 (sizeT op == 0, false),
 (sizeT op == 1, false),
 (sizeT op == 2, false),
 (sizeT op == 3, true),
 ((0 + m).ble m &&
   (true && (true && (true && (3 + (Rw.gen m fun i j => Value.int IntKind.u8 (f (0 + i))).n).ble 4294967296))), true),
 (Nat.ble 1 (3 + (Rw.gen m fun i j => Value.int IntKind.u8 (f (0 + i))).n), true),
 ((0 + (3 + (Rw.gen m fun i j => Value.int IntKind.u8 (f (0 + i))).n)).ble
     ((Rw.lst 3
           (List.take 3
             (List.drop 0
               (LO.row
                   [Value.int IntKind.u8 op, Value.int IntKind.u8 (IntKind.u8.wrap n),
                     Value.int IntKind.u8 (IntKind.u8.wrap (n.fdiv 256))]
                   5 1).cs))).n +
       (Rw.gen m fun i j => Value.int IntKind.u8 (f (0 + i))).n) &&
   (Rw.ints IntKind.u8
       (Rw.gen (3 + (Rw.gen m fun i j => Value.int IntKind.u8 (f (0 + i))).n) fun i j =>
         joinG
           (Rw.lst 3
               (List.take 3
                 (List.drop 0
                   (LO.row
                       [Value.int IntKind.u8 op, Value.int IntKind.u8 (IntKind.u8.wrap n),
                         Value.int IntKind.u8 (IntKind.u8.wrap (n.fdiv 256))]
                       5 1).cs))).n
           (Rw.fun 1
             (Rw.lst 3
               (List.take 3
                 (List.drop 0
                   (LO.row
                       [Value.int IntKind.u8 op, Value.int IntKind.u8 (IntKind.u8.wrap n),
                         Value.int IntKind.u8 (IntKind.u8.wrap (n.fdiv 256))]
                       5 1).cs))))
           (Rw.fun 1 (Rw.gen m fun i j => Value.int IntKind.u8 (f (0 + i)))) (0 + i) j) &&
     (rdP
         (Rw.gen (3 + (Rw.gen m fun i j => Value.int IntKind.u8 (f (0 + i))).n) fun i j =>
             joinG
               (Rw.lst 3
                   (List.take 3
                     (List.drop 0
                       (LO.row
                           [Value.int IntKind.u8 op, Value.int IntKind.u8 (IntKind.u8.wrap n),
                             Value.int IntKind.u8 (IntKind.u8.wrap (n.fdiv 256))]
                           5 1).cs))).n
               (Rw.fun 1
                 (Rw.lst 3
                   (List.take 3
                     (List.drop 0
                       (LO.row
                           [Value.int IntKind.u8 op, Value.int IntKind.u8 (IntKind.u8.wrap n),
                             Value.int IntKind.u8 (IntKind.u8.wrap (n.fdiv 256))]
                           5 1).cs))))
               (Rw.fun 1 (Rw.gen m fun i j => Value.int IntKind.u8 (f (0 + i)))) (0 + i) j).n
         (Rw.gen (3 + (Rw.gen m fun i j => Value.int IntKind.u8 (f (0 + i))).n) fun i j =>
             joinG
               (Rw.lst 3
                   (List.take 3
                     (List.drop 0
                       (LO.row
                           [Value.int IntKind.u8 op, Value.int IntKind.u8 (IntKind.u8.wrap n),
                             Value.int IntKind.u8 (IntKind.u8.wrap (n.fdiv 256))]
                           5 1).cs))).n
               (Rw.fun 1
                 (Rw.lst 3
                   (List.take 3
                     (List.drop 0
                       (LO.row
                           [Value.int IntKind.u8 op, Value.int IntKind.u8 (IntKind.u8.wrap n),
                             Value.int IntKind.u8 (IntKind.u8.wrap (n.fdiv 256))]
                           5 1).cs))))
               (Rw.fun 1 (Rw.gen m fun i j => Value.int IntKind.u8 (f (0 + i)))) (0 + i) j).at).fst), true),
 ((rdK
       (Rw.gen (3 + (Rw.gen m fun i j => Value.int IntKind.u8 (f (0 + i))).n) fun i j =>
           joinG
             (Rw.lst 3
                 (List.take 3
                   (List.drop 0
                     (LO.row
                         [Value.int IntKind.u8 op, Value.int IntKind.u8 (IntKind.u8.wrap n),
                           Value.int IntKind.u8 (IntKind.u8.wrap (n.fdiv 256))]
                         5 1).cs))).n
             (Rw.fun 1
               (Rw.lst 3
                 (List.take 3
                   (List.drop 0
                     (LO.row
                         [Value.int IntKind.u8 op, Value.int IntKind.u8 (IntKind.u8.wrap n),
                           Value.int IntKind.u8 (IntKind.u8.wrap (n.fdiv 256))]
                         5 1).cs))))
             (Rw.fun 1 (Rw.gen m fun i j => Value.int IntKind.u8 (f (0 + i)))) (0 + i) j).n
       (Rw.gen (3 + (Rw.gen m fun i j => Value.int IntKind.u8 (f (0 + i))).n) fun i j =>
           joinG
             (Rw.lst 3
                 (List.take 3
                   (List.drop 0
                     (LO.row
                         [Value.int IntKind.u8 op, Value.int IntKind.u8 (IntKind.u8.wrap n),
                           Value.int IntKind.u8 (IntKind.u8.wrap (n.fdiv 256))]
                         5 1).cs))).n
             (Rw.fun 1
               (Rw.lst 3
                 (List.take 3
                   (List.drop 0
                     (LO.row
                         [Value.int IntKind.u8 op, Value.int IntKind.u8 (IntKind.u8.wrap n),
                           Value.int IntKind.u8 (IntKind.u8.wrap (n.fdiv 256))]
                         5 1).cs))))
             (Rw.fun 1 (Rw.gen m fun i j => Value.int IntKind.u8 (f (0 + i)))) (0 + i) j).at !=
     0) ==
   false, true),
 ((rdK
       (Rw.gen (3 + (Rw.gen m fun i j => Value.int IntKind.u8 (f (0 + i))).n) fun i j =>
           joinG
             (Rw.lst 3
                 (List.take 3
                   (List.drop 0
                     (LO.row
                         [Value.int IntKind.u8 op, Value.int IntKind.u8 (IntKind.u8.wrap n),
                           Value.int IntKind.u8 (IntKind.u8.wrap (n.fdiv 256))]
                         5 1).cs))).n
             (Rw.fun 1
               (Rw.lst 3
                 (List.take 3
                   (List.drop 0
                     (LO.row
                         [Value.int IntKind.u8 op, Value.int IntKind.u8 (IntKind.u8.wrap n),
                           Value.int IntKind.u8 (IntKind.u8.wrap (n.fdiv 256))]
                         5 1).cs))))
             (Rw.fun 1 (Rw.gen m fun i j => Value.int IntKind.u8 (f (0 + i)))) (0 + i) j).n
       (Rw.gen (3 + (Rw.gen m fun i j => Value.int IntKind.u8 (f (0 + i))).n) fun i j =>
           joinG
             (Rw.lst 3
                 (List.take 3
                   (List.drop 0
                     (LO.row
                         [Value.int IntKind.u8 op, Value.int IntKind.u8 (IntKind.u8.wrap n),
                           Value.int IntKind.u8 (IntKind.u8.wrap (n.fdiv 256))]
                         5 1).cs))).n
             (Rw.fun 1
               (Rw.lst 3
                 (List.take 3
                   (List.drop 0
                     (LO.row
                         [Value.int IntKind.u8 op, Value.int IntKind.u8 (IntKind.u8.wrap n),
                           Value.int IntKind.u8 (IntKind.u8.wrap (n.fdiv 256))]
                         5 1).cs))))
             (Rw.fun 1 (Rw.gen m fun i j => Value.int IntKind.u8 (f (0 + i)))) (0 + i) j).at !=
     0) ==
   false, true),
 ((rdK
       (Rw.gen (3 + (Rw.gen m fun i j => Value.int IntKind.u8 (f (0 + i))).n) fun i j =>
           joinG
             (Rw.lst 3
                 (List.take 3
                   (List.drop 0
                     (LO.row
                         [Value.int IntKind.u8 op, Value.int IntKind.u8 (IntKind.u8.wrap n),
                           Value.int IntKind.u8 (IntKind.u8.wrap (n.fdiv 256))]
                         5 1).cs))).n
             (Rw.fun 1
               (Rw.lst 3
                 (List.take 3
                   (List.drop 0
                     (LO.row
                         [Value.int IntKind.u8 op, Value.int IntKind.u8 (IntKind.u8.wrap n),
                           Value.int IntKind.u8 (IntKind.u8.wrap (n.fdiv 256))]
                         5 1).cs))))
             (Rw.fun 1 (Rw.gen m fun i j => Value.int IntKind.u8 (f (0 + i)))) (0 + i) j).n
       (Rw.gen (3 + (Rw.gen m fun i j => Value.int IntKind.u8 (f (0 + i))).n) fun i j =>
           joinG
             (Rw.lst 3
                 (List.take 3
                   (List.drop 0
                     (LO.row
                         [Value.int IntKind.u8 op, Value.int IntKind.u8 (IntKind.u8.wrap n),
                           Value.int IntKind.u8 (IntKind.u8.wrap (n.fdiv 256))]
                         5 1).cs))).n
             (Rw.fun 1
               (Rw.lst 3
                 (List.take 3
                   (List.drop 0
                     (LO.row
                         [Value.int IntKind.u8 op, Value.int IntKind.u8 (IntKind.u8.wrap n),
                           Value.int IntKind.u8 (IntKind.u8.wrap (n.fdiv 256))]
                         5 1).cs))))
             (Rw.fun 1 (Rw.gen m fun i j => Value.int IntKind.u8 (f (0 + i)))) (0 + i) j).at !=
     0) ==
   false, true),
 ((rdK
       (Rw.gen (3 + (Rw.gen m fun i j => Value.int IntKind.u8 (f (0 + i))).n) fun i j =>
           joinG
             (Rw.lst 3
                 (List.take 3
                   (List.drop 0
                     (LO.row
                         [Value.int IntKind.u8 op, Value.int IntKind.u8 (IntKind.u8.wrap n),
                           Value.int IntKind.u8 (IntKind.u8.wrap (n.fdiv 256))]
                         5 1).cs))).n
             (Rw.fun 1
               (Rw.lst 3
                 (List.take 3
                   (List.drop 0
                     (LO.row
                         [Value.int IntKind.u8 op, Value.int IntKind.u8 (IntKind.u8.wrap n),
                           Value.int IntKind.u8 (IntKind.u8.wrap (n.fdiv 256))]
                         5 1).cs))))
             (Rw.fun 1 (Rw.gen m fun i j => Value.int IntKind.u8 (f (0 + i)))) (0 + i) j).n
       (Rw.gen (3 + (Rw.gen m fun i j => Value.int IntKind.u8 (f (0 + i))).n) fun i j =>
           joinG
             (Rw.lst 3
                 (List.take 3
                   (List.drop 0
                     (LO.row
                         [Value.int IntKind.u8 op, Value.int IntKind.u8 (IntKind.u8.wrap n),
                           Value.int IntKind.u8 (IntKind.u8.wrap (n.fdiv 256))]
                         5 1).cs))).n
             (Rw.fun 1
               (Rw.lst 3
                 (List.take 3
                   (List.drop 0
                     (LO.row
                         [Value.int IntKind.u8 op, Value.int IntKind.u8 (IntKind.u8.wrap n),
                           Value.int IntKind.u8 (IntKind.u8.wrap (n.fdiv 256))]
                         5 1).cs))))
             (Rw.fun 1 (Rw.gen m fun i j => Value.int IntKind.u8 (f (0 + i)))) (0 + i) j).at !=
     0) ==
   false, true),
 (rdK
     (Rw.gen (3 + (Rw.gen m fun i j => Value.int IntKind.u8 (f (0 + i))).n) fun i j =>
         joinG
           (Rw.lst 3
               (List.take 3
                 (List.drop 0
                   (LO.row
                       [Value.int IntKind.u8 op, Value.int IntKind.u8 (IntKind.u8.wrap n),
                         Value.int IntKind.u8 (IntKind.u8.wrap (n.fdiv 256))]
                       5 1).cs))).n
           (Rw.fun 1
             (Rw.lst 3
               (List.take 3
                 (List.drop 0
                   (LO.row
                       [Value.int IntKind.u8 op, Value.int IntKind.u8 (IntKind.u8.wrap n),
                         Value.int IntKind.u8 (IntKind.u8.wrap (n.fdiv 256))]
                       5 1).cs))))
           (Rw.fun 1 (Rw.gen m fun i j => Value.int IntKind.u8 (f (0 + i)))) (0 + i) j).n
     (Rw.gen (3 + (Rw.gen m fun i j => Value.int IntKind.u8 (f (0 + i))).n) fun i j =>
         joinG
           (Rw.lst 3
               (List.take 3
                 (List.drop 0
                   (LO.row
                       [Value.int IntKind.u8 op, Value.int IntKind.u8 (IntKind.u8.wrap n),
                         Value.int IntKind.u8 (IntKind.u8.wrap (n.fdiv 256))]
                       5 1).cs))).n
           (Rw.fun 1
             (Rw.lst 3
               (List.take 3
                 (List.drop 0
                   (LO.row
                       [Value.int IntKind.u8 op, Value.int IntKind.u8 (IntKind.u8.wrap n),
                         Value.int IntKind.u8 (IntKind.u8.wrap (n.fdiv 256))]
                       5 1).cs))))
           (Rw.fun 1 (Rw.gen m fun i j => Value.int IntKind.u8 (f (0 + i)))) (0 + i) j).at !=
   0, false),
 ((rdO
       (Rw.gen (3 + (Rw.gen m fun i j => Value.int IntKind.u8 (f (0 + i))).n) fun i j =>
           joinG
             (Rw.lst 3
                 (List.take 3
                   (List.drop 0
                     (LO.row
                         [Value.int IntKind.u8 op, Value.int IntKind.u8 (IntKind.u8.wrap n),
                           Value.int IntKind.u8 (IntKind.u8.wrap (n.fdiv 256))]
                         5 1).cs))).n
             (Rw.fun 1
               (Rw.lst 3
                 (List.take 3
                   (List.drop 0
                     (LO.row
                         [Value.int IntKind.u8 op, Value.int IntKind.u8 (IntKind.u8.wrap n),
                           Value.int IntKind.u8 (IntKind.u8.wrap (n.fdiv 256))]
                         5 1).cs))))
             (Rw.fun 1 (Rw.gen m fun i j => Value.int IntKind.u8 (f (0 + i)))) (0 + i) j).n
       (Rw.gen (3 + (Rw.gen m fun i j => Value.int IntKind.u8 (f (0 + i))).n) fun i j =>
           joinG
             (Rw.lst 3
                 (List.take 3
                   (List.drop 0
                     (LO.row
                         [Value.int IntKind.u8 op, Value.int IntKind.u8 (IntKind.u8.wrap n),
                           Value.int IntKind.u8 (IntKind.u8.wrap (n.fdiv 256))]
                         5 1).cs))).n
             (Rw.fun 1
               (Rw.lst 3
                 (List.take 3
                   (List.drop 0
                     (LO.row
                         [Value.int IntKind.u8 op, Value.int IntKind.u8 (IntKind.u8.wrap n),
                           Value.int IntKind.u8 (IntKind.u8.wrap (n.fdiv 256))]
                         5 1).cs))))
             (Rw.fun 1 (Rw.gen m fun i j => Value.int IntKind.u8 (f (0 + i)))) (0 + i) j).at !=
     op) ==
   false, true),
 ((rdO
       (Rw.gen (3 + (Rw.gen m fun i j => Value.int IntKind.u8 (f (0 + i))).n) fun i j =>
           joinG
             (Rw.lst 3
                 (List.take 3
                   (List.drop 0
                     (LO.row
                         [Value.int IntKind.u8 op, Value.int IntKind.u8 (IntKind.u8.wrap n),
                           Value.int IntKind.u8 (IntKind.u8.wrap (n.fdiv 256))]
                         5 1).cs))).n
             (Rw.fun 1
               (Rw.lst 3
                 (List.take 3
                   (List.drop 0
                     (LO.row
                         [Value.int IntKind.u8 op, Value.int IntKind.u8 (IntKind.u8.wrap n),
                           Value.int IntKind.u8 (IntKind.u8.wrap (n.fdiv 256))]
                         5 1).cs))))
             (Rw.fun 1 (Rw.gen m fun i j => Value.int IntKind.u8 (f (0 + i)))) (0 + i) j).n
       (Rw.gen (3 + (Rw.gen m fun i j => Value.int IntKind.u8 (f (0 + i))).n) fun i j =>
           joinG
             (Rw.lst 3
                 (List.take 3
                   (List.drop 0
                     (LO.row
                         [Value.int IntKind.u8 op, Value.int IntKind.u8 (IntKind.u8.wrap n),
                           Value.int IntKind.u8 (IntKind.u8.wrap (n.fdiv 256))]
                         5 1).cs))).n
             (Rw.fun 1
               (Rw.lst 3
                 (List.take 3
                   (List.drop 0
                     (LO.row
                         [Value.int IntKind.u8 op, Value.int IntKind.u8 (IntKind.u8.wrap n),
                           Value.int IntKind.u8 (IntKind.u8.wrap (n.fdiv 256))]
                         5 1).cs))))
             (Rw.fun 1 (Rw.gen m fun i j => Value.int IntKind.u8 (f (0 + i)))) (0 + i) j).at !=
     op) ==
   false, true),
 ((rdO
       (Rw.gen (3 + (Rw.gen m fun i j => Value.int IntKind.u8 (f (0 + i))).n) fun i j =>
           joinG
             (Rw.lst 3
                 (List.take 3
                   (List.drop 0
                     (LO.row
                         [Value.int IntKind.u8 op, Value.int IntKind.u8 (IntKind.u8.wrap n),
                           Value.int IntKind.u8 (IntKind.u8.wrap (n.fdiv 256))]
                         5 1).cs))).n
             (Rw.fun 1
               (Rw.lst 3
                 (List.take 3
                   (List.drop 0
                     (LO.row
                         [Value.int IntKind.u8 op, Value.int IntKind.u8 (IntKind.u8.wrap n),
                           Value.int IntKind.u8 (IntKind.u8.wrap (n.fdiv 256))]
                         5 1).cs))))
             (Rw.fun 1 (Rw.gen m fun i j => Value.int IntKind.u8 (f (0 + i)))) (0 + i) j).n
       (Rw.gen (3 + (Rw.gen m fun i j => Value.int IntKind.u8 (f (0 + i))).n) fun i j =>
           joinG
             (Rw.lst 3
                 (List.take 3
                   (List.drop 0
                     (LO.row
                         [Value.int IntKind.u8 op, Value.int IntKind.u8 (IntKind.u8.wrap n),
                           Value.int IntKind.u8 (IntKind.u8.wrap (n.fdiv 256))]
                         5 1).cs))).n
             (Rw.fun 1
               (Rw.lst 3
                 (List.take 3
                   (List.drop 0
                     (LO.row
                         [Value.int IntKind.u8 op, Value.int IntKind.u8 (IntKind.u8.wrap n),
                           Value.int IntKind.u8 (IntKind.u8.wrap (n.fdiv 256))]
                         5 1).cs))))
             (Rw.fun 1 (Rw.gen m fun i j => Value.int IntKind.u8 (f (0 + i)))) (0 + i) j).at !=
     op) ==
   false, true),
 ((rdO
       (Rw.gen (3 + (Rw.gen m fun i j => Value.int IntKind.u8 (f (0 + i))).n) fun i j =>
           joinG
             (Rw.lst 3
                 (List.take 3
                   (List.drop 0
                     (LO.row
                         [Value.int IntKind.u8 op, Value.int IntKind.u8 (IntKind.u8.wrap n),
                           Value.int IntKind.u8 (IntKind.u8.wrap (n.fdiv 256))]
                         5 1).cs))).n
             (Rw.fun 1
               (Rw.lst 3
                 (List.take 3
                   (List.drop 0
                     (LO.row
                         [Value.int IntKind.u8 op, Value.int IntKind.u8 (IntKind.u8.wrap n),
                           Value.int IntKind.u8 (IntKind.u8.wrap (n.fdiv 256))]
                         5 1).cs))))
             (Rw.fun 1 (Rw.gen m fun i j => Value.int IntKind.u8 (f (0 + i)))) (0 + i) j).n
       (Rw.gen (3 + (Rw.gen m fun i j => Value.int IntKind.u8 (f (0 + i))).n) fun i j =>
           joinG
             (Rw.lst 3
                 (List.take 3
                   (List.drop 0
                     (LO.row
                         [Value.int IntKind.u8 op, Value.int IntKind.u8 (IntKind.u8.wrap n),
                           Value.int IntKind.u8 (IntKind.u8.wrap (n.fdiv 256))]
                         5 1).cs))).n
             (Rw.fun 1
               (Rw.lst 3
                 (List.take 3
                   (List.drop 0
                     (LO.row
                         [Value.int IntKind.u8 op, Value.int IntKind.u8 (IntKind.u8.wrap n),
                           Value.int IntKind.u8 (IntKind.u8.wrap (n.fdiv 256))]
                         5 1).cs))))
             (Rw.fun 1 (Rw.gen m fun i j => Value.int IntKind.u8 (f (0 + i)))) (0 + i) j).at !=
     op) ==
   false, true),
 (rdO
     (Rw.gen (3 + (Rw.gen m fun i j => Value.int IntKind.u8 (f (0 + i))).n) fun i j =>
         joinG
           (Rw.lst 3
               (List.take 3
                 (List.drop 0
                   (LO.row
                       [Value.int IntKind.u8 op, Value.int IntKind.u8 (IntKind.u8.wrap n),
                         Value.int IntKind.u8 (IntKind.u8.wrap (n.fdiv 256))]
                       5 1).cs))).n
           (Rw.fun 1
             (Rw.lst 3
               (List.take 3
                 (List.drop 0
                   (LO.row
                       [Value.int IntKind.u8 op, Value.int IntKind.u8 (IntKind.u8.wrap n),
                         Value.int IntKind.u8 (IntKind.u8.wrap (n.fdiv 256))]
                       5 1).cs))))
           (Rw.fun 1 (Rw.gen m fun i j => Value.int IntKind.u8 (f (0 + i)))) (0 + i) j).n
     (Rw.gen (3 + (Rw.gen m fun i j => Value.int IntKind.u8 (f (0 + i))).n) fun i j =>
         joinG
           (Rw.lst 3
               (List.take 3
                 (List.drop 0
                   (LO.row
                       [Value.int IntKind.u8 op, Value.int IntKind.u8 (IntKind.u8.wrap n),
                         Value.int IntKind.u8 (IntKind.u8.wrap (n.fdiv 256))]
                       5 1).cs))).n
           (Rw.fun 1
             (Rw.lst 3
               (List.take 3
                 (List.drop 0
                   (LO.row
                       [Value.int IntKind.u8 op, Value.int IntKind.u8 (IntKind.u8.wrap n),
                         Value.int IntKind.u8 (IntKind.u8.wrap (n.fdiv 256))]
                       5 1).cs))))
           (Rw.fun 1 (Rw.gen m fun i j => Value.int IntKind.u8 (f (0 + i)))) (0 + i) j).at !=
   op, false),
 ((rdN
       (Rw.gen (3 + (Rw.gen m fun i j => Value.int IntKind.u8 (f (0 + i))).n) fun i j =>
           joinG
             (Rw.lst 3
                 (List.take 3
                   (List.drop 0
                     (LO.row
                         [Value.int IntKind.u8 op, Value.int IntKind.u8 (IntKind.u8.wrap n),
                           Value.int IntKind.u8 (IntKind.u8.wrap (n.fdiv 256))]
                         5 1).cs))).n
             (Rw.fun 1
               (Rw.lst 3
                 (List.take 3
                   (List.drop 0
                     (LO.row
                         [Value.int IntKind.u8 op, Value.int IntKind.u8 (IntKind.u8.wrap n),
                           Value.int IntKind.u8 (IntKind.u8.wrap (n.fdiv 256))]
                         5 1).cs))))
             (Rw.fun 1 (Rw.gen m fun i j => Value.int IntKind.u8 (f (0 + i)))) (0 + i) j).n
       (Rw.gen (3 + (Rw.gen m fun i j => Value.int IntKind.u8 (f (0 + i))).n) fun i j =>
           joinG
             (Rw.lst 3
                 (List.take 3
                   (List.drop 0
                     (LO.row
                         [Value.int IntKind.u8 op, Value.int IntKind.u8 (IntKind.u8.wrap n),
                           Value.int IntKind.u8 (IntKind.u8.wrap (n.fdiv 256))]
                         5 1).cs))).n
             (Rw.fun 1
               (Rw.lst 3
                 (List.take 3
                   (List.drop 0
                     (LO.row
                         [Value.int IntKind.u8 op, Value.int IntKind.u8 (IntKind.u8.wrap n),
                           Value.int IntKind.u8 (IntKind.u8.wrap (n.fdiv 256))]
                         5 1).cs))))
             (Rw.fun 1 (Rw.gen m fun i j => Value.int IntKind.u8 (f (0 + i)))) (0 + i) j).at !=
     n) ==
   false, true),
 ((rdN
       (Rw.gen (3 + (Rw.gen m fun i j => Value.int IntKind.u8 (f (0 + i))).n) fun i j =>
           joinG
             (Rw.lst 3
                 (List.take 3
                   (List.drop 0
                     (LO.row
                         [Value.int IntKind.u8 op, Value.int IntKind.u8 (IntKind.u8.wrap n),
                           Value.int IntKind.u8 (IntKind.u8.wrap (n.fdiv 256))]
                         5 1).cs))).n
             (Rw.fun 1
               (Rw.lst 3
                 (List.take 3
                   (List.drop 0
                     (LO.row
                         [Value.int IntKind.u8 op, Value.int IntKind.u8 (IntKind.u8.wrap n),
                           Value.int IntKind.u8 (IntKind.u8.wrap (n.fdiv 256))]
                         5 1).cs))))
             (Rw.fun 1 (Rw.gen m fun i j => Value.int IntKind.u8 (f (0 + i)))) (0 + i) j).n
       (Rw.gen (3 + (Rw.gen m fun i j => Value.int IntKind.u8 (f (0 + i))).n) fun i j =>
           joinG
             (Rw.lst 3
                 (List.take 3
                   (List.drop 0
                     (LO.row
                         [Value.int IntKind.u8 op, Value.int IntKind.u8 (IntKind.u8.wrap n),
                           Value.int IntKind.u8 (IntKind.u8.wrap (n.fdiv 256))]
                         5 1).cs))).n
             (Rw.fun 1
               (Rw.lst 3
                 (List.take 3
                   (List.drop 0
                     (LO.row
                         [Value.int IntKind.u8 op, Value.int IntKind.u8 (IntKind.u8.wrap n),
                           Value.int IntKind.u8 (IntKind.u8.wrap (n.fdiv 256))]
                         5 1).cs))))
             (Rw.fun 1 (Rw.gen m fun i j => Value.int IntKind.u8 (f (0 + i)))) (0 + i) j).at !=
     n) ==
   false, true),
 ((rdN
       (Rw.gen (3 + (Rw.gen m fun i j => Value.int IntKind.u8 (f (0 + i))).n) fun i j =>
           joinG
             (Rw.lst 3
                 (List.take 3
                   (List.drop 0
                     (LO.row
                         [Value.int IntKind.u8 op, Value.int IntKind.u8 (IntKind.u8.wrap n),
                           Value.int IntKind.u8 (IntKind.u8.wrap (n.fdiv 256))]
                         5 1).cs))).n
             (Rw.fun 1
               (Rw.lst 3
                 (List.take 3
                   (List.drop 0
                     (LO.row
                         [Value.int IntKind.u8 op, Value.int IntKind.u8 (IntKind.u8.wrap n),
                           Value.int IntKind.u8 (IntKind.u8.wrap (n.fdiv 256))]
                         5 1).cs))))
             (Rw.fun 1 (Rw.gen m fun i j => Value.int IntKind.u8 (f (0 + i)))) (0 + i) j).n
       (Rw.gen (3 + (Rw.gen m fun i j => Value.int IntKind.u8 (f (0 + i))).n) fun i j =>
           joinG
             (Rw.lst 3
                 (List.take 3
                   (List.drop 0
                     (LO.row
                         [Value.int IntKind.u8 op, Value.int IntKind.u8 (IntKind.u8.wrap n),
                           Value.int IntKind.u8 (IntKind.u8.wrap (n.fdiv 256))]
                         5 1).cs))).n
             (Rw.fun 1
               (Rw.lst 3
                 (List.take 3
                   (List.drop 0
                     (LO.row
                         [Value.int IntKind.u8 op, Value.int IntKind.u8 (IntKind.u8.wrap n),
                           Value.int IntKind.u8 (IntKind.u8.wrap (n.fdiv 256))]
                         5 1).cs))))
             (Rw.fun 1 (Rw.gen m fun i j => Value.int IntKind.u8 (f (0 + i)))) (0 + i) j).at !=
     n) ==
   false, true),
 ((rdN
       (Rw.gen (3 + (Rw.gen m fun i j => Value.int IntKind.u8 (f (0 + i))).n) fun i j =>
           joinG
             (Rw.lst 3
                 (List.take 3
                   (List.drop 0
                     (LO.row
                         [Value.int IntKind.u8 op, Value.int IntKind.u8 (IntKind.u8.wrap n),
                           Value.int IntKind.u8 (IntKind.u8.wrap (n.fdiv 256))]
                         5 1).cs))).n
             (Rw.fun 1
               (Rw.lst 3
                 (List.take 3
                   (List.drop 0
                     (LO.row
                         [Value.int IntKind.u8 op, Value.int IntKind.u8 (IntKind.u8.wrap n),
                           Value.int IntKind.u8 (IntKind.u8.wrap (n.fdiv 256))]
                         5 1).cs))))
             (Rw.fun 1 (Rw.gen m fun i j => Value.int IntKind.u8 (f (0 + i)))) (0 + i) j).n
       (Rw.gen (3 + (Rw.gen m fun i j => Value.int IntKind.u8 (f (0 + i))).n) fun i j =>
           joinG
             (Rw.lst 3
                 (List.take 3
                   (List.drop 0
                     (LO.row
                         [Value.int IntKind.u8 op, Value.int IntKind.u8 (IntKind.u8.wrap n),
                           Value.int IntKind.u8 (IntKind.u8.wrap (n.fdiv 256))]
                         5 1).cs))).n
             (Rw.fun 1
               (Rw.lst 3
                 (List.take 3
                   (List.drop 0
                     (LO.row
                         [Value.int IntKind.u8 op, Value.int IntKind.u8 (IntKind.u8.wrap n),
                           Value.int IntKind.u8 (IntKind.u8.wrap (n.fdiv 256))]
                         5 1).cs))))
             (Rw.fun 1 (Rw.gen m fun i j => Value.int IntKind.u8 (f (0 + i)))) (0 + i) j).at !=
     n) ==
   false, true),
 (rdN
     (Rw.gen (3 + (Rw.gen m fun i j => Value.int IntKind.u8 (f (0 + i))).n) fun i j =>
         joinG
           (Rw.lst 3
               (List.take 3
                 (List.drop 0
                   (LO.row
                       [Value.int IntKind.u8 op, Value.int IntKind.u8 (IntKind.u8.wrap n),
                         Value.int IntKind.u8 (IntKind.u8.wrap (n.fdiv 256))]
                       5 1).cs))).n
           (Rw.fun 1
             (Rw.lst 3
               (List.take 3
                 (List.drop 0
                   (LO.row
                       [Value.int IntKind.u8 op, Value.int IntKind.u8 (IntKind.u8.wrap n),
                         Value.int IntKind.u8 (IntKind.u8.wrap (n.fdiv 256))]
                       5 1).cs))))
           (Rw.fun 1 (Rw.gen m fun i j => Value.int IntKind.u8 (f (0 + i)))) (0 + i) j).n
     (Rw.gen (3 + (Rw.gen m fun i j => Value.int IntKind.u8 (f (0 + i))).n) fun i j =>
         joinG
           (Rw.lst 3
               (List.take 3
                 (List.drop 0
                   (LO.row
                       [Value.int IntKind.u8 op, Value.int IntKind.u8 (IntKind.u8.wrap n),
                         Value.int IntKind.u8 (IntKind.u8.wrap (n.fdiv 256))]
                       5 1).cs))).n
           (Rw.fun 1
             (Rw.lst 3
               (List.take 3
                 (List.drop 0
                   (LO.row
                       [Value.int IntKind.u8 op, Value.int IntKind.u8 (IntKind.u8.wrap n),
                         Value.int IntKind.u8 (IntKind.u8.wrap (n.fdiv 256))]
                       5 1).cs))))
           (Rw.fun 1 (Rw.gen m fun i j => Value.int IntKind.u8 (f (0 + i)))) (0 + i) j).at !=
   n, false),
 (rdS
     (Rw.gen (3 + (Rw.gen m fun i j => Value.int IntKind.u8 (f (0 + i))).n) fun i j =>
         joinG
           (Rw.lst 3
               (List.take 3
                 (List.drop 0
                   (LO.row
                       [Value.int IntKind.u8 op, Value.int IntKind.u8 (IntKind.u8.wrap n),
                         Value.int IntKind.u8 (IntKind.u8.wrap (n.fdiv 256))]
                       5 1).cs))).n
           (Rw.fun 1
             (Rw.lst 3
               (List.take 3
                 (List.drop 0
                   (LO.row
                       [Value.int IntKind.u8 op, Value.int IntKind.u8 (IntKind.u8.wrap n),
                         Value.int IntKind.u8 (IntKind.u8.wrap (n.fdiv 256))]
                       5 1).cs))))
           (Rw.fun 1 (Rw.gen m fun i j => Value.int IntKind.u8 (f (0 + i)))) (0 + i) j).n
     (Rw.gen (3 + (Rw.gen m fun i j => Value.int IntKind.u8 (f (0 + i))).n) fun i j =>
         joinG
           (Rw.lst 3
               (List.take 3
                 (List.drop 0
                   (LO.row
                       [Value.int IntKind.u8 op, Value.int IntKind.u8 (IntKind.u8.wrap n),
                         Value.int IntKind.u8 (IntKind.u8.wrap (n.fdiv 256))]
                       5 1).cs))).n
           (Rw.fun 1
             (Rw.lst 3
               (List.take 3
                 (List.drop 0
                   (LO.row
                       [Value.int IntKind.u8 op, Value.int IntKind.u8 (IntKind.u8.wrap n),
                         Value.int IntKind.u8 (IntKind.u8.wrap (n.fdiv 256))]
                       5 1).cs))))
           (Rw.fun 1 (Rw.gen m fun i j => Value.int IntKind.u8 (f (0 + i)))) (0 + i) j).at !=
   3, false),
 ((0 + m).ble m &&
   (Rw.ints IntKind.u8 (Rw.gen m fun i j => Value.int IntKind.u8 (f (0 + i))) &&
     (rdP (Rw.gen m fun i j => Value.int IntKind.u8 (f (0 + i))).n
         (Rw.gen m fun i j => Value.int IntKind.u8 (f (0 + i))).at).fst), true),
 (rdK (Rw.gen m fun i j => Value.int IntKind.u8 (f (0 + i))).n
     (Rw.gen m fun i j => Value.int IntKind.u8 (f (0 + i))).at !=
   0, false),
 (inb
     (rdO (Rw.gen m fun i j => Value.int IntKind.u8 (f (0 + i))).n
       (Rw.gen m fun i j => Value.int IntKind.u8 (f (0 + i))).at) &&
   (decide
       (0 ≤
         rdN (Rw.gen m fun i j => Value.int IntKind.u8 (f (0 + i))).n
           (Rw.gen m fun i j => Value.int IntKind.u8 (f (0 + i))).at) &&
     decide
       (rdN (Rw.gen m fun i j => Value.int IntKind.u8 (f (0 + i))).n
           (Rw.gen m fun i j => Value.int IntKind.u8 (f (0 + i))).at ≤
         65535)), true),
 (sizeT
     (rdO (Rw.gen m fun i j => Value.int IntKind.u8 (f (0 + i))).n
       (Rw.gen m fun i j => Value.int IntKind.u8 (f (0 + i))).at) ==
   0, false),
 (sizeT
     (rdO (Rw.gen m fun i j => Value.int IntKind.u8 (f (0 + i))).n
       (Rw.gen m fun i j => Value.int IntKind.u8 (f (0 + i))).at) ==
   1, false),
 (sizeT
     (rdO (Rw.gen m fun i j => Value.int IntKind.u8 (f (0 + i))).n
       (Rw.gen m fun i j => Value.int IntKind.u8 (f (0 + i))).at) ==
   2, true),
 (decide
   (rdN (Rw.gen m fun i j => Value.int IntKind.u8 (f (0 + i))).n
       (Rw.gen m fun i j => Value.int IntKind.u8 (f (0 + i))).at ≤
     255), true),
 ((rdS (Rw.gen m fun i j => Value.int IntKind.u8 (f (0 + i))).n
       (Rw.gen m fun i j => Value.int IntKind.u8 (f (0 + i))).at ==
     2) ==
   true, true),
 ((rdS (Rw.gen m fun i j => Value.int IntKind.u8 (f (0 + i))).n
       (Rw.gen m fun i j => Value.int IntKind.u8 (f (0 + i))).at ==
     2) ==
   true, true),
 ((rdS (Rw.gen m fun i j => Value.int IntKind.u8 (f (0 + i))).n
       (Rw.gen m fun i j => Value.int IntKind.u8 (f (0 + i))).at ==
     2) ==
   true, true),
 ((rdS (Rw.gen m fun i j => Value.int IntKind.u8 (f (0 + i))).n
       (Rw.gen m fun i j => Value.int IntKind.u8 (f (0 + i))).at ==
     2) ==
   true, true),
 (true &&
   (decide
       (0 ≤
         rdS (Rw.gen m fun i j => Value.int IntKind.u8 (f (0 + i))).n
           (Rw.gen m fun i j => Value.int IntKind.u8 (f (0 + i))).at) &&
     decide
       (rdS (Rw.gen m fun i j => Value.int IntKind.u8 (f (0 + i))).n
           (Rw.gen m fun i j => Value.int IntKind.u8 (f (0 + i))).at ≤
         (m : Int))), true),
 ((rdS (Rw.gen m fun i j => Value.int IntKind.u8 (f (0 + i))).n
       (Rw.gen m fun i j => Value.int IntKind.u8 (f (0 + i))).at ==
     2) ==
   true, true),
 (true &&
   ((0 +
           ((rdS (Rw.gen m fun i j => Value.int IntKind.u8 (f (0 + i))).n
                 (Rw.gen m fun i j => Value.int IntKind.u8 (f (0 + i))).at).toNat -
             0)).ble
       m &&
     (true &&
       (Rw.ints IntKind.u8
           (Rw.gen
             ((rdS (Rw.gen m fun i j => Value.int IntKind.u8 (f (0 + i))).n
                   (Rw.gen m fun i j => Value.int IntKind.u8 (f (0 + i))).at).toNat -
               0)
             fun i j => Value.int IntKind.u8 (f (0 + i))) &&
         true))), true),
 (rdS (Rw.gen m fun i j => Value.int IntKind.u8 (f (0 + i))).n
     (Rw.gen m fun i j => Value.int IntKind.u8 (f (0 + i))).at ==
   2, true),
 (((Rw.lst 2
             (List.take 2
               (List.drop 0
                 (LO.cells
                     [Value.int IntKind.u8
                         (rdO (Rw.gen m fun i j => Value.int IntKind.u8 (f (0 + i))).n
                           (Rw.gen m fun i j => Value.int IntKind.u8 (f (0 + i))).at),
                       Value.int IntKind.u8
                         (IntKind.u8.wrap
                           (rdN (Rw.gen m fun i j => Value.int IntKind.u8 (f (0 + i))).n
                             (Rw.gen m fun i j => Value.int IntKind.u8 (f (0 + i))).at)),
                       Value.int IntKind.u8
                         (IntKind.u8.wrap
                           ((rdN (Rw.gen m fun i j => Value.int IntKind.u8 (f (0 + i))).n
                                 (Rw.gen m fun i j => Value.int IntKind.u8 (f (0 + i))).at).fdiv
                             256))]
                     5).cs))).n.beq
       (Rw.gen
           ((rdS (Rw.gen m fun i j => Value.int IntKind.u8 (f (0 + i))).n
                 (Rw.gen m fun i j => Value.int IntKind.u8 (f (0 + i))).at).toNat -
             0)
           fun i j => Value.int IntKind.u8 (f (0 + i))).n &&
     eqU
       (Rw.lst 2
           (List.take 2
             (List.drop 0
               (LO.cells
                   [Value.int IntKind.u8
                       (rdO (Rw.gen m fun i j => Value.int IntKind.u8 (f (0 + i))).n
                         (Rw.gen m fun i j => Value.int IntKind.u8 (f (0 + i))).at),
                     Value.int IntKind.u8
                       (IntKind.u8.wrap
                         (rdN (Rw.gen m fun i j => Value.int IntKind.u8 (f (0 + i))).n
                           (Rw.gen m fun i j => Value.int IntKind.u8 (f (0 + i))).at)),
                     Value.int IntKind.u8
                       (IntKind.u8.wrap
                         ((rdN (Rw.gen m fun i j => Value.int IntKind.u8 (f (0 + i))).n
                               (Rw.gen m fun i j => Value.int IntKind.u8 (f (0 + i))).at).fdiv
                           256))]
                   5).cs))).n
       (Rw.lst 2
           (List.take 2
             (List.drop 0
               (LO.cells
                   [Value.int IntKind.u8
                       (rdO (Rw.gen m fun i j => Value.int IntKind.u8 (f (0 + i))).n
                         (Rw.gen m fun i j => Value.int IntKind.u8 (f (0 + i))).at),
                     Value.int IntKind.u8
                       (IntKind.u8.wrap
                         (rdN (Rw.gen m fun i j => Value.int IntKind.u8 (f (0 + i))).n
                           (Rw.gen m fun i j => Value.int IntKind.u8 (f (0 + i))).at)),
                     Value.int IntKind.u8
                       (IntKind.u8.wrap
                         ((rdN (Rw.gen m fun i j => Value.int IntKind.u8 (f (0 + i))).n
                               (Rw.gen m fun i j => Value.int IntKind.u8 (f (0 + i))).at).fdiv
                           256))]
                   5).cs))).at
       (Rw.gen
           ((rdS (Rw.gen m fun i j => Value.int IntKind.u8 (f (0 + i))).n
                 (Rw.gen m fun i j => Value.int IntKind.u8 (f (0 + i))).at).toNat -
             0)
           fun i j => Value.int IntKind.u8 (f (0 + i))).at) ==
   true, true),
 ((Rw.lst 2
           (List.take 2
             (List.drop 0
               (LO.cells
                   [Value.int IntKind.u8
                       (rdO (Rw.gen m fun i j => Value.int IntKind.u8 (f (0 + i))).n
                         (Rw.gen m fun i j => Value.int IntKind.u8 (f (0 + i))).at),
                     Value.int IntKind.u8
                       (IntKind.u8.wrap
                         (rdN (Rw.gen m fun i j => Value.int IntKind.u8 (f (0 + i))).n
                           (Rw.gen m fun i j => Value.int IntKind.u8 (f (0 + i))).at)),
                     Value.int IntKind.u8
                       (IntKind.u8.wrap
                         ((rdN (Rw.gen m fun i j => Value.int IntKind.u8 (f (0 + i))).n
                               (Rw.gen m fun i j => Value.int IntKind.u8 (f (0 + i))).at).fdiv
                           256))]
                   5).cs))).n.beq
     (Rw.gen
         ((rdS (Rw.gen m fun i j => Value.int IntKind.u8 (f (0 + i))).n
               (Rw.gen m fun i j => Value.int IntKind.u8 (f (0 + i))).at).toNat -
           0)
         fun i j => Value.int IntKind.u8 (f (0 + i))).n &&
   eqU
     (Rw.lst 2
         (List.take 2
           (List.drop 0
             (LO.cells
                 [Value.int IntKind.u8
                     (rdO (Rw.gen m fun i j => Value.int IntKind.u8 (f (0 + i))).n
                       (Rw.gen m fun i j => Value.int IntKind.u8 (f (0 + i))).at),
                   Value.int IntKind.u8
                     (IntKind.u8.wrap
                       (rdN (Rw.gen m fun i j => Value.int IntKind.u8 (f (0 + i))).n
                         (Rw.gen m fun i j => Value.int IntKind.u8 (f (0 + i))).at)),
                   Value.int IntKind.u8
                     (IntKind.u8.wrap
                       ((rdN (Rw.gen m fun i j => Value.int IntKind.u8 (f (0 + i))).n
                             (Rw.gen m fun i j => Value.int IntKind.u8 (f (0 + i))).at).fdiv
                         256))]
                 5).cs))).n
     (Rw.lst 2
         (List.take 2
           (List.drop 0
             (LO.cells
                 [Value.int IntKind.u8
                     (rdO (Rw.gen m fun i j => Value.int IntKind.u8 (f (0 + i))).n
                       (Rw.gen m fun i j => Value.int IntKind.u8 (f (0 + i))).at),
                   Value.int IntKind.u8
                     (IntKind.u8.wrap
                       (rdN (Rw.gen m fun i j => Value.int IntKind.u8 (f (0 + i))).n
                         (Rw.gen m fun i j => Value.int IntKind.u8 (f (0 + i))).at)),
                   Value.int IntKind.u8
                     (IntKind.u8.wrap
                       ((rdN (Rw.gen m fun i j => Value.int IntKind.u8 (f (0 + i))).n
                             (Rw.gen m fun i j => Value.int IntKind.u8 (f (0 + i))).at).fdiv
                         256))]
                 5).cs))).at
     (Rw.gen
         ((rdS (Rw.gen m fun i j => Value.int IntKind.u8 (f (0 + i))).n
               (Rw.gen m fun i j => Value.int IntKind.u8 (f (0 + i))).at).toNat -
           0)
         fun i j => Value.int IntKind.u8 (f (0 + i))).at, true)], Value.bool true) := by kernel_rfl
theorem b6R90 (op : Int) (n : Int) (m : Nat) (f : Nat →
  Int) : (Ly.run (lctx) 20000 [(0, false), (0, true), (0, false), (0, false), (0, false), (0, true), (4, true), (0, true), (0, true), (0, true), (0, true), (0, true), (0, true), (0, false), (0, true), (0, true), (0, true), (0, true), (0, false), (0, true), (0, true), (0, true), (0, true), (0, false), (0, false), (0, true), (0, false), (0, true), (0, false), (0, false), (0, false), (0, true), (5, true), (0, true), (0, true), (0, true), (0, true), (0, true), (0, true), (0, true), (0, true), (1, true)] (Ly.start
  Try.f6 [Value.int IntKind.u8 op, Value.int IntKind.u16 n, sl 0 m]
  (mkH
    [some
        (ints IntKind.u8 f
          m)]))).out? = some ([(decide (1000 < (m : Int)), false),
 (inb op && (decide (0 ≤ n) && decide (n ≤ 65535)), true),
 (sizeT op == 0, false),
 (sizeT op == 1, false),
 (sizeT op == 2, false),
 (sizeT op == 3, true),
 ((0 + m).ble m &&
   (true && (true && (true && (3 + (Rw.gen m fun i j => Value.int IntKind.u8 (f (0 + i))).n).ble 4294967296))), true),
 (Nat.ble 1 (3 + (Rw.gen m fun i j => Value.int IntKind.u8 (f (0 + i))).n), true),
 ((0 + (3 + (Rw.gen m fun i j => Value.int IntKind.u8 (f (0 + i))).n)).ble
     ((Rw.lst 3
           (List.take 3
             (List.drop 0
               (LO.row
                   [Value.int IntKind.u8 op, Value.int IntKind.u8 (IntKind.u8.wrap n),
                     Value.int IntKind.u8 (IntKind.u8.wrap (n.fdiv 256))]
                   5 1).cs))).n +
       (Rw.gen m fun i j => Value.int IntKind.u8 (f (0 + i))).n) &&
   (Rw.ints IntKind.u8
       (Rw.gen (3 + (Rw.gen m fun i j => Value.int IntKind.u8 (f (0 + i))).n) fun i j =>
         joinG
           (Rw.lst 3
               (List.take 3
                 (List.drop 0
                   (LO.row
                       [Value.int IntKind.u8 op, Value.int IntKind.u8 (IntKind.u8.wrap n),
                         Value.int IntKind.u8 (IntKind.u8.wrap (n.fdiv 256))]
                       5 1).cs))).n
           (Rw.fun 1
             (Rw.lst 3
               (List.take 3
                 (List.drop 0
                   (LO.row
                       [Value.int IntKind.u8 op, Value.int IntKind.u8 (IntKind.u8.wrap n),
                         Value.int IntKind.u8 (IntKind.u8.wrap (n.fdiv 256))]
                       5 1).cs))))
           (Rw.fun 1 (Rw.gen m fun i j => Value.int IntKind.u8 (f (0 + i)))) (0 + i) j) &&
     (rdP
         (Rw.gen (3 + (Rw.gen m fun i j => Value.int IntKind.u8 (f (0 + i))).n) fun i j =>
             joinG
               (Rw.lst 3
                   (List.take 3
                     (List.drop 0
                       (LO.row
                           [Value.int IntKind.u8 op, Value.int IntKind.u8 (IntKind.u8.wrap n),
                             Value.int IntKind.u8 (IntKind.u8.wrap (n.fdiv 256))]
                           5 1).cs))).n
               (Rw.fun 1
                 (Rw.lst 3
                   (List.take 3
                     (List.drop 0
                       (LO.row
                           [Value.int IntKind.u8 op, Value.int IntKind.u8 (IntKind.u8.wrap n),
                             Value.int IntKind.u8 (IntKind.u8.wrap (n.fdiv 256))]
                           5 1).cs))))
               (Rw.fun 1 (Rw.gen m fun i j => Value.int IntKind.u8 (f (0 + i)))) (0 + i) j).n
         (Rw.gen (3 + (Rw.gen m fun i j => Value.int IntKind.u8 (f (0 + i))).n) fun i j =>
             joinG
               (Rw.lst 3
                   (List.take 3
                     (List.drop 0
                       (LO.row
                           [Value.int IntKind.u8 op, Value.int IntKind.u8 (IntKind.u8.wrap n),
                             Value.int IntKind.u8 (IntKind.u8.wrap (n.fdiv 256))]
                           5 1).cs))).n
               (Rw.fun 1
                 (Rw.lst 3
                   (List.take 3
                     (List.drop 0
                       (LO.row
                           [Value.int IntKind.u8 op, Value.int IntKind.u8 (IntKind.u8.wrap n),
                             Value.int IntKind.u8 (IntKind.u8.wrap (n.fdiv 256))]
                           5 1).cs))))
               (Rw.fun 1 (Rw.gen m fun i j => Value.int IntKind.u8 (f (0 + i)))) (0 + i) j).at).fst), true),
 ((rdK
       (Rw.gen (3 + (Rw.gen m fun i j => Value.int IntKind.u8 (f (0 + i))).n) fun i j =>
           joinG
             (Rw.lst 3
                 (List.take 3
                   (List.drop 0
                     (LO.row
                         [Value.int IntKind.u8 op, Value.int IntKind.u8 (IntKind.u8.wrap n),
                           Value.int IntKind.u8 (IntKind.u8.wrap (n.fdiv 256))]
                         5 1).cs))).n
             (Rw.fun 1
               (Rw.lst 3
                 (List.take 3
                   (List.drop 0
                     (LO.row
                         [Value.int IntKind.u8 op, Value.int IntKind.u8 (IntKind.u8.wrap n),
                           Value.int IntKind.u8 (IntKind.u8.wrap (n.fdiv 256))]
                         5 1).cs))))
             (Rw.fun 1 (Rw.gen m fun i j => Value.int IntKind.u8 (f (0 + i)))) (0 + i) j).n
       (Rw.gen (3 + (Rw.gen m fun i j => Value.int IntKind.u8 (f (0 + i))).n) fun i j =>
           joinG
             (Rw.lst 3
                 (List.take 3
                   (List.drop 0
                     (LO.row
                         [Value.int IntKind.u8 op, Value.int IntKind.u8 (IntKind.u8.wrap n),
                           Value.int IntKind.u8 (IntKind.u8.wrap (n.fdiv 256))]
                         5 1).cs))).n
             (Rw.fun 1
               (Rw.lst 3
                 (List.take 3
                   (List.drop 0
                     (LO.row
                         [Value.int IntKind.u8 op, Value.int IntKind.u8 (IntKind.u8.wrap n),
                           Value.int IntKind.u8 (IntKind.u8.wrap (n.fdiv 256))]
                         5 1).cs))))
             (Rw.fun 1 (Rw.gen m fun i j => Value.int IntKind.u8 (f (0 + i)))) (0 + i) j).at !=
     0) ==
   false, true),
 ((rdK
       (Rw.gen (3 + (Rw.gen m fun i j => Value.int IntKind.u8 (f (0 + i))).n) fun i j =>
           joinG
             (Rw.lst 3
                 (List.take 3
                   (List.drop 0
                     (LO.row
                         [Value.int IntKind.u8 op, Value.int IntKind.u8 (IntKind.u8.wrap n),
                           Value.int IntKind.u8 (IntKind.u8.wrap (n.fdiv 256))]
                         5 1).cs))).n
             (Rw.fun 1
               (Rw.lst 3
                 (List.take 3
                   (List.drop 0
                     (LO.row
                         [Value.int IntKind.u8 op, Value.int IntKind.u8 (IntKind.u8.wrap n),
                           Value.int IntKind.u8 (IntKind.u8.wrap (n.fdiv 256))]
                         5 1).cs))))
             (Rw.fun 1 (Rw.gen m fun i j => Value.int IntKind.u8 (f (0 + i)))) (0 + i) j).n
       (Rw.gen (3 + (Rw.gen m fun i j => Value.int IntKind.u8 (f (0 + i))).n) fun i j =>
           joinG
             (Rw.lst 3
                 (List.take 3
                   (List.drop 0
                     (LO.row
                         [Value.int IntKind.u8 op, Value.int IntKind.u8 (IntKind.u8.wrap n),
                           Value.int IntKind.u8 (IntKind.u8.wrap (n.fdiv 256))]
                         5 1).cs))).n
             (Rw.fun 1
               (Rw.lst 3
                 (List.take 3
                   (List.drop 0
                     (LO.row
                         [Value.int IntKind.u8 op, Value.int IntKind.u8 (IntKind.u8.wrap n),
                           Value.int IntKind.u8 (IntKind.u8.wrap (n.fdiv 256))]
                         5 1).cs))))
             (Rw.fun 1 (Rw.gen m fun i j => Value.int IntKind.u8 (f (0 + i)))) (0 + i) j).at !=
     0) ==
   false, true),
 ((rdK
       (Rw.gen (3 + (Rw.gen m fun i j => Value.int IntKind.u8 (f (0 + i))).n) fun i j =>
           joinG
             (Rw.lst 3
                 (List.take 3
                   (List.drop 0
                     (LO.row
                         [Value.int IntKind.u8 op, Value.int IntKind.u8 (IntKind.u8.wrap n),
                           Value.int IntKind.u8 (IntKind.u8.wrap (n.fdiv 256))]
                         5 1).cs))).n
             (Rw.fun 1
               (Rw.lst 3
                 (List.take 3
                   (List.drop 0
                     (LO.row
                         [Value.int IntKind.u8 op, Value.int IntKind.u8 (IntKind.u8.wrap n),
                           Value.int IntKind.u8 (IntKind.u8.wrap (n.fdiv 256))]
                         5 1).cs))))
             (Rw.fun 1 (Rw.gen m fun i j => Value.int IntKind.u8 (f (0 + i)))) (0 + i) j).n
       (Rw.gen (3 + (Rw.gen m fun i j => Value.int IntKind.u8 (f (0 + i))).n) fun i j =>
           joinG
             (Rw.lst 3
                 (List.take 3
                   (List.drop 0
                     (LO.row
                         [Value.int IntKind.u8 op, Value.int IntKind.u8 (IntKind.u8.wrap n),
                           Value.int IntKind.u8 (IntKind.u8.wrap (n.fdiv 256))]
                         5 1).cs))).n
             (Rw.fun 1
               (Rw.lst 3
                 (List.take 3
                   (List.drop 0
                     (LO.row
                         [Value.int IntKind.u8 op, Value.int IntKind.u8 (IntKind.u8.wrap n),
                           Value.int IntKind.u8 (IntKind.u8.wrap (n.fdiv 256))]
                         5 1).cs))))
             (Rw.fun 1 (Rw.gen m fun i j => Value.int IntKind.u8 (f (0 + i)))) (0 + i) j).at !=
     0) ==
   false, true),
 ((rdK
       (Rw.gen (3 + (Rw.gen m fun i j => Value.int IntKind.u8 (f (0 + i))).n) fun i j =>
           joinG
             (Rw.lst 3
                 (List.take 3
                   (List.drop 0
                     (LO.row
                         [Value.int IntKind.u8 op, Value.int IntKind.u8 (IntKind.u8.wrap n),
                           Value.int IntKind.u8 (IntKind.u8.wrap (n.fdiv 256))]
                         5 1).cs))).n
             (Rw.fun 1
               (Rw.lst 3
                 (List.take 3
                   (List.drop 0
                     (LO.row
                         [Value.int IntKind.u8 op, Value.int IntKind.u8 (IntKind.u8.wrap n),
                           Value.int IntKind.u8 (IntKind.u8.wrap (n.fdiv 256))]
                         5 1).cs))))
             (Rw.fun 1 (Rw.gen m fun i j => Value.int IntKind.u8 (f (0 + i)))) (0 + i) j).n
       (Rw.gen (3 + (Rw.gen m fun i j => Value.int IntKind.u8 (f (0 + i))).n) fun i j =>
           joinG
             (Rw.lst 3
                 (List.take 3
                   (List.drop 0
                     (LO.row
                         [Value.int IntKind.u8 op, Value.int IntKind.u8 (IntKind.u8.wrap n),
                           Value.int IntKind.u8 (IntKind.u8.wrap (n.fdiv 256))]
                         5 1).cs))).n
             (Rw.fun 1
               (Rw.lst 3
                 (List.take 3
                   (List.drop 0
                     (LO.row
                         [Value.int IntKind.u8 op, Value.int IntKind.u8 (IntKind.u8.wrap n),
                           Value.int IntKind.u8 (IntKind.u8.wrap (n.fdiv 256))]
                         5 1).cs))))
             (Rw.fun 1 (Rw.gen m fun i j => Value.int IntKind.u8 (f (0 + i)))) (0 + i) j).at !=
     0) ==
   false, true),
 (rdK
     (Rw.gen (3 + (Rw.gen m fun i j => Value.int IntKind.u8 (f (0 + i))).n) fun i j =>
         joinG
           (Rw.lst 3
               (List.take 3
                 (List.drop 0
                   (LO.row
                       [Value.int IntKind.u8 op, Value.int IntKind.u8 (IntKind.u8.wrap n),
                         Value.int IntKind.u8 (IntKind.u8.wrap (n.fdiv 256))]
                       5 1).cs))).n
           (Rw.fun 1
             (Rw.lst 3
               (List.take 3
                 (List.drop 0
                   (LO.row
                       [Value.int IntKind.u8 op, Value.int IntKind.u8 (IntKind.u8.wrap n),
                         Value.int IntKind.u8 (IntKind.u8.wrap (n.fdiv 256))]
                       5 1).cs))))
           (Rw.fun 1 (Rw.gen m fun i j => Value.int IntKind.u8 (f (0 + i)))) (0 + i) j).n
     (Rw.gen (3 + (Rw.gen m fun i j => Value.int IntKind.u8 (f (0 + i))).n) fun i j =>
         joinG
           (Rw.lst 3
               (List.take 3
                 (List.drop 0
                   (LO.row
                       [Value.int IntKind.u8 op, Value.int IntKind.u8 (IntKind.u8.wrap n),
                         Value.int IntKind.u8 (IntKind.u8.wrap (n.fdiv 256))]
                       5 1).cs))).n
           (Rw.fun 1
             (Rw.lst 3
               (List.take 3
                 (List.drop 0
                   (LO.row
                       [Value.int IntKind.u8 op, Value.int IntKind.u8 (IntKind.u8.wrap n),
                         Value.int IntKind.u8 (IntKind.u8.wrap (n.fdiv 256))]
                       5 1).cs))))
           (Rw.fun 1 (Rw.gen m fun i j => Value.int IntKind.u8 (f (0 + i)))) (0 + i) j).at !=
   0, false),
 ((rdO
       (Rw.gen (3 + (Rw.gen m fun i j => Value.int IntKind.u8 (f (0 + i))).n) fun i j =>
           joinG
             (Rw.lst 3
                 (List.take 3
                   (List.drop 0
                     (LO.row
                         [Value.int IntKind.u8 op, Value.int IntKind.u8 (IntKind.u8.wrap n),
                           Value.int IntKind.u8 (IntKind.u8.wrap (n.fdiv 256))]
                         5 1).cs))).n
             (Rw.fun 1
               (Rw.lst 3
                 (List.take 3
                   (List.drop 0
                     (LO.row
                         [Value.int IntKind.u8 op, Value.int IntKind.u8 (IntKind.u8.wrap n),
                           Value.int IntKind.u8 (IntKind.u8.wrap (n.fdiv 256))]
                         5 1).cs))))
             (Rw.fun 1 (Rw.gen m fun i j => Value.int IntKind.u8 (f (0 + i)))) (0 + i) j).n
       (Rw.gen (3 + (Rw.gen m fun i j => Value.int IntKind.u8 (f (0 + i))).n) fun i j =>
           joinG
             (Rw.lst 3
                 (List.take 3
                   (List.drop 0
                     (LO.row
                         [Value.int IntKind.u8 op, Value.int IntKind.u8 (IntKind.u8.wrap n),
                           Value.int IntKind.u8 (IntKind.u8.wrap (n.fdiv 256))]
                         5 1).cs))).n
             (Rw.fun 1
               (Rw.lst 3
                 (List.take 3
                   (List.drop 0
                     (LO.row
                         [Value.int IntKind.u8 op, Value.int IntKind.u8 (IntKind.u8.wrap n),
                           Value.int IntKind.u8 (IntKind.u8.wrap (n.fdiv 256))]
                         5 1).cs))))
             (Rw.fun 1 (Rw.gen m fun i j => Value.int IntKind.u8 (f (0 + i)))) (0 + i) j).at !=
     op) ==
   false, true),
 ((rdO
       (Rw.gen (3 + (Rw.gen m fun i j => Value.int IntKind.u8 (f (0 + i))).n) fun i j =>
           joinG
             (Rw.lst 3
                 (List.take 3
                   (List.drop 0
                     (LO.row
                         [Value.int IntKind.u8 op, Value.int IntKind.u8 (IntKind.u8.wrap n),
                           Value.int IntKind.u8 (IntKind.u8.wrap (n.fdiv 256))]
                         5 1).cs))).n
             (Rw.fun 1
               (Rw.lst 3
                 (List.take 3
                   (List.drop 0
                     (LO.row
                         [Value.int IntKind.u8 op, Value.int IntKind.u8 (IntKind.u8.wrap n),
                           Value.int IntKind.u8 (IntKind.u8.wrap (n.fdiv 256))]
                         5 1).cs))))
             (Rw.fun 1 (Rw.gen m fun i j => Value.int IntKind.u8 (f (0 + i)))) (0 + i) j).n
       (Rw.gen (3 + (Rw.gen m fun i j => Value.int IntKind.u8 (f (0 + i))).n) fun i j =>
           joinG
             (Rw.lst 3
                 (List.take 3
                   (List.drop 0
                     (LO.row
                         [Value.int IntKind.u8 op, Value.int IntKind.u8 (IntKind.u8.wrap n),
                           Value.int IntKind.u8 (IntKind.u8.wrap (n.fdiv 256))]
                         5 1).cs))).n
             (Rw.fun 1
               (Rw.lst 3
                 (List.take 3
                   (List.drop 0
                     (LO.row
                         [Value.int IntKind.u8 op, Value.int IntKind.u8 (IntKind.u8.wrap n),
                           Value.int IntKind.u8 (IntKind.u8.wrap (n.fdiv 256))]
                         5 1).cs))))
             (Rw.fun 1 (Rw.gen m fun i j => Value.int IntKind.u8 (f (0 + i)))) (0 + i) j).at !=
     op) ==
   false, true),
 ((rdO
       (Rw.gen (3 + (Rw.gen m fun i j => Value.int IntKind.u8 (f (0 + i))).n) fun i j =>
           joinG
             (Rw.lst 3
                 (List.take 3
                   (List.drop 0
                     (LO.row
                         [Value.int IntKind.u8 op, Value.int IntKind.u8 (IntKind.u8.wrap n),
                           Value.int IntKind.u8 (IntKind.u8.wrap (n.fdiv 256))]
                         5 1).cs))).n
             (Rw.fun 1
               (Rw.lst 3
                 (List.take 3
                   (List.drop 0
                     (LO.row
                         [Value.int IntKind.u8 op, Value.int IntKind.u8 (IntKind.u8.wrap n),
                           Value.int IntKind.u8 (IntKind.u8.wrap (n.fdiv 256))]
                         5 1).cs))))
             (Rw.fun 1 (Rw.gen m fun i j => Value.int IntKind.u8 (f (0 + i)))) (0 + i) j).n
       (Rw.gen (3 + (Rw.gen m fun i j => Value.int IntKind.u8 (f (0 + i))).n) fun i j =>
           joinG
             (Rw.lst 3
                 (List.take 3
                   (List.drop 0
                     (LO.row
                         [Value.int IntKind.u8 op, Value.int IntKind.u8 (IntKind.u8.wrap n),
                           Value.int IntKind.u8 (IntKind.u8.wrap (n.fdiv 256))]
                         5 1).cs))).n
             (Rw.fun 1
               (Rw.lst 3
                 (List.take 3
                   (List.drop 0
                     (LO.row
                         [Value.int IntKind.u8 op, Value.int IntKind.u8 (IntKind.u8.wrap n),
                           Value.int IntKind.u8 (IntKind.u8.wrap (n.fdiv 256))]
                         5 1).cs))))
             (Rw.fun 1 (Rw.gen m fun i j => Value.int IntKind.u8 (f (0 + i)))) (0 + i) j).at !=
     op) ==
   false, true),
 ((rdO
       (Rw.gen (3 + (Rw.gen m fun i j => Value.int IntKind.u8 (f (0 + i))).n) fun i j =>
           joinG
             (Rw.lst 3
                 (List.take 3
                   (List.drop 0
                     (LO.row
                         [Value.int IntKind.u8 op, Value.int IntKind.u8 (IntKind.u8.wrap n),
                           Value.int IntKind.u8 (IntKind.u8.wrap (n.fdiv 256))]
                         5 1).cs))).n
             (Rw.fun 1
               (Rw.lst 3
                 (List.take 3
                   (List.drop 0
                     (LO.row
                         [Value.int IntKind.u8 op, Value.int IntKind.u8 (IntKind.u8.wrap n),
                           Value.int IntKind.u8 (IntKind.u8.wrap (n.fdiv 256))]
                         5 1).cs))))
             (Rw.fun 1 (Rw.gen m fun i j => Value.int IntKind.u8 (f (0 + i)))) (0 + i) j).n
       (Rw.gen (3 + (Rw.gen m fun i j => Value.int IntKind.u8 (f (0 + i))).n) fun i j =>
           joinG
             (Rw.lst 3
                 (List.take 3
                   (List.drop 0
                     (LO.row
                         [Value.int IntKind.u8 op, Value.int IntKind.u8 (IntKind.u8.wrap n),
                           Value.int IntKind.u8 (IntKind.u8.wrap (n.fdiv 256))]
                         5 1).cs))).n
             (Rw.fun 1
               (Rw.lst 3
                 (List.take 3
                   (List.drop 0
                     (LO.row
                         [Value.int IntKind.u8 op, Value.int IntKind.u8 (IntKind.u8.wrap n),
                           Value.int IntKind.u8 (IntKind.u8.wrap (n.fdiv 256))]
                         5 1).cs))))
             (Rw.fun 1 (Rw.gen m fun i j => Value.int IntKind.u8 (f (0 + i)))) (0 + i) j).at !=
     op) ==
   false, true),
 (rdO
     (Rw.gen (3 + (Rw.gen m fun i j => Value.int IntKind.u8 (f (0 + i))).n) fun i j =>
         joinG
           (Rw.lst 3
               (List.take 3
                 (List.drop 0
                   (LO.row
                       [Value.int IntKind.u8 op, Value.int IntKind.u8 (IntKind.u8.wrap n),
                         Value.int IntKind.u8 (IntKind.u8.wrap (n.fdiv 256))]
                       5 1).cs))).n
           (Rw.fun 1
             (Rw.lst 3
               (List.take 3
                 (List.drop 0
                   (LO.row
                       [Value.int IntKind.u8 op, Value.int IntKind.u8 (IntKind.u8.wrap n),
                         Value.int IntKind.u8 (IntKind.u8.wrap (n.fdiv 256))]
                       5 1).cs))))
           (Rw.fun 1 (Rw.gen m fun i j => Value.int IntKind.u8 (f (0 + i)))) (0 + i) j).n
     (Rw.gen (3 + (Rw.gen m fun i j => Value.int IntKind.u8 (f (0 + i))).n) fun i j =>
         joinG
           (Rw.lst 3
               (List.take 3
                 (List.drop 0
                   (LO.row
                       [Value.int IntKind.u8 op, Value.int IntKind.u8 (IntKind.u8.wrap n),
                         Value.int IntKind.u8 (IntKind.u8.wrap (n.fdiv 256))]
                       5 1).cs))).n
           (Rw.fun 1
             (Rw.lst 3
               (List.take 3
                 (List.drop 0
                   (LO.row
                       [Value.int IntKind.u8 op, Value.int IntKind.u8 (IntKind.u8.wrap n),
                         Value.int IntKind.u8 (IntKind.u8.wrap (n.fdiv 256))]
                       5 1).cs))))
           (Rw.fun 1 (Rw.gen m fun i j => Value.int IntKind.u8 (f (0 + i)))) (0 + i) j).at !=
   op, false),
 ((rdN
       (Rw.gen (3 + (Rw.gen m fun i j => Value.int IntKind.u8 (f (0 + i))).n) fun i j =>
           joinG
             (Rw.lst 3
                 (List.take 3
                   (List.drop 0
                     (LO.row
                         [Value.int IntKind.u8 op, Value.int IntKind.u8 (IntKind.u8.wrap n),
                           Value.int IntKind.u8 (IntKind.u8.wrap (n.fdiv 256))]
                         5 1).cs))).n
             (Rw.fun 1
               (Rw.lst 3
                 (List.take 3
                   (List.drop 0
                     (LO.row
                         [Value.int IntKind.u8 op, Value.int IntKind.u8 (IntKind.u8.wrap n),
                           Value.int IntKind.u8 (IntKind.u8.wrap (n.fdiv 256))]
                         5 1).cs))))
             (Rw.fun 1 (Rw.gen m fun i j => Value.int IntKind.u8 (f (0 + i)))) (0 + i) j).n
       (Rw.gen (3 + (Rw.gen m fun i j => Value.int IntKind.u8 (f (0 + i))).n) fun i j =>
           joinG
             (Rw.lst 3
                 (List.take 3
                   (List.drop 0
                     (LO.row
                         [Value.int IntKind.u8 op, Value.int IntKind.u8 (IntKind.u8.wrap n),
                           Value.int IntKind.u8 (IntKind.u8.wrap (n.fdiv 256))]
                         5 1).cs))).n
             (Rw.fun 1
               (Rw.lst 3
                 (List.take 3
                   (List.drop 0
                     (LO.row
                         [Value.int IntKind.u8 op, Value.int IntKind.u8 (IntKind.u8.wrap n),
                           Value.int IntKind.u8 (IntKind.u8.wrap (n.fdiv 256))]
                         5 1).cs))))
             (Rw.fun 1 (Rw.gen m fun i j => Value.int IntKind.u8 (f (0 + i)))) (0 + i) j).at !=
     n) ==
   false, true),
 ((rdN
       (Rw.gen (3 + (Rw.gen m fun i j => Value.int IntKind.u8 (f (0 + i))).n) fun i j =>
           joinG
             (Rw.lst 3
                 (List.take 3
                   (List.drop 0
                     (LO.row
                         [Value.int IntKind.u8 op, Value.int IntKind.u8 (IntKind.u8.wrap n),
                           Value.int IntKind.u8 (IntKind.u8.wrap (n.fdiv 256))]
                         5 1).cs))).n
             (Rw.fun 1
               (Rw.lst 3
                 (List.take 3
                   (List.drop 0
                     (LO.row
                         [Value.int IntKind.u8 op, Value.int IntKind.u8 (IntKind.u8.wrap n),
                           Value.int IntKind.u8 (IntKind.u8.wrap (n.fdiv 256))]
                         5 1).cs))))
             (Rw.fun 1 (Rw.gen m fun i j => Value.int IntKind.u8 (f (0 + i)))) (0 + i) j).n
       (Rw.gen (3 + (Rw.gen m fun i j => Value.int IntKind.u8 (f (0 + i))).n) fun i j =>
           joinG
             (Rw.lst 3
                 (List.take 3
                   (List.drop 0
                     (LO.row
                         [Value.int IntKind.u8 op, Value.int IntKind.u8 (IntKind.u8.wrap n),
                           Value.int IntKind.u8 (IntKind.u8.wrap (n.fdiv 256))]
                         5 1).cs))).n
             (Rw.fun 1
               (Rw.lst 3
                 (List.take 3
                   (List.drop 0
                     (LO.row
                         [Value.int IntKind.u8 op, Value.int IntKind.u8 (IntKind.u8.wrap n),
                           Value.int IntKind.u8 (IntKind.u8.wrap (n.fdiv 256))]
                         5 1).cs))))
             (Rw.fun 1 (Rw.gen m fun i j => Value.int IntKind.u8 (f (0 + i)))) (0 + i) j).at !=
     n) ==
   false, true),
 ((rdN
       (Rw.gen (3 + (Rw.gen m fun i j => Value.int IntKind.u8 (f (0 + i))).n) fun i j =>
           joinG
             (Rw.lst 3
                 (List.take 3
                   (List.drop 0
                     (LO.row
                         [Value.int IntKind.u8 op, Value.int IntKind.u8 (IntKind.u8.wrap n),
                           Value.int IntKind.u8 (IntKind.u8.wrap (n.fdiv 256))]
                         5 1).cs))).n
             (Rw.fun 1
               (Rw.lst 3
                 (List.take 3
                   (List.drop 0
                     (LO.row
                         [Value.int IntKind.u8 op, Value.int IntKind.u8 (IntKind.u8.wrap n),
                           Value.int IntKind.u8 (IntKind.u8.wrap (n.fdiv 256))]
                         5 1).cs))))
             (Rw.fun 1 (Rw.gen m fun i j => Value.int IntKind.u8 (f (0 + i)))) (0 + i) j).n
       (Rw.gen (3 + (Rw.gen m fun i j => Value.int IntKind.u8 (f (0 + i))).n) fun i j =>
           joinG
             (Rw.lst 3
                 (List.take 3
                   (List.drop 0
                     (LO.row
                         [Value.int IntKind.u8 op, Value.int IntKind.u8 (IntKind.u8.wrap n),
                           Value.int IntKind.u8 (IntKind.u8.wrap (n.fdiv 256))]
                         5 1).cs))).n
             (Rw.fun 1
               (Rw.lst 3
                 (List.take 3
                   (List.drop 0
                     (LO.row
                         [Value.int IntKind.u8 op, Value.int IntKind.u8 (IntKind.u8.wrap n),
                           Value.int IntKind.u8 (IntKind.u8.wrap (n.fdiv 256))]
                         5 1).cs))))
             (Rw.fun 1 (Rw.gen m fun i j => Value.int IntKind.u8 (f (0 + i)))) (0 + i) j).at !=
     n) ==
   false, true),
 ((rdN
       (Rw.gen (3 + (Rw.gen m fun i j => Value.int IntKind.u8 (f (0 + i))).n) fun i j =>
           joinG
             (Rw.lst 3
                 (List.take 3
                   (List.drop 0
                     (LO.row
                         [Value.int IntKind.u8 op, Value.int IntKind.u8 (IntKind.u8.wrap n),
                           Value.int IntKind.u8 (IntKind.u8.wrap (n.fdiv 256))]
                         5 1).cs))).n
             (Rw.fun 1
               (Rw.lst 3
                 (List.take 3
                   (List.drop 0
                     (LO.row
                         [Value.int IntKind.u8 op, Value.int IntKind.u8 (IntKind.u8.wrap n),
                           Value.int IntKind.u8 (IntKind.u8.wrap (n.fdiv 256))]
                         5 1).cs))))
             (Rw.fun 1 (Rw.gen m fun i j => Value.int IntKind.u8 (f (0 + i)))) (0 + i) j).n
       (Rw.gen (3 + (Rw.gen m fun i j => Value.int IntKind.u8 (f (0 + i))).n) fun i j =>
           joinG
             (Rw.lst 3
                 (List.take 3
                   (List.drop 0
                     (LO.row
                         [Value.int IntKind.u8 op, Value.int IntKind.u8 (IntKind.u8.wrap n),
                           Value.int IntKind.u8 (IntKind.u8.wrap (n.fdiv 256))]
                         5 1).cs))).n
             (Rw.fun 1
               (Rw.lst 3
                 (List.take 3
                   (List.drop 0
                     (LO.row
                         [Value.int IntKind.u8 op, Value.int IntKind.u8 (IntKind.u8.wrap n),
                           Value.int IntKind.u8 (IntKind.u8.wrap (n.fdiv 256))]
                         5 1).cs))))
             (Rw.fun 1 (Rw.gen m fun i j => Value.int IntKind.u8 (f (0 + i)))) (0 + i) j).at !=
     n) ==
   false, true),
 (rdN
     (Rw.gen (3 + (Rw.gen m fun i j => Value.int IntKind.u8 (f (0 + i))).n) fun i j =>
         joinG
           (Rw.lst 3
               (List.take 3
                 (List.drop 0
                   (LO.row
                       [Value.int IntKind.u8 op, Value.int IntKind.u8 (IntKind.u8.wrap n),
                         Value.int IntKind.u8 (IntKind.u8.wrap (n.fdiv 256))]
                       5 1).cs))).n
           (Rw.fun 1
             (Rw.lst 3
               (List.take 3
                 (List.drop 0
                   (LO.row
                       [Value.int IntKind.u8 op, Value.int IntKind.u8 (IntKind.u8.wrap n),
                         Value.int IntKind.u8 (IntKind.u8.wrap (n.fdiv 256))]
                       5 1).cs))))
           (Rw.fun 1 (Rw.gen m fun i j => Value.int IntKind.u8 (f (0 + i)))) (0 + i) j).n
     (Rw.gen (3 + (Rw.gen m fun i j => Value.int IntKind.u8 (f (0 + i))).n) fun i j =>
         joinG
           (Rw.lst 3
               (List.take 3
                 (List.drop 0
                   (LO.row
                       [Value.int IntKind.u8 op, Value.int IntKind.u8 (IntKind.u8.wrap n),
                         Value.int IntKind.u8 (IntKind.u8.wrap (n.fdiv 256))]
                       5 1).cs))).n
           (Rw.fun 1
             (Rw.lst 3
               (List.take 3
                 (List.drop 0
                   (LO.row
                       [Value.int IntKind.u8 op, Value.int IntKind.u8 (IntKind.u8.wrap n),
                         Value.int IntKind.u8 (IntKind.u8.wrap (n.fdiv 256))]
                       5 1).cs))))
           (Rw.fun 1 (Rw.gen m fun i j => Value.int IntKind.u8 (f (0 + i)))) (0 + i) j).at !=
   n, false),
 (rdS
     (Rw.gen (3 + (Rw.gen m fun i j => Value.int IntKind.u8 (f (0 + i))).n) fun i j =>
         joinG
           (Rw.lst 3
               (List.take 3
                 (List.drop 0
                   (LO.row
                       [Value.int IntKind.u8 op, Value.int IntKind.u8 (IntKind.u8.wrap n),
                         Value.int IntKind.u8 (IntKind.u8.wrap (n.fdiv 256))]
                       5 1).cs))).n
           (Rw.fun 1
             (Rw.lst 3
               (List.take 3
                 (List.drop 0
                   (LO.row
                       [Value.int IntKind.u8 op, Value.int IntKind.u8 (IntKind.u8.wrap n),
                         Value.int IntKind.u8 (IntKind.u8.wrap (n.fdiv 256))]
                       5 1).cs))))
           (Rw.fun 1 (Rw.gen m fun i j => Value.int IntKind.u8 (f (0 + i)))) (0 + i) j).n
     (Rw.gen (3 + (Rw.gen m fun i j => Value.int IntKind.u8 (f (0 + i))).n) fun i j =>
         joinG
           (Rw.lst 3
               (List.take 3
                 (List.drop 0
                   (LO.row
                       [Value.int IntKind.u8 op, Value.int IntKind.u8 (IntKind.u8.wrap n),
                         Value.int IntKind.u8 (IntKind.u8.wrap (n.fdiv 256))]
                       5 1).cs))).n
           (Rw.fun 1
             (Rw.lst 3
               (List.take 3
                 (List.drop 0
                   (LO.row
                       [Value.int IntKind.u8 op, Value.int IntKind.u8 (IntKind.u8.wrap n),
                         Value.int IntKind.u8 (IntKind.u8.wrap (n.fdiv 256))]
                       5 1).cs))))
           (Rw.fun 1 (Rw.gen m fun i j => Value.int IntKind.u8 (f (0 + i)))) (0 + i) j).at !=
   3, false),
 ((0 + m).ble m &&
   (Rw.ints IntKind.u8 (Rw.gen m fun i j => Value.int IntKind.u8 (f (0 + i))) &&
     (rdP (Rw.gen m fun i j => Value.int IntKind.u8 (f (0 + i))).n
         (Rw.gen m fun i j => Value.int IntKind.u8 (f (0 + i))).at).fst), true),
 (rdK (Rw.gen m fun i j => Value.int IntKind.u8 (f (0 + i))).n
     (Rw.gen m fun i j => Value.int IntKind.u8 (f (0 + i))).at !=
   0, false),
 (inb
     (rdO (Rw.gen m fun i j => Value.int IntKind.u8 (f (0 + i))).n
       (Rw.gen m fun i j => Value.int IntKind.u8 (f (0 + i))).at) &&
   (decide
       (0 ≤
         rdN (Rw.gen m fun i j => Value.int IntKind.u8 (f (0 + i))).n
           (Rw.gen m fun i j => Value.int IntKind.u8 (f (0 + i))).at) &&
     decide
       (rdN (Rw.gen m fun i j => Value.int IntKind.u8 (f (0 + i))).n
           (Rw.gen m fun i j => Value.int IntKind.u8 (f (0 + i))).at ≤
         65535)), true),
 (sizeT
     (rdO (Rw.gen m fun i j => Value.int IntKind.u8 (f (0 + i))).n
       (Rw.gen m fun i j => Value.int IntKind.u8 (f (0 + i))).at) ==
   0, false),
 (sizeT
     (rdO (Rw.gen m fun i j => Value.int IntKind.u8 (f (0 + i))).n
       (Rw.gen m fun i j => Value.int IntKind.u8 (f (0 + i))).at) ==
   1, false),
 (sizeT
     (rdO (Rw.gen m fun i j => Value.int IntKind.u8 (f (0 + i))).n
       (Rw.gen m fun i j => Value.int IntKind.u8 (f (0 + i))).at) ==
   2, false),
 (sizeT
     (rdO (Rw.gen m fun i j => Value.int IntKind.u8 (f (0 + i))).n
       (Rw.gen m fun i j => Value.int IntKind.u8 (f (0 + i))).at) ==
   3, true),
 ((rdS (Rw.gen m fun i j => Value.int IntKind.u8 (f (0 + i))).n
       (Rw.gen m fun i j => Value.int IntKind.u8 (f (0 + i))).at ==
     3) ==
   true, true),
 ((rdS (Rw.gen m fun i j => Value.int IntKind.u8 (f (0 + i))).n
       (Rw.gen m fun i j => Value.int IntKind.u8 (f (0 + i))).at ==
     3) ==
   true, true),
 ((rdS (Rw.gen m fun i j => Value.int IntKind.u8 (f (0 + i))).n
       (Rw.gen m fun i j => Value.int IntKind.u8 (f (0 + i))).at ==
     3) ==
   true, true),
 ((rdS (Rw.gen m fun i j => Value.int IntKind.u8 (f (0 + i))).n
       (Rw.gen m fun i j => Value.int IntKind.u8 (f (0 + i))).at ==
     3) ==
   true, true),
 (true &&
   (decide
       (0 ≤
         rdS (Rw.gen m fun i j => Value.int IntKind.u8 (f (0 + i))).n
           (Rw.gen m fun i j => Value.int IntKind.u8 (f (0 + i))).at) &&
     decide
       (rdS (Rw.gen m fun i j => Value.int IntKind.u8 (f (0 + i))).n
           (Rw.gen m fun i j => Value.int IntKind.u8 (f (0 + i))).at ≤
         (m : Int))), true),
 ((rdS (Rw.gen m fun i j => Value.int IntKind.u8 (f (0 + i))).n
       (Rw.gen m fun i j => Value.int IntKind.u8 (f (0 + i))).at ==
     3) ==
   true, true),
 (true &&
   ((0 +
           ((rdS (Rw.gen m fun i j => Value.int IntKind.u8 (f (0 + i))).n
                 (Rw.gen m fun i j => Value.int IntKind.u8 (f (0 + i))).at).toNat -
             0)).ble
       m &&
     (true &&
       (Rw.ints IntKind.u8
           (Rw.gen
             ((rdS (Rw.gen m fun i j => Value.int IntKind.u8 (f (0 + i))).n
                   (Rw.gen m fun i j => Value.int IntKind.u8 (f (0 + i))).at).toNat -
               0)
             fun i j => Value.int IntKind.u8 (f (0 + i))) &&
         true))), true),
 (rdS (Rw.gen m fun i j => Value.int IntKind.u8 (f (0 + i))).n
     (Rw.gen m fun i j => Value.int IntKind.u8 (f (0 + i))).at ==
   3, true),
 (((Rw.lst 3
             (List.take 3
               (List.drop 0
                 (LO.cells
                     [Value.int IntKind.u8
                         (rdO (Rw.gen m fun i j => Value.int IntKind.u8 (f (0 + i))).n
                           (Rw.gen m fun i j => Value.int IntKind.u8 (f (0 + i))).at),
                       Value.int IntKind.u8
                         (IntKind.u8.wrap
                           (rdN (Rw.gen m fun i j => Value.int IntKind.u8 (f (0 + i))).n
                             (Rw.gen m fun i j => Value.int IntKind.u8 (f (0 + i))).at)),
                       Value.int IntKind.u8
                         (IntKind.u8.wrap
                           ((rdN (Rw.gen m fun i j => Value.int IntKind.u8 (f (0 + i))).n
                                 (Rw.gen m fun i j => Value.int IntKind.u8 (f (0 + i))).at).fdiv
                             256))]
                     5).cs))).n.beq
       (Rw.gen
           ((rdS (Rw.gen m fun i j => Value.int IntKind.u8 (f (0 + i))).n
                 (Rw.gen m fun i j => Value.int IntKind.u8 (f (0 + i))).at).toNat -
             0)
           fun i j => Value.int IntKind.u8 (f (0 + i))).n &&
     eqU
       (Rw.lst 3
           (List.take 3
             (List.drop 0
               (LO.cells
                   [Value.int IntKind.u8
                       (rdO (Rw.gen m fun i j => Value.int IntKind.u8 (f (0 + i))).n
                         (Rw.gen m fun i j => Value.int IntKind.u8 (f (0 + i))).at),
                     Value.int IntKind.u8
                       (IntKind.u8.wrap
                         (rdN (Rw.gen m fun i j => Value.int IntKind.u8 (f (0 + i))).n
                           (Rw.gen m fun i j => Value.int IntKind.u8 (f (0 + i))).at)),
                     Value.int IntKind.u8
                       (IntKind.u8.wrap
                         ((rdN (Rw.gen m fun i j => Value.int IntKind.u8 (f (0 + i))).n
                               (Rw.gen m fun i j => Value.int IntKind.u8 (f (0 + i))).at).fdiv
                           256))]
                   5).cs))).n
       (Rw.lst 3
           (List.take 3
             (List.drop 0
               (LO.cells
                   [Value.int IntKind.u8
                       (rdO (Rw.gen m fun i j => Value.int IntKind.u8 (f (0 + i))).n
                         (Rw.gen m fun i j => Value.int IntKind.u8 (f (0 + i))).at),
                     Value.int IntKind.u8
                       (IntKind.u8.wrap
                         (rdN (Rw.gen m fun i j => Value.int IntKind.u8 (f (0 + i))).n
                           (Rw.gen m fun i j => Value.int IntKind.u8 (f (0 + i))).at)),
                     Value.int IntKind.u8
                       (IntKind.u8.wrap
                         ((rdN (Rw.gen m fun i j => Value.int IntKind.u8 (f (0 + i))).n
                               (Rw.gen m fun i j => Value.int IntKind.u8 (f (0 + i))).at).fdiv
                           256))]
                   5).cs))).at
       (Rw.gen
           ((rdS (Rw.gen m fun i j => Value.int IntKind.u8 (f (0 + i))).n
                 (Rw.gen m fun i j => Value.int IntKind.u8 (f (0 + i))).at).toNat -
             0)
           fun i j => Value.int IntKind.u8 (f (0 + i))).at) ==
   true, true),
 ((Rw.lst 3
           (List.take 3
             (List.drop 0
               (LO.cells
                   [Value.int IntKind.u8
                       (rdO (Rw.gen m fun i j => Value.int IntKind.u8 (f (0 + i))).n
                         (Rw.gen m fun i j => Value.int IntKind.u8 (f (0 + i))).at),
                     Value.int IntKind.u8
                       (IntKind.u8.wrap
                         (rdN (Rw.gen m fun i j => Value.int IntKind.u8 (f (0 + i))).n
                           (Rw.gen m fun i j => Value.int IntKind.u8 (f (0 + i))).at)),
                     Value.int IntKind.u8
                       (IntKind.u8.wrap
                         ((rdN (Rw.gen m fun i j => Value.int IntKind.u8 (f (0 + i))).n
                               (Rw.gen m fun i j => Value.int IntKind.u8 (f (0 + i))).at).fdiv
                           256))]
                   5).cs))).n.beq
     (Rw.gen
         ((rdS (Rw.gen m fun i j => Value.int IntKind.u8 (f (0 + i))).n
               (Rw.gen m fun i j => Value.int IntKind.u8 (f (0 + i))).at).toNat -
           0)
         fun i j => Value.int IntKind.u8 (f (0 + i))).n &&
   eqU
     (Rw.lst 3
         (List.take 3
           (List.drop 0
             (LO.cells
                 [Value.int IntKind.u8
                     (rdO (Rw.gen m fun i j => Value.int IntKind.u8 (f (0 + i))).n
                       (Rw.gen m fun i j => Value.int IntKind.u8 (f (0 + i))).at),
                   Value.int IntKind.u8
                     (IntKind.u8.wrap
                       (rdN (Rw.gen m fun i j => Value.int IntKind.u8 (f (0 + i))).n
                         (Rw.gen m fun i j => Value.int IntKind.u8 (f (0 + i))).at)),
                   Value.int IntKind.u8
                     (IntKind.u8.wrap
                       ((rdN (Rw.gen m fun i j => Value.int IntKind.u8 (f (0 + i))).n
                             (Rw.gen m fun i j => Value.int IntKind.u8 (f (0 + i))).at).fdiv
                         256))]
                 5).cs))).n
     (Rw.lst 3
         (List.take 3
           (List.drop 0
             (LO.cells
                 [Value.int IntKind.u8
                     (rdO (Rw.gen m fun i j => Value.int IntKind.u8 (f (0 + i))).n
                       (Rw.gen m fun i j => Value.int IntKind.u8 (f (0 + i))).at),
                   Value.int IntKind.u8
                     (IntKind.u8.wrap
                       (rdN (Rw.gen m fun i j => Value.int IntKind.u8 (f (0 + i))).n
                         (Rw.gen m fun i j => Value.int IntKind.u8 (f (0 + i))).at)),
                   Value.int IntKind.u8
                     (IntKind.u8.wrap
                       ((rdN (Rw.gen m fun i j => Value.int IntKind.u8 (f (0 + i))).n
                             (Rw.gen m fun i j => Value.int IntKind.u8 (f (0 + i))).at).fdiv
                         256))]
                 5).cs))).at
     (Rw.gen
         ((rdS (Rw.gen m fun i j => Value.int IntKind.u8 (f (0 + i))).n
               (Rw.gen m fun i j => Value.int IntKind.u8 (f (0 + i))).at).toNat -
           0)
         fun i j => Value.int IntKind.u8 (f (0 + i))).at, true)], Value.bool true) := by kernel_rfl
theorem b6nR0 (op : Int) (n : Int) : (Ly.run (lctx) 20000 [(1, true), (0, true)] (Ly.start Try.f6
  [Value.int IntKind.u8 op, Value.int IntKind.u16 n, Value.slice none 0 0]
  H0)).out? = some ([(inb op && (decide (0 ≤ n) && decide (n ≤ 65535)), true),
 (sizeT op == 0, true)], Value.bool true) := by kernel_rfl
theorem b6nR2 (op : Int) (n : Int) : (Ly.run (lctx) 20000 [(1, true), (0, false), (0, true), (0, true), (6, true), (0, true), (0, true), (0, true), (0, true), (0, false), (0, true), (0, true), (0, true), (0, true), (0, false), (0, true), (0, true), (0, true), (0, true), (0, false), (0, false)] (Ly.start
  Try.f6 [Value.int IntKind.u8 op, Value.int IntKind.u16 n, Value.slice none 0 0]
  H0)).out? = some ([(inb op && (decide (0 ≤ n) && decide (n ≤ 65535)), true),
 (sizeT op == 0, false),
 (sizeT op == 1, true),
 (n == 0, true),
 (true &&
   (true &&
     (rdP (Rw.lst 1 (List.take 1 (List.drop 0 (LO.row [Value.int IntKind.u8 op] 5 1).cs))).n
         (Rw.lst 1 (List.take 1 (List.drop 0 (LO.row [Value.int IntKind.u8 op] 5 1).cs))).at).fst), true),
 ((rdK (Rw.lst 1 (List.take 1 (List.drop 0 (LO.row [Value.int IntKind.u8 op] 5 1).cs))).n
       (Rw.lst 1 (List.take 1 (List.drop 0 (LO.row [Value.int IntKind.u8 op] 5 1).cs))).at !=
     0) ==
   false, true),
 ((rdK (Rw.lst 1 (List.take 1 (List.drop 0 (LO.row [Value.int IntKind.u8 op] 5 1).cs))).n
       (Rw.lst 1 (List.take 1 (List.drop 0 (LO.row [Value.int IntKind.u8 op] 5 1).cs))).at !=
     0) ==
   false, true),
 ((rdK (Rw.lst 1 (List.take 1 (List.drop 0 (LO.row [Value.int IntKind.u8 op] 5 1).cs))).n
       (Rw.lst 1 (List.take 1 (List.drop 0 (LO.row [Value.int IntKind.u8 op] 5 1).cs))).at !=
     0) ==
   false, true),
 ((rdK (Rw.lst 1 (List.take 1 (List.drop 0 (LO.row [Value.int IntKind.u8 op] 5 1).cs))).n
       (Rw.lst 1 (List.take 1 (List.drop 0 (LO.row [Value.int IntKind.u8 op] 5 1).cs))).at !=
     0) ==
   false, true),
 (rdK (Rw.lst 1 (List.take 1 (List.drop 0 (LO.row [Value.int IntKind.u8 op] 5 1).cs))).n
     (Rw.lst 1 (List.take 1 (List.drop 0 (LO.row [Value.int IntKind.u8 op] 5 1).cs))).at !=
   0, false),
 ((rdO (Rw.lst 1 (List.take 1 (List.drop 0 (LO.row [Value.int IntKind.u8 op] 5 1).cs))).n
       (Rw.lst 1 (List.take 1 (List.drop 0 (LO.row [Value.int IntKind.u8 op] 5 1).cs))).at !=
     op) ==
   false, true),
 ((rdO (Rw.lst 1 (List.take 1 (List.drop 0 (LO.row [Value.int IntKind.u8 op] 5 1).cs))).n
       (Rw.lst 1 (List.take 1 (List.drop 0 (LO.row [Value.int IntKind.u8 op] 5 1).cs))).at !=
     op) ==
   false, true),
 ((rdO (Rw.lst 1 (List.take 1 (List.drop 0 (LO.row [Value.int IntKind.u8 op] 5 1).cs))).n
       (Rw.lst 1 (List.take 1 (List.drop 0 (LO.row [Value.int IntKind.u8 op] 5 1).cs))).at !=
     op) ==
   false, true),
 ((rdO (Rw.lst 1 (List.take 1 (List.drop 0 (LO.row [Value.int IntKind.u8 op] 5 1).cs))).n
       (Rw.lst 1 (List.take 1 (List.drop 0 (LO.row [Value.int IntKind.u8 op] 5 1).cs))).at !=
     op) ==
   false, true),
 (rdO (Rw.lst 1 (List.take 1 (List.drop 0 (LO.row [Value.int IntKind.u8 op] 5 1).cs))).n
     (Rw.lst 1 (List.take 1 (List.drop 0 (LO.row [Value.int IntKind.u8 op] 5 1).cs))).at !=
   op, false),
 ((rdN (Rw.lst 1 (List.take 1 (List.drop 0 (LO.row [Value.int IntKind.u8 op] 5 1).cs))).n
       (Rw.lst 1 (List.take 1 (List.drop 0 (LO.row [Value.int IntKind.u8 op] 5 1).cs))).at !=
     n) ==
   false, true),
 ((rdN (Rw.lst 1 (List.take 1 (List.drop 0 (LO.row [Value.int IntKind.u8 op] 5 1).cs))).n
       (Rw.lst 1 (List.take 1 (List.drop 0 (LO.row [Value.int IntKind.u8 op] 5 1).cs))).at !=
     n) ==
   false, true),
 ((rdN (Rw.lst 1 (List.take 1 (List.drop 0 (LO.row [Value.int IntKind.u8 op] 5 1).cs))).n
       (Rw.lst 1 (List.take 1 (List.drop 0 (LO.row [Value.int IntKind.u8 op] 5 1).cs))).at !=
     n) ==
   false, true),
 ((rdN (Rw.lst 1 (List.take 1 (List.drop 0 (LO.row [Value.int IntKind.u8 op] 5 1).cs))).n
       (Rw.lst 1 (List.take 1 (List.drop 0 (LO.row [Value.int IntKind.u8 op] 5 1).cs))).at !=
     n) ==
   false, true),
 (rdN (Rw.lst 1 (List.take 1 (List.drop 0 (LO.row [Value.int IntKind.u8 op] 5 1).cs))).n
     (Rw.lst 1 (List.take 1 (List.drop 0 (LO.row [Value.int IntKind.u8 op] 5 1).cs))).at !=
   n, false),
 (rdS (Rw.lst 1 (List.take 1 (List.drop 0 (LO.row [Value.int IntKind.u8 op] 5 1).cs))).n
     (Rw.lst 1 (List.take 1 (List.drop 0 (LO.row [Value.int IntKind.u8 op] 5 1).cs))).at !=
   1, false)], Value.bool true) := by kernel_rfl
theorem b6nR6 (op : Int) (n : Int) : (Ly.run (lctx) 20000 [(1, true), (0, false), (0, true), (0, false)] (Ly.start
  Try.f6 [Value.int IntKind.u8 op, Value.int IntKind.u16 n, Value.slice none 0 0]
  H0)).out? = some ([(inb op && (decide (0 ≤ n) && decide (n ≤ 65535)), true),
 (sizeT op == 0, false),
 (sizeT op == 1, true),
 (n == 0, false)], Value.bool true) := by kernel_rfl
theorem b6nR8 (op : Int) (n : Int) : (Ly.run (lctx) 20000 [(1, true), (0, false), (0, false), (0, true), (0, true), (6, true), (0, true), (0, true), (0, true), (0, true), (0, false), (0, true), (0, true), (0, true), (0, true), (0, false), (0, true), (0, true), (0, true), (0, true), (0, false), (0, false)] (Ly.start
  Try.f6 [Value.int IntKind.u8 op, Value.int IntKind.u16 n, Value.slice none 0 0]
  H0)).out? = some ([(inb op && (decide (0 ≤ n) && decide (n ≤ 65535)), true),
 (sizeT op == 0, false),
 (sizeT op == 1, false),
 (sizeT op == 2, true),
 (decide (n ≤ 255), true),
 (true &&
   (true &&
     (rdP
         (Rw.lst 2
             (List.take 2
               (List.drop 0 (LO.row [Value.int IntKind.u8 op, Value.int IntKind.u8 (IntKind.u8.wrap n)] 5 1).cs))).n
         (Rw.lst 2
             (List.take 2
               (List.drop 0
                 (LO.row [Value.int IntKind.u8 op, Value.int IntKind.u8 (IntKind.u8.wrap n)] 5 1).cs))).at).fst), true),
 ((rdK
       (Rw.lst 2
           (List.take 2
             (List.drop 0 (LO.row [Value.int IntKind.u8 op, Value.int IntKind.u8 (IntKind.u8.wrap n)] 5 1).cs))).n
       (Rw.lst 2
           (List.take 2
             (List.drop 0 (LO.row [Value.int IntKind.u8 op, Value.int IntKind.u8 (IntKind.u8.wrap n)] 5 1).cs))).at !=
     0) ==
   false, true),
 ((rdK
       (Rw.lst 2
           (List.take 2
             (List.drop 0 (LO.row [Value.int IntKind.u8 op, Value.int IntKind.u8 (IntKind.u8.wrap n)] 5 1).cs))).n
       (Rw.lst 2
           (List.take 2
             (List.drop 0 (LO.row [Value.int IntKind.u8 op, Value.int IntKind.u8 (IntKind.u8.wrap n)] 5 1).cs))).at !=
     0) ==
   false, true),
 ((rdK
       (Rw.lst 2
           (List.take 2
             (List.drop 0 (LO.row [Value.int IntKind.u8 op, Value.int IntKind.u8 (IntKind.u8.wrap n)] 5 1).cs))).n
       (Rw.lst 2
           (List.take 2
             (List.drop 0 (LO.row [Value.int IntKind.u8 op, Value.int IntKind.u8 (IntKind.u8.wrap n)] 5 1).cs))).at !=
     0) ==
   false, true),
 ((rdK
       (Rw.lst 2
           (List.take 2
             (List.drop 0 (LO.row [Value.int IntKind.u8 op, Value.int IntKind.u8 (IntKind.u8.wrap n)] 5 1).cs))).n
       (Rw.lst 2
           (List.take 2
             (List.drop 0 (LO.row [Value.int IntKind.u8 op, Value.int IntKind.u8 (IntKind.u8.wrap n)] 5 1).cs))).at !=
     0) ==
   false, true),
 (rdK
     (Rw.lst 2
         (List.take 2
           (List.drop 0 (LO.row [Value.int IntKind.u8 op, Value.int IntKind.u8 (IntKind.u8.wrap n)] 5 1).cs))).n
     (Rw.lst 2
         (List.take 2
           (List.drop 0 (LO.row [Value.int IntKind.u8 op, Value.int IntKind.u8 (IntKind.u8.wrap n)] 5 1).cs))).at !=
   0, false),
 ((rdO
       (Rw.lst 2
           (List.take 2
             (List.drop 0 (LO.row [Value.int IntKind.u8 op, Value.int IntKind.u8 (IntKind.u8.wrap n)] 5 1).cs))).n
       (Rw.lst 2
           (List.take 2
             (List.drop 0 (LO.row [Value.int IntKind.u8 op, Value.int IntKind.u8 (IntKind.u8.wrap n)] 5 1).cs))).at !=
     op) ==
   false, true),
 ((rdO
       (Rw.lst 2
           (List.take 2
             (List.drop 0 (LO.row [Value.int IntKind.u8 op, Value.int IntKind.u8 (IntKind.u8.wrap n)] 5 1).cs))).n
       (Rw.lst 2
           (List.take 2
             (List.drop 0 (LO.row [Value.int IntKind.u8 op, Value.int IntKind.u8 (IntKind.u8.wrap n)] 5 1).cs))).at !=
     op) ==
   false, true),
 ((rdO
       (Rw.lst 2
           (List.take 2
             (List.drop 0 (LO.row [Value.int IntKind.u8 op, Value.int IntKind.u8 (IntKind.u8.wrap n)] 5 1).cs))).n
       (Rw.lst 2
           (List.take 2
             (List.drop 0 (LO.row [Value.int IntKind.u8 op, Value.int IntKind.u8 (IntKind.u8.wrap n)] 5 1).cs))).at !=
     op) ==
   false, true),
 ((rdO
       (Rw.lst 2
           (List.take 2
             (List.drop 0 (LO.row [Value.int IntKind.u8 op, Value.int IntKind.u8 (IntKind.u8.wrap n)] 5 1).cs))).n
       (Rw.lst 2
           (List.take 2
             (List.drop 0 (LO.row [Value.int IntKind.u8 op, Value.int IntKind.u8 (IntKind.u8.wrap n)] 5 1).cs))).at !=
     op) ==
   false, true),
 (rdO
     (Rw.lst 2
         (List.take 2
           (List.drop 0 (LO.row [Value.int IntKind.u8 op, Value.int IntKind.u8 (IntKind.u8.wrap n)] 5 1).cs))).n
     (Rw.lst 2
         (List.take 2
           (List.drop 0 (LO.row [Value.int IntKind.u8 op, Value.int IntKind.u8 (IntKind.u8.wrap n)] 5 1).cs))).at !=
   op, false),
 ((rdN
       (Rw.lst 2
           (List.take 2
             (List.drop 0 (LO.row [Value.int IntKind.u8 op, Value.int IntKind.u8 (IntKind.u8.wrap n)] 5 1).cs))).n
       (Rw.lst 2
           (List.take 2
             (List.drop 0 (LO.row [Value.int IntKind.u8 op, Value.int IntKind.u8 (IntKind.u8.wrap n)] 5 1).cs))).at !=
     n) ==
   false, true),
 ((rdN
       (Rw.lst 2
           (List.take 2
             (List.drop 0 (LO.row [Value.int IntKind.u8 op, Value.int IntKind.u8 (IntKind.u8.wrap n)] 5 1).cs))).n
       (Rw.lst 2
           (List.take 2
             (List.drop 0 (LO.row [Value.int IntKind.u8 op, Value.int IntKind.u8 (IntKind.u8.wrap n)] 5 1).cs))).at !=
     n) ==
   false, true),
 ((rdN
       (Rw.lst 2
           (List.take 2
             (List.drop 0 (LO.row [Value.int IntKind.u8 op, Value.int IntKind.u8 (IntKind.u8.wrap n)] 5 1).cs))).n
       (Rw.lst 2
           (List.take 2
             (List.drop 0 (LO.row [Value.int IntKind.u8 op, Value.int IntKind.u8 (IntKind.u8.wrap n)] 5 1).cs))).at !=
     n) ==
   false, true),
 ((rdN
       (Rw.lst 2
           (List.take 2
             (List.drop 0 (LO.row [Value.int IntKind.u8 op, Value.int IntKind.u8 (IntKind.u8.wrap n)] 5 1).cs))).n
       (Rw.lst 2
           (List.take 2
             (List.drop 0 (LO.row [Value.int IntKind.u8 op, Value.int IntKind.u8 (IntKind.u8.wrap n)] 5 1).cs))).at !=
     n) ==
   false, true),
 (rdN
     (Rw.lst 2
         (List.take 2
           (List.drop 0 (LO.row [Value.int IntKind.u8 op, Value.int IntKind.u8 (IntKind.u8.wrap n)] 5 1).cs))).n
     (Rw.lst 2
         (List.take 2
           (List.drop 0 (LO.row [Value.int IntKind.u8 op, Value.int IntKind.u8 (IntKind.u8.wrap n)] 5 1).cs))).at !=
   n, false),
 (rdS
     (Rw.lst 2
         (List.take 2
           (List.drop 0 (LO.row [Value.int IntKind.u8 op, Value.int IntKind.u8 (IntKind.u8.wrap n)] 5 1).cs))).n
     (Rw.lst 2
         (List.take 2
           (List.drop 0 (LO.row [Value.int IntKind.u8 op, Value.int IntKind.u8 (IntKind.u8.wrap n)] 5 1).cs))).at !=
   2, false)], Value.bool true) := by kernel_rfl
theorem b6nR12 (op : Int) (n : Int) : (Ly.run (lctx) 20000 [(1, true), (0, false), (0, false), (0, true), (0, false)] (Ly.start
  Try.f6 [Value.int IntKind.u8 op, Value.int IntKind.u16 n, Value.slice none 0 0]
  H0)).out? = some ([(inb op && (decide (0 ≤ n) && decide (n ≤ 65535)), true),
 (sizeT op == 0, false),
 (sizeT op == 1, false),
 (sizeT op == 2, true),
 (decide (n ≤ 255), false)], Value.bool true) := by kernel_rfl
theorem b6nR14 (op : Int) (n : Int) : (Ly.run (lctx) 20000 [(1, true), (0, false), (0, false), (0, false), (0, true), (6, true), (0, true), (0, true), (0, true), (0, true), (0, false), (0, true), (0, true), (0, true), (0, true), (0, false), (0, true), (0, true), (0, true), (0, true), (0, false), (0, false)] (Ly.start
  Try.f6 [Value.int IntKind.u8 op, Value.int IntKind.u16 n, Value.slice none 0 0]
  H0)).out? = some ([(inb op && (decide (0 ≤ n) && decide (n ≤ 65535)), true),
 (sizeT op == 0, false),
 (sizeT op == 1, false),
 (sizeT op == 2, false),
 (sizeT op == 3, true),
 (true &&
   (true &&
     (rdP
         (Rw.lst 3
             (List.take 3
               (List.drop 0
                 (LO.row
                     [Value.int IntKind.u8 op, Value.int IntKind.u8 (IntKind.u8.wrap n),
                       Value.int IntKind.u8 (IntKind.u8.wrap (n.fdiv 256))]
                     5 1).cs))).n
         (Rw.lst 3
             (List.take 3
               (List.drop 0
                 (LO.row
                     [Value.int IntKind.u8 op, Value.int IntKind.u8 (IntKind.u8.wrap n),
                       Value.int IntKind.u8 (IntKind.u8.wrap (n.fdiv 256))]
                     5 1).cs))).at).fst), true),
 ((rdK
       (Rw.lst 3
           (List.take 3
             (List.drop 0
               (LO.row
                   [Value.int IntKind.u8 op, Value.int IntKind.u8 (IntKind.u8.wrap n),
                     Value.int IntKind.u8 (IntKind.u8.wrap (n.fdiv 256))]
                   5 1).cs))).n
       (Rw.lst 3
           (List.take 3
             (List.drop 0
               (LO.row
                   [Value.int IntKind.u8 op, Value.int IntKind.u8 (IntKind.u8.wrap n),
                     Value.int IntKind.u8 (IntKind.u8.wrap (n.fdiv 256))]
                   5 1).cs))).at !=
     0) ==
   false, true),
 ((rdK
       (Rw.lst 3
           (List.take 3
             (List.drop 0
               (LO.row
                   [Value.int IntKind.u8 op, Value.int IntKind.u8 (IntKind.u8.wrap n),
                     Value.int IntKind.u8 (IntKind.u8.wrap (n.fdiv 256))]
                   5 1).cs))).n
       (Rw.lst 3
           (List.take 3
             (List.drop 0
               (LO.row
                   [Value.int IntKind.u8 op, Value.int IntKind.u8 (IntKind.u8.wrap n),
                     Value.int IntKind.u8 (IntKind.u8.wrap (n.fdiv 256))]
                   5 1).cs))).at !=
     0) ==
   false, true),
 ((rdK
       (Rw.lst 3
           (List.take 3
             (List.drop 0
               (LO.row
                   [Value.int IntKind.u8 op, Value.int IntKind.u8 (IntKind.u8.wrap n),
                     Value.int IntKind.u8 (IntKind.u8.wrap (n.fdiv 256))]
                   5 1).cs))).n
       (Rw.lst 3
           (List.take 3
             (List.drop 0
               (LO.row
                   [Value.int IntKind.u8 op, Value.int IntKind.u8 (IntKind.u8.wrap n),
                     Value.int IntKind.u8 (IntKind.u8.wrap (n.fdiv 256))]
                   5 1).cs))).at !=
     0) ==
   false, true),
 ((rdK
       (Rw.lst 3
           (List.take 3
             (List.drop 0
               (LO.row
                   [Value.int IntKind.u8 op, Value.int IntKind.u8 (IntKind.u8.wrap n),
                     Value.int IntKind.u8 (IntKind.u8.wrap (n.fdiv 256))]
                   5 1).cs))).n
       (Rw.lst 3
           (List.take 3
             (List.drop 0
               (LO.row
                   [Value.int IntKind.u8 op, Value.int IntKind.u8 (IntKind.u8.wrap n),
                     Value.int IntKind.u8 (IntKind.u8.wrap (n.fdiv 256))]
                   5 1).cs))).at !=
     0) ==
   false, true),
 (rdK
     (Rw.lst 3
         (List.take 3
           (List.drop 0
             (LO.row
                 [Value.int IntKind.u8 op, Value.int IntKind.u8 (IntKind.u8.wrap n),
                   Value.int IntKind.u8 (IntKind.u8.wrap (n.fdiv 256))]
                 5 1).cs))).n
     (Rw.lst 3
         (List.take 3
           (List.drop 0
             (LO.row
                 [Value.int IntKind.u8 op, Value.int IntKind.u8 (IntKind.u8.wrap n),
                   Value.int IntKind.u8 (IntKind.u8.wrap (n.fdiv 256))]
                 5 1).cs))).at !=
   0, false),
 ((rdO
       (Rw.lst 3
           (List.take 3
             (List.drop 0
               (LO.row
                   [Value.int IntKind.u8 op, Value.int IntKind.u8 (IntKind.u8.wrap n),
                     Value.int IntKind.u8 (IntKind.u8.wrap (n.fdiv 256))]
                   5 1).cs))).n
       (Rw.lst 3
           (List.take 3
             (List.drop 0
               (LO.row
                   [Value.int IntKind.u8 op, Value.int IntKind.u8 (IntKind.u8.wrap n),
                     Value.int IntKind.u8 (IntKind.u8.wrap (n.fdiv 256))]
                   5 1).cs))).at !=
     op) ==
   false, true),
 ((rdO
       (Rw.lst 3
           (List.take 3
             (List.drop 0
               (LO.row
                   [Value.int IntKind.u8 op, Value.int IntKind.u8 (IntKind.u8.wrap n),
                     Value.int IntKind.u8 (IntKind.u8.wrap (n.fdiv 256))]
                   5 1).cs))).n
       (Rw.lst 3
           (List.take 3
             (List.drop 0
               (LO.row
                   [Value.int IntKind.u8 op, Value.int IntKind.u8 (IntKind.u8.wrap n),
                     Value.int IntKind.u8 (IntKind.u8.wrap (n.fdiv 256))]
                   5 1).cs))).at !=
     op) ==
   false, true),
 ((rdO
       (Rw.lst 3
           (List.take 3
             (List.drop 0
               (LO.row
                   [Value.int IntKind.u8 op, Value.int IntKind.u8 (IntKind.u8.wrap n),
                     Value.int IntKind.u8 (IntKind.u8.wrap (n.fdiv 256))]
                   5 1).cs))).n
       (Rw.lst 3
           (List.take 3
             (List.drop 0
               (LO.row
                   [Value.int IntKind.u8 op, Value.int IntKind.u8 (IntKind.u8.wrap n),
                     Value.int IntKind.u8 (IntKind.u8.wrap (n.fdiv 256))]
                   5 1).cs))).at !=
     op) ==
   false, true),
 ((rdO
       (Rw.lst 3
           (List.take 3
             (List.drop 0
               (LO.row
                   [Value.int IntKind.u8 op, Value.int IntKind.u8 (IntKind.u8.wrap n),
                     Value.int IntKind.u8 (IntKind.u8.wrap (n.fdiv 256))]
                   5 1).cs))).n
       (Rw.lst 3
           (List.take 3
             (List.drop 0
               (LO.row
                   [Value.int IntKind.u8 op, Value.int IntKind.u8 (IntKind.u8.wrap n),
                     Value.int IntKind.u8 (IntKind.u8.wrap (n.fdiv 256))]
                   5 1).cs))).at !=
     op) ==
   false, true),
 (rdO
     (Rw.lst 3
         (List.take 3
           (List.drop 0
             (LO.row
                 [Value.int IntKind.u8 op, Value.int IntKind.u8 (IntKind.u8.wrap n),
                   Value.int IntKind.u8 (IntKind.u8.wrap (n.fdiv 256))]
                 5 1).cs))).n
     (Rw.lst 3
         (List.take 3
           (List.drop 0
             (LO.row
                 [Value.int IntKind.u8 op, Value.int IntKind.u8 (IntKind.u8.wrap n),
                   Value.int IntKind.u8 (IntKind.u8.wrap (n.fdiv 256))]
                 5 1).cs))).at !=
   op, false),
 ((rdN
       (Rw.lst 3
           (List.take 3
             (List.drop 0
               (LO.row
                   [Value.int IntKind.u8 op, Value.int IntKind.u8 (IntKind.u8.wrap n),
                     Value.int IntKind.u8 (IntKind.u8.wrap (n.fdiv 256))]
                   5 1).cs))).n
       (Rw.lst 3
           (List.take 3
             (List.drop 0
               (LO.row
                   [Value.int IntKind.u8 op, Value.int IntKind.u8 (IntKind.u8.wrap n),
                     Value.int IntKind.u8 (IntKind.u8.wrap (n.fdiv 256))]
                   5 1).cs))).at !=
     n) ==
   false, true),
 ((rdN
       (Rw.lst 3
           (List.take 3
             (List.drop 0
               (LO.row
                   [Value.int IntKind.u8 op, Value.int IntKind.u8 (IntKind.u8.wrap n),
                     Value.int IntKind.u8 (IntKind.u8.wrap (n.fdiv 256))]
                   5 1).cs))).n
       (Rw.lst 3
           (List.take 3
             (List.drop 0
               (LO.row
                   [Value.int IntKind.u8 op, Value.int IntKind.u8 (IntKind.u8.wrap n),
                     Value.int IntKind.u8 (IntKind.u8.wrap (n.fdiv 256))]
                   5 1).cs))).at !=
     n) ==
   false, true),
 ((rdN
       (Rw.lst 3
           (List.take 3
             (List.drop 0
               (LO.row
                   [Value.int IntKind.u8 op, Value.int IntKind.u8 (IntKind.u8.wrap n),
                     Value.int IntKind.u8 (IntKind.u8.wrap (n.fdiv 256))]
                   5 1).cs))).n
       (Rw.lst 3
           (List.take 3
             (List.drop 0
               (LO.row
                   [Value.int IntKind.u8 op, Value.int IntKind.u8 (IntKind.u8.wrap n),
                     Value.int IntKind.u8 (IntKind.u8.wrap (n.fdiv 256))]
                   5 1).cs))).at !=
     n) ==
   false, true),
 ((rdN
       (Rw.lst 3
           (List.take 3
             (List.drop 0
               (LO.row
                   [Value.int IntKind.u8 op, Value.int IntKind.u8 (IntKind.u8.wrap n),
                     Value.int IntKind.u8 (IntKind.u8.wrap (n.fdiv 256))]
                   5 1).cs))).n
       (Rw.lst 3
           (List.take 3
             (List.drop 0
               (LO.row
                   [Value.int IntKind.u8 op, Value.int IntKind.u8 (IntKind.u8.wrap n),
                     Value.int IntKind.u8 (IntKind.u8.wrap (n.fdiv 256))]
                   5 1).cs))).at !=
     n) ==
   false, true),
 (rdN
     (Rw.lst 3
         (List.take 3
           (List.drop 0
             (LO.row
                 [Value.int IntKind.u8 op, Value.int IntKind.u8 (IntKind.u8.wrap n),
                   Value.int IntKind.u8 (IntKind.u8.wrap (n.fdiv 256))]
                 5 1).cs))).n
     (Rw.lst 3
         (List.take 3
           (List.drop 0
             (LO.row
                 [Value.int IntKind.u8 op, Value.int IntKind.u8 (IntKind.u8.wrap n),
                   Value.int IntKind.u8 (IntKind.u8.wrap (n.fdiv 256))]
                 5 1).cs))).at !=
   n, false),
 (rdS
     (Rw.lst 3
         (List.take 3
           (List.drop 0
             (LO.row
                 [Value.int IntKind.u8 op, Value.int IntKind.u8 (IntKind.u8.wrap n),
                   Value.int IntKind.u8 (IntKind.u8.wrap (n.fdiv 256))]
                 5 1).cs))).n
     (Rw.lst 3
         (List.take 3
           (List.drop 0
             (LO.row
                 [Value.int IntKind.u8 op, Value.int IntKind.u8 (IntKind.u8.wrap n),
                   Value.int IntKind.u8 (IntKind.u8.wrap (n.fdiv 256))]
                 5 1).cs))).at !=
   3, false)], Value.bool true) := by kernel_rfl
theorem b6xR0 (op : Int) (n : Int) (m : Nat) (f : Nat →
  Int) : (Ly.run (lctx) 20000 [(0, true)] (Ly.start Try.f6 [Value.int IntKind.u8 op, Value.int IntKind.u16 n, sl 0 m]
  (mkH [some (ints IntKind.u8 f m)]))).out? = some ([(decide (1000 < (m : Int)), true)], Value.bool true) := by kernel_rfl
end Go.Proofs.Ytofimkcfenemlaa
