/- What 'Bytes' and 'Read' answer, in the program and in the reference: one closed form. -/
import Derived.Test.YtofimkcfenemlaaSk
import Derived.Laws.BitsAllLaws
import Derived.Laws.BitsLemmas
namespace Go.Proofs.Ytofimkcfenemlaa
open Go Go.Ly Go.RowKit
set_option linter.unusedVariables false
set_option linter.unusedSimpArgs false
theorem bp0R0 (op : Int) (n : Int) : ((Ly.run (sctx
  0) 20000 [(1, true)] (Ly.start Try.f17 [Value.agg { toList := [Value.int IntKind.u8 op, Value.int IntKind.u16 n] }]
  H0)).end?.map fun x => (x.1, x.2.1, x.2.2.next, x.2.2.get 1)) = some ([(inb op &&
   sizeT op ==
     0, true)], Value.tuple
  {
    toList :=
      [Value.slice none 0 0,
        Value.int IntKind.i64
          8] }, 2, some (LO.cells
  [Value.int IntKind.u8 op, Value.int IntKind.u8 (IntKind.u8.wrap n),
    Value.int IntKind.u8 (IntKind.u8.wrap (n.fdiv 256))]
  5)) := by kernel_rfl
theorem br0R0 (op : Int) (n : Int) : (Ly.run (sctx
  0) 20000 [(0, true)] (Ly.start Try.f18 [Value.int IntKind.u8 op, Value.int IntKind.u16 n]
  H0)).out? = some ([(inb op &&
   sizeT op == 0, true)], Value.tuple { toList := [Value.slice none 0 0, Value.int IntKind.i64 8] }) := by kernel_rfl
theorem rp0R0 (m : Nat) (f : Nat →
  Int) : (Ly.run (sctx
  0) 20000 [(0, true)] (Ly.start Try.f19 [sl 0 m]
  (mkH
    [some
        (ints IntKind.u8 f
          m)]))).out? = some ([((m : Int) ==
   0, true)], Value.tuple
  {
    toList :=
      [Value.agg { toList := [Value.int IntKind.u8 0, Value.int IntKind.u16 0] }, Value.int IntKind.i64 0,
        Value.int IntKind.i64 2] }) := by kernel_rfl
theorem rp0R1 (m : Nat) (f : Nat →
  Int) : (Ly.run (sctx
  0) 20000 [(0, false), (0, true), (0, true), (0, true)] (Ly.start Try.f19 [sl 0 m]
  (mkH
    [some
        (ints IntKind.u8 f
          m)]))).out? = some ([((m : Int) == 0, false),
 (true && decide (0 < (m : Int)), true),
 (Nat.blt 0 m, true),
 (inb (f 0) &&
   sizeT (f 0) ==
     0, true)], Value.tuple
  {
    toList :=
      [Value.agg { toList := [Value.int IntKind.u8 0, Value.int IntKind.u16 0] }, Value.int IntKind.i64 0,
        Value.int IntKind.i64 8] }) := by kernel_rfl
theorem rr0R0 (m : Nat) (f : Nat →
  Int) : (Ly.run (sctx
  0) 20000 [(0, true)] (Ly.start Try.f20 [sl 0 m]
  (mkH
    [some
        (ints IntKind.u8 f
          m)]))).out? = some ([((m : Int) ==
   0, true)], Value.tuple
  {
    toList :=
      [Value.int IntKind.u8 0, Value.int IntKind.u16 0, Value.int IntKind.i64 0,
        Value.int IntKind.i64 2] }) := by kernel_rfl
theorem rr0R1 (m : Nat) (f : Nat →
  Int) : (Ly.run (sctx
  0) 20000 [(0, false), (0, true), (0, true), (0, true)] (Ly.start Try.f20 [sl 0 m]
  (mkH
    [some
        (ints IntKind.u8 f
          m)]))).out? = some ([((m : Int) == 0, false),
 (true && decide (0 < (m : Int)), true),
 (Nat.blt 0 m, true),
 (inb (f 0) &&
   sizeT (f 0) ==
     0, true)], Value.tuple
  {
    toList :=
      [Value.int IntKind.u8 0, Value.int IntKind.u16 0, Value.int IntKind.i64 0,
        Value.int IntKind.i64 8] }) := by kernel_rfl
theorem bp1R0 (op : Int) (n : Int) : ((Ly.run (sctx
  1) 20000 [(1, true), (7, true), (0, true)] (Ly.start Try.f17
  [Value.agg { toList := [Value.int IntKind.u8 op, Value.int IntKind.u16 n] }]
  H0)).end?.map fun x => (x.1, x.2.1, x.2.2.next, x.2.2.get 1)) = some ([(inb op && sizeT op == 1, true),
 (n.fdiv 256 != 0, true),
 (n.fdiv 256 !=
   0, true)], Value.tuple
  {
    toList :=
      [Value.slice none 0 0,
        Value.int IntKind.i64
          5] }, 2, some (LO.cells
  [Value.int IntKind.u8 op, Value.int IntKind.u8 (IntKind.u8.wrap n),
    Value.int IntKind.u8 (IntKind.u8.wrap (n.fdiv 256))]
  5)) := by kernel_rfl
theorem bp1R1 (op : Int) (n : Int) : ((Ly.run (sctx
  1) 20000 [(1, true), (7, false), (4, true)] (Ly.start Try.f17
  [Value.agg { toList := [Value.int IntKind.u8 op, Value.int IntKind.u16 n] }]
  H0)).end?.map fun x => (x.1, x.2.1, x.2.2.next, x.2.2.get 1)) = some ([(inb op && sizeT op == 1, true),
 (n.fdiv 256 != 0, false),
 (n !=
   0, true)], Value.tuple
  {
    toList :=
      [Value.slice none 0 0,
        Value.int IntKind.i64
          5] }, 2, some (LO.cells
  [Value.int IntKind.u8 op, Value.int IntKind.u8 (IntKind.u8.wrap n),
    Value.int IntKind.u8 (IntKind.u8.wrap (n.fdiv 256))]
  5)) := by kernel_rfl
theorem bp1R2 (op : Int) (n : Int) : ((Ly.run (sctx
  1) 20000 [(1, true), (7, false), (4, false)] (Ly.start Try.f17
  [Value.agg { toList := [Value.int IntKind.u8 op, Value.int IntKind.u16 n] }]
  H0)).end?.map fun x => (x.1, x.2.1, x.2.2.next, x.2.2.get 1)) = some ([(inb op && sizeT op == 1, true),
 (n.fdiv 256 != 0, false),
 (n !=
   0, false)], Value.tuple
  {
    toList :=
      [Value.slice (some { block := 1, off := 0 }) 1 1,
        Value.int IntKind.i64
          0] }, 2, some (LO.cells
  [Value.int IntKind.u8 op, Value.int IntKind.u8 (IntKind.u8.wrap n),
    Value.int IntKind.u8 (IntKind.u8.wrap (n.fdiv 256))]
  5)) := by kernel_rfl
theorem br1R0 (op : Int) (n : Int) : (Ly.run (sctx
  1) 20000 [(0, true), (2, true)] (Ly.start Try.f18 [Value.int IntKind.u8 op, Value.int IntKind.u16 n]
  H0)).out? = some ([(inb op && sizeT op == 1, true),
 (n != 0, true)], Value.tuple { toList := [Value.slice none 0 0, Value.int IntKind.i64 5] }) := by kernel_rfl
theorem br1R1 (op : Int) (n : Int) : ((Ly.run (sctx
  1) 20000 [(0, true), (2, false)] (Ly.start Try.f18 [Value.int IntKind.u8 op, Value.int IntKind.u16 n]
  H0)).end?.map fun x => (x.1, x.2.1, x.2.2.next, x.2.2.get 0)) = some ([(inb op && sizeT op == 1, true),
 (n !=
   0, false)], Value.tuple
  {
    toList :=
      [Value.slice (some { block := 0, off := 0 }) 1 1,
        Value.int IntKind.i64 0] }, 1, some (LO.cells [Value.int IntKind.u8 op] 5)) := by kernel_rfl
theorem rp1R0 (m : Nat) (f : Nat →
  Int) : (Ly.run (sctx
  1) 20000 [(0, true)] (Ly.start Try.f19 [sl 0 m]
  (mkH
    [some
        (ints IntKind.u8 f
          m)]))).out? = some ([((m : Int) ==
   0, true)], Value.tuple
  {
    toList :=
      [Value.agg { toList := [Value.int IntKind.u8 0, Value.int IntKind.u16 0] }, Value.int IntKind.i64 0,
        Value.int IntKind.i64 2] }) := by kernel_rfl
theorem rp1R1 (m : Nat) (f : Nat →
  Int) : (Ly.run (sctx
  1) 20000 [(0, false), (0, true), (0, true), (0, true), (1, true)] (Ly.start Try.f19 [sl 0 m]
  (mkH
    [some
        (ints IntKind.u8 f
          m)]))).out? = some ([((m : Int) == 0, false),
 (true && decide (0 < (m : Int)), true),
 (Nat.blt 0 m, true),
 (inb (f 0) && sizeT (f 0) == 1, true),
 (decide
   ((m : Int) <
     1), true)], Value.tuple
  {
    toList :=
      [Value.agg { toList := [Value.int IntKind.u8 0, Value.int IntKind.u16 0] }, Value.int IntKind.i64 0,
        Value.int IntKind.i64 2] }) := by kernel_rfl
theorem rp1R2 (m : Nat) (f : Nat →
  Int) : (Ly.run (sctx
  1) 20000 [(0, false), (0, true), (0, true), (0, true), (1, false), (1, true), (0, true)] (Ly.start Try.f19 [sl 0 m]
  (mkH
    [some
        (ints IntKind.u8 f
          m)]))).out? = some ([((m : Int) == 0, false),
 (true && decide (0 < (m : Int)), true),
 (Nat.blt 0 m, true),
 (inb (f 0) && sizeT (f 0) == 1, true),
 (decide ((m : Int) < 1), false),
 (true && decide (0 < (m : Int)), true),
 (Nat.blt 0
   m, true)], Value.tuple
  {
    toList :=
      [Value.agg { toList := [Value.int IntKind.u8 (f 0), Value.int IntKind.u16 0] }, Value.int IntKind.i64 1,
        Value.int IntKind.i64 0] }) := by kernel_rfl
theorem rr1R0 (m : Nat) (f : Nat →
  Int) : (Ly.run (sctx
  1) 20000 [(0, true)] (Ly.start Try.f20 [sl 0 m]
  (mkH
    [some
        (ints IntKind.u8 f
          m)]))).out? = some ([((m : Int) ==
   0, true)], Value.tuple
  {
    toList :=
      [Value.int IntKind.u8 0, Value.int IntKind.u16 0, Value.int IntKind.i64 0,
        Value.int IntKind.i64 2] }) := by kernel_rfl
theorem rr1R1 (m : Nat) (f : Nat →
  Int) : (Ly.run (sctx
  1) 20000 [(0, false), (0, true), (0, true), (0, true), (1, true)] (Ly.start Try.f20 [sl 0 m]
  (mkH
    [some
        (ints IntKind.u8 f
          m)]))).out? = some ([((m : Int) == 0, false),
 (true && decide (0 < (m : Int)), true),
 (Nat.blt 0 m, true),
 (inb (f 0) && sizeT (f 0) == 1, true),
 (decide
   ((m : Int) <
     1), true)], Value.tuple
  {
    toList :=
      [Value.int IntKind.u8 0, Value.int IntKind.u16 0, Value.int IntKind.i64 0,
        Value.int IntKind.i64 2] }) := by kernel_rfl
theorem rr1R2 (m : Nat) (f : Nat →
  Int) : (Ly.run (sctx
  1) 20000 [(0, false), (0, true), (0, true), (0, true), (1, false), (2, true), (0, true)] (Ly.start Try.f20 [sl 0 m]
  (mkH
    [some
        (ints IntKind.u8 f
          m)]))).out? = some ([((m : Int) == 0, false),
 (true && decide (0 < (m : Int)), true),
 (Nat.blt 0 m, true),
 (inb (f 0) && sizeT (f 0) == 1, true),
 (decide ((m : Int) < 1), false),
 (true && decide (0 < (m : Int)), true),
 (Nat.blt 0
   m, true)], Value.tuple
  {
    toList :=
      [Value.int IntKind.u8 (f 0), Value.int IntKind.u16 0, Value.int IntKind.i64 1,
        Value.int IntKind.i64 0] }) := by kernel_rfl
theorem bp2R0 (op : Int) (n : Int) : ((Ly.run (sctx
  2) 20000 [(1, true), (7, true), (0, true)] (Ly.start Try.f17
  [Value.agg { toList := [Value.int IntKind.u8 op, Value.int IntKind.u16 n] }]
  H0)).end?.map fun x => (x.1, x.2.1, x.2.2.next, x.2.2.get 1)) = some ([(inb op && sizeT op == 2, true),
 (n.fdiv 256 != 0, true),
 (n.fdiv 256 !=
   0, true)], Value.tuple
  {
    toList :=
      [Value.slice none 0 0,
        Value.int IntKind.i64
          5] }, 2, some (LO.cells
  [Value.int IntKind.u8 op, Value.int IntKind.u8 (IntKind.u8.wrap n),
    Value.int IntKind.u8 (IntKind.u8.wrap (n.fdiv 256))]
  5)) := by kernel_rfl
theorem bp2R1 (op : Int) (n : Int) : ((Ly.run (sctx
  2) 20000 [(1, true), (7, false)] (Ly.start Try.f17
  [Value.agg { toList := [Value.int IntKind.u8 op, Value.int IntKind.u16 n] }]
  H0)).end?.map fun x => (x.1, x.2.1, x.2.2.next, x.2.2.get 1)) = some ([(inb op && sizeT op == 2, true),
 (n.fdiv 256 !=
   0, false)], Value.tuple
  {
    toList :=
      [Value.slice (some { block := 1, off := 0 }) 2 2,
        Value.int IntKind.i64
          0] }, 2, some (LO.cells
  [Value.int IntKind.u8 op, Value.int IntKind.u8 (IntKind.u8.wrap n),
    Value.int IntKind.u8 (IntKind.u8.wrap (n.fdiv 256))]
  5)) := by kernel_rfl
theorem br2R0 (op : Int) (n : Int) : (Ly.run (sctx
  2) 20000 [(0, true), (3, true)] (Ly.start Try.f18 [Value.int IntKind.u8 op, Value.int IntKind.u16 n]
  H0)).out? = some ([(inb op && sizeT op == 2, true),
 (decide (255 < n), true)], Value.tuple { toList := [Value.slice none 0 0, Value.int IntKind.i64 5] }) := by kernel_rfl
theorem br2R1 (op : Int) (n : Int) : ((Ly.run (sctx
  2) 20000 [(0, true), (3, false)] (Ly.start Try.f18 [Value.int IntKind.u8 op, Value.int IntKind.u16 n]
  H0)).end?.map fun x => (x.1, x.2.1, x.2.2.next, x.2.2.get 0)) = some ([(inb op && sizeT op == 2, true),
 (decide
   (255 <
     n), false)], Value.tuple
  {
    toList :=
      [Value.slice (some { block := 0, off := 0 }) 2 2,
        Value.int IntKind.i64
          0] }, 1, some (LO.cells [Value.int IntKind.u8 op, Value.int IntKind.u8 (IntKind.u8.wrap n)]
  5)) := by kernel_rfl
theorem rp2R0 (m : Nat) (f : Nat →
  Int) : (Ly.run (sctx
  2) 20000 [(0, true)] (Ly.start Try.f19 [sl 0 m]
  (mkH
    [some
        (ints IntKind.u8 f
          m)]))).out? = some ([((m : Int) ==
   0, true)], Value.tuple
  {
    toList :=
      [Value.agg { toList := [Value.int IntKind.u8 0, Value.int IntKind.u16 0] }, Value.int IntKind.i64 0,
        Value.int IntKind.i64 2] }) := by kernel_rfl
theorem rp2R1 (m : Nat) (f : Nat →
  Int) : (Ly.run (sctx
  2) 20000 [(0, false), (0, true), (0, true), (0, true), (1, true)] (Ly.start Try.f19 [sl 0 m]
  (mkH
    [some
        (ints IntKind.u8 f
          m)]))).out? = some ([((m : Int) == 0, false),
 (true && decide (0 < (m : Int)), true),
 (Nat.blt 0 m, true),
 (inb (f 0) && sizeT (f 0) == 2, true),
 (decide
   ((m : Int) <
     2), true)], Value.tuple
  {
    toList :=
      [Value.agg { toList := [Value.int IntKind.u8 0, Value.int IntKind.u16 0] }, Value.int IntKind.i64 0,
        Value.int IntKind.i64 2] }) := by kernel_rfl
theorem rp2R2 (m : Nat) (f : Nat →
  Int) : (Ly.run (sctx
  2) 20000 [(0, false), (0, true), (0, true), (0, true), (1, false), (2, true), (0, true), (1, true), (0, true)] (Ly.start
  Try.f19 [sl 0 m]
  (mkH
    [some
        (ints IntKind.u8 f
          m)]))).out? = some ([((m : Int) == 0, false),
 (true && decide (0 < (m : Int)), true),
 (Nat.blt 0 m, true),
 (inb (f 0) && sizeT (f 0) == 2, true),
 (decide ((m : Int) < 2), false),
 (true && decide (1 < (m : Int)), true),
 (Nat.blt 1 m, true),
 (true && decide (0 < (m : Int)), true),
 (Nat.blt 0
   m, true)], Value.tuple
  {
    toList :=
      [Value.agg
          {
            toList :=
              [Value.int IntKind.u8 (f 0),
                Value.int IntKind.u16 (bits BinOp.or IntKind.u16 0 (IntKind.u16.wrap (f 1)))] },
        Value.int IntKind.i64 2, Value.int IntKind.i64 0] }) := by kernel_rfl
theorem rr2R0 (m : Nat) (f : Nat →
  Int) : (Ly.run (sctx
  2) 20000 [(0, true)] (Ly.start Try.f20 [sl 0 m]
  (mkH
    [some
        (ints IntKind.u8 f
          m)]))).out? = some ([((m : Int) ==
   0, true)], Value.tuple
  {
    toList :=
      [Value.int IntKind.u8 0, Value.int IntKind.u16 0, Value.int IntKind.i64 0,
        Value.int IntKind.i64 2] }) := by kernel_rfl
theorem rr2R1 (m : Nat) (f : Nat →
  Int) : (Ly.run (sctx
  2) 20000 [(0, false), (0, true), (0, true), (0, true), (1, true)] (Ly.start Try.f20 [sl 0 m]
  (mkH
    [some
        (ints IntKind.u8 f
          m)]))).out? = some ([((m : Int) == 0, false),
 (true && decide (0 < (m : Int)), true),
 (Nat.blt 0 m, true),
 (inb (f 0) && sizeT (f 0) == 2, true),
 (decide
   ((m : Int) <
     2), true)], Value.tuple
  {
    toList :=
      [Value.int IntKind.u8 0, Value.int IntKind.u16 0, Value.int IntKind.i64 0,
        Value.int IntKind.i64 2] }) := by kernel_rfl
theorem rr2R2 (m : Nat) (f : Nat →
  Int) : (Ly.run (sctx
  2) 20000 [(0, false), (0, true), (0, true), (0, true), (1, false), (1, true), (0, true), (1, true), (0, true)] (Ly.start
  Try.f20 [sl 0 m]
  (mkH
    [some
        (ints IntKind.u8 f
          m)]))).out? = some ([((m : Int) == 0, false),
 (true && decide (0 < (m : Int)), true),
 (Nat.blt 0 m, true),
 (inb (f 0) && sizeT (f 0) == 2, true),
 (decide ((m : Int) < 2), false),
 (true && decide (1 < (m : Int)), true),
 (Nat.blt 1 m, true),
 (true && decide (0 < (m : Int)), true),
 (Nat.blt 0
   m, true)], Value.tuple
  {
    toList :=
      [Value.int IntKind.u8 (f 0), Value.int IntKind.u16 (IntKind.u16.wrap (f 1)), Value.int IntKind.i64 2,
        Value.int IntKind.i64 0] }) := by kernel_rfl
theorem bp3R0 (op : Int) (n : Int) : ((Ly.run (sctx
  3) 20000 [(1, true)] (Ly.start Try.f17 [Value.agg { toList := [Value.int IntKind.u8 op, Value.int IntKind.u16 n] }]
  H0)).end?.map fun x => (x.1, x.2.1, x.2.2.next, x.2.2.get 1)) = some ([(inb op &&
   sizeT op ==
     3, true)], Value.tuple
  {
    toList :=
      [Value.slice (some { block := 1, off := 0 }) 3 3,
        Value.int IntKind.i64
          0] }, 2, some (LO.cells
  [Value.int IntKind.u8 op, Value.int IntKind.u8 (IntKind.u8.wrap n),
    Value.int IntKind.u8 (IntKind.u8.wrap (n.fdiv 256))]
  5)) := by kernel_rfl
theorem br3R0 (op : Int) (n : Int) : ((Ly.run (sctx
  3) 20000 [(0, true)] (Ly.start Try.f18 [Value.int IntKind.u8 op, Value.int IntKind.u16 n]
  H0)).end?.map fun x => (x.1, x.2.1, x.2.2.next, x.2.2.get 0)) = some ([(inb op &&
   sizeT op ==
     3, true)], Value.tuple
  {
    toList :=
      [Value.slice (some { block := 0, off := 0 }) 3 3,
        Value.int IntKind.i64
          0] }, 1, some (LO.cells
  [Value.int IntKind.u8 op, Value.int IntKind.u8 (IntKind.u8.wrap (bits BinOp.and IntKind.u16 n 255)),
    Value.int IntKind.u8 (IntKind.u8.wrap (n.fdiv 256))]
  5)) := by kernel_rfl
theorem rp3R0 (m : Nat) (f : Nat →
  Int) : (Ly.run (sctx
  3) 20000 [(0, true)] (Ly.start Try.f19 [sl 0 m]
  (mkH
    [some
        (ints IntKind.u8 f
          m)]))).out? = some ([((m : Int) ==
   0, true)], Value.tuple
  {
    toList :=
      [Value.agg { toList := [Value.int IntKind.u8 0, Value.int IntKind.u16 0] }, Value.int IntKind.i64 0,
        Value.int IntKind.i64 2] }) := by kernel_rfl
theorem rp3R1 (m : Nat) (f : Nat →
  Int) : (Ly.run (sctx
  3) 20000 [(0, false), (0, true), (0, true), (0, true), (1, true)] (Ly.start Try.f19 [sl 0 m]
  (mkH
    [some
        (ints IntKind.u8 f
          m)]))).out? = some ([((m : Int) == 0, false),
 (true && decide (0 < (m : Int)), true),
 (Nat.blt 0 m, true),
 (inb (f 0) && sizeT (f 0) == 3, true),
 (decide
   ((m : Int) <
     3), true)], Value.tuple
  {
    toList :=
      [Value.agg { toList := [Value.int IntKind.u8 0, Value.int IntKind.u16 0] }, Value.int IntKind.i64 0,
        Value.int IntKind.i64 2] }) := by kernel_rfl
theorem rp3R2 (m : Nat) (f : Nat →
  Int) : (Ly.run (sctx
  3) 20000 [(0, false), (0, true), (0, true), (0, true), (1, false), (2, true), (0, true), (2, true), (0, true), (1, true), (0, true)] (Ly.start
  Try.f19 [sl 0 m]
  (mkH
    [some
        (ints IntKind.u8 f
          m)]))).out? = some ([((m : Int) == 0, false),
 (true && decide (0 < (m : Int)), true),
 (Nat.blt 0 m, true),
 (inb (f 0) && sizeT (f 0) == 3, true),
 (decide ((m : Int) < 3), false),
 (true && decide (2 < (m : Int)), true),
 (Nat.blt 2 m, true),
 (true && decide (1 < (m : Int)), true),
 (Nat.blt 1 m, true),
 (true && decide (0 < (m : Int)), true),
 (Nat.blt 0
   m, true)], Value.tuple
  {
    toList :=
      [Value.agg
          {
            toList :=
              [Value.int IntKind.u8 (f 0),
                Value.int IntKind.u16
                  (bits BinOp.or IntKind.u16
                    (IntKind.u16.wrap (bits BinOp.or IntKind.u16 0 (IntKind.u16.wrap (f 2)) * 256))
                    (IntKind.u16.wrap (f 1)))] },
        Value.int IntKind.i64 3, Value.int IntKind.i64 0] }) := by kernel_rfl
theorem rr3R0 (m : Nat) (f : Nat →
  Int) : (Ly.run (sctx
  3) 20000 [(0, true)] (Ly.start Try.f20 [sl 0 m]
  (mkH
    [some
        (ints IntKind.u8 f
          m)]))).out? = some ([((m : Int) ==
   0, true)], Value.tuple
  {
    toList :=
      [Value.int IntKind.u8 0, Value.int IntKind.u16 0, Value.int IntKind.i64 0,
        Value.int IntKind.i64 2] }) := by kernel_rfl
theorem rr3R1 (m : Nat) (f : Nat →
  Int) : (Ly.run (sctx
  3) 20000 [(0, false), (0, true), (0, true), (0, true), (1, true)] (Ly.start Try.f20 [sl 0 m]
  (mkH
    [some
        (ints IntKind.u8 f
          m)]))).out? = some ([((m : Int) == 0, false),
 (true && decide (0 < (m : Int)), true),
 (Nat.blt 0 m, true),
 (inb (f 0) && sizeT (f 0) == 3, true),
 (decide
   ((m : Int) <
     3), true)], Value.tuple
  {
    toList :=
      [Value.int IntKind.u8 0, Value.int IntKind.u16 0, Value.int IntKind.i64 0,
        Value.int IntKind.i64 2] }) := by kernel_rfl
theorem rr3R2 (m : Nat) (f : Nat →
  Int) : (Ly.run (sctx
  3) 20000 [(0, false), (0, true), (0, true), (0, true), (1, false), (1, true), (0, true), (1, true), (0, true), (0, true), (0, true)] (Ly.start
  Try.f20 [sl 0 m]
  (mkH
    [some
        (ints IntKind.u8 f
          m)]))).out? = some ([((m : Int) == 0, false),
 (true && decide (0 < (m : Int)), true),
 (Nat.blt 0 m, true),
 (inb (f 0) && sizeT (f 0) == 3, true),
 (decide ((m : Int) < 3), false),
 (true && decide (1 < (m : Int)), true),
 (Nat.blt 1 m, true),
 (true && decide (2 < (m : Int)), true),
 (Nat.blt 2 m, true),
 (true && decide (0 < (m : Int)), true),
 (Nat.blt 0
   m, true)], Value.tuple
  {
    toList :=
      [Value.int IntKind.u8 (f 0),
        Value.int IntKind.u16
          (IntKind.u16.wrap (IntKind.u16.wrap (f 1) + IntKind.u16.wrap (IntKind.u16.wrap (f 2) * 256))),
        Value.int IntKind.i64 3, Value.int IntKind.i64 0] }) := by kernel_rfl
theorem rpnR0 (x : Int) : (Ly.run (sctx
  0) 20000 [] (Ly.start Try.f19 [Value.slice none 0 0]
  (mkH
    []))).out? = some ([], Value.tuple
  {
    toList :=
      [Value.agg { toList := [Value.int IntKind.u8 0, Value.int IntKind.u16 0] }, Value.int IntKind.i64 0,
        Value.int IntKind.i64 2] }) := by kernel_rfl
theorem rrnR0 (x : Int) : (Ly.run (sctx
  0) 20000 [] (Ly.start Try.f20 [Value.slice none 0 0]
  (mkH
    []))).out? = some ([], Value.tuple
  {
    toList :=
      [Value.int IntKind.u8 0, Value.int IntKind.u16 0, Value.int IntKind.i64 0,
        Value.int IntKind.i64 2] }) := by kernel_rfl

theorem size_cases (op : Int) (h0 : 0 ≤ op) (h1 : op ≤ 255) : sizeT op = 0 ∨ sizeT op = 1 ∨ sizeT op = 2 ∨ sizeT op = 3 :=
  byte_all (p := fun op => sizeT op = 0 ∨ sizeT op = 1 ∨ sizeT op = 2 ∨ sizeT op = 3) (by decide +kernel) op h0 h1
/-! ### Read -/
noncomputable def rdF (n : Nat) (f : Nat → Int) : Bool := Nat.beq n 0 || (sizeT (f 0) == 0 || decide ((n : Int) < sizeT (f 0)))
noncomputable def rdO (n : Nat) (f : Nat → Int) : Int := bif rdF n f then 0 else f 0
noncomputable def rdN (n : Nat) (f : Nat → Int) : Int := bif rdF n f then 0 else bif sizeT (f 0) == 1 then 0 else bif sizeT (f 0) == 2 then f 1 else f 1 + 256 * f 2
noncomputable def rdS (n : Nat) (f : Nat → Int) : Int := bif rdF n f then 0 else sizeT (f 0)
noncomputable def rdK (n : Nat) (f : Nat → Int) : Int := bif Nat.beq n 0 then 2 else bif sizeT (f 0) == 0 then 8 else bif decide ((n : Int) < sizeT (f 0)) then 2 else 0
noncomputable def rdG (n : Nat) (f : Nat → Int) : Bool := bif Nat.beq n 0 then true else inb (f 0) && ((bif Nat.blt 1 n then inb (f 1) else true) && (bif Nat.blt 2 n then inb (f 2) else true))
noncomputable def rdP (n : Nat) (f : Nat → Int) : Bool × Value := (rdG n f, .tuple ⟨[.agg ⟨[.int .u8 (rdO n f), .int .u16 (rdN n f)]⟩, .int .i64 (rdS n f), .int .i64 (rdK n f)]⟩)
noncomputable def rdR (n : Nat) (f : Nat → Int) : Bool × Value := (rdG n f, .tuple ⟨[.int .u8 (rdO n f), .int .u16 (rdN n f), .int .i64 (rdS n f), .int .i64 (rdK n f)]⟩)
theorem or0 (b : Int) (h0 : 0 ≤ b) (h1 : b ≤ 255) : bits .or .u16 0 (IntKind.u16.wrap b) = b :=
  byte_all (p := fun b => bits .or .u16 0 (IntKind.u16.wrap b) = b) (by decide +kernel) b h0 h1
theorem or8 (a b : Int) (ha : 0 ≤ a) (ha' : a ≤ 255) (hb : 0 ≤ b) (hb' : b ≤ 255) : bits .or .u16 (IntKind.u16.wrap (a * 256)) (IntKind.u16.wrap b) = b + 256 * a := by
  have e1 : IntKind.u16.wrap (a * 256) = a * 256 := by rw [IntKind.wrap_u16]; omega
  have e2 : IntKind.u16.wrap b = b := by rw [IntKind.wrap_u16]; omega
  rw [e1, e2]
  obtain ⟨x, rfl⟩ := Int.eq_ofNat_of_zero_le ha
  obtain ⟨y, rfl⟩ := Int.eq_ofNat_of_zero_le hb
  have h3 : (BitVec.ofInt 16 ((x : Int) * 256)).toNat = x * 256 := by rw [BitVec.toNat_ofInt]; omega
  have h4 : (BitVec.ofInt 16 (y : Int)).toNat = y := by rw [BitVec.toNat_ofInt]; omega
  have h5 : x * 256 ||| y = x * 256 + y := by
    have := Nat.shiftLeft_add_eq_or_of_lt (show y < 2 ^ 8 by omega) x
    rw [Nat.shiftLeft_eq] at this
    exact this.symm
  show IntKind.u16.wrap ((BitVec.ofInt 16 ((x : Int) * 256) ||| BitVec.ofInt 16 (y : Int)).toNat : Nat) = _
  rw [BitVec.toNat_or, h3, h4, h5, IntKind.wrap_u16]
  omega
theorem sget (k : Int) (f : Nat) (g : Func) (h : env.bare.fn.get f = some g) : (sctx k).fn.get f = some g := h
theorem get17 : env.bare.fn.get 17 = some Try.f17 := by kernel_rfl
theorem get18 : env.bare.fn.get 18 = some Try.f18 := by kernel_rfl
theorem get19 : env.bare.fn.get 19 = some Try.f19 := by kernel_rfl
theorem get20 : env.bare.fn.get 20 = some Try.f20 := by kernel_rfl
theorem rdG_in {n : Nat} {f : Nat → Int} (h : rdG n f = true) (e : Nat) (he : e < n) (h3 : e < 3) : 0 ≤ f e ∧ f e ≤ 255 := by
  unfold rdG at h
  have hn : Nat.beq n 0 = false := by rcases n with _ | n; omega; rfl
  rw [hn] at h
  simp only [cond_false, Bool.and_eq_true] at h
  obtain ⟨h1, h2, h4⟩ := h
  have b1 : 1 < n → inb (f 1) = true := fun hh => by rw [show Nat.blt 1 n = true by simpa [Nat.blt_eq] using hh] at h2; exact h2
  have b2 : 2 < n → inb (f 2) = true := fun hh => by rw [show Nat.blt 2 n = true by simpa [Nat.blt_eq] using hh] at h4; exact h4
  rcases e with _ | _ | _ | e
  · exact (inb_iff _).1 h1
  · exact (inb_iff _).1 (b1 he)
  · exact (inb_iff _).1 (b2 he)
  · omega
theorem rp_S (n : Nat) (f : Nat → Int) (h : (rdP n f).1 = true) : LCalls Try.prog 19 [sl 0 n] (mkH [some (ints .u8 f n)]) (fun u _ => u = (rdP n f).2) := by
  have hG : rdG n f = true := h
  by_cases hn : n = 0
  · subst hn
    exact (LCalls_trust (sok 0) 20000 _ (sget 0 19 _ get19) (by kernel_rfl) (rp0R0 0 f) (by simp [trusted] <;> omega)).mono (by rintro v H rfl; rfl)
  · have hb := rdG_in hG
    have h0 := hb 0 (by omega) (by omega)
    have n0 : ((n : Int) == 0) = false := by simpa using hn
    have n1 : (0 : Int) < n := by omega
    have n2 : Nat.blt 0 n = true := by rw [Nat.blt_eq]; omega
    have n3 : Nat.beq n 0 = false := by rcases n with _ | n; exact absurd rfl hn; rfl
    have i0 : inb (f 0) = true := (inb_iff _).2 h0
    rcases size_cases (f 0) h0.1 h0.2 with hs | hs | hs | hs
    · refine (LCalls_trust (sok 0) 20000 _ (sget 0 19 _ get19) (by kernel_rfl) (rp0R1 n f) (by simp [trusted, n0, n1, n2, i0, hs] <;> omega)).mono ?_
      rintro v H rfl
      simp [rdP, rdO, rdN, rdS, rdK, rdF, n3, hs]
    · by_cases hl : (n : Int) < 1
      · refine (LCalls_trust (sok 1) 20000 _ (sget 1 19 _ get19) (by kernel_rfl) (rp1R1 n f) (by simp [trusted, n0, n1, n2, i0, hs, hl] <;> omega)).mono ?_
        rintro v H rfl
        simp [rdP, rdO, rdN, rdS, rdK, rdF, n3, hs, hl]
      · have m1 : True := by trivial
        have m2 : True := by trivial
        have m3 : True := by trivial
        have m4 : True := by trivial
        refine (LCalls_trust (sok 1) 20000 _ (sget 1 19 _ get19) (by kernel_rfl) (rp1R2 n f) (by simp [trusted, n0, n1, n2, i0, hs, hl, m1, m2, m3, m4] <;> omega)).mono ?_
        rintro v H rfl
        simp [rdP, rdO, rdN, rdS, rdK, rdF, n3, hs, hl]
    · by_cases hl : (n : Int) < 2
      · refine (LCalls_trust (sok 2) 20000 _ (sget 2 19 _ get19) (by kernel_rfl) (rp2R1 n f) (by simp [trusted, n0, n1, n2, i0, hs, hl] <;> omega)).mono ?_
        rintro v H rfl
        simp [rdP, rdO, rdN, rdS, rdK, rdF, n3, hs, hl]
      · have m1 : (1 : Int) < n := by omega
        have m2 : True := by trivial
        have m3 : Nat.blt 1 n = true := by rw [Nat.blt_eq]; omega
        have m4 : True := by trivial
        refine (LCalls_trust (sok 2) 20000 _ (sget 2 19 _ get19) (by kernel_rfl) (rp2R2 n f) (by simp [trusted, n0, n1, n2, i0, hs, hl, m1, m2, m3, m4] <;> omega)).mono ?_
        rintro v H rfl
        have h1 := hb 1 (by omega) (by omega)
        have e1 := or0 (f 1) h1.1 h1.2
        have e2 : IntKind.u16.wrap (f 1) = f 1 := by rw [IntKind.wrap_u16]; omega
        rw [e2] at e1
        simp [rdP, rdO, rdN, rdS, rdK, rdF, n3, hs, hl, e1, e2]
    · by_cases hl : (n : Int) < 3
      · refine (LCalls_trust (sok 3) 20000 _ (sget 3 19 _ get19) (by kernel_rfl) (rp3R1 n f) (by simp [trusted, n0, n1, n2, i0, hs, hl] <;> omega)).mono ?_
        rintro v H rfl
        simp [rdP, rdO, rdN, rdS, rdK, rdF, n3, hs, hl]
      · have m1 : (1 : Int) < n := by omega
        have m2 : (2 : Int) < n := by omega
        have m3 : Nat.blt 1 n = true := by rw [Nat.blt_eq]; omega
        have m4 : Nat.blt 2 n = true := by rw [Nat.blt_eq]; omega
        refine (LCalls_trust (sok 3) 20000 _ (sget 3 19 _ get19) (by kernel_rfl) (rp3R2 n f) (by simp [trusted, n0, n1, n2, i0, hs, hl, m1, m2, m3, m4] <;> omega)).mono ?_
        rintro v H rfl
        have h1 := hb 1 (by omega) (by omega)
        have h2 := hb 2 (by omega) (by omega)
        have e0 := or0 (f 2) h2.1 h2.2
        have e1 := or8 (f 2) (f 1) h2.1 h2.2 h1.1 h1.2
        have e2 : IntKind.u16.wrap (IntKind.u16.wrap (f 1) + IntKind.u16.wrap (IntKind.u16.wrap (f 2) * 256)) = f 1 + 256 * f 2 := by simp only [IntKind.wrap_u16]; omega
        simp [rdP, rdO, rdN, rdS, rdK, rdF, n3, hs, hl, e0, e1, e2]
theorem rp_N (p : Nat → Int) : LCalls Try.prog 19 [.slice none 0 0] (mkH []) (fun u _ => u = (rdP 0 p).2) :=
  (LCalls_trust (sok 0) 20000 _ (sget 0 19 _ get19) (by kernel_rfl) (rpnR0 0) trivial).mono (by rintro v H rfl; rfl)
theorem rp_con : ∀ args ρ args' w H, VRL ρ args args' → Rep ρ H w → ConGood Try.prog 19 args' w (con1 .u8 rdP H args) :=
  con1_good (fun n p => by simp [rdP, plain, plainL]) rp_S rp_N
theorem rr_S (n : Nat) (f : Nat → Int) (h : (rdR n f).1 = true) : LCalls Try.prog 20 [sl 0 n] (mkH [some (ints .u8 f n)]) (fun u _ => u = (rdR n f).2) := by
  have hG : rdG n f = true := h
  by_cases hn : n = 0
  · subst hn
    exact (LCalls_trust (sok 0) 20000 _ (sget 0 20 _ get20) (by kernel_rfl) (rr0R0 0 f) (by simp [trusted] <;> omega)).mono (by rintro v H rfl; rfl)
  · have hb := rdG_in hG
    have h0 := hb 0 (by omega) (by omega)
    have n0 : ((n : Int) == 0) = false := by simpa using hn
    have n1 : (0 : Int) < n := by omega
    have n2 : Nat.blt 0 n = true := by rw [Nat.blt_eq]; omega
    have n3 : Nat.beq n 0 = false := by rcases n with _ | n; exact absurd rfl hn; rfl
    have i0 : inb (f 0) = true := (inb_iff _).2 h0
    rcases size_cases (f 0) h0.1 h0.2 with hs | hs | hs | hs
    · refine (LCalls_trust (sok 0) 20000 _ (sget 0 20 _ get20) (by kernel_rfl) (rr0R1 n f) (by simp [trusted, n0, n1, n2, i0, hs] <;> omega)).mono ?_
      rintro v H rfl
      simp [rdR, rdO, rdN, rdS, rdK, rdF, n3, hs]
    · by_cases hl : (n : Int) < 1
      · refine (LCalls_trust (sok 1) 20000 _ (sget 1 20 _ get20) (by kernel_rfl) (rr1R1 n f) (by simp [trusted, n0, n1, n2, i0, hs, hl] <;> omega)).mono ?_
        rintro v H rfl
        simp [rdR, rdO, rdN, rdS, rdK, rdF, n3, hs, hl]
      · have m1 : True := by trivial
        have m2 : True := by trivial
        have m3 : True := by trivial
        have m4 : True := by trivial
        refine (LCalls_trust (sok 1) 20000 _ (sget 1 20 _ get20) (by kernel_rfl) (rr1R2 n f) (by simp [trusted, n0, n1, n2, i0, hs, hl, m1, m2, m3, m4] <;> omega)).mono ?_
        rintro v H rfl
        simp [rdR, rdO, rdN, rdS, rdK, rdF, n3, hs, hl]
    · by_cases hl : (n : Int) < 2
      · refine (LCalls_trust (sok 2) 20000 _ (sget 2 20 _ get20) (by kernel_rfl) (rr2R1 n f) (by simp [trusted, n0, n1, n2, i0, hs, hl] <;> omega)).mono ?_
        rintro v H rfl
        simp [rdR, rdO, rdN, rdS, rdK, rdF, n3, hs, hl]
      · have m1 : (1 : Int) < n := by omega
        have m2 : True := by trivial
        have m3 : Nat.blt 1 n = true := by rw [Nat.blt_eq]; omega
        have m4 : True := by trivial
        refine (LCalls_trust (sok 2) 20000 _ (sget 2 20 _ get20) (by kernel_rfl) (rr2R2 n f) (by simp [trusted, n0, n1, n2, i0, hs, hl, m1, m2, m3, m4] <;> omega)).mono ?_
        rintro v H rfl
        have h1 := hb 1 (by omega) (by omega)
        have e1 := or0 (f 1) h1.1 h1.2
        have e2 : IntKind.u16.wrap (f 1) = f 1 := by rw [IntKind.wrap_u16]; omega
        simp [rdR, rdO, rdN, rdS, rdK, rdF, n3, hs, hl, e1, e2]
    · by_cases hl : (n : Int) < 3
      · refine (LCalls_trust (sok 3) 20000 _ (sget 3 20 _ get20) (by kernel_rfl) (rr3R1 n f) (by simp [trusted, n0, n1, n2, i0, hs, hl] <;> omega)).mono ?_
        rintro v H rfl
        simp [rdR, rdO, rdN, rdS, rdK, rdF, n3, hs, hl]
      · have m1 : (1 : Int) < n := by omega
        have m2 : (2 : Int) < n := by omega
        have m3 : Nat.blt 1 n = true := by rw [Nat.blt_eq]; omega
        have m4 : Nat.blt 2 n = true := by rw [Nat.blt_eq]; omega
        refine (LCalls_trust (sok 3) 20000 _ (sget 3 20 _ get20) (by kernel_rfl) (rr3R2 n f) (by simp [trusted, n0, n1, n2, i0, hs, hl, m1, m2, m3, m4] <;> omega)).mono ?_
        rintro v H rfl
        have h1 := hb 1 (by omega) (by omega)
        have h2 := hb 2 (by omega) (by omega)
        have e0 := or0 (f 2) h2.1 h2.2
        have e1 := or8 (f 2) (f 1) h2.1 h2.2 h1.1 h1.2
        have e2 : IntKind.u16.wrap (IntKind.u16.wrap (f 1) + IntKind.u16.wrap (IntKind.u16.wrap (f 2) * 256)) = f 1 + 256 * f 2 := by simp only [IntKind.wrap_u16]; omega
        simp [rdR, rdO, rdN, rdS, rdK, rdF, n3, hs, hl, e0, e1, e2]
theorem rr_N (p : Nat → Int) : LCalls Try.prog 20 [.slice none 0 0] (mkH []) (fun u _ => u = (rdR 0 p).2) :=
  (LCalls_trust (sok 0) 20000 _ (sget 0 20 _ get20) (by kernel_rfl) (rrnR0 0) trivial).mono (by rintro v H rfl; rfl)
theorem rr_con : ∀ args ρ args' w H, VRL ρ args args' → Rep ρ H w → ConGood Try.prog 20 args' w (con1 .u8 rdR H args) :=
  con1_good (fun n p => by simp [rdR, plain, plainL]) rr_S rr_N
/-! ### Bytes -/
noncomputable def nilK (k : Int) : Value := .tuple ⟨[.slice none 0 0, .int .i64 k]⟩
noncomputable def newK (r k : Nat) : Value := .tuple ⟨[.slice (some ⟨r, 0, none⟩) k k, .int .i64 0]⟩
noncomputable def bytesE (nx r : Nat) (c1 c2 c3 : Int → Int → List Value) (H : Heap) (op n : Int) : ER :=
  .tst (inb op && (decide (0 ≤ n) && decide (n ≤ 65535)))
    (.tst (sizeT op == 0) (.val (nilK 8))
    (.tst (sizeT op == 1) (.tst (n == 0) (freshE H nx r (c1 op n) 5 (newK r 1)) (.val (nilK 5)))
    (.tst (sizeT op == 2) (.tst (decide (n ≤ 255)) (freshE H nx r (c2 op n) 5 (newK r 2)) (.val (nilK 5)))
    (.tst (sizeT op == 3) (freshE H nx r (c3 op n) 5 (newK r 3)) .no)))) .no
noncomputable def bcP (op n : Int) : List Value := [.int .u8 op, .int .u8 (IntKind.u8.wrap n), .int .u8 (IntKind.u8.wrap (n.fdiv 256))]
noncomputable def bcR1 (op n : Int) : List Value := [.int .u8 op]
noncomputable def bcR2 (op n : Int) : List Value := [.int .u8 op, .int .u8 (IntKind.u8.wrap n)]
noncomputable def bcR3 (op n : Int) : List Value := [.int .u8 op, .int .u8 (IntKind.u8.wrap (bits .and .u16 n 255)), .int .u8 (IntKind.u8.wrap (n.fdiv 256))]
noncomputable def bytesP (H : Heap) (l : List Value) : ER := match l with
  | [.agg ⟨[.int .u8 op, .int .u16 n]⟩] => bytesE 2 1 bcP bcP bcP H op n
  | _ => .no
noncomputable def bytesR (H : Heap) (l : List Value) : ER := match l with
  | [.int .u8 op, .int .u16 n] => bytesE 1 0 bcR1 bcR2 bcR3 H op n
  | _ => .no
theorem fdiv256 (n : Int) : n.fdiv 256 = n / 256 := Int.fdiv_eq_ediv_of_nonneg _ (by omega)
theorem bp_good (H : Heap) (args : List Value) : HGood Try.prog 17 args H (bytesP H args) := by
  unfold bytesP
  split
  · rename_i op n
    unfold bytesE
    refine ⟨fun h => ?_, fun _ => trivial⟩
    simp only [Bool.and_eq_true, decide_eq_true_eq] at h
    obtain ⟨h1, h2, h3⟩ := h
    have hb := (inb_iff op).1 h1
    have fd := fdiv256 n
    refine ⟨fun e => ?_, fun e0 => ⟨fun e => ⟨fun z => ?_, fun z => ?_⟩, fun e1' => ⟨fun e => ⟨fun z => ?_, fun z => ?_⟩, fun e2' => ⟨fun e => ?_, fun _ => trivial⟩⟩⟩⟩
    · have e1 : sizeT op = 0 := by simpa using e
      exact HGood_val (by simp [plain, plainL]) (by simp [nilK, plain, plainL]) (fun w => calls_plain (plainL_VR _ (by simp [plain, plainL])) (fun ρ v' h => plain_eq (by simp [nilK, plain, plainL]) h) ((LCalls_end (sok 0) 20000 _ (sget 0 17 _ get17) (by kernel_rfl) (bp0R0 op n) (by simp [trusted, h1, e1, fd] <;> omega)).mono (by rintro v H ⟨rfl, _, _⟩; rfl)) w) H
    · have e1 : sizeT op = 1 := by simpa using e
      have z1 : n = 0 := by simpa using z
      have z2 : n / 256 = 0 := by omega
      exact freshE_good (by simp [plain, plainL]) (by omega) (by simp [bcP, bcP, bcP, plain, plainL]) (LCalls_end (sok 1) 20000 _ (sget 1 17 _ get17) (by kernel_rfl) (bp1R2 op n) (by simp [trusted, h1, e1, fd, z1] <;> omega)) H
    · have e1 : sizeT op = 1 := by simpa using e
      have z1 : n ≠ 0 := by simpa using z
      by_cases z2 : n / 256 = 0
      · exact HGood_val (by simp [plain, plainL]) (by simp [nilK, plain, plainL]) (fun w => calls_plain (plainL_VR _ (by simp [plain, plainL])) (fun ρ v' h => plain_eq (by simp [nilK, plain, plainL]) h) ((LCalls_end (sok 1) 20000 _ (sget 1 17 _ get17) (by kernel_rfl) (bp1R1 op n) (by simp [trusted, h1, e1, fd, z1, z2] <;> omega)).mono (by rintro v H ⟨rfl, _, _⟩; rfl)) w) H
      · exact HGood_val (by simp [plain, plainL]) (by simp [nilK, plain, plainL]) (fun w => calls_plain (plainL_VR _ (by simp [plain, plainL])) (fun ρ v' h => plain_eq (by simp [nilK, plain, plainL]) h) ((LCalls_end (sok 1) 20000 _ (sget 1 17 _ get17) (by kernel_rfl) (bp1R0 op n) (by simp [trusted, h1, e1, fd, z1, z2] <;> omega)).mono (by rintro v H ⟨rfl, _, _⟩; rfl)) w) H
    · have e1 : sizeT op = 2 := by simpa using e
      have z1 : n ≤ 255 := by simpa using z
      have z2 : n / 256 = 0 := by omega
      have z3 : ¬ 255 < n := by omega
      exact freshE_good (by simp [plain, plainL]) (by omega) (by simp [bcP, bcP, bcP, plain, plainL]) (LCalls_end (sok 2) 20000 _ (sget 2 17 _ get17) (by kernel_rfl) (bp2R1 op n) (by simp [trusted, h1, e1, fd, z2, z3] <;> omega)) H
    · have e1 : sizeT op = 2 := by simpa using e
      have z1 : ¬ n ≤ 255 := by simpa using z
      have z2 : n / 256 ≠ 0 := by omega
      have z3 : 255 < n := by omega
      exact HGood_val (by simp [plain, plainL]) (by simp [nilK, plain, plainL]) (fun w => calls_plain (plainL_VR _ (by simp [plain, plainL])) (fun ρ v' h => plain_eq (by simp [nilK, plain, plainL]) h) ((LCalls_end (sok 2) 20000 _ (sget 2 17 _ get17) (by kernel_rfl) (bp2R0 op n) (by simp [trusted, h1, e1, fd, z2, z3] <;> omega)).mono (by rintro v H ⟨rfl, _, _⟩; rfl)) w) H
    · have e1 : sizeT op = 3 := by simpa using e
      exact freshE_good (by simp [plain, plainL]) (by omega) (by simp [bcP, bcP, bcP, plain, plainL]) (LCalls_end (sok 3) 20000 _ (sget 3 17 _ get17) (by kernel_rfl) (bp3R0 op n) (by simp [trusted, h1, e1, fd] <;> omega)) H
  · exact trivial
theorem br_good (H : Heap) (args : List Value) : HGood Try.prog 18 args H (bytesR H args) := by
  unfold bytesR
  split
  · rename_i op n
    unfold bytesE
    refine ⟨fun h => ?_, fun _ => trivial⟩
    simp only [Bool.and_eq_true, decide_eq_true_eq] at h
    obtain ⟨h1, h2, h3⟩ := h
    have hb := (inb_iff op).1 h1
    have fd := fdiv256 n
    refine ⟨fun e => ?_, fun e0 => ⟨fun e => ⟨fun z => ?_, fun z => ?_⟩, fun e1' => ⟨fun e => ⟨fun z => ?_, fun z => ?_⟩, fun e2' => ⟨fun e => ?_, fun _ => trivial⟩⟩⟩⟩
    · have e1 : sizeT op = 0 := by simpa using e
      exact HGood_val (by simp [plain, plainL]) (by simp [nilK, plain, plainL]) (fun w => calls_plain (plainL_VR _ (by simp [plain, plainL])) (fun ρ v' h => plain_eq (by simp [nilK, plain, plainL]) h) ((LCalls_trust (sok 0) 20000 _ (sget 0 18 _ get18) (by kernel_rfl) (br0R0 op n) (by simp [trusted, h1, e1, fd] <;> omega)).mono (by rintro v H rfl; rfl)) w) H
    · have e1 : sizeT op = 1 := by simpa using e
      have z1 : n = 0 := by simpa using z
      have z2 : n / 256 = 0 := by omega
      exact freshE_good (by simp [plain, plainL]) (by omega) (by simp [bcR1, bcR2, bcR3, plain, plainL]) (LCalls_end (sok 1) 20000 _ (sget 1 18 _ get18) (by kernel_rfl) (br1R1 op n) (by simp [trusted, h1, e1, fd, z1] <;> omega)) H
    · have e1 : sizeT op = 1 := by simpa using e
      have z1 : n ≠ 0 := by simpa using z
      exact HGood_val (by simp [plain, plainL]) (by simp [nilK, plain, plainL]) (fun w => calls_plain (plainL_VR _ (by simp [plain, plainL])) (fun ρ v' h => plain_eq (by simp [nilK, plain, plainL]) h) ((LCalls_trust (sok 1) 20000 _ (sget 1 18 _ get18) (by kernel_rfl) (br1R0 op n) (by simp [trusted, h1, e1, z1] <;> omega)).mono (by rintro v H rfl; rfl)) w) H
    · have e1 : sizeT op = 2 := by simpa using e
      have z1 : n ≤ 255 := by simpa using z
      have z2 : n / 256 = 0 := by omega
      have z3 : ¬ 255 < n := by omega
      exact freshE_good (by simp [plain, plainL]) (by omega) (by simp [bcR1, bcR2, bcR3, plain, plainL]) (LCalls_end (sok 2) 20000 _ (sget 2 18 _ get18) (by kernel_rfl) (br2R1 op n) (by simp [trusted, h1, e1, fd, z2, z3] <;> omega)) H
    · have e1 : sizeT op = 2 := by simpa using e
      have z1 : ¬ n ≤ 255 := by simpa using z
      have z2 : n / 256 ≠ 0 := by omega
      have z3 : 255 < n := by omega
      exact HGood_val (by simp [plain, plainL]) (by simp [nilK, plain, plainL]) (fun w => calls_plain (plainL_VR _ (by simp [plain, plainL])) (fun ρ v' h => plain_eq (by simp [nilK, plain, plainL]) h) ((LCalls_trust (sok 2) 20000 _ (sget 2 18 _ get18) (by kernel_rfl) (br2R0 op n) (by simp [trusted, h1, e1, fd, z2, z3] <;> omega)).mono (by rintro v H rfl; rfl)) w) H
    · have e1 : sizeT op = 3 := by simpa using e
      exact freshE_good (by simp [plain, plainL]) (by omega) (by simp [bcR1, bcR2, bcR3, plain, plainL]) (LCalls_end (sok 3) 20000 _ (sget 3 18 _ get18) (by kernel_rfl) (br3R0 op n) (by simp [trusted, h1, e1, fd] <;> omega)) H
  · exact trivial
/-! ### the context of the laws -/
noncomputable def lctx : Ctx := ((((ictx.with 16 conAl).withH 17 bytesP).withH 18 bytesR).withC 19 (con1 .u8 rdP)).withC 20 (con1 .u8 rdR)
theorem lok : lctx.Ok Try.prog := ((((iok.with ans16).withH bp_good).withH br_good).withC rp_con).withC rr_con
end Go.Proofs.Ytofimkcfenemlaa
