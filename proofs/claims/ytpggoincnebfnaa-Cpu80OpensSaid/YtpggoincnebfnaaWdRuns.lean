/- What each function of this seat answers, leaf by leaf (printed by wip/tools/sx.sh from wip/word/cmds.txt, checked by the kernel). -/
import Derived.Test.YtpggoincnebfnaaWdC
import Derived.Test.YtpggoincnebfnaaLyV
namespace Go.Proofs.Ytpggoincnebfnaa
open Go Go.Ly Go.RowKit
set_option linter.unusedVariables false
noncomputable def add13FT0 (a : Int) (b : Int) : List (Bool × Bool) := [(decide
     (0 ≤
       IntKind.u8.wrap
         (IntKind.u64.wrap (IntKind.u64.wrap (IntKind.u64.wrap (0 + IntKind.u64.wrap a) + IntKind.u64.wrap b) + 0))) &&
   decide
     (IntKind.u8.wrap
         (IntKind.u64.wrap (IntKind.u64.wrap (IntKind.u64.wrap (0 + IntKind.u64.wrap a) + IntKind.u64.wrap b) + 0)) ≤
       255), true)]
noncomputable def add13FV0 (a : Int) (b : Int) : Value := Value.tuple
  {
    toList :=
      [Value.int IntKind.u8
          (IntKind.u8.wrap
            (IntKind.u64.wrap (IntKind.u64.wrap (IntKind.u64.wrap (0 + IntKind.u64.wrap a) + IntKind.u64.wrap b) + 0))),
        Value.agg
          {
            toList :=
              [Value.bool
                  (bits BinOp.and IntKind.u8
                      (IntKind.u8.wrap
                        (IntKind.u64.wrap
                          (IntKind.u64.wrap (IntKind.u64.wrap (0 + IntKind.u64.wrap a) + IntKind.u64.wrap b) + 0)))
                      128 !=
                    0),
                Value.bool
                  (IntKind.u8.wrap
                      (IntKind.u64.wrap
                        (IntKind.u64.wrap (IntKind.u64.wrap (0 + IntKind.u64.wrap a) + IntKind.u64.wrap b) + 0)) ==
                    0),
                Value.bool
                  (decide
                    (15 <
                      IntKind.u64.wrap
                        (IntKind.u64.wrap
                            (IntKind.u64.wrap (0 + IntKind.u64.wrap (bits BinOp.and IntKind.u8 a 15)) +
                              IntKind.u64.wrap (bits BinOp.and IntKind.u8 b 15)) +
                          0))),
                Value.bool
                  (par
                    (IntKind.u8.wrap
                      (IntKind.u64.wrap
                        (IntKind.u64.wrap (IntKind.u64.wrap (0 + IntKind.u64.wrap a) + IntKind.u64.wrap b) + 0)))),
                Value.bool
                  (decide
                    (255 <
                      IntKind.u64.wrap
                        (IntKind.u64.wrap (IntKind.u64.wrap (0 + IntKind.u64.wrap a) + IntKind.u64.wrap b) + 0)))] }] }
theorem add13FR0 (a : Int) (b : Int) : (Ly.run (wctx) 20000 [(16, true)] (Ly.start Try.f50 ([Value.int IntKind.u8 a,
  Value.int IntKind.u8 b, Value.bool false]) H0)).out? = some (add13FT0 a b, add13FV0 a b) := by kernel_rfl
noncomputable def add13TT0 (a : Int) (b : Int) : List (Bool × Bool) := [(decide
     (0 ≤
       IntKind.u8.wrap
         (IntKind.u64.wrap (IntKind.u64.wrap (IntKind.u64.wrap (0 + IntKind.u64.wrap a) + IntKind.u64.wrap b) + 1))) &&
   decide
     (IntKind.u8.wrap
         (IntKind.u64.wrap (IntKind.u64.wrap (IntKind.u64.wrap (0 + IntKind.u64.wrap a) + IntKind.u64.wrap b) + 1)) ≤
       255), true)]
noncomputable def add13TV0 (a : Int) (b : Int) : Value := Value.tuple
  {
    toList :=
      [Value.int IntKind.u8
          (IntKind.u8.wrap
            (IntKind.u64.wrap (IntKind.u64.wrap (IntKind.u64.wrap (0 + IntKind.u64.wrap a) + IntKind.u64.wrap b) + 1))),
        Value.agg
          {
            toList :=
              [Value.bool
                  (bits BinOp.and IntKind.u8
                      (IntKind.u8.wrap
                        (IntKind.u64.wrap
                          (IntKind.u64.wrap (IntKind.u64.wrap (0 + IntKind.u64.wrap a) + IntKind.u64.wrap b) + 1)))
                      128 !=
                    0),
                Value.bool
                  (IntKind.u8.wrap
                      (IntKind.u64.wrap
                        (IntKind.u64.wrap (IntKind.u64.wrap (0 + IntKind.u64.wrap a) + IntKind.u64.wrap b) + 1)) ==
                    0),
                Value.bool
                  (decide
                    (15 <
                      IntKind.u64.wrap
                        (IntKind.u64.wrap
                            (IntKind.u64.wrap (0 + IntKind.u64.wrap (bits BinOp.and IntKind.u8 a 15)) +
                              IntKind.u64.wrap (bits BinOp.and IntKind.u8 b 15)) +
                          1))),
                Value.bool
                  (par
                    (IntKind.u8.wrap
                      (IntKind.u64.wrap
                        (IntKind.u64.wrap (IntKind.u64.wrap (0 + IntKind.u64.wrap a) + IntKind.u64.wrap b) + 1)))),
                Value.bool
                  (decide
                    (255 <
                      IntKind.u64.wrap
                        (IntKind.u64.wrap (IntKind.u64.wrap (0 + IntKind.u64.wrap a) + IntKind.u64.wrap b) + 1)))] }] }
theorem add13TR0 (a : Int) (b : Int) : (Ly.run (wctx) 20000 [(16, true)] (Ly.start Try.f50 ([Value.int IntKind.u8 a,
  Value.int IntKind.u8 b, Value.bool true]) H0)).out? = some (add13TT0 a b, add13TV0 a b) := by kernel_rfl
noncomputable def add23FT0 (a : Int) (b : Int) : List (Bool × Bool) := [(decide
     (0 ≤
       IntKind.u8.wrap
         (bits BinOp.and IntKind.i64 (IntKind.i64.wrap (IntKind.i64.wrap (IntKind.i64.wrap a + IntKind.i64.wrap b) + 0))
           255)) &&
   decide
     (IntKind.u8.wrap
         (bits BinOp.and IntKind.i64 (IntKind.i64.wrap (IntKind.i64.wrap (IntKind.i64.wrap a + IntKind.i64.wrap b) + 0))
           255) ≤
       255), true)]
noncomputable def add23FV0 (a : Int) (b : Int) : Value := Value.tuple
  {
    toList :=
      [Value.int IntKind.u8
          (IntKind.u8.wrap
            (bits BinOp.and IntKind.i64
              (IntKind.i64.wrap (IntKind.i64.wrap (IntKind.i64.wrap a + IntKind.i64.wrap b) + 0)) 255)),
        Value.agg
          {
            toList :=
              [Value.bool
                  (decide
                    (128 ≤
                      IntKind.u8.wrap
                        (bits BinOp.and IntKind.i64
                          (IntKind.i64.wrap (IntKind.i64.wrap (IntKind.i64.wrap a + IntKind.i64.wrap b) + 0)) 255))),
                Value.bool
                  (IntKind.u8.wrap
                      (bits BinOp.and IntKind.i64
                        (IntKind.i64.wrap (IntKind.i64.wrap (IntKind.i64.wrap a + IntKind.i64.wrap b) + 0)) 255) ==
                    0),
                Value.bool
                  (decide
                    (15 <
                      IntKind.i64.wrap
                        (IntKind.i64.wrap ((IntKind.i64.wrap a).tmod 16 + (IntKind.i64.wrap b).tmod 16) + 0))),
                Value.bool
                  (par
                    (IntKind.u8.wrap
                      (bits BinOp.and IntKind.i64
                        (IntKind.i64.wrap (IntKind.i64.wrap (IntKind.i64.wrap a + IntKind.i64.wrap b) + 0)) 255))),
                Value.bool
                  (decide
                    (255 < IntKind.i64.wrap (IntKind.i64.wrap (IntKind.i64.wrap a + IntKind.i64.wrap b) + 0)))] }] }
theorem add23FR0 (a : Int) (b : Int) : (Ly.run (wctx) 20000 [(4, true)] (Ly.start Try.f67 ([Value.int IntKind.u8 a,
  Value.int IntKind.u8 b, Value.bool false]) H0)).out? = some (add23FT0 a b, add23FV0 a b) := by kernel_rfl
noncomputable def add23TT0 (a : Int) (b : Int) : List (Bool × Bool) := [(decide
     (0 ≤
       IntKind.u8.wrap
         (bits BinOp.and IntKind.i64 (IntKind.i64.wrap (IntKind.i64.wrap (IntKind.i64.wrap a + IntKind.i64.wrap b) + 1))
           255)) &&
   decide
     (IntKind.u8.wrap
         (bits BinOp.and IntKind.i64 (IntKind.i64.wrap (IntKind.i64.wrap (IntKind.i64.wrap a + IntKind.i64.wrap b) + 1))
           255) ≤
       255), true)]
noncomputable def add23TV0 (a : Int) (b : Int) : Value := Value.tuple
  {
    toList :=
      [Value.int IntKind.u8
          (IntKind.u8.wrap
            (bits BinOp.and IntKind.i64
              (IntKind.i64.wrap (IntKind.i64.wrap (IntKind.i64.wrap a + IntKind.i64.wrap b) + 1)) 255)),
        Value.agg
          {
            toList :=
              [Value.bool
                  (decide
                    (128 ≤
                      IntKind.u8.wrap
                        (bits BinOp.and IntKind.i64
                          (IntKind.i64.wrap (IntKind.i64.wrap (IntKind.i64.wrap a + IntKind.i64.wrap b) + 1)) 255))),
                Value.bool
                  (IntKind.u8.wrap
                      (bits BinOp.and IntKind.i64
                        (IntKind.i64.wrap (IntKind.i64.wrap (IntKind.i64.wrap a + IntKind.i64.wrap b) + 1)) 255) ==
                    0),
                Value.bool
                  (decide
                    (15 <
                      IntKind.i64.wrap
                        (IntKind.i64.wrap ((IntKind.i64.wrap a).tmod 16 + (IntKind.i64.wrap b).tmod 16) + 1))),
                Value.bool
                  (par
                    (IntKind.u8.wrap
                      (bits BinOp.and IntKind.i64
                        (IntKind.i64.wrap (IntKind.i64.wrap (IntKind.i64.wrap a + IntKind.i64.wrap b) + 1)) 255))),
                Value.bool
                  (decide
                    (255 < IntKind.i64.wrap (IntKind.i64.wrap (IntKind.i64.wrap a + IntKind.i64.wrap b) + 1)))] }] }
theorem add23TR0 (a : Int) (b : Int) : (Ly.run (wctx) 20000 [(4, true)] (Ly.start Try.f67 ([Value.int IntKind.u8 a,
  Value.int IntKind.u8 b, Value.bool true]) H0)).out? = some (add23TT0 a b, add23TV0 a b) := by kernel_rfl
noncomputable def sub24FT0 (a : Int) (b : Int) : List (Bool × Bool) := [(decide
     (0 ≤
       IntKind.u8.wrap
         (IntKind.u64.wrap
           (IntKind.u64.wrap
               (IntKind.u64.wrap (0 + IntKind.u64.wrap a) +
                 IntKind.u64.wrap (bits BinOp.xor IntKind.u8 (bif IntKind.u8.signed then -1 else IntKind.u8.max) b)) +
             1))) &&
   decide
     (IntKind.u8.wrap
         (IntKind.u64.wrap
           (IntKind.u64.wrap
               (IntKind.u64.wrap (0 + IntKind.u64.wrap a) +
                 IntKind.u64.wrap (bits BinOp.xor IntKind.u8 (bif IntKind.u8.signed then -1 else IntKind.u8.max) b)) +
             1)) ≤
       255), true)]
noncomputable def sub24FV0 (a : Int) (b : Int) : Value := Value.tuple
  {
    toList :=
      [Value.int IntKind.u8
          (IntKind.u8.wrap
            (IntKind.u64.wrap
              (IntKind.u64.wrap
                  (IntKind.u64.wrap (0 + IntKind.u64.wrap a) +
                    IntKind.u64.wrap
                      (bits BinOp.xor IntKind.u8 (bif IntKind.u8.signed then -1 else IntKind.u8.max) b)) +
                1))),
        Value.agg
          {
            toList :=
              [Value.bool
                  (bits BinOp.and IntKind.u8
                      (IntKind.u8.wrap
                        (IntKind.u64.wrap
                          (IntKind.u64.wrap
                              (IntKind.u64.wrap (0 + IntKind.u64.wrap a) +
                                IntKind.u64.wrap
                                  (bits BinOp.xor IntKind.u8 (bif IntKind.u8.signed then -1 else IntKind.u8.max) b)) +
                            1)))
                      128 !=
                    0),
                Value.bool
                  (IntKind.u8.wrap
                      (IntKind.u64.wrap
                        (IntKind.u64.wrap
                            (IntKind.u64.wrap (0 + IntKind.u64.wrap a) +
                              IntKind.u64.wrap
                                (bits BinOp.xor IntKind.u8 (bif IntKind.u8.signed then -1 else IntKind.u8.max) b)) +
                          1)) ==
                    0),
                Value.bool
                  (decide
                    (15 <
                      IntKind.u64.wrap
                        (IntKind.u64.wrap
                            (IntKind.u64.wrap (0 + IntKind.u64.wrap (bits BinOp.and IntKind.u8 a 15)) +
                              IntKind.u64.wrap
                                (bits BinOp.and IntKind.u8
                                  (bits BinOp.xor IntKind.u8 (bif IntKind.u8.signed then -1 else IntKind.u8.max) b)
                                  15)) +
                          1))),
                Value.bool
                  (par
                    (IntKind.u8.wrap
                      (IntKind.u64.wrap
                        (IntKind.u64.wrap
                            (IntKind.u64.wrap (0 + IntKind.u64.wrap a) +
                              IntKind.u64.wrap
                                (bits BinOp.xor IntKind.u8 (bif IntKind.u8.signed then -1 else IntKind.u8.max) b)) +
                          1)))),
                Value.bool
                  !decide
                      (255 <
                        IntKind.u64.wrap
                          (IntKind.u64.wrap
                              (IntKind.u64.wrap (0 + IntKind.u64.wrap a) +
                                IntKind.u64.wrap
                                  (bits BinOp.xor IntKind.u8 (bif IntKind.u8.signed then -1 else IntKind.u8.max) b)) +
                            1))] }] }
theorem sub24FR0 (a : Int) (b : Int) : (Ly.run (wctx) 20000 [(16, true)] (Ly.start Try.f51 ([Value.int IntKind.u8 a,
  Value.int IntKind.u8 b, Value.bool false]) H0)).out? = some (sub24FT0 a b, sub24FV0 a b) := by kernel_rfl
noncomputable def sub24TT0 (a : Int) (b : Int) : List (Bool × Bool) := [(decide
     (0 ≤
       IntKind.u8.wrap
         (IntKind.u64.wrap
           (IntKind.u64.wrap
               (IntKind.u64.wrap (0 + IntKind.u64.wrap a) +
                 IntKind.u64.wrap (bits BinOp.xor IntKind.u8 (bif IntKind.u8.signed then -1 else IntKind.u8.max) b)) +
             0))) &&
   decide
     (IntKind.u8.wrap
         (IntKind.u64.wrap
           (IntKind.u64.wrap
               (IntKind.u64.wrap (0 + IntKind.u64.wrap a) +
                 IntKind.u64.wrap (bits BinOp.xor IntKind.u8 (bif IntKind.u8.signed then -1 else IntKind.u8.max) b)) +
             0)) ≤
       255), true)]
noncomputable def sub24TV0 (a : Int) (b : Int) : Value := Value.tuple
  {
    toList :=
      [Value.int IntKind.u8
          (IntKind.u8.wrap
            (IntKind.u64.wrap
              (IntKind.u64.wrap
                  (IntKind.u64.wrap (0 + IntKind.u64.wrap a) +
                    IntKind.u64.wrap
                      (bits BinOp.xor IntKind.u8 (bif IntKind.u8.signed then -1 else IntKind.u8.max) b)) +
                0))),
        Value.agg
          {
            toList :=
              [Value.bool
                  (bits BinOp.and IntKind.u8
                      (IntKind.u8.wrap
                        (IntKind.u64.wrap
                          (IntKind.u64.wrap
                              (IntKind.u64.wrap (0 + IntKind.u64.wrap a) +
                                IntKind.u64.wrap
                                  (bits BinOp.xor IntKind.u8 (bif IntKind.u8.signed then -1 else IntKind.u8.max) b)) +
                            0)))
                      128 !=
                    0),
                Value.bool
                  (IntKind.u8.wrap
                      (IntKind.u64.wrap
                        (IntKind.u64.wrap
                            (IntKind.u64.wrap (0 + IntKind.u64.wrap a) +
                              IntKind.u64.wrap
                                (bits BinOp.xor IntKind.u8 (bif IntKind.u8.signed then -1 else IntKind.u8.max) b)) +
                          0)) ==
                    0),
                Value.bool
                  (decide
                    (15 <
                      IntKind.u64.wrap
                        (IntKind.u64.wrap
                            (IntKind.u64.wrap (0 + IntKind.u64.wrap (bits BinOp.and IntKind.u8 a 15)) +
                              IntKind.u64.wrap
                                (bits BinOp.and IntKind.u8
                                  (bits BinOp.xor IntKind.u8 (bif IntKind.u8.signed then -1 else IntKind.u8.max) b)
                                  15)) +
                          0))),
                Value.bool
                  (par
                    (IntKind.u8.wrap
                      (IntKind.u64.wrap
                        (IntKind.u64.wrap
                            (IntKind.u64.wrap (0 + IntKind.u64.wrap a) +
                              IntKind.u64.wrap
                                (bits BinOp.xor IntKind.u8 (bif IntKind.u8.signed then -1 else IntKind.u8.max) b)) +
                          0)))),
                Value.bool
                  !decide
                      (255 <
                        IntKind.u64.wrap
                          (IntKind.u64.wrap
                              (IntKind.u64.wrap (0 + IntKind.u64.wrap a) +
                                IntKind.u64.wrap
                                  (bits BinOp.xor IntKind.u8 (bif IntKind.u8.signed then -1 else IntKind.u8.max) b)) +
                            0))] }] }
theorem sub24TR0 (a : Int) (b : Int) : (Ly.run (wctx) 20000 [(16, true)] (Ly.start Try.f51 ([Value.int IntKind.u8 a,
  Value.int IntKind.u8 b, Value.bool true]) H0)).out? = some (sub24TT0 a b, sub24TV0 a b) := by kernel_rfl
noncomputable def sub25FT0 (a : Int) (b : Int) : List (Bool × Bool) := [(decide
     (0 ≤
       IntKind.u8.wrap
         (bits BinOp.and IntKind.i64
           (IntKind.i64.wrap (IntKind.i64.wrap (IntKind.i64.wrap (IntKind.i64.wrap a - IntKind.i64.wrap b) - 0) + 256))
           255)) &&
   decide
     (IntKind.u8.wrap
         (bits BinOp.and IntKind.i64
           (IntKind.i64.wrap (IntKind.i64.wrap (IntKind.i64.wrap (IntKind.i64.wrap a - IntKind.i64.wrap b) - 0) + 256))
           255) ≤
       255), true)]
noncomputable def sub25FV0 (a : Int) (b : Int) : Value := Value.tuple
  {
    toList :=
      [Value.int IntKind.u8
          (IntKind.u8.wrap
            (bits BinOp.and IntKind.i64
              (IntKind.i64.wrap
                (IntKind.i64.wrap (IntKind.i64.wrap (IntKind.i64.wrap a - IntKind.i64.wrap b) - 0) + 256))
              255)),
        Value.agg
          {
            toList :=
              [Value.bool
                  (decide
                    (128 ≤
                      IntKind.u8.wrap
                        (bits BinOp.and IntKind.i64
                          (IntKind.i64.wrap
                            (IntKind.i64.wrap (IntKind.i64.wrap (IntKind.i64.wrap a - IntKind.i64.wrap b) - 0) + 256))
                          255))),
                Value.bool
                  (IntKind.u8.wrap
                      (bits BinOp.and IntKind.i64
                        (IntKind.i64.wrap
                          (IntKind.i64.wrap (IntKind.i64.wrap (IntKind.i64.wrap a - IntKind.i64.wrap b) - 0) + 256))
                        255) ==
                    0),
                Value.bool
                  (decide
                    (15 <
                      IntKind.i64.wrap
                        (IntKind.i64.wrap
                            (IntKind.i64.wrap ((IntKind.i64.wrap a).tmod 16 + 15) - (IntKind.i64.wrap b).tmod 16) +
                          1))),
                Value.bool
                  (par
                    (IntKind.u8.wrap
                      (bits BinOp.and IntKind.i64
                        (IntKind.i64.wrap
                          (IntKind.i64.wrap (IntKind.i64.wrap (IntKind.i64.wrap a - IntKind.i64.wrap b) - 0) + 256))
                        255))),
                Value.bool
                  (decide (IntKind.i64.wrap (IntKind.i64.wrap (IntKind.i64.wrap a - IntKind.i64.wrap b) - 0) < 0))] }] }
theorem sub25FR0 (a : Int) (b : Int) : (Ly.run (wctx) 20000 [(4, true)] (Ly.start Try.f68 ([Value.int IntKind.u8 a,
  Value.int IntKind.u8 b, Value.bool false]) H0)).out? = some (sub25FT0 a b, sub25FV0 a b) := by kernel_rfl
noncomputable def sub25TT0 (a : Int) (b : Int) : List (Bool × Bool) := [(decide
     (0 ≤
       IntKind.u8.wrap
         (bits BinOp.and IntKind.i64
           (IntKind.i64.wrap (IntKind.i64.wrap (IntKind.i64.wrap (IntKind.i64.wrap a - IntKind.i64.wrap b) - 1) + 256))
           255)) &&
   decide
     (IntKind.u8.wrap
         (bits BinOp.and IntKind.i64
           (IntKind.i64.wrap (IntKind.i64.wrap (IntKind.i64.wrap (IntKind.i64.wrap a - IntKind.i64.wrap b) - 1) + 256))
           255) ≤
       255), true)]
noncomputable def sub25TV0 (a : Int) (b : Int) : Value := Value.tuple
  {
    toList :=
      [Value.int IntKind.u8
          (IntKind.u8.wrap
            (bits BinOp.and IntKind.i64
              (IntKind.i64.wrap
                (IntKind.i64.wrap (IntKind.i64.wrap (IntKind.i64.wrap a - IntKind.i64.wrap b) - 1) + 256))
              255)),
        Value.agg
          {
            toList :=
              [Value.bool
                  (decide
                    (128 ≤
                      IntKind.u8.wrap
                        (bits BinOp.and IntKind.i64
                          (IntKind.i64.wrap
                            (IntKind.i64.wrap (IntKind.i64.wrap (IntKind.i64.wrap a - IntKind.i64.wrap b) - 1) + 256))
                          255))),
                Value.bool
                  (IntKind.u8.wrap
                      (bits BinOp.and IntKind.i64
                        (IntKind.i64.wrap
                          (IntKind.i64.wrap (IntKind.i64.wrap (IntKind.i64.wrap a - IntKind.i64.wrap b) - 1) + 256))
                        255) ==
                    0),
                Value.bool
                  (decide
                    (15 <
                      IntKind.i64.wrap
                        (IntKind.i64.wrap
                            (IntKind.i64.wrap ((IntKind.i64.wrap a).tmod 16 + 15) - (IntKind.i64.wrap b).tmod 16) +
                          0))),
                Value.bool
                  (par
                    (IntKind.u8.wrap
                      (bits BinOp.and IntKind.i64
                        (IntKind.i64.wrap
                          (IntKind.i64.wrap (IntKind.i64.wrap (IntKind.i64.wrap a - IntKind.i64.wrap b) - 1) + 256))
                        255))),
                Value.bool
                  (decide (IntKind.i64.wrap (IntKind.i64.wrap (IntKind.i64.wrap a - IntKind.i64.wrap b) - 1) < 0))] }] }
theorem sub25TR0 (a : Int) (b : Int) : (Ly.run (wctx) 20000 [(4, true)] (Ly.start Try.f68 ([Value.int IntKind.u8 a,
  Value.int IntKind.u8 b, Value.bool true]) H0)).out? = some (sub25TT0 a b, sub25TV0 a b) := by kernel_rfl
noncomputable def and15T0 (a : Int) (b : Int) : List (Bool × Bool) := [(decide (0 ≤ bits BinOp.and IntKind.u8 a b) &&
   decide (bits BinOp.and IntKind.u8 a b ≤ 255), true)]
noncomputable def and15V0 (a : Int) (b : Int) : Value := Value.tuple
  {
    toList :=
      [Value.int IntKind.u8 (bits BinOp.and IntKind.u8 a b),
        Value.agg
          {
            toList :=
              [Value.bool (bits BinOp.and IntKind.u8 (bits BinOp.and IntKind.u8 a b) 128 != 0),
                Value.bool (bits BinOp.and IntKind.u8 a b == 0),
                Value.bool (bits BinOp.and IntKind.u8 (bits BinOp.or IntKind.u8 a b) 8 != 0),
                Value.bool (par (bits BinOp.and IntKind.u8 a b)), Value.bool false] }] }
theorem and15R0 (a : Int) (b : Int) : (Ly.run (wctx) 20000 [(0, true)] (Ly.start Try.f52 ([Value.int IntKind.u8 a,
  Value.int IntKind.u8 b]) H0)).out? = some (and15T0 a b, and15V0 a b) := by kernel_rfl
noncomputable def and18T0 (a : Int) (b : Int) : List (Bool × Bool) := [(decide
     (0 ≤ IntKind.u8.wrap (bits BinOp.and IntKind.i64 (IntKind.i64.wrap (bits BinOp.and IntKind.u8 a b)) 255)) &&
   decide
     (IntKind.u8.wrap (bits BinOp.and IntKind.i64 (IntKind.i64.wrap (bits BinOp.and IntKind.u8 a b)) 255) ≤ 255), true)]
noncomputable def and18V0 (a : Int) (b : Int) : Value := Value.tuple
  {
    toList :=
      [Value.int IntKind.u8
          (IntKind.u8.wrap (bits BinOp.and IntKind.i64 (IntKind.i64.wrap (bits BinOp.and IntKind.u8 a b)) 255)),
        Value.agg
          {
            toList :=
              [Value.bool
                  (decide
                    (128 ≤
                      IntKind.u8.wrap
                        (bits BinOp.and IntKind.i64 (IntKind.i64.wrap (bits BinOp.and IntKind.u8 a b)) 255))),
                Value.bool
                  (IntKind.u8.wrap
                      (bits BinOp.and IntKind.i64 (IntKind.i64.wrap (bits BinOp.and IntKind.u8 a b)) 255) ==
                    0),
                Value.bool ((IntKind.u8.wrap ((bits BinOp.or IntKind.u8 a b).tdiv 8)).tmod 2 == 1),
                Value.bool
                  (par
                    (IntKind.u8.wrap
                      (bits BinOp.and IntKind.i64 (IntKind.i64.wrap (bits BinOp.and IntKind.u8 a b)) 255))),
                Value.bool false] }] }
theorem and18R0 (a : Int) (b : Int) : (Ly.run (wctx) 20000 [(2, true)] (Ly.start Try.f69 ([Value.int IntKind.u8 a,
  Value.int IntKind.u8 b]) H0)).out? = some (and18T0 a b, and18V0 a b) := by kernel_rfl
noncomputable def or16T0 (a : Int) (b : Int) : List (Bool × Bool) := [(decide (0 ≤ bits BinOp.or IntKind.u8 a b) &&
   decide (bits BinOp.or IntKind.u8 a b ≤ 255), true)]
noncomputable def or16V0 (a : Int) (b : Int) : Value := Value.tuple
  {
    toList :=
      [Value.int IntKind.u8 (bits BinOp.or IntKind.u8 a b),
        Value.agg
          {
            toList :=
              [Value.bool (bits BinOp.and IntKind.u8 (bits BinOp.or IntKind.u8 a b) 128 != 0),
                Value.bool (bits BinOp.or IntKind.u8 a b == 0), Value.bool false,
                Value.bool (par (bits BinOp.or IntKind.u8 a b)), Value.bool false] }] }
theorem or16R0 (a : Int) (b : Int) : (Ly.run (wctx) 20000 [(0, true)] (Ly.start Try.f54 ([Value.int IntKind.u8 a,
  Value.int IntKind.u8 b]) H0)).out? = some (or16T0 a b, or16V0 a b) := by kernel_rfl
noncomputable def or19T0 (a : Int) (b : Int) : List (Bool × Bool) := [(decide
     (0 ≤ IntKind.u8.wrap (bits BinOp.and IntKind.i64 (IntKind.i64.wrap (bits BinOp.or IntKind.u8 a b)) 255)) &&
   decide
     (IntKind.u8.wrap (bits BinOp.and IntKind.i64 (IntKind.i64.wrap (bits BinOp.or IntKind.u8 a b)) 255) ≤ 255), true)]
noncomputable def or19V0 (a : Int) (b : Int) : Value := Value.tuple
  {
    toList :=
      [Value.int IntKind.u8
          (IntKind.u8.wrap (bits BinOp.and IntKind.i64 (IntKind.i64.wrap (bits BinOp.or IntKind.u8 a b)) 255)),
        Value.agg
          {
            toList :=
              [Value.bool
                  (decide
                    (128 ≤
                      IntKind.u8.wrap
                        (bits BinOp.and IntKind.i64 (IntKind.i64.wrap (bits BinOp.or IntKind.u8 a b)) 255))),
                Value.bool
                  (IntKind.u8.wrap (bits BinOp.and IntKind.i64 (IntKind.i64.wrap (bits BinOp.or IntKind.u8 a b)) 255) ==
                    0),
                Value.bool false,
                Value.bool
                  (par
                    (IntKind.u8.wrap
                      (bits BinOp.and IntKind.i64 (IntKind.i64.wrap (bits BinOp.or IntKind.u8 a b)) 255))),
                Value.bool false] }] }
theorem or19R0 (a : Int) (b : Int) : (Ly.run (wctx) 20000 [(0, true)] (Ly.start Try.f71 ([Value.int IntKind.u8 a,
  Value.int IntKind.u8 b]) H0)).out? = some (or19T0 a b, or19V0 a b) := by kernel_rfl
noncomputable def xor17T0 (a : Int) (b : Int) : List (Bool × Bool) := [(decide (0 ≤ bits BinOp.xor IntKind.u8 a b) &&
   decide (bits BinOp.xor IntKind.u8 a b ≤ 255), true)]
noncomputable def xor17V0 (a : Int) (b : Int) : Value := Value.tuple
  {
    toList :=
      [Value.int IntKind.u8 (bits BinOp.xor IntKind.u8 a b),
        Value.agg
          {
            toList :=
              [Value.bool (bits BinOp.and IntKind.u8 (bits BinOp.xor IntKind.u8 a b) 128 != 0),
                Value.bool (bits BinOp.xor IntKind.u8 a b == 0), Value.bool false,
                Value.bool (par (bits BinOp.xor IntKind.u8 a b)), Value.bool false] }] }
theorem xor17R0 (a : Int) (b : Int) : (Ly.run (wctx) 20000 [(0, true)] (Ly.start Try.f53 ([Value.int IntKind.u8 a,
  Value.int IntKind.u8 b]) H0)).out? = some (xor17T0 a b, xor17V0 a b) := by kernel_rfl
noncomputable def xor20T0 (a : Int) (b : Int) : List (Bool × Bool) := [(decide
     (0 ≤ IntKind.u8.wrap (bits BinOp.and IntKind.i64 (IntKind.i64.wrap (bits BinOp.xor IntKind.u8 a b)) 255)) &&
   decide
     (IntKind.u8.wrap (bits BinOp.and IntKind.i64 (IntKind.i64.wrap (bits BinOp.xor IntKind.u8 a b)) 255) ≤ 255), true)]
noncomputable def xor20V0 (a : Int) (b : Int) : Value := Value.tuple
  {
    toList :=
      [Value.int IntKind.u8
          (IntKind.u8.wrap (bits BinOp.and IntKind.i64 (IntKind.i64.wrap (bits BinOp.xor IntKind.u8 a b)) 255)),
        Value.agg
          {
            toList :=
              [Value.bool
                  (decide
                    (128 ≤
                      IntKind.u8.wrap
                        (bits BinOp.and IntKind.i64 (IntKind.i64.wrap (bits BinOp.xor IntKind.u8 a b)) 255))),
                Value.bool
                  (IntKind.u8.wrap
                      (bits BinOp.and IntKind.i64 (IntKind.i64.wrap (bits BinOp.xor IntKind.u8 a b)) 255) ==
                    0),
                Value.bool false,
                Value.bool
                  (par
                    (IntKind.u8.wrap
                      (bits BinOp.and IntKind.i64 (IntKind.i64.wrap (bits BinOp.xor IntKind.u8 a b)) 255))),
                Value.bool false] }] }
theorem xor20R0 (a : Int) (b : Int) : (Ly.run (wctx) 20000 [(0, true)] (Ly.start Try.f70 ([Value.int IntKind.u8 a,
  Value.int IntKind.u8 b]) H0)).out? = some (xor20T0 a b, xor20V0 a b) := by kernel_rfl
noncomputable def inc27T0 (a : Int) (s : Bool) (z : Bool) (x : Bool) (p : Bool) (c : Bool) : List (Bool × Bool) := [(decide
     (0 ≤
       IntKind.u8.wrap
         (IntKind.u64.wrap (IntKind.u64.wrap (IntKind.u64.wrap (0 + IntKind.u64.wrap a) + IntKind.u64.wrap 1) + 0))) &&
   decide
     (IntKind.u8.wrap
         (IntKind.u64.wrap (IntKind.u64.wrap (IntKind.u64.wrap (0 + IntKind.u64.wrap a) + IntKind.u64.wrap 1) + 0)) ≤
       255), true)]
noncomputable def inc27V0 (a : Int) (s : Bool) (z : Bool) (x : Bool) (p : Bool) (c : Bool) : Value := Value.tuple
  {
    toList :=
      [Value.int IntKind.u8
          (IntKind.u8.wrap
            (IntKind.u64.wrap (IntKind.u64.wrap (IntKind.u64.wrap (0 + IntKind.u64.wrap a) + IntKind.u64.wrap 1) + 0))),
        Value.agg
          {
            toList :=
              [Value.bool
                  (bits BinOp.and IntKind.u8
                      (IntKind.u8.wrap
                        (IntKind.u64.wrap
                          (IntKind.u64.wrap (IntKind.u64.wrap (0 + IntKind.u64.wrap a) + IntKind.u64.wrap 1) + 0)))
                      128 !=
                    0),
                Value.bool
                  (IntKind.u8.wrap
                      (IntKind.u64.wrap
                        (IntKind.u64.wrap (IntKind.u64.wrap (0 + IntKind.u64.wrap a) + IntKind.u64.wrap 1) + 0)) ==
                    0),
                Value.bool
                  (decide
                    (15 <
                      IntKind.u64.wrap
                        (IntKind.u64.wrap
                            (IntKind.u64.wrap (0 + IntKind.u64.wrap (bits BinOp.and IntKind.u8 a 15)) +
                              IntKind.u64.wrap (bits BinOp.and IntKind.u8 1 15)) +
                          0))),
                Value.bool
                  (par
                    (IntKind.u8.wrap
                      (IntKind.u64.wrap
                        (IntKind.u64.wrap (IntKind.u64.wrap (0 + IntKind.u64.wrap a) + IntKind.u64.wrap 1) + 0)))),
                Value.bool c] }] }
theorem inc27R0 (a : Int) (s : Bool) (z : Bool) (x : Bool) (p : Bool) (c : Bool) : (Ly.run (wctx) 20000 [(16, true)] (Ly.start Try.f47 ([Value.int
    IntKind.u8 a,
  Value.agg
    {
      toList :=
        [Value.bool s, Value.bool z, Value.bool x, Value.bool p,
          Value.bool c] }]) H0)).out? = some (inc27T0 a s z x p c, inc27V0 a s z x p c) := by kernel_rfl
noncomputable def inc30T0 (a : Int) (s : Bool) (z : Bool) (x : Bool) (p : Bool) (c : Bool) : List (Bool × Bool) := [(decide
     (0 ≤
       IntKind.u8.wrap
         (bits BinOp.and IntKind.i64 (IntKind.i64.wrap (IntKind.i64.wrap (IntKind.i64.wrap a + IntKind.i64.wrap 1) + 0))
           255)) &&
   decide
     (IntKind.u8.wrap
         (bits BinOp.and IntKind.i64 (IntKind.i64.wrap (IntKind.i64.wrap (IntKind.i64.wrap a + IntKind.i64.wrap 1) + 0))
           255) ≤
       255), true)]
noncomputable def inc30V0 (a : Int) (s : Bool) (z : Bool) (x : Bool) (p : Bool) (c : Bool) : Value := Value.tuple
  {
    toList :=
      [Value.int IntKind.u8
          (IntKind.u8.wrap
            (bits BinOp.and IntKind.i64
              (IntKind.i64.wrap (IntKind.i64.wrap (IntKind.i64.wrap a + IntKind.i64.wrap 1) + 0)) 255)),
        Value.agg
          {
            toList :=
              [Value.bool
                  (decide
                    (128 ≤
                      IntKind.u8.wrap
                        (bits BinOp.and IntKind.i64
                          (IntKind.i64.wrap (IntKind.i64.wrap (IntKind.i64.wrap a + IntKind.i64.wrap 1) + 0)) 255))),
                Value.bool
                  (IntKind.u8.wrap
                      (bits BinOp.and IntKind.i64
                        (IntKind.i64.wrap (IntKind.i64.wrap (IntKind.i64.wrap a + IntKind.i64.wrap 1) + 0)) 255) ==
                    0),
                Value.bool
                  (decide
                    (15 <
                      IntKind.i64.wrap
                        (IntKind.i64.wrap ((IntKind.i64.wrap a).tmod 16 + (IntKind.i64.wrap 1).tmod 16) + 0))),
                Value.bool
                  (par
                    (IntKind.u8.wrap
                      (bits BinOp.and IntKind.i64
                        (IntKind.i64.wrap (IntKind.i64.wrap (IntKind.i64.wrap a + IntKind.i64.wrap 1) + 0)) 255))),
                Value.bool c] }] }
theorem inc30R0 (a : Int) (s : Bool) (z : Bool) (x : Bool) (p : Bool) (c : Bool) : (Ly.run (wctx) 20000 [(4, true)] (Ly.start Try.f64 ([Value.int
    IntKind.u8 a,
  Value.agg
    {
      toList :=
        [Value.bool s, Value.bool z, Value.bool x, Value.bool p,
          Value.bool c] }]) H0)).out? = some (inc30T0 a s z x p c, inc30V0 a s z x p c) := by kernel_rfl
noncomputable def dec29T0 (a : Int) (s : Bool) (z : Bool) (x : Bool) (p : Bool) (c : Bool) : List (Bool × Bool) := [(decide
     (0 ≤
       IntKind.u8.wrap
         (IntKind.u64.wrap
           (IntKind.u64.wrap
               (IntKind.u64.wrap (0 + IntKind.u64.wrap a) +
                 IntKind.u64.wrap (bits BinOp.xor IntKind.u8 (bif IntKind.u8.signed then -1 else IntKind.u8.max) 1)) +
             1))) &&
   decide
     (IntKind.u8.wrap
         (IntKind.u64.wrap
           (IntKind.u64.wrap
               (IntKind.u64.wrap (0 + IntKind.u64.wrap a) +
                 IntKind.u64.wrap (bits BinOp.xor IntKind.u8 (bif IntKind.u8.signed then -1 else IntKind.u8.max) 1)) +
             1)) ≤
       255), true)]
noncomputable def dec29V0 (a : Int) (s : Bool) (z : Bool) (x : Bool) (p : Bool) (c : Bool) : Value := Value.tuple
  {
    toList :=
      [Value.int IntKind.u8
          (IntKind.u8.wrap
            (IntKind.u64.wrap
              (IntKind.u64.wrap
                  (IntKind.u64.wrap (0 + IntKind.u64.wrap a) +
                    IntKind.u64.wrap
                      (bits BinOp.xor IntKind.u8 (bif IntKind.u8.signed then -1 else IntKind.u8.max) 1)) +
                1))),
        Value.agg
          {
            toList :=
              [Value.bool
                  (bits BinOp.and IntKind.u8
                      (IntKind.u8.wrap
                        (IntKind.u64.wrap
                          (IntKind.u64.wrap
                              (IntKind.u64.wrap (0 + IntKind.u64.wrap a) +
                                IntKind.u64.wrap
                                  (bits BinOp.xor IntKind.u8 (bif IntKind.u8.signed then -1 else IntKind.u8.max) 1)) +
                            1)))
                      128 !=
                    0),
                Value.bool
                  (IntKind.u8.wrap
                      (IntKind.u64.wrap
                        (IntKind.u64.wrap
                            (IntKind.u64.wrap (0 + IntKind.u64.wrap a) +
                              IntKind.u64.wrap
                                (bits BinOp.xor IntKind.u8 (bif IntKind.u8.signed then -1 else IntKind.u8.max) 1)) +
                          1)) ==
                    0),
                Value.bool
                  (decide
                    (15 <
                      IntKind.u64.wrap
                        (IntKind.u64.wrap
                            (IntKind.u64.wrap (0 + IntKind.u64.wrap (bits BinOp.and IntKind.u8 a 15)) +
                              IntKind.u64.wrap
                                (bits BinOp.and IntKind.u8
                                  (bits BinOp.xor IntKind.u8 (bif IntKind.u8.signed then -1 else IntKind.u8.max) 1)
                                  15)) +
                          1))),
                Value.bool
                  (par
                    (IntKind.u8.wrap
                      (IntKind.u64.wrap
                        (IntKind.u64.wrap
                            (IntKind.u64.wrap (0 + IntKind.u64.wrap a) +
                              IntKind.u64.wrap
                                (bits BinOp.xor IntKind.u8 (bif IntKind.u8.signed then -1 else IntKind.u8.max) 1)) +
                          1)))),
                Value.bool c] }] }
theorem dec29R0 (a : Int) (s : Bool) (z : Bool) (x : Bool) (p : Bool) (c : Bool) : (Ly.run (wctx) 20000 [(16, true)] (Ly.start Try.f48 ([Value.int
    IntKind.u8 a,
  Value.agg
    {
      toList :=
        [Value.bool s, Value.bool z, Value.bool x, Value.bool p,
          Value.bool c] }]) H0)).out? = some (dec29T0 a s z x p c, dec29V0 a s z x p c) := by kernel_rfl
noncomputable def dec31T0 (a : Int) (s : Bool) (z : Bool) (x : Bool) (p : Bool) (c : Bool) : List (Bool × Bool) := [(decide
     (0 ≤
       IntKind.u8.wrap
         (bits BinOp.and IntKind.i64
           (IntKind.i64.wrap (IntKind.i64.wrap (IntKind.i64.wrap (IntKind.i64.wrap a - IntKind.i64.wrap 1) - 0) + 256))
           255)) &&
   decide
     (IntKind.u8.wrap
         (bits BinOp.and IntKind.i64
           (IntKind.i64.wrap (IntKind.i64.wrap (IntKind.i64.wrap (IntKind.i64.wrap a - IntKind.i64.wrap 1) - 0) + 256))
           255) ≤
       255), true)]
noncomputable def dec31V0 (a : Int) (s : Bool) (z : Bool) (x : Bool) (p : Bool) (c : Bool) : Value := Value.tuple
  {
    toList :=
      [Value.int IntKind.u8
          (IntKind.u8.wrap
            (bits BinOp.and IntKind.i64
              (IntKind.i64.wrap
                (IntKind.i64.wrap (IntKind.i64.wrap (IntKind.i64.wrap a - IntKind.i64.wrap 1) - 0) + 256))
              255)),
        Value.agg
          {
            toList :=
              [Value.bool
                  (decide
                    (128 ≤
                      IntKind.u8.wrap
                        (bits BinOp.and IntKind.i64
                          (IntKind.i64.wrap
                            (IntKind.i64.wrap (IntKind.i64.wrap (IntKind.i64.wrap a - IntKind.i64.wrap 1) - 0) + 256))
                          255))),
                Value.bool
                  (IntKind.u8.wrap
                      (bits BinOp.and IntKind.i64
                        (IntKind.i64.wrap
                          (IntKind.i64.wrap (IntKind.i64.wrap (IntKind.i64.wrap a - IntKind.i64.wrap 1) - 0) + 256))
                        255) ==
                    0),
                Value.bool
                  (decide
                    (15 <
                      IntKind.i64.wrap
                        (IntKind.i64.wrap
                            (IntKind.i64.wrap ((IntKind.i64.wrap a).tmod 16 + 15) - (IntKind.i64.wrap 1).tmod 16) +
                          1))),
                Value.bool
                  (par
                    (IntKind.u8.wrap
                      (bits BinOp.and IntKind.i64
                        (IntKind.i64.wrap
                          (IntKind.i64.wrap (IntKind.i64.wrap (IntKind.i64.wrap a - IntKind.i64.wrap 1) - 0) + 256))
                        255))),
                Value.bool c] }] }
theorem dec31R0 (a : Int) (s : Bool) (z : Bool) (x : Bool) (p : Bool) (c : Bool) : (Ly.run (wctx) 20000 [(4, true)] (Ly.start Try.f65 ([Value.int
    IntKind.u8 a,
  Value.agg
    {
      toList :=
        [Value.bool s, Value.bool z, Value.bool x, Value.bool p,
          Value.bool c] }]) H0)).out? = some (dec31T0 a s z x p c, dec31V0 a s z x p c) := by kernel_rfl
noncomputable def add22T0 (a : Int) (b : Int) : List (Bool × Bool) := []
noncomputable def add22V0 (a : Int) (b : Int) : Value := Value.tuple
  {
    toList :=
      [Value.int IntKind.u16
          (IntKind.u16.wrap (IntKind.u64.wrap (IntKind.u64.wrap (0 + IntKind.u64.wrap a) + IntKind.u64.wrap b))),
        Value.bool
          (decide (65535 < IntKind.u64.wrap (IntKind.u64.wrap (0 + IntKind.u64.wrap a) + IntKind.u64.wrap b)))] }
theorem add22R0 (a : Int) (b : Int) : (Ly.run (wctx) 20000 [] (Ly.start Try.f45 ([Value.int IntKind.u16 a,
  Value.int IntKind.u16 b]) H0)).out? = some (add22T0 a b, add22V0 a b) := by kernel_rfl
noncomputable def add41T0 (a : Int) (b : Int) : List (Bool × Bool) := []
noncomputable def add41V0 (a : Int) (b : Int) : Value := Value.tuple
  {
    toList :=
      [Value.int IntKind.u16
          (IntKind.u16.wrap
            (bits BinOp.and IntKind.i64 (IntKind.i64.wrap (IntKind.i64.wrap a + IntKind.i64.wrap b)) 65535)),
        Value.bool (decide (65535 < IntKind.i64.wrap (IntKind.i64.wrap a + IntKind.i64.wrap b)))] }
theorem add41R0 (a : Int) (b : Int) : (Ly.run (wctx) 20000 [] (Ly.start Try.f62 ([Value.int IntKind.u16 a,
  Value.int IntKind.u16 b]) H0)).out? = some (add41T0 a b, add41V0 a b) := by kernel_rfl
noncomputable def of35T0 (a : Int) : List (Bool × Bool) := []
noncomputable def of35V0 (a : Int) : Value := Value.agg
  {
    toList :=
      [Value.bool (bits BinOp.and IntKind.u8 a 128 != 0), Value.bool (bits BinOp.and IntKind.u8 a 64 != 0),
        Value.bool (bits BinOp.and IntKind.u8 a 16 != 0), Value.bool (bits BinOp.and IntKind.u8 a 4 != 0),
        Value.bool (bits BinOp.and IntKind.u8 a 1 != 0)] }
theorem of35R0 (a : Int) : (Ly.run (wctx) 20000 [] (Ly.start Try.f89 ([Value.int IntKind.u8
    a]) H0)).out? = some (of35T0 a, of35V0 a) := by kernel_rfl
noncomputable def of36T0 (a : Int) : List (Bool × Bool) := []
noncomputable def of36V0 (a : Int) : Value := Value.agg
  {
    toList :=
      [Value.bool (decide (128 ≤ a)), Value.bool ((IntKind.u8.wrap (a.tdiv 64)).tmod 2 == 1),
        Value.bool ((IntKind.u8.wrap (a.tdiv 16)).tmod 2 == 1), Value.bool ((IntKind.u8.wrap (a.tdiv 4)).tmod 2 == 1),
        Value.bool (a.tmod 2 == 1)] }
theorem of36R0 (a : Int) : (Ly.run (wctx) 20000 [] (Ly.start Try.f77 ([Value.int IntKind.u8
    a]) H0)).out? = some (of36T0 a, of36V0 a) := by kernel_rfl
noncomputable def daa14FFT0 (a : Int) (s : Bool) (z : Bool) (p : Bool) : List (Bool × Bool) := [(decide
     (9 < bits BinOp.and IntKind.u8 a 15) ==
   false, true),
 (decide (9 < bits BinOp.and IntKind.u8 a 15) == false, true),
 (decide (9 < bits BinOp.and IntKind.u8 a 15), false),
 (decide (9 < (IntKind.u64.wrap (IntKind.u64.wrap a + 0)).fdiv (pw 4 IntKind.u64)) == false, true),
 (decide (9 < (IntKind.u64.wrap (IntKind.u64.wrap a + 0)).fdiv (pw 4 IntKind.u64)) == false, true),
 (decide (9 < (IntKind.u64.wrap (IntKind.u64.wrap a + 0)).fdiv (pw 4 IntKind.u64)), false),
 (decide (0 ≤ IntKind.u8.wrap (IntKind.u64.wrap (IntKind.u64.wrap (IntKind.u64.wrap a + 0) + 0))) &&
   decide (IntKind.u8.wrap (IntKind.u64.wrap (IntKind.u64.wrap (IntKind.u64.wrap a + 0) + 0)) ≤ 255), true)]
noncomputable def daa14FFV0 (a : Int) (s : Bool) (z : Bool) (p : Bool) : Value := Value.tuple
  {
    toList :=
      [Value.int IntKind.u8 (IntKind.u8.wrap (IntKind.u64.wrap (IntKind.u64.wrap (IntKind.u64.wrap a + 0) + 0))),
        Value.agg
          {
            toList :=
              [Value.bool
                  (bits BinOp.and IntKind.u8
                      (IntKind.u8.wrap (IntKind.u64.wrap (IntKind.u64.wrap (IntKind.u64.wrap a + 0) + 0))) 128 !=
                    0),
                Value.bool (IntKind.u8.wrap (IntKind.u64.wrap (IntKind.u64.wrap (IntKind.u64.wrap a + 0) + 0)) == 0),
                Value.bool false,
                Value.bool (par (IntKind.u8.wrap (IntKind.u64.wrap (IntKind.u64.wrap (IntKind.u64.wrap a + 0) + 0)))),
                Value.bool false] }] }
theorem daa14FFR0 (a : Int) (s : Bool) (z : Bool) (p : Bool) : (Ly.run (wctx) 20000 [(0, true), (0, true), (0, false), (2, true), (0, true), (0, false), (5, true)] (Ly.start Try.f81 ([Value.int
    IntKind.u8 a,
  Value.agg
    {
      toList :=
        [Value.bool s, Value.bool z, Value.bool false, Value.bool p,
          Value.bool false] }]) H0)).out? = some (daa14FFT0 a s z p, daa14FFV0 a s z p) := by kernel_rfl
noncomputable def daa14FFT1 (a : Int) (s : Bool) (z : Bool) (p : Bool) : List (Bool × Bool) := [(decide
     (9 < bits BinOp.and IntKind.u8 a 15) ==
   false, true),
 (decide (9 < bits BinOp.and IntKind.u8 a 15) == false, true),
 (decide (9 < bits BinOp.and IntKind.u8 a 15), false),
 (decide (9 < (IntKind.u64.wrap (IntKind.u64.wrap a + 0)).fdiv (pw 4 IntKind.u64)) == false, false),
 (decide (9 < (IntKind.u64.wrap (IntKind.u64.wrap a + 0)).fdiv (pw 4 IntKind.u64)) == false, false),
 (decide (9 < (IntKind.u64.wrap (IntKind.u64.wrap a + 0)).fdiv (pw 4 IntKind.u64)), true),
 (decide (0 ≤ IntKind.u8.wrap (IntKind.u64.wrap (IntKind.u64.wrap (IntKind.u64.wrap a + 0) + 96))) &&
   decide (IntKind.u8.wrap (IntKind.u64.wrap (IntKind.u64.wrap (IntKind.u64.wrap a + 0) + 96)) ≤ 255), true)]
noncomputable def daa14FFV1 (a : Int) (s : Bool) (z : Bool) (p : Bool) : Value := Value.tuple
  {
    toList :=
      [Value.int IntKind.u8 (IntKind.u8.wrap (IntKind.u64.wrap (IntKind.u64.wrap (IntKind.u64.wrap a + 0) + 96))),
        Value.agg
          {
            toList :=
              [Value.bool
                  (bits BinOp.and IntKind.u8
                      (IntKind.u8.wrap (IntKind.u64.wrap (IntKind.u64.wrap (IntKind.u64.wrap a + 0) + 96))) 128 !=
                    0),
                Value.bool (IntKind.u8.wrap (IntKind.u64.wrap (IntKind.u64.wrap (IntKind.u64.wrap a + 0) + 96)) == 0),
                Value.bool false,
                Value.bool (par (IntKind.u8.wrap (IntKind.u64.wrap (IntKind.u64.wrap (IntKind.u64.wrap a + 0) + 96)))),
                Value.bool true] }] }
theorem daa14FFR1 (a : Int) (s : Bool) (z : Bool) (p : Bool) : (Ly.run (wctx) 20000 [(0, true), (0, true), (0, false), (2, false), (0, false), (0, true), (5, true)] (Ly.start Try.f81 ([Value.int
    IntKind.u8 a,
  Value.agg
    {
      toList :=
        [Value.bool s, Value.bool z, Value.bool false, Value.bool p,
          Value.bool false] }]) H0)).out? = some (daa14FFT1 a s z p, daa14FFV1 a s z p) := by kernel_rfl
noncomputable def daa14FFT2 (a : Int) (s : Bool) (z : Bool) (p : Bool) : List (Bool × Bool) := [(decide
     (9 < bits BinOp.and IntKind.u8 a 15) ==
   false, false),
 (decide (9 < bits BinOp.and IntKind.u8 a 15) == false, false),
 (decide (9 < bits BinOp.and IntKind.u8 a 15), true),
 (decide (9 < (IntKind.u64.wrap (IntKind.u64.wrap a + 6)).fdiv (pw 4 IntKind.u64)) == false, true),
 (decide (9 < (IntKind.u64.wrap (IntKind.u64.wrap a + 6)).fdiv (pw 4 IntKind.u64)) == false, true),
 (decide (9 < (IntKind.u64.wrap (IntKind.u64.wrap a + 6)).fdiv (pw 4 IntKind.u64)), false),
 (decide (0 ≤ IntKind.u8.wrap (IntKind.u64.wrap (IntKind.u64.wrap (IntKind.u64.wrap a + 6) + 0))) &&
   decide (IntKind.u8.wrap (IntKind.u64.wrap (IntKind.u64.wrap (IntKind.u64.wrap a + 6) + 0)) ≤ 255), true)]
noncomputable def daa14FFV2 (a : Int) (s : Bool) (z : Bool) (p : Bool) : Value := Value.tuple
  {
    toList :=
      [Value.int IntKind.u8 (IntKind.u8.wrap (IntKind.u64.wrap (IntKind.u64.wrap (IntKind.u64.wrap a + 6) + 0))),
        Value.agg
          {
            toList :=
              [Value.bool
                  (bits BinOp.and IntKind.u8
                      (IntKind.u8.wrap (IntKind.u64.wrap (IntKind.u64.wrap (IntKind.u64.wrap a + 6) + 0))) 128 !=
                    0),
                Value.bool (IntKind.u8.wrap (IntKind.u64.wrap (IntKind.u64.wrap (IntKind.u64.wrap a + 6) + 0)) == 0),
                Value.bool (decide (9 < bits BinOp.and IntKind.u8 a 15)),
                Value.bool (par (IntKind.u8.wrap (IntKind.u64.wrap (IntKind.u64.wrap (IntKind.u64.wrap a + 6) + 0)))),
                Value.bool false] }] }
theorem daa14FFR2 (a : Int) (s : Bool) (z : Bool) (p : Bool) : (Ly.run (wctx) 20000 [(0, false), (0, false), (0, true), (2, true), (0, true), (0, false), (5, true)] (Ly.start Try.f81 ([Value.int
    IntKind.u8 a,
  Value.agg
    {
      toList :=
        [Value.bool s, Value.bool z, Value.bool false, Value.bool p,
          Value.bool false] }]) H0)).out? = some (daa14FFT2 a s z p, daa14FFV2 a s z p) := by kernel_rfl
noncomputable def daa14FFT3 (a : Int) (s : Bool) (z : Bool) (p : Bool) : List (Bool × Bool) := [(decide
     (9 < bits BinOp.and IntKind.u8 a 15) ==
   false, false),
 (decide (9 < bits BinOp.and IntKind.u8 a 15) == false, false),
 (decide (9 < bits BinOp.and IntKind.u8 a 15), true),
 (decide (9 < (IntKind.u64.wrap (IntKind.u64.wrap a + 6)).fdiv (pw 4 IntKind.u64)) == false, false),
 (decide (9 < (IntKind.u64.wrap (IntKind.u64.wrap a + 6)).fdiv (pw 4 IntKind.u64)) == false, false),
 (decide (9 < (IntKind.u64.wrap (IntKind.u64.wrap a + 6)).fdiv (pw 4 IntKind.u64)), true),
 (decide (0 ≤ IntKind.u8.wrap (IntKind.u64.wrap (IntKind.u64.wrap (IntKind.u64.wrap a + 6) + 96))) &&
   decide (IntKind.u8.wrap (IntKind.u64.wrap (IntKind.u64.wrap (IntKind.u64.wrap a + 6) + 96)) ≤ 255), true)]
noncomputable def daa14FFV3 (a : Int) (s : Bool) (z : Bool) (p : Bool) : Value := Value.tuple
  {
    toList :=
      [Value.int IntKind.u8 (IntKind.u8.wrap (IntKind.u64.wrap (IntKind.u64.wrap (IntKind.u64.wrap a + 6) + 96))),
        Value.agg
          {
            toList :=
              [Value.bool
                  (bits BinOp.and IntKind.u8
                      (IntKind.u8.wrap (IntKind.u64.wrap (IntKind.u64.wrap (IntKind.u64.wrap a + 6) + 96))) 128 !=
                    0),
                Value.bool (IntKind.u8.wrap (IntKind.u64.wrap (IntKind.u64.wrap (IntKind.u64.wrap a + 6) + 96)) == 0),
                Value.bool (decide (9 < bits BinOp.and IntKind.u8 a 15)),
                Value.bool (par (IntKind.u8.wrap (IntKind.u64.wrap (IntKind.u64.wrap (IntKind.u64.wrap a + 6) + 96)))),
                Value.bool true] }] }
theorem daa14FFR3 (a : Int) (s : Bool) (z : Bool) (p : Bool) : (Ly.run (wctx) 20000 [(0, false), (0, false), (0, true), (2, false), (0, false), (0, true), (5, true)] (Ly.start Try.f81 ([Value.int
    IntKind.u8 a,
  Value.agg
    {
      toList :=
        [Value.bool s, Value.bool z, Value.bool false, Value.bool p,
          Value.bool false] }]) H0)).out? = some (daa14FFT3 a s z p, daa14FFV3 a s z p) := by kernel_rfl
noncomputable def daa32FFT0 (a : Int) (s : Bool) (z : Bool) (p : Bool) : List (Bool × Bool) := [(decide
     (9 < (IntKind.i64.wrap a).tmod 16) ==
   false, true),
 (decide (9 < (IntKind.i64.wrap a).tmod 16) == false, true),
 (decide (9 < (IntKind.i64.wrap a).tmod 16), false),
 (decide (9 < IntKind.i64.wrap ((IntKind.i64.wrap a).tdiv 16)) == false, true),
 (decide (9 < IntKind.i64.wrap ((IntKind.i64.wrap a).tdiv 16)) == false, true),
 (decide (9 < IntKind.i64.wrap ((IntKind.i64.wrap a).tdiv 16)), false),
 (decide (0 ≤ IntKind.u8.wrap (bits BinOp.and IntKind.i64 (IntKind.i64.wrap a) 255)) &&
   decide (IntKind.u8.wrap (bits BinOp.and IntKind.i64 (IntKind.i64.wrap a) 255) ≤ 255), true)]
noncomputable def daa32FFV0 (a : Int) (s : Bool) (z : Bool) (p : Bool) : Value := Value.tuple
  {
    toList :=
      [Value.int IntKind.u8 (IntKind.u8.wrap (bits BinOp.and IntKind.i64 (IntKind.i64.wrap a) 255)),
        Value.agg
          {
            toList :=
              [Value.bool (decide (128 ≤ IntKind.u8.wrap (bits BinOp.and IntKind.i64 (IntKind.i64.wrap a) 255))),
                Value.bool (IntKind.u8.wrap (bits BinOp.and IntKind.i64 (IntKind.i64.wrap a) 255) == 0),
                Value.bool false,
                Value.bool (par (IntKind.u8.wrap (bits BinOp.and IntKind.i64 (IntKind.i64.wrap a) 255))),
                Value.bool false] }] }
theorem daa32FFR0 (a : Int) (s : Bool) (z : Bool) (p : Bool) : (Ly.run (wctx) 20000 [(1, true), (0, true), (0, false), (2, true), (0, true), (0, false), (1, true)] (Ly.start Try.f91 ([Value.int
    IntKind.u8 a,
  Value.agg
    {
      toList :=
        [Value.bool s, Value.bool z, Value.bool false, Value.bool p,
          Value.bool false] }]) H0)).out? = some (daa32FFT0 a s z p, daa32FFV0 a s z p) := by kernel_rfl
noncomputable def daa32FFT1 (a : Int) (s : Bool) (z : Bool) (p : Bool) : List (Bool × Bool) := [(decide
     (9 < (IntKind.i64.wrap a).tmod 16) ==
   false, true),
 (decide (9 < (IntKind.i64.wrap a).tmod 16) == false, true),
 (decide (9 < (IntKind.i64.wrap a).tmod 16), false),
 (decide (9 < IntKind.i64.wrap ((IntKind.i64.wrap a).tdiv 16)) == false, false),
 (decide (9 < IntKind.i64.wrap ((IntKind.i64.wrap a).tdiv 16)) == false, false),
 (decide (9 < IntKind.i64.wrap ((IntKind.i64.wrap a).tdiv 16)), true),
 (decide (0 ≤ IntKind.u8.wrap (bits BinOp.and IntKind.i64 (IntKind.i64.wrap (IntKind.i64.wrap a + 96)) 255)) &&
   decide (IntKind.u8.wrap (bits BinOp.and IntKind.i64 (IntKind.i64.wrap (IntKind.i64.wrap a + 96)) 255) ≤ 255), true)]
noncomputable def daa32FFV1 (a : Int) (s : Bool) (z : Bool) (p : Bool) : Value := Value.tuple
  {
    toList :=
      [Value.int IntKind.u8
          (IntKind.u8.wrap (bits BinOp.and IntKind.i64 (IntKind.i64.wrap (IntKind.i64.wrap a + 96)) 255)),
        Value.agg
          {
            toList :=
              [Value.bool
                  (decide
                    (128 ≤
                      IntKind.u8.wrap (bits BinOp.and IntKind.i64 (IntKind.i64.wrap (IntKind.i64.wrap a + 96)) 255))),
                Value.bool
                  (IntKind.u8.wrap (bits BinOp.and IntKind.i64 (IntKind.i64.wrap (IntKind.i64.wrap a + 96)) 255) == 0),
                Value.bool false,
                Value.bool
                  (par (IntKind.u8.wrap (bits BinOp.and IntKind.i64 (IntKind.i64.wrap (IntKind.i64.wrap a + 96)) 255))),
                Value.bool true] }] }
theorem daa32FFR1 (a : Int) (s : Bool) (z : Bool) (p : Bool) : (Ly.run (wctx) 20000 [(1, true), (0, true), (0, false), (2, false), (0, false), (0, true), (1, true)] (Ly.start Try.f91 ([Value.int
    IntKind.u8 a,
  Value.agg
    {
      toList :=
        [Value.bool s, Value.bool z, Value.bool false, Value.bool p,
          Value.bool false] }]) H0)).out? = some (daa32FFT1 a s z p, daa32FFV1 a s z p) := by kernel_rfl
noncomputable def daa32FFT2 (a : Int) (s : Bool) (z : Bool) (p : Bool) : List (Bool × Bool) := [(decide
     (9 < (IntKind.i64.wrap a).tmod 16) ==
   false, false),
 (decide (9 < (IntKind.i64.wrap a).tmod 16) == false, false),
 (decide (9 < (IntKind.i64.wrap a).tmod 16), true),
 (decide (9 < IntKind.i64.wrap ((IntKind.i64.wrap (IntKind.i64.wrap a + 6)).tdiv 16)) == false, true),
 (decide (9 < IntKind.i64.wrap ((IntKind.i64.wrap (IntKind.i64.wrap a + 6)).tdiv 16)) == false, true),
 (decide (9 < IntKind.i64.wrap ((IntKind.i64.wrap (IntKind.i64.wrap a + 6)).tdiv 16)), false),
 (decide (0 ≤ IntKind.u8.wrap (bits BinOp.and IntKind.i64 (IntKind.i64.wrap (IntKind.i64.wrap a + 6)) 255)) &&
   decide (IntKind.u8.wrap (bits BinOp.and IntKind.i64 (IntKind.i64.wrap (IntKind.i64.wrap a + 6)) 255) ≤ 255), true)]
noncomputable def daa32FFV2 (a : Int) (s : Bool) (z : Bool) (p : Bool) : Value := Value.tuple
  {
    toList :=
      [Value.int IntKind.u8
          (IntKind.u8.wrap (bits BinOp.and IntKind.i64 (IntKind.i64.wrap (IntKind.i64.wrap a + 6)) 255)),
        Value.agg
          {
            toList :=
              [Value.bool
                  (decide
                    (128 ≤
                      IntKind.u8.wrap (bits BinOp.and IntKind.i64 (IntKind.i64.wrap (IntKind.i64.wrap a + 6)) 255))),
                Value.bool
                  (IntKind.u8.wrap (bits BinOp.and IntKind.i64 (IntKind.i64.wrap (IntKind.i64.wrap a + 6)) 255) == 0),
                Value.bool (decide (15 < IntKind.i64.wrap ((IntKind.i64.wrap a).tmod 16 + 6))),
                Value.bool
                  (par (IntKind.u8.wrap (bits BinOp.and IntKind.i64 (IntKind.i64.wrap (IntKind.i64.wrap a + 6)) 255))),
                Value.bool false] }] }
theorem daa32FFR2 (a : Int) (s : Bool) (z : Bool) (p : Bool) : (Ly.run (wctx) 20000 [(1, false), (0, false), (0, true), (3, true), (0, true), (0, false), (1, true)] (Ly.start Try.f91 ([Value.int
    IntKind.u8 a,
  Value.agg
    {
      toList :=
        [Value.bool s, Value.bool z, Value.bool false, Value.bool p,
          Value.bool false] }]) H0)).out? = some (daa32FFT2 a s z p, daa32FFV2 a s z p) := by kernel_rfl
noncomputable def daa32FFT3 (a : Int) (s : Bool) (z : Bool) (p : Bool) : List (Bool × Bool) := [(decide
     (9 < (IntKind.i64.wrap a).tmod 16) ==
   false, false),
 (decide (9 < (IntKind.i64.wrap a).tmod 16) == false, false),
 (decide (9 < (IntKind.i64.wrap a).tmod 16), true),
 (decide (9 < IntKind.i64.wrap ((IntKind.i64.wrap (IntKind.i64.wrap a + 6)).tdiv 16)) == false, false),
 (decide (9 < IntKind.i64.wrap ((IntKind.i64.wrap (IntKind.i64.wrap a + 6)).tdiv 16)) == false, false),
 (decide (9 < IntKind.i64.wrap ((IntKind.i64.wrap (IntKind.i64.wrap a + 6)).tdiv 16)), true),
 (decide
     (0 ≤
       IntKind.u8.wrap
         (bits BinOp.and IntKind.i64 (IntKind.i64.wrap (IntKind.i64.wrap (IntKind.i64.wrap a + 6) + 96)) 255)) &&
   decide
     (IntKind.u8.wrap
         (bits BinOp.and IntKind.i64 (IntKind.i64.wrap (IntKind.i64.wrap (IntKind.i64.wrap a + 6) + 96)) 255) ≤
       255), true)]
noncomputable def daa32FFV3 (a : Int) (s : Bool) (z : Bool) (p : Bool) : Value := Value.tuple
  {
    toList :=
      [Value.int IntKind.u8
          (IntKind.u8.wrap
            (bits BinOp.and IntKind.i64 (IntKind.i64.wrap (IntKind.i64.wrap (IntKind.i64.wrap a + 6) + 96)) 255)),
        Value.agg
          {
            toList :=
              [Value.bool
                  (decide
                    (128 ≤
                      IntKind.u8.wrap
                        (bits BinOp.and IntKind.i64 (IntKind.i64.wrap (IntKind.i64.wrap (IntKind.i64.wrap a + 6) + 96))
                          255))),
                Value.bool
                  (IntKind.u8.wrap
                      (bits BinOp.and IntKind.i64 (IntKind.i64.wrap (IntKind.i64.wrap (IntKind.i64.wrap a + 6) + 96))
                        255) ==
                    0),
                Value.bool (decide (15 < IntKind.i64.wrap ((IntKind.i64.wrap a).tmod 16 + 6))),
                Value.bool
                  (par
                    (IntKind.u8.wrap
                      (bits BinOp.and IntKind.i64 (IntKind.i64.wrap (IntKind.i64.wrap (IntKind.i64.wrap a + 6) + 96))
                        255))),
                Value.bool true] }] }
theorem daa32FFR3 (a : Int) (s : Bool) (z : Bool) (p : Bool) : (Ly.run (wctx) 20000 [(1, false), (0, false), (0, true), (3, false), (0, false), (0, true), (1, true)] (Ly.start Try.f91 ([Value.int
    IntKind.u8 a,
  Value.agg
    {
      toList :=
        [Value.bool s, Value.bool z, Value.bool false, Value.bool p,
          Value.bool false] }]) H0)).out? = some (daa32FFT3 a s z p, daa32FFV3 a s z p) := by kernel_rfl
noncomputable def daa14FTT0 (a : Int) (s : Bool) (z : Bool) (p : Bool) : List (Bool × Bool) := [(decide
     (9 < bits BinOp.and IntKind.u8 a 15) ==
   false, true),
 (decide (9 < bits BinOp.and IntKind.u8 a 15) == false, true),
 (decide (9 < bits BinOp.and IntKind.u8 a 15), false),
 (decide (9 < (IntKind.u64.wrap (IntKind.u64.wrap a + 0)).fdiv (pw 4 IntKind.u64)) == false, true),
 (decide (9 < (IntKind.u64.wrap (IntKind.u64.wrap a + 0)).fdiv (pw 4 IntKind.u64)) == false, true),
 (decide (9 < (IntKind.u64.wrap (IntKind.u64.wrap a + 0)).fdiv (pw 4 IntKind.u64)), false),
 (decide (0 ≤ IntKind.u8.wrap (IntKind.u64.wrap (IntKind.u64.wrap (IntKind.u64.wrap a + 0) + 96))) &&
   decide (IntKind.u8.wrap (IntKind.u64.wrap (IntKind.u64.wrap (IntKind.u64.wrap a + 0) + 96)) ≤ 255), true)]
noncomputable def daa14FTV0 (a : Int) (s : Bool) (z : Bool) (p : Bool) : Value := Value.tuple
  {
    toList :=
      [Value.int IntKind.u8 (IntKind.u8.wrap (IntKind.u64.wrap (IntKind.u64.wrap (IntKind.u64.wrap a + 0) + 96))),
        Value.agg
          {
            toList :=
              [Value.bool
                  (bits BinOp.and IntKind.u8
                      (IntKind.u8.wrap (IntKind.u64.wrap (IntKind.u64.wrap (IntKind.u64.wrap a + 0) + 96))) 128 !=
                    0),
                Value.bool (IntKind.u8.wrap (IntKind.u64.wrap (IntKind.u64.wrap (IntKind.u64.wrap a + 0) + 96)) == 0),
                Value.bool false,
                Value.bool (par (IntKind.u8.wrap (IntKind.u64.wrap (IntKind.u64.wrap (IntKind.u64.wrap a + 0) + 96)))),
                Value.bool true] }] }
theorem daa14FTR0 (a : Int) (s : Bool) (z : Bool) (p : Bool) : (Ly.run (wctx) 20000 [(0, true), (0, true), (0, false), (2, true), (0, true), (0, false), (5, true)] (Ly.start Try.f81 ([Value.int
    IntKind.u8 a,
  Value.agg
    {
      toList :=
        [Value.bool s, Value.bool z, Value.bool false, Value.bool p,
          Value.bool true] }]) H0)).out? = some (daa14FTT0 a s z p, daa14FTV0 a s z p) := by kernel_rfl
noncomputable def daa14FTT1 (a : Int) (s : Bool) (z : Bool) (p : Bool) : List (Bool × Bool) := [(decide
     (9 < bits BinOp.and IntKind.u8 a 15) ==
   false, true),
 (decide (9 < bits BinOp.and IntKind.u8 a 15) == false, true),
 (decide (9 < bits BinOp.and IntKind.u8 a 15), false),
 (decide (9 < (IntKind.u64.wrap (IntKind.u64.wrap a + 0)).fdiv (pw 4 IntKind.u64)) == false, false),
 (decide (9 < (IntKind.u64.wrap (IntKind.u64.wrap a + 0)).fdiv (pw 4 IntKind.u64)) == false, false),
 (decide (9 < (IntKind.u64.wrap (IntKind.u64.wrap a + 0)).fdiv (pw 4 IntKind.u64)), true),
 (decide (0 ≤ IntKind.u8.wrap (IntKind.u64.wrap (IntKind.u64.wrap (IntKind.u64.wrap a + 0) + 96))) &&
   decide (IntKind.u8.wrap (IntKind.u64.wrap (IntKind.u64.wrap (IntKind.u64.wrap a + 0) + 96)) ≤ 255), true)]
noncomputable def daa14FTV1 (a : Int) (s : Bool) (z : Bool) (p : Bool) : Value := Value.tuple
  {
    toList :=
      [Value.int IntKind.u8 (IntKind.u8.wrap (IntKind.u64.wrap (IntKind.u64.wrap (IntKind.u64.wrap a + 0) + 96))),
        Value.agg
          {
            toList :=
              [Value.bool
                  (bits BinOp.and IntKind.u8
                      (IntKind.u8.wrap (IntKind.u64.wrap (IntKind.u64.wrap (IntKind.u64.wrap a + 0) + 96))) 128 !=
                    0),
                Value.bool (IntKind.u8.wrap (IntKind.u64.wrap (IntKind.u64.wrap (IntKind.u64.wrap a + 0) + 96)) == 0),
                Value.bool false,
                Value.bool (par (IntKind.u8.wrap (IntKind.u64.wrap (IntKind.u64.wrap (IntKind.u64.wrap a + 0) + 96)))),
                Value.bool true] }] }
theorem daa14FTR1 (a : Int) (s : Bool) (z : Bool) (p : Bool) : (Ly.run (wctx) 20000 [(0, true), (0, true), (0, false), (2, false), (0, false), (0, true), (5, true)] (Ly.start Try.f81 ([Value.int
    IntKind.u8 a,
  Value.agg
    {
      toList :=
        [Value.bool s, Value.bool z, Value.bool false, Value.bool p,
          Value.bool true] }]) H0)).out? = some (daa14FTT1 a s z p, daa14FTV1 a s z p) := by kernel_rfl
noncomputable def daa14FTT2 (a : Int) (s : Bool) (z : Bool) (p : Bool) : List (Bool × Bool) := [(decide
     (9 < bits BinOp.and IntKind.u8 a 15) ==
   false, false),
 (decide (9 < bits BinOp.and IntKind.u8 a 15) == false, false),
 (decide (9 < bits BinOp.and IntKind.u8 a 15), true),
 (decide (9 < (IntKind.u64.wrap (IntKind.u64.wrap a + 6)).fdiv (pw 4 IntKind.u64)) == false, true),
 (decide (9 < (IntKind.u64.wrap (IntKind.u64.wrap a + 6)).fdiv (pw 4 IntKind.u64)) == false, true),
 (decide (9 < (IntKind.u64.wrap (IntKind.u64.wrap a + 6)).fdiv (pw 4 IntKind.u64)), false),
 (decide (0 ≤ IntKind.u8.wrap (IntKind.u64.wrap (IntKind.u64.wrap (IntKind.u64.wrap a + 6) + 96))) &&
   decide (IntKind.u8.wrap (IntKind.u64.wrap (IntKind.u64.wrap (IntKind.u64.wrap a + 6) + 96)) ≤ 255), true)]
noncomputable def daa14FTV2 (a : Int) (s : Bool) (z : Bool) (p : Bool) : Value := Value.tuple
  {
    toList :=
      [Value.int IntKind.u8 (IntKind.u8.wrap (IntKind.u64.wrap (IntKind.u64.wrap (IntKind.u64.wrap a + 6) + 96))),
        Value.agg
          {
            toList :=
              [Value.bool
                  (bits BinOp.and IntKind.u8
                      (IntKind.u8.wrap (IntKind.u64.wrap (IntKind.u64.wrap (IntKind.u64.wrap a + 6) + 96))) 128 !=
                    0),
                Value.bool (IntKind.u8.wrap (IntKind.u64.wrap (IntKind.u64.wrap (IntKind.u64.wrap a + 6) + 96)) == 0),
                Value.bool (decide (9 < bits BinOp.and IntKind.u8 a 15)),
                Value.bool (par (IntKind.u8.wrap (IntKind.u64.wrap (IntKind.u64.wrap (IntKind.u64.wrap a + 6) + 96)))),
                Value.bool true] }] }
theorem daa14FTR2 (a : Int) (s : Bool) (z : Bool) (p : Bool) : (Ly.run (wctx) 20000 [(0, false), (0, false), (0, true), (2, true), (0, true), (0, false), (5, true)] (Ly.start Try.f81 ([Value.int
    IntKind.u8 a,
  Value.agg
    {
      toList :=
        [Value.bool s, Value.bool z, Value.bool false, Value.bool p,
          Value.bool true] }]) H0)).out? = some (daa14FTT2 a s z p, daa14FTV2 a s z p) := by kernel_rfl
noncomputable def daa14FTT3 (a : Int) (s : Bool) (z : Bool) (p : Bool) : List (Bool × Bool) := [(decide
     (9 < bits BinOp.and IntKind.u8 a 15) ==
   false, false),
 (decide (9 < bits BinOp.and IntKind.u8 a 15) == false, false),
 (decide (9 < bits BinOp.and IntKind.u8 a 15), true),
 (decide (9 < (IntKind.u64.wrap (IntKind.u64.wrap a + 6)).fdiv (pw 4 IntKind.u64)) == false, false),
 (decide (9 < (IntKind.u64.wrap (IntKind.u64.wrap a + 6)).fdiv (pw 4 IntKind.u64)) == false, false),
 (decide (9 < (IntKind.u64.wrap (IntKind.u64.wrap a + 6)).fdiv (pw 4 IntKind.u64)), true),
 (decide (0 ≤ IntKind.u8.wrap (IntKind.u64.wrap (IntKind.u64.wrap (IntKind.u64.wrap a + 6) + 96))) &&
   decide (IntKind.u8.wrap (IntKind.u64.wrap (IntKind.u64.wrap (IntKind.u64.wrap a + 6) + 96)) ≤ 255), true)]
noncomputable def daa14FTV3 (a : Int) (s : Bool) (z : Bool) (p : Bool) : Value := Value.tuple
  {
    toList :=
      [Value.int IntKind.u8 (IntKind.u8.wrap (IntKind.u64.wrap (IntKind.u64.wrap (IntKind.u64.wrap a + 6) + 96))),
        Value.agg
          {
            toList :=
              [Value.bool
                  (bits BinOp.and IntKind.u8
                      (IntKind.u8.wrap (IntKind.u64.wrap (IntKind.u64.wrap (IntKind.u64.wrap a + 6) + 96))) 128 !=
                    0),
                Value.bool (IntKind.u8.wrap (IntKind.u64.wrap (IntKind.u64.wrap (IntKind.u64.wrap a + 6) + 96)) == 0),
                Value.bool (decide (9 < bits BinOp.and IntKind.u8 a 15)),
                Value.bool (par (IntKind.u8.wrap (IntKind.u64.wrap (IntKind.u64.wrap (IntKind.u64.wrap a + 6) + 96)))),
                Value.bool true] }] }
theorem daa14FTR3 (a : Int) (s : Bool) (z : Bool) (p : Bool) : (Ly.run (wctx) 20000 [(0, false), (0, false), (0, true), (2, false), (0, false), (0, true), (5, true)] (Ly.start Try.f81 ([Value.int
    IntKind.u8 a,
  Value.agg
    {
      toList :=
        [Value.bool s, Value.bool z, Value.bool false, Value.bool p,
          Value.bool true] }]) H0)).out? = some (daa14FTT3 a s z p, daa14FTV3 a s z p) := by kernel_rfl
noncomputable def daa32FTT0 (a : Int) (s : Bool) (z : Bool) (p : Bool) : List (Bool × Bool) := [(decide
     (9 < (IntKind.i64.wrap a).tmod 16) ==
   false, true),
 (decide (9 < (IntKind.i64.wrap a).tmod 16) == false, true),
 (decide (9 < (IntKind.i64.wrap a).tmod 16), false),
 (decide (9 < IntKind.i64.wrap ((IntKind.i64.wrap a).tdiv 16)) == false, true),
 (decide (9 < IntKind.i64.wrap ((IntKind.i64.wrap a).tdiv 16)) == false, true),
 (decide (9 < IntKind.i64.wrap ((IntKind.i64.wrap a).tdiv 16)), false),
 (decide (0 ≤ IntKind.u8.wrap (bits BinOp.and IntKind.i64 (IntKind.i64.wrap (IntKind.i64.wrap a + 96)) 255)) &&
   decide (IntKind.u8.wrap (bits BinOp.and IntKind.i64 (IntKind.i64.wrap (IntKind.i64.wrap a + 96)) 255) ≤ 255), true)]
noncomputable def daa32FTV0 (a : Int) (s : Bool) (z : Bool) (p : Bool) : Value := Value.tuple
  {
    toList :=
      [Value.int IntKind.u8
          (IntKind.u8.wrap (bits BinOp.and IntKind.i64 (IntKind.i64.wrap (IntKind.i64.wrap a + 96)) 255)),
        Value.agg
          {
            toList :=
              [Value.bool
                  (decide
                    (128 ≤
                      IntKind.u8.wrap (bits BinOp.and IntKind.i64 (IntKind.i64.wrap (IntKind.i64.wrap a + 96)) 255))),
                Value.bool
                  (IntKind.u8.wrap (bits BinOp.and IntKind.i64 (IntKind.i64.wrap (IntKind.i64.wrap a + 96)) 255) == 0),
                Value.bool false,
                Value.bool
                  (par (IntKind.u8.wrap (bits BinOp.and IntKind.i64 (IntKind.i64.wrap (IntKind.i64.wrap a + 96)) 255))),
                Value.bool true] }] }
theorem daa32FTR0 (a : Int) (s : Bool) (z : Bool) (p : Bool) : (Ly.run (wctx) 20000 [(1, true), (0, true), (0, false), (2, true), (0, true), (0, false), (1, true)] (Ly.start Try.f91 ([Value.int
    IntKind.u8 a,
  Value.agg
    {
      toList :=
        [Value.bool s, Value.bool z, Value.bool false, Value.bool p,
          Value.bool true] }]) H0)).out? = some (daa32FTT0 a s z p, daa32FTV0 a s z p) := by kernel_rfl
noncomputable def daa32FTT1 (a : Int) (s : Bool) (z : Bool) (p : Bool) : List (Bool × Bool) := [(decide
     (9 < (IntKind.i64.wrap a).tmod 16) ==
   false, true),
 (decide (9 < (IntKind.i64.wrap a).tmod 16) == false, true),
 (decide (9 < (IntKind.i64.wrap a).tmod 16), false),
 (decide (9 < IntKind.i64.wrap ((IntKind.i64.wrap a).tdiv 16)) == false, false),
 (decide (9 < IntKind.i64.wrap ((IntKind.i64.wrap a).tdiv 16)) == false, false),
 (decide (9 < IntKind.i64.wrap ((IntKind.i64.wrap a).tdiv 16)), true),
 (decide (0 ≤ IntKind.u8.wrap (bits BinOp.and IntKind.i64 (IntKind.i64.wrap (IntKind.i64.wrap a + 96)) 255)) &&
   decide (IntKind.u8.wrap (bits BinOp.and IntKind.i64 (IntKind.i64.wrap (IntKind.i64.wrap a + 96)) 255) ≤ 255), true)]
noncomputable def daa32FTV1 (a : Int) (s : Bool) (z : Bool) (p : Bool) : Value := Value.tuple
  {
    toList :=
      [Value.int IntKind.u8
          (IntKind.u8.wrap (bits BinOp.and IntKind.i64 (IntKind.i64.wrap (IntKind.i64.wrap a + 96)) 255)),
        Value.agg
          {
            toList :=
              [Value.bool
                  (decide
                    (128 ≤
                      IntKind.u8.wrap (bits BinOp.and IntKind.i64 (IntKind.i64.wrap (IntKind.i64.wrap a + 96)) 255))),
                Value.bool
                  (IntKind.u8.wrap (bits BinOp.and IntKind.i64 (IntKind.i64.wrap (IntKind.i64.wrap a + 96)) 255) == 0),
                Value.bool false,
                Value.bool
                  (par (IntKind.u8.wrap (bits BinOp.and IntKind.i64 (IntKind.i64.wrap (IntKind.i64.wrap a + 96)) 255))),
                Value.bool true] }] }
theorem daa32FTR1 (a : Int) (s : Bool) (z : Bool) (p : Bool) : (Ly.run (wctx) 20000 [(1, true), (0, true), (0, false), (2, false), (0, false), (0, true), (1, true)] (Ly.start Try.f91 ([Value.int
    IntKind.u8 a,
  Value.agg
    {
      toList :=
        [Value.bool s, Value.bool z, Value.bool false, Value.bool p,
          Value.bool true] }]) H0)).out? = some (daa32FTT1 a s z p, daa32FTV1 a s z p) := by kernel_rfl
noncomputable def daa32FTT2 (a : Int) (s : Bool) (z : Bool) (p : Bool) : List (Bool × Bool) := [(decide
     (9 < (IntKind.i64.wrap a).tmod 16) ==
   false, false),
 (decide (9 < (IntKind.i64.wrap a).tmod 16) == false, false),
 (decide (9 < (IntKind.i64.wrap a).tmod 16), true),
 (decide (9 < IntKind.i64.wrap ((IntKind.i64.wrap (IntKind.i64.wrap a + 6)).tdiv 16)) == false, true),
 (decide (9 < IntKind.i64.wrap ((IntKind.i64.wrap (IntKind.i64.wrap a + 6)).tdiv 16)) == false, true),
 (decide (9 < IntKind.i64.wrap ((IntKind.i64.wrap (IntKind.i64.wrap a + 6)).tdiv 16)), false),
 (decide
     (0 ≤
       IntKind.u8.wrap
         (bits BinOp.and IntKind.i64 (IntKind.i64.wrap (IntKind.i64.wrap (IntKind.i64.wrap a + 6) + 96)) 255)) &&
   decide
     (IntKind.u8.wrap
         (bits BinOp.and IntKind.i64 (IntKind.i64.wrap (IntKind.i64.wrap (IntKind.i64.wrap a + 6) + 96)) 255) ≤
       255), true)]
noncomputable def daa32FTV2 (a : Int) (s : Bool) (z : Bool) (p : Bool) : Value := Value.tuple
  {
    toList :=
      [Value.int IntKind.u8
          (IntKind.u8.wrap
            (bits BinOp.and IntKind.i64 (IntKind.i64.wrap (IntKind.i64.wrap (IntKind.i64.wrap a + 6) + 96)) 255)),
        Value.agg
          {
            toList :=
              [Value.bool
                  (decide
                    (128 ≤
                      IntKind.u8.wrap
                        (bits BinOp.and IntKind.i64 (IntKind.i64.wrap (IntKind.i64.wrap (IntKind.i64.wrap a + 6) + 96))
                          255))),
                Value.bool
                  (IntKind.u8.wrap
                      (bits BinOp.and IntKind.i64 (IntKind.i64.wrap (IntKind.i64.wrap (IntKind.i64.wrap a + 6) + 96))
                        255) ==
                    0),
                Value.bool (decide (15 < IntKind.i64.wrap ((IntKind.i64.wrap a).tmod 16 + 6))),
                Value.bool
                  (par
                    (IntKind.u8.wrap
                      (bits BinOp.and IntKind.i64 (IntKind.i64.wrap (IntKind.i64.wrap (IntKind.i64.wrap a + 6) + 96))
                        255))),
                Value.bool true] }] }
theorem daa32FTR2 (a : Int) (s : Bool) (z : Bool) (p : Bool) : (Ly.run (wctx) 20000 [(1, false), (0, false), (0, true), (3, true), (0, true), (0, false), (1, true)] (Ly.start Try.f91 ([Value.int
    IntKind.u8 a,
  Value.agg
    {
      toList :=
        [Value.bool s, Value.bool z, Value.bool false, Value.bool p,
          Value.bool true] }]) H0)).out? = some (daa32FTT2 a s z p, daa32FTV2 a s z p) := by kernel_rfl
noncomputable def daa32FTT3 (a : Int) (s : Bool) (z : Bool) (p : Bool) : List (Bool × Bool) := [(decide
     (9 < (IntKind.i64.wrap a).tmod 16) ==
   false, false),
 (decide (9 < (IntKind.i64.wrap a).tmod 16) == false, false),
 (decide (9 < (IntKind.i64.wrap a).tmod 16), true),
 (decide (9 < IntKind.i64.wrap ((IntKind.i64.wrap (IntKind.i64.wrap a + 6)).tdiv 16)) == false, false),
 (decide (9 < IntKind.i64.wrap ((IntKind.i64.wrap (IntKind.i64.wrap a + 6)).tdiv 16)) == false, false),
 (decide (9 < IntKind.i64.wrap ((IntKind.i64.wrap (IntKind.i64.wrap a + 6)).tdiv 16)), true),
 (decide
     (0 ≤
       IntKind.u8.wrap
         (bits BinOp.and IntKind.i64 (IntKind.i64.wrap (IntKind.i64.wrap (IntKind.i64.wrap a + 6) + 96)) 255)) &&
   decide
     (IntKind.u8.wrap
         (bits BinOp.and IntKind.i64 (IntKind.i64.wrap (IntKind.i64.wrap (IntKind.i64.wrap a + 6) + 96)) 255) ≤
       255), true)]
noncomputable def daa32FTV3 (a : Int) (s : Bool) (z : Bool) (p : Bool) : Value := Value.tuple
  {
    toList :=
      [Value.int IntKind.u8
          (IntKind.u8.wrap
            (bits BinOp.and IntKind.i64 (IntKind.i64.wrap (IntKind.i64.wrap (IntKind.i64.wrap a + 6) + 96)) 255)),
        Value.agg
          {
            toList :=
              [Value.bool
                  (decide
                    (128 ≤
                      IntKind.u8.wrap
                        (bits BinOp.and IntKind.i64 (IntKind.i64.wrap (IntKind.i64.wrap (IntKind.i64.wrap a + 6) + 96))
                          255))),
                Value.bool
                  (IntKind.u8.wrap
                      (bits BinOp.and IntKind.i64 (IntKind.i64.wrap (IntKind.i64.wrap (IntKind.i64.wrap a + 6) + 96))
                        255) ==
                    0),
                Value.bool (decide (15 < IntKind.i64.wrap ((IntKind.i64.wrap a).tmod 16 + 6))),
                Value.bool
                  (par
                    (IntKind.u8.wrap
                      (bits BinOp.and IntKind.i64 (IntKind.i64.wrap (IntKind.i64.wrap (IntKind.i64.wrap a + 6) + 96))
                        255))),
                Value.bool true] }] }
theorem daa32FTR3 (a : Int) (s : Bool) (z : Bool) (p : Bool) : (Ly.run (wctx) 20000 [(1, false), (0, false), (0, true), (3, false), (0, false), (0, true), (1, true)] (Ly.start Try.f91 ([Value.int
    IntKind.u8 a,
  Value.agg
    {
      toList :=
        [Value.bool s, Value.bool z, Value.bool false, Value.bool p,
          Value.bool true] }]) H0)).out? = some (daa32FTT3 a s z p, daa32FTV3 a s z p) := by kernel_rfl
noncomputable def daa14TFT0 (a : Int) (s : Bool) (z : Bool) (p : Bool) : List (Bool × Bool) := [(decide
     (9 < bits BinOp.and IntKind.u8 a 15) ==
   false, true),
 (decide (9 < bits BinOp.and IntKind.u8 a 15) == false, true),
 (decide (9 < bits BinOp.and IntKind.u8 a 15), false),
 (decide (9 < (IntKind.u64.wrap (IntKind.u64.wrap a + 6)).fdiv (pw 4 IntKind.u64)) == false, true),
 (decide (9 < (IntKind.u64.wrap (IntKind.u64.wrap a + 6)).fdiv (pw 4 IntKind.u64)) == false, true),
 (decide (9 < (IntKind.u64.wrap (IntKind.u64.wrap a + 6)).fdiv (pw 4 IntKind.u64)), false),
 (decide (0 ≤ IntKind.u8.wrap (IntKind.u64.wrap (IntKind.u64.wrap (IntKind.u64.wrap a + 6) + 0))) &&
   decide (IntKind.u8.wrap (IntKind.u64.wrap (IntKind.u64.wrap (IntKind.u64.wrap a + 6) + 0)) ≤ 255), true)]
noncomputable def daa14TFV0 (a : Int) (s : Bool) (z : Bool) (p : Bool) : Value := Value.tuple
  {
    toList :=
      [Value.int IntKind.u8 (IntKind.u8.wrap (IntKind.u64.wrap (IntKind.u64.wrap (IntKind.u64.wrap a + 6) + 0))),
        Value.agg
          {
            toList :=
              [Value.bool
                  (bits BinOp.and IntKind.u8
                      (IntKind.u8.wrap (IntKind.u64.wrap (IntKind.u64.wrap (IntKind.u64.wrap a + 6) + 0))) 128 !=
                    0),
                Value.bool (IntKind.u8.wrap (IntKind.u64.wrap (IntKind.u64.wrap (IntKind.u64.wrap a + 6) + 0)) == 0),
                Value.bool (decide (9 < bits BinOp.and IntKind.u8 a 15)),
                Value.bool (par (IntKind.u8.wrap (IntKind.u64.wrap (IntKind.u64.wrap (IntKind.u64.wrap a + 6) + 0)))),
                Value.bool false] }] }
theorem daa14TFR0 (a : Int) (s : Bool) (z : Bool) (p : Bool) : (Ly.run (wctx) 20000 [(0, true), (0, true), (0, false), (2, true), (0, true), (0, false), (5, true)] (Ly.start Try.f81 ([Value.int
    IntKind.u8 a,
  Value.agg
    {
      toList :=
        [Value.bool s, Value.bool z, Value.bool true, Value.bool p,
          Value.bool false] }]) H0)).out? = some (daa14TFT0 a s z p, daa14TFV0 a s z p) := by kernel_rfl
noncomputable def daa14TFT1 (a : Int) (s : Bool) (z : Bool) (p : Bool) : List (Bool × Bool) := [(decide
     (9 < bits BinOp.and IntKind.u8 a 15) ==
   false, true),
 (decide (9 < bits BinOp.and IntKind.u8 a 15) == false, true),
 (decide (9 < bits BinOp.and IntKind.u8 a 15), false),
 (decide (9 < (IntKind.u64.wrap (IntKind.u64.wrap a + 6)).fdiv (pw 4 IntKind.u64)) == false, false),
 (decide (9 < (IntKind.u64.wrap (IntKind.u64.wrap a + 6)).fdiv (pw 4 IntKind.u64)) == false, false),
 (decide (9 < (IntKind.u64.wrap (IntKind.u64.wrap a + 6)).fdiv (pw 4 IntKind.u64)), true),
 (decide (0 ≤ IntKind.u8.wrap (IntKind.u64.wrap (IntKind.u64.wrap (IntKind.u64.wrap a + 6) + 96))) &&
   decide (IntKind.u8.wrap (IntKind.u64.wrap (IntKind.u64.wrap (IntKind.u64.wrap a + 6) + 96)) ≤ 255), true)]
noncomputable def daa14TFV1 (a : Int) (s : Bool) (z : Bool) (p : Bool) : Value := Value.tuple
  {
    toList :=
      [Value.int IntKind.u8 (IntKind.u8.wrap (IntKind.u64.wrap (IntKind.u64.wrap (IntKind.u64.wrap a + 6) + 96))),
        Value.agg
          {
            toList :=
              [Value.bool
                  (bits BinOp.and IntKind.u8
                      (IntKind.u8.wrap (IntKind.u64.wrap (IntKind.u64.wrap (IntKind.u64.wrap a + 6) + 96))) 128 !=
                    0),
                Value.bool (IntKind.u8.wrap (IntKind.u64.wrap (IntKind.u64.wrap (IntKind.u64.wrap a + 6) + 96)) == 0),
                Value.bool (decide (9 < bits BinOp.and IntKind.u8 a 15)),
                Value.bool (par (IntKind.u8.wrap (IntKind.u64.wrap (IntKind.u64.wrap (IntKind.u64.wrap a + 6) + 96)))),
                Value.bool true] }] }
theorem daa14TFR1 (a : Int) (s : Bool) (z : Bool) (p : Bool) : (Ly.run (wctx) 20000 [(0, true), (0, true), (0, false), (2, false), (0, false), (0, true), (5, true)] (Ly.start Try.f81 ([Value.int
    IntKind.u8 a,
  Value.agg
    {
      toList :=
        [Value.bool s, Value.bool z, Value.bool true, Value.bool p,
          Value.bool false] }]) H0)).out? = some (daa14TFT1 a s z p, daa14TFV1 a s z p) := by kernel_rfl
noncomputable def daa14TFT2 (a : Int) (s : Bool) (z : Bool) (p : Bool) : List (Bool × Bool) := [(decide
     (9 < bits BinOp.and IntKind.u8 a 15) ==
   false, false),
 (decide (9 < bits BinOp.and IntKind.u8 a 15) == false, false),
 (decide (9 < bits BinOp.and IntKind.u8 a 15), true),
 (decide (9 < (IntKind.u64.wrap (IntKind.u64.wrap a + 6)).fdiv (pw 4 IntKind.u64)) == false, true),
 (decide (9 < (IntKind.u64.wrap (IntKind.u64.wrap a + 6)).fdiv (pw 4 IntKind.u64)) == false, true),
 (decide (9 < (IntKind.u64.wrap (IntKind.u64.wrap a + 6)).fdiv (pw 4 IntKind.u64)), false),
 (decide (0 ≤ IntKind.u8.wrap (IntKind.u64.wrap (IntKind.u64.wrap (IntKind.u64.wrap a + 6) + 0))) &&
   decide (IntKind.u8.wrap (IntKind.u64.wrap (IntKind.u64.wrap (IntKind.u64.wrap a + 6) + 0)) ≤ 255), true)]
noncomputable def daa14TFV2 (a : Int) (s : Bool) (z : Bool) (p : Bool) : Value := Value.tuple
  {
    toList :=
      [Value.int IntKind.u8 (IntKind.u8.wrap (IntKind.u64.wrap (IntKind.u64.wrap (IntKind.u64.wrap a + 6) + 0))),
        Value.agg
          {
            toList :=
              [Value.bool
                  (bits BinOp.and IntKind.u8
                      (IntKind.u8.wrap (IntKind.u64.wrap (IntKind.u64.wrap (IntKind.u64.wrap a + 6) + 0))) 128 !=
                    0),
                Value.bool (IntKind.u8.wrap (IntKind.u64.wrap (IntKind.u64.wrap (IntKind.u64.wrap a + 6) + 0)) == 0),
                Value.bool (decide (9 < bits BinOp.and IntKind.u8 a 15)),
                Value.bool (par (IntKind.u8.wrap (IntKind.u64.wrap (IntKind.u64.wrap (IntKind.u64.wrap a + 6) + 0)))),
                Value.bool false] }] }
theorem daa14TFR2 (a : Int) (s : Bool) (z : Bool) (p : Bool) : (Ly.run (wctx) 20000 [(0, false), (0, false), (0, true), (2, true), (0, true), (0, false), (5, true)] (Ly.start Try.f81 ([Value.int
    IntKind.u8 a,
  Value.agg
    {
      toList :=
        [Value.bool s, Value.bool z, Value.bool true, Value.bool p,
          Value.bool false] }]) H0)).out? = some (daa14TFT2 a s z p, daa14TFV2 a s z p) := by kernel_rfl
noncomputable def daa14TFT3 (a : Int) (s : Bool) (z : Bool) (p : Bool) : List (Bool × Bool) := [(decide
     (9 < bits BinOp.and IntKind.u8 a 15) ==
   false, false),
 (decide (9 < bits BinOp.and IntKind.u8 a 15) == false, false),
 (decide (9 < bits BinOp.and IntKind.u8 a 15), true),
 (decide (9 < (IntKind.u64.wrap (IntKind.u64.wrap a + 6)).fdiv (pw 4 IntKind.u64)) == false, false),
 (decide (9 < (IntKind.u64.wrap (IntKind.u64.wrap a + 6)).fdiv (pw 4 IntKind.u64)) == false, false),
 (decide (9 < (IntKind.u64.wrap (IntKind.u64.wrap a + 6)).fdiv (pw 4 IntKind.u64)), true),
 (decide (0 ≤ IntKind.u8.wrap (IntKind.u64.wrap (IntKind.u64.wrap (IntKind.u64.wrap a + 6) + 96))) &&
   decide (IntKind.u8.wrap (IntKind.u64.wrap (IntKind.u64.wrap (IntKind.u64.wrap a + 6) + 96)) ≤ 255), true)]
noncomputable def daa14TFV3 (a : Int) (s : Bool) (z : Bool) (p : Bool) : Value := Value.tuple
  {
    toList :=
      [Value.int IntKind.u8 (IntKind.u8.wrap (IntKind.u64.wrap (IntKind.u64.wrap (IntKind.u64.wrap a + 6) + 96))),
        Value.agg
          {
            toList :=
              [Value.bool
                  (bits BinOp.and IntKind.u8
                      (IntKind.u8.wrap (IntKind.u64.wrap (IntKind.u64.wrap (IntKind.u64.wrap a + 6) + 96))) 128 !=
                    0),
                Value.bool (IntKind.u8.wrap (IntKind.u64.wrap (IntKind.u64.wrap (IntKind.u64.wrap a + 6) + 96)) == 0),
                Value.bool (decide (9 < bits BinOp.and IntKind.u8 a 15)),
                Value.bool (par (IntKind.u8.wrap (IntKind.u64.wrap (IntKind.u64.wrap (IntKind.u64.wrap a + 6) + 96)))),
                Value.bool true] }] }
theorem daa14TFR3 (a : Int) (s : Bool) (z : Bool) (p : Bool) : (Ly.run (wctx) 20000 [(0, false), (0, false), (0, true), (2, false), (0, false), (0, true), (5, true)] (Ly.start Try.f81 ([Value.int
    IntKind.u8 a,
  Value.agg
    {
      toList :=
        [Value.bool s, Value.bool z, Value.bool true, Value.bool p,
          Value.bool false] }]) H0)).out? = some (daa14TFT3 a s z p, daa14TFV3 a s z p) := by kernel_rfl
noncomputable def daa32TFT0 (a : Int) (s : Bool) (z : Bool) (p : Bool) : List (Bool × Bool) := [(decide
     (9 < (IntKind.i64.wrap a).tmod 16) ==
   false, true),
 (decide (9 < (IntKind.i64.wrap a).tmod 16) == false, true),
 (decide (9 < (IntKind.i64.wrap a).tmod 16), false),
 (decide (9 < IntKind.i64.wrap ((IntKind.i64.wrap (IntKind.i64.wrap a + 6)).tdiv 16)) == false, true),
 (decide (9 < IntKind.i64.wrap ((IntKind.i64.wrap (IntKind.i64.wrap a + 6)).tdiv 16)) == false, true),
 (decide (9 < IntKind.i64.wrap ((IntKind.i64.wrap (IntKind.i64.wrap a + 6)).tdiv 16)), false),
 (decide (0 ≤ IntKind.u8.wrap (bits BinOp.and IntKind.i64 (IntKind.i64.wrap (IntKind.i64.wrap a + 6)) 255)) &&
   decide (IntKind.u8.wrap (bits BinOp.and IntKind.i64 (IntKind.i64.wrap (IntKind.i64.wrap a + 6)) 255) ≤ 255), true)]
noncomputable def daa32TFV0 (a : Int) (s : Bool) (z : Bool) (p : Bool) : Value := Value.tuple
  {
    toList :=
      [Value.int IntKind.u8
          (IntKind.u8.wrap (bits BinOp.and IntKind.i64 (IntKind.i64.wrap (IntKind.i64.wrap a + 6)) 255)),
        Value.agg
          {
            toList :=
              [Value.bool
                  (decide
                    (128 ≤
                      IntKind.u8.wrap (bits BinOp.and IntKind.i64 (IntKind.i64.wrap (IntKind.i64.wrap a + 6)) 255))),
                Value.bool
                  (IntKind.u8.wrap (bits BinOp.and IntKind.i64 (IntKind.i64.wrap (IntKind.i64.wrap a + 6)) 255) == 0),
                Value.bool (decide (15 < IntKind.i64.wrap ((IntKind.i64.wrap a).tmod 16 + 6))),
                Value.bool
                  (par (IntKind.u8.wrap (bits BinOp.and IntKind.i64 (IntKind.i64.wrap (IntKind.i64.wrap a + 6)) 255))),
                Value.bool false] }] }
theorem daa32TFR0 (a : Int) (s : Bool) (z : Bool) (p : Bool) : (Ly.run (wctx) 20000 [(1, true), (0, true), (0, false), (3, true), (0, true), (0, false), (1, true)] (Ly.start Try.f91 ([Value.int
    IntKind.u8 a,
  Value.agg
    {
      toList :=
        [Value.bool s, Value.bool z, Value.bool true, Value.bool p,
          Value.bool false] }]) H0)).out? = some (daa32TFT0 a s z p, daa32TFV0 a s z p) := by kernel_rfl
noncomputable def daa32TFT1 (a : Int) (s : Bool) (z : Bool) (p : Bool) : List (Bool × Bool) := [(decide
     (9 < (IntKind.i64.wrap a).tmod 16) ==
   false, true),
 (decide (9 < (IntKind.i64.wrap a).tmod 16) == false, true),
 (decide (9 < (IntKind.i64.wrap a).tmod 16), false),
 (decide (9 < IntKind.i64.wrap ((IntKind.i64.wrap (IntKind.i64.wrap a + 6)).tdiv 16)) == false, false),
 (decide (9 < IntKind.i64.wrap ((IntKind.i64.wrap (IntKind.i64.wrap a + 6)).tdiv 16)) == false, false),
 (decide (9 < IntKind.i64.wrap ((IntKind.i64.wrap (IntKind.i64.wrap a + 6)).tdiv 16)), true),
 (decide
     (0 ≤
       IntKind.u8.wrap
         (bits BinOp.and IntKind.i64 (IntKind.i64.wrap (IntKind.i64.wrap (IntKind.i64.wrap a + 6) + 96)) 255)) &&
   decide
     (IntKind.u8.wrap
         (bits BinOp.and IntKind.i64 (IntKind.i64.wrap (IntKind.i64.wrap (IntKind.i64.wrap a + 6) + 96)) 255) ≤
       255), true)]
noncomputable def daa32TFV1 (a : Int) (s : Bool) (z : Bool) (p : Bool) : Value := Value.tuple
  {
    toList :=
      [Value.int IntKind.u8
          (IntKind.u8.wrap
            (bits BinOp.and IntKind.i64 (IntKind.i64.wrap (IntKind.i64.wrap (IntKind.i64.wrap a + 6) + 96)) 255)),
        Value.agg
          {
            toList :=
              [Value.bool
                  (decide
                    (128 ≤
                      IntKind.u8.wrap
                        (bits BinOp.and IntKind.i64 (IntKind.i64.wrap (IntKind.i64.wrap (IntKind.i64.wrap a + 6) + 96))
                          255))),
                Value.bool
                  (IntKind.u8.wrap
                      (bits BinOp.and IntKind.i64 (IntKind.i64.wrap (IntKind.i64.wrap (IntKind.i64.wrap a + 6) + 96))
                        255) ==
                    0),
                Value.bool (decide (15 < IntKind.i64.wrap ((IntKind.i64.wrap a).tmod 16 + 6))),
                Value.bool
                  (par
                    (IntKind.u8.wrap
                      (bits BinOp.and IntKind.i64 (IntKind.i64.wrap (IntKind.i64.wrap (IntKind.i64.wrap a + 6) + 96))
                        255))),
                Value.bool true] }] }
theorem daa32TFR1 (a : Int) (s : Bool) (z : Bool) (p : Bool) : (Ly.run (wctx) 20000 [(1, true), (0, true), (0, false), (3, false), (0, false), (0, true), (1, true)] (Ly.start Try.f91 ([Value.int
    IntKind.u8 a,
  Value.agg
    {
      toList :=
        [Value.bool s, Value.bool z, Value.bool true, Value.bool p,
          Value.bool false] }]) H0)).out? = some (daa32TFT1 a s z p, daa32TFV1 a s z p) := by kernel_rfl
noncomputable def daa32TFT2 (a : Int) (s : Bool) (z : Bool) (p : Bool) : List (Bool × Bool) := [(decide
     (9 < (IntKind.i64.wrap a).tmod 16) ==
   false, false),
 (decide (9 < (IntKind.i64.wrap a).tmod 16) == false, false),
 (decide (9 < (IntKind.i64.wrap a).tmod 16), true),
 (decide (9 < IntKind.i64.wrap ((IntKind.i64.wrap (IntKind.i64.wrap a + 6)).tdiv 16)) == false, true),
 (decide (9 < IntKind.i64.wrap ((IntKind.i64.wrap (IntKind.i64.wrap a + 6)).tdiv 16)) == false, true),
 (decide (9 < IntKind.i64.wrap ((IntKind.i64.wrap (IntKind.i64.wrap a + 6)).tdiv 16)), false),
 (decide (0 ≤ IntKind.u8.wrap (bits BinOp.and IntKind.i64 (IntKind.i64.wrap (IntKind.i64.wrap a + 6)) 255)) &&
   decide (IntKind.u8.wrap (bits BinOp.and IntKind.i64 (IntKind.i64.wrap (IntKind.i64.wrap a + 6)) 255) ≤ 255), true)]
noncomputable def daa32TFV2 (a : Int) (s : Bool) (z : Bool) (p : Bool) : Value := Value.tuple
  {
    toList :=
      [Value.int IntKind.u8
          (IntKind.u8.wrap (bits BinOp.and IntKind.i64 (IntKind.i64.wrap (IntKind.i64.wrap a + 6)) 255)),
        Value.agg
          {
            toList :=
              [Value.bool
                  (decide
                    (128 ≤
                      IntKind.u8.wrap (bits BinOp.and IntKind.i64 (IntKind.i64.wrap (IntKind.i64.wrap a + 6)) 255))),
                Value.bool
                  (IntKind.u8.wrap (bits BinOp.and IntKind.i64 (IntKind.i64.wrap (IntKind.i64.wrap a + 6)) 255) == 0),
                Value.bool (decide (15 < IntKind.i64.wrap ((IntKind.i64.wrap a).tmod 16 + 6))),
                Value.bool
                  (par (IntKind.u8.wrap (bits BinOp.and IntKind.i64 (IntKind.i64.wrap (IntKind.i64.wrap a + 6)) 255))),
                Value.bool false] }] }
theorem daa32TFR2 (a : Int) (s : Bool) (z : Bool) (p : Bool) : (Ly.run (wctx) 20000 [(1, false), (0, false), (0, true), (3, true), (0, true), (0, false), (1, true)] (Ly.start Try.f91 ([Value.int
    IntKind.u8 a,
  Value.agg
    {
      toList :=
        [Value.bool s, Value.bool z, Value.bool true, Value.bool p,
          Value.bool false] }]) H0)).out? = some (daa32TFT2 a s z p, daa32TFV2 a s z p) := by kernel_rfl
noncomputable def daa32TFT3 (a : Int) (s : Bool) (z : Bool) (p : Bool) : List (Bool × Bool) := [(decide
     (9 < (IntKind.i64.wrap a).tmod 16) ==
   false, false),
 (decide (9 < (IntKind.i64.wrap a).tmod 16) == false, false),
 (decide (9 < (IntKind.i64.wrap a).tmod 16), true),
 (decide (9 < IntKind.i64.wrap ((IntKind.i64.wrap (IntKind.i64.wrap a + 6)).tdiv 16)) == false, false),
 (decide (9 < IntKind.i64.wrap ((IntKind.i64.wrap (IntKind.i64.wrap a + 6)).tdiv 16)) == false, false),
 (decide (9 < IntKind.i64.wrap ((IntKind.i64.wrap (IntKind.i64.wrap a + 6)).tdiv 16)), true),
 (decide
     (0 ≤
       IntKind.u8.wrap
         (bits BinOp.and IntKind.i64 (IntKind.i64.wrap (IntKind.i64.wrap (IntKind.i64.wrap a + 6) + 96)) 255)) &&
   decide
     (IntKind.u8.wrap
         (bits BinOp.and IntKind.i64 (IntKind.i64.wrap (IntKind.i64.wrap (IntKind.i64.wrap a + 6) + 96)) 255) ≤
       255), true)]
noncomputable def daa32TFV3 (a : Int) (s : Bool) (z : Bool) (p : Bool) : Value := Value.tuple
  {
    toList :=
      [Value.int IntKind.u8
          (IntKind.u8.wrap
            (bits BinOp.and IntKind.i64 (IntKind.i64.wrap (IntKind.i64.wrap (IntKind.i64.wrap a + 6) + 96)) 255)),
        Value.agg
          {
            toList :=
              [Value.bool
                  (decide
                    (128 ≤
                      IntKind.u8.wrap
                        (bits BinOp.and IntKind.i64 (IntKind.i64.wrap (IntKind.i64.wrap (IntKind.i64.wrap a + 6) + 96))
                          255))),
                Value.bool
                  (IntKind.u8.wrap
                      (bits BinOp.and IntKind.i64 (IntKind.i64.wrap (IntKind.i64.wrap (IntKind.i64.wrap a + 6) + 96))
                        255) ==
                    0),
                Value.bool (decide (15 < IntKind.i64.wrap ((IntKind.i64.wrap a).tmod 16 + 6))),
                Value.bool
                  (par
                    (IntKind.u8.wrap
                      (bits BinOp.and IntKind.i64 (IntKind.i64.wrap (IntKind.i64.wrap (IntKind.i64.wrap a + 6) + 96))
                        255))),
                Value.bool true] }] }
theorem daa32TFR3 (a : Int) (s : Bool) (z : Bool) (p : Bool) : (Ly.run (wctx) 20000 [(1, false), (0, false), (0, true), (3, false), (0, false), (0, true), (1, true)] (Ly.start Try.f91 ([Value.int
    IntKind.u8 a,
  Value.agg
    {
      toList :=
        [Value.bool s, Value.bool z, Value.bool true, Value.bool p,
          Value.bool false] }]) H0)).out? = some (daa32TFT3 a s z p, daa32TFV3 a s z p) := by kernel_rfl
noncomputable def daa14TTT0 (a : Int) (s : Bool) (z : Bool) (p : Bool) : List (Bool × Bool) := [(decide
     (9 < bits BinOp.and IntKind.u8 a 15) ==
   false, true),
 (decide (9 < bits BinOp.and IntKind.u8 a 15) == false, true),
 (decide (9 < bits BinOp.and IntKind.u8 a 15), false),
 (decide (9 < (IntKind.u64.wrap (IntKind.u64.wrap a + 6)).fdiv (pw 4 IntKind.u64)) == false, true),
 (decide (9 < (IntKind.u64.wrap (IntKind.u64.wrap a + 6)).fdiv (pw 4 IntKind.u64)) == false, true),
 (decide (9 < (IntKind.u64.wrap (IntKind.u64.wrap a + 6)).fdiv (pw 4 IntKind.u64)), false),
 (decide (0 ≤ IntKind.u8.wrap (IntKind.u64.wrap (IntKind.u64.wrap (IntKind.u64.wrap a + 6) + 96))) &&
   decide (IntKind.u8.wrap (IntKind.u64.wrap (IntKind.u64.wrap (IntKind.u64.wrap a + 6) + 96)) ≤ 255), true)]
noncomputable def daa14TTV0 (a : Int) (s : Bool) (z : Bool) (p : Bool) : Value := Value.tuple
  {
    toList :=
      [Value.int IntKind.u8 (IntKind.u8.wrap (IntKind.u64.wrap (IntKind.u64.wrap (IntKind.u64.wrap a + 6) + 96))),
        Value.agg
          {
            toList :=
              [Value.bool
                  (bits BinOp.and IntKind.u8
                      (IntKind.u8.wrap (IntKind.u64.wrap (IntKind.u64.wrap (IntKind.u64.wrap a + 6) + 96))) 128 !=
                    0),
                Value.bool (IntKind.u8.wrap (IntKind.u64.wrap (IntKind.u64.wrap (IntKind.u64.wrap a + 6) + 96)) == 0),
                Value.bool (decide (9 < bits BinOp.and IntKind.u8 a 15)),
                Value.bool (par (IntKind.u8.wrap (IntKind.u64.wrap (IntKind.u64.wrap (IntKind.u64.wrap a + 6) + 96)))),
                Value.bool true] }] }
theorem daa14TTR0 (a : Int) (s : Bool) (z : Bool) (p : Bool) : (Ly.run (wctx) 20000 [(0, true), (0, true), (0, false), (2, true), (0, true), (0, false), (5, true)] (Ly.start Try.f81 ([Value.int
    IntKind.u8 a,
  Value.agg
    {
      toList :=
        [Value.bool s, Value.bool z, Value.bool true, Value.bool p,
          Value.bool true] }]) H0)).out? = some (daa14TTT0 a s z p, daa14TTV0 a s z p) := by kernel_rfl
noncomputable def daa14TTT1 (a : Int) (s : Bool) (z : Bool) (p : Bool) : List (Bool × Bool) := [(decide
     (9 < bits BinOp.and IntKind.u8 a 15) ==
   false, true),
 (decide (9 < bits BinOp.and IntKind.u8 a 15) == false, true),
 (decide (9 < bits BinOp.and IntKind.u8 a 15), false),
 (decide (9 < (IntKind.u64.wrap (IntKind.u64.wrap a + 6)).fdiv (pw 4 IntKind.u64)) == false, false),
 (decide (9 < (IntKind.u64.wrap (IntKind.u64.wrap a + 6)).fdiv (pw 4 IntKind.u64)) == false, false),
 (decide (9 < (IntKind.u64.wrap (IntKind.u64.wrap a + 6)).fdiv (pw 4 IntKind.u64)), true),
 (decide (0 ≤ IntKind.u8.wrap (IntKind.u64.wrap (IntKind.u64.wrap (IntKind.u64.wrap a + 6) + 96))) &&
   decide (IntKind.u8.wrap (IntKind.u64.wrap (IntKind.u64.wrap (IntKind.u64.wrap a + 6) + 96)) ≤ 255), true)]
noncomputable def daa14TTV1 (a : Int) (s : Bool) (z : Bool) (p : Bool) : Value := Value.tuple
  {
    toList :=
      [Value.int IntKind.u8 (IntKind.u8.wrap (IntKind.u64.wrap (IntKind.u64.wrap (IntKind.u64.wrap a + 6) + 96))),
        Value.agg
          {
            toList :=
              [Value.bool
                  (bits BinOp.and IntKind.u8
                      (IntKind.u8.wrap (IntKind.u64.wrap (IntKind.u64.wrap (IntKind.u64.wrap a + 6) + 96))) 128 !=
                    0),
                Value.bool (IntKind.u8.wrap (IntKind.u64.wrap (IntKind.u64.wrap (IntKind.u64.wrap a + 6) + 96)) == 0),
                Value.bool (decide (9 < bits BinOp.and IntKind.u8 a 15)),
                Value.bool (par (IntKind.u8.wrap (IntKind.u64.wrap (IntKind.u64.wrap (IntKind.u64.wrap a + 6) + 96)))),
                Value.bool true] }] }
theorem daa14TTR1 (a : Int) (s : Bool) (z : Bool) (p : Bool) : (Ly.run (wctx) 20000 [(0, true), (0, true), (0, false), (2, false), (0, false), (0, true), (5, true)] (Ly.start Try.f81 ([Value.int
    IntKind.u8 a,
  Value.agg
    {
      toList :=
        [Value.bool s, Value.bool z, Value.bool true, Value.bool p,
          Value.bool true] }]) H0)).out? = some (daa14TTT1 a s z p, daa14TTV1 a s z p) := by kernel_rfl
noncomputable def daa14TTT2 (a : Int) (s : Bool) (z : Bool) (p : Bool) : List (Bool × Bool) := [(decide
     (9 < bits BinOp.and IntKind.u8 a 15) ==
   false, false),
 (decide (9 < bits BinOp.and IntKind.u8 a 15) == false, false),
 (decide (9 < bits BinOp.and IntKind.u8 a 15), true),
 (decide (9 < (IntKind.u64.wrap (IntKind.u64.wrap a + 6)).fdiv (pw 4 IntKind.u64)) == false, true),
 (decide (9 < (IntKind.u64.wrap (IntKind.u64.wrap a + 6)).fdiv (pw 4 IntKind.u64)) == false, true),
 (decide (9 < (IntKind.u64.wrap (IntKind.u64.wrap a + 6)).fdiv (pw 4 IntKind.u64)), false),
 (decide (0 ≤ IntKind.u8.wrap (IntKind.u64.wrap (IntKind.u64.wrap (IntKind.u64.wrap a + 6) + 96))) &&
   decide (IntKind.u8.wrap (IntKind.u64.wrap (IntKind.u64.wrap (IntKind.u64.wrap a + 6) + 96)) ≤ 255), true)]
noncomputable def daa14TTV2 (a : Int) (s : Bool) (z : Bool) (p : Bool) : Value := Value.tuple
  {
    toList :=
      [Value.int IntKind.u8 (IntKind.u8.wrap (IntKind.u64.wrap (IntKind.u64.wrap (IntKind.u64.wrap a + 6) + 96))),
        Value.agg
          {
            toList :=
              [Value.bool
                  (bits BinOp.and IntKind.u8
                      (IntKind.u8.wrap (IntKind.u64.wrap (IntKind.u64.wrap (IntKind.u64.wrap a + 6) + 96))) 128 !=
                    0),
                Value.bool (IntKind.u8.wrap (IntKind.u64.wrap (IntKind.u64.wrap (IntKind.u64.wrap a + 6) + 96)) == 0),
                Value.bool (decide (9 < bits BinOp.and IntKind.u8 a 15)),
                Value.bool (par (IntKind.u8.wrap (IntKind.u64.wrap (IntKind.u64.wrap (IntKind.u64.wrap a + 6) + 96)))),
                Value.bool true] }] }
theorem daa14TTR2 (a : Int) (s : Bool) (z : Bool) (p : Bool) : (Ly.run (wctx) 20000 [(0, false), (0, false), (0, true), (2, true), (0, true), (0, false), (5, true)] (Ly.start Try.f81 ([Value.int
    IntKind.u8 a,
  Value.agg
    {
      toList :=
        [Value.bool s, Value.bool z, Value.bool true, Value.bool p,
          Value.bool true] }]) H0)).out? = some (daa14TTT2 a s z p, daa14TTV2 a s z p) := by kernel_rfl
noncomputable def daa14TTT3 (a : Int) (s : Bool) (z : Bool) (p : Bool) : List (Bool × Bool) := [(decide
     (9 < bits BinOp.and IntKind.u8 a 15) ==
   false, false),
 (decide (9 < bits BinOp.and IntKind.u8 a 15) == false, false),
 (decide (9 < bits BinOp.and IntKind.u8 a 15), true),
 (decide (9 < (IntKind.u64.wrap (IntKind.u64.wrap a + 6)).fdiv (pw 4 IntKind.u64)) == false, false),
 (decide (9 < (IntKind.u64.wrap (IntKind.u64.wrap a + 6)).fdiv (pw 4 IntKind.u64)) == false, false),
 (decide (9 < (IntKind.u64.wrap (IntKind.u64.wrap a + 6)).fdiv (pw 4 IntKind.u64)), true),
 (decide (0 ≤ IntKind.u8.wrap (IntKind.u64.wrap (IntKind.u64.wrap (IntKind.u64.wrap a + 6) + 96))) &&
   decide (IntKind.u8.wrap (IntKind.u64.wrap (IntKind.u64.wrap (IntKind.u64.wrap a + 6) + 96)) ≤ 255), true)]
noncomputable def daa14TTV3 (a : Int) (s : Bool) (z : Bool) (p : Bool) : Value := Value.tuple
  {
    toList :=
      [Value.int IntKind.u8 (IntKind.u8.wrap (IntKind.u64.wrap (IntKind.u64.wrap (IntKind.u64.wrap a + 6) + 96))),
        Value.agg
          {
            toList :=
              [Value.bool
                  (bits BinOp.and IntKind.u8
                      (IntKind.u8.wrap (IntKind.u64.wrap (IntKind.u64.wrap (IntKind.u64.wrap a + 6) + 96))) 128 !=
                    0),
                Value.bool (IntKind.u8.wrap (IntKind.u64.wrap (IntKind.u64.wrap (IntKind.u64.wrap a + 6) + 96)) == 0),
                Value.bool (decide (9 < bits BinOp.and IntKind.u8 a 15)),
                Value.bool (par (IntKind.u8.wrap (IntKind.u64.wrap (IntKind.u64.wrap (IntKind.u64.wrap a + 6) + 96)))),
                Value.bool true] }] }
theorem daa14TTR3 (a : Int) (s : Bool) (z : Bool) (p : Bool) : (Ly.run (wctx) 20000 [(0, false), (0, false), (0, true), (2, false), (0, false), (0, true), (5, true)] (Ly.start Try.f81 ([Value.int
    IntKind.u8 a,
  Value.agg
    {
      toList :=
        [Value.bool s, Value.bool z, Value.bool true, Value.bool p,
          Value.bool true] }]) H0)).out? = some (daa14TTT3 a s z p, daa14TTV3 a s z p) := by kernel_rfl
noncomputable def daa32TTT0 (a : Int) (s : Bool) (z : Bool) (p : Bool) : List (Bool × Bool) := [(decide
     (9 < (IntKind.i64.wrap a).tmod 16) ==
   false, true),
 (decide (9 < (IntKind.i64.wrap a).tmod 16) == false, true),
 (decide (9 < (IntKind.i64.wrap a).tmod 16), false),
 (decide (9 < IntKind.i64.wrap ((IntKind.i64.wrap (IntKind.i64.wrap a + 6)).tdiv 16)) == false, true),
 (decide (9 < IntKind.i64.wrap ((IntKind.i64.wrap (IntKind.i64.wrap a + 6)).tdiv 16)) == false, true),
 (decide (9 < IntKind.i64.wrap ((IntKind.i64.wrap (IntKind.i64.wrap a + 6)).tdiv 16)), false),
 (decide
     (0 ≤
       IntKind.u8.wrap
         (bits BinOp.and IntKind.i64 (IntKind.i64.wrap (IntKind.i64.wrap (IntKind.i64.wrap a + 6) + 96)) 255)) &&
   decide
     (IntKind.u8.wrap
         (bits BinOp.and IntKind.i64 (IntKind.i64.wrap (IntKind.i64.wrap (IntKind.i64.wrap a + 6) + 96)) 255) ≤
       255), true)]
noncomputable def daa32TTV0 (a : Int) (s : Bool) (z : Bool) (p : Bool) : Value := Value.tuple
  {
    toList :=
      [Value.int IntKind.u8
          (IntKind.u8.wrap
            (bits BinOp.and IntKind.i64 (IntKind.i64.wrap (IntKind.i64.wrap (IntKind.i64.wrap a + 6) + 96)) 255)),
        Value.agg
          {
            toList :=
              [Value.bool
                  (decide
                    (128 ≤
                      IntKind.u8.wrap
                        (bits BinOp.and IntKind.i64 (IntKind.i64.wrap (IntKind.i64.wrap (IntKind.i64.wrap a + 6) + 96))
                          255))),
                Value.bool
                  (IntKind.u8.wrap
                      (bits BinOp.and IntKind.i64 (IntKind.i64.wrap (IntKind.i64.wrap (IntKind.i64.wrap a + 6) + 96))
                        255) ==
                    0),
                Value.bool (decide (15 < IntKind.i64.wrap ((IntKind.i64.wrap a).tmod 16 + 6))),
                Value.bool
                  (par
                    (IntKind.u8.wrap
                      (bits BinOp.and IntKind.i64 (IntKind.i64.wrap (IntKind.i64.wrap (IntKind.i64.wrap a + 6) + 96))
                        255))),
                Value.bool true] }] }
theorem daa32TTR0 (a : Int) (s : Bool) (z : Bool) (p : Bool) : (Ly.run (wctx) 20000 [(1, true), (0, true), (0, false), (3, true), (0, true), (0, false), (1, true)] (Ly.start Try.f91 ([Value.int
    IntKind.u8 a,
  Value.agg
    {
      toList :=
        [Value.bool s, Value.bool z, Value.bool true, Value.bool p,
          Value.bool true] }]) H0)).out? = some (daa32TTT0 a s z p, daa32TTV0 a s z p) := by kernel_rfl
noncomputable def daa32TTT1 (a : Int) (s : Bool) (z : Bool) (p : Bool) : List (Bool × Bool) := [(decide
     (9 < (IntKind.i64.wrap a).tmod 16) ==
   false, true),
 (decide (9 < (IntKind.i64.wrap a).tmod 16) == false, true),
 (decide (9 < (IntKind.i64.wrap a).tmod 16), false),
 (decide (9 < IntKind.i64.wrap ((IntKind.i64.wrap (IntKind.i64.wrap a + 6)).tdiv 16)) == false, false),
 (decide (9 < IntKind.i64.wrap ((IntKind.i64.wrap (IntKind.i64.wrap a + 6)).tdiv 16)) == false, false),
 (decide (9 < IntKind.i64.wrap ((IntKind.i64.wrap (IntKind.i64.wrap a + 6)).tdiv 16)), true),
 (decide
     (0 ≤
       IntKind.u8.wrap
         (bits BinOp.and IntKind.i64 (IntKind.i64.wrap (IntKind.i64.wrap (IntKind.i64.wrap a + 6) + 96)) 255)) &&
   decide
     (IntKind.u8.wrap
         (bits BinOp.and IntKind.i64 (IntKind.i64.wrap (IntKind.i64.wrap (IntKind.i64.wrap a + 6) + 96)) 255) ≤
       255), true)]
noncomputable def daa32TTV1 (a : Int) (s : Bool) (z : Bool) (p : Bool) : Value := Value.tuple
  {
    toList :=
      [Value.int IntKind.u8
          (IntKind.u8.wrap
            (bits BinOp.and IntKind.i64 (IntKind.i64.wrap (IntKind.i64.wrap (IntKind.i64.wrap a + 6) + 96)) 255)),
        Value.agg
          {
            toList :=
              [Value.bool
                  (decide
                    (128 ≤
                      IntKind.u8.wrap
                        (bits BinOp.and IntKind.i64 (IntKind.i64.wrap (IntKind.i64.wrap (IntKind.i64.wrap a + 6) + 96))
                          255))),
                Value.bool
                  (IntKind.u8.wrap
                      (bits BinOp.and IntKind.i64 (IntKind.i64.wrap (IntKind.i64.wrap (IntKind.i64.wrap a + 6) + 96))
                        255) ==
                    0),
                Value.bool (decide (15 < IntKind.i64.wrap ((IntKind.i64.wrap a).tmod 16 + 6))),
                Value.bool
                  (par
                    (IntKind.u8.wrap
                      (bits BinOp.and IntKind.i64 (IntKind.i64.wrap (IntKind.i64.wrap (IntKind.i64.wrap a + 6) + 96))
                        255))),
                Value.bool true] }] }
theorem daa32TTR1 (a : Int) (s : Bool) (z : Bool) (p : Bool) : (Ly.run (wctx) 20000 [(1, true), (0, true), (0, false), (3, false), (0, false), (0, true), (1, true)] (Ly.start Try.f91 ([Value.int
    IntKind.u8 a,
  Value.agg
    {
      toList :=
        [Value.bool s, Value.bool z, Value.bool true, Value.bool p,
          Value.bool true] }]) H0)).out? = some (daa32TTT1 a s z p, daa32TTV1 a s z p) := by kernel_rfl
noncomputable def daa32TTT2 (a : Int) (s : Bool) (z : Bool) (p : Bool) : List (Bool × Bool) := [(decide
     (9 < (IntKind.i64.wrap a).tmod 16) ==
   false, false),
 (decide (9 < (IntKind.i64.wrap a).tmod 16) == false, false),
 (decide (9 < (IntKind.i64.wrap a).tmod 16), true),
 (decide (9 < IntKind.i64.wrap ((IntKind.i64.wrap (IntKind.i64.wrap a + 6)).tdiv 16)) == false, true),
 (decide (9 < IntKind.i64.wrap ((IntKind.i64.wrap (IntKind.i64.wrap a + 6)).tdiv 16)) == false, true),
 (decide (9 < IntKind.i64.wrap ((IntKind.i64.wrap (IntKind.i64.wrap a + 6)).tdiv 16)), false),
 (decide
     (0 ≤
       IntKind.u8.wrap
         (bits BinOp.and IntKind.i64 (IntKind.i64.wrap (IntKind.i64.wrap (IntKind.i64.wrap a + 6) + 96)) 255)) &&
   decide
     (IntKind.u8.wrap
         (bits BinOp.and IntKind.i64 (IntKind.i64.wrap (IntKind.i64.wrap (IntKind.i64.wrap a + 6) + 96)) 255) ≤
       255), true)]
noncomputable def daa32TTV2 (a : Int) (s : Bool) (z : Bool) (p : Bool) : Value := Value.tuple
  {
    toList :=
      [Value.int IntKind.u8
          (IntKind.u8.wrap
            (bits BinOp.and IntKind.i64 (IntKind.i64.wrap (IntKind.i64.wrap (IntKind.i64.wrap a + 6) + 96)) 255)),
        Value.agg
          {
            toList :=
              [Value.bool
                  (decide
                    (128 ≤
                      IntKind.u8.wrap
                        (bits BinOp.and IntKind.i64 (IntKind.i64.wrap (IntKind.i64.wrap (IntKind.i64.wrap a + 6) + 96))
                          255))),
                Value.bool
                  (IntKind.u8.wrap
                      (bits BinOp.and IntKind.i64 (IntKind.i64.wrap (IntKind.i64.wrap (IntKind.i64.wrap a + 6) + 96))
                        255) ==
                    0),
                Value.bool (decide (15 < IntKind.i64.wrap ((IntKind.i64.wrap a).tmod 16 + 6))),
                Value.bool
                  (par
                    (IntKind.u8.wrap
                      (bits BinOp.and IntKind.i64 (IntKind.i64.wrap (IntKind.i64.wrap (IntKind.i64.wrap a + 6) + 96))
                        255))),
                Value.bool true] }] }
theorem daa32TTR2 (a : Int) (s : Bool) (z : Bool) (p : Bool) : (Ly.run (wctx) 20000 [(1, false), (0, false), (0, true), (3, true), (0, true), (0, false), (1, true)] (Ly.start Try.f91 ([Value.int
    IntKind.u8 a,
  Value.agg
    {
      toList :=
        [Value.bool s, Value.bool z, Value.bool true, Value.bool p,
          Value.bool true] }]) H0)).out? = some (daa32TTT2 a s z p, daa32TTV2 a s z p) := by kernel_rfl
noncomputable def daa32TTT3 (a : Int) (s : Bool) (z : Bool) (p : Bool) : List (Bool × Bool) := [(decide
     (9 < (IntKind.i64.wrap a).tmod 16) ==
   false, false),
 (decide (9 < (IntKind.i64.wrap a).tmod 16) == false, false),
 (decide (9 < (IntKind.i64.wrap a).tmod 16), true),
 (decide (9 < IntKind.i64.wrap ((IntKind.i64.wrap (IntKind.i64.wrap a + 6)).tdiv 16)) == false, false),
 (decide (9 < IntKind.i64.wrap ((IntKind.i64.wrap (IntKind.i64.wrap a + 6)).tdiv 16)) == false, false),
 (decide (9 < IntKind.i64.wrap ((IntKind.i64.wrap (IntKind.i64.wrap a + 6)).tdiv 16)), true),
 (decide
     (0 ≤
       IntKind.u8.wrap
         (bits BinOp.and IntKind.i64 (IntKind.i64.wrap (IntKind.i64.wrap (IntKind.i64.wrap a + 6) + 96)) 255)) &&
   decide
     (IntKind.u8.wrap
         (bits BinOp.and IntKind.i64 (IntKind.i64.wrap (IntKind.i64.wrap (IntKind.i64.wrap a + 6) + 96)) 255) ≤
       255), true)]
noncomputable def daa32TTV3 (a : Int) (s : Bool) (z : Bool) (p : Bool) : Value := Value.tuple
  {
    toList :=
      [Value.int IntKind.u8
          (IntKind.u8.wrap
            (bits BinOp.and IntKind.i64 (IntKind.i64.wrap (IntKind.i64.wrap (IntKind.i64.wrap a + 6) + 96)) 255)),
        Value.agg
          {
            toList :=
              [Value.bool
                  (decide
                    (128 ≤
                      IntKind.u8.wrap
                        (bits BinOp.and IntKind.i64 (IntKind.i64.wrap (IntKind.i64.wrap (IntKind.i64.wrap a + 6) + 96))
                          255))),
                Value.bool
                  (IntKind.u8.wrap
                      (bits BinOp.and IntKind.i64 (IntKind.i64.wrap (IntKind.i64.wrap (IntKind.i64.wrap a + 6) + 96))
                        255) ==
                    0),
                Value.bool (decide (15 < IntKind.i64.wrap ((IntKind.i64.wrap a).tmod 16 + 6))),
                Value.bool
                  (par
                    (IntKind.u8.wrap
                      (bits BinOp.and IntKind.i64 (IntKind.i64.wrap (IntKind.i64.wrap (IntKind.i64.wrap a + 6) + 96))
                        255))),
                Value.bool true] }] }
theorem daa32TTR3 (a : Int) (s : Bool) (z : Bool) (p : Bool) : (Ly.run (wctx) 20000 [(1, false), (0, false), (0, true), (3, false), (0, false), (0, true), (1, true)] (Ly.start Try.f91 ([Value.int
    IntKind.u8 a,
  Value.agg
    {
      toList :=
        [Value.bool s, Value.bool z, Value.bool true, Value.bool p,
          Value.bool true] }]) H0)).out? = some (daa32TTT3 a s z p, daa32TTV3 a s z p) := by kernel_rfl
noncomputable def turn390FT0 (a : Int) : List (Bool × Bool) := []
noncomputable def turn390FV0 (a : Int) : Value := Value.tuple
  {
    toList :=
      [Value.int IntKind.u8
          (bits BinOp.or IntKind.u8
            (IntKind.u8.wrap (a * pw (bits BinOp.and IntKind.u64 (IntKind.u64.wrap 1) 7) IntKind.u8))
            (a.fdiv (pw (IntKind.u64.wrap (8 - bits BinOp.and IntKind.u64 (IntKind.u64.wrap 1) 7)) IntKind.u8))),
        Value.bool (bits BinOp.and IntKind.u8 a 128 != 0)] }
theorem turn390FR0 (a : Int) : (Ly.run (wctx) 20000 [] (Ly.start Try.f82 ([Value.int IntKind.i64 0,
  Value.int IntKind.u8 a, Value.bool false]) H0)).out? = some (turn390FT0 a, turn390FV0 a) := by kernel_rfl
noncomputable def turn400FT0 (a : Int) : List (Bool × Bool) := []
noncomputable def turn400FV0 (a : Int) : Value := Value.tuple
  {
    toList :=
      [Value.int IntKind.u8
          (IntKind.u8.wrap
            (bits BinOp.and IntKind.i64
              (IntKind.i64.wrap
                (IntKind.i64.wrap (IntKind.i64.wrap a * 2) + IntKind.i64.wrap ((IntKind.i64.wrap a).tdiv 128)))
              255)),
        Value.bool (decide (128 ≤ IntKind.i64.wrap a))] }
theorem turn400FR0 (a : Int) : (Ly.run (wctx) 20000 [] (Ly.start Try.f92 ([Value.int IntKind.i64 0,
  Value.int IntKind.u8 a, Value.bool false]) H0)).out? = some (turn400FT0 a, turn400FV0 a) := by kernel_rfl
noncomputable def turn390TT0 (a : Int) : List (Bool × Bool) := []
noncomputable def turn390TV0 (a : Int) : Value := Value.tuple
  {
    toList :=
      [Value.int IntKind.u8
          (bits BinOp.or IntKind.u8
            (IntKind.u8.wrap (a * pw (bits BinOp.and IntKind.u64 (IntKind.u64.wrap 1) 7) IntKind.u8))
            (a.fdiv (pw (IntKind.u64.wrap (8 - bits BinOp.and IntKind.u64 (IntKind.u64.wrap 1) 7)) IntKind.u8))),
        Value.bool (bits BinOp.and IntKind.u8 a 128 != 0)] }
theorem turn390TR0 (a : Int) : (Ly.run (wctx) 20000 [] (Ly.start Try.f82 ([Value.int IntKind.i64 0,
  Value.int IntKind.u8 a, Value.bool true]) H0)).out? = some (turn390TT0 a, turn390TV0 a) := by kernel_rfl
noncomputable def turn400TT0 (a : Int) : List (Bool × Bool) := []
noncomputable def turn400TV0 (a : Int) : Value := Value.tuple
  {
    toList :=
      [Value.int IntKind.u8
          (IntKind.u8.wrap
            (bits BinOp.and IntKind.i64
              (IntKind.i64.wrap
                (IntKind.i64.wrap (IntKind.i64.wrap a * 2) + IntKind.i64.wrap ((IntKind.i64.wrap a).tdiv 128)))
              255)),
        Value.bool (decide (128 ≤ IntKind.i64.wrap a))] }
theorem turn400TR0 (a : Int) : (Ly.run (wctx) 20000 [] (Ly.start Try.f92 ([Value.int IntKind.i64 0,
  Value.int IntKind.u8 a, Value.bool true]) H0)).out? = some (turn400TT0 a, turn400TV0 a) := by kernel_rfl
noncomputable def turn391FT0 (a : Int) : List (Bool × Bool) := []
noncomputable def turn391FV0 (a : Int) : Value := Value.tuple
  {
    toList :=
      [Value.int IntKind.u8
          (bits BinOp.or IntKind.u8
            (IntKind.u8.wrap (a * pw (bits BinOp.and IntKind.u64 (IntKind.u64.wrap (-1)) 7) IntKind.u8))
            (a.fdiv (pw (IntKind.u64.wrap (8 - bits BinOp.and IntKind.u64 (IntKind.u64.wrap (-1)) 7)) IntKind.u8))),
        Value.bool (bits BinOp.and IntKind.u8 a 1 != 0)] }
theorem turn391FR0 (a : Int) : (Ly.run (wctx) 20000 [] (Ly.start Try.f82 ([Value.int IntKind.i64 1,
  Value.int IntKind.u8 a, Value.bool false]) H0)).out? = some (turn391FT0 a, turn391FV0 a) := by kernel_rfl
noncomputable def turn401FT0 (a : Int) : List (Bool × Bool) := []
noncomputable def turn401FV0 (a : Int) : Value := Value.tuple
  {
    toList :=
      [Value.int IntKind.u8
          (IntKind.u8.wrap
            (IntKind.i64.wrap
              (IntKind.i64.wrap ((IntKind.i64.wrap a).tdiv 2) + IntKind.i64.wrap ((IntKind.i64.wrap a).tmod 2 * 128)))),
        Value.bool ((IntKind.i64.wrap a).tmod 2 == 1)] }
theorem turn401FR0 (a : Int) : (Ly.run (wctx) 20000 [] (Ly.start Try.f92 ([Value.int IntKind.i64 1,
  Value.int IntKind.u8 a, Value.bool false]) H0)).out? = some (turn401FT0 a, turn401FV0 a) := by kernel_rfl
noncomputable def turn391TT0 (a : Int) : List (Bool × Bool) := []
noncomputable def turn391TV0 (a : Int) : Value := Value.tuple
  {
    toList :=
      [Value.int IntKind.u8
          (bits BinOp.or IntKind.u8
            (IntKind.u8.wrap (a * pw (bits BinOp.and IntKind.u64 (IntKind.u64.wrap (-1)) 7) IntKind.u8))
            (a.fdiv (pw (IntKind.u64.wrap (8 - bits BinOp.and IntKind.u64 (IntKind.u64.wrap (-1)) 7)) IntKind.u8))),
        Value.bool (bits BinOp.and IntKind.u8 a 1 != 0)] }
theorem turn391TR0 (a : Int) : (Ly.run (wctx) 20000 [] (Ly.start Try.f82 ([Value.int IntKind.i64 1,
  Value.int IntKind.u8 a, Value.bool true]) H0)).out? = some (turn391TT0 a, turn391TV0 a) := by kernel_rfl
noncomputable def turn401TT0 (a : Int) : List (Bool × Bool) := []
noncomputable def turn401TV0 (a : Int) : Value := Value.tuple
  {
    toList :=
      [Value.int IntKind.u8
          (IntKind.u8.wrap
            (IntKind.i64.wrap
              (IntKind.i64.wrap ((IntKind.i64.wrap a).tdiv 2) + IntKind.i64.wrap ((IntKind.i64.wrap a).tmod 2 * 128)))),
        Value.bool ((IntKind.i64.wrap a).tmod 2 == 1)] }
theorem turn401TR0 (a : Int) : (Ly.run (wctx) 20000 [] (Ly.start Try.f92 ([Value.int IntKind.i64 1,
  Value.int IntKind.u8 a, Value.bool true]) H0)).out? = some (turn401TT0 a, turn401TV0 a) := by kernel_rfl
noncomputable def turn392FT0 (a : Int) : List (Bool × Bool) := []
noncomputable def turn392FV0 (a : Int) : Value := Value.tuple
  {
    toList :=
      [Value.int IntKind.u8 (bits BinOp.or IntKind.u8 (IntKind.u8.wrap (a * pw 1 IntKind.u8)) (IntKind.u8.wrap 0)),
        Value.bool (bits BinOp.and IntKind.u8 a 128 != 0)] }
theorem turn392FR0 (a : Int) : (Ly.run (wctx) 20000 [] (Ly.start Try.f82 ([Value.int IntKind.i64 2,
  Value.int IntKind.u8 a, Value.bool false]) H0)).out? = some (turn392FT0 a, turn392FV0 a) := by kernel_rfl
noncomputable def turn402FT0 (a : Int) : List (Bool × Bool) := []
noncomputable def turn402FV0 (a : Int) : Value := Value.tuple
  {
    toList :=
      [Value.int IntKind.u8
          (IntKind.u8.wrap
            (bits BinOp.and IntKind.i64 (IntKind.i64.wrap (IntKind.i64.wrap (IntKind.i64.wrap a * 2) + 0)) 255)),
        Value.bool (decide (128 ≤ IntKind.i64.wrap a))] }
theorem turn402FR0 (a : Int) : (Ly.run (wctx) 20000 [] (Ly.start Try.f92 ([Value.int IntKind.i64 2,
  Value.int IntKind.u8 a, Value.bool false]) H0)).out? = some (turn402FT0 a, turn402FV0 a) := by kernel_rfl
noncomputable def turn392TT0 (a : Int) : List (Bool × Bool) := []
noncomputable def turn392TV0 (a : Int) : Value := Value.tuple
  {
    toList :=
      [Value.int IntKind.u8 (bits BinOp.or IntKind.u8 (IntKind.u8.wrap (a * pw 1 IntKind.u8)) (IntKind.u8.wrap 1)),
        Value.bool (bits BinOp.and IntKind.u8 a 128 != 0)] }
theorem turn392TR0 (a : Int) : (Ly.run (wctx) 20000 [] (Ly.start Try.f82 ([Value.int IntKind.i64 2,
  Value.int IntKind.u8 a, Value.bool true]) H0)).out? = some (turn392TT0 a, turn392TV0 a) := by kernel_rfl
noncomputable def turn402TT0 (a : Int) : List (Bool × Bool) := []
noncomputable def turn402TV0 (a : Int) : Value := Value.tuple
  {
    toList :=
      [Value.int IntKind.u8
          (IntKind.u8.wrap
            (bits BinOp.and IntKind.i64 (IntKind.i64.wrap (IntKind.i64.wrap (IntKind.i64.wrap a * 2) + 1)) 255)),
        Value.bool (decide (128 ≤ IntKind.i64.wrap a))] }
theorem turn402TR0 (a : Int) : (Ly.run (wctx) 20000 [] (Ly.start Try.f92 ([Value.int IntKind.i64 2,
  Value.int IntKind.u8 a, Value.bool true]) H0)).out? = some (turn402TT0 a, turn402TV0 a) := by kernel_rfl
noncomputable def turn393FT0 (a : Int) : List (Bool × Bool) := []
noncomputable def turn393FV0 (a : Int) : Value := Value.tuple
  {
    toList :=
      [Value.int IntKind.u8
          (bits BinOp.or IntKind.u8 (a.fdiv (pw 1 IntKind.u8)) (IntKind.u8.wrap (IntKind.u8.wrap 0 * pw 7 IntKind.u8))),
        Value.bool (bits BinOp.and IntKind.u8 a 1 != 0)] }
theorem turn393FR0 (a : Int) : (Ly.run (wctx) 20000 [] (Ly.start Try.f82 ([Value.int IntKind.i64 3,
  Value.int IntKind.u8 a, Value.bool false]) H0)).out? = some (turn393FT0 a, turn393FV0 a) := by kernel_rfl
noncomputable def turn403FT0 (a : Int) : List (Bool × Bool) := []
noncomputable def turn403FV0 (a : Int) : Value := Value.tuple
  {
    toList :=
      [Value.int IntKind.u8 (IntKind.u8.wrap (IntKind.i64.wrap (IntKind.i64.wrap ((IntKind.i64.wrap a).tdiv 2) + 0))),
        Value.bool ((IntKind.i64.wrap a).tmod 2 == 1)] }
theorem turn403FR0 (a : Int) : (Ly.run (wctx) 20000 [] (Ly.start Try.f92 ([Value.int IntKind.i64 3,
  Value.int IntKind.u8 a, Value.bool false]) H0)).out? = some (turn403FT0 a, turn403FV0 a) := by kernel_rfl
noncomputable def turn393TT0 (a : Int) : List (Bool × Bool) := []
noncomputable def turn393TV0 (a : Int) : Value := Value.tuple
  {
    toList :=
      [Value.int IntKind.u8
          (bits BinOp.or IntKind.u8 (a.fdiv (pw 1 IntKind.u8)) (IntKind.u8.wrap (IntKind.u8.wrap 1 * pw 7 IntKind.u8))),
        Value.bool (bits BinOp.and IntKind.u8 a 1 != 0)] }
theorem turn393TR0 (a : Int) : (Ly.run (wctx) 20000 [] (Ly.start Try.f82 ([Value.int IntKind.i64 3,
  Value.int IntKind.u8 a, Value.bool true]) H0)).out? = some (turn393TT0 a, turn393TV0 a) := by kernel_rfl
noncomputable def turn403TT0 (a : Int) : List (Bool × Bool) := []
noncomputable def turn403TV0 (a : Int) : Value := Value.tuple
  {
    toList :=
      [Value.int IntKind.u8 (IntKind.u8.wrap (IntKind.i64.wrap (IntKind.i64.wrap ((IntKind.i64.wrap a).tdiv 2) + 128))),
        Value.bool ((IntKind.i64.wrap a).tmod 2 == 1)] }
theorem turn403TR0 (a : Int) : (Ly.run (wctx) 20000 [] (Ly.start Try.f92 ([Value.int IntKind.i64 3,
  Value.int IntKind.u8 a, Value.bool true]) H0)).out? = some (turn403TT0 a, turn403TV0 a) := by kernel_rfl
noncomputable def turn39XT6 (k : Int) (a : Int) (c : Bool) : List (Bool × Bool) := [(k == 0, false),
 (k == 1, false),
 (k == 2, false),
 (k == 3, false)]
noncomputable def turn39XV6 (k : Int) (a : Int) (c : Bool) : Value := Value.tuple
  { toList := [Value.int IntKind.u8 a, Value.bool c] }
theorem turn39XR6 (k : Int) (a : Int) (c : Bool) : (Ly.run (wctx) 20000 [(0, false), (0, false), (0, false), (0, false)] (Ly.start Try.f82 ([Value.int
    IntKind.i64 k,
  Value.int IntKind.u8 a, Value.bool c]) H0)).out? = some (turn39XT6 k a c, turn39XV6 k a c) := by kernel_rfl
noncomputable def turn40XT6 (k : Int) (a : Int) (c : Bool) : List (Bool × Bool) := [(k == 0, false),
 (k == 1, false),
 (k == 2, false),
 (k == 3, false)]
noncomputable def turn40XV6 (k : Int) (a : Int) (c : Bool) : Value := Value.tuple
  { toList := [Value.int IntKind.u8 a, Value.bool c] }
theorem turn40XR6 (k : Int) (a : Int) (c : Bool) : (Ly.run (wctx) 20000 [(0, false), (0, false), (0, false), (0, false)] (Ly.start Try.f92 ([Value.int
    IntKind.i64 k,
  Value.int IntKind.u8 a, Value.bool c]) H0)).out? = some (turn40XT6 k a c, turn40XV6 k a c) := by kernel_rfl
end Go.Proofs.Ytpggoincnebfnaa
