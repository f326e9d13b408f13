/- What each function of this seat answers, leaf by leaf (printed by wip/tools/sx.sh from wip/word/cmds.txt, checked by the kernel). -/
import Derived.Test.YtnknopebjdgdjaaWdC
import Derived.Test.YtnknopebjdgdjaaLyV
namespace Go.Proofs.Ytnknopebjdgdjaa
open Go Go.Ly Go.RowKit
set_option linter.unusedVariables false
noncomputable def add23FT0 (a : Int) (b : Int) : List (Bool × Bool) := [(decide
     (0 ≤
       IntKind.u8.wrap
         (bits BinOp.and IntKind.i64 (IntKind.i64.wrap (IntKind.i64.wrap (IntKind.i64.wrap a + IntKind.i64.wrap b) + 0))
           255)) &&
   decide
     (IntKind.u8.wrap
         (bits BinOp.and IntKind.i64 (IntKind.i64.wrap (IntKind.i64.wrap (IntKind.i64.wrap a + IntKind.i64.wrap b) + 0))
           255) ≤
       255), true)]
noncomputable def add23FV0 (a : Int) (b : Int) : Value := Value.tuple
  {
    toList :=
      [Value.int IntKind.u8
          (IntKind.u8.wrap
            (bits BinOp.and IntKind.i64
              (IntKind.i64.wrap (IntKind.i64.wrap (IntKind.i64.wrap a + IntKind.i64.wrap b) + 0)) 255)),
        Value.agg
          {
            toList :=
              [Value.bool
                  (decide
                    (128 ≤
                      IntKind.u8.wrap
                        (bits BinOp.and IntKind.i64
                          (IntKind.i64.wrap (IntKind.i64.wrap (IntKind.i64.wrap a + IntKind.i64.wrap b) + 0)) 255))),
                Value.bool
                  (IntKind.u8.wrap
                      (bits BinOp.and IntKind.i64
                        (IntKind.i64.wrap (IntKind.i64.wrap (IntKind.i64.wrap a + IntKind.i64.wrap b) + 0)) 255) ==
                    0),
                Value.bool
                  (decide
                    (15 <
                      IntKind.i64.wrap
                        (IntKind.i64.wrap ((IntKind.i64.wrap a).tmod 16 + (IntKind.i64.wrap b).tmod 16) + 0))),
                Value.bool
                  (par
                    (IntKind.u8.wrap
                      (bits BinOp.and IntKind.i64
                        (IntKind.i64.wrap (IntKind.i64.wrap (IntKind.i64.wrap a + IntKind.i64.wrap b) + 0)) 255))),
                Value.bool
                  (decide
                    (255 < IntKind.i64.wrap (IntKind.i64.wrap (IntKind.i64.wrap a + IntKind.i64.wrap b) + 0)))] }] }
theorem add23FR0 (a : Int) (b : Int) : (Ly.run (wctx) 20000 [(4, true)] (Ly.start Try.f18 ([Value.int IntKind.u8 a,
  Value.int IntKind.u8 b, Value.bool false]) H0)).out? = some (add23FT0 a b, add23FV0 a b) := by kernel_rfl
noncomputable def add23TT0 (a : Int) (b : Int) : List (Bool × Bool) := [(decide
     (0 ≤
       IntKind.u8.wrap
         (bits BinOp.and IntKind.i64 (IntKind.i64.wrap (IntKind.i64.wrap (IntKind.i64.wrap a + IntKind.i64.wrap b) + 1))
           255)) &&
   decide
     (IntKind.u8.wrap
         (bits BinOp.and IntKind.i64 (IntKind.i64.wrap (IntKind.i64.wrap (IntKind.i64.wrap a + IntKind.i64.wrap b) + 1))
           255) ≤
       255), true)]
noncomputable def add23TV0 (a : Int) (b : Int) : Value := Value.tuple
  {
    toList :=
      [Value.int IntKind.u8
          (IntKind.u8.wrap
            (bits BinOp.and IntKind.i64
              (IntKind.i64.wrap (IntKind.i64.wrap (IntKind.i64.wrap a + IntKind.i64.wrap b) + 1)) 255)),
        Value.agg
          {
            toList :=
              [Value.bool
                  (decide
                    (128 ≤
                      IntKind.u8.wrap
                        (bits BinOp.and IntKind.i64
                          (IntKind.i64.wrap (IntKind.i64.wrap (IntKind.i64.wrap a + IntKind.i64.wrap b) + 1)) 255))),
                Value.bool
                  (IntKind.u8.wrap
                      (bits BinOp.and IntKind.i64
                        (IntKind.i64.wrap (IntKind.i64.wrap (IntKind.i64.wrap a + IntKind.i64.wrap b) + 1)) 255) ==
                    0),
                Value.bool
                  (decide
                    (15 <
                      IntKind.i64.wrap
                        (IntKind.i64.wrap ((IntKind.i64.wrap a).tmod 16 + (IntKind.i64.wrap b).tmod 16) + 1))),
                Value.bool
                  (par
                    (IntKind.u8.wrap
                      (bits BinOp.and IntKind.i64
                        (IntKind.i64.wrap (IntKind.i64.wrap (IntKind.i64.wrap a + IntKind.i64.wrap b) + 1)) 255))),
                Value.bool
                  (decide
                    (255 < IntKind.i64.wrap (IntKind.i64.wrap (IntKind.i64.wrap a + IntKind.i64.wrap b) + 1)))] }] }
theorem add23TR0 (a : Int) (b : Int) : (Ly.run (wctx) 20000 [(4, true)] (Ly.start Try.f18 ([Value.int IntKind.u8 a,
  Value.int IntKind.u8 b, Value.bool true]) H0)).out? = some (add23TT0 a b, add23TV0 a b) := by kernel_rfl
noncomputable def sub25FT0 (a : Int) (b : Int) : List (Bool × Bool) := [(decide
     (0 ≤
       IntKind.u8.wrap
         (bits BinOp.and IntKind.i64
           (IntKind.i64.wrap (IntKind.i64.wrap (IntKind.i64.wrap (IntKind.i64.wrap a - IntKind.i64.wrap b) - 0) + 256))
           255)) &&
   decide
     (IntKind.u8.wrap
         (bits BinOp.and IntKind.i64
           (IntKind.i64.wrap (IntKind.i64.wrap (IntKind.i64.wrap (IntKind.i64.wrap a - IntKind.i64.wrap b) - 0) + 256))
           255) ≤
       255), true)]
noncomputable def sub25FV0 (a : Int) (b : Int) : Value := Value.tuple
  {
    toList :=
      [Value.int IntKind.u8
          (IntKind.u8.wrap
            (bits BinOp.and IntKind.i64
              (IntKind.i64.wrap
                (IntKind.i64.wrap (IntKind.i64.wrap (IntKind.i64.wrap a - IntKind.i64.wrap b) - 0) + 256))
              255)),
        Value.agg
          {
            toList :=
              [Value.bool
                  (decide
                    (128 ≤
                      IntKind.u8.wrap
                        (bits BinOp.and IntKind.i64
                          (IntKind.i64.wrap
                            (IntKind.i64.wrap (IntKind.i64.wrap (IntKind.i64.wrap a - IntKind.i64.wrap b) - 0) + 256))
                          255))),
                Value.bool
                  (IntKind.u8.wrap
                      (bits BinOp.and IntKind.i64
                        (IntKind.i64.wrap
                          (IntKind.i64.wrap (IntKind.i64.wrap (IntKind.i64.wrap a - IntKind.i64.wrap b) - 0) + 256))
                        255) ==
                    0),
                Value.bool
                  (decide
                    (15 <
                      IntKind.i64.wrap
                        (IntKind.i64.wrap
                            (IntKind.i64.wrap ((IntKind.i64.wrap a).tmod 16 + 15) - (IntKind.i64.wrap b).tmod 16) +
                          1))),
                Value.bool
                  (par
                    (IntKind.u8.wrap
                      (bits BinOp.and IntKind.i64
                        (IntKind.i64.wrap
                          (IntKind.i64.wrap (IntKind.i64.wrap (IntKind.i64.wrap a - IntKind.i64.wrap b) - 0) + 256))
                        255))),
                Value.bool
                  (decide (IntKind.i64.wrap (IntKind.i64.wrap (IntKind.i64.wrap a - IntKind.i64.wrap b) - 0) < 0))] }] }
theorem sub25FR0 (a : Int) (b : Int) : (Ly.run (wctx) 20000 [(4, true)] (Ly.start Try.f19 ([Value.int IntKind.u8 a,
  Value.int IntKind.u8 b, Value.bool false]) H0)).out? = some (sub25FT0 a b, sub25FV0 a b) := by kernel_rfl
noncomputable def sub25TT0 (a : Int) (b : Int) : List (Bool × Bool) := [(decide
     (0 ≤
       IntKind.u8.wrap
         (bits BinOp.and IntKind.i64
           (IntKind.i64.wrap (IntKind.i64.wrap (IntKind.i64.wrap (IntKind.i64.wrap a - IntKind.i64.wrap b) - 1) + 256))
           255)) &&
   decide
     (IntKind.u8.wrap
         (bits BinOp.and IntKind.i64
           (IntKind.i64.wrap (IntKind.i64.wrap (IntKind.i64.wrap (IntKind.i64.wrap a - IntKind.i64.wrap b) - 1) + 256))
           255) ≤
       255), true)]
noncomputable def sub25TV0 (a : Int) (b : Int) : Value := Value.tuple
  {
    toList :=
      [Value.int IntKind.u8
          (IntKind.u8.wrap
            (bits BinOp.and IntKind.i64
              (IntKind.i64.wrap
                (IntKind.i64.wrap (IntKind.i64.wrap (IntKind.i64.wrap a - IntKind.i64.wrap b) - 1) + 256))
              255)),
        Value.agg
          {
            toList :=
              [Value.bool
                  (decide
                    (128 ≤
                      IntKind.u8.wrap
                        (bits BinOp.and IntKind.i64
                          (IntKind.i64.wrap
                            (IntKind.i64.wrap (IntKind.i64.wrap (IntKind.i64.wrap a - IntKind.i64.wrap b) - 1) + 256))
                          255))),
                Value.bool
                  (IntKind.u8.wrap
                      (bits BinOp.and IntKind.i64
                        (IntKind.i64.wrap
                          (IntKind.i64.wrap (IntKind.i64.wrap (IntKind.i64.wrap a - IntKind.i64.wrap b) - 1) + 256))
                        255) ==
                    0),
                Value.bool
                  (decide
                    (15 <
                      IntKind.i64.wrap
                        (IntKind.i64.wrap
                            (IntKind.i64.wrap ((IntKind.i64.wrap a).tmod 16 + 15) - (IntKind.i64.wrap b).tmod 16) +
                          0))),
                Value.bool
                  (par
                    (IntKind.u8.wrap
                      (bits BinOp.and IntKind.i64
                        (IntKind.i64.wrap
                          (IntKind.i64.wrap (IntKind.i64.wrap (IntKind.i64.wrap a - IntKind.i64.wrap b) - 1) + 256))
                        255))),
                Value.bool
                  (decide (IntKind.i64.wrap (IntKind.i64.wrap (IntKind.i64.wrap a - IntKind.i64.wrap b) - 1) < 0))] }] }
theorem sub25TR0 (a : Int) (b : Int) : (Ly.run (wctx) 20000 [(4, true)] (Ly.start Try.f19 ([Value.int IntKind.u8 a,
  Value.int IntKind.u8 b, Value.bool true]) H0)).out? = some (sub25TT0 a b, sub25TV0 a b) := by kernel_rfl
end Go.Proofs.Ytnknopebjdgdjaa
