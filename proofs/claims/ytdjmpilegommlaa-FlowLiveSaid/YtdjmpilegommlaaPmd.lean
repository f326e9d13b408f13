/- Part 4 of the texts that the law needs, laid together. By program (pack.py). -/
import Derived.Test.YtdjmpilegommlaaPmc
import Derived.KernelRfl
import Derived.Laws.BitsLemmas
import Derived.Laws.BitsAllLaws
set_option linter.unusedVariables false
set_option linter.unusedSimpArgs false
noncomputable section
namespace Go.Proofs.Ytdjmpilegommlaa
open Go Go.Ly Go.RowKit
def add13FT0 (a : Int) (b : Int) : List (Bool × Bool) := [(decide (0 ≤ IntKind.u8.wrap (IntKind.u64.wrap (IntKind.u64.wrap (IntKind.u64.wrap (0 + IntKind.u64.wrap a) + IntKind.u64.wrap b) + 0))) && decide (IntKind.u8.wrap (IntKind.u64.wrap (IntKind.u64.wrap (IntKind.u64.wrap (0 + IntKind.u64.wrap a) + IntKind.u64.wrap b) + 0)) ≤ 255), true)]
def add13FV0 (a : Int) (b : Int) : Value := Value.tuple { toList := [Value.int IntKind.u8 (IntKind.u8.wrap (IntKind.u64.wrap (IntKind.u64.wrap (IntKind.u64.wrap (0 + IntKind.u64.wrap a) + IntKind.u64.wrap b) + 0))), Value.agg { toList := [Value.bool (bits BinOp.and IntKind.u8 (IntKind.u8.wrap (IntKind.u64.wrap (IntKind.u64.wrap (IntKind.u64.wrap (0 + IntKind.u64.wrap a) + IntKind.u64.wrap b) + 0))) 128 != 0), Value.bool (IntKind.u8.wrap (IntKind.u64.wrap (IntKind.u64.wrap (IntKind.u64.wrap (0 + IntKind.u64.wrap a) + IntKind.u64.wrap b) + 0)) == 0), Value.bool (decide (15 < IntKind.u64.wrap (IntKind.u64.wrap (IntKind.u64.wrap (0 + IntKind.u64.wrap (bits BinOp.and IntKind.u8 a 15)) + IntKind.u64.wrap (bits BinOp.and IntKind.u8 b 15)) + 0))), Value.bool (par (IntKind.u8.wrap (IntKind.u64.wrap (IntKind.u64.wrap (IntKind.u64.wrap (0 + IntKind.u64.wrap a) + IntKind.u64.wrap b) + 0)))), Value.bool (decide (255 < IntKind.u64.wrap (IntKind.u64.wrap (IntKind.u64.wrap (0 + IntKind.u64.wrap a) + IntKind.u64.wrap b) + 0)))] }] }
theorem add13FR0 (a : Int) (b : Int) : (Ly.run (wctx) 20000 [(16, true)] (Ly.start Try.f73 ([Value.int IntKind.u8 a, Value.int IntKind.u8 b, Value.bool false]) H0)).out? = some (add13FT0 a b, add13FV0 a b) := by kernel_rfl
def add13TT0 (a : Int) (b : Int) : List (Bool × Bool) := [(decide (0 ≤ IntKind.u8.wrap (IntKind.u64.wrap (IntKind.u64.wrap (IntKind.u64.wrap (0 + IntKind.u64.wrap a) + IntKind.u64.wrap b) + 1))) && decide (IntKind.u8.wrap (IntKind.u64.wrap (IntKind.u64.wrap (IntKind.u64.wrap (0 + IntKind.u64.wrap a) + IntKind.u64.wrap b) + 1)) ≤ 255), true)]
def add13TV0 (a : Int) (b : Int) : Value := Value.tuple { toList := [Value.int IntKind.u8 (IntKind.u8.wrap (IntKind.u64.wrap (IntKind.u64.wrap (IntKind.u64.wrap (0 + IntKind.u64.wrap a) + IntKind.u64.wrap b) + 1))), Value.agg { toList := [Value.bool (bits BinOp.and IntKind.u8 (IntKind.u8.wrap (IntKind.u64.wrap (IntKind.u64.wrap (IntKind.u64.wrap (0 + IntKind.u64.wrap a) + IntKind.u64.wrap b) + 1))) 128 != 0), Value.bool (IntKind.u8.wrap (IntKind.u64.wrap (IntKind.u64.wrap (IntKind.u64.wrap (0 + IntKind.u64.wrap a) + IntKind.u64.wrap b) + 1)) == 0), Value.bool (decide (15 < IntKind.u64.wrap (IntKind.u64.wrap (IntKind.u64.wrap (0 + IntKind.u64.wrap (bits BinOp.and IntKind.u8 a 15)) + IntKind.u64.wrap (bits BinOp.and IntKind.u8 b 15)) + 1))), Value.bool (par (IntKind.u8.wrap (IntKind.u64.wrap (IntKind.u64.wrap (IntKind.u64.wrap (0 + IntKind.u64.wrap a) + IntKind.u64.wrap b) + 1)))), Value.bool (decide (255 < IntKind.u64.wrap (IntKind.u64.wrap (IntKind.u64.wrap (0 + IntKind.u64.wrap a) + IntKind.u64.wrap b) + 1)))] }] }
theorem add13TR0 (a : Int) (b : Int) : (Ly.run (wctx) 20000 [(16, true)] (Ly.start Try.f73 ([Value.int IntKind.u8 a, Value.int IntKind.u8 b, Value.bool true]) H0)).out? = some (add13TT0 a b, add13TV0 a b) := by kernel_rfl
def sub24FT0 (a : Int) (b : Int) : List (Bool × Bool) := [(decide (0 ≤ IntKind.u8.wrap (IntKind.u64.wrap (IntKind.u64.wrap (IntKind.u64.wrap (0 + IntKind.u64.wrap a) + IntKind.u64.wrap (bits BinOp.xor IntKind.u8 (bif IntKind.u8.signed then -1 else IntKind.u8.max) b)) + 1))) && decide (IntKind.u8.wrap (IntKind.u64.wrap (IntKind.u64.wrap (IntKind.u64.wrap (0 + IntKind.u64.wrap a) + IntKind.u64.wrap (bits BinOp.xor IntKind.u8 (bif IntKind.u8.signed then -1 else IntKind.u8.max) b)) + 1)) ≤ 255), true)]
def sub24FV0 (a : Int) (b : Int) : Value := Value.tuple { toList := [Value.int IntKind.u8 (IntKind.u8.wrap (IntKind.u64.wrap (IntKind.u64.wrap (IntKind.u64.wrap (0 + IntKind.u64.wrap a) + IntKind.u64.wrap (bits BinOp.xor IntKind.u8 (bif IntKind.u8.signed then -1 else IntKind.u8.max) b)) + 1))), Value.agg { toList := [Value.bool (bits BinOp.and IntKind.u8 (IntKind.u8.wrap (IntKind.u64.wrap (IntKind.u64.wrap (IntKind.u64.wrap (0 + IntKind.u64.wrap a) + IntKind.u64.wrap (bits BinOp.xor IntKind.u8 (bif IntKind.u8.signed then -1 else IntKind.u8.max) b)) + 1))) 128 != 0), Value.bool (IntKind.u8.wrap (IntKind.u64.wrap (IntKind.u64.wrap (IntKind.u64.wrap (0 + IntKind.u64.wrap a) + IntKind.u64.wrap (bits BinOp.xor IntKind.u8 (bif IntKind.u8.signed then -1 else IntKind.u8.max) b)) + 1)) == 0), Value.bool (decide (15 < IntKind.u64.wrap (IntKind.u64.wrap (IntKind.u64.wrap (0 + IntKind.u64.wrap (bits BinOp.and IntKind.u8 a 15)) + IntKind.u64.wrap (bits BinOp.and IntKind.u8 (bits BinOp.xor IntKind.u8 (bif IntKind.u8.signed then -1 else IntKind.u8.max) b) 15)) + 1))), Value.bool (par (IntKind.u8.wrap (IntKind.u64.wrap (IntKind.u64.wrap (IntKind.u64.wrap (0 + IntKind.u64.wrap a) + IntKind.u64.wrap (bits BinOp.xor IntKind.u8 (bif IntKind.u8.signed then -1 else IntKind.u8.max) b)) + 1)))), Value.bool !decide (255 < IntKind.u64.wrap (IntKind.u64.wrap (IntKind.u64.wrap (0 + IntKind.u64.wrap a) + IntKind.u64.wrap (bits BinOp.xor IntKind.u8 (bif IntKind.u8.signed then -1 else IntKind.u8.max) b)) + 1))] }] }
theorem sub24FR0 (a : Int) (b : Int) : (Ly.run (wctx) 20000 [(16, true)] (Ly.start Try.f74 ([Value.int IntKind.u8 a, Value.int IntKind.u8 b, Value.bool false]) H0)).out? = some (sub24FT0 a b, sub24FV0 a b) := by kernel_rfl
def sub24TT0 (a : Int) (b : Int) : List (Bool × Bool) := [(decide (0 ≤ IntKind.u8.wrap (IntKind.u64.wrap (IntKind.u64.wrap (IntKind.u64.wrap (0 + IntKind.u64.wrap a) + IntKind.u64.wrap (bits BinOp.xor IntKind.u8 (bif IntKind.u8.signed then -1 else IntKind.u8.max) b)) + 0))) && decide (IntKind.u8.wrap (IntKind.u64.wrap (IntKind.u64.wrap (IntKind.u64.wrap (0 + IntKind.u64.wrap a) + IntKind.u64.wrap (bits BinOp.xor IntKind.u8 (bif IntKind.u8.signed then -1 else IntKind.u8.max) b)) + 0)) ≤ 255), true)]
def sub24TV0 (a : Int) (b : Int) : Value := Value.tuple { toList := [Value.int IntKind.u8 (IntKind.u8.wrap (IntKind.u64.wrap (IntKind.u64.wrap (IntKind.u64.wrap (0 + IntKind.u64.wrap a) + IntKind.u64.wrap (bits BinOp.xor IntKind.u8 (bif IntKind.u8.signed then -1 else IntKind.u8.max) b)) + 0))), Value.agg { toList := [Value.bool (bits BinOp.and IntKind.u8 (IntKind.u8.wrap (IntKind.u64.wrap (IntKind.u64.wrap (IntKind.u64.wrap (0 + IntKind.u64.wrap a) + IntKind.u64.wrap (bits BinOp.xor IntKind.u8 (bif IntKind.u8.signed then -1 else IntKind.u8.max) b)) + 0))) 128 != 0), Value.bool (IntKind.u8.wrap (IntKind.u64.wrap (IntKind.u64.wrap (IntKind.u64.wrap (0 + IntKind.u64.wrap a) + IntKind.u64.wrap (bits BinOp.xor IntKind.u8 (bif IntKind.u8.signed then -1 else IntKind.u8.max) b)) + 0)) == 0), Value.bool (decide (15 < IntKind.u64.wrap (IntKind.u64.wrap (IntKind.u64.wrap (0 + IntKind.u64.wrap (bits BinOp.and IntKind.u8 a 15)) + IntKind.u64.wrap (bits BinOp.and IntKind.u8 (bits BinOp.xor IntKind.u8 (bif IntKind.u8.signed then -1 else IntKind.u8.max) b) 15)) + 0))), Value.bool (par (IntKind.u8.wrap (IntKind.u64.wrap (IntKind.u64.wrap (IntKind.u64.wrap (0 + IntKind.u64.wrap a) + IntKind.u64.wrap (bits BinOp.xor IntKind.u8 (bif IntKind.u8.signed then -1 else IntKind.u8.max) b)) + 0)))), Value.bool !decide (255 < IntKind.u64.wrap (IntKind.u64.wrap (IntKind.u64.wrap (0 + IntKind.u64.wrap a) + IntKind.u64.wrap (bits BinOp.xor IntKind.u8 (bif IntKind.u8.signed then -1 else IntKind.u8.max) b)) + 0))] }] }
theorem sub24TR0 (a : Int) (b : Int) : (Ly.run (wctx) 20000 [(16, true)] (Ly.start Try.f74 ([Value.int IntKind.u8 a, Value.int IntKind.u8 b, Value.bool true]) H0)).out? = some (sub24TT0 a b, sub24TV0 a b) := by kernel_rfl
def and15T0 (a : Int) (b : Int) : List (Bool × Bool) := [(decide (0 ≤ bits BinOp.and IntKind.u8 a b) && decide (bits BinOp.and IntKind.u8 a b ≤ 255), true)]
def and15V0 (a : Int) (b : Int) : Value := Value.tuple { toList := [Value.int IntKind.u8 (bits BinOp.and IntKind.u8 a b), Value.agg { toList := [Value.bool (bits BinOp.and IntKind.u8 (bits BinOp.and IntKind.u8 a b) 128 != 0), Value.bool (bits BinOp.and IntKind.u8 a b == 0), Value.bool (bits BinOp.and IntKind.u8 (bits BinOp.or IntKind.u8 a b) 8 != 0), Value.bool (par (bits BinOp.and IntKind.u8 a b)), Value.bool false] }] }
theorem and15R0 (a : Int) (b : Int) : (Ly.run (wctx) 20000 [(0, true)] (Ly.start Try.f75 ([Value.int IntKind.u8 a, Value.int IntKind.u8 b]) H0)).out? = some (and15T0 a b, and15V0 a b) := by kernel_rfl
def or16T0 (a : Int) (b : Int) : List (Bool × Bool) := [(decide (0 ≤ bits BinOp.or IntKind.u8 a b) && decide (bits BinOp.or IntKind.u8 a b ≤ 255), true)]
def or16V0 (a : Int) (b : Int) : Value := Value.tuple { toList := [Value.int IntKind.u8 (bits BinOp.or IntKind.u8 a b), Value.agg { toList := [Value.bool (bits BinOp.and IntKind.u8 (bits BinOp.or IntKind.u8 a b) 128 != 0), Value.bool (bits BinOp.or IntKind.u8 a b == 0), Value.bool false, Value.bool (par (bits BinOp.or IntKind.u8 a b)), Value.bool false] }] }
theorem or16R0 (a : Int) (b : Int) : (Ly.run (wctx) 20000 [(0, true)] (Ly.start Try.f77 ([Value.int IntKind.u8 a, Value.int IntKind.u8 b]) H0)).out? = some (or16T0 a b, or16V0 a b) := by kernel_rfl
def xor17T0 (a : Int) (b : Int) : List (Bool × Bool) := [(decide (0 ≤ bits BinOp.xor IntKind.u8 a b) && decide (bits BinOp.xor IntKind.u8 a b ≤ 255), true)]
def xor17V0 (a : Int) (b : Int) : Value := Value.tuple { toList := [Value.int IntKind.u8 (bits BinOp.xor IntKind.u8 a b), Value.agg { toList := [Value.bool (bits BinOp.and IntKind.u8 (bits BinOp.xor IntKind.u8 a b) 128 != 0), Value.bool (bits BinOp.xor IntKind.u8 a b == 0), Value.bool false, Value.bool (par (bits BinOp.xor IntKind.u8 a b)), Value.bool false] }] }
theorem xor17R0 (a : Int) (b : Int) : (Ly.run (wctx) 20000 [(0, true)] (Ly.start Try.f76 ([Value.int IntKind.u8 a, Value.int IntKind.u8 b]) H0)).out? = some (xor17T0 a b, xor17V0 a b) := by kernel_rfl
def inc27T0 (a : Int) (s : Bool) (z : Bool) (x : Bool) (p : Bool) (c : Bool) : List (Bool × Bool) := [(decide (0 ≤ IntKind.u8.wrap (IntKind.u64.wrap (IntKind.u64.wrap (IntKind.u64.wrap (0 + IntKind.u64.wrap a) + IntKind.u64.wrap 1) + 0))) && decide (IntKind.u8.wrap (IntKind.u64.wrap (IntKind.u64.wrap (IntKind.u64.wrap (0 + IntKind.u64.wrap a) + IntKind.u64.wrap 1) + 0)) ≤ 255), true)]
def inc27V0 (a : Int) (s : Bool) (z : Bool) (x : Bool) (p : Bool) (c : Bool) : Value := Value.tuple { toList := [Value.int IntKind.u8 (IntKind.u8.wrap (IntKind.u64.wrap (IntKind.u64.wrap (IntKind.u64.wrap (0 + IntKind.u64.wrap a) + IntKind.u64.wrap 1) + 0))), Value.agg { toList := [Value.bool (bits BinOp.and IntKind.u8 (IntKind.u8.wrap (IntKind.u64.wrap (IntKind.u64.wrap (IntKind.u64.wrap (0 + IntKind.u64.wrap a) + IntKind.u64.wrap 1) + 0))) 128 != 0), Value.bool (IntKind.u8.wrap (IntKind.u64.wrap (IntKind.u64.wrap (IntKind.u64.wrap (0 + IntKind.u64.wrap a) + IntKind.u64.wrap 1) + 0)) == 0), Value.bool (decide (15 < IntKind.u64.wrap (IntKind.u64.wrap (IntKind.u64.wrap (0 + IntKind.u64.wrap (bits BinOp.and IntKind.u8 a 15)) + IntKind.u64.wrap (bits BinOp.and IntKind.u8 1 15)) + 0))), Value.bool (par (IntKind.u8.wrap (IntKind.u64.wrap (IntKind.u64.wrap (IntKind.u64.wrap (0 + IntKind.u64.wrap a) + IntKind.u64.wrap 1) + 0)))), Value.bool c] }] }
theorem inc27R0 (a : Int) (s : Bool) (z : Bool) (x : Bool) (p : Bool) (c : Bool) : (Ly.run (wctx) 20000 [(16, true)] (Ly.start Try.f70 ([Value.int IntKind.u8 a, Value.agg { toList := [Value.bool s, Value.bool z, Value.bool x, Value.bool p, Value.bool c] }]) H0)).out? = some (inc27T0 a s z x p c, inc27V0 a s z x p c) := by kernel_rfl
def dec29T0 (a : Int) (s : Bool) (z : Bool) (x : Bool) (p : Bool) (c : Bool) : List (Bool × Bool) := [(decide (0 ≤ IntKind.u8.wrap (IntKind.u64.wrap (IntKind.u64.wrap (IntKind.u64.wrap (0 + IntKind.u64.wrap a) + IntKind.u64.wrap (bits BinOp.xor IntKind.u8 (bif IntKind.u8.signed then -1 else IntKind.u8.max) 1)) + 1))) && decide (IntKind.u8.wrap (IntKind.u64.wrap (IntKind.u64.wrap (IntKind.u64.wrap (0 + IntKind.u64.wrap a) + IntKind.u64.wrap (bits BinOp.xor IntKind.u8 (bif IntKind.u8.signed then -1 else IntKind.u8.max) 1)) + 1)) ≤ 255), true)]
def dec29V0 (a : Int) (s : Bool) (z : Bool) (x : Bool) (p : Bool) (c : Bool) : Value := Value.tuple { toList := [Value.int IntKind.u8 (IntKind.u8.wrap (IntKind.u64.wrap (IntKind.u64.wrap (IntKind.u64.wrap (0 + IntKind.u64.wrap a) + IntKind.u64.wrap (bits BinOp.xor IntKind.u8 (bif IntKind.u8.signed then -1 else IntKind.u8.max) 1)) + 1))), Value.agg { toList := [Value.bool (bits BinOp.and IntKind.u8 (IntKind.u8.wrap (IntKind.u64.wrap (IntKind.u64.wrap (IntKind.u64.wrap (0 + IntKind.u64.wrap a) + IntKind.u64.wrap (bits BinOp.xor IntKind.u8 (bif IntKind.u8.signed then -1 else IntKind.u8.max) 1)) + 1))) 128 != 0), Value.bool (IntKind.u8.wrap (IntKind.u64.wrap (IntKind.u64.wrap (IntKind.u64.wrap (0 + IntKind.u64.wrap a) + IntKind.u64.wrap (bits BinOp.xor IntKind.u8 (bif IntKind.u8.signed then -1 else IntKind.u8.max) 1)) + 1)) == 0), Value.bool (decide (15 < IntKind.u64.wrap (IntKind.u64.wrap (IntKind.u64.wrap (0 + IntKind.u64.wrap (bits BinOp.and IntKind.u8 a 15)) + IntKind.u64.wrap (bits BinOp.and IntKind.u8 (bits BinOp.xor IntKind.u8 (bif IntKind.u8.signed then -1 else IntKind.u8.max) 1) 15)) + 1))), Value.bool (par (IntKind.u8.wrap (IntKind.u64.wrap (IntKind.u64.wrap (IntKind.u64.wrap (0 + IntKind.u64.wrap a) + IntKind.u64.wrap (bits BinOp.xor IntKind.u8 (bif IntKind.u8.signed then -1 else IntKind.u8.max) 1)) + 1)))), Value.bool c] }] }
theorem dec29R0 (a : Int) (s : Bool) (z : Bool) (x : Bool) (p : Bool) (c : Bool) : (Ly.run (wctx) 20000 [(16, true)] (Ly.start Try.f71 ([Value.int IntKind.u8 a, Value.agg { toList := [Value.bool s, Value.bool z, Value.bool x, Value.bool p, Value.bool c] }]) H0)).out? = some (dec29T0 a s z x p c, dec29V0 a s z x p c) := by kernel_rfl
def add22T0 (a : Int) (b : Int) : List (Bool × Bool) := []
def add22V0 (a : Int) (b : Int) : Value := Value.tuple { toList := [Value.int IntKind.u16 (IntKind.u16.wrap (IntKind.u64.wrap (IntKind.u64.wrap (0 + IntKind.u64.wrap a) + IntKind.u64.wrap b))), Value.bool (decide (65535 < IntKind.u64.wrap (IntKind.u64.wrap (0 + IntKind.u64.wrap a) + IntKind.u64.wrap b)))] }
theorem add22R0 (a : Int) (b : Int) : (Ly.run (wctx) 20000 [] (Ly.start Try.f67 ([Value.int IntKind.u16 a, Value.int IntKind.u16 b]) H0)).out? = some (add22T0 a b, add22V0 a b) := by kernel_rfl
def of35T0 (a : Int) : List (Bool × Bool) := []
def of35V0 (a : Int) : Value := Value.agg { toList := [Value.bool (bits BinOp.and IntKind.u8 a 128 != 0), Value.bool (bits BinOp.and IntKind.u8 a 64 != 0), Value.bool (bits BinOp.and IntKind.u8 a 16 != 0), Value.bool (bits BinOp.and IntKind.u8 a 4 != 0), Value.bool (bits BinOp.and IntKind.u8 a 1 != 0)] }
theorem of35R0 (a : Int) : (Ly.run (wctx) 20000 [] (Ly.start Try.f107 ([Value.int IntKind.u8 a]) H0)).out? = some (of35T0 a, of35V0 a) := by kernel_rfl
def daa14FFT0 (a : Int) (s : Bool) (z : Bool) (p : Bool) : List (Bool × Bool) := [(decide (9 < bits BinOp.and IntKind.u8 a 15) == false, true), (decide (9 < (IntKind.u64.wrap (IntKind.u64.wrap a + 0)).fdiv (pw 4 IntKind.u64)) == false, true), (decide (0 ≤ IntKind.u8.wrap (IntKind.u64.wrap (IntKind.u64.wrap (IntKind.u64.wrap a + 0) + 0))) && decide (IntKind.u8.wrap (IntKind.u64.wrap (IntKind.u64.wrap (IntKind.u64.wrap a + 0) + 0)) ≤ 255), true)]
def daa14FFV0 (a : Int) (s : Bool) (z : Bool) (p : Bool) : Value := Value.tuple { toList := [Value.int IntKind.u8 (IntKind.u8.wrap (IntKind.u64.wrap (IntKind.u64.wrap (IntKind.u64.wrap a + 0) + 0))), Value.agg { toList := [Value.bool (bits BinOp.and IntKind.u8 (IntKind.u8.wrap (IntKind.u64.wrap (IntKind.u64.wrap (IntKind.u64.wrap a + 0) + 0))) 128 != 0), Value.bool (IntKind.u8.wrap (IntKind.u64.wrap (IntKind.u64.wrap (IntKind.u64.wrap a + 0) + 0)) == 0), Value.bool false, Value.bool (par (IntKind.u8.wrap (IntKind.u64.wrap (IntKind.u64.wrap (IntKind.u64.wrap a + 0) + 0)))), Value.bool false] }] }
theorem daa14FFR0 (a : Int) (s : Bool) (z : Bool) (p : Bool) : (Ly.run (wctx) 20000 [(0, true), (4, true), (7, true)] (Ly.start Try.f99 ([Value.int IntKind.u8 a, Value.agg { toList := [Value.bool s, Value.bool z, Value.bool false, Value.bool p, Value.bool false] }]) H0)).out? = some (daa14FFT0 a s z p, daa14FFV0 a s z p) := by kernel_rfl
def daa14FFT1 (a : Int) (s : Bool) (z : Bool) (p : Bool) : List (Bool × Bool) := [(decide (9 < bits BinOp.and IntKind.u8 a 15) == false, true), (decide (9 < (IntKind.u64.wrap (IntKind.u64.wrap a + 0)).fdiv (pw 4 IntKind.u64)) == false, false), (decide (0 ≤ IntKind.u8.wrap (IntKind.u64.wrap (IntKind.u64.wrap (IntKind.u64.wrap a + 0) + 96))) && decide (IntKind.u8.wrap (IntKind.u64.wrap (IntKind.u64.wrap (IntKind.u64.wrap a + 0) + 96)) ≤ 255), true)]
def daa14FFV1 (a : Int) (s : Bool) (z : Bool) (p : Bool) : Value := Value.tuple { toList := [Value.int IntKind.u8 (IntKind.u8.wrap (IntKind.u64.wrap (IntKind.u64.wrap (IntKind.u64.wrap a + 0) + 96))), Value.agg { toList := [Value.bool (bits BinOp.and IntKind.u8 (IntKind.u8.wrap (IntKind.u64.wrap (IntKind.u64.wrap (IntKind.u64.wrap a + 0) + 96))) 128 != 0), Value.bool (IntKind.u8.wrap (IntKind.u64.wrap (IntKind.u64.wrap (IntKind.u64.wrap a + 0) + 96)) == 0), Value.bool false, Value.bool (par (IntKind.u8.wrap (IntKind.u64.wrap (IntKind.u64.wrap (IntKind.u64.wrap a + 0) + 96)))), Value.bool true] }] }
theorem daa14FFR1 (a : Int) (s : Bool) (z : Bool) (p : Bool) : (Ly.run (wctx) 20000 [(0, true), (4, false), (7, true)] (Ly.start Try.f99 ([Value.int IntKind.u8 a, Value.agg { toList := [Value.bool s, Value.bool z, Value.bool false, Value.bool p, Value.bool false] }]) H0)).out? = some (daa14FFT1 a s z p, daa14FFV1 a s z p) := by kernel_rfl
def daa14FFT2 (a : Int) (s : Bool) (z : Bool) (p : Bool) : List (Bool × Bool) := [(decide (9 < bits BinOp.and IntKind.u8 a 15) == false, false), (decide (9 < (IntKind.u64.wrap (IntKind.u64.wrap a + 6)).fdiv (pw 4 IntKind.u64)) == false, true), (decide (0 ≤ IntKind.u8.wrap (IntKind.u64.wrap (IntKind.u64.wrap (IntKind.u64.wrap a + 6) + 0))) && decide (IntKind.u8.wrap (IntKind.u64.wrap (IntKind.u64.wrap (IntKind.u64.wrap a + 6) + 0)) ≤ 255), true)]
def daa14FFV2 (a : Int) (s : Bool) (z : Bool) (p : Bool) : Value := Value.tuple { toList := [Value.int IntKind.u8 (IntKind.u8.wrap (IntKind.u64.wrap (IntKind.u64.wrap (IntKind.u64.wrap a + 6) + 0))), Value.agg { toList := [Value.bool (bits BinOp.and IntKind.u8 (IntKind.u8.wrap (IntKind.u64.wrap (IntKind.u64.wrap (IntKind.u64.wrap a + 6) + 0))) 128 != 0), Value.bool (IntKind.u8.wrap (IntKind.u64.wrap (IntKind.u64.wrap (IntKind.u64.wrap a + 6) + 0)) == 0), Value.bool (decide (9 < bits BinOp.and IntKind.u8 a 15)), Value.bool (par (IntKind.u8.wrap (IntKind.u64.wrap (IntKind.u64.wrap (IntKind.u64.wrap a + 6) + 0)))), Value.bool false] }] }
theorem daa14FFR2 (a : Int) (s : Bool) (z : Bool) (p : Bool) : (Ly.run (wctx) 20000 [(0, false), (4, true), (7, true)] (Ly.start Try.f99 ([Value.int IntKind.u8 a, Value.agg { toList := [Value.bool s, Value.bool z, Value.bool false, Value.bool p, Value.bool false] }]) H0)).out? = some (daa14FFT2 a s z p, daa14FFV2 a s z p) := by kernel_rfl
def daa14FFT3 (a : Int) (s : Bool) (z : Bool) (p : Bool) : List (Bool × Bool) := [(decide (9 < bits BinOp.and IntKind.u8 a 15) == false, false), (decide (9 < (IntKind.u64.wrap (IntKind.u64.wrap a + 6)).fdiv (pw 4 IntKind.u64)) == false, false), (decide (0 ≤ IntKind.u8.wrap (IntKind.u64.wrap (IntKind.u64.wrap (IntKind.u64.wrap a + 6) + 96))) && decide (IntKind.u8.wrap (IntKind.u64.wrap (IntKind.u64.wrap (IntKind.u64.wrap a + 6) + 96)) ≤ 255), true)]
def daa14FFV3 (a : Int) (s : Bool) (z : Bool) (p : Bool) : Value := Value.tuple { toList := [Value.int IntKind.u8 (IntKind.u8.wrap (IntKind.u64.wrap (IntKind.u64.wrap (IntKind.u64.wrap a + 6) + 96))), Value.agg { toList := [Value.bool (bits BinOp.and IntKind.u8 (IntKind.u8.wrap (IntKind.u64.wrap (IntKind.u64.wrap (IntKind.u64.wrap a + 6) + 96))) 128 != 0), Value.bool (IntKind.u8.wrap (IntKind.u64.wrap (IntKind.u64.wrap (IntKind.u64.wrap a + 6) + 96)) == 0), Value.bool (decide (9 < bits BinOp.and IntKind.u8 a 15)), Value.bool (par (IntKind.u8.wrap (IntKind.u64.wrap (IntKind.u64.wrap (IntKind.u64.wrap a + 6) + 96)))), Value.bool true] }] }
theorem daa14FFR3 (a : Int) (s : Bool) (z : Bool) (p : Bool) : (Ly.run (wctx) 20000 [(0, false), (4, false), (7, true)] (Ly.start Try.f99 ([Value.int IntKind.u8 a, Value.agg { toList := [Value.bool s, Value.bool z, Value.bool false, Value.bool p, Value.bool false] }]) H0)).out? = some (daa14FFT3 a s z p, daa14FFV3 a s z p) := by kernel_rfl
def daa14FTT0 (a : Int) (s : Bool) (z : Bool) (p : Bool) : List (Bool × Bool) := [(decide (9 < bits BinOp.and IntKind.u8 a 15) == false, true), (decide (9 < (IntKind.u64.wrap (IntKind.u64.wrap a + 0)).fdiv (pw 4 IntKind.u64)) == false, true), (decide (0 ≤ IntKind.u8.wrap (IntKind.u64.wrap (IntKind.u64.wrap (IntKind.u64.wrap a + 0) + 96))) && decide (IntKind.u8.wrap (IntKind.u64.wrap (IntKind.u64.wrap (IntKind.u64.wrap a + 0) + 96)) ≤ 255), true)]
def daa14FTV0 (a : Int) (s : Bool) (z : Bool) (p : Bool) : Value := Value.tuple { toList := [Value.int IntKind.u8 (IntKind.u8.wrap (IntKind.u64.wrap (IntKind.u64.wrap (IntKind.u64.wrap a + 0) + 96))), Value.agg { toList := [Value.bool (bits BinOp.and IntKind.u8 (IntKind.u8.wrap (IntKind.u64.wrap (IntKind.u64.wrap (IntKind.u64.wrap a + 0) + 96))) 128 != 0), Value.bool (IntKind.u8.wrap (IntKind.u64.wrap (IntKind.u64.wrap (IntKind.u64.wrap a + 0) + 96)) == 0), Value.bool false, Value.bool (par (IntKind.u8.wrap (IntKind.u64.wrap (IntKind.u64.wrap (IntKind.u64.wrap a + 0) + 96)))), Value.bool true] }] }
theorem daa14FTR0 (a : Int) (s : Bool) (z : Bool) (p : Bool) : (Ly.run (wctx) 20000 [(0, true), (4, true), (7, true)] (Ly.start Try.f99 ([Value.int IntKind.u8 a, Value.agg { toList := [Value.bool s, Value.bool z, Value.bool false, Value.bool p, Value.bool true] }]) H0)).out? = some (daa14FTT0 a s z p, daa14FTV0 a s z p) := by kernel_rfl
def daa14FTT1 (a : Int) (s : Bool) (z : Bool) (p : Bool) : List (Bool × Bool) := [(decide (9 < bits BinOp.and IntKind.u8 a 15) == false, true), (decide (9 < (IntKind.u64.wrap (IntKind.u64.wrap a + 0)).fdiv (pw 4 IntKind.u64)) == false, false), (decide (0 ≤ IntKind.u8.wrap (IntKind.u64.wrap (IntKind.u64.wrap (IntKind.u64.wrap a + 0) + 96))) && decide (IntKind.u8.wrap (IntKind.u64.wrap (IntKind.u64.wrap (IntKind.u64.wrap a + 0) + 96)) ≤ 255), true)]
def daa14FTV1 (a : Int) (s : Bool) (z : Bool) (p : Bool) : Value := Value.tuple { toList := [Value.int IntKind.u8 (IntKind.u8.wrap (IntKind.u64.wrap (IntKind.u64.wrap (IntKind.u64.wrap a + 0) + 96))), Value.agg { toList := [Value.bool (bits BinOp.and IntKind.u8 (IntKind.u8.wrap (IntKind.u64.wrap (IntKind.u64.wrap (IntKind.u64.wrap a + 0) + 96))) 128 != 0), Value.bool (IntKind.u8.wrap (IntKind.u64.wrap (IntKind.u64.wrap (IntKind.u64.wrap a + 0) + 96)) == 0), Value.bool false, Value.bool (par (IntKind.u8.wrap (IntKind.u64.wrap (IntKind.u64.wrap (IntKind.u64.wrap a + 0) + 96)))), Value.bool true] }] }
theorem daa14FTR1 (a : Int) (s : Bool) (z : Bool) (p : Bool) : (Ly.run (wctx) 20000 [(0, true), (4, false), (7, true)] (Ly.start Try.f99 ([Value.int IntKind.u8 a, Value.agg { toList := [Value.bool s, Value.bool z, Value.bool false, Value.bool p, Value.bool true] }]) H0)).out? = some (daa14FTT1 a s z p, daa14FTV1 a s z p) := by kernel_rfl
def daa14FTT2 (a : Int) (s : Bool) (z : Bool) (p : Bool) : List (Bool × Bool) := [(decide (9 < bits BinOp.and IntKind.u8 a 15) == false, false), (decide (9 < (IntKind.u64.wrap (IntKind.u64.wrap a + 6)).fdiv (pw 4 IntKind.u64)) == false, true), (decide (0 ≤ IntKind.u8.wrap (IntKind.u64.wrap (IntKind.u64.wrap (IntKind.u64.wrap a + 6) + 96))) && decide (IntKind.u8.wrap (IntKind.u64.wrap (IntKind.u64.wrap (IntKind.u64.wrap a + 6) + 96)) ≤ 255), true)]
def daa14FTV2 (a : Int) (s : Bool) (z : Bool) (p : Bool) : Value := Value.tuple { toList := [Value.int IntKind.u8 (IntKind.u8.wrap (IntKind.u64.wrap (IntKind.u64.wrap (IntKind.u64.wrap a + 6) + 96))), Value.agg { toList := [Value.bool (bits BinOp.and IntKind.u8 (IntKind.u8.wrap (IntKind.u64.wrap (IntKind.u64.wrap (IntKind.u64.wrap a + 6) + 96))) 128 != 0), Value.bool (IntKind.u8.wrap (IntKind.u64.wrap (IntKind.u64.wrap (IntKind.u64.wrap a + 6) + 96)) == 0), Value.bool (decide (9 < bits BinOp.and IntKind.u8 a 15)), Value.bool (par (IntKind.u8.wrap (IntKind.u64.wrap (IntKind.u64.wrap (IntKind.u64.wrap a + 6) + 96)))), Value.bool true] }] }
theorem daa14FTR2 (a : Int) (s : Bool) (z : Bool) (p : Bool) : (Ly.run (wctx) 20000 [(0, false), (4, true), (7, true)] (Ly.start Try.f99 ([Value.int IntKind.u8 a, Value.agg { toList := [Value.bool s, Value.bool z, Value.bool false, Value.bool p, Value.bool true] }]) H0)).out? = some (daa14FTT2 a s z p, daa14FTV2 a s z p) := by kernel_rfl
def daa14FTT3 (a : Int) (s : Bool) (z : Bool) (p : Bool) : List (Bool × Bool) := [(decide (9 < bits BinOp.and IntKind.u8 a 15) == false, false), (decide (9 < (IntKind.u64.wrap (IntKind.u64.wrap a + 6)).fdiv (pw 4 IntKind.u64)) == false, false), (decide (0 ≤ IntKind.u8.wrap (IntKind.u64.wrap (IntKind.u64.wrap (IntKind.u64.wrap a + 6) + 96))) && decide (IntKind.u8.wrap (IntKind.u64.wrap (IntKind.u64.wrap (IntKind.u64.wrap a + 6) + 96)) ≤ 255), true)]
def daa14FTV3 (a : Int) (s : Bool) (z : Bool) (p : Bool) : Value := Value.tuple { toList := [Value.int IntKind.u8 (IntKind.u8.wrap (IntKind.u64.wrap (IntKind.u64.wrap (IntKind.u64.wrap a + 6) + 96))), Value.agg { toList := [Value.bool (bits BinOp.and IntKind.u8 (IntKind.u8.wrap (IntKind.u64.wrap (IntKind.u64.wrap (IntKind.u64.wrap a + 6) + 96))) 128 != 0), Value.bool (IntKind.u8.wrap (IntKind.u64.wrap (IntKind.u64.wrap (IntKind.u64.wrap a + 6) + 96)) == 0), Value.bool (decide (9 < bits BinOp.and IntKind.u8 a 15)), Value.bool (par (IntKind.u8.wrap (IntKind.u64.wrap (IntKind.u64.wrap (IntKind.u64.wrap a + 6) + 96)))), Value.bool true] }] }
theorem daa14FTR3 (a : Int) (s : Bool) (z : Bool) (p : Bool) : (Ly.run (wctx) 20000 [(0, false), (4, false), (7, true)] (Ly.start Try.f99 ([Value.int IntKind.u8 a, Value.agg { toList := [Value.bool s, Value.bool z, Value.bool false, Value.bool p, Value.bool true] }]) H0)).out? = some (daa14FTT3 a s z p, daa14FTV3 a s z p) := by kernel_rfl
def daa14TFT0 (a : Int) (s : Bool) (z : Bool) (p : Bool) : List (Bool × Bool) := [(decide (9 < bits BinOp.and IntKind.u8 a 15) == false, true), (decide (9 < (IntKind.u64.wrap (IntKind.u64.wrap a + 6)).fdiv (pw 4 IntKind.u64)) == false, true), (decide (0 ≤ IntKind.u8.wrap (IntKind.u64.wrap (IntKind.u64.wrap (IntKind.u64.wrap a + 6) + 0))) && decide (IntKind.u8.wrap (IntKind.u64.wrap (IntKind.u64.wrap (IntKind.u64.wrap a + 6) + 0)) ≤ 255), true)]
def daa14TFV0 (a : Int) (s : Bool) (z : Bool) (p : Bool) : Value := Value.tuple { toList := [Value.int IntKind.u8 (IntKind.u8.wrap (IntKind.u64.wrap (IntKind.u64.wrap (IntKind.u64.wrap a + 6) + 0))), Value.agg { toList := [Value.bool (bits BinOp.and IntKind.u8 (IntKind.u8.wrap (IntKind.u64.wrap (IntKind.u64.wrap (IntKind.u64.wrap a + 6) + 0))) 128 != 0), Value.bool (IntKind.u8.wrap (IntKind.u64.wrap (IntKind.u64.wrap (IntKind.u64.wrap a + 6) + 0)) == 0), Value.bool (decide (9 < bits BinOp.and IntKind.u8 a 15)), Value.bool (par (IntKind.u8.wrap (IntKind.u64.wrap (IntKind.u64.wrap (IntKind.u64.wrap a + 6) + 0)))), Value.bool false] }] }
theorem daa14TFR0 (a : Int) (s : Bool) (z : Bool) (p : Bool) : (Ly.run (wctx) 20000 [(0, true), (4, true), (7, true)] (Ly.start Try.f99 ([Value.int IntKind.u8 a, Value.agg { toList := [Value.bool s, Value.bool z, Value.bool true, Value.bool p, Value.bool false] }]) H0)).out? = some (daa14TFT0 a s z p, daa14TFV0 a s z p) := by kernel_rfl
def daa14TFT1 (a : Int) (s : Bool) (z : Bool) (p : Bool) : List (Bool × Bool) := [(decide (9 < bits BinOp.and IntKind.u8 a 15) == false, true), (decide (9 < (IntKind.u64.wrap (IntKind.u64.wrap a + 6)).fdiv (pw 4 IntKind.u64)) == false, false), (decide (0 ≤ IntKind.u8.wrap (IntKind.u64.wrap (IntKind.u64.wrap (IntKind.u64.wrap a + 6) + 96))) && decide (IntKind.u8.wrap (IntKind.u64.wrap (IntKind.u64.wrap (IntKind.u64.wrap a + 6) + 96)) ≤ 255), true)]
def daa14TFV1 (a : Int) (s : Bool) (z : Bool) (p : Bool) : Value := Value.tuple { toList := [Value.int IntKind.u8 (IntKind.u8.wrap (IntKind.u64.wrap (IntKind.u64.wrap (IntKind.u64.wrap a + 6) + 96))), Value.agg { toList := [Value.bool (bits BinOp.and IntKind.u8 (IntKind.u8.wrap (IntKind.u64.wrap (IntKind.u64.wrap (IntKind.u64.wrap a + 6) + 96))) 128 != 0), Value.bool (IntKind.u8.wrap (IntKind.u64.wrap (IntKind.u64.wrap (IntKind.u64.wrap a + 6) + 96)) == 0), Value.bool (decide (9 < bits BinOp.and IntKind.u8 a 15)), Value.bool (par (IntKind.u8.wrap (IntKind.u64.wrap (IntKind.u64.wrap (IntKind.u64.wrap a + 6) + 96)))), Value.bool true] }] }
theorem daa14TFR1 (a : Int) (s : Bool) (z : Bool) (p : Bool) : (Ly.run (wctx) 20000 [(0, true), (4, false), (7, true)] (Ly.start Try.f99 ([Value.int IntKind.u8 a, Value.agg { toList := [Value.bool s, Value.bool z, Value.bool true, Value.bool p, Value.bool false] }]) H0)).out? = some (daa14TFT1 a s z p, daa14TFV1 a s z p) := by kernel_rfl
def daa14TFT2 (a : Int) (s : Bool) (z : Bool) (p : Bool) : List (Bool × Bool) := [(decide (9 < bits BinOp.and IntKind.u8 a 15) == false, false), (decide (9 < (IntKind.u64.wrap (IntKind.u64.wrap a + 6)).fdiv (pw 4 IntKind.u64)) == false, true), (decide (0 ≤ IntKind.u8.wrap (IntKind.u64.wrap (IntKind.u64.wrap (IntKind.u64.wrap a + 6) + 0))) && decide (IntKind.u8.wrap (IntKind.u64.wrap (IntKind.u64.wrap (IntKind.u64.wrap a + 6) + 0)) ≤ 255), true)]
def daa14TFV2 (a : Int) (s : Bool) (z : Bool) (p : Bool) : Value := Value.tuple { toList := [Value.int IntKind.u8 (IntKind.u8.wrap (IntKind.u64.wrap (IntKind.u64.wrap (IntKind.u64.wrap a + 6) + 0))), Value.agg { toList := [Value.bool (bits BinOp.and IntKind.u8 (IntKind.u8.wrap (IntKind.u64.wrap (IntKind.u64.wrap (IntKind.u64.wrap a + 6) + 0))) 128 != 0), Value.bool (IntKind.u8.wrap (IntKind.u64.wrap (IntKind.u64.wrap (IntKind.u64.wrap a + 6) + 0)) == 0), Value.bool (decide (9 < bits BinOp.and IntKind.u8 a 15)), Value.bool (par (IntKind.u8.wrap (IntKind.u64.wrap (IntKind.u64.wrap (IntKind.u64.wrap a + 6) + 0)))), Value.bool false] }] }
theorem daa14TFR2 (a : Int) (s : Bool) (z : Bool) (p : Bool) : (Ly.run (wctx) 20000 [(0, false), (4, true), (7, true)] (Ly.start Try.f99 ([Value.int IntKind.u8 a, Value.agg { toList := [Value.bool s, Value.bool z, Value.bool true, Value.bool p, Value.bool false] }]) H0)).out? = some (daa14TFT2 a s z p, daa14TFV2 a s z p) := by kernel_rfl
def daa14TFT3 (a : Int) (s : Bool) (z : Bool) (p : Bool) : List (Bool × Bool) := [(decide (9 < bits BinOp.and IntKind.u8 a 15) == false, false), (decide (9 < (IntKind.u64.wrap (IntKind.u64.wrap a + 6)).fdiv (pw 4 IntKind.u64)) == false, false), (decide (0 ≤ IntKind.u8.wrap (IntKind.u64.wrap (IntKind.u64.wrap (IntKind.u64.wrap a + 6) + 96))) && decide (IntKind.u8.wrap (IntKind.u64.wrap (IntKind.u64.wrap (IntKind.u64.wrap a + 6) + 96)) ≤ 255), true)]
def daa14TFV3 (a : Int) (s : Bool) (z : Bool) (p : Bool) : Value := Value.tuple { toList := [Value.int IntKind.u8 (IntKind.u8.wrap (IntKind.u64.wrap (IntKind.u64.wrap (IntKind.u64.wrap a + 6) + 96))), Value.agg { toList := [Value.bool (bits BinOp.and IntKind.u8 (IntKind.u8.wrap (IntKind.u64.wrap (IntKind.u64.wrap (IntKind.u64.wrap a + 6) + 96))) 128 != 0), Value.bool (IntKind.u8.wrap (IntKind.u64.wrap (IntKind.u64.wrap (IntKind.u64.wrap a + 6) + 96)) == 0), Value.bool (decide (9 < bits BinOp.and IntKind.u8 a 15)), Value.bool (par (IntKind.u8.wrap (IntKind.u64.wrap (IntKind.u64.wrap (IntKind.u64.wrap a + 6) + 96)))), Value.bool true] }] }
theorem daa14TFR3 (a : Int) (s : Bool) (z : Bool) (p : Bool) : (Ly.run (wctx) 20000 [(0, false), (4, false), (7, true)] (Ly.start Try.f99 ([Value.int IntKind.u8 a, Value.agg { toList := [Value.bool s, Value.bool z, Value.bool true, Value.bool p, Value.bool false] }]) H0)).out? = some (daa14TFT3 a s z p, daa14TFV3 a s z p) := by kernel_rfl
def daa14TTT0 (a : Int) (s : Bool) (z : Bool) (p : Bool) : List (Bool × Bool) := [(decide (9 < bits BinOp.and IntKind.u8 a 15) == false, true), (decide (9 < (IntKind.u64.wrap (IntKind.u64.wrap a + 6)).fdiv (pw 4 IntKind.u64)) == false, true), (decide (0 ≤ IntKind.u8.wrap (IntKind.u64.wrap (IntKind.u64.wrap (IntKind.u64.wrap a + 6) + 96))) && decide (IntKind.u8.wrap (IntKind.u64.wrap (IntKind.u64.wrap (IntKind.u64.wrap a + 6) + 96)) ≤ 255), true)]
def daa14TTV0 (a : Int) (s : Bool) (z : Bool) (p : Bool) : Value := Value.tuple { toList := [Value.int IntKind.u8 (IntKind.u8.wrap (IntKind.u64.wrap (IntKind.u64.wrap (IntKind.u64.wrap a + 6) + 96))), Value.agg { toList := [Value.bool (bits BinOp.and IntKind.u8 (IntKind.u8.wrap (IntKind.u64.wrap (IntKind.u64.wrap (IntKind.u64.wrap a + 6) + 96))) 128 != 0), Value.bool (IntKind.u8.wrap (IntKind.u64.wrap (IntKind.u64.wrap (IntKind.u64.wrap a + 6) + 96)) == 0), Value.bool (decide (9 < bits BinOp.and IntKind.u8 a 15)), Value.bool (par (IntKind.u8.wrap (IntKind.u64.wrap (IntKind.u64.wrap (IntKind.u64.wrap a + 6) + 96)))), Value.bool true] }] }
theorem daa14TTR0 (a : Int) (s : Bool) (z : Bool) (p : Bool) : (Ly.run (wctx) 20000 [(0, true), (4, true), (7, true)] (Ly.start Try.f99 ([Value.int IntKind.u8 a, Value.agg { toList := [Value.bool s, Value.bool z, Value.bool true, Value.bool p, Value.bool true] }]) H0)).out? = some (daa14TTT0 a s z p, daa14TTV0 a s z p) := by kernel_rfl
def daa14TTT1 (a : Int) (s : Bool) (z : Bool) (p : Bool) : List (Bool × Bool) := [(decide (9 < bits BinOp.and IntKind.u8 a 15) == false, true), (decide (9 < (IntKind.u64.wrap (IntKind.u64.wrap a + 6)).fdiv (pw 4 IntKind.u64)) == false, false), (decide (0 ≤ IntKind.u8.wrap (IntKind.u64.wrap (IntKind.u64.wrap (IntKind.u64.wrap a + 6) + 96))) && decide (IntKind.u8.wrap (IntKind.u64.wrap (IntKind.u64.wrap (IntKind.u64.wrap a + 6) + 96)) ≤ 255), true)]
def daa14TTV1 (a : Int) (s : Bool) (z : Bool) (p : Bool) : Value := Value.tuple { toList := [Value.int IntKind.u8 (IntKind.u8.wrap (IntKind.u64.wrap (IntKind.u64.wrap (IntKind.u64.wrap a + 6) + 96))), Value.agg { toList := [Value.bool (bits BinOp.and IntKind.u8 (IntKind.u8.wrap (IntKind.u64.wrap (IntKind.u64.wrap (IntKind.u64.wrap a + 6) + 96))) 128 != 0), Value.bool (IntKind.u8.wrap (IntKind.u64.wrap (IntKind.u64.wrap (IntKind.u64.wrap a + 6) + 96)) == 0), Value.bool (decide (9 < bits BinOp.and IntKind.u8 a 15)), Value.bool (par (IntKind.u8.wrap (IntKind.u64.wrap (IntKind.u64.wrap (IntKind.u64.wrap a + 6) + 96)))), Value.bool true] }] }
theorem daa14TTR1 (a : Int) (s : Bool) (z : Bool) (p : Bool) : (Ly.run (wctx) 20000 [(0, true), (4, false), (7, true)] (Ly.start Try.f99 ([Value.int IntKind.u8 a, Value.agg { toList := [Value.bool s, Value.bool z, Value.bool true, Value.bool p, Value.bool true] }]) H0)).out? = some (daa14TTT1 a s z p, daa14TTV1 a s z p) := by kernel_rfl
def daa14TTT2 (a : Int) (s : Bool) (z : Bool) (p : Bool) : List (Bool × Bool) := [(decide (9 < bits BinOp.and IntKind.u8 a 15) == false, false), (decide (9 < (IntKind.u64.wrap (IntKind.u64.wrap a + 6)).fdiv (pw 4 IntKind.u64)) == false, true), (decide (0 ≤ IntKind.u8.wrap (IntKind.u64.wrap (IntKind.u64.wrap (IntKind.u64.wrap a + 6) + 96))) && decide (IntKind.u8.wrap (IntKind.u64.wrap (IntKind.u64.wrap (IntKind.u64.wrap a + 6) + 96)) ≤ 255), true)]
def daa14TTV2 (a : Int) (s : Bool) (z : Bool) (p : Bool) : Value := Value.tuple { toList := [Value.int IntKind.u8 (IntKind.u8.wrap (IntKind.u64.wrap (IntKind.u64.wrap (IntKind.u64.wrap a + 6) + 96))), Value.agg { toList := [Value.bool (bits BinOp.and IntKind.u8 (IntKind.u8.wrap (IntKind.u64.wrap (IntKind.u64.wrap (IntKind.u64.wrap a + 6) + 96))) 128 != 0), Value.bool (IntKind.u8.wrap (IntKind.u64.wrap (IntKind.u64.wrap (IntKind.u64.wrap a + 6) + 96)) == 0), Value.bool (decide (9 < bits BinOp.and IntKind.u8 a 15)), Value.bool (par (IntKind.u8.wrap (IntKind.u64.wrap (IntKind.u64.wrap (IntKind.u64.wrap a + 6) + 96)))), Value.bool true] }] }
theorem daa14TTR2 (a : Int) (s : Bool) (z : Bool) (p : Bool) : (Ly.run (wctx) 20000 [(0, false), (4, true), (7, true)] (Ly.start Try.f99 ([Value.int IntKind.u8 a, Value.agg { toList := [Value.bool s, Value.bool z, Value.bool true, Value.bool p, Value.bool true] }]) H0)).out? = some (daa14TTT2 a s z p, daa14TTV2 a s z p) := by kernel_rfl
def daa14TTT3 (a : Int) (s : Bool) (z : Bool) (p : Bool) : List (Bool × Bool) := [(decide (9 < bits BinOp.and IntKind.u8 a 15) == false, false), (decide (9 < (IntKind.u64.wrap (IntKind.u64.wrap a + 6)).fdiv (pw 4 IntKind.u64)) == false, false), (decide (0 ≤ IntKind.u8.wrap (IntKind.u64.wrap (IntKind.u64.wrap (IntKind.u64.wrap a + 6) + 96))) && decide (IntKind.u8.wrap (IntKind.u64.wrap (IntKind.u64.wrap (IntKind.u64.wrap a + 6) + 96)) ≤ 255), true)]
def daa14TTV3 (a : Int) (s : Bool) (z : Bool) (p : Bool) : Value := Value.tuple { toList := [Value.int IntKind.u8 (IntKind.u8.wrap (IntKind.u64.wrap (IntKind.u64.wrap (IntKind.u64.wrap a + 6) + 96))), Value.agg { toList := [Value.bool (bits BinOp.and IntKind.u8 (IntKind.u8.wrap (IntKind.u64.wrap (IntKind.u64.wrap (IntKind.u64.wrap a + 6) + 96))) 128 != 0), Value.bool (IntKind.u8.wrap (IntKind.u64.wrap (IntKind.u64.wrap (IntKind.u64.wrap a + 6) + 96)) == 0), Value.bool (decide (9 < bits BinOp.and IntKind.u8 a 15)), Value.bool (par (IntKind.u8.wrap (IntKind.u64.wrap (IntKind.u64.wrap (IntKind.u64.wrap a + 6) + 96)))), Value.bool true] }] }
theorem daa14TTR3 (a : Int) (s : Bool) (z : Bool) (p : Bool) : (Ly.run (wctx) 20000 [(0, false), (4, false), (7, true)] (Ly.start Try.f99 ([Value.int IntKind.u8 a, Value.agg { toList := [Value.bool s, Value.bool z, Value.bool true, Value.bool p, Value.bool true] }]) H0)).out? = some (daa14TTT3 a s z p, daa14TTV3 a s z p) := by kernel_rfl
def turn390FT0 (a : Int) : List (Bool × Bool) := []
def turn390FV0 (a : Int) : Value := Value.tuple { toList := [Value.int IntKind.u8 (bits BinOp.or IntKind.u8 (IntKind.u8.wrap (a * pw (bits BinOp.and IntKind.u64 (IntKind.u64.wrap 1) 7) IntKind.u8)) (a.fdiv (pw (IntKind.u64.wrap (8 - bits BinOp.and IntKind.u64 (IntKind.u64.wrap 1) 7)) IntKind.u8))), Value.bool (bits BinOp.and IntKind.u8 a 128 != 0)] }
theorem turn390FR0 (a : Int) : (Ly.run (wctx) 20000 [] (Ly.start Try.f100 ([Value.int IntKind.i64 0, Value.int IntKind.u8 a, Value.bool false]) H0)).out? = some (turn390FT0 a, turn390FV0 a) := by kernel_rfl
def turn390TT0 (a : Int) : List (Bool × Bool) := []
def turn390TV0 (a : Int) : Value := Value.tuple { toList := [Value.int IntKind.u8 (bits BinOp.or IntKind.u8 (IntKind.u8.wrap (a * pw (bits BinOp.and IntKind.u64 (IntKind.u64.wrap 1) 7) IntKind.u8)) (a.fdiv (pw (IntKind.u64.wrap (8 - bits BinOp.and IntKind.u64 (IntKind.u64.wrap 1) 7)) IntKind.u8))), Value.bool (bits BinOp.and IntKind.u8 a 128 != 0)] }
theorem turn390TR0 (a : Int) : (Ly.run (wctx) 20000 [] (Ly.start Try.f100 ([Value.int IntKind.i64 0, Value.int IntKind.u8 a, Value.bool true]) H0)).out? = some (turn390TT0 a, turn390TV0 a) := by kernel_rfl
def turn391FT0 (a : Int) : List (Bool × Bool) := []
def turn391FV0 (a : Int) : Value := Value.tuple { toList := [Value.int IntKind.u8 (bits BinOp.or IntKind.u8 (IntKind.u8.wrap (a * pw (bits BinOp.and IntKind.u64 (IntKind.u64.wrap (-1)) 7) IntKind.u8)) (a.fdiv (pw (IntKind.u64.wrap (8 - bits BinOp.and IntKind.u64 (IntKind.u64.wrap (-1)) 7)) IntKind.u8))), Value.bool (bits BinOp.and IntKind.u8 a 1 != 0)] }
theorem turn391FR0 (a : Int) : (Ly.run (wctx) 20000 [] (Ly.start Try.f100 ([Value.int IntKind.i64 1, Value.int IntKind.u8 a, Value.bool false]) H0)).out? = some (turn391FT0 a, turn391FV0 a) := by kernel_rfl
def turn391TT0 (a : Int) : List (Bool × Bool) := []
def turn391TV0 (a : Int) : Value := Value.tuple { toList := [Value.int IntKind.u8 (bits BinOp.or IntKind.u8 (IntKind.u8.wrap (a * pw (bits BinOp.and IntKind.u64 (IntKind.u64.wrap (-1)) 7) IntKind.u8)) (a.fdiv (pw (IntKind.u64.wrap (8 - bits BinOp.and IntKind.u64 (IntKind.u64.wrap (-1)) 7)) IntKind.u8))), Value.bool (bits BinOp.and IntKind.u8 a 1 != 0)] }
theorem turn391TR0 (a : Int) : (Ly.run (wctx) 20000 [] (Ly.start Try.f100 ([Value.int IntKind.i64 1, Value.int IntKind.u8 a, Value.bool true]) H0)).out? = some (turn391TT0 a, turn391TV0 a) := by kernel_rfl
def turn392FT0 (a : Int) : List (Bool × Bool) := []
def turn392FV0 (a : Int) : Value := Value.tuple { toList := [Value.int IntKind.u8 (bits BinOp.or IntKind.u8 (IntKind.u8.wrap (a * pw 1 IntKind.u8)) (IntKind.u8.wrap 0)), Value.bool (bits BinOp.and IntKind.u8 a 128 != 0)] }
theorem turn392FR0 (a : Int) : (Ly.run (wctx) 20000 [] (Ly.start Try.f100 ([Value.int IntKind.i64 2, Value.int IntKind.u8 a, Value.bool false]) H0)).out? = some (turn392FT0 a, turn392FV0 a) := by kernel_rfl
def turn392TT0 (a : Int) : List (Bool × Bool) := []
def turn392TV0 (a : Int) : Value := Value.tuple { toList := [Value.int IntKind.u8 (bits BinOp.or IntKind.u8 (IntKind.u8.wrap (a * pw 1 IntKind.u8)) (IntKind.u8.wrap 1)), Value.bool (bits BinOp.and IntKind.u8 a 128 != 0)] }
theorem turn392TR0 (a : Int) : (Ly.run (wctx) 20000 [] (Ly.start Try.f100 ([Value.int IntKind.i64 2, Value.int IntKind.u8 a, Value.bool true]) H0)).out? = some (turn392TT0 a, turn392TV0 a) := by kernel_rfl
def turn393FT0 (a : Int) : List (Bool × Bool) := []
def turn393FV0 (a : Int) : Value := Value.tuple { toList := [Value.int IntKind.u8 (bits BinOp.or IntKind.u8 (a.fdiv (pw 1 IntKind.u8)) (IntKind.u8.wrap (IntKind.u8.wrap 0 * pw 7 IntKind.u8))), Value.bool (bits BinOp.and IntKind.u8 a 1 != 0)] }
theorem turn393FR0 (a : Int) : (Ly.run (wctx) 20000 [] (Ly.start Try.f100 ([Value.int IntKind.i64 3, Value.int IntKind.u8 a, Value.bool false]) H0)).out? = some (turn393FT0 a, turn393FV0 a) := by kernel_rfl
def turn393TT0 (a : Int) : List (Bool × Bool) := []
def turn393TV0 (a : Int) : Value := Value.tuple { toList := [Value.int IntKind.u8 (bits BinOp.or IntKind.u8 (a.fdiv (pw 1 IntKind.u8)) (IntKind.u8.wrap (IntKind.u8.wrap 1 * pw 7 IntKind.u8))), Value.bool (bits BinOp.and IntKind.u8 a 1 != 0)] }
theorem turn393TR0 (a : Int) : (Ly.run (wctx) 20000 [] (Ly.start Try.f100 ([Value.int IntKind.i64 3, Value.int IntKind.u8 a, Value.bool true]) H0)).out? = some (turn393TT0 a, turn393TV0 a) := by kernel_rfl
def turn39XT6 (k : Int) (a : Int) (c : Bool) : List (Bool × Bool) := [(k == 0, false), (k == 1, false), (k == 2, false), (k == 3, false)]
def turn39XV6 (k : Int) (a : Int) (c : Bool) : Value := Value.tuple { toList := [Value.int IntKind.u8 a, Value.bool c] }
theorem turn39XR6 (k : Int) (a : Int) (c : Bool) : (Ly.run (wctx) 20000 [(0, false), (0, false), (0, false), (0, false)] (Ly.start Try.f100 ([Value.int IntKind.i64 k, Value.int IntKind.u8 a, Value.bool c]) H0)).out? = some (turn39XT6 k a c, turn39XV6 k a c) := by kernel_rfl
end Go.Proofs.Ytdjmpilegommlaa
namespace Go.Proofs.Ytdjmpilegommlaa
open Go Go.Ly Go.RowKit
def cI (c : Bool) : Int := bif c then 1 else 0
abbrev fl (b : Int) (x c : Bool) : Value := .agg ⟨[.bool (decide (128 ≤ b)), .bool (b == 0), .bool x, .bool (par b), .bool c]⟩
abbrev tup (b : Int) (x c : Bool) : Value := .tuple ⟨[.int .u8 b, fl b x c]⟩
theorem tup_ext {b b' : Int} {x x' c c' : Bool} (h : b = b') (hx : x = x') (hc : c = c') : tup b x c = tup b' x' c' := by rw [h, hx, hc]
theorem tup_plain (b : Int) (x c : Bool) : plain (tup b x c) = true := by simp [plain, plainL]
theorem w64 (n : Int) (h₀ : 0 ≤ n) (h₁ : n < 18446744073709551616) : IntKind.u64.wrap n = n := by rw [IntKind.wrap_u64]; omega
theorem wi64 (n : Int) (h₀ : -9223372036854775808 ≤ n) (h₁ : n < 9223372036854775808) : IntKind.i64.wrap n = n := by rw [IntKind.wrap_i64]; omega
theorem tmodp (n m : Int) (h : 0 ≤ n) : n.tmod m = n % m := Int.tmod_eq_emod_of_nonneg h
theorem tdivp (n m : Int) (h : 0 ≤ n) : n.tdiv m = n / m := Int.tdiv_eq_ediv_of_nonneg h
theorem bitsb (o : BinOp) (a b : Int) : 0 ≤ bits o .u8 a b ∧ bits o .u8 a b ≤ 255 := by
  cases o <;> (first | (simp only [bits, IntKind.wrap_u8']; omega) | (simp [bits]))
theorem i64_and65535 (n : Int) : bits .and .i64 n 65535 = n % 65536 := by
  have h127 : (BitVec.ofInt 64 65535).toNat = 2 ^ 16 - 1 := by decide
  have key : (BitVec.ofInt 64 n &&& BitVec.ofInt 64 65535).toNat = (n % ((2 ^ 64 : Nat) : Int)).toNat % 2 ^ 16 := by
    rw [BitVec.toNat_and, BitVec.toNat_ofInt, h127, Nat.and_two_pow_sub_one_eq_mod]
  show IntKind.i64.wrap ((BitVec.ofInt 64 n &&& BitVec.ofInt 64 65535).toNat : Nat) = n % 65536
  rw [key, IntKind.wrap_i64]
  omega
theorem aux8 (b : Int) (h0 : 0 ≤ b) (h1 : b ≤ 255) : ((b / 8 % 256) % 2 == 1) = (bits .and .u8 b 8 != 0) :=
  byte_all (p := fun b => ((b / 8 % 256) % 2 == 1) = (bits .and .u8 b 8 != 0)) (by decide +kernel) b h0 h1
def addR (a b : Int) (c : Bool) : Value := tup ((a + b + cI c) % 256) (decide (15 < a % 16 + b % 16 + cI c)) (decide (255 < a + b + cI c))
def subR (a b : Int) (c : Bool) : Value := tup ((a - b - cI c) % 256) (decide (15 < a % 16 + 15 - b % 16 + cI (!c))) (decide (a - b - cI c < 0))
def andR (a b : Int) : Value := tup (bits .and .u8 a b) (bits .and .u8 (bits .or .u8 a b) 8 != 0) false
def orR (a b : Int) : Value := tup (bits .or .u8 a b) false false
def xorR (a b : Int) : Value := tup (bits .xor .u8 a b) false false
def add16R (a b : Int) : Value := .tuple ⟨[.int .u16 ((a + b) % 65536), .bool (decide (65535 < a + b))]⟩
theorem add13F_ok (a b : Int) (ha : 0 ≤ a) (ha' : a ≤ 255) (hb : 0 ≤ b) (hb' : b ≤ 255) : trusted (add13FT0 a b) ∧ add13FV0 a b = addR a b false := by
  unfold add13FT0 add13FV0 addR
  refine ⟨?_, ?_⟩
  · (first | simp (disch := omega) only [w64, wi64, IntKind.wrap_u8', IntKind.wrap_u16, Int.zero_add, Int.add_zero, Int.sub_zero, and128, Ly.and15, not8, and255, i64_and65535, tmodp, tdivp, aux8, cI, cond_true, cond_false, Bool.not_true, Bool.not_false, Bool.not_not, decide_not, trusted, Bool.and_eq_true, decide_eq_true_eq, and_true] | skip)
    first | done | omega | trivial
  · (first | simp (disch := omega) only [w64, wi64, IntKind.wrap_u8', IntKind.wrap_u16, Int.zero_add, Int.add_zero, Int.sub_zero, and128, Ly.and15, not8, and255, i64_and65535, tmodp, tdivp, aux8, cI, cond_true, cond_false, Bool.not_true, Bool.not_false, Bool.not_not, decide_not, trusted, Bool.and_eq_true, decide_eq_true_eq, and_true] | skip)
    first | done | rfl | exact tup_ext (by omega) (by first | rfl | (simp only [decide_eq_decide]; omega)) (by first | rfl | (simp only [decide_eq_decide]; omega) | (rw [← decide_not, decide_eq_decide]; omega) | (rw [Bool.eq_iff_iff]; simp only [Bool.not_eq_true', decide_eq_false_iff_not, decide_eq_true_eq]; omega)) | (simp only [Int.emod_emod_of_dvd _ (Int.dvd_refl _)])
theorem add13T_ok (a b : Int) (ha : 0 ≤ a) (ha' : a ≤ 255) (hb : 0 ≤ b) (hb' : b ≤ 255) : trusted (add13TT0 a b) ∧ add13TV0 a b = addR a b true := by
  unfold add13TT0 add13TV0 addR
  refine ⟨?_, ?_⟩
  · (first | simp (disch := omega) only [w64, wi64, IntKind.wrap_u8', IntKind.wrap_u16, Int.zero_add, Int.add_zero, Int.sub_zero, and128, Ly.and15, not8, and255, i64_and65535, tmodp, tdivp, aux8, cI, cond_true, cond_false, Bool.not_true, Bool.not_false, Bool.not_not, decide_not, trusted, Bool.and_eq_true, decide_eq_true_eq, and_true] | skip)
    first | done | omega | trivial
  · (first | simp (disch := omega) only [w64, wi64, IntKind.wrap_u8', IntKind.wrap_u16, Int.zero_add, Int.add_zero, Int.sub_zero, and128, Ly.and15, not8, and255, i64_and65535, tmodp, tdivp, aux8, cI, cond_true, cond_false, Bool.not_true, Bool.not_false, Bool.not_not, decide_not, trusted, Bool.and_eq_true, decide_eq_true_eq, and_true] | skip)
    first | done | rfl | exact tup_ext (by omega) (by first | rfl | (simp only [decide_eq_decide]; omega)) (by first | rfl | (simp only [decide_eq_decide]; omega) | (rw [← decide_not, decide_eq_decide]; omega) | (rw [Bool.eq_iff_iff]; simp only [Bool.not_eq_true', decide_eq_false_iff_not, decide_eq_true_eq]; omega)) | (simp only [Int.emod_emod_of_dvd _ (Int.dvd_refl _)])
theorem sub24F_ok (a b : Int) (ha : 0 ≤ a) (ha' : a ≤ 255) (hb : 0 ≤ b) (hb' : b ≤ 255) : trusted (sub24FT0 a b) ∧ sub24FV0 a b = subR a b false := by
  unfold sub24FT0 sub24FV0 subR
  refine ⟨?_, ?_⟩
  · (first | simp (disch := omega) only [w64, wi64, IntKind.wrap_u8', IntKind.wrap_u16, Int.zero_add, Int.add_zero, Int.sub_zero, and128, Ly.and15, not8, and255, i64_and65535, tmodp, tdivp, aux8, cI, cond_true, cond_false, Bool.not_true, Bool.not_false, Bool.not_not, decide_not, trusted, Bool.and_eq_true, decide_eq_true_eq, and_true] | skip)
    first | done | omega | trivial
  · (first | simp (disch := omega) only [w64, wi64, IntKind.wrap_u8', IntKind.wrap_u16, Int.zero_add, Int.add_zero, Int.sub_zero, and128, Ly.and15, not8, and255, i64_and65535, tmodp, tdivp, aux8, cI, cond_true, cond_false, Bool.not_true, Bool.not_false, Bool.not_not, decide_not, trusted, Bool.and_eq_true, decide_eq_true_eq, and_true] | skip)
    first | done | rfl | exact tup_ext (by omega) (by first | rfl | (simp only [decide_eq_decide]; omega)) (by first | rfl | (simp only [decide_eq_decide]; omega) | (rw [← decide_not, decide_eq_decide]; omega) | (rw [Bool.eq_iff_iff]; simp only [Bool.not_eq_true', decide_eq_false_iff_not, decide_eq_true_eq]; omega)) | (simp only [Int.emod_emod_of_dvd _ (Int.dvd_refl _)])
theorem sub24T_ok (a b : Int) (ha : 0 ≤ a) (ha' : a ≤ 255) (hb : 0 ≤ b) (hb' : b ≤ 255) : trusted (sub24TT0 a b) ∧ sub24TV0 a b = subR a b true := by
  have hs : subR a b true = tup ((a - b - 1) % 256) (decide (15 < a % 16 + 15 - b % 16 + 0)) (decide (a - b - 1 < 0)) := rfl
  rw [hs]; unfold sub24TT0 sub24TV0
  refine ⟨?_, ?_⟩
  · (first | simp (disch := omega) only [w64, wi64, IntKind.wrap_u8', IntKind.wrap_u16, Int.zero_add, Int.add_zero, Int.sub_zero, and128, Ly.and15, not8, and255, i64_and65535, tmodp, tdivp, aux8, cI, cond_true, cond_false, Bool.not_true, Bool.not_false, Bool.not_not, decide_not, trusted, Bool.and_eq_true, decide_eq_true_eq, and_true] | skip)
    first | done | omega | trivial
  · (first | simp (disch := omega) only [w64, wi64, IntKind.wrap_u8', IntKind.wrap_u16, Int.zero_add, Int.add_zero, Int.sub_zero, and128, Ly.and15, not8, and255, i64_and65535, tmodp, tdivp, aux8, cI, cond_true, cond_false, Bool.not_true, Bool.not_false, Bool.not_not, decide_not, trusted, Bool.and_eq_true, decide_eq_true_eq, and_true] | skip)
    first | done | rfl | exact tup_ext (by omega) (by first | rfl | (simp only [decide_eq_decide]; omega)) (by first | rfl | (simp only [decide_eq_decide]; omega) | (rw [← decide_not, decide_eq_decide]; omega) | (rw [Bool.eq_iff_iff]; simp only [Bool.not_eq_true', decide_eq_false_iff_not, decide_eq_true_eq]; omega)) | (simp only [Int.emod_emod_of_dvd _ (Int.dvd_refl _)])
theorem and15_ok (a b : Int) (ha : 0 ≤ a) (ha' : a ≤ 255) (hb : 0 ≤ b) (hb' : b ≤ 255) : trusted (and15T0 a b) ∧ and15V0 a b = andR a b := by
  have hq := bitsb .and a b; have hr := bitsb .or a b; have hs := bitsb .xor a b
  obtain ⟨hq0, hq1⟩ := hq; obtain ⟨hr0, hr1⟩ := hr; obtain ⟨hs0, hs1⟩ := hs
  unfold and15T0 and15V0 andR
  refine ⟨?_, ?_⟩
  · (first | simp (disch := omega) only [w64, wi64, IntKind.wrap_u8', IntKind.wrap_u16, Int.zero_add, Int.add_zero, Int.sub_zero, and128, Ly.and15, not8, and255, i64_and65535, tmodp, tdivp, aux8, cI, cond_true, cond_false, Bool.not_true, Bool.not_false, Bool.not_not, decide_not, trusted, Bool.and_eq_true, decide_eq_true_eq, and_true] | skip)
    first | done | omega | trivial
  · (first | simp (disch := omega) only [w64, wi64, IntKind.wrap_u8', IntKind.wrap_u16, Int.zero_add, Int.add_zero, Int.sub_zero, and128, Ly.and15, not8, and255, i64_and65535, tmodp, tdivp, aux8, cI, cond_true, cond_false, Bool.not_true, Bool.not_false, Bool.not_not, decide_not, trusted, Bool.and_eq_true, decide_eq_true_eq, and_true] | skip)
    first | done | rfl | exact tup_ext (by omega) (by first | rfl | (simp only [decide_eq_decide]; omega)) (by first | rfl | (simp only [decide_eq_decide]; omega) | (rw [← decide_not, decide_eq_decide]; omega) | (rw [Bool.eq_iff_iff]; simp only [Bool.not_eq_true', decide_eq_false_iff_not, decide_eq_true_eq]; omega)) | (simp only [Int.emod_emod_of_dvd _ (Int.dvd_refl _)])
theorem or16_ok (a b : Int) (ha : 0 ≤ a) (ha' : a ≤ 255) (hb : 0 ≤ b) (hb' : b ≤ 255) : trusted (or16T0 a b) ∧ or16V0 a b = orR a b := by
  have hq := bitsb .and a b; have hr := bitsb .or a b; have hs := bitsb .xor a b
  obtain ⟨hq0, hq1⟩ := hq; obtain ⟨hr0, hr1⟩ := hr; obtain ⟨hs0, hs1⟩ := hs
  unfold or16T0 or16V0 orR
  refine ⟨?_, ?_⟩
  · (first | simp (disch := omega) only [w64, wi64, IntKind.wrap_u8', IntKind.wrap_u16, Int.zero_add, Int.add_zero, Int.sub_zero, and128, Ly.and15, not8, and255, i64_and65535, tmodp, tdivp, aux8, cI, cond_true, cond_false, Bool.not_true, Bool.not_false, Bool.not_not, decide_not, trusted, Bool.and_eq_true, decide_eq_true_eq, and_true] | skip)
    first | done | omega | trivial
  · (first | simp (disch := omega) only [w64, wi64, IntKind.wrap_u8', IntKind.wrap_u16, Int.zero_add, Int.add_zero, Int.sub_zero, and128, Ly.and15, not8, and255, i64_and65535, tmodp, tdivp, aux8, cI, cond_true, cond_false, Bool.not_true, Bool.not_false, Bool.not_not, decide_not, trusted, Bool.and_eq_true, decide_eq_true_eq, and_true] | skip)
    first | done | rfl | exact tup_ext (by omega) (by first | rfl | (simp only [decide_eq_decide]; omega)) (by first | rfl | (simp only [decide_eq_decide]; omega) | (rw [← decide_not, decide_eq_decide]; omega) | (rw [Bool.eq_iff_iff]; simp only [Bool.not_eq_true', decide_eq_false_iff_not, decide_eq_true_eq]; omega)) | (simp only [Int.emod_emod_of_dvd _ (Int.dvd_refl _)])
theorem xor17_ok (a b : Int) (ha : 0 ≤ a) (ha' : a ≤ 255) (hb : 0 ≤ b) (hb' : b ≤ 255) : trusted (xor17T0 a b) ∧ xor17V0 a b = xorR a b := by
  have hq := bitsb .and a b; have hr := bitsb .or a b; have hs := bitsb .xor a b
  obtain ⟨hq0, hq1⟩ := hq; obtain ⟨hr0, hr1⟩ := hr; obtain ⟨hs0, hs1⟩ := hs
  unfold xor17T0 xor17V0 xorR
  refine ⟨?_, ?_⟩
  · (first | simp (disch := omega) only [w64, wi64, IntKind.wrap_u8', IntKind.wrap_u16, Int.zero_add, Int.add_zero, Int.sub_zero, and128, Ly.and15, not8, and255, i64_and65535, tmodp, tdivp, aux8, cI, cond_true, cond_false, Bool.not_true, Bool.not_false, Bool.not_not, decide_not, trusted, Bool.and_eq_true, decide_eq_true_eq, and_true] | skip)
    first | done | omega | trivial
  · (first | simp (disch := omega) only [w64, wi64, IntKind.wrap_u8', IntKind.wrap_u16, Int.zero_add, Int.add_zero, Int.sub_zero, and128, Ly.and15, not8, and255, i64_and65535, tmodp, tdivp, aux8, cI, cond_true, cond_false, Bool.not_true, Bool.not_false, Bool.not_not, decide_not, trusted, Bool.and_eq_true, decide_eq_true_eq, and_true] | skip)
    first | done | rfl | exact tup_ext (by omega) (by first | rfl | (simp only [decide_eq_decide]; omega)) (by first | rfl | (simp only [decide_eq_decide]; omega) | (rw [← decide_not, decide_eq_decide]; omega) | (rw [Bool.eq_iff_iff]; simp only [Bool.not_eq_true', decide_eq_false_iff_not, decide_eq_true_eq]; omega)) | (simp only [Int.emod_emod_of_dvd _ (Int.dvd_refl _)])
theorem add22_ok (a b : Int) (ha : 0 ≤ a) (ha' : a ≤ 65535) (hb : 0 ≤ b) (hb' : b ≤ 65535) : trusted (add22T0 a b) ∧ add22V0 a b = add16R a b := by
  unfold add22T0 add22V0 add16R
  refine ⟨?_, ?_⟩
  · (first | simp (disch := omega) only [w64, wi64, IntKind.wrap_u8', IntKind.wrap_u16, Int.zero_add, Int.add_zero, Int.sub_zero, and128, Ly.and15, not8, and255, i64_and65535, tmodp, tdivp, aux8, cI, cond_true, cond_false, Bool.not_true, Bool.not_false, Bool.not_not, decide_not, trusted, Bool.and_eq_true, decide_eq_true_eq, and_true] | skip)
    first | done | omega | trivial
  · (first | simp (disch := omega) only [w64, wi64, IntKind.wrap_u8', IntKind.wrap_u16, Int.zero_add, Int.add_zero, Int.sub_zero, and128, Ly.and15, not8, and255, i64_and65535, tmodp, tdivp, aux8, cI, cond_true, cond_false, Bool.not_true, Bool.not_false, Bool.not_not, decide_not, trusted, Bool.and_eq_true, decide_eq_true_eq, and_true] | skip)
    first | done | rfl | exact tup_ext (by omega) (by first | rfl | (simp only [decide_eq_decide]; omega)) (by first | rfl | (simp only [decide_eq_decide]; omega) | (rw [← decide_not, decide_eq_decide]; omega) | (rw [Bool.eq_iff_iff]; simp only [Bool.not_eq_true', decide_eq_false_iff_not, decide_eq_true_eq]; omega)) | (simp only [Int.emod_emod_of_dvd _ (Int.dvd_refl _)])
end Go.Proofs.Ytdjmpilegommlaa
namespace Go.Proofs.Ytdjmpilegommlaa
open Go Go.Ly Go.RowKit
def incR (a : Int) (c : Bool) : Value := tup ((a + 1) % 256) (decide (15 < a % 16 + 1)) c
def decR (a : Int) (c : Bool) : Value := tup ((a - 1) % 256) (decide (15 < a % 16 + 15)) c
def daaL (a : Int) (x : Bool) : Bool := decide (9 < a % 16) || x
def daaH (a : Int) (x c : Bool) : Bool := decide (9 < (a + 6 * cI (daaL a x)) / 16) || c
def daaR (a : Int) (x c : Bool) : Value := tup ((a + 6 * cI (daaL a x) + 96 * cI (daaH a x c)) % 256) (decide (9 < a % 16)) (daaH a x c)
def turnR (k a : Int) (c : Bool) : Value := bif k == 0 then .tuple ⟨[.int .u8 ((2 * a + a / 128) % 256), .bool (decide (128 ≤ a))]⟩ else bif k == 1 then .tuple ⟨[.int .u8 (a / 2 + a % 2 * 128), .bool (a % 2 == 1)]⟩ else bif k == 2 then .tuple ⟨[.int .u8 ((2 * a + cI c) % 256), .bool (decide (128 ≤ a))]⟩ else bif k == 3 then .tuple ⟨[.int .u8 (a / 2 + 128 * cI c), .bool (a % 2 == 1)]⟩ else .tuple ⟨[.int .u8 a, .bool c]⟩
def ofR (a : Int) : Value := .agg ⟨[.bool (decide (128 ≤ a)), .bool (a / 64 % 2 == 1), .bool (a / 16 % 2 == 1), .bool (a / 4 % 2 == 1), .bool (a % 2 == 1)]⟩
def pswR (s z x p c : Bool) : Value := .int .u8 (128 * cI s + 64 * cI z + 16 * cI x + 4 * cI p + 2 + cI c)
def con3 (r : Int → Int → Bool → Value) (l : List Value) : Option (Bool × Value) := match l with
  | [.int .u8 a, .int .u8 b, .bool c] => some (inb a && inb b, r a b c)
  | _ => none
def con2 (r : Int → Int → Value) (l : List Value) : Option (Bool × Value) := match l with
  | [.int .u8 a, .int .u8 b] => some (inb a && inb b, r a b)
  | _ => none
def conW (l : List Value) : Option (Bool × Value) := match l with
  | [.int .u16 a, .int .u16 b] => some ((decide (0 ≤ a) && decide (a ≤ 65535)) && (decide (0 ≤ b) && decide (b ≤ 65535)), add16R a b)
  | _ => none
def conF (r : Int → Bool → Bool → Bool → Bool → Bool → Value) (l : List Value) : Option (Bool × Value) := match l with
  | [.int .u8 a, .agg ⟨[.bool s, .bool z, .bool x, .bool p, .bool c]⟩] => some (inb a, r a s z x p c)
  | _ => none
def conT (l : List Value) : Option (Bool × Value) := match l with
  | [.int .i64 k, .int .u8 a, .bool c] => some (inb a, turnR k a c)
  | _ => none
def con1b (r : Int → Value) (l : List Value) : Option (Bool × Value) := match l with
  | [.int .u8 a] => some (inb a, r a)
  | _ => none
def conP (l : List Value) : Option (Bool × Value) := match l with
  | [.agg ⟨[.bool s, .bool z, .bool x, .bool p, .bool c]⟩] => some (true, pswR s z x p c)
  | _ => none
theorem turn_plain (k a : Int) (c : Bool) : plain (turnR k a c) = true := by
  unfold turnR
  cases (k == 0) <;> cases (k == 1) <;> cases (k == 2) <;> cases (k == 3) <;> simp [plain, plainL]
theorem get13 : wctx.fn.get 73 = some Try.f73 := by kernel_rfl
theorem get24 : wctx.fn.get 74 = some Try.f74 := by kernel_rfl
theorem get15 : wctx.fn.get 75 = some Try.f75 := by kernel_rfl
theorem get16 : wctx.fn.get 77 = some Try.f77 := by kernel_rfl
theorem get17 : wctx.fn.get 76 = some Try.f76 := by kernel_rfl
theorem get22 : wctx.fn.get 67 = some Try.f67 := by kernel_rfl
theorem get27 : wctx.fn.get 70 = some Try.f70 := by kernel_rfl
theorem get29 : wctx.fn.get 71 = some Try.f71 := by kernel_rfl
theorem get14 : wctx.fn.get 99 = some Try.f99 := by kernel_rfl
theorem get39 : wctx.fn.get 100 = some Try.f100 := by kernel_rfl
theorem get35 : wctx.fn.get 107 = some Try.f107 := by kernel_rfl
theorem ans13 : Answers Try.prog 73 (con3 addR) := by
  intro args g v h hg
  unfold con3 at h
  split at h
  · rename_i a b c
    simp only [Option.some.injEq, Prod.mk.injEq] at h
    obtain ⟨rfl, rfl⟩ := h
    simp only [Bool.and_eq_true, inb_iff] at hg
    obtain ⟨⟨h0, h1⟩, h2, h3⟩ := hg
    refine ⟨by simp [plain, plainL], tup_plain _ _ _, fun w => ?_⟩
    cases c with
    | false =>
      obtain ⟨ht, hv⟩ := add13F_ok a b h0 h1 h2 h3
      rw [← hv]
      exact calls_trust wok 20000 _ get13 (by kernel_rfl) (by simp [plain, plainL]) (by rw [hv]; exact tup_plain _ _ _) (add13FR0 a b) ht w
    | true =>
      obtain ⟨ht, hv⟩ := add13T_ok a b h0 h1 h2 h3
      rw [← hv]
      exact calls_trust wok 20000 _ get13 (by kernel_rfl) (by simp [plain, plainL]) (by rw [hv]; exact tup_plain _ _ _) (add13TR0 a b) ht w
  · cases h
theorem ans24 : Answers Try.prog 74 (con3 subR) := by
  intro args g v h hg
  unfold con3 at h
  split at h
  · rename_i a b c
    simp only [Option.some.injEq, Prod.mk.injEq] at h
    obtain ⟨rfl, rfl⟩ := h
    simp only [Bool.and_eq_true, inb_iff] at hg
    obtain ⟨⟨h0, h1⟩, h2, h3⟩ := hg
    refine ⟨by simp [plain, plainL], tup_plain _ _ _, fun w => ?_⟩
    cases c with
    | false =>
      obtain ⟨ht, hv⟩ := sub24F_ok a b h0 h1 h2 h3
      rw [← hv]
      exact calls_trust wok 20000 _ get24 (by kernel_rfl) (by simp [plain, plainL]) (by rw [hv]; exact tup_plain _ _ _) (sub24FR0 a b) ht w
    | true =>
      obtain ⟨ht, hv⟩ := sub24T_ok a b h0 h1 h2 h3
      rw [← hv]
      exact calls_trust wok 20000 _ get24 (by kernel_rfl) (by simp [plain, plainL]) (by rw [hv]; exact tup_plain _ _ _) (sub24TR0 a b) ht w
  · cases h
theorem ans15 : Answers Try.prog 75 (con2 andR) := by
  intro args g v h hg
  unfold con2 at h
  split at h
  · rename_i a b
    simp only [Option.some.injEq, Prod.mk.injEq] at h
    obtain ⟨rfl, rfl⟩ := h
    simp only [Bool.and_eq_true, inb_iff] at hg
    obtain ⟨⟨h0, h1⟩, h2, h3⟩ := hg
    refine ⟨by simp [plain, plainL], tup_plain _ _ _, fun w => ?_⟩
    obtain ⟨ht, hv⟩ := and15_ok a b h0 h1 h2 h3
    rw [← hv]
    exact calls_trust wok 20000 _ get15 (by kernel_rfl) (by simp [plain, plainL]) (by rw [hv]; exact tup_plain _ _ _) (and15R0 a b) ht w
  · cases h
theorem ans16 : Answers Try.prog 77 (con2 orR) := by
  intro args g v h hg
  unfold con2 at h
  split at h
  · rename_i a b
    simp only [Option.some.injEq, Prod.mk.injEq] at h
    obtain ⟨rfl, rfl⟩ := h
    simp only [Bool.and_eq_true, inb_iff] at hg
    obtain ⟨⟨h0, h1⟩, h2, h3⟩ := hg
    refine ⟨by simp [plain, plainL], tup_plain _ _ _, fun w => ?_⟩
    obtain ⟨ht, hv⟩ := or16_ok a b h0 h1 h2 h3
    rw [← hv]
    exact calls_trust wok 20000 _ get16 (by kernel_rfl) (by simp [plain, plainL]) (by rw [hv]; exact tup_plain _ _ _) (or16R0 a b) ht w
  · cases h
theorem ans17 : Answers Try.prog 76 (con2 xorR) := by
  intro args g v h hg
  unfold con2 at h
  split at h
  · rename_i a b
    simp only [Option.some.injEq, Prod.mk.injEq] at h
    obtain ⟨rfl, rfl⟩ := h
    simp only [Bool.and_eq_true, inb_iff] at hg
    obtain ⟨⟨h0, h1⟩, h2, h3⟩ := hg
    refine ⟨by simp [plain, plainL], tup_plain _ _ _, fun w => ?_⟩
    obtain ⟨ht, hv⟩ := xor17_ok a b h0 h1 h2 h3
    rw [← hv]
    exact calls_trust wok 20000 _ get17 (by kernel_rfl) (by simp [plain, plainL]) (by rw [hv]; exact tup_plain _ _ _) (xor17R0 a b) ht w
  · cases h
theorem ans22 : Answers Try.prog 67 conW := by
  intro args g v h hg
  unfold conW at h
  split at h
  · rename_i a b
    simp only [Option.some.injEq, Prod.mk.injEq] at h
    obtain ⟨rfl, rfl⟩ := h
    simp only [Bool.and_eq_true, decide_eq_true_eq] at hg
    obtain ⟨⟨h0, h1⟩, h2, h3⟩ := hg
    refine ⟨by simp [plain, plainL], by simp [add16R, plain, plainL], fun w => ?_⟩
    obtain ⟨ht, hv⟩ := add22_ok a b h0 h1 h2 h3
    rw [← hv]
    exact calls_trust wok 20000 _ get22 (by kernel_rfl) (by simp [plain, plainL]) (by rw [hv]; exact by simp [add16R, plain, plainL]) (add22R0 a b) ht w
  · cases h
end Go.Proofs.Ytdjmpilegommlaa
namespace Go.Proofs.Ytdjmpilegommlaa
open Go Go.Ly Go.RowKit
theorem inc27_ok (a : Int) (s z x p c : Bool) (h0 : 0 ≤ a) (h1 : a ≤ 255) : (tok (inc27T0 a s z x p c) && peq (inc27V0 a s z x p c) (incR a c)) = true := by
  cases c
  · exact byte_all (p := fun a => (tok (inc27T0 a false false false false false) && peq (inc27V0 a false false false false false) (incR a false)) = true) (by decide +kernel) a h0 h1
  · exact byte_all (p := fun a => (tok (inc27T0 a false false false false true) && peq (inc27V0 a false false false false true) (incR a true)) = true) (by decide +kernel) a h0 h1
theorem ans27 : Answers Try.prog 70 (conF fun a _ _ _ _ c => incR a c) := by
  intro args g v h hg
  unfold conF at h
  split at h
  · rename_i a s z x p c
    simp only [Option.some.injEq, Prod.mk.injEq] at h
    obtain ⟨rfl, rfl⟩ := h
    rw [inb_iff] at hg
    obtain ⟨h0, h1⟩ := hg
    refine ⟨by simp [plain, plainL], tup_plain _ _ _, fun w => ?_⟩
    have hk := inc27_ok a s z x p c h0 h1
    exact calls_leaf wok 20000 _ get27 (by kernel_rfl) (by simp [plain, plainL]) (tup_plain _ _ _) (inc27R0 a s z x p c) hk w
  · cases h
theorem dec29_ok (a : Int) (s z x p c : Bool) (h0 : 0 ≤ a) (h1 : a ≤ 255) : (tok (dec29T0 a s z x p c) && peq (dec29V0 a s z x p c) (decR a c)) = true := by
  cases c
  · exact byte_all (p := fun a => (tok (dec29T0 a false false false false false) && peq (dec29V0 a false false false false false) (decR a false)) = true) (by decide +kernel) a h0 h1
  · exact byte_all (p := fun a => (tok (dec29T0 a false false false false true) && peq (dec29V0 a false false false false true) (decR a true)) = true) (by decide +kernel) a h0 h1
theorem ans29 : Answers Try.prog 71 (conF fun a _ _ _ _ c => decR a c) := by
  intro args g v h hg
  unfold conF at h
  split at h
  · rename_i a s z x p c
    simp only [Option.some.injEq, Prod.mk.injEq] at h
    obtain ⟨rfl, rfl⟩ := h
    rw [inb_iff] at hg
    obtain ⟨h0, h1⟩ := hg
    refine ⟨by simp [plain, plainL], tup_plain _ _ _, fun w => ?_⟩
    have hk := dec29_ok a s z x p c h0 h1
    exact calls_leaf wok 20000 _ get29 (by kernel_rfl) (by simp [plain, plainL]) (tup_plain _ _ _) (dec29R0 a s z x p c) hk w
  · cases h
theorem daa14FF_ok (a : Int) (s : Bool) (z : Bool) (p : Bool) (h0 : 0 ≤ a) (h1 : a ≤ 255) : ((tok (daa14FFT0 a s z p) && peq (daa14FFV0 a s z p) (daaR a false false)) || (tok (daa14FFT1 a s z p) && peq (daa14FFV1 a s z p) (daaR a false false)) || (tok (daa14FFT2 a s z p) && peq (daa14FFV2 a s z p) (daaR a false false)) || (tok (daa14FFT3 a s z p) && peq (daa14FFV3 a s z p) (daaR a false false))) = true := by
  exact byte_all (p := fun a => ((tok (daa14FFT0 a false false false) && peq (daa14FFV0 a false false false) (daaR a false false)) || (tok (daa14FFT1 a false false false) && peq (daa14FFV1 a false false false) (daaR a false false)) || (tok (daa14FFT2 a false false false) && peq (daa14FFV2 a false false false) (daaR a false false)) || (tok (daa14FFT3 a false false false) && peq (daa14FFV3 a false false false) (daaR a false false))) = true) (by decide +kernel) a h0 h1
theorem daa14FT_ok (a : Int) (s : Bool) (z : Bool) (p : Bool) (h0 : 0 ≤ a) (h1 : a ≤ 255) : ((tok (daa14FTT0 a s z p) && peq (daa14FTV0 a s z p) (daaR a false true)) || (tok (daa14FTT1 a s z p) && peq (daa14FTV1 a s z p) (daaR a false true)) || (tok (daa14FTT2 a s z p) && peq (daa14FTV2 a s z p) (daaR a false true)) || (tok (daa14FTT3 a s z p) && peq (daa14FTV3 a s z p) (daaR a false true))) = true := by
  exact byte_all (p := fun a => ((tok (daa14FTT0 a false false false) && peq (daa14FTV0 a false false false) (daaR a false true)) || (tok (daa14FTT1 a false false false) && peq (daa14FTV1 a false false false) (daaR a false true)) || (tok (daa14FTT2 a false false false) && peq (daa14FTV2 a false false false) (daaR a false true)) || (tok (daa14FTT3 a false false false) && peq (daa14FTV3 a false false false) (daaR a false true))) = true) (by decide +kernel) a h0 h1
theorem daa14TF_ok (a : Int) (s : Bool) (z : Bool) (p : Bool) (h0 : 0 ≤ a) (h1 : a ≤ 255) : ((tok (daa14TFT0 a s z p) && peq (daa14TFV0 a s z p) (daaR a true false)) || (tok (daa14TFT1 a s z p) && peq (daa14TFV1 a s z p) (daaR a true false)) || (tok (daa14TFT2 a s z p) && peq (daa14TFV2 a s z p) (daaR a true false)) || (tok (daa14TFT3 a s z p) && peq (daa14TFV3 a s z p) (daaR a true false))) = true := by
  exact byte_all (p := fun a => ((tok (daa14TFT0 a false false false) && peq (daa14TFV0 a false false false) (daaR a true false)) || (tok (daa14TFT1 a false false false) && peq (daa14TFV1 a false false false) (daaR a true false)) || (tok (daa14TFT2 a false false false) && peq (daa14TFV2 a false false false) (daaR a true false)) || (tok (daa14TFT3 a false false false) && peq (daa14TFV3 a false false false) (daaR a true false))) = true) (by decide +kernel) a h0 h1
theorem daa14TT_ok (a : Int) (s : Bool) (z : Bool) (p : Bool) (h0 : 0 ≤ a) (h1 : a ≤ 255) : ((tok (daa14TTT0 a s z p) && peq (daa14TTV0 a s z p) (daaR a true true)) || (tok (daa14TTT1 a s z p) && peq (daa14TTV1 a s z p) (daaR a true true)) || (tok (daa14TTT2 a s z p) && peq (daa14TTV2 a s z p) (daaR a true true)) || (tok (daa14TTT3 a s z p) && peq (daa14TTV3 a s z p) (daaR a true true))) = true := by
  exact byte_all (p := fun a => ((tok (daa14TTT0 a false false false) && peq (daa14TTV0 a false false false) (daaR a true true)) || (tok (daa14TTT1 a false false false) && peq (daa14TTV1 a false false false) (daaR a true true)) || (tok (daa14TTT2 a false false false) && peq (daa14TTV2 a false false false) (daaR a true true)) || (tok (daa14TTT3 a false false false) && peq (daa14TTV3 a false false false) (daaR a true true))) = true) (by decide +kernel) a h0 h1
theorem ans14 : Answers Try.prog 99 (conF fun a _ _ x _ c => daaR a x c) := by
  intro args g v h hg
  unfold conF at h
  split at h
  · rename_i a s z x p c
    simp only [Option.some.injEq, Prod.mk.injEq] at h
    obtain ⟨rfl, rfl⟩ := h
    rw [inb_iff] at hg
    obtain ⟨h0, h1⟩ := hg
    refine ⟨by simp [plain, plainL], tup_plain _ _ _, fun w => ?_⟩
    cases x with
    | false =>
      cases c with
      | false =>
        have hk := daa14FF_ok a s z p h0 h1
        simp only [Bool.or_eq_true] at hk
        rcases hk with ((hk | hk) | hk) | hk
        · exact calls_leaf wok 20000 _ get14 (by kernel_rfl) (by simp [plain, plainL]) (tup_plain _ _ _) (daa14FFR0 a s z p) hk w
        · exact calls_leaf wok 20000 _ get14 (by kernel_rfl) (by simp [plain, plainL]) (tup_plain _ _ _) (daa14FFR1 a s z p) hk w
        · exact calls_leaf wok 20000 _ get14 (by kernel_rfl) (by simp [plain, plainL]) (tup_plain _ _ _) (daa14FFR2 a s z p) hk w
        · exact calls_leaf wok 20000 _ get14 (by kernel_rfl) (by simp [plain, plainL]) (tup_plain _ _ _) (daa14FFR3 a s z p) hk w
      | true =>
        have hk := daa14FT_ok a s z p h0 h1
        simp only [Bool.or_eq_true] at hk
        rcases hk with ((hk | hk) | hk) | hk
        · exact calls_leaf wok 20000 _ get14 (by kernel_rfl) (by simp [plain, plainL]) (tup_plain _ _ _) (daa14FTR0 a s z p) hk w
        · exact calls_leaf wok 20000 _ get14 (by kernel_rfl) (by simp [plain, plainL]) (tup_plain _ _ _) (daa14FTR1 a s z p) hk w
        · exact calls_leaf wok 20000 _ get14 (by kernel_rfl) (by simp [plain, plainL]) (tup_plain _ _ _) (daa14FTR2 a s z p) hk w
        · exact calls_leaf wok 20000 _ get14 (by kernel_rfl) (by simp [plain, plainL]) (tup_plain _ _ _) (daa14FTR3 a s z p) hk w
    | true =>
      cases c with
      | false =>
        have hk := daa14TF_ok a s z p h0 h1
        simp only [Bool.or_eq_true] at hk
        rcases hk with ((hk | hk) | hk) | hk
        · exact calls_leaf wok 20000 _ get14 (by kernel_rfl) (by simp [plain, plainL]) (tup_plain _ _ _) (daa14TFR0 a s z p) hk w
        · exact calls_leaf wok 20000 _ get14 (by kernel_rfl) (by simp [plain, plainL]) (tup_plain _ _ _) (daa14TFR1 a s z p) hk w
        · exact calls_leaf wok 20000 _ get14 (by kernel_rfl) (by simp [plain, plainL]) (tup_plain _ _ _) (daa14TFR2 a s z p) hk w
        · exact calls_leaf wok 20000 _ get14 (by kernel_rfl) (by simp [plain, plainL]) (tup_plain _ _ _) (daa14TFR3 a s z p) hk w
      | true =>
        have hk := daa14TT_ok a s z p h0 h1
        simp only [Bool.or_eq_true] at hk
        rcases hk with ((hk | hk) | hk) | hk
        · exact calls_leaf wok 20000 _ get14 (by kernel_rfl) (by simp [plain, plainL]) (tup_plain _ _ _) (daa14TTR0 a s z p) hk w
        · exact calls_leaf wok 20000 _ get14 (by kernel_rfl) (by simp [plain, plainL]) (tup_plain _ _ _) (daa14TTR1 a s z p) hk w
        · exact calls_leaf wok 20000 _ get14 (by kernel_rfl) (by simp [plain, plainL]) (tup_plain _ _ _) (daa14TTR2 a s z p) hk w
        · exact calls_leaf wok 20000 _ get14 (by kernel_rfl) (by simp [plain, plainL]) (tup_plain _ _ _) (daa14TTR3 a s z p) hk w
  · cases h
end Go.Proofs.Ytdjmpilegommlaa
namespace Go.Proofs.Ytdjmpilegommlaa
open Go Go.Ly Go.RowKit
theorem turn390F_ok (a : Int) (h0 : 0 ≤ a) (h1 : a ≤ 255) : ((tok (turn390FT0 a) && peq (turn390FV0 a) (turnR 0 a false))) = true := by
  exact byte_all (p := fun a => ((tok (turn390FT0 a) && peq (turn390FV0 a) (turnR 0 a false))) = true) (by decide +kernel) a h0 h1
theorem turn390T_ok (a : Int) (h0 : 0 ≤ a) (h1 : a ≤ 255) : ((tok (turn390TT0 a) && peq (turn390TV0 a) (turnR 0 a true))) = true := by
  exact byte_all (p := fun a => ((tok (turn390TT0 a) && peq (turn390TV0 a) (turnR 0 a true))) = true) (by decide +kernel) a h0 h1
theorem turn391F_ok (a : Int) (h0 : 0 ≤ a) (h1 : a ≤ 255) : ((tok (turn391FT0 a) && peq (turn391FV0 a) (turnR 1 a false))) = true := by
  exact byte_all (p := fun a => ((tok (turn391FT0 a) && peq (turn391FV0 a) (turnR 1 a false))) = true) (by decide +kernel) a h0 h1
theorem turn391T_ok (a : Int) (h0 : 0 ≤ a) (h1 : a ≤ 255) : ((tok (turn391TT0 a) && peq (turn391TV0 a) (turnR 1 a true))) = true := by
  exact byte_all (p := fun a => ((tok (turn391TT0 a) && peq (turn391TV0 a) (turnR 1 a true))) = true) (by decide +kernel) a h0 h1
theorem turn392F_ok (a : Int) (h0 : 0 ≤ a) (h1 : a ≤ 255) : ((tok (turn392FT0 a) && peq (turn392FV0 a) (turnR 2 a false))) = true := by
  exact byte_all (p := fun a => ((tok (turn392FT0 a) && peq (turn392FV0 a) (turnR 2 a false))) = true) (by decide +kernel) a h0 h1
theorem turn392T_ok (a : Int) (h0 : 0 ≤ a) (h1 : a ≤ 255) : ((tok (turn392TT0 a) && peq (turn392TV0 a) (turnR 2 a true))) = true := by
  exact byte_all (p := fun a => ((tok (turn392TT0 a) && peq (turn392TV0 a) (turnR 2 a true))) = true) (by decide +kernel) a h0 h1
theorem turn393F_ok (a : Int) (h0 : 0 ≤ a) (h1 : a ≤ 255) : ((tok (turn393FT0 a) && peq (turn393FV0 a) (turnR 3 a false))) = true := by
  exact byte_all (p := fun a => ((tok (turn393FT0 a) && peq (turn393FV0 a) (turnR 3 a false))) = true) (by decide +kernel) a h0 h1
theorem turn393T_ok (a : Int) (h0 : 0 ≤ a) (h1 : a ≤ 255) : ((tok (turn393TT0 a) && peq (turn393TV0 a) (turnR 3 a true))) = true := by
  exact byte_all (p := fun a => ((tok (turn393TT0 a) && peq (turn393TV0 a) (turnR 3 a true))) = true) (by decide +kernel) a h0 h1
theorem ans39 : Answers Try.prog 100 conT := by
  intro args g v h hg
  unfold conT at h
  split at h
  · rename_i k a c
    simp only [Option.some.injEq, Prod.mk.injEq] at h
    obtain ⟨rfl, rfl⟩ := h
    rw [inb_iff] at hg
    obtain ⟨h0, h1⟩ := hg
    refine ⟨by simp [plain, plainL], turn_plain _ _ _, fun w => ?_⟩
    by_cases hk0 : k = 0
    · subst hk0
      cases c with
      | false =>
        have hk := turn390F_ok a h0 h1
        exact calls_leaf wok 20000 _ get39 (by kernel_rfl) (by simp [plain, plainL]) (turn_plain _ _ _) (turn390FR0 a) hk w
      | true =>
        have hk := turn390T_ok a h0 h1
        exact calls_leaf wok 20000 _ get39 (by kernel_rfl) (by simp [plain, plainL]) (turn_plain _ _ _) (turn390TR0 a) hk w
    by_cases hk1 : k = 1
    · subst hk1
      cases c with
      | false =>
        have hk := turn391F_ok a h0 h1
        exact calls_leaf wok 20000 _ get39 (by kernel_rfl) (by simp [plain, plainL]) (turn_plain _ _ _) (turn391FR0 a) hk w
      | true =>
        have hk := turn391T_ok a h0 h1
        exact calls_leaf wok 20000 _ get39 (by kernel_rfl) (by simp [plain, plainL]) (turn_plain _ _ _) (turn391TR0 a) hk w
    by_cases hk2 : k = 2
    · subst hk2
      cases c with
      | false =>
        have hk := turn392F_ok a h0 h1
        exact calls_leaf wok 20000 _ get39 (by kernel_rfl) (by simp [plain, plainL]) (turn_plain _ _ _) (turn392FR0 a) hk w
      | true =>
        have hk := turn392T_ok a h0 h1
        exact calls_leaf wok 20000 _ get39 (by kernel_rfl) (by simp [plain, plainL]) (turn_plain _ _ _) (turn392TR0 a) hk w
    by_cases hk3 : k = 3
    · subst hk3
      cases c with
      | false =>
        have hk := turn393F_ok a h0 h1
        exact calls_leaf wok 20000 _ get39 (by kernel_rfl) (by simp [plain, plainL]) (turn_plain _ _ _) (turn393FR0 a) hk w
      | true =>
        have hk := turn393T_ok a h0 h1
        exact calls_leaf wok 20000 _ get39 (by kernel_rfl) (by simp [plain, plainL]) (turn_plain _ _ _) (turn393TR0 a) hk w
    have hv : turn39XV6 k a c = turnR k a c := by
      have e0 : (k == 0) = false := by simpa using hk0
      have e1 : (k == 1) = false := by simpa using hk1
      have e2 : (k == 2) = false := by simpa using hk2
      have e3 : (k == 3) = false := by simpa using hk3
      unfold turnR
      rw [e0, e1, e2, e3]
      rfl
    rw [← hv]
    exact calls_trust wok 20000 _ get39 (by kernel_rfl) (by simp [plain, plainL]) (by rw [hv]; exact turn_plain _ _ _) (turn39XR6 k a c) (by simp [turn39XT6, trusted, hk0, hk1, hk2, hk3]) w
  · cases h
theorem of35_ok (a : Int) (h0 : 0 ≤ a) (h1 : a ≤ 255) : ((tok (of35T0 a) && peq (of35V0 a) (ofR a))) = true := by
  exact byte_all (p := fun a => ((tok (of35T0 a) && peq (of35V0 a) (ofR a))) = true) (by decide +kernel) a h0 h1
theorem ans35 : Answers Try.prog 107 (con1b ofR) := by
  intro args g v h hg
  unfold con1b at h
  split at h
  · rename_i a
    simp only [Option.some.injEq, Prod.mk.injEq] at h
    obtain ⟨rfl, rfl⟩ := h
    rw [inb_iff] at hg
    obtain ⟨h0, h1⟩ := hg
    refine ⟨by simp [plain, plainL], by simp [ofR, plain, plainL], fun w => ?_⟩
    have hk := of35_ok a h0 h1
    exact calls_leaf wok 20000 _ get35 (by kernel_rfl) (by simp [plain, plainL]) (by simp [ofR, plain, plainL]) (of35R0 a) hk w
  · cases h
end Go.Proofs.Ytdjmpilegommlaa
namespace Go.Proofs.Ytdjmpilegommlaa
open Go Go.Ly Go.RowKit
theorem get33 : wctx.fn.get 106 = some Try.f106 := by kernel_rfl
theorem psw33 (s z x p c : Bool) : (Ly.run wctx 20000 [] (Ly.start Try.f106 [.agg ⟨[.bool s, .bool z, .bool x, .bool p, .bool c]⟩] H0)).out? = some ([], pswR s z x p c) := by
  cases s <;> cases z <;> cases x <;> cases p <;> cases c <;> kernel_rfl
theorem ans33 : Answers Try.prog 106 conP := by
  intro args g v h hg
  unfold conP at h
  split at h
  · rename_i s z x p c
    simp only [Option.some.injEq, Prod.mk.injEq] at h
    obtain ⟨rfl, rfl⟩ := h
    refine ⟨by simp [plain, plainL], by simp [pswR, plain, plainL], fun w => ?_⟩
    exact calls_trust wok 20000 _ get33 (by kernel_rfl) (by simp [plain, plainL]) (by simp [pswR, plain, plainL]) (psw33 s z x p c) trivial w
  · cases h
end Go.Proofs.Ytdjmpilegommlaa
namespace Go.Proofs.Ytdjmpilegommlaa
open Go Go.Ly Go.RowKit
def xctx : Ctx := wctx.with 73 (con3 addR) |>.with 74 (con3 subR) |>.with 75 (con2 andR) |>.with 77 (con2 orR) |>.with 76 (con2 xorR) |>.with 67 (conW) |>.with 70 (conF fun a _ _ _ _ c => incR a c) |>.with 71 (conF fun a _ _ _ _ c => decR a c) |>.with 99 (conF fun a _ _ x _ c => daaR a x c) |>.with 100 (conT) |>.with 107 (con1b ofR) |>.with 106 (conP)
theorem xok : xctx.Ok Try.prog := wok.with ans13 |>.with ans24 |>.with ans15 |>.with ans16 |>.with ans17 |>.with ans22 |>.with ans27 |>.with ans29 |>.with ans14 |>.with ans39 |>.with ans35 |>.with ans33
end Go.Proofs.Ytdjmpilegommlaa
namespace Go.Proofs.Ytdjmpilegommlaa
open Go Go.Ly Go.RowKit
def sizeL : List Nat := [1, 3, 1, 1, 1, 1, 2, 1, 0, 1, 1, 1, 1, 1, 2, 1, 0, 3, 1, 1, 1, 1, 2, 1, 0, 1, 1, 1, 1, 1, 2, 1, 0, 3, 3, 1, 1, 1, 2, 1, 0, 1, 3, 1, 1, 1, 2, 1, 0, 3, 3, 1, 1, 1, 2, 1, 0, 1, 3, 1, 1, 1, 2, 1, 1, 1, 1, 1, 1, 1, 1, 1, 1, 1, 1, 1, 1, 1, 1, 1, 1, 1, 1, 1, 1, 1, 1, 1, 1, 1, 1, 1, 1, 1, 1, 1, 1, 1, 1, 1, 1, 1, 1, 1, 1, 1, 1, 1, 1, 1, 1, 1, 1, 1, 1, 1, 1, 1, 1, 1, 1, 1, 1, 1, 1, 1, 1, 1, 1, 1, 1, 1, 1, 1, 1, 1, 1, 1, 1, 1, 1, 1, 1, 1, 1, 1, 1, 1, 1, 1, 1, 1, 1, 1, 1, 1, 1, 1, 1, 1, 1, 1, 1, 1, 1, 1, 1, 1, 1, 1, 1, 1, 1, 1, 1, 1, 1, 1, 1, 1, 1, 1, 1, 1, 1, 1, 1, 1, 1, 1, 1, 1, 1, 1, 3, 3, 3, 1, 2, 1, 1, 1, 3, 0, 3, 3, 2, 1, 1, 1, 3, 2, 3, 1, 2, 1, 1, 0, 3, 2, 3, 0, 2, 1, 1, 1, 3, 1, 3, 1, 2, 1, 1, 1, 3, 1, 3, 0, 2, 1, 1, 1, 3, 1, 3, 1, 2, 1, 1, 1, 3, 1, 3, 0, 2, 1]
def sizeT (op : Int) : Int := ((sizeL[op.toNat]?).getD 0 : Nat)
def sizeC (l : List Value) : Option (Bool × Value) := match l with
  | [.int .u8 op] => some (inb op, .int .i64 (sizeT op))
  | _ => none
def sizeI : Option Value → Int → Bool
  | some (.int .i64 x), b => x == b
  | _, _ => false
theorem sizeI_eq {o : Option Value} {b : Int} (h : sizeI o b = true) : o = some (.int .i64 b) := by
  unfold sizeI at h
  split at h
  · simp at h; subst h; rfl
  · cases h
theorem size20_0 : ((List.range 16).all fun i => sizeI (Ly.run env.bare 6000 [] (Ly.start Try.f20 [.int .u8 (((0 + i) : Nat) : Int)] H0)).val? (sizeT (((0 + i) : Nat) : Int))) = true := by kernel_rfl
theorem size20_1 : ((List.range 16).all fun i => sizeI (Ly.run env.bare 6000 [] (Ly.start Try.f20 [.int .u8 (((16 + i) : Nat) : Int)] H0)).val? (sizeT (((16 + i) : Nat) : Int))) = true := by kernel_rfl
theorem size20_2 : ((List.range 16).all fun i => sizeI (Ly.run env.bare 6000 [] (Ly.start Try.f20 [.int .u8 (((32 + i) : Nat) : Int)] H0)).val? (sizeT (((32 + i) : Nat) : Int))) = true := by kernel_rfl
theorem size20_3 : ((List.range 16).all fun i => sizeI (Ly.run env.bare 6000 [] (Ly.start Try.f20 [.int .u8 (((48 + i) : Nat) : Int)] H0)).val? (sizeT (((48 + i) : Nat) : Int))) = true := by kernel_rfl
theorem size20_4 : ((List.range 16).all fun i => sizeI (Ly.run env.bare 6000 [] (Ly.start Try.f20 [.int .u8 (((64 + i) : Nat) : Int)] H0)).val? (sizeT (((64 + i) : Nat) : Int))) = true := by kernel_rfl
theorem size20_5 : ((List.range 16).all fun i => sizeI (Ly.run env.bare 6000 [] (Ly.start Try.f20 [.int .u8 (((80 + i) : Nat) : Int)] H0)).val? (sizeT (((80 + i) : Nat) : Int))) = true := by kernel_rfl
theorem size20_6 : ((List.range 16).all fun i => sizeI (Ly.run env.bare 6000 [] (Ly.start Try.f20 [.int .u8 (((96 + i) : Nat) : Int)] H0)).val? (sizeT (((96 + i) : Nat) : Int))) = true := by kernel_rfl
theorem size20_7 : ((List.range 16).all fun i => sizeI (Ly.run env.bare 6000 [] (Ly.start Try.f20 [.int .u8 (((112 + i) : Nat) : Int)] H0)).val? (sizeT (((112 + i) : Nat) : Int))) = true := by kernel_rfl
theorem size20_8 : ((List.range 16).all fun i => sizeI (Ly.run env.bare 6000 [] (Ly.start Try.f20 [.int .u8 (((128 + i) : Nat) : Int)] H0)).val? (sizeT (((128 + i) : Nat) : Int))) = true := by kernel_rfl
theorem size20_9 : ((List.range 16).all fun i => sizeI (Ly.run env.bare 6000 [] (Ly.start Try.f20 [.int .u8 (((144 + i) : Nat) : Int)] H0)).val? (sizeT (((144 + i) : Nat) : Int))) = true := by kernel_rfl
theorem size20_10 : ((List.range 16).all fun i => sizeI (Ly.run env.bare 6000 [] (Ly.start Try.f20 [.int .u8 (((160 + i) : Nat) : Int)] H0)).val? (sizeT (((160 + i) : Nat) : Int))) = true := by kernel_rfl
theorem size20_11 : ((List.range 16).all fun i => sizeI (Ly.run env.bare 6000 [] (Ly.start Try.f20 [.int .u8 (((176 + i) : Nat) : Int)] H0)).val? (sizeT (((176 + i) : Nat) : Int))) = true := by kernel_rfl
theorem size20_12 : ((List.range 16).all fun i => sizeI (Ly.run env.bare 6000 [] (Ly.start Try.f20 [.int .u8 (((192 + i) : Nat) : Int)] H0)).val? (sizeT (((192 + i) : Nat) : Int))) = true := by kernel_rfl
theorem size20_13 : ((List.range 16).all fun i => sizeI (Ly.run env.bare 6000 [] (Ly.start Try.f20 [.int .u8 (((208 + i) : Nat) : Int)] H0)).val? (sizeT (((208 + i) : Nat) : Int))) = true := by kernel_rfl
theorem size20_14 : ((List.range 16).all fun i => sizeI (Ly.run env.bare 6000 [] (Ly.start Try.f20 [.int .u8 (((224 + i) : Nat) : Int)] H0)).val? (sizeT (((224 + i) : Nat) : Int))) = true := by kernel_rfl
theorem size20_15 : ((List.range 16).all fun i => sizeI (Ly.run env.bare 6000 [] (Ly.start Try.f20 [.int .u8 (((240 + i) : Nat) : Int)] H0)).val? (sizeT (((240 + i) : Nat) : Int))) = true := by kernel_rfl
theorem size20_all (n : Nat) (h : n < 256) : sizeI (Ly.run env.bare 6000 [] (Ly.start Try.f20 [.int .u8 ((n : Nat) : Int)] H0)).val? (sizeT ((n : Nat) : Int)) = true := by
  rcases Nat.lt_or_ge n 16 with g0 | g0
  · exact range_all (p := fun n => sizeI (Ly.run env.bare 6000 [] (Ly.start Try.f20 [.int .u8 ((n : Nat) : Int)] H0)).val? (sizeT ((n : Nat) : Int))) size20_0 n (by omega) (by omega)
  rcases Nat.lt_or_ge n 32 with g1 | g1
  · exact range_all (p := fun n => sizeI (Ly.run env.bare 6000 [] (Ly.start Try.f20 [.int .u8 ((n : Nat) : Int)] H0)).val? (sizeT ((n : Nat) : Int))) size20_1 n (by omega) (by omega)
  rcases Nat.lt_or_ge n 48 with g2 | g2
  · exact range_all (p := fun n => sizeI (Ly.run env.bare 6000 [] (Ly.start Try.f20 [.int .u8 ((n : Nat) : Int)] H0)).val? (sizeT ((n : Nat) : Int))) size20_2 n (by omega) (by omega)
  rcases Nat.lt_or_ge n 64 with g3 | g3
  · exact range_all (p := fun n => sizeI (Ly.run env.bare 6000 [] (Ly.start Try.f20 [.int .u8 ((n : Nat) : Int)] H0)).val? (sizeT ((n : Nat) : Int))) size20_3 n (by omega) (by omega)
  rcases Nat.lt_or_ge n 80 with g4 | g4
  · exact range_all (p := fun n => sizeI (Ly.run env.bare 6000 [] (Ly.start Try.f20 [.int .u8 ((n : Nat) : Int)] H0)).val? (sizeT ((n : Nat) : Int))) size20_4 n (by omega) (by omega)
  rcases Nat.lt_or_ge n 96 with g5 | g5
  · exact range_all (p := fun n => sizeI (Ly.run env.bare 6000 [] (Ly.start Try.f20 [.int .u8 ((n : Nat) : Int)] H0)).val? (sizeT ((n : Nat) : Int))) size20_5 n (by omega) (by omega)
  rcases Nat.lt_or_ge n 112 with g6 | g6
  · exact range_all (p := fun n => sizeI (Ly.run env.bare 6000 [] (Ly.start Try.f20 [.int .u8 ((n : Nat) : Int)] H0)).val? (sizeT ((n : Nat) : Int))) size20_6 n (by omega) (by omega)
  rcases Nat.lt_or_ge n 128 with g7 | g7
  · exact range_all (p := fun n => sizeI (Ly.run env.bare 6000 [] (Ly.start Try.f20 [.int .u8 ((n : Nat) : Int)] H0)).val? (sizeT ((n : Nat) : Int))) size20_7 n (by omega) (by omega)
  rcases Nat.lt_or_ge n 144 with g8 | g8
  · exact range_all (p := fun n => sizeI (Ly.run env.bare 6000 [] (Ly.start Try.f20 [.int .u8 ((n : Nat) : Int)] H0)).val? (sizeT ((n : Nat) : Int))) size20_8 n (by omega) (by omega)
  rcases Nat.lt_or_ge n 160 with g9 | g9
  · exact range_all (p := fun n => sizeI (Ly.run env.bare 6000 [] (Ly.start Try.f20 [.int .u8 ((n : Nat) : Int)] H0)).val? (sizeT ((n : Nat) : Int))) size20_9 n (by omega) (by omega)
  rcases Nat.lt_or_ge n 176 with g10 | g10
  · exact range_all (p := fun n => sizeI (Ly.run env.bare 6000 [] (Ly.start Try.f20 [.int .u8 ((n : Nat) : Int)] H0)).val? (sizeT ((n : Nat) : Int))) size20_10 n (by omega) (by omega)
  rcases Nat.lt_or_ge n 192 with g11 | g11
  · exact range_all (p := fun n => sizeI (Ly.run env.bare 6000 [] (Ly.start Try.f20 [.int .u8 ((n : Nat) : Int)] H0)).val? (sizeT ((n : Nat) : Int))) size20_11 n (by omega) (by omega)
  rcases Nat.lt_or_ge n 208 with g12 | g12
  · exact range_all (p := fun n => sizeI (Ly.run env.bare 6000 [] (Ly.start Try.f20 [.int .u8 ((n : Nat) : Int)] H0)).val? (sizeT ((n : Nat) : Int))) size20_12 n (by omega) (by omega)
  rcases Nat.lt_or_ge n 224 with g13 | g13
  · exact range_all (p := fun n => sizeI (Ly.run env.bare 6000 [] (Ly.start Try.f20 [.int .u8 ((n : Nat) : Int)] H0)).val? (sizeT ((n : Nat) : Int))) size20_13 n (by omega) (by omega)
  rcases Nat.lt_or_ge n 240 with g14 | g14
  · exact range_all (p := fun n => sizeI (Ly.run env.bare 6000 [] (Ly.start Try.f20 [.int .u8 ((n : Nat) : Int)] H0)).val? (sizeT ((n : Nat) : Int))) size20_14 n (by omega) (by omega)
  rcases Nat.lt_or_ge n 256 with g15 | g15
  · exact range_all (p := fun n => sizeI (Ly.run env.bare 6000 [] (Ly.start Try.f20 [.int .u8 ((n : Nat) : Int)] H0)).val? (sizeT ((n : Nat) : Int))) size20_15 n (by omega) (by omega)
  omega
theorem size20_get : env.bare.fn.get 20 = some Try.f20 := by kernel_rfl
theorem size20_ans : Answers Try.prog 20 sizeC := by
  intro args g v h hg
  unfold sizeC at h
  split at h
  · rename_i op
    simp only [Option.some.injEq, Prod.mk.injEq] at h
    obtain ⟨rfl, rfl⟩ := h
    rw [inb_iff] at hg
    obtain ⟨n, rfl⟩ := Int.eq_ofNat_of_zero_le hg.1
    refine ⟨by simp [plain, plainL], by simp [plain], fun w => ?_⟩
    exact calls_plain (by simp [VRL, VR]) (fun ρ v' h => by simpa [VR] using h) (LCalls_run (Env.bare_ok envOk) 6000 size20_get (by kernel_rfl) (sizeI_eq (size20_all n (by omega)))) w
  · cases h
end Go.Proofs.Ytdjmpilegommlaa
namespace Go.Ly
open Go.RowKit
section
variable {P : Program} {E : Env} {Q Q' : Value → Heap → Prop}
def guardB (all : Array Oper) (t : Tr Value) (n : Nat) (o : Oper) : Bool :=
  match guardSR all t n o (.done undef H0) .stop with
  | .done _ _ => true
  | _ => false
theorem guardB_wanted (P : Program) {ρ : Ren} {S : St} {g : AF} {all : Array Oper} {o : Oper} (hf : FR ρ S.top g) (h : guardB all S.top.t S.top.fn.ntmps o = true) : Region.wanted o (yielded all g.a.tmps) = true := by
  have hs : (guardSR all S.top.t S.top.fn.ntmps o (.done undef H0) .stop).sat P (fun _ _ => True) := by
    unfold guardB at h
    unfold guardSR at h ⊢
    cases hg : o.guard with
    | none => exact trivial
    | some jw =>
      obtain ⟨j, want⟩ := jw
      rw [hg] at h; simp only at h ⊢
      cases hd : (all.toList[j]?).bind (·.dst) with
      | none => rw [hd] at h; cases h
      | some d =>
        rw [hd] at h; simp only at h ⊢
        cases hb : Nat.blt d S.top.fn.ntmps with
        | false => rw [hb] at h; cases h
        | true =>
          rw [hb] at h; simp only [cond_true] at h ⊢
          revert h
          generalize (S.top.t.get d).getD undef = u
          intro h
          cases u with
          | bool b =>
            have h : (match (bif b == want then SR.done undef H0 else SR.stop) with | .done _ _ => true | _ => false) = true := h
            show (bif b == want then SR.done undef H0 else SR.stop).sat P (fun _ _ => True)
            cases hbw : (b == want) with
            | true => rw [cond_true]; exact trivial
            | false => rw [hbw, cond_false] at h; cases h
          | _ => cases h
  have := guard_sound (P := P) hf hs
  cases hw : Region.wanted o (yielded all g.a.tmps) with
  | true => rfl
  | false => exact (this.2 hw).elim
def callOf (E : Env) (S : St) : Option (Nat × List Value) :=
  match S.top.k with
  | .ops all (o :: l) :: k =>
    bif guardB all S.top.t S.top.fn.ntmps o && dstOk S.top.fn.ntmps o.dst then
      (match evOp E S.H S.top.t o with
      | .call f args => some (f, args)
      | _ => none)
    else none
  | _ => none
def behind (S : St) (v : Value) (H' : Heap) : St :=
  match S.top.k with
  | .ops all (o :: l) :: k => { S with top := { S.top with t := putT S.top.t o.dst v, k := .ops all l :: k }, H := H' }
  | _ => S
theorem MWp.call (hE : E.Ok P) {S : St} {f : Nat} {args : List Value} (h : callOf E S = some (f, args)) (hL : LCalls P f args S.H Q') (hs : ∀ v H', Q' v H' → MWp P (behind S v H') Q) : MWp P S Q := by
  unfold callOf at h
  split at h
  · rename_i all o l k hk
    cases hc : (guardB all S.top.t S.top.fn.ntmps o && dstOk S.top.fn.ntmps o.dst) with
    | false => rw [hc] at h; cases h
    | true =>
      rw [hc] at h; simp only [cond_true] at h
      simp only [Bool.and_eq_true] at hc
      intro ρ w g gs R hr hf hfs hR
      unfold stateWp
      rw [hf.k, hk]
      show wpList P all _ (o :: l) g.a w
      unfold wpList
      rw [guardB_wanted P hf hc.1, if_pos rfl]
      left
      have hgood := evOp_good hE hr hf.t o
      cases he : evOp E S.H S.top.t o with
      | call f' args0 =>
        rw [he] at h hgood
        simp only [Option.some.injEq, Prod.mk.injEq] at h
        obtain ⟨rfl, rfl⟩ := h
        obtain ⟨args', ha, hrun⟩ := hgood
        unfold Oper.wp; rw [hrun]
        simp only [Oper.upon]
        have hcalls : Calls P f' ⟨args'⟩ w (fun e w' => ∃ v', e = .returned v' ∧ afterWp P (.ops all l :: k) (topPost P g.fn gs R) .normal (g.a.put o.dst v') w') := by
          refine (hL ρ args' w ha hr).mono ?_
          rintro e w' ⟨ρ', u, u', H', rfl, hq, h1, h2, h3, h4, h5⟩
          refine ⟨u', rfl, putFr_sound (S := S) (Q := Q) (v := u) (H' := H') (k := .ops all l :: k) (dst := o.dst) ?_ hf hfs h1 h2 h4 h5 h3 hR⟩
          unfold putFr
          rw [hc.2]
          have := hs u H' hq
          unfold behind at this
          rw [hk] at this
          exact this
        refine hcalls.mono ?_
        rintro e w' ⟨v', rfl, h⟩
        exact h
      | _ => rw [he] at h; cases h
  · cases h
def Ends (P : Program) (f : FuncId) (args : List Value) (os : List (Option LO)) (I : List Nat) (v : Value) (nx : Nat) (os' : List (Option LO)) : Prop := LCalls P f args (mkH os) (fun u K => u = v ∧ K.next = nx ∧ I.map K.get = os' ∧ K.lock = 0)
def setAll : List (Nat × Option LO) → Tr LO → Tr LO
  | [], t => t
  | (b, o) :: r, t => (setAll r t).set b o
def vH (I : List Nat) (os' : List (Option LO)) (nx : Nat) : Heap := { m := setAll (I.zip os') .nil, next := nx }
theorem zip_map {G : Nat → Option LO} : ∀ (I : List Nat), I.zip (I.map G) = I.map fun b => (b, G b)
  | [] => rfl
  | x :: r => by simp [zip_map r]
def formOf (keep L : List Nat) (S : St) : Bool × (Func × List KI × Option Tmp × Nat) × List Value × List (Option LO) := (colB keep L S, (S.top.fn, S.top.k, S.top.dst, S.base), colVals keep L S.top.fn.ntmps S.top.t, colObjs L S.H)
def findT (τ : Nat → Nat) (k : Nat) : List (Nat × Option LO) → Option (Option LO)
  | [] => none
  | (i, o) :: r => bif Nat.beq (τ i) k then some o else findT τ k r
def outOf (s : List Nat) (bg : List (Option LO)) (I : List Nat) (os' : List (Option LO)) (J : List Nat) : List (Option LO) :=
  J.map fun k => match findT (tau s bg.length) k (I.zip os') with
    | some o => o.map (renO (tau s bg.length))
    | none => (bg[k]?).getD none
def frameB (s : List Nat) (os bg : List (Option LO)) (I J : List Nat) (nx : Nat) : Bool := Nat.beq s.length os.length && (nodupB s && (os.all Option.isSome && (s.all (fun k => Nat.blt k bg.length) && (Nat.ble os.length nx && (Nat.blt (bg.length + nx) 2147483000 && (I.all (fun i => Nat.blt i nx) && J.all (fun k => I.any (fun i => Nat.beq (tau s bg.length i) k) || (Nat.blt k bg.length && !(memB s k)))))))))
theorem findT_some {τ : Nat → Nat} {k : Nat} {G : Nat → Option LO} : ∀ {I : List Nat} {o : Option LO}, findT τ k (I.map fun b => (b, G b)) = some o → ∃ i ∈ I, τ i = k ∧ G i = o
  | [], o, h => by cases h
  | x :: r, o, h => by
    simp only [List.map_cons, findT] at h
    cases hb : Nat.beq (τ x) k with
    | true => rw [hb] at h; simp at h; exact ⟨x, by simp, Nat.eq_of_beq_eq_true hb, h⟩
    | false =>
      rw [hb] at h
      obtain ⟨i, h1, h2⟩ := findT_some (I := r) h
      exact ⟨i, by simp [h1], h2⟩
theorem findT_none {τ : Nat → Nat} {k : Nat} {G : Nat → Option LO} : ∀ {I : List Nat}, findT τ k (I.map fun b => (b, G b)) = none → ∀ i ∈ I, τ i ≠ k
  | [], h, i, hi => by cases hi
  | x :: r, h, i, hi => by
    simp only [List.map_cons, findT] at h
    cases hb : Nat.beq (τ x) k with
    | true => rw [hb] at h; cases h
    | false =>
      rw [hb] at h
      rcases List.mem_cons.1 hi with rfl | hi
      · exact Nat.ne_of_beq_eq_false hb
      · exact findT_none (I := r) h i hi
theorem Ends.frame {f : FuncId} {args : List Value} {os : List (Option LO)} {I : List Nat} {v : Value} {nx : Nat} {os' : List (Option LO)} (s : List Nat) (bg : List (Option LO)) (J : List Nat) (h : Ends P f args os I v nx os')
    (hB : frameB s os bg I J nx = true) (hl : s.map (fun k => (bg[k]?).getD none) = os.map (Option.map (renO (tau s bg.length)))) :
    Ends P f (renL (tau s bg.length) args) bg J (renV (tau s bg.length) v) (bg.length + (nx - os.length)) (outOf s bg I os' J) := by
  simp only [frameB, Bool.and_eq_true] at hB
  obtain ⟨b1, b2, b3, b4, b5, b6, b7, b8⟩ := hB
  have hsl : s.length = os.length := Nat.eq_of_beq_eq_true b1
  have hnd := nodupB_iff s b2
  have h5 := Nat.le_of_ble_eq_true b5
  have h6 : bg.length + nx < big := by simpa [Nat.blt_eq, big] using b6
  have hlen : os.length < big := by omega
  have hlb : bg.length < big := by omega
  have hsg : ∀ i, (hi : i < s.length) → sg s i = s[i] := fun i hi => by unfold sg; rw [List.getD_eq_getElem?_getD, List.getElem?_eq_getElem hi]; rfl
  have hslt : ∀ i, i < s.length → sg s i < bg.length := fun i hi => by
    rw [hsg i hi]; have := List.all_eq_true.1 b4 _ (List.getElem_mem hi); simpa [Nat.blt_eq] using this
  have hinj : ∀ i j, i < s.length → j < s.length → sg s i = sg s j → i = j := fun i j hi hj e => by
    rw [hsg i hi, hsg j hj] at e; exact (List.getElem_inj hnd).1 e
  have hτ : tau s bg.length = ext (sg s) (mkH os).next (mkH bg).next := by unfold tau; rw [hsl]; rfl
  have tlt : ∀ i, i < s.length → tau s bg.length i = sg s i := fun i hi => by unfold tau; exact ext_lt hi
  have tge : ∀ i, s.length ≤ i → tau s bg.length i = bg.length + (i - s.length) := fun i hi => by unfold tau; exact ext_ge hi
  have tinj : ∀ i j, tau s bg.length i = tau s bg.length j → i = j := by
    intro i j e
    rcases Nat.lt_or_ge i s.length with hi | hi <;> rcases Nat.lt_or_ge j s.length with hj | hj
    · rw [tlt i hi, tlt j hj] at e; exact hinj i j hi hj e
    · rw [tlt i hi, tge j hj] at e; have := hslt i hi; omega
    · rw [tge i hi, tlt j hj] at e; have := hslt j hj; omega
    · rw [tge i hi, tge j hj] at e; omega
  have hosget : ∀ i o, (mkH os).get i = some o → os[i]? = some (some o) ∧ i < os.length := by
    intro i o ho
    rw [mkH_get _ hlen] at ho
    cases hi : os[i]? with
    | none => rw [hi] at ho; cases ho
    | some x => rw [hi] at ho; simp at ho; subst ho; exact ⟨rfl, (List.getElem?_eq_some_iff.1 hi).1⟩
  have hfit : Fits (sg s) (mkH os) (mkH bg) := by
    refine ⟨by simpa [mkH] using hlen, rfl, fun i hi => ?_, fun i o ho => (hosget i o ho).2, fun i o ho => ?_, fun i j hi hj e => ?_⟩
    · have hi' : i < os.length := hi
      have hx := List.all_eq_true.1 b3 _ (List.getElem_mem hi')
      obtain ⟨o, ho⟩ := Option.isSome_iff_exists.1 hx
      exact ⟨o, by rw [mkH_get _ hlen, List.getElem?_eq_getElem hi', ho]; rfl⟩
    · obtain ⟨h1, h2⟩ := hosget i o ho
      have h3 := congrArg (fun l => l[i]?) hl
      simp only [List.getElem?_map, h1, Option.map_some, List.getElem?_eq_getElem (show i < s.length by omega), Option.some.injEq] at h3
      rw [mkH_get _ hlb, hsg i (by omega), ← hτ]
      exact h3
    · have hi' : i < os.length := hi
      have hj' : j < os.length := hj
      exact hinj i j (by omega) (by omega) e
  unfold Ends
  rw [hτ]
  refine LCalls.frame h hfit ?_
  rintro vs K ⟨rfl, hn, hK, hlk⟩
  subst hK
  have hin : ∀ i ∈ I, i < nx := fun i hi => by have := List.all_eq_true.1 b7 i hi; simpa [Nat.blt_eq] using this
  let F : Nat → Option LO := fun k => match findT (tau s bg.length) k ((List.range nx).map fun i => (i, K.get i)) with
    | some o => o.map (renO (tau s bg.length))
    | none => (bg[k]?).getD none
  have hFget : ∀ k, (mkH ((List.range (bg.length + (nx - os.length))).map F)).get k = if k < bg.length + (nx - os.length) then F k else none := by
    intro k
    rw [mkH_get _ (by simp; omega)]
    by_cases hk : k < bg.length + (nx - os.length)
    · rw [if_pos hk, List.getElem?_map, List.getElem?_range hk]; rfl
    · rw [if_neg hk, List.getElem?_eq_none (by simp; omega)]; rfl
  refine ⟨mkH ((List.range (bg.length + (nx - os.length))).map F), ⟨hlk, by show os.length ≤ K.next; omega, ?_, ?_, ?_⟩, rfl, by simp [mkH], ?_, rfl⟩
  · show bg.length + (K.next - os.length) ≤ ((List.range (bg.length + (nx - os.length))).map F).length
    simp; omega
  · show ((List.range (bg.length + (nx - os.length))).map F).length < big
    simp; omega
  · intro k o ho
    rw [hFget] at ho
    split at ho
    · simp only [F] at ho
      cases hf : findT (tau s bg.length) k ((List.range nx).map fun i => (i, K.get i)) with
      | some x =>
        rw [hf] at ho
        obtain ⟨i, h1, h2, h3⟩ := findT_some hf
        rw [← h3] at ho
        simp only [Option.map_eq_some_iff] at ho
        obtain ⟨os1, h4, h5⟩ := ho
        exact .inl ⟨i, os1, by rw [← hτ]; exact h2, h4, by rw [← hτ]; exact h5.symm⟩
      | none =>
        rw [hf] at ho
        refine .inr ⟨fun i hi e => ?_, by rw [mkH_get _ hlb]; exact ho⟩
        have hi' : i < os.length := hi
        exact findT_none hf i (List.mem_range.2 (by omega)) (by rw [tlt i (by omega)]; exact e)
    · cases ho
  · unfold outOf
    refine List.map_congr_left fun k hk => ?_
    rw [hFget, zip_map]
    have hb8 := List.all_eq_true.1 b8 k hk
    simp only [Bool.or_eq_true, Bool.and_eq_true, List.any_eq_true] at hb8
    have hkN : k < bg.length + (nx - os.length) := by
      rcases hb8 with ⟨i, hi, e⟩ | ⟨e, _⟩
      · have e' := Nat.eq_of_beq_eq_true e
        have := hin i hi
        rcases Nat.lt_or_ge i s.length with h1 | h1
        · rw [tlt i h1] at e'; have := hslt i h1; omega
        · rw [tge i h1] at e'; omega
      · have : k < bg.length := by simpa [Nat.blt_eq] using e
        omega
    rw [if_pos hkN]
    simp only [F]
    cases hf : findT (tau s bg.length) k (I.map fun b => (b, K.get b)) with
    | some o =>
      obtain ⟨i, h1, h2, h3⟩ := findT_some hf
      cases hg : findT (tau s bg.length) k ((List.range nx).map fun i => (i, K.get i)) with
      | none => exact absurd h2 (findT_none hg i (List.mem_range.2 (hin i h1)))
      | some x =>
        obtain ⟨j, g1, g2, g3⟩ := findT_some hg
        have : i = j := tinj i j (h2.trans g2.symm)
        subst this
        rw [← h3, ← g3]
    | none =>
      have hno := findT_none hf
      rcases hb8 with ⟨i, hi, e⟩ | ⟨e1, e2⟩
      · exact absurd (Nat.eq_of_beq_eq_true e) (hno i hi)
      · cases hg : findT (tau s bg.length) k ((List.range nx).map fun i => (i, K.get i)) with
        | none => rfl
        | some x =>
          exfalso
          obtain ⟨j, g1, g2, g3⟩ := findT_some hg
          have hkb : k < bg.length := by simpa [Nat.blt_eq] using e1
          rcases Nat.lt_or_ge j s.length with hj | hj
          · rw [tlt j hj, hsg j hj] at g2
            have : memB s k = true := (memB_iff s k).2 (by rw [← g2]; exact List.getElem_mem hj)
            rw [this] at e2; cases e2
          · rw [tge j hj] at g2; omega
def endsAt (I : List Nat) (r : RO) : Option (List (Bool × Bool) × Value × Nat × List (Option LO)) :=
  match r.end? with
  | some (t, v, K) => some (t, v, K.next, I.map K.get)
  | none => none
theorem MWp.ends {C : Ctx} (hC : C.Ok P) {S : St} {t : List (Bool × Bool)} {v : Value} {nx : Nat} {I : List Nat} {os' : List (Option LO)} (n : Nat) (p : Path) (h : endsAt I (run C n p S) = some (t, v, nx, os')) (ht : trusted t) :
    MWp P S (fun u K => u = v ∧ K.next = nx ∧ I.map K.get = os' ∧ K.lock = 0) := by
  unfold endsAt at h
  split at h
  · rename_i t' v' K he
    simp only [Option.some.injEq, Prod.mk.injEq] at h
    obtain ⟨rfl, rfl, rfl, rfl⟩ := h
    exact MWp.done hC n p he ht ⟨rfl, rfl, rfl, RO.end_lock he⟩
  · cases h
theorem Ends.of_run {C : Ctx} (hC : C.Ok P) {f : FuncId} {fn : Func} {args : List Value} {os : List (Option LO)} {t : List (Bool × Bool)} {v : Value} {nx : Nat} {I : List Nat} {os' : List (Option LO)} (n : Nat) (p : Path) (hf : C.fn.get f = some fn)
    (hl : (Nat.ble args.length fn.ntmps && Nat.blt fn.ntmps 1000000) = true) (h : endsAt I (run C n p (start fn args (mkH os))) = some (t, v, nx, os')) (ht : trusted t) : Ends P f args os I v nx os' :=
  LCalls_of hC hf hl (MWp.ends hC n p h ht)
end
end Go.Ly
namespace Go.Ly
open Go.RowKit
def treeSR (leaf : Value → Heap → ER) (rec : St → ER) : SR → ER
  | .go S => rec S
  | .tst b x y => .tst b (treeSR leaf rec x) (treeSR leaf rec y)
  | .done v H => leaf v H
  | _ => .no
def tree (C : Ctx) (leaf : Value → Heap → ER) : Nat → St → ER
  | 0, _ => .no
  | n + 1, S => treeSR leaf (tree C leaf n) (step C S)
def ER.sel : ER → ER
  | .tst b x y => bif b then x.sel else y.sel
  | r => r
section
variable {P : Program} {C : Ctx} {leaf : Value → Heap → ER}
theorem treeSR_sound {rec : St → ER} (hrec : ∀ S r, (rec S).sel = r → (∃ v H, r = (leaf v H).sel ∧ MWp P S (fun u K => u = v ∧ K = H)) ∨ r = .no) :
    ∀ (x : SR) (r : ER), (treeSR leaf rec x).sel = r → (∃ v H, r = (leaf v H).sel ∧ x.sat P (fun u K => u = v ∧ K = H)) ∨ r = .no
  | .go S, r, h => hrec S r h
  | .tst b x y, r, h => by
    simp only [treeSR, ER.sel] at h
    cases b with
    | true =>
      rcases treeSR_sound hrec x r h with ⟨v, H, h1, h2⟩ | h1
      · exact .inl ⟨v, H, h1, fun _ => h2, fun e => by cases e⟩
      · exact .inr h1
    | false =>
      rcases treeSR_sound hrec y r h with ⟨v, H, h1, h2⟩ | h1
      · exact .inl ⟨v, H, h1, fun e => (by cases e), fun _ => h2⟩
      · exact .inr h1
  | .done v H, r, h => .inl ⟨v, H, h.symm, rfl, rfl⟩
  | .stop, r, h => .inr h.symm
  | .no, r, h => .inr h.symm
theorem tree_sound (hC : C.Ok P) : ∀ (n : Nat) (S : St) (r : ER), (tree C leaf n S).sel = r → (∃ v H, r = (leaf v H).sel ∧ MWp P S (fun u K => u = v ∧ K = H)) ∨ r = .no
  | 0, S, r, h => .inr h.symm
  | n + 1, S, r, h => by
    rcases treeSR_sound (fun S r h => tree_sound hC n S r h) (step C S) r h with ⟨v, H, h1, h2⟩ | h1
    · exact .inl ⟨v, H, h1, step_sound hC h2⟩
    · exact .inr h1
theorem ConGood_sel {ρ : Ren} {f : Nat} {args : List Value} {w : World} : ∀ (r : ER), ConGood P ρ f args w r.sel → ConGood P ρ f args w r
  | .tst b x y, h => by
    simp only [ER.sel] at h
    cases b with
    | true => exact ⟨fun _ => ConGood_sel x h, fun e => by cases e⟩
    | false => exact ⟨fun e => (by cases e), fun _ => ConGood_sel y h⟩
  | .val _, h => h
  | .mem _ _, h => h
  | .skip _, h => h
  | .call _ _, h => h
  | .no, h => h
theorem HGood_sel {f : Nat} {args : List Value} {H : Heap} : ∀ (r : ER), HGood P f args H r.sel → HGood P f args H r
  | .tst b x y, h => by
    simp only [ER.sel] at h
    cases b with
    | true => exact ⟨fun _ => HGood_sel x h, fun e => by cases e⟩
    | false => exact ⟨fun e => (by cases e), fun _ => HGood_sel y h⟩
  | .val _, h => h
  | .mem _ _, h => h
  | .skip _, h => h
  | .call _ _, h => h
  | .no, h => h
def hconTree (C : Ctx) (n : Nat) (f : Nat) (H : Heap) (args : List Value) : ER :=
  match C.fn.get f with
  | some fn => bif Nat.ble args.length fn.ntmps && Nat.blt fn.ntmps 1000000 then tree C (fun v K => .mem v K) n (start fn args H) else .no
  | none => .no
theorem hconTree_good (hC : C.Ok P) (n f : Nat) (H : Heap) (args : List Value) : HGood P f args H (hconTree C n f H args) := by
  unfold hconTree
  cases hf : C.fn.get f with
  | none => exact trivial
  | some fn =>
    simp only
    cases hl : (Nat.ble args.length fn.ntmps && Nat.blt fn.ntmps 1000000) with
    | false => exact trivial
    | true =>
      simp only [cond_true]
      refine HGood_sel _ ?_
      rcases tree_sound (leaf := fun v K => .mem v K) hC n (start fn args H) _ rfl with ⟨v, K, h1, h2⟩ | h1
      · rw [h1]
        exact LCalls_of hC hf hl h2
      · rw [h1]; exact trivial
def Ren.shut (ρ : Ren) : Ren := ⟨ρ.b, ρ.cap, fun _ => true, ρ.off, ρ.wd, ρ.tok⟩
theorem shut_leV (ρ : Ren) : Ren.leV ρ ρ.shut := ⟨fun _ _ _ => ⟨rfl, rfl, rfl, rfl⟩, rfl⟩
theorem OR_shut {ρ : Ren} {i : Nat} : ∀ (o : LO) (o' : Obj), OR ρ i o o' → OR ρ.shut i o o'
  | .cells c _, _, ⟨h0, c', h1, e⟩ => ⟨h0, c', VRL.monoV (shut_leV ρ) c c' h1, e⟩
  | .row c _ z, _, ⟨h0, c', d', h1, e, e2⟩ => ⟨h0, c', d', VRL.monoV (shut_leV ρ) c c' h1, e, e2⟩
  | .fn k g n t, _, ⟨h0, hk, c', d', e, e1, e2, hg⟩ => ⟨h0, hk, c', d', e, e1, e2, ⟨fun a j ha hj => by obtain ⟨v', p1, p2⟩ := hg.val a j ha hj; exact ⟨v', p1, VR.monoV (shut_leV ρ) _ _ p2⟩, hg.one⟩⟩
  | .arg _ _ _, _, e => e.elim
def Heap.shut (H : Heap) : Heap := { H with lock := H.next }
theorem Rep.shut {ρ : Ren} {H : Heap} {w : World} (hr : Rep ρ H w) : Rep ρ.shut H.shut w :=
  ⟨hr.small, hr.dom, hr.inj, hr.ltn, fun i o ho hown => by
    obtain ⟨_, b, o', hb, hw, hor⟩ := hr.obj i o ho hown
    exact ⟨fun _ => absurd (hr.ltn i o ho) (by have : H.next ≤ i := by assumption
                                               omega), b, o', hb, hw, OR_shut o o' hor⟩,
   fun i k g n ho => ⟨rfl, (hr.arg i k g n ho).2.wd, fun e j he hj => by
    obtain ⟨h1, b, v', hb, hc, hv⟩ := (hr.arg i k g n ho).2.cell e j he hj
    exact ⟨h1, b, v', hb, hc, VR.monoV (shut_leV ρ) _ _ hv⟩⟩, ⟨hr.fix.held, fun _ _ _ _ _ => rfl⟩⟩
def ownB (H : Heap) (b : Nat) : Bool := match H.get b with | some o => o.own | none => false
def ansB (H : Heap) : Value → Bool
  | .pointer (some a) => ownB H a.block
  | v => plain v
theorem ownB_some {ρ : Ren} {H : Heap} {w : World} (hr : Rep ρ H w) {b : Nat} (h : ownB H b = true) : ∃ c, ρ b = some c := by
  unfold ownB at h
  cases ho : H.get b with
  | none => rw [ho] at h; cases h
  | some o =>
    rw [ho] at h
    obtain ⟨_, c, _, hc, _⟩ := hr.obj b o ho h
    exact ⟨c, hc⟩
theorem ansB_VR {ρ : Ren} {H : Heap} {w : World} (hr : Rep ρ H w) {v : Value} (h : ansB H v = true) : ∃ v', VR ρ v v' ∧ ∀ ρ' v'', Ren.le ρ.shut ρ' → VR ρ' v v'' → v'' = v' := by
  unfold ansB at h
  split at h
  · rename_i a
    obtain ⟨c, hc⟩ := ownB_some hr h
    refine ⟨.pointer (some ⟨c, ρ.at a, none⟩), by simp only [VR]; exact ⟨c, hc, rfl⟩, fun ρ' v'' hle hv => ?_⟩
    simp only [VR] at hv
    obtain ⟨b, hb, rfl⟩ := hv
    have hs := hle a.block c hc
    have : b = c := by have := hs.b.symm.trans hb; rw [show ρ.shut a.block = ρ a.block from rfl, hc] at this; exact (Option.some.inj this).symm
    subst this
    rw [hs.at]; rfl
  · exact ⟨v, plain_VR v h, fun ρ' v'' _ hv => plain_eq h hv⟩
def conTree (C : Ctx) (n : Nat) (f : Nat) (H : Heap) (args : List Value) : ER :=
  match C.fn.get f with
  | some fn => bif Nat.ble args.length fn.ntmps && Nat.blt fn.ntmps 1000000 then tree C (fun v _ => bif ansB H v then .val v else .no) n (start fn args H.shut) else .no
  | none => .no
theorem conTree_good (hC : C.Ok P) (n f : Nat) (args : List Value) (ρ : Ren) (args' : List Value) (w : World) (H : Heap) (ha : VRL ρ args args') (hr : Rep ρ H w) : ConGood P ρ f args' w (conTree C n f H args) := by
  unfold conTree
  cases hf : C.fn.get f with
  | none => exact trivial
  | some fn =>
    simp only
    cases hl : (Nat.ble args.length fn.ntmps && Nat.blt fn.ntmps 1000000) with
    | false => exact trivial
    | true =>
      simp only [cond_true]
      refine ConGood_sel _ ?_
      rcases tree_sound (leaf := fun v _ => bif ansB H v then .val v else .no) hC n (start fn args H.shut) _ rfl with ⟨v, K, h1, h2⟩ | h1
      · rw [h1]
        cases hb : ansB H v with
        | false => exact trivial
        | true =>
          obtain ⟨v', hv, huniq⟩ := ansB_VR hr hb
          refine ⟨v', hv, ?_⟩
          have hL := LCalls_of hC hf hl h2
          refine (hL ρ.shut args' w (VRL.monoV (shut_leV ρ) _ _ ha) hr.shut).mono ?_
          rintro e w' ⟨ρ', u, u', H', rfl, ⟨rfl, _⟩, q1, q2, q3, q4, q5⟩
          refine ⟨by rw [huniq ρ' u' q1 q3], q5.os, q5.tape, q5.output, q5.size, fun k hk => q5.block k hk (fun _ _ => rfl)⟩
      · rw [h1]; exact trivial
theorem Ctx.Ok.byCon {D : Ctx} (hD : D.Ok P) (hC : C.Ok P) (n f : Nat) : (D.withC f (conTree C n f)).Ok P := hD.withC (fun args ρ args' w H ha hr => conTree_good hC n f args ρ args' w H ha hr)
theorem Ctx.Ok.byRun {D : Ctx} (hD : D.Ok P) (hC : C.Ok P) (n f : Nat) : (D.withH f (hconTree C n f)).Ok P := hD.withH (fun H args => hconTree_good hC n f H args)
end
end Go.Ly
namespace Go.Ly
open Go.RowKit
section
variable {P : Program} {C : Ctx} {Q : Value → Heap → Prop}
def keepV (keep : List Nat) (n : Nat) (t : Tr Value) : List Value := (List.range n).map fun i => bif memB keep i then (t.get i).getD undef else anyV
def atSt (fn : Func) (k : List KI) (dst : Option Tmp) (base : Nat) (vals : List Value) (H : Heap) : St := { top := { fn := fn, t := trArgs vals 0 .nil, k := k, dst := dst }, rest := [], H := H, base := base }
def haltF (keep : List Nat) (d : St) (r : RO) : Bool × List (Bool × Bool) × Bool × (Func × List KI × Option Tmp × Nat) × List Value × Heap := (r.isHalt, r.trust, (r.st d).rest.isEmpty && Nat.blt (r.st d).top.fn.ntmps 1000000, ((r.st d).top.fn, (r.st d).top.k, (r.st d).top.dst, (r.st d).base), keepV keep (r.st d).top.fn.ntmps (r.st d).top.t, (r.st d).H)
theorem MWp.forget (keep : List Nat) {S : St} (hr : S.rest = []) (hn : S.top.fn.ntmps < 1000000) (h : MWp P (atSt S.top.fn S.top.k S.top.dst S.base (keepV keep S.top.fn.ntmps S.top.t) S.H) Q) : MWp P S Q := by
  intro ρ w g gs R hrp hf hfs hR
  rw [hr] at hfs
  have hgs : gs = [] := by simpa [FRL] using hfs
  subst hgs
  have hvl : (keepV keep S.top.fn.ntmps S.top.t).length = S.top.fn.ntmps := by simp [keepV]
  refine h ρ w g [] R hrp ⟨hf.fn, hf.k, hf.dst, ?_⟩ (by simp [atSt, FRL]) hR
  show TR ρ S.top.fn.ntmps (trArgs (keepV keep S.top.fn.ntmps S.top.t) 0 .nil) g.a
  refine ⟨hf.t.size, hf.t.small, fun i => ?_, hf.t.defers⟩
  rw [trArgs_get _ 0 .nil (by rw [hvl]; unfold big; omega)]
  simp only [Nat.zero_le, true_and, Nat.zero_add, Nat.sub_zero]
  have hv := hf.t.val i
  by_cases hi : i < S.top.fn.ntmps
  · rw [if_pos (by rw [hvl]; exact hi)]
    have e : (keepV keep S.top.fn.ntmps S.top.t)[i]? = some (bif memB keep i then (S.top.t.get i).getD undef else anyV) := by simp [keepV, hi]
    rw [e]
    simp only [Option.getD_some]
    cases hk : memB keep i with
    | false => exact VR_any _
    | true => exact hv
  · rw [if_neg (by rw [hvl]; exact hi), Tr.get_nil]
    have : g.a.tmps.getD i undef = undef := by
      rw [Array.getD_eq_getD_getElem?, Array.getElem?_eq_none (by rw [hf.t.size]; omega)]; rfl
    rw [this]; exact VR_undef
theorem MWp.halted (hC : C.Ok P) {S d : St} {t : List (Bool × Bool)} {fn : Func} {k : List KI} {dst : Option Tmp} {base : Nat} {vals : List Value} {H : Heap} (keep : List Nat) (n : Nat) (p : Path)
    (h : haltF keep d (run C n p S) = (true, t, true, (fn, k, dst, base), vals, H)) (htr : trusted t) (hs : MWp P (atSt fn k dst base vals H) Q) : MWp P S Q := by
  simp only [haltF, Prod.mk.injEq, Bool.and_eq_true] at h
  obtain ⟨h1, h2, ⟨h3, h4⟩, ⟨h5, h6, h7, h8⟩, h9, h10⟩ := h
  refine MWp.seg hC (d := d) n p h1 h2 htr (MWp.forget keep ?_ ?_ ?_)
  · simpa using h3
  · simpa [Nat.blt_eq] using h4
  · rw [h9, h10, h6, h7, h8, h5]; exact hs
def LOeq (o o' : LO) : Prop := o = o' ∨ ∃ k g g' n t, o = .fn k g n t ∧ o' = .fn k g' n t ∧ ∀ e j, e < n → j < k → g e j = g' e j
theorem LOeq.refl (o : LO) : LOeq o o := .inl rfl
theorem LOeq.own {o o' : LO} (h : LOeq o o') : o'.own = o.own := by
  rcases h with rfl | ⟨k, g, g', n, t, rfl, rfl, _⟩ <;> rfl
theorem LOeq.or {ρ : Ren} {i : Nat} {o o' : LO} {x : Obj} (h : LOeq o o') (ho : OR ρ i o x) : OR ρ i o' x := by
  rcases h with rfl | ⟨k, g, g', n, t, rfl, rfl, he⟩
  · exact ho
  · obtain ⟨h0, hk, c', d', e, e1, e2, hg⟩ := ho
    exact ⟨h0, hk, c', d', e, e1, e2, ⟨fun a j ha hj => by rw [← he a j ha hj]; exact hg.val a j ha hj, fun a j ha hj => by rw [← he a j ha hj]; exact hg.one a j ha hj⟩⟩
def OLeq : Option LO → Option LO → Prop
  | none, none => True
  | some a, some b => LOeq a b
  | _, _ => False
def Each2 (R : Option LO → Option LO → Prop) : List (Option LO) → List (Option LO) → Prop
  | [], [] => True
  | a :: r, b :: s => R a b ∧ Each2 R r s
  | _, _ => False
theorem Each2.length {R : Option LO → Option LO → Prop} : ∀ {l m : List (Option LO)}, Each2 R l m → l.length = m.length
  | [], [], _ => rfl
  | _ :: _, _ :: _, h => by simp [Each2.length h.2]
  | [], _ :: _, h => h.elim
  | _ :: _, [], h => h.elim
theorem Each2.get {R : Option LO → Option LO → Prop} : ∀ {l m : List (Option LO)}, Each2 R l m → ∀ (i : Nat) a b, l[i]? = some a → m[i]? = some b → R a b
  | [], [], _, i, a, b, h, _ => by simp at h
  | x :: r, y :: s, h, 0, a, b, h1, h2 => by simp at h1 h2; subst h1 h2; exact h.1
  | x :: r, y :: s, h, i + 1, a, b, h1, h2 => Each2.get h.2 i a b (by simpa using h1) (by simpa using h2)
  | [], _ :: _, h, _, _, _, _, _ => h.elim
  | _ :: _, [], h, _, _, _, _, _ => h.elim
theorem setZip_get : ∀ (I : List Nat) (os : List (Option LO)) (t : Tr LO), I.length = os.length → (∀ b ∈ I, b < big) → I.Nodup → (∀ (i b : Nat) o, I[i]? = some b → os[i]? = some o → (setAll (I.zip os) t).get b = o) ∧ (∀ b, b ∉ I → (setAll (I.zip os) t).get b = t.get b)
  | [], [], t, _, _, _ => ⟨fun i b o h => by simp at h, fun _ _ => rfl⟩
  | x :: r, y :: s, t, hl, hb, hnd => by
    obtain ⟨h1, h2⟩ := setZip_get r s t (by simpa using hl) (fun b hb' => hb b (by simp [hb'])) (List.nodup_cons.1 hnd).2
    simp only [List.zip_cons_cons, setAll]
    refine ⟨fun i b o hi ho => ?_, fun b hb' => ?_⟩
    · rw [Tr.get_set _ _ _ (hb x (by simp))]
      cases i with
      | zero => simp at hi ho; subst hi ho; simp
      | succ i =>
        have hi' : r[i]? = some b := by simpa using hi
        have hbr : b ∈ r := List.mem_of_getElem? hi'
        rw [if_neg (fun (e : b = x) => (List.nodup_cons.1 hnd).1 (by rw [← e]; exact hbr))]
        exact h1 i b o hi' (by simpa using ho)
    · rw [Tr.get_set _ _ _ (hb x (by simp)), if_neg (fun e => hb' (by simp [e])), h2 b (fun h => hb' (by simp [h]))]
  | [], _ :: _, _, hl, _, _ => by simp at hl
  | _ :: _, [], _, hl, _, _ => by simp at hl
end
end Go.Ly
namespace Go.Ly
open Go.RowKit
def tokV (p : Nat) : Value := .chan (some p)
mutual
def noTok : Value → Bool
  | .chan (some _) => false
  | .func _ ⟨xs⟩ ⟨ys⟩ => noTokL xs && noTokL ys
  | .iface _ x => noTok x
  | .agg ⟨xs⟩ => noTokL xs
  | .tuple ⟨xs⟩ => noTokL xs
  | _ => true
def noTokL : List Value → Bool
  | [] => true
  | v :: r => noTok v && noTokL r
end
def noTokO : LO → Bool
  | .cells c _ => noTokL c
  | .row c _ _ => noTokL c
  | _ => true
def Ren.say (ρ : Ren) (τ : Nat → Value) : Ren := ⟨ρ.b, ρ.cap, ρ.ro, ρ.off, ρ.wd, τ⟩
section
variable {P : Program} {ρ : Ren}
mutual
theorem VR_say {τ : Nat → Value} : ∀ (v v' : Value), noTok v = true → (VR ρ v v' ↔ VR (ρ.say τ) v v')
  | .bool _, _, _ => by simp only [VR]
  | .int _ _, _, _ => by simp only [VR]
  | .string _, _, _ => by simp only [VR]
  | .pointer none, _, _ => by simp only [VR]
  | .pointer (some a), _, _ => by simp only [VR]; rfl
  | .slice none _ _, _, _ => by simp only [VR]
  | .slice (some a) n c, _, _ => by simp only [VR]; rfl
  | .map none, _, _ => by simp only [VR]
  | .map (some r), _, _ => by simp only [VR]; rfl
  | .func fn ⟨xs⟩ ⟨ys⟩, v', h => by
    simp only [noTok, Bool.and_eq_true] at h
    simp only [VR]
    constructor
    · rintro ⟨xs', ys', h1, h2, h3⟩; exact ⟨xs', ys', (VRL_say xs xs' h.1).1 h1, (VRL_say ys ys' h.2).1 h2, h3⟩
    · rintro ⟨xs', ys', h1, h2, h3⟩; exact ⟨xs', ys', (VRL_say xs xs' h.1).2 h1, (VRL_say ys ys' h.2).2 h2, h3⟩
  | .nilFunc, _, _ => by simp only [VR]
  | .iface t x, v', h => by
    simp only [noTok] at h
    simp only [VR]
    constructor
    · rintro ⟨x', h1, h2⟩; exact ⟨x', (VR_say x x' h).1 h1, h2⟩
    · rintro ⟨x', h1, h2⟩; exact ⟨x', (VR_say x x' h).2 h1, h2⟩
  | .nilIface, _, _ => by simp only [VR]
  | .agg ⟨xs⟩, v', h => by
    simp only [noTok] at h
    simp only [VR]
    constructor
    · rintro ⟨x', h1, h2⟩; exact ⟨x', (VRL_say xs x' h).1 h1, h2⟩
    · rintro ⟨x', h1, h2⟩; exact ⟨x', (VRL_say xs x' h).2 h1, h2⟩
  | .tuple ⟨xs⟩, v', h => by
    simp only [noTok] at h
    simp only [VR]
    constructor
    · rintro ⟨x', h1, h2⟩; exact ⟨x', (VRL_say xs x' h).1 h1, h2⟩
    · rintro ⟨x', h1, h2⟩; exact ⟨x', (VRL_say xs x' h).2 h1, h2⟩
  | .float _ _, _, _ => by simp only [VR]; exact Iff.rfl
  | .complex _ _ _, _, _ => by simp only [VR]
  | .chan none, _, _ => by simp only [VR]
  | .chan (some _), _, h => by simp [noTok] at h
theorem VRL_say {τ : Nat → Value} : ∀ (l l' : List Value), noTokL l = true → (VRL ρ l l' ↔ VRL (ρ.say τ) l l')
  | [], _, _ => by simp only [VRL]
  | v :: r, l', h => by
    simp only [noTokL, Bool.and_eq_true] at h
    simp only [VRL]
    constructor
    · rintro ⟨v', r', h1, h2, h3⟩; exact ⟨v', r', (VR_say v v' h.1).1 h1, (VRL_say r r' h.2).1 h2, h3⟩
    · rintro ⟨v', r', h1, h2, h3⟩; exact ⟨v', r', (VR_say v v' h.1).2 h1, (VRL_say r r' h.2).2 h2, h3⟩
end
theorem cst_noTok {v : Value} (h : cst v = true) : noTok v = true := by
  unfold cst at h
  split at h <;> first | rfl | simp at h
theorem GR_say {τ : Nat → Value} {k n off : Nat} {g : Nat → Nat → Value} {c : List Value} (h : GR ρ k g n off c) : GR (ρ.say τ) k g n off c :=
  ⟨fun e j he hj => by obtain ⟨v', h1, h2⟩ := h.val e j he hj; exact ⟨v', h1, (VR_say _ _ (cst_noTok (h.one e j he hj))).1 h2⟩, h.one⟩
theorem OR_say {τ : Nat → Value} {i : Nat} : ∀ (o : LO) (o' : Obj), noTokO o = true → OR ρ i o o' → OR (ρ.say τ) i o o'
  | .cells c _, _, h, ⟨h0, c', h1, e⟩ => ⟨h0, c', (VRL_say c c' h).1 h1, e⟩
  | .row c _ z, _, h, ⟨h0, c', d', h1, e, e2⟩ => ⟨h0, c', d', (VRL_say c c' h).1 h1, e, e2⟩
  | .fn k g n t, _, _, ⟨h0, hk, c', d', e, e1, e2, hg⟩ => ⟨h0, hk, c', d', e, e1, e2, GR_say hg⟩
  | .arg _ _ _, _, _, e => e.elim
theorem AR_say {τ : Nat → Value} {i k n : Nat} {g : Nat → Nat → Value} {w : World} (h : AR ρ i k g n w) : AR (ρ.say τ) i k g n w :=
  ⟨h.wd, fun e j he hj => by obtain ⟨h1, b, v', hb, hc, hv⟩ := h.cell e j he hj; exact ⟨h1, b, v', hb, hc, (VR_say _ _ (cst_noTok h1)).1 hv⟩⟩
end
end Go.Ly
namespace Go.Ly
open Go.RowKit
section
variable {P : Program} {w : World}
structure RealRows (w : World) (k : Nat) (g : Nat → Nat → Value) (n : Nat) (x' : Value) (p : Option Plc) : Prop where
  shape : ∃ a' c', x' = .slice (some a') n c' ∧ n ≤ c' ∧ (n ≠ 0 → ∃ q, p = some q ∧ a' = ⟨q.b, q.o, none⟩ ∧ q.c = c')
  low : ∀ q, p = some q → q.b < w.heap.size
  cell : ∀ e j, e < n → j < k → ∃ q, p = some q ∧ w.cell? ⟨q.b, q.o + (e * k + j), none⟩ = some (g e j)
  one : ∀ e j, e < n → j < k → cst (g e j) = true
theorem RealRows.congr {k n : Nat} {g g' : Nat → Nat → Value} {x' : Value} {p : Option Plc} (h : RealRows w k g n x' p) (he : ∀ e j, e < n → j < k → g e j = g' e j) : RealRows w k g' n x' p :=
  ⟨h.shape, h.low, fun e j a b => by rw [← he e j a b]; exact h.cell e j a b, fun e j a b => by rw [← he e j a b]; exact h.one e j a b⟩
def rowsRenW (l : List (Option Plc)) (ws : Nat → Nat) : Ren := ⟨fun i => ((l[i]?).getD none).map (·.b), fun i => (((l[i]?).getD none).map (·.c)).getD 0, fun _ => true, fun i => (((l[i]?).getD none).map (·.o)).getD 0, ws, fun _ => undef⟩
theorem rowsW_rep [hfw : FixW w] {l : List (Option Plc)} {ws : Nat → Nat} {rs : List (Nat × (Nat → Nat → Value) × Nat)} (hl : l.length = rs.length) (hs : rs.length < 1000) (hb : ∀ (i : Nat) (q : Plc), (l[i]?).getD none = some q → q.b < w.heap.size)
    (hr : ∀ (i k : Nat) (g : Nat → Nat → Value) (n : Nat), rs[i]? = some (k, g, n) → ws i = k ∧ ∀ e j, e < n → j < k → cst (g e j) = true ∧ ∃ q : Plc, (l[i]?).getD none = some q ∧ w.cell? ⟨q.b, q.o + (e * k + j), none⟩ = some (g e j)) :
    Rep (rowsRenW l ws) (mkH (rs.map fun r => some (.arg r.1 r.2.1 r.2.2))) w := by
  have hlen : (rs.map fun r => some (LO.arg r.1 r.2.1 r.2.2)).length < big := by simp [big]; omega
  have hget : ∀ j o, (mkH (rs.map fun r => some (LO.arg r.1 r.2.1 r.2.2))).get j = some o → ∃ r, rs[j]? = some r ∧ o = .arg r.1 r.2.1 r.2.2 := by
    intro j o ho
    rw [mkH_get _ hlen] at ho
    simp only [List.getElem?_map] at ho
    cases hj : rs[j]? with
    | none => rw [hj] at ho; simp at ho
    | some r => rw [hj] at ho; simp at ho; exact ⟨r, rfl, ho.symm⟩
  refine ⟨by simp [mkH, big]; omega, fun i b h => ?_, fun i j b o hi hown => ?_, fun i o ho => ?_, fun i o ho hown => ?_, fun i k g n ho => ?_, ⟨hfw.held, fun _ _ _ _ _ => rfl⟩⟩
  · simp only [rowsRenW, Option.map_eq_some_iff] at h
    obtain ⟨q, h1, rfl⟩ := h
    refine ⟨?_, hb i q h1⟩
    rcases Nat.lt_or_ge i l.length with h2 | h2
    · simpa [mkH, hl] using h2
    · rw [List.getElem?_eq_none h2] at h1; simp at h1
  · obtain ⟨r, _, rfl⟩ := hget i o hi; simp [LO.own] at hown
  · obtain ⟨r, h1, _⟩ := hget i o ho
    have := (List.getElem?_eq_some_iff.1 h1).1
    simpa [mkH] using this
  · obtain ⟨r, _, rfl⟩ := hget i o ho; simp [LO.own] at hown
  · obtain ⟨r, h1, h2⟩ := hget i _ ho
    simp only [LO.arg.injEq] at h2
    obtain ⟨rfl, rfl, rfl⟩ := h2
    obtain ⟨hw, hc⟩ := hr i r.1 r.2.1 r.2.2 h1
    refine ⟨rfl, hw, fun e j he hj => ?_⟩
    obtain ⟨h0, q, h3, h4⟩ := hc e j he hj
    refine ⟨h0, q.b, r.2.1 e j, by simp [rowsRenW, h3], ?_, cst_VR h0⟩
    simp only [rowsRenW, h3, Option.map_some, Option.getD_some]
    exact h4
theorem slW_VR {k : Nat} {g : Nat → Nat → Value} {n i : Nat} {x' : Value} {l : List (Option Plc)} {ws : Nat → Nat} {p : Option Plc} (h : RealRows w k g n x' p) (hp : (l[i]?).getD none = p) : VR (rowsRenW l ws) (sl i n) x' := by
  obtain ⟨a', c', rfl, hc, hn⟩ := h.shape
  simp only [sl, VR]
  refine ⟨a', c', rfl, hc, fun e => absurd rfl e, fun h0 => ?_⟩
  obtain ⟨q, rfl, rfl, rfl⟩ := hn h0
  exact ⟨q.b, by simp [rowsRenW, hp], by simp [Ren.at, rowsRenW, hp], fun _ _ => by simp [rowsRenW, hp]⟩
def noSl : List CK → Bool
  | [] => true
  | .slice _ :: _ => false
  | _ :: r => noSl r
theorem cks_cst : ∀ {ks : List CK} {l : List Value}, noSl ks = true → CksOk w ks l → ∀ (j : Nat) (v : Value), l[j]? = some v → cst v = true
  | [], l, _, h, j, v, e => by simp only [CksOk] at h; subst h; simp at e
  | k :: ks, l, hn, h, j, v, e => by
    simp only [CksOk] at h
    obtain ⟨x, r, rfl, h1, h2⟩ := h
    cases j with
    | zero =>
      simp at e; subst e
      cases k with
      | bool => simp only [CkOk] at h1; obtain ⟨b, rfl⟩ := h1; rfl
      | int k => simp only [CkOk] at h1; obtain ⟨b, rfl, _⟩ := h1; rfl
      | str => simp only [CkOk] at h1; obtain ⟨b, rfl, _⟩ := h1; rfl
      | slice s => simp [noSl] at hn
    | succ j =>
      refine cks_cst (ks := ks) ?_ h2 j v (by simpa using e)
      cases k <;> first | exact hn | (simp [noSl] at hn)
theorem ck_rows {ks : List CK} {v : Value} (hk : noSl ks = true) (hpos : 0 < ks.length) (h : CkOk w (.slice ks) v) : v = .slice none 0 0 ∨ ∃ (n : Nat) (F : Nat → List Value) (p : Option Plc), RealRows w ks.length (fun e j => ((F e)[j]?).getD undef) n v p ∧ (∀ e, e < n → CksOk w ks (F e)) ∧ n ≤ maxLen := by
  simp only [CkOk] at h
  rcases h with rfl | ⟨a, len, cap, F, rfl, hlc, hcap, hF⟩
  · exact .inl rfl
  · right
    refine ⟨len, F, bif Nat.blt 0 len then some ⟨a.block, a.off, cap⟩ else none, ⟨⟨a, cap, rfl, hlc, fun hn => ?_⟩, fun q hq => ?_, fun e j he hj => ?_, fun e j he hj => ?_⟩, fun e he => (hF e he).2.2, Nat.le_trans hlc hcap⟩
    · have hb : Nat.blt 0 len = true := by rw [Nat.blt_eq]; omega
      rw [hb]
      obtain ⟨_, h2, _⟩ := hF 0 (by omega)
      obtain ⟨_, h5, _⟩ := h2 0 hpos
      refine ⟨_, rfl, ?_, rfl⟩
      cases a; simp_all
    · cases hb : Nat.blt 0 len with
      | false => rw [hb] at hq; cases hq
      | true =>
        rw [hb] at hq; simp only [cond_true, Option.some.injEq] at hq; subst hq
        obtain ⟨_, h2, _⟩ := hF 0 (by simpa [Nat.blt_eq] using hb)
        exact (h2 0 hpos).1
    · have hb : Nat.blt 0 len = true := by rw [Nat.blt_eq]; omega
      rw [hb]
      obtain ⟨h1, h2, _⟩ := hF e he
      obtain ⟨_, h5, h6⟩ := h2 j hj
      refine ⟨_, rfl, ?_⟩
      have : (F e)[j]? = some ((F e)[j]'(by omega)) := List.getElem?_eq_getElem _
      rw [this] at h6 ⊢
      rw [Option.getD_some, ← h6]
      congr 1
      obtain ⟨ab, ao, ap⟩ := a
      simp only at h5; subst h5
      unfold Addr.add
      by_cases hz : e * ks.length + j = 0
      · simp [hz]
      · rw [if_neg hz]
    · obtain ⟨h1, h2, h3⟩ := hF e he
      have : (F e)[j]? = some ((F e)[j]'(by omega)) := List.getElem?_eq_getElem _
      rw [this, Option.getD_some]
      exact cks_cst hk h3 j _ this
end
section
variable {P : Program} {C : Ctx}
end
end Go.Ly
namespace Go.Ly
open Go.RowKit
def VW (v u : Value) : Prop := ∀ ρ v', VR ρ v v' → VR ρ u v'
theorem VW.any (v : Value) : VW v anyV := fun _ v' _ => VR_any v'
def VWL : List Value → List Value → Prop
  | [], l => l = []
  | v :: r, l => ∃ u s, VW v u ∧ VWL r s ∧ l = u :: s
theorem VWL.rel {ρ : Ren} : ∀ {l m l' : List Value}, VWL l m → VRL ρ l l' → VRL ρ m l'
  | [], m, l', h, k => by simp only [VWL] at h; subst h; exact k
  | v :: r, m, l', h, k => by
    obtain ⟨u, s, h1, h2, rfl⟩ := h
    simp only [VRL] at k ⊢
    obtain ⟨v', r', k1, k2, rfl⟩ := k
    exact ⟨v', r', h1 ρ v' k1, VWL.rel h2 k2, rfl⟩
def OW (o u : LO) : Prop := (∃ c c' t, o = .cells c t ∧ u = .cells c' t ∧ VWL c c') ∨ LOeq o u
theorem OW.refl (o : LO) : OW o o := .inr (LOeq.refl o)
theorem OW.cells {c c' : List Value} {t : TypeId} (h : VWL c c') : OW (.cells c t) (.cells c' t) := .inl ⟨c, c', t, rfl, rfl, h⟩
theorem OW.own {o u : LO} (h : OW o u) : u.own = o.own := by
  rcases h with ⟨c, c', t, rfl, rfl, _⟩ | h
  · rfl
  · exact h.own
theorem OW.or {ρ : Ren} {i : Nat} {o u : LO} {x : Obj} (h : OW o u) (ho : OR ρ i o x) : OR ρ i u x := by
  rcases h with ⟨c, c', t, rfl, rfl, hw⟩ | h
  · obtain ⟨h0, d, hd, e⟩ := ho
    exact ⟨h0, d, hw.rel hd, e⟩
  · exact h.or ho
structure WeakH (H K : Heap) : Prop where
  next : K.next = H.next
  lock : K.lock = H.lock
  obj : ∀ i o, K.get i = some o → ∃ x, H.get i = some x ∧ OW x o
theorem Rep.weak {ρ : Ren} {H K : Heap} {w : World} (h : WeakH H K) (hr : Rep ρ H w) : Rep ρ K w := by
  refine ⟨by rw [h.next]; exact hr.small, by rw [h.next]; exact hr.dom, fun i j b o hi ho hj h1 h2 => ?_, fun i o ho => ?_, fun i o ho hown => ?_, fun i k g n ho => ?_, hr.fix⟩
  · obtain ⟨x, h3, h4⟩ := h.obj i o hi
    obtain ⟨oj, hj'⟩ := Option.isSome_iff_exists.1 hj
    obtain ⟨y, h5, _⟩ := h.obj j oj hj'
    exact hr.inj i j b x h3 (by rw [← h4.own]; exact ho) (by rw [h5]; rfl) h1 h2
  · obtain ⟨x, h3, h4⟩ := h.obj i o ho
    rw [h.next]; exact hr.ltn i x h3
  · obtain ⟨x, h3, h4⟩ := h.obj i o ho
    obtain ⟨r1, b, o', r2, r3, r4⟩ := hr.obj i x h3 (by rw [← h4.own]; exact hown)
    exact ⟨fun hh => r1 (by rw [← h.lock]; exact hh), b, o', r2, r3, h4.or r4⟩
  · obtain ⟨x, h3, h4⟩ := h.obj i _ ho
    have : x = .arg k g n := by
      rcases h4 with ⟨c, c', t, rfl, e, _⟩ | e | ⟨_, _, _, _, _, _, e, _⟩
      · cases e
      · exact e
      · cases e
    subst this
    exact hr.arg i k g n h3
section
variable {P : Program} {Q Q' : Value → Heap → Prop} {f : FuncId} {args : List Value} {H K : Heap}
theorem MWp.weak {S : St} (hw : WeakH S.H K) (h : MWp P { S with H := K } Q) : MWp P S Q := by
  intro ρ w g gs R hr hf hfl hk
  exact h ρ w g gs R (hr.weak hw) hf hfl hk
theorem LCalls.ltn (h : (∀ i o, H.get i = some o → i < H.next) → H.next < big → LCalls P f args H Q) : LCalls P f args H Q := fun ρ args' w ha hr => h hr.ltn hr.small ρ args' w ha hr
theorem MWp.ltn {S : St} (h : (∀ i o, S.H.get i = some o → i < S.H.next) → S.H.next < big → MWp P S Q) : MWp P S Q := fun ρ w g gs R hr => h hr.ltn hr.small ρ w g gs R hr
structure Sit (H : Heap) (os : List (Option LO)) (L : List Nat) : Prop where
  lock : H.lock = 0
  len : L.length = os.length
  nd : L.Nodup
  at_ : ∀ i o, os[i]? = some (some o) → H.get (sg L i) = some (renO (tau L H.next) o)
end
end Go.Ly
namespace Go.Ly
open Go.RowKit
def Clean (H : Heap) : Prop := ∀ i o, H.get i = some o → noTokO o = true
section
variable {P : Program} {f : FuncId} {args : List Value} {H : Heap}
structure Made (H : Heap) (os : List (Option LO)) (L I : List Nat) (nx : Nat) (os' : List (Option LO)) (H' : Heap) : Prop where
  lock : H'.lock = 0
  next : H'.next = H.next + (nx - os.length)
  now : ∀ (j i : Nat) (o : Option LO), I[j]? = some i → os'[j]? = some o → H'.get (tau L H.next i) = o
  old : ∀ k, k < H.next → k ∉ L → H'.get k = H.get k
  clean : Clean H'
end
section
variable {P : Program} {ρ : Ren} {H : Heap} {w w' : World}
theorem cst_eq {v v' : Value} (h : cst v = true) (hv : VR ρ v v') : v' = v := by
  unfold cst at h
  split at h <;> first | (simp only [VR] at hv; exact hv) | cases h
theorem GR.any {ρ' : Ren} {k n off : Nat} {g : Nat → Nat → Value} {c : List Value} (h : GR ρ k g n off c) : GR ρ' k g n off c :=
  ⟨fun e j he hj => by
    obtain ⟨v', h1, h2⟩ := h.val e j he hj
    exact ⟨v', h1, VR_cst (h.one e j he hj) h2⟩, h.one⟩
theorem view_rows {k : Nat} (hr : Rep ρ H w) {a : Addr} {n c : Nat} {x' : Value} {gd : Bool} {v : Rw} (hx : VR ρ (.slice (some a) n c) x') (h : srcR H k (.slice (some a) n c) = some (gd, v)) (hgd : gd = true) (hc : v.csts = true) :
    v.n = n ∧ ∃ p, RealRows w k (v.fun k) n x' p := by
  obtain ⟨l', a1, c1, hok, hx', hcells⟩ := srcR_cells hr hx h hgd
  obtain ⟨a', c', rfl⟩ := VR_slice_some hx
  have hvn : v.n = n := by injection hx' with _ e _; exact e.symm
  have hg := hok.gr hc
  have hval : ∀ e j, e < n → j < k → l'[e * k + j]? = some (v.fun k e j) := by
    intro e j he hj
    obtain ⟨u, h1, h2⟩ := hg.val e j (by omega) hj
    rw [Nat.zero_add] at h1
    rw [h1, cst_eq (hg.one e j (by omega) hj) h2]
  refine ⟨hvn, ?_⟩
  have hsh := hx
  simp only [VR] at hsh
  obtain ⟨a2, c2, e2, hn2, _, haddr⟩ := hsh
  injection e2 with e3 _ e4
  simp only [Option.some.injEq] at e3
  subst e3 e4
  have hone : ∀ e j, e < n → j < k → cst (v.fun k e j) = true := fun e j he hj => hg.one e j (by omega) hj
  by_cases hn : n = 0
  · exact ⟨none, ⟨_, _, rfl, hn2, fun h0 => absurd hn h0⟩, (fun _ e => by cases e), (fun e j he => by omega), hone⟩
  · obtain ⟨b, hb, rfl, _⟩ := haddr hn
    refine ⟨some ⟨b, ρ.at a, c'⟩, ⟨_, _, rfl, hn2, fun _ => ⟨_, rfl, rfl, rfl⟩⟩, fun q e => ?_, fun e j he hj => ⟨_, rfl, ?_⟩, hone⟩
    · simp only [Option.some.injEq] at e; subst e; exact (hr.dom _ _ hb).2
    · exact hcells _ _ (hval e j he hj) b hb
theorem Rep.extNew (hr : Rep ρ H w) (hn : H.next + 1 < big) {o : LO} {o' : Obj} {b k wd : Nat} (hown : o.own = true) (hb : b < w.heap.size) (hnew : ∀ i, ρ i ≠ some b) (hw : w.heap[b]? = some o') (ho : OR (ρ.ext H.next b k wd) H.next o o') (hfx : fixed b = none) :
    Rep (ρ.ext H.next b k wd) (H.new o) w := by
  have hget : ∀ i, (H.new o).get i = if i = H.next then some o else H.get i := fun i => Tr.get_set _ _ _ hr.small i
  have hn1 : (H.new o).next = H.next + 1 := rfl
  have hle := hr.ext_le b k wd
  refine ⟨hn, ?_, ?_, ?_, ?_, ?_, ⟨hr.fix.held, fun i x o e hi => ?_⟩⟩
  rotate_right
  · simp only [Ren.ext] at hi ⊢
    split at hi
    · simp at hi; subst hi; rw [hfx] at e; cases e
    · rename_i e1; rw [if_neg e1]; exact hr.fix.ro i x o e hi
  · intro i x h
    simp only [Ren.ext] at h
    rw [hn1]
    split at h
    · rename_i e; subst e; simp at h; subst h; exact ⟨by omega, hb⟩
    · have := hr.dom i x h; exact ⟨by omega, this.2⟩
  · intro i j y x hi hx hj h1 h2
    rw [hget] at hi hj
    simp only [Ren.ext] at h1 h2
    by_cases e1 : i = H.next <;> by_cases e2 : j = H.next
    · omega
    · rw [if_pos e1] at h1; rw [if_neg e2] at h2; simp at h1; subst h1; exact absurd h2 (hnew j)
    · rw [if_neg e1] at h1; rw [if_pos e2] at h2; simp at h2; subst h2; exact absurd h1 (hnew i)
    · rw [if_neg e1] at h1 hi; rw [if_neg e2] at h2 hj; exact hr.inj i j y x hi hx hj h1 h2
  · intro i x hx
    rw [hget] at hx
    rw [hn1]
    by_cases e : i = H.next
    · omega
    · rw [if_neg e] at hx; have := hr.lt hx; omega
  · intro i x hx hxo
    rw [hget] at hx
    by_cases e : i = H.next
    · rw [if_pos e] at hx; simp at hx; subst hx; subst e
      exact ⟨fun _ => by simp [Ren.ext], b, o', by simp [Ren.ext], hw, ho⟩
    · rw [if_neg e] at hx
      obtain ⟨q1, y, oy, q2, q3, q4⟩ := hr.obj i x hx hxo
      have hs := hle i y q2
      refine ⟨fun hl => by rw [hs.ro]; exact q1 hl, y, oy, by rw [hs.b]; exact q2, q3, q4.mono hle ?_ ?_ ?_⟩
      · exact hs.cap
      · exact hs.off
      · exact hs.wd
  · intro i k' g n hx
    rw [hget] at hx
    by_cases e : i = H.next
    · rw [if_pos e] at hx; simp at hx; subst hx; simp [LO.own] at hown
    · rw [if_neg e] at hx
      obtain ⟨q1, q2⟩ := hr.arg i k' g n hx
      refine ⟨by simp [Ren.ext, e]; exact q1, q2.mono hle ?_⟩
      simp [Ren.ext, e]
def sls (i n : Nat) : Value := .slice (some ⟨i, 0, some 0⟩) n 18446744073709551616
theorem VR_sls {i n : Nat} {v : Value} (h : VR ρ (sl i n) v) : VR ρ (sls i n) v := by
  have e : ρ.at ⟨i, 0, some 0⟩ = ρ.at ⟨i, 0, none⟩ := by simp [Ren.at]
  simp only [sl, sls, VR] at h ⊢
  rw [e]; exact h
theorem calls_new {f : FuncId} {args0 args' : List Value} {os : List (Option LO)} {ρ1 : Ren} {r N : Nat} {k' : Nat} {g' : Nat → Nat → Value} {t : TypeId}
    (h : LCalls P f args0 (mkH os) (fun u K => u = sl r N ∧ K.get r = some (.fn k' g' N t) ∧ K.lock = 0)) (ha : VRL ρ1 args0 args') (hr1 : Rep ρ1 (mkH os) w) (hro : ∀ i, ρ1.ro i = true)
    (hr : Rep ρ H w) (hn : H.next + 1 < big) :
    Calls P f ⟨args'⟩ w (fun e w' => ∃ ρ' v v' H', e = .returned v' ∧ (v = sl H.next N ∧ H' = H.new (.fn k' g' N t)) ∧ Ren.le ρ ρ' ∧ Fresh ρ ρ' w ∧ VR ρ' v v' ∧ Rep ρ' H' w' ∧ Keep ρ w w') := by
  refine (h ρ1 args' w ha hr1).mono ?_
  rintro e w' ⟨ρ2, u, u', K, rfl, ⟨rfl, hK, hlk⟩, h1, h2, h3, h4, h5⟩
  have hbel : Below w.heap.size w w' := ⟨h5.os, h5.tape, h5.output, h5.size, fun k hk => h5.block k hk (fun i _ => hro i)⟩
  obtain ⟨q1, b, o', q2, q3, q4⟩ := h4.obj r _ hK rfl
  have hro2 : ρ2.ro r = false := q1 (by rw [hlk]; exact Nat.zero_le _)
  have hbnew : w.heap.size ≤ b := by
    rcases h2 r b q2 with h6 | ⟨j, _, h6⟩
    · exact h6
    · have := h6 hro2; rw [hro j] at this; cases this
  have hrB := hr.below hbel
  have hnone : ∀ i, ρ i ≠ some b := fun i e => by have := (hr.dom i b e).2; omega
  obtain ⟨z1, z2, c', d', z3, z4, z5, z6⟩ := q4
  have hOR : OR (ρ.ext H.next b (ρ2.cap r) k') H.next (.fn k' g' N t) o' := by
    refine ⟨by simp [Ren.ext], by simp [Ren.ext], c', d', z3, z4, by simp [Ren.ext]; exact z5, z6.any⟩
  have hRep := hrB.extNew (k := ρ2.cap r) (wd := k') hn rfl (h4.dom r b q2).2 hnone q3 hOR (by
    cases hf : fixed b with
    | none => rfl
    | some o => have := hr.fix.lt hf; omega)
  refine ⟨ρ.ext H.next b (ρ2.cap r) k', sl H.next N, u', _, rfl, ⟨rfl, rfl⟩, hr.ext_le _ _ _, fun i x hx => ?_, ?_, hRep, Below.toKeep hbel⟩
  · simp only [Ren.ext] at hx
    split at hx
    · simp at hx; subst hx; exact .inl hbnew
    · rename_i e; exact .inr ⟨i, hx, by simp [Ren.ext, e]⟩
  · simp only [sl, VR] at h3 ⊢
    obtain ⟨a', c2, rfl, y1, y2, y3⟩ := h3
    refine ⟨a', c2, rfl, y1, y2, fun hN => ?_⟩
    obtain ⟨b', x1, x2, x3⟩ := y3 hN
    have hbb : b' = b := by
      have x1' : ρ2 r = some b' := x1
      rw [q2] at x1'; simp at x1'; exact x1'.symm
    subst hbb
    refine ⟨b', by simp [Ren.ext], ?_, ?_⟩
    · rw [x2]; simp [Ren.at, Ren.ext, z1]
    · intro hc _
      have := x3 hc (by simp [Ren.at, z1])
      simpa [Ren.ext] using this
end
section
variable {P : Program} {Q : Value → Heap → Prop} {f : FuncId} {args : List Value}
theorem Rep.argEq {ρ : Ren} {w : World} {k n : Nat} {g g' : Nat → Nat → Value} (he : ∀ e j, e < n → j < k → g e j = g' e j) (hr : Rep ρ (mkH [some (.arg k g n)]) w) : Rep ρ (mkH [some (.arg k g' n)]) w := by
  have hget : ∀ (g : Nat → Nat → Value) i, (mkH [some (.arg k g n)]).get i = if i = 0 then some (.arg k g n) else none := by
    intro g i
    rw [mkH_get _ (by simp [big])]
    rcases i with _ | i
    · simp
    · simp
  refine ⟨hr.small, hr.dom, fun i j b o hi ho => ?_, fun i o ho => ?_, fun i o ho hown => ?_, fun i k2 g2 n2 ho => ?_, hr.fix⟩
  · rw [hget] at hi; split at hi
    · simp only [Option.some.injEq] at hi; subst hi; simp [LO.own] at ho
    · cases hi
  · rw [hget] at ho; split at ho
    · rename_i e; subst e; show 0 < 1; omega
    · cases ho
  · rw [hget] at ho; split at ho
    · simp only [Option.some.injEq] at ho; subst ho; simp [LO.own] at hown
    · cases ho
  · rw [hget] at ho; split at ho
    · rename_i e; subst e
      simp only [Option.some.injEq, LO.arg.injEq] at ho
      obtain ⟨rfl, rfl, rfl⟩ := ho
      obtain ⟨h1, h2⟩ := hr.arg 0 k g n (by rw [hget]; rfl)
      refine ⟨h1, h2.wd, fun e j h3 h4 => ?_⟩
      rw [← he e j h3 h4]; exact h2.cell e j h3 h4
    · cases ho
theorem LCalls.argEq {k n : Nat} {g g' : Nat → Nat → Value} (he : ∀ e j, e < n → j < k → g e j = g' e j) (h : LCalls P f args (mkH [some (.arg k g' n)]) Q) : LCalls P f args (mkH [some (.arg k g n)]) Q :=
  fun ρ args' w ha hr => h ρ args' w ha (hr.argEq he)
theorem weak_mkH {os os' : List (Option LO)} (h : Each2 OLeq os os') (hl : os.length < big) : WeakH (mkH os) (mkH os') := by
  have hlen := h.length
  refine ⟨hlen.symm, rfl, fun i o ho => ?_⟩
  rw [mkH_get _ (by omega)] at ho
  rw [mkH_get _ hl]
  rcases Nat.lt_or_ge i os.length with hi | hi
  · rw [List.getElem?_eq_getElem (by omega)] at ho
    have := h.get i _ _ (List.getElem?_eq_getElem hi) (List.getElem?_eq_getElem (by omega))
    rw [List.getElem?_eq_getElem hi]
    simp only [Option.getD_some] at ho ⊢
    rw [ho] at this
    cases hx : os[i] with
    | none => rw [hx] at this; exact this.elim
    | some x => rw [hx] at this; exact ⟨x, rfl, .inr this⟩
  · rw [List.getElem?_eq_none (by omega)] at ho; cases ho
end
end Go.Ly
namespace Go.Ly
open Go.RowKit
section
variable {P : Program} {E : Env} {ρ : Ren} {H : Heap} {w : World}
end
end Go.Ly
namespace Go.Ly
section
variable {P : Program}
theorem Rep.grow {ρ : Ren} {H : Heap} {w : World} {n : Nat} (h : H.next ≤ n) (hb : n < big) (hr : Rep ρ H w) : Rep ρ { H with next := n } w :=
  ⟨hb, fun i b e => ⟨Nat.lt_of_lt_of_le (hr.dom i b e).1 h, (hr.dom i b e).2⟩, hr.inj, fun i o e => Nat.lt_of_lt_of_le (hr.ltn i o e) h, hr.obj, hr.arg, hr.fix⟩
theorem Ends.grow {f : FuncId} {args : List Value} {os : List (Option LO)} {I : List Nat} {v : Value} {nx : Nat} {os' : List (Option LO)} (h : Ends P f args os I v nx os') {n : Nat} (hn : nx ≤ n) (hb : n < big) : Ends P f args os I v n os' := by
  intro ρ args' w ha hr
  refine (h ρ args' w ha hr).mono ?_
  rintro e w' ⟨ρ', u, u', H', rfl, ⟨rfl, h1, h2, h3⟩, h4, h5, h6, h7, h8⟩
  exact ⟨ρ', u, u', { H' with next := n }, rfl, ⟨rfl, rfl, h2, h3⟩, h4, h5, h6, h7.grow (by omega) hb, h8⟩
end
end Go.Ly
namespace Go.Ly
open Go.RowKit
section
variable {P : Program} {C : Ctx} {Q : Value → Heap → Prop}
end
section
variable {P : Program} {C : Ctx} {Q : Value → Heap → Prop}
end
def opVal (E : Env) (S : St) : Option Value :=
  match S.top.k with
  | .ops all (o :: l) :: k =>
    bif guardB all S.top.t S.top.fn.ntmps o && dstOk S.top.fn.ntmps o.dst then
      (match evOp E S.H S.top.t o with
      | .val v => some v
      | _ => none)
    else none
  | _ => none
theorem MWp.val {P : Program} {E : Env} {Q : Value → Heap → Prop} (hE : E.Ok P) {S : St} {v : Value} (h : opVal E S = some v) (hs : MWp P (behind S v S.H) Q) : MWp P S Q := by
  unfold opVal at h
  split at h
  · rename_i all o l k hk
    cases hc : (guardB all S.top.t S.top.fn.ntmps o && dstOk S.top.fn.ntmps o.dst) with
    | false => rw [hc] at h; cases h
    | true =>
      rw [hc] at h; simp only [cond_true] at h
      simp only [Bool.and_eq_true] at hc
      intro ρ w g gs R hr hf hfs hR
      unfold stateWp
      rw [hf.k, hk]
      show wpList P all _ (o :: l) g.a w
      unfold wpList
      rw [guardB_wanted P hf hc.1, if_pos rfl]
      left
      have hgood := evOp_good hE hr hf.t o
      cases he : evOp E S.H S.top.t o with
      | val u =>
        rw [he] at h hgood
        simp only [Option.some.injEq] at h
        subst h
        obtain ⟨v', hv, hrun⟩ := hgood
        unfold Oper.wp; rw [hrun]
        simp only [Oper.upon]
        refine putFr_sound (S := S) (Q := Q) (v := u) (H' := S.H) (k := .ops all l :: k) (dst := o.dst) ?_ hf hfs (Ren.le_refl ρ) (Fresh.refl ρ w) hr (Keep.refl ρ w) hv hR
        unfold putFr
        rw [hc.2]
        unfold behind at hs
        rw [hk] at hs
        exact hs
      | _ => rw [he] at h; cases h
  · cases h
section
variable {P : Program} {Q : Value → Heap → Prop}
end
end Go.Ly
namespace Go.Proofs.Ytdjmpilegommlaa
open Go Go.Ly Go.RowKit
def inw (a : Int) : Bool := decide (0 ≤ a) && decide (a ≤ 65535)
theorem inw_iff (a : Int) : inw a = true ↔ 0 ≤ a ∧ a ≤ 65535 := by unfold inw; rw [Bool.and_eq_true, decide_eq_true_eq, decide_eq_true_eq]
def cx0 : Ctx := xctx.with 20 sizeC
theorem cx0_ok : cx0.Ok Try.prog := xok.with size20_ans
def haltAt (C : Ctx) (f : Nat) : Ctx := C.withH f (fun _ _ => .no)
theorem haltAt_ok {C : Ctx} (h : C.Ok Try.prog) (f : Nat) : (haltAt C f).Ok Try.prog := h.withH (fun _ _ => trivial)
structure Mc where
  r0 : Int
  r1 : Int
  r2 : Int
  r3 : Int
  r4 : Int
  r5 : Int
  r7 : Int
  fs : Bool
  fz : Bool
  fx : Bool
  fp : Bool
  fc : Bool
  sp : Int
  pc : Int
  ie : Bool
  halt : Bool
def cellsP (m : Mc) (i o : Value) : List Value := [.int .u8 m.r0, .int .u8 m.r1, .int .u8 m.r2, .int .u8 m.r3, .int .u8 m.r4, .int .u8 m.r5, .int .u8 0, .int .u8 m.r7, .bool m.fs, .bool m.fz, .bool m.fx, .bool m.fp, .bool m.fc, .int .u16 m.sp, .int .u16 m.pc, .bool m.ie, .bool m.halt, i, o, sl 1 65536]
def memL (f : Nat → Int) : LO := .fn 1 (fun e _ => .int .u8 (f e)) 65536 5
def ptr (i : Nat) : Value := .pointer (some ⟨i, 0, none⟩)
def hP (m : Mc) (g : Nat → Int) : List (Option LO) := [some (.cells (cellsP m (tokV 17) (tokV 18)) 53), some (memL g)]
def at1 (pc : Int) (k : Int) : Nat := 0 + (IntKind.u16.wrap (pc + k)).toNat * 1
def B8 (n : Int) : Prop := 0 ≤ n ∧ n ≤ 255
def B16 (n : Int) : Prop := 0 ≤ n ∧ n ≤ 65535
structure Mc.Ok (m : Mc) : Prop where
  r0 : B8 m.r0
  r1 : B8 m.r1
  r2 : B8 m.r2
  r3 : B8 m.r3
  r4 : B8 m.r4
  r5 : B8 m.r5
  r7 : B8 m.r7
  sp : B16 m.sp
  pc : B16 m.pc
theorem wrap16 (n : Int) : B16 (IntKind.u16.wrap n) := by unfold B16; rw [IntKind.wrap_u16]; omega
theorem inw_of {n : Int} (h : B16 n) : inw n = true := (inw_iff n).2 h
theorem inb_of {n : Int} (h : B8 n) : inb n = true := (inb_iff n).2 h
theorem idx_of {n : Int} (h : B16 n) : (decide (0 ≤ n) && decide (n < 65536)) = true := by unfold B16 at h; simp; omega
theorem blt_of {n : Int} (h : B16 n) : Nat.blt (0 + n.toNat * 1) 65536 = true := by unfold B16 at h; rw [Nat.blt_eq]; omega
def w16 (n : Int) : Int := IntKind.u16.wrap n
def w8 (n : Int) : Int := IntKind.u8.wrap n
def or16 (a b : Int) : Int := bits .or .u16 a b
def and16 (a b : Int) : Int := bits .and .u16 a b
def xor8 (a b : Int) : Int := bits .xor .u8 a b
def and8 (a b : Int) : Int := bits .and .u8 a b
def or8 (a b : Int) : Int := bits .or .u8 a b
def ix (n : Int) : Nat := 0 + n.toNat * 1
def rg (n : Int) : Bool := decide (0 ≤ n) && decide (n < 65536)
def lt16 (n : Int) : Bool := decide (n < 65536)
def bl (n : Nat) : Bool := Nat.blt n 65536
def T (l : List Bool) : List (Bool × Bool) := l.map fun b => (b, true)
theorem B8.w {n : Int} (h : B8 n) : B16 n := ⟨h.1, by have := h.2; omega⟩
theorem w16e (n : Int) : w16 n = n % 65536 := IntKind.wrap_u16 n
theorem w8e (n : Int) : w8 n = n % 256 := IntKind.wrap_u8 n
@[simp] theorem b8w8 (n : Int) : B8 (w8 n) := by unfold B8; rw [w8e]; omega
@[simp] theorem b16w16 (n : Int) : B16 (w16 n) := by unfold B16; rw [w16e]; omega
@[simp] theorem b8mod (n : Int) : B8 (n % 256) := by unfold B8; omega
theorem bitsNat (op : BinOp) (k : IntKind) (a b : Int) : ∃ n : Int, bits op k a b = k.wrap n := by
  unfold bits; exact ⟨_, rfl⟩
@[simp] theorem b16or (a b : Int) : B16 (or16 a b) := by
  obtain ⟨n, h⟩ := bitsNat .or .u16 a b; unfold or16; rw [h]; exact b16w16 n
@[simp] theorem b8xor (a b : Int) : B8 (xor8 a b) := by
  obtain ⟨n, h⟩ := bitsNat .xor .u8 a b; unfold xor8; rw [h]; exact b8w8 n
@[simp] theorem b8and (a b : Int) : B8 (and8 a b) := by
  obtain ⟨n, h⟩ := bitsNat .and .u8 a b; unfold and8; rw [h]; exact b8w8 n
@[simp] theorem b8or (a b : Int) : B8 (or8 a b) := by
  obtain ⟨n, h⟩ := bitsNat .or .u8 a b; unfold or8; rw [h]; exact b8w8 n
@[simp] theorem b16pair {h l : Int} (hh : B8 h) (hl : B8 l) : B16 (256 * h + l) := by unfold B8 at hh hl; unfold B16; omega
@[simp] theorem b16_0 : B16 0 := by unfold B16; omega
@[simp] theorem b16_8 : B16 8 := by unfold B16; omega
@[simp] theorem b16_16 : B16 16 := by unfold B16; omega
@[simp] theorem b16_24 : B16 24 := by unfold B16; omega
@[simp] theorem b16_32 : B16 32 := by unfold B16; omega
@[simp] theorem b16_40 : B16 40 := by unfold B16; omega
@[simp] theorem b16_48 : B16 48 := by unfold B16; omega
@[simp] theorem b16_56 : B16 56 := by unfold B16; omega
@[simp] theorem b16of {n : Int} (h : B8 n) : B16 n := h.w
@[simp] theorem w16id {n : Int} (h : B16 n) : w16 n = n := by unfold B16 at h; rw [w16e]; omega
@[simp] theorem w8id {n : Int} (h : B8 n) : w8 n = n := by unfold B8 at h; rw [w8e]; omega
@[simp] theorem sh8 {n : Int} (h : B8 n) : w16 (n * 256) = 256 * n := by unfold B8 at h; rw [w16e]; omega
theorem or_add (h l : Nat) (hh : h < 256) (hl : l < 256) : (256 * h) ||| l = 256 * h + l := by
  have := Nat.two_pow_add_eq_or_of_lt (i := 8) (b := l) (by omega) h
  simpa using this.symm
@[simp] theorem orhl {h l : Int} (hh : B8 h) (hl : B8 l) : or16 (256 * h) l = 256 * h + l := by
  unfold B8 at hh hl
  obtain ⟨h', rfl⟩ := Int.eq_ofNat_of_zero_le hh.1
  obtain ⟨l', rfl⟩ := Int.eq_ofNat_of_zero_le hl.1
  show IntKind.u16.wrap ((BitVec.ofInt 16 (256 * (h' : Int)) ||| BitVec.ofInt 16 (l' : Int)).toNat : Nat) = _
  have e1 : (BitVec.ofInt 16 (256 * (h' : Int))).toNat = 256 * h' := by rw [BitVec.toNat_ofInt]; omega
  have e2 : (BitVec.ofInt 16 (l' : Int)).toNat = l' := by rw [BitVec.toNat_ofInt]; omega
  rw [BitVec.toNat_or, e1, e2, or_add h' l' (by omega) (by omega), IntKind.wrap_u16]; omega
@[simp] theorem orlh {h l : Int} (hh : B8 h) (hl : B8 l) : or16 l (256 * h) = 256 * h + l := by
  have : or16 l (256 * h) = or16 (256 * h) l := by
    show IntKind.u16.wrap ((BitVec.ofInt 16 l ||| BitVec.ofInt 16 (256 * h)).toNat : Nat) = IntKind.u16.wrap ((BitVec.ofInt 16 (256 * h) ||| BitVec.ofInt 16 l).toNat : Nat)
    rw [BitVec.or_comm]
  rw [this, orhl hh hl]
@[simp] theorem or0 {n : Int} (h : B8 n) : or16 0 n = n := by
  have := orhl (h := 0) (l := n) (by unfold B8; omega) h
  simpa using this
@[simp] theorem rdw {a b : Int} (ha : B8 a) (hb : B8 b) : w16 (a + 256 * b) = 256 * b + a := by unfold B8 at ha hb; rw [w16e]; omega
@[simp] theorem and255u (n : Int) : w8 (and16 n 255) = w8 n := by
  show IntKind.u8.wrap (IntKind.u16.wrap ((BitVec.ofInt 16 n &&& BitVec.ofInt 16 255).toNat : Nat)) = IntKind.u8.wrap n
  have h1 : (BitVec.ofInt 16 255).toNat = 2 ^ 8 - 1 := by decide
  have key : (BitVec.ofInt 16 n &&& BitVec.ofInt 16 255).toNat = (n % ((2 ^ 16 : Nat) : Int)).toNat % 2 ^ 8 := by
    rw [BitVec.toNat_and, BitVec.toNat_ofInt, h1, Nat.and_two_pow_sub_one_eq_mod]
  rw [key, IntKind.wrap_u8, IntKind.wrap_u8, IntKind.wrap_u16]; omega
@[simp] theorem addneg1 (n : Int) : n + -1 = n - 1 := rfl
@[simp] theorem b8_0 : B8 0 := by unfold B8; omega
@[simp] theorem b8_255 : B8 255 := by unfold B8; omega
@[simp] theorem b8rrc {n : Int} (h : B8 n) : B8 (n / 2 + n % 2 * 128) := by unfold B8 at h ⊢; omega
@[simp] theorem b8rar {n : Int} (h : B8 n) (b : Bool) : B8 (n / 2 + 128 * cI b) := by unfold B8 at h ⊢; cases b <;> simp [cI] <;> omega
@[simp] theorem addneg2 (n : Int) : n + -2 = n - 2 := rfl
@[simp] theorem back2 {n : Int} (h : B16 n) : w16 (w16 (n + 2) - 2) = n := by unfold B16 at h; rw [w16e, w16e]; omega
@[simp] theorem xnot {n : Int} (h : B8 n) : xor8 255 n = w8 (255 - n) := by
  rw [w8e]
  have := not8 n h.1 h.2
  unfold xor8
  rw [show bits BinOp.xor IntKind.u8 255 n = 255 - n from this]
  unfold B8 at h; omega
@[simp] theorem rgt {n : Int} (h : B16 n) : rg n = true := idx_of h
@[simp] theorem lt16t {n : Int} (h : B16 n) : lt16 n = true := by unfold B16 at h; unfold lt16; simp; omega
@[simp] theorem blt' {n : Int} (h : B16 n) : bl (ix n) = true := blt_of h
@[simp] theorem inbt {n : Int} (h : B8 n) : inb n = true := inb_of h
@[simp] theorem inwt {n : Int} (h : B16 n) : inw n = true := inw_of h
@[simp] theorem Tnil : trusted (T []) = True := rfl
@[simp] theorem Tcons (b : Bool) (l : List Bool) : trusted (T (b :: l)) = (b = true ∧ trusted (T l)) := rfl
@[simp] theorem trnil : trusted [] = True := rfl
@[simp] theorem trcons (b d : Bool) (l : List (Bool × Bool)) : trusted ((b, d) :: l) = (b = d ∧ trusted l) := rfl
@[simp] theorem ixne {n : Int} (h : B16 n) : ix (w16 (n + 1)) ≠ ix n := by unfold B16 at h; unfold ix; rw [w16e]; omega
theorem cIb (b : Bool) : 0 ≤ cI b ∧ cI b ≤ 1 := by cases b <;> simp [cI]
@[simp] theorem b8psw (a b c d e : Bool) : B8 (128 * cI a + 64 * cI b + 16 * cI c + 4 * cI d + 2 + cI e) := by
  have := cIb a; have := cIb b; have := cIb c; have := cIb d; have := cIb e
  unfold B8; omega
@[simp] theorem at1_ix (n k : Int) : at1 n k = ix (w16 (n + k)) := rfl
@[simp] theorem cIt : cI true = 1 := rfl
@[simp] theorem cIf : cI false = 0 := rfl
end Go.Proofs.Ytdjmpilegommlaa
namespace Go.Ly
open Go.RowKit
section
variable {P : Program} {ρ : Ren} {H : Heap} {w w' : World}
def rowsC (k : Nat) (mk : Nat → (Nat → Nat → Value) → List Value → Bool × Value) (H : Heap) (args : List Value) : ER :=
  match args with
  | x :: rest =>
    match srcR H k x with
    | some (g1, u) => .tst (g1 && (u.csts && (plainL rest && (mk u.n (u.fun k) rest).1))) (.val (mk u.n (u.fun k) rest).2) .no
    | none => .no
  | _ => .no
theorem rowsC_good {k : Nat} {f : FuncId} {mk : Nat → (Nat → Nat → Value) → List Value → Bool × Value} (hp : ∀ n G r, plain (mk n G r).2 = true)
    (hS : ∀ n G r, plainL r = true → (mk n G r).1 = true → LCalls P f (sls 0 n :: r) (mkH [some (.arg k G n)]) (fun u _ => u = (mk n G r).2))
    (hN : ∀ G r, plainL r = true → (mk 0 G r).1 = true → LCalls P f (.slice none 0 0 :: r) (mkH []) (fun u _ => u = (mk 0 G r).2))
    (args : List Value) (ρ : Ren) (args' : List Value) (w : World) (H : Heap) (ha : VRL ρ args args') (hr : Rep ρ H w) : ConGood P ρ f args' w (rowsC k mk H args) := by
  unfold rowsC
  haveI := hr.fix.w
  split
  · rename_i x rest
    simp only [VRL] at ha
    obtain ⟨x', r', hx, hr', rfl⟩ := ha
    cases h1 : srcR H k x with
    | none => exact trivial
    | some gu =>
      obtain ⟨g1, u⟩ := gu
      simp only
      refine ⟨fun hg => ?_, fun _ => trivial⟩
      simp only [Bool.and_eq_true] at hg
      obtain ⟨e1, e2, e3, e4⟩ := hg
      obtain rfl := plainL_eq e3 hr'
      refine ⟨_, plain_VR _ (hp _ _ _), ?_⟩
      rcases nil_or h1 with ⟨rfl, rfl⟩ | ⟨a, n, c, rfl⟩
      · simp only [VR] at hx; subst hx
        exact calls_ro (ρ := rowsRen []) (hN _ r' e3 e4) (hp _ _ _) (by simp only [VRL]; exact ⟨_, _, by simp [VR], plainL_VR _ e3, rfl⟩) (rows_rep (rs := []) rfl (by simp) (by simp) (by simp)) (fun _ => rfl)
      · obtain ⟨hun, p, hrow⟩ := view_rows hr hx h1 e1 e2
        rw [hun] at e4 ⊢
        refine calls_ro (ρ := rowsRenW [p] (fun _ => k)) (hS n (u.fun k) r' e3 e4) (hp _ _ _) (by simp only [VRL]; exact ⟨x', _, VR_sls (slW_VR hrow (by simp)), plainL_VR _ e3, rfl⟩)
            (rowsW_rep (l := [p]) (rs := [(k, u.fun k, n)]) rfl (by simp) (by
              intro i q hq
              rcases i with _ | i
              · simp at hq; exact hrow.low q hq
              · simp at hq) (by
              intro i k2 g2 n2 h0
              rcases i with _ | i
              · simp at h0; obtain ⟨rfl, rfl, rfl⟩ := h0
                refine ⟨rfl, fun e j he hj => ⟨hrow.one e j he hj, ?_⟩⟩
                obtain ⟨q, h3, h4⟩ := hrow.cell e j he hj
                exact ⟨q, by simp [h3], h4⟩
              · simp at h0)) (fun _ => rfl)
  · exact trivial
theorem VR_sl_of {i n : Nat} {v : Value} (h : VR ρ (sls i n) v) : VR ρ (sl i n) v := by
  have e : ρ.at ⟨i, 0, some 0⟩ = ρ.at ⟨i, 0, none⟩ := by simp [Ren.at]
  simp only [sl, sls, VR] at h ⊢
  rw [← e]; exact h
theorem LCalls.unsp {f : FuncId} {args : List Value} {r N : Nat} {R : Heap → Prop} (h : LCalls P f args H (fun u K => u = sls r N ∧ R K)) : LCalls P f args H (fun u K => u = sl r N ∧ R K) := by
  intro ρ args' w ha hr
  refine (h ρ args' w ha hr).mono ?_
  rintro e w' ⟨ρ', v, v', H', rfl, ⟨rfl, h1⟩, h2, h3, h4, h5, h6⟩
  exact ⟨ρ', _, v', H', rfl, ⟨rfl, h1⟩, h2, h3, VR_sl_of h4, h5, h6⟩
def rowNewS (k : Nat) (mk : Nat → (Nat → Nat → Value) → Bool × (Nat → Nat → Value)) (k' : Nat) (t : TypeId) (H : Heap) (args : List Value) : ER :=
  match args with
  | [x] =>
    match srcR H k x with
    | some (g1, u) => bif Nat.beq H.lock 0 && Nat.blt (H.next + 1) 2147483000 then
        .tst (g1 && (u.csts && (mk u.n (u.fun k)).1)) (.tst (Nat.beq u.n 0) (.val (.slice none 0 0)) (.mem (sls H.next u.n) (H.new (.fn k' (mk u.n (u.fun k)).2 u.n t)))) .no else .no
    | none => .no
  | _ => .no
theorem rowNewS_good {k k' : Nat} {t : TypeId} {f : FuncId} {mk : Nat → (Nat → Nat → Value) → Bool × (Nat → Nat → Value)} (hp : 0 < k)
    (hS : ∀ n G, (mk n G).1 = true → n ≠ 0 → ∃ r, LCalls P f [sls 0 n] (mkH [some (.arg k G n)]) (fun u K => u = sls r n ∧ K.get r = some (.fn k' (mk n G).2 n t) ∧ K.lock = 0))
    (hZ : ∀ G, (mk 0 G).1 = true → LCalls P f [sls 0 0] (mkH [some (.arg k G 0)]) (fun u _ => u = .slice none 0 0))
    (hN : LCalls P f [.slice none 0 0] (mkH []) (fun u _ => u = .slice none 0 0))
    (H : Heap) (args : List Value) : HGood P f args H (rowNewS k mk k' t H args) := by
  unfold rowNewS
  split
  · rename_i x
    cases h1 : srcR H k x with
    | none => exact trivial
    | some gu =>
      obtain ⟨g1, u⟩ := gu
      simp only
      cases hb0 : (Nat.beq H.lock 0 && Nat.blt (H.next + 1) 2147483000) with
      | false => exact trivial
      | true =>
        rw [Bool.and_eq_true] at hb0
        have hb : H.next + 1 < big := by have := hb0.2; unfold big; simpa [Nat.blt_eq] using this
        refine ⟨fun hg => ⟨fun h0 => ?_, fun h0 => ?_⟩, fun _ => trivial⟩
        all_goals
          simp only [Bool.and_eq_true] at hg
          obtain ⟨e1, e2, e3⟩ := hg
          intro ρ args' w ha hr
          haveI := hr.fix.w
          simp only [VRL] at ha
          obtain ⟨x', _, hx, rfl, rfl⟩ := ha
        · have h0 := Nat.eq_of_beq_eq_true h0
          have fin : ∀ {a' : List Value}, Calls P f ⟨a'⟩ w (fun e w' => e = .returned (.slice none 0 0) ∧ Below w.heap.size w w') → Calls P f ⟨a'⟩ w (fun e w' => ∃ ρ' v v' H', e = .returned v' ∧ (v = .slice none 0 0 ∧ H' = H) ∧ Ren.le ρ ρ' ∧ Fresh ρ ρ' w ∧ VR ρ' v v' ∧ Rep ρ' H' w' ∧ Keep ρ w w') := by
            intro a' hc
            refine hc.mono ?_
            rintro e w' ⟨rfl, hbl⟩
            exact ⟨ρ, _, _, H, rfl, ⟨rfl, rfl⟩, Ren.le_refl _, Fresh.refl _ _, by simp [VR], hr.below hbl, Below.toKeep hbl⟩
          rcases nil_or h1 with ⟨rfl, rfl⟩ | ⟨a, n, c, rfl⟩
          · simp only [VR] at hx; subst hx
            exact fin (calls_ro (ρ := rowsRen []) hN (by simp [plain]) (by simp [VRL, VR]) (rows_rep (rs := []) rfl (by simp) (by simp) (by simp)) (fun _ => rfl))
          · obtain ⟨hun, p, hrow⟩ := view_rows hr hx h1 e1 e2
            have hn : n = 0 := by omega
            subst hn
            rw [hun] at e3
            refine fin (calls_ro (ρ := rowsRenW [p] (fun _ => k)) (hZ _ e3) (by simp [plain]) (by simp only [VRL]; exact ⟨x', [], VR_sls (slW_VR hrow (by simp)), rfl, rfl⟩)
              (rowsW_rep (l := [p]) (rs := [(k, u.fun k, 0)]) rfl (by simp) (by
                intro i q hq
                rcases i with _ | i
                · simp at hq; exact hrow.low q hq
                · simp at hq) (by
                intro i k2 g2 n2 h0
                rcases i with _ | i
                · simp at h0; obtain ⟨rfl, rfl, rfl⟩ := h0
                  exact ⟨rfl, fun e j he hj => by omega⟩
                · simp at h0)) (fun _ => rfl))
        · have h0 : u.n ≠ 0 := fun e => by rw [e] at h0; cases h0
          rcases nil_or h1 with ⟨rfl, rfl⟩ | ⟨a, n, c, rfl⟩
          · exact absurd rfl h0
          · obtain ⟨hun, p, hrow⟩ := view_rows hr hx h1 e1 e2
            rw [hun] at e3 h0 ⊢
            obtain ⟨r, hL⟩ := hS n _ e3 h0
            refine (calls_new (ρ1 := rowsRenW [p] (fun _ => k)) hL.unsp (by simp only [VRL]; exact ⟨x', [], VR_sls (slW_VR hrow (by simp)), rfl, rfl⟩)
              (rowsW_rep (l := [p]) (rs := [(k, u.fun k, n)]) rfl (by simp) (by
                intro i q hq
                rcases i with _ | i
                · simp at hq; exact hrow.low q hq
                · simp at hq) (by
                intro i k2 g2 n2 h0
                rcases i with _ | i
                · simp at h0; obtain ⟨rfl, rfl, rfl⟩ := h0
                  refine ⟨rfl, fun e j he hj => ⟨hrow.one e j he hj, ?_⟩⟩
                  obtain ⟨q, h3, h4⟩ := hrow.cell e j he hj
                  exact ⟨q, by simp [h3], h4⟩
                · simp at h0)) (fun _ => rfl) hr hb).mono ?_
            rintro e w' ⟨ρ', v, v', H', rfl, ⟨rfl, rfl⟩, q1, q2, q3, q4, q5⟩
            exact ⟨ρ', _, v', _, rfl, ⟨rfl, rfl⟩, q1, q2, VR_sls q3, q4, q5⟩
  · exact trivial
end
end Go.Ly
namespace Go.Proofs.Ytdjmpilegommlaa
open Go Go.Ly Go.RowKit
def ndG (a o n : Nat → Int) : Nat → Nat → Value := fun e j => ([Value.int .u16 (a e), .int .u8 (o e), .int .u16 (n e)][j]?).getD undef
def ndL (a o n : Nat → Int) (k : Nat) : LO := .arg 3 (ndG a o n) k
def ndF (a o n : Nat → Int) (k : Nat) : LO := .fn 3 (ndG a o n) k 64
theorem ndG_noBlk (a o n : Nat → Int) (e j : Nat) : noBlk (ndG a o n e j) := by
  unfold ndG
  rcases j with _ | _ | _ | j <;> simp [noBlk, blks, blksL, undef]
theorem plain_ndL (a o n : Nat → Int) (k : Nat) : plainO (ndL a o n k) := fun e j => ndG_noBlk a o n e j
def ixB (n : Nat) (e : Int) : Bool := decide (0 ≤ e) && decide (e < n)
def okN (n : Nat) (G : Nat → Nat → Value) : Bool := Nat.ble n 4294967000 && (List.range n).all fun e => isK .u16 (G e 0) && (isK .u8 (G e 1) && isK .u16 (G e 2))
def aOf (G : Nat → Nat → Value) : Nat → Int := fun e => intV (G e 0)
def oOf (G : Nat → Nat → Value) : Nat → Int := fun e => intV (G e 1)
def nOf (G : Nat → Nat → Value) : Nat → Int := fun e => intV (G e 2)
theorem okN_eq {n : Nat} {G : Nat → Nat → Value} (h : okN n G = true) : n ≤ 4294967000 ∧ ∀ e j, e < n → j < 3 → G e j = ndG (aOf G) (oOf G) (nOf G) e j := by
  simp only [okN, Bool.and_eq_true, List.all_eq_true, List.mem_range] at h
  refine ⟨Nat.le_of_ble_eq_true h.1, fun e j he hj => ?_⟩
  obtain ⟨k1, k2, k3⟩ := h.2 e he
  have : j = 0 ∨ j = 1 ∨ j = 2 := by omega
  rcases this with rfl | rfl | rfl
  · exact isK_eq k1
  · exact isK_eq k2
  · exact isK_eq k3
@[simp] theorem aOf_nd (a o n : Nat → Int) : aOf (ndG a o n) = a := rfl
@[simp] theorem oOf_nd (a o n : Nat → Int) : oOf (ndG a o n) = o := rfl
@[simp] theorem nOf_nd (a o n : Nat → Int) : nOf (ndG a o n) = n := rfl
theorem okN_nd {k : Nat} (a o n : Nat → Int) (hk : k ≤ 4294967000) : okN k (ndG a o n) = true := by
  simp only [okN, Bool.and_eq_true, List.all_eq_true, List.mem_range]
  exact ⟨by rw [Nat.ble_eq]; exact hk, fun e _ => ⟨rfl, rfl, rfl⟩⟩
def ixF (a : Nat → Int) (x : Int) : Nat → Nat → Int
  | 0, _ => -1
  | d + 1, i => bif a i == x then (i : Int) else ixF a x d (i + 1)
def atN (n : Nat) (a : Nat → Int) (x : Int) : Int := ixF a x n 0
end Go.Proofs.Ytdjmpilegommlaa
namespace Go.Proofs.Ytdjmpilegommlaa
open Go Go.Ly Go.RowKit
def fcV (p : Nat) : Value := .func (.func 83) ⟨[]⟩ ⟨[ptr p]⟩
def ifH (a o n : Nat → Int) (k : Nat) (x : Int) : List (Option LO) := [some (ndL a o n k), some (.cells [.int .u16 x] 37)]
def ifD : St := Ly.start Try.f82 [] H0
def ifK : List KI := ((Ly.run env.bare 13 [] (Ly.start Try.f82 [sls 0 0, fcV 1] (mkH (ifH (fun _ => 0) (fun _ => 0) (fun _ => 0) 0 0)))).st ifD).top.k
def ifV (k : Nat) (i : Int) : List Value := slots 19 [(0, sls 0 k), (1, fcV 1), (7, .int .i64 k), (8, .int .i64 i)]
theorem ifG : env.bare.fn.get 82 = some Try.f82 := by kernel_rfl
theorem if_0 (a o n : Nat → Int) (k : Nat) (x : Int) : headAt [0, 1, 7, 8] [0, 1] ifD (Ly.run env.bare 13 [] (Ly.start Try.f82 [sls 0 k, fcV 1] (mkH (ifH a o n k x)))) = (true, [], true, (Try.f82, ifK, none, 2), ifV k 0, ifH a o n k x) := by kernel_rfl
theorem if_I (dd : Option Tmp) (a o n : Nat → Int) (k : Nat) (x i : Int) : headAt [0, 1, 7, 8] [0, 1] ifD (Ly.run env.bare 45 [(0, true), (0, true), (0, true), (0, false)] (mkSt Try.f82 ifK dd 2 (ifV k i) (ifH a o n k x))) = (true, [(decide (i < k), true), (ixB k i, true), (Nat.blt (0 + i.toNat) k, true), (a (0 + i.toNat) == x, false)], true, (Try.f82, ifK, some 16, 2), ifV k (IntKind.i64.wrap (i + 1)), ifH a o n k x) := by kernel_rfl
theorem if_F (dd : Option Tmp) (a o n : Nat → Int) (k : Nat) (x i : Int) : (Ly.run env.bare 200 [(0, true), (0, true), (0, true), (0, true)] (mkSt Try.f82 ifK dd 2 (ifV k i) (ifH a o n k x))).out? = some ([(decide (i < k), true), (ixB k i, true), (Nat.blt (0 + i.toNat) k, true), (a (0 + i.toNat) == x, true)], .int .i64 i) := by kernel_rfl
theorem if_T (dd : Option Tmp) (a o n : Nat → Int) (k : Nat) (x i : Int) : (Ly.run env.bare 200 [(0, false)] (mkSt Try.f82 ifK dd 2 (ifV k i) (ifH a o n k x))).out? = some ([(decide (i < k), false)], .int .i64 (-1)) := by kernel_rfl
theorem if_P (a o n : Nat → Int) (k : Nat) (x : Int) : ∀ y ∈ ifH a o n k x, ∀ z, y = some z → plainO z := by
  intro y hy z hz
  simp only [ifH, List.mem_cons, List.not_mem_nil, or_false] at hy
  rcases hy with rfl | rfl <;> (simp only [Option.some.injEq] at hz; subst hz)
  · exact plain_ndL _ _ _ _
  · trivial
theorem ix_tests {k i : Nat} (h : i < k) : decide ((i : Int) < k) = true ∧ ixB k (i : Int) = true ∧ 0 + (i : Int).toNat = i ∧ Nat.blt i k = true := by
  refine ⟨by simpa using h, by simp [ixB]; omega, by omega, by rw [Nat.blt_eq]; exact h⟩
theorem if_loop (a o n : Nat → Int) (k : Nat) (x : Int) (hk : k ≤ 4294967000) : ∀ (d i : Nat) (dd : Option Tmp), i + d = k → MWp Try.prog (mkSt Try.f82 ifK dd 2 (ifV k i) (ifH a o n k x)) (fun v _ => v = .int .i64 (ixF a x d i))
  | 0, i, dd, hd => by
    refine MWp.out (Env.bare_ok envOk) 200 _ (if_T dd a o n k x i) (by simp [trusted]; omega) (fun _ => rfl)
  | d + 1, i, dd, hd => by
    obtain ⟨h1, h2, h3, h4⟩ := ix_tests (show i < k by omega)
    cases hx : (a i == x) with
    | true =>
      refine MWp.out (Env.bare_ok envOk) 200 _ (if_F dd a o n k x i) (by rw [h3]; simp only [trusted, h1, h2, h4, hx, and_self]) (fun _ => ?_)
      simp only [ixF, hx, cond_true]
    | false =>
      refine MWp.head (Env.bare_ok envOk) _ _ _ _ (if_I dd a o n k x i) (by rw [h3]; simp only [trusted, h1, h2, h4, hx, and_self]) (if_P a o n k x) ?_
      have hw : IntKind.i64.wrap ((i : Int) + 1) = ((i + 1 : Nat) : Int) := by rw [IntKind.wrap_i64]; omega
      rw [hw]
      simp only [ixF, hx, cond_false]
      exact if_loop a o n k x hk d (i + 1) _ (by omega)
theorem if_calls (a o n : Nat → Int) (k : Nat) (x : Int) (hk : k ≤ 4294967000) : LCalls Try.prog 82 [sls 0 k, fcV 1] (mkH (ifH a o n k x)) (fun v _ => v = .int .i64 (atN k a x)) := by
  refine LCalls_of (Env.bare_ok envOk) ifG (by kernel_rfl) ?_
  exact MWp.head (Env.bare_ok envOk) _ _ _ _ (if_0 a o n k x) trivial (if_P a o n k x) (if_loop a o n k x hk k 0 _ (by omega))
def owD : St := Ly.start Try.f15 [] H0
def owK : List KI := ((Ly.run env.bare 15 [] (Ly.start Try.f15 [sls 0 0] (mkH [some (ndL (fun _ => 0) (fun _ => 0) (fun _ => 0) 0)]))).st owD).top.k
def owV (k j : Nat) (i : Int) : List Value := slots 31 [(0, sls 0 k), (3, sls 1 j), (4, .int .i64 i)]
def owV0 (k : Nat) : List Value := slots 31 [(0, sls 0 k), (3, .slice none 0 0), (4, .int .i64 0)]
theorem owG : env.bare.fn.get 15 = some Try.f15 := by kernel_rfl
theorem ow_0 (a o n : Nat → Int) (k : Nat) : headAt [0, 3, 4] [0] owD (Ly.run env.bare 15 [] (Ly.start Try.f15 [sls 0 k] (mkH [some (ndL a o n k)]))) = (true, [], true, (Try.f15, owK, none, 1), owV0 k, [some (ndL a o n k)]) := by kernel_rfl
def rowV (a o n : Nat → Int) (e : Nat) : List Value := [.int .u16 (a e), .int .u8 (o e), .int .u16 (n e)]
theorem ow_A (a o n : Nat → Int) (k : Nat) : headAt [0, 3, 4] [0, 2] owD (Ly.run env.bare 20 [(0, true), (0, true), (0, true), (0, true), (0, true), (0, true), (0, true)] (mkSt Try.f15 owK none 1 (owV0 k) [some (ndL a o n k)])) = (true, [(decide ((0 : Int) < k), true), (ixB k 0, true), (Nat.blt 0 k, true), (ixB k 0, true), (Nat.blt 0 k, true), (ixB k 0, true), (Nat.blt 0 k, true)], true, (Try.f15, owK, none, 1), owV k 1 1, [some (ndL a o n k), some (.fn 3 (lstG 3 1 (rowV a o n 0)) 1 64)]) := by kernel_rfl
theorem ow_I (a o n : Nat → Int) (k j : Nat) (i : Int) : headAt [0, 3, 4] [0, 3] owD (Ly.run env.bare 20 [(0, true), (0, true), (0, true), (0, true), (0, true), (0, true), (0, true), (0, true)] (mkSt Try.f15 owK none 1 (owV k j i) [some (ndL a o n k), some (ndF a o n j)])) = (true, [(decide (i < k), true), (ixB k i, true), (Nat.blt (0 + i.toNat) k, true), (ixB k i, true), (Nat.blt (0 + i.toNat) k, true), (ixB k i, true), (Nat.blt (0 + i.toNat) k, true), (Nat.ble (0 + j) j && ((Nat.beq j j && true) && (Nat.ble 1 j && Nat.ble (j + 1) 4294967296)), true)], true, (Try.f15, owK, none, 1), owV k (j + 1) (IntKind.i64.wrap (i + 1)), [some (ndL a o n k), some (.fn 3 (joinG j (fun e x => ndG a o n (0 + e) x) (lstG 3 1 (rowV a o n (0 + i.toNat)))) (j + 1) 64)]) := by kernel_rfl
theorem ow_T (a o n : Nat → Int) (k j : Nat) (i : Int) : (Ly.run env.bare 200 [(0, false)] (mkSt Try.f15 owK none 1 (owV k j i) [some (ndL a o n k), some (ndF a o n j)])).end? = some ([(decide (i < k), false)], sls 1 j, mkH [some (ndL a o n k), some (ndF a o n j)]) := by kernel_rfl
theorem ow_N (a o n : Nat → Int) : (Ly.run env.bare 200 [] (Ly.start Try.f15 [.slice none 0 0] (mkH []))).out? = some ([], .slice none 0 0) := by kernel_rfl
theorem ow_P (a o n : Nat → Int) (k : Nat) : ∀ y ∈ [some (ndL a o n k)], ∀ z, y = some z → plainO z := by
  intro y hy z hz
  simp only [List.mem_cons, List.not_mem_nil, or_false] at hy
  subst hy; simp only [Option.some.injEq] at hz; subst hz; exact plain_ndL _ _ _ _
theorem lstG_noBlk (a o n : Nat → Int) (e i j : Nat) : noBlk (lstG 3 1 (rowV a o n e) i j) := by
  unfold rowV lstG
  rcases j with _ | _ | _ | j <;> simp [noBlk, blks, blksL, undef]
theorem ow_P2 (a o n : Nat → Int) (k m : Nat) (g : Nat → Nat → Value) (hg : ∀ e j, noBlk (g e j)) : ∀ y ∈ [some (ndL a o n k), some (.fn 3 g m 64)], ∀ z, y = some z → plainO z := by
  intro y hy z hz
  simp only [List.mem_cons, List.not_mem_nil, or_false] at hy
  rcases hy with rfl | rfl <;> (simp only [Option.some.injEq] at hz; subst hz)
  · exact plain_ndL _ _ _ _
  · exact hg
theorem joinG_noBlk {m : Nat} {g h : Nat → Nat → Value} (hg : ∀ e j, noBlk (g e j)) (hh : ∀ e j, noBlk (h e j)) (e j : Nat) : noBlk (joinG m g h e j) := by
  unfold joinG; rw [vif_eq]
  cases Nat.blt e m
  · exact hh _ _
  · exact hg _ _
theorem ow_eqA (a o n : Nat → Int) : LOeq (.fn 3 (lstG 3 1 (rowV a o n 0)) 1 64) (ndF a o n 1) := by
  refine .inr ⟨3, _, _, 1, 64, rfl, rfl, fun e j he hj => ?_⟩
  obtain rfl : e = 0 := by omega
  rfl
theorem ow_eqI (a o n : Nat → Int) (j : Nat) : LOeq (.fn 3 (joinG j (fun e x => ndG a o n (0 + e) x) (lstG 3 1 (rowV a o n j))) (j + 1) 64) (ndF a o n (j + 1)) := by
  refine .inr ⟨3, _, _, j + 1, 64, rfl, rfl, fun e x he hx => ?_⟩
  unfold joinG; rw [vif_eq]
  by_cases h : e < j
  · rw [show Nat.blt e j = true by rw [Nat.blt_eq]; exact h]
    simp only [cond_true, Nat.zero_add]
  · have : e = j := by omega
    subst this
    rw [show Nat.blt e e = false from Bool.eq_false_iff.2 fun h => by rw [Nat.blt_eq] at h; omega]
    rfl
theorem ow_loop (a o n : Nat → Int) (k : Nat) (hk : k ≤ 4294967000) : ∀ (d j : Nat), j + d = k → 1 ≤ j → MWp Try.prog (mkSt Try.f15 owK none 1 (owV k j j) [some (ndL a o n k), some (ndF a o n j)]) (fun v K => v = sls 1 k ∧ K.get 1 = some (ndF a o n k) ∧ K.lock = 0)
  | 0, j, hd, h1 => by
    obtain rfl : j = k := by omega
    refine MWp.done (Env.bare_ok envOk) 200 _ (ow_T a o n j j j) (by simp [trusted]) ⟨rfl, ?_, rfl⟩
    rw [mkH_get _ (by simp [big])]; rfl
  | d + 1, j, hd, h1 => by
    obtain ⟨i1, i2, i3, i4⟩ := ix_tests (show j < k by omega)
    refine MWp.head (Env.bare_ok envOk) _ _ _ _ (ow_I a o n k j j) (by
      rw [i3]
      have e1 : Nat.ble (0 + j) j = true := by rw [Nat.ble_eq]; omega
      have e2 : Nat.ble 1 j = true := by rw [Nat.ble_eq]; omega
      have e3 : Nat.ble (j + 1) 4294967296 = true := by rw [Nat.ble_eq]; omega
      simp only [trusted, i1, i2, i4, e1, e2, e3, Nat.beq_refl, Bool.and_self, and_self]) (ow_P2 _ _ _ _ _ _ (joinG_noBlk (fun e x => ndG_noBlk _ _ _ _ _) (lstG_noBlk _ _ _ _))) ?_
    have hw : IntKind.i64.wrap ((j : Int) + 1) = ((j + 1 : Nat) : Int) := by rw [IntKind.wrap_i64]; omega
    rw [hw, i3]
    refine MWp.weak (K := mkH [some (ndL a o n k), some (ndF a o n (j + 1))]) (weak_mkH ⟨.inl rfl, ow_eqI _ _ _ _, trivial⟩ (by simp [big])) ?_
    exact ow_loop a o n k hk d (j + 1) (by omega) (by omega)
theorem ow_calls (a o n : Nat → Int) (k : Nat) (hk : k ≤ 4294967000) (h1 : 1 ≤ k) : LCalls Try.prog 15 [sls 0 k] (mkH [some (ndL a o n k)]) (fun v K => v = sls 1 k ∧ K.get 1 = some (ndF a o n k) ∧ K.lock = 0) := by
  refine LCalls_of (Env.bare_ok envOk) owG (by kernel_rfl) ?_
  refine MWp.head (Env.bare_ok envOk) _ _ _ _ (ow_0 a o n k) trivial (ow_P a o n k) ?_
  obtain ⟨i1, i2, i3, i4⟩ := ix_tests (show 0 < k by omega)
  refine MWp.head (Env.bare_ok envOk) _ _ _ _ (ow_A a o n k) (by
    have i1 : decide ((0 : Int) < k) = true := i1
    have i2 : ixB k 0 = true := i2
    simp only [trusted, i1, i2, i4, and_self]) (ow_P2 _ _ _ _ _ _ (lstG_noBlk _ _ _ _)) ?_
  refine MWp.weak (K := mkH [some (ndL a o n k), some (ndF a o n 1)]) (weak_mkH ⟨.inl rfl, ow_eqA _ _ _, trivial⟩ (by simp [big])) ?_
  exact ow_loop a o n k hk (k - 1) 1 (by omega) (by omega)
end Go.Proofs.Ytdjmpilegommlaa
namespace Go.Proofs.Ytdjmpilegommlaa
open Go Go.Ly Go.RowKit
theorem sizf35_0 : ((List.range 16).all fun i => sizeI (Ly.run env.bare 6000 [] (Ly.start Try.f35 [.int .u8 (((0 + i) : Nat) : Int)] H0)).val? (sizeT (((0 + i) : Nat) : Int))) = true := by kernel_rfl
theorem sizf35_1 : ((List.range 16).all fun i => sizeI (Ly.run env.bare 6000 [] (Ly.start Try.f35 [.int .u8 (((16 + i) : Nat) : Int)] H0)).val? (sizeT (((16 + i) : Nat) : Int))) = true := by kernel_rfl
theorem sizf35_2 : ((List.range 16).all fun i => sizeI (Ly.run env.bare 6000 [] (Ly.start Try.f35 [.int .u8 (((32 + i) : Nat) : Int)] H0)).val? (sizeT (((32 + i) : Nat) : Int))) = true := by kernel_rfl
theorem sizf35_3 : ((List.range 16).all fun i => sizeI (Ly.run env.bare 6000 [] (Ly.start Try.f35 [.int .u8 (((48 + i) : Nat) : Int)] H0)).val? (sizeT (((48 + i) : Nat) : Int))) = true := by kernel_rfl
theorem sizf35_4 : ((List.range 16).all fun i => sizeI (Ly.run env.bare 6000 [] (Ly.start Try.f35 [.int .u8 (((64 + i) : Nat) : Int)] H0)).val? (sizeT (((64 + i) : Nat) : Int))) = true := by kernel_rfl
theorem sizf35_5 : ((List.range 16).all fun i => sizeI (Ly.run env.bare 6000 [] (Ly.start Try.f35 [.int .u8 (((80 + i) : Nat) : Int)] H0)).val? (sizeT (((80 + i) : Nat) : Int))) = true := by kernel_rfl
theorem sizf35_6 : ((List.range 16).all fun i => sizeI (Ly.run env.bare 6000 [] (Ly.start Try.f35 [.int .u8 (((96 + i) : Nat) : Int)] H0)).val? (sizeT (((96 + i) : Nat) : Int))) = true := by kernel_rfl
theorem sizf35_7 : ((List.range 16).all fun i => sizeI (Ly.run env.bare 6000 [] (Ly.start Try.f35 [.int .u8 (((112 + i) : Nat) : Int)] H0)).val? (sizeT (((112 + i) : Nat) : Int))) = true := by kernel_rfl
theorem sizf35_8 : ((List.range 16).all fun i => sizeI (Ly.run env.bare 6000 [] (Ly.start Try.f35 [.int .u8 (((128 + i) : Nat) : Int)] H0)).val? (sizeT (((128 + i) : Nat) : Int))) = true := by kernel_rfl
theorem sizf35_9 : ((List.range 16).all fun i => sizeI (Ly.run env.bare 6000 [] (Ly.start Try.f35 [.int .u8 (((144 + i) : Nat) : Int)] H0)).val? (sizeT (((144 + i) : Nat) : Int))) = true := by kernel_rfl
theorem sizf35_10 : ((List.range 16).all fun i => sizeI (Ly.run env.bare 6000 [] (Ly.start Try.f35 [.int .u8 (((160 + i) : Nat) : Int)] H0)).val? (sizeT (((160 + i) : Nat) : Int))) = true := by kernel_rfl
theorem sizf35_11 : ((List.range 16).all fun i => sizeI (Ly.run env.bare 6000 [] (Ly.start Try.f35 [.int .u8 (((176 + i) : Nat) : Int)] H0)).val? (sizeT (((176 + i) : Nat) : Int))) = true := by kernel_rfl
theorem sizf35_12 : ((List.range 16).all fun i => sizeI (Ly.run env.bare 6000 [] (Ly.start Try.f35 [.int .u8 (((192 + i) : Nat) : Int)] H0)).val? (sizeT (((192 + i) : Nat) : Int))) = true := by kernel_rfl
theorem sizf35_13 : ((List.range 16).all fun i => sizeI (Ly.run env.bare 6000 [] (Ly.start Try.f35 [.int .u8 (((208 + i) : Nat) : Int)] H0)).val? (sizeT (((208 + i) : Nat) : Int))) = true := by kernel_rfl
theorem sizf35_14 : ((List.range 16).all fun i => sizeI (Ly.run env.bare 6000 [] (Ly.start Try.f35 [.int .u8 (((224 + i) : Nat) : Int)] H0)).val? (sizeT (((224 + i) : Nat) : Int))) = true := by kernel_rfl
theorem sizf35_15 : ((List.range 16).all fun i => sizeI (Ly.run env.bare 6000 [] (Ly.start Try.f35 [.int .u8 (((240 + i) : Nat) : Int)] H0)).val? (sizeT (((240 + i) : Nat) : Int))) = true := by kernel_rfl
theorem sizf35_all (n : Nat) (h : n < 256) : sizeI (Ly.run env.bare 6000 [] (Ly.start Try.f35 [.int .u8 ((n : Nat) : Int)] H0)).val? (sizeT ((n : Nat) : Int)) = true := by
  rcases Nat.lt_or_ge n 16 with g0 | g0
  · exact range_all (p := fun n => sizeI (Ly.run env.bare 6000 [] (Ly.start Try.f35 [.int .u8 ((n : Nat) : Int)] H0)).val? (sizeT ((n : Nat) : Int))) sizf35_0 n (by omega) (by omega)
  rcases Nat.lt_or_ge n 32 with g1 | g1
  · exact range_all (p := fun n => sizeI (Ly.run env.bare 6000 [] (Ly.start Try.f35 [.int .u8 ((n : Nat) : Int)] H0)).val? (sizeT ((n : Nat) : Int))) sizf35_1 n (by omega) (by omega)
  rcases Nat.lt_or_ge n 48 with g2 | g2
  · exact range_all (p := fun n => sizeI (Ly.run env.bare 6000 [] (Ly.start Try.f35 [.int .u8 ((n : Nat) : Int)] H0)).val? (sizeT ((n : Nat) : Int))) sizf35_2 n (by omega) (by omega)
  rcases Nat.lt_or_ge n 64 with g3 | g3
  · exact range_all (p := fun n => sizeI (Ly.run env.bare 6000 [] (Ly.start Try.f35 [.int .u8 ((n : Nat) : Int)] H0)).val? (sizeT ((n : Nat) : Int))) sizf35_3 n (by omega) (by omega)
  rcases Nat.lt_or_ge n 80 with g4 | g4
  · exact range_all (p := fun n => sizeI (Ly.run env.bare 6000 [] (Ly.start Try.f35 [.int .u8 ((n : Nat) : Int)] H0)).val? (sizeT ((n : Nat) : Int))) sizf35_4 n (by omega) (by omega)
  rcases Nat.lt_or_ge n 96 with g5 | g5
  · exact range_all (p := fun n => sizeI (Ly.run env.bare 6000 [] (Ly.start Try.f35 [.int .u8 ((n : Nat) : Int)] H0)).val? (sizeT ((n : Nat) : Int))) sizf35_5 n (by omega) (by omega)
  rcases Nat.lt_or_ge n 112 with g6 | g6
  · exact range_all (p := fun n => sizeI (Ly.run env.bare 6000 [] (Ly.start Try.f35 [.int .u8 ((n : Nat) : Int)] H0)).val? (sizeT ((n : Nat) : Int))) sizf35_6 n (by omega) (by omega)
  rcases Nat.lt_or_ge n 128 with g7 | g7
  · exact range_all (p := fun n => sizeI (Ly.run env.bare 6000 [] (Ly.start Try.f35 [.int .u8 ((n : Nat) : Int)] H0)).val? (sizeT ((n : Nat) : Int))) sizf35_7 n (by omega) (by omega)
  rcases Nat.lt_or_ge n 144 with g8 | g8
  · exact range_all (p := fun n => sizeI (Ly.run env.bare 6000 [] (Ly.start Try.f35 [.int .u8 ((n : Nat) : Int)] H0)).val? (sizeT ((n : Nat) : Int))) sizf35_8 n (by omega) (by omega)
  rcases Nat.lt_or_ge n 160 with g9 | g9
  · exact range_all (p := fun n => sizeI (Ly.run env.bare 6000 [] (Ly.start Try.f35 [.int .u8 ((n : Nat) : Int)] H0)).val? (sizeT ((n : Nat) : Int))) sizf35_9 n (by omega) (by omega)
  rcases Nat.lt_or_ge n 176 with g10 | g10
  · exact range_all (p := fun n => sizeI (Ly.run env.bare 6000 [] (Ly.start Try.f35 [.int .u8 ((n : Nat) : Int)] H0)).val? (sizeT ((n : Nat) : Int))) sizf35_10 n (by omega) (by omega)
  rcases Nat.lt_or_ge n 192 with g11 | g11
  · exact range_all (p := fun n => sizeI (Ly.run env.bare 6000 [] (Ly.start Try.f35 [.int .u8 ((n : Nat) : Int)] H0)).val? (sizeT ((n : Nat) : Int))) sizf35_11 n (by omega) (by omega)
  rcases Nat.lt_or_ge n 208 with g12 | g12
  · exact range_all (p := fun n => sizeI (Ly.run env.bare 6000 [] (Ly.start Try.f35 [.int .u8 ((n : Nat) : Int)] H0)).val? (sizeT ((n : Nat) : Int))) sizf35_12 n (by omega) (by omega)
  rcases Nat.lt_or_ge n 224 with g13 | g13
  · exact range_all (p := fun n => sizeI (Ly.run env.bare 6000 [] (Ly.start Try.f35 [.int .u8 ((n : Nat) : Int)] H0)).val? (sizeT ((n : Nat) : Int))) sizf35_13 n (by omega) (by omega)
  rcases Nat.lt_or_ge n 240 with g14 | g14
  · exact range_all (p := fun n => sizeI (Ly.run env.bare 6000 [] (Ly.start Try.f35 [.int .u8 ((n : Nat) : Int)] H0)).val? (sizeT ((n : Nat) : Int))) sizf35_14 n (by omega) (by omega)
  rcases Nat.lt_or_ge n 256 with g15 | g15
  · exact range_all (p := fun n => sizeI (Ly.run env.bare 6000 [] (Ly.start Try.f35 [.int .u8 ((n : Nat) : Int)] H0)).val? (sizeT ((n : Nat) : Int))) sizf35_15 n (by omega) (by omega)
  omega
theorem sizf35_get : env.bare.fn.get 35 = some Try.f35 := by kernel_rfl
theorem sizf35_ans : Answers Try.prog 35 sizeC := by
  intro args g v h hg
  unfold sizeC at h
  split at h
  · rename_i op
    simp only [Option.some.injEq, Prod.mk.injEq] at h
    obtain ⟨rfl, rfl⟩ := h
    rw [inb_iff] at hg
    obtain ⟨n, rfl⟩ := Int.eq_ofNat_of_zero_le hg.1
    refine ⟨by simp [plain, plainL], by simp [plain], fun w => ?_⟩
    exact calls_plain (by simp [VRL, VR]) (fun ρ v' h => by simpa [VR] using h) (LCalls_run (Env.bare_ok envOk) 6000 sizf35_get (by kernel_rfl) (sizeI_eq (sizf35_all n (by omega)))) w
  · cases h
end Go.Proofs.Ytdjmpilegommlaa
namespace Go.Proofs.Ytdjmpilegommlaa
open Go Go.Ly Go.RowKit
def atD : St := Ly.start Try.f57 [] H0
def cx82 : Ctx := haltAt env.bare 82
theorem cx82_ok : cx82.Ok Try.prog := haltAt_ok (Env.bare_ok envOk) 82
theorem atG : cx82.fn.get 57 = some Try.f57 := by kernel_rfl
def atK : List KI := ((Ly.run cx82 60 [] (Ly.start Try.f57 [sls 0 0, .int .u16 0] (mkH [some (ndL (fun _ => 0) (fun _ => 0) (fun _ => 0) 0)]))).st atD).top.k
def atV (k : Nat) : List Value := slots 8 [(5, sls 0 k), (6, fcV 1)]
theorem at_0 (a o n : Nat → Int) (k : Nat) (x : Int) : headAt [5, 6] [0, 1] atD (Ly.run cx82 60 [] (Ly.start Try.f57 [sls 0 k, .int .u16 x] (mkH [some (ndL a o n k)]))) = (true, [], true, (Try.f57, atK, none, 1), atV k, ifH a o n k x) := by kernel_rfl
theorem at_C (a o n : Nat → Int) (k : Nat) (x : Int) : callOf env (mkSt Try.f57 atK none 1 (atV k) (ifH a o n k x)) = some (82, [sls 0 k, fcV 1]) := by kernel_rfl
theorem at_R (a o n : Nat → Int) (k : Nat) (x v : Int) (H : Heap) : (Ly.run env.bare 60 [] (behind (mkSt Try.f57 atK none 1 (atV k) (ifH a o n k x)) (.int .i64 v) H)).out? = some ([], .int .i64 v) := by kernel_rfl
theorem at_N (x : Int) : (Ly.run env.bare 200 [] (Ly.start Try.f57 [.slice none 0 0, .int .u16 x] (mkH []))).out? = some ([], .int .i64 (-1)) := by kernel_rfl
theorem at_calls (a o n : Nat → Int) (k : Nat) (x : Int) (hk : k ≤ 4294967000) : LCalls Try.prog 57 [sls 0 k, .int .u16 x] (mkH [some (ndL a o n k)]) (fun v _ => v = .int .i64 (atN k a x)) := by
  refine LCalls_of cx82_ok atG (by kernel_rfl) ?_
  refine MWp.head cx82_ok _ _ _ _ (at_0 a o n k x) trivial (if_P a o n k x) ?_
  refine MWp.call envOk (at_C a o n k x) (if_calls a o n k x hk) ?_
  rintro v K rfl
  exact MWp.out (Env.bare_ok envOk) 60 _ (at_R a o n k x _ K) trivial (fun _ => rfl)
def atMk (n : Nat) (G : Nat → Nat → Value) (r : List Value) : Bool × Value := match r with
  | [.int .u16 x] => (okN n G, .int .i64 (atN n (aOf G) x))
  | _ => (false, .bool false)
def atC : Heap → List Value → ER := rowsC 3 atMk
theorem get57 : env.bare.fn.get 57 = some Try.f57 := by kernel_rfl
theorem atC_good (args : List Value) (ρ : Ren) (args' : List Value) (w : World) (H : Heap) (ha : VRL ρ args args') (hr : Rep ρ H w) : ConGood Try.prog ρ 57 args' w (atC H args) := by
  refine rowsC_good (fun n G r => ?_) (fun n G r hp hg => ?_) (fun G r hp hg => ?_) args ρ args' w H ha hr
  · unfold atMk; split <;> simp [plain]
  · unfold atMk at hg ⊢
    split at hg
    · obtain ⟨h1, h2⟩ := okN_eq hg
      exact LCalls.argEq h2 (at_calls _ _ _ n _ h1)
    · cases hg
  · unfold atMk at hg ⊢
    split at hg
    · exact LCalls_trust (Env.bare_ok envOk) 200 _ get57 (by kernel_rfl) (at_N _) trivial
    · cases hg
def ownMk (n : Nat) (G : Nat → Nat → Value) : Bool × (Nat → Nat → Value) := (okN n G, ndG (aOf G) (oOf G) (nOf G))
def ownC : Heap → List Value → ER := rowNewS 3 ownMk 3 64
theorem ow_Z (a o n : Nat → Int) : (Ly.run env.bare 200 [] (Ly.start Try.f15 [sls 0 0] (mkH [some (ndL a o n 0)]))).out? = some ([], .slice none 0 0) := by kernel_rfl
theorem ownC_good (H : Heap) (args : List Value) : HGood Try.prog 15 args H (ownC H args) := by
  refine rowNewS_good (by decide) (fun n G hg h0 => ?_) (fun G hg => ?_) ?_ H args
  · obtain ⟨h1, h2⟩ := okN_eq hg
    exact ⟨1, LCalls.argEq h2 (ow_calls _ _ _ n h1 (by omega))⟩
  · obtain ⟨h1, h2⟩ := okN_eq (show okN 0 G = true from hg)
    exact LCalls.argEq h2 (LCalls_trust (Env.bare_ok envOk) 200 _ owG (by kernel_rfl) (ow_Z _ _ _) trivial)
  · exact LCalls_trust (Env.bare_ok envOk) 200 _ owG (by kernel_rfl) (ow_N (fun _ => 0) (fun _ => 0) (fun _ => 0)) trivial
def riB (a o : Nat → Int) (i : Nat) : Bool := (bif Nat.beq i 0 then false else decide (a i ≤ a (i - 1))) || sizeT (o i) == 0
def riF (a o : Nat → Int) : Nat → Nat → Bool
  | 0, _ => true
  | d + 1, i => bif riB a o i then false else riF a o d (i + 1)
def riN (n : Nat) (a o : Nat → Int) : Bool := riF a o n 0
def cxS : Ctx := env.bare.with 35 sizeC
theorem cxS_ok : cxS.Ok Try.prog := (Env.bare_ok envOk).with sizf35_ans
def riD : St := Ly.start Try.f18 [] H0
def riK : List KI := ((Ly.run cxS 11 [] (Ly.start Try.f18 [sls 0 0] (mkH [some (ndL (fun _ => 0) (fun _ => 0) (fun _ => 0) 0)]))).st riD).top.k
def riV (k : Nat) (i : Int) : List Value := slots 35 [(0, sls 0 k), (3, .int .i64 i)]
theorem riG : cxS.fn.get 18 = some Try.f18 := by kernel_rfl
theorem ri_0 (a o n : Nat → Int) (k : Nat) : headAt [0, 3] [0] riD (Ly.run cxS 11 [] (Ly.start Try.f18 [sls 0 k] (mkH [some (ndL a o n k)]))) = (true, [], true, (Try.f18, riK, none, 1), riV k 0, [some (ndL a o n k)]) := by kernel_rfl
theorem ri_T (a o n : Nat → Int) (k : Nat) (i : Int) : (Ly.run cxS 200 [(0, false)] (mkSt Try.f18 riK none 1 (riV k i) [some (ndL a o n k)])).out? = some ([(decide (i < k), false)], .bool true) := by kernel_rfl
theorem ri_A (a o n : Nat → Int) (k : Nat) : headAt [0, 3] [0] riD (Ly.run cxS 23 [(0, true), (16, true), (2, true), (1, true), (2, false)] (mkSt Try.f18 riK none 1 (riV k 0) [some (ndL a o n k)])) = (true, [(decide ((0 : Int) < k), true), (ixB k 0, true), (Nat.blt 0 k, true), (inb (o 0), true), (sizeT (o 0) == 0, false)], true, (Try.f18, riK, none, 1), riV k 1, [some (ndL a o n k)]) := by kernel_rfl
theorem ri_AF (a o n : Nat → Int) (k : Nat) : (Ly.run cxS 200 [(0, true), (16, true), (2, true), (1, true), (2, true)] (mkSt Try.f18 riK none 1 (riV k 0) [some (ndL a o n k)])).out? = some ([(decide ((0 : Int) < k), true), (ixB k 0, true), (Nat.blt 0 k, true), (inb (o 0), true), (sizeT (o 0) == 0, true)], .bool false) := by kernel_rfl
def riT (a o : Nat → Int) (k : Nat) (i : Int) (l : List (Bool × Bool)) : List (Bool × Bool) := (decide (i < k), true) :: (decide (0 < i) == true, true) :: (ixB k (IntKind.i64.wrap (i - 1)), true) :: (Nat.blt (0 + (IntKind.i64.wrap (i - 1)).toNat) k, true) :: (ixB k i, true) :: (Nat.blt (0 + i.toNat) k, true) :: l
theorem ri_I (a o n : Nat → Int) (k : Nat) (i : Int) : headAt [0, 3] [0] riD (Ly.run cxS 23 [(0, true), (0, true), (3, true), (2, true), (3, true), (2, true), (2, true), (2, true), (2, true), (1, true), (2, false)] (mkSt Try.f18 riK none 1 (riV k i) [some (ndL a o n k)])) = (true, riT a o k i [(decide (a (0 + i.toNat) ≤ a (0 + (IntKind.i64.wrap (i - 1)).toNat)) == false, true), (ixB k i, true), (Nat.blt (0 + i.toNat) k, true), (inb (o (0 + i.toNat)), true), (sizeT (o (0 + i.toNat)) == 0, false)], true, (Try.f18, riK, none, 1), riV k (IntKind.i64.wrap (i + 1)), [some (ndL a o n k)]) := by kernel_rfl
theorem ri_F1 (a o n : Nat → Int) (k : Nat) (i : Int) : (Ly.run cxS 200 [(0, true), (0, true), (3, true), (2, true), (3, true), (2, true), (2, false)] (mkSt Try.f18 riK none 1 (riV k i) [some (ndL a o n k)])).out? = some (riT a o k i [(decide (a (0 + i.toNat) ≤ a (0 + (IntKind.i64.wrap (i - 1)).toNat)) == false, false)], .bool false) := by kernel_rfl
theorem ri_F2 (a o n : Nat → Int) (k : Nat) (i : Int) : (Ly.run cxS 200 [(0, true), (0, true), (3, true), (2, true), (3, true), (2, true), (2, true), (2, true), (2, true), (1, true), (2, true)] (mkSt Try.f18 riK none 1 (riV k i) [some (ndL a o n k)])).out? = some (riT a o k i [(decide (a (0 + i.toNat) ≤ a (0 + (IntKind.i64.wrap (i - 1)).toNat)) == false, true), (ixB k i, true), (Nat.blt (0 + i.toNat) k, true), (inb (o (0 + i.toNat)), true), (sizeT (o (0 + i.toNat)) == 0, true)], .bool false) := by kernel_rfl
theorem ri_N : (Ly.run cxS 200 [] (Ly.start Try.f18 [.slice none 0 0] (mkH []))).out? = some ([], .bool true) := by kernel_rfl
theorem ri_loop (a o n : Nat → Int) (k : Nat) (hk : k ≤ 4294967000) (ho : ∀ e, e < k → inb (o e) = true) : ∀ (d i : Nat), i + d = k → MWp Try.prog (mkSt Try.f18 riK none 1 (riV k i) [some (ndL a o n k)]) (fun v _ => v = .bool (riF a o d i))
  | 0, i, hd => MWp.out cxS_ok 200 _ (ri_T a o n k i) (by simp [trusted]; omega) (fun _ => rfl)
  | d + 1, i, hd => by
    obtain ⟨h1, h2, h3, h4⟩ := ix_tests (show i < k by omega)
    have h5 := ho i (by omega)
    have hw : IntKind.i64.wrap ((i : Int) + 1) = ((i + 1 : Nat) : Int) := by rw [IntKind.wrap_i64]; omega
    rcases i with _ | i
    · have h1 : decide ((0 : Int) < k) = true := h1
      have h2 : ixB k 0 = true := h2
      cases hs : (sizeT (o 0) == 0) with
      | true =>
        refine MWp.out cxS_ok 200 _ (ri_AF a o n k) (by simp only [trusted, h1, h2, h4, h5, hs, and_self]) (fun _ => ?_)
        simp only [riF, riB, hs, Bool.or_true, cond_true]
      | false =>
        refine MWp.head cxS_ok _ _ _ _ (ri_A a o n k) (by simp only [trusted, h1, h2, h4, h5, hs, and_self]) (ow_P a o n k) ?_
        have e : riF a o (d + 1) 0 = riF a o d 1 := by simp only [riF, riB, hs, Nat.beq_refl, cond_true, Bool.or_false, cond_false]
        rw [e]
        exact ri_loop a o n k hk ho d 1 (by omega)
    · have hw2 : IntKind.i64.wrap (((i + 1 : Nat) : Int) - 1) = (i : Int) := by rw [IntKind.wrap_i64]; omega
      obtain ⟨g1, g2, g3, g4⟩ := ix_tests (show i < k by omega)
      have h0 : (decide ((0 : Int) < ((i + 1 : Nat) : Int)) == true) = true := by simp
      have hb : Nat.beq (i + 1) 0 = false := rfl
      have eB : riB a o (i + 1) = (decide (a (i + 1) ≤ a i) || sizeT (o (i + 1)) == 0) := by unfold riB; rw [hb]; rfl
      cases ha : decide (a (i + 1) ≤ a i) with
      | true =>
        refine MWp.out cxS_ok 200 _ (ri_F1 a o n k ((i + 1 : Nat) : Int)) (by simp only [riT, trusted, h0, h1, h2, h4, hw2, g2, g3, g4, h3, ha, and_self, true_and, and_true, Bool.true_eq_false, beq_false, Bool.not_true]) (fun _ => ?_)
        simp only [riF, eB, ha, Bool.true_or, cond_true]
      | false =>
        cases hs : (sizeT (o (i + 1)) == 0) with
        | true =>
          refine MWp.out cxS_ok 200 _ (ri_F2 a o n k ((i + 1 : Nat) : Int)) (by simp only [riT, trusted, h0, h1, h2, h4, h5, hw2, g2, g3, g4, h3, ha, hs, and_self, true_and, and_true, beq_false, Bool.not_false]) (fun _ => ?_)
          simp only [riF, eB, hs, Bool.or_true, cond_true]
        | false =>
          refine MWp.head cxS_ok _ _ _ _ (ri_I a o n k ((i + 1 : Nat) : Int)) (by simp only [riT, trusted, h0, h1, h2, h4, h5, hw2, g2, g3, g4, h3, ha, hs, and_self, true_and, and_true, beq_false, Bool.not_false]) (ow_P a o n k) ?_
          rw [hw]
          have e : riF a o (d + 1) (i + 1) = riF a o d (i + 1 + 1) := by simp only [riF, eB, ha, hs, Bool.or_self, cond_false]
          rw [e]
          exact ri_loop a o n k hk ho d (i + 1 + 1) (by omega)
def riMk (n : Nat) (G : Nat → Nat → Value) (r : List Value) : Bool × Value := match r with
  | [] => (okN n G && (List.range n).all fun e => inb (oOf G e), .bool (riN n (aOf G) (oOf G)))
  | _ => (false, .bool false)
def riC : Heap → List Value → ER := rowsC 3 riMk
theorem riC_good (args : List Value) (ρ : Ren) (args' : List Value) (w : World) (H : Heap) (ha : VRL ρ args args') (hr : Rep ρ H w) : ConGood Try.prog ρ 18 args' w (riC H args) := by
  refine rowsC_good (fun n G r => ?_) (fun n G r hp hg => ?_) (fun G r hp hg => ?_) args ρ args' w H ha hr
  · unfold riMk; split <;> simp [plain]
  · unfold riMk at hg ⊢
    split at hg
    · simp only [Bool.and_eq_true, List.all_eq_true, List.mem_range] at hg
      obtain ⟨h1, h2⟩ := okN_eq hg.1
      refine LCalls.argEq h2 (LCalls_of cxS_ok riG (by kernel_rfl) ?_)
      exact MWp.head cxS_ok _ _ _ _ (ri_0 _ _ _ n) trivial (ow_P _ _ _ n) (ri_loop _ _ _ n h1 hg.2 n 0 (by omega))
    · cases hg
  · unfold riMk at hg ⊢
    split at hg
    · exact LCalls_trust cxS_ok 200 _ riG (by kernel_rfl) ri_N trivial
    · cases hg
end Go.Proofs.Ytdjmpilegommlaa
namespace Go.Proofs.Ytdjmpilegommlaa
open Go Go.Ly Go.RowKit
def t6D : St := Ly.start Try.f56 [] H0
def t6K : List KI := ((Ly.run env.bare 11 [] (Ly.start Try.f56 [sls 0 0, .int .i64 0] (mkH [some (ndL (fun _ => 0) (fun _ => 0) (fun _ => 0) 0)]))).st t6D).top.k
def t6V (k : Nat) (x i : Int) : List Value := slots 22 [(0, sls 0 k), (1, .int .i64 x), (5, .int .i64 i)]
def t6X (x : Int) : Int := bits .and .i64 x 65535
def t6W (x : Int) : Int := IntKind.i64.wrap x
theorem t6G : env.bare.fn.get 56 = some Try.f56 := by kernel_rfl
theorem t6_0 (a o n : Nat → Int) (k : Nat) (x : Int) : headAt [0, 1, 5] [0] t6D (Ly.run env.bare 11 [] (Ly.start Try.f56 [sls 0 k, .int .i64 x] (mkH [some (ndL a o n k)]))) = (true, [], true, (Try.f56, t6K, none, 1), t6V k x 0, [some (ndL a o n k)]) := by kernel_rfl
theorem t6_I (a o n : Nat → Int) (k : Nat) (x i : Int) : headAt [0, 1, 5] [0] t6D (Ly.run env.bare 33 [(0, true), (0, true), (0, true), (0, false)] (mkSt Try.f56 t6K none 1 (t6V k x i) [some (ndL a o n k)])) = (true, [(decide (i < k), true), (ixB k i, true), (Nat.blt (0 + i.toNat) k, true), (t6W (a (0 + i.toNat)) == t6X x, false)], true, (Try.f56, t6K, none, 1), t6V k x (IntKind.i64.wrap (i + 1)), [some (ndL a o n k)]) := by kernel_rfl
theorem t6_F (a o n : Nat → Int) (k : Nat) (x i : Int) : (Ly.run env.bare 200 [(0, true), (0, true), (0, true), (0, true)] (mkSt Try.f56 t6K none 1 (t6V k x i) [some (ndL a o n k)])).out? = some ([(decide (i < k), true), (ixB k i, true), (Nat.blt (0 + i.toNat) k, true), (t6W (a (0 + i.toNat)) == t6X x, true)], .int .i64 i) := by kernel_rfl
theorem t6_T (a o n : Nat → Int) (k : Nat) (x i : Int) : (Ly.run env.bare 200 [(0, false)] (mkSt Try.f56 t6K none 1 (t6V k x i) [some (ndL a o n k)])).out? = some ([(decide (i < k), false)], .int .i64 (-1)) := by kernel_rfl
theorem t6_N (x : Int) : (Ly.run env.bare 200 [] (Ly.start Try.f56 [.slice none 0 0, .int .i64 x] (mkH []))).out? = some ([], .int .i64 (-1)) := by kernel_rfl
def at6 (n : Nat) (a : Nat → Int) (x : Int) : Int := ixF (fun e => t6W (a e)) (t6X x) n 0
theorem t6_loop (a o n : Nat → Int) (k : Nat) (x : Int) (hk : k ≤ 4294967000) : ∀ (d i : Nat), i + d = k → MWp Try.prog (mkSt Try.f56 t6K none 1 (t6V k x i) [some (ndL a o n k)]) (fun v _ => v = .int .i64 (ixF (fun e => t6W (a e)) (t6X x) d i))
  | 0, i, hd => MWp.out (Env.bare_ok envOk) 200 _ (t6_T a o n k x i) (by simp [trusted]; omega) (fun _ => rfl)
  | d + 1, i, hd => by
    obtain ⟨h1, h2, h3, h4⟩ := ix_tests (show i < k by omega)
    cases hx : (t6W (a i) == t6X x) with
    | true =>
      refine MWp.out (Env.bare_ok envOk) 200 _ (t6_F a o n k x i) (by rw [h3]; simp only [trusted, h1, h2, h4, hx, and_self]) (fun _ => ?_)
      simp only [ixF, hx, cond_true]
    | false =>
      refine MWp.head (Env.bare_ok envOk) _ _ _ _ (t6_I a o n k x i) (by rw [h3]; simp only [trusted, h1, h2, h4, hx, and_self]) (ow_P a o n k) ?_
      have hw : IntKind.i64.wrap ((i : Int) + 1) = ((i + 1 : Nat) : Int) := by rw [IntKind.wrap_i64]; omega
      rw [hw]
      simp only [ixF, hx, cond_false]
      exact t6_loop a o n k x hk d (i + 1) (by omega)
def at6Mk (n : Nat) (G : Nat → Nat → Value) (r : List Value) : Bool × Value := match r with
  | [.int .i64 x] => (okN n G, .int .i64 (at6 n (aOf G) x))
  | _ => (false, .bool false)
def at6C : Heap → List Value → ER := rowsC 3 at6Mk
theorem at6C_good (args : List Value) (ρ : Ren) (args' : List Value) (w : World) (H : Heap) (ha : VRL ρ args args') (hr : Rep ρ H w) : ConGood Try.prog ρ 56 args' w (at6C H args) := by
  refine rowsC_good (fun n G r => ?_) (fun n G r hp hg => ?_) (fun G r hp hg => ?_) args ρ args' w H ha hr
  · unfold at6Mk; split <;> simp [plain]
  · unfold at6Mk at hg ⊢
    split at hg
    · obtain ⟨h1, h2⟩ := okN_eq hg
      refine LCalls.argEq h2 (LCalls_of (Env.bare_ok envOk) t6G (by kernel_rfl) ?_)
      exact MWp.head (Env.bare_ok envOk) _ _ _ _ (t6_0 _ _ _ n _) trivial (ow_P _ _ _ n) (t6_loop _ _ _ n _ h1 n 0 (by omega))
    · cases hg
  · unfold at6Mk at hg ⊢
    split at hg
    · exact LCalls_trust (Env.bare_ok envOk) 200 _ t6G (by kernel_rfl) (t6_N _) trivial
    · cases hg
end Go.Proofs.Ytdjmpilegommlaa
end
