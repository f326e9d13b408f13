/- The law Isa86Near: its runs, leaf by leaf (printed by wip/tools/sy.sh, checked by the kernel), and that it returns true at every input. -/
import Derived.Test.YtkemllgkkngcjaaIc
import Derived.OpenShut
import Derived.Laws.BitsLemmas
import Derived.Test.YtkemllgkkngcjaaLyQ
namespace Go.Proofs.Ytkemllgkkngcjaa
open Go Go.Ly Go.RowKit
set_option linter.unusedVariables false
set_option linter.unusedSimpArgs false
noncomputable def zctx : Ctx := nctx.with 9 (fun _ => none)
theorem zok : zctx.Ok Try.prog := nok.with (fun args g v h => by cases h)
theorem get5 : nctx.fn.get 5 = some Try.f5 := by kernel_rfl
theorem getz5 : zctx.fn.get 5 = some Try.f5 := by kernel_rfl
noncomputable def near33T2 (n : Int) : List (Bool × Bool) := [(decide (32768 ≤ IntKind.i64.wrap n), true),
 (IntKind.u16.wrap (IntKind.i8.wrap n) != n, true),
 (decide (IntKind.i64.wrap (IntKind.i64.wrap n - 65536) < -128) == false, false),
 (decide (IntKind.i64.wrap (IntKind.i64.wrap n - 65536) < -128) == false, false),
 (decide (IntKind.i64.wrap (IntKind.i64.wrap n - 65536) < -128), true)]
noncomputable def near33V2 (n : Int) : Value := Value.bool true
theorem near33R2 (n : Int) : (Ly.run (nctx) 20000 [(5, true), (45, true), (83, false), (0, false), (0, true)] (Ly.start Try.f5 ([Value.int
    IntKind.i64 33,
  Value.int IntKind.u16 n]) H0)).out? = some (near33T2 n, near33V2 n) := by kernel_rfl
noncomputable def near33T4 (n : Int) : List (Bool × Bool) := [(decide (32768 ≤ IntKind.i64.wrap n), true),
 (IntKind.u16.wrap (IntKind.i8.wrap n) != n, false),
 (decide (IntKind.i64.wrap (IntKind.i64.wrap n - 65536) < -128) == false, true),
 (decide (IntKind.i64.wrap (IntKind.i64.wrap n - 65536) < -128) == false, true),
 (decide (IntKind.i64.wrap (IntKind.i64.wrap n - 65536) < -128), false),
 (decide (127 < IntKind.i64.wrap (IntKind.i64.wrap n - 65536)), false)]
noncomputable def near33V4 (n : Int) : Value := Value.bool true
theorem near33R4 (n : Int) : (Ly.run (nctx) 20000 [(5, true), (45, false), (115, true), (0, true), (0, false), (0, false)] (Ly.start Try.f5 ([Value.int
    IntKind.i64 33,
  Value.int IntKind.u16 n]) H0)).out? = some (near33T4 n, near33V4 n) := by kernel_rfl
noncomputable def near33T6 (n : Int) : List (Bool × Bool) := [(decide (32768 ≤ IntKind.i64.wrap n), false),
 (IntKind.u16.wrap (IntKind.i8.wrap n) != n, true),
 (decide (IntKind.i64.wrap n < -128) == false, true),
 (decide (IntKind.i64.wrap n < -128) == false, true),
 (decide (IntKind.i64.wrap n < -128), false),
 (decide (127 < IntKind.i64.wrap n), true)]
noncomputable def near33V6 (n : Int) : Value := Value.bool true
theorem near33R6 (n : Int) : (Ly.run (nctx) 20000 [(5, false), (45, true), (83, true), (0, true), (0, false), (0, true)] (Ly.start Try.f5 ([Value.int
    IntKind.i64 33,
  Value.int IntKind.u16 n]) H0)).out? = some (near33T6 n, near33V6 n) := by kernel_rfl
noncomputable def near33T10 (n : Int) : List (Bool × Bool) := [(decide (32768 ≤ IntKind.i64.wrap n), false),
 (IntKind.u16.wrap (IntKind.i8.wrap n) != n, false),
 (decide (IntKind.i64.wrap n < -128) == false, true),
 (decide (IntKind.i64.wrap n < -128) == false, true),
 (decide (IntKind.i64.wrap n < -128), false),
 (decide (127 < IntKind.i64.wrap n), false)]
noncomputable def near33V10 (n : Int) : Value := Value.bool true
theorem near33R10 (n : Int) : (Ly.run (nctx) 20000 [(5, false), (45, false), (115, true), (0, true), (0, false), (0, false)] (Ly.start Try.f5 ([Value.int
    IntKind.i64 33,
  Value.int IntKind.u16 n]) H0)).out? = some (near33T10 n, near33V10 n) := by kernel_rfl
noncomputable def near42T2 (n : Int) : List (Bool × Bool) := [(decide (32768 ≤ IntKind.i64.wrap n), true),
 (IntKind.u16.wrap (IntKind.i8.wrap n) != n, true),
 (decide (IntKind.i64.wrap (IntKind.i64.wrap n - 65536) < -128) == false, false),
 (decide (IntKind.i64.wrap (IntKind.i64.wrap n - 65536) < -128) == false, false),
 (decide (IntKind.i64.wrap (IntKind.i64.wrap n - 65536) < -128), true)]
noncomputable def near42V2 (n : Int) : Value := Value.bool true
theorem near42R2 (n : Int) : (Ly.run (nctx) 20000 [(13, true), (56, true), (83, false), (0, false), (0, true)] (Ly.start Try.f5 ([Value.int
    IntKind.i64 42,
  Value.int IntKind.u16 n]) H0)).out? = some (near42T2 n, near42V2 n) := by kernel_rfl
noncomputable def near42T4 (n : Int) : List (Bool × Bool) := [(decide (32768 ≤ IntKind.i64.wrap n), true),
 (IntKind.u16.wrap (IntKind.i8.wrap n) != n, false),
 (decide (IntKind.i64.wrap (IntKind.i64.wrap n - 65536) < -128) == false, true),
 (decide (IntKind.i64.wrap (IntKind.i64.wrap n - 65536) < -128) == false, true),
 (decide (IntKind.i64.wrap (IntKind.i64.wrap n - 65536) < -128), false),
 (decide (127 < IntKind.i64.wrap (IntKind.i64.wrap n - 65536)), false)]
noncomputable def near42V4 (n : Int) : Value := Value.bool true
theorem near42R4 (n : Int) : (Ly.run (nctx) 20000 [(13, true), (56, false), (126, true), (0, true), (0, false), (0, false)] (Ly.start Try.f5 ([Value.int
    IntKind.i64 42,
  Value.int IntKind.u16 n]) H0)).out? = some (near42T4 n, near42V4 n) := by kernel_rfl
noncomputable def near42T6 (n : Int) : List (Bool × Bool) := [(decide (32768 ≤ IntKind.i64.wrap n), false),
 (IntKind.u16.wrap (IntKind.i8.wrap n) != n, true),
 (decide (IntKind.i64.wrap n < -128) == false, true),
 (decide (IntKind.i64.wrap n < -128) == false, true),
 (decide (IntKind.i64.wrap n < -128), false),
 (decide (127 < IntKind.i64.wrap n), true)]
noncomputable def near42V6 (n : Int) : Value := Value.bool true
theorem near42R6 (n : Int) : (Ly.run (nctx) 20000 [(13, false), (56, true), (83, true), (0, true), (0, false), (0, true)] (Ly.start Try.f5 ([Value.int
    IntKind.i64 42,
  Value.int IntKind.u16 n]) H0)).out? = some (near42T6 n, near42V6 n) := by kernel_rfl
noncomputable def near42T10 (n : Int) : List (Bool × Bool) := [(decide (32768 ≤ IntKind.i64.wrap n), false),
 (IntKind.u16.wrap (IntKind.i8.wrap n) != n, false),
 (decide (IntKind.i64.wrap n < -128) == false, true),
 (decide (IntKind.i64.wrap n < -128) == false, true),
 (decide (IntKind.i64.wrap n < -128), false),
 (decide (127 < IntKind.i64.wrap n), false)]
noncomputable def near42V10 (n : Int) : Value := Value.bool true
theorem near42R10 (n : Int) : (Ly.run (nctx) 20000 [(13, false), (56, false), (126, true), (0, true), (0, false), (0, false)] (Ly.start Try.f5 ([Value.int
    IntKind.i64 42,
  Value.int IntKind.u16 n]) H0)).out? = some (near42T10 n, near42V10 n) := by kernel_rfl
noncomputable def near43T2 (n : Int) : List (Bool × Bool) := [(decide (32768 ≤ IntKind.i64.wrap n), true),
 (IntKind.u16.wrap (IntKind.i8.wrap n) != n, true),
 (decide (IntKind.i64.wrap (IntKind.i64.wrap n - 65536) < -128) == false, false),
 (decide (IntKind.i64.wrap (IntKind.i64.wrap n - 65536) < -128) == false, false),
 (decide (IntKind.i64.wrap (IntKind.i64.wrap n - 65536) < -128), true)]
noncomputable def near43V2 (n : Int) : Value := Value.bool true
theorem near43R2 (n : Int) : (Ly.run (nctx) 20000 [(13, true), (56, true), (83, false), (0, false), (0, true)] (Ly.start Try.f5 ([Value.int
    IntKind.i64 43,
  Value.int IntKind.u16 n]) H0)).out? = some (near43T2 n, near43V2 n) := by kernel_rfl
noncomputable def near43T4 (n : Int) : List (Bool × Bool) := [(decide (32768 ≤ IntKind.i64.wrap n), true),
 (IntKind.u16.wrap (IntKind.i8.wrap n) != n, false),
 (decide (IntKind.i64.wrap (IntKind.i64.wrap n - 65536) < -128) == false, true),
 (decide (IntKind.i64.wrap (IntKind.i64.wrap n - 65536) < -128) == false, true),
 (decide (IntKind.i64.wrap (IntKind.i64.wrap n - 65536) < -128), false),
 (decide (127 < IntKind.i64.wrap (IntKind.i64.wrap n - 65536)), false)]
noncomputable def near43V4 (n : Int) : Value := Value.bool true
theorem near43R4 (n : Int) : (Ly.run (nctx) 20000 [(13, true), (56, false), (126, true), (0, true), (0, false), (0, false)] (Ly.start Try.f5 ([Value.int
    IntKind.i64 43,
  Value.int IntKind.u16 n]) H0)).out? = some (near43T4 n, near43V4 n) := by kernel_rfl
noncomputable def near43T6 (n : Int) : List (Bool × Bool) := [(decide (32768 ≤ IntKind.i64.wrap n), false),
 (IntKind.u16.wrap (IntKind.i8.wrap n) != n, true),
 (decide (IntKind.i64.wrap n < -128) == false, true),
 (decide (IntKind.i64.wrap n < -128) == false, true),
 (decide (IntKind.i64.wrap n < -128), false),
 (decide (127 < IntKind.i64.wrap n), true)]
noncomputable def near43V6 (n : Int) : Value := Value.bool true
theorem near43R6 (n : Int) : (Ly.run (nctx) 20000 [(13, false), (56, true), (83, true), (0, true), (0, false), (0, true)] (Ly.start Try.f5 ([Value.int
    IntKind.i64 43,
  Value.int IntKind.u16 n]) H0)).out? = some (near43T6 n, near43V6 n) := by kernel_rfl
noncomputable def near43T10 (n : Int) : List (Bool × Bool) := [(decide (32768 ≤ IntKind.i64.wrap n), false),
 (IntKind.u16.wrap (IntKind.i8.wrap n) != n, false),
 (decide (IntKind.i64.wrap n < -128) == false, true),
 (decide (IntKind.i64.wrap n < -128) == false, true),
 (decide (IntKind.i64.wrap n < -128), false),
 (decide (127 < IntKind.i64.wrap n), false)]
noncomputable def near43V10 (n : Int) : Value := Value.bool true
theorem near43R10 (n : Int) : (Ly.run (nctx) 20000 [(13, false), (56, false), (126, true), (0, true), (0, false), (0, false)] (Ly.start Try.f5 ([Value.int
    IntKind.i64 43,
  Value.int IntKind.u16 n]) H0)).out? = some (near43T10 n, near43V10 n) := by kernel_rfl
noncomputable def near44T2 (n : Int) : List (Bool × Bool) := [(decide (32768 ≤ IntKind.i64.wrap n), true),
 (IntKind.u16.wrap (IntKind.i8.wrap n) != n, true),
 (decide (IntKind.i64.wrap (IntKind.i64.wrap n - 65536) < -128) == false, false),
 (decide (IntKind.i64.wrap (IntKind.i64.wrap n - 65536) < -128) == false, false),
 (decide (IntKind.i64.wrap (IntKind.i64.wrap n - 65536) < -128), true)]
noncomputable def near44V2 (n : Int) : Value := Value.bool true
theorem near44R2 (n : Int) : (Ly.run (nctx) 20000 [(13, true), (56, true), (83, false), (0, false), (0, true)] (Ly.start Try.f5 ([Value.int
    IntKind.i64 44,
  Value.int IntKind.u16 n]) H0)).out? = some (near44T2 n, near44V2 n) := by kernel_rfl
noncomputable def near44T4 (n : Int) : List (Bool × Bool) := [(decide (32768 ≤ IntKind.i64.wrap n), true),
 (IntKind.u16.wrap (IntKind.i8.wrap n) != n, false),
 (decide (IntKind.i64.wrap (IntKind.i64.wrap n - 65536) < -128) == false, true),
 (decide (IntKind.i64.wrap (IntKind.i64.wrap n - 65536) < -128) == false, true),
 (decide (IntKind.i64.wrap (IntKind.i64.wrap n - 65536) < -128), false),
 (decide (127 < IntKind.i64.wrap (IntKind.i64.wrap n - 65536)), false)]
noncomputable def near44V4 (n : Int) : Value := Value.bool true
theorem near44R4 (n : Int) : (Ly.run (nctx) 20000 [(13, true), (56, false), (126, true), (0, true), (0, false), (0, false)] (Ly.start Try.f5 ([Value.int
    IntKind.i64 44,
  Value.int IntKind.u16 n]) H0)).out? = some (near44T4 n, near44V4 n) := by kernel_rfl
noncomputable def near44T6 (n : Int) : List (Bool × Bool) := [(decide (32768 ≤ IntKind.i64.wrap n), false),
 (IntKind.u16.wrap (IntKind.i8.wrap n) != n, true),
 (decide (IntKind.i64.wrap n < -128) == false, true),
 (decide (IntKind.i64.wrap n < -128) == false, true),
 (decide (IntKind.i64.wrap n < -128), false),
 (decide (127 < IntKind.i64.wrap n), true)]
noncomputable def near44V6 (n : Int) : Value := Value.bool true
theorem near44R6 (n : Int) : (Ly.run (nctx) 20000 [(13, false), (56, true), (83, true), (0, true), (0, false), (0, true)] (Ly.start Try.f5 ([Value.int
    IntKind.i64 44,
  Value.int IntKind.u16 n]) H0)).out? = some (near44T6 n, near44V6 n) := by kernel_rfl
noncomputable def near44T10 (n : Int) : List (Bool × Bool) := [(decide (32768 ≤ IntKind.i64.wrap n), false),
 (IntKind.u16.wrap (IntKind.i8.wrap n) != n, false),
 (decide (IntKind.i64.wrap n < -128) == false, true),
 (decide (IntKind.i64.wrap n < -128) == false, true),
 (decide (IntKind.i64.wrap n < -128), false),
 (decide (127 < IntKind.i64.wrap n), false)]
noncomputable def near44V10 (n : Int) : Value := Value.bool true
theorem near44R10 (n : Int) : (Ly.run (nctx) 20000 [(13, false), (56, false), (126, true), (0, true), (0, false), (0, false)] (Ly.start Try.f5 ([Value.int
    IntKind.i64 44,
  Value.int IntKind.u16 n]) H0)).out? = some (near44T10 n, near44V10 n) := by kernel_rfl
noncomputable def near45T2 (n : Int) : List (Bool × Bool) := [(decide (32768 ≤ IntKind.i64.wrap n), true),
 (IntKind.u16.wrap (IntKind.i8.wrap n) != n, true),
 (decide (IntKind.i64.wrap (IntKind.i64.wrap n - 65536) < -128) == false, false),
 (decide (IntKind.i64.wrap (IntKind.i64.wrap n - 65536) < -128) == false, false),
 (decide (IntKind.i64.wrap (IntKind.i64.wrap n - 65536) < -128), true)]
noncomputable def near45V2 (n : Int) : Value := Value.bool true
theorem near45R2 (n : Int) : (Ly.run (nctx) 20000 [(13, true), (56, true), (83, false), (0, false), (0, true)] (Ly.start Try.f5 ([Value.int
    IntKind.i64 45,
  Value.int IntKind.u16 n]) H0)).out? = some (near45T2 n, near45V2 n) := by kernel_rfl
noncomputable def near45T4 (n : Int) : List (Bool × Bool) := [(decide (32768 ≤ IntKind.i64.wrap n), true),
 (IntKind.u16.wrap (IntKind.i8.wrap n) != n, false),
 (decide (IntKind.i64.wrap (IntKind.i64.wrap n - 65536) < -128) == false, true),
 (decide (IntKind.i64.wrap (IntKind.i64.wrap n - 65536) < -128) == false, true),
 (decide (IntKind.i64.wrap (IntKind.i64.wrap n - 65536) < -128), false),
 (decide (127 < IntKind.i64.wrap (IntKind.i64.wrap n - 65536)), false)]
noncomputable def near45V4 (n : Int) : Value := Value.bool true
theorem near45R4 (n : Int) : (Ly.run (nctx) 20000 [(13, true), (56, false), (126, true), (0, true), (0, false), (0, false)] (Ly.start Try.f5 ([Value.int
    IntKind.i64 45,
  Value.int IntKind.u16 n]) H0)).out? = some (near45T4 n, near45V4 n) := by kernel_rfl
noncomputable def near45T6 (n : Int) : List (Bool × Bool) := [(decide (32768 ≤ IntKind.i64.wrap n), false),
 (IntKind.u16.wrap (IntKind.i8.wrap n) != n, true),
 (decide (IntKind.i64.wrap n < -128) == false, true),
 (decide (IntKind.i64.wrap n < -128) == false, true),
 (decide (IntKind.i64.wrap n < -128), false),
 (decide (127 < IntKind.i64.wrap n), true)]
noncomputable def near45V6 (n : Int) : Value := Value.bool true
theorem near45R6 (n : Int) : (Ly.run (nctx) 20000 [(13, false), (56, true), (83, true), (0, true), (0, false), (0, true)] (Ly.start Try.f5 ([Value.int
    IntKind.i64 45,
  Value.int IntKind.u16 n]) H0)).out? = some (near45T6 n, near45V6 n) := by kernel_rfl
noncomputable def near45T10 (n : Int) : List (Bool × Bool) := [(decide (32768 ≤ IntKind.i64.wrap n), false),
 (IntKind.u16.wrap (IntKind.i8.wrap n) != n, false),
 (decide (IntKind.i64.wrap n < -128) == false, true),
 (decide (IntKind.i64.wrap n < -128) == false, true),
 (decide (IntKind.i64.wrap n < -128), false),
 (decide (127 < IntKind.i64.wrap n), false)]
noncomputable def near45V10 (n : Int) : Value := Value.bool true
theorem near45R10 (n : Int) : (Ly.run (nctx) 20000 [(13, false), (56, false), (126, true), (0, true), (0, false), (0, false)] (Ly.start Try.f5 ([Value.int
    IntKind.i64 45,
  Value.int IntKind.u16 n]) H0)).out? = some (near45T10 n, near45V10 n) := by kernel_rfl
noncomputable def near48T2 (n : Int) : List (Bool × Bool) := [(decide (32768 ≤ IntKind.i64.wrap n), true),
 (IntKind.u16.wrap (IntKind.i8.wrap n) != n, true),
 (decide (IntKind.i64.wrap (IntKind.i64.wrap n - 65536) < -128) == false, false),
 (decide (IntKind.i64.wrap (IntKind.i64.wrap n - 65536) < -128) == false, false),
 (decide (IntKind.i64.wrap (IntKind.i64.wrap n - 65536) < -128), true)]
noncomputable def near48V2 (n : Int) : Value := Value.bool true
theorem near48R2 (n : Int) : (Ly.run (nctx) 20000 [(16, true), (56, true), (83, false), (0, false), (0, true)] (Ly.start Try.f5 ([Value.int
    IntKind.i64 48,
  Value.int IntKind.u16 n]) H0)).out? = some (near48T2 n, near48V2 n) := by kernel_rfl
noncomputable def near48T4 (n : Int) : List (Bool × Bool) := [(decide (32768 ≤ IntKind.i64.wrap n), true),
 (IntKind.u16.wrap (IntKind.i8.wrap n) != n, false),
 (decide (IntKind.i64.wrap (IntKind.i64.wrap n - 65536) < -128) == false, true),
 (decide (IntKind.i64.wrap (IntKind.i64.wrap n - 65536) < -128) == false, true),
 (decide (IntKind.i64.wrap (IntKind.i64.wrap n - 65536) < -128), false),
 (decide (127 < IntKind.i64.wrap (IntKind.i64.wrap n - 65536)), false)]
noncomputable def near48V4 (n : Int) : Value := Value.bool true
theorem near48R4 (n : Int) : (Ly.run (nctx) 20000 [(16, true), (56, false), (126, true), (0, true), (0, false), (0, false)] (Ly.start Try.f5 ([Value.int
    IntKind.i64 48,
  Value.int IntKind.u16 n]) H0)).out? = some (near48T4 n, near48V4 n) := by kernel_rfl
noncomputable def near48T6 (n : Int) : List (Bool × Bool) := [(decide (32768 ≤ IntKind.i64.wrap n), false),
 (IntKind.u16.wrap (IntKind.i8.wrap n) != n, true),
 (decide (IntKind.i64.wrap n < -128) == false, true),
 (decide (IntKind.i64.wrap n < -128) == false, true),
 (decide (IntKind.i64.wrap n < -128), false),
 (decide (127 < IntKind.i64.wrap n), true)]
noncomputable def near48V6 (n : Int) : Value := Value.bool true
theorem near48R6 (n : Int) : (Ly.run (nctx) 20000 [(16, false), (56, true), (83, true), (0, true), (0, false), (0, true)] (Ly.start Try.f5 ([Value.int
    IntKind.i64 48,
  Value.int IntKind.u16 n]) H0)).out? = some (near48T6 n, near48V6 n) := by kernel_rfl
noncomputable def near48T10 (n : Int) : List (Bool × Bool) := [(decide (32768 ≤ IntKind.i64.wrap n), false),
 (IntKind.u16.wrap (IntKind.i8.wrap n) != n, false),
 (decide (IntKind.i64.wrap n < -128) == false, true),
 (decide (IntKind.i64.wrap n < -128) == false, true),
 (decide (IntKind.i64.wrap n < -128), false),
 (decide (127 < IntKind.i64.wrap n), false)]
noncomputable def near48V10 (n : Int) : Value := Value.bool true
theorem near48R10 (n : Int) : (Ly.run (nctx) 20000 [(16, false), (56, false), (126, true), (0, true), (0, false), (0, false)] (Ly.start Try.f5 ([Value.int
    IntKind.i64 48,
  Value.int IntKind.u16 n]) H0)).out? = some (near48T10 n, near48V10 n) := by kernel_rfl
noncomputable def near49T2 (n : Int) : List (Bool × Bool) := [(decide (32768 ≤ IntKind.i64.wrap n), true),
 (IntKind.u16.wrap (IntKind.i8.wrap n) != n, true),
 (decide (IntKind.i64.wrap (IntKind.i64.wrap n - 65536) < -128) == false, false),
 (decide (IntKind.i64.wrap (IntKind.i64.wrap n - 65536) < -128) == false, false),
 (decide (IntKind.i64.wrap (IntKind.i64.wrap n - 65536) < -128), true)]
noncomputable def near49V2 (n : Int) : Value := Value.bool true
theorem near49R2 (n : Int) : (Ly.run (nctx) 20000 [(16, true), (56, true), (83, false), (0, false), (0, true)] (Ly.start Try.f5 ([Value.int
    IntKind.i64 49,
  Value.int IntKind.u16 n]) H0)).out? = some (near49T2 n, near49V2 n) := by kernel_rfl
noncomputable def near49T4 (n : Int) : List (Bool × Bool) := [(decide (32768 ≤ IntKind.i64.wrap n), true),
 (IntKind.u16.wrap (IntKind.i8.wrap n) != n, false),
 (decide (IntKind.i64.wrap (IntKind.i64.wrap n - 65536) < -128) == false, true),
 (decide (IntKind.i64.wrap (IntKind.i64.wrap n - 65536) < -128) == false, true),
 (decide (IntKind.i64.wrap (IntKind.i64.wrap n - 65536) < -128), false),
 (decide (127 < IntKind.i64.wrap (IntKind.i64.wrap n - 65536)), false)]
noncomputable def near49V4 (n : Int) : Value := Value.bool true
theorem near49R4 (n : Int) : (Ly.run (nctx) 20000 [(16, true), (56, false), (126, true), (0, true), (0, false), (0, false)] (Ly.start Try.f5 ([Value.int
    IntKind.i64 49,
  Value.int IntKind.u16 n]) H0)).out? = some (near49T4 n, near49V4 n) := by kernel_rfl
noncomputable def near49T6 (n : Int) : List (Bool × Bool) := [(decide (32768 ≤ IntKind.i64.wrap n), false),
 (IntKind.u16.wrap (IntKind.i8.wrap n) != n, true),
 (decide (IntKind.i64.wrap n < -128) == false, true),
 (decide (IntKind.i64.wrap n < -128) == false, true),
 (decide (IntKind.i64.wrap n < -128), false),
 (decide (127 < IntKind.i64.wrap n), true)]
noncomputable def near49V6 (n : Int) : Value := Value.bool true
theorem near49R6 (n : Int) : (Ly.run (nctx) 20000 [(16, false), (56, true), (83, true), (0, true), (0, false), (0, true)] (Ly.start Try.f5 ([Value.int
    IntKind.i64 49,
  Value.int IntKind.u16 n]) H0)).out? = some (near49T6 n, near49V6 n) := by kernel_rfl
noncomputable def near49T10 (n : Int) : List (Bool × Bool) := [(decide (32768 ≤ IntKind.i64.wrap n), false),
 (IntKind.u16.wrap (IntKind.i8.wrap n) != n, false),
 (decide (IntKind.i64.wrap n < -128) == false, true),
 (decide (IntKind.i64.wrap n < -128) == false, true),
 (decide (IntKind.i64.wrap n < -128), false),
 (decide (127 < IntKind.i64.wrap n), false)]
noncomputable def near49V10 (n : Int) : Value := Value.bool true
theorem near49R10 (n : Int) : (Ly.run (nctx) 20000 [(16, false), (56, false), (126, true), (0, true), (0, false), (0, false)] (Ly.start Try.f5 ([Value.int
    IntKind.i64 49,
  Value.int IntKind.u16 n]) H0)).out? = some (near49T10 n, near49V10 n) := by kernel_rfl
noncomputable def near50T2 (n : Int) : List (Bool × Bool) := [(decide (32768 ≤ IntKind.i64.wrap n), true),
 (IntKind.u16.wrap (IntKind.i8.wrap n) != n, true),
 (decide (IntKind.i64.wrap (IntKind.i64.wrap n - 65536) < -128) == false, false),
 (decide (IntKind.i64.wrap (IntKind.i64.wrap n - 65536) < -128) == false, false),
 (decide (IntKind.i64.wrap (IntKind.i64.wrap n - 65536) < -128), true)]
noncomputable def near50V2 (n : Int) : Value := Value.bool true
theorem near50R2 (n : Int) : (Ly.run (nctx) 20000 [(16, true), (56, true), (83, false), (0, false), (0, true)] (Ly.start Try.f5 ([Value.int
    IntKind.i64 50,
  Value.int IntKind.u16 n]) H0)).out? = some (near50T2 n, near50V2 n) := by kernel_rfl
noncomputable def near50T4 (n : Int) : List (Bool × Bool) := [(decide (32768 ≤ IntKind.i64.wrap n), true),
 (IntKind.u16.wrap (IntKind.i8.wrap n) != n, false),
 (decide (IntKind.i64.wrap (IntKind.i64.wrap n - 65536) < -128) == false, true),
 (decide (IntKind.i64.wrap (IntKind.i64.wrap n - 65536) < -128) == false, true),
 (decide (IntKind.i64.wrap (IntKind.i64.wrap n - 65536) < -128), false),
 (decide (127 < IntKind.i64.wrap (IntKind.i64.wrap n - 65536)), false)]
noncomputable def near50V4 (n : Int) : Value := Value.bool true
theorem near50R4 (n : Int) : (Ly.run (nctx) 20000 [(16, true), (56, false), (126, true), (0, true), (0, false), (0, false)] (Ly.start Try.f5 ([Value.int
    IntKind.i64 50,
  Value.int IntKind.u16 n]) H0)).out? = some (near50T4 n, near50V4 n) := by kernel_rfl
noncomputable def near50T6 (n : Int) : List (Bool × Bool) := [(decide (32768 ≤ IntKind.i64.wrap n), false),
 (IntKind.u16.wrap (IntKind.i8.wrap n) != n, true),
 (decide (IntKind.i64.wrap n < -128) == false, true),
 (decide (IntKind.i64.wrap n < -128) == false, true),
 (decide (IntKind.i64.wrap n < -128), false),
 (decide (127 < IntKind.i64.wrap n), true)]
noncomputable def near50V6 (n : Int) : Value := Value.bool true
theorem near50R6 (n : Int) : (Ly.run (nctx) 20000 [(16, false), (56, true), (83, true), (0, true), (0, false), (0, true)] (Ly.start Try.f5 ([Value.int
    IntKind.i64 50,
  Value.int IntKind.u16 n]) H0)).out? = some (near50T6 n, near50V6 n) := by kernel_rfl
noncomputable def near50T10 (n : Int) : List (Bool × Bool) := [(decide (32768 ≤ IntKind.i64.wrap n), false),
 (IntKind.u16.wrap (IntKind.i8.wrap n) != n, false),
 (decide (IntKind.i64.wrap n < -128) == false, true),
 (decide (IntKind.i64.wrap n < -128) == false, true),
 (decide (IntKind.i64.wrap n < -128), false),
 (decide (127 < IntKind.i64.wrap n), false)]
noncomputable def near50V10 (n : Int) : Value := Value.bool true
theorem near50R10 (n : Int) : (Ly.run (nctx) 20000 [(16, false), (56, false), (126, true), (0, true), (0, false), (0, false)] (Ly.start Try.f5 ([Value.int
    IntKind.i64 50,
  Value.int IntKind.u16 n]) H0)).out? = some (near50T10 n, near50V10 n) := by kernel_rfl
noncomputable def near51T2 (n : Int) : List (Bool × Bool) := [(decide (32768 ≤ IntKind.i64.wrap n), true),
 (IntKind.u16.wrap (IntKind.i8.wrap n) != n, true),
 (decide (IntKind.i64.wrap (IntKind.i64.wrap n - 65536) < -128) == false, false),
 (decide (IntKind.i64.wrap (IntKind.i64.wrap n - 65536) < -128) == false, false),
 (decide (IntKind.i64.wrap (IntKind.i64.wrap n - 65536) < -128), true)]
noncomputable def near51V2 (n : Int) : Value := Value.bool true
theorem near51R2 (n : Int) : (Ly.run (nctx) 20000 [(16, true), (56, true), (83, false), (0, false), (0, true)] (Ly.start Try.f5 ([Value.int
    IntKind.i64 51,
  Value.int IntKind.u16 n]) H0)).out? = some (near51T2 n, near51V2 n) := by kernel_rfl
noncomputable def near51T4 (n : Int) : List (Bool × Bool) := [(decide (32768 ≤ IntKind.i64.wrap n), true),
 (IntKind.u16.wrap (IntKind.i8.wrap n) != n, false),
 (decide (IntKind.i64.wrap (IntKind.i64.wrap n - 65536) < -128) == false, true),
 (decide (IntKind.i64.wrap (IntKind.i64.wrap n - 65536) < -128) == false, true),
 (decide (IntKind.i64.wrap (IntKind.i64.wrap n - 65536) < -128), false),
 (decide (127 < IntKind.i64.wrap (IntKind.i64.wrap n - 65536)), false)]
noncomputable def near51V4 (n : Int) : Value := Value.bool true
theorem near51R4 (n : Int) : (Ly.run (nctx) 20000 [(16, true), (56, false), (126, true), (0, true), (0, false), (0, false)] (Ly.start Try.f5 ([Value.int
    IntKind.i64 51,
  Value.int IntKind.u16 n]) H0)).out? = some (near51T4 n, near51V4 n) := by kernel_rfl
noncomputable def near51T6 (n : Int) : List (Bool × Bool) := [(decide (32768 ≤ IntKind.i64.wrap n), false),
 (IntKind.u16.wrap (IntKind.i8.wrap n) != n, true),
 (decide (IntKind.i64.wrap n < -128) == false, true),
 (decide (IntKind.i64.wrap n < -128) == false, true),
 (decide (IntKind.i64.wrap n < -128), false),
 (decide (127 < IntKind.i64.wrap n), true)]
noncomputable def near51V6 (n : Int) : Value := Value.bool true
theorem near51R6 (n : Int) : (Ly.run (nctx) 20000 [(16, false), (56, true), (83, true), (0, true), (0, false), (0, true)] (Ly.start Try.f5 ([Value.int
    IntKind.i64 51,
  Value.int IntKind.u16 n]) H0)).out? = some (near51T6 n, near51V6 n) := by kernel_rfl
noncomputable def near51T10 (n : Int) : List (Bool × Bool) := [(decide (32768 ≤ IntKind.i64.wrap n), false),
 (IntKind.u16.wrap (IntKind.i8.wrap n) != n, false),
 (decide (IntKind.i64.wrap n < -128) == false, true),
 (decide (IntKind.i64.wrap n < -128) == false, true),
 (decide (IntKind.i64.wrap n < -128), false),
 (decide (127 < IntKind.i64.wrap n), false)]
noncomputable def near51V10 (n : Int) : Value := Value.bool true
theorem near51R10 (n : Int) : (Ly.run (nctx) 20000 [(16, false), (56, false), (126, true), (0, true), (0, false), (0, false)] (Ly.start Try.f5 ([Value.int
    IntKind.i64 51,
  Value.int IntKind.u16 n]) H0)).out? = some (near51T10 n, near51V10 n) := by kernel_rfl
noncomputable def nearXT0 (op : Int) (n : Int) : List (Bool × Bool) := [((op != 33) == true, true),
 ((op != 33) == true, true),
 (decide (42 ≤ op) == true, true),
 (decide (42 ≤ op) == true, true),
 (decide (42 ≤ op), true),
 (decide (op ≤ 45) == false, true),
 (decide (op ≤ 45) == false, true),
 (decide (op ≤ 45) == false, true),
 (decide (48 ≤ op) == true, true),
 (decide (48 ≤ op) == true, true),
 (decide (op ≤ 45) == false, true),
 (decide (48 ≤ op), true),
 (decide (op ≤ 45), false),
 ((op != 33) == true, true),
 (op != 33, true),
 (!decide (op ≤ 51), true)]
noncomputable def nearXV0 (op : Int) (n : Int) : Value := Value.bool true
theorem nearXR0 (op : Int) (n : Int) : (Ly.run (zctx) 20000 [(0, true), (0, true), (0, true), (0, true), (0, true), (0, true), (0, true), (0, true), (0, true), (0, true), (0, true), (0, true), (0, false), (0, true), (0, true), (0, true)] (Ly.start Try.f5 ([Value.int
    IntKind.i64 op,
  Value.int IntKind.u16 n]) H0)).out? = some (nearXT0 op n, nearXV0 op n) := by kernel_rfl
noncomputable def nearXT3 (op : Int) (n : Int) : List (Bool × Bool) := [((op != 33) == true, true),
 ((op != 33) == true, true),
 (decide (42 ≤ op) == true, true),
 (decide (42 ≤ op) == true, true),
 (decide (42 ≤ op), true),
 (decide (op ≤ 45) == false, true),
 (decide (op ≤ 45) == false, true),
 (decide (op ≤ 45) == false, true),
 (decide (48 ≤ op) == true, false),
 (decide (48 ≤ op) == true, false),
 (decide (op ≤ 45) == false, true),
 (decide (48 ≤ op), false),
 (decide (op ≤ 45), false),
 ((op != 33) == true, true),
 (op != 33, true)]
noncomputable def nearXV3 (op : Int) (n : Int) : Value := Value.bool true
theorem nearXR3 (op : Int) (n : Int) : (Ly.run (zctx) 20000 [(0, true), (0, true), (0, true), (0, true), (0, true), (0, true), (0, true), (0, true), (0, false), (0, false), (0, true), (0, false), (0, false), (0, true), (0, true)] (Ly.start Try.f5 ([Value.int
    IntKind.i64 op,
  Value.int IntKind.u16 n]) H0)).out? = some (nearXT3 op n, nearXV3 op n) := by kernel_rfl
noncomputable def nearXT6 (op : Int) (n : Int) : List (Bool × Bool) := [((op != 33) == true, true),
 ((op != 33) == true, true),
 (decide (42 ≤ op) == true, false),
 (decide (42 ≤ op) == true, false),
 (decide (42 ≤ op), false),
 (decide (48 ≤ op) == true, true),
 (decide (48 ≤ op) == true, true),
 (decide (48 ≤ op), true),
 ((op != 33) == true, true),
 (op != 33, true),
 (!decide (op ≤ 51), true)]
noncomputable def nearXV6 (op : Int) (n : Int) : Value := Value.bool true
theorem nearXR6 (op : Int) (n : Int) : (Ly.run (zctx) 20000 [(0, true), (0, true), (0, false), (0, false), (0, false), (3, true), (0, true), (1, true), (1, true), (0, true), (0, true)] (Ly.start Try.f5 ([Value.int
    IntKind.i64 op,
  Value.int IntKind.u16 n]) H0)).out? = some (nearXT6 op n, nearXV6 op n) := by kernel_rfl
noncomputable def nearXT9 (op : Int) (n : Int) : List (Bool × Bool) := [((op != 33) == true, true),
 ((op != 33) == true, true),
 (decide (42 ≤ op) == true, false),
 (decide (42 ≤ op) == true, false),
 (decide (42 ≤ op), false),
 (decide (48 ≤ op) == true, false),
 (decide (48 ≤ op) == true, false),
 (decide (48 ≤ op), false),
 ((op != 33) == true, true),
 (op != 33, true)]
noncomputable def nearXV9 (op : Int) (n : Int) : Value := Value.bool true
theorem nearXR9 (op : Int) (n : Int) : (Ly.run (zctx) 20000 [(0, true), (0, true), (0, false), (0, false), (0, false), (3, false), (0, false), (1, false), (1, true), (0, true)] (Ly.start Try.f5 ([Value.int
    IntKind.i64 op,
  Value.int IntKind.u16 n]) H0)).out? = some (nearXT9 op n, nearXV9 op n) := by kernel_rfl
theorem i64w (n : Int) (h0 : 0 ≤ n) (h1 : n ≤ 65535) : IntKind.i64.wrap n = n := by rw [IntKind.wrap_i64]; omega
theorem i64m (n : Int) (h0 : 0 ≤ n) (h1 : n ≤ 65535) : IntKind.i64.wrap (n - 65536) = n - 65536 := by rw [IntKind.wrap_i64]; omega
theorem i8w (n : Int) : IntKind.i8.wrap n = (n + 128) % 256 - 128 := by
  simp [IntKind.wrap, IntKind.bits, IntKind.signed]
  split <;> omega
theorem near_eq (n : Int) (h0 : 0 ≤ n) (h1 : n ≤ 65535) : IntKind.u16.wrap (IntKind.i8.wrap n) = n ↔ (n ≤ 127 ∨ 65408 ≤ n) := by
  rw [IntKind.wrap_u16, i8w]
  omega
theorem near33_walk (n : Int) (h0 : 0 ≤ n) (h1 : n ≤ 65535) (w : World) : Calls Try.prog 5 #[.int .i64 33, .int .u16 n] w fun e w' => e = .returned (.bool true) ∧ Below w.heap.size w w' := by
  have e1 := i64w n h0 h1
  have e2 := i64m n h0 h1
  have e3 := near_eq n h0 h1
  by_cases c1 : 32768 ≤ n
  · by_cases c2 : 65408 ≤ n
    · exact calls_trust (v := .bool true) nok 20000 _ get5 (by kernel_rfl) (by simp [plainL, plain]) (by simp [plain]) (near33R4 n) (by
        have e4 := e3.2 (.inr c2)
        simp only [near33T4, trusted, e1, e2, e4]; simp; omega) w
    · exact calls_trust (v := .bool true) nok 20000 _ get5 (by kernel_rfl) (by simp [plainL, plain]) (by simp [plain]) (near33R2 n) (by
        have e4 : IntKind.u16.wrap (IntKind.i8.wrap n) ≠ n := fun h => by have := e3.1 h; omega
        simp only [near33T2, trusted, e1, e2]; simp [e4]; omega) w
  · by_cases c2 : n ≤ 127
    · exact calls_trust (v := .bool true) nok 20000 _ get5 (by kernel_rfl) (by simp [plainL, plain]) (by simp [plain]) (near33R10 n) (by
        have e4 := e3.2 (.inl c2)
        simp only [near33T10, trusted, e1, e2, e4]; simp; omega) w
    · exact calls_trust (v := .bool true) nok 20000 _ get5 (by kernel_rfl) (by simp [plainL, plain]) (by simp [plain]) (near33R6 n) (by
        have e4 : IntKind.u16.wrap (IntKind.i8.wrap n) ≠ n := fun h => by have := e3.1 h; omega
        simp only [near33T6, trusted, e1, e2]; simp [e4]; omega) w
theorem near42_walk (n : Int) (h0 : 0 ≤ n) (h1 : n ≤ 65535) (w : World) : Calls Try.prog 5 #[.int .i64 42, .int .u16 n] w fun e w' => e = .returned (.bool true) ∧ Below w.heap.size w w' := by
  have e1 := i64w n h0 h1
  have e2 := i64m n h0 h1
  have e3 := near_eq n h0 h1
  by_cases c1 : 32768 ≤ n
  · by_cases c2 : 65408 ≤ n
    · exact calls_trust (v := .bool true) nok 20000 _ get5 (by kernel_rfl) (by simp [plainL, plain]) (by simp [plain]) (near42R4 n) (by
        have e4 := e3.2 (.inr c2)
        simp only [near42T4, trusted, e1, e2, e4]; simp; omega) w
    · exact calls_trust (v := .bool true) nok 20000 _ get5 (by kernel_rfl) (by simp [plainL, plain]) (by simp [plain]) (near42R2 n) (by
        have e4 : IntKind.u16.wrap (IntKind.i8.wrap n) ≠ n := fun h => by have := e3.1 h; omega
        simp only [near42T2, trusted, e1, e2]; simp [e4]; omega) w
  · by_cases c2 : n ≤ 127
    · exact calls_trust (v := .bool true) nok 20000 _ get5 (by kernel_rfl) (by simp [plainL, plain]) (by simp [plain]) (near42R10 n) (by
        have e4 := e3.2 (.inl c2)
        simp only [near42T10, trusted, e1, e2, e4]; simp; omega) w
    · exact calls_trust (v := .bool true) nok 20000 _ get5 (by kernel_rfl) (by simp [plainL, plain]) (by simp [plain]) (near42R6 n) (by
        have e4 : IntKind.u16.wrap (IntKind.i8.wrap n) ≠ n := fun h => by have := e3.1 h; omega
        simp only [near42T6, trusted, e1, e2]; simp [e4]; omega) w
theorem near43_walk (n : Int) (h0 : 0 ≤ n) (h1 : n ≤ 65535) (w : World) : Calls Try.prog 5 #[.int .i64 43, .int .u16 n] w fun e w' => e = .returned (.bool true) ∧ Below w.heap.size w w' := by
  have e1 := i64w n h0 h1
  have e2 := i64m n h0 h1
  have e3 := near_eq n h0 h1
  by_cases c1 : 32768 ≤ n
  · by_cases c2 : 65408 ≤ n
    · exact calls_trust (v := .bool true) nok 20000 _ get5 (by kernel_rfl) (by simp [plainL, plain]) (by simp [plain]) (near43R4 n) (by
        have e4 := e3.2 (.inr c2)
        simp only [near43T4, trusted, e1, e2, e4]; simp; omega) w
    · exact calls_trust (v := .bool true) nok 20000 _ get5 (by kernel_rfl) (by simp [plainL, plain]) (by simp [plain]) (near43R2 n) (by
        have e4 : IntKind.u16.wrap (IntKind.i8.wrap n) ≠ n := fun h => by have := e3.1 h; omega
        simp only [near43T2, trusted, e1, e2]; simp [e4]; omega) w
  · by_cases c2 : n ≤ 127
    · exact calls_trust (v := .bool true) nok 20000 _ get5 (by kernel_rfl) (by simp [plainL, plain]) (by simp [plain]) (near43R10 n) (by
        have e4 := e3.2 (.inl c2)
        simp only [near43T10, trusted, e1, e2, e4]; simp; omega) w
    · exact calls_trust (v := .bool true) nok 20000 _ get5 (by kernel_rfl) (by simp [plainL, plain]) (by simp [plain]) (near43R6 n) (by
        have e4 : IntKind.u16.wrap (IntKind.i8.wrap n) ≠ n := fun h => by have := e3.1 h; omega
        simp only [near43T6, trusted, e1, e2]; simp [e4]; omega) w
theorem near44_walk (n : Int) (h0 : 0 ≤ n) (h1 : n ≤ 65535) (w : World) : Calls Try.prog 5 #[.int .i64 44, .int .u16 n] w fun e w' => e = .returned (.bool true) ∧ Below w.heap.size w w' := by
  have e1 := i64w n h0 h1
  have e2 := i64m n h0 h1
  have e3 := near_eq n h0 h1
  by_cases c1 : 32768 ≤ n
  · by_cases c2 : 65408 ≤ n
    · exact calls_trust (v := .bool true) nok 20000 _ get5 (by kernel_rfl) (by simp [plainL, plain]) (by simp [plain]) (near44R4 n) (by
        have e4 := e3.2 (.inr c2)
        simp only [near44T4, trusted, e1, e2, e4]; simp; omega) w
    · exact calls_trust (v := .bool true) nok 20000 _ get5 (by kernel_rfl) (by simp [plainL, plain]) (by simp [plain]) (near44R2 n) (by
        have e4 : IntKind.u16.wrap (IntKind.i8.wrap n) ≠ n := fun h => by have := e3.1 h; omega
        simp only [near44T2, trusted, e1, e2]; simp [e4]; omega) w
  · by_cases c2 : n ≤ 127
    · exact calls_trust (v := .bool true) nok 20000 _ get5 (by kernel_rfl) (by simp [plainL, plain]) (by simp [plain]) (near44R10 n) (by
        have e4 := e3.2 (.inl c2)
        simp only [near44T10, trusted, e1, e2, e4]; simp; omega) w
    · exact calls_trust (v := .bool true) nok 20000 _ get5 (by kernel_rfl) (by simp [plainL, plain]) (by simp [plain]) (near44R6 n) (by
        have e4 : IntKind.u16.wrap (IntKind.i8.wrap n) ≠ n := fun h => by have := e3.1 h; omega
        simp only [near44T6, trusted, e1, e2]; simp [e4]; omega) w
theorem near45_walk (n : Int) (h0 : 0 ≤ n) (h1 : n ≤ 65535) (w : World) : Calls Try.prog 5 #[.int .i64 45, .int .u16 n] w fun e w' => e = .returned (.bool true) ∧ Below w.heap.size w w' := by
  have e1 := i64w n h0 h1
  have e2 := i64m n h0 h1
  have e3 := near_eq n h0 h1
  by_cases c1 : 32768 ≤ n
  · by_cases c2 : 65408 ≤ n
    · exact calls_trust (v := .bool true) nok 20000 _ get5 (by kernel_rfl) (by simp [plainL, plain]) (by simp [plain]) (near45R4 n) (by
        have e4 := e3.2 (.inr c2)
        simp only [near45T4, trusted, e1, e2, e4]; simp; omega) w
    · exact calls_trust (v := .bool true) nok 20000 _ get5 (by kernel_rfl) (by simp [plainL, plain]) (by simp [plain]) (near45R2 n) (by
        have e4 : IntKind.u16.wrap (IntKind.i8.wrap n) ≠ n := fun h => by have := e3.1 h; omega
        simp only [near45T2, trusted, e1, e2]; simp [e4]; omega) w
  · by_cases c2 : n ≤ 127
    · exact calls_trust (v := .bool true) nok 20000 _ get5 (by kernel_rfl) (by simp [plainL, plain]) (by simp [plain]) (near45R10 n) (by
        have e4 := e3.2 (.inl c2)
        simp only [near45T10, trusted, e1, e2, e4]; simp; omega) w
    · exact calls_trust (v := .bool true) nok 20000 _ get5 (by kernel_rfl) (by simp [plainL, plain]) (by simp [plain]) (near45R6 n) (by
        have e4 : IntKind.u16.wrap (IntKind.i8.wrap n) ≠ n := fun h => by have := e3.1 h; omega
        simp only [near45T6, trusted, e1, e2]; simp [e4]; omega) w
theorem near48_walk (n : Int) (h0 : 0 ≤ n) (h1 : n ≤ 65535) (w : World) : Calls Try.prog 5 #[.int .i64 48, .int .u16 n] w fun e w' => e = .returned (.bool true) ∧ Below w.heap.size w w' := by
  have e1 := i64w n h0 h1
  have e2 := i64m n h0 h1
  have e3 := near_eq n h0 h1
  by_cases c1 : 32768 ≤ n
  · by_cases c2 : 65408 ≤ n
    · exact calls_trust (v := .bool true) nok 20000 _ get5 (by kernel_rfl) (by simp [plainL, plain]) (by simp [plain]) (near48R4 n) (by
        have e4 := e3.2 (.inr c2)
        simp only [near48T4, trusted, e1, e2, e4]; simp; omega) w
    · exact calls_trust (v := .bool true) nok 20000 _ get5 (by kernel_rfl) (by simp [plainL, plain]) (by simp [plain]) (near48R2 n) (by
        have e4 : IntKind.u16.wrap (IntKind.i8.wrap n) ≠ n := fun h => by have := e3.1 h; omega
        simp only [near48T2, trusted, e1, e2]; simp [e4]; omega) w
  · by_cases c2 : n ≤ 127
    · exact calls_trust (v := .bool true) nok 20000 _ get5 (by kernel_rfl) (by simp [plainL, plain]) (by simp [plain]) (near48R10 n) (by
        have e4 := e3.2 (.inl c2)
        simp only [near48T10, trusted, e1, e2, e4]; simp; omega) w
    · exact calls_trust (v := .bool true) nok 20000 _ get5 (by kernel_rfl) (by simp [plainL, plain]) (by simp [plain]) (near48R6 n) (by
        have e4 : IntKind.u16.wrap (IntKind.i8.wrap n) ≠ n := fun h => by have := e3.1 h; omega
        simp only [near48T6, trusted, e1, e2]; simp [e4]; omega) w
theorem near49_walk (n : Int) (h0 : 0 ≤ n) (h1 : n ≤ 65535) (w : World) : Calls Try.prog 5 #[.int .i64 49, .int .u16 n] w fun e w' => e = .returned (.bool true) ∧ Below w.heap.size w w' := by
  have e1 := i64w n h0 h1
  have e2 := i64m n h0 h1
  have e3 := near_eq n h0 h1
  by_cases c1 : 32768 ≤ n
  · by_cases c2 : 65408 ≤ n
    · exact calls_trust (v := .bool true) nok 20000 _ get5 (by kernel_rfl) (by simp [plainL, plain]) (by simp [plain]) (near49R4 n) (by
        have e4 := e3.2 (.inr c2)
        simp only [near49T4, trusted, e1, e2, e4]; simp; omega) w
    · exact calls_trust (v := .bool true) nok 20000 _ get5 (by kernel_rfl) (by simp [plainL, plain]) (by simp [plain]) (near49R2 n) (by
        have e4 : IntKind.u16.wrap (IntKind.i8.wrap n) ≠ n := fun h => by have := e3.1 h; omega
        simp only [near49T2, trusted, e1, e2]; simp [e4]; omega) w
  · by_cases c2 : n ≤ 127
    · exact calls_trust (v := .bool true) nok 20000 _ get5 (by kernel_rfl) (by simp [plainL, plain]) (by simp [plain]) (near49R10 n) (by
        have e4 := e3.2 (.inl c2)
        simp only [near49T10, trusted, e1, e2, e4]; simp; omega) w
    · exact calls_trust (v := .bool true) nok 20000 _ get5 (by kernel_rfl) (by simp [plainL, plain]) (by simp [plain]) (near49R6 n) (by
        have e4 : IntKind.u16.wrap (IntKind.i8.wrap n) ≠ n := fun h => by have := e3.1 h; omega
        simp only [near49T6, trusted, e1, e2]; simp [e4]; omega) w
theorem near50_walk (n : Int) (h0 : 0 ≤ n) (h1 : n ≤ 65535) (w : World) : Calls Try.prog 5 #[.int .i64 50, .int .u16 n] w fun e w' => e = .returned (.bool true) ∧ Below w.heap.size w w' := by
  have e1 := i64w n h0 h1
  have e2 := i64m n h0 h1
  have e3 := near_eq n h0 h1
  by_cases c1 : 32768 ≤ n
  · by_cases c2 : 65408 ≤ n
    · exact calls_trust (v := .bool true) nok 20000 _ get5 (by kernel_rfl) (by simp [plainL, plain]) (by simp [plain]) (near50R4 n) (by
        have e4 := e3.2 (.inr c2)
        simp only [near50T4, trusted, e1, e2, e4]; simp; omega) w
    · exact calls_trust (v := .bool true) nok 20000 _ get5 (by kernel_rfl) (by simp [plainL, plain]) (by simp [plain]) (near50R2 n) (by
        have e4 : IntKind.u16.wrap (IntKind.i8.wrap n) ≠ n := fun h => by have := e3.1 h; omega
        simp only [near50T2, trusted, e1, e2]; simp [e4]; omega) w
  · by_cases c2 : n ≤ 127
    · exact calls_trust (v := .bool true) nok 20000 _ get5 (by kernel_rfl) (by simp [plainL, plain]) (by simp [plain]) (near50R10 n) (by
        have e4 := e3.2 (.inl c2)
        simp only [near50T10, trusted, e1, e2, e4]; simp; omega) w
    · exact calls_trust (v := .bool true) nok 20000 _ get5 (by kernel_rfl) (by simp [plainL, plain]) (by simp [plain]) (near50R6 n) (by
        have e4 : IntKind.u16.wrap (IntKind.i8.wrap n) ≠ n := fun h => by have := e3.1 h; omega
        simp only [near50T6, trusted, e1, e2]; simp [e4]; omega) w
theorem near51_walk (n : Int) (h0 : 0 ≤ n) (h1 : n ≤ 65535) (w : World) : Calls Try.prog 5 #[.int .i64 51, .int .u16 n] w fun e w' => e = .returned (.bool true) ∧ Below w.heap.size w w' := by
  have e1 := i64w n h0 h1
  have e2 := i64m n h0 h1
  have e3 := near_eq n h0 h1
  by_cases c1 : 32768 ≤ n
  · by_cases c2 : 65408 ≤ n
    · exact calls_trust (v := .bool true) nok 20000 _ get5 (by kernel_rfl) (by simp [plainL, plain]) (by simp [plain]) (near51R4 n) (by
        have e4 := e3.2 (.inr c2)
        simp only [near51T4, trusted, e1, e2, e4]; simp; omega) w
    · exact calls_trust (v := .bool true) nok 20000 _ get5 (by kernel_rfl) (by simp [plainL, plain]) (by simp [plain]) (near51R2 n) (by
        have e4 : IntKind.u16.wrap (IntKind.i8.wrap n) ≠ n := fun h => by have := e3.1 h; omega
        simp only [near51T2, trusted, e1, e2]; simp [e4]; omega) w
  · by_cases c2 : n ≤ 127
    · exact calls_trust (v := .bool true) nok 20000 _ get5 (by kernel_rfl) (by simp [plainL, plain]) (by simp [plain]) (near51R10 n) (by
        have e4 := e3.2 (.inl c2)
        simp only [near51T10, trusted, e1, e2, e4]; simp; omega) w
    · exact calls_trust (v := .bool true) nok 20000 _ get5 (by kernel_rfl) (by simp [plainL, plain]) (by simp [plain]) (near51R6 n) (by
        have e4 : IntKind.u16.wrap (IntKind.i8.wrap n) ≠ n := fun h => by have := e3.1 h; omega
        simp only [near51T6, trusted, e1, e2]; simp [e4]; omega) w
theorem near_other (op n : Int) (h : op ≠ 33) (hc : ¬ (42 ≤ op ∧ op ≤ 45 ∨ 48 ≤ op ∧ op ≤ 51)) (w : World) : Calls Try.prog 5 #[.int .i64 op, .int .u16 n] w fun e w' => e = .returned (.bool true) ∧ Below w.heap.size w w' := by
  by_cases c1 : 42 ≤ op
  · by_cases c2 : 48 ≤ op
    · exact calls_trust (v := .bool true) zok 20000 _ getz5 (by kernel_rfl) (by simp [plainL, plain]) (by simp [plain]) (nearXR0 op n) (by simp [nearXT0, trusted]; omega) w
    · exact calls_trust (v := .bool true) zok 20000 _ getz5 (by kernel_rfl) (by simp [plainL, plain]) (by simp [plain]) (nearXR3 op n) (by simp [nearXT3, trusted]; omega) w
  · exact calls_trust (v := .bool true) zok 20000 _ getz5 (by kernel_rfl) (by simp [plainL, plain]) (by simp [plain]) (nearXR9 op n) (by simp [nearXT9, trusted]; omega) w
theorem near_walk (W : World) (v0 v1 : Value) (h0 : CkOk W (.int .i64) v0) (h1 : CkOk W (.int .u16) v1) : Calls Try.prog 5 #[v0, v1] W fun e W' => e = .returned (.bool true) ∧ Below W.heap.size W W' := by
  simp only [CkOk] at h0 h1
  obtain ⟨op, rfl, _⟩ := h0
  obtain ⟨n, rfl, wn⟩ := h1
  have hn := bounds_u16 wn
  by_cases c : op = 33 ∨ (42 ≤ op ∧ op ≤ 45 ∨ 48 ≤ op ∧ op ≤ 51)
  · have : op = 33 ∨ op = 42 ∨ op = 43 ∨ op = 44 ∨ op = 45 ∨ op = 48 ∨ op = 49 ∨ op = 50 ∨ op = 51 := by omega
    rcases this with rfl | rfl | rfl | rfl | rfl | rfl | rfl | rfl | rfl
    · exact near33_walk n hn.1 hn.2 W
    · exact near42_walk n hn.1 hn.2 W
    · exact near43_walk n hn.1 hn.2 W
    · exact near44_walk n hn.1 hn.2 W
    · exact near45_walk n hn.1 hn.2 W
    · exact near48_walk n hn.1 hn.2 W
    · exact near49_walk n hn.1 hn.2 W
    · exact near50_walk n hn.1 hn.2 W
    · exact near51_walk n hn.1 hn.2 W
  · exact near_other op n (by omega) (by omega) W
end Go.Proofs.Ytkemllgkkngcjaa
