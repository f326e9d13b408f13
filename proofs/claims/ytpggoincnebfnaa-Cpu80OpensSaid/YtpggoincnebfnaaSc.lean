/- The context of a machine's step: small functions by closed forms, those that only read by their own runs. -/
import Derived.Test.YtpggoincnebfnaaWd
import Derived.Test.YtpggoincnebfnaaName
import Derived.Test.YtpggoincnebfnaaSize
import Derived.Test.YtpggoincnebfnaaLyW
import Derived.Laws.BitsLemmas
import Derived.Laws.BitsAllLaws
namespace Go.Proofs.Ytpggoincnebfnaa
open Go Go.Ly Go.RowKit
set_option linter.unusedVariables false
set_option linter.unusedSimpArgs false
noncomputable def inw (a : Int) : Bool := decide (0 ≤ a) && decide (a ≤ 65535)
theorem inw_iff (a : Int) : inw a = true ↔ 0 ≤ a ∧ a ≤ 65535 := by unfold inw; rw [Bool.and_eq_true, decide_eq_true_eq, decide_eq_true_eq]
/-! plus, pairOf -/
noncomputable def plusC (l : List Value) : Option (Bool × Value) := match l with
  | [.int .u16 a, .int .i64 n] => some (inw a && (decide (-4 ≤ n) && decide (n ≤ 4)), .int .u16 (IntKind.u16.wrap (a + n)))
  | _ => none
noncomputable def pairC (l : List Value) : Option (Bool × Value) := match l with
  | [.int .u8 h, .int .u8 l] => some (inb h && inb l, .int .u16 (256 * h + l))
  | _ => none
theorem getPlus : env.bare.fn.get 33 = some Try.f33 := by kernel_rfl
theorem getPair : env.bare.fn.get 42 = some Try.f42 := by kernel_rfl
theorem runPlus (a n : Int) : (Ly.run env.bare 100 [] (Ly.start Try.f33 [.int .u16 a, .int .i64 n] H0)).out? = some ([], .int .u16 (IntKind.u16.wrap (bits .and .i64 (IntKind.i64.wrap (IntKind.i64.wrap a + n)) 65535))) := by kernel_rfl
theorem runPair (h l : Int) : (Ly.run env.bare 100 [] (Ly.start Try.f42 [.int .u8 h, .int .u8 l] H0)).out? = some ([], .int .u16 (IntKind.u16.wrap (IntKind.u16.wrap (IntKind.u16.wrap h * 256) + IntKind.u16.wrap l))) := by kernel_rfl
theorem and65535 (n : Int) : bits .and .i64 n 65535 = n % 65536 := by
  have h1 : (BitVec.ofInt 64 65535).toNat = 2 ^ 16 - 1 := by decide
  have key : (BitVec.ofInt 64 n &&& BitVec.ofInt 64 65535).toNat = (n % ((2 ^ 64 : Nat) : Int)).toNat % 2 ^ 16 := by
    rw [BitVec.toNat_and, BitVec.toNat_ofInt, h1, Nat.and_two_pow_sub_one_eq_mod]
  show IntKind.i64.wrap ((BitVec.ofInt 64 n &&& BitVec.ofInt 64 65535).toNat : Nat) = n % 65536
  rw [key, IntKind.wrap_i64]
  omega
theorem ansPlus : Answers Try.prog 33 plusC := by
  intro args g v h hg
  unfold plusC at h
  split at h
  · rename_i a n
    simp only [Option.some.injEq, Prod.mk.injEq] at h
    obtain ⟨rfl, rfl⟩ := h
    simp only [Bool.and_eq_true, inw_iff, decide_eq_true_eq] at hg
    refine ⟨by simp [plain, plainL], by simp [plain], fun w => ?_⟩
    have e : IntKind.u16.wrap (bits .and .i64 (IntKind.i64.wrap (IntKind.i64.wrap a + n)) 65535) = IntKind.u16.wrap (a + n) := by
      rw [and65535, IntKind.wrap_u16, IntKind.wrap_u16, IntKind.wrap_i64, IntKind.wrap_i64]; omega
    rw [← e]
    exact calls_trust (Env.bare_ok envOk) 100 [] getPlus (by kernel_rfl) (by simp [plain, plainL]) (by simp [plain]) (runPlus a n) trivial w
  · cases h
theorem ansPair : Answers Try.prog 42 pairC := by
  intro args g v h hg
  unfold pairC at h
  split at h
  · rename_i a n
    simp only [Option.some.injEq, Prod.mk.injEq] at h
    obtain ⟨rfl, rfl⟩ := h
    simp only [Bool.and_eq_true, inb_iff] at hg
    refine ⟨by simp [plain, plainL], by simp [plain], fun w => ?_⟩
    have e : IntKind.u16.wrap (IntKind.u16.wrap (IntKind.u16.wrap a * 256) + IntKind.u16.wrap n) = 256 * a + n := by
      simp only [IntKind.wrap_u16]; omega
    rw [← e]
    exact calls_trust (Env.bare_ok envOk) 100 [] getPair (by kernel_rfl) (by simp [plain, plainL]) (by simp [plain]) (runPair a n) trivial w
  · cases h
noncomputable def ctx0 : Ctx := xctx.with 33 plusC |>.with 42 pairC |>.with 43 sizeC |>.with 32 sizeC |>.with 73 nameC
theorem ctx0_ok : ctx0.Ok Try.prog := xok.with ansPlus |>.with ansPair |>.with size43_ans |>.with size32_ans |>.with name73_ans
/-- pairs -/
noncomputable def ctx1 : Ctx := ctx0.withC 23 (conTree ctx0 600 23) |>.withC 22 (conTree ctx0 600 22)
theorem ctx1_ok : ctx1.Ok Try.prog := (ctx0_ok.byCon ctx0_ok 600 23).byCon ctx0_ok 600 22
/-- registers -/
noncomputable def ctx2 : Ctx := ctx1.withC 29 (conTree ctx1 600 29) |>.withC 36 (conTree ctx1 600 36)
theorem ctx2_ok : ctx2.Ok Try.prog := (ctx1_ok.byCon ctx1_ok 600 29).byCon ctx1_ok 600 36
/-- bytes that are put: by its own run -/
noncomputable def ctx3 : Ctx := ctx2.withH 58 (hconTree ctx2 600 58)
theorem ctx3_ok : ctx3.Ok Try.prog := ctx2_ok.byRun ctx2_ok 600 58
/-- a run that halts at the call of a function -/
noncomputable def haltAt (C : Ctx) (f : Nat) : Ctx := C.withH f (fun _ _ => .no)
theorem haltAt_ok {C : Ctx} (h : C.Ok Try.prog) (f : Nat) : (haltAt C f).Ok Try.prog := h.withH (fun _ _ => trivial)
/-! ### machines -/
structure Mc where
  r0 : Int
  r1 : Int
  r2 : Int
  r3 : Int
  r4 : Int
  r5 : Int
  r7 : Int
  fs : Bool
  fz : Bool
  fx : Bool
  fp : Bool
  fc : Bool
  sp : Int
  pc : Int
  ie : Bool
  halt : Bool
/-- the program's machine: its cells; memory is block 1; what comes in, what went out: any slices -/
noncomputable def cellsP (m : Mc) (i o : Value) : List Value := [.int .u8 m.r0, .int .u8 m.r1, .int .u8 m.r2, .int .u8 m.r3, .int .u8 m.r4, .int .u8 m.r5, .int .u8 0, .int .u8 m.r7,
  .bool m.fs, .bool m.fz, .bool m.fx, .bool m.fp, .bool m.fc, .int .u16 m.sp, .int .u16 m.pc, .bool m.ie, .bool m.halt, i, o, sl 1 65536]
noncomputable def cellsR (m : Mc) (i o : Value) : List Value := [sl 2 8,
  .bool m.fs, .bool m.fz, .bool m.fx, .bool m.fp, .bool m.fc, .int .u16 m.sp, .int .u16 m.pc, .bool m.ie, .bool m.halt, i, o, sl 1 65536]
noncomputable def regsR (m : Mc) : LO := .row [.int .u8 m.r0, .int .u8 m.r1, .int .u8 m.r2, .int .u8 m.r3, .int .u8 m.r4, .int .u8 m.r5, .int .u8 0, .int .u8 m.r7] 5 1
noncomputable def memL (f : Nat → Int) : LO := .fn 1 (fun e _ => .int .u8 (f e)) 65536 5
noncomputable def ptr (i : Nat) : Value := .pointer (some ⟨i, 0, none⟩)
end Go.Proofs.Ytpggoincnebfnaa
