/- The context of the law Cpu80Opens: pairs by cases of their number. -/
import Derived.Test.YtpggoincnebfnaaSh
import Derived.Test.YtpggoincnebfnaaLyW
namespace Go.Proofs.Ytpggoincnebfnaa
open Go Go.Ly Go.RowKit
noncomputable def ctxB : Ctx := ctxA.withC 23 (byInt 1 (conTree ctx0 600 23) [0, 1, 2, 3]) |>.withC 22 (byInt 1 (conTree ctx0 600 22) [0, 1, 2, 3])
theorem ctxB_ok : ctxB.Ok Try.prog := (ctxA_ok.byCases ctx0_ok 600 23 1 [0, 1, 2, 3]).byCases ctx0_ok 600 22 1 [0, 1, 2, 3]
/-- the argument Start -/
structure Sv where
  r0 : Int
  r1 : Int
  r2 : Int
  r3 : Int
  r4 : Int
  r5 : Int
  r6 : Int
  r7 : Int
  fs : Bool
  fz : Bool
  fx : Bool
  fp : Bool
  fc : Bool
  sp : Int
  pc : Int
  ie : Bool
noncomputable def svV (s : Sv) (i m : Value) : Value := .agg ⟨[.int .u8 s.r0, .int .u8 s.r1, .int .u8 s.r2, .int .u8 s.r3, .int .u8 s.r4, .int .u8 s.r5, .int .u8 s.r6, .int .u8 s.r7,
  .bool s.fs, .bool s.fz, .bool s.fx, .bool s.fp, .bool s.fc, .int .u16 s.sp, .int .u16 s.pc, .bool s.ie, i, m]⟩
noncomputable def nilS : Value := .slice none 0 0
end Go.Proofs.Ytpggoincnebfnaa
