/- Contexts for laws: what makes a machine, by own runs. -/
import Derived.Test.YtpggoincnebfnaaSc
namespace Go.Proofs.Ytpggoincnebfnaa
open Go Go.Ly Go.RowKit
/-- a list of bytes and their addresses -/
noncomputable def bytes2 (a b : Nat → Int) (n : Nat) : LO := .arg 2 (fun e j => match j with | 0 => .int .u16 (a e) | _ + 1 => .int .u8 (b e)) n
noncomputable def ctx4 : Ctx := ctx3.withH 40 (hconTree ctx3 300 40) |>.withH 41 (hconTree ctx3 300 41)
theorem ctx4_ok : ctx4.Ok Try.prog := (ctx3_ok.byRun ctx3_ok 300 40).byRun ctx3_ok 300 41
noncomputable def ctx5 : Ctx := ctx4.withH 18 (hconTree ctx4 600 18)
theorem ctx5_ok : ctx5.Ok Try.prog := ctx4_ok.byRun ctx4_ok 600 18
/-- lists of bytes that are written out -/
noncomputable def ctxL : Ctx := ctx5.withH 25 (hconTree ctx5 2000 25)
theorem ctxL_ok : ctxL.Ok Try.prog := ctx5_ok.byRun ctx5_ok 2000 25
end Go.Proofs.Ytpggoincnebfnaa
