/- Contexts for laws: small functions by their own runs; what makes a machine. -/
import Derived.Test.YtnknopebjdgdjaaFg
import Derived.Test.YtnknopebjdgdjaaLyX
import Derived.KernelRfl
import Derived.Laws.BitsLemmas
import Derived.Laws.BitsAllLaws
namespace Go.Proofs.Ytnknopebjdgdjaa
open Go Go.Ly Go.RowKit
set_option linter.unusedVariables false
set_option linter.unusedSimpArgs false
noncomputable def ctx1 : Ctx := yctx |>.withC 41 (conTree yctx 600 41) |>.withC 38 (conTree yctx 600 38) |>.withC 42 (conTree yctx 300 42) |>.withC 43 (conTree yctx 300 43) |>.withC 73 (conTree yctx 300 73) |>.withC 13 (conTree yctx 300 13) |>.withC 14 (conTree yctx 300 14) |>.withC 82 (conTree yctx 300 82) |>.withC 81 (conTree yctx 300 81) |>.withC 72 (conTree yctx 300 72) |>.withC 76 (conTree yctx 300 76)
theorem ctx1_ok : ctx1.Ok Try.prog := (((((((((((yok.byCon yok 600 41).byCon yok 600 38).byCon yok 300 42).byCon yok 300 43).byCon yok 300 73).byCon yok 300 13).byCon yok 300 14).byCon yok 300 82).byCon yok 300 81).byCon yok 300 72).byCon yok 300 76)
noncomputable def ctx2 : Ctx := ctx1 |>.withC 45 (conTree ctx1 600 45) |>.withH 74 (hconTree ctx1 300 74) |>.withH 75 (hconTree ctx1 600 75)
theorem ctx2_ok : ctx2.Ok Try.prog := (((ctx1_ok.byCon ctx1_ok 600 45).byRun ctx1_ok 300 74).byRun ctx1_ok 600 75)
noncomputable def ctx3 : Ctx := ctx2 |>.withC 52 (conTree ctx2 600 52) |>.withH 53 (hconTree ctx2 600 53) |>.withH 54 (hconTree ctx2 600 54) |>.withH 55 (hconTree ctx2 600 55) |>.withC 44 (conTree ctx2 600 44) |>.withH 47 (hconTree ctx2 600 47)
theorem ctx3_ok : ctx3.Ok Try.prog := ((((((ctx2_ok.byCon ctx2_ok 600 52).byRun ctx2_ok 600 53).byRun ctx2_ok 600 54).byRun ctx2_ok 600 55).byCon ctx2_ok 600 44).byRun ctx2_ok 600 47)
noncomputable def ctx4 : Ctx := ctx3 |>.withH 46 (hconTree ctx3 600 46) |>.withH 27 (hconTree ctx3 300 27) |>.withH 28 (hconTree ctx3 300 28)
theorem ctx4_ok : ctx4.Ok Try.prog := (((ctx3_ok.byRun ctx3_ok 600 46).byRun ctx3_ok 300 27).byRun ctx3_ok 300 28)
noncomputable def ctx5 : Ctx := ctx4 |>.withH 12 (hconTree ctx4 600 12)
theorem ctx5_ok : ctx5.Ok Try.prog := (ctx4_ok.byRun ctx4_ok 600 12)
/-- lists of bytes that are written out -/
noncomputable def ctxL : Ctx := ctx5 |>.withH 30 (hconTree ctx5 2000 30)
theorem ctxL_ok : ctxL.Ok Try.prog := (ctx5_ok.byRun ctx5_ok 2000 30)
end Go.Proofs.Ytnknopebjdgdjaa
