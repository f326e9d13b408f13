/- Contexts by own runs; the chapter's example. -/
import Derived.Test.YtkoeiednpbedlaaDoorZj
import Derived.KernelRfl
namespace Go.Proofs.YtkoeiednpbedlaaDoor
open Go Go.Ly Go.RowKit
noncomputable def zctx2 : Ctx := zctx1 |>.withC 36 (conTree zctx1 300 36) |>.withC 53 (conTree zctx1 300 53) |>.withC 54 (conTree zctx1 300 54) |>.withC 18 (conTree zctx1 3000 18) |>.withC 19 (conTree zctx1 3000 19) |>.withC 20 (conTree zctx1 3000 20)
theorem zctx2_ok : zctx2.Ok Tryd.prog := (((((zctx1_ok.byCon zctx1_ok 300 36).byCon zctx1_ok 300 53).byCon zctx1_ok 300 54).byCon zctx1_ok 3000 18).byCon zctx1_ok 3000 19).byCon zctx1_ok 3000 20
noncomputable def zctx3 : Ctx := zctx2 |>.withH 31 (hconTree zctx2 3000 31) |>.withC 10 (conTree zctx2 3000 10)
theorem zctx3_ok : zctx3.Ok Tryd.prog := (zctx2_ok.byRun zctx2_ok 3000 31).byCon zctx2_ok 3000 10
noncomputable def zctx4 : Ctx := zctx3 |>.withC 8 (conTree zctx3 6000 8) |>.withC 9 (conTree zctx3 20000 9) |>.withH 11 (hconTree zctx3 6000 11) |>.withH 12 (hconTree zctx3 20000 12) |>.withC 14 (conTree zctx3 6000 14) |>.withC 15 (conTree zctx3 6000 15) |>.withC 16 (conTree zctx3 6000 16) |>.withC 17 (conTree zctx3 6000 17)
theorem zctx4_ok : zctx4.Ok Tryd.prog := (((((((zctx3_ok.byCon zctx3_ok 6000 8).byCon zctx3_ok 20000 9).byRun zctx3_ok 6000 11).byRun zctx3_ok 20000 12).byCon zctx3_ok 6000 14).byCon zctx3_ok 6000 15).byCon zctx3_ok 6000 16).byCon zctx3_ok 6000 17
end Go.Proofs.YtkoeiednpbedlaaDoor
