/- The chapter's example: contexts by own runs. -/
import Derived.Test.YtdjmpilegommlaaCy
import Derived.Test.YtdjmpilegommlaaLyX
import Derived.KernelRfl
namespace Go.Proofs.Ytdjmpilegommlaa
open Go Go.Ly Go.RowKit
noncomputable def ctx1 : Ctx := env.bare.withC 20 (conTree env.bare 3000 20) |>.withC 26 (conTree env.bare 300 26) |>.withC 37 (conTree env.bare 600 37) |>.withC 33 (conTree env.bare 300 33)
theorem ctx1_ok : ctx1.Ok Try.prog := ((((Env.bare_ok envOk).byCon (Env.bare_ok envOk) 3000 20).byCon (Env.bare_ok envOk) 300 26).byCon (Env.bare_ok envOk) 600 37).byCon (Env.bare_ok envOk) 300 33
noncomputable def ctx2 : Ctx := ctx1.withC 9 (conTree ctx1 3000 9) |>.withC 11 (conTree ctx1 3000 11) |>.withC 38 (conTree ctx1 600 38) |>.withC 39 (conTree ctx1 600 39) |>.withC 57 (conTree ctx1 6000 57) |>.withH 41 (hconTree ctx1 600 41)
theorem ctx2_ok : ctx2.Ok Try.prog := (((((ctx1_ok.byCon ctx1_ok 3000 9).byCon ctx1_ok 3000 11).byCon ctx1_ok 600 38).byCon ctx1_ok 600 39).byCon ctx1_ok 6000 57).byRun ctx1_ok 600 41
noncomputable def ctx3 : Ctx := ctx2.withH 19 (hconTree ctx2 20000 19)
theorem ctx3_ok : ctx3.Ok Try.prog := ctx2_ok.byRun ctx2_ok 20000 19
end Go.Proofs.Ytdjmpilegommlaa
