/- The context of the law Cpu86Opens: byte registers by cases of their number. -/
import Derived.Test.YtnknopebjdgdjaaLo
namespace Go.Proofs.Ytnknopebjdgdjaa
open Go Go.Ly Go.RowKit
noncomputable def ctxB : Ctx := ctxA.withC 13 (byInt 1 (conTree yctx 300 13) [0, 1, 2, 3, 4, 5, 6, 7]) |>.withC 14 (byInt 1 (conTree yctx 300 14) [0, 1, 2, 3, 4, 5, 6, 7])
theorem ctxB_ok : ctxB.Ok Try.prog := (ctxA_ok.byCases yok 300 13 1 [0, 1, 2, 3, 4, 5, 6, 7]).byCases yok 300 14 1 [0, 1, 2, 3, 4, 5, 6, 7]
end Go.Proofs.Ytnknopebjdgdjaa
