/- The context: sums, differences, parity, flags handed over. -/
import Derived.Test.YtnknopebjdgdjaaWdC1
namespace Go.Proofs.Ytnknopebjdgdjaa
open Go Go.Ly Go.RowKit
noncomputable def xctx : Ctx := wctx.with 18 (con3 addR) |>.with 19 (con3 subR)
theorem xok : xctx.Ok Try.prog := wok.with ans23 |>.with ans25
end Go.Proofs.Ytnknopebjdgdjaa
