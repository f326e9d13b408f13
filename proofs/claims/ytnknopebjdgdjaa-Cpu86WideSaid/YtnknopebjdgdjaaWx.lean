/- Cpu86Wide: the context: a machine's making closed by its own run. -/
import Derived.Test.YtnknopebjdgdjaaCb
namespace Go.Proofs.Ytnknopebjdgdjaa
open Go Go.Ly Go.RowKit
noncomputable def ctxX : Ctx := ctxA.withH 16 (hconTree ctxA 600 16) |>.withH 15 (hconTree ctxA 3000 15)
theorem ctxX_ok : ctxX.Ok Try.prog := (ctxA_ok.byRun ctxA_ok 600 16).byRun ctxA_ok 3000 15
end Go.Proofs.Ytnknopebjdgdjaa
