import Derived.Test.YtabhfbmaomkmhaaWCon1
import Derived.Test.YtabhfbmaomkmhaaWCon2
import Derived.Test.YtabhfbmaomkmhaaWCon3
import Derived.Test.YtabhfbmaomkmhaaWCon4
namespace Go.Proofs.Ytabhfbmaomkmhaa
open Go Go.Lx Go.RowKit
set_option linter.unusedVariables false
set_option linter.unusedSimpArgs false
/-- all of them closed -/
noncomputable def xctx : Ctx := wctx.with 13 (con3 addR) |>.with 23 (con3 addR) |>.with 24 (con3 subR) |>.with 25 (con3 subR) |>.with 15 (con2 andR) |>.with 18 (con2 andR) |>.with 16 (con2 orR) |>.with 19 (con2 orR) |>.with 17 (con2 xorR) |>.with 20 (con2 xorR) |>.with 22 (conW) |>.with 41 (conW) |>.with 27 (conF fun a _ _ _ _ c => incR a c) |>.with 30 (conF fun a _ _ _ _ c => incR a c) |>.with 29 (conF fun a _ _ _ _ c => decR a c) |>.with 31 (conF fun a _ _ _ _ c => decR a c) |>.with 14 (conF fun a _ _ x _ c => daaR a x c) |>.with 32 (conF fun a _ _ x _ c => daaR a x c) |>.with 39 (conT) |>.with 40 (conT) |>.with 35 (con1 ofR) |>.with 36 (con1 ofR) |>.with 33 (conP) |>.with 34 (conP)
theorem xok : xctx.Ok Try.prog := by
  exact wok.with ans13 |>.with ans23 |>.with ans24 |>.with ans25 |>.with ans15 |>.with ans18 |>.with ans16 |>.with ans19 |>.with ans17 |>.with ans20 |>.with ans22 |>.with ans41 |>.with ans27 |>.with ans30 |>.with ans29 |>.with ans31 |>.with ans14 |>.with ans32 |>.with ans39 |>.with ans40 |>.with ans35 |>.with ans36 |>.with ans33 |>.with ans34
end Go.Proofs.Ytabhfbmaomkmhaa
