import Derived.Test.YtpggoincnebfnaaWdC1
import Derived.Test.YtpggoincnebfnaaWdC2
import Derived.Test.YtpggoincnebfnaaWdC3
import Derived.Test.YtpggoincnebfnaaWdC4
namespace Go.Proofs.Ytpggoincnebfnaa
open Go Go.Ly Go.RowKit
set_option linter.unusedVariables false
set_option linter.unusedSimpArgs false
/-- all of them closed -/
noncomputable def xctx : Ctx := wctx.with 50 (con3 addR) |>.with 67 (con3 addR) |>.with 51 (con3 subR) |>.with 68 (con3 subR) |>.with 52 (con2 andR) |>.with 69 (con2 andR) |>.with 54 (con2 orR) |>.with 71 (con2 orR) |>.with 53 (con2 xorR) |>.with 70 (con2 xorR) |>.with 45 (conW) |>.with 62 (conW) |>.with 47 (conF fun a _ _ _ _ c => incR a c) |>.with 64 (conF fun a _ _ _ _ c => incR a c) |>.with 48 (conF fun a _ _ _ _ c => decR a c) |>.with 65 (conF fun a _ _ _ _ c => decR a c) |>.with 81 (conF fun a _ _ x _ c => daaR a x c) |>.with 91 (conF fun a _ _ x _ c => daaR a x c) |>.with 82 (conT) |>.with 92 (conT) |>.with 89 (con1b ofR) |>.with 77 (con1b ofR) |>.with 88 (conP) |>.with 75 (conP)
theorem xok : xctx.Ok Try.prog := by
  exact wok.with ans13 |>.with ans23 |>.with ans24 |>.with ans25 |>.with ans15 |>.with ans18 |>.with ans16 |>.with ans19 |>.with ans17 |>.with ans20 |>.with ans22 |>.with ans41 |>.with ans27 |>.with ans30 |>.with ans29 |>.with ans31 |>.with ans14 |>.with ans32 |>.with ans39 |>.with ans40 |>.with ans35 |>.with ans36 |>.with ans33 |>.with ans34
end Go.Proofs.Ytpggoincnebfnaa
