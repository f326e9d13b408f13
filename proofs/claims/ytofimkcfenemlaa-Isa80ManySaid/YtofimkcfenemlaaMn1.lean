/- Isa80Many: the loop's head. By program (genmn.py). -/
import Derived.Test.YtofimkcfenemlaaMn0
namespace Go.Proofs.Ytofimkcfenemlaa
open Go Go.Ly Go.RowKit
set_option linter.unusedVariables false
set_option linter.unusedSimpArgs false
noncomputable def ctxFh : Ctx := ctxF.withH 14 (fun _ _ => .no)
theorem ctxFh_ok : ctxFh.Ok Try.prog := ctxF_ok.withH (fun _ _ => trivial)
noncomputable def dM : St := Ly.start Try.f7 [] H0
noncomputable def kM : List KI := ((Ly.run ctxF 15 [] (Ly.start Try.f7 [.int .u8 0] H0)).st dM).top.k
noncomputable def vM (fr n i : Int) : List Value := slots 50 [(0, .int .u8 fr), (3, .int .i64 n), (4, .int .i64 i)]
noncomputable def kM2 : List KI := ((Ly.run ctxFh 60 [] (mkSt Try.f7 kM none 0 (vM 0 0 0) [])).st dM).top.k
noncomputable def vM2 (fr n i op : Int) : List Value := slots 50 [(0, .int .u8 fr), (3, .int .i64 n), (4, .int .i64 i), (5, .int .u8 op), (16, .int .u8 op)]
end Go.Proofs.Ytofimkcfenemlaa
