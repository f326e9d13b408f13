/- The context of ZilogNames and ZilogApart. -/
import Derived.Test.YtkoeiednpbedlaaDoorZs
import Derived.Test.YtkoeiednpbedlaaDoorZa
import Derived.KernelRfl
namespace Go.Proofs.YtkoeiednpbedlaaDoor
open Go Go.Ly Go.RowKit
noncomputable def zctxN : Ctx := ((zctxR.withC 14 renC).withC 15 renC).with 13 aliveC
theorem zctxN_ok : zctxN.Ok Tryd.prog := ((zctxR_ok.withC (ren_con call14)).withC (ren_con call15)).with alive_ans
theorem gN4 : zctxN.fn.get 4 = some Tryd.f4 := by kernel_rfl
theorem gN5 : zctxN.fn.get 5 = some Tryd.f5 := by kernel_rfl
end Go.Proofs.YtkoeiednpbedlaaDoor
