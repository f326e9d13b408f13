/- The chapter's example, as a contract. -/
import Derived.Test.YtkoeiednpbedlaaDoorZd
import Derived.KernelRfl
namespace Go.Proofs.YtkoeiednpbedlaaDoor
open Go Go.Ly Go.RowKit
theorem getAl : zctx4.fn.get 13 = some Tryd.f13 := by kernel_rfl
set_option maxRecDepth 100000 in
theorem runAl : (Ly.run zctx4 60000 [] (Ly.start Tryd.f13 [] H0)).out? = some ([], .bool true) := by kernel_rfl
noncomputable def aliveC (l : List Value) : Option (Bool × Value) := match l with
  | [] => some (true, .bool true)
  | _ => none
theorem alive_ans : Answers Tryd.prog 13 aliveC := by
  intro args g v h hg
  unfold aliveC at h
  split at h
  · simp only [Option.some.injEq, Prod.mk.injEq] at h
    obtain ⟨rfl, rfl⟩ := h
    exact ⟨by simp [plainL], by simp [plain], fun w => calls_trust zctx4_ok 60000 [] getAl (by kernel_rfl) (by simp [plainL]) (by simp [plain]) runAl trivial w⟩
  · cases h
noncomputable def zctxA : Ctx := zctx4.with 13 aliveC
theorem zctxA_ok : zctxA.Ok Tryd.prog := zctx4_ok.with alive_ans
end Go.Proofs.YtkoeiednpbedlaaDoor
