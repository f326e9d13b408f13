/- The chapter's example; which flags opcodes use and set: the context. By program (genmasks.py). -/
import Derived.Test.YtdjmpilegommlaaFa
import Derived.Test.YtdjmpilegommlaaTz
import Derived.KernelRfl
import Derived.OpenShut
namespace Go.Proofs.Ytdjmpilegommlaa
open Go Go.Ly Go.RowKit
set_option linter.unusedVariables false
theorem get13 : ctx2.fn.get 13 = some Try.f13 := by kernel_rfl
set_option maxRecDepth 100000 in
theorem run13 : (Ly.run ctx2 100000 [] (Ly.start Try.f13 [] H0)).out? = some ([], .bool true) := by kernel_rfl
noncomputable def aliveC (l : List Value) : Option (Bool × Value) := match l with
  | [] => some (true, .bool true)
  | _ => none
theorem alive_ans : Answers Try.prog 13 aliveC := by
  intro args g v h hg
  unfold aliveC at h
  split at h
  · simp only [Option.some.injEq, Prod.mk.injEq] at h
    obtain ⟨rfl, rfl⟩ := h
    exact ⟨by simp [plainL], by simp [plain], fun w => calls_trust ctx2_ok 100000 [] get13 (by kernel_rfl) (by simp [plainL]) (by simp [plain]) run13 trivial w⟩
  · cases h
noncomputable def ctxM : Ctx := env.bare.with 13 aliveC |>.with 9 (tabC usesT) |>.with 10 (tabC usesT) |>.with 11 (tabC setsT) |>.with 12 (tabC setsT)
theorem ctxM_ok : ctxM.Ok Try.prog := (Env.bare_ok envOk).with alive_ans |>.with tab9_ans |>.with tab10_ans |>.with tab11_ans |>.with tab12_ans
end Go.Proofs.Ytdjmpilegommlaa
