/- Isa80Many: contexts. By program (genmn.py). -/
import Derived.Test.YtofimkcfenemlaaTx
import Derived.KernelRfl
namespace Go.Proofs.Ytofimkcfenemlaa
open Go Go.Ly Go.RowKit
set_option linter.unusedVariables false
set_option linter.unusedSimpArgs false
noncomputable def ctxW : Ctx := env.bare.withH 29 wordsE
theorem ctxW_ok : ctxW.Ok Try.prog := (Env.bare_ok envOk).withH words_good
noncomputable def ctxE : Ctx := ctxW.withH 14 (hconTree ctxW 300 14) |>.withH 9 (hconTree ctxW 300 9) |>.withH 12 (hconTree ctxW 300 12) |>.withH 32 (hconTree ctxW 3000 32) |>.withC 21 (conTree ctxW 3000 21)
theorem ctxE_ok : ctxE.Ok Try.prog := ((((ctxW_ok.byRun ctxW_ok 300 14).byRun ctxW_ok 300 9).byRun ctxW_ok 300 12).byRun ctxW_ok 3000 32).byCon ctxW_ok 3000 21
noncomputable def ctxG : Ctx := ctxE.withH 17 (hconTree ctxE 600 17)
theorem ctxG_ok : ctxG.Ok Try.prog := ctxE_ok.byRun ctxE_ok 600 17
noncomputable def aliveC (l : List Value) : Option (Bool × Value) := match l with
  | [] => some (true, .bool true)
  | _ => none
theorem g16 : ctxG.fn.get 16 = some Try.f16 := by kernel_rfl
theorem run16 : (Ly.run ctxG 20000 [] (Ly.start Try.f16 [] H0)).out? = some ([], .bool true) := by kernel_rfl
theorem alive_ans : Answers Try.prog 16 aliveC := by
  intro args g v h hg
  unfold aliveC at h
  split at h
  · simp only [Option.some.injEq, Prod.mk.injEq] at h
    obtain ⟨rfl, rfl⟩ := h
    exact ⟨by simp [plainL], by simp [plain], fun w => calls_trust ctxG_ok 20000 [] g16 (by kernel_rfl) (by simp [plainL]) (by simp [plain]) run16 trivial w⟩
  · cases h
noncomputable def ctxF : Ctx := ctxE.withH 22 (hconTree ctxE 60000 22) |>.with 16 aliveC
theorem ctxF_ok : ctxF.Ok Try.prog := (ctxE_ok.byRun ctxE_ok 60000 22).with alive_ans
end Go.Proofs.Ytofimkcfenemlaa
