/- The chapter's example, as a contract. -/
import Derived.Test.YtnknopebjdgdjaaCa
namespace Go.Proofs.Ytnknopebjdgdjaa
open Go Go.Ly Go.RowKit
set_option linter.unusedVariables false
noncomputable def aliveC (l : List Value) : Option (Bool × Value) := match l with
  | [] => some (true, .bool true)
  | _ => none
theorem gH11 : ctxL.fn.get 11 = some Try.f11 := by kernel_rfl
theorem aliveR : (Ly.run ctxL 20000 [] (Ly.start Try.f11 [] H0)).out? = some ([], .bool true) := by kernel_rfl
theorem alive_ans : Answers Try.prog 11 aliveC := by
  intro args g v h hg
  unfold aliveC at h
  split at h
  · simp only [Option.some.injEq, Prod.mk.injEq] at h
    obtain ⟨rfl, rfl⟩ := h
    exact ⟨rfl, rfl, fun w => calls_trust ctxL_ok 20000 [] gH11 (by kernel_rfl) rfl rfl aliveR trivial w⟩
  · cases h
noncomputable def ctxA : Ctx := ctxL.with 11 aliveC
theorem ctxA_ok : ctxA.Ok Try.prog := ctxL_ok.with alive_ans
end Go.Proofs.Ytnknopebjdgdjaa
