/- The context of this seat's runs. -/
import Derived.Test.YtofimkcfenemlaaSize
import Derived.Test.YtofimkcfenemlaaEq21
namespace Go.Proofs.Ytofimkcfenemlaa
open Go Go.Ly Go.RowKit
set_option linter.unusedVariables false
set_option linter.unusedSimpArgs false
noncomputable def ictx : Ctx := ((env.bare.with 14 sizeC).with 15 sizeC).withC 21 (conEq .u8)
theorem iok : ictx.Ok Try.prog := (((Env.bare_ok envOk).with size14_ans).with size15_ans).withC eq21con
theorem get16 : ictx.fn.get 16 = some Try.f16 := by kernel_rfl
theorem alive_run : (Ly.run ictx 20000 [] (Ly.start Try.f16 [] H0)).out? = some ([], .bool true) := by kernel_rfl
noncomputable def conAl (l : List Value) : Option (Bool × Value) := match l with
  | [] => some (true, .bool true)
  | _ => none
theorem ans16 : Answers Try.prog 16 conAl := by
  intro args g v h hg
  unfold conAl at h
  split at h
  · simp only [Option.some.injEq, Prod.mk.injEq] at h
    obtain ⟨rfl, rfl⟩ := h
    exact ⟨by simp [plainL], by simp [plain], fun w => calls_trust iok 20000 [] get16 (by kernel_rfl) (by simp [plainL]) (by simp [plain]) alive_run trivial w⟩
  · cases h
noncomputable def nctx : Ctx := ictx.with 16 conAl
theorem nok : nctx.Ok Try.prog := iok.with ans16
end Go.Proofs.Ytofimkcfenemlaa
