/- The context of small functions: parity, and flags handed over. -/
import Derived.Test.YtnknopebjdgdjaaWdPar
import Derived.Test.YtnknopebjdgdjaaLyV
namespace Go.Proofs.Ytnknopebjdgdjaa
open Go Go.Ly Go.RowKit
theorem get21 : env.bare.fn.get 29 = some Try.f29 := by kernel_rfl
theorem get28 : env.bare.fn.get 20 = some Try.f20 := by kernel_rfl
theorem run21 (s z a p c : Bool) : (Ly.run env.bare 1000 [] (Ly.start Try.f29 [.agg ⟨[.bool s, .bool z, .bool a, .bool p, .bool c]⟩] H0)).out? = some ([], .agg ⟨[.bool s, .bool z, .bool a, .bool p, .bool c]⟩) := by kernel_rfl
theorem run28 (s z a p c : Bool) : (Ly.run env.bare 1000 [] (Ly.start Try.f20 [.agg ⟨[.bool s, .bool z, .bool a, .bool p, .bool c]⟩] H0)).out? = some ([], .agg ⟨[.bool s, .bool z, .bool a, .bool p, .bool c]⟩) := by kernel_rfl
noncomputable def parC (l : List Value) : Option (Bool × Value) := match l with
  | [.int .u8 b] => some (inb b, .bool (par b))
  | _ => none
noncomputable def idC (l : List Value) : Option (Bool × Value) := match l with
  | [.agg ⟨[.bool s, .bool z, .bool a, .bool p, .bool c]⟩] => some (true, .agg ⟨[.bool s, .bool z, .bool a, .bool p, .bool c]⟩)
  | _ => none
theorem ansP37 : Answers Try.prog 101 parC := by
  intro args g v h hg
  unfold parC at h
  split at h
  · simp only [Option.some.injEq, Prod.mk.injEq] at h
    obtain ⟨rfl, rfl⟩ := h
    rw [inb_iff] at hg
    exact ⟨by simp [plain, plainL], by simp [plain], fun w => par37_calls _ hg.1 hg.2 w⟩
  · cases h
theorem ansP38 : Answers Try.prog 56 parC := by
  intro args g v h hg
  unfold parC at h
  split at h
  · simp only [Option.some.injEq, Prod.mk.injEq] at h
    obtain ⟨rfl, rfl⟩ := h
    rw [inb_iff] at hg
    exact ⟨by simp [plain, plainL], by simp [plain], fun w => par38_calls _ hg.1 hg.2 w⟩
  · cases h
theorem ansI21 : Answers Try.prog 29 idC := by
  intro args g v h hg
  unfold idC at h
  split at h
  · simp only [Option.some.injEq, Prod.mk.injEq] at h
    obtain ⟨rfl, rfl⟩ := h
    exact ⟨by simp [plain, plainL], by simp [plain, plainL], fun w => calls_trust (Env.bare_ok envOk) 1000 [] get21 (by kernel_rfl) (by simp [plain, plainL]) (by simp [plain, plainL]) (run21 _ _ _ _ _) trivial w⟩
  · cases h
theorem ansI28 : Answers Try.prog 20 idC := by
  intro args g v h hg
  unfold idC at h
  split at h
  · simp only [Option.some.injEq, Prod.mk.injEq] at h
    obtain ⟨rfl, rfl⟩ := h
    exact ⟨by simp [plain, plainL], by simp [plain, plainL], fun w => calls_trust (Env.bare_ok envOk) 1000 [] get28 (by kernel_rfl) (by simp [plain, plainL]) (by simp [plain, plainL]) (run28 _ _ _ _ _) trivial w⟩
  · cases h
noncomputable def wctx : Ctx := env.bare.with 101 parC |>.with 56 parC |>.with 29 idC |>.with 20 idC
theorem wok : wctx.Ok Try.prog := (Env.bare_ok envOk).with ansP37 |>.with ansP38 |>.with ansI21 |>.with ansI28
end Go.Proofs.Ytnknopebjdgdjaa
