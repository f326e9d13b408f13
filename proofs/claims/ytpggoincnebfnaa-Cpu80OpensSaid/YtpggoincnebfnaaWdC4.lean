import Derived.Test.YtpggoincnebfnaaWdC1
namespace Go.Proofs.Ytpggoincnebfnaa
open Go Go.Ly Go.RowKit
set_option linter.unusedVariables false
set_option linter.unusedSimpArgs false
noncomputable def conBit (l : List Value) : Option (Bool × Value) := match l with
  | [.bool c, .int .i64 n] => some (true, .int .i64 (bif c then n else 0))
  | _ => none
theorem get46 : wctx.fn.get 93 = some Try.f93 := by kernel_rfl
theorem bitF (n : Int) : (Ly.run wctx 20000 [] (Ly.start Try.f93 [.bool false, .int .i64 n] H0)).out? = some ([], .int .i64 0) := by kernel_rfl
theorem bitT (n : Int) : (Ly.run wctx 20000 [] (Ly.start Try.f93 [.bool true, .int .i64 n] H0)).out? = some ([], .int .i64 n) := by kernel_rfl
theorem ans46 : Answers Try.prog 93 conBit := by
  intro args g v h hg
  unfold conBit at h
  split at h
  · rename_i c n
    simp only [Option.some.injEq, Prod.mk.injEq] at h
    obtain ⟨rfl, rfl⟩ := h
    refine ⟨by simp [plain, plainL], by simp [plain], fun w => ?_⟩
    cases c with
    | false => exact calls_trust wok 20000 _ get46 (by kernel_rfl) (by simp [plain, plainL]) (by simp [plain]) (bitF n) trivial w
    | true => exact calls_trust wok 20000 _ get46 (by kernel_rfl) (by simp [plain, plainL]) (by simp [plain]) (bitT n) trivial w
  · cases h
noncomputable def bctx : Ctx := wctx.with 93 conBit
theorem bok : bctx.Ok Try.prog := wok.with ans46
theorem get33 : bctx.fn.get 88 = some Try.f88 := by kernel_rfl
theorem get34 : bctx.fn.get 75 = some Try.f75 := by kernel_rfl
theorem psw33 (s z x p c : Bool) : (Ly.run bctx 20000 [] (Ly.start Try.f88 [.agg ⟨[.bool s, .bool z, .bool x, .bool p, .bool c]⟩] H0)).out? = some ([], pswR s z x p c) := by
  cases s <;> cases z <;> cases x <;> cases p <;> cases c <;> kernel_rfl
theorem ans33 : Answers Try.prog 88 conP := by
  intro args g v h hg
  unfold conP at h
  split at h
  · rename_i s z x p c
    simp only [Option.some.injEq, Prod.mk.injEq] at h
    obtain ⟨rfl, rfl⟩ := h
    refine ⟨by simp [plain, plainL], by simp [pswR, plain, plainL], fun w => ?_⟩
    exact calls_trust bok 20000 _ get33 (by kernel_rfl) (by simp [plain, plainL]) (by simp [pswR, plain, plainL]) (psw33 s z x p c) trivial w
  · cases h
theorem psw34 (s z x p c : Bool) : (Ly.run bctx 20000 [] (Ly.start Try.f75 [.agg ⟨[.bool s, .bool z, .bool x, .bool p, .bool c]⟩] H0)).out? = some ([], pswR s z x p c) := by
  cases s <;> cases z <;> cases x <;> cases p <;> cases c <;> kernel_rfl
theorem ans34 : Answers Try.prog 75 conP := by
  intro args g v h hg
  unfold conP at h
  split at h
  · rename_i s z x p c
    simp only [Option.some.injEq, Prod.mk.injEq] at h
    obtain ⟨rfl, rfl⟩ := h
    refine ⟨by simp [plain, plainL], by simp [pswR, plain, plainL], fun w => ?_⟩
    exact calls_trust bok 20000 _ get34 (by kernel_rfl) (by simp [plain, plainL]) (by simp [pswR, plain, plainL]) (psw34 s z x p c) trivial w
  · cases h
end Go.Proofs.Ytpggoincnebfnaa
