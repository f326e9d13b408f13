/- The context of this seat's runs: what 'head.size' answers, and the law's 'alive'. -/
import Derived.Test.YtkemllgkkngcjaaCy
import Derived.Test.YtkemllgkkngcjaaEq10
import Derived.Test.YtkemllgkkngcjaaEq17
import Derived.KernelRfl
namespace Go.Proofs.Ytkemllgkkngcjaa
open Go Go.Ly Go.RowKit
set_option linter.unusedVariables false
set_option linter.unusedSimpArgs false
noncomputable def sizeH (n : Nat) (t : Int) : Int := bif t == 1 || t == 3 then IntKind.i64.wrap ((n : Int) + 1) else bif t == 2 then IntKind.i64.wrap ((n : Int) + 2) else n
noncomputable def conSize (l : List Value) : Option (Bool × Value) := match l with
  | [.agg ⟨[.slice _ n _, .int .i64 t]⟩] => some (decide (0 ≤ t) && decide (t < 4), .int .i64 (sizeH n t))
  | _ => none
theorem get18 : env.bare.fn.get 18 = some Try.f18 := by kernel_rfl
theorem size_none (n c : Nat) : ∀ t : Fin 4, (Ly.run env.bare 300 [] (Ly.start Try.f18 [.agg ⟨[.slice none n c, .int .i64 (t.val : Int)]⟩] (mkH []))).out? = some ([], .int .i64 (sizeH n (t.val : Int)))
  | ⟨0, _⟩ => by kernel_rfl
  | ⟨1, _⟩ => by kernel_rfl
  | ⟨2, _⟩ => by kernel_rfl
  | ⟨3, _⟩ => by kernel_rfl
theorem size_some (o n c : Nat) (s : Option Nat) : ∀ t : Fin 4, (Ly.run env.bare 300 [] (Ly.start Try.f18 [.agg ⟨[.slice (some ⟨0, o, s⟩) n c, .int .i64 (t.val : Int)]⟩] (mkH [none]))).out? = some ([], .int .i64 (sizeH n (t.val : Int)))
  | ⟨0, _⟩ => by kernel_rfl
  | ⟨1, _⟩ => by kernel_rfl
  | ⟨2, _⟩ => by kernel_rfl
  | ⟨3, _⟩ => by kernel_rfl
theorem ans18 : AnswersR Try.prog 18 conSize := by
  intro args g v h hg
  unfold conSize at h
  split at h
  · rename_i a n c t
    simp only [Option.some.injEq, Prod.mk.injEq] at h
    obtain ⟨rfl, rfl⟩ := h
    simp only [Bool.and_eq_true, decide_eq_true_eq] at hg
    obtain ⟨m, rfl⟩ := Int.eq_ofNat_of_zero_le hg.1
    refine ⟨by simp [plain], fun ρ args' w H ha hr => ?_⟩
    cases a with
    | none => exact calls_blind (L := []) (by simp) (LCalls_trust (Env.bare_ok envOk) 300 [] get18 (by kernel_rfl) (size_none n c ⟨m, by omega⟩) trivial) (by simp [plain]) (by simp [blksL, blks]) (by simp [renL, renV]) ha hr
    | some a => exact calls_blind (L := [a.block]) (by simp) (LCalls_trust (Env.bare_ok envOk) 300 [] get18 (by kernel_rfl) (size_some a.off n c a.spot ⟨m, by omega⟩) trivial) (by simp [plain]) (by simp [blksL, blks, memB]) (by simp [renL, renV, posOf]) ha hr
  · cases h
noncomputable def ictx : Ctx := ((env.bare.with 18 conSize).withC 10 (conEq .u8)).withC 17 (conEq .u8)
theorem iok : ictx.Ok Try.prog := (((Env.bare_ok envOk).withR ans18).withC eq10con).withC eq17con
theorem get7 : ictx.fn.get 7 = some Try.f7 := by kernel_rfl
theorem alive_run : (Ly.run ictx 20000 [] (Ly.start Try.f7 [] H0)).out? = some ([], .bool true) := by kernel_rfl
noncomputable def conAl (l : List Value) : Option (Bool × Value) := match l with
  | [] => some (true, .bool true)
  | _ => none
theorem ans7 : Answers Try.prog 7 conAl := by
  intro args g v h hg
  unfold conAl at h
  split at h
  · simp only [Option.some.injEq, Prod.mk.injEq] at h
    obtain ⟨rfl, rfl⟩ := h
    exact ⟨by simp [plainL], by simp [plain], fun w => calls_trust iok 20000 [] get7 (by kernel_rfl) (by simp [plainL]) (by simp [plain]) alive_run trivial w⟩
  · cases h
noncomputable def nctx : Ctx := ictx.with 7 conAl
theorem nok : nctx.Ok Try.prog := iok.with ans7
end Go.Proofs.Ytkemllgkkngcjaa
