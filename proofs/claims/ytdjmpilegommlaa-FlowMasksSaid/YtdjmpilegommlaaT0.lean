/- Tables: which flags an opcode uses, and sets. By program (gentab.py). -/
import Derived.Test.YtdjmpilegommlaaCy
import Derived.Test.YtdjmpilegommlaaLyV
import Derived.KernelRfl
namespace Go.Proofs.Ytdjmpilegommlaa
open Go Go.Ly Go.RowKit
set_option linter.unusedVariables false
noncomputable def tabI : Option Value → Int → Bool
  | some (.int .i64 x), b => x == b
  | _, _ => false
theorem tabI_eq {o : Option Value} {b : Int} (h : tabI o b = true) : o = some (.int .i64 b) := by
  unfold tabI at h
  split at h
  · simp at h; subst h; rfl
  · cases h
noncomputable def tabC (T : Int → Int) (l : List Value) : Option (Bool × Value) := match l with
  | [.int .u8 op] => some (inb op, .int .i64 (T op))
  | _ => none
theorem tab_ans {f : Nat} {fn : Func} {T : Int → Int} (hf : env.bare.fn.get f = some fn) (hl : (Nat.ble 1 fn.ntmps && Nat.blt fn.ntmps 1000000) = true)
    (h : ∀ n : Nat, n < 256 → tabI (Ly.run env.bare 60000 [] (Ly.start fn [.int .u8 (n : Int)] H0)).val? (T (n : Int)) = true) : Answers Try.prog f (tabC T) := by
  intro args g v h' hg
  unfold tabC at h'
  split at h'
  · rename_i op
    simp only [Option.some.injEq, Prod.mk.injEq] at h'
    obtain ⟨rfl, rfl⟩ := h'
    rw [inb_iff] at hg
    obtain ⟨n, rfl⟩ := Int.eq_ofNat_of_zero_le hg.1
    refine ⟨by simp [plain, plainL], by simp [plain], fun w => ?_⟩
    exact calls_plain (by simp [VRL, VR]) (fun ρ v' h => by simpa [VR] using h) (LCalls_run (args := [.int .u8 (n : Int)]) (Env.bare_ok envOk) 60000 hf hl (tabI_eq (h n (by omega)))) w
  · cases h'
noncomputable def usesL : List Nat := [0, 0, 0, 0, 0, 0, 0, 0, 31, 0, 0, 0, 0, 0, 0, 0, 31, 0, 0, 0, 0, 0, 0, 16, 31, 0, 0, 0, 0, 0, 0, 16, 31, 0, 0, 0, 0, 0, 0, 20, 31, 0, 0, 0, 0, 0, 0, 0, 31, 0, 0, 0, 0, 0, 0, 0, 31, 0, 0, 0, 0, 0, 0, 16, 0, 0, 0, 0, 0, 0, 0, 0, 0, 0, 0, 0, 0, 0, 0, 0, 0, 0, 0, 0, 0, 0, 0, 0, 0, 0, 0, 0, 0, 0, 0, 0, 0, 0, 0, 0, 0, 0, 0, 0, 0, 0, 0, 0, 0, 0, 0, 0, 0, 0, 0, 0, 0, 0, 0, 0, 0, 0, 0, 0, 0, 0, 0, 0, 0, 0, 0, 0, 0, 0, 0, 0, 16, 16, 16, 16, 16, 16, 16, 16, 0, 0, 0, 0, 0, 0, 0, 0, 16, 16, 16, 16, 16, 16, 16, 16, 0, 0, 0, 0, 0, 0, 0, 0, 0, 0, 0, 0, 0, 0, 0, 0, 0, 0, 0, 0, 0, 0, 0, 0, 0, 0, 0, 0, 0, 0, 0, 0, 2, 0, 2, 0, 2, 0, 0, 0, 2, 0, 2, 31, 2, 0, 16, 0, 16, 0, 16, 0, 16, 0, 0, 0, 16, 31, 16, 0, 16, 31, 16, 0, 8, 0, 8, 0, 8, 0, 0, 0, 8, 0, 8, 0, 8, 31, 0, 0, 1, 0, 1, 0, 1, 31, 0, 0, 1, 0, 1, 0, 1, 31, 0, 0]
noncomputable def usesT (op : Int) : Int := ((usesL[op.toNat]?).getD 0 : Nat)
noncomputable def setsL : List Nat := [0, 0, 0, 0, 15, 15, 0, 16, 0, 16, 0, 0, 15, 15, 0, 16, 0, 0, 0, 0, 15, 15, 0, 16, 0, 16, 0, 0, 15, 15, 0, 16, 0, 0, 0, 0, 15, 15, 0, 31, 0, 16, 0, 0, 15, 15, 0, 0, 0, 0, 0, 0, 15, 15, 0, 16, 0, 16, 0, 0, 15, 15, 0, 16, 0, 0, 0, 0, 0, 0, 0, 0, 0, 0, 0, 0, 0, 0, 0, 0, 0, 0, 0, 0, 0, 0, 0, 0, 0, 0, 0, 0, 0, 0, 0, 0, 0, 0, 0, 0, 0, 0, 0, 0, 0, 0, 0, 0, 0, 0, 0, 0, 0, 0, 0, 0, 0, 0, 0, 0, 0, 0, 0, 0, 0, 0, 0, 0, 31, 31, 31, 31, 31, 31, 31, 31, 31, 31, 31, 31, 31, 31, 31, 31, 31, 31, 31, 31, 31, 31, 31, 31, 31, 31, 31, 31, 31, 31, 31, 31, 31, 31, 31, 31, 31, 31, 31, 31, 31, 31, 31, 31, 31, 31, 31, 31, 31, 31, 31, 31, 31, 31, 31, 31, 31, 31, 31, 31, 31, 31, 31, 31, 0, 0, 0, 0, 0, 0, 31, 0, 0, 0, 0, 0, 0, 0, 31, 0, 0, 0, 0, 0, 0, 0, 31, 0, 0, 0, 0, 0, 0, 0, 31, 0, 0, 0, 0, 0, 0, 0, 31, 0, 0, 0, 0, 0, 0, 0, 31, 0, 0, 31, 0, 0, 0, 0, 31, 0, 0, 0, 0, 0, 0, 0, 31, 0]
noncomputable def setsT (op : Int) : Int := ((setsL[op.toNat]?).getD 0 : Nat)
end Go.Proofs.Ytdjmpilegommlaa
