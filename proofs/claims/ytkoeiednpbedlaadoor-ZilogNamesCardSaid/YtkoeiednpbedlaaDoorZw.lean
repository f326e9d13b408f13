/- ZilogNames: the walk. -/
import Derived.Test.YtkoeiednpbedlaaDoorZn
import Derived.KernelRfl
import Derived.OpenShut
namespace Go.Proofs.YtkoeiednpbedlaaDoor
open Go Go.Ly Go.RowKit
set_option linter.unusedVariables false
set_option linter.unusedSimpArgs false
noncomputable def tL (s : ByteArray) (b : Bool) : Bool × Bool := (decide ((100 : Int) < s.size), b)
noncomputable def tK (s : ByteArray) : Bool × Bool := (Nat.ble s.size 1000, true)
noncomputable def t16 (s : ByteArray) (b : Bool) : Bool × Bool := (decide ((16 : Int) ≤ s.size), b)
noncomputable def tR (k : Int) (s : ByteArray) (b : Bool) : Bool × Bool := (resB k (rt s), b)
noncomputable def tE (d : Int) (s : ByteArray) : Bool × Bool := ((resB d s == resB d s) == true, true)
theorem na0 (d : Int) (s : ByteArray) : (Ly.run zctxN 6000 [(0, true)] (Ly.start Tryd.f4 [.int .i64 d, .string s] H0)).out? = some ([tL s true], .bool true) := by kernel_rfl
theorem na1 (d : Int) (s : ByteArray) : (Ly.run zctxN 6000 [(0, false), (0, true), (0, true), (0, true), (0, true), (0, true), (0, true), (2, true), (3, true)] (Ly.start Tryd.f4 [.int .i64 d, .string s] H0)).out? =
  some ([tL s false, tK s, tR 1 s true, tR 0 s true, tK s, tR 1 s true, tR 0 s true, tE d s, (strEq s s == true, true)], .bool true) := by kernel_rfl
theorem na3 (d : Int) (s : ByteArray) : (Ly.run zctxN 6000 [(0, false), (0, true), (0, true), (0, false), (0, true), (0, true), (0, true), (0, false), (0, true), (2, true)] (Ly.start Tryd.f4 [.int .i64 d, .string s] H0)).out? =
  some ([tL s false, tK s, tR 1 s true, tR 0 s false, t16 s true, tK s, tR 1 s true, tR 0 s false, t16 s true, tE d s], .bool true) := by kernel_rfl
theorem na4 (d : Int) (s : ByteArray) : (Ly.run zctxN 6000 [(0, false), (0, true), (0, true), (0, false), (0, false), (0, true), (0, true), (0, false), (0, false), (2, true), (3, true)] (Ly.start Tryd.f4 [.int .i64 d, .string s] H0)).out? =
  some ([tL s false, tK s, tR 1 s true, tR 0 s false, t16 s false, tK s, tR 1 s true, tR 0 s false, t16 s false, tE d s, (strEq (more s) (more s) == true, true)], .bool true) := by kernel_rfl
theorem na6 (d : Int) (s : ByteArray) : (Ly.run zctxN 6000 [(0, false), (0, true), (0, false), (0, true), (0, false), (2, true), (3, true)] (Ly.start Tryd.f4 [.int .i64 d, .string s] H0)).out? =
  some ([tL s false, tK s, tR 1 s false, tK s, tR 1 s false, tE d s, (strEq s s == true, true)], .bool true) := by kernel_rfl
theorem names_calls (d : Int) (s : ByteArray) : LCalls Tryd.prog 4 [.int .i64 d, .string s] H0 (fun u _ => u = .bool true) := by
  rcases Bool.eq_false_or_eq_true (decide ((100 : Int) < s.size)) with hL | hL
  · exact LCalls_trust zctxN_ok 6000 _ gN4 (by kernel_rfl) (na0 d s) ⟨hL, trivial⟩
  have hK : Nat.ble s.size 1000 = true := by rw [Nat.ble_eq]; have := of_decide_eq_false hL; omega
  have hE : ((resB d s == resB d s) == true) = true := by simp
  have hS : ∀ a : ByteArray, (strEq a a == true) = true := fun a => by rw [strEq_self]; rfl
  rcases Bool.eq_false_or_eq_true (resB 1 (rt s)) with e1 | e1
  · rcases Bool.eq_false_or_eq_true (resB 0 (rt s)) with e0 | e0
    · exact LCalls_trust zctxN_ok 6000 _ gN4 (by kernel_rfl) (na1 d s) ⟨hL, hK, e1, e0, hK, e1, e0, hE, hS s, trivial⟩
    · rcases Bool.eq_false_or_eq_true (decide ((16 : Int) ≤ s.size)) with e2 | e2
      · exact LCalls_trust zctxN_ok 6000 _ gN4 (by kernel_rfl) (na3 d s) ⟨hL, hK, e1, e0, e2, hK, e1, e0, e2, hE, trivial⟩
      · exact LCalls_trust zctxN_ok 6000 _ gN4 (by kernel_rfl) (na4 d s) ⟨hL, hK, e1, e0, e2, hK, e1, e0, e2, hE, hS _, trivial⟩
  · exact LCalls_trust zctxN_ok 6000 _ gN4 (by kernel_rfl) (na6 d s) ⟨hL, hK, e1, hK, e1, hE, hS s, trivial⟩
theorem names_walk (W : World) [FixW W] (v0 v1 : Value) (h0 : CkOk W (.int .i64) v0) (h1 : CkOk W .str v1) : Calls Tryd.prog 4 #[v0, v1] W fun e W' => e = .returned (.bool true) ∧ Below W.heap.size W W' := by
  simp only [CkOk] at h0 h1
  obtain ⟨d, rfl, _⟩ := h0
  obtain ⟨s, rfl, _⟩ := h1
  exact calls_plain (by simp [VRL, VR]) (fun ρ v' h => by simpa [VR] using h) (names_calls d s) W
end Go.Proofs.YtkoeiednpbedlaaDoor
