/- Cpu86AsEight: the law's walk. By program (gene8.py). -/
import Derived.Test.YtnknopebjdgdjaaE8
import Derived.OpenShut
import Derived.Test.YtnknopebjdgdjaaLyV
namespace Go.Proofs.Ytnknopebjdgdjaa
open Go Go.Ly Go.RowKit
set_option linter.unusedVariables false
set_option linter.unusedSimpArgs false
theorem k8o0 (a b k : Int) (s z x p c : Bool) : (Ly.run ctxA 60 [(0, false)] (Ly.start Try.f4 [.int .u8 a, .int .u8 b, .int .i64 k, .agg ⟨[.bool s, .bool z, .bool x, .bool p, .bool c]⟩] H0)).out? = some ([(decide (k < 0) == false, false)], .bool true) := by kernel_rfl
theorem k8o1 (a b k : Int) (s z x p c : Bool) : (Ly.run ctxA 60 [(0, true), (2, false)] (Ly.start Try.f4 [.int .u8 a, .int .u8 b, .int .i64 k, .agg ⟨[.bool s, .bool z, .bool x, .bool p, .bool c]⟩] H0)).out? = some ([(decide (k < 0) == false, true), (decide (7 < k) == false, false)], .bool true) := by kernel_rfl
theorem k8o2 (a b k : Int) (s z x p c : Bool) : (Ly.run ctxA 60 [(0, true), (2, true), (2, false)] (Ly.start Try.f4 [.int .u8 a, .int .u8 b, .int .i64 k, .agg ⟨[.bool s, .bool z, .bool x, .bool p, .bool c]⟩] H0)).out? = some ([(decide (k < 0) == false, true), (decide (7 < k) == false, true), ((k == 1) == false, false)], .bool true) := by kernel_rfl
theorem k8o3 (a b k : Int) (s z x p c : Bool) : (Ly.run ctxA 60 [(0, true), (2, true), (2, true), (2, false)] (Ly.start Try.f4 [.int .u8 a, .int .u8 b, .int .i64 k, .agg ⟨[.bool s, .bool z, .bool x, .bool p, .bool c]⟩] H0)).out? = some ([(decide (k < 0) == false, true), (decide (7 < k) == false, true), ((k == 1) == false, true), ((k == 4) == false, false)], .bool true) := by kernel_rfl
theorem k8o4 (a b k : Int) (s z x p c : Bool) : (Ly.run ctxA 60 [(0, true), (2, true), (2, true), (2, true), (2, true)] (Ly.start Try.f4 [.int .u8 a, .int .u8 b, .int .i64 k, .agg ⟨[.bool s, .bool z, .bool x, .bool p, .bool c]⟩] H0)).out? = some ([(decide (k < 0) == false, true), (decide (7 < k) == false, true), ((k == 1) == false, true), ((k == 4) == false, true), (k == 6, true)], .bool true) := by kernel_rfl
theorem says8o {a b k : Int} {s z x p c : Bool} {t : List (Bool × Bool)} (q : Path) (h : (Ly.run ctxA 60 q (Ly.start Try.f4 [.int .u8 a, .int .u8 b, .int .i64 k, .agg ⟨[.bool s, .bool z, .bool x, .bool p, .bool c]⟩] H0)).out? = some (t, .bool true)) (ht : trusted t) : Says8 a b k (.agg ⟨[.bool s, .bool z, .bool x, .bool p, .bool c]⟩) := fun W =>
  calls_trust ctxA_ok 60 q g4 (by kernel_rfl) (by simp [plain, plainL]) (by simp [plain]) h ht W
theorem e8_walk (W : World) (v0 v1 v2 v3 : Value) (h0 : CkOk W (.int .u8) v0) (h1 : CkOk W (.int .u8) v1) (h2 : CkOk W (.int .i64) v2) (h3 : ∃ cs, v3 = .agg ⟨cs⟩ ∧ CksOk W [.bool, .bool, .bool, .bool, .bool] cs) :
    Calls Try.prog 4 #[v0, v1, v2, v3] W fun e W' => e = .returned (.bool true) ∧ Below W.heap.size W W' := by
  simp only [CkOk] at h0 h1 h2
  obtain ⟨a, rfl, wa⟩ := h0
  obtain ⟨b, rfl, wb⟩ := h1
  obtain ⟨k, rfl, wk⟩ := h2
  obtain ⟨cs, rfl, h3⟩ := h3
  simp only [CksOk, CkOk] at h3
  obtain ⟨_, _, rfl, ⟨s, rfl⟩, _, _, rfl, ⟨z, rfl⟩, _, _, rfl, ⟨x, rfl⟩, _, _, rfl, ⟨p, rfl⟩, _, _, rfl, ⟨c, rfl⟩, rfl⟩ := h3
  have ha := bounds_u8 wa
  have hb := bounds_u8 wb
  suffices h : Says8 a b k (.agg ⟨[.bool s, .bool z, .bool x, .bool p, .bool c]⟩) from h W
  by_cases h0 : k < 0
  · exact says8o _ (k8o0 a b k s z x p c) (by simp [trusted, h0])
  by_cases h7 : 7 < k
  · exact says8o _ (k8o1 a b k s z x p c) (by simp [trusted, h7]; omega)
  have hk : k = 0 ∨ k = 1 ∨ k = 2 ∨ k = 3 ∨ k = 4 ∨ k = 5 ∨ k = 6 ∨ k = 7 := by omega
  rcases hk with rfl | rfl | rfl | rfl | rfl | rfl | rfl | rfl
  · cases c
    · exact k8_0f a b s z x p false ha.1 ha.2 hb.1 hb.2
    · exact k8_0t a b s z x p true ha.1 ha.2 hb.1 hb.2
  · exact says8o _ (k8o2 a b 1 s z x p c) (by simp [trusted])
  · cases c
    · exact k8_2f a b s z x p false ha.1 ha.2 hb.1 hb.2
    · exact k8_2t a b s z x p true ha.1 ha.2 hb.1 hb.2
  · cases c
    · exact k8_3f a b s z x p false ha.1 ha.2 hb.1 hb.2
    · exact k8_3t a b s z x p true ha.1 ha.2 hb.1 hb.2
  · exact says8o _ (k8o3 a b 4 s z x p c) (by simp [trusted])
  · cases c
    · exact k8_5f a b s z x p false ha.1 ha.2 hb.1 hb.2
    · exact k8_5t a b s z x p true ha.1 ha.2 hb.1 hb.2
  · exact says8o _ (k8o4 a b 6 s z x p c) (by simp [trusted])
  · cases c
    · exact k8_7f a b s z x p false ha.1 ha.2 hb.1 hb.2
    · exact k8_7t a b s z x p true ha.1 ha.2 hb.1 hb.2
end Go.Proofs.Ytnknopebjdgdjaa
