/- Which conditions hold: the program's and the document's, and the chapter's example: as contracts. -/
import Derived.Test.YtpggoincnebfnaaSl
import Derived.KernelRfl
namespace Go.Proofs.Ytpggoincnebfnaa
open Go Go.Ly Go.RowKit
set_option linter.unusedVariables false
set_option linter.unusedSimpArgs false
noncomputable def fl5 (s z x p y : Bool) : Value := .agg ⟨[.bool s, .bool z, .bool x, .bool p, .bool y]⟩
/-- a condition -/
noncomputable def holdsF (c : Int) (s z p y : Bool) : Bool :=
  bif c == 0 then !z else bif c == 1 then z else bif c == 2 then !y else bif c == 3 then y else bif c == 4 then !p else bif c == 5 then p else bif c == 6 then !s else bif c == 7 then s else false
noncomputable def holdC (l : List Value) : Option (Bool × Value) := match l with
  | [.int .i64 c, .agg ⟨[.bool s, .bool z, .bool x, .bool p, .bool y]⟩] => some (true, .bool (holdsF c s z p y))
  | _ => none
theorem gH20 : env.bare.fn.get 20 = some Try.f20 := by kernel_rfl
theorem gH21 : env.bare.fn.get 21 = some Try.f21 := by kernel_rfl
theorem gH11 : ctxL.fn.get 11 = some Try.f11 := by kernel_rfl
theorem h20_0 (s z x p y : Bool) : (Ly.run env.bare 300 [] (Ly.start Try.f20 [.int .i64 0, fl5 s z x p y] H0)).out? = some ([], .bool (z == false)) := by kernel_rfl
theorem h21_0 (s z x p y : Bool) : (Ly.run env.bare 300 [] (Ly.start Try.f21 [.int .i64 0, fl5 s z x p y] H0)).out? = some ([], .bool (!z)) := by kernel_rfl
theorem h20_1 (s z x p y : Bool) : (Ly.run env.bare 300 [] (Ly.start Try.f20 [.int .i64 1, fl5 s z x p y] H0)).out? = some ([], .bool (z == true)) := by kernel_rfl
theorem h21_1 (s z x p y : Bool) : (Ly.run env.bare 300 [] (Ly.start Try.f21 [.int .i64 1, fl5 s z x p y] H0)).out? = some ([], .bool z) := by kernel_rfl
theorem h20_2 (s z x p y : Bool) : (Ly.run env.bare 300 [] (Ly.start Try.f20 [.int .i64 2, fl5 s z x p y] H0)).out? = some ([], .bool (y == false)) := by kernel_rfl
theorem h21_2 (s z x p y : Bool) : (Ly.run env.bare 300 [] (Ly.start Try.f21 [.int .i64 2, fl5 s z x p y] H0)).out? = some ([], .bool (!y)) := by kernel_rfl
theorem h20_3 (s z x p y : Bool) : (Ly.run env.bare 300 [] (Ly.start Try.f20 [.int .i64 3, fl5 s z x p y] H0)).out? = some ([], .bool (y == true)) := by kernel_rfl
theorem h21_3 (s z x p y : Bool) : (Ly.run env.bare 300 [] (Ly.start Try.f21 [.int .i64 3, fl5 s z x p y] H0)).out? = some ([], .bool y) := by kernel_rfl
theorem h20_4 (s z x p y : Bool) : (Ly.run env.bare 300 [] (Ly.start Try.f20 [.int .i64 4, fl5 s z x p y] H0)).out? = some ([], .bool (p == false)) := by kernel_rfl
theorem h21_4 (s z x p y : Bool) : (Ly.run env.bare 300 [] (Ly.start Try.f21 [.int .i64 4, fl5 s z x p y] H0)).out? = some ([], .bool (!p)) := by kernel_rfl
theorem h20_5 (s z x p y : Bool) : (Ly.run env.bare 300 [] (Ly.start Try.f20 [.int .i64 5, fl5 s z x p y] H0)).out? = some ([], .bool (p == true)) := by kernel_rfl
theorem h21_5 (s z x p y : Bool) : (Ly.run env.bare 300 [] (Ly.start Try.f21 [.int .i64 5, fl5 s z x p y] H0)).out? = some ([], .bool p) := by kernel_rfl
theorem h20_6 (s z x p y : Bool) : (Ly.run env.bare 300 [] (Ly.start Try.f20 [.int .i64 6, fl5 s z x p y] H0)).out? = some ([], .bool (s == false)) := by kernel_rfl
theorem h21_6 (s z x p y : Bool) : (Ly.run env.bare 300 [] (Ly.start Try.f21 [.int .i64 6, fl5 s z x p y] H0)).out? = some ([], .bool (!s)) := by kernel_rfl
theorem h20_7 (s z x p y : Bool) : (Ly.run env.bare 300 [] (Ly.start Try.f20 [.int .i64 7, fl5 s z x p y] H0)).out? = some ([], .bool (s == true)) := by kernel_rfl
theorem h21_7 (s z x p y : Bool) : (Ly.run env.bare 300 [] (Ly.start Try.f21 [.int .i64 7, fl5 s z x p y] H0)).out? = some ([], .bool s) := by kernel_rfl
theorem h20n (c : Int) (s z x p y : Bool) : (Ly.run env.bare 300 [(0, false), (0, false), (0, true)] (Ly.start Try.f20 [.int .i64 c, fl5 s z x p y] H0)).out? = some ([(decide (c < 0) == false, false), (decide (c < 0) == false, false), (decide (c < 0), true)], .bool false) := by kernel_rfl
theorem h20b (c : Int) (s z x p y : Bool) : (Ly.run env.bare 300 [(0, true), (0, true), (0, false), (0, true)] (Ly.start Try.f20 [.int .i64 c, fl5 s z x p y] H0)).out? = some ([(decide (c < 0) == false, true), (decide (c < 0) == false, true), (decide (c < 0), false), (decide (7 < c), true)], .bool false) := by kernel_rfl
theorem h21n (c : Int) (s z x p y : Bool) : (Ly.run env.bare 300 [(0, false), (0, false), (0, false), (0, false), (0, false), (0, false), (0, false), (0, false)] (Ly.start Try.f21 [.int .i64 c, fl5 s z x p y] H0)).out? = some ([(c == 0, false), (c == 1, false), (c == 2, false), (c == 3, false), (c == 4, false), (c == 5, false), (c == 6, false), (c == 7, false)], .bool false) := by kernel_rfl
theorem holdsF_out {c : Int} {s z p y : Bool} (h : c < 0 ∨ 7 < c) : holdsF c s z p y = false := by
  unfold holdsF
  have e : ∀ k : Int, 0 ≤ k → k ≤ 7 → (c == k) = false := fun k h0 h1 => by simp; omega
  rw [e 0 (by omega) (by omega), e 1 (by omega) (by omega), e 2 (by omega) (by omega), e 3 (by omega) (by omega), e 4 (by omega) (by omega), e 5 (by omega) (by omega), e 6 (by omega) (by omega), e 7 (by omega) (by omega)]
  rfl
theorem hold20_ans : Answers Try.prog 20 holdC := by
  intro args g v h hg
  unfold holdC at h
  split at h
  · rename_i c s z x p y
    simp only [Option.some.injEq, Prod.mk.injEq] at h
    obtain ⟨rfl, rfl⟩ := h
    refine ⟨by simp [plain, plainL], by simp [plain], fun w => ?_⟩
    have key : ∀ (n : Nat) (q : Path) (t : List (Bool × Bool)) (b : Bool), (Ly.run env.bare n q (Ly.start Try.f20 [.int .i64 c, fl5 s z x p y] H0)).out? = some (t, .bool b) → trusted t → b = holdsF c s z p y →
        Calls Try.prog 20 ⟨[.int .i64 c, fl5 s z x p y]⟩ w (fun e w' => e = .returned (.bool (holdsF c s z p y)) ∧ Below w.heap.size w w') := by
      intro n q t b h1 h2 h3
      rw [← h3]
      exact calls_trust (Env.bare_ok envOk) n q gH20 (by kernel_rfl) (by simp [plain, plainL, fl5]) (by simp [plain]) h1 h2 w
    by_cases hc : c < 0 ∨ 7 < c
    · rcases hc with hc | hc
      · exact key _ _ _ _ (h20n c s z x p y) (by simp [trusted, hc]) (holdsF_out (.inl hc)).symm
      · exact key _ _ _ _ (h20b c s z x p y) (by simp [trusted, hc]; omega) (holdsF_out (.inr hc)).symm
    · have : c = 0 ∨ c = 1 ∨ c = 2 ∨ c = 3 ∨ c = 4 ∨ c = 5 ∨ c = 6 ∨ c = 7 := by omega
      rcases this with rfl | rfl | rfl | rfl | rfl | rfl | rfl | rfl
      · exact key _ _ _ _ (h20_0 s z x p y) trivial (by cases s <;> cases z <;> cases p <;> cases y <;> rfl)
      · exact key _ _ _ _ (h20_1 s z x p y) trivial (by cases s <;> cases z <;> cases p <;> cases y <;> rfl)
      · exact key _ _ _ _ (h20_2 s z x p y) trivial (by cases s <;> cases z <;> cases p <;> cases y <;> rfl)
      · exact key _ _ _ _ (h20_3 s z x p y) trivial (by cases s <;> cases z <;> cases p <;> cases y <;> rfl)
      · exact key _ _ _ _ (h20_4 s z x p y) trivial (by cases s <;> cases z <;> cases p <;> cases y <;> rfl)
      · exact key _ _ _ _ (h20_5 s z x p y) trivial (by cases s <;> cases z <;> cases p <;> cases y <;> rfl)
      · exact key _ _ _ _ (h20_6 s z x p y) trivial (by cases s <;> cases z <;> cases p <;> cases y <;> rfl)
      · exact key _ _ _ _ (h20_7 s z x p y) trivial (by cases s <;> cases z <;> cases p <;> cases y <;> rfl)
  · cases h
theorem hold21_ans : Answers Try.prog 21 holdC := by
  intro args g v h hg
  unfold holdC at h
  split at h
  · rename_i c s z x p y
    simp only [Option.some.injEq, Prod.mk.injEq] at h
    obtain ⟨rfl, rfl⟩ := h
    refine ⟨by simp [plain, plainL], by simp [plain], fun w => ?_⟩
    have key : ∀ (n : Nat) (q : Path) (t : List (Bool × Bool)) (b : Bool), (Ly.run env.bare n q (Ly.start Try.f21 [.int .i64 c, fl5 s z x p y] H0)).out? = some (t, .bool b) → trusted t → b = holdsF c s z p y →
        Calls Try.prog 21 ⟨[.int .i64 c, fl5 s z x p y]⟩ w (fun e w' => e = .returned (.bool (holdsF c s z p y)) ∧ Below w.heap.size w w') := by
      intro n q t b h1 h2 h3
      rw [← h3]
      exact calls_trust (Env.bare_ok envOk) n q gH21 (by kernel_rfl) (by simp [plain, plainL, fl5]) (by simp [plain]) h1 h2 w
    by_cases hc : c < 0 ∨ 7 < c
    · exact key _ _ _ _ (h21n c s z x p y) (by simp [trusted]; omega) (holdsF_out hc).symm
    · have : c = 0 ∨ c = 1 ∨ c = 2 ∨ c = 3 ∨ c = 4 ∨ c = 5 ∨ c = 6 ∨ c = 7 := by omega
      rcases this with rfl | rfl | rfl | rfl | rfl | rfl | rfl | rfl
      · exact key _ _ _ _ (h21_0 s z x p y) trivial (by cases s <;> cases z <;> cases p <;> cases y <;> rfl)
      · exact key _ _ _ _ (h21_1 s z x p y) trivial (by cases s <;> cases z <;> cases p <;> cases y <;> rfl)
      · exact key _ _ _ _ (h21_2 s z x p y) trivial (by cases s <;> cases z <;> cases p <;> cases y <;> rfl)
      · exact key _ _ _ _ (h21_3 s z x p y) trivial (by cases s <;> cases z <;> cases p <;> cases y <;> rfl)
      · exact key _ _ _ _ (h21_4 s z x p y) trivial (by cases s <;> cases z <;> cases p <;> cases y <;> rfl)
      · exact key _ _ _ _ (h21_5 s z x p y) trivial (by cases s <;> cases z <;> cases p <;> cases y <;> rfl)
      · exact key _ _ _ _ (h21_6 s z x p y) trivial (by cases s <;> cases z <;> cases p <;> cases y <;> rfl)
      · exact key _ _ _ _ (h21_7 s z x p y) trivial (by cases s <;> cases z <;> cases p <;> cases y <;> rfl)
  · cases h
noncomputable def aliveC (l : List Value) : Option (Bool × Value) := match l with
  | [] => some (true, .bool true)
  | _ => none
theorem aliveR : (Ly.run ctxL 9000 [] (Ly.start Try.f11 [] H0)).out? = some ([], .bool true) := by kernel_rfl
theorem alive_ans : Answers Try.prog 11 aliveC := by
  intro args g v h hg
  unfold aliveC at h
  split at h
  · simp only [Option.some.injEq, Prod.mk.injEq] at h
    obtain ⟨rfl, rfl⟩ := h
    exact ⟨rfl, rfl, fun w => calls_trust ctxL_ok 9000 [] gH11 (by kernel_rfl) rfl rfl aliveR trivial w⟩
  · cases h
noncomputable def ctxA : Ctx := ctxL.with 11 aliveC |>.with 20 holdC |>.with 21 holdC
theorem ctxA_ok : ctxA.Ok Try.prog := ctxL_ok.with alive_ans |>.with hold20_ans |>.with hold21_ans
end Go.Proofs.Ytpggoincnebfnaa
