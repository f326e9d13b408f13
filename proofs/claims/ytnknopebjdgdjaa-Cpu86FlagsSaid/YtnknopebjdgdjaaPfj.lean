/- Part 10 of the texts that the law needs, laid together. By program (pack.py). -/
import Derived.Test.YtnknopebjdgdjaaPfd
import Derived.Test.YtnknopebjdgdjaaPfg
import Derived.Test.YtnknopebjdgdjaaPfh
import Derived.Test.YtnknopebjdgdjaaPfi
import Derived.KernelRfl
import Derived.Laws.BitsLemmas
import Derived.Laws.BitsAllLaws
set_option linter.unusedVariables false
set_option linter.unusedSimpArgs false
noncomputable section
namespace Go.Proofs.Ytnknopebjdgdjaa
open Go Go.Ly Go.RowKit
theorem bif_p {P : Isa.Hd → Prop} {c : Bool} {x y : Isa.Hd} (hx : P x) (hy : P y) : P (bif c then x else y) := by cases c; exact hy; exact hx
def Tk (h : Isa.Hd) : Prop := 0 ≤ h.t ∧ h.t ≤ 3
theorem hd6_t (op d s : Int) : 0 ≤ (hd6 op d s).t ∧ (hd6 op d s).t ≤ 3 := by
  show Tk (hd6 op d s)
  unfold hd6 hf6 ha6 hb6 hd_6 hc6 he6 hdAl
  repeat' (refine bif_p ?_ ?_)
  all_goals (unfold Tk; simp [Isa.hdN])
def rk6 (op d s n : Int) : Int := bif (hd6 op d s).n == 0 then 12 else bif (hd6 op d s).t == 0 then (bif (n != 0) == false then 0 else 5) else bif (hd6 op d s).t == 1 then (bif decide (255 < n) == false then 0 else 5) else bif (hd6 op d s).t == 2 then 0 else bif decide (127 < n) == true then (bif decide (n < 65408) then 5 else 0) else 0
theorem gRi6 : ctxY1.fn.get 35 = some Try.f35 := by kernel_rfl
theorem ri6_0 (op d s n : Int) : endsAt [] (Ly.run ctxY1 3000 [(0, true)] (Ly.start Try.f35 [.agg ⟨[.int .i64 op, .int .i64 d, .int .i64 s, .int .u16 n]⟩] H0)) = some ([((hd6 op d s).n == 0, true)], .int .i64 12, 1, []) := by kernel_rfl
theorem ri6_1 (op d s n : Int) : endsAt [] (Ly.run ctxY1 3000 [(0, false), (0, true), (0, true), (5, true)] (Ly.start Try.f35 [.agg ⟨[.int .i64 op, .int .i64 d, .int .i64 s, .int .u16 n]⟩] H0)) = some ([((hd6 op d s).n == 0, false), ((hd6 op d s).n == 1, true), ((hd6 op d s).t == 0, true), ((n != 0) == false, true)], .int .i64 0, 2, []) := by kernel_rfl
theorem ri6_2 (op d s n : Int) : endsAt [] (Ly.run ctxY1 3000 [(0, false), (0, true), (0, true), (5, false)] (Ly.start Try.f35 [.agg ⟨[.int .i64 op, .int .i64 d, .int .i64 s, .int .u16 n]⟩] H0)) = some ([((hd6 op d s).n == 0, false), ((hd6 op d s).n == 1, true), ((hd6 op d s).t == 0, true), ((n != 0) == false, false)], .int .i64 5, 2, []) := by kernel_rfl
theorem ri6_3 (op d s n : Int) : endsAt [] (Ly.run ctxY1 3000 [(0, false), (0, true), (0, false), (0, true), (14, true)] (Ly.start Try.f35 [.agg ⟨[.int .i64 op, .int .i64 d, .int .i64 s, .int .u16 n]⟩] H0)) = some ([((hd6 op d s).n == 0, false), ((hd6 op d s).n == 1, true), ((hd6 op d s).t == 0, false), ((hd6 op d s).t == 1, true), (decide (255 < n) == false, true)], .int .i64 0, 2, []) := by kernel_rfl
theorem ri6_4 (op d s n : Int) : endsAt [] (Ly.run ctxY1 3000 [(0, false), (0, true), (0, false), (0, true), (14, false)] (Ly.start Try.f35 [.agg ⟨[.int .i64 op, .int .i64 d, .int .i64 s, .int .u16 n]⟩] H0)) = some ([((hd6 op d s).n == 0, false), ((hd6 op d s).n == 1, true), ((hd6 op d s).t == 0, false), ((hd6 op d s).t == 1, true), (decide (255 < n) == false, false)], .int .i64 5, 2, []) := by kernel_rfl
theorem ri6_5 (op d s n : Int) : endsAt [] (Ly.run ctxY1 3000 [(0, false), (0, true), (0, false), (0, false), (0, true)] (Ly.start Try.f35 [.agg ⟨[.int .i64 op, .int .i64 d, .int .i64 s, .int .u16 n]⟩] H0)) = some ([((hd6 op d s).n == 0, false), ((hd6 op d s).n == 1, true), ((hd6 op d s).t == 0, false), ((hd6 op d s).t == 1, false), ((hd6 op d s).t == 2, true)], .int .i64 0, 2, []) := by kernel_rfl
theorem ri6_6 (op d s n : Int) : endsAt [] (Ly.run ctxY1 3000 [(0, false), (0, true), (0, false), (0, false), (0, false), (0, true), (23, true), (5, true)] (Ly.start Try.f35 [.agg ⟨[.int .i64 op, .int .i64 d, .int .i64 s, .int .u16 n]⟩] H0)) = some ([((hd6 op d s).n == 0, false), ((hd6 op d s).n == 1, true), ((hd6 op d s).t == 0, false), ((hd6 op d s).t == 1, false), ((hd6 op d s).t == 2, false), ((hd6 op d s).t == 3, true), (decide (127 < n) == true, true), (decide (n < 65408), true)], .int .i64 5, 2, []) := by kernel_rfl
theorem ri6_7 (op d s n : Int) : endsAt [] (Ly.run ctxY1 3000 [(0, false), (0, true), (0, false), (0, false), (0, false), (0, true), (23, true), (5, false)] (Ly.start Try.f35 [.agg ⟨[.int .i64 op, .int .i64 d, .int .i64 s, .int .u16 n]⟩] H0)) = some ([((hd6 op d s).n == 0, false), ((hd6 op d s).n == 1, true), ((hd6 op d s).t == 0, false), ((hd6 op d s).t == 1, false), ((hd6 op d s).t == 2, false), ((hd6 op d s).t == 3, true), (decide (127 < n) == true, true), (decide (n < 65408), false)], .int .i64 0, 2, []) := by kernel_rfl
theorem ri6_8 (op d s n : Int) : endsAt [] (Ly.run ctxY1 3000 [(0, false), (0, true), (0, false), (0, false), (0, false), (0, true), (23, false)] (Ly.start Try.f35 [.agg ⟨[.int .i64 op, .int .i64 d, .int .i64 s, .int .u16 n]⟩] H0)) = some ([((hd6 op d s).n == 0, false), ((hd6 op d s).n == 1, true), ((hd6 op d s).t == 0, false), ((hd6 op d s).t == 1, false), ((hd6 op d s).t == 2, false), ((hd6 op d s).t == 3, true), (decide (127 < n) == true, false)], .int .i64 0, 2, []) := by kernel_rfl
theorem ri6_9 (op d s n : Int) : endsAt [] (Ly.run ctxY1 3000 [(0, false), (0, false), (0, true), (5, true)] (Ly.start Try.f35 [.agg ⟨[.int .i64 op, .int .i64 d, .int .i64 s, .int .u16 n]⟩] H0)) = some ([((hd6 op d s).n == 0, false), ((hd6 op d s).n == 1, false), ((hd6 op d s).t == 0, true), ((n != 0) == false, true)], .int .i64 0, 2, []) := by kernel_rfl
theorem ri6_10 (op d s n : Int) : endsAt [] (Ly.run ctxY1 3000 [(0, false), (0, false), (0, true), (5, false)] (Ly.start Try.f35 [.agg ⟨[.int .i64 op, .int .i64 d, .int .i64 s, .int .u16 n]⟩] H0)) = some ([((hd6 op d s).n == 0, false), ((hd6 op d s).n == 1, false), ((hd6 op d s).t == 0, true), ((n != 0) == false, false)], .int .i64 5, 2, []) := by kernel_rfl
theorem ri6_11 (op d s n : Int) : endsAt [] (Ly.run ctxY1 3000 [(0, false), (0, false), (0, false), (0, true), (14, true)] (Ly.start Try.f35 [.agg ⟨[.int .i64 op, .int .i64 d, .int .i64 s, .int .u16 n]⟩] H0)) = some ([((hd6 op d s).n == 0, false), ((hd6 op d s).n == 1, false), ((hd6 op d s).t == 0, false), ((hd6 op d s).t == 1, true), (decide (255 < n) == false, true)], .int .i64 0, 2, []) := by kernel_rfl
theorem ri6_12 (op d s n : Int) : endsAt [] (Ly.run ctxY1 3000 [(0, false), (0, false), (0, false), (0, true), (14, false)] (Ly.start Try.f35 [.agg ⟨[.int .i64 op, .int .i64 d, .int .i64 s, .int .u16 n]⟩] H0)) = some ([((hd6 op d s).n == 0, false), ((hd6 op d s).n == 1, false), ((hd6 op d s).t == 0, false), ((hd6 op d s).t == 1, true), (decide (255 < n) == false, false)], .int .i64 5, 2, []) := by kernel_rfl
theorem ri6_13 (op d s n : Int) : endsAt [] (Ly.run ctxY1 3000 [(0, false), (0, false), (0, false), (0, false), (0, true)] (Ly.start Try.f35 [.agg ⟨[.int .i64 op, .int .i64 d, .int .i64 s, .int .u16 n]⟩] H0)) = some ([((hd6 op d s).n == 0, false), ((hd6 op d s).n == 1, false), ((hd6 op d s).t == 0, false), ((hd6 op d s).t == 1, false), ((hd6 op d s).t == 2, true)], .int .i64 0, 2, []) := by kernel_rfl
theorem ri6_14 (op d s n : Int) : endsAt [] (Ly.run ctxY1 3000 [(0, false), (0, false), (0, false), (0, false), (0, false), (0, true), (23, true), (5, true)] (Ly.start Try.f35 [.agg ⟨[.int .i64 op, .int .i64 d, .int .i64 s, .int .u16 n]⟩] H0)) = some ([((hd6 op d s).n == 0, false), ((hd6 op d s).n == 1, false), ((hd6 op d s).t == 0, false), ((hd6 op d s).t == 1, false), ((hd6 op d s).t == 2, false), ((hd6 op d s).t == 3, true), (decide (127 < n) == true, true), (decide (n < 65408), true)], .int .i64 5, 2, []) := by kernel_rfl
theorem ri6_15 (op d s n : Int) : endsAt [] (Ly.run ctxY1 3000 [(0, false), (0, false), (0, false), (0, false), (0, false), (0, true), (23, true), (5, false)] (Ly.start Try.f35 [.agg ⟨[.int .i64 op, .int .i64 d, .int .i64 s, .int .u16 n]⟩] H0)) = some ([((hd6 op d s).n == 0, false), ((hd6 op d s).n == 1, false), ((hd6 op d s).t == 0, false), ((hd6 op d s).t == 1, false), ((hd6 op d s).t == 2, false), ((hd6 op d s).t == 3, true), (decide (127 < n) == true, true), (decide (n < 65408), false)], .int .i64 0, 2, []) := by kernel_rfl
theorem ri6_16 (op d s n : Int) : endsAt [] (Ly.run ctxY1 3000 [(0, false), (0, false), (0, false), (0, false), (0, false), (0, true), (23, false)] (Ly.start Try.f35 [.agg ⟨[.int .i64 op, .int .i64 d, .int .i64 s, .int .u16 n]⟩] H0)) = some ([((hd6 op d s).n == 0, false), ((hd6 op d s).n == 1, false), ((hd6 op d s).t == 0, false), ((hd6 op d s).t == 1, false), ((hd6 op d s).t == 2, false), ((hd6 op d s).t == 3, true), (decide (127 < n) == true, false)], .int .i64 0, 2, []) := by kernel_rfl
theorem right6 (op d s n : Int) : LCalls Try.prog 35 [.agg ⟨[.int .i64 op, .int .i64 d, .int .i64 s, .int .u16 n]⟩] H0 (fun u _ => u = .int .i64 (rk6 op d s n)) := by
  have ht := hd6_t op d s
  rcases Bool.eq_false_or_eq_true ((hd6 op d s).n == 0) with h0 | h0
  · have e : rk6 op d s n = 12 := (by unfold rk6; simp only [cond_true, cond_false, h0]); rw [e]; exact (LCalls_of ctxY1_ok gRi6 (by kernel_rfl) (MWp.ends ctxY1_ok 3000 [(0, true)] (ri6_0 op d s n) ⟨h0, trivial⟩)).mono (fun u K h => h.1)
  · rcases Bool.eq_false_or_eq_true ((hd6 op d s).n == 1) with h1 | h1
    · rcases Bool.eq_false_or_eq_true ((hd6 op d s).t == 0) with h2 | h2
      · rcases Bool.eq_false_or_eq_true ((n != 0) == false) with h3 | h3
        · have e : rk6 op d s n = 0 := (by unfold rk6; simp only [cond_true, cond_false, h0, h1, h2, h3]); rw [e]; exact (LCalls_of ctxY1_ok gRi6 (by kernel_rfl) (MWp.ends ctxY1_ok 3000 [(0, false), (0, true), (0, true), (5, true)] (ri6_1 op d s n) ⟨h0, h1, h2, h3, trivial⟩)).mono (fun u K h => h.1)
        · have e : rk6 op d s n = 5 := (by unfold rk6; simp only [cond_true, cond_false, h0, h1, h2, h3]); rw [e]; exact (LCalls_of ctxY1_ok gRi6 (by kernel_rfl) (MWp.ends ctxY1_ok 3000 [(0, false), (0, true), (0, true), (5, false)] (ri6_2 op d s n) ⟨h0, h1, h2, h3, trivial⟩)).mono (fun u K h => h.1)
      · rcases Bool.eq_false_or_eq_true ((hd6 op d s).t == 1) with h3 | h3
        · rcases Bool.eq_false_or_eq_true (decide (255 < n) == false) with h4 | h4
          · have e : rk6 op d s n = 0 := (by unfold rk6; simp only [cond_true, cond_false, h0, h1, h2, h3, h4]); rw [e]; exact (LCalls_of ctxY1_ok gRi6 (by kernel_rfl) (MWp.ends ctxY1_ok 3000 [(0, false), (0, true), (0, false), (0, true), (14, true)] (ri6_3 op d s n) ⟨h0, h1, h2, h3, h4, trivial⟩)).mono (fun u K h => h.1)
          · have e : rk6 op d s n = 5 := (by unfold rk6; simp only [cond_true, cond_false, h0, h1, h2, h3, h4]); rw [e]; exact (LCalls_of ctxY1_ok gRi6 (by kernel_rfl) (MWp.ends ctxY1_ok 3000 [(0, false), (0, true), (0, false), (0, true), (14, false)] (ri6_4 op d s n) ⟨h0, h1, h2, h3, h4, trivial⟩)).mono (fun u K h => h.1)
        · rcases Bool.eq_false_or_eq_true ((hd6 op d s).t == 2) with h4 | h4
          · have e : rk6 op d s n = 0 := (by unfold rk6; simp only [cond_true, cond_false, h0, h1, h2, h3, h4]); rw [e]; exact (LCalls_of ctxY1_ok gRi6 (by kernel_rfl) (MWp.ends ctxY1_ok 3000 [(0, false), (0, true), (0, false), (0, false), (0, true)] (ri6_5 op d s n) ⟨h0, h1, h2, h3, h4, trivial⟩)).mono (fun u K h => h.1)
          · have h5 : ((hd6 op d s).t == 3) = true := by first | assumption | (simp at *; omega)
            rcases Bool.eq_false_or_eq_true (decide (127 < n) == true) with h6 | h6
            · rcases Bool.eq_false_or_eq_true (decide (n < 65408)) with h7 | h7
              · have e : rk6 op d s n = 5 := (by unfold rk6; simp only [cond_true, cond_false, h0, h1, h2, h3, h4, h5, h6, h7]); rw [e]; exact (LCalls_of ctxY1_ok gRi6 (by kernel_rfl) (MWp.ends ctxY1_ok 3000 [(0, false), (0, true), (0, false), (0, false), (0, false), (0, true), (23, true), (5, true)] (ri6_6 op d s n) ⟨h0, h1, h2, h3, h4, h5, h6, h7, trivial⟩)).mono (fun u K h => h.1)
              · have e : rk6 op d s n = 0 := (by unfold rk6; simp only [cond_true, cond_false, h0, h1, h2, h3, h4, h5, h6, h7]); rw [e]; exact (LCalls_of ctxY1_ok gRi6 (by kernel_rfl) (MWp.ends ctxY1_ok 3000 [(0, false), (0, true), (0, false), (0, false), (0, false), (0, true), (23, true), (5, false)] (ri6_7 op d s n) ⟨h0, h1, h2, h3, h4, h5, h6, h7, trivial⟩)).mono (fun u K h => h.1)
            · have e : rk6 op d s n = 0 := (by unfold rk6; simp only [cond_true, cond_false, h0, h1, h2, h3, h4, h5, h6]); rw [e]; exact (LCalls_of ctxY1_ok gRi6 (by kernel_rfl) (MWp.ends ctxY1_ok 3000 [(0, false), (0, true), (0, false), (0, false), (0, false), (0, true), (23, false)] (ri6_8 op d s n) ⟨h0, h1, h2, h3, h4, h5, h6, trivial⟩)).mono (fun u K h => h.1)
    · rcases Bool.eq_false_or_eq_true ((hd6 op d s).t == 0) with h2 | h2
      · rcases Bool.eq_false_or_eq_true ((n != 0) == false) with h3 | h3
        · have e : rk6 op d s n = 0 := (by unfold rk6; simp only [cond_true, cond_false, h0, h1, h2, h3]); rw [e]; exact (LCalls_of ctxY1_ok gRi6 (by kernel_rfl) (MWp.ends ctxY1_ok 3000 [(0, false), (0, false), (0, true), (5, true)] (ri6_9 op d s n) ⟨h0, h1, h2, h3, trivial⟩)).mono (fun u K h => h.1)
        · have e : rk6 op d s n = 5 := (by unfold rk6; simp only [cond_true, cond_false, h0, h1, h2, h3]); rw [e]; exact (LCalls_of ctxY1_ok gRi6 (by kernel_rfl) (MWp.ends ctxY1_ok 3000 [(0, false), (0, false), (0, true), (5, false)] (ri6_10 op d s n) ⟨h0, h1, h2, h3, trivial⟩)).mono (fun u K h => h.1)
      · rcases Bool.eq_false_or_eq_true ((hd6 op d s).t == 1) with h3 | h3
        · rcases Bool.eq_false_or_eq_true (decide (255 < n) == false) with h4 | h4
          · have e : rk6 op d s n = 0 := (by unfold rk6; simp only [cond_true, cond_false, h0, h1, h2, h3, h4]); rw [e]; exact (LCalls_of ctxY1_ok gRi6 (by kernel_rfl) (MWp.ends ctxY1_ok 3000 [(0, false), (0, false), (0, false), (0, true), (14, true)] (ri6_11 op d s n) ⟨h0, h1, h2, h3, h4, trivial⟩)).mono (fun u K h => h.1)
          · have e : rk6 op d s n = 5 := (by unfold rk6; simp only [cond_true, cond_false, h0, h1, h2, h3, h4]); rw [e]; exact (LCalls_of ctxY1_ok gRi6 (by kernel_rfl) (MWp.ends ctxY1_ok 3000 [(0, false), (0, false), (0, false), (0, true), (14, false)] (ri6_12 op d s n) ⟨h0, h1, h2, h3, h4, trivial⟩)).mono (fun u K h => h.1)
        · rcases Bool.eq_false_or_eq_true ((hd6 op d s).t == 2) with h4 | h4
          · have e : rk6 op d s n = 0 := (by unfold rk6; simp only [cond_true, cond_false, h0, h1, h2, h3, h4]); rw [e]; exact (LCalls_of ctxY1_ok gRi6 (by kernel_rfl) (MWp.ends ctxY1_ok 3000 [(0, false), (0, false), (0, false), (0, false), (0, true)] (ri6_13 op d s n) ⟨h0, h1, h2, h3, h4, trivial⟩)).mono (fun u K h => h.1)
          · have h5 : ((hd6 op d s).t == 3) = true := by first | assumption | (simp at *; omega)
            rcases Bool.eq_false_or_eq_true (decide (127 < n) == true) with h6 | h6
            · rcases Bool.eq_false_or_eq_true (decide (n < 65408)) with h7 | h7
              · have e : rk6 op d s n = 5 := (by unfold rk6; simp only [cond_true, cond_false, h0, h1, h2, h3, h4, h5, h6, h7]); rw [e]; exact (LCalls_of ctxY1_ok gRi6 (by kernel_rfl) (MWp.ends ctxY1_ok 3000 [(0, false), (0, false), (0, false), (0, false), (0, false), (0, true), (23, true), (5, true)] (ri6_14 op d s n) ⟨h0, h1, h2, h3, h4, h5, h6, h7, trivial⟩)).mono (fun u K h => h.1)
              · have e : rk6 op d s n = 0 := (by unfold rk6; simp only [cond_true, cond_false, h0, h1, h2, h3, h4, h5, h6, h7]); rw [e]; exact (LCalls_of ctxY1_ok gRi6 (by kernel_rfl) (MWp.ends ctxY1_ok 3000 [(0, false), (0, false), (0, false), (0, false), (0, false), (0, true), (23, true), (5, false)] (ri6_15 op d s n) ⟨h0, h1, h2, h3, h4, h5, h6, h7, trivial⟩)).mono (fun u K h => h.1)
            · have e : rk6 op d s n = 0 := (by unfold rk6; simp only [cond_true, cond_false, h0, h1, h2, h3, h4, h5, h6]); rw [e]; exact (LCalls_of ctxY1_ok gRi6 (by kernel_rfl) (MWp.ends ctxY1_ok 3000 [(0, false), (0, false), (0, false), (0, false), (0, false), (0, true), (23, false)] (ri6_16 op d s n) ⟨h0, h1, h2, h3, h4, h5, h6, trivial⟩)).mono (fun u K h => h.1)
def rightC6 (l : List Value) : Option (Bool × Value) := match l with
  | [.agg ⟨[.int .i64 op, .int .i64 d, .int .i64 s, .int .u16 n]⟩] => some (true, .int .i64 (rk6 op d s n))
  | _ => none
theorem right6_ans : Answers Try.prog 35 rightC6 := by
  intro args g v h hg
  unfold rightC6 at h
  split at h
  · rename_i op d s n
    simp only [Option.some.injEq, Prod.mk.injEq] at h
    obtain ⟨rfl, rfl⟩ := h
    exact ⟨by simp [plain, plainL], by simp [plain], fun w => calls_plain (by simp [VRL, VR]) (fun ρ v' h => plain_eq (by simp [plain]) h) (right6 op d s n) w⟩
  · cases h
def ctxY2 : Ctx := ctxY1.with 35 rightC6
theorem ctxY2_ok : ctxY2.Ok Try.prog := ctxY1_ok.with right6_ans
end Go.Proofs.Ytnknopebjdgdjaa
namespace Go.Proofs.Ytnknopebjdgdjaa
open Go Go.Ly Go.RowKit
theorem bb6_2 (op d s n : Int) : endsAt [1] (Ly.run ctxY2 3000 [(1, false), (0, false), (0, true), (0, true)] (Ly.start Try.f22 [.agg ⟨[.int .i64 op, .int .i64 d, .int .i64 s, .int .u16 n]⟩] H0)) = some ([(rk6 op d s n != 0, false), ((hd6 op d s).n == 0, false), ((hd6 op d s).n == 1, true), ((hd6 op d s).t == 0, true)], .tuple ⟨[.slice (some ⟨1, 0, none⟩) 1 1, .int .i64 0]⟩, 2, [some (.cells [.int .u8 (hd6 op d s).b0] 5)]) := by kernel_rfl
theorem bb6_3 (op d s n : Int) : endsAt [3] (Ly.run ctxY2 3000 [(1, false), (0, false), (0, true), (0, false), (0, true)] (Ly.start Try.f22 [.agg ⟨[.int .i64 op, .int .i64 d, .int .i64 s, .int .u16 n]⟩] H0)) = some ([(rk6 op d s n != 0, false), ((hd6 op d s).n == 0, false), ((hd6 op d s).n == 1, true), ((hd6 op d s).t == 0, false), ((hd6 op d s).t == 1, true)], .tuple ⟨[.slice (some ⟨3, 0, none⟩) 2 18446744073709551616, .int .i64 0]⟩, 4, [some (.row [.int .u8 (hd6 op d s).b0, .int .u8 (IntKind.u8.wrap (bits .and .u16 n 255))] 5 1)]) := by kernel_rfl
theorem bb6_4 (op d s n : Int) : endsAt [5] (Ly.run ctxY2 3000 [(1, false), (0, false), (0, true), (0, false), (0, false), (0, true)] (Ly.start Try.f22 [.agg ⟨[.int .i64 op, .int .i64 d, .int .i64 s, .int .u16 n]⟩] H0)) = some ([(rk6 op d s n != 0, false), ((hd6 op d s).n == 0, false), ((hd6 op d s).n == 1, true), ((hd6 op d s).t == 0, false), ((hd6 op d s).t == 1, false), ((hd6 op d s).t == 2, true)], .tuple ⟨[.slice (some ⟨5, 0, none⟩) 3 18446744073709551616, .int .i64 0]⟩, 6, [some (.row [.int .u8 (hd6 op d s).b0, .int .u8 (IntKind.u8.wrap (bits .and .u16 n 255)), .int .u8 (IntKind.u8.wrap (n.fdiv 256))] 5 1)]) := by kernel_rfl
theorem bb6_5 (op d s n : Int) : endsAt [3] (Ly.run ctxY2 3000 [(1, false), (0, false), (0, true), (0, false), (0, false), (0, false), (0, true)] (Ly.start Try.f22 [.agg ⟨[.int .i64 op, .int .i64 d, .int .i64 s, .int .u16 n]⟩] H0)) = some ([(rk6 op d s n != 0, false), ((hd6 op d s).n == 0, false), ((hd6 op d s).n == 1, true), ((hd6 op d s).t == 0, false), ((hd6 op d s).t == 1, false), ((hd6 op d s).t == 2, false), ((hd6 op d s).t == 3, true)], .tuple ⟨[.slice (some ⟨3, 0, none⟩) 2 18446744073709551616, .int .i64 0]⟩, 4, [some (.row [.int .u8 (hd6 op d s).b0, .int .u8 (IntKind.u8.wrap (bits .and .u16 n 255))] 5 1)]) := by kernel_rfl
theorem bb6_6 (op d s n : Int) : endsAt [1] (Ly.run ctxY2 3000 [(1, false), (0, false), (0, false), (0, true)] (Ly.start Try.f22 [.agg ⟨[.int .i64 op, .int .i64 d, .int .i64 s, .int .u16 n]⟩] H0)) = some ([(rk6 op d s n != 0, false), ((hd6 op d s).n == 0, false), ((hd6 op d s).n == 1, false), ((hd6 op d s).t == 0, true)], .tuple ⟨[.slice (some ⟨1, 0, none⟩) 2 2, .int .i64 0]⟩, 2, [some (.cells [.int .u8 (hd6 op d s).b0, .int .u8 (hd6 op d s).b1] 5)]) := by kernel_rfl
theorem bb6_7 (op d s n : Int) : endsAt [3] (Ly.run ctxY2 3000 [(1, false), (0, false), (0, false), (0, false), (0, true)] (Ly.start Try.f22 [.agg ⟨[.int .i64 op, .int .i64 d, .int .i64 s, .int .u16 n]⟩] H0)) = some ([(rk6 op d s n != 0, false), ((hd6 op d s).n == 0, false), ((hd6 op d s).n == 1, false), ((hd6 op d s).t == 0, false), ((hd6 op d s).t == 1, true)], .tuple ⟨[.slice (some ⟨3, 0, none⟩) 3 18446744073709551616, .int .i64 0]⟩, 4, [some (.row [.int .u8 (hd6 op d s).b0, .int .u8 (hd6 op d s).b1, .int .u8 (IntKind.u8.wrap (bits .and .u16 n 255))] 5 1)]) := by kernel_rfl
theorem bb6_8 (op d s n : Int) : endsAt [5] (Ly.run ctxY2 3000 [(1, false), (0, false), (0, false), (0, false), (0, false), (0, true)] (Ly.start Try.f22 [.agg ⟨[.int .i64 op, .int .i64 d, .int .i64 s, .int .u16 n]⟩] H0)) = some ([(rk6 op d s n != 0, false), ((hd6 op d s).n == 0, false), ((hd6 op d s).n == 1, false), ((hd6 op d s).t == 0, false), ((hd6 op d s).t == 1, false), ((hd6 op d s).t == 2, true)], .tuple ⟨[.slice (some ⟨5, 0, none⟩) 4 18446744073709551616, .int .i64 0]⟩, 6, [some (.row [.int .u8 (hd6 op d s).b0, .int .u8 (hd6 op d s).b1, .int .u8 (IntKind.u8.wrap (bits .and .u16 n 255)), .int .u8 (IntKind.u8.wrap (n.fdiv 256))] 5 1)]) := by kernel_rfl
theorem bb6_9 (op d s n : Int) : endsAt [3] (Ly.run ctxY2 3000 [(1, false), (0, false), (0, false), (0, false), (0, false), (0, false), (0, true)] (Ly.start Try.f22 [.agg ⟨[.int .i64 op, .int .i64 d, .int .i64 s, .int .u16 n]⟩] H0)) = some ([(rk6 op d s n != 0, false), ((hd6 op d s).n == 0, false), ((hd6 op d s).n == 1, false), ((hd6 op d s).t == 0, false), ((hd6 op d s).t == 1, false), ((hd6 op d s).t == 2, false), ((hd6 op d s).t == 3, true)], .tuple ⟨[.slice (some ⟨3, 0, none⟩) 3 18446744073709551616, .int .i64 0]⟩, 4, [some (.row [.int .u8 (hd6 op d s).b0, .int .u8 (hd6 op d s).b1, .int .u8 (IntKind.u8.wrap (bits .and .u16 n 255))] 5 1)]) := by kernel_rfl
theorem bb6_0 (op d s n : Int) : endsAt [] (Ly.run ctxY2 3000 [(1, true)] (Ly.start Try.f22 [.agg ⟨[.int .i64 op, .int .i64 d, .int .i64 s, .int .u16 n]⟩] H0)) = some ([(rk6 op d s n != 0, true)], .tuple ⟨[.slice none 0 0, .int .i64 (rk6 op d s n)]⟩, 1, []) := by kernel_rfl
theorem gBy6 : ctxY2.fn.get 22 = some Try.f22 := by kernel_rfl
def lenB6 (op d s : Int) : Nat := (bif (hd6 op d s).n == 1 then 1 else 2) + (bif (hd6 op d s).t == 0 then 0 else bif (hd6 op d s).t == 2 then 2 else 1)
def bF (op d s n : Int) (e : Nat) : Int := bif Nat.beq e 0 then (hd6 op d s).b0 else bif (hd6 op d s).n == 1 then (bif Nat.beq e 1 then IntKind.u8.wrap (bits .and .u16 n 255) else IntKind.u8.wrap (n.fdiv 256)) else bif Nat.beq e 1 then (hd6 op d s).b1 else bif Nat.beq e 2 then IntKind.u8.wrap (bits .and .u16 n 255) else IntKind.u8.wrap (n.fdiv 256)
def byL (l : Nat) (f : Nat → ER) : ER := .tst (Nat.beq l 1) (f 1) (.tst (Nat.beq l 2) (f 2) (.tst (Nat.beq l 3) (f 3) (.tst (Nat.beq l 4) (f 4) .no)))
theorem byL_good {f : Nat} {args : List Value} {H : Heap} {l : Nat} {g : Nat → ER} (h : HGood Try.prog f args H (g l)) : HGood Try.prog f args H (byL l g) := by
  refine ⟨fun e => ?_, fun _ => ⟨fun e => ?_, fun _ => ⟨fun e => ?_, fun _ => ⟨fun e => ?_, fun _ => trivial⟩⟩⟩⟩ <;>
  · have e := Nat.eq_of_beq_eq_true e
    rw [e] at h; exact h
def bytesE6 (H : Heap) (args : List Value) : ER :=
  match args with
  | [.agg ⟨[.int .i64 op, .int .i64 d, .int .i64 s, .int .u16 n]⟩] => .tst (rk6 op d s n == 0) (byL (lenB6 op d s) fun L => pairNew H (fun e => .int .u8 (bF op d s n e)) L 5 (.int .i64 0)) (.val (.tuple ⟨[.slice none 0 0, .int .i64 (rk6 op d s n)]⟩))
  | _ => .no
theorem rk6_hd {op d s n : Int} (h : rk6 op d s n = 0) : (hd6 op d s).n ≠ 0 := by
  intro e
  unfold rk6 at h
  rw [e] at h
  have h12 : (12 : Int) = 0 := h
  omega
theorem bytes6_good (H : Heap) (args : List Value) : HGood Try.prog 22 args H (bytesE6 H args) := by
  unfold bytesE6
  split
  · rename_i op d s n
    refine ⟨fun hr => ?_, fun hr => ?_⟩
    · have hr := beq_iff_eq.1 hr
      have hz := rk6_hd hr
      have hr0 : (rk6 op d s n != 0) = false := by simp [hr]
      have hz0 : ((hd6 op d s).n == 0) = false := by simpa using hz
      have ht := hd6_t op d s
      have tc : (hd6 op d s).t = 0 ∨ (hd6 op d s).t = 1 ∨ (hd6 op d s).t = 2 ∨ (hd6 op d s).t = 3 := by omega
      refine byL_good ?_
      cases h10 : ((hd6 op d s).n == 1) with
      | true =>
        rcases tc with h2 | h2 | h2 | h2
        · have el : lenB6 op d s = 1 := by unfold lenB6; rw [h10, h2]; rfl
          have hg : ∀ e, e < 1 → [.int .u8 (hd6 op d s).b0][e]? = some (Value.int .u8 (bF op d s n e)) := by
            intro e he
            have : e = 0 := by omega
            rcases this with rfl
            · unfold bF; rw [h10]; rfl
          rw [el]
          refine pairNew_good2 (r := 1) (c := [.int .u8 (hd6 op d s).b0]) (by simp [plain, plainL]) (by simp [plain]) (by rfl) rfl (by simp) (by unfold capU; simp) hg ?_ H
          refine (LCalls_of ctxY2_ok gBy6 (by kernel_rfl) (MWp.ends ctxY2_ok 3000 [(1, false), (0, false), (0, true), (0, true)] (bb6_2 op d s n) ⟨hr0, hz0, h10, (by simp [h2] : ((hd6 op d s).t == 0) = true), trivial⟩)).mono ?_
          rintro u K ⟨rfl, _, hk, hlk⟩
          simp only [List.map_cons, List.map_nil, List.cons.injEq, and_true] at hk
          exact ⟨rfl, hk, hlk⟩
        · have el : lenB6 op d s = 2 := by unfold lenB6; rw [h10, h2]; rfl
          have hg : ∀ e, e < 2 → [.int .u8 (hd6 op d s).b0, .int .u8 (IntKind.u8.wrap (bits .and .u16 n 255))][e]? = some (Value.int .u8 (bF op d s n e)) := by
            intro e he
            have : e = 0 ∨ e = 1 := by omega
            rcases this with rfl | rfl
            · unfold bF; rw [h10]; rfl
            · unfold bF; rw [h10]; rfl
          rw [el]
          refine pairNew_good (r := 3) (c := [.int .u8 (hd6 op d s).b0, .int .u8 (IntKind.u8.wrap (bits .and .u16 n 255))]) (by simp [plain, plainL]) (by simp [plain]) (by rfl) rfl (by simp) hg ?_ H
          refine (LCalls_of ctxY2_ok gBy6 (by kernel_rfl) (MWp.ends ctxY2_ok 3000 [(1, false), (0, false), (0, true), (0, false), (0, true)] (bb6_3 op d s n) ⟨hr0, hz0, h10, (by simp [h2] : ((hd6 op d s).t == 0) = false), (by simp [h2] : ((hd6 op d s).t == 1) = true), trivial⟩)).mono ?_
          rintro u K ⟨rfl, _, hk, hlk⟩
          simp only [List.map_cons, List.map_nil, List.cons.injEq, and_true] at hk
          exact ⟨rfl, hk, hlk⟩
        · have el : lenB6 op d s = 3 := by unfold lenB6; rw [h10, h2]; rfl
          have hg : ∀ e, e < 3 → [.int .u8 (hd6 op d s).b0, .int .u8 (IntKind.u8.wrap (bits .and .u16 n 255)), .int .u8 (IntKind.u8.wrap (n.fdiv 256))][e]? = some (Value.int .u8 (bF op d s n e)) := by
            intro e he
            have : e = 0 ∨ e = 1 ∨ e = 2 := by omega
            rcases this with rfl | rfl | rfl
            · unfold bF; rw [h10]; rfl
            · unfold bF; rw [h10]; rfl
            · unfold bF; rw [h10]; rfl
          rw [el]
          refine pairNew_good (r := 5) (c := [.int .u8 (hd6 op d s).b0, .int .u8 (IntKind.u8.wrap (bits .and .u16 n 255)), .int .u8 (IntKind.u8.wrap (n.fdiv 256))]) (by simp [plain, plainL]) (by simp [plain]) (by rfl) rfl (by simp) hg ?_ H
          refine (LCalls_of ctxY2_ok gBy6 (by kernel_rfl) (MWp.ends ctxY2_ok 3000 [(1, false), (0, false), (0, true), (0, false), (0, false), (0, true)] (bb6_4 op d s n) ⟨hr0, hz0, h10, (by simp [h2] : ((hd6 op d s).t == 0) = false), (by simp [h2] : ((hd6 op d s).t == 1) = false), (by simp [h2] : ((hd6 op d s).t == 2) = true), trivial⟩)).mono ?_
          rintro u K ⟨rfl, _, hk, hlk⟩
          simp only [List.map_cons, List.map_nil, List.cons.injEq, and_true] at hk
          exact ⟨rfl, hk, hlk⟩
        · have el : lenB6 op d s = 2 := by unfold lenB6; rw [h10, h2]; rfl
          have hg : ∀ e, e < 2 → [.int .u8 (hd6 op d s).b0, .int .u8 (IntKind.u8.wrap (bits .and .u16 n 255))][e]? = some (Value.int .u8 (bF op d s n e)) := by
            intro e he
            have : e = 0 ∨ e = 1 := by omega
            rcases this with rfl | rfl
            · unfold bF; rw [h10]; rfl
            · unfold bF; rw [h10]; rfl
          rw [el]
          refine pairNew_good (r := 3) (c := [.int .u8 (hd6 op d s).b0, .int .u8 (IntKind.u8.wrap (bits .and .u16 n 255))]) (by simp [plain, plainL]) (by simp [plain]) (by rfl) rfl (by simp) hg ?_ H
          refine (LCalls_of ctxY2_ok gBy6 (by kernel_rfl) (MWp.ends ctxY2_ok 3000 [(1, false), (0, false), (0, true), (0, false), (0, false), (0, false), (0, true)] (bb6_5 op d s n) ⟨hr0, hz0, h10, (by simp [h2] : ((hd6 op d s).t == 0) = false), (by simp [h2] : ((hd6 op d s).t == 1) = false), (by simp [h2] : ((hd6 op d s).t == 2) = false), (by simp [h2] : ((hd6 op d s).t == 3) = true), trivial⟩)).mono ?_
          rintro u K ⟨rfl, _, hk, hlk⟩
          simp only [List.map_cons, List.map_nil, List.cons.injEq, and_true] at hk
          exact ⟨rfl, hk, hlk⟩
      | false =>
        rcases tc with h2 | h2 | h2 | h2
        · have el : lenB6 op d s = 2 := by unfold lenB6; rw [h10, h2]; rfl
          have hg : ∀ e, e < 2 → [.int .u8 (hd6 op d s).b0, .int .u8 (hd6 op d s).b1][e]? = some (Value.int .u8 (bF op d s n e)) := by
            intro e he
            have : e = 0 ∨ e = 1 := by omega
            rcases this with rfl | rfl
            · unfold bF; rw [h10]; rfl
            · unfold bF; rw [h10]; rfl
          rw [el]
          refine pairNew_good2 (r := 1) (c := [.int .u8 (hd6 op d s).b0, .int .u8 (hd6 op d s).b1]) (by simp [plain, plainL]) (by simp [plain]) (by rfl) rfl (by simp) (by unfold capU; simp) hg ?_ H
          refine (LCalls_of ctxY2_ok gBy6 (by kernel_rfl) (MWp.ends ctxY2_ok 3000 [(1, false), (0, false), (0, false), (0, true)] (bb6_6 op d s n) ⟨hr0, hz0, h10, (by simp [h2] : ((hd6 op d s).t == 0) = true), trivial⟩)).mono ?_
          rintro u K ⟨rfl, _, hk, hlk⟩
          simp only [List.map_cons, List.map_nil, List.cons.injEq, and_true] at hk
          exact ⟨rfl, hk, hlk⟩
        · have el : lenB6 op d s = 3 := by unfold lenB6; rw [h10, h2]; rfl
          have hg : ∀ e, e < 3 → [.int .u8 (hd6 op d s).b0, .int .u8 (hd6 op d s).b1, .int .u8 (IntKind.u8.wrap (bits .and .u16 n 255))][e]? = some (Value.int .u8 (bF op d s n e)) := by
            intro e he
            have : e = 0 ∨ e = 1 ∨ e = 2 := by omega
            rcases this with rfl | rfl | rfl
            · unfold bF; rw [h10]; rfl
            · unfold bF; rw [h10]; rfl
            · unfold bF; rw [h10]; rfl
          rw [el]
          refine pairNew_good (r := 3) (c := [.int .u8 (hd6 op d s).b0, .int .u8 (hd6 op d s).b1, .int .u8 (IntKind.u8.wrap (bits .and .u16 n 255))]) (by simp [plain, plainL]) (by simp [plain]) (by rfl) rfl (by simp) hg ?_ H
          refine (LCalls_of ctxY2_ok gBy6 (by kernel_rfl) (MWp.ends ctxY2_ok 3000 [(1, false), (0, false), (0, false), (0, false), (0, true)] (bb6_7 op d s n) ⟨hr0, hz0, h10, (by simp [h2] : ((hd6 op d s).t == 0) = false), (by simp [h2] : ((hd6 op d s).t == 1) = true), trivial⟩)).mono ?_
          rintro u K ⟨rfl, _, hk, hlk⟩
          simp only [List.map_cons, List.map_nil, List.cons.injEq, and_true] at hk
          exact ⟨rfl, hk, hlk⟩
        · have el : lenB6 op d s = 4 := by unfold lenB6; rw [h10, h2]; rfl
          have hg : ∀ e, e < 4 → [.int .u8 (hd6 op d s).b0, .int .u8 (hd6 op d s).b1, .int .u8 (IntKind.u8.wrap (bits .and .u16 n 255)), .int .u8 (IntKind.u8.wrap (n.fdiv 256))][e]? = some (Value.int .u8 (bF op d s n e)) := by
            intro e he
            have : e = 0 ∨ e = 1 ∨ e = 2 ∨ e = 3 := by omega
            rcases this with rfl | rfl | rfl | rfl
            · unfold bF; rw [h10]; rfl
            · unfold bF; rw [h10]; rfl
            · unfold bF; rw [h10]; rfl
            · unfold bF; rw [h10]; rfl
          rw [el]
          refine pairNew_good (r := 5) (c := [.int .u8 (hd6 op d s).b0, .int .u8 (hd6 op d s).b1, .int .u8 (IntKind.u8.wrap (bits .and .u16 n 255)), .int .u8 (IntKind.u8.wrap (n.fdiv 256))]) (by simp [plain, plainL]) (by simp [plain]) (by rfl) rfl (by simp) hg ?_ H
          refine (LCalls_of ctxY2_ok gBy6 (by kernel_rfl) (MWp.ends ctxY2_ok 3000 [(1, false), (0, false), (0, false), (0, false), (0, false), (0, true)] (bb6_8 op d s n) ⟨hr0, hz0, h10, (by simp [h2] : ((hd6 op d s).t == 0) = false), (by simp [h2] : ((hd6 op d s).t == 1) = false), (by simp [h2] : ((hd6 op d s).t == 2) = true), trivial⟩)).mono ?_
          rintro u K ⟨rfl, _, hk, hlk⟩
          simp only [List.map_cons, List.map_nil, List.cons.injEq, and_true] at hk
          exact ⟨rfl, hk, hlk⟩
        · have el : lenB6 op d s = 3 := by unfold lenB6; rw [h10, h2]; rfl
          have hg : ∀ e, e < 3 → [.int .u8 (hd6 op d s).b0, .int .u8 (hd6 op d s).b1, .int .u8 (IntKind.u8.wrap (bits .and .u16 n 255))][e]? = some (Value.int .u8 (bF op d s n e)) := by
            intro e he
            have : e = 0 ∨ e = 1 ∨ e = 2 := by omega
            rcases this with rfl | rfl | rfl
            · unfold bF; rw [h10]; rfl
            · unfold bF; rw [h10]; rfl
            · unfold bF; rw [h10]; rfl
          rw [el]
          refine pairNew_good (r := 3) (c := [.int .u8 (hd6 op d s).b0, .int .u8 (hd6 op d s).b1, .int .u8 (IntKind.u8.wrap (bits .and .u16 n 255))]) (by simp [plain, plainL]) (by simp [plain]) (by rfl) rfl (by simp) hg ?_ H
          refine (LCalls_of ctxY2_ok gBy6 (by kernel_rfl) (MWp.ends ctxY2_ok 3000 [(1, false), (0, false), (0, false), (0, false), (0, false), (0, false), (0, true)] (bb6_9 op d s n) ⟨hr0, hz0, h10, (by simp [h2] : ((hd6 op d s).t == 0) = false), (by simp [h2] : ((hd6 op d s).t == 1) = false), (by simp [h2] : ((hd6 op d s).t == 2) = false), (by simp [h2] : ((hd6 op d s).t == 3) = true), trivial⟩)).mono ?_
          rintro u K ⟨rfl, _, hk, hlk⟩
          simp only [List.map_cons, List.map_nil, List.cons.injEq, and_true] at hk
          exact ⟨rfl, hk, hlk⟩
    · have hr : (rk6 op d s n != 0) = true := by simpa using hr
      refine HGood_val (by simp [plain, plainL]) (by simp [plain, plainL]) (fun w => calls_plain (by simp [VRL, VR]) (fun ρ v' h => plain_eq (by simp [plain, plainL]) h) ?_ w) H
      exact (LCalls_of ctxY2_ok gBy6 (by kernel_rfl) (MWp.ends ctxY2_ok 3000 [(1, true)] (bb6_0 op d s n) ⟨hr, trivial⟩)).mono (fun u K h => h.1)
  · exact trivial
end Go.Proofs.Ytnknopebjdgdjaa
namespace Go.Proofs.Ytnknopebjdgdjaa
open Go Go.Ly Go.RowKit
def ctxG0 : Ctx := ctxA.withH 30 memC |>.withH 22 bytesE6
theorem ctxG0_ok : ctxG0.Ok Try.prog := (ctxA_ok.withH memC_good).withH bytes6_good
def ctxG1 : Ctx := ctxG0.withH 16 (hconTree ctxG0 900 16) |>.withH 15 (hconTree ctxG0 3000 15)
theorem ctxG1_ok : ctxG1.Ok Try.prog := (ctxG0_ok.byRun ctxG0_ok 900 16).byRun ctxG0_ok 3000 15
def ctxG : Ctx := haltAt ctxG1 23
theorem ctxG_ok : ctxG.Ok Try.prog := haltAt_ok ctxG1_ok 23
end Go.Proofs.Ytnknopebjdgdjaa
namespace Go.Proofs.Ytnknopebjdgdjaa
open Go Go.Ly Go.RowKit
def rd7 : St := Ly.start Try.f7 [] H0
def k7 : List KI := ((Ly.run ctxG 9000 [] (Ly.start Try.f7 [svV sv0 nilS nilS nilS, .agg ⟨[.int .i64 1, .int .i64 1, .int .i64 1, .int .u16 0]⟩] (mkH [some (ints .u8 (fun _ => 0) 0), some (bytes2 (fun _ => 0) (fun _ => 0) 0), some (bytes2 (fun _ => 0) (fun _ => 0) 0)]))).st rd7).top.k
def v7 (p : Nat) : List Value := slots 107 [(2, ptr 3), (7, ptr p), (75, ptr p)]
def pq (l : List Nat) : Path := l.map fun x => (x / 2, x % 2 == 1)
abbrev A7 (s : Sv) (a b c : Value) (op d sr x : Int) : List Value := [svV s a b c, .agg ⟨[.int .i64 op, .int .i64 d, .int .i64 sr, .int .u16 x]⟩]
abbrev X7 (f : Nat → Int) (n : Nat) (fa fb : Nat → Int) (k : Nat) (fc fd : Nat → Int) (l : Nat) : List (Option LO) := [some (ints .u8 f n), some (bytes2 fa fb k), some (bytes2 fc fd l)]
abbrev E7 (p nx : Nat) (path : List Nat) (a : List Value) (os : List (Option LO)) := haltH [2, 7, 75] [3, p, p - 3, p - 1] nx rd7 (Ly.run ctxG 9000 (pq path) (Ly.start Try.f7 a (mkH os)))
abbrev O7 (p : Nat) (ts : List (Bool × Bool)) (s : Sv) (a b c iv : Value) (G : Nat → Nat → Value) (Q : Nat) (dat : Nat → Int) : Bool × List (Bool × Bool) × Bool × (Func × List KI × Option Tmp × Nat) × List Value × (Bool × Bool × Bool) × List (Option LO) := (true, ts, true, (Try.f7, k7, some 18, 3), v7 p, (true, true, true), [some (.cells (svC s a b c) 29), some (.cells (cellsPb (p - 3) (p - 1) (mOf s) iv (.slice none 0 0)) 54), some (memL (gs (gm G Q))), some (memL dat)])
def yRk (op d sr x : Int) : Bool × Bool := (rk6 op d sr x == 0, true)
def yL (op d sr : Int) (t : Nat) (b : Bool) : Bool × Bool := (Nat.beq (lenB6 op d sr) t, b)
def y18 (op : Int) : Bool × Bool := (decide (18 ≤ op) == false, true)
def yNe (d v : Int) : Bool × Bool := ((d == v) == false, true)
def yNf (d v : Int) : Bool × Bool := (d == v, false)
def yN (k : Nat) : Nat → Nat
  | 0 => 0 + (k + 1)
  | t + 1 => yN k t + 1
def yGR (fa fb : Nat → Int) (k : Nat) (P : Nat → List Value) : Nat → Nat → Nat → Value
  | 0 => fun i j => bbG fa fb (0 + (0 + i)) j
  | t + 1 => fun i j => joinG (yN k t) (fun i j => yGR fa fb k P t i j) (lstG 2 1 (P t)) (0 + i) j
def yB (op d sr x : Int) (L t : Nat) : Int := bif Nat.beq t 0 then 159 else bif Nat.beq t (L + 1) then 158 else bF op d sr x (t - 1)
def yP (s : Sv) (op d sr x : Int) (L t : Nat) : List Value := [.int .u16 (IntKind.u16.wrap (s.ip + IntKind.u16.wrap (t : Int))), .int .u8 (yB op d sr x L t)]
def yls (P : Nat → List Value) : Nat → Nat → List Value
  | _, 0 => []
  | t, c + 1 => P t ++ yls P (t + 1) c
def yl (s : Sv) (op d sr x : Int) (L : Nat) : List Value := yls (yP s op d sr x L) 0 (L + 2)
def yRn (a : Nat) : Bool × Bool := (true && (Nat.ble (0 + a) a && ((Nat.beq 2 2 && (Nat.beq 78 78 && (Nat.beq a a && true))) && (Nat.ble 1 a && Nat.ble (a + 1) 4294967296))), true)
def yLs (op d sr : Int) (L : Nat) : Nat → List (Bool × Bool)
  | 0 => [yL op d sr L true]
  | c + 1 => yL op d sr (L - 1 - c) false :: yLs op d sr L c
def y1 (op d sr x : Int) (L : Nat) : List (Bool × Bool) := yRk op d sr x :: yLs op d sr L (L - 1)
def y2 (op d sr : Int) : List (Bool × Bool) := [y18 op, yNe d 5, yNe sr 5, yNe d 9, yNf sr 9]
def yOk (G : Nat → Nat → Value) (q : Nat) : Bool × Bool := (Nat.ble (0 + (q + 1)) (q + 1) && (true && okM (q + 1) G), true)
end Go.Proofs.Ytnknopebjdgdjaa
namespace Go.Proofs.Ytnknopebjdgdjaa.Isa
open Go Go.Ly Go.RowKit
theorem and7 (n : Int) : bits .and .u8 n 7 = n % 8 := by
  have h1 : (BitVec.ofInt 8 7).toNat = 2 ^ 3 - 1 := by decide
  have key : (BitVec.ofInt 8 n &&& BitVec.ofInt 8 7).toNat = (n % ((2 ^ 8 : Nat) : Int)).toNat % 2 ^ 3 := by
    rw [BitVec.toNat_and, BitVec.toNat_ofInt, h1, Nat.and_two_pow_sub_one_eq_mod]
  show IntKind.u8.wrap ((BitVec.ofInt 8 n &&& BitVec.ofInt 8 7).toNat : Nat) = n % 8
  rw [key, IntKind.wrap_u8]
  omega
theorem fin8 {p : Int → Prop} (h : ∀ n : Fin 8, p (n.val : Int)) (b : Int) (h0 : 0 ≤ b) (h1 : b ≤ 7) : p b := fin_all 8 h b h0 (by omega)
def in7 (x : Int) : Bool := decide (0 ≤ x) && decide (x ≤ 7)
theorem in7_iff (x : Int) : in7 x = true ↔ 0 ≤ x ∧ x ≤ 7 := by unfold in7; rw [Bool.and_eq_true, decide_eq_true_eq, decide_eq_true_eq]
theorem or_rm (x y : Int) (hx : 0 ≤ x ∧ x ≤ 7) (hy : 0 ≤ y ∧ y ≤ 7) : bits .or .u8 (bits .or .u8 192 (IntKind.u8.wrap (x * 8))) y = 192 + x * 8 + y :=
  fin8 (p := fun x => bits .or .u8 (bits .or .u8 192 (IntKind.u8.wrap (x * 8))) y = 192 + x * 8 + y) (fun n => fin8 (p := fun y => bits .or .u8 (bits .or .u8 192 (IntKind.u8.wrap ((n.val : Int) * 8))) y = 192 + (n.val : Int) * 8 + y) (by revert n; decide) y hy.1 hy.2) x hx.1 hx.2
theorem or_mem (x y : Int) (hx : 0 ≤ x ∧ x ≤ 7) (hy : 0 ≤ y ∧ y ≤ 7) : bits .or .u8 (IntKind.u8.wrap (x * 8)) y = x * 8 + y :=
  fin8 (p := fun x => bits .or .u8 (IntKind.u8.wrap (x * 8)) y = x * 8 + y) (fun n => fin8 (p := fun y => bits .or .u8 (IntKind.u8.wrap ((n.val : Int) * 8)) y = (n.val : Int) * 8 + y) (by revert n; decide) y hy.1 hy.2) x hx.1 hx.2
theorem nm_7 (c : Int) : 0 ≤ nm c ∧ nm c ≤ 7 := by unfold nm; omega
theorem nm_in (c : Int) : in7 (nm c) = true := (in7_iff _).2 (nm_7 c)
theorem wideR0 (c : Int) : (Ly.run env.bare 100 [(0, true), (2, true)] (Ly.start Try.f95 [.int .i64 c] H0)).out? = some ([(decide (1 ≤ c) == true, true), (decide (c ≤ 8), true)], .int .i64 8) := by kernel_rfl
theorem wideR1 (c : Int) : (Ly.run env.bare 100 [(0, true), (2, false), (0, true), (2, true)] (Ly.start Try.f95 [.int .i64 c] H0)).out? = some ([(decide (1 ≤ c) == true, true), (decide (c ≤ 8), false), (decide (9 ≤ c) == true, true), (decide (c ≤ 16), true)], .int .i64 16) := by kernel_rfl
theorem wideR2 (c : Int) : (Ly.run env.bare 100 [(0, true), (2, false), (0, true), (2, false)] (Ly.start Try.f95 [.int .i64 c] H0)).out? = some ([(decide (1 ≤ c) == true, true), (decide (c ≤ 8), false), (decide (9 ≤ c) == true, true), (decide (c ≤ 16), false)], .int .i64 0) := by kernel_rfl
theorem wideR3 (c : Int) : (Ly.run env.bare 100 [(0, false), (3, false)] (Ly.start Try.f95 [.int .i64 c] H0)).out? = some ([(decide (1 ≤ c) == true, false), (decide (9 ≤ c) == true, false)], .int .i64 0) := by kernel_rfl
theorem numR0 (c : Int) : (Ly.run env.bare 100 [] (Ly.start Try.f97 [.int .i64 c] H0)).out? = some ([], .int .u8 (bits BinOp.and IntKind.u8 (IntKind.u8.wrap (IntKind.i64.wrap (c - 1))) 7)) := by kernel_rfl
theorem rmR0 (x y : Int) : (Ly.run env.bare 100 [] (Ly.start Try.f96 [.int .u8 x, .int .u8 y] H0)).out? = some ([], .int .u8 (bits BinOp.or IntKind.u8 (bits BinOp.or IntKind.u8 192 (IntKind.u8.wrap (x * 8))) y)) := by kernel_rfl
theorem memR0 (x y : Int) : (Ly.run env.bare 100 [] (Ly.start Try.f99 [.int .u8 x, .int .u8 y] H0)).out? = some ([], .int .u8 (bits BinOp.or IntKind.u8 (IntKind.u8.wrap (x * 8)) y)) := by kernel_rfl
theorem regR0 (x : Int) : (Ly.run env.bare 100 [] (Ly.start Try.f66 [.int .u8 x, .bool true] H0)).out? = some ([], .int .i64 (IntKind.i64.wrap (IntKind.i64.wrap (bits BinOp.and IntKind.u8 x 7) + 9))) := by kernel_rfl
theorem regR1 (x : Int) : (Ly.run env.bare 100 [] (Ly.start Try.f66 [.int .u8 x, .bool false] H0)).out? = some ([], .int .i64 (IntKind.i64.wrap (IntKind.i64.wrap (bits BinOp.and IntKind.u8 x 7) + 1))) := by kernel_rfl
def wideC (l : List Value) : Option (Bool × Value) := match l with
  | [.int .i64 c] => some (true, .int .i64 (wd c))
  | _ => none
theorem gWide : env.bare.fn.get 95 = some Try.f95 := by kernel_rfl
theorem Wide_ans : Answers Try.prog 95 wideC := by
  intro args g v h hg
  unfold wideC at h
  split at h
  · simp only [Option.some.injEq, Prod.mk.injEq] at h
    obtain ⟨rfl, rfl⟩ := h
    refine ⟨by simp [plain, plainL], by simp [plain], fun w => ?_⟩
    rename_i c
    by_cases h1 : 1 ≤ c
    · by_cases h2 : c ≤ 8
      · rw [wd8.2 ⟨h1, h2⟩]; exact calls_trust (Env.bare_ok envOk) 100 _ gWide (by kernel_rfl) (by simp [plain, plainL]) (by simp [plain]) (wideR0 c) (by simp [trusted, h1, h2]) w
      · by_cases h4 : c ≤ 16
        · rw [wd16.2 ⟨by omega, h4⟩]; exact calls_trust (Env.bare_ok envOk) 100 _ gWide (by kernel_rfl) (by simp [plain, plainL]) (by simp [plain]) (wideR1 c) (by simp [trusted, h1, h2, h4]; omega) w
        · have e : wd c = 0 := by
            by_cases e : wd c = 0
            · exact e
            · have := wd0 e; omega
          rw [e]; exact calls_trust (Env.bare_ok envOk) 100 _ gWide (by kernel_rfl) (by simp [plain, plainL]) (by simp [plain]) (wideR2 c) (by simp [trusted, h1, h2, h4]; omega) w
    · have e : wd c = 0 := by
        by_cases e : wd c = 0
        · exact e
        · have := wd0 e; omega
      rw [e]; exact calls_trust (Env.bare_ok envOk) 100 _ gWide (by kernel_rfl) (by simp [plain, plainL]) (by simp [plain]) (wideR3 c) (by simp [trusted, h1]; omega) w
  · cases h
def numC (l : List Value) : Option (Bool × Value) := match l with
  | [.int .i64 c] => some (true, .int .u8 (nm c))
  | _ => none
theorem gNum : env.bare.fn.get 97 = some Try.f97 := by kernel_rfl
theorem Num_ans : Answers Try.prog 97 numC := by
  intro args g v h hg
  unfold numC at h
  split at h
  · simp only [Option.some.injEq, Prod.mk.injEq] at h
    obtain ⟨rfl, rfl⟩ := h
    refine ⟨by simp [plain, plainL], by simp [plain], fun w => ?_⟩
    rename_i c
    have e : bits BinOp.and IntKind.u8 (IntKind.u8.wrap (IntKind.i64.wrap (c - 1))) 7 = nm c := by
      rw [and7, IntKind.wrap_u8, IntKind.wrap_i64]; unfold nm; omega
    rw [← e]; exact calls_trust (Env.bare_ok envOk) 100 _ gNum (by kernel_rfl) (by simp [plain, plainL]) (by simp [plain]) (numR0 c) trivial w
  · cases h
def rmC (l : List Value) : Option (Bool × Value) := match l with
  | [.int .u8 x, .int .u8 y] => some (in7 x && in7 y, .int .u8 (192 + x * 8 + y))
  | _ => none
theorem gRm : env.bare.fn.get 96 = some Try.f96 := by kernel_rfl
theorem Rm_ans : Answers Try.prog 96 rmC := by
  intro args g v h hg
  unfold rmC at h
  split at h
  · simp only [Option.some.injEq, Prod.mk.injEq] at h
    obtain ⟨rfl, rfl⟩ := h
    refine ⟨by simp [plain, plainL], by simp [plain], fun w => ?_⟩
    rename_i x y
    simp only [Bool.and_eq_true, in7_iff] at hg
    rw [← or_rm x y hg.1 hg.2]; exact calls_trust (Env.bare_ok envOk) 100 _ gRm (by kernel_rfl) (by simp [plain, plainL]) (by simp [plain]) (rmR0 x y) trivial w
  · cases h
def meC (l : List Value) : Option (Bool × Value) := match l with
  | [.int .u8 x, .int .u8 y] => some (in7 x && in7 y, .int .u8 (x * 8 + y))
  | _ => none
theorem gMe : env.bare.fn.get 99 = some Try.f99 := by kernel_rfl
theorem Me_ans : Answers Try.prog 99 meC := by
  intro args g v h hg
  unfold meC at h
  split at h
  · simp only [Option.some.injEq, Prod.mk.injEq] at h
    obtain ⟨rfl, rfl⟩ := h
    refine ⟨by simp [plain, plainL], by simp [plain], fun w => ?_⟩
    rename_i x y
    simp only [Bool.and_eq_true, in7_iff] at hg
    rw [← or_mem x y hg.1 hg.2]; exact calls_trust (Env.bare_ok envOk) 100 _ gMe (by kernel_rfl) (by simp [plain, plainL]) (by simp [plain]) (memR0 x y) trivial w
  · cases h
def regC (l : List Value) : Option (Bool × Value) := match l with
  | [.int .u8 x, .bool w0] => some (true, .int .i64 (rgs x w0))
  | _ => none
theorem gReg : env.bare.fn.get 66 = some Try.f66 := by kernel_rfl
theorem Reg_ans : Answers Try.prog 66 regC := by
  intro args g v h hg
  unfold regC at h
  split at h
  · simp only [Option.some.injEq, Prod.mk.injEq] at h
    obtain ⟨rfl, rfl⟩ := h
    refine ⟨by simp [plain, plainL], by simp [plain], fun w => ?_⟩
    rename_i x w0
    cases w0 with
    | true =>
      have e : IntKind.i64.wrap (IntKind.i64.wrap (bits BinOp.and IntKind.u8 x 7) + 9) = rgs x true := by
        show _ = x % 8 + 9
        rw [and7, IntKind.wrap_i64, IntKind.wrap_i64]; omega
      rw [← e]; exact calls_trust (Env.bare_ok envOk) 100 _ gReg (by kernel_rfl) (by simp [plain, plainL]) (by simp [plain]) (regR0 x) trivial w
    | false =>
      have e : IntKind.i64.wrap (IntKind.i64.wrap (bits BinOp.and IntKind.u8 x 7) + 1) = rgs x false := by
        show _ = x % 8 + 1
        rw [and7, IntKind.wrap_i64, IntKind.wrap_i64]; omega
      rw [← e]; exact calls_trust (Env.bare_ok envOk) 100 _ gReg (by kernel_rfl) (by simp [plain, plainL]) (by simp [plain]) (regR1 x) trivial w
  · cases h
def ctxW : Ctx := env.bare.with 95 wideC |>.with 97 numC |>.with 96 rmC |>.with 99 meC |>.with 66 regC
theorem ctxW_ok : ctxW.Ok Try.prog := (Env.bare_ok envOk).with Wide_ans |>.with Num_ans |>.with Rm_ans |>.with Me_ans |>.with Reg_ans
end Go.Proofs.Ytnknopebjdgdjaa.Isa
end
