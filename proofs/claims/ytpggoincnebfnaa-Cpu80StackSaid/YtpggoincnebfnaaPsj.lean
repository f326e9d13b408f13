/- Part 10 of the texts that the law needs, laid together. By program (pack.py). -/
import Derived.Test.YtpggoincnebfnaaPsi
import Derived.KernelRfl
set_option linter.unusedVariables false
set_option linter.unusedSimpArgs false
noncomputable section
namespace Go.Proofs.Ytpggoincnebfnaa
open Go Go.Ly Go.RowKit
theorem g6_eq (d w : Int) : g6 d w = upd (upd (upd (upd (upd (upd (fun _ => 0) (ix 0) (w8 (197 + w8 (d * 16)))) (ix 1) (w8 (193 + w8 (d * 16)))) (ix 2) 205) (ix 3) (w8 w)) (ix 4) (w8 (w.fdiv 256))) (ix w) 201 := rfl
theorem g6_at (d w : Int) (hw : 16 ≤ w) : g6 d w (ix 0) = w8 (197 + w8 (d * 16)) ∧ g6 d w (ix 1) = w8 (193 + w8 (d * 16)) ∧ g6 d w (ix 2) = 205 ∧ g6 d w (ix 3) = w8 w ∧ g6 d w (ix 4) = w8 (w.fdiv 256) ∧ g6 d w (ix w) = 201 := by
  have n0 : ix 0 ≠ ix w := by unfold ix; omega
  have n1 : ix 1 ≠ ix w := by unfold ix; omega
  have n2 : ix 2 ≠ ix w := by unfold ix; omega
  have n3 : ix 3 ≠ ix w := by unfold ix; omega
  have n4 : ix 4 ≠ ix w := by unfold ix; omega
  have m : ∀ a b : Int, 0 ≤ a → 0 ≤ b → a ≠ b → ix a ≠ ix b := fun a b h1 h2 h3 => by unfold ix; omega
  rw [g6_eq]
  refine ⟨?_, ?_, ?_, ?_, ?_, upd_at _ _ _⟩
  · rw [upd_ne n0, upd_ne (m 0 4 (by omega) (by omega) (by omega)), upd_ne (m 0 3 (by omega) (by omega) (by omega)), upd_ne (m 0 2 (by omega) (by omega) (by omega)), upd_ne (m 0 1 (by omega) (by omega) (by omega)), upd_at]
  · rw [upd_ne n1, upd_ne (m 1 4 (by omega) (by omega) (by omega)), upd_ne (m 1 3 (by omega) (by omega) (by omega)), upd_ne (m 1 2 (by omega) (by omega) (by omega)), upd_at]
  · rw [upd_ne n2, upd_ne (m 2 4 (by omega) (by omega) (by omega)), upd_ne (m 2 3 (by omega) (by omega) (by omega)), upd_at]
  · rw [upd_ne n3, upd_ne (m 3 4 (by omega) (by omega) (by omega)), upd_at]
  · rw [upd_ne n4, upd_at]
theorem tail6 : Tail6 := by
  intro s d w hs hw h1 h2 hp h3 h4 h5 h6
  have es : s = pc0 s := by cases s; simp only at hp; subst hp; rfl
  have hs' : Sv.Ok (pc0 s) := by rw [← es]; exact hs
  obtain ⟨k0, k1, k2, k3, k4, kw⟩ := g6_at d w (by omega)
  have : d = 0 ∨ d = 1 ∨ d = 2 ∨ d = 3 := by omega
  rw [es]
  rcases this with rfl | rfl | rfl | rfl
  · exact z6_0 s w _ hs hw h3 h4 h5 h6 (by rw [k0]; kernel_rfl) (by rw [k1]; kernel_rfl) k2 k3 k4 kw
  · exact z6_1 s w _ hs hw h3 h4 h5 h6 (by rw [k0]; kernel_rfl) (by rw [k1]; kernel_rfl) k2 k3 k4 kw
  · exact z6_2 s w _ hs hw h3 h4 h5 h6 (by rw [k0]; kernel_rfl) (by rw [k1]; kernel_rfl) k2 k3 k4 kw
  · exact z6_3 s w _ hs hw h3 h4 h5 h6 (by rw [k0]; kernel_rfl) (by rw [k1]; kernel_rfl) k2 k3 k4 kw
theorem gLO6 : ctxO.fn.get 6 = some Try.f6 := by kernel_rfl
theorem tLt_no {a b : Int} (h : a < b) : trusted [((tLt a b).1, false)] := ⟨by show (decide (a < b) == false) = false; rw [decide_eq_true h]; rfl, trivial⟩
theorem tP6_no {s : Sv} (h : s.pc ≠ 0) : trusted [((s.pc != 0) == false, false)] := ⟨by show ((s.pc != 0) == false) = false; simp [h], trivial⟩
theorem t8f_no {s : Sv} {w : Int} (h : w16 (s.sp - w) < 8) : trusted [((t8f s w).1, true)] := ⟨decide_eq_true h, trivial⟩
theorem q6_NN0 (s : Sv) (n k : Nat) (f fa fb : Nat → Int) (d w : Int) : endsAt [] (Ly.run ctxO 9000 [(13, false)] (Ly.start Try.f6 [svV s nilS nilS, .int .u8 d, .int .u16 w] (mkH [some (ints .u8 f n), some (bytes2 fa fb k)]))) = some ([((tLt 3 d).1, false)], .bool true, 4, []) := by kernel_rfl
theorem q6_NNp (s : Sv) (n k : Nat) (f fa fb : Nat → Int) (d w : Int) : endsAt [] (Ly.run ctxO 9000 [(13, true), (3, false)] (Ly.start Try.f6 [svV s nilS nilS, .int .u8 d, .int .u16 w] (mkH [some (ints .u8 f n), some (bytes2 fa fb k)]))) = some ([tLt 3 d, ((s.pc != 0) == false, false)], .bool true, 4, []) := by kernel_rfl
theorem q6_NN1 (s : Sv) (n k : Nat) (f fa fb : Nat → Int) (d w : Int) : endsAt [] (Ly.run ctxO 9000 [(13, true), (6, false)] (Ly.start Try.f6 [svV (pc0 s) nilS nilS, .int .u8 d, .int .u16 w] (mkH [some (ints .u8 f n), some (bytes2 fa fb k)]))) = some ([tLt 3 d, ((tLt w 16).1, false)], .bool true, 4, []) := by kernel_rfl
theorem q6_NN2 (s : Sv) (n k : Nat) (f fa fb : Nat → Int) (d w : Int) : endsAt [] (Ly.run ctxO 9000 [(13, true), (6, true), (3, false)] (Ly.start Try.f6 [svV (pc0 s) nilS nilS, .int .u8 d, .int .u16 w] (mkH [some (ints .u8 f n), some (bytes2 fa fb k)]))) = some ([tLt 3 d, tLt w 16, ((tLt (pc0 s).sp 256).1, false)], .bool true, 4, []) := by kernel_rfl
theorem q6_NN3 (s : Sv) (n k : Nat) (f fa fb : Nat → Int) (d w : Int) : endsAt [] (Ly.run ctxO 9000 [(13, true), (6, true), (3, true), (2, false)] (Ly.start Try.f6 [svV (pc0 s) nilS nilS, .int .u8 d, .int .u16 w] (mkH [some (ints .u8 f n), some (bytes2 fa fb k)]))) = some ([tLt 3 d, tLt w 16, tLt (pc0 s).sp 256, ((tLt 65000 w).1, false)], .bool true, 4, []) := by kernel_rfl
theorem q6_NNe (s : Sv) (n k : Nat) (f fa fb : Nat → Int) (d w : Int) : endsAt [] (Ly.run ctxO 9000 [(13, true), (6, true), (3, true), (2, true), (4, true), (7, true)] (Ly.start Try.f6 [svV (pc0 s) nilS nilS, .int .u8 d, .int .u16 w] (mkH [some (ints .u8 f n), some (bytes2 fa fb k)]))) = some ([tLt 3 d, tLt w 16, tLt (pc0 s).sp 256, tLt 65000 w, tGt w (pc0 s).sp true, ((t8f (pc0 s) w).1, true)], .bool true, 4, []) := by kernel_rfl
theorem q6_NE0 (s : Sv) (n k : Nat) (f fa fb : Nat → Int) (d w : Int) : endsAt [] (Ly.run ctxO 9000 [(13, false)] (Ly.start Try.f6 [svV s nilS (sls 1 0), .int .u8 d, .int .u16 w] (mkH [some (ints .u8 f n), some (bytes2 fa fb 0)]))) = some ([((tLt 3 d).1, false)], .bool true, 4, []) := by kernel_rfl
theorem q6_NEp (s : Sv) (n k : Nat) (f fa fb : Nat → Int) (d w : Int) : endsAt [] (Ly.run ctxO 9000 [(13, true), (3, false)] (Ly.start Try.f6 [svV s nilS (sls 1 0), .int .u8 d, .int .u16 w] (mkH [some (ints .u8 f n), some (bytes2 fa fb 0)]))) = some ([tLt 3 d, ((s.pc != 0) == false, false)], .bool true, 4, []) := by kernel_rfl
theorem q6_NE1 (s : Sv) (n k : Nat) (f fa fb : Nat → Int) (d w : Int) : endsAt [] (Ly.run ctxO 9000 [(13, true), (6, false)] (Ly.start Try.f6 [svV (pc0 s) nilS (sls 1 0), .int .u8 d, .int .u16 w] (mkH [some (ints .u8 f n), some (bytes2 fa fb 0)]))) = some ([tLt 3 d, ((tLt w 16).1, false)], .bool true, 4, []) := by kernel_rfl
theorem q6_NE2 (s : Sv) (n k : Nat) (f fa fb : Nat → Int) (d w : Int) : endsAt [] (Ly.run ctxO 9000 [(13, true), (6, true), (3, false)] (Ly.start Try.f6 [svV (pc0 s) nilS (sls 1 0), .int .u8 d, .int .u16 w] (mkH [some (ints .u8 f n), some (bytes2 fa fb 0)]))) = some ([tLt 3 d, tLt w 16, ((tLt (pc0 s).sp 256).1, false)], .bool true, 4, []) := by kernel_rfl
theorem q6_NE3 (s : Sv) (n k : Nat) (f fa fb : Nat → Int) (d w : Int) : endsAt [] (Ly.run ctxO 9000 [(13, true), (6, true), (3, true), (2, false)] (Ly.start Try.f6 [svV (pc0 s) nilS (sls 1 0), .int .u8 d, .int .u16 w] (mkH [some (ints .u8 f n), some (bytes2 fa fb 0)]))) = some ([tLt 3 d, tLt w 16, tLt (pc0 s).sp 256, ((tLt 65000 w).1, false)], .bool true, 4, []) := by kernel_rfl
theorem q6_NEe (s : Sv) (n k : Nat) (f fa fb : Nat → Int) (d w : Int) : endsAt [] (Ly.run ctxO 9000 [(13, true), (6, true), (3, true), (2, true), (4, true), (7, true)] (Ly.start Try.f6 [svV (pc0 s) nilS (sls 1 0), .int .u8 d, .int .u16 w] (mkH [some (ints .u8 f n), some (bytes2 fa fb 0)]))) = some ([tLt 3 d, tLt w 16, tLt (pc0 s).sp 256, tLt 65000 w, tGt w (pc0 s).sp true, ((t8f (pc0 s) w).1, true)], .bool true, 4, []) := by kernel_rfl
theorem q6_NR0 (s : Sv) (n k : Nat) (f fa fb : Nat → Int) (d w : Int) : endsAt [] (Ly.run ctxO 9000 [(5, false)] (Ly.start Try.f6 [svV s nilS (sls 1 (k + 1)), .int .u8 d, .int .u16 w] (mkH [some (ints .u8 f n), some (bytes2 fa fb (k + 1))]))) = some ([((tLn8 k).1, false)], .bool true, 4, []) := by kernel_rfl
theorem q6_NR1 (s : Sv) (n k : Nat) (f fa fb : Nat → Int) (d w : Int) : endsAt [] (Ly.run ctxO 9000 [(5, true), (7, false)] (Ly.start Try.f6 [svV s nilS (sls 1 (k + 1)), .int .u8 d, .int .u16 w] (mkH [some (ints .u8 f n), some (bytes2 fa fb (k + 1))]))) = some ([tLn8 k, ((tLt 3 d).1, false)], .bool true, 4, []) := by kernel_rfl
theorem q6_NRp (s : Sv) (n k : Nat) (f fa fb : Nat → Int) (d w : Int) : endsAt [] (Ly.run ctxO 9000 [(5, true), (7, true), (3, false)] (Ly.start Try.f6 [svV s nilS (sls 1 (k + 1)), .int .u8 d, .int .u16 w] (mkH [some (ints .u8 f n), some (bytes2 fa fb (k + 1))]))) = some ([tLn8 k, tLt 3 d, ((s.pc != 0) == false, false)], .bool true, 4, []) := by kernel_rfl
theorem q6_NR2 (s : Sv) (n k : Nat) (f fa fb : Nat → Int) (d w : Int) : endsAt [] (Ly.run ctxO 9000 [(5, true), (7, true), (6, false)] (Ly.start Try.f6 [svV (pc0 s) nilS (sls 1 (k + 1)), .int .u8 d, .int .u16 w] (mkH [some (ints .u8 f n), some (bytes2 fa fb (k + 1))]))) = some ([tLn8 k, tLt 3 d, ((tLt w 16).1, false)], .bool true, 4, []) := by kernel_rfl
theorem q6_NR3 (s : Sv) (n k : Nat) (f fa fb : Nat → Int) (d w : Int) : endsAt [] (Ly.run ctxO 9000 [(5, true), (7, true), (6, true), (3, false)] (Ly.start Try.f6 [svV (pc0 s) nilS (sls 1 (k + 1)), .int .u8 d, .int .u16 w] (mkH [some (ints .u8 f n), some (bytes2 fa fb (k + 1))]))) = some ([tLn8 k, tLt 3 d, tLt w 16, ((tLt (pc0 s).sp 256).1, false)], .bool true, 4, []) := by kernel_rfl
theorem q6_NR4 (s : Sv) (n k : Nat) (f fa fb : Nat → Int) (d w : Int) : endsAt [] (Ly.run ctxO 9000 [(5, true), (7, true), (6, true), (3, true), (2, false)] (Ly.start Try.f6 [svV (pc0 s) nilS (sls 1 (k + 1)), .int .u8 d, .int .u16 w] (mkH [some (ints .u8 f n), some (bytes2 fa fb (k + 1))]))) = some ([tLn8 k, tLt 3 d, tLt w 16, tLt (pc0 s).sp 256, ((tLt 65000 w).1, false)], .bool true, 4, []) := by kernel_rfl
theorem q6_NRe (s : Sv) (n k : Nat) (f fa fb : Nat → Int) (d w : Int) : endsAt [] (Ly.run ctxO 9000 [(5, true), (7, true), (6, true), (3, true), (2, true), (4, true), (7, true)] (Ly.start Try.f6 [svV (pc0 s) nilS (sls 1 (k + 1)), .int .u8 d, .int .u16 w] (mkH [some (ints .u8 f n), some (bytes2 fa fb (k + 1))]))) = some ([tLn8 k, tLt 3 d, tLt w 16, tLt (pc0 s).sp 256, tLt 65000 w, tGt w (pc0 s).sp true, ((t8f (pc0 s) w).1, true)], .bool true, 4, []) := by kernel_rfl
theorem q6_EN0 (s : Sv) (n k : Nat) (f fa fb : Nat → Int) (d w : Int) : endsAt [] (Ly.run ctxO 9000 [(13, false)] (Ly.start Try.f6 [svV s (sl 0 0) nilS, .int .u8 d, .int .u16 w] (mkH [some (ints .u8 f 0), some (bytes2 fa fb k)]))) = some ([((tLt 3 d).1, false)], .bool true, 4, []) := by kernel_rfl
theorem q6_ENp (s : Sv) (n k : Nat) (f fa fb : Nat → Int) (d w : Int) : endsAt [] (Ly.run ctxO 9000 [(13, true), (3, false)] (Ly.start Try.f6 [svV s (sl 0 0) nilS, .int .u8 d, .int .u16 w] (mkH [some (ints .u8 f 0), some (bytes2 fa fb k)]))) = some ([tLt 3 d, ((s.pc != 0) == false, false)], .bool true, 4, []) := by kernel_rfl
theorem q6_EN1 (s : Sv) (n k : Nat) (f fa fb : Nat → Int) (d w : Int) : endsAt [] (Ly.run ctxO 9000 [(13, true), (6, false)] (Ly.start Try.f6 [svV (pc0 s) (sl 0 0) nilS, .int .u8 d, .int .u16 w] (mkH [some (ints .u8 f 0), some (bytes2 fa fb k)]))) = some ([tLt 3 d, ((tLt w 16).1, false)], .bool true, 4, []) := by kernel_rfl
theorem q6_EN2 (s : Sv) (n k : Nat) (f fa fb : Nat → Int) (d w : Int) : endsAt [] (Ly.run ctxO 9000 [(13, true), (6, true), (3, false)] (Ly.start Try.f6 [svV (pc0 s) (sl 0 0) nilS, .int .u8 d, .int .u16 w] (mkH [some (ints .u8 f 0), some (bytes2 fa fb k)]))) = some ([tLt 3 d, tLt w 16, ((tLt (pc0 s).sp 256).1, false)], .bool true, 4, []) := by kernel_rfl
theorem q6_EN3 (s : Sv) (n k : Nat) (f fa fb : Nat → Int) (d w : Int) : endsAt [] (Ly.run ctxO 9000 [(13, true), (6, true), (3, true), (2, false)] (Ly.start Try.f6 [svV (pc0 s) (sl 0 0) nilS, .int .u8 d, .int .u16 w] (mkH [some (ints .u8 f 0), some (bytes2 fa fb k)]))) = some ([tLt 3 d, tLt w 16, tLt (pc0 s).sp 256, ((tLt 65000 w).1, false)], .bool true, 4, []) := by kernel_rfl
theorem q6_ENe (s : Sv) (n k : Nat) (f fa fb : Nat → Int) (d w : Int) : endsAt [] (Ly.run ctxO 9000 [(13, true), (6, true), (3, true), (2, true), (4, true), (7, true)] (Ly.start Try.f6 [svV (pc0 s) (sl 0 0) nilS, .int .u8 d, .int .u16 w] (mkH [some (ints .u8 f 0), some (bytes2 fa fb k)]))) = some ([tLt 3 d, tLt w 16, tLt (pc0 s).sp 256, tLt 65000 w, tGt w (pc0 s).sp true, ((t8f (pc0 s) w).1, true)], .bool true, 4, []) := by kernel_rfl
theorem q6_EE0 (s : Sv) (n k : Nat) (f fa fb : Nat → Int) (d w : Int) : endsAt [] (Ly.run ctxO 9000 [(13, false)] (Ly.start Try.f6 [svV s (sl 0 0) (sls 1 0), .int .u8 d, .int .u16 w] (mkH [some (ints .u8 f 0), some (bytes2 fa fb 0)]))) = some ([((tLt 3 d).1, false)], .bool true, 4, []) := by kernel_rfl
theorem q6_EEp (s : Sv) (n k : Nat) (f fa fb : Nat → Int) (d w : Int) : endsAt [] (Ly.run ctxO 9000 [(13, true), (3, false)] (Ly.start Try.f6 [svV s (sl 0 0) (sls 1 0), .int .u8 d, .int .u16 w] (mkH [some (ints .u8 f 0), some (bytes2 fa fb 0)]))) = some ([tLt 3 d, ((s.pc != 0) == false, false)], .bool true, 4, []) := by kernel_rfl
theorem q6_EE1 (s : Sv) (n k : Nat) (f fa fb : Nat → Int) (d w : Int) : endsAt [] (Ly.run ctxO 9000 [(13, true), (6, false)] (Ly.start Try.f6 [svV (pc0 s) (sl 0 0) (sls 1 0), .int .u8 d, .int .u16 w] (mkH [some (ints .u8 f 0), some (bytes2 fa fb 0)]))) = some ([tLt 3 d, ((tLt w 16).1, false)], .bool true, 4, []) := by kernel_rfl
theorem q6_EE2 (s : Sv) (n k : Nat) (f fa fb : Nat → Int) (d w : Int) : endsAt [] (Ly.run ctxO 9000 [(13, true), (6, true), (3, false)] (Ly.start Try.f6 [svV (pc0 s) (sl 0 0) (sls 1 0), .int .u8 d, .int .u16 w] (mkH [some (ints .u8 f 0), some (bytes2 fa fb 0)]))) = some ([tLt 3 d, tLt w 16, ((tLt (pc0 s).sp 256).1, false)], .bool true, 4, []) := by kernel_rfl
theorem q6_EE3 (s : Sv) (n k : Nat) (f fa fb : Nat → Int) (d w : Int) : endsAt [] (Ly.run ctxO 9000 [(13, true), (6, true), (3, true), (2, false)] (Ly.start Try.f6 [svV (pc0 s) (sl 0 0) (sls 1 0), .int .u8 d, .int .u16 w] (mkH [some (ints .u8 f 0), some (bytes2 fa fb 0)]))) = some ([tLt 3 d, tLt w 16, tLt (pc0 s).sp 256, ((tLt 65000 w).1, false)], .bool true, 4, []) := by kernel_rfl
theorem q6_EEe (s : Sv) (n k : Nat) (f fa fb : Nat → Int) (d w : Int) : endsAt [] (Ly.run ctxO 9000 [(13, true), (6, true), (3, true), (2, true), (4, true), (7, true)] (Ly.start Try.f6 [svV (pc0 s) (sl 0 0) (sls 1 0), .int .u8 d, .int .u16 w] (mkH [some (ints .u8 f 0), some (bytes2 fa fb 0)]))) = some ([tLt 3 d, tLt w 16, tLt (pc0 s).sp 256, tLt 65000 w, tGt w (pc0 s).sp true, ((t8f (pc0 s) w).1, true)], .bool true, 4, []) := by kernel_rfl
theorem q6_ER0 (s : Sv) (n k : Nat) (f fa fb : Nat → Int) (d w : Int) : endsAt [] (Ly.run ctxO 9000 [(5, false)] (Ly.start Try.f6 [svV s (sl 0 0) (sls 1 (k + 1)), .int .u8 d, .int .u16 w] (mkH [some (ints .u8 f 0), some (bytes2 fa fb (k + 1))]))) = some ([((tLn8 k).1, false)], .bool true, 4, []) := by kernel_rfl
theorem q6_ER1 (s : Sv) (n k : Nat) (f fa fb : Nat → Int) (d w : Int) : endsAt [] (Ly.run ctxO 9000 [(5, true), (7, false)] (Ly.start Try.f6 [svV s (sl 0 0) (sls 1 (k + 1)), .int .u8 d, .int .u16 w] (mkH [some (ints .u8 f 0), some (bytes2 fa fb (k + 1))]))) = some ([tLn8 k, ((tLt 3 d).1, false)], .bool true, 4, []) := by kernel_rfl
theorem q6_ERp (s : Sv) (n k : Nat) (f fa fb : Nat → Int) (d w : Int) : endsAt [] (Ly.run ctxO 9000 [(5, true), (7, true), (3, false)] (Ly.start Try.f6 [svV s (sl 0 0) (sls 1 (k + 1)), .int .u8 d, .int .u16 w] (mkH [some (ints .u8 f 0), some (bytes2 fa fb (k + 1))]))) = some ([tLn8 k, tLt 3 d, ((s.pc != 0) == false, false)], .bool true, 4, []) := by kernel_rfl
theorem q6_ER2 (s : Sv) (n k : Nat) (f fa fb : Nat → Int) (d w : Int) : endsAt [] (Ly.run ctxO 9000 [(5, true), (7, true), (6, false)] (Ly.start Try.f6 [svV (pc0 s) (sl 0 0) (sls 1 (k + 1)), .int .u8 d, .int .u16 w] (mkH [some (ints .u8 f 0), some (bytes2 fa fb (k + 1))]))) = some ([tLn8 k, tLt 3 d, ((tLt w 16).1, false)], .bool true, 4, []) := by kernel_rfl
theorem q6_ER3 (s : Sv) (n k : Nat) (f fa fb : Nat → Int) (d w : Int) : endsAt [] (Ly.run ctxO 9000 [(5, true), (7, true), (6, true), (3, false)] (Ly.start Try.f6 [svV (pc0 s) (sl 0 0) (sls 1 (k + 1)), .int .u8 d, .int .u16 w] (mkH [some (ints .u8 f 0), some (bytes2 fa fb (k + 1))]))) = some ([tLn8 k, tLt 3 d, tLt w 16, ((tLt (pc0 s).sp 256).1, false)], .bool true, 4, []) := by kernel_rfl
theorem q6_ER4 (s : Sv) (n k : Nat) (f fa fb : Nat → Int) (d w : Int) : endsAt [] (Ly.run ctxO 9000 [(5, true), (7, true), (6, true), (3, true), (2, false)] (Ly.start Try.f6 [svV (pc0 s) (sl 0 0) (sls 1 (k + 1)), .int .u8 d, .int .u16 w] (mkH [some (ints .u8 f 0), some (bytes2 fa fb (k + 1))]))) = some ([tLn8 k, tLt 3 d, tLt w 16, tLt (pc0 s).sp 256, ((tLt 65000 w).1, false)], .bool true, 4, []) := by kernel_rfl
theorem q6_ERe (s : Sv) (n k : Nat) (f fa fb : Nat → Int) (d w : Int) : endsAt [] (Ly.run ctxO 9000 [(5, true), (7, true), (6, true), (3, true), (2, true), (4, true), (7, true)] (Ly.start Try.f6 [svV (pc0 s) (sl 0 0) (sls 1 (k + 1)), .int .u8 d, .int .u16 w] (mkH [some (ints .u8 f 0), some (bytes2 fa fb (k + 1))]))) = some ([tLn8 k, tLt 3 d, tLt w 16, tLt (pc0 s).sp 256, tLt 65000 w, tGt w (pc0 s).sp true, ((t8f (pc0 s) w).1, true)], .bool true, 4, []) := by kernel_rfl
theorem q6_RN0 (s : Sv) (n k : Nat) (f fa fb : Nat → Int) (d w : Int) : endsAt [] (Ly.run ctxO 9000 [(0, false)] (Ly.start Try.f6 [svV s (sl 0 (n + 1)) nilS, .int .u8 d, .int .u16 w] (mkH [some (ints .u8 f (n + 1)), some (bytes2 fa fb k)]))) = some ([((tLi n).1, false)], .bool true, 4, []) := by kernel_rfl
theorem q6_RN1 (s : Sv) (n k : Nat) (f fa fb : Nat → Int) (d w : Int) : endsAt [] (Ly.run ctxO 9000 [(0, true), (9, false)] (Ly.start Try.f6 [svV s (sl 0 (n + 1)) nilS, .int .u8 d, .int .u16 w] (mkH [some (ints .u8 f (n + 1)), some (bytes2 fa fb k)]))) = some ([tLi n, ((tMe n).1, false)], .bool true, 4, []) := by kernel_rfl
theorem q6_RN2 (s : Sv) (n k : Nat) (f fa fb : Nat → Int) (d w : Int) : endsAt [] (Ly.run ctxO 9000 [(0, true), (9, true), (2, false)] (Ly.start Try.f6 [svV s (sl 0 (n + 1)) nilS, .int .u8 d, .int .u16 w] (mkH [some (ints .u8 f (n + 1)), some (bytes2 fa fb k)]))) = some ([tLi n, tMe n, ((tLt 3 d).1, false)], .bool true, 4, []) := by kernel_rfl
theorem q6_RNp (s : Sv) (n k : Nat) (f fa fb : Nat → Int) (d w : Int) : endsAt [] (Ly.run ctxO 9000 [(0, true), (9, true), (2, true), (3, false)] (Ly.start Try.f6 [svV s (sl 0 (n + 1)) nilS, .int .u8 d, .int .u16 w] (mkH [some (ints .u8 f (n + 1)), some (bytes2 fa fb k)]))) = some ([tLi n, tMe n, tLt 3 d, ((s.pc != 0) == false, false)], .bool true, 4, []) := by kernel_rfl
theorem q6_RN3 (s : Sv) (n k : Nat) (f fa fb : Nat → Int) (d w : Int) : endsAt [] (Ly.run ctxO 9000 [(0, true), (9, true), (2, true), (6, false)] (Ly.start Try.f6 [svV (pc0 s) (sl 0 (n + 1)) nilS, .int .u8 d, .int .u16 w] (mkH [some (ints .u8 f (n + 1)), some (bytes2 fa fb k)]))) = some ([tLi n, tMe n, tLt 3 d, ((tLt w 16).1, false)], .bool true, 4, []) := by kernel_rfl
theorem q6_RN4 (s : Sv) (n k : Nat) (f fa fb : Nat → Int) (d w : Int) : endsAt [] (Ly.run ctxO 9000 [(0, true), (9, true), (2, true), (6, true), (3, false)] (Ly.start Try.f6 [svV (pc0 s) (sl 0 (n + 1)) nilS, .int .u8 d, .int .u16 w] (mkH [some (ints .u8 f (n + 1)), some (bytes2 fa fb k)]))) = some ([tLi n, tMe n, tLt 3 d, tLt w 16, ((tLt (pc0 s).sp 256).1, false)], .bool true, 4, []) := by kernel_rfl
theorem q6_RN5 (s : Sv) (n k : Nat) (f fa fb : Nat → Int) (d w : Int) : endsAt [] (Ly.run ctxO 9000 [(0, true), (9, true), (2, true), (6, true), (3, true), (2, false)] (Ly.start Try.f6 [svV (pc0 s) (sl 0 (n + 1)) nilS, .int .u8 d, .int .u16 w] (mkH [some (ints .u8 f (n + 1)), some (bytes2 fa fb k)]))) = some ([tLi n, tMe n, tLt 3 d, tLt w 16, tLt (pc0 s).sp 256, ((tLt 65000 w).1, false)], .bool true, 4, []) := by kernel_rfl
theorem q6_RNe (s : Sv) (n k : Nat) (f fa fb : Nat → Int) (d w : Int) : endsAt [] (Ly.run ctxO 9000 [(0, true), (9, true), (2, true), (6, true), (3, true), (2, true), (4, true), (7, true)] (Ly.start Try.f6 [svV (pc0 s) (sl 0 (n + 1)) nilS, .int .u8 d, .int .u16 w] (mkH [some (ints .u8 f (n + 1)), some (bytes2 fa fb k)]))) = some ([tLi n, tMe n, tLt 3 d, tLt w 16, tLt (pc0 s).sp 256, tLt 65000 w, tGt w (pc0 s).sp true, ((t8f (pc0 s) w).1, true)], .bool true, 4, []) := by kernel_rfl
theorem q6_RE0 (s : Sv) (n k : Nat) (f fa fb : Nat → Int) (d w : Int) : endsAt [] (Ly.run ctxO 9000 [(0, false)] (Ly.start Try.f6 [svV s (sl 0 (n + 1)) (sls 1 0), .int .u8 d, .int .u16 w] (mkH [some (ints .u8 f (n + 1)), some (bytes2 fa fb 0)]))) = some ([((tLi n).1, false)], .bool true, 4, []) := by kernel_rfl
theorem q6_RE1 (s : Sv) (n k : Nat) (f fa fb : Nat → Int) (d w : Int) : endsAt [] (Ly.run ctxO 9000 [(0, true), (9, false)] (Ly.start Try.f6 [svV s (sl 0 (n + 1)) (sls 1 0), .int .u8 d, .int .u16 w] (mkH [some (ints .u8 f (n + 1)), some (bytes2 fa fb 0)]))) = some ([tLi n, ((tMe n).1, false)], .bool true, 4, []) := by kernel_rfl
theorem q6_RE2 (s : Sv) (n k : Nat) (f fa fb : Nat → Int) (d w : Int) : endsAt [] (Ly.run ctxO 9000 [(0, true), (9, true), (2, false)] (Ly.start Try.f6 [svV s (sl 0 (n + 1)) (sls 1 0), .int .u8 d, .int .u16 w] (mkH [some (ints .u8 f (n + 1)), some (bytes2 fa fb 0)]))) = some ([tLi n, tMe n, ((tLt 3 d).1, false)], .bool true, 4, []) := by kernel_rfl
theorem q6_REp (s : Sv) (n k : Nat) (f fa fb : Nat → Int) (d w : Int) : endsAt [] (Ly.run ctxO 9000 [(0, true), (9, true), (2, true), (3, false)] (Ly.start Try.f6 [svV s (sl 0 (n + 1)) (sls 1 0), .int .u8 d, .int .u16 w] (mkH [some (ints .u8 f (n + 1)), some (bytes2 fa fb 0)]))) = some ([tLi n, tMe n, tLt 3 d, ((s.pc != 0) == false, false)], .bool true, 4, []) := by kernel_rfl
theorem q6_RE3 (s : Sv) (n k : Nat) (f fa fb : Nat → Int) (d w : Int) : endsAt [] (Ly.run ctxO 9000 [(0, true), (9, true), (2, true), (6, false)] (Ly.start Try.f6 [svV (pc0 s) (sl 0 (n + 1)) (sls 1 0), .int .u8 d, .int .u16 w] (mkH [some (ints .u8 f (n + 1)), some (bytes2 fa fb 0)]))) = some ([tLi n, tMe n, tLt 3 d, ((tLt w 16).1, false)], .bool true, 4, []) := by kernel_rfl
theorem q6_RE4 (s : Sv) (n k : Nat) (f fa fb : Nat → Int) (d w : Int) : endsAt [] (Ly.run ctxO 9000 [(0, true), (9, true), (2, true), (6, true), (3, false)] (Ly.start Try.f6 [svV (pc0 s) (sl 0 (n + 1)) (sls 1 0), .int .u8 d, .int .u16 w] (mkH [some (ints .u8 f (n + 1)), some (bytes2 fa fb 0)]))) = some ([tLi n, tMe n, tLt 3 d, tLt w 16, ((tLt (pc0 s).sp 256).1, false)], .bool true, 4, []) := by kernel_rfl
theorem q6_RE5 (s : Sv) (n k : Nat) (f fa fb : Nat → Int) (d w : Int) : endsAt [] (Ly.run ctxO 9000 [(0, true), (9, true), (2, true), (6, true), (3, true), (2, false)] (Ly.start Try.f6 [svV (pc0 s) (sl 0 (n + 1)) (sls 1 0), .int .u8 d, .int .u16 w] (mkH [some (ints .u8 f (n + 1)), some (bytes2 fa fb 0)]))) = some ([tLi n, tMe n, tLt 3 d, tLt w 16, tLt (pc0 s).sp 256, ((tLt 65000 w).1, false)], .bool true, 4, []) := by kernel_rfl
theorem q6_REe (s : Sv) (n k : Nat) (f fa fb : Nat → Int) (d w : Int) : endsAt [] (Ly.run ctxO 9000 [(0, true), (9, true), (2, true), (6, true), (3, true), (2, true), (4, true), (7, true)] (Ly.start Try.f6 [svV (pc0 s) (sl 0 (n + 1)) (sls 1 0), .int .u8 d, .int .u16 w] (mkH [some (ints .u8 f (n + 1)), some (bytes2 fa fb 0)]))) = some ([tLi n, tMe n, tLt 3 d, tLt w 16, tLt (pc0 s).sp 256, tLt 65000 w, tGt w (pc0 s).sp true, ((t8f (pc0 s) w).1, true)], .bool true, 4, []) := by kernel_rfl
theorem q6_RR0 (s : Sv) (n k : Nat) (f fa fb : Nat → Int) (d w : Int) : endsAt [] (Ly.run ctxO 9000 [(0, false)] (Ly.start Try.f6 [svV s (sl 0 (n + 1)) (sls 1 (k + 1)), .int .u8 d, .int .u16 w] (mkH [some (ints .u8 f (n + 1)), some (bytes2 fa fb (k + 1))]))) = some ([((tLi n).1, false)], .bool true, 4, []) := by kernel_rfl
theorem q6_RR1 (s : Sv) (n k : Nat) (f fa fb : Nat → Int) (d w : Int) : endsAt [] (Ly.run ctxO 9000 [(0, true), (4, false)] (Ly.start Try.f6 [svV s (sl 0 (n + 1)) (sls 1 (k + 1)), .int .u8 d, .int .u16 w] (mkH [some (ints .u8 f (n + 1)), some (bytes2 fa fb (k + 1))]))) = some ([tLi n, ((tLn8 k).1, false)], .bool true, 4, []) := by kernel_rfl
theorem q6_RR2 (s : Sv) (n k : Nat) (f fa fb : Nat → Int) (d w : Int) : endsAt [] (Ly.run ctxO 9000 [(0, true), (4, true), (4, false)] (Ly.start Try.f6 [svV s (sl 0 (n + 1)) (sls 1 (k + 1)), .int .u8 d, .int .u16 w] (mkH [some (ints .u8 f (n + 1)), some (bytes2 fa fb (k + 1))]))) = some ([tLi n, tLn8 k, ((tMe n).1, false)], .bool true, 4, []) := by kernel_rfl
theorem q6_RR3 (s : Sv) (n k : Nat) (f fa fb : Nat → Int) (d w : Int) : endsAt [] (Ly.run ctxO 9000 [(0, true), (4, true), (4, true), (2, false)] (Ly.start Try.f6 [svV s (sl 0 (n + 1)) (sls 1 (k + 1)), .int .u8 d, .int .u16 w] (mkH [some (ints .u8 f (n + 1)), some (bytes2 fa fb (k + 1))]))) = some ([tLi n, tLn8 k, tMe n, ((tLt 3 d).1, false)], .bool true, 4, []) := by kernel_rfl
theorem q6_RRp (s : Sv) (n k : Nat) (f fa fb : Nat → Int) (d w : Int) : endsAt [] (Ly.run ctxO 9000 [(0, true), (4, true), (4, true), (2, true), (3, false)] (Ly.start Try.f6 [svV s (sl 0 (n + 1)) (sls 1 (k + 1)), .int .u8 d, .int .u16 w] (mkH [some (ints .u8 f (n + 1)), some (bytes2 fa fb (k + 1))]))) = some ([tLi n, tLn8 k, tMe n, tLt 3 d, ((s.pc != 0) == false, false)], .bool true, 4, []) := by kernel_rfl
theorem q6_RR4 (s : Sv) (n k : Nat) (f fa fb : Nat → Int) (d w : Int) : endsAt [] (Ly.run ctxO 9000 [(0, true), (4, true), (4, true), (2, true), (6, false)] (Ly.start Try.f6 [svV (pc0 s) (sl 0 (n + 1)) (sls 1 (k + 1)), .int .u8 d, .int .u16 w] (mkH [some (ints .u8 f (n + 1)), some (bytes2 fa fb (k + 1))]))) = some ([tLi n, tLn8 k, tMe n, tLt 3 d, ((tLt w 16).1, false)], .bool true, 4, []) := by kernel_rfl
theorem q6_RR5 (s : Sv) (n k : Nat) (f fa fb : Nat → Int) (d w : Int) : endsAt [] (Ly.run ctxO 9000 [(0, true), (4, true), (4, true), (2, true), (6, true), (3, false)] (Ly.start Try.f6 [svV (pc0 s) (sl 0 (n + 1)) (sls 1 (k + 1)), .int .u8 d, .int .u16 w] (mkH [some (ints .u8 f (n + 1)), some (bytes2 fa fb (k + 1))]))) = some ([tLi n, tLn8 k, tMe n, tLt 3 d, tLt w 16, ((tLt (pc0 s).sp 256).1, false)], .bool true, 4, []) := by kernel_rfl
theorem q6_RR6 (s : Sv) (n k : Nat) (f fa fb : Nat → Int) (d w : Int) : endsAt [] (Ly.run ctxO 9000 [(0, true), (4, true), (4, true), (2, true), (6, true), (3, true), (2, false)] (Ly.start Try.f6 [svV (pc0 s) (sl 0 (n + 1)) (sls 1 (k + 1)), .int .u8 d, .int .u16 w] (mkH [some (ints .u8 f (n + 1)), some (bytes2 fa fb (k + 1))]))) = some ([tLi n, tLn8 k, tMe n, tLt 3 d, tLt w 16, tLt (pc0 s).sp 256, ((tLt 65000 w).1, false)], .bool true, 4, []) := by kernel_rfl
theorem q6_RRe (s : Sv) (n k : Nat) (f fa fb : Nat → Int) (d w : Int) : endsAt [] (Ly.run ctxO 9000 [(0, true), (4, true), (4, true), (2, true), (6, true), (3, true), (2, true), (4, true), (7, true)] (Ly.start Try.f6 [svV (pc0 s) (sl 0 (n + 1)) (sls 1 (k + 1)), .int .u8 d, .int .u16 w] (mkH [some (ints .u8 f (n + 1)), some (bytes2 fa fb (k + 1))]))) = some ([tLi n, tLn8 k, tMe n, tLt 3 d, tLt w 16, tLt (pc0 s).sp 256, tLt 65000 w, tGt w (pc0 s).sp true, ((t8f (pc0 s) w).1, true)], .bool true, 4, []) := by kernel_rfl
theorem stack_walk (W : World) (v0 v1 v2 : Value) (h0 : ∃ cs, v0 = .agg ⟨cs⟩ ∧ CksOk W [.int .u8, .int .u8, .int .u8, .int .u8, .int .u8, .int .u8, .int .u8, .int .u8, .bool, .bool, .bool, .bool, .bool, .int .u16, .int .u16, .bool, .slice [.int .u8], .slice [.int .u16, .int .u8]] cs)
    (h1 : CkOk W (.int .u8) v1) (h2 : CkOk W (.int .u16) v2) : Calls Try.prog 6 #[v0, v1, v2] W fun e W' => e = .returned (.bool true) ∧ Below W.heap.size W W' := by
  simp only [CkOk] at h1 h2
  obtain ⟨d, rfl, hd⟩ := h1
  obtain ⟨w, rfl, hw⟩ := h2
  have hd := bounds_u8 hd
  have hw : B16 w := bounds_u16 hw
  refine start_law h0 (rest := [.int .u8 d, .int .u16 w]) (by simp [plain, plainL]) ?_ ?_ ?_ ?_ ?_ ?_ ?_ ?_ ?_
  · intro s n k f fa fb hs
    rcases Int.lt_or_le 3 d with x0 | x0
    · exact (Ends.of_run ctxO_ok 9000 _ gLO6 (by kernel_rfl) (q6_NN0 s n k f fa fb d w) (tr_cons (tLt_no (by omega)) trivial)).mono (fun u K h => h.1)
    by_cases hp : s.pc = 0
    case neg => exact (Ends.of_run ctxO_ok 9000 _ gLO6 (by kernel_rfl) (q6_NNp s n k f fa fb d w) (tr_cons (tLt_ok (by omega)) (tr_cons (tP6_no hp) trivial))).mono (fun u K h => h.1)
    have es : s = pc0 s := by cases s; simp only at hp; subst hp; rfl
    have ep : (pc0 s).sp = s.sp := rfl
    rcases Int.lt_or_le w 16 with x1 | x1
    · rw [es]; exact (Ends.of_run ctxO_ok 9000 _ gLO6 (by kernel_rfl) (q6_NN1 s n k f fa fb d w) (tr_cons (tLt_ok (by omega)) (tr_cons (tLt_no (by omega)) trivial))).mono (fun u K h => h.1)
    rcases Int.lt_or_le s.sp 256 with x2 | x2
    · rw [es] at x2 ⊢; exact (Ends.of_run ctxO_ok 9000 _ gLO6 (by kernel_rfl) (q6_NN2 s n k f fa fb d w) (tr_cons (tLt_ok (by omega)) (tr_cons (tLt_ok (by omega)) (tr_cons (tLt_no (by omega)) trivial)))).mono (fun u K h => h.1)
    rcases Int.lt_or_le 65000 w with x3 | x3
    · rw [es]; exact (Ends.of_run ctxO_ok 9000 _ gLO6 (by kernel_rfl) (q6_NN3 s n k f fa fb d w) (tr_cons (tLt_ok (by omega)) (tr_cons (tLt_ok (by omega)) (tr_cons (tLt_ok (by omega)) (tr_cons (tLt_no (by omega)) trivial))))).mono (fun u K h => h.1)
    by_cases h6 : w < s.sp ∧ w16 (s.sp - w) < 8
    · have h61 : w < (pc0 s).sp := h6.1
      have h62 : w16 ((pc0 s).sp - w) < 8 := h6.2
      rw [es]; rw [es] at x2
      exact (Ends.of_run ctxO_ok 9000 _ gLO6 (by kernel_rfl) (q6_NNe s n k f fa fb d w) (tr_cons (tLt_ok (by omega)) (tr_cons (tLt_ok (by omega)) (tr_cons (tLt_ok (by omega)) (tr_cons (tLt_ok (by omega)) (tr_cons (tGt_ok h61) (tr_cons (t8f_no h62) trivial))))))).mono (fun u K h => h.1)
    · exact c6_NN tail6 s n k f fa fb d w hs hw (by omega) (by omega) hp (by omega) (by omega) (by omega) (fun a b => h6 ⟨a, b⟩)
  · intro s n k f fa fb hs
    rcases Int.lt_or_le 3 d with x0 | x0
    · exact (Ends.of_run ctxO_ok 9000 _ gLO6 (by kernel_rfl) (q6_NE0 s n k f fa fb d w) (tr_cons (tLt_no (by omega)) trivial)).mono (fun u K h => h.1)
    by_cases hp : s.pc = 0
    case neg => exact (Ends.of_run ctxO_ok 9000 _ gLO6 (by kernel_rfl) (q6_NEp s n k f fa fb d w) (tr_cons (tLt_ok (by omega)) (tr_cons (tP6_no hp) trivial))).mono (fun u K h => h.1)
    have es : s = pc0 s := by cases s; simp only at hp; subst hp; rfl
    have ep : (pc0 s).sp = s.sp := rfl
    rcases Int.lt_or_le w 16 with x1 | x1
    · rw [es]; exact (Ends.of_run ctxO_ok 9000 _ gLO6 (by kernel_rfl) (q6_NE1 s n k f fa fb d w) (tr_cons (tLt_ok (by omega)) (tr_cons (tLt_no (by omega)) trivial))).mono (fun u K h => h.1)
    rcases Int.lt_or_le s.sp 256 with x2 | x2
    · rw [es] at x2 ⊢; exact (Ends.of_run ctxO_ok 9000 _ gLO6 (by kernel_rfl) (q6_NE2 s n k f fa fb d w) (tr_cons (tLt_ok (by omega)) (tr_cons (tLt_ok (by omega)) (tr_cons (tLt_no (by omega)) trivial)))).mono (fun u K h => h.1)
    rcases Int.lt_or_le 65000 w with x3 | x3
    · rw [es]; exact (Ends.of_run ctxO_ok 9000 _ gLO6 (by kernel_rfl) (q6_NE3 s n k f fa fb d w) (tr_cons (tLt_ok (by omega)) (tr_cons (tLt_ok (by omega)) (tr_cons (tLt_ok (by omega)) (tr_cons (tLt_no (by omega)) trivial))))).mono (fun u K h => h.1)
    by_cases h6 : w < s.sp ∧ w16 (s.sp - w) < 8
    · have h61 : w < (pc0 s).sp := h6.1
      have h62 : w16 ((pc0 s).sp - w) < 8 := h6.2
      rw [es]; rw [es] at x2
      exact (Ends.of_run ctxO_ok 9000 _ gLO6 (by kernel_rfl) (q6_NEe s n k f fa fb d w) (tr_cons (tLt_ok (by omega)) (tr_cons (tLt_ok (by omega)) (tr_cons (tLt_ok (by omega)) (tr_cons (tLt_ok (by omega)) (tr_cons (tGt_ok h61) (tr_cons (t8f_no h62) trivial))))))).mono (fun u K h => h.1)
    · exact c6_NE tail6 s n k f fa fb d w hs hw (by omega) (by omega) hp (by omega) (by omega) (by omega) (fun a b => h6 ⟨a, b⟩)
  · intro s n k f fa fb hs hb
    rcases Nat.lt_or_ge 300 (k + 1) with x0 | x0
    · exact (Ends.of_run ctxO_ok 9000 _ gLO6 (by kernel_rfl) (q6_NR0 s n k f fa fb d w) (tr_cons (tLn8_no (by omega)) trivial)).mono (fun u K h => h.1)
    rcases Int.lt_or_le 3 d with x1 | x1
    · exact (Ends.of_run ctxO_ok 9000 _ gLO6 (by kernel_rfl) (q6_NR1 s n k f fa fb d w) (tr_cons (tLn8_ok (by omega)) (tr_cons (tLt_no (by omega)) trivial))).mono (fun u K h => h.1)
    by_cases hp : s.pc = 0
    case neg => exact (Ends.of_run ctxO_ok 9000 _ gLO6 (by kernel_rfl) (q6_NRp s n k f fa fb d w) (tr_cons (tLn8_ok (by omega)) (tr_cons (tLt_ok (by omega)) (tr_cons (tP6_no hp) trivial)))).mono (fun u K h => h.1)
    have es : s = pc0 s := by cases s; simp only at hp; subst hp; rfl
    have ep : (pc0 s).sp = s.sp := rfl
    rcases Int.lt_or_le w 16 with x2 | x2
    · rw [es]; exact (Ends.of_run ctxO_ok 9000 _ gLO6 (by kernel_rfl) (q6_NR2 s n k f fa fb d w) (tr_cons (tLn8_ok (by omega)) (tr_cons (tLt_ok (by omega)) (tr_cons (tLt_no (by omega)) trivial)))).mono (fun u K h => h.1)
    rcases Int.lt_or_le s.sp 256 with x3 | x3
    · rw [es] at x3 ⊢; exact (Ends.of_run ctxO_ok 9000 _ gLO6 (by kernel_rfl) (q6_NR3 s n k f fa fb d w) (tr_cons (tLn8_ok (by omega)) (tr_cons (tLt_ok (by omega)) (tr_cons (tLt_ok (by omega)) (tr_cons (tLt_no (by omega)) trivial))))).mono (fun u K h => h.1)
    rcases Int.lt_or_le 65000 w with x4 | x4
    · rw [es]; exact (Ends.of_run ctxO_ok 9000 _ gLO6 (by kernel_rfl) (q6_NR4 s n k f fa fb d w) (tr_cons (tLn8_ok (by omega)) (tr_cons (tLt_ok (by omega)) (tr_cons (tLt_ok (by omega)) (tr_cons (tLt_ok (by omega)) (tr_cons (tLt_no (by omega)) trivial)))))).mono (fun u K h => h.1)
    by_cases h6 : w < s.sp ∧ w16 (s.sp - w) < 8
    · have h61 : w < (pc0 s).sp := h6.1
      have h62 : w16 ((pc0 s).sp - w) < 8 := h6.2
      rw [es]; rw [es] at x3
      exact (Ends.of_run ctxO_ok 9000 _ gLO6 (by kernel_rfl) (q6_NRe s n k f fa fb d w) (tr_cons (tLn8_ok (by omega)) (tr_cons (tLt_ok (by omega)) (tr_cons (tLt_ok (by omega)) (tr_cons (tLt_ok (by omega)) (tr_cons (tLt_ok (by omega)) (tr_cons (tGt_ok h61) (tr_cons (t8f_no h62) trivial)))))))).mono (fun u K h => h.1)
    · exact c6_NR tail6 s n k f fa fb d w hs hw (by omega) (by omega) hp (by omega) (by omega) (by omega) (by omega) (fun a b => h6 ⟨a, b⟩)
  · intro s n k f fa fb hs
    rcases Int.lt_or_le 3 d with x0 | x0
    · exact (Ends.of_run ctxO_ok 9000 _ gLO6 (by kernel_rfl) (q6_EN0 s n k f fa fb d w) (tr_cons (tLt_no (by omega)) trivial)).mono (fun u K h => h.1)
    by_cases hp : s.pc = 0
    case neg => exact (Ends.of_run ctxO_ok 9000 _ gLO6 (by kernel_rfl) (q6_ENp s n k f fa fb d w) (tr_cons (tLt_ok (by omega)) (tr_cons (tP6_no hp) trivial))).mono (fun u K h => h.1)
    have es : s = pc0 s := by cases s; simp only at hp; subst hp; rfl
    have ep : (pc0 s).sp = s.sp := rfl
    rcases Int.lt_or_le w 16 with x1 | x1
    · rw [es]; exact (Ends.of_run ctxO_ok 9000 _ gLO6 (by kernel_rfl) (q6_EN1 s n k f fa fb d w) (tr_cons (tLt_ok (by omega)) (tr_cons (tLt_no (by omega)) trivial))).mono (fun u K h => h.1)
    rcases Int.lt_or_le s.sp 256 with x2 | x2
    · rw [es] at x2 ⊢; exact (Ends.of_run ctxO_ok 9000 _ gLO6 (by kernel_rfl) (q6_EN2 s n k f fa fb d w) (tr_cons (tLt_ok (by omega)) (tr_cons (tLt_ok (by omega)) (tr_cons (tLt_no (by omega)) trivial)))).mono (fun u K h => h.1)
    rcases Int.lt_or_le 65000 w with x3 | x3
    · rw [es]; exact (Ends.of_run ctxO_ok 9000 _ gLO6 (by kernel_rfl) (q6_EN3 s n k f fa fb d w) (tr_cons (tLt_ok (by omega)) (tr_cons (tLt_ok (by omega)) (tr_cons (tLt_ok (by omega)) (tr_cons (tLt_no (by omega)) trivial))))).mono (fun u K h => h.1)
    by_cases h6 : w < s.sp ∧ w16 (s.sp - w) < 8
    · have h61 : w < (pc0 s).sp := h6.1
      have h62 : w16 ((pc0 s).sp - w) < 8 := h6.2
      rw [es]; rw [es] at x2
      exact (Ends.of_run ctxO_ok 9000 _ gLO6 (by kernel_rfl) (q6_ENe s n k f fa fb d w) (tr_cons (tLt_ok (by omega)) (tr_cons (tLt_ok (by omega)) (tr_cons (tLt_ok (by omega)) (tr_cons (tLt_ok (by omega)) (tr_cons (tGt_ok h61) (tr_cons (t8f_no h62) trivial))))))).mono (fun u K h => h.1)
    · exact c6_EN tail6 s n k f fa fb d w hs hw (by omega) (by omega) hp (by omega) (by omega) (by omega) (fun a b => h6 ⟨a, b⟩)
  · intro s n k f fa fb hs
    rcases Int.lt_or_le 3 d with x0 | x0
    · exact (Ends.of_run ctxO_ok 9000 _ gLO6 (by kernel_rfl) (q6_EE0 s n k f fa fb d w) (tr_cons (tLt_no (by omega)) trivial)).mono (fun u K h => h.1)
    by_cases hp : s.pc = 0
    case neg => exact (Ends.of_run ctxO_ok 9000 _ gLO6 (by kernel_rfl) (q6_EEp s n k f fa fb d w) (tr_cons (tLt_ok (by omega)) (tr_cons (tP6_no hp) trivial))).mono (fun u K h => h.1)
    have es : s = pc0 s := by cases s; simp only at hp; subst hp; rfl
    have ep : (pc0 s).sp = s.sp := rfl
    rcases Int.lt_or_le w 16 with x1 | x1
    · rw [es]; exact (Ends.of_run ctxO_ok 9000 _ gLO6 (by kernel_rfl) (q6_EE1 s n k f fa fb d w) (tr_cons (tLt_ok (by omega)) (tr_cons (tLt_no (by omega)) trivial))).mono (fun u K h => h.1)
    rcases Int.lt_or_le s.sp 256 with x2 | x2
    · rw [es] at x2 ⊢; exact (Ends.of_run ctxO_ok 9000 _ gLO6 (by kernel_rfl) (q6_EE2 s n k f fa fb d w) (tr_cons (tLt_ok (by omega)) (tr_cons (tLt_ok (by omega)) (tr_cons (tLt_no (by omega)) trivial)))).mono (fun u K h => h.1)
    rcases Int.lt_or_le 65000 w with x3 | x3
    · rw [es]; exact (Ends.of_run ctxO_ok 9000 _ gLO6 (by kernel_rfl) (q6_EE3 s n k f fa fb d w) (tr_cons (tLt_ok (by omega)) (tr_cons (tLt_ok (by omega)) (tr_cons (tLt_ok (by omega)) (tr_cons (tLt_no (by omega)) trivial))))).mono (fun u K h => h.1)
    by_cases h6 : w < s.sp ∧ w16 (s.sp - w) < 8
    · have h61 : w < (pc0 s).sp := h6.1
      have h62 : w16 ((pc0 s).sp - w) < 8 := h6.2
      rw [es]; rw [es] at x2
      exact (Ends.of_run ctxO_ok 9000 _ gLO6 (by kernel_rfl) (q6_EEe s n k f fa fb d w) (tr_cons (tLt_ok (by omega)) (tr_cons (tLt_ok (by omega)) (tr_cons (tLt_ok (by omega)) (tr_cons (tLt_ok (by omega)) (tr_cons (tGt_ok h61) (tr_cons (t8f_no h62) trivial))))))).mono (fun u K h => h.1)
    · exact c6_EE tail6 s n k f fa fb d w hs hw (by omega) (by omega) hp (by omega) (by omega) (by omega) (fun a b => h6 ⟨a, b⟩)
  · intro s n k f fa fb hs hb
    rcases Nat.lt_or_ge 300 (k + 1) with x0 | x0
    · exact (Ends.of_run ctxO_ok 9000 _ gLO6 (by kernel_rfl) (q6_ER0 s n k f fa fb d w) (tr_cons (tLn8_no (by omega)) trivial)).mono (fun u K h => h.1)
    rcases Int.lt_or_le 3 d with x1 | x1
    · exact (Ends.of_run ctxO_ok 9000 _ gLO6 (by kernel_rfl) (q6_ER1 s n k f fa fb d w) (tr_cons (tLn8_ok (by omega)) (tr_cons (tLt_no (by omega)) trivial))).mono (fun u K h => h.1)
    by_cases hp : s.pc = 0
    case neg => exact (Ends.of_run ctxO_ok 9000 _ gLO6 (by kernel_rfl) (q6_ERp s n k f fa fb d w) (tr_cons (tLn8_ok (by omega)) (tr_cons (tLt_ok (by omega)) (tr_cons (tP6_no hp) trivial)))).mono (fun u K h => h.1)
    have es : s = pc0 s := by cases s; simp only at hp; subst hp; rfl
    have ep : (pc0 s).sp = s.sp := rfl
    rcases Int.lt_or_le w 16 with x2 | x2
    · rw [es]; exact (Ends.of_run ctxO_ok 9000 _ gLO6 (by kernel_rfl) (q6_ER2 s n k f fa fb d w) (tr_cons (tLn8_ok (by omega)) (tr_cons (tLt_ok (by omega)) (tr_cons (tLt_no (by omega)) trivial)))).mono (fun u K h => h.1)
    rcases Int.lt_or_le s.sp 256 with x3 | x3
    · rw [es] at x3 ⊢; exact (Ends.of_run ctxO_ok 9000 _ gLO6 (by kernel_rfl) (q6_ER3 s n k f fa fb d w) (tr_cons (tLn8_ok (by omega)) (tr_cons (tLt_ok (by omega)) (tr_cons (tLt_ok (by omega)) (tr_cons (tLt_no (by omega)) trivial))))).mono (fun u K h => h.1)
    rcases Int.lt_or_le 65000 w with x4 | x4
    · rw [es]; exact (Ends.of_run ctxO_ok 9000 _ gLO6 (by kernel_rfl) (q6_ER4 s n k f fa fb d w) (tr_cons (tLn8_ok (by omega)) (tr_cons (tLt_ok (by omega)) (tr_cons (tLt_ok (by omega)) (tr_cons (tLt_ok (by omega)) (tr_cons (tLt_no (by omega)) trivial)))))).mono (fun u K h => h.1)
    by_cases h6 : w < s.sp ∧ w16 (s.sp - w) < 8
    · have h61 : w < (pc0 s).sp := h6.1
      have h62 : w16 ((pc0 s).sp - w) < 8 := h6.2
      rw [es]; rw [es] at x3
      exact (Ends.of_run ctxO_ok 9000 _ gLO6 (by kernel_rfl) (q6_ERe s n k f fa fb d w) (tr_cons (tLn8_ok (by omega)) (tr_cons (tLt_ok (by omega)) (tr_cons (tLt_ok (by omega)) (tr_cons (tLt_ok (by omega)) (tr_cons (tLt_ok (by omega)) (tr_cons (tGt_ok h61) (tr_cons (t8f_no h62) trivial)))))))).mono (fun u K h => h.1)
    · exact c6_ER tail6 s n k f fa fb d w hs hw (by omega) (by omega) hp (by omega) (by omega) (by omega) (by omega) (fun a b => h6 ⟨a, b⟩)
  · intro s n k f fa fb hs hf
    rcases Nat.lt_or_ge 300 (n + 1) with x0 | x0
    · exact (Ends.of_run ctxO_ok 9000 _ gLO6 (by kernel_rfl) (q6_RN0 s n k f fa fb d w) (tr_cons (tLi8_no (by omega)) trivial)).mono (fun u K h => h.1)
    rcases Nat.lt_or_ge 256 (n + 1) with x1 | x1
    · exact (Ends.of_run ctxO_ok 9000 _ gLO6 (by kernel_rfl) (q6_RN1 s n k f fa fb d w) (tr_cons (tLi_ok (by omega)) (tr_cons (tMe8_no (by omega)) trivial))).mono (fun u K h => h.1)
    rcases Int.lt_or_le 3 d with x2 | x2
    · exact (Ends.of_run ctxO_ok 9000 _ gLO6 (by kernel_rfl) (q6_RN2 s n k f fa fb d w) (tr_cons (tLi_ok (by omega)) (tr_cons (tMe_ok (by omega)) (tr_cons (tLt_no (by omega)) trivial)))).mono (fun u K h => h.1)
    by_cases hp : s.pc = 0
    case neg => exact (Ends.of_run ctxO_ok 9000 _ gLO6 (by kernel_rfl) (q6_RNp s n k f fa fb d w) (tr_cons (tLi_ok (by omega)) (tr_cons (tMe_ok (by omega)) (tr_cons (tLt_ok (by omega)) (tr_cons (tP6_no hp) trivial))))).mono (fun u K h => h.1)
    have es : s = pc0 s := by cases s; simp only at hp; subst hp; rfl
    have ep : (pc0 s).sp = s.sp := rfl
    rcases Int.lt_or_le w 16 with x3 | x3
    · rw [es]; exact (Ends.of_run ctxO_ok 9000 _ gLO6 (by kernel_rfl) (q6_RN3 s n k f fa fb d w) (tr_cons (tLi_ok (by omega)) (tr_cons (tMe_ok (by omega)) (tr_cons (tLt_ok (by omega)) (tr_cons (tLt_no (by omega)) trivial))))).mono (fun u K h => h.1)
    rcases Int.lt_or_le s.sp 256 with x4 | x4
    · rw [es] at x4 ⊢; exact (Ends.of_run ctxO_ok 9000 _ gLO6 (by kernel_rfl) (q6_RN4 s n k f fa fb d w) (tr_cons (tLi_ok (by omega)) (tr_cons (tMe_ok (by omega)) (tr_cons (tLt_ok (by omega)) (tr_cons (tLt_ok (by omega)) (tr_cons (tLt_no (by omega)) trivial)))))).mono (fun u K h => h.1)
    rcases Int.lt_or_le 65000 w with x5 | x5
    · rw [es]; exact (Ends.of_run ctxO_ok 9000 _ gLO6 (by kernel_rfl) (q6_RN5 s n k f fa fb d w) (tr_cons (tLi_ok (by omega)) (tr_cons (tMe_ok (by omega)) (tr_cons (tLt_ok (by omega)) (tr_cons (tLt_ok (by omega)) (tr_cons (tLt_ok (by omega)) (tr_cons (tLt_no (by omega)) trivial))))))).mono (fun u K h => h.1)
    by_cases h6 : w < s.sp ∧ w16 (s.sp - w) < 8
    · have h61 : w < (pc0 s).sp := h6.1
      have h62 : w16 ((pc0 s).sp - w) < 8 := h6.2
      rw [es]; rw [es] at x4
      exact (Ends.of_run ctxO_ok 9000 _ gLO6 (by kernel_rfl) (q6_RNe s n k f fa fb d w) (tr_cons (tLi_ok (by omega)) (tr_cons (tMe_ok (by omega)) (tr_cons (tLt_ok (by omega)) (tr_cons (tLt_ok (by omega)) (tr_cons (tLt_ok (by omega)) (tr_cons (tLt_ok (by omega)) (tr_cons (tGt_ok h61) (tr_cons (t8f_no h62) trivial))))))))).mono (fun u K h => h.1)
    · exact c6_RN tail6 s n k f fa fb d w hs hw (by omega) (by omega) hp (by omega) (by omega) (by omega) (by omega) (fun a b => h6 ⟨a, b⟩)
  · intro s n k f fa fb hs hf
    rcases Nat.lt_or_ge 300 (n + 1) with x0 | x0
    · exact (Ends.of_run ctxO_ok 9000 _ gLO6 (by kernel_rfl) (q6_RE0 s n k f fa fb d w) (tr_cons (tLi8_no (by omega)) trivial)).mono (fun u K h => h.1)
    rcases Nat.lt_or_ge 256 (n + 1) with x1 | x1
    · exact (Ends.of_run ctxO_ok 9000 _ gLO6 (by kernel_rfl) (q6_RE1 s n k f fa fb d w) (tr_cons (tLi_ok (by omega)) (tr_cons (tMe8_no (by omega)) trivial))).mono (fun u K h => h.1)
    rcases Int.lt_or_le 3 d with x2 | x2
    · exact (Ends.of_run ctxO_ok 9000 _ gLO6 (by kernel_rfl) (q6_RE2 s n k f fa fb d w) (tr_cons (tLi_ok (by omega)) (tr_cons (tMe_ok (by omega)) (tr_cons (tLt_no (by omega)) trivial)))).mono (fun u K h => h.1)
    by_cases hp : s.pc = 0
    case neg => exact (Ends.of_run ctxO_ok 9000 _ gLO6 (by kernel_rfl) (q6_REp s n k f fa fb d w) (tr_cons (tLi_ok (by omega)) (tr_cons (tMe_ok (by omega)) (tr_cons (tLt_ok (by omega)) (tr_cons (tP6_no hp) trivial))))).mono (fun u K h => h.1)
    have es : s = pc0 s := by cases s; simp only at hp; subst hp; rfl
    have ep : (pc0 s).sp = s.sp := rfl
    rcases Int.lt_or_le w 16 with x3 | x3
    · rw [es]; exact (Ends.of_run ctxO_ok 9000 _ gLO6 (by kernel_rfl) (q6_RE3 s n k f fa fb d w) (tr_cons (tLi_ok (by omega)) (tr_cons (tMe_ok (by omega)) (tr_cons (tLt_ok (by omega)) (tr_cons (tLt_no (by omega)) trivial))))).mono (fun u K h => h.1)
    rcases Int.lt_or_le s.sp 256 with x4 | x4
    · rw [es] at x4 ⊢; exact (Ends.of_run ctxO_ok 9000 _ gLO6 (by kernel_rfl) (q6_RE4 s n k f fa fb d w) (tr_cons (tLi_ok (by omega)) (tr_cons (tMe_ok (by omega)) (tr_cons (tLt_ok (by omega)) (tr_cons (tLt_ok (by omega)) (tr_cons (tLt_no (by omega)) trivial)))))).mono (fun u K h => h.1)
    rcases Int.lt_or_le 65000 w with x5 | x5
    · rw [es]; exact (Ends.of_run ctxO_ok 9000 _ gLO6 (by kernel_rfl) (q6_RE5 s n k f fa fb d w) (tr_cons (tLi_ok (by omega)) (tr_cons (tMe_ok (by omega)) (tr_cons (tLt_ok (by omega)) (tr_cons (tLt_ok (by omega)) (tr_cons (tLt_ok (by omega)) (tr_cons (tLt_no (by omega)) trivial))))))).mono (fun u K h => h.1)
    by_cases h6 : w < s.sp ∧ w16 (s.sp - w) < 8
    · have h61 : w < (pc0 s).sp := h6.1
      have h62 : w16 ((pc0 s).sp - w) < 8 := h6.2
      rw [es]; rw [es] at x4
      exact (Ends.of_run ctxO_ok 9000 _ gLO6 (by kernel_rfl) (q6_REe s n k f fa fb d w) (tr_cons (tLi_ok (by omega)) (tr_cons (tMe_ok (by omega)) (tr_cons (tLt_ok (by omega)) (tr_cons (tLt_ok (by omega)) (tr_cons (tLt_ok (by omega)) (tr_cons (tLt_ok (by omega)) (tr_cons (tGt_ok h61) (tr_cons (t8f_no h62) trivial))))))))).mono (fun u K h => h.1)
    · exact c6_RE tail6 s n k f fa fb d w hs hw (by omega) (by omega) hp (by omega) (by omega) (by omega) (by omega) (fun a b => h6 ⟨a, b⟩)
  · intro s n k f fa fb hs hf hb
    rcases Nat.lt_or_ge 300 (n + 1) with x0 | x0
    · exact (Ends.of_run ctxO_ok 9000 _ gLO6 (by kernel_rfl) (q6_RR0 s n k f fa fb d w) (tr_cons (tLi8_no (by omega)) trivial)).mono (fun u K h => h.1)
    rcases Nat.lt_or_ge 300 (k + 1) with x1 | x1
    · exact (Ends.of_run ctxO_ok 9000 _ gLO6 (by kernel_rfl) (q6_RR1 s n k f fa fb d w) (tr_cons (tLi_ok (by omega)) (tr_cons (tLn8_no (by omega)) trivial))).mono (fun u K h => h.1)
    rcases Nat.lt_or_ge 256 (n + 1) with x2 | x2
    · exact (Ends.of_run ctxO_ok 9000 _ gLO6 (by kernel_rfl) (q6_RR2 s n k f fa fb d w) (tr_cons (tLi_ok (by omega)) (tr_cons (tLn8_ok (by omega)) (tr_cons (tMe8_no (by omega)) trivial)))).mono (fun u K h => h.1)
    rcases Int.lt_or_le 3 d with x3 | x3
    · exact (Ends.of_run ctxO_ok 9000 _ gLO6 (by kernel_rfl) (q6_RR3 s n k f fa fb d w) (tr_cons (tLi_ok (by omega)) (tr_cons (tLn8_ok (by omega)) (tr_cons (tMe_ok (by omega)) (tr_cons (tLt_no (by omega)) trivial))))).mono (fun u K h => h.1)
    by_cases hp : s.pc = 0
    case neg => exact (Ends.of_run ctxO_ok 9000 _ gLO6 (by kernel_rfl) (q6_RRp s n k f fa fb d w) (tr_cons (tLi_ok (by omega)) (tr_cons (tLn8_ok (by omega)) (tr_cons (tMe_ok (by omega)) (tr_cons (tLt_ok (by omega)) (tr_cons (tP6_no hp) trivial)))))).mono (fun u K h => h.1)
    have es : s = pc0 s := by cases s; simp only at hp; subst hp; rfl
    have ep : (pc0 s).sp = s.sp := rfl
    rcases Int.lt_or_le w 16 with x4 | x4
    · rw [es]; exact (Ends.of_run ctxO_ok 9000 _ gLO6 (by kernel_rfl) (q6_RR4 s n k f fa fb d w) (tr_cons (tLi_ok (by omega)) (tr_cons (tLn8_ok (by omega)) (tr_cons (tMe_ok (by omega)) (tr_cons (tLt_ok (by omega)) (tr_cons (tLt_no (by omega)) trivial)))))).mono (fun u K h => h.1)
    rcases Int.lt_or_le s.sp 256 with x5 | x5
    · rw [es] at x5 ⊢; exact (Ends.of_run ctxO_ok 9000 _ gLO6 (by kernel_rfl) (q6_RR5 s n k f fa fb d w) (tr_cons (tLi_ok (by omega)) (tr_cons (tLn8_ok (by omega)) (tr_cons (tMe_ok (by omega)) (tr_cons (tLt_ok (by omega)) (tr_cons (tLt_ok (by omega)) (tr_cons (tLt_no (by omega)) trivial))))))).mono (fun u K h => h.1)
    rcases Int.lt_or_le 65000 w with x6 | x6
    · rw [es]; exact (Ends.of_run ctxO_ok 9000 _ gLO6 (by kernel_rfl) (q6_RR6 s n k f fa fb d w) (tr_cons (tLi_ok (by omega)) (tr_cons (tLn8_ok (by omega)) (tr_cons (tMe_ok (by omega)) (tr_cons (tLt_ok (by omega)) (tr_cons (tLt_ok (by omega)) (tr_cons (tLt_ok (by omega)) (tr_cons (tLt_no (by omega)) trivial)))))))).mono (fun u K h => h.1)
    by_cases h6 : w < s.sp ∧ w16 (s.sp - w) < 8
    · have h61 : w < (pc0 s).sp := h6.1
      have h62 : w16 ((pc0 s).sp - w) < 8 := h6.2
      rw [es]; rw [es] at x5
      exact (Ends.of_run ctxO_ok 9000 _ gLO6 (by kernel_rfl) (q6_RRe s n k f fa fb d w) (tr_cons (tLi_ok (by omega)) (tr_cons (tLn8_ok (by omega)) (tr_cons (tMe_ok (by omega)) (tr_cons (tLt_ok (by omega)) (tr_cons (tLt_ok (by omega)) (tr_cons (tLt_ok (by omega)) (tr_cons (tLt_ok (by omega)) (tr_cons (tGt_ok h61) (tr_cons (t8f_no h62) trivial)))))))))).mono (fun u K h => h.1)
    · exact c6_RR tail6 s n k f fa fb d w hs hw (by omega) (by omega) hp (by omega) (by omega) (by omega) (by omega) (by omega) (fun a b => h6 ⟨a, b⟩)
end Go.Proofs.Ytpggoincnebfnaa
end
