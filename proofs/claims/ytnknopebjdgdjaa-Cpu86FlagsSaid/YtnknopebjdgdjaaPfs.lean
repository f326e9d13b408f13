/- Part 19 of the texts that the law needs, laid together. By program (pack.py). -/
import Derived.Test.YtnknopebjdgdjaaPfj
import Derived.Test.YtnknopebjdgdjaaPfr
import Derived.KernelRfl
set_option linter.unusedVariables false
set_option linter.unusedSimpArgs false
noncomputable section
namespace Go.Proofs.Ytnknopebjdgdjaa
open Go Go.Ly Go.RowKit
set_option linter.unusedSectionVars false
variable (s : Sv) (n k l : Nat) (f fa fb fc fd : Nat → Int) (op d sr x : Int)
include s n k l f fa fb fc fd op d sr x
theorem g7_1NNN (K : K7 s op d sr x 1) : LCalls Try.prog 7 (A7 s nilS nilS nilS op d sr x) (mkH (X7 f n fa fb k fc fd l)) (fun u _ => u = .bool true) := by
  have hG : Gok 3 (GA (yl s op d sr x 1) 3) := gokA1 K.hB
  exact g7of (e7_1NNN s n k l f fa fb fc fd op d sr x) K (tk7 K (by omega) trivial (tr_cons (tOk_ok hG (by omega)) (tOk_ok hG (by omega)))) f7_28 (by omega) hG rfl (byA1)
theorem g7_1NNS (hLd : l ≤ 300) (hd : ∀ e, e < l → B16 (fc e) ∧ B8 (fd e)) (K : K7 s op d sr x 1) : LCalls Try.prog 7 (A7 s nilS nilS (sls 2 l) op d sr x) (mkH (X7 f n fa fb k fc fd l)) (fun u _ => u = .bool true) := by
  have hG : Gok 3 (GA (yl s op d sr x 1) 3) := gokA1 K.hB
  exact g7of (e7_1NNS s n k l f fa fb fc fd op d sr x) K (tk7 K (by omega) (tLd_ok hLd) (tr_cons (tOk_ok hG (by omega)) (tr_cons (tOd_ok hd (by omega)) (tr_cons (tOk_ok hG (by omega)) (tOd_ok hd (by omega)))))) f7_28 (by omega) hG rfl (byA1)
theorem g7_1NEN (K : K7 s op d sr x 1) : LCalls Try.prog 7 (A7 s nilS (sls 1 0) nilS op d sr x) (mkH (X7 f n fa fb 0 fc fd l)) (fun u _ => u = .bool true) := by
  have hG : Gok 3 (GA (yl s op d sr x 1) 3) := gokA1 K.hB
  exact g7of (e7_1NEN s n k l f fa fb fc fd op d sr x) K (tk7 K (by omega) trivial (tr_cons (tOk_ok hG (by omega)) (tOk_ok hG (by omega)))) f7_28 (by omega) hG rfl (byA1)
theorem g7_1NES (hLd : l ≤ 300) (hd : ∀ e, e < l → B16 (fc e) ∧ B8 (fd e)) (K : K7 s op d sr x 1) : LCalls Try.prog 7 (A7 s nilS (sls 1 0) (sls 2 l) op d sr x) (mkH (X7 f n fa fb 0 fc fd l)) (fun u _ => u = .bool true) := by
  have hG : Gok 3 (GA (yl s op d sr x 1) 3) := gokA1 K.hB
  exact g7of (e7_1NES s n k l f fa fb fc fd op d sr x) K (tk7 K (by omega) (tLd_ok hLd) (tr_cons (tOk_ok hG (by omega)) (tr_cons (tOd_ok hd (by omega)) (tr_cons (tOk_ok hG (by omega)) (tOd_ok hd (by omega)))))) f7_28 (by omega) hG rfl (byA1)
theorem g7_1NRN (hLc : k + 1 ≤ 600) (hc : ∀ e, e < k + 1 → B16 (fa e) ∧ B8 (fb e)) (K : K7 s op d sr x 1) : LCalls Try.prog 7 (A7 s nilS (sls 1 (k + 1)) nilS op d sr x) (mkH (X7 f n fa fb (k + 1) fc fd l)) (fun u _ => u = .bool true) := by
  have hG : Gok (yN k 3) (yGR fa fb k (yP s op d sr x 1) 3) := gokR (B := yB op d sr x 1) _ (fun t => rfl) K.hB hc 3
  exact g7of (e7_1NRN s n k l f fa fb fc fd op d sr x) K (tk7 K (by omega) (tLc_ok hLc) (tr_cons (tR1_ok (by omega)) (tr_cons (tR2_ok (by omega)) (tr_cons (yRn_ok (by rw [yN_eq]; omega) (by rw [yN_eq]; omega)) (tr_cons (yRn_ok (by rw [yN_eq]; omega) (by rw [yN_eq]; omega)) (tr_cons (yOk_ok hG (by have := yN_eq k 2; omega)) (yOk_ok hG (by have := yN_eq k 2; omega)))))))) f7_29 (by omega) hG rfl (byR (by omega))
theorem g7_1NRS (hLc : k + 1 ≤ 600) (hc : ∀ e, e < k + 1 → B16 (fa e) ∧ B8 (fb e)) (hLd : l ≤ 300) (hd : ∀ e, e < l → B16 (fc e) ∧ B8 (fd e)) (K : K7 s op d sr x 1) : LCalls Try.prog 7 (A7 s nilS (sls 1 (k + 1)) (sls 2 l) op d sr x) (mkH (X7 f n fa fb (k + 1) fc fd l)) (fun u _ => u = .bool true) := by
  have hG : Gok (yN k 3) (yGR fa fb k (yP s op d sr x 1) 3) := gokR (B := yB op d sr x 1) _ (fun t => rfl) K.hB hc 3
  exact g7of (e7_1NRS s n k l f fa fb fc fd op d sr x) K (tk7 K (by omega) (tr_cons (tLc_ok hLc) (tLd_ok hLd)) (tr_cons (tR1_ok (by omega)) (tr_cons (tR2_ok (by omega)) (tr_cons (yRn_ok (by rw [yN_eq]; omega) (by rw [yN_eq]; omega)) (tr_cons (yRn_ok (by rw [yN_eq]; omega) (by rw [yN_eq]; omega)) (tr_cons (yOk_ok hG (by have := yN_eq k 2; omega)) (tr_cons (tOd_ok hd (by omega)) (tr_cons (yOk_ok hG (by have := yN_eq k 2; omega)) (tOd_ok hd (by omega)))))))))) f7_29 (by omega) hG rfl (byR (by omega))
end Go.Proofs.Ytnknopebjdgdjaa
namespace Go.Proofs.Ytnknopebjdgdjaa
open Go Go.Ly Go.RowKit
set_option linter.unusedSectionVars false
set_option maxRecDepth 100000
variable (s : Sv) (n k l : Nat) (f fa fb fc fd : Nat → Int) (op d sr x : Int)
include s n k l f fa fb fc fd op d sr x
theorem e7_1ENN : E7 29 36 [1, 1, 45, 7, 7, 7, 6, 53, 57] (A7 s (sl 0 0) nilS nilS op d sr x) (X7 f 0 fa fb k fc fd l) = O7 29 (y1 op d sr x 1 ++ [] ++ y2 op d sr ++ [tOk (GA (yl s op d sr x 1) 3) 3, tOk (GA (yl s op d sr x 1) 3) 3]) s (sl 0 0) nilS nilS (.slice (some ⟨24, 0, none⟩) 0 0) (GA (yl s op d sr x 1) 3) 3 (fun _ => 0) := by kernel_rfl
theorem e7_1ENS : E7 29 36 [1, 1, 21, 23, 7, 7, 7, 6, 53, 1, 55, 1] (A7 s (sl 0 0) nilS (sls 2 l) op d sr x) (X7 f 0 fa fb k fc fd l) = O7 29 (y1 op d sr x 1 ++ [tLd l] ++ y2 op d sr ++ [tOk (GA (yl s op d sr x 1) 3) 3, tOd fc fd l, tOk (GA (yl s op d sr x 1) 3) 3, tOd fc fd l]) s (sl 0 0) nilS (sls 2 l) (.slice (some ⟨24, 0, none⟩) 0 0) (GA (yl s op d sr x 1) 3) 3 (gs (gm (GD fc fd) l)) := by kernel_rfl
theorem e7_1EEN : E7 29 36 [1, 1, 45, 7, 7, 7, 6, 53, 57] (A7 s (sl 0 0) (sls 1 0) nilS op d sr x) (X7 f 0 fa fb 0 fc fd l) = O7 29 (y1 op d sr x 1 ++ [] ++ y2 op d sr ++ [tOk (GA (yl s op d sr x 1) 3) 3, tOk (GA (yl s op d sr x 1) 3) 3]) s (sl 0 0) (sls 1 0) nilS (.slice (some ⟨24, 0, none⟩) 0 0) (GA (yl s op d sr x 1) 3) 3 (fun _ => 0) := by kernel_rfl
theorem e7_1EES : E7 29 36 [1, 1, 21, 23, 7, 7, 7, 6, 53, 1, 55, 1] (A7 s (sl 0 0) (sls 1 0) (sls 2 l) op d sr x) (X7 f 0 fa fb 0 fc fd l) = O7 29 (y1 op d sr x 1 ++ [tLd l] ++ y2 op d sr ++ [tOk (GA (yl s op d sr x 1) 3) 3, tOd fc fd l, tOk (GA (yl s op d sr x 1) 3) 3, tOd fc fd l]) s (sl 0 0) (sls 1 0) (sls 2 l) (.slice (some ⟨24, 0, none⟩) 0 0) (GA (yl s op d sr x 1) 3) 3 (gs (gm (GD fc fd) l)) := by kernel_rfl
theorem e7_1ERN : E7 30 37 [1, 1, 11, 33, 7, 7, 7, 6, 11, 11, 9, 9, 7, 57] (A7 s (sl 0 0) (sls 1 (k + 1)) nilS op d sr x) (X7 f 0 fa fb (k + 1) fc fd l) = O7 30 (y1 op d sr x 1 ++ [tLc k] ++ y2 op d sr ++ [tR1 k, tR2 k, yRn (yN k 1), yRn (yN k 2), yOk (yGR fa fb k (yP s op d sr x 1) 3) (yN k 2), yOk (yGR fa fb k (yP s op d sr x 1) 3) (yN k 2)]) s (sl 0 0) (sls 1 (k + 1)) nilS (.slice (some ⟨25, 0, none⟩) 0 0) (yGR fa fb k (yP s op d sr x 1) 3) (yN k 3) (fun _ => 0) := by kernel_rfl
theorem e7_1ERS : E7 30 37 [1, 1, 11, 9, 23, 7, 7, 7, 6, 11, 11, 9, 9, 7, 1, 55, 1] (A7 s (sl 0 0) (sls 1 (k + 1)) (sls 2 l) op d sr x) (X7 f 0 fa fb (k + 1) fc fd l) = O7 30 (y1 op d sr x 1 ++ [tLc k, tLd l] ++ y2 op d sr ++ [tR1 k, tR2 k, yRn (yN k 1), yRn (yN k 2), yOk (yGR fa fb k (yP s op d sr x 1) 3) (yN k 2), tOd fc fd l, yOk (yGR fa fb k (yP s op d sr x 1) 3) (yN k 2), tOd fc fd l]) s (sl 0 0) (sls 1 (k + 1)) (sls 2 l) (.slice (some ⟨25, 0, none⟩) 0 0) (yGR fa fb k (yP s op d sr x 1) 3) (yN k 3) (gs (gm (GD fc fd) l)) := by kernel_rfl
end Go.Proofs.Ytnknopebjdgdjaa
namespace Go.Proofs.Ytnknopebjdgdjaa
open Go Go.Ly Go.RowKit
set_option linter.unusedSectionVars false
variable (s : Sv) (n k l : Nat) (f fa fb fc fd : Nat → Int) (op d sr x : Int)
include s n k l f fa fb fc fd op d sr x
theorem g7_1ENN (K : K7 s op d sr x 1) : LCalls Try.prog 7 (A7 s (sl 0 0) nilS nilS op d sr x) (mkH (X7 f 0 fa fb k fc fd l)) (fun u _ => u = .bool true) := by
  have hG : Gok 3 (GA (yl s op d sr x 1) 3) := gokA1 K.hB
  exact g7of (e7_1ENN s n k l f fa fb fc fd op d sr x) K (tk7 K (by omega) trivial (tr_cons (tOk_ok hG (by omega)) (tOk_ok hG (by omega)))) f7_29 (by omega) hG rfl (byA1)
theorem g7_1ENS (hLd : l ≤ 300) (hd : ∀ e, e < l → B16 (fc e) ∧ B8 (fd e)) (K : K7 s op d sr x 1) : LCalls Try.prog 7 (A7 s (sl 0 0) nilS (sls 2 l) op d sr x) (mkH (X7 f 0 fa fb k fc fd l)) (fun u _ => u = .bool true) := by
  have hG : Gok 3 (GA (yl s op d sr x 1) 3) := gokA1 K.hB
  exact g7of (e7_1ENS s n k l f fa fb fc fd op d sr x) K (tk7 K (by omega) (tLd_ok hLd) (tr_cons (tOk_ok hG (by omega)) (tr_cons (tOd_ok hd (by omega)) (tr_cons (tOk_ok hG (by omega)) (tOd_ok hd (by omega)))))) f7_29 (by omega) hG rfl (byA1)
theorem g7_1EEN (K : K7 s op d sr x 1) : LCalls Try.prog 7 (A7 s (sl 0 0) (sls 1 0) nilS op d sr x) (mkH (X7 f 0 fa fb 0 fc fd l)) (fun u _ => u = .bool true) := by
  have hG : Gok 3 (GA (yl s op d sr x 1) 3) := gokA1 K.hB
  exact g7of (e7_1EEN s n k l f fa fb fc fd op d sr x) K (tk7 K (by omega) trivial (tr_cons (tOk_ok hG (by omega)) (tOk_ok hG (by omega)))) f7_29 (by omega) hG rfl (byA1)
theorem g7_1EES (hLd : l ≤ 300) (hd : ∀ e, e < l → B16 (fc e) ∧ B8 (fd e)) (K : K7 s op d sr x 1) : LCalls Try.prog 7 (A7 s (sl 0 0) (sls 1 0) (sls 2 l) op d sr x) (mkH (X7 f 0 fa fb 0 fc fd l)) (fun u _ => u = .bool true) := by
  have hG : Gok 3 (GA (yl s op d sr x 1) 3) := gokA1 K.hB
  exact g7of (e7_1EES s n k l f fa fb fc fd op d sr x) K (tk7 K (by omega) (tLd_ok hLd) (tr_cons (tOk_ok hG (by omega)) (tr_cons (tOd_ok hd (by omega)) (tr_cons (tOk_ok hG (by omega)) (tOd_ok hd (by omega)))))) f7_29 (by omega) hG rfl (byA1)
theorem g7_1ERN (hLc : k + 1 ≤ 600) (hc : ∀ e, e < k + 1 → B16 (fa e) ∧ B8 (fb e)) (K : K7 s op d sr x 1) : LCalls Try.prog 7 (A7 s (sl 0 0) (sls 1 (k + 1)) nilS op d sr x) (mkH (X7 f 0 fa fb (k + 1) fc fd l)) (fun u _ => u = .bool true) := by
  have hG : Gok (yN k 3) (yGR fa fb k (yP s op d sr x 1) 3) := gokR (B := yB op d sr x 1) _ (fun t => rfl) K.hB hc 3
  exact g7of (e7_1ERN s n k l f fa fb fc fd op d sr x) K (tk7 K (by omega) (tLc_ok hLc) (tr_cons (tR1_ok (by omega)) (tr_cons (tR2_ok (by omega)) (tr_cons (yRn_ok (by rw [yN_eq]; omega) (by rw [yN_eq]; omega)) (tr_cons (yRn_ok (by rw [yN_eq]; omega) (by rw [yN_eq]; omega)) (tr_cons (yOk_ok hG (by have := yN_eq k 2; omega)) (yOk_ok hG (by have := yN_eq k 2; omega)))))))) f7_30 (by omega) hG rfl (byR (by omega))
theorem g7_1ERS (hLc : k + 1 ≤ 600) (hc : ∀ e, e < k + 1 → B16 (fa e) ∧ B8 (fb e)) (hLd : l ≤ 300) (hd : ∀ e, e < l → B16 (fc e) ∧ B8 (fd e)) (K : K7 s op d sr x 1) : LCalls Try.prog 7 (A7 s (sl 0 0) (sls 1 (k + 1)) (sls 2 l) op d sr x) (mkH (X7 f 0 fa fb (k + 1) fc fd l)) (fun u _ => u = .bool true) := by
  have hG : Gok (yN k 3) (yGR fa fb k (yP s op d sr x 1) 3) := gokR (B := yB op d sr x 1) _ (fun t => rfl) K.hB hc 3
  exact g7of (e7_1ERS s n k l f fa fb fc fd op d sr x) K (tk7 K (by omega) (tr_cons (tLc_ok hLc) (tLd_ok hLd)) (tr_cons (tR1_ok (by omega)) (tr_cons (tR2_ok (by omega)) (tr_cons (yRn_ok (by rw [yN_eq]; omega) (by rw [yN_eq]; omega)) (tr_cons (yRn_ok (by rw [yN_eq]; omega) (by rw [yN_eq]; omega)) (tr_cons (yOk_ok hG (by have := yN_eq k 2; omega)) (tr_cons (tOd_ok hd (by omega)) (tr_cons (yOk_ok hG (by have := yN_eq k 2; omega)) (tOd_ok hd (by omega)))))))))) f7_30 (by omega) hG rfl (byR (by omega))
end Go.Proofs.Ytnknopebjdgdjaa
namespace Go.Proofs.Ytnknopebjdgdjaa
open Go Go.Ly Go.RowKit
set_option linter.unusedSectionVars false
set_option maxRecDepth 100000
variable (s : Sv) (n k l : Nat) (f fa fb fc fd : Nat → Int) (op d sr x : Int)
include s n k l f fa fb fc fd op d sr x
theorem e7_1RNN : E7 30 37 [1, 1, 1, 29, 13, 7, 7, 7, 6, 53, 20, 3, 31] (A7 s (sl 0 (n + 1)) nilS nilS op d sr x) (X7 f (n + 1) fa fb k fc fd l) = O7 30 (y1 op d sr x 1 ++ [tLi n, tMe n] ++ y2 op d sr ++ [tOk (GA (yl s op d sr x 1) 3) 3, tMx n, tR1 n, tOk (GA (yl s op d sr x 1) 3) 3]) s (sl 0 (n + 1)) nilS nilS (inV 25 0 (0 + (n + 1))) (GA (yl s op d sr x 1) 3) 3 (fun _ => 0) := by kernel_rfl
theorem e7_1RNS : E7 30 37 [1, 1, 1, 19, 9, 13, 7, 7, 7, 6, 53, 1, 18, 3, 31, 1] (A7 s (sl 0 (n + 1)) nilS (sls 2 l) op d sr x) (X7 f (n + 1) fa fb k fc fd l) = O7 30 (y1 op d sr x 1 ++ [tLi n, tLd l, tMe n] ++ y2 op d sr ++ [tOk (GA (yl s op d sr x 1) 3) 3, tOd fc fd l, tMx n, tR1 n, tOk (GA (yl s op d sr x 1) 3) 3, tOd fc fd l]) s (sl 0 (n + 1)) nilS (sls 2 l) (inV 25 0 (0 + (n + 1))) (GA (yl s op d sr x 1) 3) 3 (gs (gm (GD fc fd) l)) := by kernel_rfl
theorem e7_1REN : E7 30 37 [1, 1, 1, 29, 13, 7, 7, 7, 6, 53, 20, 3, 31] (A7 s (sl 0 (n + 1)) (sls 1 0) nilS op d sr x) (X7 f (n + 1) fa fb 0 fc fd l) = O7 30 (y1 op d sr x 1 ++ [tLi n, tMe n] ++ y2 op d sr ++ [tOk (GA (yl s op d sr x 1) 3) 3, tMx n, tR1 n, tOk (GA (yl s op d sr x 1) 3) 3]) s (sl 0 (n + 1)) (sls 1 0) nilS (inV 25 0 (0 + (n + 1))) (GA (yl s op d sr x 1) 3) 3 (fun _ => 0) := by kernel_rfl
theorem e7_1RES : E7 30 37 [1, 1, 1, 19, 9, 13, 7, 7, 7, 6, 53, 1, 18, 3, 31, 1] (A7 s (sl 0 (n + 1)) (sls 1 0) (sls 2 l) op d sr x) (X7 f (n + 1) fa fb 0 fc fd l) = O7 30 (y1 op d sr x 1 ++ [tLi n, tLd l, tMe n] ++ y2 op d sr ++ [tOk (GA (yl s op d sr x 1) 3) 3, tOd fc fd l, tMx n, tR1 n, tOk (GA (yl s op d sr x 1) 3) 3, tOd fc fd l]) s (sl 0 (n + 1)) (sls 1 0) (sls 2 l) (inV 25 0 (0 + (n + 1))) (GA (yl s op d sr x 1) 3) 3 (gs (gm (GD fc fd) l)) := by kernel_rfl
theorem e7_1RRN : E7 31 38 [1, 1, 1, 9, 19, 13, 7, 7, 7, 6, 11, 11, 9, 9, 7, 20, 3, 31] (A7 s (sl 0 (n + 1)) (sls 1 (k + 1)) nilS op d sr x) (X7 f (n + 1) fa fb (k + 1) fc fd l) = O7 31 (y1 op d sr x 1 ++ [tLi n, tLc k, tMe n] ++ y2 op d sr ++ [tR1 k, tR2 k, yRn (yN k 1), yRn (yN k 2), yOk (yGR fa fb k (yP s op d sr x 1) 3) (yN k 2), tMx n, tR1 n, yOk (yGR fa fb k (yP s op d sr x 1) 3) (yN k 2)]) s (sl 0 (n + 1)) (sls 1 (k + 1)) nilS (inV 26 0 (0 + (n + 1))) (yGR fa fb k (yP s op d sr x 1) 3) (yN k 3) (fun _ => 0) := by kernel_rfl
theorem e7_1RRS : E7 31 38 [1, 1, 1, 9, 9, 9, 13, 7, 7, 7, 6, 11, 11, 9, 9, 7, 1, 18, 3, 31, 1] (A7 s (sl 0 (n + 1)) (sls 1 (k + 1)) (sls 2 l) op d sr x) (X7 f (n + 1) fa fb (k + 1) fc fd l) = O7 31 (y1 op d sr x 1 ++ [tLi n, tLc k, tLd l, tMe n] ++ y2 op d sr ++ [tR1 k, tR2 k, yRn (yN k 1), yRn (yN k 2), yOk (yGR fa fb k (yP s op d sr x 1) 3) (yN k 2), tOd fc fd l, tMx n, tR1 n, yOk (yGR fa fb k (yP s op d sr x 1) 3) (yN k 2), tOd fc fd l]) s (sl 0 (n + 1)) (sls 1 (k + 1)) (sls 2 l) (inV 26 0 (0 + (n + 1))) (yGR fa fb k (yP s op d sr x 1) 3) (yN k 3) (gs (gm (GD fc fd) l)) := by kernel_rfl
end Go.Proofs.Ytnknopebjdgdjaa
namespace Go.Proofs.Ytnknopebjdgdjaa
open Go Go.Ly Go.RowKit
set_option linter.unusedSectionVars false
variable (s : Sv) (n k l : Nat) (f fa fb fc fd : Nat → Int) (op d sr x : Int)
include s n k l f fa fb fc fd op d sr x
theorem g7_1RNN (hLi : n + 1 ≤ 256) (K : K7 s op d sr x 1) : LCalls Try.prog 7 (A7 s (sl 0 (n + 1)) nilS nilS op d sr x) (mkH (X7 f (n + 1) fa fb k fc fd l)) (fun u _ => u = .bool true) := by
  have hG : Gok 3 (GA (yl s op d sr x 1) 3) := gokA1 K.hB
  exact g7of (e7_1RNN s n k l f fa fb fc fd op d sr x) K (tk7 K (by omega) (tr_cons (tLi_ok hLi) (tMe_ok hLi)) (tr_cons (tOk_ok hG (by omega)) (tr_cons (tMx_ok hLi) (tr_cons (tR1_ok (by omega)) (tOk_ok hG (by omega)))))) f7_30 (by omega) hG rfl (byA1)
theorem g7_1RNS (hLi : n + 1 ≤ 256) (hLd : l ≤ 300) (hd : ∀ e, e < l → B16 (fc e) ∧ B8 (fd e)) (K : K7 s op d sr x 1) : LCalls Try.prog 7 (A7 s (sl 0 (n + 1)) nilS (sls 2 l) op d sr x) (mkH (X7 f (n + 1) fa fb k fc fd l)) (fun u _ => u = .bool true) := by
  have hG : Gok 3 (GA (yl s op d sr x 1) 3) := gokA1 K.hB
  exact g7of (e7_1RNS s n k l f fa fb fc fd op d sr x) K (tk7 K (by omega) (tr_cons (tLi_ok hLi) (tr_cons (tLd_ok hLd) (tMe_ok hLi))) (tr_cons (tOk_ok hG (by omega)) (tr_cons (tOd_ok hd (by omega)) (tr_cons (tMx_ok hLi) (tr_cons (tR1_ok (by omega)) (tr_cons (tOk_ok hG (by omega)) (tOd_ok hd (by omega)))))))) f7_30 (by omega) hG rfl (byA1)
theorem g7_1REN (hLi : n + 1 ≤ 256) (K : K7 s op d sr x 1) : LCalls Try.prog 7 (A7 s (sl 0 (n + 1)) (sls 1 0) nilS op d sr x) (mkH (X7 f (n + 1) fa fb 0 fc fd l)) (fun u _ => u = .bool true) := by
  have hG : Gok 3 (GA (yl s op d sr x 1) 3) := gokA1 K.hB
  exact g7of (e7_1REN s n k l f fa fb fc fd op d sr x) K (tk7 K (by omega) (tr_cons (tLi_ok hLi) (tMe_ok hLi)) (tr_cons (tOk_ok hG (by omega)) (tr_cons (tMx_ok hLi) (tr_cons (tR1_ok (by omega)) (tOk_ok hG (by omega)))))) f7_30 (by omega) hG rfl (byA1)
theorem g7_1RES (hLi : n + 1 ≤ 256) (hLd : l ≤ 300) (hd : ∀ e, e < l → B16 (fc e) ∧ B8 (fd e)) (K : K7 s op d sr x 1) : LCalls Try.prog 7 (A7 s (sl 0 (n + 1)) (sls 1 0) (sls 2 l) op d sr x) (mkH (X7 f (n + 1) fa fb 0 fc fd l)) (fun u _ => u = .bool true) := by
  have hG : Gok 3 (GA (yl s op d sr x 1) 3) := gokA1 K.hB
  exact g7of (e7_1RES s n k l f fa fb fc fd op d sr x) K (tk7 K (by omega) (tr_cons (tLi_ok hLi) (tr_cons (tLd_ok hLd) (tMe_ok hLi))) (tr_cons (tOk_ok hG (by omega)) (tr_cons (tOd_ok hd (by omega)) (tr_cons (tMx_ok hLi) (tr_cons (tR1_ok (by omega)) (tr_cons (tOk_ok hG (by omega)) (tOd_ok hd (by omega)))))))) f7_30 (by omega) hG rfl (byA1)
theorem g7_1RRN (hLi : n + 1 ≤ 256) (hLc : k + 1 ≤ 600) (hc : ∀ e, e < k + 1 → B16 (fa e) ∧ B8 (fb e)) (K : K7 s op d sr x 1) : LCalls Try.prog 7 (A7 s (sl 0 (n + 1)) (sls 1 (k + 1)) nilS op d sr x) (mkH (X7 f (n + 1) fa fb (k + 1) fc fd l)) (fun u _ => u = .bool true) := by
  have hG : Gok (yN k 3) (yGR fa fb k (yP s op d sr x 1) 3) := gokR (B := yB op d sr x 1) _ (fun t => rfl) K.hB hc 3
  exact g7of (e7_1RRN s n k l f fa fb fc fd op d sr x) K (tk7 K (by omega) (tr_cons (tLi_ok hLi) (tr_cons (tLc_ok hLc) (tMe_ok hLi))) (tr_cons (tR1_ok (by omega)) (tr_cons (tR2_ok (by omega)) (tr_cons (yRn_ok (by rw [yN_eq]; omega) (by rw [yN_eq]; omega)) (tr_cons (yRn_ok (by rw [yN_eq]; omega) (by rw [yN_eq]; omega)) (tr_cons (yOk_ok hG (by have := yN_eq k 2; omega)) (tr_cons (tMx_ok hLi) (tr_cons (tR1_ok (by omega)) (yOk_ok hG (by have := yN_eq k 2; omega)))))))))) f7_31 (by omega) hG rfl (byR (by omega))
theorem g7_1RRS (hLi : n + 1 ≤ 256) (hLc : k + 1 ≤ 600) (hc : ∀ e, e < k + 1 → B16 (fa e) ∧ B8 (fb e)) (hLd : l ≤ 300) (hd : ∀ e, e < l → B16 (fc e) ∧ B8 (fd e)) (K : K7 s op d sr x 1) : LCalls Try.prog 7 (A7 s (sl 0 (n + 1)) (sls 1 (k + 1)) (sls 2 l) op d sr x) (mkH (X7 f (n + 1) fa fb (k + 1) fc fd l)) (fun u _ => u = .bool true) := by
  have hG : Gok (yN k 3) (yGR fa fb k (yP s op d sr x 1) 3) := gokR (B := yB op d sr x 1) _ (fun t => rfl) K.hB hc 3
  exact g7of (e7_1RRS s n k l f fa fb fc fd op d sr x) K (tk7 K (by omega) (tr_cons (tLi_ok hLi) (tr_cons (tLc_ok hLc) (tr_cons (tLd_ok hLd) (tMe_ok hLi)))) (tr_cons (tR1_ok (by omega)) (tr_cons (tR2_ok (by omega)) (tr_cons (yRn_ok (by rw [yN_eq]; omega) (by rw [yN_eq]; omega)) (tr_cons (yRn_ok (by rw [yN_eq]; omega) (by rw [yN_eq]; omega)) (tr_cons (yOk_ok hG (by have := yN_eq k 2; omega)) (tr_cons (tOd_ok hd (by omega)) (tr_cons (tMx_ok hLi) (tr_cons (tR1_ok (by omega)) (tr_cons (yOk_ok hG (by have := yN_eq k 2; omega)) (tOd_ok hd (by omega)))))))))))) f7_31 (by omega) hG rfl (byR (by omega))
end Go.Proofs.Ytnknopebjdgdjaa
namespace Go.Proofs.Ytnknopebjdgdjaa
open Go Go.Ly Go.RowKit
set_option linter.unusedSectionVars false
set_option maxRecDepth 100000
variable (s : Sv) (n k l : Nat) (f fa fb fc fd : Nat → Int) (op d sr x : Int)
include s n k l f fa fb fc fd op d sr x
theorem e7_2NNN : E7 30 37 [1, 0, 1, 45, 7, 7, 7, 6, 63, 51] (A7 s nilS nilS nilS op d sr x) (X7 f n fa fb k fc fd l) = O7 30 (y1 op d sr x 2 ++ [] ++ y2 op d sr ++ [tOk (GA (yl s op d sr x 2) 4) 4, tOk (GA (yl s op d sr x 2) 4) 4]) s nilS nilS nilS (.slice none 0 0) (GA (yl s op d sr x 2) 4) 4 (fun _ => 0) := by kernel_rfl
theorem e7_2NNS : E7 30 37 [1, 0, 1, 21, 23, 7, 7, 7, 6, 63, 1, 49, 1] (A7 s nilS nilS (sls 2 l) op d sr x) (X7 f n fa fb k fc fd l) = O7 30 (y1 op d sr x 2 ++ [tLd l] ++ y2 op d sr ++ [tOk (GA (yl s op d sr x 2) 4) 4, tOd fc fd l, tOk (GA (yl s op d sr x 2) 4) 4, tOd fc fd l]) s nilS nilS (sls 2 l) (.slice none 0 0) (GA (yl s op d sr x 2) 4) 4 (gs (gm (GD fc fd) l)) := by kernel_rfl
theorem e7_2NEN : E7 30 37 [1, 0, 1, 45, 7, 7, 7, 6, 63, 51] (A7 s nilS (sls 1 0) nilS op d sr x) (X7 f n fa fb 0 fc fd l) = O7 30 (y1 op d sr x 2 ++ [] ++ y2 op d sr ++ [tOk (GA (yl s op d sr x 2) 4) 4, tOk (GA (yl s op d sr x 2) 4) 4]) s nilS (sls 1 0) nilS (.slice none 0 0) (GA (yl s op d sr x 2) 4) 4 (fun _ => 0) := by kernel_rfl
theorem e7_2NES : E7 30 37 [1, 0, 1, 21, 23, 7, 7, 7, 6, 63, 1, 49, 1] (A7 s nilS (sls 1 0) (sls 2 l) op d sr x) (X7 f n fa fb 0 fc fd l) = O7 30 (y1 op d sr x 2 ++ [tLd l] ++ y2 op d sr ++ [tOk (GA (yl s op d sr x 2) 4) 4, tOd fc fd l, tOk (GA (yl s op d sr x 2) 4) 4, tOd fc fd l]) s nilS (sls 1 0) (sls 2 l) (.slice none 0 0) (GA (yl s op d sr x 2) 4) 4 (gs (gm (GD fc fd) l)) := by kernel_rfl
theorem e7_2NRN : E7 31 38 [1, 0, 1, 11, 33, 7, 7, 7, 6, 11, 11, 9, 9, 9, 7, 51] (A7 s nilS (sls 1 (k + 1)) nilS op d sr x) (X7 f n fa fb (k + 1) fc fd l) = O7 31 (y1 op d sr x 2 ++ [tLc k] ++ y2 op d sr ++ [tR1 k, tR2 k, yRn (yN k 1), yRn (yN k 2), yRn (yN k 3), yOk (yGR fa fb k (yP s op d sr x 2) 4) (yN k 3), yOk (yGR fa fb k (yP s op d sr x 2) 4) (yN k 3)]) s nilS (sls 1 (k + 1)) nilS (.slice none 0 0) (yGR fa fb k (yP s op d sr x 2) 4) (yN k 4) (fun _ => 0) := by kernel_rfl
theorem e7_2NRS : E7 31 38 [1, 0, 1, 11, 9, 23, 7, 7, 7, 6, 11, 11, 9, 9, 9, 7, 1, 49, 1] (A7 s nilS (sls 1 (k + 1)) (sls 2 l) op d sr x) (X7 f n fa fb (k + 1) fc fd l) = O7 31 (y1 op d sr x 2 ++ [tLc k, tLd l] ++ y2 op d sr ++ [tR1 k, tR2 k, yRn (yN k 1), yRn (yN k 2), yRn (yN k 3), yOk (yGR fa fb k (yP s op d sr x 2) 4) (yN k 3), tOd fc fd l, yOk (yGR fa fb k (yP s op d sr x 2) 4) (yN k 3), tOd fc fd l]) s nilS (sls 1 (k + 1)) (sls 2 l) (.slice none 0 0) (yGR fa fb k (yP s op d sr x 2) 4) (yN k 4) (gs (gm (GD fc fd) l)) := by kernel_rfl
end Go.Proofs.Ytnknopebjdgdjaa
namespace Go.Proofs.Ytnknopebjdgdjaa
open Go Go.Ly Go.RowKit
set_option linter.unusedSectionVars false
variable (s : Sv) (n k l : Nat) (f fa fb fc fd : Nat → Int) (op d sr x : Int)
include s n k l f fa fb fc fd op d sr x
theorem g7_2NNN (K : K7 s op d sr x 2) : LCalls Try.prog 7 (A7 s nilS nilS nilS op d sr x) (mkH (X7 f n fa fb k fc fd l)) (fun u _ => u = .bool true) := by
  have hG : Gok 4 (GA (yl s op d sr x 2) 4) := gokA2 K.hB
  exact g7of (e7_2NNN s n k l f fa fb fc fd op d sr x) K (tk7 K (by omega) trivial (tr_cons (tOk_ok hG (by omega)) (tOk_ok hG (by omega)))) f7_30 (by omega) hG rfl (byA2)
theorem g7_2NNS (hLd : l ≤ 300) (hd : ∀ e, e < l → B16 (fc e) ∧ B8 (fd e)) (K : K7 s op d sr x 2) : LCalls Try.prog 7 (A7 s nilS nilS (sls 2 l) op d sr x) (mkH (X7 f n fa fb k fc fd l)) (fun u _ => u = .bool true) := by
  have hG : Gok 4 (GA (yl s op d sr x 2) 4) := gokA2 K.hB
  exact g7of (e7_2NNS s n k l f fa fb fc fd op d sr x) K (tk7 K (by omega) (tLd_ok hLd) (tr_cons (tOk_ok hG (by omega)) (tr_cons (tOd_ok hd (by omega)) (tr_cons (tOk_ok hG (by omega)) (tOd_ok hd (by omega)))))) f7_30 (by omega) hG rfl (byA2)
theorem g7_2NEN (K : K7 s op d sr x 2) : LCalls Try.prog 7 (A7 s nilS (sls 1 0) nilS op d sr x) (mkH (X7 f n fa fb 0 fc fd l)) (fun u _ => u = .bool true) := by
  have hG : Gok 4 (GA (yl s op d sr x 2) 4) := gokA2 K.hB
  exact g7of (e7_2NEN s n k l f fa fb fc fd op d sr x) K (tk7 K (by omega) trivial (tr_cons (tOk_ok hG (by omega)) (tOk_ok hG (by omega)))) f7_30 (by omega) hG rfl (byA2)
theorem g7_2NES (hLd : l ≤ 300) (hd : ∀ e, e < l → B16 (fc e) ∧ B8 (fd e)) (K : K7 s op d sr x 2) : LCalls Try.prog 7 (A7 s nilS (sls 1 0) (sls 2 l) op d sr x) (mkH (X7 f n fa fb 0 fc fd l)) (fun u _ => u = .bool true) := by
  have hG : Gok 4 (GA (yl s op d sr x 2) 4) := gokA2 K.hB
  exact g7of (e7_2NES s n k l f fa fb fc fd op d sr x) K (tk7 K (by omega) (tLd_ok hLd) (tr_cons (tOk_ok hG (by omega)) (tr_cons (tOd_ok hd (by omega)) (tr_cons (tOk_ok hG (by omega)) (tOd_ok hd (by omega)))))) f7_30 (by omega) hG rfl (byA2)
theorem g7_2NRN (hLc : k + 1 ≤ 600) (hc : ∀ e, e < k + 1 → B16 (fa e) ∧ B8 (fb e)) (K : K7 s op d sr x 2) : LCalls Try.prog 7 (A7 s nilS (sls 1 (k + 1)) nilS op d sr x) (mkH (X7 f n fa fb (k + 1) fc fd l)) (fun u _ => u = .bool true) := by
  have hG : Gok (yN k 4) (yGR fa fb k (yP s op d sr x 2) 4) := gokR (B := yB op d sr x 2) _ (fun t => rfl) K.hB hc 4
  exact g7of (e7_2NRN s n k l f fa fb fc fd op d sr x) K (tk7 K (by omega) (tLc_ok hLc) (tr_cons (tR1_ok (by omega)) (tr_cons (tR2_ok (by omega)) (tr_cons (yRn_ok (by rw [yN_eq]; omega) (by rw [yN_eq]; omega)) (tr_cons (yRn_ok (by rw [yN_eq]; omega) (by rw [yN_eq]; omega)) (tr_cons (yRn_ok (by rw [yN_eq]; omega) (by rw [yN_eq]; omega)) (tr_cons (yOk_ok hG (by have := yN_eq k 3; omega)) (yOk_ok hG (by have := yN_eq k 3; omega))))))))) f7_31 (by omega) hG rfl (byR (by omega))
theorem g7_2NRS (hLc : k + 1 ≤ 600) (hc : ∀ e, e < k + 1 → B16 (fa e) ∧ B8 (fb e)) (hLd : l ≤ 300) (hd : ∀ e, e < l → B16 (fc e) ∧ B8 (fd e)) (K : K7 s op d sr x 2) : LCalls Try.prog 7 (A7 s nilS (sls 1 (k + 1)) (sls 2 l) op d sr x) (mkH (X7 f n fa fb (k + 1) fc fd l)) (fun u _ => u = .bool true) := by
  have hG : Gok (yN k 4) (yGR fa fb k (yP s op d sr x 2) 4) := gokR (B := yB op d sr x 2) _ (fun t => rfl) K.hB hc 4
  exact g7of (e7_2NRS s n k l f fa fb fc fd op d sr x) K (tk7 K (by omega) (tr_cons (tLc_ok hLc) (tLd_ok hLd)) (tr_cons (tR1_ok (by omega)) (tr_cons (tR2_ok (by omega)) (tr_cons (yRn_ok (by rw [yN_eq]; omega) (by rw [yN_eq]; omega)) (tr_cons (yRn_ok (by rw [yN_eq]; omega) (by rw [yN_eq]; omega)) (tr_cons (yRn_ok (by rw [yN_eq]; omega) (by rw [yN_eq]; omega)) (tr_cons (yOk_ok hG (by have := yN_eq k 3; omega)) (tr_cons (tOd_ok hd (by omega)) (tr_cons (yOk_ok hG (by have := yN_eq k 3; omega)) (tOd_ok hd (by omega))))))))))) f7_31 (by omega) hG rfl (byR (by omega))
end Go.Proofs.Ytnknopebjdgdjaa
namespace Go.Proofs.Ytnknopebjdgdjaa
open Go Go.Ly Go.RowKit
set_option linter.unusedSectionVars false
set_option maxRecDepth 100000
variable (s : Sv) (n k l : Nat) (f fa fb fc fd : Nat → Int) (op d sr x : Int)
include s n k l f fa fb fc fd op d sr x
theorem e7_2ENN : E7 31 38 [1, 0, 1, 45, 7, 7, 7, 6, 63, 57] (A7 s (sl 0 0) nilS nilS op d sr x) (X7 f 0 fa fb k fc fd l) = O7 31 (y1 op d sr x 2 ++ [] ++ y2 op d sr ++ [tOk (GA (yl s op d sr x 2) 4) 4, tOk (GA (yl s op d sr x 2) 4) 4]) s (sl 0 0) nilS nilS (.slice (some ⟨26, 0, none⟩) 0 0) (GA (yl s op d sr x 2) 4) 4 (fun _ => 0) := by kernel_rfl
theorem e7_2ENS : E7 31 38 [1, 0, 1, 21, 23, 7, 7, 7, 6, 63, 1, 55, 1] (A7 s (sl 0 0) nilS (sls 2 l) op d sr x) (X7 f 0 fa fb k fc fd l) = O7 31 (y1 op d sr x 2 ++ [tLd l] ++ y2 op d sr ++ [tOk (GA (yl s op d sr x 2) 4) 4, tOd fc fd l, tOk (GA (yl s op d sr x 2) 4) 4, tOd fc fd l]) s (sl 0 0) nilS (sls 2 l) (.slice (some ⟨26, 0, none⟩) 0 0) (GA (yl s op d sr x 2) 4) 4 (gs (gm (GD fc fd) l)) := by kernel_rfl
theorem e7_2EEN : E7 31 38 [1, 0, 1, 45, 7, 7, 7, 6, 63, 57] (A7 s (sl 0 0) (sls 1 0) nilS op d sr x) (X7 f 0 fa fb 0 fc fd l) = O7 31 (y1 op d sr x 2 ++ [] ++ y2 op d sr ++ [tOk (GA (yl s op d sr x 2) 4) 4, tOk (GA (yl s op d sr x 2) 4) 4]) s (sl 0 0) (sls 1 0) nilS (.slice (some ⟨26, 0, none⟩) 0 0) (GA (yl s op d sr x 2) 4) 4 (fun _ => 0) := by kernel_rfl
theorem e7_2EES : E7 31 38 [1, 0, 1, 21, 23, 7, 7, 7, 6, 63, 1, 55, 1] (A7 s (sl 0 0) (sls 1 0) (sls 2 l) op d sr x) (X7 f 0 fa fb 0 fc fd l) = O7 31 (y1 op d sr x 2 ++ [tLd l] ++ y2 op d sr ++ [tOk (GA (yl s op d sr x 2) 4) 4, tOd fc fd l, tOk (GA (yl s op d sr x 2) 4) 4, tOd fc fd l]) s (sl 0 0) (sls 1 0) (sls 2 l) (.slice (some ⟨26, 0, none⟩) 0 0) (GA (yl s op d sr x 2) 4) 4 (gs (gm (GD fc fd) l)) := by kernel_rfl
theorem e7_2ERN : E7 32 39 [1, 0, 1, 11, 33, 7, 7, 7, 6, 11, 11, 9, 9, 9, 7, 57] (A7 s (sl 0 0) (sls 1 (k + 1)) nilS op d sr x) (X7 f 0 fa fb (k + 1) fc fd l) = O7 32 (y1 op d sr x 2 ++ [tLc k] ++ y2 op d sr ++ [tR1 k, tR2 k, yRn (yN k 1), yRn (yN k 2), yRn (yN k 3), yOk (yGR fa fb k (yP s op d sr x 2) 4) (yN k 3), yOk (yGR fa fb k (yP s op d sr x 2) 4) (yN k 3)]) s (sl 0 0) (sls 1 (k + 1)) nilS (.slice (some ⟨27, 0, none⟩) 0 0) (yGR fa fb k (yP s op d sr x 2) 4) (yN k 4) (fun _ => 0) := by kernel_rfl
theorem e7_2ERS : E7 32 39 [1, 0, 1, 11, 9, 23, 7, 7, 7, 6, 11, 11, 9, 9, 9, 7, 1, 55, 1] (A7 s (sl 0 0) (sls 1 (k + 1)) (sls 2 l) op d sr x) (X7 f 0 fa fb (k + 1) fc fd l) = O7 32 (y1 op d sr x 2 ++ [tLc k, tLd l] ++ y2 op d sr ++ [tR1 k, tR2 k, yRn (yN k 1), yRn (yN k 2), yRn (yN k 3), yOk (yGR fa fb k (yP s op d sr x 2) 4) (yN k 3), tOd fc fd l, yOk (yGR fa fb k (yP s op d sr x 2) 4) (yN k 3), tOd fc fd l]) s (sl 0 0) (sls 1 (k + 1)) (sls 2 l) (.slice (some ⟨27, 0, none⟩) 0 0) (yGR fa fb k (yP s op d sr x 2) 4) (yN k 4) (gs (gm (GD fc fd) l)) := by kernel_rfl
end Go.Proofs.Ytnknopebjdgdjaa
namespace Go.Proofs.Ytnknopebjdgdjaa
open Go Go.Ly Go.RowKit
set_option linter.unusedSectionVars false
variable (s : Sv) (n k l : Nat) (f fa fb fc fd : Nat → Int) (op d sr x : Int)
include s n k l f fa fb fc fd op d sr x
theorem g7_2ENN (K : K7 s op d sr x 2) : LCalls Try.prog 7 (A7 s (sl 0 0) nilS nilS op d sr x) (mkH (X7 f 0 fa fb k fc fd l)) (fun u _ => u = .bool true) := by
  have hG : Gok 4 (GA (yl s op d sr x 2) 4) := gokA2 K.hB
  exact g7of (e7_2ENN s n k l f fa fb fc fd op d sr x) K (tk7 K (by omega) trivial (tr_cons (tOk_ok hG (by omega)) (tOk_ok hG (by omega)))) f7_31 (by omega) hG rfl (byA2)
theorem g7_2ENS (hLd : l ≤ 300) (hd : ∀ e, e < l → B16 (fc e) ∧ B8 (fd e)) (K : K7 s op d sr x 2) : LCalls Try.prog 7 (A7 s (sl 0 0) nilS (sls 2 l) op d sr x) (mkH (X7 f 0 fa fb k fc fd l)) (fun u _ => u = .bool true) := by
  have hG : Gok 4 (GA (yl s op d sr x 2) 4) := gokA2 K.hB
  exact g7of (e7_2ENS s n k l f fa fb fc fd op d sr x) K (tk7 K (by omega) (tLd_ok hLd) (tr_cons (tOk_ok hG (by omega)) (tr_cons (tOd_ok hd (by omega)) (tr_cons (tOk_ok hG (by omega)) (tOd_ok hd (by omega)))))) f7_31 (by omega) hG rfl (byA2)
theorem g7_2EEN (K : K7 s op d sr x 2) : LCalls Try.prog 7 (A7 s (sl 0 0) (sls 1 0) nilS op d sr x) (mkH (X7 f 0 fa fb 0 fc fd l)) (fun u _ => u = .bool true) := by
  have hG : Gok 4 (GA (yl s op d sr x 2) 4) := gokA2 K.hB
  exact g7of (e7_2EEN s n k l f fa fb fc fd op d sr x) K (tk7 K (by omega) trivial (tr_cons (tOk_ok hG (by omega)) (tOk_ok hG (by omega)))) f7_31 (by omega) hG rfl (byA2)
theorem g7_2EES (hLd : l ≤ 300) (hd : ∀ e, e < l → B16 (fc e) ∧ B8 (fd e)) (K : K7 s op d sr x 2) : LCalls Try.prog 7 (A7 s (sl 0 0) (sls 1 0) (sls 2 l) op d sr x) (mkH (X7 f 0 fa fb 0 fc fd l)) (fun u _ => u = .bool true) := by
  have hG : Gok 4 (GA (yl s op d sr x 2) 4) := gokA2 K.hB
  exact g7of (e7_2EES s n k l f fa fb fc fd op d sr x) K (tk7 K (by omega) (tLd_ok hLd) (tr_cons (tOk_ok hG (by omega)) (tr_cons (tOd_ok hd (by omega)) (tr_cons (tOk_ok hG (by omega)) (tOd_ok hd (by omega)))))) f7_31 (by omega) hG rfl (byA2)
theorem g7_2ERN (hLc : k + 1 ≤ 600) (hc : ∀ e, e < k + 1 → B16 (fa e) ∧ B8 (fb e)) (K : K7 s op d sr x 2) : LCalls Try.prog 7 (A7 s (sl 0 0) (sls 1 (k + 1)) nilS op d sr x) (mkH (X7 f 0 fa fb (k + 1) fc fd l)) (fun u _ => u = .bool true) := by
  have hG : Gok (yN k 4) (yGR fa fb k (yP s op d sr x 2) 4) := gokR (B := yB op d sr x 2) _ (fun t => rfl) K.hB hc 4
  exact g7of (e7_2ERN s n k l f fa fb fc fd op d sr x) K (tk7 K (by omega) (tLc_ok hLc) (tr_cons (tR1_ok (by omega)) (tr_cons (tR2_ok (by omega)) (tr_cons (yRn_ok (by rw [yN_eq]; omega) (by rw [yN_eq]; omega)) (tr_cons (yRn_ok (by rw [yN_eq]; omega) (by rw [yN_eq]; omega)) (tr_cons (yRn_ok (by rw [yN_eq]; omega) (by rw [yN_eq]; omega)) (tr_cons (yOk_ok hG (by have := yN_eq k 3; omega)) (yOk_ok hG (by have := yN_eq k 3; omega))))))))) f7_32 (by omega) hG rfl (byR (by omega))
theorem g7_2ERS (hLc : k + 1 ≤ 600) (hc : ∀ e, e < k + 1 → B16 (fa e) ∧ B8 (fb e)) (hLd : l ≤ 300) (hd : ∀ e, e < l → B16 (fc e) ∧ B8 (fd e)) (K : K7 s op d sr x 2) : LCalls Try.prog 7 (A7 s (sl 0 0) (sls 1 (k + 1)) (sls 2 l) op d sr x) (mkH (X7 f 0 fa fb (k + 1) fc fd l)) (fun u _ => u = .bool true) := by
  have hG : Gok (yN k 4) (yGR fa fb k (yP s op d sr x 2) 4) := gokR (B := yB op d sr x 2) _ (fun t => rfl) K.hB hc 4
  exact g7of (e7_2ERS s n k l f fa fb fc fd op d sr x) K (tk7 K (by omega) (tr_cons (tLc_ok hLc) (tLd_ok hLd)) (tr_cons (tR1_ok (by omega)) (tr_cons (tR2_ok (by omega)) (tr_cons (yRn_ok (by rw [yN_eq]; omega) (by rw [yN_eq]; omega)) (tr_cons (yRn_ok (by rw [yN_eq]; omega) (by rw [yN_eq]; omega)) (tr_cons (yRn_ok (by rw [yN_eq]; omega) (by rw [yN_eq]; omega)) (tr_cons (yOk_ok hG (by have := yN_eq k 3; omega)) (tr_cons (tOd_ok hd (by omega)) (tr_cons (yOk_ok hG (by have := yN_eq k 3; omega)) (tOd_ok hd (by omega))))))))))) f7_32 (by omega) hG rfl (byR (by omega))
end Go.Proofs.Ytnknopebjdgdjaa
namespace Go.Proofs.Ytnknopebjdgdjaa
open Go Go.Ly Go.RowKit
set_option linter.unusedSectionVars false
set_option maxRecDepth 100000
variable (s : Sv) (n k l : Nat) (f fa fb fc fd : Nat → Int) (op d sr x : Int)
include s n k l f fa fb fc fd op d sr x
theorem e7_2RNN : E7 32 39 [1, 0, 1, 1, 29, 13, 7, 7, 7, 6, 63, 20, 3, 31] (A7 s (sl 0 (n + 1)) nilS nilS op d sr x) (X7 f (n + 1) fa fb k fc fd l) = O7 32 (y1 op d sr x 2 ++ [tLi n, tMe n] ++ y2 op d sr ++ [tOk (GA (yl s op d sr x 2) 4) 4, tMx n, tR1 n, tOk (GA (yl s op d sr x 2) 4) 4]) s (sl 0 (n + 1)) nilS nilS (inV 27 0 (0 + (n + 1))) (GA (yl s op d sr x 2) 4) 4 (fun _ => 0) := by kernel_rfl
theorem e7_2RNS : E7 32 39 [1, 0, 1, 1, 19, 9, 13, 7, 7, 7, 6, 63, 1, 18, 3, 31, 1] (A7 s (sl 0 (n + 1)) nilS (sls 2 l) op d sr x) (X7 f (n + 1) fa fb k fc fd l) = O7 32 (y1 op d sr x 2 ++ [tLi n, tLd l, tMe n] ++ y2 op d sr ++ [tOk (GA (yl s op d sr x 2) 4) 4, tOd fc fd l, tMx n, tR1 n, tOk (GA (yl s op d sr x 2) 4) 4, tOd fc fd l]) s (sl 0 (n + 1)) nilS (sls 2 l) (inV 27 0 (0 + (n + 1))) (GA (yl s op d sr x 2) 4) 4 (gs (gm (GD fc fd) l)) := by kernel_rfl
theorem e7_2REN : E7 32 39 [1, 0, 1, 1, 29, 13, 7, 7, 7, 6, 63, 20, 3, 31] (A7 s (sl 0 (n + 1)) (sls 1 0) nilS op d sr x) (X7 f (n + 1) fa fb 0 fc fd l) = O7 32 (y1 op d sr x 2 ++ [tLi n, tMe n] ++ y2 op d sr ++ [tOk (GA (yl s op d sr x 2) 4) 4, tMx n, tR1 n, tOk (GA (yl s op d sr x 2) 4) 4]) s (sl 0 (n + 1)) (sls 1 0) nilS (inV 27 0 (0 + (n + 1))) (GA (yl s op d sr x 2) 4) 4 (fun _ => 0) := by kernel_rfl
theorem e7_2RES : E7 32 39 [1, 0, 1, 1, 19, 9, 13, 7, 7, 7, 6, 63, 1, 18, 3, 31, 1] (A7 s (sl 0 (n + 1)) (sls 1 0) (sls 2 l) op d sr x) (X7 f (n + 1) fa fb 0 fc fd l) = O7 32 (y1 op d sr x 2 ++ [tLi n, tLd l, tMe n] ++ y2 op d sr ++ [tOk (GA (yl s op d sr x 2) 4) 4, tOd fc fd l, tMx n, tR1 n, tOk (GA (yl s op d sr x 2) 4) 4, tOd fc fd l]) s (sl 0 (n + 1)) (sls 1 0) (sls 2 l) (inV 27 0 (0 + (n + 1))) (GA (yl s op d sr x 2) 4) 4 (gs (gm (GD fc fd) l)) := by kernel_rfl
theorem e7_2RRN : E7 33 40 [1, 0, 1, 1, 9, 19, 13, 7, 7, 7, 6, 11, 11, 9, 9, 9, 7, 20, 3, 31] (A7 s (sl 0 (n + 1)) (sls 1 (k + 1)) nilS op d sr x) (X7 f (n + 1) fa fb (k + 1) fc fd l) = O7 33 (y1 op d sr x 2 ++ [tLi n, tLc k, tMe n] ++ y2 op d sr ++ [tR1 k, tR2 k, yRn (yN k 1), yRn (yN k 2), yRn (yN k 3), yOk (yGR fa fb k (yP s op d sr x 2) 4) (yN k 3), tMx n, tR1 n, yOk (yGR fa fb k (yP s op d sr x 2) 4) (yN k 3)]) s (sl 0 (n + 1)) (sls 1 (k + 1)) nilS (inV 28 0 (0 + (n + 1))) (yGR fa fb k (yP s op d sr x 2) 4) (yN k 4) (fun _ => 0) := by kernel_rfl
theorem e7_2RRS : E7 33 40 [1, 0, 1, 1, 9, 9, 9, 13, 7, 7, 7, 6, 11, 11, 9, 9, 9, 7, 1, 18, 3, 31, 1] (A7 s (sl 0 (n + 1)) (sls 1 (k + 1)) (sls 2 l) op d sr x) (X7 f (n + 1) fa fb (k + 1) fc fd l) = O7 33 (y1 op d sr x 2 ++ [tLi n, tLc k, tLd l, tMe n] ++ y2 op d sr ++ [tR1 k, tR2 k, yRn (yN k 1), yRn (yN k 2), yRn (yN k 3), yOk (yGR fa fb k (yP s op d sr x 2) 4) (yN k 3), tOd fc fd l, tMx n, tR1 n, yOk (yGR fa fb k (yP s op d sr x 2) 4) (yN k 3), tOd fc fd l]) s (sl 0 (n + 1)) (sls 1 (k + 1)) (sls 2 l) (inV 28 0 (0 + (n + 1))) (yGR fa fb k (yP s op d sr x 2) 4) (yN k 4) (gs (gm (GD fc fd) l)) := by kernel_rfl
end Go.Proofs.Ytnknopebjdgdjaa
namespace Go.Proofs.Ytnknopebjdgdjaa
open Go Go.Ly Go.RowKit
set_option linter.unusedSectionVars false
variable (s : Sv) (n k l : Nat) (f fa fb fc fd : Nat → Int) (op d sr x : Int)
include s n k l f fa fb fc fd op d sr x
theorem g7_2RNN (hLi : n + 1 ≤ 256) (K : K7 s op d sr x 2) : LCalls Try.prog 7 (A7 s (sl 0 (n + 1)) nilS nilS op d sr x) (mkH (X7 f (n + 1) fa fb k fc fd l)) (fun u _ => u = .bool true) := by
  have hG : Gok 4 (GA (yl s op d sr x 2) 4) := gokA2 K.hB
  exact g7of (e7_2RNN s n k l f fa fb fc fd op d sr x) K (tk7 K (by omega) (tr_cons (tLi_ok hLi) (tMe_ok hLi)) (tr_cons (tOk_ok hG (by omega)) (tr_cons (tMx_ok hLi) (tr_cons (tR1_ok (by omega)) (tOk_ok hG (by omega)))))) f7_32 (by omega) hG rfl (byA2)
theorem g7_2RNS (hLi : n + 1 ≤ 256) (hLd : l ≤ 300) (hd : ∀ e, e < l → B16 (fc e) ∧ B8 (fd e)) (K : K7 s op d sr x 2) : LCalls Try.prog 7 (A7 s (sl 0 (n + 1)) nilS (sls 2 l) op d sr x) (mkH (X7 f (n + 1) fa fb k fc fd l)) (fun u _ => u = .bool true) := by
  have hG : Gok 4 (GA (yl s op d sr x 2) 4) := gokA2 K.hB
  exact g7of (e7_2RNS s n k l f fa fb fc fd op d sr x) K (tk7 K (by omega) (tr_cons (tLi_ok hLi) (tr_cons (tLd_ok hLd) (tMe_ok hLi))) (tr_cons (tOk_ok hG (by omega)) (tr_cons (tOd_ok hd (by omega)) (tr_cons (tMx_ok hLi) (tr_cons (tR1_ok (by omega)) (tr_cons (tOk_ok hG (by omega)) (tOd_ok hd (by omega)))))))) f7_32 (by omega) hG rfl (byA2)
theorem g7_2REN (hLi : n + 1 ≤ 256) (K : K7 s op d sr x 2) : LCalls Try.prog 7 (A7 s (sl 0 (n + 1)) (sls 1 0) nilS op d sr x) (mkH (X7 f (n + 1) fa fb 0 fc fd l)) (fun u _ => u = .bool true) := by
  have hG : Gok 4 (GA (yl s op d sr x 2) 4) := gokA2 K.hB
  exact g7of (e7_2REN s n k l f fa fb fc fd op d sr x) K (tk7 K (by omega) (tr_cons (tLi_ok hLi) (tMe_ok hLi)) (tr_cons (tOk_ok hG (by omega)) (tr_cons (tMx_ok hLi) (tr_cons (tR1_ok (by omega)) (tOk_ok hG (by omega)))))) f7_32 (by omega) hG rfl (byA2)
theorem g7_2RES (hLi : n + 1 ≤ 256) (hLd : l ≤ 300) (hd : ∀ e, e < l → B16 (fc e) ∧ B8 (fd e)) (K : K7 s op d sr x 2) : LCalls Try.prog 7 (A7 s (sl 0 (n + 1)) (sls 1 0) (sls 2 l) op d sr x) (mkH (X7 f (n + 1) fa fb 0 fc fd l)) (fun u _ => u = .bool true) := by
  have hG : Gok 4 (GA (yl s op d sr x 2) 4) := gokA2 K.hB
  exact g7of (e7_2RES s n k l f fa fb fc fd op d sr x) K (tk7 K (by omega) (tr_cons (tLi_ok hLi) (tr_cons (tLd_ok hLd) (tMe_ok hLi))) (tr_cons (tOk_ok hG (by omega)) (tr_cons (tOd_ok hd (by omega)) (tr_cons (tMx_ok hLi) (tr_cons (tR1_ok (by omega)) (tr_cons (tOk_ok hG (by omega)) (tOd_ok hd (by omega)))))))) f7_32 (by omega) hG rfl (byA2)
theorem g7_2RRN (hLi : n + 1 ≤ 256) (hLc : k + 1 ≤ 600) (hc : ∀ e, e < k + 1 → B16 (fa e) ∧ B8 (fb e)) (K : K7 s op d sr x 2) : LCalls Try.prog 7 (A7 s (sl 0 (n + 1)) (sls 1 (k + 1)) nilS op d sr x) (mkH (X7 f (n + 1) fa fb (k + 1) fc fd l)) (fun u _ => u = .bool true) := by
  have hG : Gok (yN k 4) (yGR fa fb k (yP s op d sr x 2) 4) := gokR (B := yB op d sr x 2) _ (fun t => rfl) K.hB hc 4
  exact g7of (e7_2RRN s n k l f fa fb fc fd op d sr x) K (tk7 K (by omega) (tr_cons (tLi_ok hLi) (tr_cons (tLc_ok hLc) (tMe_ok hLi))) (tr_cons (tR1_ok (by omega)) (tr_cons (tR2_ok (by omega)) (tr_cons (yRn_ok (by rw [yN_eq]; omega) (by rw [yN_eq]; omega)) (tr_cons (yRn_ok (by rw [yN_eq]; omega) (by rw [yN_eq]; omega)) (tr_cons (yRn_ok (by rw [yN_eq]; omega) (by rw [yN_eq]; omega)) (tr_cons (yOk_ok hG (by have := yN_eq k 3; omega)) (tr_cons (tMx_ok hLi) (tr_cons (tR1_ok (by omega)) (yOk_ok hG (by have := yN_eq k 3; omega))))))))))) f7_33 (by omega) hG rfl (byR (by omega))
theorem g7_2RRS (hLi : n + 1 ≤ 256) (hLc : k + 1 ≤ 600) (hc : ∀ e, e < k + 1 → B16 (fa e) ∧ B8 (fb e)) (hLd : l ≤ 300) (hd : ∀ e, e < l → B16 (fc e) ∧ B8 (fd e)) (K : K7 s op d sr x 2) : LCalls Try.prog 7 (A7 s (sl 0 (n + 1)) (sls 1 (k + 1)) (sls 2 l) op d sr x) (mkH (X7 f (n + 1) fa fb (k + 1) fc fd l)) (fun u _ => u = .bool true) := by
  have hG : Gok (yN k 4) (yGR fa fb k (yP s op d sr x 2) 4) := gokR (B := yB op d sr x 2) _ (fun t => rfl) K.hB hc 4
  exact g7of (e7_2RRS s n k l f fa fb fc fd op d sr x) K (tk7 K (by omega) (tr_cons (tLi_ok hLi) (tr_cons (tLc_ok hLc) (tr_cons (tLd_ok hLd) (tMe_ok hLi)))) (tr_cons (tR1_ok (by omega)) (tr_cons (tR2_ok (by omega)) (tr_cons (yRn_ok (by rw [yN_eq]; omega) (by rw [yN_eq]; omega)) (tr_cons (yRn_ok (by rw [yN_eq]; omega) (by rw [yN_eq]; omega)) (tr_cons (yRn_ok (by rw [yN_eq]; omega) (by rw [yN_eq]; omega)) (tr_cons (yOk_ok hG (by have := yN_eq k 3; omega)) (tr_cons (tOd_ok hd (by omega)) (tr_cons (tMx_ok hLi) (tr_cons (tR1_ok (by omega)) (tr_cons (yOk_ok hG (by have := yN_eq k 3; omega)) (tOd_ok hd (by omega))))))))))))) f7_33 (by omega) hG rfl (byR (by omega))
end Go.Proofs.Ytnknopebjdgdjaa
namespace Go.Proofs.Ytnknopebjdgdjaa
open Go Go.Ly Go.RowKit
set_option linter.unusedSectionVars false
set_option maxRecDepth 100000
variable (s : Sv) (n k l : Nat) (f fa fb fc fd : Nat → Int) (op d sr x : Int)
include s n k l f fa fb fc fd op d sr x
theorem e7_3NNN : E7 32 39 [1, 0, 0, 1, 45, 7, 7, 7, 6, 73, 51] (A7 s nilS nilS nilS op d sr x) (X7 f n fa fb k fc fd l) = O7 32 (y1 op d sr x 3 ++ [] ++ y2 op d sr ++ [tOk (GA (yl s op d sr x 3) 5) 5, tOk (GA (yl s op d sr x 3) 5) 5]) s nilS nilS nilS (.slice none 0 0) (GA (yl s op d sr x 3) 5) 5 (fun _ => 0) := by kernel_rfl
theorem e7_3NNS : E7 32 39 [1, 0, 0, 1, 21, 23, 7, 7, 7, 6, 73, 1, 49, 1] (A7 s nilS nilS (sls 2 l) op d sr x) (X7 f n fa fb k fc fd l) = O7 32 (y1 op d sr x 3 ++ [tLd l] ++ y2 op d sr ++ [tOk (GA (yl s op d sr x 3) 5) 5, tOd fc fd l, tOk (GA (yl s op d sr x 3) 5) 5, tOd fc fd l]) s nilS nilS (sls 2 l) (.slice none 0 0) (GA (yl s op d sr x 3) 5) 5 (gs (gm (GD fc fd) l)) := by kernel_rfl
theorem e7_3NEN : E7 32 39 [1, 0, 0, 1, 45, 7, 7, 7, 6, 73, 51] (A7 s nilS (sls 1 0) nilS op d sr x) (X7 f n fa fb 0 fc fd l) = O7 32 (y1 op d sr x 3 ++ [] ++ y2 op d sr ++ [tOk (GA (yl s op d sr x 3) 5) 5, tOk (GA (yl s op d sr x 3) 5) 5]) s nilS (sls 1 0) nilS (.slice none 0 0) (GA (yl s op d sr x 3) 5) 5 (fun _ => 0) := by kernel_rfl
theorem e7_3NES : E7 32 39 [1, 0, 0, 1, 21, 23, 7, 7, 7, 6, 73, 1, 49, 1] (A7 s nilS (sls 1 0) (sls 2 l) op d sr x) (X7 f n fa fb 0 fc fd l) = O7 32 (y1 op d sr x 3 ++ [tLd l] ++ y2 op d sr ++ [tOk (GA (yl s op d sr x 3) 5) 5, tOd fc fd l, tOk (GA (yl s op d sr x 3) 5) 5, tOd fc fd l]) s nilS (sls 1 0) (sls 2 l) (.slice none 0 0) (GA (yl s op d sr x 3) 5) 5 (gs (gm (GD fc fd) l)) := by kernel_rfl
theorem e7_3NRN : E7 33 40 [1, 0, 0, 1, 11, 33, 7, 7, 7, 6, 11, 11, 9, 9, 9, 9, 7, 51] (A7 s nilS (sls 1 (k + 1)) nilS op d sr x) (X7 f n fa fb (k + 1) fc fd l) = O7 33 (y1 op d sr x 3 ++ [tLc k] ++ y2 op d sr ++ [tR1 k, tR2 k, yRn (yN k 1), yRn (yN k 2), yRn (yN k 3), yRn (yN k 4), yOk (yGR fa fb k (yP s op d sr x 3) 5) (yN k 4), yOk (yGR fa fb k (yP s op d sr x 3) 5) (yN k 4)]) s nilS (sls 1 (k + 1)) nilS (.slice none 0 0) (yGR fa fb k (yP s op d sr x 3) 5) (yN k 5) (fun _ => 0) := by kernel_rfl
theorem e7_3NRS : E7 33 40 [1, 0, 0, 1, 11, 9, 23, 7, 7, 7, 6, 11, 11, 9, 9, 9, 9, 7, 1, 49, 1] (A7 s nilS (sls 1 (k + 1)) (sls 2 l) op d sr x) (X7 f n fa fb (k + 1) fc fd l) = O7 33 (y1 op d sr x 3 ++ [tLc k, tLd l] ++ y2 op d sr ++ [tR1 k, tR2 k, yRn (yN k 1), yRn (yN k 2), yRn (yN k 3), yRn (yN k 4), yOk (yGR fa fb k (yP s op d sr x 3) 5) (yN k 4), tOd fc fd l, yOk (yGR fa fb k (yP s op d sr x 3) 5) (yN k 4), tOd fc fd l]) s nilS (sls 1 (k + 1)) (sls 2 l) (.slice none 0 0) (yGR fa fb k (yP s op d sr x 3) 5) (yN k 5) (gs (gm (GD fc fd) l)) := by kernel_rfl
end Go.Proofs.Ytnknopebjdgdjaa
namespace Go.Proofs.Ytnknopebjdgdjaa
open Go Go.Ly Go.RowKit
set_option linter.unusedSectionVars false
variable (s : Sv) (n k l : Nat) (f fa fb fc fd : Nat → Int) (op d sr x : Int)
include s n k l f fa fb fc fd op d sr x
theorem g7_3NNN (K : K7 s op d sr x 3) : LCalls Try.prog 7 (A7 s nilS nilS nilS op d sr x) (mkH (X7 f n fa fb k fc fd l)) (fun u _ => u = .bool true) := by
  have hG : Gok 5 (GA (yl s op d sr x 3) 5) := gokA3 K.hB
  exact g7of (e7_3NNN s n k l f fa fb fc fd op d sr x) K (tk7 K (by omega) trivial (tr_cons (tOk_ok hG (by omega)) (tOk_ok hG (by omega)))) f7_32 (by omega) hG rfl (byA3)
theorem g7_3NNS (hLd : l ≤ 300) (hd : ∀ e, e < l → B16 (fc e) ∧ B8 (fd e)) (K : K7 s op d sr x 3) : LCalls Try.prog 7 (A7 s nilS nilS (sls 2 l) op d sr x) (mkH (X7 f n fa fb k fc fd l)) (fun u _ => u = .bool true) := by
  have hG : Gok 5 (GA (yl s op d sr x 3) 5) := gokA3 K.hB
  exact g7of (e7_3NNS s n k l f fa fb fc fd op d sr x) K (tk7 K (by omega) (tLd_ok hLd) (tr_cons (tOk_ok hG (by omega)) (tr_cons (tOd_ok hd (by omega)) (tr_cons (tOk_ok hG (by omega)) (tOd_ok hd (by omega)))))) f7_32 (by omega) hG rfl (byA3)
theorem g7_3NEN (K : K7 s op d sr x 3) : LCalls Try.prog 7 (A7 s nilS (sls 1 0) nilS op d sr x) (mkH (X7 f n fa fb 0 fc fd l)) (fun u _ => u = .bool true) := by
  have hG : Gok 5 (GA (yl s op d sr x 3) 5) := gokA3 K.hB
  exact g7of (e7_3NEN s n k l f fa fb fc fd op d sr x) K (tk7 K (by omega) trivial (tr_cons (tOk_ok hG (by omega)) (tOk_ok hG (by omega)))) f7_32 (by omega) hG rfl (byA3)
theorem g7_3NES (hLd : l ≤ 300) (hd : ∀ e, e < l → B16 (fc e) ∧ B8 (fd e)) (K : K7 s op d sr x 3) : LCalls Try.prog 7 (A7 s nilS (sls 1 0) (sls 2 l) op d sr x) (mkH (X7 f n fa fb 0 fc fd l)) (fun u _ => u = .bool true) := by
  have hG : Gok 5 (GA (yl s op d sr x 3) 5) := gokA3 K.hB
  exact g7of (e7_3NES s n k l f fa fb fc fd op d sr x) K (tk7 K (by omega) (tLd_ok hLd) (tr_cons (tOk_ok hG (by omega)) (tr_cons (tOd_ok hd (by omega)) (tr_cons (tOk_ok hG (by omega)) (tOd_ok hd (by omega)))))) f7_32 (by omega) hG rfl (byA3)
theorem g7_3NRN (hLc : k + 1 ≤ 600) (hc : ∀ e, e < k + 1 → B16 (fa e) ∧ B8 (fb e)) (K : K7 s op d sr x 3) : LCalls Try.prog 7 (A7 s nilS (sls 1 (k + 1)) nilS op d sr x) (mkH (X7 f n fa fb (k + 1) fc fd l)) (fun u _ => u = .bool true) := by
  have hG : Gok (yN k 5) (yGR fa fb k (yP s op d sr x 3) 5) := gokR (B := yB op d sr x 3) _ (fun t => rfl) K.hB hc 5
  exact g7of (e7_3NRN s n k l f fa fb fc fd op d sr x) K (tk7 K (by omega) (tLc_ok hLc) (tr_cons (tR1_ok (by omega)) (tr_cons (tR2_ok (by omega)) (tr_cons (yRn_ok (by rw [yN_eq]; omega) (by rw [yN_eq]; omega)) (tr_cons (yRn_ok (by rw [yN_eq]; omega) (by rw [yN_eq]; omega)) (tr_cons (yRn_ok (by rw [yN_eq]; omega) (by rw [yN_eq]; omega)) (tr_cons (yRn_ok (by rw [yN_eq]; omega) (by rw [yN_eq]; omega)) (tr_cons (yOk_ok hG (by have := yN_eq k 4; omega)) (yOk_ok hG (by have := yN_eq k 4; omega)))))))))) f7_33 (by omega) hG rfl (byR (by omega))
theorem g7_3NRS (hLc : k + 1 ≤ 600) (hc : ∀ e, e < k + 1 → B16 (fa e) ∧ B8 (fb e)) (hLd : l ≤ 300) (hd : ∀ e, e < l → B16 (fc e) ∧ B8 (fd e)) (K : K7 s op d sr x 3) : LCalls Try.prog 7 (A7 s nilS (sls 1 (k + 1)) (sls 2 l) op d sr x) (mkH (X7 f n fa fb (k + 1) fc fd l)) (fun u _ => u = .bool true) := by
  have hG : Gok (yN k 5) (yGR fa fb k (yP s op d sr x 3) 5) := gokR (B := yB op d sr x 3) _ (fun t => rfl) K.hB hc 5
  exact g7of (e7_3NRS s n k l f fa fb fc fd op d sr x) K (tk7 K (by omega) (tr_cons (tLc_ok hLc) (tLd_ok hLd)) (tr_cons (tR1_ok (by omega)) (tr_cons (tR2_ok (by omega)) (tr_cons (yRn_ok (by rw [yN_eq]; omega) (by rw [yN_eq]; omega)) (tr_cons (yRn_ok (by rw [yN_eq]; omega) (by rw [yN_eq]; omega)) (tr_cons (yRn_ok (by rw [yN_eq]; omega) (by rw [yN_eq]; omega)) (tr_cons (yRn_ok (by rw [yN_eq]; omega) (by rw [yN_eq]; omega)) (tr_cons (yOk_ok hG (by have := yN_eq k 4; omega)) (tr_cons (tOd_ok hd (by omega)) (tr_cons (yOk_ok hG (by have := yN_eq k 4; omega)) (tOd_ok hd (by omega)))))))))))) f7_33 (by omega) hG rfl (byR (by omega))
end Go.Proofs.Ytnknopebjdgdjaa
namespace Go.Proofs.Ytnknopebjdgdjaa
open Go Go.Ly Go.RowKit
set_option linter.unusedSectionVars false
set_option maxRecDepth 100000
variable (s : Sv) (n k l : Nat) (f fa fb fc fd : Nat → Int) (op d sr x : Int)
include s n k l f fa fb fc fd op d sr x
theorem e7_3ENN : E7 33 40 [1, 0, 0, 1, 45, 7, 7, 7, 6, 73, 57] (A7 s (sl 0 0) nilS nilS op d sr x) (X7 f 0 fa fb k fc fd l) = O7 33 (y1 op d sr x 3 ++ [] ++ y2 op d sr ++ [tOk (GA (yl s op d sr x 3) 5) 5, tOk (GA (yl s op d sr x 3) 5) 5]) s (sl 0 0) nilS nilS (.slice (some ⟨28, 0, none⟩) 0 0) (GA (yl s op d sr x 3) 5) 5 (fun _ => 0) := by kernel_rfl
theorem e7_3ENS : E7 33 40 [1, 0, 0, 1, 21, 23, 7, 7, 7, 6, 73, 1, 55, 1] (A7 s (sl 0 0) nilS (sls 2 l) op d sr x) (X7 f 0 fa fb k fc fd l) = O7 33 (y1 op d sr x 3 ++ [tLd l] ++ y2 op d sr ++ [tOk (GA (yl s op d sr x 3) 5) 5, tOd fc fd l, tOk (GA (yl s op d sr x 3) 5) 5, tOd fc fd l]) s (sl 0 0) nilS (sls 2 l) (.slice (some ⟨28, 0, none⟩) 0 0) (GA (yl s op d sr x 3) 5) 5 (gs (gm (GD fc fd) l)) := by kernel_rfl
theorem e7_3EEN : E7 33 40 [1, 0, 0, 1, 45, 7, 7, 7, 6, 73, 57] (A7 s (sl 0 0) (sls 1 0) nilS op d sr x) (X7 f 0 fa fb 0 fc fd l) = O7 33 (y1 op d sr x 3 ++ [] ++ y2 op d sr ++ [tOk (GA (yl s op d sr x 3) 5) 5, tOk (GA (yl s op d sr x 3) 5) 5]) s (sl 0 0) (sls 1 0) nilS (.slice (some ⟨28, 0, none⟩) 0 0) (GA (yl s op d sr x 3) 5) 5 (fun _ => 0) := by kernel_rfl
theorem e7_3EES : E7 33 40 [1, 0, 0, 1, 21, 23, 7, 7, 7, 6, 73, 1, 55, 1] (A7 s (sl 0 0) (sls 1 0) (sls 2 l) op d sr x) (X7 f 0 fa fb 0 fc fd l) = O7 33 (y1 op d sr x 3 ++ [tLd l] ++ y2 op d sr ++ [tOk (GA (yl s op d sr x 3) 5) 5, tOd fc fd l, tOk (GA (yl s op d sr x 3) 5) 5, tOd fc fd l]) s (sl 0 0) (sls 1 0) (sls 2 l) (.slice (some ⟨28, 0, none⟩) 0 0) (GA (yl s op d sr x 3) 5) 5 (gs (gm (GD fc fd) l)) := by kernel_rfl
theorem e7_3ERN : E7 34 41 [1, 0, 0, 1, 11, 33, 7, 7, 7, 6, 11, 11, 9, 9, 9, 9, 7, 57] (A7 s (sl 0 0) (sls 1 (k + 1)) nilS op d sr x) (X7 f 0 fa fb (k + 1) fc fd l) = O7 34 (y1 op d sr x 3 ++ [tLc k] ++ y2 op d sr ++ [tR1 k, tR2 k, yRn (yN k 1), yRn (yN k 2), yRn (yN k 3), yRn (yN k 4), yOk (yGR fa fb k (yP s op d sr x 3) 5) (yN k 4), yOk (yGR fa fb k (yP s op d sr x 3) 5) (yN k 4)]) s (sl 0 0) (sls 1 (k + 1)) nilS (.slice (some ⟨29, 0, none⟩) 0 0) (yGR fa fb k (yP s op d sr x 3) 5) (yN k 5) (fun _ => 0) := by kernel_rfl
theorem e7_3ERS : E7 34 41 [1, 0, 0, 1, 11, 9, 23, 7, 7, 7, 6, 11, 11, 9, 9, 9, 9, 7, 1, 55, 1] (A7 s (sl 0 0) (sls 1 (k + 1)) (sls 2 l) op d sr x) (X7 f 0 fa fb (k + 1) fc fd l) = O7 34 (y1 op d sr x 3 ++ [tLc k, tLd l] ++ y2 op d sr ++ [tR1 k, tR2 k, yRn (yN k 1), yRn (yN k 2), yRn (yN k 3), yRn (yN k 4), yOk (yGR fa fb k (yP s op d sr x 3) 5) (yN k 4), tOd fc fd l, yOk (yGR fa fb k (yP s op d sr x 3) 5) (yN k 4), tOd fc fd l]) s (sl 0 0) (sls 1 (k + 1)) (sls 2 l) (.slice (some ⟨29, 0, none⟩) 0 0) (yGR fa fb k (yP s op d sr x 3) 5) (yN k 5) (gs (gm (GD fc fd) l)) := by kernel_rfl
end Go.Proofs.Ytnknopebjdgdjaa
namespace Go.Proofs.Ytnknopebjdgdjaa
open Go Go.Ly Go.RowKit
set_option linter.unusedSectionVars false
variable (s : Sv) (n k l : Nat) (f fa fb fc fd : Nat → Int) (op d sr x : Int)
include s n k l f fa fb fc fd op d sr x
theorem g7_3ENN (K : K7 s op d sr x 3) : LCalls Try.prog 7 (A7 s (sl 0 0) nilS nilS op d sr x) (mkH (X7 f 0 fa fb k fc fd l)) (fun u _ => u = .bool true) := by
  have hG : Gok 5 (GA (yl s op d sr x 3) 5) := gokA3 K.hB
  exact g7of (e7_3ENN s n k l f fa fb fc fd op d sr x) K (tk7 K (by omega) trivial (tr_cons (tOk_ok hG (by omega)) (tOk_ok hG (by omega)))) f7_33 (by omega) hG rfl (byA3)
theorem g7_3ENS (hLd : l ≤ 300) (hd : ∀ e, e < l → B16 (fc e) ∧ B8 (fd e)) (K : K7 s op d sr x 3) : LCalls Try.prog 7 (A7 s (sl 0 0) nilS (sls 2 l) op d sr x) (mkH (X7 f 0 fa fb k fc fd l)) (fun u _ => u = .bool true) := by
  have hG : Gok 5 (GA (yl s op d sr x 3) 5) := gokA3 K.hB
  exact g7of (e7_3ENS s n k l f fa fb fc fd op d sr x) K (tk7 K (by omega) (tLd_ok hLd) (tr_cons (tOk_ok hG (by omega)) (tr_cons (tOd_ok hd (by omega)) (tr_cons (tOk_ok hG (by omega)) (tOd_ok hd (by omega)))))) f7_33 (by omega) hG rfl (byA3)
theorem g7_3EEN (K : K7 s op d sr x 3) : LCalls Try.prog 7 (A7 s (sl 0 0) (sls 1 0) nilS op d sr x) (mkH (X7 f 0 fa fb 0 fc fd l)) (fun u _ => u = .bool true) := by
  have hG : Gok 5 (GA (yl s op d sr x 3) 5) := gokA3 K.hB
  exact g7of (e7_3EEN s n k l f fa fb fc fd op d sr x) K (tk7 K (by omega) trivial (tr_cons (tOk_ok hG (by omega)) (tOk_ok hG (by omega)))) f7_33 (by omega) hG rfl (byA3)
theorem g7_3EES (hLd : l ≤ 300) (hd : ∀ e, e < l → B16 (fc e) ∧ B8 (fd e)) (K : K7 s op d sr x 3) : LCalls Try.prog 7 (A7 s (sl 0 0) (sls 1 0) (sls 2 l) op d sr x) (mkH (X7 f 0 fa fb 0 fc fd l)) (fun u _ => u = .bool true) := by
  have hG : Gok 5 (GA (yl s op d sr x 3) 5) := gokA3 K.hB
  exact g7of (e7_3EES s n k l f fa fb fc fd op d sr x) K (tk7 K (by omega) (tLd_ok hLd) (tr_cons (tOk_ok hG (by omega)) (tr_cons (tOd_ok hd (by omega)) (tr_cons (tOk_ok hG (by omega)) (tOd_ok hd (by omega)))))) f7_33 (by omega) hG rfl (byA3)
theorem g7_3ERN (hLc : k + 1 ≤ 600) (hc : ∀ e, e < k + 1 → B16 (fa e) ∧ B8 (fb e)) (K : K7 s op d sr x 3) : LCalls Try.prog 7 (A7 s (sl 0 0) (sls 1 (k + 1)) nilS op d sr x) (mkH (X7 f 0 fa fb (k + 1) fc fd l)) (fun u _ => u = .bool true) := by
  have hG : Gok (yN k 5) (yGR fa fb k (yP s op d sr x 3) 5) := gokR (B := yB op d sr x 3) _ (fun t => rfl) K.hB hc 5
  exact g7of (e7_3ERN s n k l f fa fb fc fd op d sr x) K (tk7 K (by omega) (tLc_ok hLc) (tr_cons (tR1_ok (by omega)) (tr_cons (tR2_ok (by omega)) (tr_cons (yRn_ok (by rw [yN_eq]; omega) (by rw [yN_eq]; omega)) (tr_cons (yRn_ok (by rw [yN_eq]; omega) (by rw [yN_eq]; omega)) (tr_cons (yRn_ok (by rw [yN_eq]; omega) (by rw [yN_eq]; omega)) (tr_cons (yRn_ok (by rw [yN_eq]; omega) (by rw [yN_eq]; omega)) (tr_cons (yOk_ok hG (by have := yN_eq k 4; omega)) (yOk_ok hG (by have := yN_eq k 4; omega)))))))))) f7_34 (by omega) hG rfl (byR (by omega))
theorem g7_3ERS (hLc : k + 1 ≤ 600) (hc : ∀ e, e < k + 1 → B16 (fa e) ∧ B8 (fb e)) (hLd : l ≤ 300) (hd : ∀ e, e < l → B16 (fc e) ∧ B8 (fd e)) (K : K7 s op d sr x 3) : LCalls Try.prog 7 (A7 s (sl 0 0) (sls 1 (k + 1)) (sls 2 l) op d sr x) (mkH (X7 f 0 fa fb (k + 1) fc fd l)) (fun u _ => u = .bool true) := by
  have hG : Gok (yN k 5) (yGR fa fb k (yP s op d sr x 3) 5) := gokR (B := yB op d sr x 3) _ (fun t => rfl) K.hB hc 5
  exact g7of (e7_3ERS s n k l f fa fb fc fd op d sr x) K (tk7 K (by omega) (tr_cons (tLc_ok hLc) (tLd_ok hLd)) (tr_cons (tR1_ok (by omega)) (tr_cons (tR2_ok (by omega)) (tr_cons (yRn_ok (by rw [yN_eq]; omega) (by rw [yN_eq]; omega)) (tr_cons (yRn_ok (by rw [yN_eq]; omega) (by rw [yN_eq]; omega)) (tr_cons (yRn_ok (by rw [yN_eq]; omega) (by rw [yN_eq]; omega)) (tr_cons (yRn_ok (by rw [yN_eq]; omega) (by rw [yN_eq]; omega)) (tr_cons (yOk_ok hG (by have := yN_eq k 4; omega)) (tr_cons (tOd_ok hd (by omega)) (tr_cons (yOk_ok hG (by have := yN_eq k 4; omega)) (tOd_ok hd (by omega)))))))))))) f7_34 (by omega) hG rfl (byR (by omega))
end Go.Proofs.Ytnknopebjdgdjaa
namespace Go.Proofs.Ytnknopebjdgdjaa
open Go Go.Ly Go.RowKit
set_option linter.unusedSectionVars false
set_option maxRecDepth 100000
variable (s : Sv) (n k l : Nat) (f fa fb fc fd : Nat → Int) (op d sr x : Int)
include s n k l f fa fb fc fd op d sr x
theorem e7_3RNN : E7 34 41 [1, 0, 0, 1, 1, 29, 13, 7, 7, 7, 6, 73, 20, 3, 31] (A7 s (sl 0 (n + 1)) nilS nilS op d sr x) (X7 f (n + 1) fa fb k fc fd l) = O7 34 (y1 op d sr x 3 ++ [tLi n, tMe n] ++ y2 op d sr ++ [tOk (GA (yl s op d sr x 3) 5) 5, tMx n, tR1 n, tOk (GA (yl s op d sr x 3) 5) 5]) s (sl 0 (n + 1)) nilS nilS (inV 29 0 (0 + (n + 1))) (GA (yl s op d sr x 3) 5) 5 (fun _ => 0) := by kernel_rfl
theorem e7_3RNS : E7 34 41 [1, 0, 0, 1, 1, 19, 9, 13, 7, 7, 7, 6, 73, 1, 18, 3, 31, 1] (A7 s (sl 0 (n + 1)) nilS (sls 2 l) op d sr x) (X7 f (n + 1) fa fb k fc fd l) = O7 34 (y1 op d sr x 3 ++ [tLi n, tLd l, tMe n] ++ y2 op d sr ++ [tOk (GA (yl s op d sr x 3) 5) 5, tOd fc fd l, tMx n, tR1 n, tOk (GA (yl s op d sr x 3) 5) 5, tOd fc fd l]) s (sl 0 (n + 1)) nilS (sls 2 l) (inV 29 0 (0 + (n + 1))) (GA (yl s op d sr x 3) 5) 5 (gs (gm (GD fc fd) l)) := by kernel_rfl
theorem e7_3REN : E7 34 41 [1, 0, 0, 1, 1, 29, 13, 7, 7, 7, 6, 73, 20, 3, 31] (A7 s (sl 0 (n + 1)) (sls 1 0) nilS op d sr x) (X7 f (n + 1) fa fb 0 fc fd l) = O7 34 (y1 op d sr x 3 ++ [tLi n, tMe n] ++ y2 op d sr ++ [tOk (GA (yl s op d sr x 3) 5) 5, tMx n, tR1 n, tOk (GA (yl s op d sr x 3) 5) 5]) s (sl 0 (n + 1)) (sls 1 0) nilS (inV 29 0 (0 + (n + 1))) (GA (yl s op d sr x 3) 5) 5 (fun _ => 0) := by kernel_rfl
theorem e7_3RES : E7 34 41 [1, 0, 0, 1, 1, 19, 9, 13, 7, 7, 7, 6, 73, 1, 18, 3, 31, 1] (A7 s (sl 0 (n + 1)) (sls 1 0) (sls 2 l) op d sr x) (X7 f (n + 1) fa fb 0 fc fd l) = O7 34 (y1 op d sr x 3 ++ [tLi n, tLd l, tMe n] ++ y2 op d sr ++ [tOk (GA (yl s op d sr x 3) 5) 5, tOd fc fd l, tMx n, tR1 n, tOk (GA (yl s op d sr x 3) 5) 5, tOd fc fd l]) s (sl 0 (n + 1)) (sls 1 0) (sls 2 l) (inV 29 0 (0 + (n + 1))) (GA (yl s op d sr x 3) 5) 5 (gs (gm (GD fc fd) l)) := by kernel_rfl
theorem e7_3RRN : E7 35 42 [1, 0, 0, 1, 1, 9, 19, 13, 7, 7, 7, 6, 11, 11, 9, 9, 9, 9, 7, 20, 3, 31] (A7 s (sl 0 (n + 1)) (sls 1 (k + 1)) nilS op d sr x) (X7 f (n + 1) fa fb (k + 1) fc fd l) = O7 35 (y1 op d sr x 3 ++ [tLi n, tLc k, tMe n] ++ y2 op d sr ++ [tR1 k, tR2 k, yRn (yN k 1), yRn (yN k 2), yRn (yN k 3), yRn (yN k 4), yOk (yGR fa fb k (yP s op d sr x 3) 5) (yN k 4), tMx n, tR1 n, yOk (yGR fa fb k (yP s op d sr x 3) 5) (yN k 4)]) s (sl 0 (n + 1)) (sls 1 (k + 1)) nilS (inV 30 0 (0 + (n + 1))) (yGR fa fb k (yP s op d sr x 3) 5) (yN k 5) (fun _ => 0) := by kernel_rfl
theorem e7_3RRS : E7 35 42 [1, 0, 0, 1, 1, 9, 9, 9, 13, 7, 7, 7, 6, 11, 11, 9, 9, 9, 9, 7, 1, 18, 3, 31, 1] (A7 s (sl 0 (n + 1)) (sls 1 (k + 1)) (sls 2 l) op d sr x) (X7 f (n + 1) fa fb (k + 1) fc fd l) = O7 35 (y1 op d sr x 3 ++ [tLi n, tLc k, tLd l, tMe n] ++ y2 op d sr ++ [tR1 k, tR2 k, yRn (yN k 1), yRn (yN k 2), yRn (yN k 3), yRn (yN k 4), yOk (yGR fa fb k (yP s op d sr x 3) 5) (yN k 4), tOd fc fd l, tMx n, tR1 n, yOk (yGR fa fb k (yP s op d sr x 3) 5) (yN k 4), tOd fc fd l]) s (sl 0 (n + 1)) (sls 1 (k + 1)) (sls 2 l) (inV 30 0 (0 + (n + 1))) (yGR fa fb k (yP s op d sr x 3) 5) (yN k 5) (gs (gm (GD fc fd) l)) := by kernel_rfl
end Go.Proofs.Ytnknopebjdgdjaa
end
