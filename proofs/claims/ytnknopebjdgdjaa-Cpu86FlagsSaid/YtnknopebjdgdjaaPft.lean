/- Part 20 of the texts that the law needs, laid together. By program (pack.py). -/
import Derived.Test.YtnknopebjdgdjaaPfg
import Derived.Test.YtnknopebjdgdjaaPfj
import Derived.Test.YtnknopebjdgdjaaPfr
import Derived.Test.YtnknopebjdgdjaaPfs
import Derived.KernelRfl
set_option linter.unusedVariables false
set_option linter.unusedSimpArgs false
noncomputable section
namespace Go.Proofs.Ytnknopebjdgdjaa
open Go Go.Ly Go.RowKit
set_option linter.unusedSectionVars false
variable (s : Sv) (n k l : Nat) (f fa fb fc fd : Nat → Int) (op d sr x : Int)
include s n k l f fa fb fc fd op d sr x
theorem g7_3RNN (hLi : n + 1 ≤ 256) (K : K7 s op d sr x 3) : LCalls Try.prog 7 (A7 s (sl 0 (n + 1)) nilS nilS op d sr x) (mkH (X7 f (n + 1) fa fb k fc fd l)) (fun u _ => u = .bool true) := by
  have hG : Gok 5 (GA (yl s op d sr x 3) 5) := gokA3 K.hB
  exact g7of (e7_3RNN s n k l f fa fb fc fd op d sr x) K (tk7 K (by omega) (tr_cons (tLi_ok hLi) (tMe_ok hLi)) (tr_cons (tOk_ok hG (by omega)) (tr_cons (tMx_ok hLi) (tr_cons (tR1_ok (by omega)) (tOk_ok hG (by omega)))))) f7_34 (by omega) hG rfl (byA3)
theorem g7_3RNS (hLi : n + 1 ≤ 256) (hLd : l ≤ 300) (hd : ∀ e, e < l → B16 (fc e) ∧ B8 (fd e)) (K : K7 s op d sr x 3) : LCalls Try.prog 7 (A7 s (sl 0 (n + 1)) nilS (sls 2 l) op d sr x) (mkH (X7 f (n + 1) fa fb k fc fd l)) (fun u _ => u = .bool true) := by
  have hG : Gok 5 (GA (yl s op d sr x 3) 5) := gokA3 K.hB
  exact g7of (e7_3RNS s n k l f fa fb fc fd op d sr x) K (tk7 K (by omega) (tr_cons (tLi_ok hLi) (tr_cons (tLd_ok hLd) (tMe_ok hLi))) (tr_cons (tOk_ok hG (by omega)) (tr_cons (tOd_ok hd (by omega)) (tr_cons (tMx_ok hLi) (tr_cons (tR1_ok (by omega)) (tr_cons (tOk_ok hG (by omega)) (tOd_ok hd (by omega)))))))) f7_34 (by omega) hG rfl (byA3)
theorem g7_3REN (hLi : n + 1 ≤ 256) (K : K7 s op d sr x 3) : LCalls Try.prog 7 (A7 s (sl 0 (n + 1)) (sls 1 0) nilS op d sr x) (mkH (X7 f (n + 1) fa fb 0 fc fd l)) (fun u _ => u = .bool true) := by
  have hG : Gok 5 (GA (yl s op d sr x 3) 5) := gokA3 K.hB
  exact g7of (e7_3REN s n k l f fa fb fc fd op d sr x) K (tk7 K (by omega) (tr_cons (tLi_ok hLi) (tMe_ok hLi)) (tr_cons (tOk_ok hG (by omega)) (tr_cons (tMx_ok hLi) (tr_cons (tR1_ok (by omega)) (tOk_ok hG (by omega)))))) f7_34 (by omega) hG rfl (byA3)
theorem g7_3RES (hLi : n + 1 ≤ 256) (hLd : l ≤ 300) (hd : ∀ e, e < l → B16 (fc e) ∧ B8 (fd e)) (K : K7 s op d sr x 3) : LCalls Try.prog 7 (A7 s (sl 0 (n + 1)) (sls 1 0) (sls 2 l) op d sr x) (mkH (X7 f (n + 1) fa fb 0 fc fd l)) (fun u _ => u = .bool true) := by
  have hG : Gok 5 (GA (yl s op d sr x 3) 5) := gokA3 K.hB
  exact g7of (e7_3RES s n k l f fa fb fc fd op d sr x) K (tk7 K (by omega) (tr_cons (tLi_ok hLi) (tr_cons (tLd_ok hLd) (tMe_ok hLi))) (tr_cons (tOk_ok hG (by omega)) (tr_cons (tOd_ok hd (by omega)) (tr_cons (tMx_ok hLi) (tr_cons (tR1_ok (by omega)) (tr_cons (tOk_ok hG (by omega)) (tOd_ok hd (by omega)))))))) f7_34 (by omega) hG rfl (byA3)
theorem g7_3RRN (hLi : n + 1 ≤ 256) (hLc : k + 1 ≤ 600) (hc : ∀ e, e < k + 1 → B16 (fa e) ∧ B8 (fb e)) (K : K7 s op d sr x 3) : LCalls Try.prog 7 (A7 s (sl 0 (n + 1)) (sls 1 (k + 1)) nilS op d sr x) (mkH (X7 f (n + 1) fa fb (k + 1) fc fd l)) (fun u _ => u = .bool true) := by
  have hG : Gok (yN k 5) (yGR fa fb k (yP s op d sr x 3) 5) := gokR (B := yB op d sr x 3) _ (fun t => rfl) K.hB hc 5
  exact g7of (e7_3RRN s n k l f fa fb fc fd op d sr x) K (tk7 K (by omega) (tr_cons (tLi_ok hLi) (tr_cons (tLc_ok hLc) (tMe_ok hLi))) (tr_cons (tR1_ok (by omega)) (tr_cons (tR2_ok (by omega)) (tr_cons (yRn_ok (by rw [yN_eq]; omega) (by rw [yN_eq]; omega)) (tr_cons (yRn_ok (by rw [yN_eq]; omega) (by rw [yN_eq]; omega)) (tr_cons (yRn_ok (by rw [yN_eq]; omega) (by rw [yN_eq]; omega)) (tr_cons (yRn_ok (by rw [yN_eq]; omega) (by rw [yN_eq]; omega)) (tr_cons (yOk_ok hG (by have := yN_eq k 4; omega)) (tr_cons (tMx_ok hLi) (tr_cons (tR1_ok (by omega)) (yOk_ok hG (by have := yN_eq k 4; omega)))))))))))) f7_35 (by omega) hG rfl (byR (by omega))
theorem g7_3RRS (hLi : n + 1 ≤ 256) (hLc : k + 1 ≤ 600) (hc : ∀ e, e < k + 1 → B16 (fa e) ∧ B8 (fb e)) (hLd : l ≤ 300) (hd : ∀ e, e < l → B16 (fc e) ∧ B8 (fd e)) (K : K7 s op d sr x 3) : LCalls Try.prog 7 (A7 s (sl 0 (n + 1)) (sls 1 (k + 1)) (sls 2 l) op d sr x) (mkH (X7 f (n + 1) fa fb (k + 1) fc fd l)) (fun u _ => u = .bool true) := by
  have hG : Gok (yN k 5) (yGR fa fb k (yP s op d sr x 3) 5) := gokR (B := yB op d sr x 3) _ (fun t => rfl) K.hB hc 5
  exact g7of (e7_3RRS s n k l f fa fb fc fd op d sr x) K (tk7 K (by omega) (tr_cons (tLi_ok hLi) (tr_cons (tLc_ok hLc) (tr_cons (tLd_ok hLd) (tMe_ok hLi)))) (tr_cons (tR1_ok (by omega)) (tr_cons (tR2_ok (by omega)) (tr_cons (yRn_ok (by rw [yN_eq]; omega) (by rw [yN_eq]; omega)) (tr_cons (yRn_ok (by rw [yN_eq]; omega) (by rw [yN_eq]; omega)) (tr_cons (yRn_ok (by rw [yN_eq]; omega) (by rw [yN_eq]; omega)) (tr_cons (yRn_ok (by rw [yN_eq]; omega) (by rw [yN_eq]; omega)) (tr_cons (yOk_ok hG (by have := yN_eq k 4; omega)) (tr_cons (tOd_ok hd (by omega)) (tr_cons (tMx_ok hLi) (tr_cons (tR1_ok (by omega)) (tr_cons (yOk_ok hG (by have := yN_eq k 4; omega)) (tOd_ok hd (by omega)))))))))))))) f7_35 (by omega) hG rfl (byR (by omega))
end Go.Proofs.Ytnknopebjdgdjaa
namespace Go.Proofs.Ytnknopebjdgdjaa
open Go Go.Ly Go.RowKit
set_option linter.unusedSectionVars false
set_option maxRecDepth 100000
variable (s : Sv) (n k l : Nat) (f fa fb fc fd : Nat → Int) (op d sr x : Int)
include s n k l f fa fb fc fd op d sr x
theorem e7_4NNN : E7 34 41 [1, 0, 0, 0, 1, 45, 7, 7, 7, 6, 83, 51] (A7 s nilS nilS nilS op d sr x) (X7 f n fa fb k fc fd l) = O7 34 (y1 op d sr x 4 ++ [] ++ y2 op d sr ++ [tOk (GA (yl s op d sr x 4) 6) 6, tOk (GA (yl s op d sr x 4) 6) 6]) s nilS nilS nilS (.slice none 0 0) (GA (yl s op d sr x 4) 6) 6 (fun _ => 0) := by kernel_rfl
theorem e7_4NNS : E7 34 41 [1, 0, 0, 0, 1, 21, 23, 7, 7, 7, 6, 83, 1, 49, 1] (A7 s nilS nilS (sls 2 l) op d sr x) (X7 f n fa fb k fc fd l) = O7 34 (y1 op d sr x 4 ++ [tLd l] ++ y2 op d sr ++ [tOk (GA (yl s op d sr x 4) 6) 6, tOd fc fd l, tOk (GA (yl s op d sr x 4) 6) 6, tOd fc fd l]) s nilS nilS (sls 2 l) (.slice none 0 0) (GA (yl s op d sr x 4) 6) 6 (gs (gm (GD fc fd) l)) := by kernel_rfl
theorem e7_4NEN : E7 34 41 [1, 0, 0, 0, 1, 45, 7, 7, 7, 6, 83, 51] (A7 s nilS (sls 1 0) nilS op d sr x) (X7 f n fa fb 0 fc fd l) = O7 34 (y1 op d sr x 4 ++ [] ++ y2 op d sr ++ [tOk (GA (yl s op d sr x 4) 6) 6, tOk (GA (yl s op d sr x 4) 6) 6]) s nilS (sls 1 0) nilS (.slice none 0 0) (GA (yl s op d sr x 4) 6) 6 (fun _ => 0) := by kernel_rfl
theorem e7_4NES : E7 34 41 [1, 0, 0, 0, 1, 21, 23, 7, 7, 7, 6, 83, 1, 49, 1] (A7 s nilS (sls 1 0) (sls 2 l) op d sr x) (X7 f n fa fb 0 fc fd l) = O7 34 (y1 op d sr x 4 ++ [tLd l] ++ y2 op d sr ++ [tOk (GA (yl s op d sr x 4) 6) 6, tOd fc fd l, tOk (GA (yl s op d sr x 4) 6) 6, tOd fc fd l]) s nilS (sls 1 0) (sls 2 l) (.slice none 0 0) (GA (yl s op d sr x 4) 6) 6 (gs (gm (GD fc fd) l)) := by kernel_rfl
theorem e7_4NRN : E7 35 42 [1, 0, 0, 0, 1, 11, 33, 7, 7, 7, 6, 11, 11, 9, 9, 9, 9, 9, 7, 51] (A7 s nilS (sls 1 (k + 1)) nilS op d sr x) (X7 f n fa fb (k + 1) fc fd l) = O7 35 (y1 op d sr x 4 ++ [tLc k] ++ y2 op d sr ++ [tR1 k, tR2 k, yRn (yN k 1), yRn (yN k 2), yRn (yN k 3), yRn (yN k 4), yRn (yN k 5), yOk (yGR fa fb k (yP s op d sr x 4) 6) (yN k 5), yOk (yGR fa fb k (yP s op d sr x 4) 6) (yN k 5)]) s nilS (sls 1 (k + 1)) nilS (.slice none 0 0) (yGR fa fb k (yP s op d sr x 4) 6) (yN k 6) (fun _ => 0) := by kernel_rfl
theorem e7_4NRS : E7 35 42 [1, 0, 0, 0, 1, 11, 9, 23, 7, 7, 7, 6, 11, 11, 9, 9, 9, 9, 9, 7, 1, 49, 1] (A7 s nilS (sls 1 (k + 1)) (sls 2 l) op d sr x) (X7 f n fa fb (k + 1) fc fd l) = O7 35 (y1 op d sr x 4 ++ [tLc k, tLd l] ++ y2 op d sr ++ [tR1 k, tR2 k, yRn (yN k 1), yRn (yN k 2), yRn (yN k 3), yRn (yN k 4), yRn (yN k 5), yOk (yGR fa fb k (yP s op d sr x 4) 6) (yN k 5), tOd fc fd l, yOk (yGR fa fb k (yP s op d sr x 4) 6) (yN k 5), tOd fc fd l]) s nilS (sls 1 (k + 1)) (sls 2 l) (.slice none 0 0) (yGR fa fb k (yP s op d sr x 4) 6) (yN k 6) (gs (gm (GD fc fd) l)) := by kernel_rfl
end Go.Proofs.Ytnknopebjdgdjaa
namespace Go.Proofs.Ytnknopebjdgdjaa
open Go Go.Ly Go.RowKit
set_option linter.unusedSectionVars false
variable (s : Sv) (n k l : Nat) (f fa fb fc fd : Nat → Int) (op d sr x : Int)
include s n k l f fa fb fc fd op d sr x
theorem g7_4NNN (K : K7 s op d sr x 4) : LCalls Try.prog 7 (A7 s nilS nilS nilS op d sr x) (mkH (X7 f n fa fb k fc fd l)) (fun u _ => u = .bool true) := by
  have hG : Gok 6 (GA (yl s op d sr x 4) 6) := gokA4 K.hB
  exact g7of (e7_4NNN s n k l f fa fb fc fd op d sr x) K (tk7 K (by omega) trivial (tr_cons (tOk_ok hG (by omega)) (tOk_ok hG (by omega)))) f7_34 (by omega) hG rfl (byA4)
theorem g7_4NNS (hLd : l ≤ 300) (hd : ∀ e, e < l → B16 (fc e) ∧ B8 (fd e)) (K : K7 s op d sr x 4) : LCalls Try.prog 7 (A7 s nilS nilS (sls 2 l) op d sr x) (mkH (X7 f n fa fb k fc fd l)) (fun u _ => u = .bool true) := by
  have hG : Gok 6 (GA (yl s op d sr x 4) 6) := gokA4 K.hB
  exact g7of (e7_4NNS s n k l f fa fb fc fd op d sr x) K (tk7 K (by omega) (tLd_ok hLd) (tr_cons (tOk_ok hG (by omega)) (tr_cons (tOd_ok hd (by omega)) (tr_cons (tOk_ok hG (by omega)) (tOd_ok hd (by omega)))))) f7_34 (by omega) hG rfl (byA4)
theorem g7_4NEN (K : K7 s op d sr x 4) : LCalls Try.prog 7 (A7 s nilS (sls 1 0) nilS op d sr x) (mkH (X7 f n fa fb 0 fc fd l)) (fun u _ => u = .bool true) := by
  have hG : Gok 6 (GA (yl s op d sr x 4) 6) := gokA4 K.hB
  exact g7of (e7_4NEN s n k l f fa fb fc fd op d sr x) K (tk7 K (by omega) trivial (tr_cons (tOk_ok hG (by omega)) (tOk_ok hG (by omega)))) f7_34 (by omega) hG rfl (byA4)
theorem g7_4NES (hLd : l ≤ 300) (hd : ∀ e, e < l → B16 (fc e) ∧ B8 (fd e)) (K : K7 s op d sr x 4) : LCalls Try.prog 7 (A7 s nilS (sls 1 0) (sls 2 l) op d sr x) (mkH (X7 f n fa fb 0 fc fd l)) (fun u _ => u = .bool true) := by
  have hG : Gok 6 (GA (yl s op d sr x 4) 6) := gokA4 K.hB
  exact g7of (e7_4NES s n k l f fa fb fc fd op d sr x) K (tk7 K (by omega) (tLd_ok hLd) (tr_cons (tOk_ok hG (by omega)) (tr_cons (tOd_ok hd (by omega)) (tr_cons (tOk_ok hG (by omega)) (tOd_ok hd (by omega)))))) f7_34 (by omega) hG rfl (byA4)
theorem g7_4NRN (hLc : k + 1 ≤ 600) (hc : ∀ e, e < k + 1 → B16 (fa e) ∧ B8 (fb e)) (K : K7 s op d sr x 4) : LCalls Try.prog 7 (A7 s nilS (sls 1 (k + 1)) nilS op d sr x) (mkH (X7 f n fa fb (k + 1) fc fd l)) (fun u _ => u = .bool true) := by
  have hG : Gok (yN k 6) (yGR fa fb k (yP s op d sr x 4) 6) := gokR (B := yB op d sr x 4) _ (fun t => rfl) K.hB hc 6
  exact g7of (e7_4NRN s n k l f fa fb fc fd op d sr x) K (tk7 K (by omega) (tLc_ok hLc) (tr_cons (tR1_ok (by omega)) (tr_cons (tR2_ok (by omega)) (tr_cons (yRn_ok (by rw [yN_eq]; omega) (by rw [yN_eq]; omega)) (tr_cons (yRn_ok (by rw [yN_eq]; omega) (by rw [yN_eq]; omega)) (tr_cons (yRn_ok (by rw [yN_eq]; omega) (by rw [yN_eq]; omega)) (tr_cons (yRn_ok (by rw [yN_eq]; omega) (by rw [yN_eq]; omega)) (tr_cons (yRn_ok (by rw [yN_eq]; omega) (by rw [yN_eq]; omega)) (tr_cons (yOk_ok hG (by have := yN_eq k 5; omega)) (yOk_ok hG (by have := yN_eq k 5; omega))))))))))) f7_35 (by omega) hG rfl (byR (by omega))
theorem g7_4NRS (hLc : k + 1 ≤ 600) (hc : ∀ e, e < k + 1 → B16 (fa e) ∧ B8 (fb e)) (hLd : l ≤ 300) (hd : ∀ e, e < l → B16 (fc e) ∧ B8 (fd e)) (K : K7 s op d sr x 4) : LCalls Try.prog 7 (A7 s nilS (sls 1 (k + 1)) (sls 2 l) op d sr x) (mkH (X7 f n fa fb (k + 1) fc fd l)) (fun u _ => u = .bool true) := by
  have hG : Gok (yN k 6) (yGR fa fb k (yP s op d sr x 4) 6) := gokR (B := yB op d sr x 4) _ (fun t => rfl) K.hB hc 6
  exact g7of (e7_4NRS s n k l f fa fb fc fd op d sr x) K (tk7 K (by omega) (tr_cons (tLc_ok hLc) (tLd_ok hLd)) (tr_cons (tR1_ok (by omega)) (tr_cons (tR2_ok (by omega)) (tr_cons (yRn_ok (by rw [yN_eq]; omega) (by rw [yN_eq]; omega)) (tr_cons (yRn_ok (by rw [yN_eq]; omega) (by rw [yN_eq]; omega)) (tr_cons (yRn_ok (by rw [yN_eq]; omega) (by rw [yN_eq]; omega)) (tr_cons (yRn_ok (by rw [yN_eq]; omega) (by rw [yN_eq]; omega)) (tr_cons (yRn_ok (by rw [yN_eq]; omega) (by rw [yN_eq]; omega)) (tr_cons (yOk_ok hG (by have := yN_eq k 5; omega)) (tr_cons (tOd_ok hd (by omega)) (tr_cons (yOk_ok hG (by have := yN_eq k 5; omega)) (tOd_ok hd (by omega))))))))))))) f7_35 (by omega) hG rfl (byR (by omega))
end Go.Proofs.Ytnknopebjdgdjaa
namespace Go.Proofs.Ytnknopebjdgdjaa
open Go Go.Ly Go.RowKit
set_option linter.unusedSectionVars false
set_option maxRecDepth 100000
variable (s : Sv) (n k l : Nat) (f fa fb fc fd : Nat → Int) (op d sr x : Int)
include s n k l f fa fb fc fd op d sr x
theorem e7_4ENN : E7 35 42 [1, 0, 0, 0, 1, 45, 7, 7, 7, 6, 83, 57] (A7 s (sl 0 0) nilS nilS op d sr x) (X7 f 0 fa fb k fc fd l) = O7 35 (y1 op d sr x 4 ++ [] ++ y2 op d sr ++ [tOk (GA (yl s op d sr x 4) 6) 6, tOk (GA (yl s op d sr x 4) 6) 6]) s (sl 0 0) nilS nilS (.slice (some ⟨30, 0, none⟩) 0 0) (GA (yl s op d sr x 4) 6) 6 (fun _ => 0) := by kernel_rfl
theorem e7_4ENS : E7 35 42 [1, 0, 0, 0, 1, 21, 23, 7, 7, 7, 6, 83, 1, 55, 1] (A7 s (sl 0 0) nilS (sls 2 l) op d sr x) (X7 f 0 fa fb k fc fd l) = O7 35 (y1 op d sr x 4 ++ [tLd l] ++ y2 op d sr ++ [tOk (GA (yl s op d sr x 4) 6) 6, tOd fc fd l, tOk (GA (yl s op d sr x 4) 6) 6, tOd fc fd l]) s (sl 0 0) nilS (sls 2 l) (.slice (some ⟨30, 0, none⟩) 0 0) (GA (yl s op d sr x 4) 6) 6 (gs (gm (GD fc fd) l)) := by kernel_rfl
theorem e7_4EEN : E7 35 42 [1, 0, 0, 0, 1, 45, 7, 7, 7, 6, 83, 57] (A7 s (sl 0 0) (sls 1 0) nilS op d sr x) (X7 f 0 fa fb 0 fc fd l) = O7 35 (y1 op d sr x 4 ++ [] ++ y2 op d sr ++ [tOk (GA (yl s op d sr x 4) 6) 6, tOk (GA (yl s op d sr x 4) 6) 6]) s (sl 0 0) (sls 1 0) nilS (.slice (some ⟨30, 0, none⟩) 0 0) (GA (yl s op d sr x 4) 6) 6 (fun _ => 0) := by kernel_rfl
theorem e7_4EES : E7 35 42 [1, 0, 0, 0, 1, 21, 23, 7, 7, 7, 6, 83, 1, 55, 1] (A7 s (sl 0 0) (sls 1 0) (sls 2 l) op d sr x) (X7 f 0 fa fb 0 fc fd l) = O7 35 (y1 op d sr x 4 ++ [tLd l] ++ y2 op d sr ++ [tOk (GA (yl s op d sr x 4) 6) 6, tOd fc fd l, tOk (GA (yl s op d sr x 4) 6) 6, tOd fc fd l]) s (sl 0 0) (sls 1 0) (sls 2 l) (.slice (some ⟨30, 0, none⟩) 0 0) (GA (yl s op d sr x 4) 6) 6 (gs (gm (GD fc fd) l)) := by kernel_rfl
theorem e7_4ERN : E7 36 43 [1, 0, 0, 0, 1, 11, 33, 7, 7, 7, 6, 11, 11, 9, 9, 9, 9, 9, 7, 57] (A7 s (sl 0 0) (sls 1 (k + 1)) nilS op d sr x) (X7 f 0 fa fb (k + 1) fc fd l) = O7 36 (y1 op d sr x 4 ++ [tLc k] ++ y2 op d sr ++ [tR1 k, tR2 k, yRn (yN k 1), yRn (yN k 2), yRn (yN k 3), yRn (yN k 4), yRn (yN k 5), yOk (yGR fa fb k (yP s op d sr x 4) 6) (yN k 5), yOk (yGR fa fb k (yP s op d sr x 4) 6) (yN k 5)]) s (sl 0 0) (sls 1 (k + 1)) nilS (.slice (some ⟨31, 0, none⟩) 0 0) (yGR fa fb k (yP s op d sr x 4) 6) (yN k 6) (fun _ => 0) := by kernel_rfl
theorem e7_4ERS : E7 36 43 [1, 0, 0, 0, 1, 11, 9, 23, 7, 7, 7, 6, 11, 11, 9, 9, 9, 9, 9, 7, 1, 55, 1] (A7 s (sl 0 0) (sls 1 (k + 1)) (sls 2 l) op d sr x) (X7 f 0 fa fb (k + 1) fc fd l) = O7 36 (y1 op d sr x 4 ++ [tLc k, tLd l] ++ y2 op d sr ++ [tR1 k, tR2 k, yRn (yN k 1), yRn (yN k 2), yRn (yN k 3), yRn (yN k 4), yRn (yN k 5), yOk (yGR fa fb k (yP s op d sr x 4) 6) (yN k 5), tOd fc fd l, yOk (yGR fa fb k (yP s op d sr x 4) 6) (yN k 5), tOd fc fd l]) s (sl 0 0) (sls 1 (k + 1)) (sls 2 l) (.slice (some ⟨31, 0, none⟩) 0 0) (yGR fa fb k (yP s op d sr x 4) 6) (yN k 6) (gs (gm (GD fc fd) l)) := by kernel_rfl
end Go.Proofs.Ytnknopebjdgdjaa
namespace Go.Proofs.Ytnknopebjdgdjaa
open Go Go.Ly Go.RowKit
set_option linter.unusedSectionVars false
variable (s : Sv) (n k l : Nat) (f fa fb fc fd : Nat → Int) (op d sr x : Int)
include s n k l f fa fb fc fd op d sr x
theorem g7_4ENN (K : K7 s op d sr x 4) : LCalls Try.prog 7 (A7 s (sl 0 0) nilS nilS op d sr x) (mkH (X7 f 0 fa fb k fc fd l)) (fun u _ => u = .bool true) := by
  have hG : Gok 6 (GA (yl s op d sr x 4) 6) := gokA4 K.hB
  exact g7of (e7_4ENN s n k l f fa fb fc fd op d sr x) K (tk7 K (by omega) trivial (tr_cons (tOk_ok hG (by omega)) (tOk_ok hG (by omega)))) f7_35 (by omega) hG rfl (byA4)
theorem g7_4ENS (hLd : l ≤ 300) (hd : ∀ e, e < l → B16 (fc e) ∧ B8 (fd e)) (K : K7 s op d sr x 4) : LCalls Try.prog 7 (A7 s (sl 0 0) nilS (sls 2 l) op d sr x) (mkH (X7 f 0 fa fb k fc fd l)) (fun u _ => u = .bool true) := by
  have hG : Gok 6 (GA (yl s op d sr x 4) 6) := gokA4 K.hB
  exact g7of (e7_4ENS s n k l f fa fb fc fd op d sr x) K (tk7 K (by omega) (tLd_ok hLd) (tr_cons (tOk_ok hG (by omega)) (tr_cons (tOd_ok hd (by omega)) (tr_cons (tOk_ok hG (by omega)) (tOd_ok hd (by omega)))))) f7_35 (by omega) hG rfl (byA4)
theorem g7_4EEN (K : K7 s op d sr x 4) : LCalls Try.prog 7 (A7 s (sl 0 0) (sls 1 0) nilS op d sr x) (mkH (X7 f 0 fa fb 0 fc fd l)) (fun u _ => u = .bool true) := by
  have hG : Gok 6 (GA (yl s op d sr x 4) 6) := gokA4 K.hB
  exact g7of (e7_4EEN s n k l f fa fb fc fd op d sr x) K (tk7 K (by omega) trivial (tr_cons (tOk_ok hG (by omega)) (tOk_ok hG (by omega)))) f7_35 (by omega) hG rfl (byA4)
theorem g7_4EES (hLd : l ≤ 300) (hd : ∀ e, e < l → B16 (fc e) ∧ B8 (fd e)) (K : K7 s op d sr x 4) : LCalls Try.prog 7 (A7 s (sl 0 0) (sls 1 0) (sls 2 l) op d sr x) (mkH (X7 f 0 fa fb 0 fc fd l)) (fun u _ => u = .bool true) := by
  have hG : Gok 6 (GA (yl s op d sr x 4) 6) := gokA4 K.hB
  exact g7of (e7_4EES s n k l f fa fb fc fd op d sr x) K (tk7 K (by omega) (tLd_ok hLd) (tr_cons (tOk_ok hG (by omega)) (tr_cons (tOd_ok hd (by omega)) (tr_cons (tOk_ok hG (by omega)) (tOd_ok hd (by omega)))))) f7_35 (by omega) hG rfl (byA4)
theorem g7_4ERN (hLc : k + 1 ≤ 600) (hc : ∀ e, e < k + 1 → B16 (fa e) ∧ B8 (fb e)) (K : K7 s op d sr x 4) : LCalls Try.prog 7 (A7 s (sl 0 0) (sls 1 (k + 1)) nilS op d sr x) (mkH (X7 f 0 fa fb (k + 1) fc fd l)) (fun u _ => u = .bool true) := by
  have hG : Gok (yN k 6) (yGR fa fb k (yP s op d sr x 4) 6) := gokR (B := yB op d sr x 4) _ (fun t => rfl) K.hB hc 6
  exact g7of (e7_4ERN s n k l f fa fb fc fd op d sr x) K (tk7 K (by omega) (tLc_ok hLc) (tr_cons (tR1_ok (by omega)) (tr_cons (tR2_ok (by omega)) (tr_cons (yRn_ok (by rw [yN_eq]; omega) (by rw [yN_eq]; omega)) (tr_cons (yRn_ok (by rw [yN_eq]; omega) (by rw [yN_eq]; omega)) (tr_cons (yRn_ok (by rw [yN_eq]; omega) (by rw [yN_eq]; omega)) (tr_cons (yRn_ok (by rw [yN_eq]; omega) (by rw [yN_eq]; omega)) (tr_cons (yRn_ok (by rw [yN_eq]; omega) (by rw [yN_eq]; omega)) (tr_cons (yOk_ok hG (by have := yN_eq k 5; omega)) (yOk_ok hG (by have := yN_eq k 5; omega))))))))))) f7_36 (by omega) hG rfl (byR (by omega))
theorem g7_4ERS (hLc : k + 1 ≤ 600) (hc : ∀ e, e < k + 1 → B16 (fa e) ∧ B8 (fb e)) (hLd : l ≤ 300) (hd : ∀ e, e < l → B16 (fc e) ∧ B8 (fd e)) (K : K7 s op d sr x 4) : LCalls Try.prog 7 (A7 s (sl 0 0) (sls 1 (k + 1)) (sls 2 l) op d sr x) (mkH (X7 f 0 fa fb (k + 1) fc fd l)) (fun u _ => u = .bool true) := by
  have hG : Gok (yN k 6) (yGR fa fb k (yP s op d sr x 4) 6) := gokR (B := yB op d sr x 4) _ (fun t => rfl) K.hB hc 6
  exact g7of (e7_4ERS s n k l f fa fb fc fd op d sr x) K (tk7 K (by omega) (tr_cons (tLc_ok hLc) (tLd_ok hLd)) (tr_cons (tR1_ok (by omega)) (tr_cons (tR2_ok (by omega)) (tr_cons (yRn_ok (by rw [yN_eq]; omega) (by rw [yN_eq]; omega)) (tr_cons (yRn_ok (by rw [yN_eq]; omega) (by rw [yN_eq]; omega)) (tr_cons (yRn_ok (by rw [yN_eq]; omega) (by rw [yN_eq]; omega)) (tr_cons (yRn_ok (by rw [yN_eq]; omega) (by rw [yN_eq]; omega)) (tr_cons (yRn_ok (by rw [yN_eq]; omega) (by rw [yN_eq]; omega)) (tr_cons (yOk_ok hG (by have := yN_eq k 5; omega)) (tr_cons (tOd_ok hd (by omega)) (tr_cons (yOk_ok hG (by have := yN_eq k 5; omega)) (tOd_ok hd (by omega))))))))))))) f7_36 (by omega) hG rfl (byR (by omega))
end Go.Proofs.Ytnknopebjdgdjaa
namespace Go.Proofs.Ytnknopebjdgdjaa
open Go Go.Ly Go.RowKit
set_option linter.unusedSectionVars false
set_option maxRecDepth 100000
variable (s : Sv) (n k l : Nat) (f fa fb fc fd : Nat → Int) (op d sr x : Int)
include s n k l f fa fb fc fd op d sr x
theorem e7_4RNN : E7 36 43 [1, 0, 0, 0, 1, 1, 29, 13, 7, 7, 7, 6, 83, 20, 3, 31] (A7 s (sl 0 (n + 1)) nilS nilS op d sr x) (X7 f (n + 1) fa fb k fc fd l) = O7 36 (y1 op d sr x 4 ++ [tLi n, tMe n] ++ y2 op d sr ++ [tOk (GA (yl s op d sr x 4) 6) 6, tMx n, tR1 n, tOk (GA (yl s op d sr x 4) 6) 6]) s (sl 0 (n + 1)) nilS nilS (inV 31 0 (0 + (n + 1))) (GA (yl s op d sr x 4) 6) 6 (fun _ => 0) := by kernel_rfl
theorem e7_4RNS : E7 36 43 [1, 0, 0, 0, 1, 1, 19, 9, 13, 7, 7, 7, 6, 83, 1, 18, 3, 31, 1] (A7 s (sl 0 (n + 1)) nilS (sls 2 l) op d sr x) (X7 f (n + 1) fa fb k fc fd l) = O7 36 (y1 op d sr x 4 ++ [tLi n, tLd l, tMe n] ++ y2 op d sr ++ [tOk (GA (yl s op d sr x 4) 6) 6, tOd fc fd l, tMx n, tR1 n, tOk (GA (yl s op d sr x 4) 6) 6, tOd fc fd l]) s (sl 0 (n + 1)) nilS (sls 2 l) (inV 31 0 (0 + (n + 1))) (GA (yl s op d sr x 4) 6) 6 (gs (gm (GD fc fd) l)) := by kernel_rfl
theorem e7_4REN : E7 36 43 [1, 0, 0, 0, 1, 1, 29, 13, 7, 7, 7, 6, 83, 20, 3, 31] (A7 s (sl 0 (n + 1)) (sls 1 0) nilS op d sr x) (X7 f (n + 1) fa fb 0 fc fd l) = O7 36 (y1 op d sr x 4 ++ [tLi n, tMe n] ++ y2 op d sr ++ [tOk (GA (yl s op d sr x 4) 6) 6, tMx n, tR1 n, tOk (GA (yl s op d sr x 4) 6) 6]) s (sl 0 (n + 1)) (sls 1 0) nilS (inV 31 0 (0 + (n + 1))) (GA (yl s op d sr x 4) 6) 6 (fun _ => 0) := by kernel_rfl
theorem e7_4RES : E7 36 43 [1, 0, 0, 0, 1, 1, 19, 9, 13, 7, 7, 7, 6, 83, 1, 18, 3, 31, 1] (A7 s (sl 0 (n + 1)) (sls 1 0) (sls 2 l) op d sr x) (X7 f (n + 1) fa fb 0 fc fd l) = O7 36 (y1 op d sr x 4 ++ [tLi n, tLd l, tMe n] ++ y2 op d sr ++ [tOk (GA (yl s op d sr x 4) 6) 6, tOd fc fd l, tMx n, tR1 n, tOk (GA (yl s op d sr x 4) 6) 6, tOd fc fd l]) s (sl 0 (n + 1)) (sls 1 0) (sls 2 l) (inV 31 0 (0 + (n + 1))) (GA (yl s op d sr x 4) 6) 6 (gs (gm (GD fc fd) l)) := by kernel_rfl
theorem e7_4RRN : E7 37 44 [1, 0, 0, 0, 1, 1, 9, 19, 13, 7, 7, 7, 6, 11, 11, 9, 9, 9, 9, 9, 7, 20, 3, 31] (A7 s (sl 0 (n + 1)) (sls 1 (k + 1)) nilS op d sr x) (X7 f (n + 1) fa fb (k + 1) fc fd l) = O7 37 (y1 op d sr x 4 ++ [tLi n, tLc k, tMe n] ++ y2 op d sr ++ [tR1 k, tR2 k, yRn (yN k 1), yRn (yN k 2), yRn (yN k 3), yRn (yN k 4), yRn (yN k 5), yOk (yGR fa fb k (yP s op d sr x 4) 6) (yN k 5), tMx n, tR1 n, yOk (yGR fa fb k (yP s op d sr x 4) 6) (yN k 5)]) s (sl 0 (n + 1)) (sls 1 (k + 1)) nilS (inV 32 0 (0 + (n + 1))) (yGR fa fb k (yP s op d sr x 4) 6) (yN k 6) (fun _ => 0) := by kernel_rfl
theorem e7_4RRS : E7 37 44 [1, 0, 0, 0, 1, 1, 9, 9, 9, 13, 7, 7, 7, 6, 11, 11, 9, 9, 9, 9, 9, 7, 1, 18, 3, 31, 1] (A7 s (sl 0 (n + 1)) (sls 1 (k + 1)) (sls 2 l) op d sr x) (X7 f (n + 1) fa fb (k + 1) fc fd l) = O7 37 (y1 op d sr x 4 ++ [tLi n, tLc k, tLd l, tMe n] ++ y2 op d sr ++ [tR1 k, tR2 k, yRn (yN k 1), yRn (yN k 2), yRn (yN k 3), yRn (yN k 4), yRn (yN k 5), yOk (yGR fa fb k (yP s op d sr x 4) 6) (yN k 5), tOd fc fd l, tMx n, tR1 n, yOk (yGR fa fb k (yP s op d sr x 4) 6) (yN k 5), tOd fc fd l]) s (sl 0 (n + 1)) (sls 1 (k + 1)) (sls 2 l) (inV 32 0 (0 + (n + 1))) (yGR fa fb k (yP s op d sr x 4) 6) (yN k 6) (gs (gm (GD fc fd) l)) := by kernel_rfl
end Go.Proofs.Ytnknopebjdgdjaa
namespace Go.Proofs.Ytnknopebjdgdjaa
open Go Go.Ly Go.RowKit
set_option linter.unusedSectionVars false
variable (s : Sv) (n k l : Nat) (f fa fb fc fd : Nat → Int) (op d sr x : Int)
include s n k l f fa fb fc fd op d sr x
theorem g7_4RNN (hLi : n + 1 ≤ 256) (K : K7 s op d sr x 4) : LCalls Try.prog 7 (A7 s (sl 0 (n + 1)) nilS nilS op d sr x) (mkH (X7 f (n + 1) fa fb k fc fd l)) (fun u _ => u = .bool true) := by
  have hG : Gok 6 (GA (yl s op d sr x 4) 6) := gokA4 K.hB
  exact g7of (e7_4RNN s n k l f fa fb fc fd op d sr x) K (tk7 K (by omega) (tr_cons (tLi_ok hLi) (tMe_ok hLi)) (tr_cons (tOk_ok hG (by omega)) (tr_cons (tMx_ok hLi) (tr_cons (tR1_ok (by omega)) (tOk_ok hG (by omega)))))) f7_36 (by omega) hG rfl (byA4)
theorem g7_4RNS (hLi : n + 1 ≤ 256) (hLd : l ≤ 300) (hd : ∀ e, e < l → B16 (fc e) ∧ B8 (fd e)) (K : K7 s op d sr x 4) : LCalls Try.prog 7 (A7 s (sl 0 (n + 1)) nilS (sls 2 l) op d sr x) (mkH (X7 f (n + 1) fa fb k fc fd l)) (fun u _ => u = .bool true) := by
  have hG : Gok 6 (GA (yl s op d sr x 4) 6) := gokA4 K.hB
  exact g7of (e7_4RNS s n k l f fa fb fc fd op d sr x) K (tk7 K (by omega) (tr_cons (tLi_ok hLi) (tr_cons (tLd_ok hLd) (tMe_ok hLi))) (tr_cons (tOk_ok hG (by omega)) (tr_cons (tOd_ok hd (by omega)) (tr_cons (tMx_ok hLi) (tr_cons (tR1_ok (by omega)) (tr_cons (tOk_ok hG (by omega)) (tOd_ok hd (by omega)))))))) f7_36 (by omega) hG rfl (byA4)
theorem g7_4REN (hLi : n + 1 ≤ 256) (K : K7 s op d sr x 4) : LCalls Try.prog 7 (A7 s (sl 0 (n + 1)) (sls 1 0) nilS op d sr x) (mkH (X7 f (n + 1) fa fb 0 fc fd l)) (fun u _ => u = .bool true) := by
  have hG : Gok 6 (GA (yl s op d sr x 4) 6) := gokA4 K.hB
  exact g7of (e7_4REN s n k l f fa fb fc fd op d sr x) K (tk7 K (by omega) (tr_cons (tLi_ok hLi) (tMe_ok hLi)) (tr_cons (tOk_ok hG (by omega)) (tr_cons (tMx_ok hLi) (tr_cons (tR1_ok (by omega)) (tOk_ok hG (by omega)))))) f7_36 (by omega) hG rfl (byA4)
theorem g7_4RES (hLi : n + 1 ≤ 256) (hLd : l ≤ 300) (hd : ∀ e, e < l → B16 (fc e) ∧ B8 (fd e)) (K : K7 s op d sr x 4) : LCalls Try.prog 7 (A7 s (sl 0 (n + 1)) (sls 1 0) (sls 2 l) op d sr x) (mkH (X7 f (n + 1) fa fb 0 fc fd l)) (fun u _ => u = .bool true) := by
  have hG : Gok 6 (GA (yl s op d sr x 4) 6) := gokA4 K.hB
  exact g7of (e7_4RES s n k l f fa fb fc fd op d sr x) K (tk7 K (by omega) (tr_cons (tLi_ok hLi) (tr_cons (tLd_ok hLd) (tMe_ok hLi))) (tr_cons (tOk_ok hG (by omega)) (tr_cons (tOd_ok hd (by omega)) (tr_cons (tMx_ok hLi) (tr_cons (tR1_ok (by omega)) (tr_cons (tOk_ok hG (by omega)) (tOd_ok hd (by omega)))))))) f7_36 (by omega) hG rfl (byA4)
theorem g7_4RRN (hLi : n + 1 ≤ 256) (hLc : k + 1 ≤ 600) (hc : ∀ e, e < k + 1 → B16 (fa e) ∧ B8 (fb e)) (K : K7 s op d sr x 4) : LCalls Try.prog 7 (A7 s (sl 0 (n + 1)) (sls 1 (k + 1)) nilS op d sr x) (mkH (X7 f (n + 1) fa fb (k + 1) fc fd l)) (fun u _ => u = .bool true) := by
  have hG : Gok (yN k 6) (yGR fa fb k (yP s op d sr x 4) 6) := gokR (B := yB op d sr x 4) _ (fun t => rfl) K.hB hc 6
  exact g7of (e7_4RRN s n k l f fa fb fc fd op d sr x) K (tk7 K (by omega) (tr_cons (tLi_ok hLi) (tr_cons (tLc_ok hLc) (tMe_ok hLi))) (tr_cons (tR1_ok (by omega)) (tr_cons (tR2_ok (by omega)) (tr_cons (yRn_ok (by rw [yN_eq]; omega) (by rw [yN_eq]; omega)) (tr_cons (yRn_ok (by rw [yN_eq]; omega) (by rw [yN_eq]; omega)) (tr_cons (yRn_ok (by rw [yN_eq]; omega) (by rw [yN_eq]; omega)) (tr_cons (yRn_ok (by rw [yN_eq]; omega) (by rw [yN_eq]; omega)) (tr_cons (yRn_ok (by rw [yN_eq]; omega) (by rw [yN_eq]; omega)) (tr_cons (yOk_ok hG (by have := yN_eq k 5; omega)) (tr_cons (tMx_ok hLi) (tr_cons (tR1_ok (by omega)) (yOk_ok hG (by have := yN_eq k 5; omega))))))))))))) f7_37 (by omega) hG rfl (byR (by omega))
theorem g7_4RRS (hLi : n + 1 ≤ 256) (hLc : k + 1 ≤ 600) (hc : ∀ e, e < k + 1 → B16 (fa e) ∧ B8 (fb e)) (hLd : l ≤ 300) (hd : ∀ e, e < l → B16 (fc e) ∧ B8 (fd e)) (K : K7 s op d sr x 4) : LCalls Try.prog 7 (A7 s (sl 0 (n + 1)) (sls 1 (k + 1)) (sls 2 l) op d sr x) (mkH (X7 f (n + 1) fa fb (k + 1) fc fd l)) (fun u _ => u = .bool true) := by
  have hG : Gok (yN k 6) (yGR fa fb k (yP s op d sr x 4) 6) := gokR (B := yB op d sr x 4) _ (fun t => rfl) K.hB hc 6
  exact g7of (e7_4RRS s n k l f fa fb fc fd op d sr x) K (tk7 K (by omega) (tr_cons (tLi_ok hLi) (tr_cons (tLc_ok hLc) (tr_cons (tLd_ok hLd) (tMe_ok hLi)))) (tr_cons (tR1_ok (by omega)) (tr_cons (tR2_ok (by omega)) (tr_cons (yRn_ok (by rw [yN_eq]; omega) (by rw [yN_eq]; omega)) (tr_cons (yRn_ok (by rw [yN_eq]; omega) (by rw [yN_eq]; omega)) (tr_cons (yRn_ok (by rw [yN_eq]; omega) (by rw [yN_eq]; omega)) (tr_cons (yRn_ok (by rw [yN_eq]; omega) (by rw [yN_eq]; omega)) (tr_cons (yRn_ok (by rw [yN_eq]; omega) (by rw [yN_eq]; omega)) (tr_cons (yOk_ok hG (by have := yN_eq k 5; omega)) (tr_cons (tOd_ok hd (by omega)) (tr_cons (tMx_ok hLi) (tr_cons (tR1_ok (by omega)) (tr_cons (yOk_ok hG (by have := yN_eq k 5; omega)) (tOd_ok hd (by omega))))))))))))))) f7_37 (by omega) hG rfl (byR (by omega))
end Go.Proofs.Ytnknopebjdgdjaa
namespace Go.Proofs.Ytnknopebjdgdjaa
open Go Go.Ly Go.RowKit
def MRowS (w : World) (i : Nat) (a b : Nat → Int) (n : Nat) (loc v : Value) (p : Option Plc) : Prop :=
  (loc = .slice none 0 0 ∧ v = .slice none 0 0 ∧ n = 0 ∧ p = none) ∨ (loc = sls i n ∧ RealRows w 2 (fun e j => match j with | 0 => .int .u16 (a e) | _ + 1 => .int .u8 (b e)) n v p)
theorem m_casesS {w : World} (i : Nat) {v : Value} (h : CkOk w (.slice [.int .u16, .int .u8]) v) : ∃ (a b : Nat → Int) (n : Nat) (loc : Value) (p : Option Plc), MRowS w i a b n loc v p ∧ (∀ e, e < n → B16 (a e) ∧ B8 (b e)) ∧ n ≤ maxLen := by
  rcases ck_bytes2 h with rfl | ⟨n, a, b, p, hr, hf, hn⟩
  · exact ⟨fun _ => 0, fun _ => 0, 0, .slice none 0 0, none, .inl ⟨rfl, rfl, rfl, rfl⟩, fun e he => by omega, by simp [maxLen]⟩
  · exact ⟨a, b, n, sls i n, p, .inr ⟨rfl, hr⟩, hf, hn⟩
theorem calls_startS {W : World} {F : FuncId} {s : Sv} {f a b c d : Nat → Int} {n k l : Nat} {li lm ld iv mv dv : Value} {pi pm pd : Option Plc} {rest : List Value} (hi : InRow W 0 f n li iv pi) (hm : MRowS W 1 a b k lm mv pm) (hd : MRowS W 2 c d l ld dv pd) (hp : plainL rest = true)
    (h : LCalls Try.prog F (svV s li lm ld :: rest) (mkH [some (ints .u8 f n), some (bytes2 a b k), some (bytes2 c d l)]) (fun u _ => u = .bool true)) :
    Calls Try.prog F ⟨svV s iv mv dv :: rest⟩ W (fun e W' => e = .returned (.bool true) ∧ Below W.heap.size W W') := by
  have hrep : Rep (rowsRenW [pi, pm, pd] (fun i => if i = 0 then 1 else 2)) (mkH [some (ints .u8 f n), some (bytes2 a b k), some (bytes2 c d l)]) W := by
    refine rowsW_rep (l := [pi, pm, pd]) (rs := [(1, fun e _ => .int .u8 (f e), n), (2, fun e j => match j with | 0 => .int .u16 (a e) | _ + 1 => .int .u8 (b e), k), (2, fun e j => match j with | 0 => .int .u16 (c e) | _ + 1 => .int .u8 (d e), l)]) rfl (by simp) (fun i q hq => ?_) (fun i k' g n' hr => ?_)
    · match i, hq with
      | 0, hq =>
        simp at hq
        rcases hi with ⟨_, _, _, rfl⟩ | ⟨_, hr⟩
        · cases hq
        · exact hr.low q hq
      | 1, hq =>
        simp at hq
        rcases hm with ⟨_, _, _, rfl⟩ | ⟨_, hr⟩
        · cases hq
        · exact hr.low q hq
      | 2, hq =>
        simp at hq
        rcases hd with ⟨_, _, _, rfl⟩ | ⟨_, hr⟩
        · cases hq
        · exact hr.low q hq
      | i + 3, hq => simp at hq
    · match i, hr with
      | 0, hr =>
        simp at hr
        obtain ⟨rfl, rfl, rfl⟩ := hr
        refine ⟨rfl, fun e j he hj => ?_⟩
        rcases hi with ⟨_, _, h0, _⟩ | ⟨_, hr⟩
        · omega
        · exact ⟨hr.one e j he hj, hr.cell e j he hj⟩
      | 1, hr =>
        simp at hr
        obtain ⟨rfl, rfl, rfl⟩ := hr
        refine ⟨rfl, fun e j he hj => ?_⟩
        rcases hm with ⟨_, _, h0, _⟩ | ⟨_, hr⟩
        · omega
        · exact ⟨hr.one e j he hj, hr.cell e j he hj⟩
      | 2, hr =>
        simp at hr
        obtain ⟨rfl, rfl, rfl⟩ := hr
        refine ⟨rfl, fun e j he hj => ?_⟩
        rcases hd with ⟨_, _, h0, _⟩ | ⟨_, hr⟩
        · omega
        · exact ⟨hr.one e j he hj, hr.cell e j he hj⟩
      | i + 3, hr => simp at hr
  have vi : VR (rowsRenW [pi, pm, pd] (fun i => if i = 0 then 1 else 2)) li iv := by
    rcases hi with ⟨rfl, rfl, _, _⟩ | ⟨rfl, hr⟩
    · simp [VR]
    · exact slW_VR hr rfl
  have vm : VR (rowsRenW [pi, pm, pd] (fun i => if i = 0 then 1 else 2)) lm mv := by
    rcases hm with ⟨rfl, rfl, _, _⟩ | ⟨rfl, hr⟩
    · simp [VR]
    · exact VR_sls (slW_VR hr rfl)
  have vd : VR (rowsRenW [pi, pm, pd] (fun i => if i = 0 then 1 else 2)) ld dv := by
    rcases hd with ⟨rfl, rfl, _, _⟩ | ⟨rfl, hr⟩
    · simp [VR]
    · exact VR_sls (slW_VR hr rfl)
  refine calls_ro h rfl ?_ hrep (fun _ => rfl)
  simp only [VRL]
  refine ⟨_, rest, ?_, plainL_VR _ hp, rfl⟩
  simp only [svV, VR, VRL]
  exact ⟨_, ⟨_, _, rfl, ⟨_, _, rfl, ⟨_, _, rfl, ⟨_, _, rfl, ⟨_, _, rfl, ⟨_, _, rfl, ⟨_, _, rfl, ⟨_, _, rfl, ⟨_, _, rfl, ⟨_, _, rfl, ⟨_, _, rfl, ⟨_, _, rfl, ⟨_, _, rfl, ⟨_, _, rfl, ⟨_, _, rfl, ⟨_, _, vi, ⟨_, _, vm, ⟨_, _, vd, rfl, rfl⟩, rfl⟩, rfl⟩, rfl⟩, rfl⟩, rfl⟩, rfl⟩, rfl⟩, rfl⟩, rfl⟩, rfl⟩, rfl⟩, rfl⟩, rfl⟩, rfl⟩, rfl⟩, rfl⟩, rfl⟩, rfl⟩
abbrev TrueAt (F : FuncId) (args : List Value) (r0 r1 r2 : LO) : Prop := LCalls Try.prog F args (mkH [some r0, some r1, some r2]) (fun u _ => u = .bool true)
theorem start_law {W : World} {F : FuncId} {v : Value} {rest : List Value} (h : ∃ cs, v = .agg ⟨cs⟩ ∧ CksOk W [.int .u16, .int .u16, .int .u16, .int .u16, .int .u16, .int .u16, .int .u16, .int .u16, .bool, .bool, .bool, .bool, .bool, .int .u16, .bool, .slice [.int .u8], .slice [.int .u16, .int .u8], .slice [.int .u16, .int .u8]] cs) (hp : plainL rest = true)
    (hNNN : ∀ (s : Sv) (n k l : Nat) (f fa fb fc fd : Nat → Int), s.Ok → TrueAt F (svV s nilS nilS nilS :: rest) (ints .u8 f n) (bytes2 fa fb k) (bytes2 fc fd l))
    (hNNS : ∀ (s : Sv) (n k l : Nat) (f fa fb fc fd : Nat → Int), s.Ok → (∀ e, e < l → B16 (fc e) ∧ B8 (fd e)) → TrueAt F (svV s nilS nilS (sls 2 l) :: rest) (ints .u8 f n) (bytes2 fa fb k) (bytes2 fc fd l))
    (hNEN : ∀ (s : Sv) (n k l : Nat) (f fa fb fc fd : Nat → Int), s.Ok → TrueAt F (svV s nilS (sls 1 0) nilS :: rest) (ints .u8 f n) (bytes2 fa fb 0) (bytes2 fc fd l))
    (hNES : ∀ (s : Sv) (n k l : Nat) (f fa fb fc fd : Nat → Int), s.Ok → (∀ e, e < l → B16 (fc e) ∧ B8 (fd e)) → TrueAt F (svV s nilS (sls 1 0) (sls 2 l) :: rest) (ints .u8 f n) (bytes2 fa fb 0) (bytes2 fc fd l))
    (hNRN : ∀ (s : Sv) (n k l : Nat) (f fa fb fc fd : Nat → Int), s.Ok → (∀ e, e < k + 1 → B16 (fa e) ∧ B8 (fb e)) → TrueAt F (svV s nilS (sls 1 (k + 1)) nilS :: rest) (ints .u8 f n) (bytes2 fa fb (k + 1)) (bytes2 fc fd l))
    (hNRS : ∀ (s : Sv) (n k l : Nat) (f fa fb fc fd : Nat → Int), s.Ok → (∀ e, e < k + 1 → B16 (fa e) ∧ B8 (fb e)) → (∀ e, e < l → B16 (fc e) ∧ B8 (fd e)) → TrueAt F (svV s nilS (sls 1 (k + 1)) (sls 2 l) :: rest) (ints .u8 f n) (bytes2 fa fb (k + 1)) (bytes2 fc fd l))
    (hENN : ∀ (s : Sv) (n k l : Nat) (f fa fb fc fd : Nat → Int), s.Ok → TrueAt F (svV s (sl 0 0) nilS nilS :: rest) (ints .u8 f 0) (bytes2 fa fb k) (bytes2 fc fd l))
    (hENS : ∀ (s : Sv) (n k l : Nat) (f fa fb fc fd : Nat → Int), s.Ok → (∀ e, e < l → B16 (fc e) ∧ B8 (fd e)) → TrueAt F (svV s (sl 0 0) nilS (sls 2 l) :: rest) (ints .u8 f 0) (bytes2 fa fb k) (bytes2 fc fd l))
    (hEEN : ∀ (s : Sv) (n k l : Nat) (f fa fb fc fd : Nat → Int), s.Ok → TrueAt F (svV s (sl 0 0) (sls 1 0) nilS :: rest) (ints .u8 f 0) (bytes2 fa fb 0) (bytes2 fc fd l))
    (hEES : ∀ (s : Sv) (n k l : Nat) (f fa fb fc fd : Nat → Int), s.Ok → (∀ e, e < l → B16 (fc e) ∧ B8 (fd e)) → TrueAt F (svV s (sl 0 0) (sls 1 0) (sls 2 l) :: rest) (ints .u8 f 0) (bytes2 fa fb 0) (bytes2 fc fd l))
    (hERN : ∀ (s : Sv) (n k l : Nat) (f fa fb fc fd : Nat → Int), s.Ok → (∀ e, e < k + 1 → B16 (fa e) ∧ B8 (fb e)) → TrueAt F (svV s (sl 0 0) (sls 1 (k + 1)) nilS :: rest) (ints .u8 f 0) (bytes2 fa fb (k + 1)) (bytes2 fc fd l))
    (hERS : ∀ (s : Sv) (n k l : Nat) (f fa fb fc fd : Nat → Int), s.Ok → (∀ e, e < k + 1 → B16 (fa e) ∧ B8 (fb e)) → (∀ e, e < l → B16 (fc e) ∧ B8 (fd e)) → TrueAt F (svV s (sl 0 0) (sls 1 (k + 1)) (sls 2 l) :: rest) (ints .u8 f 0) (bytes2 fa fb (k + 1)) (bytes2 fc fd l))
    (hRNN : ∀ (s : Sv) (n k l : Nat) (f fa fb fc fd : Nat → Int), s.Ok → (∀ e, e < n + 1 → B8 (f e)) → TrueAt F (svV s (sl 0 (n + 1)) nilS nilS :: rest) (ints .u8 f (n + 1)) (bytes2 fa fb k) (bytes2 fc fd l))
    (hRNS : ∀ (s : Sv) (n k l : Nat) (f fa fb fc fd : Nat → Int), s.Ok → (∀ e, e < n + 1 → B8 (f e)) → (∀ e, e < l → B16 (fc e) ∧ B8 (fd e)) → TrueAt F (svV s (sl 0 (n + 1)) nilS (sls 2 l) :: rest) (ints .u8 f (n + 1)) (bytes2 fa fb k) (bytes2 fc fd l))
    (hREN : ∀ (s : Sv) (n k l : Nat) (f fa fb fc fd : Nat → Int), s.Ok → (∀ e, e < n + 1 → B8 (f e)) → TrueAt F (svV s (sl 0 (n + 1)) (sls 1 0) nilS :: rest) (ints .u8 f (n + 1)) (bytes2 fa fb 0) (bytes2 fc fd l))
    (hRES : ∀ (s : Sv) (n k l : Nat) (f fa fb fc fd : Nat → Int), s.Ok → (∀ e, e < n + 1 → B8 (f e)) → (∀ e, e < l → B16 (fc e) ∧ B8 (fd e)) → TrueAt F (svV s (sl 0 (n + 1)) (sls 1 0) (sls 2 l) :: rest) (ints .u8 f (n + 1)) (bytes2 fa fb 0) (bytes2 fc fd l))
    (hRRN : ∀ (s : Sv) (n k l : Nat) (f fa fb fc fd : Nat → Int), s.Ok → (∀ e, e < n + 1 → B8 (f e)) → (∀ e, e < k + 1 → B16 (fa e) ∧ B8 (fb e)) → TrueAt F (svV s (sl 0 (n + 1)) (sls 1 (k + 1)) nilS :: rest) (ints .u8 f (n + 1)) (bytes2 fa fb (k + 1)) (bytes2 fc fd l))
    (hRRS : ∀ (s : Sv) (n k l : Nat) (f fa fb fc fd : Nat → Int), s.Ok → (∀ e, e < n + 1 → B8 (f e)) → (∀ e, e < k + 1 → B16 (fa e) ∧ B8 (fb e)) → (∀ e, e < l → B16 (fc e) ∧ B8 (fd e)) → TrueAt F (svV s (sl 0 (n + 1)) (sls 1 (k + 1)) (sls 2 l) :: rest) (ints .u8 f (n + 1)) (bytes2 fa fb (k + 1)) (bytes2 fc fd l)) :
    Calls Try.prog F ⟨v :: rest⟩ W (fun e W' => e = .returned (.bool true) ∧ Below W.heap.size W W') := by
  obtain ⟨s, iv, cv, dv, hs, rfl, hi, hc, hd⟩ := sv_open h
  obtain ⟨f, n, li, pi, hI, hf, _⟩ := in_cases hi
  obtain ⟨a, b, k, lc, pc, hC, hb, _⟩ := m_casesS 1 hc
  obtain ⟨c, d, l, ld, pd, hD, hdd, _⟩ := m_casesS 2 hd
  refine calls_startS hI hC hD hp ?_
  rcases hI with ⟨rfl, _, _, _⟩ | ⟨rfl, _⟩ <;> rcases hC with ⟨rfl, _, _, _⟩ | ⟨rfl, _⟩ <;> rcases hD with ⟨rfl, _, _, _⟩ | ⟨rfl, _⟩
  · exact hNNN s n k l f a b c d hs
  · exact hNNS s n k l f a b c d hs hdd
  · rcases k with _ | k
    · exact hNEN s n 0 l f a b c d hs
    · exact hNRN s n k l f a b c d hs hb
  · rcases k with _ | k
    · exact hNES s n 0 l f a b c d hs hdd
    · exact hNRS s n k l f a b c d hs hb hdd
  · rcases n with _ | n
    · exact hENN s 0 k l f a b c d hs
    · exact hRNN s n k l f a b c d hs hf
  · rcases n with _ | n
    · exact hENS s 0 k l f a b c d hs hdd
    · exact hRNS s n k l f a b c d hs hf hdd
  · rcases n with _ | n <;> rcases k with _ | k
    · exact hEEN s 0 0 l f a b c d hs
    · exact hERN s 0 k l f a b c d hs hb
    · exact hREN s n 0 l f a b c d hs hf
    · exact hRRN s n k l f a b c d hs hf hb
  · rcases n with _ | n <;> rcases k with _ | k
    · exact hEES s 0 0 l f a b c d hs hdd
    · exact hERS s 0 k l f a b c d hs hb hdd
    · exact hRES s n 0 l f a b c d hs hf hdd
    · exact hRRS s n k l f a b c d hs hf hb hdd
end Go.Proofs.Ytnknopebjdgdjaa
end
