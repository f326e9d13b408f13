/- Part 21 of the texts that the law needs, laid together. By program (pack.py). -/
import Derived.Test.YtnknopebjdgdjaaPfh
import Derived.Test.YtnknopebjdgdjaaPfr
import Derived.Test.YtnknopebjdgdjaaPfs
import Derived.Test.YtnknopebjdgdjaaPft
import Derived.KernelRfl
set_option linter.unusedVariables false
set_option linter.unusedSimpArgs false
noncomputable section
namespace Go.Proofs.Ytnknopebjdgdjaa
open Go Go.Ly Go.RowKit
set_option linter.unusedSectionVars false
set_option maxRecDepth 100000
set_option maxHeartbeats 4000000
section
variable (s : Sv) (n k l : Nat) (f fa fb fc fd : Nat → Int) (op d sr x : Int)
include s n k l f fa fb fc fd op d sr x
abbrev uo : RT Unit := .l ()
def q7_NNN (n k l : Nat) (op d sr x : Int) : RT Unit := .b 0 (yRk op d sr x).1 (.b 22 (y18 op).1 (.b 3 (yNe d 5).1 (.b 3 (yNe sr 5).1 (.b 3 (yNe d 9).1 (.t 3 (yNf sr 9).1 uo) uo) uo) uo) uo) (.f 18 (yRt op d sr x).1 uo)
theorem s7_NNN (hg : ¬ (rk6 op d sr x = 0 ∧ op < 18 ∧ d ≠ 5 ∧ sr ≠ 5 ∧ d ≠ 9 ∧ sr ≠ 9)) : (q7_NNN n k l op d sr x).sat (fun _ => True) := by
  unfold q7_NNN
  repeat' with_reducible first | refine RT.sl trivial | refine RT.sb (fun _ => ?_) (fun _ => ?_) | refine RT.st ?_ (fun _ => ?_) | refine RT.sf ?_ (fun _ => ?_)
  all_goals (simp only [yRk, yRt, tLi_e, tLc_e, tLd_e, tMe_e, y18, yNe, yNf, beq_iff_eq, beq_eq_false_iff_ne, decide_eq_true_eq, decide_eq_false_iff_not, ne_eq, bne_iff_ne, bne_eq_false_iff_eq, Bool.not_eq_eq_eq_not, Bool.not_true, Bool.not_false, Bool.not_eq_true, Bool.not_eq_false] at *; omega)
theorem w7_NNN (hR : Rw16 (mOf s)) : LCalls Try.prog 7 (A7 s nilS nilS nilS op d sr x) (mkH (X7 f n fa fb k fc fd l)) (fun u _ => u = .bool true) := by
  by_cases hg : rk6 op d sr x = 0 ∧ op < 18 ∧ d ≠ 5 ∧ sr ≠ 5 ∧ d ≠ 9 ∧ sr ≠ 9
  · obtain ⟨hrk, o2, d5, s5, d9, s9⟩ := hg
    have o1 := op_pos (rk6_hd hrk)
    rcases lenB6_rng op d sr with hL | hL | hL | hL
    · exact g7_1NNN s n k l f fa fb fc fd op d sr x ⟨hR, hrk, hL, o1, o2, d5, d9, s5, s9⟩
    · exact g7_2NNN s n k l f fa fb fc fd op d sr x ⟨hR, hrk, hL, o1, o2, d5, d9, s5, s9⟩
    · exact g7_3NNN s n k l f fa fb fc fd op d sr x ⟨hR, hrk, hL, o1, o2, d5, d9, s5, s9⟩
    · exact g7_4NNN s n k l f fa fb fc fd op d sr x ⟨hR, hrk, hL, o1, o2, d5, d9, s5, s9⟩
  exact out7 (T := q7_NNN n k l op d sr x) (by kernel_rfl) (by kernel_rfl) (s7_NNN s n k l f fa fb fc fd op d sr x hg)
def q7_NNS (n k l : Nat) (op d sr x : Int) : RT Unit := .b 0 (yRk op d sr x).1 (.b 10 (tLd l).1 (.b 11 (y18 op).1 (.b 3 (yNe d 5).1 (.b 3 (yNe sr 5).1 (.b 3 (yNe d 9).1 (.t 3 (yNf sr 9).1 uo) uo) uo) uo) uo) uo) (.b 10 (tLd l).1 (.f 7 (yRt op d sr x).1 uo) uo)
theorem s7_NNS (hg : ¬ (rk6 op d sr x = 0 ∧ l ≤ 300 ∧ op < 18 ∧ d ≠ 5 ∧ sr ≠ 5 ∧ d ≠ 9 ∧ sr ≠ 9)) : (q7_NNS n k l op d sr x).sat (fun _ => True) := by
  unfold q7_NNS
  repeat' with_reducible first | refine RT.sl trivial | refine RT.sb (fun _ => ?_) (fun _ => ?_) | refine RT.st ?_ (fun _ => ?_) | refine RT.sf ?_ (fun _ => ?_)
  all_goals (simp only [yRk, yRt, tLi_e, tLc_e, tLd_e, tMe_e, y18, yNe, yNf, beq_iff_eq, beq_eq_false_iff_ne, decide_eq_true_eq, decide_eq_false_iff_not, ne_eq, bne_iff_ne, bne_eq_false_iff_eq, Bool.not_eq_eq_eq_not, Bool.not_true, Bool.not_false, Bool.not_eq_true, Bool.not_eq_false] at *; omega)
theorem w7_NNS (hR : Rw16 (mOf s)) (hd : ∀ e, e < l → B16 (fc e) ∧ B8 (fd e)) : LCalls Try.prog 7 (A7 s nilS nilS (sls 2 l) op d sr x) (mkH (X7 f n fa fb k fc fd l)) (fun u _ => u = .bool true) := by
  by_cases hg : rk6 op d sr x = 0 ∧ l ≤ 300 ∧ op < 18 ∧ d ≠ 5 ∧ sr ≠ 5 ∧ d ≠ 9 ∧ sr ≠ 9
  · obtain ⟨hrk, hLd, o2, d5, s5, d9, s9⟩ := hg
    have o1 := op_pos (rk6_hd hrk)
    rcases lenB6_rng op d sr with hL | hL | hL | hL
    · exact g7_1NNS s n k l f fa fb fc fd op d sr x hLd hd ⟨hR, hrk, hL, o1, o2, d5, d9, s5, s9⟩
    · exact g7_2NNS s n k l f fa fb fc fd op d sr x hLd hd ⟨hR, hrk, hL, o1, o2, d5, d9, s5, s9⟩
    · exact g7_3NNS s n k l f fa fb fc fd op d sr x hLd hd ⟨hR, hrk, hL, o1, o2, d5, d9, s5, s9⟩
    · exact g7_4NNS s n k l f fa fb fc fd op d sr x hLd hd ⟨hR, hrk, hL, o1, o2, d5, d9, s5, s9⟩
  exact out7 (T := q7_NNS n k l op d sr x) (by kernel_rfl) (by kernel_rfl) (s7_NNS s n k l f fa fb fc fd op d sr x hg)
def q7_NEN (n k l : Nat) (op d sr x : Int) : RT Unit := .b 0 (yRk op d sr x).1 (.b 22 (y18 op).1 (.b 3 (yNe d 5).1 (.b 3 (yNe sr 5).1 (.b 3 (yNe d 9).1 (.t 3 (yNf sr 9).1 uo) uo) uo) uo) uo) (.f 18 (yRt op d sr x).1 uo)
theorem s7_NEN (hg : ¬ (rk6 op d sr x = 0 ∧ op < 18 ∧ d ≠ 5 ∧ sr ≠ 5 ∧ d ≠ 9 ∧ sr ≠ 9)) : (q7_NEN n k l op d sr x).sat (fun _ => True) := by
  unfold q7_NEN
  repeat' with_reducible first | refine RT.sl trivial | refine RT.sb (fun _ => ?_) (fun _ => ?_) | refine RT.st ?_ (fun _ => ?_) | refine RT.sf ?_ (fun _ => ?_)
  all_goals (simp only [yRk, yRt, tLi_e, tLc_e, tLd_e, tMe_e, y18, yNe, yNf, beq_iff_eq, beq_eq_false_iff_ne, decide_eq_true_eq, decide_eq_false_iff_not, ne_eq, bne_iff_ne, bne_eq_false_iff_eq, Bool.not_eq_eq_eq_not, Bool.not_true, Bool.not_false, Bool.not_eq_true, Bool.not_eq_false] at *; omega)
theorem w7_NEN (hR : Rw16 (mOf s)) : LCalls Try.prog 7 (A7 s nilS (sls 1 0) nilS op d sr x) (mkH (X7 f n fa fb 0 fc fd l)) (fun u _ => u = .bool true) := by
  by_cases hg : rk6 op d sr x = 0 ∧ op < 18 ∧ d ≠ 5 ∧ sr ≠ 5 ∧ d ≠ 9 ∧ sr ≠ 9
  · obtain ⟨hrk, o2, d5, s5, d9, s9⟩ := hg
    have o1 := op_pos (rk6_hd hrk)
    rcases lenB6_rng op d sr with hL | hL | hL | hL
    · exact g7_1NEN s n k l f fa fb fc fd op d sr x ⟨hR, hrk, hL, o1, o2, d5, d9, s5, s9⟩
    · exact g7_2NEN s n k l f fa fb fc fd op d sr x ⟨hR, hrk, hL, o1, o2, d5, d9, s5, s9⟩
    · exact g7_3NEN s n k l f fa fb fc fd op d sr x ⟨hR, hrk, hL, o1, o2, d5, d9, s5, s9⟩
    · exact g7_4NEN s n k l f fa fb fc fd op d sr x ⟨hR, hrk, hL, o1, o2, d5, d9, s5, s9⟩
  exact out7 (T := q7_NEN n k l op d sr x) (by kernel_rfl) (by kernel_rfl) (s7_NEN s n k l f fa fb fc fd op d sr x hg)
def q7_NES (n k l : Nat) (op d sr x : Int) : RT Unit := .b 0 (yRk op d sr x).1 (.b 10 (tLd l).1 (.b 11 (y18 op).1 (.b 3 (yNe d 5).1 (.b 3 (yNe sr 5).1 (.b 3 (yNe d 9).1 (.t 3 (yNf sr 9).1 uo) uo) uo) uo) uo) uo) (.b 10 (tLd l).1 (.f 7 (yRt op d sr x).1 uo) uo)
theorem s7_NES (hg : ¬ (rk6 op d sr x = 0 ∧ l ≤ 300 ∧ op < 18 ∧ d ≠ 5 ∧ sr ≠ 5 ∧ d ≠ 9 ∧ sr ≠ 9)) : (q7_NES n k l op d sr x).sat (fun _ => True) := by
  unfold q7_NES
  repeat' with_reducible first | refine RT.sl trivial | refine RT.sb (fun _ => ?_) (fun _ => ?_) | refine RT.st ?_ (fun _ => ?_) | refine RT.sf ?_ (fun _ => ?_)
  all_goals (simp only [yRk, yRt, tLi_e, tLc_e, tLd_e, tMe_e, y18, yNe, yNf, beq_iff_eq, beq_eq_false_iff_ne, decide_eq_true_eq, decide_eq_false_iff_not, ne_eq, bne_iff_ne, bne_eq_false_iff_eq, Bool.not_eq_eq_eq_not, Bool.not_true, Bool.not_false, Bool.not_eq_true, Bool.not_eq_false] at *; omega)
theorem w7_NES (hR : Rw16 (mOf s)) (hd : ∀ e, e < l → B16 (fc e) ∧ B8 (fd e)) : LCalls Try.prog 7 (A7 s nilS (sls 1 0) (sls 2 l) op d sr x) (mkH (X7 f n fa fb 0 fc fd l)) (fun u _ => u = .bool true) := by
  by_cases hg : rk6 op d sr x = 0 ∧ l ≤ 300 ∧ op < 18 ∧ d ≠ 5 ∧ sr ≠ 5 ∧ d ≠ 9 ∧ sr ≠ 9
  · obtain ⟨hrk, hLd, o2, d5, s5, d9, s9⟩ := hg
    have o1 := op_pos (rk6_hd hrk)
    rcases lenB6_rng op d sr with hL | hL | hL | hL
    · exact g7_1NES s n k l f fa fb fc fd op d sr x hLd hd ⟨hR, hrk, hL, o1, o2, d5, d9, s5, s9⟩
    · exact g7_2NES s n k l f fa fb fc fd op d sr x hLd hd ⟨hR, hrk, hL, o1, o2, d5, d9, s5, s9⟩
    · exact g7_3NES s n k l f fa fb fc fd op d sr x hLd hd ⟨hR, hrk, hL, o1, o2, d5, d9, s5, s9⟩
    · exact g7_4NES s n k l f fa fb fc fd op d sr x hLd hd ⟨hR, hrk, hL, o1, o2, d5, d9, s5, s9⟩
  exact out7 (T := q7_NES n k l op d sr x) (by kernel_rfl) (by kernel_rfl) (s7_NES s n k l f fa fb fc fd op d sr x hg)
def q7_NRN (n k l : Nat) (op d sr x : Int) : RT Unit := .b 0 (yRk op d sr x).1 (.b 5 (tLc k).1 (.b 16 (y18 op).1 (.b 3 (yNe d 5).1 (.b 3 (yNe sr 5).1 (.b 3 (yNe d 9).1 (.t 3 (yNf sr 9).1 uo) uo) uo) uo) uo) uo) (.b 5 (tLc k).1 (.f 12 (yRt op d sr x).1 uo) uo)
theorem s7_NRN (hg : ¬ (rk6 op d sr x = 0 ∧ k + 1 ≤ 600 ∧ op < 18 ∧ d ≠ 5 ∧ sr ≠ 5 ∧ d ≠ 9 ∧ sr ≠ 9)) : (q7_NRN n k l op d sr x).sat (fun _ => True) := by
  unfold q7_NRN
  repeat' with_reducible first | refine RT.sl trivial | refine RT.sb (fun _ => ?_) (fun _ => ?_) | refine RT.st ?_ (fun _ => ?_) | refine RT.sf ?_ (fun _ => ?_)
  all_goals (simp only [yRk, yRt, tLi_e, tLc_e, tLd_e, tMe_e, y18, yNe, yNf, beq_iff_eq, beq_eq_false_iff_ne, decide_eq_true_eq, decide_eq_false_iff_not, ne_eq, bne_iff_ne, bne_eq_false_iff_eq, Bool.not_eq_eq_eq_not, Bool.not_true, Bool.not_false, Bool.not_eq_true, Bool.not_eq_false] at *; omega)
theorem w7_NRN (hR : Rw16 (mOf s)) (hb : ∀ e, e < k + 1 → B16 (fa e) ∧ B8 (fb e)) : LCalls Try.prog 7 (A7 s nilS (sls 1 (k + 1)) nilS op d sr x) (mkH (X7 f n fa fb (k + 1) fc fd l)) (fun u _ => u = .bool true) := by
  by_cases hg : rk6 op d sr x = 0 ∧ k + 1 ≤ 600 ∧ op < 18 ∧ d ≠ 5 ∧ sr ≠ 5 ∧ d ≠ 9 ∧ sr ≠ 9
  · obtain ⟨hrk, hLc, o2, d5, s5, d9, s9⟩ := hg
    have o1 := op_pos (rk6_hd hrk)
    rcases lenB6_rng op d sr with hL | hL | hL | hL
    · exact g7_1NRN s n k l f fa fb fc fd op d sr x hLc hb ⟨hR, hrk, hL, o1, o2, d5, d9, s5, s9⟩
    · exact g7_2NRN s n k l f fa fb fc fd op d sr x hLc hb ⟨hR, hrk, hL, o1, o2, d5, d9, s5, s9⟩
    · exact g7_3NRN s n k l f fa fb fc fd op d sr x hLc hb ⟨hR, hrk, hL, o1, o2, d5, d9, s5, s9⟩
    · exact g7_4NRN s n k l f fa fb fc fd op d sr x hLc hb ⟨hR, hrk, hL, o1, o2, d5, d9, s5, s9⟩
  exact out7 (T := q7_NRN n k l op d sr x) (by kernel_rfl) (by kernel_rfl) (s7_NRN s n k l f fa fb fc fd op d sr x hg)
def q7_NRS (n k l : Nat) (op d sr x : Int) : RT Unit := .b 0 (yRk op d sr x).1 (.b 5 (tLc k).1 (.b 4 (tLd l).1 (.b 11 (y18 op).1 (.b 3 (yNe d 5).1 (.b 3 (yNe sr 5).1 (.b 3 (yNe d 9).1 (.t 3 (yNf sr 9).1 uo) uo) uo) uo) uo) uo) uo) (.b 5 (tLc k).1 (.b 4 (tLd l).1 (.f 7 (yRt op d sr x).1 uo) uo) uo)
theorem s7_NRS (hg : ¬ (rk6 op d sr x = 0 ∧ k + 1 ≤ 600 ∧ l ≤ 300 ∧ op < 18 ∧ d ≠ 5 ∧ sr ≠ 5 ∧ d ≠ 9 ∧ sr ≠ 9)) : (q7_NRS n k l op d sr x).sat (fun _ => True) := by
  unfold q7_NRS
  repeat' with_reducible first | refine RT.sl trivial | refine RT.sb (fun _ => ?_) (fun _ => ?_) | refine RT.st ?_ (fun _ => ?_) | refine RT.sf ?_ (fun _ => ?_)
  all_goals (simp only [yRk, yRt, tLi_e, tLc_e, tLd_e, tMe_e, y18, yNe, yNf, beq_iff_eq, beq_eq_false_iff_ne, decide_eq_true_eq, decide_eq_false_iff_not, ne_eq, bne_iff_ne, bne_eq_false_iff_eq, Bool.not_eq_eq_eq_not, Bool.not_true, Bool.not_false, Bool.not_eq_true, Bool.not_eq_false] at *; omega)
theorem w7_NRS (hR : Rw16 (mOf s)) (hb : ∀ e, e < k + 1 → B16 (fa e) ∧ B8 (fb e)) (hd : ∀ e, e < l → B16 (fc e) ∧ B8 (fd e)) : LCalls Try.prog 7 (A7 s nilS (sls 1 (k + 1)) (sls 2 l) op d sr x) (mkH (X7 f n fa fb (k + 1) fc fd l)) (fun u _ => u = .bool true) := by
  by_cases hg : rk6 op d sr x = 0 ∧ k + 1 ≤ 600 ∧ l ≤ 300 ∧ op < 18 ∧ d ≠ 5 ∧ sr ≠ 5 ∧ d ≠ 9 ∧ sr ≠ 9
  · obtain ⟨hrk, hLc, hLd, o2, d5, s5, d9, s9⟩ := hg
    have o1 := op_pos (rk6_hd hrk)
    rcases lenB6_rng op d sr with hL | hL | hL | hL
    · exact g7_1NRS s n k l f fa fb fc fd op d sr x hLc hb hLd hd ⟨hR, hrk, hL, o1, o2, d5, d9, s5, s9⟩
    · exact g7_2NRS s n k l f fa fb fc fd op d sr x hLc hb hLd hd ⟨hR, hrk, hL, o1, o2, d5, d9, s5, s9⟩
    · exact g7_3NRS s n k l f fa fb fc fd op d sr x hLc hb hLd hd ⟨hR, hrk, hL, o1, o2, d5, d9, s5, s9⟩
    · exact g7_4NRS s n k l f fa fb fc fd op d sr x hLc hb hLd hd ⟨hR, hrk, hL, o1, o2, d5, d9, s5, s9⟩
  exact out7 (T := q7_NRS n k l op d sr x) (by kernel_rfl) (by kernel_rfl) (s7_NRS s n k l f fa fb fc fd op d sr x hg)
def q7_ENN (n k l : Nat) (op d sr x : Int) : RT Unit := .b 0 (yRk op d sr x).1 (.b 22 (y18 op).1 (.b 3 (yNe d 5).1 (.b 3 (yNe sr 5).1 (.b 3 (yNe d 9).1 (.t 3 (yNf sr 9).1 uo) uo) uo) uo) uo) (.f 18 (yRt op d sr x).1 uo)
theorem s7_ENN (hg : ¬ (rk6 op d sr x = 0 ∧ op < 18 ∧ d ≠ 5 ∧ sr ≠ 5 ∧ d ≠ 9 ∧ sr ≠ 9)) : (q7_ENN n k l op d sr x).sat (fun _ => True) := by
  unfold q7_ENN
  repeat' with_reducible first | refine RT.sl trivial | refine RT.sb (fun _ => ?_) (fun _ => ?_) | refine RT.st ?_ (fun _ => ?_) | refine RT.sf ?_ (fun _ => ?_)
  all_goals (simp only [yRk, yRt, tLi_e, tLc_e, tLd_e, tMe_e, y18, yNe, yNf, beq_iff_eq, beq_eq_false_iff_ne, decide_eq_true_eq, decide_eq_false_iff_not, ne_eq, bne_iff_ne, bne_eq_false_iff_eq, Bool.not_eq_eq_eq_not, Bool.not_true, Bool.not_false, Bool.not_eq_true, Bool.not_eq_false] at *; omega)
theorem w7_ENN (hR : Rw16 (mOf s)) : LCalls Try.prog 7 (A7 s (sl 0 0) nilS nilS op d sr x) (mkH (X7 f 0 fa fb k fc fd l)) (fun u _ => u = .bool true) := by
  by_cases hg : rk6 op d sr x = 0 ∧ op < 18 ∧ d ≠ 5 ∧ sr ≠ 5 ∧ d ≠ 9 ∧ sr ≠ 9
  · obtain ⟨hrk, o2, d5, s5, d9, s9⟩ := hg
    have o1 := op_pos (rk6_hd hrk)
    rcases lenB6_rng op d sr with hL | hL | hL | hL
    · exact g7_1ENN s n k l f fa fb fc fd op d sr x ⟨hR, hrk, hL, o1, o2, d5, d9, s5, s9⟩
    · exact g7_2ENN s n k l f fa fb fc fd op d sr x ⟨hR, hrk, hL, o1, o2, d5, d9, s5, s9⟩
    · exact g7_3ENN s n k l f fa fb fc fd op d sr x ⟨hR, hrk, hL, o1, o2, d5, d9, s5, s9⟩
    · exact g7_4ENN s n k l f fa fb fc fd op d sr x ⟨hR, hrk, hL, o1, o2, d5, d9, s5, s9⟩
  exact out7 (T := q7_ENN n k l op d sr x) (by kernel_rfl) (by kernel_rfl) (s7_ENN s n k l f fa fb fc fd op d sr x hg)
def q7_ENS (n k l : Nat) (op d sr x : Int) : RT Unit := .b 0 (yRk op d sr x).1 (.b 10 (tLd l).1 (.b 11 (y18 op).1 (.b 3 (yNe d 5).1 (.b 3 (yNe sr 5).1 (.b 3 (yNe d 9).1 (.t 3 (yNf sr 9).1 uo) uo) uo) uo) uo) uo) (.b 10 (tLd l).1 (.f 7 (yRt op d sr x).1 uo) uo)
theorem s7_ENS (hg : ¬ (rk6 op d sr x = 0 ∧ l ≤ 300 ∧ op < 18 ∧ d ≠ 5 ∧ sr ≠ 5 ∧ d ≠ 9 ∧ sr ≠ 9)) : (q7_ENS n k l op d sr x).sat (fun _ => True) := by
  unfold q7_ENS
  repeat' with_reducible first | refine RT.sl trivial | refine RT.sb (fun _ => ?_) (fun _ => ?_) | refine RT.st ?_ (fun _ => ?_) | refine RT.sf ?_ (fun _ => ?_)
  all_goals (simp only [yRk, yRt, tLi_e, tLc_e, tLd_e, tMe_e, y18, yNe, yNf, beq_iff_eq, beq_eq_false_iff_ne, decide_eq_true_eq, decide_eq_false_iff_not, ne_eq, bne_iff_ne, bne_eq_false_iff_eq, Bool.not_eq_eq_eq_not, Bool.not_true, Bool.not_false, Bool.not_eq_true, Bool.not_eq_false] at *; omega)
theorem w7_ENS (hR : Rw16 (mOf s)) (hd : ∀ e, e < l → B16 (fc e) ∧ B8 (fd e)) : LCalls Try.prog 7 (A7 s (sl 0 0) nilS (sls 2 l) op d sr x) (mkH (X7 f 0 fa fb k fc fd l)) (fun u _ => u = .bool true) := by
  by_cases hg : rk6 op d sr x = 0 ∧ l ≤ 300 ∧ op < 18 ∧ d ≠ 5 ∧ sr ≠ 5 ∧ d ≠ 9 ∧ sr ≠ 9
  · obtain ⟨hrk, hLd, o2, d5, s5, d9, s9⟩ := hg
    have o1 := op_pos (rk6_hd hrk)
    rcases lenB6_rng op d sr with hL | hL | hL | hL
    · exact g7_1ENS s n k l f fa fb fc fd op d sr x hLd hd ⟨hR, hrk, hL, o1, o2, d5, d9, s5, s9⟩
    · exact g7_2ENS s n k l f fa fb fc fd op d sr x hLd hd ⟨hR, hrk, hL, o1, o2, d5, d9, s5, s9⟩
    · exact g7_3ENS s n k l f fa fb fc fd op d sr x hLd hd ⟨hR, hrk, hL, o1, o2, d5, d9, s5, s9⟩
    · exact g7_4ENS s n k l f fa fb fc fd op d sr x hLd hd ⟨hR, hrk, hL, o1, o2, d5, d9, s5, s9⟩
  exact out7 (T := q7_ENS n k l op d sr x) (by kernel_rfl) (by kernel_rfl) (s7_ENS s n k l f fa fb fc fd op d sr x hg)
def q7_EEN (n k l : Nat) (op d sr x : Int) : RT Unit := .b 0 (yRk op d sr x).1 (.b 22 (y18 op).1 (.b 3 (yNe d 5).1 (.b 3 (yNe sr 5).1 (.b 3 (yNe d 9).1 (.t 3 (yNf sr 9).1 uo) uo) uo) uo) uo) (.f 18 (yRt op d sr x).1 uo)
theorem s7_EEN (hg : ¬ (rk6 op d sr x = 0 ∧ op < 18 ∧ d ≠ 5 ∧ sr ≠ 5 ∧ d ≠ 9 ∧ sr ≠ 9)) : (q7_EEN n k l op d sr x).sat (fun _ => True) := by
  unfold q7_EEN
  repeat' with_reducible first | refine RT.sl trivial | refine RT.sb (fun _ => ?_) (fun _ => ?_) | refine RT.st ?_ (fun _ => ?_) | refine RT.sf ?_ (fun _ => ?_)
  all_goals (simp only [yRk, yRt, tLi_e, tLc_e, tLd_e, tMe_e, y18, yNe, yNf, beq_iff_eq, beq_eq_false_iff_ne, decide_eq_true_eq, decide_eq_false_iff_not, ne_eq, bne_iff_ne, bne_eq_false_iff_eq, Bool.not_eq_eq_eq_not, Bool.not_true, Bool.not_false, Bool.not_eq_true, Bool.not_eq_false] at *; omega)
theorem w7_EEN (hR : Rw16 (mOf s)) : LCalls Try.prog 7 (A7 s (sl 0 0) (sls 1 0) nilS op d sr x) (mkH (X7 f 0 fa fb 0 fc fd l)) (fun u _ => u = .bool true) := by
  by_cases hg : rk6 op d sr x = 0 ∧ op < 18 ∧ d ≠ 5 ∧ sr ≠ 5 ∧ d ≠ 9 ∧ sr ≠ 9
  · obtain ⟨hrk, o2, d5, s5, d9, s9⟩ := hg
    have o1 := op_pos (rk6_hd hrk)
    rcases lenB6_rng op d sr with hL | hL | hL | hL
    · exact g7_1EEN s n k l f fa fb fc fd op d sr x ⟨hR, hrk, hL, o1, o2, d5, d9, s5, s9⟩
    · exact g7_2EEN s n k l f fa fb fc fd op d sr x ⟨hR, hrk, hL, o1, o2, d5, d9, s5, s9⟩
    · exact g7_3EEN s n k l f fa fb fc fd op d sr x ⟨hR, hrk, hL, o1, o2, d5, d9, s5, s9⟩
    · exact g7_4EEN s n k l f fa fb fc fd op d sr x ⟨hR, hrk, hL, o1, o2, d5, d9, s5, s9⟩
  exact out7 (T := q7_EEN n k l op d sr x) (by kernel_rfl) (by kernel_rfl) (s7_EEN s n k l f fa fb fc fd op d sr x hg)
def q7_EES (n k l : Nat) (op d sr x : Int) : RT Unit := .b 0 (yRk op d sr x).1 (.b 10 (tLd l).1 (.b 11 (y18 op).1 (.b 3 (yNe d 5).1 (.b 3 (yNe sr 5).1 (.b 3 (yNe d 9).1 (.t 3 (yNf sr 9).1 uo) uo) uo) uo) uo) uo) (.b 10 (tLd l).1 (.f 7 (yRt op d sr x).1 uo) uo)
theorem s7_EES (hg : ¬ (rk6 op d sr x = 0 ∧ l ≤ 300 ∧ op < 18 ∧ d ≠ 5 ∧ sr ≠ 5 ∧ d ≠ 9 ∧ sr ≠ 9)) : (q7_EES n k l op d sr x).sat (fun _ => True) := by
  unfold q7_EES
  repeat' with_reducible first | refine RT.sl trivial | refine RT.sb (fun _ => ?_) (fun _ => ?_) | refine RT.st ?_ (fun _ => ?_) | refine RT.sf ?_ (fun _ => ?_)
  all_goals (simp only [yRk, yRt, tLi_e, tLc_e, tLd_e, tMe_e, y18, yNe, yNf, beq_iff_eq, beq_eq_false_iff_ne, decide_eq_true_eq, decide_eq_false_iff_not, ne_eq, bne_iff_ne, bne_eq_false_iff_eq, Bool.not_eq_eq_eq_not, Bool.not_true, Bool.not_false, Bool.not_eq_true, Bool.not_eq_false] at *; omega)
theorem w7_EES (hR : Rw16 (mOf s)) (hd : ∀ e, e < l → B16 (fc e) ∧ B8 (fd e)) : LCalls Try.prog 7 (A7 s (sl 0 0) (sls 1 0) (sls 2 l) op d sr x) (mkH (X7 f 0 fa fb 0 fc fd l)) (fun u _ => u = .bool true) := by
  by_cases hg : rk6 op d sr x = 0 ∧ l ≤ 300 ∧ op < 18 ∧ d ≠ 5 ∧ sr ≠ 5 ∧ d ≠ 9 ∧ sr ≠ 9
  · obtain ⟨hrk, hLd, o2, d5, s5, d9, s9⟩ := hg
    have o1 := op_pos (rk6_hd hrk)
    rcases lenB6_rng op d sr with hL | hL | hL | hL
    · exact g7_1EES s n k l f fa fb fc fd op d sr x hLd hd ⟨hR, hrk, hL, o1, o2, d5, d9, s5, s9⟩
    · exact g7_2EES s n k l f fa fb fc fd op d sr x hLd hd ⟨hR, hrk, hL, o1, o2, d5, d9, s5, s9⟩
    · exact g7_3EES s n k l f fa fb fc fd op d sr x hLd hd ⟨hR, hrk, hL, o1, o2, d5, d9, s5, s9⟩
    · exact g7_4EES s n k l f fa fb fc fd op d sr x hLd hd ⟨hR, hrk, hL, o1, o2, d5, d9, s5, s9⟩
  exact out7 (T := q7_EES n k l op d sr x) (by kernel_rfl) (by kernel_rfl) (s7_EES s n k l f fa fb fc fd op d sr x hg)
def q7_ERN (n k l : Nat) (op d sr x : Int) : RT Unit := .b 0 (yRk op d sr x).1 (.b 5 (tLc k).1 (.b 16 (y18 op).1 (.b 3 (yNe d 5).1 (.b 3 (yNe sr 5).1 (.b 3 (yNe d 9).1 (.t 3 (yNf sr 9).1 uo) uo) uo) uo) uo) uo) (.b 5 (tLc k).1 (.f 12 (yRt op d sr x).1 uo) uo)
theorem s7_ERN (hg : ¬ (rk6 op d sr x = 0 ∧ k + 1 ≤ 600 ∧ op < 18 ∧ d ≠ 5 ∧ sr ≠ 5 ∧ d ≠ 9 ∧ sr ≠ 9)) : (q7_ERN n k l op d sr x).sat (fun _ => True) := by
  unfold q7_ERN
  repeat' with_reducible first | refine RT.sl trivial | refine RT.sb (fun _ => ?_) (fun _ => ?_) | refine RT.st ?_ (fun _ => ?_) | refine RT.sf ?_ (fun _ => ?_)
  all_goals (simp only [yRk, yRt, tLi_e, tLc_e, tLd_e, tMe_e, y18, yNe, yNf, beq_iff_eq, beq_eq_false_iff_ne, decide_eq_true_eq, decide_eq_false_iff_not, ne_eq, bne_iff_ne, bne_eq_false_iff_eq, Bool.not_eq_eq_eq_not, Bool.not_true, Bool.not_false, Bool.not_eq_true, Bool.not_eq_false] at *; omega)
theorem w7_ERN (hR : Rw16 (mOf s)) (hb : ∀ e, e < k + 1 → B16 (fa e) ∧ B8 (fb e)) : LCalls Try.prog 7 (A7 s (sl 0 0) (sls 1 (k + 1)) nilS op d sr x) (mkH (X7 f 0 fa fb (k + 1) fc fd l)) (fun u _ => u = .bool true) := by
  by_cases hg : rk6 op d sr x = 0 ∧ k + 1 ≤ 600 ∧ op < 18 ∧ d ≠ 5 ∧ sr ≠ 5 ∧ d ≠ 9 ∧ sr ≠ 9
  · obtain ⟨hrk, hLc, o2, d5, s5, d9, s9⟩ := hg
    have o1 := op_pos (rk6_hd hrk)
    rcases lenB6_rng op d sr with hL | hL | hL | hL
    · exact g7_1ERN s n k l f fa fb fc fd op d sr x hLc hb ⟨hR, hrk, hL, o1, o2, d5, d9, s5, s9⟩
    · exact g7_2ERN s n k l f fa fb fc fd op d sr x hLc hb ⟨hR, hrk, hL, o1, o2, d5, d9, s5, s9⟩
    · exact g7_3ERN s n k l f fa fb fc fd op d sr x hLc hb ⟨hR, hrk, hL, o1, o2, d5, d9, s5, s9⟩
    · exact g7_4ERN s n k l f fa fb fc fd op d sr x hLc hb ⟨hR, hrk, hL, o1, o2, d5, d9, s5, s9⟩
  exact out7 (T := q7_ERN n k l op d sr x) (by kernel_rfl) (by kernel_rfl) (s7_ERN s n k l f fa fb fc fd op d sr x hg)
def q7_ERS (n k l : Nat) (op d sr x : Int) : RT Unit := .b 0 (yRk op d sr x).1 (.b 5 (tLc k).1 (.b 4 (tLd l).1 (.b 11 (y18 op).1 (.b 3 (yNe d 5).1 (.b 3 (yNe sr 5).1 (.b 3 (yNe d 9).1 (.t 3 (yNf sr 9).1 uo) uo) uo) uo) uo) uo) uo) (.b 5 (tLc k).1 (.b 4 (tLd l).1 (.f 7 (yRt op d sr x).1 uo) uo) uo)
theorem s7_ERS (hg : ¬ (rk6 op d sr x = 0 ∧ k + 1 ≤ 600 ∧ l ≤ 300 ∧ op < 18 ∧ d ≠ 5 ∧ sr ≠ 5 ∧ d ≠ 9 ∧ sr ≠ 9)) : (q7_ERS n k l op d sr x).sat (fun _ => True) := by
  unfold q7_ERS
  repeat' with_reducible first | refine RT.sl trivial | refine RT.sb (fun _ => ?_) (fun _ => ?_) | refine RT.st ?_ (fun _ => ?_) | refine RT.sf ?_ (fun _ => ?_)
  all_goals (simp only [yRk, yRt, tLi_e, tLc_e, tLd_e, tMe_e, y18, yNe, yNf, beq_iff_eq, beq_eq_false_iff_ne, decide_eq_true_eq, decide_eq_false_iff_not, ne_eq, bne_iff_ne, bne_eq_false_iff_eq, Bool.not_eq_eq_eq_not, Bool.not_true, Bool.not_false, Bool.not_eq_true, Bool.not_eq_false] at *; omega)
theorem w7_ERS (hR : Rw16 (mOf s)) (hb : ∀ e, e < k + 1 → B16 (fa e) ∧ B8 (fb e)) (hd : ∀ e, e < l → B16 (fc e) ∧ B8 (fd e)) : LCalls Try.prog 7 (A7 s (sl 0 0) (sls 1 (k + 1)) (sls 2 l) op d sr x) (mkH (X7 f 0 fa fb (k + 1) fc fd l)) (fun u _ => u = .bool true) := by
  by_cases hg : rk6 op d sr x = 0 ∧ k + 1 ≤ 600 ∧ l ≤ 300 ∧ op < 18 ∧ d ≠ 5 ∧ sr ≠ 5 ∧ d ≠ 9 ∧ sr ≠ 9
  · obtain ⟨hrk, hLc, hLd, o2, d5, s5, d9, s9⟩ := hg
    have o1 := op_pos (rk6_hd hrk)
    rcases lenB6_rng op d sr with hL | hL | hL | hL
    · exact g7_1ERS s n k l f fa fb fc fd op d sr x hLc hb hLd hd ⟨hR, hrk, hL, o1, o2, d5, d9, s5, s9⟩
    · exact g7_2ERS s n k l f fa fb fc fd op d sr x hLc hb hLd hd ⟨hR, hrk, hL, o1, o2, d5, d9, s5, s9⟩
    · exact g7_3ERS s n k l f fa fb fc fd op d sr x hLc hb hLd hd ⟨hR, hrk, hL, o1, o2, d5, d9, s5, s9⟩
    · exact g7_4ERS s n k l f fa fb fc fd op d sr x hLc hb hLd hd ⟨hR, hrk, hL, o1, o2, d5, d9, s5, s9⟩
  exact out7 (T := q7_ERS n k l op d sr x) (by kernel_rfl) (by kernel_rfl) (s7_ERS s n k l f fa fb fc fd op d sr x hg)
def q7_RNN (n k l : Nat) (op d sr x : Int) : RT Unit := .b 0 (yRk op d sr x).1 (.b 0 (tLi n).1 (.b 14 (tMe n).1 (.b 6 (y18 op).1 (.b 3 (yNe d 5).1 (.b 3 (yNe sr 5).1 (.b 3 (yNe d 9).1 (.t 3 (yNf sr 9).1 uo) uo) uo) uo) uo) uo) uo) (.b 0 (tLi n).1 (.b 14 (tMe n).1 (.f 2 (yRt op d sr x).1 uo) uo) uo)
theorem s7_RNN (hg : ¬ (rk6 op d sr x = 0 ∧ n + 1 ≤ 256 ∧ op < 18 ∧ d ≠ 5 ∧ sr ≠ 5 ∧ d ≠ 9 ∧ sr ≠ 9)) : (q7_RNN n k l op d sr x).sat (fun _ => True) := by
  unfold q7_RNN
  repeat' with_reducible first | refine RT.sl trivial | refine RT.sb (fun _ => ?_) (fun _ => ?_) | refine RT.st ?_ (fun _ => ?_) | refine RT.sf ?_ (fun _ => ?_)
  all_goals (simp only [yRk, yRt, tLi_e, tLc_e, tLd_e, tMe_e, y18, yNe, yNf, beq_iff_eq, beq_eq_false_iff_ne, decide_eq_true_eq, decide_eq_false_iff_not, ne_eq, bne_iff_ne, bne_eq_false_iff_eq, Bool.not_eq_eq_eq_not, Bool.not_true, Bool.not_false, Bool.not_eq_true, Bool.not_eq_false] at *; omega)
theorem w7_RNN (hR : Rw16 (mOf s)) : LCalls Try.prog 7 (A7 s (sl 0 (n + 1)) nilS nilS op d sr x) (mkH (X7 f (n + 1) fa fb k fc fd l)) (fun u _ => u = .bool true) := by
  by_cases hg : rk6 op d sr x = 0 ∧ n + 1 ≤ 256 ∧ op < 18 ∧ d ≠ 5 ∧ sr ≠ 5 ∧ d ≠ 9 ∧ sr ≠ 9
  · obtain ⟨hrk, hLi, o2, d5, s5, d9, s9⟩ := hg
    have o1 := op_pos (rk6_hd hrk)
    rcases lenB6_rng op d sr with hL | hL | hL | hL
    · exact g7_1RNN s n k l f fa fb fc fd op d sr x hLi ⟨hR, hrk, hL, o1, o2, d5, d9, s5, s9⟩
    · exact g7_2RNN s n k l f fa fb fc fd op d sr x hLi ⟨hR, hrk, hL, o1, o2, d5, d9, s5, s9⟩
    · exact g7_3RNN s n k l f fa fb fc fd op d sr x hLi ⟨hR, hrk, hL, o1, o2, d5, d9, s5, s9⟩
    · exact g7_4RNN s n k l f fa fb fc fd op d sr x hLi ⟨hR, hrk, hL, o1, o2, d5, d9, s5, s9⟩
  exact out7 (T := q7_RNN n k l op d sr x) (by kernel_rfl) (by kernel_rfl) (s7_RNN s n k l f fa fb fc fd op d sr x hg)
def q7_RNS (n k l : Nat) (op d sr x : Int) : RT Unit := .b 0 (yRk op d sr x).1 (.b 0 (tLi n).1 (.b 9 (tLd l).1 (.b 4 (tMe n).1 (.b 6 (y18 op).1 (.b 3 (yNe d 5).1 (.b 3 (yNe sr 5).1 (.b 3 (yNe d 9).1 (.t 3 (yNf sr 9).1 uo) uo) uo) uo) uo) uo) uo) uo) (.b 0 (tLi n).1 (.b 9 (tLd l).1 (.b 4 (tMe n).1 (.f 2 (yRt op d sr x).1 uo) uo) uo) uo)
theorem s7_RNS (hg : ¬ (rk6 op d sr x = 0 ∧ n + 1 ≤ 256 ∧ l ≤ 300 ∧ op < 18 ∧ d ≠ 5 ∧ sr ≠ 5 ∧ d ≠ 9 ∧ sr ≠ 9)) : (q7_RNS n k l op d sr x).sat (fun _ => True) := by
  unfold q7_RNS
  repeat' with_reducible first | refine RT.sl trivial | refine RT.sb (fun _ => ?_) (fun _ => ?_) | refine RT.st ?_ (fun _ => ?_) | refine RT.sf ?_ (fun _ => ?_)
  all_goals (simp only [yRk, yRt, tLi_e, tLc_e, tLd_e, tMe_e, y18, yNe, yNf, beq_iff_eq, beq_eq_false_iff_ne, decide_eq_true_eq, decide_eq_false_iff_not, ne_eq, bne_iff_ne, bne_eq_false_iff_eq, Bool.not_eq_eq_eq_not, Bool.not_true, Bool.not_false, Bool.not_eq_true, Bool.not_eq_false] at *; omega)
theorem w7_RNS (hR : Rw16 (mOf s)) (hd : ∀ e, e < l → B16 (fc e) ∧ B8 (fd e)) : LCalls Try.prog 7 (A7 s (sl 0 (n + 1)) nilS (sls 2 l) op d sr x) (mkH (X7 f (n + 1) fa fb k fc fd l)) (fun u _ => u = .bool true) := by
  by_cases hg : rk6 op d sr x = 0 ∧ n + 1 ≤ 256 ∧ l ≤ 300 ∧ op < 18 ∧ d ≠ 5 ∧ sr ≠ 5 ∧ d ≠ 9 ∧ sr ≠ 9
  · obtain ⟨hrk, hLi, hLd, o2, d5, s5, d9, s9⟩ := hg
    have o1 := op_pos (rk6_hd hrk)
    rcases lenB6_rng op d sr with hL | hL | hL | hL
    · exact g7_1RNS s n k l f fa fb fc fd op d sr x hLi hLd hd ⟨hR, hrk, hL, o1, o2, d5, d9, s5, s9⟩
    · exact g7_2RNS s n k l f fa fb fc fd op d sr x hLi hLd hd ⟨hR, hrk, hL, o1, o2, d5, d9, s5, s9⟩
    · exact g7_3RNS s n k l f fa fb fc fd op d sr x hLi hLd hd ⟨hR, hrk, hL, o1, o2, d5, d9, s5, s9⟩
    · exact g7_4RNS s n k l f fa fb fc fd op d sr x hLi hLd hd ⟨hR, hrk, hL, o1, o2, d5, d9, s5, s9⟩
  exact out7 (T := q7_RNS n k l op d sr x) (by kernel_rfl) (by kernel_rfl) (s7_RNS s n k l f fa fb fc fd op d sr x hg)
def q7_REN (n k l : Nat) (op d sr x : Int) : RT Unit := .b 0 (yRk op d sr x).1 (.b 0 (tLi n).1 (.b 14 (tMe n).1 (.b 6 (y18 op).1 (.b 3 (yNe d 5).1 (.b 3 (yNe sr 5).1 (.b 3 (yNe d 9).1 (.t 3 (yNf sr 9).1 uo) uo) uo) uo) uo) uo) uo) (.b 0 (tLi n).1 (.b 14 (tMe n).1 (.f 2 (yRt op d sr x).1 uo) uo) uo)
theorem s7_REN (hg : ¬ (rk6 op d sr x = 0 ∧ n + 1 ≤ 256 ∧ op < 18 ∧ d ≠ 5 ∧ sr ≠ 5 ∧ d ≠ 9 ∧ sr ≠ 9)) : (q7_REN n k l op d sr x).sat (fun _ => True) := by
  unfold q7_REN
  repeat' with_reducible first | refine RT.sl trivial | refine RT.sb (fun _ => ?_) (fun _ => ?_) | refine RT.st ?_ (fun _ => ?_) | refine RT.sf ?_ (fun _ => ?_)
  all_goals (simp only [yRk, yRt, tLi_e, tLc_e, tLd_e, tMe_e, y18, yNe, yNf, beq_iff_eq, beq_eq_false_iff_ne, decide_eq_true_eq, decide_eq_false_iff_not, ne_eq, bne_iff_ne, bne_eq_false_iff_eq, Bool.not_eq_eq_eq_not, Bool.not_true, Bool.not_false, Bool.not_eq_true, Bool.not_eq_false] at *; omega)
theorem w7_REN (hR : Rw16 (mOf s)) : LCalls Try.prog 7 (A7 s (sl 0 (n + 1)) (sls 1 0) nilS op d sr x) (mkH (X7 f (n + 1) fa fb 0 fc fd l)) (fun u _ => u = .bool true) := by
  by_cases hg : rk6 op d sr x = 0 ∧ n + 1 ≤ 256 ∧ op < 18 ∧ d ≠ 5 ∧ sr ≠ 5 ∧ d ≠ 9 ∧ sr ≠ 9
  · obtain ⟨hrk, hLi, o2, d5, s5, d9, s9⟩ := hg
    have o1 := op_pos (rk6_hd hrk)
    rcases lenB6_rng op d sr with hL | hL | hL | hL
    · exact g7_1REN s n k l f fa fb fc fd op d sr x hLi ⟨hR, hrk, hL, o1, o2, d5, d9, s5, s9⟩
    · exact g7_2REN s n k l f fa fb fc fd op d sr x hLi ⟨hR, hrk, hL, o1, o2, d5, d9, s5, s9⟩
    · exact g7_3REN s n k l f fa fb fc fd op d sr x hLi ⟨hR, hrk, hL, o1, o2, d5, d9, s5, s9⟩
    · exact g7_4REN s n k l f fa fb fc fd op d sr x hLi ⟨hR, hrk, hL, o1, o2, d5, d9, s5, s9⟩
  exact out7 (T := q7_REN n k l op d sr x) (by kernel_rfl) (by kernel_rfl) (s7_REN s n k l f fa fb fc fd op d sr x hg)
def q7_RES (n k l : Nat) (op d sr x : Int) : RT Unit := .b 0 (yRk op d sr x).1 (.b 0 (tLi n).1 (.b 9 (tLd l).1 (.b 4 (tMe n).1 (.b 6 (y18 op).1 (.b 3 (yNe d 5).1 (.b 3 (yNe sr 5).1 (.b 3 (yNe d 9).1 (.t 3 (yNf sr 9).1 uo) uo) uo) uo) uo) uo) uo) uo) (.b 0 (tLi n).1 (.b 9 (tLd l).1 (.b 4 (tMe n).1 (.f 2 (yRt op d sr x).1 uo) uo) uo) uo)
theorem s7_RES (hg : ¬ (rk6 op d sr x = 0 ∧ n + 1 ≤ 256 ∧ l ≤ 300 ∧ op < 18 ∧ d ≠ 5 ∧ sr ≠ 5 ∧ d ≠ 9 ∧ sr ≠ 9)) : (q7_RES n k l op d sr x).sat (fun _ => True) := by
  unfold q7_RES
  repeat' with_reducible first | refine RT.sl trivial | refine RT.sb (fun _ => ?_) (fun _ => ?_) | refine RT.st ?_ (fun _ => ?_) | refine RT.sf ?_ (fun _ => ?_)
  all_goals (simp only [yRk, yRt, tLi_e, tLc_e, tLd_e, tMe_e, y18, yNe, yNf, beq_iff_eq, beq_eq_false_iff_ne, decide_eq_true_eq, decide_eq_false_iff_not, ne_eq, bne_iff_ne, bne_eq_false_iff_eq, Bool.not_eq_eq_eq_not, Bool.not_true, Bool.not_false, Bool.not_eq_true, Bool.not_eq_false] at *; omega)
theorem w7_RES (hR : Rw16 (mOf s)) (hd : ∀ e, e < l → B16 (fc e) ∧ B8 (fd e)) : LCalls Try.prog 7 (A7 s (sl 0 (n + 1)) (sls 1 0) (sls 2 l) op d sr x) (mkH (X7 f (n + 1) fa fb 0 fc fd l)) (fun u _ => u = .bool true) := by
  by_cases hg : rk6 op d sr x = 0 ∧ n + 1 ≤ 256 ∧ l ≤ 300 ∧ op < 18 ∧ d ≠ 5 ∧ sr ≠ 5 ∧ d ≠ 9 ∧ sr ≠ 9
  · obtain ⟨hrk, hLi, hLd, o2, d5, s5, d9, s9⟩ := hg
    have o1 := op_pos (rk6_hd hrk)
    rcases lenB6_rng op d sr with hL | hL | hL | hL
    · exact g7_1RES s n k l f fa fb fc fd op d sr x hLi hLd hd ⟨hR, hrk, hL, o1, o2, d5, d9, s5, s9⟩
    · exact g7_2RES s n k l f fa fb fc fd op d sr x hLi hLd hd ⟨hR, hrk, hL, o1, o2, d5, d9, s5, s9⟩
    · exact g7_3RES s n k l f fa fb fc fd op d sr x hLi hLd hd ⟨hR, hrk, hL, o1, o2, d5, d9, s5, s9⟩
    · exact g7_4RES s n k l f fa fb fc fd op d sr x hLi hLd hd ⟨hR, hrk, hL, o1, o2, d5, d9, s5, s9⟩
  exact out7 (T := q7_RES n k l op d sr x) (by kernel_rfl) (by kernel_rfl) (s7_RES s n k l f fa fb fc fd op d sr x hg)
def q7_RRN (n k l : Nat) (op d sr x : Int) : RT Unit := .b 0 (yRk op d sr x).1 (.b 0 (tLi n).1 (.b 4 (tLc k).1 (.b 9 (tMe n).1 (.b 6 (y18 op).1 (.b 3 (yNe d 5).1 (.b 3 (yNe sr 5).1 (.b 3 (yNe d 9).1 (.t 3 (yNf sr 9).1 uo) uo) uo) uo) uo) uo) uo) uo) (.b 0 (tLi n).1 (.b 4 (tLc k).1 (.b 9 (tMe n).1 (.f 2 (yRt op d sr x).1 uo) uo) uo) uo)
theorem s7_RRN (hg : ¬ (rk6 op d sr x = 0 ∧ n + 1 ≤ 256 ∧ k + 1 ≤ 600 ∧ op < 18 ∧ d ≠ 5 ∧ sr ≠ 5 ∧ d ≠ 9 ∧ sr ≠ 9)) : (q7_RRN n k l op d sr x).sat (fun _ => True) := by
  unfold q7_RRN
  repeat' with_reducible first | refine RT.sl trivial | refine RT.sb (fun _ => ?_) (fun _ => ?_) | refine RT.st ?_ (fun _ => ?_) | refine RT.sf ?_ (fun _ => ?_)
  all_goals (simp only [yRk, yRt, tLi_e, tLc_e, tLd_e, tMe_e, y18, yNe, yNf, beq_iff_eq, beq_eq_false_iff_ne, decide_eq_true_eq, decide_eq_false_iff_not, ne_eq, bne_iff_ne, bne_eq_false_iff_eq, Bool.not_eq_eq_eq_not, Bool.not_true, Bool.not_false, Bool.not_eq_true, Bool.not_eq_false] at *; omega)
theorem w7_RRN (hR : Rw16 (mOf s)) (hb : ∀ e, e < k + 1 → B16 (fa e) ∧ B8 (fb e)) : LCalls Try.prog 7 (A7 s (sl 0 (n + 1)) (sls 1 (k + 1)) nilS op d sr x) (mkH (X7 f (n + 1) fa fb (k + 1) fc fd l)) (fun u _ => u = .bool true) := by
  by_cases hg : rk6 op d sr x = 0 ∧ n + 1 ≤ 256 ∧ k + 1 ≤ 600 ∧ op < 18 ∧ d ≠ 5 ∧ sr ≠ 5 ∧ d ≠ 9 ∧ sr ≠ 9
  · obtain ⟨hrk, hLi, hLc, o2, d5, s5, d9, s9⟩ := hg
    have o1 := op_pos (rk6_hd hrk)
    rcases lenB6_rng op d sr with hL | hL | hL | hL
    · exact g7_1RRN s n k l f fa fb fc fd op d sr x hLi hLc hb ⟨hR, hrk, hL, o1, o2, d5, d9, s5, s9⟩
    · exact g7_2RRN s n k l f fa fb fc fd op d sr x hLi hLc hb ⟨hR, hrk, hL, o1, o2, d5, d9, s5, s9⟩
    · exact g7_3RRN s n k l f fa fb fc fd op d sr x hLi hLc hb ⟨hR, hrk, hL, o1, o2, d5, d9, s5, s9⟩
    · exact g7_4RRN s n k l f fa fb fc fd op d sr x hLi hLc hb ⟨hR, hrk, hL, o1, o2, d5, d9, s5, s9⟩
  exact out7 (T := q7_RRN n k l op d sr x) (by kernel_rfl) (by kernel_rfl) (s7_RRN s n k l f fa fb fc fd op d sr x hg)
def q7_RRS (n k l : Nat) (op d sr x : Int) : RT Unit := .b 0 (yRk op d sr x).1 (.b 0 (tLi n).1 (.b 4 (tLc k).1 (.b 4 (tLd l).1 (.b 4 (tMe n).1 (.b 6 (y18 op).1 (.b 3 (yNe d 5).1 (.b 3 (yNe sr 5).1 (.b 3 (yNe d 9).1 (.t 3 (yNf sr 9).1 uo) uo) uo) uo) uo) uo) uo) uo) uo) (.b 0 (tLi n).1 (.b 4 (tLc k).1 (.b 4 (tLd l).1 (.b 4 (tMe n).1 (.f 2 (yRt op d sr x).1 uo) uo) uo) uo) uo)
theorem s7_RRS (hg : ¬ (rk6 op d sr x = 0 ∧ n + 1 ≤ 256 ∧ k + 1 ≤ 600 ∧ l ≤ 300 ∧ op < 18 ∧ d ≠ 5 ∧ sr ≠ 5 ∧ d ≠ 9 ∧ sr ≠ 9)) : (q7_RRS n k l op d sr x).sat (fun _ => True) := by
  unfold q7_RRS
  repeat' with_reducible first | refine RT.sl trivial | refine RT.sb (fun _ => ?_) (fun _ => ?_) | refine RT.st ?_ (fun _ => ?_) | refine RT.sf ?_ (fun _ => ?_)
  all_goals (simp only [yRk, yRt, tLi_e, tLc_e, tLd_e, tMe_e, y18, yNe, yNf, beq_iff_eq, beq_eq_false_iff_ne, decide_eq_true_eq, decide_eq_false_iff_not, ne_eq, bne_iff_ne, bne_eq_false_iff_eq, Bool.not_eq_eq_eq_not, Bool.not_true, Bool.not_false, Bool.not_eq_true, Bool.not_eq_false] at *; omega)
theorem w7_RRS (hR : Rw16 (mOf s)) (hb : ∀ e, e < k + 1 → B16 (fa e) ∧ B8 (fb e)) (hd : ∀ e, e < l → B16 (fc e) ∧ B8 (fd e)) : LCalls Try.prog 7 (A7 s (sl 0 (n + 1)) (sls 1 (k + 1)) (sls 2 l) op d sr x) (mkH (X7 f (n + 1) fa fb (k + 1) fc fd l)) (fun u _ => u = .bool true) := by
  by_cases hg : rk6 op d sr x = 0 ∧ n + 1 ≤ 256 ∧ k + 1 ≤ 600 ∧ l ≤ 300 ∧ op < 18 ∧ d ≠ 5 ∧ sr ≠ 5 ∧ d ≠ 9 ∧ sr ≠ 9
  · obtain ⟨hrk, hLi, hLc, hLd, o2, d5, s5, d9, s9⟩ := hg
    have o1 := op_pos (rk6_hd hrk)
    rcases lenB6_rng op d sr with hL | hL | hL | hL
    · exact g7_1RRS s n k l f fa fb fc fd op d sr x hLi hLc hb hLd hd ⟨hR, hrk, hL, o1, o2, d5, d9, s5, s9⟩
    · exact g7_2RRS s n k l f fa fb fc fd op d sr x hLi hLc hb hLd hd ⟨hR, hrk, hL, o1, o2, d5, d9, s5, s9⟩
    · exact g7_3RRS s n k l f fa fb fc fd op d sr x hLi hLc hb hLd hd ⟨hR, hrk, hL, o1, o2, d5, d9, s5, s9⟩
    · exact g7_4RRS s n k l f fa fb fc fd op d sr x hLi hLc hb hLd hd ⟨hR, hrk, hL, o1, o2, d5, d9, s5, s9⟩
  exact out7 (T := q7_RRS n k l op d sr x) (by kernel_rfl) (by kernel_rfl) (s7_RRS s n k l f fa fb fc fd op d sr x hg)
end
theorem flags_walk (W : World) (v0 v1 : Value) (h0 : ∃ cs, v0 = .agg ⟨cs⟩ ∧ CksOk W [.int .u16, .int .u16, .int .u16, .int .u16, .int .u16, .int .u16, .int .u16, .int .u16, .bool, .bool, .bool, .bool, .bool, .int .u16, .bool, .slice [.int .u8], .slice [.int .u16, .int .u8], .slice [.int .u16, .int .u8]] cs) (h1 : ∃ cs, v1 = .agg ⟨cs⟩ ∧ CksOk W [.int .i64, .int .i64, .int .i64, .int .u16] cs) :
    Calls Try.prog 7 #[v0, v1] W fun e W' => e = .returned (.bool true) ∧ Below W.heap.size W W' := by
  obtain ⟨cs, rfl, h1⟩ := h1
  simp only [CksOk, CkOk] at h1
  obtain ⟨_, cs1, rfl, ⟨op, rfl, hop⟩, _, cs2, rfl, ⟨d, rfl, hd⟩, _, cs3, rfl, ⟨sr, rfl, hsr⟩, _, cs4, rfl, ⟨x, rfl, hx⟩, rfl⟩ := h1
  refine start_law h0 (rest := [.agg ⟨[.int .i64 op, .int .i64 d, .int .i64 sr, .int .u16 x]⟩]) (by simp [plain, plainL]) ?_ ?_ ?_ ?_ ?_ ?_ ?_ ?_ ?_ ?_ ?_ ?_ ?_ ?_ ?_ ?_ ?_ ?_
  · intro s n k l f fa fb fc fd hs
    exact w7_NNN s n k l f fa fb fc fd op d sr x ⟨hs.1.1, hs.1.2.2.2.1, hs.1.2.2.2.2.2.2.1⟩
  · intro s n k l f fa fb fc fd hs hd
    exact w7_NNS s n k l f fa fb fc fd op d sr x ⟨hs.1.1, hs.1.2.2.2.1, hs.1.2.2.2.2.2.2.1⟩ hd
  · intro s n k l f fa fb fc fd hs
    exact w7_NEN s n k l f fa fb fc fd op d sr x ⟨hs.1.1, hs.1.2.2.2.1, hs.1.2.2.2.2.2.2.1⟩
  · intro s n k l f fa fb fc fd hs hd
    exact w7_NES s n k l f fa fb fc fd op d sr x ⟨hs.1.1, hs.1.2.2.2.1, hs.1.2.2.2.2.2.2.1⟩ hd
  · intro s n k l f fa fb fc fd hs hb
    exact w7_NRN s n k l f fa fb fc fd op d sr x ⟨hs.1.1, hs.1.2.2.2.1, hs.1.2.2.2.2.2.2.1⟩ hb
  · intro s n k l f fa fb fc fd hs hb hd
    exact w7_NRS s n k l f fa fb fc fd op d sr x ⟨hs.1.1, hs.1.2.2.2.1, hs.1.2.2.2.2.2.2.1⟩ hb hd
  · intro s n k l f fa fb fc fd hs
    exact w7_ENN s n k l f fa fb fc fd op d sr x ⟨hs.1.1, hs.1.2.2.2.1, hs.1.2.2.2.2.2.2.1⟩
  · intro s n k l f fa fb fc fd hs hd
    exact w7_ENS s n k l f fa fb fc fd op d sr x ⟨hs.1.1, hs.1.2.2.2.1, hs.1.2.2.2.2.2.2.1⟩ hd
  · intro s n k l f fa fb fc fd hs
    exact w7_EEN s n k l f fa fb fc fd op d sr x ⟨hs.1.1, hs.1.2.2.2.1, hs.1.2.2.2.2.2.2.1⟩
  · intro s n k l f fa fb fc fd hs hd
    exact w7_EES s n k l f fa fb fc fd op d sr x ⟨hs.1.1, hs.1.2.2.2.1, hs.1.2.2.2.2.2.2.1⟩ hd
  · intro s n k l f fa fb fc fd hs hb
    exact w7_ERN s n k l f fa fb fc fd op d sr x ⟨hs.1.1, hs.1.2.2.2.1, hs.1.2.2.2.2.2.2.1⟩ hb
  · intro s n k l f fa fb fc fd hs hb hd
    exact w7_ERS s n k l f fa fb fc fd op d sr x ⟨hs.1.1, hs.1.2.2.2.1, hs.1.2.2.2.2.2.2.1⟩ hb hd
  · intro s n k l f fa fb fc fd hs hf
    exact w7_RNN s n k l f fa fb fc fd op d sr x ⟨hs.1.1, hs.1.2.2.2.1, hs.1.2.2.2.2.2.2.1⟩
  · intro s n k l f fa fb fc fd hs hf hd
    exact w7_RNS s n k l f fa fb fc fd op d sr x ⟨hs.1.1, hs.1.2.2.2.1, hs.1.2.2.2.2.2.2.1⟩ hd
  · intro s n k l f fa fb fc fd hs hf
    exact w7_REN s n k l f fa fb fc fd op d sr x ⟨hs.1.1, hs.1.2.2.2.1, hs.1.2.2.2.2.2.2.1⟩
  · intro s n k l f fa fb fc fd hs hf hd
    exact w7_RES s n k l f fa fb fc fd op d sr x ⟨hs.1.1, hs.1.2.2.2.1, hs.1.2.2.2.2.2.2.1⟩ hd
  · intro s n k l f fa fb fc fd hs hf hb
    exact w7_RRN s n k l f fa fb fc fd op d sr x ⟨hs.1.1, hs.1.2.2.2.1, hs.1.2.2.2.2.2.2.1⟩ hb
  · intro s n k l f fa fb fc fd hs hf hb hd
    exact w7_RRS s n k l f fa fb fc fd op d sr x ⟨hs.1.1, hs.1.2.2.2.1, hs.1.2.2.2.2.2.2.1⟩ hb hd
end Go.Proofs.Ytnknopebjdgdjaa
end
