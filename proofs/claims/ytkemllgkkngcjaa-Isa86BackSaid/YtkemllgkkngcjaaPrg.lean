/- Part 7 of the texts that the law needs, laid together. By program (pack.py). -/
import Derived.Test.YtkemllgkkngcjaaPrc
import Derived.Test.YtkemllgkkngcjaaPrd
import Derived.Test.YtkemllgkkngcjaaPre
import Derived.Test.YtkemllgkkngcjaaPrf
import Derived.KernelRfl
import Derived.Laws.BitsLemmas
set_option linter.unusedVariables false
set_option linter.unusedSimpArgs false
noncomputable section
namespace Go.Proofs.Ytkemllgkkngcjaa
open Go Go.Ly Go.RowKit
theorem h38_0 (d s : Int) : endsAt [] (Ly.run ctxW 900 (dp [3, 21, 13, 7]) (hst 38 d s)) = some ([((s != 0) == false, true), ((d == 0) == true, true), ((d == 0) == true, true), (d != 20, true)], nilHd, 1, []) := by kernel_rfl
theorem h38_1 (d s : Int) : endsAt [] (Ly.run ctxW 900 (dp [3, 20, 12, 7]) (hst 38 d s)) = some ([((s != 0) == false, true), ((d == 0) == true, false), ((d == 0) == true, false), (d != 20, true)], nilHd, 1, []) := by kernel_rfl
theorem h38_2 (d s : Int) : endsAt [] (Ly.run ctxW 900 (dp [3, 20, 12, 6]) (hst 38 d s)) = some ([((s != 0) == false, true), ((d == 0) == true, false), ((d == 0) == true, false), (d != 20, false)], nilHd, 1, []) := by kernel_rfl
theorem h38_3 (d s : Int) : endsAt [] (Ly.run ctxW 900 (dp [2, 15, 17]) (hst 38 d s)) = some ([((s != 0) == false, false), ((wd d != 0) == true, true), (wd d == 16, true)], nilHd, 2, []) := by kernel_rfl
theorem h38_4 (d s : Int) : endsAt [] (Ly.run ctxW 900 (dp [2, 15, 16]) (hst 38 d s)) = some ([((s != 0) == false, false), ((wd d != 0) == true, true), (wd d == 16, false)], nilHd, 2, []) := by kernel_rfl
theorem h38_5 (d s : Int) : endsAt [] (Ly.run ctxW 900 (dp [2, 14, 12]) (hst 38 d s)) = some ([((s != 0) == false, false), ((wd d != 0) == true, false), (wd d == 16, false)], nilHd, 2, []) := by kernel_rfl
theorem h38_all (d s : Int)  : HdCall 38 d s := by
  rcases Bool.eq_false_or_eq_true ((s != 0) == false) with h0 | h0
  · rcases Bool.eq_false_or_eq_true ((d == 0) == true) with h1 | h1
    · have h3 : (d != 20) = true := by first | (simp [nm_in]; done) | (simp_all; done) | (simp_all; omega) | (simp at *; omega)
      exact HdCall.zero (by (try simp only [nz] at h0 h1 h1 h3); first | (simp only [hd, hdTwo, hdPlaces, hdOne, sm, w1, al10, hdN, cA, h0, h1, h1, h3]; first | done | rfl | (simp; done)) | (exfalso; simp only [nz, pA, dA, wA] at *; omega) | (exfalso; simp only [nz, pA, dA] at *; have := wd_ex d; omega) | (simp only [nz, pA, dA] at *; simp_all [hd, hdTwo, hdPlaces, hdOne, sm, w1, al10, hdN]; done)) (Ly.Ends.of_run ctxW_ok 900 _ gHeads (by kernel_rfl) (h38_0 d s) ⟨h0, h1, h1, h3, trivial⟩)
    · rcases Bool.eq_false_or_eq_true (d != 20) with h3 | h3
      · exact HdCall.zero (by (try simp only [nz] at h0 h1 h1 h3); first | (simp only [hd, hdTwo, hdPlaces, hdOne, sm, w1, al10, hdN, cA, h0, h1, h1, h3]; first | done | rfl | (simp; done)) | (exfalso; simp only [nz, pA, dA, wA] at *; omega) | (exfalso; simp only [nz, pA, dA] at *; have := wd_ex d; omega) | (simp only [nz, pA, dA] at *; simp_all [hd, hdTwo, hdPlaces, hdOne, sm, w1, al10, hdN]; done)) (Ly.Ends.of_run ctxW_ok 900 _ gHeads (by kernel_rfl) (h38_1 d s) ⟨h0, h1, h1, h3, trivial⟩)
      · exact HdCall.zero (by (try simp only [nz] at h0 h1 h1 h3); first | (simp only [hd, hdTwo, hdPlaces, hdOne, sm, w1, al10, hdN, cA, h0, h1, h1, h3]; first | done | rfl | (simp; done)) | (exfalso; simp only [nz, pA, dA, wA] at *; omega) | (exfalso; simp only [nz, pA, dA] at *; have := wd_ex d; omega) | (simp only [nz, pA, dA] at *; simp_all [hd, hdTwo, hdPlaces, hdOne, sm, w1, al10, hdN]; done)) (Ly.Ends.of_run ctxW_ok 900 _ gHeads (by kernel_rfl) (h38_2 d s) ⟨h0, h1, h1, h3, trivial⟩)
  · rcases Bool.eq_false_or_eq_true ((wd d != 0) == true) with h1 | h1
    · rcases Bool.eq_false_or_eq_true (wd d == 16) with h2 | h2
      · exact HdCall.zero (by (try simp only [nz] at h0 h1 h2); first | (simp only [hd, hdTwo, hdPlaces, hdOne, sm, w1, al10, hdN, cA, h0, h1, h2]; first | done | rfl | (simp; done)) | (exfalso; simp only [nz, pA, dA, wA] at *; omega) | (exfalso; simp only [nz, pA, dA] at *; have := wd_ex d; omega) | (simp only [nz, pA, dA] at *; simp_all [hd, hdTwo, hdPlaces, hdOne, sm, w1, al10, hdN]; done)) (Ly.Ends.of_run ctxW_ok 900 _ gHeads (by kernel_rfl) (h38_3 d s) ⟨h0, h1, h2, trivial⟩)
      · exact HdCall.zero (by (try simp only [nz] at h0 h1 h2); first | (simp only [hd, hdTwo, hdPlaces, hdOne, sm, w1, al10, hdN, cA, h0, h1, h2]; first | done | rfl | (simp; done)) | (exfalso; simp only [nz, pA, dA, wA] at *; omega) | (exfalso; simp only [nz, pA, dA] at *; have := wd_ex d; omega) | (simp only [nz, pA, dA] at *; simp_all [hd, hdTwo, hdPlaces, hdOne, sm, w1, al10, hdN]; done)) (Ly.Ends.of_run ctxW_ok 900 _ gHeads (by kernel_rfl) (h38_4 d s) ⟨h0, h1, h2, trivial⟩)
    · have h2 : (wd d == 16) = false := by first | (simp [nm_in]; done) | (simp_all; done) | (simp_all; omega) | (simp at *; omega)
      exact HdCall.zero (by (try simp only [nz] at h0 h1 h2); first | (simp only [hd, hdTwo, hdPlaces, hdOne, sm, w1, al10, hdN, cA, h0, h1, h2]; first | done | rfl | (simp; done)) | (exfalso; simp only [nz, pA, dA, wA] at *; omega) | (exfalso; simp only [nz, pA, dA] at *; have := wd_ex d; omega) | (simp only [nz, pA, dA] at *; simp_all [hd, hdTwo, hdPlaces, hdOne, sm, w1, al10, hdN]; done)) (Ly.Ends.of_run ctxW_ok 900 _ gHeads (by kernel_rfl) (h38_5 d s) ⟨h0, h1, h2, trivial⟩)
theorem h39_0 (d s : Int) : endsAt [] (Ly.run ctxW 900 (dp [3, 21, 13, 7]) (hst 39 d s)) = some ([((s != 0) == false, true), ((d == 0) == true, true), ((d == 0) == true, true), (d != 20, true)], nilHd, 1, []) := by kernel_rfl
theorem h39_1 (d s : Int) : endsAt [] (Ly.run ctxW 900 (dp [3, 20, 12, 7]) (hst 39 d s)) = some ([((s != 0) == false, true), ((d == 0) == true, false), ((d == 0) == true, false), (d != 20, true)], nilHd, 1, []) := by kernel_rfl
theorem h39_2 (d s : Int) : endsAt [] (Ly.run ctxW 900 (dp [3, 20, 12, 6]) (hst 39 d s)) = some ([((s != 0) == false, true), ((d == 0) == true, false), ((d == 0) == true, false), (d != 20, false)], nilHd, 1, []) := by kernel_rfl
theorem h39_3 (d s : Int) : endsAt [] (Ly.run ctxW 900 (dp [2, 15, 17]) (hst 39 d s)) = some ([((s != 0) == false, false), ((wd d != 0) == true, true), (wd d == 16, true)], nilHd, 2, []) := by kernel_rfl
theorem h39_4 (d s : Int) : endsAt [] (Ly.run ctxW 900 (dp [2, 15, 16]) (hst 39 d s)) = some ([((s != 0) == false, false), ((wd d != 0) == true, true), (wd d == 16, false)], nilHd, 2, []) := by kernel_rfl
theorem h39_5 (d s : Int) : endsAt [] (Ly.run ctxW 900 (dp [2, 14, 12]) (hst 39 d s)) = some ([((s != 0) == false, false), ((wd d != 0) == true, false), (wd d == 16, false)], nilHd, 2, []) := by kernel_rfl
theorem h39_all (d s : Int)  : HdCall 39 d s := by
  rcases Bool.eq_false_or_eq_true ((s != 0) == false) with h0 | h0
  · rcases Bool.eq_false_or_eq_true ((d == 0) == true) with h1 | h1
    · have h3 : (d != 20) = true := by first | (simp [nm_in]; done) | (simp_all; done) | (simp_all; omega) | (simp at *; omega)
      exact HdCall.zero (by (try simp only [nz] at h0 h1 h1 h3); first | (simp only [hd, hdTwo, hdPlaces, hdOne, sm, w1, al10, hdN, cA, h0, h1, h1, h3]; first | done | rfl | (simp; done)) | (exfalso; simp only [nz, pA, dA, wA] at *; omega) | (exfalso; simp only [nz, pA, dA] at *; have := wd_ex d; omega) | (simp only [nz, pA, dA] at *; simp_all [hd, hdTwo, hdPlaces, hdOne, sm, w1, al10, hdN]; done)) (Ly.Ends.of_run ctxW_ok 900 _ gHeads (by kernel_rfl) (h39_0 d s) ⟨h0, h1, h1, h3, trivial⟩)
    · rcases Bool.eq_false_or_eq_true (d != 20) with h3 | h3
      · exact HdCall.zero (by (try simp only [nz] at h0 h1 h1 h3); first | (simp only [hd, hdTwo, hdPlaces, hdOne, sm, w1, al10, hdN, cA, h0, h1, h1, h3]; first | done | rfl | (simp; done)) | (exfalso; simp only [nz, pA, dA, wA] at *; omega) | (exfalso; simp only [nz, pA, dA] at *; have := wd_ex d; omega) | (simp only [nz, pA, dA] at *; simp_all [hd, hdTwo, hdPlaces, hdOne, sm, w1, al10, hdN]; done)) (Ly.Ends.of_run ctxW_ok 900 _ gHeads (by kernel_rfl) (h39_1 d s) ⟨h0, h1, h1, h3, trivial⟩)
      · exact HdCall.zero (by (try simp only [nz] at h0 h1 h1 h3); first | (simp only [hd, hdTwo, hdPlaces, hdOne, sm, w1, al10, hdN, cA, h0, h1, h1, h3]; first | done | rfl | (simp; done)) | (exfalso; simp only [nz, pA, dA, wA] at *; omega) | (exfalso; simp only [nz, pA, dA] at *; have := wd_ex d; omega) | (simp only [nz, pA, dA] at *; simp_all [hd, hdTwo, hdPlaces, hdOne, sm, w1, al10, hdN]; done)) (Ly.Ends.of_run ctxW_ok 900 _ gHeads (by kernel_rfl) (h39_2 d s) ⟨h0, h1, h1, h3, trivial⟩)
  · rcases Bool.eq_false_or_eq_true ((wd d != 0) == true) with h1 | h1
    · rcases Bool.eq_false_or_eq_true (wd d == 16) with h2 | h2
      · exact HdCall.zero (by (try simp only [nz] at h0 h1 h2); first | (simp only [hd, hdTwo, hdPlaces, hdOne, sm, w1, al10, hdN, cA, h0, h1, h2]; first | done | rfl | (simp; done)) | (exfalso; simp only [nz, pA, dA, wA] at *; omega) | (exfalso; simp only [nz, pA, dA] at *; have := wd_ex d; omega) | (simp only [nz, pA, dA] at *; simp_all [hd, hdTwo, hdPlaces, hdOne, sm, w1, al10, hdN]; done)) (Ly.Ends.of_run ctxW_ok 900 _ gHeads (by kernel_rfl) (h39_3 d s) ⟨h0, h1, h2, trivial⟩)
      · exact HdCall.zero (by (try simp only [nz] at h0 h1 h2); first | (simp only [hd, hdTwo, hdPlaces, hdOne, sm, w1, al10, hdN, cA, h0, h1, h2]; first | done | rfl | (simp; done)) | (exfalso; simp only [nz, pA, dA, wA] at *; omega) | (exfalso; simp only [nz, pA, dA] at *; have := wd_ex d; omega) | (simp only [nz, pA, dA] at *; simp_all [hd, hdTwo, hdPlaces, hdOne, sm, w1, al10, hdN]; done)) (Ly.Ends.of_run ctxW_ok 900 _ gHeads (by kernel_rfl) (h39_4 d s) ⟨h0, h1, h2, trivial⟩)
    · have h2 : (wd d == 16) = false := by first | (simp [nm_in]; done) | (simp_all; done) | (simp_all; omega) | (simp at *; omega)
      exact HdCall.zero (by (try simp only [nz] at h0 h1 h2); first | (simp only [hd, hdTwo, hdPlaces, hdOne, sm, w1, al10, hdN, cA, h0, h1, h2]; first | done | rfl | (simp; done)) | (exfalso; simp only [nz, pA, dA, wA] at *; omega) | (exfalso; simp only [nz, pA, dA] at *; have := wd_ex d; omega) | (simp only [nz, pA, dA] at *; simp_all [hd, hdTwo, hdPlaces, hdOne, sm, w1, al10, hdN]; done)) (Ly.Ends.of_run ctxW_ok 900 _ gHeads (by kernel_rfl) (h39_5 d s) ⟨h0, h1, h2, trivial⟩)
theorem h40_0 (d s : Int) : endsAt [] (Ly.run ctxW 900 (dp [3, 21, 13, 7]) (hst 40 d s)) = some ([((s != 0) == false, true), ((d == 0) == true, true), ((d == 0) == true, true), (d != 20, true)], nilHd, 1, []) := by kernel_rfl
theorem h40_1 (d s : Int) : endsAt [] (Ly.run ctxW 900 (dp [3, 20, 12, 7]) (hst 40 d s)) = some ([((s != 0) == false, true), ((d == 0) == true, false), ((d == 0) == true, false), (d != 20, true)], nilHd, 1, []) := by kernel_rfl
theorem h40_2 (d s : Int) : endsAt [] (Ly.run ctxW 900 (dp [3, 20, 12, 6]) (hst 40 d s)) = some ([((s != 0) == false, true), ((d == 0) == true, false), ((d == 0) == true, false), (d != 20, false)], nilHd, 1, []) := by kernel_rfl
theorem h40_3 (d s : Int) : endsAt [] (Ly.run ctxW 900 (dp [2, 15, 17]) (hst 40 d s)) = some ([((s != 0) == false, false), ((wd d != 0) == true, true), (wd d == 16, true)], nilHd, 2, []) := by kernel_rfl
theorem h40_4 (d s : Int) : endsAt [] (Ly.run ctxW 900 (dp [2, 15, 16]) (hst 40 d s)) = some ([((s != 0) == false, false), ((wd d != 0) == true, true), (wd d == 16, false)], nilHd, 2, []) := by kernel_rfl
theorem h40_5 (d s : Int) : endsAt [] (Ly.run ctxW 900 (dp [2, 14, 12]) (hst 40 d s)) = some ([((s != 0) == false, false), ((wd d != 0) == true, false), (wd d == 16, false)], nilHd, 2, []) := by kernel_rfl
theorem h40_all (d s : Int)  : HdCall 40 d s := by
  rcases Bool.eq_false_or_eq_true ((s != 0) == false) with h0 | h0
  · rcases Bool.eq_false_or_eq_true ((d == 0) == true) with h1 | h1
    · have h3 : (d != 20) = true := by first | (simp [nm_in]; done) | (simp_all; done) | (simp_all; omega) | (simp at *; omega)
      exact HdCall.zero (by (try simp only [nz] at h0 h1 h1 h3); first | (simp only [hd, hdTwo, hdPlaces, hdOne, sm, w1, al10, hdN, cA, h0, h1, h1, h3]; first | done | rfl | (simp; done)) | (exfalso; simp only [nz, pA, dA, wA] at *; omega) | (exfalso; simp only [nz, pA, dA] at *; have := wd_ex d; omega) | (simp only [nz, pA, dA] at *; simp_all [hd, hdTwo, hdPlaces, hdOne, sm, w1, al10, hdN]; done)) (Ly.Ends.of_run ctxW_ok 900 _ gHeads (by kernel_rfl) (h40_0 d s) ⟨h0, h1, h1, h3, trivial⟩)
    · rcases Bool.eq_false_or_eq_true (d != 20) with h3 | h3
      · exact HdCall.zero (by (try simp only [nz] at h0 h1 h1 h3); first | (simp only [hd, hdTwo, hdPlaces, hdOne, sm, w1, al10, hdN, cA, h0, h1, h1, h3]; first | done | rfl | (simp; done)) | (exfalso; simp only [nz, pA, dA, wA] at *; omega) | (exfalso; simp only [nz, pA, dA] at *; have := wd_ex d; omega) | (simp only [nz, pA, dA] at *; simp_all [hd, hdTwo, hdPlaces, hdOne, sm, w1, al10, hdN]; done)) (Ly.Ends.of_run ctxW_ok 900 _ gHeads (by kernel_rfl) (h40_1 d s) ⟨h0, h1, h1, h3, trivial⟩)
      · exact HdCall.zero (by (try simp only [nz] at h0 h1 h1 h3); first | (simp only [hd, hdTwo, hdPlaces, hdOne, sm, w1, al10, hdN, cA, h0, h1, h1, h3]; first | done | rfl | (simp; done)) | (exfalso; simp only [nz, pA, dA, wA] at *; omega) | (exfalso; simp only [nz, pA, dA] at *; have := wd_ex d; omega) | (simp only [nz, pA, dA] at *; simp_all [hd, hdTwo, hdPlaces, hdOne, sm, w1, al10, hdN]; done)) (Ly.Ends.of_run ctxW_ok 900 _ gHeads (by kernel_rfl) (h40_2 d s) ⟨h0, h1, h1, h3, trivial⟩)
  · rcases Bool.eq_false_or_eq_true ((wd d != 0) == true) with h1 | h1
    · rcases Bool.eq_false_or_eq_true (wd d == 16) with h2 | h2
      · exact HdCall.zero (by (try simp only [nz] at h0 h1 h2); first | (simp only [hd, hdTwo, hdPlaces, hdOne, sm, w1, al10, hdN, cA, h0, h1, h2]; first | done | rfl | (simp; done)) | (exfalso; simp only [nz, pA, dA, wA] at *; omega) | (exfalso; simp only [nz, pA, dA] at *; have := wd_ex d; omega) | (simp only [nz, pA, dA] at *; simp_all [hd, hdTwo, hdPlaces, hdOne, sm, w1, al10, hdN]; done)) (Ly.Ends.of_run ctxW_ok 900 _ gHeads (by kernel_rfl) (h40_3 d s) ⟨h0, h1, h2, trivial⟩)
      · exact HdCall.zero (by (try simp only [nz] at h0 h1 h2); first | (simp only [hd, hdTwo, hdPlaces, hdOne, sm, w1, al10, hdN, cA, h0, h1, h2]; first | done | rfl | (simp; done)) | (exfalso; simp only [nz, pA, dA, wA] at *; omega) | (exfalso; simp only [nz, pA, dA] at *; have := wd_ex d; omega) | (simp only [nz, pA, dA] at *; simp_all [hd, hdTwo, hdPlaces, hdOne, sm, w1, al10, hdN]; done)) (Ly.Ends.of_run ctxW_ok 900 _ gHeads (by kernel_rfl) (h40_4 d s) ⟨h0, h1, h2, trivial⟩)
    · have h2 : (wd d == 16) = false := by first | (simp [nm_in]; done) | (simp_all; done) | (simp_all; omega) | (simp at *; omega)
      exact HdCall.zero (by (try simp only [nz] at h0 h1 h2); first | (simp only [hd, hdTwo, hdPlaces, hdOne, sm, w1, al10, hdN, cA, h0, h1, h2]; first | done | rfl | (simp; done)) | (exfalso; simp only [nz, pA, dA, wA] at *; omega) | (exfalso; simp only [nz, pA, dA] at *; have := wd_ex d; omega) | (simp only [nz, pA, dA] at *; simp_all [hd, hdTwo, hdPlaces, hdOne, sm, w1, al10, hdN]; done)) (Ly.Ends.of_run ctxW_ok 900 _ gHeads (by kernel_rfl) (h40_5 d s) ⟨h0, h1, h2, trivial⟩)
theorem h41_0 (d s : Int) : endsAt [] (Ly.run ctxW 900 (dp [3, 21, 13, 7]) (hst 41 d s)) = some ([((s != 0) == false, true), ((d == 0) == true, true), ((d == 0) == true, true), (d != 20, true)], nilHd, 1, []) := by kernel_rfl
theorem h41_1 (d s : Int) : endsAt [] (Ly.run ctxW 900 (dp [3, 20, 12, 7]) (hst 41 d s)) = some ([((s != 0) == false, true), ((d == 0) == true, false), ((d == 0) == true, false), (d != 20, true)], nilHd, 1, []) := by kernel_rfl
theorem h41_2 (d s : Int) : endsAt [] (Ly.run ctxW 900 (dp [3, 20, 12, 6]) (hst 41 d s)) = some ([((s != 0) == false, true), ((d == 0) == true, false), ((d == 0) == true, false), (d != 20, false)], nilHd, 1, []) := by kernel_rfl
theorem h41_3 (d s : Int) : endsAt [] (Ly.run ctxW 900 (dp [2, 15, 17]) (hst 41 d s)) = some ([((s != 0) == false, false), ((wd d != 0) == true, true), (wd d == 16, true)], nilHd, 2, []) := by kernel_rfl
theorem h41_4 (d s : Int) : endsAt [] (Ly.run ctxW 900 (dp [2, 15, 16]) (hst 41 d s)) = some ([((s != 0) == false, false), ((wd d != 0) == true, true), (wd d == 16, false)], nilHd, 2, []) := by kernel_rfl
theorem h41_5 (d s : Int) : endsAt [] (Ly.run ctxW 900 (dp [2, 14, 12]) (hst 41 d s)) = some ([((s != 0) == false, false), ((wd d != 0) == true, false), (wd d == 16, false)], nilHd, 2, []) := by kernel_rfl
theorem h41_all (d s : Int)  : HdCall 41 d s := by
  rcases Bool.eq_false_or_eq_true ((s != 0) == false) with h0 | h0
  · rcases Bool.eq_false_or_eq_true ((d == 0) == true) with h1 | h1
    · have h3 : (d != 20) = true := by first | (simp [nm_in]; done) | (simp_all; done) | (simp_all; omega) | (simp at *; omega)
      exact HdCall.zero (by (try simp only [nz] at h0 h1 h1 h3); first | (simp only [hd, hdTwo, hdPlaces, hdOne, sm, w1, al10, hdN, cA, h0, h1, h1, h3]; first | done | rfl | (simp; done)) | (exfalso; simp only [nz, pA, dA, wA] at *; omega) | (exfalso; simp only [nz, pA, dA] at *; have := wd_ex d; omega) | (simp only [nz, pA, dA] at *; simp_all [hd, hdTwo, hdPlaces, hdOne, sm, w1, al10, hdN]; done)) (Ly.Ends.of_run ctxW_ok 900 _ gHeads (by kernel_rfl) (h41_0 d s) ⟨h0, h1, h1, h3, trivial⟩)
    · rcases Bool.eq_false_or_eq_true (d != 20) with h3 | h3
      · exact HdCall.zero (by (try simp only [nz] at h0 h1 h1 h3); first | (simp only [hd, hdTwo, hdPlaces, hdOne, sm, w1, al10, hdN, cA, h0, h1, h1, h3]; first | done | rfl | (simp; done)) | (exfalso; simp only [nz, pA, dA, wA] at *; omega) | (exfalso; simp only [nz, pA, dA] at *; have := wd_ex d; omega) | (simp only [nz, pA, dA] at *; simp_all [hd, hdTwo, hdPlaces, hdOne, sm, w1, al10, hdN]; done)) (Ly.Ends.of_run ctxW_ok 900 _ gHeads (by kernel_rfl) (h41_1 d s) ⟨h0, h1, h1, h3, trivial⟩)
      · exact HdCall.zero (by (try simp only [nz] at h0 h1 h1 h3); first | (simp only [hd, hdTwo, hdPlaces, hdOne, sm, w1, al10, hdN, cA, h0, h1, h1, h3]; first | done | rfl | (simp; done)) | (exfalso; simp only [nz, pA, dA, wA] at *; omega) | (exfalso; simp only [nz, pA, dA] at *; have := wd_ex d; omega) | (simp only [nz, pA, dA] at *; simp_all [hd, hdTwo, hdPlaces, hdOne, sm, w1, al10, hdN]; done)) (Ly.Ends.of_run ctxW_ok 900 _ gHeads (by kernel_rfl) (h41_2 d s) ⟨h0, h1, h1, h3, trivial⟩)
  · rcases Bool.eq_false_or_eq_true ((wd d != 0) == true) with h1 | h1
    · rcases Bool.eq_false_or_eq_true (wd d == 16) with h2 | h2
      · exact HdCall.zero (by (try simp only [nz] at h0 h1 h2); first | (simp only [hd, hdTwo, hdPlaces, hdOne, sm, w1, al10, hdN, cA, h0, h1, h2]; first | done | rfl | (simp; done)) | (exfalso; simp only [nz, pA, dA, wA] at *; omega) | (exfalso; simp only [nz, pA, dA] at *; have := wd_ex d; omega) | (simp only [nz, pA, dA] at *; simp_all [hd, hdTwo, hdPlaces, hdOne, sm, w1, al10, hdN]; done)) (Ly.Ends.of_run ctxW_ok 900 _ gHeads (by kernel_rfl) (h41_3 d s) ⟨h0, h1, h2, trivial⟩)
      · exact HdCall.zero (by (try simp only [nz] at h0 h1 h2); first | (simp only [hd, hdTwo, hdPlaces, hdOne, sm, w1, al10, hdN, cA, h0, h1, h2]; first | done | rfl | (simp; done)) | (exfalso; simp only [nz, pA, dA, wA] at *; omega) | (exfalso; simp only [nz, pA, dA] at *; have := wd_ex d; omega) | (simp only [nz, pA, dA] at *; simp_all [hd, hdTwo, hdPlaces, hdOne, sm, w1, al10, hdN]; done)) (Ly.Ends.of_run ctxW_ok 900 _ gHeads (by kernel_rfl) (h41_4 d s) ⟨h0, h1, h2, trivial⟩)
    · have h2 : (wd d == 16) = false := by first | (simp [nm_in]; done) | (simp_all; done) | (simp_all; omega) | (simp at *; omega)
      exact HdCall.zero (by (try simp only [nz] at h0 h1 h2); first | (simp only [hd, hdTwo, hdPlaces, hdOne, sm, w1, al10, hdN, cA, h0, h1, h2]; first | done | rfl | (simp; done)) | (exfalso; simp only [nz, pA, dA, wA] at *; omega) | (exfalso; simp only [nz, pA, dA] at *; have := wd_ex d; omega) | (simp only [nz, pA, dA] at *; simp_all [hd, hdTwo, hdPlaces, hdOne, sm, w1, al10, hdN]; done)) (Ly.Ends.of_run ctxW_ok 900 _ gHeads (by kernel_rfl) (h41_5 d s) ⟨h0, h1, h2, trivial⟩)
theorem h42_0 (d s : Int) : endsAt [] (Ly.run ctxW 900 (dp [3, 21, 13, 7]) (hst 42 d s)) = some ([((s != 0) == false, true), ((d == 0) == true, true), ((d == 0) == true, true), (d != 20, true)], nilHd, 1, []) := by kernel_rfl
theorem h42_1 (d s : Int) : endsAt [] (Ly.run ctxW 900 (dp [3, 20, 12, 7]) (hst 42 d s)) = some ([((s != 0) == false, true), ((d == 0) == true, false), ((d == 0) == true, false), (d != 20, true)], nilHd, 1, []) := by kernel_rfl
theorem h42_2 (d s : Int) : endsAt [1] (Ly.run ctxW 900 (dp [3, 20, 12, 6]) (hst 42 d s)) = some ([((s != 0) == false, true), ((d == 0) == true, false), ((d == 0) == true, false), (d != 20, false)], .agg ⟨[.slice (some ⟨1, 0, none⟩) 1 1, .int .i64 3]⟩, 3, [some (.cells [.int .u8 114] 5)]) := by kernel_rfl
theorem h42_3 (d s : Int) : endsAt [] (Ly.run ctxW 900 (dp [2, 15, 17]) (hst 42 d s)) = some ([((s != 0) == false, false), ((wd d != 0) == true, true), (wd d == 16, true)], nilHd, 2, []) := by kernel_rfl
theorem h42_4 (d s : Int) : endsAt [] (Ly.run ctxW 900 (dp [2, 15, 16]) (hst 42 d s)) = some ([((s != 0) == false, false), ((wd d != 0) == true, true), (wd d == 16, false)], nilHd, 2, []) := by kernel_rfl
theorem h42_5 (d s : Int) : endsAt [] (Ly.run ctxW 900 (dp [2, 14, 12]) (hst 42 d s)) = some ([((s != 0) == false, false), ((wd d != 0) == true, false), (wd d == 16, false)], nilHd, 2, []) := by kernel_rfl
theorem h42_all (d s : Int)  : HdCall 42 d s := by
  rcases Bool.eq_false_or_eq_true ((s != 0) == false) with h0 | h0
  · rcases Bool.eq_false_or_eq_true ((d == 0) == true) with h1 | h1
    · have h3 : (d != 20) = true := by first | (simp [nm_in]; done) | (simp_all; done) | (simp_all; omega) | (simp at *; omega)
      exact HdCall.zero (by (try simp only [nz] at h0 h1 h1 h3); first | (simp only [hd, hdTwo, hdPlaces, hdOne, sm, w1, al10, hdN, cA, h0, h1, h1, h3]; first | done | rfl | (simp; done)) | (exfalso; simp only [nz, pA, dA, wA] at *; omega) | (exfalso; simp only [nz, pA, dA] at *; have := wd_ex d; omega) | (simp only [nz, pA, dA] at *; simp_all [hd, hdTwo, hdPlaces, hdOne, sm, w1, al10, hdN]; done)) (Ly.Ends.of_run ctxW_ok 900 _ gHeads (by kernel_rfl) (h42_0 d s) ⟨h0, h1, h1, h3, trivial⟩)
    · rcases Bool.eq_false_or_eq_true (d != 20) with h3 | h3
      · exact HdCall.zero (by (try simp only [nz] at h0 h1 h1 h3); first | (simp only [hd, hdTwo, hdPlaces, hdOne, sm, w1, al10, hdN, cA, h0, h1, h1, h3]; first | done | rfl | (simp; done)) | (exfalso; simp only [nz, pA, dA, wA] at *; omega) | (exfalso; simp only [nz, pA, dA] at *; have := wd_ex d; omega) | (simp only [nz, pA, dA] at *; simp_all [hd, hdTwo, hdPlaces, hdOne, sm, w1, al10, hdN]; done)) (Ly.Ends.of_run ctxW_ok 900 _ gHeads (by kernel_rfl) (h42_1 d s) ⟨h0, h1, h1, h3, trivial⟩)
      · exact HdCall.one (b0 := 114) (by (try simp only [nz] at h0 h1 h1 h3); first | (simp only [hd, hdTwo, hdPlaces, hdOne, sm, w1, al10, hdN, cA, h0, h1, h1, h3]; first | done | rfl | (simp; done)) | (exfalso; simp only [nz, pA, dA, wA] at *; omega) | (exfalso; simp only [nz, pA, dA] at *; have := wd_ex d; omega) | (simp only [nz, pA, dA] at *; simp_all [hd, hdTwo, hdPlaces, hdOne, sm, w1, al10, hdN]; done)) (Ly.Ends.of_run ctxW_ok 900 _ gHeads (by kernel_rfl) (h42_2 d s) ⟨h0, h1, h1, h3, trivial⟩) rfl
  · rcases Bool.eq_false_or_eq_true ((wd d != 0) == true) with h1 | h1
    · rcases Bool.eq_false_or_eq_true (wd d == 16) with h2 | h2
      · exact HdCall.zero (by (try simp only [nz] at h0 h1 h2); first | (simp only [hd, hdTwo, hdPlaces, hdOne, sm, w1, al10, hdN, cA, h0, h1, h2]; first | done | rfl | (simp; done)) | (exfalso; simp only [nz, pA, dA, wA] at *; omega) | (exfalso; simp only [nz, pA, dA] at *; have := wd_ex d; omega) | (simp only [nz, pA, dA] at *; simp_all [hd, hdTwo, hdPlaces, hdOne, sm, w1, al10, hdN]; done)) (Ly.Ends.of_run ctxW_ok 900 _ gHeads (by kernel_rfl) (h42_3 d s) ⟨h0, h1, h2, trivial⟩)
      · exact HdCall.zero (by (try simp only [nz] at h0 h1 h2); first | (simp only [hd, hdTwo, hdPlaces, hdOne, sm, w1, al10, hdN, cA, h0, h1, h2]; first | done | rfl | (simp; done)) | (exfalso; simp only [nz, pA, dA, wA] at *; omega) | (exfalso; simp only [nz, pA, dA] at *; have := wd_ex d; omega) | (simp only [nz, pA, dA] at *; simp_all [hd, hdTwo, hdPlaces, hdOne, sm, w1, al10, hdN]; done)) (Ly.Ends.of_run ctxW_ok 900 _ gHeads (by kernel_rfl) (h42_4 d s) ⟨h0, h1, h2, trivial⟩)
    · have h2 : (wd d == 16) = false := by first | (simp [nm_in]; done) | (simp_all; done) | (simp_all; omega) | (simp at *; omega)
      exact HdCall.zero (by (try simp only [nz] at h0 h1 h2); first | (simp only [hd, hdTwo, hdPlaces, hdOne, sm, w1, al10, hdN, cA, h0, h1, h2]; first | done | rfl | (simp; done)) | (exfalso; simp only [nz, pA, dA, wA] at *; omega) | (exfalso; simp only [nz, pA, dA] at *; have := wd_ex d; omega) | (simp only [nz, pA, dA] at *; simp_all [hd, hdTwo, hdPlaces, hdOne, sm, w1, al10, hdN]; done)) (Ly.Ends.of_run ctxW_ok 900 _ gHeads (by kernel_rfl) (h42_5 d s) ⟨h0, h1, h2, trivial⟩)
theorem h43_0 (d s : Int) : endsAt [] (Ly.run ctxW 900 (dp [3, 21, 13, 7]) (hst 43 d s)) = some ([((s != 0) == false, true), ((d == 0) == true, true), ((d == 0) == true, true), (d != 20, true)], nilHd, 1, []) := by kernel_rfl
theorem h43_1 (d s : Int) : endsAt [] (Ly.run ctxW 900 (dp [3, 20, 12, 7]) (hst 43 d s)) = some ([((s != 0) == false, true), ((d == 0) == true, false), ((d == 0) == true, false), (d != 20, true)], nilHd, 1, []) := by kernel_rfl
theorem h43_2 (d s : Int) : endsAt [1] (Ly.run ctxW 900 (dp [3, 20, 12, 6]) (hst 43 d s)) = some ([((s != 0) == false, true), ((d == 0) == true, false), ((d == 0) == true, false), (d != 20, false)], .agg ⟨[.slice (some ⟨1, 0, none⟩) 1 1, .int .i64 3]⟩, 3, [some (.cells [.int .u8 115] 5)]) := by kernel_rfl
theorem h43_3 (d s : Int) : endsAt [] (Ly.run ctxW 900 (dp [2, 15, 17]) (hst 43 d s)) = some ([((s != 0) == false, false), ((wd d != 0) == true, true), (wd d == 16, true)], nilHd, 2, []) := by kernel_rfl
theorem h43_4 (d s : Int) : endsAt [] (Ly.run ctxW 900 (dp [2, 15, 16]) (hst 43 d s)) = some ([((s != 0) == false, false), ((wd d != 0) == true, true), (wd d == 16, false)], nilHd, 2, []) := by kernel_rfl
theorem h43_5 (d s : Int) : endsAt [] (Ly.run ctxW 900 (dp [2, 14, 12]) (hst 43 d s)) = some ([((s != 0) == false, false), ((wd d != 0) == true, false), (wd d == 16, false)], nilHd, 2, []) := by kernel_rfl
theorem h43_all (d s : Int)  : HdCall 43 d s := by
  rcases Bool.eq_false_or_eq_true ((s != 0) == false) with h0 | h0
  · rcases Bool.eq_false_or_eq_true ((d == 0) == true) with h1 | h1
    · have h3 : (d != 20) = true := by first | (simp [nm_in]; done) | (simp_all; done) | (simp_all; omega) | (simp at *; omega)
      exact HdCall.zero (by (try simp only [nz] at h0 h1 h1 h3); first | (simp only [hd, hdTwo, hdPlaces, hdOne, sm, w1, al10, hdN, cA, h0, h1, h1, h3]; first | done | rfl | (simp; done)) | (exfalso; simp only [nz, pA, dA, wA] at *; omega) | (exfalso; simp only [nz, pA, dA] at *; have := wd_ex d; omega) | (simp only [nz, pA, dA] at *; simp_all [hd, hdTwo, hdPlaces, hdOne, sm, w1, al10, hdN]; done)) (Ly.Ends.of_run ctxW_ok 900 _ gHeads (by kernel_rfl) (h43_0 d s) ⟨h0, h1, h1, h3, trivial⟩)
    · rcases Bool.eq_false_or_eq_true (d != 20) with h3 | h3
      · exact HdCall.zero (by (try simp only [nz] at h0 h1 h1 h3); first | (simp only [hd, hdTwo, hdPlaces, hdOne, sm, w1, al10, hdN, cA, h0, h1, h1, h3]; first | done | rfl | (simp; done)) | (exfalso; simp only [nz, pA, dA, wA] at *; omega) | (exfalso; simp only [nz, pA, dA] at *; have := wd_ex d; omega) | (simp only [nz, pA, dA] at *; simp_all [hd, hdTwo, hdPlaces, hdOne, sm, w1, al10, hdN]; done)) (Ly.Ends.of_run ctxW_ok 900 _ gHeads (by kernel_rfl) (h43_1 d s) ⟨h0, h1, h1, h3, trivial⟩)
      · exact HdCall.one (b0 := 115) (by (try simp only [nz] at h0 h1 h1 h3); first | (simp only [hd, hdTwo, hdPlaces, hdOne, sm, w1, al10, hdN, cA, h0, h1, h1, h3]; first | done | rfl | (simp; done)) | (exfalso; simp only [nz, pA, dA, wA] at *; omega) | (exfalso; simp only [nz, pA, dA] at *; have := wd_ex d; omega) | (simp only [nz, pA, dA] at *; simp_all [hd, hdTwo, hdPlaces, hdOne, sm, w1, al10, hdN]; done)) (Ly.Ends.of_run ctxW_ok 900 _ gHeads (by kernel_rfl) (h43_2 d s) ⟨h0, h1, h1, h3, trivial⟩) rfl
  · rcases Bool.eq_false_or_eq_true ((wd d != 0) == true) with h1 | h1
    · rcases Bool.eq_false_or_eq_true (wd d == 16) with h2 | h2
      · exact HdCall.zero (by (try simp only [nz] at h0 h1 h2); first | (simp only [hd, hdTwo, hdPlaces, hdOne, sm, w1, al10, hdN, cA, h0, h1, h2]; first | done | rfl | (simp; done)) | (exfalso; simp only [nz, pA, dA, wA] at *; omega) | (exfalso; simp only [nz, pA, dA] at *; have := wd_ex d; omega) | (simp only [nz, pA, dA] at *; simp_all [hd, hdTwo, hdPlaces, hdOne, sm, w1, al10, hdN]; done)) (Ly.Ends.of_run ctxW_ok 900 _ gHeads (by kernel_rfl) (h43_3 d s) ⟨h0, h1, h2, trivial⟩)
      · exact HdCall.zero (by (try simp only [nz] at h0 h1 h2); first | (simp only [hd, hdTwo, hdPlaces, hdOne, sm, w1, al10, hdN, cA, h0, h1, h2]; first | done | rfl | (simp; done)) | (exfalso; simp only [nz, pA, dA, wA] at *; omega) | (exfalso; simp only [nz, pA, dA] at *; have := wd_ex d; omega) | (simp only [nz, pA, dA] at *; simp_all [hd, hdTwo, hdPlaces, hdOne, sm, w1, al10, hdN]; done)) (Ly.Ends.of_run ctxW_ok 900 _ gHeads (by kernel_rfl) (h43_4 d s) ⟨h0, h1, h2, trivial⟩)
    · have h2 : (wd d == 16) = false := by first | (simp [nm_in]; done) | (simp_all; done) | (simp_all; omega) | (simp at *; omega)
      exact HdCall.zero (by (try simp only [nz] at h0 h1 h2); first | (simp only [hd, hdTwo, hdPlaces, hdOne, sm, w1, al10, hdN, cA, h0, h1, h2]; first | done | rfl | (simp; done)) | (exfalso; simp only [nz, pA, dA, wA] at *; omega) | (exfalso; simp only [nz, pA, dA] at *; have := wd_ex d; omega) | (simp only [nz, pA, dA] at *; simp_all [hd, hdTwo, hdPlaces, hdOne, sm, w1, al10, hdN]; done)) (Ly.Ends.of_run ctxW_ok 900 _ gHeads (by kernel_rfl) (h43_5 d s) ⟨h0, h1, h2, trivial⟩)
theorem h44_0 (d s : Int) : endsAt [] (Ly.run ctxW 900 (dp [3, 21, 13, 7]) (hst 44 d s)) = some ([((s != 0) == false, true), ((d == 0) == true, true), ((d == 0) == true, true), (d != 20, true)], nilHd, 1, []) := by kernel_rfl
theorem h44_1 (d s : Int) : endsAt [] (Ly.run ctxW 900 (dp [3, 20, 12, 7]) (hst 44 d s)) = some ([((s != 0) == false, true), ((d == 0) == true, false), ((d == 0) == true, false), (d != 20, true)], nilHd, 1, []) := by kernel_rfl
theorem h44_2 (d s : Int) : endsAt [1] (Ly.run ctxW 900 (dp [3, 20, 12, 6]) (hst 44 d s)) = some ([((s != 0) == false, true), ((d == 0) == true, false), ((d == 0) == true, false), (d != 20, false)], .agg ⟨[.slice (some ⟨1, 0, none⟩) 1 1, .int .i64 3]⟩, 3, [some (.cells [.int .u8 116] 5)]) := by kernel_rfl
theorem h44_3 (d s : Int) : endsAt [] (Ly.run ctxW 900 (dp [2, 15, 17]) (hst 44 d s)) = some ([((s != 0) == false, false), ((wd d != 0) == true, true), (wd d == 16, true)], nilHd, 2, []) := by kernel_rfl
theorem h44_4 (d s : Int) : endsAt [] (Ly.run ctxW 900 (dp [2, 15, 16]) (hst 44 d s)) = some ([((s != 0) == false, false), ((wd d != 0) == true, true), (wd d == 16, false)], nilHd, 2, []) := by kernel_rfl
theorem h44_5 (d s : Int) : endsAt [] (Ly.run ctxW 900 (dp [2, 14, 12]) (hst 44 d s)) = some ([((s != 0) == false, false), ((wd d != 0) == true, false), (wd d == 16, false)], nilHd, 2, []) := by kernel_rfl
theorem h44_all (d s : Int)  : HdCall 44 d s := by
  rcases Bool.eq_false_or_eq_true ((s != 0) == false) with h0 | h0
  · rcases Bool.eq_false_or_eq_true ((d == 0) == true) with h1 | h1
    · have h3 : (d != 20) = true := by first | (simp [nm_in]; done) | (simp_all; done) | (simp_all; omega) | (simp at *; omega)
      exact HdCall.zero (by (try simp only [nz] at h0 h1 h1 h3); first | (simp only [hd, hdTwo, hdPlaces, hdOne, sm, w1, al10, hdN, cA, h0, h1, h1, h3]; first | done | rfl | (simp; done)) | (exfalso; simp only [nz, pA, dA, wA] at *; omega) | (exfalso; simp only [nz, pA, dA] at *; have := wd_ex d; omega) | (simp only [nz, pA, dA] at *; simp_all [hd, hdTwo, hdPlaces, hdOne, sm, w1, al10, hdN]; done)) (Ly.Ends.of_run ctxW_ok 900 _ gHeads (by kernel_rfl) (h44_0 d s) ⟨h0, h1, h1, h3, trivial⟩)
    · rcases Bool.eq_false_or_eq_true (d != 20) with h3 | h3
      · exact HdCall.zero (by (try simp only [nz] at h0 h1 h1 h3); first | (simp only [hd, hdTwo, hdPlaces, hdOne, sm, w1, al10, hdN, cA, h0, h1, h1, h3]; first | done | rfl | (simp; done)) | (exfalso; simp only [nz, pA, dA, wA] at *; omega) | (exfalso; simp only [nz, pA, dA] at *; have := wd_ex d; omega) | (simp only [nz, pA, dA] at *; simp_all [hd, hdTwo, hdPlaces, hdOne, sm, w1, al10, hdN]; done)) (Ly.Ends.of_run ctxW_ok 900 _ gHeads (by kernel_rfl) (h44_1 d s) ⟨h0, h1, h1, h3, trivial⟩)
      · exact HdCall.one (b0 := 116) (by (try simp only [nz] at h0 h1 h1 h3); first | (simp only [hd, hdTwo, hdPlaces, hdOne, sm, w1, al10, hdN, cA, h0, h1, h1, h3]; first | done | rfl | (simp; done)) | (exfalso; simp only [nz, pA, dA, wA] at *; omega) | (exfalso; simp only [nz, pA, dA] at *; have := wd_ex d; omega) | (simp only [nz, pA, dA] at *; simp_all [hd, hdTwo, hdPlaces, hdOne, sm, w1, al10, hdN]; done)) (Ly.Ends.of_run ctxW_ok 900 _ gHeads (by kernel_rfl) (h44_2 d s) ⟨h0, h1, h1, h3, trivial⟩) rfl
  · rcases Bool.eq_false_or_eq_true ((wd d != 0) == true) with h1 | h1
    · rcases Bool.eq_false_or_eq_true (wd d == 16) with h2 | h2
      · exact HdCall.zero (by (try simp only [nz] at h0 h1 h2); first | (simp only [hd, hdTwo, hdPlaces, hdOne, sm, w1, al10, hdN, cA, h0, h1, h2]; first | done | rfl | (simp; done)) | (exfalso; simp only [nz, pA, dA, wA] at *; omega) | (exfalso; simp only [nz, pA, dA] at *; have := wd_ex d; omega) | (simp only [nz, pA, dA] at *; simp_all [hd, hdTwo, hdPlaces, hdOne, sm, w1, al10, hdN]; done)) (Ly.Ends.of_run ctxW_ok 900 _ gHeads (by kernel_rfl) (h44_3 d s) ⟨h0, h1, h2, trivial⟩)
      · exact HdCall.zero (by (try simp only [nz] at h0 h1 h2); first | (simp only [hd, hdTwo, hdPlaces, hdOne, sm, w1, al10, hdN, cA, h0, h1, h2]; first | done | rfl | (simp; done)) | (exfalso; simp only [nz, pA, dA, wA] at *; omega) | (exfalso; simp only [nz, pA, dA] at *; have := wd_ex d; omega) | (simp only [nz, pA, dA] at *; simp_all [hd, hdTwo, hdPlaces, hdOne, sm, w1, al10, hdN]; done)) (Ly.Ends.of_run ctxW_ok 900 _ gHeads (by kernel_rfl) (h44_4 d s) ⟨h0, h1, h2, trivial⟩)
    · have h2 : (wd d == 16) = false := by first | (simp [nm_in]; done) | (simp_all; done) | (simp_all; omega) | (simp at *; omega)
      exact HdCall.zero (by (try simp only [nz] at h0 h1 h2); first | (simp only [hd, hdTwo, hdPlaces, hdOne, sm, w1, al10, hdN, cA, h0, h1, h2]; first | done | rfl | (simp; done)) | (exfalso; simp only [nz, pA, dA, wA] at *; omega) | (exfalso; simp only [nz, pA, dA] at *; have := wd_ex d; omega) | (simp only [nz, pA, dA] at *; simp_all [hd, hdTwo, hdPlaces, hdOne, sm, w1, al10, hdN]; done)) (Ly.Ends.of_run ctxW_ok 900 _ gHeads (by kernel_rfl) (h44_5 d s) ⟨h0, h1, h2, trivial⟩)
theorem h45_0 (d s : Int) : endsAt [] (Ly.run ctxW 900 (dp [3, 21, 13, 7]) (hst 45 d s)) = some ([((s != 0) == false, true), ((d == 0) == true, true), ((d == 0) == true, true), (d != 20, true)], nilHd, 1, []) := by kernel_rfl
theorem h45_1 (d s : Int) : endsAt [] (Ly.run ctxW 900 (dp [3, 20, 12, 7]) (hst 45 d s)) = some ([((s != 0) == false, true), ((d == 0) == true, false), ((d == 0) == true, false), (d != 20, true)], nilHd, 1, []) := by kernel_rfl
theorem h45_2 (d s : Int) : endsAt [1] (Ly.run ctxW 900 (dp [3, 20, 12, 6]) (hst 45 d s)) = some ([((s != 0) == false, true), ((d == 0) == true, false), ((d == 0) == true, false), (d != 20, false)], .agg ⟨[.slice (some ⟨1, 0, none⟩) 1 1, .int .i64 3]⟩, 3, [some (.cells [.int .u8 117] 5)]) := by kernel_rfl
theorem h45_3 (d s : Int) : endsAt [] (Ly.run ctxW 900 (dp [2, 15, 17]) (hst 45 d s)) = some ([((s != 0) == false, false), ((wd d != 0) == true, true), (wd d == 16, true)], nilHd, 2, []) := by kernel_rfl
theorem h45_4 (d s : Int) : endsAt [] (Ly.run ctxW 900 (dp [2, 15, 16]) (hst 45 d s)) = some ([((s != 0) == false, false), ((wd d != 0) == true, true), (wd d == 16, false)], nilHd, 2, []) := by kernel_rfl
theorem h45_5 (d s : Int) : endsAt [] (Ly.run ctxW 900 (dp [2, 14, 12]) (hst 45 d s)) = some ([((s != 0) == false, false), ((wd d != 0) == true, false), (wd d == 16, false)], nilHd, 2, []) := by kernel_rfl
theorem h45_all (d s : Int)  : HdCall 45 d s := by
  rcases Bool.eq_false_or_eq_true ((s != 0) == false) with h0 | h0
  · rcases Bool.eq_false_or_eq_true ((d == 0) == true) with h1 | h1
    · have h3 : (d != 20) = true := by first | (simp [nm_in]; done) | (simp_all; done) | (simp_all; omega) | (simp at *; omega)
      exact HdCall.zero (by (try simp only [nz] at h0 h1 h1 h3); first | (simp only [hd, hdTwo, hdPlaces, hdOne, sm, w1, al10, hdN, cA, h0, h1, h1, h3]; first | done | rfl | (simp; done)) | (exfalso; simp only [nz, pA, dA, wA] at *; omega) | (exfalso; simp only [nz, pA, dA] at *; have := wd_ex d; omega) | (simp only [nz, pA, dA] at *; simp_all [hd, hdTwo, hdPlaces, hdOne, sm, w1, al10, hdN]; done)) (Ly.Ends.of_run ctxW_ok 900 _ gHeads (by kernel_rfl) (h45_0 d s) ⟨h0, h1, h1, h3, trivial⟩)
    · rcases Bool.eq_false_or_eq_true (d != 20) with h3 | h3
      · exact HdCall.zero (by (try simp only [nz] at h0 h1 h1 h3); first | (simp only [hd, hdTwo, hdPlaces, hdOne, sm, w1, al10, hdN, cA, h0, h1, h1, h3]; first | done | rfl | (simp; done)) | (exfalso; simp only [nz, pA, dA, wA] at *; omega) | (exfalso; simp only [nz, pA, dA] at *; have := wd_ex d; omega) | (simp only [nz, pA, dA] at *; simp_all [hd, hdTwo, hdPlaces, hdOne, sm, w1, al10, hdN]; done)) (Ly.Ends.of_run ctxW_ok 900 _ gHeads (by kernel_rfl) (h45_1 d s) ⟨h0, h1, h1, h3, trivial⟩)
      · exact HdCall.one (b0 := 117) (by (try simp only [nz] at h0 h1 h1 h3); first | (simp only [hd, hdTwo, hdPlaces, hdOne, sm, w1, al10, hdN, cA, h0, h1, h1, h3]; first | done | rfl | (simp; done)) | (exfalso; simp only [nz, pA, dA, wA] at *; omega) | (exfalso; simp only [nz, pA, dA] at *; have := wd_ex d; omega) | (simp only [nz, pA, dA] at *; simp_all [hd, hdTwo, hdPlaces, hdOne, sm, w1, al10, hdN]; done)) (Ly.Ends.of_run ctxW_ok 900 _ gHeads (by kernel_rfl) (h45_2 d s) ⟨h0, h1, h1, h3, trivial⟩) rfl
  · rcases Bool.eq_false_or_eq_true ((wd d != 0) == true) with h1 | h1
    · rcases Bool.eq_false_or_eq_true (wd d == 16) with h2 | h2
      · exact HdCall.zero (by (try simp only [nz] at h0 h1 h2); first | (simp only [hd, hdTwo, hdPlaces, hdOne, sm, w1, al10, hdN, cA, h0, h1, h2]; first | done | rfl | (simp; done)) | (exfalso; simp only [nz, pA, dA, wA] at *; omega) | (exfalso; simp only [nz, pA, dA] at *; have := wd_ex d; omega) | (simp only [nz, pA, dA] at *; simp_all [hd, hdTwo, hdPlaces, hdOne, sm, w1, al10, hdN]; done)) (Ly.Ends.of_run ctxW_ok 900 _ gHeads (by kernel_rfl) (h45_3 d s) ⟨h0, h1, h2, trivial⟩)
      · exact HdCall.zero (by (try simp only [nz] at h0 h1 h2); first | (simp only [hd, hdTwo, hdPlaces, hdOne, sm, w1, al10, hdN, cA, h0, h1, h2]; first | done | rfl | (simp; done)) | (exfalso; simp only [nz, pA, dA, wA] at *; omega) | (exfalso; simp only [nz, pA, dA] at *; have := wd_ex d; omega) | (simp only [nz, pA, dA] at *; simp_all [hd, hdTwo, hdPlaces, hdOne, sm, w1, al10, hdN]; done)) (Ly.Ends.of_run ctxW_ok 900 _ gHeads (by kernel_rfl) (h45_4 d s) ⟨h0, h1, h2, trivial⟩)
    · have h2 : (wd d == 16) = false := by first | (simp [nm_in]; done) | (simp_all; done) | (simp_all; omega) | (simp at *; omega)
      exact HdCall.zero (by (try simp only [nz] at h0 h1 h2); first | (simp only [hd, hdTwo, hdPlaces, hdOne, sm, w1, al10, hdN, cA, h0, h1, h2]; first | done | rfl | (simp; done)) | (exfalso; simp only [nz, pA, dA, wA] at *; omega) | (exfalso; simp only [nz, pA, dA] at *; have := wd_ex d; omega) | (simp only [nz, pA, dA] at *; simp_all [hd, hdTwo, hdPlaces, hdOne, sm, w1, al10, hdN]; done)) (Ly.Ends.of_run ctxW_ok 900 _ gHeads (by kernel_rfl) (h45_5 d s) ⟨h0, h1, h2, trivial⟩)
theorem h46_0 (d s : Int) : endsAt [] (Ly.run ctxW 900 (dp [3, 21, 13, 7]) (hst 46 d s)) = some ([((s != 0) == false, true), ((d == 0) == true, true), ((d == 0) == true, true), (d != 20, true)], nilHd, 1, []) := by kernel_rfl
theorem h46_1 (d s : Int) : endsAt [] (Ly.run ctxW 900 (dp [3, 20, 12, 7]) (hst 46 d s)) = some ([((s != 0) == false, true), ((d == 0) == true, false), ((d == 0) == true, false), (d != 20, true)], nilHd, 1, []) := by kernel_rfl
theorem h46_2 (d s : Int) : endsAt [] (Ly.run ctxW 900 (dp [3, 20, 12, 6]) (hst 46 d s)) = some ([((s != 0) == false, true), ((d == 0) == true, false), ((d == 0) == true, false), (d != 20, false)], nilHd, 1, []) := by kernel_rfl
theorem h46_3 (d s : Int) : endsAt [] (Ly.run ctxW 900 (dp [2, 15, 17]) (hst 46 d s)) = some ([((s != 0) == false, false), ((wd d != 0) == true, true), (wd d == 16, true)], nilHd, 2, []) := by kernel_rfl
theorem h46_4 (d s : Int) : endsAt [] (Ly.run ctxW 900 (dp [2, 15, 16]) (hst 46 d s)) = some ([((s != 0) == false, false), ((wd d != 0) == true, true), (wd d == 16, false)], nilHd, 2, []) := by kernel_rfl
theorem h46_5 (d s : Int) : endsAt [] (Ly.run ctxW 900 (dp [2, 14, 12]) (hst 46 d s)) = some ([((s != 0) == false, false), ((wd d != 0) == true, false), (wd d == 16, false)], nilHd, 2, []) := by kernel_rfl
theorem h46_all (d s : Int)  : HdCall 46 d s := by
  rcases Bool.eq_false_or_eq_true ((s != 0) == false) with h0 | h0
  · rcases Bool.eq_false_or_eq_true ((d == 0) == true) with h1 | h1
    · have h3 : (d != 20) = true := by first | (simp [nm_in]; done) | (simp_all; done) | (simp_all; omega) | (simp at *; omega)
      exact HdCall.zero (by (try simp only [nz] at h0 h1 h1 h3); first | (simp only [hd, hdTwo, hdPlaces, hdOne, sm, w1, al10, hdN, cA, h0, h1, h1, h3]; first | done | rfl | (simp; done)) | (exfalso; simp only [nz, pA, dA, wA] at *; omega) | (exfalso; simp only [nz, pA, dA] at *; have := wd_ex d; omega) | (simp only [nz, pA, dA] at *; simp_all [hd, hdTwo, hdPlaces, hdOne, sm, w1, al10, hdN]; done)) (Ly.Ends.of_run ctxW_ok 900 _ gHeads (by kernel_rfl) (h46_0 d s) ⟨h0, h1, h1, h3, trivial⟩)
    · rcases Bool.eq_false_or_eq_true (d != 20) with h3 | h3
      · exact HdCall.zero (by (try simp only [nz] at h0 h1 h1 h3); first | (simp only [hd, hdTwo, hdPlaces, hdOne, sm, w1, al10, hdN, cA, h0, h1, h1, h3]; first | done | rfl | (simp; done)) | (exfalso; simp only [nz, pA, dA, wA] at *; omega) | (exfalso; simp only [nz, pA, dA] at *; have := wd_ex d; omega) | (simp only [nz, pA, dA] at *; simp_all [hd, hdTwo, hdPlaces, hdOne, sm, w1, al10, hdN]; done)) (Ly.Ends.of_run ctxW_ok 900 _ gHeads (by kernel_rfl) (h46_1 d s) ⟨h0, h1, h1, h3, trivial⟩)
      · exact HdCall.zero (by (try simp only [nz] at h0 h1 h1 h3); first | (simp only [hd, hdTwo, hdPlaces, hdOne, sm, w1, al10, hdN, cA, h0, h1, h1, h3]; first | done | rfl | (simp; done)) | (exfalso; simp only [nz, pA, dA, wA] at *; omega) | (exfalso; simp only [nz, pA, dA] at *; have := wd_ex d; omega) | (simp only [nz, pA, dA] at *; simp_all [hd, hdTwo, hdPlaces, hdOne, sm, w1, al10, hdN]; done)) (Ly.Ends.of_run ctxW_ok 900 _ gHeads (by kernel_rfl) (h46_2 d s) ⟨h0, h1, h1, h3, trivial⟩)
  · rcases Bool.eq_false_or_eq_true ((wd d != 0) == true) with h1 | h1
    · rcases Bool.eq_false_or_eq_true (wd d == 16) with h2 | h2
      · exact HdCall.zero (by (try simp only [nz] at h0 h1 h2); first | (simp only [hd, hdTwo, hdPlaces, hdOne, sm, w1, al10, hdN, cA, h0, h1, h2]; first | done | rfl | (simp; done)) | (exfalso; simp only [nz, pA, dA, wA] at *; omega) | (exfalso; simp only [nz, pA, dA] at *; have := wd_ex d; omega) | (simp only [nz, pA, dA] at *; simp_all [hd, hdTwo, hdPlaces, hdOne, sm, w1, al10, hdN]; done)) (Ly.Ends.of_run ctxW_ok 900 _ gHeads (by kernel_rfl) (h46_3 d s) ⟨h0, h1, h2, trivial⟩)
      · exact HdCall.zero (by (try simp only [nz] at h0 h1 h2); first | (simp only [hd, hdTwo, hdPlaces, hdOne, sm, w1, al10, hdN, cA, h0, h1, h2]; first | done | rfl | (simp; done)) | (exfalso; simp only [nz, pA, dA, wA] at *; omega) | (exfalso; simp only [nz, pA, dA] at *; have := wd_ex d; omega) | (simp only [nz, pA, dA] at *; simp_all [hd, hdTwo, hdPlaces, hdOne, sm, w1, al10, hdN]; done)) (Ly.Ends.of_run ctxW_ok 900 _ gHeads (by kernel_rfl) (h46_4 d s) ⟨h0, h1, h2, trivial⟩)
    · have h2 : (wd d == 16) = false := by first | (simp [nm_in]; done) | (simp_all; done) | (simp_all; omega) | (simp at *; omega)
      exact HdCall.zero (by (try simp only [nz] at h0 h1 h2); first | (simp only [hd, hdTwo, hdPlaces, hdOne, sm, w1, al10, hdN, cA, h0, h1, h2]; first | done | rfl | (simp; done)) | (exfalso; simp only [nz, pA, dA, wA] at *; omega) | (exfalso; simp only [nz, pA, dA] at *; have := wd_ex d; omega) | (simp only [nz, pA, dA] at *; simp_all [hd, hdTwo, hdPlaces, hdOne, sm, w1, al10, hdN]; done)) (Ly.Ends.of_run ctxW_ok 900 _ gHeads (by kernel_rfl) (h46_5 d s) ⟨h0, h1, h2, trivial⟩)
theorem h47_0 (d s : Int) : endsAt [] (Ly.run ctxW 900 (dp [3, 21, 13, 7]) (hst 47 d s)) = some ([((s != 0) == false, true), ((d == 0) == true, true), ((d == 0) == true, true), (d != 20, true)], nilHd, 1, []) := by kernel_rfl
theorem h47_1 (d s : Int) : endsAt [] (Ly.run ctxW 900 (dp [3, 20, 12, 7]) (hst 47 d s)) = some ([((s != 0) == false, true), ((d == 0) == true, false), ((d == 0) == true, false), (d != 20, true)], nilHd, 1, []) := by kernel_rfl
theorem h47_2 (d s : Int) : endsAt [] (Ly.run ctxW 900 (dp [3, 20, 12, 6]) (hst 47 d s)) = some ([((s != 0) == false, true), ((d == 0) == true, false), ((d == 0) == true, false), (d != 20, false)], nilHd, 1, []) := by kernel_rfl
theorem h47_3 (d s : Int) : endsAt [] (Ly.run ctxW 900 (dp [2, 15, 17]) (hst 47 d s)) = some ([((s != 0) == false, false), ((wd d != 0) == true, true), (wd d == 16, true)], nilHd, 2, []) := by kernel_rfl
theorem h47_4 (d s : Int) : endsAt [] (Ly.run ctxW 900 (dp [2, 15, 16]) (hst 47 d s)) = some ([((s != 0) == false, false), ((wd d != 0) == true, true), (wd d == 16, false)], nilHd, 2, []) := by kernel_rfl
theorem h47_5 (d s : Int) : endsAt [] (Ly.run ctxW 900 (dp [2, 14, 12]) (hst 47 d s)) = some ([((s != 0) == false, false), ((wd d != 0) == true, false), (wd d == 16, false)], nilHd, 2, []) := by kernel_rfl
theorem h47_all (d s : Int)  : HdCall 47 d s := by
  rcases Bool.eq_false_or_eq_true ((s != 0) == false) with h0 | h0
  · rcases Bool.eq_false_or_eq_true ((d == 0) == true) with h1 | h1
    · have h3 : (d != 20) = true := by first | (simp [nm_in]; done) | (simp_all; done) | (simp_all; omega) | (simp at *; omega)
      exact HdCall.zero (by (try simp only [nz] at h0 h1 h1 h3); first | (simp only [hd, hdTwo, hdPlaces, hdOne, sm, w1, al10, hdN, cA, h0, h1, h1, h3]; first | done | rfl | (simp; done)) | (exfalso; simp only [nz, pA, dA, wA] at *; omega) | (exfalso; simp only [nz, pA, dA] at *; have := wd_ex d; omega) | (simp only [nz, pA, dA] at *; simp_all [hd, hdTwo, hdPlaces, hdOne, sm, w1, al10, hdN]; done)) (Ly.Ends.of_run ctxW_ok 900 _ gHeads (by kernel_rfl) (h47_0 d s) ⟨h0, h1, h1, h3, trivial⟩)
    · rcases Bool.eq_false_or_eq_true (d != 20) with h3 | h3
      · exact HdCall.zero (by (try simp only [nz] at h0 h1 h1 h3); first | (simp only [hd, hdTwo, hdPlaces, hdOne, sm, w1, al10, hdN, cA, h0, h1, h1, h3]; first | done | rfl | (simp; done)) | (exfalso; simp only [nz, pA, dA, wA] at *; omega) | (exfalso; simp only [nz, pA, dA] at *; have := wd_ex d; omega) | (simp only [nz, pA, dA] at *; simp_all [hd, hdTwo, hdPlaces, hdOne, sm, w1, al10, hdN]; done)) (Ly.Ends.of_run ctxW_ok 900 _ gHeads (by kernel_rfl) (h47_1 d s) ⟨h0, h1, h1, h3, trivial⟩)
      · exact HdCall.zero (by (try simp only [nz] at h0 h1 h1 h3); first | (simp only [hd, hdTwo, hdPlaces, hdOne, sm, w1, al10, hdN, cA, h0, h1, h1, h3]; first | done | rfl | (simp; done)) | (exfalso; simp only [nz, pA, dA, wA] at *; omega) | (exfalso; simp only [nz, pA, dA] at *; have := wd_ex d; omega) | (simp only [nz, pA, dA] at *; simp_all [hd, hdTwo, hdPlaces, hdOne, sm, w1, al10, hdN]; done)) (Ly.Ends.of_run ctxW_ok 900 _ gHeads (by kernel_rfl) (h47_2 d s) ⟨h0, h1, h1, h3, trivial⟩)
  · rcases Bool.eq_false_or_eq_true ((wd d != 0) == true) with h1 | h1
    · rcases Bool.eq_false_or_eq_true (wd d == 16) with h2 | h2
      · exact HdCall.zero (by (try simp only [nz] at h0 h1 h2); first | (simp only [hd, hdTwo, hdPlaces, hdOne, sm, w1, al10, hdN, cA, h0, h1, h2]; first | done | rfl | (simp; done)) | (exfalso; simp only [nz, pA, dA, wA] at *; omega) | (exfalso; simp only [nz, pA, dA] at *; have := wd_ex d; omega) | (simp only [nz, pA, dA] at *; simp_all [hd, hdTwo, hdPlaces, hdOne, sm, w1, al10, hdN]; done)) (Ly.Ends.of_run ctxW_ok 900 _ gHeads (by kernel_rfl) (h47_3 d s) ⟨h0, h1, h2, trivial⟩)
      · exact HdCall.zero (by (try simp only [nz] at h0 h1 h2); first | (simp only [hd, hdTwo, hdPlaces, hdOne, sm, w1, al10, hdN, cA, h0, h1, h2]; first | done | rfl | (simp; done)) | (exfalso; simp only [nz, pA, dA, wA] at *; omega) | (exfalso; simp only [nz, pA, dA] at *; have := wd_ex d; omega) | (simp only [nz, pA, dA] at *; simp_all [hd, hdTwo, hdPlaces, hdOne, sm, w1, al10, hdN]; done)) (Ly.Ends.of_run ctxW_ok 900 _ gHeads (by kernel_rfl) (h47_4 d s) ⟨h0, h1, h2, trivial⟩)
    · have h2 : (wd d == 16) = false := by first | (simp [nm_in]; done) | (simp_all; done) | (simp_all; omega) | (simp at *; omega)
      exact HdCall.zero (by (try simp only [nz] at h0 h1 h2); first | (simp only [hd, hdTwo, hdPlaces, hdOne, sm, w1, al10, hdN, cA, h0, h1, h2]; first | done | rfl | (simp; done)) | (exfalso; simp only [nz, pA, dA, wA] at *; omega) | (exfalso; simp only [nz, pA, dA] at *; have := wd_ex d; omega) | (simp only [nz, pA, dA] at *; simp_all [hd, hdTwo, hdPlaces, hdOne, sm, w1, al10, hdN]; done)) (Ly.Ends.of_run ctxW_ok 900 _ gHeads (by kernel_rfl) (h47_5 d s) ⟨h0, h1, h2, trivial⟩)
theorem h48_0 (d s : Int) : endsAt [] (Ly.run ctxW 900 (dp [3, 21, 13, 7]) (hst 48 d s)) = some ([((s != 0) == false, true), ((d == 0) == true, true), ((d == 0) == true, true), (d != 20, true)], nilHd, 1, []) := by kernel_rfl
theorem h48_1 (d s : Int) : endsAt [] (Ly.run ctxW 900 (dp [3, 20, 12, 7]) (hst 48 d s)) = some ([((s != 0) == false, true), ((d == 0) == true, false), ((d == 0) == true, false), (d != 20, true)], nilHd, 1, []) := by kernel_rfl
theorem h48_2 (d s : Int) : endsAt [1] (Ly.run ctxW 900 (dp [3, 20, 12, 6]) (hst 48 d s)) = some ([((s != 0) == false, true), ((d == 0) == true, false), ((d == 0) == true, false), (d != 20, false)], .agg ⟨[.slice (some ⟨1, 0, none⟩) 1 1, .int .i64 3]⟩, 3, [some (.cells [.int .u8 120] 5)]) := by kernel_rfl
theorem h48_3 (d s : Int) : endsAt [] (Ly.run ctxW 900 (dp [2, 15, 17]) (hst 48 d s)) = some ([((s != 0) == false, false), ((wd d != 0) == true, true), (wd d == 16, true)], nilHd, 2, []) := by kernel_rfl
theorem h48_4 (d s : Int) : endsAt [] (Ly.run ctxW 900 (dp [2, 15, 16]) (hst 48 d s)) = some ([((s != 0) == false, false), ((wd d != 0) == true, true), (wd d == 16, false)], nilHd, 2, []) := by kernel_rfl
theorem h48_5 (d s : Int) : endsAt [] (Ly.run ctxW 900 (dp [2, 14, 12]) (hst 48 d s)) = some ([((s != 0) == false, false), ((wd d != 0) == true, false), (wd d == 16, false)], nilHd, 2, []) := by kernel_rfl
theorem h48_all (d s : Int)  : HdCall 48 d s := by
  rcases Bool.eq_false_or_eq_true ((s != 0) == false) with h0 | h0
  · rcases Bool.eq_false_or_eq_true ((d == 0) == true) with h1 | h1
    · have h3 : (d != 20) = true := by first | (simp [nm_in]; done) | (simp_all; done) | (simp_all; omega) | (simp at *; omega)
      exact HdCall.zero (by (try simp only [nz] at h0 h1 h1 h3); first | (simp only [hd, hdTwo, hdPlaces, hdOne, sm, w1, al10, hdN, cA, h0, h1, h1, h3]; first | done | rfl | (simp; done)) | (exfalso; simp only [nz, pA, dA, wA] at *; omega) | (exfalso; simp only [nz, pA, dA] at *; have := wd_ex d; omega) | (simp only [nz, pA, dA] at *; simp_all [hd, hdTwo, hdPlaces, hdOne, sm, w1, al10, hdN]; done)) (Ly.Ends.of_run ctxW_ok 900 _ gHeads (by kernel_rfl) (h48_0 d s) ⟨h0, h1, h1, h3, trivial⟩)
    · rcases Bool.eq_false_or_eq_true (d != 20) with h3 | h3
      · exact HdCall.zero (by (try simp only [nz] at h0 h1 h1 h3); first | (simp only [hd, hdTwo, hdPlaces, hdOne, sm, w1, al10, hdN, cA, h0, h1, h1, h3]; first | done | rfl | (simp; done)) | (exfalso; simp only [nz, pA, dA, wA] at *; omega) | (exfalso; simp only [nz, pA, dA] at *; have := wd_ex d; omega) | (simp only [nz, pA, dA] at *; simp_all [hd, hdTwo, hdPlaces, hdOne, sm, w1, al10, hdN]; done)) (Ly.Ends.of_run ctxW_ok 900 _ gHeads (by kernel_rfl) (h48_1 d s) ⟨h0, h1, h1, h3, trivial⟩)
      · exact HdCall.one (b0 := 120) (by (try simp only [nz] at h0 h1 h1 h3); first | (simp only [hd, hdTwo, hdPlaces, hdOne, sm, w1, al10, hdN, cA, h0, h1, h1, h3]; first | done | rfl | (simp; done)) | (exfalso; simp only [nz, pA, dA, wA] at *; omega) | (exfalso; simp only [nz, pA, dA] at *; have := wd_ex d; omega) | (simp only [nz, pA, dA] at *; simp_all [hd, hdTwo, hdPlaces, hdOne, sm, w1, al10, hdN]; done)) (Ly.Ends.of_run ctxW_ok 900 _ gHeads (by kernel_rfl) (h48_2 d s) ⟨h0, h1, h1, h3, trivial⟩) rfl
  · rcases Bool.eq_false_or_eq_true ((wd d != 0) == true) with h1 | h1
    · rcases Bool.eq_false_or_eq_true (wd d == 16) with h2 | h2
      · exact HdCall.zero (by (try simp only [nz] at h0 h1 h2); first | (simp only [hd, hdTwo, hdPlaces, hdOne, sm, w1, al10, hdN, cA, h0, h1, h2]; first | done | rfl | (simp; done)) | (exfalso; simp only [nz, pA, dA, wA] at *; omega) | (exfalso; simp only [nz, pA, dA] at *; have := wd_ex d; omega) | (simp only [nz, pA, dA] at *; simp_all [hd, hdTwo, hdPlaces, hdOne, sm, w1, al10, hdN]; done)) (Ly.Ends.of_run ctxW_ok 900 _ gHeads (by kernel_rfl) (h48_3 d s) ⟨h0, h1, h2, trivial⟩)
      · exact HdCall.zero (by (try simp only [nz] at h0 h1 h2); first | (simp only [hd, hdTwo, hdPlaces, hdOne, sm, w1, al10, hdN, cA, h0, h1, h2]; first | done | rfl | (simp; done)) | (exfalso; simp only [nz, pA, dA, wA] at *; omega) | (exfalso; simp only [nz, pA, dA] at *; have := wd_ex d; omega) | (simp only [nz, pA, dA] at *; simp_all [hd, hdTwo, hdPlaces, hdOne, sm, w1, al10, hdN]; done)) (Ly.Ends.of_run ctxW_ok 900 _ gHeads (by kernel_rfl) (h48_4 d s) ⟨h0, h1, h2, trivial⟩)
    · have h2 : (wd d == 16) = false := by first | (simp [nm_in]; done) | (simp_all; done) | (simp_all; omega) | (simp at *; omega)
      exact HdCall.zero (by (try simp only [nz] at h0 h1 h2); first | (simp only [hd, hdTwo, hdPlaces, hdOne, sm, w1, al10, hdN, cA, h0, h1, h2]; first | done | rfl | (simp; done)) | (exfalso; simp only [nz, pA, dA, wA] at *; omega) | (exfalso; simp only [nz, pA, dA] at *; have := wd_ex d; omega) | (simp only [nz, pA, dA] at *; simp_all [hd, hdTwo, hdPlaces, hdOne, sm, w1, al10, hdN]; done)) (Ly.Ends.of_run ctxW_ok 900 _ gHeads (by kernel_rfl) (h48_5 d s) ⟨h0, h1, h2, trivial⟩)
theorem h49_0 (d s : Int) : endsAt [] (Ly.run ctxW 900 (dp [3, 21, 13, 7]) (hst 49 d s)) = some ([((s != 0) == false, true), ((d == 0) == true, true), ((d == 0) == true, true), (d != 20, true)], nilHd, 1, []) := by kernel_rfl
theorem h49_1 (d s : Int) : endsAt [] (Ly.run ctxW 900 (dp [3, 20, 12, 7]) (hst 49 d s)) = some ([((s != 0) == false, true), ((d == 0) == true, false), ((d == 0) == true, false), (d != 20, true)], nilHd, 1, []) := by kernel_rfl
theorem h49_2 (d s : Int) : endsAt [1] (Ly.run ctxW 900 (dp [3, 20, 12, 6]) (hst 49 d s)) = some ([((s != 0) == false, true), ((d == 0) == true, false), ((d == 0) == true, false), (d != 20, false)], .agg ⟨[.slice (some ⟨1, 0, none⟩) 1 1, .int .i64 3]⟩, 3, [some (.cells [.int .u8 121] 5)]) := by kernel_rfl
theorem h49_3 (d s : Int) : endsAt [] (Ly.run ctxW 900 (dp [2, 15, 17]) (hst 49 d s)) = some ([((s != 0) == false, false), ((wd d != 0) == true, true), (wd d == 16, true)], nilHd, 2, []) := by kernel_rfl
theorem h49_4 (d s : Int) : endsAt [] (Ly.run ctxW 900 (dp [2, 15, 16]) (hst 49 d s)) = some ([((s != 0) == false, false), ((wd d != 0) == true, true), (wd d == 16, false)], nilHd, 2, []) := by kernel_rfl
theorem h49_5 (d s : Int) : endsAt [] (Ly.run ctxW 900 (dp [2, 14, 12]) (hst 49 d s)) = some ([((s != 0) == false, false), ((wd d != 0) == true, false), (wd d == 16, false)], nilHd, 2, []) := by kernel_rfl
theorem h49_all (d s : Int)  : HdCall 49 d s := by
  rcases Bool.eq_false_or_eq_true ((s != 0) == false) with h0 | h0
  · rcases Bool.eq_false_or_eq_true ((d == 0) == true) with h1 | h1
    · have h3 : (d != 20) = true := by first | (simp [nm_in]; done) | (simp_all; done) | (simp_all; omega) | (simp at *; omega)
      exact HdCall.zero (by (try simp only [nz] at h0 h1 h1 h3); first | (simp only [hd, hdTwo, hdPlaces, hdOne, sm, w1, al10, hdN, cA, h0, h1, h1, h3]; first | done | rfl | (simp; done)) | (exfalso; simp only [nz, pA, dA, wA] at *; omega) | (exfalso; simp only [nz, pA, dA] at *; have := wd_ex d; omega) | (simp only [nz, pA, dA] at *; simp_all [hd, hdTwo, hdPlaces, hdOne, sm, w1, al10, hdN]; done)) (Ly.Ends.of_run ctxW_ok 900 _ gHeads (by kernel_rfl) (h49_0 d s) ⟨h0, h1, h1, h3, trivial⟩)
    · rcases Bool.eq_false_or_eq_true (d != 20) with h3 | h3
      · exact HdCall.zero (by (try simp only [nz] at h0 h1 h1 h3); first | (simp only [hd, hdTwo, hdPlaces, hdOne, sm, w1, al10, hdN, cA, h0, h1, h1, h3]; first | done | rfl | (simp; done)) | (exfalso; simp only [nz, pA, dA, wA] at *; omega) | (exfalso; simp only [nz, pA, dA] at *; have := wd_ex d; omega) | (simp only [nz, pA, dA] at *; simp_all [hd, hdTwo, hdPlaces, hdOne, sm, w1, al10, hdN]; done)) (Ly.Ends.of_run ctxW_ok 900 _ gHeads (by kernel_rfl) (h49_1 d s) ⟨h0, h1, h1, h3, trivial⟩)
      · exact HdCall.one (b0 := 121) (by (try simp only [nz] at h0 h1 h1 h3); first | (simp only [hd, hdTwo, hdPlaces, hdOne, sm, w1, al10, hdN, cA, h0, h1, h1, h3]; first | done | rfl | (simp; done)) | (exfalso; simp only [nz, pA, dA, wA] at *; omega) | (exfalso; simp only [nz, pA, dA] at *; have := wd_ex d; omega) | (simp only [nz, pA, dA] at *; simp_all [hd, hdTwo, hdPlaces, hdOne, sm, w1, al10, hdN]; done)) (Ly.Ends.of_run ctxW_ok 900 _ gHeads (by kernel_rfl) (h49_2 d s) ⟨h0, h1, h1, h3, trivial⟩) rfl
  · rcases Bool.eq_false_or_eq_true ((wd d != 0) == true) with h1 | h1
    · rcases Bool.eq_false_or_eq_true (wd d == 16) with h2 | h2
      · exact HdCall.zero (by (try simp only [nz] at h0 h1 h2); first | (simp only [hd, hdTwo, hdPlaces, hdOne, sm, w1, al10, hdN, cA, h0, h1, h2]; first | done | rfl | (simp; done)) | (exfalso; simp only [nz, pA, dA, wA] at *; omega) | (exfalso; simp only [nz, pA, dA] at *; have := wd_ex d; omega) | (simp only [nz, pA, dA] at *; simp_all [hd, hdTwo, hdPlaces, hdOne, sm, w1, al10, hdN]; done)) (Ly.Ends.of_run ctxW_ok 900 _ gHeads (by kernel_rfl) (h49_3 d s) ⟨h0, h1, h2, trivial⟩)
      · exact HdCall.zero (by (try simp only [nz] at h0 h1 h2); first | (simp only [hd, hdTwo, hdPlaces, hdOne, sm, w1, al10, hdN, cA, h0, h1, h2]; first | done | rfl | (simp; done)) | (exfalso; simp only [nz, pA, dA, wA] at *; omega) | (exfalso; simp only [nz, pA, dA] at *; have := wd_ex d; omega) | (simp only [nz, pA, dA] at *; simp_all [hd, hdTwo, hdPlaces, hdOne, sm, w1, al10, hdN]; done)) (Ly.Ends.of_run ctxW_ok 900 _ gHeads (by kernel_rfl) (h49_4 d s) ⟨h0, h1, h2, trivial⟩)
    · have h2 : (wd d == 16) = false := by first | (simp [nm_in]; done) | (simp_all; done) | (simp_all; omega) | (simp at *; omega)
      exact HdCall.zero (by (try simp only [nz] at h0 h1 h2); first | (simp only [hd, hdTwo, hdPlaces, hdOne, sm, w1, al10, hdN, cA, h0, h1, h2]; first | done | rfl | (simp; done)) | (exfalso; simp only [nz, pA, dA, wA] at *; omega) | (exfalso; simp only [nz, pA, dA] at *; have := wd_ex d; omega) | (simp only [nz, pA, dA] at *; simp_all [hd, hdTwo, hdPlaces, hdOne, sm, w1, al10, hdN]; done)) (Ly.Ends.of_run ctxW_ok 900 _ gHeads (by kernel_rfl) (h49_5 d s) ⟨h0, h1, h2, trivial⟩)
theorem h50_0 (d s : Int) : endsAt [] (Ly.run ctxW 900 (dp [3, 21, 13, 7]) (hst 50 d s)) = some ([((s != 0) == false, true), ((d == 0) == true, true), ((d == 0) == true, true), (d != 20, true)], nilHd, 1, []) := by kernel_rfl
theorem h50_1 (d s : Int) : endsAt [] (Ly.run ctxW 900 (dp [3, 20, 12, 7]) (hst 50 d s)) = some ([((s != 0) == false, true), ((d == 0) == true, false), ((d == 0) == true, false), (d != 20, true)], nilHd, 1, []) := by kernel_rfl
theorem h50_2 (d s : Int) : endsAt [1] (Ly.run ctxW 900 (dp [3, 20, 12, 6]) (hst 50 d s)) = some ([((s != 0) == false, true), ((d == 0) == true, false), ((d == 0) == true, false), (d != 20, false)], .agg ⟨[.slice (some ⟨1, 0, none⟩) 1 1, .int .i64 3]⟩, 3, [some (.cells [.int .u8 122] 5)]) := by kernel_rfl
theorem h50_3 (d s : Int) : endsAt [] (Ly.run ctxW 900 (dp [2, 15, 17]) (hst 50 d s)) = some ([((s != 0) == false, false), ((wd d != 0) == true, true), (wd d == 16, true)], nilHd, 2, []) := by kernel_rfl
theorem h50_4 (d s : Int) : endsAt [] (Ly.run ctxW 900 (dp [2, 15, 16]) (hst 50 d s)) = some ([((s != 0) == false, false), ((wd d != 0) == true, true), (wd d == 16, false)], nilHd, 2, []) := by kernel_rfl
theorem h50_5 (d s : Int) : endsAt [] (Ly.run ctxW 900 (dp [2, 14, 12]) (hst 50 d s)) = some ([((s != 0) == false, false), ((wd d != 0) == true, false), (wd d == 16, false)], nilHd, 2, []) := by kernel_rfl
theorem h50_all (d s : Int)  : HdCall 50 d s := by
  rcases Bool.eq_false_or_eq_true ((s != 0) == false) with h0 | h0
  · rcases Bool.eq_false_or_eq_true ((d == 0) == true) with h1 | h1
    · have h3 : (d != 20) = true := by first | (simp [nm_in]; done) | (simp_all; done) | (simp_all; omega) | (simp at *; omega)
      exact HdCall.zero (by (try simp only [nz] at h0 h1 h1 h3); first | (simp only [hd, hdTwo, hdPlaces, hdOne, sm, w1, al10, hdN, cA, h0, h1, h1, h3]; first | done | rfl | (simp; done)) | (exfalso; simp only [nz, pA, dA, wA] at *; omega) | (exfalso; simp only [nz, pA, dA] at *; have := wd_ex d; omega) | (simp only [nz, pA, dA] at *; simp_all [hd, hdTwo, hdPlaces, hdOne, sm, w1, al10, hdN]; done)) (Ly.Ends.of_run ctxW_ok 900 _ gHeads (by kernel_rfl) (h50_0 d s) ⟨h0, h1, h1, h3, trivial⟩)
    · rcases Bool.eq_false_or_eq_true (d != 20) with h3 | h3
      · exact HdCall.zero (by (try simp only [nz] at h0 h1 h1 h3); first | (simp only [hd, hdTwo, hdPlaces, hdOne, sm, w1, al10, hdN, cA, h0, h1, h1, h3]; first | done | rfl | (simp; done)) | (exfalso; simp only [nz, pA, dA, wA] at *; omega) | (exfalso; simp only [nz, pA, dA] at *; have := wd_ex d; omega) | (simp only [nz, pA, dA] at *; simp_all [hd, hdTwo, hdPlaces, hdOne, sm, w1, al10, hdN]; done)) (Ly.Ends.of_run ctxW_ok 900 _ gHeads (by kernel_rfl) (h50_1 d s) ⟨h0, h1, h1, h3, trivial⟩)
      · exact HdCall.one (b0 := 122) (by (try simp only [nz] at h0 h1 h1 h3); first | (simp only [hd, hdTwo, hdPlaces, hdOne, sm, w1, al10, hdN, cA, h0, h1, h1, h3]; first | done | rfl | (simp; done)) | (exfalso; simp only [nz, pA, dA, wA] at *; omega) | (exfalso; simp only [nz, pA, dA] at *; have := wd_ex d; omega) | (simp only [nz, pA, dA] at *; simp_all [hd, hdTwo, hdPlaces, hdOne, sm, w1, al10, hdN]; done)) (Ly.Ends.of_run ctxW_ok 900 _ gHeads (by kernel_rfl) (h50_2 d s) ⟨h0, h1, h1, h3, trivial⟩) rfl
  · rcases Bool.eq_false_or_eq_true ((wd d != 0) == true) with h1 | h1
    · rcases Bool.eq_false_or_eq_true (wd d == 16) with h2 | h2
      · exact HdCall.zero (by (try simp only [nz] at h0 h1 h2); first | (simp only [hd, hdTwo, hdPlaces, hdOne, sm, w1, al10, hdN, cA, h0, h1, h2]; first | done | rfl | (simp; done)) | (exfalso; simp only [nz, pA, dA, wA] at *; omega) | (exfalso; simp only [nz, pA, dA] at *; have := wd_ex d; omega) | (simp only [nz, pA, dA] at *; simp_all [hd, hdTwo, hdPlaces, hdOne, sm, w1, al10, hdN]; done)) (Ly.Ends.of_run ctxW_ok 900 _ gHeads (by kernel_rfl) (h50_3 d s) ⟨h0, h1, h2, trivial⟩)
      · exact HdCall.zero (by (try simp only [nz] at h0 h1 h2); first | (simp only [hd, hdTwo, hdPlaces, hdOne, sm, w1, al10, hdN, cA, h0, h1, h2]; first | done | rfl | (simp; done)) | (exfalso; simp only [nz, pA, dA, wA] at *; omega) | (exfalso; simp only [nz, pA, dA] at *; have := wd_ex d; omega) | (simp only [nz, pA, dA] at *; simp_all [hd, hdTwo, hdPlaces, hdOne, sm, w1, al10, hdN]; done)) (Ly.Ends.of_run ctxW_ok 900 _ gHeads (by kernel_rfl) (h50_4 d s) ⟨h0, h1, h2, trivial⟩)
    · have h2 : (wd d == 16) = false := by first | (simp [nm_in]; done) | (simp_all; done) | (simp_all; omega) | (simp at *; omega)
      exact HdCall.zero (by (try simp only [nz] at h0 h1 h2); first | (simp only [hd, hdTwo, hdPlaces, hdOne, sm, w1, al10, hdN, cA, h0, h1, h2]; first | done | rfl | (simp; done)) | (exfalso; simp only [nz, pA, dA, wA] at *; omega) | (exfalso; simp only [nz, pA, dA] at *; have := wd_ex d; omega) | (simp only [nz, pA, dA] at *; simp_all [hd, hdTwo, hdPlaces, hdOne, sm, w1, al10, hdN]; done)) (Ly.Ends.of_run ctxW_ok 900 _ gHeads (by kernel_rfl) (h50_5 d s) ⟨h0, h1, h2, trivial⟩)
theorem h51_0 (d s : Int) : endsAt [] (Ly.run ctxW 900 (dp [3, 21, 13, 7]) (hst 51 d s)) = some ([((s != 0) == false, true), ((d == 0) == true, true), ((d == 0) == true, true), (d != 20, true)], nilHd, 1, []) := by kernel_rfl
theorem h51_1 (d s : Int) : endsAt [] (Ly.run ctxW 900 (dp [3, 20, 12, 7]) (hst 51 d s)) = some ([((s != 0) == false, true), ((d == 0) == true, false), ((d == 0) == true, false), (d != 20, true)], nilHd, 1, []) := by kernel_rfl
theorem h51_2 (d s : Int) : endsAt [1] (Ly.run ctxW 900 (dp [3, 20, 12, 6]) (hst 51 d s)) = some ([((s != 0) == false, true), ((d == 0) == true, false), ((d == 0) == true, false), (d != 20, false)], .agg ⟨[.slice (some ⟨1, 0, none⟩) 1 1, .int .i64 3]⟩, 3, [some (.cells [.int .u8 123] 5)]) := by kernel_rfl
theorem h51_3 (d s : Int) : endsAt [] (Ly.run ctxW 900 (dp [2, 15, 17]) (hst 51 d s)) = some ([((s != 0) == false, false), ((wd d != 0) == true, true), (wd d == 16, true)], nilHd, 2, []) := by kernel_rfl
theorem h51_4 (d s : Int) : endsAt [] (Ly.run ctxW 900 (dp [2, 15, 16]) (hst 51 d s)) = some ([((s != 0) == false, false), ((wd d != 0) == true, true), (wd d == 16, false)], nilHd, 2, []) := by kernel_rfl
theorem h51_5 (d s : Int) : endsAt [] (Ly.run ctxW 900 (dp [2, 14, 12]) (hst 51 d s)) = some ([((s != 0) == false, false), ((wd d != 0) == true, false), (wd d == 16, false)], nilHd, 2, []) := by kernel_rfl
theorem h51_all (d s : Int)  : HdCall 51 d s := by
  rcases Bool.eq_false_or_eq_true ((s != 0) == false) with h0 | h0
  · rcases Bool.eq_false_or_eq_true ((d == 0) == true) with h1 | h1
    · have h3 : (d != 20) = true := by first | (simp [nm_in]; done) | (simp_all; done) | (simp_all; omega) | (simp at *; omega)
      exact HdCall.zero (by (try simp only [nz] at h0 h1 h1 h3); first | (simp only [hd, hdTwo, hdPlaces, hdOne, sm, w1, al10, hdN, cA, h0, h1, h1, h3]; first | done | rfl | (simp; done)) | (exfalso; simp only [nz, pA, dA, wA] at *; omega) | (exfalso; simp only [nz, pA, dA] at *; have := wd_ex d; omega) | (simp only [nz, pA, dA] at *; simp_all [hd, hdTwo, hdPlaces, hdOne, sm, w1, al10, hdN]; done)) (Ly.Ends.of_run ctxW_ok 900 _ gHeads (by kernel_rfl) (h51_0 d s) ⟨h0, h1, h1, h3, trivial⟩)
    · rcases Bool.eq_false_or_eq_true (d != 20) with h3 | h3
      · exact HdCall.zero (by (try simp only [nz] at h0 h1 h1 h3); first | (simp only [hd, hdTwo, hdPlaces, hdOne, sm, w1, al10, hdN, cA, h0, h1, h1, h3]; first | done | rfl | (simp; done)) | (exfalso; simp only [nz, pA, dA, wA] at *; omega) | (exfalso; simp only [nz, pA, dA] at *; have := wd_ex d; omega) | (simp only [nz, pA, dA] at *; simp_all [hd, hdTwo, hdPlaces, hdOne, sm, w1, al10, hdN]; done)) (Ly.Ends.of_run ctxW_ok 900 _ gHeads (by kernel_rfl) (h51_1 d s) ⟨h0, h1, h1, h3, trivial⟩)
      · exact HdCall.one (b0 := 123) (by (try simp only [nz] at h0 h1 h1 h3); first | (simp only [hd, hdTwo, hdPlaces, hdOne, sm, w1, al10, hdN, cA, h0, h1, h1, h3]; first | done | rfl | (simp; done)) | (exfalso; simp only [nz, pA, dA, wA] at *; omega) | (exfalso; simp only [nz, pA, dA] at *; have := wd_ex d; omega) | (simp only [nz, pA, dA] at *; simp_all [hd, hdTwo, hdPlaces, hdOne, sm, w1, al10, hdN]; done)) (Ly.Ends.of_run ctxW_ok 900 _ gHeads (by kernel_rfl) (h51_2 d s) ⟨h0, h1, h1, h3, trivial⟩) rfl
  · rcases Bool.eq_false_or_eq_true ((wd d != 0) == true) with h1 | h1
    · rcases Bool.eq_false_or_eq_true (wd d == 16) with h2 | h2
      · exact HdCall.zero (by (try simp only [nz] at h0 h1 h2); first | (simp only [hd, hdTwo, hdPlaces, hdOne, sm, w1, al10, hdN, cA, h0, h1, h2]; first | done | rfl | (simp; done)) | (exfalso; simp only [nz, pA, dA, wA] at *; omega) | (exfalso; simp only [nz, pA, dA] at *; have := wd_ex d; omega) | (simp only [nz, pA, dA] at *; simp_all [hd, hdTwo, hdPlaces, hdOne, sm, w1, al10, hdN]; done)) (Ly.Ends.of_run ctxW_ok 900 _ gHeads (by kernel_rfl) (h51_3 d s) ⟨h0, h1, h2, trivial⟩)
      · exact HdCall.zero (by (try simp only [nz] at h0 h1 h2); first | (simp only [hd, hdTwo, hdPlaces, hdOne, sm, w1, al10, hdN, cA, h0, h1, h2]; first | done | rfl | (simp; done)) | (exfalso; simp only [nz, pA, dA, wA] at *; omega) | (exfalso; simp only [nz, pA, dA] at *; have := wd_ex d; omega) | (simp only [nz, pA, dA] at *; simp_all [hd, hdTwo, hdPlaces, hdOne, sm, w1, al10, hdN]; done)) (Ly.Ends.of_run ctxW_ok 900 _ gHeads (by kernel_rfl) (h51_4 d s) ⟨h0, h1, h2, trivial⟩)
    · have h2 : (wd d == 16) = false := by first | (simp [nm_in]; done) | (simp_all; done) | (simp_all; omega) | (simp at *; omega)
      exact HdCall.zero (by (try simp only [nz] at h0 h1 h2); first | (simp only [hd, hdTwo, hdPlaces, hdOne, sm, w1, al10, hdN, cA, h0, h1, h2]; first | done | rfl | (simp; done)) | (exfalso; simp only [nz, pA, dA, wA] at *; omega) | (exfalso; simp only [nz, pA, dA] at *; have := wd_ex d; omega) | (simp only [nz, pA, dA] at *; simp_all [hd, hdTwo, hdPlaces, hdOne, sm, w1, al10, hdN]; done)) (Ly.Ends.of_run ctxW_ok 900 _ gHeads (by kernel_rfl) (h51_5 d s) ⟨h0, h1, h2, trivial⟩)
theorem hL_0 (op d s : Int) : endsAt [] (Ly.run ctxW 900 (dp [1]) (hst op d s)) = some ([(decide (op < 1), true)], nilHd, 1, []) := by kernel_rfl
theorem hL_all (op d s : Int) (hop : op < 1) : HdCall op d s := by
  have hop1 : decide (op < 1) = true := decide_eq_true hop
  have hop2 : decide (9 < op) = false := decide_eq_false (by omega)
  have hop3 : decide (op ≤ 19) = true := decide_eq_true (by omega)
  have hop4 : decide (op ≤ 29) = true := decide_eq_true (by omega)
  have h0 : (decide (op < 1)) = true := by first | (simp [nm_in]; done) | (simp_all; done) | (simp_all; omega) | (simp at *; omega)
  exact HdCall.zero (by (try simp only [nz] at h0); first | (simp only [hd, hdTwo, hdPlaces, hdOne, sm, w1, al10, hdN, cA, h0, hop1, hop2, hop3, hop4]; first | done | rfl | (simp; done)) | (exfalso; simp only [nz, pA, dA, wA] at *; omega) | (exfalso; simp only [nz, pA, dA] at *; have := wd_ex d; omega) | (simp only [nz, pA, dA] at *; simp_all [hd, hdTwo, hdPlaces, hdOne, sm, w1, al10, hdN]; done)) (Ly.Ends.of_run ctxW_ok 900 _ gHeads (by kernel_rfl) (hL_0 op d s) ⟨h0, trivial⟩)
theorem hG_0 (op d s : Int) : endsAt [] (Ly.run ctxW 900 (dp [0, 1, 5, 4, 1, 4, 1, 5, 4, 1, 4, 1]) (hst op d s)) = some ([(decide (op < 1), false), ((s != 0) == false, true), ((op == 1) == false, true), (op == 17, false), (decide (10 ≤ op) == true, true), (decide (op ≤ 19), false), ((d == 0) == true, true), (decide (20 ≤ op) == true, true), (decide (op ≤ 29), false), ((d == 0) == true, true), (op == 35, false), (d != 20, true)], nilHd, 1, []) := by kernel_rfl
theorem hG_1 (op d s : Int) : endsAt [] (Ly.run ctxW 900 (dp [0, 1, 5, 4, 1, 4, 0, 12, 7]) (hst op d s)) = some ([(decide (op < 1), false), ((s != 0) == false, true), ((op == 1) == false, true), (op == 17, false), (decide (10 ≤ op) == true, true), (decide (op ≤ 19), false), ((d == 0) == true, false), ((d == 0) == true, false), (d != 20, true)], nilHd, 1, []) := by kernel_rfl
theorem hG_2 (op d s : Int) : endsAt [] (Ly.run ctxW 900 (dp [0, 1, 5, 4, 1, 4, 0, 12, 6, 0, 0, 0, 1, 4]) (hst op d s)) = some ([(decide (op < 1), false), ((s != 0) == false, true), ((op == 1) == false, true), (op == 17, false), (decide (10 ≤ op) == true, true), (decide (op ≤ 19), false), ((d == 0) == true, false), ((d == 0) == true, false), (d != 20, false), (op == 32, false), (op == 33, false), (op == 34, false), (decide (42 ≤ op) == true, true), (decide (op ≤ 51) == true, false)], nilHd, 1, []) := by kernel_rfl
theorem hG_3 (op d s : Int) : endsAt [] (Ly.run ctxW 900 (dp [0, 0, 15, 17, 0, 4, 0, 16, 12, 13, 5]) (hst op d s)) = some ([(decide (op < 1), false), ((s != 0) == false, false), ((wd d != 0) == true, true), (wd d == 16, true), ((op == 1) == true, false), (op == 1, false), ((op == 17) == true, false), ((op == 30) == true, false), ((op == 31) == true, false), (decide (op < 2) == false, true), (decide (9 < op), true)], nilHd, 2, []) := by kernel_rfl
theorem hG_4 (op d s : Int) : endsAt [] (Ly.run ctxW 900 (dp [0, 0, 15, 16, 0, 4, 0, 16, 12, 13, 5]) (hst op d s)) = some ([(decide (op < 1), false), ((s != 0) == false, false), ((wd d != 0) == true, true), (wd d == 16, false), ((op == 1) == true, false), (op == 1, false), ((op == 17) == true, false), ((op == 30) == true, false), ((op == 31) == true, false), (decide (op < 2) == false, true), (decide (9 < op), true)], nilHd, 2, []) := by kernel_rfl
theorem hG_5 (op d s : Int) : endsAt [] (Ly.run ctxW 900 (dp [0, 0, 14, 12, 0, 4, 0, 16, 12, 13, 5]) (hst op d s)) = some ([(decide (op < 1), false), ((s != 0) == false, false), ((wd d != 0) == true, false), (wd d == 16, false), ((op == 1) == true, false), (op == 1, false), ((op == 17) == true, false), ((op == 30) == true, false), ((op == 31) == true, false), (decide (op < 2) == false, true), (decide (9 < op), true)], nilHd, 2, []) := by kernel_rfl
theorem hG_all (op d s : Int) (hop : 51 < op) : HdCall op d s := by
  have hop1 : decide (op < 1) = false := decide_eq_false (by omega)
  have hop2 : decide (9 < op) = true := decide_eq_true (by omega)
  have hop3 : decide (op ≤ 19) = false := decide_eq_false (by omega)
  have hop4 : decide (op ≤ 29) = false := decide_eq_false (by omega)
  have h0 : (decide (op < 1)) = false := by first | (simp [nm_in]; done) | (simp_all; done) | (simp_all; omega) | (simp at *; omega)
  rcases Bool.eq_false_or_eq_true ((s != 0) == false) with h1 | h1
  · have h2 : ((op == 1) == false) = true := by first | (simp [nm_in]; done) | (simp_all; done) | (simp_all; omega) | (simp at *; omega)
    have h3 : (op == 17) = false := by first | (simp [nm_in]; done) | (simp_all; done) | (simp_all; omega) | (simp at *; omega)
    have h4 : (decide (10 ≤ op) == true) = true := by first | (simp [nm_in]; done) | (simp_all; done) | (simp_all; omega) | (simp at *; omega)
    have h5 : (decide (op ≤ 19)) = false := by first | (simp [nm_in]; done) | (simp_all; done) | (simp_all; omega) | (simp at *; omega)
    rcases Bool.eq_false_or_eq_true ((d == 0) == true) with h6 | h6
    · have h7 : (decide (20 ≤ op) == true) = true := by first | (simp [nm_in]; done) | (simp_all; done) | (simp_all; omega) | (simp at *; omega)
      have h8 : (decide (op ≤ 29)) = false := by first | (simp [nm_in]; done) | (simp_all; done) | (simp_all; omega) | (simp at *; omega)
      have h10 : (op == 35) = false := by first | (simp [nm_in]; done) | (simp_all; done) | (simp_all; omega) | (simp at *; omega)
      have h11 : (d != 20) = true := by first | (simp [nm_in]; done) | (simp_all; done) | (simp_all; omega) | (simp at *; omega)
      exact HdCall.zero (by (try simp only [nz] at h0 h1 h2 h3 h4 h5 h6 h7 h8 h6 h10 h11); first | (simp only [hd, hdTwo, hdPlaces, hdOne, sm, w1, al10, hdN, cA, h0, h1, h2, h3, h4, h5, h6, h7, h8, h6, h10, h11, hop1, hop2, hop3, hop4]; first | done | rfl | (simp; done)) | (exfalso; simp only [nz, pA, dA, wA] at *; omega) | (exfalso; simp only [nz, pA, dA] at *; have := wd_ex d; omega) | (simp only [nz, pA, dA] at *; simp_all [hd, hdTwo, hdPlaces, hdOne, sm, w1, al10, hdN]; done)) (Ly.Ends.of_run ctxW_ok 900 _ gHeads (by kernel_rfl) (hG_0 op d s) ⟨h0, h1, h2, h3, h4, h5, h6, h7, h8, h6, h10, h11, trivial⟩)
    · rcases Bool.eq_false_or_eq_true (d != 20) with h8 | h8
      · exact HdCall.zero (by (try simp only [nz] at h0 h1 h2 h3 h4 h5 h6 h6 h8); first | (simp only [hd, hdTwo, hdPlaces, hdOne, sm, w1, al10, hdN, cA, h0, h1, h2, h3, h4, h5, h6, h6, h8, hop1, hop2, hop3, hop4]; first | done | rfl | (simp; done)) | (exfalso; simp only [nz, pA, dA, wA] at *; omega) | (exfalso; simp only [nz, pA, dA] at *; have := wd_ex d; omega) | (simp only [nz, pA, dA] at *; simp_all [hd, hdTwo, hdPlaces, hdOne, sm, w1, al10, hdN]; done)) (Ly.Ends.of_run ctxW_ok 900 _ gHeads (by kernel_rfl) (hG_1 op d s) ⟨h0, h1, h2, h3, h4, h5, h6, h6, h8, trivial⟩)
      · have h9 : (op == 32) = false := by first | (simp [nm_in]; done) | (simp_all; done) | (simp_all; omega) | (simp at *; omega)
        have h10 : (op == 33) = false := by first | (simp [nm_in]; done) | (simp_all; done) | (simp_all; omega) | (simp at *; omega)
        have h11 : (op == 34) = false := by first | (simp [nm_in]; done) | (simp_all; done) | (simp_all; omega) | (simp at *; omega)
        have h12 : (decide (42 ≤ op) == true) = true := by first | (simp [nm_in]; done) | (simp_all; done) | (simp_all; omega) | (simp at *; omega)
        have h13 : (decide (op ≤ 51) == true) = false := by first | (simp [nm_in]; done) | (simp_all; done) | (simp_all; omega) | (simp at *; omega)
        exact HdCall.zero (by (try simp only [nz] at h0 h1 h2 h3 h4 h5 h6 h6 h8 h9 h10 h11 h12 h13); first | (simp only [hd, hdTwo, hdPlaces, hdOne, sm, w1, al10, hdN, cA, h0, h1, h2, h3, h4, h5, h6, h6, h8, h9, h10, h11, h12, h13, hop1, hop2, hop3, hop4]; first | done | rfl | (simp; done)) | (exfalso; simp only [nz, pA, dA, wA] at *; omega) | (exfalso; simp only [nz, pA, dA] at *; have := wd_ex d; omega) | (simp only [nz, pA, dA] at *; simp_all [hd, hdTwo, hdPlaces, hdOne, sm, w1, al10, hdN]; done)) (Ly.Ends.of_run ctxW_ok 900 _ gHeads (by kernel_rfl) (hG_2 op d s) ⟨h0, h1, h2, h3, h4, h5, h6, h6, h8, h9, h10, h11, h12, h13, trivial⟩)
  · rcases Bool.eq_false_or_eq_true ((wd d != 0) == true) with h2 | h2
    · rcases Bool.eq_false_or_eq_true (wd d == 16) with h3 | h3
      · have h4 : ((op == 1) == true) = false := by first | (simp [nm_in]; done) | (simp_all; done) | (simp_all; omega) | (simp at *; omega)
        have h5 : (op == 1) = false := by first | (simp [nm_in]; done) | (simp_all; done) | (simp_all; omega) | (simp at *; omega)
        have h6 : ((op == 17) == true) = false := by first | (simp [nm_in]; done) | (simp_all; done) | (simp_all; omega) | (simp at *; omega)
        have h7 : ((op == 30) == true) = false := by first | (simp [nm_in]; done) | (simp_all; done) | (simp_all; omega) | (simp at *; omega)
        have h8 : ((op == 31) == true) = false := by first | (simp [nm_in]; done) | (simp_all; done) | (simp_all; omega) | (simp at *; omega)
        have h9 : (decide (op < 2) == false) = true := by first | (simp [nm_in]; done) | (simp_all; done) | (simp_all; omega) | (simp at *; omega)
        have h10 : (decide (9 < op)) = true := by first | (simp [nm_in]; done) | (simp_all; done) | (simp_all; omega) | (simp at *; omega)
        exact HdCall.zero (by (try simp only [nz] at h0 h1 h2 h3 h4 h5 h6 h7 h8 h9 h10); first | (simp only [hd, hdTwo, hdPlaces, hdOne, sm, w1, al10, hdN, cA, h0, h1, h2, h3, h4, h5, h6, h7, h8, h9, h10, hop1, hop2, hop3, hop4]; first | done | rfl | (simp; done)) | (exfalso; simp only [nz, pA, dA, wA] at *; omega) | (exfalso; simp only [nz, pA, dA] at *; have := wd_ex d; omega) | (simp only [nz, pA, dA] at *; simp_all [hd, hdTwo, hdPlaces, hdOne, sm, w1, al10, hdN]; done)) (Ly.Ends.of_run ctxW_ok 900 _ gHeads (by kernel_rfl) (hG_3 op d s) ⟨h0, h1, h2, h3, h4, h5, h6, h7, h8, h9, h10, trivial⟩)
      · have h4 : ((op == 1) == true) = false := by first | (simp [nm_in]; done) | (simp_all; done) | (simp_all; omega) | (simp at *; omega)
        have h5 : (op == 1) = false := by first | (simp [nm_in]; done) | (simp_all; done) | (simp_all; omega) | (simp at *; omega)
        have h6 : ((op == 17) == true) = false := by first | (simp [nm_in]; done) | (simp_all; done) | (simp_all; omega) | (simp at *; omega)
        have h7 : ((op == 30) == true) = false := by first | (simp [nm_in]; done) | (simp_all; done) | (simp_all; omega) | (simp at *; omega)
        have h8 : ((op == 31) == true) = false := by first | (simp [nm_in]; done) | (simp_all; done) | (simp_all; omega) | (simp at *; omega)
        have h9 : (decide (op < 2) == false) = true := by first | (simp [nm_in]; done) | (simp_all; done) | (simp_all; omega) | (simp at *; omega)
        have h10 : (decide (9 < op)) = true := by first | (simp [nm_in]; done) | (simp_all; done) | (simp_all; omega) | (simp at *; omega)
        exact HdCall.zero (by (try simp only [nz] at h0 h1 h2 h3 h4 h5 h6 h7 h8 h9 h10); first | (simp only [hd, hdTwo, hdPlaces, hdOne, sm, w1, al10, hdN, cA, h0, h1, h2, h3, h4, h5, h6, h7, h8, h9, h10, hop1, hop2, hop3, hop4]; first | done | rfl | (simp; done)) | (exfalso; simp only [nz, pA, dA, wA] at *; omega) | (exfalso; simp only [nz, pA, dA] at *; have := wd_ex d; omega) | (simp only [nz, pA, dA] at *; simp_all [hd, hdTwo, hdPlaces, hdOne, sm, w1, al10, hdN]; done)) (Ly.Ends.of_run ctxW_ok 900 _ gHeads (by kernel_rfl) (hG_4 op d s) ⟨h0, h1, h2, h3, h4, h5, h6, h7, h8, h9, h10, trivial⟩)
    · have h3 : (wd d == 16) = false := by first | (simp [nm_in]; done) | (simp_all; done) | (simp_all; omega) | (simp at *; omega)
      have h4 : ((op == 1) == true) = false := by first | (simp [nm_in]; done) | (simp_all; done) | (simp_all; omega) | (simp at *; omega)
      have h5 : (op == 1) = false := by first | (simp [nm_in]; done) | (simp_all; done) | (simp_all; omega) | (simp at *; omega)
      have h6 : ((op == 17) == true) = false := by first | (simp [nm_in]; done) | (simp_all; done) | (simp_all; omega) | (simp at *; omega)
      have h7 : ((op == 30) == true) = false := by first | (simp [nm_in]; done) | (simp_all; done) | (simp_all; omega) | (simp at *; omega)
      have h8 : ((op == 31) == true) = false := by first | (simp [nm_in]; done) | (simp_all; done) | (simp_all; omega) | (simp at *; omega)
      have h9 : (decide (op < 2) == false) = true := by first | (simp [nm_in]; done) | (simp_all; done) | (simp_all; omega) | (simp at *; omega)
      have h10 : (decide (9 < op)) = true := by first | (simp [nm_in]; done) | (simp_all; done) | (simp_all; omega) | (simp at *; omega)
      exact HdCall.zero (by (try simp only [nz] at h0 h1 h2 h3 h4 h5 h6 h7 h8 h9 h10); first | (simp only [hd, hdTwo, hdPlaces, hdOne, sm, w1, al10, hdN, cA, h0, h1, h2, h3, h4, h5, h6, h7, h8, h9, h10, hop1, hop2, hop3, hop4]; first | done | rfl | (simp; done)) | (exfalso; simp only [nz, pA, dA, wA] at *; omega) | (exfalso; simp only [nz, pA, dA] at *; have := wd_ex d; omega) | (simp only [nz, pA, dA] at *; simp_all [hd, hdTwo, hdPlaces, hdOne, sm, w1, al10, hdN]; done)) (Ly.Ends.of_run ctxW_ok 900 _ gHeads (by kernel_rfl) (hG_5 op d s) ⟨h0, h1, h2, h3, h4, h5, h6, h7, h8, h9, h10, trivial⟩)
end Go.Proofs.Ytkemllgkkngcjaa
namespace Go.Proofs.Ytkemllgkkngcjaa
open Go Go.Ly Go.RowKit
theorem heads_all (op d s : Int) : HdCall op d s := by
  rcases Int.lt_or_le op 1 with h | h
  · exact hL_all op d s h
  rcases Int.lt_or_le 51 op with h2 | h2
  · exact hG_all op d s h2
  have : op = 1 ∨ op = 2 ∨ op = 3 ∨ op = 4 ∨ op = 5 ∨ op = 6 ∨ op = 7 ∨ op = 8 ∨ op = 9 ∨ op = 10 ∨ op = 11 ∨ op = 12 ∨ op = 13 ∨ op = 14 ∨ op = 15 ∨ op = 16 ∨ op = 17 ∨ op = 18 ∨ op = 19 ∨ op = 20 ∨ op = 21 ∨ op = 22 ∨ op = 23 ∨ op = 24 ∨ op = 25 ∨ op = 26 ∨ op = 27 ∨ op = 28 ∨ op = 29 ∨ op = 30 ∨ op = 31 ∨ op = 32 ∨ op = 33 ∨ op = 34 ∨ op = 35 ∨ op = 36 ∨ op = 37 ∨ op = 38 ∨ op = 39 ∨ op = 40 ∨ op = 41 ∨ op = 42 ∨ op = 43 ∨ op = 44 ∨ op = 45 ∨ op = 46 ∨ op = 47 ∨ op = 48 ∨ op = 49 ∨ op = 50 ∨ op = 51 := by omega
  rcases this with rfl | rfl | rfl | rfl | rfl | rfl | rfl | rfl | rfl | rfl | rfl | rfl | rfl | rfl | rfl | rfl | rfl | rfl | rfl | rfl | rfl | rfl | rfl | rfl | rfl | rfl | rfl | rfl | rfl | rfl | rfl | rfl | rfl | rfl | rfl | rfl | rfl | rfl | rfl | rfl | rfl | rfl | rfl | rfl | rfl | rfl | rfl | rfl | rfl | rfl | rfl
  · exact h1_all d s
  · exact h2_all d s
  · exact h3_all d s
  · exact h4_all d s
  · exact h5_all d s
  · exact h6_all d s
  · exact h7_all d s
  · exact h8_all d s
  · exact h9_all d s
  · exact h10_all d s
  · exact h11_all d s
  · exact h12_all d s
  · exact h13_all d s
  · exact h14_all d s
  · exact h15_all d s
  · exact h16_all d s
  · exact h17_all d s
  · exact h18_all d s
  · exact h19_all d s
  · exact h20_all d s
  · exact h21_all d s
  · exact h22_all d s
  · exact h23_all d s
  · exact h24_all d s
  · exact h25_all d s
  · exact h26_all d s
  · exact h27_all d s
  · exact h28_all d s
  · exact h29_all d s
  · exact h30_all d s
  · exact h31_all d s
  · exact h32_all d s
  · exact h33_all d s
  · exact h34_all d s
  · exact h35_all d s
  · exact h36_all d s
  · exact h37_all d s
  · exact h38_all d s
  · exact h39_all d s
  · exact h40_all d s
  · exact h41_all d s
  · exact h42_all d s
  · exact h43_all d s
  · exact h44_all d s
  · exact h45_all d s
  · exact h46_all d s
  · exact h47_all d s
  · exact h48_all d s
  · exact h49_all d s
  · exact h50_all d s
  · exact h51_all d s
def headsE (H : Heap) (args : List Value) : ER :=
  match args with
  | [.int .i64 op, .int .i64 d, .int .i64 s] => .tst ((hd op d s).n == 0) (.val nilHd) (.tst ((hd op d s).n == 1) (aggNew H [.int .u8 (hd op d s).b0] 5 (.int .i64 (hd op d s).t)) (aggNew H [.int .u8 (hd op d s).b0, .int .u8 (hd op d s).b1] 5 (.int .i64 (hd op d s).t)))
  | _ => .no
theorem nilHd_plain : plain nilHd = true := rfl
theorem heads_good (H : Heap) (args : List Value) : HGood Try.prog 16 args H (headsE H args) := by
  unfold headsE
  split
  · rename_i op d s
    refine ⟨fun h => ?_, fun h => ⟨fun h1 => ?_, fun h1 => ?_⟩⟩
    · have h := beq_iff_eq.1 h
      rcases heads_all op d s with ⟨_, k⟩ | ⟨e, _⟩ | ⟨e, _⟩
      · exact HGood_val (by simp [plain, plainL]) nilHd_plain (fun w => calls_plain (by simp [VRL, VR]) (fun ρ v' h => plain_eq nilHd_plain h) k w) H
      · omega
      · omega
    · have h1 := beq_iff_eq.1 h1
      rcases heads_all op d s with ⟨e, _⟩ | ⟨_, r, k⟩ | ⟨e, _⟩
      · omega
      · exact aggNew_good (r := r) (by simp [plain, plainL]) (by simp [plain]) (by simp [plain, plainL]) (by unfold capU; simp) k H
      · omega
    · have h := beq_eq_false_iff_ne.1 h
      have h1 := beq_eq_false_iff_ne.1 h1
      rcases heads_all op d s with ⟨e, _⟩ | ⟨e, _⟩ | ⟨_, r, k⟩
      · omega
      · omega
      · exact aggNew_good (r := r) (by simp [plain, plainL]) (by simp [plain]) (by simp [plain, plainL]) (by unfold capU; simp) k H
  · exact trivial
end Go.Proofs.Ytkemllgkkngcjaa
namespace Go.Proofs.Ytkemllgkkngcjaa
theorem okAll_1 : okAll 1 = true := by kernel_rfl
theorem okAll_2 : okAll 2 = true := by kernel_rfl
theorem okAll_3 : okAll 3 = true := by kernel_rfl
theorem okAll_4 : okAll 4 = true := by kernel_rfl
end Go.Proofs.Ytkemllgkkngcjaa
namespace Go.Proofs.Ytkemllgkkngcjaa
theorem okAll_5 : okAll 5 = true := by kernel_rfl
theorem okAll_6 : okAll 6 = true := by kernel_rfl
theorem okAll_7 : okAll 7 = true := by kernel_rfl
theorem okAll_8 : okAll 8 = true := by kernel_rfl
end Go.Proofs.Ytkemllgkkngcjaa
namespace Go.Proofs.Ytkemllgkkngcjaa
theorem okAll_9 : okAll 9 = true := by kernel_rfl
theorem okAll_10 : okAll 10 = true := by kernel_rfl
theorem okAll_11 : okAll 11 = true := by kernel_rfl
theorem okAll_12 : okAll 12 = true := by kernel_rfl
theorem okAll_13 : okAll 13 = true := by kernel_rfl
theorem okAll_14 : okAll 14 = true := by kernel_rfl
theorem okAll_15 : okAll 15 = true := by kernel_rfl
theorem okAll_16 : okAll 16 = true := by kernel_rfl
theorem okAll_17 : okAll 17 = true := by kernel_rfl
end Go.Proofs.Ytkemllgkkngcjaa
namespace Go.Proofs.Ytkemllgkkngcjaa
theorem okAll_18 : okAll 18 = true := by kernel_rfl
theorem okAll_19 : okAll 19 = true := by kernel_rfl
theorem okAll_20 : okAll 20 = true := by kernel_rfl
theorem okAll_21 : okAll 21 = true := by kernel_rfl
theorem okAll_22 : okAll 22 = true := by kernel_rfl
theorem okAll_23 : okAll 23 = true := by kernel_rfl
theorem okAll_24 : okAll 24 = true := by kernel_rfl
theorem okAll_25 : okAll 25 = true := by kernel_rfl
theorem okAll_26 : okAll 26 = true := by kernel_rfl
theorem okAll_27 : okAll 27 = true := by kernel_rfl
theorem okAll_28 : okAll 28 = true := by kernel_rfl
theorem okAll_29 : okAll 29 = true := by kernel_rfl
theorem okAll_30 : okAll 30 = true := by kernel_rfl
theorem okAll_31 : okAll 31 = true := by kernel_rfl
theorem okAll_32 : okAll 32 = true := by kernel_rfl
theorem okAll_33 : okAll 33 = true := by kernel_rfl
theorem okAll_34 : okAll 34 = true := by kernel_rfl
theorem okAll_35 : okAll 35 = true := by kernel_rfl
theorem okAll_36 : okAll 36 = true := by kernel_rfl
theorem okAll_37 : okAll 37 = true := by kernel_rfl
theorem okAll_38 : okAll 38 = true := by kernel_rfl
theorem okAll_39 : okAll 39 = true := by kernel_rfl
theorem okAll_40 : okAll 40 = true := by kernel_rfl
theorem okAll_41 : okAll 41 = true := by kernel_rfl
theorem okAll_42 : okAll 42 = true := by kernel_rfl
theorem okAll_43 : okAll 43 = true := by kernel_rfl
theorem okAll_44 : okAll 44 = true := by kernel_rfl
theorem okAll_45 : okAll 45 = true := by kernel_rfl
theorem okAll_46 : okAll 46 = true := by kernel_rfl
theorem okAll_47 : okAll 47 = true := by kernel_rfl
theorem okAll_48 : okAll 48 = true := by kernel_rfl
theorem okAll_49 : okAll 49 = true := by kernel_rfl
theorem okAll_50 : okAll 50 = true := by kernel_rfl
theorem okAll_51 : okAll 51 = true := by kernel_rfl
end Go.Proofs.Ytkemllgkkngcjaa
namespace Go.Proofs.Ytkemllgkkngcjaa
theorem okAll_at (k : Nat) (h1 : 1 ≤ k) (h2 : k ≤ 51) : okAll k = true := by
  have : k = 1 ∨ k = 2 ∨ k = 3 ∨ k = 4 ∨ k = 5 ∨ k = 6 ∨ k = 7 ∨ k = 8 ∨ k = 9 ∨ k = 10 ∨ k = 11 ∨ k = 12 ∨ k = 13 ∨ k = 14 ∨ k = 15 ∨ k = 16 ∨ k = 17 ∨ k = 18 ∨ k = 19 ∨ k = 20 ∨ k = 21 ∨ k = 22 ∨ k = 23 ∨ k = 24 ∨ k = 25 ∨ k = 26 ∨ k = 27 ∨ k = 28 ∨ k = 29 ∨ k = 30 ∨ k = 31 ∨ k = 32 ∨ k = 33 ∨ k = 34 ∨ k = 35 ∨ k = 36 ∨ k = 37 ∨ k = 38 ∨ k = 39 ∨ k = 40 ∨ k = 41 ∨ k = 42 ∨ k = 43 ∨ k = 44 ∨ k = 45 ∨ k = 46 ∨ k = 47 ∨ k = 48 ∨ k = 49 ∨ k = 50 ∨ k = 51 := by omega
  rcases this with rfl | rfl | rfl | rfl | rfl | rfl | rfl | rfl | rfl | rfl | rfl | rfl | rfl | rfl | rfl | rfl | rfl | rfl | rfl | rfl | rfl | rfl | rfl | rfl | rfl | rfl | rfl | rfl | rfl | rfl | rfl | rfl | rfl | rfl | rfl | rfl | rfl | rfl | rfl | rfl | rfl | rfl | rfl | rfl | rfl | rfl | rfl | rfl | rfl | rfl | rfl
  · exact okAll_1
  · exact okAll_2
  · exact okAll_3
  · exact okAll_4
  · exact okAll_5
  · exact okAll_6
  · exact okAll_7
  · exact okAll_8
  · exact okAll_9
  · exact okAll_10
  · exact okAll_11
  · exact okAll_12
  · exact okAll_13
  · exact okAll_14
  · exact okAll_15
  · exact okAll_16
  · exact okAll_17
  · exact okAll_18
  · exact okAll_19
  · exact okAll_20
  · exact okAll_21
  · exact okAll_22
  · exact okAll_23
  · exact okAll_24
  · exact okAll_25
  · exact okAll_26
  · exact okAll_27
  · exact okAll_28
  · exact okAll_29
  · exact okAll_30
  · exact okAll_31
  · exact okAll_32
  · exact okAll_33
  · exact okAll_34
  · exact okAll_35
  · exact okAll_36
  · exact okAll_37
  · exact okAll_38
  · exact okAll_39
  · exact okAll_40
  · exact okAll_41
  · exact okAll_42
  · exact okAll_43
  · exact okAll_44
  · exact okAll_45
  · exact okAll_46
  · exact okAll_47
  · exact okAll_48
  · exact okAll_49
  · exact okAll_50
  · exact okAll_51
theorem okHd_at {op d s : Int} (h : (hd op d s).n ≠ 0) : okHd op d s = true := by
  obtain ⟨h1, h2, h3, h4, h5, h6⟩ := hd_range h
  obtain ⟨op', rfl⟩ := Int.eq_ofNat_of_zero_le (show 0 ≤ op by omega)
  obtain ⟨d', rfl⟩ := Int.eq_ofNat_of_zero_le h3
  obtain ⟨s', rfl⟩ := Int.eq_ofNat_of_zero_le h5
  have key := okAll_at op' (by omega) (by omega)
  unfold okAll at key
  have := List.all_eq_true.1 (List.all_eq_true.1 key d' (List.mem_range.2 (by omega))) s' (List.mem_range.2 (by omega))
  exact this
theorem is3_eq {t : T3} {op d s : Int} (h : is3 t op d s = true) : t = ⟨op, d, s⟩ := by
  unfold is3 at h
  simp only [Bool.and_eq_true, beq_iff_eq] at h
  obtain ⟨a, b, c⟩ := t
  simp only at h
  obtain ⟨rfl, rfl, rfl⟩ := h
  rfl
theorem by1_iff {x : Int} : by1 x = true ↔ 0 ≤ x ∧ x ≤ 255 := by unfold by1; simp
theorem hd_one {op d s : Int} (h : (hd op d s).n = 1) : (0 ≤ (hd op d s).b0 ∧ (hd op d s).b0 ≤ 255) ∧ (0 ≤ (hd op d s).t ∧ (hd op d s).t ≤ 3) ∧ ∀ m : Int, 0 ≤ m → m ≤ 255 → gs (hd op d s).b0 m = ⟨op, d, s⟩ := by
  have k := okHd_at (op := op) (d := d) (s := s) (by omega)
  unfold okHd at k
  have e1 : ((hd op d s).n == 0) = false := by rw [h]; rfl
  have e2 : ((hd op d s).n == 1) = true := by rw [h]; rfl
  simp only [e1, e2, cond_false, cond_true, Bool.and_eq_true, by1_iff, decide_eq_true_eq] at k
  refine ⟨k.1, k.2.1.2, fun m h1 h2 => ?_⟩
  obtain ⟨m', rfl⟩ := Int.eq_ofNat_of_zero_le h1
  exact is3_eq (List.all_eq_true.1 k.2.2 m' (List.mem_range.2 (by omega)))
theorem hd_two {op d s : Int} (h : (hd op d s).n ≠ 0) (h1 : (hd op d s).n ≠ 1) : (hd op d s).n = 2 ∧ (0 ≤ (hd op d s).b0 ∧ (hd op d s).b0 ≤ 255) ∧ (0 ≤ (hd op d s).b1 ∧ (hd op d s).b1 ≤ 255) ∧ (0 ≤ (hd op d s).t ∧ (hd op d s).t ≤ 2) ∧ gs (hd op d s).b0 (hd op d s).b1 = ⟨op, d, s⟩ := by
  have k := okHd_at (op := op) (d := d) (s := s) h
  unfold okHd at k
  have e1 : ((hd op d s).n == 0) = false := by simpa using h
  have e2 : ((hd op d s).n == 1) = false := by simpa using h1
  simp only [e1, e2, cond_false, Bool.and_eq_true, by1_iff, decide_eq_true_eq, beq_iff_eq] at k
  obtain ⟨k0, k1, k2, k3, k4⟩ := k
  exact ⟨k0, k1, k2, k3, is3_eq k4⟩
end Go.Proofs.Ytkemllgkkngcjaa
namespace Go.Proofs.Ytkemllgkkngcjaa
open Go Go.Ly Go.RowKit
def eq10H (n m : Nat) (f g : Nat → Int) : List (Option LO) := [some (ints .u8 f n), some (ints .u8 g m)]
def eq10D : St := Ly.start Try.f10 [] H0
def eq10K : List KI := ((Ly.run env.bare 22 [] (Ly.start Try.f10 [sl 0 0, sl 1 0] (mkH (eq10H 0 0 (fun _ => 0) (fun _ => 0))))).st eq10D).top.k
def eq10V (n m : Nat) (i : Int) : List Value := slots 26 [(0, sl 0 n), (1, sl 1 m), (5, .int .i64 i)]
theorem eq10get : env.bare.fn.get 10 = some Try.f10 := by kernel_rfl
theorem eq100 (n m : Nat) (f g : Nat → Int) : headAt [0, 1, 5] [0, 1] eq10D (Ly.run env.bare 22 [(0, false)] (Ly.start Try.f10 [sl 0 n, sl 1 m] (mkH (eq10H n m f g)))) = (true, [((n : Int) != (m : Int), false)], true, (Try.f10, eq10K, none, 2), eq10V n m 0, eq10H n m f g) := by kernel_rfl
theorem eq10N (n m : Nat) (f g : Nat → Int) : (Ly.run env.bare 200 [(0, true)] (Ly.start Try.f10 [sl 0 n, sl 1 m] (mkH (eq10H n m f g)))).end? = some ([((n : Int) != (m : Int), true)], .bool false, mkH (eq10H n m f g)) := by kernel_rfl
theorem eq10I (n m : Nat) (f g : Nat → Int) (i : Int) : headAt [0, 1, 5] [0, 1] eq10D (Ly.run env.bare 23 [(0, true), (0, true), (0, true), (0, true), (0, true), (0, false)] (mkSt Try.f10 eq10K none 2 (eq10V n m i) (eq10H n m f g))) = (true, [(decide (i < (n : Int)), true), (decide (0 ≤ i) && decide (i < (n : Int)), true), (Nat.blt (0 + i.toNat * 1) n, true), (decide (0 ≤ i) && decide (i < (m : Int)), true), (Nat.blt (0 + i.toNat * 1) m, true), (f (0 + i.toNat * 1) != g (0 + i.toNat * 1), false)], true, (Try.f10, eq10K, none, 2), eq10V n m (IntKind.i64.wrap (i + 1)), eq10H n m f g) := by kernel_rfl
theorem eq10T (n m : Nat) (f g : Nat → Int) (i : Int) : (Ly.run env.bare 200 [(0, false)] (mkSt Try.f10 eq10K none 2 (eq10V n m i) (eq10H n m f g))).out? = some ([(decide (i < (n : Int)), false)], .bool true) := by kernel_rfl
theorem eq10E (n m : Nat) (f g : Nat → Int) (i : Int) : (Ly.run env.bare 200 [(0, true), (0, true), (0, true), (0, true), (0, true), (0, true)] (mkSt Try.f10 eq10K none 2 (eq10V n m i) (eq10H n m f g))).out? = some ([(decide (i < (n : Int)), true), (decide (0 ≤ i) && decide (i < (n : Int)), true), (Nat.blt (0 + i.toNat * 1) n, true), (decide (0 ≤ i) && decide (i < (m : Int)), true), (Nat.blt (0 + i.toNat * 1) m, true), (f (0 + i.toNat * 1) != g (0 + i.toNat * 1), true)], .bool false) := by kernel_rfl
theorem eq10P (n m : Nat) (f g : Nat → Int) : ∀ o ∈ eq10H n m f g, ∀ x, o = some x → plainO x := by
  intro o ho x hx
  simp only [eq10H, List.mem_cons, List.not_mem_nil, or_false] at ho
  rcases ho with rfl | rfl <;> (simp only [Option.some.injEq] at hx; subst hx; exact plain_ints)
theorem eq10loop (n : Nat) (f g : Nat → Int) (hn : n ≤ 9223372036854775807) : ∀ (d : Nat) (i : Int), 0 ≤ i → i ≤ n → ((n : Int) - i).toNat = d → (∀ e : Nat, (e : Int) < i → f e = g e) →
    MWp Try.prog (mkSt Try.f10 eq10K none 2 (eq10V n n i) (eq10H n n f g)) (fun v _ => v = .bool (eqU n f g))
  | 0, i, h0, h1, hd, he => by
    have hi : i = n := by omega
    refine MWp.out (Env.bare_ok envOk) 200 _ (eq10T n n f g i) (by simp [trusted]; omega) ?_
    intro _; rw [eqU_true (fun e h => he e (by omega))]
  | d + 1, i, h0, h1, hd, he => by
    have hi : i < n := by omega
    have ht : 0 + i.toNat * 1 = i.toNat := by omega
    have hlt : Nat.blt i.toNat n = true := by rw [Nat.blt_eq]; omega
    by_cases hf : f i.toNat = g i.toNat
    · refine MWp.head (Env.bare_ok envOk) _ _ _ _ (eq10I n n f g i) (by rw [ht]; simp [trusted, hf, hlt, hi, h0]) (eq10P n n f g) ?_
      have hw : IntKind.i64.wrap (i + 1) = i + 1 := by rw [IntKind.wrap_i64]; omega
      rw [hw]
      refine eq10loop n f g hn d (i + 1) (by omega) (by omega) (by omega) (fun e h => ?_)
      by_cases h2 : (e : Int) = i
      · have : e = i.toNat := by omega
        rw [this]; exact hf
      · exact he e (by omega)
    · refine MWp.out (Env.bare_ok envOk) 200 _ (eq10E n n f g i) (by rw [ht]; simp [trusted, hf, hlt, hi, h0]) ?_
      intro _; rw [eqU_false (e := i.toNat) (by omega) hf]
theorem eq10SS (n m : Nat) (f g : Nat → Int) (hn : n ≤ 9223372036854775807) : LCalls Try.prog 10 [sl 0 n, sl 1 m] (mkH [some (ints .u8 f n), some (ints .u8 g m)]) (fun u _ => u = .bool (Nat.beq n m && eqU n f g)) := by
  refine LCalls_of (Env.bare_ok envOk) eq10get (by kernel_rfl) ?_
  by_cases h : n = m
  · subst h
    refine MWp.head (Env.bare_ok envOk) _ _ _ _ (eq100 n n f g) (by simp [trusted]) (eq10P n n f g) ?_
    refine (eq10loop n f g hn _ 0 (by omega) (by omega) rfl (fun e h => by omega)).mono ?_
    rintro v H rfl
    simp
  · refine MWp.done (Env.bare_ok envOk) 200 _ (eq10N n m f g) (by simp [trusted]; omega) ?_
    have : Nat.beq n m = false := by
      cases hb : Nat.beq n m with
      | false => rfl
      | true => exact absurd (Nat.eq_of_beq_eq_true hb) h
    rw [this]; rfl
theorem eq10a (m : Nat) (q : Nat → Int) (b : Bool) : (Ly.run env.bare 200 [(0, b)] (Ly.start Try.f10 [.slice none 0 0, sl 0 m] (mkH [some (ints .u8 q m)]))).out? = some ([((0 : Int) != (m : Int), b)], .bool (!b)) := by cases b <;> kernel_rfl
theorem eq10NS (m : Nat) (q : Nat → Int) : LCalls Try.prog 10 [.slice none 0 0, sl 0 m] (mkH [some (ints .u8 q m)]) (fun u _ => u = .bool (Nat.beq 0 m)) := by
  by_cases h : m = 0
  · subst h
    exact LCalls_trust (Env.bare_ok envOk) 200 _ eq10get (by kernel_rfl) (eq10a 0 q false) (by simp [trusted])
  · have hb : Nat.beq 0 m = false := by rcases m with _ | m; exact absurd rfl h; rfl
    rw [hb]
    exact LCalls_trust (Env.bare_ok envOk) 200 _ eq10get (by kernel_rfl) (eq10a m q true) (by simp [trusted]; omega)
theorem eq10b (n : Nat) (q : Nat → Int) : (Ly.run env.bare 200 [(0, true)] (Ly.start Try.f10 [sl 0 n, .slice none 0 0] (mkH [some (ints .u8 q n)]))).out? = some ([((n : Int) != 0, true)], .bool false) := by kernel_rfl
theorem eq10c (q : Nat → Int) : (Ly.run env.bare 200 [] (Ly.start Try.f10 [sl 0 0, .slice none 0 0] (mkH [some (ints .u8 q 0)]))).out? = some ([], .bool true) := by kernel_rfl
theorem eq10SN (n : Nat) (p : Nat → Int) : LCalls Try.prog 10 [sl 0 n, .slice none 0 0] (mkH [some (ints .u8 p n)]) (fun u _ => u = .bool (Nat.beq n 0)) := by
  by_cases h : n = 0
  · subst h
    exact LCalls_trust (Env.bare_ok envOk) 200 _ eq10get (by kernel_rfl) (eq10c p) trivial
  · have hb : Nat.beq n 0 = false := by rcases n with _ | n; exact absurd rfl h; rfl
    rw [hb]
    exact LCalls_trust (Env.bare_ok envOk) 200 _ eq10get (by kernel_rfl) (eq10b n p) (by simp [trusted]; omega)
theorem eq10NN : LCalls Try.prog 10 [.slice none 0 0, .slice none 0 0] (mkH []) (fun u _ => u = .bool true) :=
  LCalls_trust (v := .bool true) (Env.bare_ok envOk) 200 [] eq10get (by kernel_rfl) (t := []) (by kernel_rfl) trivial
theorem eq10con : ∀ args ρ args' w H, VRL ρ args args' → Rep ρ H w → ConGood Try.prog ρ 10 args' w (conEq .u8 H args) := conEq_good eq10SS eq10NS eq10SN eq10NN
end Go.Proofs.Ytkemllgkkngcjaa
namespace Go.Proofs.Ytkemllgkkngcjaa
open Go Go.Ly Go.RowKit
def eq17H (n m : Nat) (f g : Nat → Int) : List (Option LO) := [some (ints .u8 f n), some (ints .u8 g m)]
def eq17D : St := Ly.start Try.f17 [] H0
def eq17K : List KI := ((Ly.run env.bare 24 [] (Ly.start Try.f17 [sl 0 0, sl 1 0] (mkH (eq17H 0 0 (fun _ => 0) (fun _ => 0))))).st eq17D).top.k
def eq17V (n m : Nat) (i : Int) : List Value := slots 26 [(0, sl 0 n), (1, sl 1 m), (12, .int .i64 (n : Int)), (13, .int .i64 i)]
theorem eq17get : env.bare.fn.get 17 = some Try.f17 := by kernel_rfl
theorem eq170 (n m : Nat) (f g : Nat → Int) : headAt [0, 1, 12, 13] [0, 1] eq17D (Ly.run env.bare 24 [(0, false)] (Ly.start Try.f17 [sl 0 n, sl 1 m] (mkH (eq17H n m f g)))) = (true, [((n : Int) != (m : Int), false)], true, (Try.f17, eq17K, none, 2), eq17V n m 0, eq17H n m f g) := by kernel_rfl
theorem eq17N (n m : Nat) (f g : Nat → Int) : (Ly.run env.bare 200 [(0, true)] (Ly.start Try.f17 [sl 0 n, sl 1 m] (mkH (eq17H n m f g)))).end? = some ([((n : Int) != (m : Int), true)], .bool false, mkH (eq17H n m f g)) := by kernel_rfl
theorem eq17I (n m : Nat) (f g : Nat → Int) (i : Int) : headAt [0, 1, 12, 13] [0, 1] eq17D (Ly.run env.bare 24 [(0, true), (0, true), (0, true), (0, true), (0, true), (0, false)] (mkSt Try.f17 eq17K none 2 (eq17V n m i) (eq17H n m f g))) = (true, [(decide (i < (n : Int)), true), (decide (0 ≤ i) && decide (i < (n : Int)), true), (Nat.blt (0 + i.toNat * 1) n, true), (decide (0 ≤ i) && decide (i < (m : Int)), true), (Nat.blt (0 + i.toNat * 1) m, true), (f (0 + i.toNat * 1) != g (0 + i.toNat * 1), false)], true, (Try.f17, eq17K, none, 2), eq17V n m (IntKind.i64.wrap (i + 1)), eq17H n m f g) := by kernel_rfl
theorem eq17T (n m : Nat) (f g : Nat → Int) (i : Int) : (Ly.run env.bare 200 [(0, false)] (mkSt Try.f17 eq17K none 2 (eq17V n m i) (eq17H n m f g))).out? = some ([(decide (i < (n : Int)), false)], .bool true) := by kernel_rfl
theorem eq17E (n m : Nat) (f g : Nat → Int) (i : Int) : (Ly.run env.bare 200 [(0, true), (0, true), (0, true), (0, true), (0, true), (0, true)] (mkSt Try.f17 eq17K none 2 (eq17V n m i) (eq17H n m f g))).out? = some ([(decide (i < (n : Int)), true), (decide (0 ≤ i) && decide (i < (n : Int)), true), (Nat.blt (0 + i.toNat * 1) n, true), (decide (0 ≤ i) && decide (i < (m : Int)), true), (Nat.blt (0 + i.toNat * 1) m, true), (f (0 + i.toNat * 1) != g (0 + i.toNat * 1), true)], .bool false) := by kernel_rfl
theorem eq17P (n m : Nat) (f g : Nat → Int) : ∀ o ∈ eq17H n m f g, ∀ x, o = some x → plainO x := by
  intro o ho x hx
  simp only [eq17H, List.mem_cons, List.not_mem_nil, or_false] at ho
  rcases ho with rfl | rfl <;> (simp only [Option.some.injEq] at hx; subst hx; exact plain_ints)
theorem eq17loop (n : Nat) (f g : Nat → Int) (hn : n ≤ 9223372036854775807) : ∀ (d : Nat) (i : Int), 0 ≤ i → i ≤ n → ((n : Int) - i).toNat = d → (∀ e : Nat, (e : Int) < i → f e = g e) →
    MWp Try.prog (mkSt Try.f17 eq17K none 2 (eq17V n n i) (eq17H n n f g)) (fun v _ => v = .bool (eqU n f g))
  | 0, i, h0, h1, hd, he => by
    have hi : i = n := by omega
    refine MWp.out (Env.bare_ok envOk) 200 _ (eq17T n n f g i) (by simp [trusted]; omega) ?_
    intro _; rw [eqU_true (fun e h => he e (by omega))]
  | d + 1, i, h0, h1, hd, he => by
    have hi : i < n := by omega
    have ht : 0 + i.toNat * 1 = i.toNat := by omega
    have hlt : Nat.blt i.toNat n = true := by rw [Nat.blt_eq]; omega
    by_cases hf : f i.toNat = g i.toNat
    · refine MWp.head (Env.bare_ok envOk) _ _ _ _ (eq17I n n f g i) (by rw [ht]; simp [trusted, hf, hlt, hi, h0]) (eq17P n n f g) ?_
      have hw : IntKind.i64.wrap (i + 1) = i + 1 := by rw [IntKind.wrap_i64]; omega
      rw [hw]
      refine eq17loop n f g hn d (i + 1) (by omega) (by omega) (by omega) (fun e h => ?_)
      by_cases h2 : (e : Int) = i
      · have : e = i.toNat := by omega
        rw [this]; exact hf
      · exact he e (by omega)
    · refine MWp.out (Env.bare_ok envOk) 200 _ (eq17E n n f g i) (by rw [ht]; simp [trusted, hf, hlt, hi, h0]) ?_
      intro _; rw [eqU_false (e := i.toNat) (by omega) hf]
theorem eq17SS (n m : Nat) (f g : Nat → Int) (hn : n ≤ 9223372036854775807) : LCalls Try.prog 17 [sl 0 n, sl 1 m] (mkH [some (ints .u8 f n), some (ints .u8 g m)]) (fun u _ => u = .bool (Nat.beq n m && eqU n f g)) := by
  refine LCalls_of (Env.bare_ok envOk) eq17get (by kernel_rfl) ?_
  by_cases h : n = m
  · subst h
    refine MWp.head (Env.bare_ok envOk) _ _ _ _ (eq170 n n f g) (by simp [trusted]) (eq17P n n f g) ?_
    refine (eq17loop n f g hn _ 0 (by omega) (by omega) rfl (fun e h => by omega)).mono ?_
    rintro v H rfl
    simp
  · refine MWp.done (Env.bare_ok envOk) 200 _ (eq17N n m f g) (by simp [trusted]; omega) ?_
    have : Nat.beq n m = false := by
      cases hb : Nat.beq n m with
      | false => rfl
      | true => exact absurd (Nat.eq_of_beq_eq_true hb) h
    rw [this]; rfl
theorem eq17a (m : Nat) (q : Nat → Int) (b : Bool) : (Ly.run env.bare 200 [(0, b)] (Ly.start Try.f17 [.slice none 0 0, sl 0 m] (mkH [some (ints .u8 q m)]))).out? = some ([((0 : Int) != (m : Int), b)], .bool (!b)) := by cases b <;> kernel_rfl
theorem eq17NS (m : Nat) (q : Nat → Int) : LCalls Try.prog 17 [.slice none 0 0, sl 0 m] (mkH [some (ints .u8 q m)]) (fun u _ => u = .bool (Nat.beq 0 m)) := by
  by_cases h : m = 0
  · subst h
    exact LCalls_trust (Env.bare_ok envOk) 200 _ eq17get (by kernel_rfl) (eq17a 0 q false) (by simp [trusted])
  · have hb : Nat.beq 0 m = false := by rcases m with _ | m; exact absurd rfl h; rfl
    rw [hb]
    exact LCalls_trust (Env.bare_ok envOk) 200 _ eq17get (by kernel_rfl) (eq17a m q true) (by simp [trusted]; omega)
theorem eq17b (n : Nat) (q : Nat → Int) : (Ly.run env.bare 200 [(0, true)] (Ly.start Try.f17 [sl 0 n, .slice none 0 0] (mkH [some (ints .u8 q n)]))).out? = some ([((n : Int) != 0, true)], .bool false) := by kernel_rfl
theorem eq17c (q : Nat → Int) : (Ly.run env.bare 200 [] (Ly.start Try.f17 [sl 0 0, .slice none 0 0] (mkH [some (ints .u8 q 0)]))).out? = some ([], .bool true) := by kernel_rfl
theorem eq17SN (n : Nat) (p : Nat → Int) : LCalls Try.prog 17 [sl 0 n, .slice none 0 0] (mkH [some (ints .u8 p n)]) (fun u _ => u = .bool (Nat.beq n 0)) := by
  by_cases h : n = 0
  · subst h
    exact LCalls_trust (Env.bare_ok envOk) 200 _ eq17get (by kernel_rfl) (eq17c p) trivial
  · have hb : Nat.beq n 0 = false := by rcases n with _ | n; exact absurd rfl h; rfl
    rw [hb]
    exact LCalls_trust (Env.bare_ok envOk) 200 _ eq17get (by kernel_rfl) (eq17b n p) (by simp [trusted]; omega)
theorem eq17NN : LCalls Try.prog 17 [.slice none 0 0, .slice none 0 0] (mkH []) (fun u _ => u = .bool true) :=
  LCalls_trust (v := .bool true) (Env.bare_ok envOk) 200 [] eq17get (by kernel_rfl) (t := []) (by kernel_rfl) trivial
theorem eq17con : ∀ args ρ args' w H, VRL ρ args args' → Rep ρ H w → ConGood Try.prog ρ 17 args' w (conEq .u8 H args) := conEq_good eq17SS eq17NS eq17SN eq17NN
end Go.Proofs.Ytkemllgkkngcjaa
namespace Go.Proofs.Ytkemllgkkngcjaa
open Go Go.Ly Go.RowKit
def sizeH (n : Nat) (t : Int) : Int := bif t == 1 || t == 3 then IntKind.i64.wrap ((n : Int) + 1) else bif t == 2 then IntKind.i64.wrap ((n : Int) + 2) else n
def conSize (l : List Value) : Option (Bool × Value) := match l with
  | [.agg ⟨[.slice _ n _, .int .i64 t]⟩] => some (decide (0 ≤ t) && decide (t < 4), .int .i64 (sizeH n t))
  | _ => none
theorem get18 : env.bare.fn.get 18 = some Try.f18 := by kernel_rfl
theorem size_none (n c : Nat) : ∀ t : Fin 4, (Ly.run env.bare 300 [] (Ly.start Try.f18 [.agg ⟨[.slice none n c, .int .i64 (t.val : Int)]⟩] (mkH []))).out? = some ([], .int .i64 (sizeH n (t.val : Int)))
  | ⟨0, _⟩ => by kernel_rfl
  | ⟨1, _⟩ => by kernel_rfl
  | ⟨2, _⟩ => by kernel_rfl
  | ⟨3, _⟩ => by kernel_rfl
theorem size_some (o n c : Nat) (s : Option Nat) : ∀ t : Fin 4, (Ly.run env.bare 300 [] (Ly.start Try.f18 [.agg ⟨[.slice (some ⟨0, o, s⟩) n c, .int .i64 (t.val : Int)]⟩] (mkH [none]))).out? = some ([], .int .i64 (sizeH n (t.val : Int)))
  | ⟨0, _⟩ => by kernel_rfl
  | ⟨1, _⟩ => by kernel_rfl
  | ⟨2, _⟩ => by kernel_rfl
  | ⟨3, _⟩ => by kernel_rfl
theorem ans18 : AnswersR Try.prog 18 conSize := by
  intro args g v h hg
  unfold conSize at h
  split at h
  · rename_i a n c t
    simp only [Option.some.injEq, Prod.mk.injEq] at h
    obtain ⟨rfl, rfl⟩ := h
    simp only [Bool.and_eq_true, decide_eq_true_eq] at hg
    obtain ⟨m, rfl⟩ := Int.eq_ofNat_of_zero_le hg.1
    refine ⟨by simp [plain], fun ρ args' w H ha hr => ?_⟩
    cases a with
    | none => exact calls_blind (L := []) (by simp) (LCalls_trust (Env.bare_ok envOk) 300 [] get18 (by kernel_rfl) (size_none n c ⟨m, by omega⟩) trivial) (by simp [plain]) (by simp [blksL, blks]) (by simp [renL, renV]) ha hr
    | some a => exact calls_blind (L := [a.block]) (by simp) (LCalls_trust (Env.bare_ok envOk) 300 [] get18 (by kernel_rfl) (size_some a.off n c a.spot ⟨m, by omega⟩) trivial) (by simp [plain]) (by simp [blksL, blks, memB]) (by simp [renL, renV, posOf]) ha hr
  · cases h
def ictx : Ctx := ((env.bare.with 18 conSize).withC 10 (conEq .u8)).withC 17 (conEq .u8)
theorem iok : ictx.Ok Try.prog := (((Env.bare_ok envOk).withR ans18).withC eq10con).withC eq17con
theorem get7 : ictx.fn.get 7 = some Try.f7 := by kernel_rfl
theorem alive_run : (Ly.run ictx 20000 [] (Ly.start Try.f7 [] H0)).out? = some ([], .bool true) := by kernel_rfl
def conAl (l : List Value) : Option (Bool × Value) := match l with
  | [] => some (true, .bool true)
  | _ => none
theorem ans7 : Answers Try.prog 7 conAl := by
  intro args g v h hg
  unfold conAl at h
  split at h
  · simp only [Option.some.injEq, Prod.mk.injEq] at h
    obtain ⟨rfl, rfl⟩ := h
    exact ⟨by simp [plainL], by simp [plain], fun w => calls_trust iok 20000 [] get7 (by kernel_rfl) (by simp [plainL]) (by simp [plain]) alive_run trivial w⟩
  · cases h
def nctx : Ctx := ictx.with 7 conAl
theorem nok : nctx.Ok Try.prog := iok.with ans7
end Go.Proofs.Ytkemllgkkngcjaa
namespace Go.Ly
open Go.RowKit
theorem pairNew_good2 {P : Program} {f : FuncId} {args : List Value} {x : Value} {r n : Nat} {c : List Value} {t : TypeId} {g : Nat → Value} (ha : plainL args = true) (hx : plain x = true) (hc : c.all cst = true) (hn : c.length = n) (hn0 : n ≠ 0) (hcap : n ≠ capU)
    (hg : ∀ e, e < n → c[e]? = some (g e))
    (h : LCalls P f args H0 (fun u K => u = .tuple ⟨[.slice (some ⟨r, 0, none⟩) n n, x]⟩ ∧ K.get r = some (.cells c t) ∧ K.lock = 0)) (H : Heap) : HGood P f args H (pairNew H g n t x) := by
  unfold pairNew
  cases hb0 : (Nat.beq H.lock 0 && Nat.blt (H.next + 1) 2147483000) with
  | false => exact trivial
  | true =>
    simp only [cond_true]
    rw [Bool.and_eq_true] at hb0
    have hb : H.next + 1 < big := by have := hb0.2; unfold big; rw [Nat.blt_eq] at this; exact this
    intro ρ args' w hva hr
    have hva0 := plainL_eq ha hva
    subst hva0
    refine (h ρ0 args' w (plainL_VR _ ha) (Rep0 w)).mono ?_
    rintro e w' ⟨ρ2, u, u', K, rfl, ⟨rfl, hK, hlk⟩, h1, h2, h3, h4, h5⟩
    have hbel : Below w.heap.size w w' := ⟨h5.os, h5.tape, h5.output, h5.size, fun k hk => h5.block k hk (fun i hi => by cases hi)⟩
    obtain ⟨q1, b, o', q2, q3, q4⟩ := h4.obj r _ hK rfl
    have hbnew : w.heap.size ≤ b := by
      rcases h2 r b q2 with h6 | ⟨j, h6, _⟩
      · exact h6
      · cases h6
    have hrB := hr.below hbel
    have hnone : ∀ i, ρ i ≠ some b := fun i e => by have := (hr.dom i b e).2; omega
    obtain ⟨z1, c', z2, z3⟩ := q4
    have hlen := VRL_length z2
    have hOR : OR (ρ.ext H.next b n 1) H.next (.fn 1 (fun e _ => g e) n t) o' := by
      refine ⟨by simp [Ren.ext], by simp [Ren.ext], c', [], by rw [List.append_nil]; exact z3, by rw [hlen, hn]; omega, by simp [Ren.ext, hlen, hn], ⟨fun e j he hj => ?_, fun e j he hj => ?_⟩⟩
      · obtain ⟨v', k1, k2⟩ := VRL_get z2 (hg e he)
        refine ⟨v', ?_, ?_⟩
        · have : 0 + (e * 1 + j) = e := by omega
          rw [this]; exact k1
        · have hcst : cst (g e) = true := List.all_eq_true.1 hc _ (List.mem_of_getElem? (hg e he))
          exact VR_cst hcst k2
      · exact List.all_eq_true.1 hc _ (List.mem_of_getElem? (hg e he))
    have hRep := hrB.extNew (k := n) (wd := 1) hb rfl (h4.dom r b q2).2 hnone q3 hOR
    refine ⟨ρ.ext H.next b n 1, .tuple ⟨[sl H.next n, x]⟩, u', _, rfl, ⟨rfl, rfl⟩, hr.ext_le _ _ _, fun i y hy => ?_, ?_, hRep, Below.toKeep hbel⟩
    · simp only [Ren.ext] at hy
      split at hy
      · simp at hy; subst hy; exact .inl hbnew
      · rename_i e; exact .inr ⟨i, hy, by simp [Ren.ext, e]⟩
    · simp only [VR, VRL] at h3 ⊢
      obtain ⟨l', ⟨s', r', ⟨a', c2, rfl, y1, y2, y3⟩, ⟨x', e', hx', he', rfl⟩, rfl⟩, rfl⟩ := h3
      subst he'
      have := plain_eq hx hx'
      subst this
      refine ⟨_, ⟨_, _, ⟨a', c2, rfl, y1, fun hc => absurd rfl hc, fun hN => ?_⟩, ⟨_, _, plain_VR _ hx, rfl, rfl⟩, rfl⟩, rfl⟩
      obtain ⟨b', x1, x2, x3⟩ := y3 hN
      have hbb : b' = b := by
        have x1' : ρ2 r = some b' := x1
        rw [q2] at x1'; simp at x1'; exact x1'.symm
      subst hbb
      refine ⟨b', by simp [Ren.ext], ?_, ?_⟩
      · rw [x2]; simp [Ren.at, Ren.ext, z1]
      · intro hc _
        have := y2 hcap
        simp [Ren.ext]; omega
end Go.Ly
namespace Go.Proofs.Ytkemllgkkngcjaa
open Go Go.Ly Go.RowKit
def byT (t : Int) (f : Int → ER) : ER := .tst (t == 0) (f 0) (.tst (t == 1) (f 1) (.tst (t == 2) (f 2) (.tst (t == 3) (f 3) .no)))
theorem byT_good {f : Nat} {args : List Value} {H : Heap} {t : Int} {g : Int → ER} (h : HGood Try.prog f args H (g t)) : HGood Try.prog f args H (byT t g) := by
  refine ⟨fun e => ?_, fun _ => ⟨fun e => ?_, fun _ => ⟨fun e => ?_, fun _ => ⟨fun e => ?_, fun _ => trivial⟩⟩⟩⟩ <;>
  · have e := beq_iff_eq.1 e
    rw [e] at h; exact h
def headsF (H : Heap) (args : List Value) : ER :=
  match args with
  | [.int .i64 op, .int .i64 d, .int .i64 s] => .tst ((hd op d s).n == 0) (.val nilHd) (.tst ((hd op d s).n == 1) (byT (hd op d s).t fun t => aggNew H [.int .u8 (hd op d s).b0] 5 (.int .i64 t)) (byT (hd op d s).t fun t => aggNew H [.int .u8 (hd op d s).b0, .int .u8 (hd op d s).b1] 5 (.int .i64 t)))
  | _ => .no
theorem headsF_good (H : Heap) (args : List Value) : HGood Try.prog 16 args H (headsF H args) := by
  unfold headsF
  split
  · rename_i op d s
    have k := heads_good H [.int .i64 op, .int .i64 d, .int .i64 s]
    refine ⟨fun h => k.1 h, fun h => ⟨fun h1 => byT_good ((k.2 h).1 h1), fun h1 => byT_good ((k.2 h).2 h1)⟩⟩
  · exact trivial
def ctxF : Ctx := nctx.withH 16 headsF
theorem ctxF_ok : ctxF.Ok Try.prog := nok.withH headsF_good
def nearN (n : Int) : Bool := decide (n ≤ 127) || decide (65408 ≤ n)
def rk (op d s n : Int) : Int := bif (hd op d s).n == 0 then 12 else bif (((hd op d s).t == 0) && (n != 0)) || ((((hd op d s).t == 1) && decide (255 < n)) || (((hd op d s).t == 3) && !(nearN n))) then 5 else 0
def lenB (op d s : Int) : Nat := (bif (hd op d s).n == 1 then 1 else 2) + (bif (hd op d s).t == 0 then 0 else bif (hd op d s).t == 2 then 2 else 1)
def atB (op d s n : Int) (e : Nat) : Int := bif Nat.beq e 0 then (hd op d s).b0 else bif (hd op d s).n == 1 then (bif Nat.beq e 1 then n % 256 else n / 256) else bif Nat.beq e 1 then (hd op d s).b1 else bif Nat.beq e 2 then n % 256 else n / 256
theorem i8w (n : Int) : IntKind.i8.wrap n = (n + 128) % 256 - 128 := by
  simp [IntKind.wrap, IntKind.bits, IntKind.signed]
  split <;> omega
theorem near_iff (n : Int) (h0 : 0 ≤ n) (h1 : n ≤ 65535) : (IntKind.u16.wrap (IntKind.i8.wrap n) != n) = !(nearN n) := by
  have key : IntKind.u16.wrap (IntKind.i8.wrap n) = n ↔ (n ≤ 127 ∨ 65408 ≤ n) := by
    rw [IntKind.wrap_u16, i8w]; omega
  by_cases h : n ≤ 127 ∨ 65408 ≤ n
  · have e := key.2 h
    have nb : nearN n = true := by unfold nearN; simp; omega
    rw [nb, e]; simp
  · have e : IntKind.u16.wrap (IntKind.i8.wrap n) ≠ n := fun x => h (key.1 x)
    have nb : nearN n = false := by unfold nearN; simp; omega
    rw [nb]; simpa using e
end Go.Proofs.Ytkemllgkkngcjaa
namespace Go.Proofs.Ytkemllgkkngcjaa
open Go Go.Ly Go.RowKit
theorem hd_t {op d s : Int} (h : (hd op d s).n ≠ 0) : 0 ≤ (hd op d s).t ∧ (hd op d s).t ≤ 3 := by
  by_cases h1 : (hd op d s).n = 1
  · exact (hd_one h1).2.1
  · have := (hd_two h h1).2.2.2.1; omega
theorem ri_0 (op d s n : Int) : endsAt [] (Ly.run ctxF 900 [(0, true)] (Ly.start Try.f19 [Value.agg ⟨[Value.int IntKind.i64 op, Value.int IntKind.i64 d, Value.int IntKind.i64 s, Value.int IntKind.u16 n]⟩] H0)) = some ([((hd op d s).n == 0, true)], Value.int IntKind.i64 12, 2, []) := by kernel_rfl
theorem ri_1 (op d s n : Int) : endsAt [] (Ly.run ctxF 900 [(0, false), (0, true), (0, true), (5, true), (0, true)] (Ly.start Try.f19 [Value.agg ⟨[Value.int IntKind.i64 op, Value.int IntKind.i64 d, Value.int IntKind.i64 s, Value.int IntKind.u16 n]⟩] H0)) = some ([((hd op d s).n == 0, false), ((hd op d s).n == 1, true), ((hd op d s).t == 0, true), (n != 0, true), (n != 0, true)], Value.int IntKind.i64 5, 3, []) := by kernel_rfl
theorem ri_2 (op d s n : Int) : endsAt [] (Ly.run ctxF 900 [(0, false), (0, true), (0, true), (5, false)] (Ly.start Try.f19 [Value.agg ⟨[Value.int IntKind.i64 op, Value.int IntKind.i64 d, Value.int IntKind.i64 s, Value.int IntKind.u16 n]⟩] H0)) = some ([((hd op d s).n == 0, false), ((hd op d s).n == 1, true), ((hd op d s).t == 0, true), (n != 0, false)], Value.int IntKind.i64 0, 3, []) := by kernel_rfl
theorem ri_3 (op d s n : Int) : endsAt [] (Ly.run ctxF 900 [(0, false), (0, true), (0, false), (0, true), (10, true), (0, true)] (Ly.start Try.f19 [Value.agg ⟨[Value.int IntKind.i64 op, Value.int IntKind.i64 d, Value.int IntKind.i64 s, Value.int IntKind.u16 n]⟩] H0)) = some ([((hd op d s).n == 0, false), ((hd op d s).n == 1, true), ((hd op d s).t == 0, false), ((hd op d s).t == 1, true), (decide (255 < n), true), (decide (255 < n), true)], Value.int IntKind.i64 5, 3, []) := by kernel_rfl
theorem ri_4 (op d s n : Int) : endsAt [] (Ly.run ctxF 900 [(0, false), (0, true), (0, false), (0, true), (10, false)] (Ly.start Try.f19 [Value.agg ⟨[Value.int IntKind.i64 op, Value.int IntKind.i64 d, Value.int IntKind.i64 s, Value.int IntKind.u16 n]⟩] H0)) = some ([((hd op d s).n == 0, false), ((hd op d s).n == 1, true), ((hd op d s).t == 0, false), ((hd op d s).t == 1, true), (decide (255 < n), false)], Value.int IntKind.i64 0, 3, []) := by kernel_rfl
theorem ri_5 (op d s n : Int) : endsAt [] (Ly.run ctxF 900 [(0, false), (0, true), (0, false), (0, false), (0, true)] (Ly.start Try.f19 [Value.agg ⟨[Value.int IntKind.i64 op, Value.int IntKind.i64 d, Value.int IntKind.i64 s, Value.int IntKind.u16 n]⟩] H0)) = some ([((hd op d s).n == 0, false), ((hd op d s).n == 1, true), ((hd op d s).t == 0, false), ((hd op d s).t == 1, false), ((hd op d s).t == 2, true)], Value.int IntKind.i64 0, 3, []) := by kernel_rfl
theorem ri_6 (op d s n : Int) : endsAt [] (Ly.run ctxF 900 [(0, false), (0, true), (0, false), (0, false), (0, false), (0, true), (19, true)] (Ly.start Try.f19 [Value.agg ⟨[Value.int IntKind.i64 op, Value.int IntKind.i64 d, Value.int IntKind.i64 s, Value.int IntKind.u16 n]⟩] H0)) = some ([((hd op d s).n == 0, false), ((hd op d s).n == 1, true), ((hd op d s).t == 0, false), ((hd op d s).t == 1, false), ((hd op d s).t == 2, false), ((hd op d s).t == 3, true), (IntKind.u16.wrap (IntKind.i8.wrap n) != n, true)], Value.int IntKind.i64 5, 3, []) := by kernel_rfl
theorem ri_7 (op d s n : Int) : endsAt [] (Ly.run ctxF 900 [(0, false), (0, true), (0, false), (0, false), (0, false), (0, true), (19, false)] (Ly.start Try.f19 [Value.agg ⟨[Value.int IntKind.i64 op, Value.int IntKind.i64 d, Value.int IntKind.i64 s, Value.int IntKind.u16 n]⟩] H0)) = some ([((hd op d s).n == 0, false), ((hd op d s).n == 1, true), ((hd op d s).t == 0, false), ((hd op d s).t == 1, false), ((hd op d s).t == 2, false), ((hd op d s).t == 3, true), (IntKind.u16.wrap (IntKind.i8.wrap n) != n, false)], Value.int IntKind.i64 0, 3, []) := by kernel_rfl
theorem ri_8 (op d s n : Int) : endsAt [] (Ly.run ctxF 900 [(0, false), (0, false), (0, true), (5, true), (0, true)] (Ly.start Try.f19 [Value.agg ⟨[Value.int IntKind.i64 op, Value.int IntKind.i64 d, Value.int IntKind.i64 s, Value.int IntKind.u16 n]⟩] H0)) = some ([((hd op d s).n == 0, false), ((hd op d s).n == 1, false), ((hd op d s).t == 0, true), (n != 0, true), (n != 0, true)], Value.int IntKind.i64 5, 3, []) := by kernel_rfl
theorem ri_9 (op d s n : Int) : endsAt [] (Ly.run ctxF 900 [(0, false), (0, false), (0, true), (5, false)] (Ly.start Try.f19 [Value.agg ⟨[Value.int IntKind.i64 op, Value.int IntKind.i64 d, Value.int IntKind.i64 s, Value.int IntKind.u16 n]⟩] H0)) = some ([((hd op d s).n == 0, false), ((hd op d s).n == 1, false), ((hd op d s).t == 0, true), (n != 0, false)], Value.int IntKind.i64 0, 3, []) := by kernel_rfl
theorem ri_10 (op d s n : Int) : endsAt [] (Ly.run ctxF 900 [(0, false), (0, false), (0, false), (0, true), (10, true), (0, true)] (Ly.start Try.f19 [Value.agg ⟨[Value.int IntKind.i64 op, Value.int IntKind.i64 d, Value.int IntKind.i64 s, Value.int IntKind.u16 n]⟩] H0)) = some ([((hd op d s).n == 0, false), ((hd op d s).n == 1, false), ((hd op d s).t == 0, false), ((hd op d s).t == 1, true), (decide (255 < n), true), (decide (255 < n), true)], Value.int IntKind.i64 5, 3, []) := by kernel_rfl
theorem ri_11 (op d s n : Int) : endsAt [] (Ly.run ctxF 900 [(0, false), (0, false), (0, false), (0, true), (10, false)] (Ly.start Try.f19 [Value.agg ⟨[Value.int IntKind.i64 op, Value.int IntKind.i64 d, Value.int IntKind.i64 s, Value.int IntKind.u16 n]⟩] H0)) = some ([((hd op d s).n == 0, false), ((hd op d s).n == 1, false), ((hd op d s).t == 0, false), ((hd op d s).t == 1, true), (decide (255 < n), false)], Value.int IntKind.i64 0, 3, []) := by kernel_rfl
theorem ri_12 (op d s n : Int) : endsAt [] (Ly.run ctxF 900 [(0, false), (0, false), (0, false), (0, false), (0, true)] (Ly.start Try.f19 [Value.agg ⟨[Value.int IntKind.i64 op, Value.int IntKind.i64 d, Value.int IntKind.i64 s, Value.int IntKind.u16 n]⟩] H0)) = some ([((hd op d s).n == 0, false), ((hd op d s).n == 1, false), ((hd op d s).t == 0, false), ((hd op d s).t == 1, false), ((hd op d s).t == 2, true)], Value.int IntKind.i64 0, 3, []) := by kernel_rfl
theorem ri_13 (op d s n : Int) : endsAt [] (Ly.run ctxF 900 [(0, false), (0, false), (0, false), (0, false), (0, false), (0, true), (19, true)] (Ly.start Try.f19 [Value.agg ⟨[Value.int IntKind.i64 op, Value.int IntKind.i64 d, Value.int IntKind.i64 s, Value.int IntKind.u16 n]⟩] H0)) = some ([((hd op d s).n == 0, false), ((hd op d s).n == 1, false), ((hd op d s).t == 0, false), ((hd op d s).t == 1, false), ((hd op d s).t == 2, false), ((hd op d s).t == 3, true), (IntKind.u16.wrap (IntKind.i8.wrap n) != n, true)], Value.int IntKind.i64 5, 3, []) := by kernel_rfl
theorem ri_14 (op d s n : Int) : endsAt [] (Ly.run ctxF 900 [(0, false), (0, false), (0, false), (0, false), (0, false), (0, true), (19, false)] (Ly.start Try.f19 [Value.agg ⟨[Value.int IntKind.i64 op, Value.int IntKind.i64 d, Value.int IntKind.i64 s, Value.int IntKind.u16 n]⟩] H0)) = some ([((hd op d s).n == 0, false), ((hd op d s).n == 1, false), ((hd op d s).t == 0, false), ((hd op d s).t == 1, false), ((hd op d s).t == 2, false), ((hd op d s).t == 3, true), (IntKind.u16.wrap (IntKind.i8.wrap n) != n, false)], Value.int IntKind.i64 0, 3, []) := by kernel_rfl
theorem gRi : ctxF.fn.get 19 = some Try.f19 := by kernel_rfl
theorem right_call (op d s n : Int) (h0n : 0 ≤ n) (h1n : n ≤ 65535) : LCalls Try.prog 19 [.agg ⟨[.int .i64 op, .int .i64 d, .int .i64 s, .int .u16 n]⟩] H0 (fun u _ => u = .int .i64 (rk op d s n)) := by
  have hnr := near_iff n h0n h1n
  have htr := fun h => hd_t (op := op) (d := d) (s := s) h
  rcases Bool.eq_false_or_eq_true ((hd op d s).n == 0) with h0 | h0
  · have e : rk op d s n = 12 := (by simp only [rk, cond_true, cond_false, Bool.and_true, Bool.true_and, Bool.and_false, Bool.false_and, Bool.or_true, Bool.true_or, Bool.or_false, Bool.false_or, Bool.and_self, Bool.or_self, Bool.not_true, Bool.not_false, h0]; first | done | rfl | (simp_all; done)); rw [e]; exact (LCalls_of ctxF_ok gRi (by kernel_rfl) (MWp.ends ctxF_ok 900 [(0, true)] (ri_0 op d s n) ⟨h0, trivial⟩)).mono (fun u K h => h.1)
  · rcases Bool.eq_false_or_eq_true ((hd op d s).n == 1) with h1 | h1
    · rcases Bool.eq_false_or_eq_true ((hd op d s).t == 0) with h2 | h2
      · rcases Bool.eq_false_or_eq_true (n != 0) with h3 | h3
        · have e : rk op d s n = 5 := (by simp only [rk, cond_true, cond_false, Bool.and_true, Bool.true_and, Bool.and_false, Bool.false_and, Bool.or_true, Bool.true_or, Bool.or_false, Bool.false_or, Bool.and_self, Bool.or_self, Bool.not_true, Bool.not_false, h0, h1, h2, h3, h3]; first | done | rfl | (simp_all; done)); rw [e]; exact (LCalls_of ctxF_ok gRi (by kernel_rfl) (MWp.ends ctxF_ok 900 [(0, false), (0, true), (0, true), (5, true), (0, true)] (ri_1 op d s n) ⟨h0, h1, h2, h3, h3, trivial⟩)).mono (fun u K h => h.1)
        · have e : rk op d s n = 0 := (by simp only [rk, cond_true, cond_false, Bool.and_true, Bool.true_and, Bool.and_false, Bool.false_and, Bool.or_true, Bool.true_or, Bool.or_false, Bool.false_or, Bool.and_self, Bool.or_self, Bool.not_true, Bool.not_false, h0, h1, h2, h3]; first | done | rfl | (simp_all; done)); rw [e]; exact (LCalls_of ctxF_ok gRi (by kernel_rfl) (MWp.ends ctxF_ok 900 [(0, false), (0, true), (0, true), (5, false)] (ri_2 op d s n) ⟨h0, h1, h2, h3, trivial⟩)).mono (fun u K h => h.1)
      · rcases Bool.eq_false_or_eq_true ((hd op d s).t == 1) with h3 | h3
        · rcases Bool.eq_false_or_eq_true (decide (255 < n)) with h4 | h4
          · have e : rk op d s n = 5 := (by simp only [rk, cond_true, cond_false, Bool.and_true, Bool.true_and, Bool.and_false, Bool.false_and, Bool.or_true, Bool.true_or, Bool.or_false, Bool.false_or, Bool.and_self, Bool.or_self, Bool.not_true, Bool.not_false, h0, h1, h2, h3, h4, h4]; first | done | rfl | (simp_all; done)); rw [e]; exact (LCalls_of ctxF_ok gRi (by kernel_rfl) (MWp.ends ctxF_ok 900 [(0, false), (0, true), (0, false), (0, true), (10, true), (0, true)] (ri_3 op d s n) ⟨h0, h1, h2, h3, h4, h4, trivial⟩)).mono (fun u K h => h.1)
          · have e : rk op d s n = 0 := (by simp only [rk, cond_true, cond_false, Bool.and_true, Bool.true_and, Bool.and_false, Bool.false_and, Bool.or_true, Bool.true_or, Bool.or_false, Bool.false_or, Bool.and_self, Bool.or_self, Bool.not_true, Bool.not_false, h0, h1, h2, h3, h4]; first | done | rfl | (simp_all; done)); rw [e]; exact (LCalls_of ctxF_ok gRi (by kernel_rfl) (MWp.ends ctxF_ok 900 [(0, false), (0, true), (0, false), (0, true), (10, false)] (ri_4 op d s n) ⟨h0, h1, h2, h3, h4, trivial⟩)).mono (fun u K h => h.1)
        · rcases Bool.eq_false_or_eq_true ((hd op d s).t == 2) with h4 | h4
          · have e : rk op d s n = 0 := (by simp only [rk, cond_true, cond_false, Bool.and_true, Bool.true_and, Bool.and_false, Bool.false_and, Bool.or_true, Bool.true_or, Bool.or_false, Bool.false_or, Bool.and_self, Bool.or_self, Bool.not_true, Bool.not_false, h0, h1, h2, h3, h4]; first | done | rfl | (simp_all; done)); rw [e]; exact (LCalls_of ctxF_ok gRi (by kernel_rfl) (MWp.ends ctxF_ok 900 [(0, false), (0, true), (0, false), (0, false), (0, true)] (ri_5 op d s n) ⟨h0, h1, h2, h3, h4, trivial⟩)).mono (fun u K h => h.1)
          · have h5 : ((hd op d s).t == 3) = true := by first | assumption | (simp only [bq_t, bq_f, Bool.not_eq_true', Bool.not_eq_false', beq_iff_eq, bne_iff_ne, ne_eq, beq_eq_false_iff_ne, bne_eq_false_iff_eq, decide_eq_true_eq, decide_eq_false_iff_not] at *; have := htr (by assumption); omega) | (simp_all; done)
            rcases Bool.eq_false_or_eq_true (IntKind.u16.wrap (IntKind.i8.wrap n) != n) with h6 | h6
            · have e : rk op d s n = 5 := (by have hz := h6; rw [hnr] at hz; simp only [rk, cond_true, cond_false, Bool.and_true, Bool.true_and, Bool.and_false, Bool.false_and, Bool.or_true, Bool.true_or, Bool.or_false, Bool.false_or, Bool.and_self, Bool.or_self, Bool.not_true, Bool.not_false, h0, h1, h2, h3, h4, h5, h6, hz]; first | done | rfl | (simp_all; done)); rw [e]; exact (LCalls_of ctxF_ok gRi (by kernel_rfl) (MWp.ends ctxF_ok 900 [(0, false), (0, true), (0, false), (0, false), (0, false), (0, true), (19, true)] (ri_6 op d s n) ⟨h0, h1, h2, h3, h4, h5, h6, trivial⟩)).mono (fun u K h => h.1)
            · have e : rk op d s n = 0 := (by have hz := h6; rw [hnr] at hz; simp only [rk, cond_true, cond_false, Bool.and_true, Bool.true_and, Bool.and_false, Bool.false_and, Bool.or_true, Bool.true_or, Bool.or_false, Bool.false_or, Bool.and_self, Bool.or_self, Bool.not_true, Bool.not_false, h0, h1, h2, h3, h4, h5, h6, hz]; first | done | rfl | (simp_all; done)); rw [e]; exact (LCalls_of ctxF_ok gRi (by kernel_rfl) (MWp.ends ctxF_ok 900 [(0, false), (0, true), (0, false), (0, false), (0, false), (0, true), (19, false)] (ri_7 op d s n) ⟨h0, h1, h2, h3, h4, h5, h6, trivial⟩)).mono (fun u K h => h.1)
    · rcases Bool.eq_false_or_eq_true ((hd op d s).t == 0) with h2 | h2
      · rcases Bool.eq_false_or_eq_true (n != 0) with h3 | h3
        · have e : rk op d s n = 5 := (by simp only [rk, cond_true, cond_false, Bool.and_true, Bool.true_and, Bool.and_false, Bool.false_and, Bool.or_true, Bool.true_or, Bool.or_false, Bool.false_or, Bool.and_self, Bool.or_self, Bool.not_true, Bool.not_false, h0, h1, h2, h3, h3]; first | done | rfl | (simp_all; done)); rw [e]; exact (LCalls_of ctxF_ok gRi (by kernel_rfl) (MWp.ends ctxF_ok 900 [(0, false), (0, false), (0, true), (5, true), (0, true)] (ri_8 op d s n) ⟨h0, h1, h2, h3, h3, trivial⟩)).mono (fun u K h => h.1)
        · have e : rk op d s n = 0 := (by simp only [rk, cond_true, cond_false, Bool.and_true, Bool.true_and, Bool.and_false, Bool.false_and, Bool.or_true, Bool.true_or, Bool.or_false, Bool.false_or, Bool.and_self, Bool.or_self, Bool.not_true, Bool.not_false, h0, h1, h2, h3]; first | done | rfl | (simp_all; done)); rw [e]; exact (LCalls_of ctxF_ok gRi (by kernel_rfl) (MWp.ends ctxF_ok 900 [(0, false), (0, false), (0, true), (5, false)] (ri_9 op d s n) ⟨h0, h1, h2, h3, trivial⟩)).mono (fun u K h => h.1)
      · rcases Bool.eq_false_or_eq_true ((hd op d s).t == 1) with h3 | h3
        · rcases Bool.eq_false_or_eq_true (decide (255 < n)) with h4 | h4
          · have e : rk op d s n = 5 := (by simp only [rk, cond_true, cond_false, Bool.and_true, Bool.true_and, Bool.and_false, Bool.false_and, Bool.or_true, Bool.true_or, Bool.or_false, Bool.false_or, Bool.and_self, Bool.or_self, Bool.not_true, Bool.not_false, h0, h1, h2, h3, h4, h4]; first | done | rfl | (simp_all; done)); rw [e]; exact (LCalls_of ctxF_ok gRi (by kernel_rfl) (MWp.ends ctxF_ok 900 [(0, false), (0, false), (0, false), (0, true), (10, true), (0, true)] (ri_10 op d s n) ⟨h0, h1, h2, h3, h4, h4, trivial⟩)).mono (fun u K h => h.1)
          · have e : rk op d s n = 0 := (by simp only [rk, cond_true, cond_false, Bool.and_true, Bool.true_and, Bool.and_false, Bool.false_and, Bool.or_true, Bool.true_or, Bool.or_false, Bool.false_or, Bool.and_self, Bool.or_self, Bool.not_true, Bool.not_false, h0, h1, h2, h3, h4]; first | done | rfl | (simp_all; done)); rw [e]; exact (LCalls_of ctxF_ok gRi (by kernel_rfl) (MWp.ends ctxF_ok 900 [(0, false), (0, false), (0, false), (0, true), (10, false)] (ri_11 op d s n) ⟨h0, h1, h2, h3, h4, trivial⟩)).mono (fun u K h => h.1)
        · rcases Bool.eq_false_or_eq_true ((hd op d s).t == 2) with h4 | h4
          · have e : rk op d s n = 0 := (by simp only [rk, cond_true, cond_false, Bool.and_true, Bool.true_and, Bool.and_false, Bool.false_and, Bool.or_true, Bool.true_or, Bool.or_false, Bool.false_or, Bool.and_self, Bool.or_self, Bool.not_true, Bool.not_false, h0, h1, h2, h3, h4]; first | done | rfl | (simp_all; done)); rw [e]; exact (LCalls_of ctxF_ok gRi (by kernel_rfl) (MWp.ends ctxF_ok 900 [(0, false), (0, false), (0, false), (0, false), (0, true)] (ri_12 op d s n) ⟨h0, h1, h2, h3, h4, trivial⟩)).mono (fun u K h => h.1)
          · have h5 : ((hd op d s).t == 3) = true := by first | assumption | (simp only [bq_t, bq_f, Bool.not_eq_true', Bool.not_eq_false', beq_iff_eq, bne_iff_ne, ne_eq, beq_eq_false_iff_ne, bne_eq_false_iff_eq, decide_eq_true_eq, decide_eq_false_iff_not] at *; have := htr (by assumption); omega) | (simp_all; done)
            rcases Bool.eq_false_or_eq_true (IntKind.u16.wrap (IntKind.i8.wrap n) != n) with h6 | h6
            · have e : rk op d s n = 5 := (by have hz := h6; rw [hnr] at hz; simp only [rk, cond_true, cond_false, Bool.and_true, Bool.true_and, Bool.and_false, Bool.false_and, Bool.or_true, Bool.true_or, Bool.or_false, Bool.false_or, Bool.and_self, Bool.or_self, Bool.not_true, Bool.not_false, h0, h1, h2, h3, h4, h5, h6, hz]; first | done | rfl | (simp_all; done)); rw [e]; exact (LCalls_of ctxF_ok gRi (by kernel_rfl) (MWp.ends ctxF_ok 900 [(0, false), (0, false), (0, false), (0, false), (0, false), (0, true), (19, true)] (ri_13 op d s n) ⟨h0, h1, h2, h3, h4, h5, h6, trivial⟩)).mono (fun u K h => h.1)
            · have e : rk op d s n = 0 := (by have hz := h6; rw [hnr] at hz; simp only [rk, cond_true, cond_false, Bool.and_true, Bool.true_and, Bool.and_false, Bool.false_and, Bool.or_true, Bool.true_or, Bool.or_false, Bool.false_or, Bool.and_self, Bool.or_self, Bool.not_true, Bool.not_false, h0, h1, h2, h3, h4, h5, h6, hz]; first | done | rfl | (simp_all; done)); rw [e]; exact (LCalls_of ctxF_ok gRi (by kernel_rfl) (MWp.ends ctxF_ok 900 [(0, false), (0, false), (0, false), (0, false), (0, false), (0, true), (19, false)] (ri_14 op d s n) ⟨h0, h1, h2, h3, h4, h5, h6, trivial⟩)).mono (fun u K h => h.1)
def rightC (l : List Value) : Option (Bool × Value) := match l with
  | [.agg ⟨[.int .i64 op, .int .i64 d, .int .i64 s, .int .u16 n]⟩] => some (decide (0 ≤ n) && decide (n ≤ 65535), .int .i64 (rk op d s n))
  | _ => none
theorem right_ans : Answers Try.prog 19 rightC := by
  intro args g v h hg
  unfold rightC at h
  split at h
  · rename_i op d s n
    simp only [Option.some.injEq, Prod.mk.injEq] at h
    obtain ⟨rfl, rfl⟩ := h
    simp only [Bool.and_eq_true, decide_eq_true_eq] at hg
    exact ⟨by simp [plain, plainL], by simp [plain], fun w => calls_plain (by simp [VRL, VR]) (fun ρ v' h => plain_eq (by simp [plain]) h) (right_call op d s n hg.1 hg.2) w⟩
  · cases h
def ctxG : Ctx := ctxF.with 19 rightC
theorem ctxG_ok : ctxG.Ok Try.prog := ctxF_ok.with right_ans
end Go.Proofs.Ytkemllgkkngcjaa
namespace Go.Proofs.Ytkemllgkkngcjaa
open Go Go.Ly Go.RowKit
theorem bb_0 (op d s n : Int) : endsAt [0, 1, 2, 3, 4, 5, 6] (Ly.run ctxG 900 [(0, true), (0, true)] (Ly.start Try.f9 [Value.agg ⟨[Value.int IntKind.i64 op, Value.int IntKind.i64 d, Value.int IntKind.i64 s, Value.int IntKind.u16 n]⟩] H0)) = some ([(decide (0 ≤ n) && decide (n ≤ 65535), true), (rk op d s n != 0, true)], Value.tuple ⟨[Value.slice none 0 0, Value.int IntKind.i64 (rk op d s n)]⟩, 1, [some (LO.cells [Value.int IntKind.i64 op, Value.int IntKind.i64 d, Value.int IntKind.i64 s, Value.int IntKind.u16 n] 26), none, none, none, none, none, none]) := by kernel_rfl
theorem bb_2 (op d s n : Int) : endsAt [0, 1, 2, 3, 4, 5, 6] (Ly.run ctxG 900 [(0, true), (0, false), (0, false), (0, true), (0, true)] (Ly.start Try.f9 [Value.agg ⟨[Value.int IntKind.i64 op, Value.int IntKind.i64 d, Value.int IntKind.i64 s, Value.int IntKind.u16 n]⟩] H0)) = some ([(decide (0 ≤ n) && decide (n ≤ 65535), true), (rk op d s n != 0, false), ((hd op d s).n == 0, false), ((hd op d s).n == 1, true), ((hd op d s).t == 0, true)], Value.tuple ⟨[Value.slice (some ⟨1, 0, none⟩) 1 1, Value.int IntKind.i64 0]⟩, 4, [some (LO.cells [Value.int IntKind.i64 op, Value.int IntKind.i64 d, Value.int IntKind.i64 s, Value.int IntKind.u16 n] 26), some (LO.cells [Value.int IntKind.u8 (hd op d s).b0] 5), some (LO.cells [Value.slice (some ⟨1, 0, none⟩) 1 1, Value.int IntKind.i64 0] 45), some (LO.cells [Value.int IntKind.u8 (IntKind.u8.wrap n), Value.int IntKind.u8 (IntKind.u8.wrap (n.fdiv 256))] 5), none, none, none]) := by kernel_rfl
theorem bb_3 (op d s n : Int) : endsAt [0, 1, 2, 3, 4, 5, 6] (Ly.run ctxG 900 [(0, true), (0, false), (0, false), (0, true), (0, false), (0, true)] (Ly.start Try.f9 [Value.agg ⟨[Value.int IntKind.i64 op, Value.int IntKind.i64 d, Value.int IntKind.i64 s, Value.int IntKind.u16 n]⟩] H0)) = some ([(decide (0 ≤ n) && decide (n ≤ 65535), true), (rk op d s n != 0, false), ((hd op d s).n == 0, false), ((hd op d s).n == 1, true), ((hd op d s).t == 0, false), ((hd op d s).t == 1, true)], Value.tuple ⟨[Value.slice (some ⟨4, 0, none⟩) 2 18446744073709551616, Value.int IntKind.i64 0]⟩, 5, [some (LO.cells [Value.int IntKind.i64 op, Value.int IntKind.i64 d, Value.int IntKind.i64 s, Value.int IntKind.u16 n] 26), some (LO.cells [Value.int IntKind.u8 (hd op d s).b0] 5), some (LO.cells [Value.slice (some ⟨1, 0, none⟩) 1 1, Value.int IntKind.i64 1] 45), some (LO.cells [Value.int IntKind.u8 (IntKind.u8.wrap n), Value.int IntKind.u8 (IntKind.u8.wrap (n.fdiv 256))] 5), some (LO.row [Value.int IntKind.u8 (hd op d s).b0, Value.int IntKind.u8 (IntKind.u8.wrap n)] 5 1), none, none]) := by kernel_rfl
theorem bb_4 (op d s n : Int) : endsAt [0, 1, 2, 3, 4, 5, 6] (Ly.run ctxG 900 [(0, true), (0, false), (0, false), (0, true), (0, false), (0, false), (0, true)] (Ly.start Try.f9 [Value.agg ⟨[Value.int IntKind.i64 op, Value.int IntKind.i64 d, Value.int IntKind.i64 s, Value.int IntKind.u16 n]⟩] H0)) = some ([(decide (0 ≤ n) && decide (n ≤ 65535), true), (rk op d s n != 0, false), ((hd op d s).n == 0, false), ((hd op d s).n == 1, true), ((hd op d s).t == 0, false), ((hd op d s).t == 1, false), ((hd op d s).t == 2, true)], Value.tuple ⟨[Value.slice (some ⟨4, 0, none⟩) 3 18446744073709551616, Value.int IntKind.i64 0]⟩, 5, [some (LO.cells [Value.int IntKind.i64 op, Value.int IntKind.i64 d, Value.int IntKind.i64 s, Value.int IntKind.u16 n] 26), some (LO.cells [Value.int IntKind.u8 (hd op d s).b0] 5), some (LO.cells [Value.slice (some ⟨1, 0, none⟩) 1 1, Value.int IntKind.i64 2] 45), some (LO.cells [Value.int IntKind.u8 (IntKind.u8.wrap n), Value.int IntKind.u8 (IntKind.u8.wrap (n.fdiv 256))] 5), some (LO.row [Value.int IntKind.u8 (hd op d s).b0, Value.int IntKind.u8 (IntKind.u8.wrap n), Value.int IntKind.u8 (IntKind.u8.wrap (n.fdiv 256))] 5 1), none, none]) := by kernel_rfl
theorem bb_5 (op d s n : Int) : endsAt [0, 1, 2, 3, 4, 5, 6] (Ly.run ctxG 900 [(0, true), (0, false), (0, false), (0, true), (0, false), (0, false), (0, false), (0, true)] (Ly.start Try.f9 [Value.agg ⟨[Value.int IntKind.i64 op, Value.int IntKind.i64 d, Value.int IntKind.i64 s, Value.int IntKind.u16 n]⟩] H0)) = some ([(decide (0 ≤ n) && decide (n ≤ 65535), true), (rk op d s n != 0, false), ((hd op d s).n == 0, false), ((hd op d s).n == 1, true), ((hd op d s).t == 0, false), ((hd op d s).t == 1, false), ((hd op d s).t == 2, false), ((hd op d s).t == 3, true)], Value.tuple ⟨[Value.slice (some ⟨4, 0, none⟩) 2 18446744073709551616, Value.int IntKind.i64 0]⟩, 5, [some (LO.cells [Value.int IntKind.i64 op, Value.int IntKind.i64 d, Value.int IntKind.i64 s, Value.int IntKind.u16 n] 26), some (LO.cells [Value.int IntKind.u8 (hd op d s).b0] 5), some (LO.cells [Value.slice (some ⟨1, 0, none⟩) 1 1, Value.int IntKind.i64 3] 45), some (LO.cells [Value.int IntKind.u8 (IntKind.u8.wrap n), Value.int IntKind.u8 (IntKind.u8.wrap (n.fdiv 256))] 5), some (LO.row [Value.int IntKind.u8 (hd op d s).b0, Value.int IntKind.u8 (IntKind.u8.wrap n)] 5 1), none, none]) := by kernel_rfl
theorem bb_6 (op d s n : Int) : endsAt [0, 1, 2, 3, 4, 5, 6] (Ly.run ctxG 900 [(0, true), (0, false), (0, false), (0, false), (0, true)] (Ly.start Try.f9 [Value.agg ⟨[Value.int IntKind.i64 op, Value.int IntKind.i64 d, Value.int IntKind.i64 s, Value.int IntKind.u16 n]⟩] H0)) = some ([(decide (0 ≤ n) && decide (n ≤ 65535), true), (rk op d s n != 0, false), ((hd op d s).n == 0, false), ((hd op d s).n == 1, false), ((hd op d s).t == 0, true)], Value.tuple ⟨[Value.slice (some ⟨1, 0, none⟩) 2 2, Value.int IntKind.i64 0]⟩, 4, [some (LO.cells [Value.int IntKind.i64 op, Value.int IntKind.i64 d, Value.int IntKind.i64 s, Value.int IntKind.u16 n] 26), some (LO.cells [Value.int IntKind.u8 (hd op d s).b0, Value.int IntKind.u8 (hd op d s).b1] 5), some (LO.cells [Value.slice (some ⟨1, 0, none⟩) 2 2, Value.int IntKind.i64 0] 45), some (LO.cells [Value.int IntKind.u8 (IntKind.u8.wrap n), Value.int IntKind.u8 (IntKind.u8.wrap (n.fdiv 256))] 5), none, none, none]) := by kernel_rfl
theorem bb_7 (op d s n : Int) : endsAt [0, 1, 2, 3, 4, 5, 6] (Ly.run ctxG 900 [(0, true), (0, false), (0, false), (0, false), (0, false), (0, true)] (Ly.start Try.f9 [Value.agg ⟨[Value.int IntKind.i64 op, Value.int IntKind.i64 d, Value.int IntKind.i64 s, Value.int IntKind.u16 n]⟩] H0)) = some ([(decide (0 ≤ n) && decide (n ≤ 65535), true), (rk op d s n != 0, false), ((hd op d s).n == 0, false), ((hd op d s).n == 1, false), ((hd op d s).t == 0, false), ((hd op d s).t == 1, true)], Value.tuple ⟨[Value.slice (some ⟨4, 0, none⟩) 3 18446744073709551616, Value.int IntKind.i64 0]⟩, 5, [some (LO.cells [Value.int IntKind.i64 op, Value.int IntKind.i64 d, Value.int IntKind.i64 s, Value.int IntKind.u16 n] 26), some (LO.cells [Value.int IntKind.u8 (hd op d s).b0, Value.int IntKind.u8 (hd op d s).b1] 5), some (LO.cells [Value.slice (some ⟨1, 0, none⟩) 2 2, Value.int IntKind.i64 1] 45), some (LO.cells [Value.int IntKind.u8 (IntKind.u8.wrap n), Value.int IntKind.u8 (IntKind.u8.wrap (n.fdiv 256))] 5), some (LO.row [Value.int IntKind.u8 (hd op d s).b0, Value.int IntKind.u8 (hd op d s).b1, Value.int IntKind.u8 (IntKind.u8.wrap n)] 5 1), none, none]) := by kernel_rfl
theorem bb_8 (op d s n : Int) : endsAt [0, 1, 2, 3, 4, 5, 6] (Ly.run ctxG 900 [(0, true), (0, false), (0, false), (0, false), (0, false), (0, false), (0, true)] (Ly.start Try.f9 [Value.agg ⟨[Value.int IntKind.i64 op, Value.int IntKind.i64 d, Value.int IntKind.i64 s, Value.int IntKind.u16 n]⟩] H0)) = some ([(decide (0 ≤ n) && decide (n ≤ 65535), true), (rk op d s n != 0, false), ((hd op d s).n == 0, false), ((hd op d s).n == 1, false), ((hd op d s).t == 0, false), ((hd op d s).t == 1, false), ((hd op d s).t == 2, true)], Value.tuple ⟨[Value.slice (some ⟨4, 0, none⟩) 4 18446744073709551616, Value.int IntKind.i64 0]⟩, 5, [some (LO.cells [Value.int IntKind.i64 op, Value.int IntKind.i64 d, Value.int IntKind.i64 s, Value.int IntKind.u16 n] 26), some (LO.cells [Value.int IntKind.u8 (hd op d s).b0, Value.int IntKind.u8 (hd op d s).b1] 5), some (LO.cells [Value.slice (some ⟨1, 0, none⟩) 2 2, Value.int IntKind.i64 2] 45), some (LO.cells [Value.int IntKind.u8 (IntKind.u8.wrap n), Value.int IntKind.u8 (IntKind.u8.wrap (n.fdiv 256))] 5), some (LO.row [Value.int IntKind.u8 (hd op d s).b0, Value.int IntKind.u8 (hd op d s).b1, Value.int IntKind.u8 (IntKind.u8.wrap n), Value.int IntKind.u8 (IntKind.u8.wrap (n.fdiv 256))] 5 1), none, none]) := by kernel_rfl
theorem gBy : ctxG.fn.get 9 = some Try.f9 := by kernel_rfl
def inN (n : Int) : Bool := decide (0 ≤ n) && decide (n ≤ 65535)
def bytesE (H : Heap) (args : List Value) : ER :=
  match args with
  | [.agg ⟨[.int .i64 op, .int .i64 d, .int .i64 s, .int .u16 n]⟩] => .tst (inN n) (.tst (rk op d s n == 0) (pairNew H (fun e => .int .u8 (atB op d s n e)) (lenB op d s) 5 (.int .i64 0)) (.val (.tuple ⟨[.slice none 0 0, .int .i64 (rk op d s n)]⟩))) .no
  | _ => .no
theorem lo8 (n : Int) : IntKind.u8.wrap n = n % 256 := IntKind.wrap_u8 n
theorem hi8 (n : Int) (h0 : 0 ≤ n) (h1 : n ≤ 65535) : IntKind.u8.wrap (n.fdiv 256) = n / 256 := by
  have : n.fdiv 256 = n / 256 := Int.fdiv_eq_ediv_of_nonneg _ (by omega)
  rw [IntKind.wrap_u8, this]; omega
theorem rk_hd {op d s n : Int} (h : rk op d s n = 0) : (hd op d s).n ≠ 0 := by
  intro e
  unfold rk at h
  rw [e] at h
  have h12 : (12 : Int) = 0 := h
  omega
theorem bytes_good (H : Heap) (args : List Value) : HGood Try.prog 9 args H (bytesE H args) := by
  unfold bytesE
  split
  · rename_i op d s n
    refine ⟨fun hn => ⟨fun hr => ?_, fun hr => ?_⟩, fun _ => trivial⟩
    · have hr := beq_iff_eq.1 hr
      have hi : (decide (0 ≤ n) && decide (n ≤ 65535)) = true := hn
      have hn' : 0 ≤ n ∧ n ≤ 65535 := by simpa using hi
      have hb := hi8 n hn'.1 hn'.2
      have hl := lo8 n
      have hz := rk_hd hr
      have hr0 : (rk op d s n != 0) = false := by simp [hr]
      have hz0 : ((hd op d s).n == 0) = false := by simpa using hz
      have ht := hd_t hz
      by_cases h1 : (hd op d s).n = 1
      · have h10 : ((hd op d s).n == 1) = true := by simpa using h1
        have tc : (hd op d s).t = 0 ∨ (hd op d s).t = 1 ∨ (hd op d s).t = 2 ∨ (hd op d s).t = 3 := by omega
        rcases tc with h2 | h2 | h2 | h2
        · have el : lenB op d s = 1 := by unfold lenB; rw [h10, h2]; rfl
          have hg : ∀ e, e < 1 → [.int .u8 (hd op d s).b0][e]? = some (Value.int .u8 (atB op d s n e)) := by
            intro e he
            have : e = 0 := by omega
            rcases this with rfl
            · unfold atB; rw [h10]; (try rw [hl]); (try rw [hb]); rfl
          rw [el]
          refine pairNew_good2 (r := 1) (c := [.int .u8 (hd op d s).b0]) (by simp [plain, plainL]) (by simp [plain]) (by rfl) rfl (by simp) (by unfold capU; simp) hg ?_ H
          refine (LCalls_of ctxG_ok gBy (by kernel_rfl) (MWp.ends ctxG_ok 900 [(0, true), (0, false), (0, false), (0, true), (0, true)] (bb_2 op d s n) ⟨hi, hr0, hz0, h10, (by simp [h2] : ((hd op d s).t == 0) = true), trivial⟩)).mono ?_
          rintro u K ⟨rfl, _, hk, hlk⟩
          simp only [List.map_cons, List.map_nil, List.cons.injEq, and_true] at hk
          exact ⟨rfl, hk.2.1, hlk⟩
        · have el : lenB op d s = 2 := by unfold lenB; rw [h10, h2]; rfl
          have hg : ∀ e, e < 2 → [.int .u8 (hd op d s).b0, .int .u8 (IntKind.u8.wrap n)][e]? = some (Value.int .u8 (atB op d s n e)) := by
            intro e he
            have : e = 0 ∨ e = 1 := by omega
            rcases this with rfl | rfl
            · unfold atB; rw [h10]; (try rw [hl]); (try rw [hb]); rfl
            · unfold atB; rw [h10]; (try rw [hl]); (try rw [hb]); rfl
          rw [el]
          refine pairNew_good (r := 4) (c := [.int .u8 (hd op d s).b0, .int .u8 (IntKind.u8.wrap n)]) (by simp [plain, plainL]) (by simp [plain]) (by rfl) rfl (by simp) hg ?_ H
          refine (LCalls_of ctxG_ok gBy (by kernel_rfl) (MWp.ends ctxG_ok 900 [(0, true), (0, false), (0, false), (0, true), (0, false), (0, true)] (bb_3 op d s n) ⟨hi, hr0, hz0, h10, (by simp [h2] : ((hd op d s).t == 0) = false), (by simp [h2] : ((hd op d s).t == 1) = true), trivial⟩)).mono ?_
          rintro u K ⟨rfl, _, hk, hlk⟩
          simp only [List.map_cons, List.map_nil, List.cons.injEq, and_true] at hk
          exact ⟨rfl, hk.2.2.2.2.1, hlk⟩
        · have el : lenB op d s = 3 := by unfold lenB; rw [h10, h2]; rfl
          have hg : ∀ e, e < 3 → [.int .u8 (hd op d s).b0, .int .u8 (IntKind.u8.wrap n), .int .u8 (IntKind.u8.wrap (n.fdiv 256))][e]? = some (Value.int .u8 (atB op d s n e)) := by
            intro e he
            have : e = 0 ∨ e = 1 ∨ e = 2 := by omega
            rcases this with rfl | rfl | rfl
            · unfold atB; rw [h10]; (try rw [hl]); (try rw [hb]); rfl
            · unfold atB; rw [h10]; (try rw [hl]); (try rw [hb]); rfl
            · unfold atB; rw [h10]; (try rw [hl]); (try rw [hb]); rfl
          rw [el]
          refine pairNew_good (r := 4) (c := [.int .u8 (hd op d s).b0, .int .u8 (IntKind.u8.wrap n), .int .u8 (IntKind.u8.wrap (n.fdiv 256))]) (by simp [plain, plainL]) (by simp [plain]) (by rfl) rfl (by simp) hg ?_ H
          refine (LCalls_of ctxG_ok gBy (by kernel_rfl) (MWp.ends ctxG_ok 900 [(0, true), (0, false), (0, false), (0, true), (0, false), (0, false), (0, true)] (bb_4 op d s n) ⟨hi, hr0, hz0, h10, (by simp [h2] : ((hd op d s).t == 0) = false), (by simp [h2] : ((hd op d s).t == 1) = false), (by simp [h2] : ((hd op d s).t == 2) = true), trivial⟩)).mono ?_
          rintro u K ⟨rfl, _, hk, hlk⟩
          simp only [List.map_cons, List.map_nil, List.cons.injEq, and_true] at hk
          exact ⟨rfl, hk.2.2.2.2.1, hlk⟩
        · have el : lenB op d s = 2 := by unfold lenB; rw [h10, h2]; rfl
          have hg : ∀ e, e < 2 → [.int .u8 (hd op d s).b0, .int .u8 (IntKind.u8.wrap n)][e]? = some (Value.int .u8 (atB op d s n e)) := by
            intro e he
            have : e = 0 ∨ e = 1 := by omega
            rcases this with rfl | rfl
            · unfold atB; rw [h10]; (try rw [hl]); (try rw [hb]); rfl
            · unfold atB; rw [h10]; (try rw [hl]); (try rw [hb]); rfl
          rw [el]
          refine pairNew_good (r := 4) (c := [.int .u8 (hd op d s).b0, .int .u8 (IntKind.u8.wrap n)]) (by simp [plain, plainL]) (by simp [plain]) (by rfl) rfl (by simp) hg ?_ H
          refine (LCalls_of ctxG_ok gBy (by kernel_rfl) (MWp.ends ctxG_ok 900 [(0, true), (0, false), (0, false), (0, true), (0, false), (0, false), (0, false), (0, true)] (bb_5 op d s n) ⟨hi, hr0, hz0, h10, (by simp [h2] : ((hd op d s).t == 0) = false), (by simp [h2] : ((hd op d s).t == 1) = false), (by simp [h2] : ((hd op d s).t == 2) = false), (by simp [h2] : ((hd op d s).t == 3) = true), trivial⟩)).mono ?_
          rintro u K ⟨rfl, _, hk, hlk⟩
          simp only [List.map_cons, List.map_nil, List.cons.injEq, and_true] at hk
          exact ⟨rfl, hk.2.2.2.2.1, hlk⟩
      · have h10 : ((hd op d s).n == 1) = false := by simpa using h1
        have ht2 := (hd_two hz h1).2.2.2.1
        have tc : (hd op d s).t = 0 ∨ (hd op d s).t = 1 ∨ (hd op d s).t = 2 := by omega
        rcases tc with h2 | h2 | h2
        · have el : lenB op d s = 2 := by unfold lenB; rw [h10, h2]; rfl
          have hg : ∀ e, e < 2 → [.int .u8 (hd op d s).b0, .int .u8 (hd op d s).b1][e]? = some (Value.int .u8 (atB op d s n e)) := by
            intro e he
            have : e = 0 ∨ e = 1 := by omega
            rcases this with rfl | rfl
            · unfold atB; rw [h10]; (try rw [hl]); (try rw [hb]); rfl
            · unfold atB; rw [h10]; (try rw [hl]); (try rw [hb]); rfl
          rw [el]
          refine pairNew_good2 (r := 1) (c := [.int .u8 (hd op d s).b0, .int .u8 (hd op d s).b1]) (by simp [plain, plainL]) (by simp [plain]) (by rfl) rfl (by simp) (by unfold capU; simp) hg ?_ H
          refine (LCalls_of ctxG_ok gBy (by kernel_rfl) (MWp.ends ctxG_ok 900 [(0, true), (0, false), (0, false), (0, false), (0, true)] (bb_6 op d s n) ⟨hi, hr0, hz0, h10, (by simp [h2] : ((hd op d s).t == 0) = true), trivial⟩)).mono ?_
          rintro u K ⟨rfl, _, hk, hlk⟩
          simp only [List.map_cons, List.map_nil, List.cons.injEq, and_true] at hk
          exact ⟨rfl, hk.2.1, hlk⟩
        · have el : lenB op d s = 3 := by unfold lenB; rw [h10, h2]; rfl
          have hg : ∀ e, e < 3 → [.int .u8 (hd op d s).b0, .int .u8 (hd op d s).b1, .int .u8 (IntKind.u8.wrap n)][e]? = some (Value.int .u8 (atB op d s n e)) := by
            intro e he
            have : e = 0 ∨ e = 1 ∨ e = 2 := by omega
            rcases this with rfl | rfl | rfl
            · unfold atB; rw [h10]; (try rw [hl]); (try rw [hb]); rfl
            · unfold atB; rw [h10]; (try rw [hl]); (try rw [hb]); rfl
            · unfold atB; rw [h10]; (try rw [hl]); (try rw [hb]); rfl
          rw [el]
          refine pairNew_good (r := 4) (c := [.int .u8 (hd op d s).b0, .int .u8 (hd op d s).b1, .int .u8 (IntKind.u8.wrap n)]) (by simp [plain, plainL]) (by simp [plain]) (by rfl) rfl (by simp) hg ?_ H
          refine (LCalls_of ctxG_ok gBy (by kernel_rfl) (MWp.ends ctxG_ok 900 [(0, true), (0, false), (0, false), (0, false), (0, false), (0, true)] (bb_7 op d s n) ⟨hi, hr0, hz0, h10, (by simp [h2] : ((hd op d s).t == 0) = false), (by simp [h2] : ((hd op d s).t == 1) = true), trivial⟩)).mono ?_
          rintro u K ⟨rfl, _, hk, hlk⟩
          simp only [List.map_cons, List.map_nil, List.cons.injEq, and_true] at hk
          exact ⟨rfl, hk.2.2.2.2.1, hlk⟩
        · have el : lenB op d s = 4 := by unfold lenB; rw [h10, h2]; rfl
          have hg : ∀ e, e < 4 → [.int .u8 (hd op d s).b0, .int .u8 (hd op d s).b1, .int .u8 (IntKind.u8.wrap n), .int .u8 (IntKind.u8.wrap (n.fdiv 256))][e]? = some (Value.int .u8 (atB op d s n e)) := by
            intro e he
            have : e = 0 ∨ e = 1 ∨ e = 2 ∨ e = 3 := by omega
            rcases this with rfl | rfl | rfl | rfl
            · unfold atB; rw [h10]; (try rw [hl]); (try rw [hb]); rfl
            · unfold atB; rw [h10]; (try rw [hl]); (try rw [hb]); rfl
            · unfold atB; rw [h10]; (try rw [hl]); (try rw [hb]); rfl
            · unfold atB; rw [h10]; (try rw [hl]); (try rw [hb]); rfl
          rw [el]
          refine pairNew_good (r := 4) (c := [.int .u8 (hd op d s).b0, .int .u8 (hd op d s).b1, .int .u8 (IntKind.u8.wrap n), .int .u8 (IntKind.u8.wrap (n.fdiv 256))]) (by simp [plain, plainL]) (by simp [plain]) (by rfl) rfl (by simp) hg ?_ H
          refine (LCalls_of ctxG_ok gBy (by kernel_rfl) (MWp.ends ctxG_ok 900 [(0, true), (0, false), (0, false), (0, false), (0, false), (0, false), (0, true)] (bb_8 op d s n) ⟨hi, hr0, hz0, h10, (by simp [h2] : ((hd op d s).t == 0) = false), (by simp [h2] : ((hd op d s).t == 1) = false), (by simp [h2] : ((hd op d s).t == 2) = true), trivial⟩)).mono ?_
          rintro u K ⟨rfl, _, hk, hlk⟩
          simp only [List.map_cons, List.map_nil, List.cons.injEq, and_true] at hk
          exact ⟨rfl, hk.2.2.2.2.1, hlk⟩
    · have hr : (rk op d s n != 0) = true := by simpa using hr
      have hi : (decide (0 ≤ n) && decide (n ≤ 65535)) = true := hn
      refine HGood_val (by simp [plain, plainL]) (by simp [plain, plainL]) (fun w => calls_plain (by simp [VRL, VR]) (fun ρ v' h => plain_eq (by simp [plain, plainL]) h) ?_ w) H
      exact (LCalls_of ctxG_ok gBy (by kernel_rfl) (MWp.ends ctxG_ok 900 [(0, true), (0, true)] (bb_0 op d s n) ⟨hi, hr, trivial⟩)).mono (fun u K h => h.1)
  · exact trivial
def ctxB : Ctx := ctxG.withH 9 bytesE
theorem ctxB_ok : ctxB.Ok Try.prog := ctxG_ok.withH bytes_good
end Go.Proofs.Ytkemllgkkngcjaa
namespace Go.Proofs.Ytkemllgkkngcjaa
open Go Go.Ly Go.RowKit
def alD : St := Ly.start Try.f22 [] H0
def alCs : List Value := [.int .u8 159, .int .u8 158, .int .u8 39, .int .u8 245, .int .u8 249, .int .u8 248, .int .u8 251, .int .u8 250, .int .u8 244, .int .u8 144]
def alH : Heap := H0.new (.cells alCs 5)
def alK : List KI := ((Ly.run env.bare 65 [(0, false), (0, false), (0, false), (0, false), (0, false), (0, false), (0, false), (0, false)] (Ly.start Try.f22 [.int .u8 0] H0)).st alD).top.k
def alV (a : Int) : List Value := slots 27 [(0, .int .u8 a), (22, .slice (some ⟨0, 0, none⟩) 10 10)]
theorem alJ (a : Int) : haltF [0, 22] alD (Ly.run env.bare 65 [(0, false), (0, false), (0, false), (0, false), (0, false), (0, false), (0, false), (0, false)] (Ly.start Try.f22 [.int .u8 a] H0)) = (true, [(a == 160, false), (a == 162, false), (a == 228, false), (a == 230, false), (a == 233, false), (a == 235, false), (a == 232, false), (a == 195, false)], true, (Try.f22, alK, none, 0), alV a, alH) := by kernel_rfl
def alS (a : Int) : St := behind (atSt Try.f22 alK none 0 (alV a) alH) (.slice (some ⟨1, 0, none⟩) 10 10) (convH alH 0 alCs)
theorem alC (a : Int) : opConv env (atSt Try.f22 alK none 0 (alV a) alH) = some (22, 0, 10, 10) := by kernel_rfl
theorem alG : env.bare.fn.get 22 = some Try.f22 := by kernel_rfl
theorem al0 (a : Int) : (Ly.run env.bare 600 [(0, true)] (Ly.start Try.f22 [.int .u8 a] H0)).out? = some ([(a == 160, true)], .tuple ⟨[.int .i64 1, .int .i64 1, .int .i64 19]⟩) := by kernel_rfl
theorem al1 (a : Int) : (Ly.run env.bare 600 [(0, false), (0, true)] (Ly.start Try.f22 [.int .u8 a] H0)).out? = some ([(a == 160, false), (a == 162, true)], .tuple ⟨[.int .i64 1, .int .i64 19, .int .i64 1]⟩) := by kernel_rfl
theorem al2 (a : Int) : (Ly.run env.bare 600 [(0, false), (0, false), (0, true)] (Ly.start Try.f22 [.int .u8 a] H0)).out? = some ([(a == 160, false), (a == 162, false), (a == 228, true)], .tuple ⟨[.int .i64 30, .int .i64 1, .int .i64 20]⟩) := by kernel_rfl
theorem al3 (a : Int) : (Ly.run env.bare 600 [(0, false), (0, false), (0, false), (0, true)] (Ly.start Try.f22 [.int .u8 a] H0)).out? = some ([(a == 160, false), (a == 162, false), (a == 228, false), (a == 230, true)], .tuple ⟨[.int .i64 31, .int .i64 20, .int .i64 1]⟩) := by kernel_rfl
theorem al4 (a : Int) : (Ly.run env.bare 600 [(0, false), (0, false), (0, false), (0, false), (0, true)] (Ly.start Try.f22 [.int .u8 a] H0)).out? = some ([(a == 160, false), (a == 162, false), (a == 228, false), (a == 230, false), (a == 233, true)], .tuple ⟨[.int .i64 32, .int .i64 20, .int .i64 0]⟩) := by kernel_rfl
theorem al5 (a : Int) : (Ly.run env.bare 600 [(0, false), (0, false), (0, false), (0, false), (0, false), (0, true)] (Ly.start Try.f22 [.int .u8 a] H0)).out? = some ([(a == 160, false), (a == 162, false), (a == 228, false), (a == 230, false), (a == 233, false), (a == 235, true)], .tuple ⟨[.int .i64 33, .int .i64 20, .int .i64 0]⟩) := by kernel_rfl
theorem al6 (a : Int) : (Ly.run env.bare 600 [(0, false), (0, false), (0, false), (0, false), (0, false), (0, false), (0, true)] (Ly.start Try.f22 [.int .u8 a] H0)).out? = some ([(a == 160, false), (a == 162, false), (a == 228, false), (a == 230, false), (a == 233, false), (a == 235, false), (a == 232, true)], .tuple ⟨[.int .i64 34, .int .i64 20, .int .i64 0]⟩) := by kernel_rfl
theorem al7 (a : Int) : (Ly.run env.bare 600 [(0, false), (0, false), (0, false), (0, false), (0, false), (0, false), (0, false), (0, true)] (Ly.start Try.f22 [.int .u8 a] H0)).out? = some ([(a == 160, false), (a == 162, false), (a == 228, false), (a == 230, false), (a == 233, false), (a == 235, false), (a == 232, false), (a == 195, true)], .tuple ⟨[.int .i64 35, .int .i64 0, .int .i64 0]⟩) := by kernel_rfl
theorem alt0 (a : Int) : (Ly.run env.bare 600 [(3, true)] (alS a)).out? = some ([(a == 159, true)], .tuple ⟨[.int .i64 20, .int .i64 0, .int .i64 0]⟩) := by kernel_rfl
theorem alt1 (a : Int) : (Ly.run env.bare 600 [(3, false), (3, true)] (alS a)).out? = some ([(a == 159, false), (a == 158, true)], .tuple ⟨[.int .i64 21, .int .i64 0, .int .i64 0]⟩) := by kernel_rfl
theorem alt2 (a : Int) : (Ly.run env.bare 600 [(3, false), (3, false), (3, true)] (alS a)).out? = some ([(a == 159, false), (a == 158, false), (a == 39, true)], .tuple ⟨[.int .i64 22, .int .i64 0, .int .i64 0]⟩) := by kernel_rfl
theorem alt3 (a : Int) : (Ly.run env.bare 600 [(3, false), (3, false), (3, false), (3, true)] (alS a)).out? = some ([(a == 159, false), (a == 158, false), (a == 39, false), (a == 245, true)], .tuple ⟨[.int .i64 23, .int .i64 0, .int .i64 0]⟩) := by kernel_rfl
theorem alt4 (a : Int) : (Ly.run env.bare 600 [(3, false), (3, false), (3, false), (3, false), (3, true)] (alS a)).out? = some ([(a == 159, false), (a == 158, false), (a == 39, false), (a == 245, false), (a == 249, true)], .tuple ⟨[.int .i64 24, .int .i64 0, .int .i64 0]⟩) := by kernel_rfl
theorem alt5 (a : Int) : (Ly.run env.bare 600 [(3, false), (3, false), (3, false), (3, false), (3, false), (3, true)] (alS a)).out? = some ([(a == 159, false), (a == 158, false), (a == 39, false), (a == 245, false), (a == 249, false), (a == 248, true)], .tuple ⟨[.int .i64 25, .int .i64 0, .int .i64 0]⟩) := by kernel_rfl
theorem alt6 (a : Int) : (Ly.run env.bare 600 [(3, false), (3, false), (3, false), (3, false), (3, false), (3, false), (3, true)] (alS a)).out? = some ([(a == 159, false), (a == 158, false), (a == 39, false), (a == 245, false), (a == 249, false), (a == 248, false), (a == 251, true)], .tuple ⟨[.int .i64 26, .int .i64 0, .int .i64 0]⟩) := by kernel_rfl
theorem alt7 (a : Int) : (Ly.run env.bare 600 [(3, false), (3, false), (3, false), (3, false), (3, false), (3, false), (3, false), (3, true)] (alS a)).out? = some ([(a == 159, false), (a == 158, false), (a == 39, false), (a == 245, false), (a == 249, false), (a == 248, false), (a == 251, false), (a == 250, true)], .tuple ⟨[.int .i64 27, .int .i64 0, .int .i64 0]⟩) := by kernel_rfl
theorem alt8 (a : Int) : (Ly.run env.bare 600 [(3, false), (3, false), (3, false), (3, false), (3, false), (3, false), (3, false), (3, false), (3, true)] (alS a)).out? = some ([(a == 159, false), (a == 158, false), (a == 39, false), (a == 245, false), (a == 249, false), (a == 248, false), (a == 251, false), (a == 250, false), (a == 244, true)], .tuple ⟨[.int .i64 28, .int .i64 0, .int .i64 0]⟩) := by kernel_rfl
theorem alt9 (a : Int) : (Ly.run env.bare 600 [(3, false), (3, false), (3, false), (3, false), (3, false), (3, false), (3, false), (3, false), (3, false), (3, true)] (alS a)).out? = some ([(a == 159, false), (a == 158, false), (a == 39, false), (a == 245, false), (a == 249, false), (a == 248, false), (a == 251, false), (a == 250, false), (a == 244, false), (a == 144, true)], .tuple ⟨[.int .i64 29, .int .i64 0, .int .i64 0]⟩) := by kernel_rfl
theorem alt10 (a : Int) : (Ly.run env.bare 600 [(3, false), (3, false), (3, false), (3, false), (3, false), (3, false), (3, false), (3, false), (3, false), (3, false)] (alS a)).out? = some ([(a == 159, false), (a == 158, false), (a == 39, false), (a == 245, false), (a == 249, false), (a == 248, false), (a == 251, false), (a == 250, false), (a == 244, false), (a == 144, false)], .tuple ⟨[.int .i64 19, .int .i64 0, .int .i64 0]⟩) := by kernel_rfl
def alT (a : Int) : Value := bif a == 160 then .tuple ⟨[.int .i64 1, .int .i64 1, .int .i64 19]⟩ else bif a == 162 then .tuple ⟨[.int .i64 1, .int .i64 19, .int .i64 1]⟩ else bif a == 228 then .tuple ⟨[.int .i64 30, .int .i64 1, .int .i64 20]⟩ else bif a == 230 then .tuple ⟨[.int .i64 31, .int .i64 20, .int .i64 1]⟩ else bif a == 233 then .tuple ⟨[.int .i64 32, .int .i64 20, .int .i64 0]⟩ else bif a == 235 then .tuple ⟨[.int .i64 33, .int .i64 20, .int .i64 0]⟩ else bif a == 232 then .tuple ⟨[.int .i64 34, .int .i64 20, .int .i64 0]⟩ else bif a == 195 then .tuple ⟨[.int .i64 35, .int .i64 0, .int .i64 0]⟩ else bif a == 159 then .tuple ⟨[.int .i64 20, .int .i64 0, .int .i64 0]⟩ else bif a == 158 then .tuple ⟨[.int .i64 21, .int .i64 0, .int .i64 0]⟩ else bif a == 39 then .tuple ⟨[.int .i64 22, .int .i64 0, .int .i64 0]⟩ else bif a == 245 then .tuple ⟨[.int .i64 23, .int .i64 0, .int .i64 0]⟩ else bif a == 249 then .tuple ⟨[.int .i64 24, .int .i64 0, .int .i64 0]⟩ else bif a == 248 then .tuple ⟨[.int .i64 25, .int .i64 0, .int .i64 0]⟩ else bif a == 251 then .tuple ⟨[.int .i64 26, .int .i64 0, .int .i64 0]⟩ else bif a == 250 then .tuple ⟨[.int .i64 27, .int .i64 0, .int .i64 0]⟩ else bif a == 244 then .tuple ⟨[.int .i64 28, .int .i64 0, .int .i64 0]⟩ else bif a == 144 then .tuple ⟨[.int .i64 29, .int .i64 0, .int .i64 0]⟩ else .tuple ⟨[.int .i64 19, .int .i64 0, .int .i64 0]⟩
theorem alT_plain (a : Int) : plain (alT a) = true := by
  unfold alT
  repeat' (first | rfl | (rw [Bool.cond_eq_ite]; split))
theorem al_call (a : Int) : LCalls Try.prog 22 [.int .u8 a] H0 (fun u _ => u = alT a) := by
  unfold alT
  cases h0 : (a == 160) with
  | true => simp only [cond_true]; exact LCalls_trust (Env.bare_ok envOk) 600 _ alG (by kernel_rfl) (al0 a) (by simp [trusted, h0])
  | false =>
  simp only [cond_false]
  cases h1 : (a == 162) with
  | true => simp only [cond_true]; exact LCalls_trust (Env.bare_ok envOk) 600 _ alG (by kernel_rfl) (al1 a) (by simp [trusted, h0, h1])
  | false =>
  simp only [cond_false]
  cases h2 : (a == 228) with
  | true => simp only [cond_true]; exact LCalls_trust (Env.bare_ok envOk) 600 _ alG (by kernel_rfl) (al2 a) (by simp [trusted, h0, h1, h2])
  | false =>
  simp only [cond_false]
  cases h3 : (a == 230) with
  | true => simp only [cond_true]; exact LCalls_trust (Env.bare_ok envOk) 600 _ alG (by kernel_rfl) (al3 a) (by simp [trusted, h0, h1, h2, h3])
  | false =>
  simp only [cond_false]
  cases h4 : (a == 233) with
  | true => simp only [cond_true]; exact LCalls_trust (Env.bare_ok envOk) 600 _ alG (by kernel_rfl) (al4 a) (by simp [trusted, h0, h1, h2, h3, h4])
  | false =>
  simp only [cond_false]
  cases h5 : (a == 235) with
  | true => simp only [cond_true]; exact LCalls_trust (Env.bare_ok envOk) 600 _ alG (by kernel_rfl) (al5 a) (by simp [trusted, h0, h1, h2, h3, h4, h5])
  | false =>
  simp only [cond_false]
  cases h6 : (a == 232) with
  | true => simp only [cond_true]; exact LCalls_trust (Env.bare_ok envOk) 600 _ alG (by kernel_rfl) (al6 a) (by simp [trusted, h0, h1, h2, h3, h4, h5, h6])
  | false =>
  simp only [cond_false]
  cases h7 : (a == 195) with
  | true => simp only [cond_true]; exact LCalls_trust (Env.bare_ok envOk) 600 _ alG (by kernel_rfl) (al7 a) (by simp [trusted, h0, h1, h2, h3, h4, h5, h6, h7])
  | false =>
  simp only [cond_false]
  refine LCalls_of (Env.bare_ok envOk) alG (by kernel_rfl) (MWp.halted (Env.bare_ok envOk) [0, 22] 65 _ (alJ a) (by simp [trusted, h0, h1, h2, h3, h4, h5, h6, h7]) ?_)
  refine MWp.conv (t := 5) (cs := alCs) envOk (alC a) (by kernel_rfl) rfl (by show 2 < 2147483000; omega) (by kernel_rfl) (by rfl) (by omega) (by show 10 ≤ 10; omega) (by unfold capU; omega) ?_
  show MWp Try.prog (alS a) _
  cases k0 : (a == 159) with
  | true => simp only [cond_true]; exact MWp.out (Env.bare_ok envOk) 600 _ (alt0 a) (by simp [trusted, k0]) (fun _ => rfl)
  | false =>
  simp only [cond_false]
  cases k1 : (a == 158) with
  | true => simp only [cond_true]; exact MWp.out (Env.bare_ok envOk) 600 _ (alt1 a) (by simp [trusted, k0, k1]) (fun _ => rfl)
  | false =>
  simp only [cond_false]
  cases k2 : (a == 39) with
  | true => simp only [cond_true]; exact MWp.out (Env.bare_ok envOk) 600 _ (alt2 a) (by simp [trusted, k0, k1, k2]) (fun _ => rfl)
  | false =>
  simp only [cond_false]
  cases k3 : (a == 245) with
  | true => simp only [cond_true]; exact MWp.out (Env.bare_ok envOk) 600 _ (alt3 a) (by simp [trusted, k0, k1, k2, k3]) (fun _ => rfl)
  | false =>
  simp only [cond_false]
  cases k4 : (a == 249) with
  | true => simp only [cond_true]; exact MWp.out (Env.bare_ok envOk) 600 _ (alt4 a) (by simp [trusted, k0, k1, k2, k3, k4]) (fun _ => rfl)
  | false =>
  simp only [cond_false]
  cases k5 : (a == 248) with
  | true => simp only [cond_true]; exact MWp.out (Env.bare_ok envOk) 600 _ (alt5 a) (by simp [trusted, k0, k1, k2, k3, k4, k5]) (fun _ => rfl)
  | false =>
  simp only [cond_false]
  cases k6 : (a == 251) with
  | true => simp only [cond_true]; exact MWp.out (Env.bare_ok envOk) 600 _ (alt6 a) (by simp [trusted, k0, k1, k2, k3, k4, k5, k6]) (fun _ => rfl)
  | false =>
  simp only [cond_false]
  cases k7 : (a == 250) with
  | true => simp only [cond_true]; exact MWp.out (Env.bare_ok envOk) 600 _ (alt7 a) (by simp [trusted, k0, k1, k2, k3, k4, k5, k6, k7]) (fun _ => rfl)
  | false =>
  simp only [cond_false]
  cases k8 : (a == 244) with
  | true => simp only [cond_true]; exact MWp.out (Env.bare_ok envOk) 600 _ (alt8 a) (by simp [trusted, k0, k1, k2, k3, k4, k5, k6, k7, k8]) (fun _ => rfl)
  | false =>
  simp only [cond_false]
  cases k9 : (a == 144) with
  | true => simp only [cond_true]; exact MWp.out (Env.bare_ok envOk) 600 _ (alt9 a) (by simp [trusted, k0, k1, k2, k3, k4, k5, k6, k7, k8, k9]) (fun _ => rfl)
  | false =>
  simp only [cond_false]
  exact MWp.out (Env.bare_ok envOk) 600 _ (alt10 a) (by simp [trusted, k0, k1, k2, k3, k4, k5, k6, k7, k8, k9]) (fun _ => rfl)
def aloneR (l : List Value) : Option (Bool × Value) := match l with
  | [.int .u8 a] => some (true, alT a)
  | _ => none
theorem alone_ans : Answers Try.prog 22 aloneR := by
  intro args g v h hg
  unfold aloneR at h
  split at h
  · rename_i a
    simp only [Option.some.injEq, Prod.mk.injEq] at h
    obtain ⟨rfl, rfl⟩ := h
    exact ⟨by simp [plain, plainL], alT_plain a, fun w => calls_plain (by simp [VRL, VR]) (fun ρ v' h => plain_eq (alT_plain a) h) (al_call a) w⟩
  · cases h
end Go.Proofs.Ytkemllgkkngcjaa
namespace Go.Proofs.Ytkemllgkkngcjaa
open Go Go.Ly Go.RowKit
def t3V (t : T3) : Value := .tuple ⟨[.int .i64 t.op, .int .i64 t.d, .int .i64 t.s]⟩
theorem alT_eq (a : Int) : alT a = t3V (gsAlone a) := by
  unfold alT gsAlone
  cases (a == 160) with
  | true => rfl
  | false =>
  simp only [cond_false]
  cases (a == 162) with
  | true => rfl
  | false =>
  simp only [cond_false]
  cases (a == 228) with
  | true => rfl
  | false =>
  simp only [cond_false]
  cases (a == 230) with
  | true => rfl
  | false =>
  simp only [cond_false]
  cases (a == 233) with
  | true => rfl
  | false =>
  simp only [cond_false]
  cases (a == 235) with
  | true => rfl
  | false =>
  simp only [cond_false]
  cases (a == 232) with
  | true => rfl
  | false =>
  simp only [cond_false]
  cases (a == 195) with
  | true => rfl
  | false =>
  simp only [cond_false]
  cases (a == 159) with
  | true => rfl
  | false =>
  simp only [cond_false]
  cases (a == 158) with
  | true => rfl
  | false =>
  simp only [cond_false]
  cases (a == 39) with
  | true => rfl
  | false =>
  simp only [cond_false]
  cases (a == 245) with
  | true => rfl
  | false =>
  simp only [cond_false]
  cases (a == 249) with
  | true => rfl
  | false =>
  simp only [cond_false]
  cases (a == 248) with
  | true => rfl
  | false =>
  simp only [cond_false]
  cases (a == 251) with
  | true => rfl
  | false =>
  simp only [cond_false]
  cases (a == 250) with
  | true => rfl
  | false =>
  simp only [cond_false]
  cases (a == 244) with
  | true => rfl
  | false =>
  simp only [cond_false]
  cases (a == 144) with
  | true => rfl
  | false =>
  simp only [cond_false]
  rfl
def alone2 (l : List Value) : Option (Bool × Value) := match l with
  | [.int .u8 a] => some (true, t3V (gsAlone a))
  | _ => none
theorem alone2_ans : Answers Try.prog 22 alone2 := by
  intro args g v h hg
  refine alone_ans args g v ?_ hg
  unfold alone2 at h
  unfold aloneR
  split at h
  · show some (true, alT _) = _
    rw [alT_eq]; exact h
  · cases h
def ctxU : Ctx := ctxW.with 22 alone2
theorem ctxU_ok : ctxU.Ok Try.prog := ctxW_ok.with alone2_ans
end Go.Proofs.Ytkemllgkkngcjaa
end
