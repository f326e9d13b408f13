/- Part 7 of the texts that the law needs, laid together. By program (pack.py). -/
import Derived.Test.YtnknopebjdgdjaaPne
import Derived.Test.YtnknopebjdgdjaaPnf
import Derived.KernelRfl
set_option linter.unusedVariables false
set_option linter.unusedSimpArgs false
noncomputable section
namespace Go.Proofs.Ytnknopebjdgdjaa
open Go Go.Ly Go.RowKit
set_option maxRecDepth 100000 in
theorem n5_NRN (s : Sv) (n k l : Nat) (f fa fb fc fd : Nat → Int) (y : Int) : haltH [1, 8, 11, 12, 85] [20, 17, 19, 42, 39, 41, 48, 45, 46, 47] 49 rd8 (Ly.run ctxN 9000 [(5, true), (12, false), (1, true), (4, true), (3, true), (25, true), (1, true), (4, true), (3, true), (25, true)] (Ly.start Try.f8 [svV s nilS (sls 1 (k + 1)) nilS, .int .i64 y] (mkH [some (ints .u8 f n), some (bytes2 fa fb (k + 1)), some (bytes2 fc fd l)]))) =
  (true, [tLc k, tY y, tR1 k, tR2 k, tOkB (GB fa fb k (lN s 244) 1) (0 + (k + 1)) 1, tOkB (GB fa fb k (lN s 244) 1) (0 + (k + 1)) 1, tR1 k, tR2 k, tOkB (GB fa fb k (lN s 15) 1) (0 + (k + 1)) 1, tOkB (GB fa fb k (lN s 15) 1) (0 + (k + 1)) 1], true, (Try.f8, k8, some 34, 3), v8 y 20 42 48, (true, true, true), [some (.cells (cellsPb 17 19 (mOf s) (.slice none 0 0) (.slice none 0 0)) 54), some (memL (gs (gm (GB fa fb k (lN s 244) 1) (0 + (k + 1) + 1)))), some (memL (fun _ => 0)), some (.cells (cellsPb 39 41 (mOf s) (.slice none 0 0) (.slice none 0 0)) 54), some (memL (gs (gm (GB fa fb k (lN s 15) 1) (0 + (k + 1) + 1)))), some (memL (fun _ => 0)), some (.cells (refC s 48 nilS) 44), some (refR s), some (memL (gm (GB fa fb k (lN s 15) 1) (0 + (k + 1) + 1))), some (memL (fun _ => 0))]) := by kernel_rfl
end Go.Proofs.Ytnknopebjdgdjaa
namespace Go.Proofs.Ytnknopebjdgdjaa
open Go Go.Ly Go.RowKit
set_option maxRecDepth 200000 in
theorem n8_NR (s : Sv) (n : Nat) (f F D : Nat → Int) (y : Int) (H1 : Heap) : (Ly.run ctxZ 3000 [(0, false), (25, true), (10, true), (10, true), (40, true), (22, false), (3, true), (22, false), (3, true), (22, false), (3, true), (22, false), (3, true), (27, false), (3, true), (27, false), (3, true), (27, false), (3, true), (27, false), (3, true), (11, true)] (behind (s8c y 13 42 48 H1) (two0 12) (vH [42, 39, 41, 48, 45, 46, 47] [some (.cells (cellsPb 39 41 (mOf s) (.slice none 0 0) (.slice none 0 0)) 54), some (memL F), some (memL D), some (.cells (refC s 48 nilS) 44), some (refR s), some (memL F), some (memL D)] 1000))).out? =
  some ((decide (y ≤ 0), false) :: tFl s :: tNe s.ip :: tIe s.ie :: tRg s F D, .bool true) := by kernel_rfl
end Go.Proofs.Ytnknopebjdgdjaa
namespace Go.Proofs.Ytnknopebjdgdjaa
open Go Go.Ly Go.RowKit
theorem x8_NRN0 (s : Sv) (n k l : Nat) (f fa fb fc fd : Nat → Int) (y : Int) : (Ly.run ctxN 9000 [(5, false)] (Ly.start Try.f8 [svV s nilS (sls 1 (k + 1)) nilS, .int .i64 y] (mkH [some (ints .u8 f n), some (bytes2 fa fb (k + 1)), some (bytes2 fc fd l)]))).out? = some ([((tLc k).1, false)], .bool true) := by kernel_rfl
theorem x8_NRN1 (s : Sv) (n k l : Nat) (f fa fb fc fd : Nat → Int) (y : Int) : (Ly.run ctxN 9000 [(5, true), (12, true)] (Ly.start Try.f8 [svV s nilS (sls 1 (k + 1)) nilS, .int .i64 y] (mkH [some (ints .u8 f n), some (bytes2 fa fb (k + 1)), some (bytes2 fc fd l)]))).out? = some ([tLc k, ((tY y).1, true)], .bool true) := by kernel_rfl
theorem w8_NRN (s : Sv) (n k l : Nat) (f fa fb fc fd : Nat → Int) (y : Int) (hs : s.Ok) (hb : ∀ e, e < k + 1 → B16 (fa e) ∧ B8 (fb e)) : LCalls Try.prog 8 [svV s nilS (sls 1 (k + 1)) nilS, .int .i64 y] (mkH [some (ints .u8 f n), some (bytes2 fa fb (k + 1)), some (bytes2 fc fd l)]) (fun u _ => u = .bool true) := by
  by_cases h : k + 1 ≤ 600
  rotate_left
  · exact LCalls_of ctxN_ok gN8 (by kernel_rfl) (MWp.out ctxN_ok 9000 _ (x8_NRN0 s n k l f fa fb fc fd y) (tr_cons (tLc_no h) trivial) (fun _ => rfl))
  have hLc := h
  clear h
  by_cases h : ¬ 1000 < y
  rotate_left
  · exact LCalls_of ctxN_ok gN8 (by kernel_rfl) (MWp.out ctxN_ok 9000 _ (x8_NRN1 s n k l f fa fb fc fd y) (tr_cons (tLc_ok hLc) (tr_cons (tY_no h) trivial)) (fun _ => rfl))
  have hY := h
  clear h
  refine LCalls_of ctxN_ok gN8 (by kernel_rfl) (MWp.haltH ctxN_ok _ _ _ _ (n5_NRN s n k l f fa fb fc fd y) (tr_cons (tLc_ok hLc) (tr_cons (tY_ok hY) (tr_cons (tR1_ok (by omega)) (tr_cons (tR2_ok (by omega)) (tr_cons (tOkB_ok (gokNB b244 hb) (by omega)) (tr_cons (tOkB_ok (gokNB b244 hb) (by omega)) (tr_cons (tR1_ok (by omega)) (tr_cons (tR2_ok (by omega)) (tr_cons (tOkB_ok (gokNB b15 hb) (by omega)) (tr_cons (tOkB_ok (gokNB b15 hb) (by omega)) trivial)))))))))) ?_)
  intro H hnx hl hc hos
  simp only [List.map_cons, List.map_nil, List.cons.injEq, and_true] at hos
  obtain ⟨h1, h2, h3, h4, h5, h6, h7, h8, h9, h10⟩ := hos
  rw [gs_eq] at h2 h5
  refine tail8 (by omega) hl hc ⟨h1, h2, h3, rfl, rfl, by decide⟩ ⟨h4, h5, h6, rfl, rfl, by decide⟩ (by decide) (byNB s 244 fa fb k) (byNB s 15 fa fb k) fun hy H1 H' hl' hn' hP hold => ?_
  have hHb : (behind (s8c y 13 42 48 H1) (two0 12) H').H = H' := behind_H (E := env) (by rw [call8c]; rfl)
  refine MWp.few (I := [42, 39, 41, 48, 45, 46, 47]) (os := [(.cells (cellsPb 39 41 (mOf s) (.slice none 0 0) (.slice none 0 0)) 54), (memL (gm (GB fa fb k (lN s 15) 1) (0 + (k + 1) + 1))), (memL (fun _ => 0)), (.cells (refC s 48 nilS) 44), (refR s), (memL (gm (GB fa fb k (lN s 15) 1) (0 + (k + 1) + 1))), (memL (fun _ => 0))]) (n := 1000) (by rw [hHb]; exact hl') (by rw [hHb]; omega) (by unfold big; omega) rfl (by decide) (by decide) (few_of ?_) ?_
  · rw [hHb]
    simp only [List.map_cons, List.map_nil, List.cons.injEq, and_true]
    exact ⟨hP.cells, hP.code, hP.data, (hold 48 (by omega) (by decide)).trans h7, (hold 45 (by omega) (by decide)).trans h8, (hold 46 (by omega) (by decide)).trans h9, (hold 47 (by omega) (by decide)).trans h10⟩
  · rw [bh8]
    exact MWp.out ctxZ_ok 3000 _ (n8_NR s n f (gm (GB fa fb k (lN s 15) 1) (0 + (k + 1) + 1)) (fun _ => 0) y H1) (tails_ok hs hy _ _) (fun _ => rfl)
end Go.Proofs.Ytnknopebjdgdjaa
namespace Go.Proofs.Ytnknopebjdgdjaa
open Go Go.Ly Go.RowKit
set_option maxRecDepth 100000 in
theorem n5_NRS (s : Sv) (n k l : Nat) (f fa fb fc fd : Nat → Int) (y : Int) : haltH [1, 8, 11, 12, 85] [20, 17, 19, 42, 39, 41, 48, 45, 46, 47] 49 rd8 (Ly.run ctxN 9000 [(5, true), (4, true), (7, false), (1, true), (4, true), (3, true), (0, true), (24, true), (0, true), (0, true), (4, true), (3, true), (0, true), (24, true), (0, true)] (Ly.start Try.f8 [svV s nilS (sls 1 (k + 1)) (sls 2 l), .int .i64 y] (mkH [some (ints .u8 f n), some (bytes2 fa fb (k + 1)), some (bytes2 fc fd l)]))) =
  (true, [tLc k, tLd l, tY y, tR1 k, tR2 k, tOkB (GB fa fb k (lN s 244) 1) (0 + (k + 1)) 1, tOd fc fd l, tOkB (GB fa fb k (lN s 244) 1) (0 + (k + 1)) 1, tOd fc fd l, tR1 k, tR2 k, tOkB (GB fa fb k (lN s 15) 1) (0 + (k + 1)) 1, tOd fc fd l, tOkB (GB fa fb k (lN s 15) 1) (0 + (k + 1)) 1, tOd fc fd l], true, (Try.f8, k8, some 34, 3), v8 y 20 42 48, (true, true, true), [some (.cells (cellsPb 17 19 (mOf s) (.slice none 0 0) (.slice none 0 0)) 54), some (memL (gs (gm (GB fa fb k (lN s 244) 1) (0 + (k + 1) + 1)))), some (memL (gs (gm (GD fc fd) l))), some (.cells (cellsPb 39 41 (mOf s) (.slice none 0 0) (.slice none 0 0)) 54), some (memL (gs (gm (GB fa fb k (lN s 15) 1) (0 + (k + 1) + 1)))), some (memL (gs (gm (GD fc fd) l))), some (.cells (refC s 48 nilS) 44), some (refR s), some (memL (gm (GB fa fb k (lN s 15) 1) (0 + (k + 1) + 1))), some (memL (gm (GD fc fd) l))]) := by kernel_rfl
end Go.Proofs.Ytnknopebjdgdjaa
namespace Go.Proofs.Ytnknopebjdgdjaa
open Go Go.Ly Go.RowKit
theorem x8_NRS0 (s : Sv) (n k l : Nat) (f fa fb fc fd : Nat → Int) (y : Int) : (Ly.run ctxN 9000 [(5, false)] (Ly.start Try.f8 [svV s nilS (sls 1 (k + 1)) (sls 2 l), .int .i64 y] (mkH [some (ints .u8 f n), some (bytes2 fa fb (k + 1)), some (bytes2 fc fd l)]))).out? = some ([((tLc k).1, false)], .bool true) := by kernel_rfl
theorem x8_NRS1 (s : Sv) (n k l : Nat) (f fa fb fc fd : Nat → Int) (y : Int) : (Ly.run ctxN 9000 [(5, true), (4, false)] (Ly.start Try.f8 [svV s nilS (sls 1 (k + 1)) (sls 2 l), .int .i64 y] (mkH [some (ints .u8 f n), some (bytes2 fa fb (k + 1)), some (bytes2 fc fd l)]))).out? = some ([tLc k, ((tLd l).1, false)], .bool true) := by kernel_rfl
theorem x8_NRS2 (s : Sv) (n k l : Nat) (f fa fb fc fd : Nat → Int) (y : Int) : (Ly.run ctxN 9000 [(5, true), (4, true), (7, true)] (Ly.start Try.f8 [svV s nilS (sls 1 (k + 1)) (sls 2 l), .int .i64 y] (mkH [some (ints .u8 f n), some (bytes2 fa fb (k + 1)), some (bytes2 fc fd l)]))).out? = some ([tLc k, tLd l, ((tY y).1, true)], .bool true) := by kernel_rfl
theorem w8_NRS (s : Sv) (n k l : Nat) (f fa fb fc fd : Nat → Int) (y : Int) (hs : s.Ok) (hb : ∀ e, e < k + 1 → B16 (fa e) ∧ B8 (fb e)) (hd : ∀ e, e < l → B16 (fc e) ∧ B8 (fd e)) : LCalls Try.prog 8 [svV s nilS (sls 1 (k + 1)) (sls 2 l), .int .i64 y] (mkH [some (ints .u8 f n), some (bytes2 fa fb (k + 1)), some (bytes2 fc fd l)]) (fun u _ => u = .bool true) := by
  by_cases h : k + 1 ≤ 600
  rotate_left
  · exact LCalls_of ctxN_ok gN8 (by kernel_rfl) (MWp.out ctxN_ok 9000 _ (x8_NRS0 s n k l f fa fb fc fd y) (tr_cons (tLc_no h) trivial) (fun _ => rfl))
  have hLc := h
  clear h
  by_cases h : l ≤ 300
  rotate_left
  · exact LCalls_of ctxN_ok gN8 (by kernel_rfl) (MWp.out ctxN_ok 9000 _ (x8_NRS1 s n k l f fa fb fc fd y) (tr_cons (tLc_ok hLc) (tr_cons (tLd_no h) trivial)) (fun _ => rfl))
  have hLd := h
  clear h
  by_cases h : ¬ 1000 < y
  rotate_left
  · exact LCalls_of ctxN_ok gN8 (by kernel_rfl) (MWp.out ctxN_ok 9000 _ (x8_NRS2 s n k l f fa fb fc fd y) (tr_cons (tLc_ok hLc) (tr_cons (tLd_ok hLd) (tr_cons (tY_no h) trivial))) (fun _ => rfl))
  have hY := h
  clear h
  refine LCalls_of ctxN_ok gN8 (by kernel_rfl) (MWp.haltH ctxN_ok _ _ _ _ (n5_NRS s n k l f fa fb fc fd y) (tr_cons (tLc_ok hLc) (tr_cons (tLd_ok hLd) (tr_cons (tY_ok hY) (tr_cons (tR1_ok (by omega)) (tr_cons (tR2_ok (by omega)) (tr_cons (tOkB_ok (gokNB b244 hb) (by omega)) (tr_cons (tOd_ok hd (by omega)) (tr_cons (tOkB_ok (gokNB b244 hb) (by omega)) (tr_cons (tOd_ok hd (by omega)) (tr_cons (tR1_ok (by omega)) (tr_cons (tR2_ok (by omega)) (tr_cons (tOkB_ok (gokNB b15 hb) (by omega)) (tr_cons (tOd_ok hd (by omega)) (tr_cons (tOkB_ok (gokNB b15 hb) (by omega)) (tr_cons (tOd_ok hd (by omega)) trivial))))))))))))))) ?_)
  intro H hnx hl hc hos
  simp only [List.map_cons, List.map_nil, List.cons.injEq, and_true] at hos
  obtain ⟨h1, h2, h3, h4, h5, h6, h7, h8, h9, h10⟩ := hos
  rw [gs_eq] at h2 h5
  rw [gs_eq] at h3 h6
  refine tail8 (by omega) hl hc ⟨h1, h2, h3, rfl, rfl, by decide⟩ ⟨h4, h5, h6, rfl, rfl, by decide⟩ (by decide) (byNB s 244 fa fb k) (byNB s 15 fa fb k) fun hy H1 H' hl' hn' hP hold => ?_
  have hHb : (behind (s8c y 13 42 48 H1) (two0 12) H').H = H' := behind_H (E := env) (by rw [call8c]; rfl)
  refine MWp.few (I := [42, 39, 41, 48, 45, 46, 47]) (os := [(.cells (cellsPb 39 41 (mOf s) (.slice none 0 0) (.slice none 0 0)) 54), (memL (gm (GB fa fb k (lN s 15) 1) (0 + (k + 1) + 1))), (memL (gm (GD fc fd) l)), (.cells (refC s 48 nilS) 44), (refR s), (memL (gm (GB fa fb k (lN s 15) 1) (0 + (k + 1) + 1))), (memL (gm (GD fc fd) l))]) (n := 1000) (by rw [hHb]; exact hl') (by rw [hHb]; omega) (by unfold big; omega) rfl (by decide) (by decide) (few_of ?_) ?_
  · rw [hHb]
    simp only [List.map_cons, List.map_nil, List.cons.injEq, and_true]
    exact ⟨hP.cells, hP.code, hP.data, (hold 48 (by omega) (by decide)).trans h7, (hold 45 (by omega) (by decide)).trans h8, (hold 46 (by omega) (by decide)).trans h9, (hold 47 (by omega) (by decide)).trans h10⟩
  · rw [bh8]
    exact MWp.out ctxZ_ok 3000 _ (n8_NR s n f (gm (GB fa fb k (lN s 15) 1) (0 + (k + 1) + 1)) (gm (GD fc fd) l) y H1) (tails_ok hs hy _ _) (fun _ => rfl)
end Go.Proofs.Ytnknopebjdgdjaa
namespace Go.Proofs.Ytnknopebjdgdjaa
open Go Go.Ly Go.RowKit
set_option maxRecDepth 100000 in
theorem n5_ENN (s : Sv) (n k l : Nat) (f fa fb fc fd : Nat → Int) (y : Int) : haltH [1, 8, 11, 12, 85] [20, 17, 19, 42, 39, 41, 48, 45, 46, 47, 37, 0] 49 rd8 (Ly.run ctxN 9000 [(18, false), (11, true), (28, true), (11, true), (28, true)] (Ly.start Try.f8 [svV s (sl 0 0) nilS nilS, .int .i64 y] (mkH [some (ints .u8 f 0), some (bytes2 fa fb k), some (bytes2 fc fd l)]))) =
  (true, [tY y, tOk (GA (lN s 244) 1) 1, tOk (GA (lN s 244) 1) 1, tOk (GA (lN s 15) 1) 1, tOk (GA (lN s 15) 1) 1], true, (Try.f8, k8, some 34, 3), v8 y 20 42 48, (true, true, true), [some (.cells (cellsPb 17 19 (mOf s) (.slice (some ⟨15, 0, none⟩) 0 0) (.slice none 0 0)) 54), some (memL (gs (gm (GA (lN s 244) 1) 1))), some (memL (fun _ => 0)), some (.cells (cellsPb 39 41 (mOf s) (.slice (some ⟨37, 0, none⟩) 0 0) (.slice none 0 0)) 54), some (memL (gs (gm (GA (lN s 15) 1) 1))), some (memL (fun _ => 0)), some (.cells (refC s 48 (sl 0 0)) 44), some (refR s), some (memL (gm (GA (lN s 15) 1) 1)), some (memL (fun _ => 0)), some (.cells [] 5), some (ints .u8 f 0)]) := by kernel_rfl
end Go.Proofs.Ytnknopebjdgdjaa
namespace Go.Proofs.Ytnknopebjdgdjaa
open Go Go.Ly Go.RowKit
set_option maxRecDepth 200000 in
theorem n8_EN (s : Sv) (n : Nat) (f F D : Nat → Int) (y : Int) (H1 : Heap) : (Ly.run ctxZ 3000 [(0, false), (25, true), (10, true), (10, true), (40, true), (22, false), (3, true), (22, false), (3, true), (22, false), (3, true), (22, false), (3, true), (27, false), (3, true), (27, false), (3, true), (27, false), (3, true), (27, false), (3, true), (11, true)] (behind (s8c y 13 42 48 H1) (two0 12) (vH [42, 39, 41, 48, 45, 46, 47, 37, 0] [some (.cells (cellsPb 39 41 (mOf s) (.slice (some ⟨37, 0, none⟩) 0 0) (.slice none 0 0)) 54), some (memL F), some (memL D), some (.cells (refC s 48 (sl 0 0)) 44), some (refR s), some (memL F), some (memL D), some (.cells [] 5), some (ints .u8 f 0)] 1000))).out? =
  some ((decide (y ≤ 0), false) :: tFl s :: tNe s.ip :: tIe s.ie :: tRg s F D, .bool true) := by kernel_rfl
end Go.Proofs.Ytnknopebjdgdjaa
namespace Go.Proofs.Ytnknopebjdgdjaa
open Go Go.Ly Go.RowKit
theorem x8_ENN0 (s : Sv) (n k l : Nat) (f fa fb fc fd : Nat → Int) (y : Int) : (Ly.run ctxN 9000 [(18, true)] (Ly.start Try.f8 [svV s (sl 0 0) nilS nilS, .int .i64 y] (mkH [some (ints .u8 f 0), some (bytes2 fa fb k), some (bytes2 fc fd l)]))).out? = some ([((tY y).1, true)], .bool true) := by kernel_rfl
theorem w8_ENN (s : Sv) (n k l : Nat) (f fa fb fc fd : Nat → Int) (y : Int) (hs : s.Ok) : LCalls Try.prog 8 [svV s (sl 0 0) nilS nilS, .int .i64 y] (mkH [some (ints .u8 f 0), some (bytes2 fa fb k), some (bytes2 fc fd l)]) (fun u _ => u = .bool true) := by
  by_cases h : ¬ 1000 < y
  rotate_left
  · exact LCalls_of ctxN_ok gN8 (by kernel_rfl) (MWp.out ctxN_ok 9000 _ (x8_ENN0 s n k l f fa fb fc fd y) (tr_cons (tY_no h) trivial) (fun _ => rfl))
  have hY := h
  clear h
  refine LCalls_of ctxN_ok gN8 (by kernel_rfl) (MWp.haltH ctxN_ok _ _ _ _ (n5_ENN s n k l f fa fb fc fd y) (tr_cons (tY_ok hY) (tr_cons (tOk_ok (gokN b244) (by omega)) (tr_cons (tOk_ok (gokN b244) (by omega)) (tr_cons (tOk_ok (gokN b15) (by omega)) (tr_cons (tOk_ok (gokN b15) (by omega)) trivial))))) ?_)
  intro H hnx hl hc hos
  simp only [List.map_cons, List.map_nil, List.cons.injEq, and_true] at hos
  obtain ⟨h1, h2, h3, h4, h5, h6, h7, h8, h9, h10, h11, h12⟩ := hos
  rw [gs_eq] at h2 h5
  refine tail8 (by omega) hl hc ⟨h1, h2, h3, rfl, rfl, by decide⟩ ⟨h4, h5, h6, rfl, rfl, by decide⟩ (by decide) (byN s 244) (byN s 15) fun hy H1 H' hl' hn' hP hold => ?_
  have hHb : (behind (s8c y 13 42 48 H1) (two0 12) H').H = H' := behind_H (E := env) (by rw [call8c]; rfl)
  refine MWp.few (I := [42, 39, 41, 48, 45, 46, 47, 37, 0]) (os := [(.cells (cellsPb 39 41 (mOf s) (.slice (some ⟨37, 0, none⟩) 0 0) (.slice none 0 0)) 54), (memL (gm (GA (lN s 15) 1) 1)), (memL (fun _ => 0)), (.cells (refC s 48 (sl 0 0)) 44), (refR s), (memL (gm (GA (lN s 15) 1) 1)), (memL (fun _ => 0)), (.cells [] 5), (ints .u8 f 0)]) (n := 1000) (by rw [hHb]; exact hl') (by rw [hHb]; omega) (by unfold big; omega) rfl (by decide) (by decide) (few_of ?_) ?_
  · rw [hHb]
    simp only [List.map_cons, List.map_nil, List.cons.injEq, and_true]
    exact ⟨hP.cells, hP.code, hP.data, (hold 48 (by omega) (by decide)).trans h7, (hold 45 (by omega) (by decide)).trans h8, (hold 46 (by omega) (by decide)).trans h9, (hold 47 (by omega) (by decide)).trans h10, (hold 37 (by omega) (by decide)).trans h11, (hold 0 (by omega) (by decide)).trans h12⟩
  · rw [bh8]
    exact MWp.out ctxZ_ok 3000 _ (n8_EN s 0 f (gm (GA (lN s 15) 1) 1) (fun _ => 0) y H1) (tails_ok hs hy _ _) (fun _ => rfl)
end Go.Proofs.Ytnknopebjdgdjaa
namespace Go.Proofs.Ytnknopebjdgdjaa
open Go Go.Ly Go.RowKit
set_option maxRecDepth 100000 in
theorem n5_ENS (s : Sv) (n k l : Nat) (f fa fb fc fd : Nat → Int) (y : Int) : haltH [1, 8, 11, 12, 85] [20, 17, 19, 42, 39, 41, 48, 45, 46, 47, 37, 0] 49 rd8 (Ly.run ctxN 9000 [(10, true), (7, false), (11, true), (0, true), (27, true), (0, true), (10, true), (0, true), (27, true), (0, true)] (Ly.start Try.f8 [svV s (sl 0 0) nilS (sls 2 l), .int .i64 y] (mkH [some (ints .u8 f 0), some (bytes2 fa fb k), some (bytes2 fc fd l)]))) =
  (true, [tLd l, tY y, tOk (GA (lN s 244) 1) 1, tOd fc fd l, tOk (GA (lN s 244) 1) 1, tOd fc fd l, tOk (GA (lN s 15) 1) 1, tOd fc fd l, tOk (GA (lN s 15) 1) 1, tOd fc fd l], true, (Try.f8, k8, some 34, 3), v8 y 20 42 48, (true, true, true), [some (.cells (cellsPb 17 19 (mOf s) (.slice (some ⟨15, 0, none⟩) 0 0) (.slice none 0 0)) 54), some (memL (gs (gm (GA (lN s 244) 1) 1))), some (memL (gs (gm (GD fc fd) l))), some (.cells (cellsPb 39 41 (mOf s) (.slice (some ⟨37, 0, none⟩) 0 0) (.slice none 0 0)) 54), some (memL (gs (gm (GA (lN s 15) 1) 1))), some (memL (gs (gm (GD fc fd) l))), some (.cells (refC s 48 (sl 0 0)) 44), some (refR s), some (memL (gm (GA (lN s 15) 1) 1)), some (memL (gm (GD fc fd) l)), some (.cells [] 5), some (ints .u8 f 0)]) := by kernel_rfl
end Go.Proofs.Ytnknopebjdgdjaa
namespace Go.Proofs.Ytnknopebjdgdjaa
open Go Go.Ly Go.RowKit
theorem x8_ENS0 (s : Sv) (n k l : Nat) (f fa fb fc fd : Nat → Int) (y : Int) : (Ly.run ctxN 9000 [(10, false)] (Ly.start Try.f8 [svV s (sl 0 0) nilS (sls 2 l), .int .i64 y] (mkH [some (ints .u8 f 0), some (bytes2 fa fb k), some (bytes2 fc fd l)]))).out? = some ([((tLd l).1, false)], .bool true) := by kernel_rfl
theorem x8_ENS1 (s : Sv) (n k l : Nat) (f fa fb fc fd : Nat → Int) (y : Int) : (Ly.run ctxN 9000 [(10, true), (7, true)] (Ly.start Try.f8 [svV s (sl 0 0) nilS (sls 2 l), .int .i64 y] (mkH [some (ints .u8 f 0), some (bytes2 fa fb k), some (bytes2 fc fd l)]))).out? = some ([tLd l, ((tY y).1, true)], .bool true) := by kernel_rfl
theorem w8_ENS (s : Sv) (n k l : Nat) (f fa fb fc fd : Nat → Int) (y : Int) (hs : s.Ok) (hd : ∀ e, e < l → B16 (fc e) ∧ B8 (fd e)) : LCalls Try.prog 8 [svV s (sl 0 0) nilS (sls 2 l), .int .i64 y] (mkH [some (ints .u8 f 0), some (bytes2 fa fb k), some (bytes2 fc fd l)]) (fun u _ => u = .bool true) := by
  by_cases h : l ≤ 300
  rotate_left
  · exact LCalls_of ctxN_ok gN8 (by kernel_rfl) (MWp.out ctxN_ok 9000 _ (x8_ENS0 s n k l f fa fb fc fd y) (tr_cons (tLd_no h) trivial) (fun _ => rfl))
  have hLd := h
  clear h
  by_cases h : ¬ 1000 < y
  rotate_left
  · exact LCalls_of ctxN_ok gN8 (by kernel_rfl) (MWp.out ctxN_ok 9000 _ (x8_ENS1 s n k l f fa fb fc fd y) (tr_cons (tLd_ok hLd) (tr_cons (tY_no h) trivial)) (fun _ => rfl))
  have hY := h
  clear h
  refine LCalls_of ctxN_ok gN8 (by kernel_rfl) (MWp.haltH ctxN_ok _ _ _ _ (n5_ENS s n k l f fa fb fc fd y) (tr_cons (tLd_ok hLd) (tr_cons (tY_ok hY) (tr_cons (tOk_ok (gokN b244) (by omega)) (tr_cons (tOd_ok hd (by omega)) (tr_cons (tOk_ok (gokN b244) (by omega)) (tr_cons (tOd_ok hd (by omega)) (tr_cons (tOk_ok (gokN b15) (by omega)) (tr_cons (tOd_ok hd (by omega)) (tr_cons (tOk_ok (gokN b15) (by omega)) (tr_cons (tOd_ok hd (by omega)) trivial)))))))))) ?_)
  intro H hnx hl hc hos
  simp only [List.map_cons, List.map_nil, List.cons.injEq, and_true] at hos
  obtain ⟨h1, h2, h3, h4, h5, h6, h7, h8, h9, h10, h11, h12⟩ := hos
  rw [gs_eq] at h2 h5
  rw [gs_eq] at h3 h6
  refine tail8 (by omega) hl hc ⟨h1, h2, h3, rfl, rfl, by decide⟩ ⟨h4, h5, h6, rfl, rfl, by decide⟩ (by decide) (byN s 244) (byN s 15) fun hy H1 H' hl' hn' hP hold => ?_
  have hHb : (behind (s8c y 13 42 48 H1) (two0 12) H').H = H' := behind_H (E := env) (by rw [call8c]; rfl)
  refine MWp.few (I := [42, 39, 41, 48, 45, 46, 47, 37, 0]) (os := [(.cells (cellsPb 39 41 (mOf s) (.slice (some ⟨37, 0, none⟩) 0 0) (.slice none 0 0)) 54), (memL (gm (GA (lN s 15) 1) 1)), (memL (gm (GD fc fd) l)), (.cells (refC s 48 (sl 0 0)) 44), (refR s), (memL (gm (GA (lN s 15) 1) 1)), (memL (gm (GD fc fd) l)), (.cells [] 5), (ints .u8 f 0)]) (n := 1000) (by rw [hHb]; exact hl') (by rw [hHb]; omega) (by unfold big; omega) rfl (by decide) (by decide) (few_of ?_) ?_
  · rw [hHb]
    simp only [List.map_cons, List.map_nil, List.cons.injEq, and_true]
    exact ⟨hP.cells, hP.code, hP.data, (hold 48 (by omega) (by decide)).trans h7, (hold 45 (by omega) (by decide)).trans h8, (hold 46 (by omega) (by decide)).trans h9, (hold 47 (by omega) (by decide)).trans h10, (hold 37 (by omega) (by decide)).trans h11, (hold 0 (by omega) (by decide)).trans h12⟩
  · rw [bh8]
    exact MWp.out ctxZ_ok 3000 _ (n8_EN s 0 f (gm (GA (lN s 15) 1) 1) (gm (GD fc fd) l) y H1) (tails_ok hs hy _ _) (fun _ => rfl)
end Go.Proofs.Ytnknopebjdgdjaa
namespace Go.Proofs.Ytnknopebjdgdjaa
open Go Go.Ly Go.RowKit
set_option maxRecDepth 100000 in
theorem n5_EEN (s : Sv) (n k l : Nat) (f fa fb fc fd : Nat → Int) (y : Int) : haltH [1, 8, 11, 12, 85] [20, 17, 19, 42, 39, 41, 48, 45, 46, 47, 37, 0] 49 rd8 (Ly.run ctxN 9000 [(18, false), (11, true), (28, true), (11, true), (28, true)] (Ly.start Try.f8 [svV s (sl 0 0) (sls 1 0) nilS, .int .i64 y] (mkH [some (ints .u8 f 0), some (bytes2 fa fb 0), some (bytes2 fc fd l)]))) =
  (true, [tY y, tOk (GA (lN s 244) 1) 1, tOk (GA (lN s 244) 1) 1, tOk (GA (lN s 15) 1) 1, tOk (GA (lN s 15) 1) 1], true, (Try.f8, k8, some 34, 3), v8 y 20 42 48, (true, true, true), [some (.cells (cellsPb 17 19 (mOf s) (.slice (some ⟨15, 0, none⟩) 0 0) (.slice none 0 0)) 54), some (memL (gs (gm (GA (lN s 244) 1) 1))), some (memL (fun _ => 0)), some (.cells (cellsPb 39 41 (mOf s) (.slice (some ⟨37, 0, none⟩) 0 0) (.slice none 0 0)) 54), some (memL (gs (gm (GA (lN s 15) 1) 1))), some (memL (fun _ => 0)), some (.cells (refC s 48 (sl 0 0)) 44), some (refR s), some (memL (gm (GA (lN s 15) 1) 1)), some (memL (fun _ => 0)), some (.cells [] 5), some (ints .u8 f 0)]) := by kernel_rfl
end Go.Proofs.Ytnknopebjdgdjaa
namespace Go.Proofs.Ytnknopebjdgdjaa
open Go Go.Ly Go.RowKit
theorem x8_EEN0 (s : Sv) (n k l : Nat) (f fa fb fc fd : Nat → Int) (y : Int) : (Ly.run ctxN 9000 [(18, true)] (Ly.start Try.f8 [svV s (sl 0 0) (sls 1 0) nilS, .int .i64 y] (mkH [some (ints .u8 f 0), some (bytes2 fa fb 0), some (bytes2 fc fd l)]))).out? = some ([((tY y).1, true)], .bool true) := by kernel_rfl
theorem w8_EEN (s : Sv) (n k l : Nat) (f fa fb fc fd : Nat → Int) (y : Int) (hs : s.Ok) : LCalls Try.prog 8 [svV s (sl 0 0) (sls 1 0) nilS, .int .i64 y] (mkH [some (ints .u8 f 0), some (bytes2 fa fb 0), some (bytes2 fc fd l)]) (fun u _ => u = .bool true) := by
  by_cases h : ¬ 1000 < y
  rotate_left
  · exact LCalls_of ctxN_ok gN8 (by kernel_rfl) (MWp.out ctxN_ok 9000 _ (x8_EEN0 s n k l f fa fb fc fd y) (tr_cons (tY_no h) trivial) (fun _ => rfl))
  have hY := h
  clear h
  refine LCalls_of ctxN_ok gN8 (by kernel_rfl) (MWp.haltH ctxN_ok _ _ _ _ (n5_EEN s n k l f fa fb fc fd y) (tr_cons (tY_ok hY) (tr_cons (tOk_ok (gokN b244) (by omega)) (tr_cons (tOk_ok (gokN b244) (by omega)) (tr_cons (tOk_ok (gokN b15) (by omega)) (tr_cons (tOk_ok (gokN b15) (by omega)) trivial))))) ?_)
  intro H hnx hl hc hos
  simp only [List.map_cons, List.map_nil, List.cons.injEq, and_true] at hos
  obtain ⟨h1, h2, h3, h4, h5, h6, h7, h8, h9, h10, h11, h12⟩ := hos
  rw [gs_eq] at h2 h5
  refine tail8 (by omega) hl hc ⟨h1, h2, h3, rfl, rfl, by decide⟩ ⟨h4, h5, h6, rfl, rfl, by decide⟩ (by decide) (byN s 244) (byN s 15) fun hy H1 H' hl' hn' hP hold => ?_
  have hHb : (behind (s8c y 13 42 48 H1) (two0 12) H').H = H' := behind_H (E := env) (by rw [call8c]; rfl)
  refine MWp.few (I := [42, 39, 41, 48, 45, 46, 47, 37, 0]) (os := [(.cells (cellsPb 39 41 (mOf s) (.slice (some ⟨37, 0, none⟩) 0 0) (.slice none 0 0)) 54), (memL (gm (GA (lN s 15) 1) 1)), (memL (fun _ => 0)), (.cells (refC s 48 (sl 0 0)) 44), (refR s), (memL (gm (GA (lN s 15) 1) 1)), (memL (fun _ => 0)), (.cells [] 5), (ints .u8 f 0)]) (n := 1000) (by rw [hHb]; exact hl') (by rw [hHb]; omega) (by unfold big; omega) rfl (by decide) (by decide) (few_of ?_) ?_
  · rw [hHb]
    simp only [List.map_cons, List.map_nil, List.cons.injEq, and_true]
    exact ⟨hP.cells, hP.code, hP.data, (hold 48 (by omega) (by decide)).trans h7, (hold 45 (by omega) (by decide)).trans h8, (hold 46 (by omega) (by decide)).trans h9, (hold 47 (by omega) (by decide)).trans h10, (hold 37 (by omega) (by decide)).trans h11, (hold 0 (by omega) (by decide)).trans h12⟩
  · rw [bh8]
    exact MWp.out ctxZ_ok 3000 _ (n8_EN s 0 f (gm (GA (lN s 15) 1) 1) (fun _ => 0) y H1) (tails_ok hs hy _ _) (fun _ => rfl)
end Go.Proofs.Ytnknopebjdgdjaa
namespace Go.Proofs.Ytnknopebjdgdjaa
open Go Go.Ly Go.RowKit
set_option maxRecDepth 100000 in
theorem n5_EES (s : Sv) (n k l : Nat) (f fa fb fc fd : Nat → Int) (y : Int) : haltH [1, 8, 11, 12, 85] [20, 17, 19, 42, 39, 41, 48, 45, 46, 47, 37, 0] 49 rd8 (Ly.run ctxN 9000 [(10, true), (7, false), (11, true), (0, true), (27, true), (0, true), (10, true), (0, true), (27, true), (0, true)] (Ly.start Try.f8 [svV s (sl 0 0) (sls 1 0) (sls 2 l), .int .i64 y] (mkH [some (ints .u8 f 0), some (bytes2 fa fb 0), some (bytes2 fc fd l)]))) =
  (true, [tLd l, tY y, tOk (GA (lN s 244) 1) 1, tOd fc fd l, tOk (GA (lN s 244) 1) 1, tOd fc fd l, tOk (GA (lN s 15) 1) 1, tOd fc fd l, tOk (GA (lN s 15) 1) 1, tOd fc fd l], true, (Try.f8, k8, some 34, 3), v8 y 20 42 48, (true, true, true), [some (.cells (cellsPb 17 19 (mOf s) (.slice (some ⟨15, 0, none⟩) 0 0) (.slice none 0 0)) 54), some (memL (gs (gm (GA (lN s 244) 1) 1))), some (memL (gs (gm (GD fc fd) l))), some (.cells (cellsPb 39 41 (mOf s) (.slice (some ⟨37, 0, none⟩) 0 0) (.slice none 0 0)) 54), some (memL (gs (gm (GA (lN s 15) 1) 1))), some (memL (gs (gm (GD fc fd) l))), some (.cells (refC s 48 (sl 0 0)) 44), some (refR s), some (memL (gm (GA (lN s 15) 1) 1)), some (memL (gm (GD fc fd) l)), some (.cells [] 5), some (ints .u8 f 0)]) := by kernel_rfl
end Go.Proofs.Ytnknopebjdgdjaa
namespace Go.Proofs.Ytnknopebjdgdjaa
open Go Go.Ly Go.RowKit
theorem x8_EES0 (s : Sv) (n k l : Nat) (f fa fb fc fd : Nat → Int) (y : Int) : (Ly.run ctxN 9000 [(10, false)] (Ly.start Try.f8 [svV s (sl 0 0) (sls 1 0) (sls 2 l), .int .i64 y] (mkH [some (ints .u8 f 0), some (bytes2 fa fb 0), some (bytes2 fc fd l)]))).out? = some ([((tLd l).1, false)], .bool true) := by kernel_rfl
theorem x8_EES1 (s : Sv) (n k l : Nat) (f fa fb fc fd : Nat → Int) (y : Int) : (Ly.run ctxN 9000 [(10, true), (7, true)] (Ly.start Try.f8 [svV s (sl 0 0) (sls 1 0) (sls 2 l), .int .i64 y] (mkH [some (ints .u8 f 0), some (bytes2 fa fb 0), some (bytes2 fc fd l)]))).out? = some ([tLd l, ((tY y).1, true)], .bool true) := by kernel_rfl
theorem w8_EES (s : Sv) (n k l : Nat) (f fa fb fc fd : Nat → Int) (y : Int) (hs : s.Ok) (hd : ∀ e, e < l → B16 (fc e) ∧ B8 (fd e)) : LCalls Try.prog 8 [svV s (sl 0 0) (sls 1 0) (sls 2 l), .int .i64 y] (mkH [some (ints .u8 f 0), some (bytes2 fa fb 0), some (bytes2 fc fd l)]) (fun u _ => u = .bool true) := by
  by_cases h : l ≤ 300
  rotate_left
  · exact LCalls_of ctxN_ok gN8 (by kernel_rfl) (MWp.out ctxN_ok 9000 _ (x8_EES0 s n k l f fa fb fc fd y) (tr_cons (tLd_no h) trivial) (fun _ => rfl))
  have hLd := h
  clear h
  by_cases h : ¬ 1000 < y
  rotate_left
  · exact LCalls_of ctxN_ok gN8 (by kernel_rfl) (MWp.out ctxN_ok 9000 _ (x8_EES1 s n k l f fa fb fc fd y) (tr_cons (tLd_ok hLd) (tr_cons (tY_no h) trivial)) (fun _ => rfl))
  have hY := h
  clear h
  refine LCalls_of ctxN_ok gN8 (by kernel_rfl) (MWp.haltH ctxN_ok _ _ _ _ (n5_EES s n k l f fa fb fc fd y) (tr_cons (tLd_ok hLd) (tr_cons (tY_ok hY) (tr_cons (tOk_ok (gokN b244) (by omega)) (tr_cons (tOd_ok hd (by omega)) (tr_cons (tOk_ok (gokN b244) (by omega)) (tr_cons (tOd_ok hd (by omega)) (tr_cons (tOk_ok (gokN b15) (by omega)) (tr_cons (tOd_ok hd (by omega)) (tr_cons (tOk_ok (gokN b15) (by omega)) (tr_cons (tOd_ok hd (by omega)) trivial)))))))))) ?_)
  intro H hnx hl hc hos
  simp only [List.map_cons, List.map_nil, List.cons.injEq, and_true] at hos
  obtain ⟨h1, h2, h3, h4, h5, h6, h7, h8, h9, h10, h11, h12⟩ := hos
  rw [gs_eq] at h2 h5
  rw [gs_eq] at h3 h6
  refine tail8 (by omega) hl hc ⟨h1, h2, h3, rfl, rfl, by decide⟩ ⟨h4, h5, h6, rfl, rfl, by decide⟩ (by decide) (byN s 244) (byN s 15) fun hy H1 H' hl' hn' hP hold => ?_
  have hHb : (behind (s8c y 13 42 48 H1) (two0 12) H').H = H' := behind_H (E := env) (by rw [call8c]; rfl)
  refine MWp.few (I := [42, 39, 41, 48, 45, 46, 47, 37, 0]) (os := [(.cells (cellsPb 39 41 (mOf s) (.slice (some ⟨37, 0, none⟩) 0 0) (.slice none 0 0)) 54), (memL (gm (GA (lN s 15) 1) 1)), (memL (gm (GD fc fd) l)), (.cells (refC s 48 (sl 0 0)) 44), (refR s), (memL (gm (GA (lN s 15) 1) 1)), (memL (gm (GD fc fd) l)), (.cells [] 5), (ints .u8 f 0)]) (n := 1000) (by rw [hHb]; exact hl') (by rw [hHb]; omega) (by unfold big; omega) rfl (by decide) (by decide) (few_of ?_) ?_
  · rw [hHb]
    simp only [List.map_cons, List.map_nil, List.cons.injEq, and_true]
    exact ⟨hP.cells, hP.code, hP.data, (hold 48 (by omega) (by decide)).trans h7, (hold 45 (by omega) (by decide)).trans h8, (hold 46 (by omega) (by decide)).trans h9, (hold 47 (by omega) (by decide)).trans h10, (hold 37 (by omega) (by decide)).trans h11, (hold 0 (by omega) (by decide)).trans h12⟩
  · rw [bh8]
    exact MWp.out ctxZ_ok 3000 _ (n8_EN s 0 f (gm (GA (lN s 15) 1) 1) (gm (GD fc fd) l) y H1) (tails_ok hs hy _ _) (fun _ => rfl)
end Go.Proofs.Ytnknopebjdgdjaa
namespace Go.Proofs.Ytnknopebjdgdjaa
open Go Go.Ly Go.RowKit
set_option maxRecDepth 100000 in
theorem n5_ERN (s : Sv) (n k l : Nat) (f fa fb fc fd : Nat → Int) (y : Int) : haltH [1, 8, 11, 12, 85] [21, 18, 20, 44, 41, 43, 50, 47, 48, 49, 39, 0] 51 rd8 (Ly.run ctxN 9000 [(5, true), (12, false), (1, true), (4, true), (3, true), (28, true), (1, true), (4, true), (3, true), (28, true)] (Ly.start Try.f8 [svV s (sl 0 0) (sls 1 (k + 1)) nilS, .int .i64 y] (mkH [some (ints .u8 f 0), some (bytes2 fa fb (k + 1)), some (bytes2 fc fd l)]))) =
  (true, [tLc k, tY y, tR1 k, tR2 k, tOkB (GB fa fb k (lN s 244) 1) (0 + (k + 1)) 1, tOkB (GB fa fb k (lN s 244) 1) (0 + (k + 1)) 1, tR1 k, tR2 k, tOkB (GB fa fb k (lN s 15) 1) (0 + (k + 1)) 1, tOkB (GB fa fb k (lN s 15) 1) (0 + (k + 1)) 1], true, (Try.f8, k8, some 34, 3), v8 y 21 44 50, (true, true, true), [some (.cells (cellsPb 18 20 (mOf s) (.slice (some ⟨16, 0, none⟩) 0 0) (.slice none 0 0)) 54), some (memL (gs (gm (GB fa fb k (lN s 244) 1) (0 + (k + 1) + 1)))), some (memL (fun _ => 0)), some (.cells (cellsPb 41 43 (mOf s) (.slice (some ⟨39, 0, none⟩) 0 0) (.slice none 0 0)) 54), some (memL (gs (gm (GB fa fb k (lN s 15) 1) (0 + (k + 1) + 1)))), some (memL (fun _ => 0)), some (.cells (refC s 50 (sl 0 0)) 44), some (refR s), some (memL (gm (GB fa fb k (lN s 15) 1) (0 + (k + 1) + 1))), some (memL (fun _ => 0)), some (.cells [] 5), some (ints .u8 f 0)]) := by kernel_rfl
end Go.Proofs.Ytnknopebjdgdjaa
namespace Go.Proofs.Ytnknopebjdgdjaa
open Go Go.Ly Go.RowKit
set_option maxRecDepth 200000 in
theorem n8_ER (s : Sv) (n : Nat) (f F D : Nat → Int) (y : Int) (H1 : Heap) : (Ly.run ctxZ 3000 [(0, false), (25, true), (10, true), (10, true), (40, true), (22, false), (3, true), (22, false), (3, true), (22, false), (3, true), (22, false), (3, true), (27, false), (3, true), (27, false), (3, true), (27, false), (3, true), (27, false), (3, true), (11, true)] (behind (s8c y 13 44 50 H1) (two0 12) (vH [44, 41, 43, 50, 47, 48, 49, 39, 0] [some (.cells (cellsPb 41 43 (mOf s) (.slice (some ⟨39, 0, none⟩) 0 0) (.slice none 0 0)) 54), some (memL F), some (memL D), some (.cells (refC s 50 (sl 0 0)) 44), some (refR s), some (memL F), some (memL D), some (.cells [] 5), some (ints .u8 f 0)] 1000))).out? =
  some ((decide (y ≤ 0), false) :: tFl s :: tNe s.ip :: tIe s.ie :: tRg s F D, .bool true) := by kernel_rfl
end Go.Proofs.Ytnknopebjdgdjaa
namespace Go.Proofs.Ytnknopebjdgdjaa
open Go Go.Ly Go.RowKit
theorem x8_ERN0 (s : Sv) (n k l : Nat) (f fa fb fc fd : Nat → Int) (y : Int) : (Ly.run ctxN 9000 [(5, false)] (Ly.start Try.f8 [svV s (sl 0 0) (sls 1 (k + 1)) nilS, .int .i64 y] (mkH [some (ints .u8 f 0), some (bytes2 fa fb (k + 1)), some (bytes2 fc fd l)]))).out? = some ([((tLc k).1, false)], .bool true) := by kernel_rfl
theorem x8_ERN1 (s : Sv) (n k l : Nat) (f fa fb fc fd : Nat → Int) (y : Int) : (Ly.run ctxN 9000 [(5, true), (12, true)] (Ly.start Try.f8 [svV s (sl 0 0) (sls 1 (k + 1)) nilS, .int .i64 y] (mkH [some (ints .u8 f 0), some (bytes2 fa fb (k + 1)), some (bytes2 fc fd l)]))).out? = some ([tLc k, ((tY y).1, true)], .bool true) := by kernel_rfl
theorem w8_ERN (s : Sv) (n k l : Nat) (f fa fb fc fd : Nat → Int) (y : Int) (hs : s.Ok) (hb : ∀ e, e < k + 1 → B16 (fa e) ∧ B8 (fb e)) : LCalls Try.prog 8 [svV s (sl 0 0) (sls 1 (k + 1)) nilS, .int .i64 y] (mkH [some (ints .u8 f 0), some (bytes2 fa fb (k + 1)), some (bytes2 fc fd l)]) (fun u _ => u = .bool true) := by
  by_cases h : k + 1 ≤ 600
  rotate_left
  · exact LCalls_of ctxN_ok gN8 (by kernel_rfl) (MWp.out ctxN_ok 9000 _ (x8_ERN0 s n k l f fa fb fc fd y) (tr_cons (tLc_no h) trivial) (fun _ => rfl))
  have hLc := h
  clear h
  by_cases h : ¬ 1000 < y
  rotate_left
  · exact LCalls_of ctxN_ok gN8 (by kernel_rfl) (MWp.out ctxN_ok 9000 _ (x8_ERN1 s n k l f fa fb fc fd y) (tr_cons (tLc_ok hLc) (tr_cons (tY_no h) trivial)) (fun _ => rfl))
  have hY := h
  clear h
  refine LCalls_of ctxN_ok gN8 (by kernel_rfl) (MWp.haltH ctxN_ok _ _ _ _ (n5_ERN s n k l f fa fb fc fd y) (tr_cons (tLc_ok hLc) (tr_cons (tY_ok hY) (tr_cons (tR1_ok (by omega)) (tr_cons (tR2_ok (by omega)) (tr_cons (tOkB_ok (gokNB b244 hb) (by omega)) (tr_cons (tOkB_ok (gokNB b244 hb) (by omega)) (tr_cons (tR1_ok (by omega)) (tr_cons (tR2_ok (by omega)) (tr_cons (tOkB_ok (gokNB b15 hb) (by omega)) (tr_cons (tOkB_ok (gokNB b15 hb) (by omega)) trivial)))))))))) ?_)
  intro H hnx hl hc hos
  simp only [List.map_cons, List.map_nil, List.cons.injEq, and_true] at hos
  obtain ⟨h1, h2, h3, h4, h5, h6, h7, h8, h9, h10, h11, h12⟩ := hos
  rw [gs_eq] at h2 h5
  refine tail8 (by omega) hl hc ⟨h1, h2, h3, rfl, rfl, by decide⟩ ⟨h4, h5, h6, rfl, rfl, by decide⟩ (by decide) (byNB s 244 fa fb k) (byNB s 15 fa fb k) fun hy H1 H' hl' hn' hP hold => ?_
  have hHb : (behind (s8c y 13 44 50 H1) (two0 12) H').H = H' := behind_H (E := env) (by rw [call8c]; rfl)
  refine MWp.few (I := [44, 41, 43, 50, 47, 48, 49, 39, 0]) (os := [(.cells (cellsPb 41 43 (mOf s) (.slice (some ⟨39, 0, none⟩) 0 0) (.slice none 0 0)) 54), (memL (gm (GB fa fb k (lN s 15) 1) (0 + (k + 1) + 1))), (memL (fun _ => 0)), (.cells (refC s 50 (sl 0 0)) 44), (refR s), (memL (gm (GB fa fb k (lN s 15) 1) (0 + (k + 1) + 1))), (memL (fun _ => 0)), (.cells [] 5), (ints .u8 f 0)]) (n := 1000) (by rw [hHb]; exact hl') (by rw [hHb]; omega) (by unfold big; omega) rfl (by decide) (by decide) (few_of ?_) ?_
  · rw [hHb]
    simp only [List.map_cons, List.map_nil, List.cons.injEq, and_true]
    exact ⟨hP.cells, hP.code, hP.data, (hold 50 (by omega) (by decide)).trans h7, (hold 47 (by omega) (by decide)).trans h8, (hold 48 (by omega) (by decide)).trans h9, (hold 49 (by omega) (by decide)).trans h10, (hold 39 (by omega) (by decide)).trans h11, (hold 0 (by omega) (by decide)).trans h12⟩
  · rw [bh8]
    exact MWp.out ctxZ_ok 3000 _ (n8_ER s 0 f (gm (GB fa fb k (lN s 15) 1) (0 + (k + 1) + 1)) (fun _ => 0) y H1) (tails_ok hs hy _ _) (fun _ => rfl)
end Go.Proofs.Ytnknopebjdgdjaa
namespace Go.Proofs.Ytnknopebjdgdjaa
open Go Go.Ly Go.RowKit
set_option maxRecDepth 100000 in
theorem n5_ERS (s : Sv) (n k l : Nat) (f fa fb fc fd : Nat → Int) (y : Int) : haltH [1, 8, 11, 12, 85] [21, 18, 20, 44, 41, 43, 50, 47, 48, 49, 39, 0] 51 rd8 (Ly.run ctxN 9000 [(5, true), (4, true), (7, false), (1, true), (4, true), (3, true), (0, true), (27, true), (0, true), (0, true), (4, true), (3, true), (0, true), (27, true), (0, true)] (Ly.start Try.f8 [svV s (sl 0 0) (sls 1 (k + 1)) (sls 2 l), .int .i64 y] (mkH [some (ints .u8 f 0), some (bytes2 fa fb (k + 1)), some (bytes2 fc fd l)]))) =
  (true, [tLc k, tLd l, tY y, tR1 k, tR2 k, tOkB (GB fa fb k (lN s 244) 1) (0 + (k + 1)) 1, tOd fc fd l, tOkB (GB fa fb k (lN s 244) 1) (0 + (k + 1)) 1, tOd fc fd l, tR1 k, tR2 k, tOkB (GB fa fb k (lN s 15) 1) (0 + (k + 1)) 1, tOd fc fd l, tOkB (GB fa fb k (lN s 15) 1) (0 + (k + 1)) 1, tOd fc fd l], true, (Try.f8, k8, some 34, 3), v8 y 21 44 50, (true, true, true), [some (.cells (cellsPb 18 20 (mOf s) (.slice (some ⟨16, 0, none⟩) 0 0) (.slice none 0 0)) 54), some (memL (gs (gm (GB fa fb k (lN s 244) 1) (0 + (k + 1) + 1)))), some (memL (gs (gm (GD fc fd) l))), some (.cells (cellsPb 41 43 (mOf s) (.slice (some ⟨39, 0, none⟩) 0 0) (.slice none 0 0)) 54), some (memL (gs (gm (GB fa fb k (lN s 15) 1) (0 + (k + 1) + 1)))), some (memL (gs (gm (GD fc fd) l))), some (.cells (refC s 50 (sl 0 0)) 44), some (refR s), some (memL (gm (GB fa fb k (lN s 15) 1) (0 + (k + 1) + 1))), some (memL (gm (GD fc fd) l)), some (.cells [] 5), some (ints .u8 f 0)]) := by kernel_rfl
end Go.Proofs.Ytnknopebjdgdjaa
namespace Go.Proofs.Ytnknopebjdgdjaa
open Go Go.Ly Go.RowKit
theorem x8_ERS0 (s : Sv) (n k l : Nat) (f fa fb fc fd : Nat → Int) (y : Int) : (Ly.run ctxN 9000 [(5, false)] (Ly.start Try.f8 [svV s (sl 0 0) (sls 1 (k + 1)) (sls 2 l), .int .i64 y] (mkH [some (ints .u8 f 0), some (bytes2 fa fb (k + 1)), some (bytes2 fc fd l)]))).out? = some ([((tLc k).1, false)], .bool true) := by kernel_rfl
theorem x8_ERS1 (s : Sv) (n k l : Nat) (f fa fb fc fd : Nat → Int) (y : Int) : (Ly.run ctxN 9000 [(5, true), (4, false)] (Ly.start Try.f8 [svV s (sl 0 0) (sls 1 (k + 1)) (sls 2 l), .int .i64 y] (mkH [some (ints .u8 f 0), some (bytes2 fa fb (k + 1)), some (bytes2 fc fd l)]))).out? = some ([tLc k, ((tLd l).1, false)], .bool true) := by kernel_rfl
theorem x8_ERS2 (s : Sv) (n k l : Nat) (f fa fb fc fd : Nat → Int) (y : Int) : (Ly.run ctxN 9000 [(5, true), (4, true), (7, true)] (Ly.start Try.f8 [svV s (sl 0 0) (sls 1 (k + 1)) (sls 2 l), .int .i64 y] (mkH [some (ints .u8 f 0), some (bytes2 fa fb (k + 1)), some (bytes2 fc fd l)]))).out? = some ([tLc k, tLd l, ((tY y).1, true)], .bool true) := by kernel_rfl
theorem w8_ERS (s : Sv) (n k l : Nat) (f fa fb fc fd : Nat → Int) (y : Int) (hs : s.Ok) (hb : ∀ e, e < k + 1 → B16 (fa e) ∧ B8 (fb e)) (hd : ∀ e, e < l → B16 (fc e) ∧ B8 (fd e)) : LCalls Try.prog 8 [svV s (sl 0 0) (sls 1 (k + 1)) (sls 2 l), .int .i64 y] (mkH [some (ints .u8 f 0), some (bytes2 fa fb (k + 1)), some (bytes2 fc fd l)]) (fun u _ => u = .bool true) := by
  by_cases h : k + 1 ≤ 600
  rotate_left
  · exact LCalls_of ctxN_ok gN8 (by kernel_rfl) (MWp.out ctxN_ok 9000 _ (x8_ERS0 s n k l f fa fb fc fd y) (tr_cons (tLc_no h) trivial) (fun _ => rfl))
  have hLc := h
  clear h
  by_cases h : l ≤ 300
  rotate_left
  · exact LCalls_of ctxN_ok gN8 (by kernel_rfl) (MWp.out ctxN_ok 9000 _ (x8_ERS1 s n k l f fa fb fc fd y) (tr_cons (tLc_ok hLc) (tr_cons (tLd_no h) trivial)) (fun _ => rfl))
  have hLd := h
  clear h
  by_cases h : ¬ 1000 < y
  rotate_left
  · exact LCalls_of ctxN_ok gN8 (by kernel_rfl) (MWp.out ctxN_ok 9000 _ (x8_ERS2 s n k l f fa fb fc fd y) (tr_cons (tLc_ok hLc) (tr_cons (tLd_ok hLd) (tr_cons (tY_no h) trivial))) (fun _ => rfl))
  have hY := h
  clear h
  refine LCalls_of ctxN_ok gN8 (by kernel_rfl) (MWp.haltH ctxN_ok _ _ _ _ (n5_ERS s n k l f fa fb fc fd y) (tr_cons (tLc_ok hLc) (tr_cons (tLd_ok hLd) (tr_cons (tY_ok hY) (tr_cons (tR1_ok (by omega)) (tr_cons (tR2_ok (by omega)) (tr_cons (tOkB_ok (gokNB b244 hb) (by omega)) (tr_cons (tOd_ok hd (by omega)) (tr_cons (tOkB_ok (gokNB b244 hb) (by omega)) (tr_cons (tOd_ok hd (by omega)) (tr_cons (tR1_ok (by omega)) (tr_cons (tR2_ok (by omega)) (tr_cons (tOkB_ok (gokNB b15 hb) (by omega)) (tr_cons (tOd_ok hd (by omega)) (tr_cons (tOkB_ok (gokNB b15 hb) (by omega)) (tr_cons (tOd_ok hd (by omega)) trivial))))))))))))))) ?_)
  intro H hnx hl hc hos
  simp only [List.map_cons, List.map_nil, List.cons.injEq, and_true] at hos
  obtain ⟨h1, h2, h3, h4, h5, h6, h7, h8, h9, h10, h11, h12⟩ := hos
  rw [gs_eq] at h2 h5
  rw [gs_eq] at h3 h6
  refine tail8 (by omega) hl hc ⟨h1, h2, h3, rfl, rfl, by decide⟩ ⟨h4, h5, h6, rfl, rfl, by decide⟩ (by decide) (byNB s 244 fa fb k) (byNB s 15 fa fb k) fun hy H1 H' hl' hn' hP hold => ?_
  have hHb : (behind (s8c y 13 44 50 H1) (two0 12) H').H = H' := behind_H (E := env) (by rw [call8c]; rfl)
  refine MWp.few (I := [44, 41, 43, 50, 47, 48, 49, 39, 0]) (os := [(.cells (cellsPb 41 43 (mOf s) (.slice (some ⟨39, 0, none⟩) 0 0) (.slice none 0 0)) 54), (memL (gm (GB fa fb k (lN s 15) 1) (0 + (k + 1) + 1))), (memL (gm (GD fc fd) l)), (.cells (refC s 50 (sl 0 0)) 44), (refR s), (memL (gm (GB fa fb k (lN s 15) 1) (0 + (k + 1) + 1))), (memL (gm (GD fc fd) l)), (.cells [] 5), (ints .u8 f 0)]) (n := 1000) (by rw [hHb]; exact hl') (by rw [hHb]; omega) (by unfold big; omega) rfl (by decide) (by decide) (few_of ?_) ?_
  · rw [hHb]
    simp only [List.map_cons, List.map_nil, List.cons.injEq, and_true]
    exact ⟨hP.cells, hP.code, hP.data, (hold 50 (by omega) (by decide)).trans h7, (hold 47 (by omega) (by decide)).trans h8, (hold 48 (by omega) (by decide)).trans h9, (hold 49 (by omega) (by decide)).trans h10, (hold 39 (by omega) (by decide)).trans h11, (hold 0 (by omega) (by decide)).trans h12⟩
  · rw [bh8]
    exact MWp.out ctxZ_ok 3000 _ (n8_ER s 0 f (gm (GB fa fb k (lN s 15) 1) (0 + (k + 1) + 1)) (gm (GD fc fd) l) y H1) (tails_ok hs hy _ _) (fun _ => rfl)
end Go.Proofs.Ytnknopebjdgdjaa
namespace Go.Proofs.Ytnknopebjdgdjaa
open Go Go.Ly Go.RowKit
set_option maxRecDepth 100000 in
theorem n5_RNN (s : Sv) (n k l : Nat) (f fa fb fc fd : Nat → Int) (y : Int) : haltH [1, 8, 11, 12, 85] [21, 18, 20, 44, 41, 43, 50, 47, 48, 49, 39, 0] 51 rd8 (Ly.run ctxN 9000 [(0, true), (14, true), (2, false), (11, true), (10, false), (1, true), (15, true), (11, true), (10, false), (1, true), (15, true)] (Ly.start Try.f8 [svV s (sl 0 (n + 1)) nilS nilS, .int .i64 y] (mkH [some (ints .u8 f (n + 1)), some (bytes2 fa fb k), some (bytes2 fc fd l)]))) =
  (true, [tLi n, tMe n, tY y, tOk (GA (lN s 244) 1) 1, tMx n, tR1 n, tOk (GA (lN s 244) 1) 1, tOk (GA (lN s 15) 1) 1, tMx n, tR1 n, tOk (GA (lN s 15) 1) 1], true, (Try.f8, k8, some 34, 3), v8 y 21 44 50, (true, true, true), [some (.cells (cellsPb 18 20 (mOf s) (inV 16 0 (0 + (n + 1))) (.slice none 0 0)) 54), some (memL (gs (gm (GA (lN s 244) 1) 1))), some (memL (fun _ => 0)), some (.cells (cellsPb 41 43 (mOf s) (inV 39 0 (0 + (n + 1))) (.slice none 0 0)) 54), some (memL (gs (gm (GA (lN s 15) 1) 1))), some (memL (fun _ => 0)), some (.cells (refC s 50 (sl 0 (n + 1))) 44), some (refR s), some (memL (gm (GA (lN s 15) 1) 1)), some (memL (fun _ => 0)), some (.fn 1 (fun i _ => .int .u8 (f (0 + i))) (n + 1) 5), some (ints .u8 f (n + 1))]) := by kernel_rfl
end Go.Proofs.Ytnknopebjdgdjaa
namespace Go.Proofs.Ytnknopebjdgdjaa
open Go Go.Ly Go.RowKit
set_option maxRecDepth 200000 in
theorem n8_RN (s : Sv) (n : Nat) (f F D : Nat → Int) (y : Int) (H1 : Heap) : (Ly.run ctxZ 3000 [(0, false), (25, true), (10, true), (10, true), (20, true), (2, true), (16, true), (22, false), (3, true), (22, false), (3, true), (22, false), (3, true), (22, false), (3, true), (27, false), (3, true), (27, false), (3, true), (27, false), (3, true), (27, false), (3, true), (11, true)] (behind (s8c y 13 44 50 H1) (two0 12) (vH [44, 41, 43, 50, 47, 48, 49, 39, 0] [some (.cells (cellsPb 41 43 (mOf s) (inV 39 0 (0 + (n + 1))) (.slice none 0 0)) 54), some (memL F), some (memL D), some (.cells (refC s 50 (sl 0 (n + 1))) 44), some (refR s), some (memL F), some (memL D), some (.fn 1 (fun i _ => .int .u8 (f (0 + i))) (n + 1) 5), some (ints .u8 f (n + 1))] 1000))).out? =
  some ((decide (y ≤ 0), false) :: tFl s :: tNe s.ip :: tIe s.ie :: tIg n f :: tIq n f :: tRg s F D, .bool true) := by kernel_rfl
end Go.Proofs.Ytnknopebjdgdjaa
namespace Go.Proofs.Ytnknopebjdgdjaa
open Go Go.Ly Go.RowKit
theorem x8_RNN0 (s : Sv) (n k l : Nat) (f fa fb fc fd : Nat → Int) (y : Int) : (Ly.run ctxN 9000 [(0, false)] (Ly.start Try.f8 [svV s (sl 0 (n + 1)) nilS nilS, .int .i64 y] (mkH [some (ints .u8 f (n + 1)), some (bytes2 fa fb k), some (bytes2 fc fd l)]))).out? = some ([((tLi n).1, false)], .bool true) := by kernel_rfl
theorem x8_RNN1 (s : Sv) (n k l : Nat) (f fa fb fc fd : Nat → Int) (y : Int) : (Ly.run ctxN 9000 [(0, true), (14, false)] (Ly.start Try.f8 [svV s (sl 0 (n + 1)) nilS nilS, .int .i64 y] (mkH [some (ints .u8 f (n + 1)), some (bytes2 fa fb k), some (bytes2 fc fd l)]))).out? = some ([tLi n, ((tMe n).1, false)], .bool true) := by kernel_rfl
theorem x8_RNN2 (s : Sv) (n k l : Nat) (f fa fb fc fd : Nat → Int) (y : Int) : (Ly.run ctxN 9000 [(0, true), (14, true), (2, true)] (Ly.start Try.f8 [svV s (sl 0 (n + 1)) nilS nilS, .int .i64 y] (mkH [some (ints .u8 f (n + 1)), some (bytes2 fa fb k), some (bytes2 fc fd l)]))).out? = some ([tLi n, tMe n, ((tY y).1, true)], .bool true) := by kernel_rfl
theorem w8_RNN (s : Sv) (n k l : Nat) (f fa fb fc fd : Nat → Int) (y : Int) (hs : s.Ok) : LCalls Try.prog 8 [svV s (sl 0 (n + 1)) nilS nilS, .int .i64 y] (mkH [some (ints .u8 f (n + 1)), some (bytes2 fa fb k), some (bytes2 fc fd l)]) (fun u _ => u = .bool true) := by
  by_cases h : n + 1 ≤ 300
  rotate_left
  · exact LCalls_of ctxN_ok gN8 (by kernel_rfl) (MWp.out ctxN_ok 9000 _ (x8_RNN0 s n k l f fa fb fc fd y) (tr_cons (tLi_no h) trivial) (fun _ => rfl))
  have hLi := h
  clear h
  by_cases h : n + 1 ≤ 256
  rotate_left
  · exact LCalls_of ctxN_ok gN8 (by kernel_rfl) (MWp.out ctxN_ok 9000 _ (x8_RNN1 s n k l f fa fb fc fd y) (tr_cons (tLi_ok hLi) (tr_cons (tMe_no h) trivial)) (fun _ => rfl))
  have hMe := h
  clear h
  by_cases h : ¬ 1000 < y
  rotate_left
  · exact LCalls_of ctxN_ok gN8 (by kernel_rfl) (MWp.out ctxN_ok 9000 _ (x8_RNN2 s n k l f fa fb fc fd y) (tr_cons (tLi_ok hLi) (tr_cons (tMe_ok hMe) (tr_cons (tY_no h) trivial))) (fun _ => rfl))
  have hY := h
  clear h
  refine LCalls_of ctxN_ok gN8 (by kernel_rfl) (MWp.haltH ctxN_ok _ _ _ _ (n5_RNN s n k l f fa fb fc fd y) (tr_cons (tLi_ok hLi) (tr_cons (tMe_ok hMe) (tr_cons (tY_ok hY) (tr_cons (tOk_ok (gokN b244) (by omega)) (tr_cons (tMx_ok hMe) (tr_cons (tR1_ok (by omega)) (tr_cons (tOk_ok (gokN b244) (by omega)) (tr_cons (tOk_ok (gokN b15) (by omega)) (tr_cons (tMx_ok hMe) (tr_cons (tR1_ok (by omega)) (tr_cons (tOk_ok (gokN b15) (by omega)) trivial))))))))))) ?_)
  intro H hnx hl hc hos
  simp only [List.map_cons, List.map_nil, List.cons.injEq, and_true] at hos
  obtain ⟨h1, h2, h3, h4, h5, h6, h7, h8, h9, h10, h11, h12⟩ := hos
  rw [gs_eq] at h2 h5
  refine tail8 (by omega) hl hc ⟨h1, h2, h3, rfl, rfl, by decide⟩ ⟨h4, h5, h6, rfl, rfl, by decide⟩ (by decide) (byN s 244) (byN s 15) fun hy H1 H' hl' hn' hP hold => ?_
  have hHb : (behind (s8c y 13 44 50 H1) (two0 12) H').H = H' := behind_H (E := env) (by rw [call8c]; rfl)
  refine MWp.few (I := [44, 41, 43, 50, 47, 48, 49, 39, 0]) (os := [(.cells (cellsPb 41 43 (mOf s) (inV 39 0 (0 + (n + 1))) (.slice none 0 0)) 54), (memL (gm (GA (lN s 15) 1) 1)), (memL (fun _ => 0)), (.cells (refC s 50 (sl 0 (n + 1))) 44), (refR s), (memL (gm (GA (lN s 15) 1) 1)), (memL (fun _ => 0)), (.fn 1 (fun i _ => .int .u8 (f (0 + i))) (n + 1) 5), (ints .u8 f (n + 1))]) (n := 1000) (by rw [hHb]; exact hl') (by rw [hHb]; omega) (by unfold big; omega) rfl (by decide) (by decide) (few_of ?_) ?_
  · rw [hHb]
    simp only [List.map_cons, List.map_nil, List.cons.injEq, and_true]
    exact ⟨hP.cells, hP.code, hP.data, (hold 50 (by omega) (by decide)).trans h7, (hold 47 (by omega) (by decide)).trans h8, (hold 48 (by omega) (by decide)).trans h9, (hold 49 (by omega) (by decide)).trans h10, (hold 39 (by omega) (by decide)).trans h11, (hold 0 (by omega) (by decide)).trans h12⟩
  · rw [bh8]
    exact MWp.out ctxZ_ok 3000 _ (n8_RN s n f (gm (GA (lN s 15) 1) 1) (fun _ => 0) y H1) (tailsR_ok hs hy (by omega) _ _) (fun _ => rfl)
end Go.Proofs.Ytnknopebjdgdjaa
namespace Go.Proofs.Ytnknopebjdgdjaa
open Go Go.Ly Go.RowKit
set_option maxRecDepth 100000 in
theorem n5_RNS (s : Sv) (n k l : Nat) (f fa fb fc fd : Nat → Int) (y : Int) : haltH [1, 8, 11, 12, 85] [21, 18, 20, 44, 41, 43, 50, 47, 48, 49, 39, 0] 51 rd8 (Ly.run ctxN 9000 [(0, true), (9, true), (4, true), (2, false), (11, true), (0, true), (9, false), (1, true), (15, true), (0, true), (10, true), (0, true), (9, false), (1, true), (15, true), (0, true)] (Ly.start Try.f8 [svV s (sl 0 (n + 1)) nilS (sls 2 l), .int .i64 y] (mkH [some (ints .u8 f (n + 1)), some (bytes2 fa fb k), some (bytes2 fc fd l)]))) =
  (true, [tLi n, tLd l, tMe n, tY y, tOk (GA (lN s 244) 1) 1, tOd fc fd l, tMx n, tR1 n, tOk (GA (lN s 244) 1) 1, tOd fc fd l, tOk (GA (lN s 15) 1) 1, tOd fc fd l, tMx n, tR1 n, tOk (GA (lN s 15) 1) 1, tOd fc fd l], true, (Try.f8, k8, some 34, 3), v8 y 21 44 50, (true, true, true), [some (.cells (cellsPb 18 20 (mOf s) (inV 16 0 (0 + (n + 1))) (.slice none 0 0)) 54), some (memL (gs (gm (GA (lN s 244) 1) 1))), some (memL (gs (gm (GD fc fd) l))), some (.cells (cellsPb 41 43 (mOf s) (inV 39 0 (0 + (n + 1))) (.slice none 0 0)) 54), some (memL (gs (gm (GA (lN s 15) 1) 1))), some (memL (gs (gm (GD fc fd) l))), some (.cells (refC s 50 (sl 0 (n + 1))) 44), some (refR s), some (memL (gm (GA (lN s 15) 1) 1)), some (memL (gm (GD fc fd) l)), some (.fn 1 (fun i _ => .int .u8 (f (0 + i))) (n + 1) 5), some (ints .u8 f (n + 1))]) := by kernel_rfl
end Go.Proofs.Ytnknopebjdgdjaa
namespace Go.Proofs.Ytnknopebjdgdjaa
open Go Go.Ly Go.RowKit
theorem x8_RNS0 (s : Sv) (n k l : Nat) (f fa fb fc fd : Nat → Int) (y : Int) : (Ly.run ctxN 9000 [(0, false)] (Ly.start Try.f8 [svV s (sl 0 (n + 1)) nilS (sls 2 l), .int .i64 y] (mkH [some (ints .u8 f (n + 1)), some (bytes2 fa fb k), some (bytes2 fc fd l)]))).out? = some ([((tLi n).1, false)], .bool true) := by kernel_rfl
theorem x8_RNS1 (s : Sv) (n k l : Nat) (f fa fb fc fd : Nat → Int) (y : Int) : (Ly.run ctxN 9000 [(0, true), (9, false)] (Ly.start Try.f8 [svV s (sl 0 (n + 1)) nilS (sls 2 l), .int .i64 y] (mkH [some (ints .u8 f (n + 1)), some (bytes2 fa fb k), some (bytes2 fc fd l)]))).out? = some ([tLi n, ((tLd l).1, false)], .bool true) := by kernel_rfl
theorem x8_RNS2 (s : Sv) (n k l : Nat) (f fa fb fc fd : Nat → Int) (y : Int) : (Ly.run ctxN 9000 [(0, true), (9, true), (4, false)] (Ly.start Try.f8 [svV s (sl 0 (n + 1)) nilS (sls 2 l), .int .i64 y] (mkH [some (ints .u8 f (n + 1)), some (bytes2 fa fb k), some (bytes2 fc fd l)]))).out? = some ([tLi n, tLd l, ((tMe n).1, false)], .bool true) := by kernel_rfl
theorem x8_RNS3 (s : Sv) (n k l : Nat) (f fa fb fc fd : Nat → Int) (y : Int) : (Ly.run ctxN 9000 [(0, true), (9, true), (4, true), (2, true)] (Ly.start Try.f8 [svV s (sl 0 (n + 1)) nilS (sls 2 l), .int .i64 y] (mkH [some (ints .u8 f (n + 1)), some (bytes2 fa fb k), some (bytes2 fc fd l)]))).out? = some ([tLi n, tLd l, tMe n, ((tY y).1, true)], .bool true) := by kernel_rfl
theorem w8_RNS (s : Sv) (n k l : Nat) (f fa fb fc fd : Nat → Int) (y : Int) (hs : s.Ok) (hd : ∀ e, e < l → B16 (fc e) ∧ B8 (fd e)) : LCalls Try.prog 8 [svV s (sl 0 (n + 1)) nilS (sls 2 l), .int .i64 y] (mkH [some (ints .u8 f (n + 1)), some (bytes2 fa fb k), some (bytes2 fc fd l)]) (fun u _ => u = .bool true) := by
  by_cases h : n + 1 ≤ 300
  rotate_left
  · exact LCalls_of ctxN_ok gN8 (by kernel_rfl) (MWp.out ctxN_ok 9000 _ (x8_RNS0 s n k l f fa fb fc fd y) (tr_cons (tLi_no h) trivial) (fun _ => rfl))
  have hLi := h
  clear h
  by_cases h : l ≤ 300
  rotate_left
  · exact LCalls_of ctxN_ok gN8 (by kernel_rfl) (MWp.out ctxN_ok 9000 _ (x8_RNS1 s n k l f fa fb fc fd y) (tr_cons (tLi_ok hLi) (tr_cons (tLd_no h) trivial)) (fun _ => rfl))
  have hLd := h
  clear h
  by_cases h : n + 1 ≤ 256
  rotate_left
  · exact LCalls_of ctxN_ok gN8 (by kernel_rfl) (MWp.out ctxN_ok 9000 _ (x8_RNS2 s n k l f fa fb fc fd y) (tr_cons (tLi_ok hLi) (tr_cons (tLd_ok hLd) (tr_cons (tMe_no h) trivial))) (fun _ => rfl))
  have hMe := h
  clear h
  by_cases h : ¬ 1000 < y
  rotate_left
  · exact LCalls_of ctxN_ok gN8 (by kernel_rfl) (MWp.out ctxN_ok 9000 _ (x8_RNS3 s n k l f fa fb fc fd y) (tr_cons (tLi_ok hLi) (tr_cons (tLd_ok hLd) (tr_cons (tMe_ok hMe) (tr_cons (tY_no h) trivial)))) (fun _ => rfl))
  have hY := h
  clear h
  refine LCalls_of ctxN_ok gN8 (by kernel_rfl) (MWp.haltH ctxN_ok _ _ _ _ (n5_RNS s n k l f fa fb fc fd y) (tr_cons (tLi_ok hLi) (tr_cons (tLd_ok hLd) (tr_cons (tMe_ok hMe) (tr_cons (tY_ok hY) (tr_cons (tOk_ok (gokN b244) (by omega)) (tr_cons (tOd_ok hd (by omega)) (tr_cons (tMx_ok hMe) (tr_cons (tR1_ok (by omega)) (tr_cons (tOk_ok (gokN b244) (by omega)) (tr_cons (tOd_ok hd (by omega)) (tr_cons (tOk_ok (gokN b15) (by omega)) (tr_cons (tOd_ok hd (by omega)) (tr_cons (tMx_ok hMe) (tr_cons (tR1_ok (by omega)) (tr_cons (tOk_ok (gokN b15) (by omega)) (tr_cons (tOd_ok hd (by omega)) trivial)))))))))))))))) ?_)
  intro H hnx hl hc hos
  simp only [List.map_cons, List.map_nil, List.cons.injEq, and_true] at hos
  obtain ⟨h1, h2, h3, h4, h5, h6, h7, h8, h9, h10, h11, h12⟩ := hos
  rw [gs_eq] at h2 h5
  rw [gs_eq] at h3 h6
  refine tail8 (by omega) hl hc ⟨h1, h2, h3, rfl, rfl, by decide⟩ ⟨h4, h5, h6, rfl, rfl, by decide⟩ (by decide) (byN s 244) (byN s 15) fun hy H1 H' hl' hn' hP hold => ?_
  have hHb : (behind (s8c y 13 44 50 H1) (two0 12) H').H = H' := behind_H (E := env) (by rw [call8c]; rfl)
  refine MWp.few (I := [44, 41, 43, 50, 47, 48, 49, 39, 0]) (os := [(.cells (cellsPb 41 43 (mOf s) (inV 39 0 (0 + (n + 1))) (.slice none 0 0)) 54), (memL (gm (GA (lN s 15) 1) 1)), (memL (gm (GD fc fd) l)), (.cells (refC s 50 (sl 0 (n + 1))) 44), (refR s), (memL (gm (GA (lN s 15) 1) 1)), (memL (gm (GD fc fd) l)), (.fn 1 (fun i _ => .int .u8 (f (0 + i))) (n + 1) 5), (ints .u8 f (n + 1))]) (n := 1000) (by rw [hHb]; exact hl') (by rw [hHb]; omega) (by unfold big; omega) rfl (by decide) (by decide) (few_of ?_) ?_
  · rw [hHb]
    simp only [List.map_cons, List.map_nil, List.cons.injEq, and_true]
    exact ⟨hP.cells, hP.code, hP.data, (hold 50 (by omega) (by decide)).trans h7, (hold 47 (by omega) (by decide)).trans h8, (hold 48 (by omega) (by decide)).trans h9, (hold 49 (by omega) (by decide)).trans h10, (hold 39 (by omega) (by decide)).trans h11, (hold 0 (by omega) (by decide)).trans h12⟩
  · rw [bh8]
    exact MWp.out ctxZ_ok 3000 _ (n8_RN s n f (gm (GA (lN s 15) 1) 1) (gm (GD fc fd) l) y H1) (tailsR_ok hs hy (by omega) _ _) (fun _ => rfl)
end Go.Proofs.Ytnknopebjdgdjaa
namespace Go.Proofs.Ytnknopebjdgdjaa
open Go Go.Ly Go.RowKit
set_option maxRecDepth 100000 in
theorem n5_REN (s : Sv) (n k l : Nat) (f fa fb fc fd : Nat → Int) (y : Int) : haltH [1, 8, 11, 12, 85] [21, 18, 20, 44, 41, 43, 50, 47, 48, 49, 39, 0] 51 rd8 (Ly.run ctxN 9000 [(0, true), (14, true), (2, false), (11, true), (10, false), (1, true), (15, true), (11, true), (10, false), (1, true), (15, true)] (Ly.start Try.f8 [svV s (sl 0 (n + 1)) (sls 1 0) nilS, .int .i64 y] (mkH [some (ints .u8 f (n + 1)), some (bytes2 fa fb 0), some (bytes2 fc fd l)]))) =
  (true, [tLi n, tMe n, tY y, tOk (GA (lN s 244) 1) 1, tMx n, tR1 n, tOk (GA (lN s 244) 1) 1, tOk (GA (lN s 15) 1) 1, tMx n, tR1 n, tOk (GA (lN s 15) 1) 1], true, (Try.f8, k8, some 34, 3), v8 y 21 44 50, (true, true, true), [some (.cells (cellsPb 18 20 (mOf s) (inV 16 0 (0 + (n + 1))) (.slice none 0 0)) 54), some (memL (gs (gm (GA (lN s 244) 1) 1))), some (memL (fun _ => 0)), some (.cells (cellsPb 41 43 (mOf s) (inV 39 0 (0 + (n + 1))) (.slice none 0 0)) 54), some (memL (gs (gm (GA (lN s 15) 1) 1))), some (memL (fun _ => 0)), some (.cells (refC s 50 (sl 0 (n + 1))) 44), some (refR s), some (memL (gm (GA (lN s 15) 1) 1)), some (memL (fun _ => 0)), some (.fn 1 (fun i _ => .int .u8 (f (0 + i))) (n + 1) 5), some (ints .u8 f (n + 1))]) := by kernel_rfl
end Go.Proofs.Ytnknopebjdgdjaa
namespace Go.Proofs.Ytnknopebjdgdjaa
open Go Go.Ly Go.RowKit
theorem x8_REN0 (s : Sv) (n k l : Nat) (f fa fb fc fd : Nat → Int) (y : Int) : (Ly.run ctxN 9000 [(0, false)] (Ly.start Try.f8 [svV s (sl 0 (n + 1)) (sls 1 0) nilS, .int .i64 y] (mkH [some (ints .u8 f (n + 1)), some (bytes2 fa fb 0), some (bytes2 fc fd l)]))).out? = some ([((tLi n).1, false)], .bool true) := by kernel_rfl
theorem x8_REN1 (s : Sv) (n k l : Nat) (f fa fb fc fd : Nat → Int) (y : Int) : (Ly.run ctxN 9000 [(0, true), (14, false)] (Ly.start Try.f8 [svV s (sl 0 (n + 1)) (sls 1 0) nilS, .int .i64 y] (mkH [some (ints .u8 f (n + 1)), some (bytes2 fa fb 0), some (bytes2 fc fd l)]))).out? = some ([tLi n, ((tMe n).1, false)], .bool true) := by kernel_rfl
theorem x8_REN2 (s : Sv) (n k l : Nat) (f fa fb fc fd : Nat → Int) (y : Int) : (Ly.run ctxN 9000 [(0, true), (14, true), (2, true)] (Ly.start Try.f8 [svV s (sl 0 (n + 1)) (sls 1 0) nilS, .int .i64 y] (mkH [some (ints .u8 f (n + 1)), some (bytes2 fa fb 0), some (bytes2 fc fd l)]))).out? = some ([tLi n, tMe n, ((tY y).1, true)], .bool true) := by kernel_rfl
theorem w8_REN (s : Sv) (n k l : Nat) (f fa fb fc fd : Nat → Int) (y : Int) (hs : s.Ok) : LCalls Try.prog 8 [svV s (sl 0 (n + 1)) (sls 1 0) nilS, .int .i64 y] (mkH [some (ints .u8 f (n + 1)), some (bytes2 fa fb 0), some (bytes2 fc fd l)]) (fun u _ => u = .bool true) := by
  by_cases h : n + 1 ≤ 300
  rotate_left
  · exact LCalls_of ctxN_ok gN8 (by kernel_rfl) (MWp.out ctxN_ok 9000 _ (x8_REN0 s n k l f fa fb fc fd y) (tr_cons (tLi_no h) trivial) (fun _ => rfl))
  have hLi := h
  clear h
  by_cases h : n + 1 ≤ 256
  rotate_left
  · exact LCalls_of ctxN_ok gN8 (by kernel_rfl) (MWp.out ctxN_ok 9000 _ (x8_REN1 s n k l f fa fb fc fd y) (tr_cons (tLi_ok hLi) (tr_cons (tMe_no h) trivial)) (fun _ => rfl))
  have hMe := h
  clear h
  by_cases h : ¬ 1000 < y
  rotate_left
  · exact LCalls_of ctxN_ok gN8 (by kernel_rfl) (MWp.out ctxN_ok 9000 _ (x8_REN2 s n k l f fa fb fc fd y) (tr_cons (tLi_ok hLi) (tr_cons (tMe_ok hMe) (tr_cons (tY_no h) trivial))) (fun _ => rfl))
  have hY := h
  clear h
  refine LCalls_of ctxN_ok gN8 (by kernel_rfl) (MWp.haltH ctxN_ok _ _ _ _ (n5_REN s n k l f fa fb fc fd y) (tr_cons (tLi_ok hLi) (tr_cons (tMe_ok hMe) (tr_cons (tY_ok hY) (tr_cons (tOk_ok (gokN b244) (by omega)) (tr_cons (tMx_ok hMe) (tr_cons (tR1_ok (by omega)) (tr_cons (tOk_ok (gokN b244) (by omega)) (tr_cons (tOk_ok (gokN b15) (by omega)) (tr_cons (tMx_ok hMe) (tr_cons (tR1_ok (by omega)) (tr_cons (tOk_ok (gokN b15) (by omega)) trivial))))))))))) ?_)
  intro H hnx hl hc hos
  simp only [List.map_cons, List.map_nil, List.cons.injEq, and_true] at hos
  obtain ⟨h1, h2, h3, h4, h5, h6, h7, h8, h9, h10, h11, h12⟩ := hos
  rw [gs_eq] at h2 h5
  refine tail8 (by omega) hl hc ⟨h1, h2, h3, rfl, rfl, by decide⟩ ⟨h4, h5, h6, rfl, rfl, by decide⟩ (by decide) (byN s 244) (byN s 15) fun hy H1 H' hl' hn' hP hold => ?_
  have hHb : (behind (s8c y 13 44 50 H1) (two0 12) H').H = H' := behind_H (E := env) (by rw [call8c]; rfl)
  refine MWp.few (I := [44, 41, 43, 50, 47, 48, 49, 39, 0]) (os := [(.cells (cellsPb 41 43 (mOf s) (inV 39 0 (0 + (n + 1))) (.slice none 0 0)) 54), (memL (gm (GA (lN s 15) 1) 1)), (memL (fun _ => 0)), (.cells (refC s 50 (sl 0 (n + 1))) 44), (refR s), (memL (gm (GA (lN s 15) 1) 1)), (memL (fun _ => 0)), (.fn 1 (fun i _ => .int .u8 (f (0 + i))) (n + 1) 5), (ints .u8 f (n + 1))]) (n := 1000) (by rw [hHb]; exact hl') (by rw [hHb]; omega) (by unfold big; omega) rfl (by decide) (by decide) (few_of ?_) ?_
  · rw [hHb]
    simp only [List.map_cons, List.map_nil, List.cons.injEq, and_true]
    exact ⟨hP.cells, hP.code, hP.data, (hold 50 (by omega) (by decide)).trans h7, (hold 47 (by omega) (by decide)).trans h8, (hold 48 (by omega) (by decide)).trans h9, (hold 49 (by omega) (by decide)).trans h10, (hold 39 (by omega) (by decide)).trans h11, (hold 0 (by omega) (by decide)).trans h12⟩
  · rw [bh8]
    exact MWp.out ctxZ_ok 3000 _ (n8_RN s n f (gm (GA (lN s 15) 1) 1) (fun _ => 0) y H1) (tailsR_ok hs hy (by omega) _ _) (fun _ => rfl)
end Go.Proofs.Ytnknopebjdgdjaa
namespace Go.Proofs.Ytnknopebjdgdjaa
open Go Go.Ly Go.RowKit
set_option maxRecDepth 100000 in
theorem n5_RES (s : Sv) (n k l : Nat) (f fa fb fc fd : Nat → Int) (y : Int) : haltH [1, 8, 11, 12, 85] [21, 18, 20, 44, 41, 43, 50, 47, 48, 49, 39, 0] 51 rd8 (Ly.run ctxN 9000 [(0, true), (9, true), (4, true), (2, false), (11, true), (0, true), (9, false), (1, true), (15, true), (0, true), (10, true), (0, true), (9, false), (1, true), (15, true), (0, true)] (Ly.start Try.f8 [svV s (sl 0 (n + 1)) (sls 1 0) (sls 2 l), .int .i64 y] (mkH [some (ints .u8 f (n + 1)), some (bytes2 fa fb 0), some (bytes2 fc fd l)]))) =
  (true, [tLi n, tLd l, tMe n, tY y, tOk (GA (lN s 244) 1) 1, tOd fc fd l, tMx n, tR1 n, tOk (GA (lN s 244) 1) 1, tOd fc fd l, tOk (GA (lN s 15) 1) 1, tOd fc fd l, tMx n, tR1 n, tOk (GA (lN s 15) 1) 1, tOd fc fd l], true, (Try.f8, k8, some 34, 3), v8 y 21 44 50, (true, true, true), [some (.cells (cellsPb 18 20 (mOf s) (inV 16 0 (0 + (n + 1))) (.slice none 0 0)) 54), some (memL (gs (gm (GA (lN s 244) 1) 1))), some (memL (gs (gm (GD fc fd) l))), some (.cells (cellsPb 41 43 (mOf s) (inV 39 0 (0 + (n + 1))) (.slice none 0 0)) 54), some (memL (gs (gm (GA (lN s 15) 1) 1))), some (memL (gs (gm (GD fc fd) l))), some (.cells (refC s 50 (sl 0 (n + 1))) 44), some (refR s), some (memL (gm (GA (lN s 15) 1) 1)), some (memL (gm (GD fc fd) l)), some (.fn 1 (fun i _ => .int .u8 (f (0 + i))) (n + 1) 5), some (ints .u8 f (n + 1))]) := by kernel_rfl
end Go.Proofs.Ytnknopebjdgdjaa
namespace Go.Proofs.Ytnknopebjdgdjaa
open Go Go.Ly Go.RowKit
theorem x8_RES0 (s : Sv) (n k l : Nat) (f fa fb fc fd : Nat → Int) (y : Int) : (Ly.run ctxN 9000 [(0, false)] (Ly.start Try.f8 [svV s (sl 0 (n + 1)) (sls 1 0) (sls 2 l), .int .i64 y] (mkH [some (ints .u8 f (n + 1)), some (bytes2 fa fb 0), some (bytes2 fc fd l)]))).out? = some ([((tLi n).1, false)], .bool true) := by kernel_rfl
theorem x8_RES1 (s : Sv) (n k l : Nat) (f fa fb fc fd : Nat → Int) (y : Int) : (Ly.run ctxN 9000 [(0, true), (9, false)] (Ly.start Try.f8 [svV s (sl 0 (n + 1)) (sls 1 0) (sls 2 l), .int .i64 y] (mkH [some (ints .u8 f (n + 1)), some (bytes2 fa fb 0), some (bytes2 fc fd l)]))).out? = some ([tLi n, ((tLd l).1, false)], .bool true) := by kernel_rfl
theorem x8_RES2 (s : Sv) (n k l : Nat) (f fa fb fc fd : Nat → Int) (y : Int) : (Ly.run ctxN 9000 [(0, true), (9, true), (4, false)] (Ly.start Try.f8 [svV s (sl 0 (n + 1)) (sls 1 0) (sls 2 l), .int .i64 y] (mkH [some (ints .u8 f (n + 1)), some (bytes2 fa fb 0), some (bytes2 fc fd l)]))).out? = some ([tLi n, tLd l, ((tMe n).1, false)], .bool true) := by kernel_rfl
theorem x8_RES3 (s : Sv) (n k l : Nat) (f fa fb fc fd : Nat → Int) (y : Int) : (Ly.run ctxN 9000 [(0, true), (9, true), (4, true), (2, true)] (Ly.start Try.f8 [svV s (sl 0 (n + 1)) (sls 1 0) (sls 2 l), .int .i64 y] (mkH [some (ints .u8 f (n + 1)), some (bytes2 fa fb 0), some (bytes2 fc fd l)]))).out? = some ([tLi n, tLd l, tMe n, ((tY y).1, true)], .bool true) := by kernel_rfl
theorem w8_RES (s : Sv) (n k l : Nat) (f fa fb fc fd : Nat → Int) (y : Int) (hs : s.Ok) (hd : ∀ e, e < l → B16 (fc e) ∧ B8 (fd e)) : LCalls Try.prog 8 [svV s (sl 0 (n + 1)) (sls 1 0) (sls 2 l), .int .i64 y] (mkH [some (ints .u8 f (n + 1)), some (bytes2 fa fb 0), some (bytes2 fc fd l)]) (fun u _ => u = .bool true) := by
  by_cases h : n + 1 ≤ 300
  rotate_left
  · exact LCalls_of ctxN_ok gN8 (by kernel_rfl) (MWp.out ctxN_ok 9000 _ (x8_RES0 s n k l f fa fb fc fd y) (tr_cons (tLi_no h) trivial) (fun _ => rfl))
  have hLi := h
  clear h
  by_cases h : l ≤ 300
  rotate_left
  · exact LCalls_of ctxN_ok gN8 (by kernel_rfl) (MWp.out ctxN_ok 9000 _ (x8_RES1 s n k l f fa fb fc fd y) (tr_cons (tLi_ok hLi) (tr_cons (tLd_no h) trivial)) (fun _ => rfl))
  have hLd := h
  clear h
  by_cases h : n + 1 ≤ 256
  rotate_left
  · exact LCalls_of ctxN_ok gN8 (by kernel_rfl) (MWp.out ctxN_ok 9000 _ (x8_RES2 s n k l f fa fb fc fd y) (tr_cons (tLi_ok hLi) (tr_cons (tLd_ok hLd) (tr_cons (tMe_no h) trivial))) (fun _ => rfl))
  have hMe := h
  clear h
  by_cases h : ¬ 1000 < y
  rotate_left
  · exact LCalls_of ctxN_ok gN8 (by kernel_rfl) (MWp.out ctxN_ok 9000 _ (x8_RES3 s n k l f fa fb fc fd y) (tr_cons (tLi_ok hLi) (tr_cons (tLd_ok hLd) (tr_cons (tMe_ok hMe) (tr_cons (tY_no h) trivial)))) (fun _ => rfl))
  have hY := h
  clear h
  refine LCalls_of ctxN_ok gN8 (by kernel_rfl) (MWp.haltH ctxN_ok _ _ _ _ (n5_RES s n k l f fa fb fc fd y) (tr_cons (tLi_ok hLi) (tr_cons (tLd_ok hLd) (tr_cons (tMe_ok hMe) (tr_cons (tY_ok hY) (tr_cons (tOk_ok (gokN b244) (by omega)) (tr_cons (tOd_ok hd (by omega)) (tr_cons (tMx_ok hMe) (tr_cons (tR1_ok (by omega)) (tr_cons (tOk_ok (gokN b244) (by omega)) (tr_cons (tOd_ok hd (by omega)) (tr_cons (tOk_ok (gokN b15) (by omega)) (tr_cons (tOd_ok hd (by omega)) (tr_cons (tMx_ok hMe) (tr_cons (tR1_ok (by omega)) (tr_cons (tOk_ok (gokN b15) (by omega)) (tr_cons (tOd_ok hd (by omega)) trivial)))))))))))))))) ?_)
  intro H hnx hl hc hos
  simp only [List.map_cons, List.map_nil, List.cons.injEq, and_true] at hos
  obtain ⟨h1, h2, h3, h4, h5, h6, h7, h8, h9, h10, h11, h12⟩ := hos
  rw [gs_eq] at h2 h5
  rw [gs_eq] at h3 h6
  refine tail8 (by omega) hl hc ⟨h1, h2, h3, rfl, rfl, by decide⟩ ⟨h4, h5, h6, rfl, rfl, by decide⟩ (by decide) (byN s 244) (byN s 15) fun hy H1 H' hl' hn' hP hold => ?_
  have hHb : (behind (s8c y 13 44 50 H1) (two0 12) H').H = H' := behind_H (E := env) (by rw [call8c]; rfl)
  refine MWp.few (I := [44, 41, 43, 50, 47, 48, 49, 39, 0]) (os := [(.cells (cellsPb 41 43 (mOf s) (inV 39 0 (0 + (n + 1))) (.slice none 0 0)) 54), (memL (gm (GA (lN s 15) 1) 1)), (memL (gm (GD fc fd) l)), (.cells (refC s 50 (sl 0 (n + 1))) 44), (refR s), (memL (gm (GA (lN s 15) 1) 1)), (memL (gm (GD fc fd) l)), (.fn 1 (fun i _ => .int .u8 (f (0 + i))) (n + 1) 5), (ints .u8 f (n + 1))]) (n := 1000) (by rw [hHb]; exact hl') (by rw [hHb]; omega) (by unfold big; omega) rfl (by decide) (by decide) (few_of ?_) ?_
  · rw [hHb]
    simp only [List.map_cons, List.map_nil, List.cons.injEq, and_true]
    exact ⟨hP.cells, hP.code, hP.data, (hold 50 (by omega) (by decide)).trans h7, (hold 47 (by omega) (by decide)).trans h8, (hold 48 (by omega) (by decide)).trans h9, (hold 49 (by omega) (by decide)).trans h10, (hold 39 (by omega) (by decide)).trans h11, (hold 0 (by omega) (by decide)).trans h12⟩
  · rw [bh8]
    exact MWp.out ctxZ_ok 3000 _ (n8_RN s n f (gm (GA (lN s 15) 1) 1) (gm (GD fc fd) l) y H1) (tailsR_ok hs hy (by omega) _ _) (fun _ => rfl)
end Go.Proofs.Ytnknopebjdgdjaa
namespace Go.Proofs.Ytnknopebjdgdjaa
open Go Go.Ly Go.RowKit
set_option maxRecDepth 100000 in
theorem n5_RRN (s : Sv) (n k l : Nat) (f fa fb fc fd : Nat → Int) (y : Int) : haltH [1, 8, 11, 12, 85] [22, 19, 21, 46, 43, 45, 52, 49, 50, 51, 41, 0] 53 rd8 (Ly.run ctxN 9000 [(0, true), (4, true), (9, true), (2, false), (1, true), (4, true), (3, true), (10, false), (1, true), (15, true), (1, true), (4, true), (3, true), (10, false), (1, true), (15, true)] (Ly.start Try.f8 [svV s (sl 0 (n + 1)) (sls 1 (k + 1)) nilS, .int .i64 y] (mkH [some (ints .u8 f (n + 1)), some (bytes2 fa fb (k + 1)), some (bytes2 fc fd l)]))) =
  (true, [tLi n, tLc k, tMe n, tY y, tR1 k, tR2 k, tOkB (GB fa fb k (lN s 244) 1) (0 + (k + 1)) 1, tMx n, tR1 n, tOkB (GB fa fb k (lN s 244) 1) (0 + (k + 1)) 1, tR1 k, tR2 k, tOkB (GB fa fb k (lN s 15) 1) (0 + (k + 1)) 1, tMx n, tR1 n, tOkB (GB fa fb k (lN s 15) 1) (0 + (k + 1)) 1], true, (Try.f8, k8, some 34, 3), v8 y 22 46 52, (true, true, true), [some (.cells (cellsPb 19 21 (mOf s) (inV 17 0 (0 + (n + 1))) (.slice none 0 0)) 54), some (memL (gs (gm (GB fa fb k (lN s 244) 1) (0 + (k + 1) + 1)))), some (memL (fun _ => 0)), some (.cells (cellsPb 43 45 (mOf s) (inV 41 0 (0 + (n + 1))) (.slice none 0 0)) 54), some (memL (gs (gm (GB fa fb k (lN s 15) 1) (0 + (k + 1) + 1)))), some (memL (fun _ => 0)), some (.cells (refC s 52 (sl 0 (n + 1))) 44), some (refR s), some (memL (gm (GB fa fb k (lN s 15) 1) (0 + (k + 1) + 1))), some (memL (fun _ => 0)), some (.fn 1 (fun i _ => .int .u8 (f (0 + i))) (n + 1) 5), some (ints .u8 f (n + 1))]) := by kernel_rfl
end Go.Proofs.Ytnknopebjdgdjaa
namespace Go.Proofs.Ytnknopebjdgdjaa
open Go Go.Ly Go.RowKit
set_option maxRecDepth 200000 in
theorem n8_RR (s : Sv) (n : Nat) (f F D : Nat → Int) (y : Int) (H1 : Heap) : (Ly.run ctxZ 3000 [(0, false), (25, true), (10, true), (10, true), (20, true), (2, true), (16, true), (22, false), (3, true), (22, false), (3, true), (22, false), (3, true), (22, false), (3, true), (27, false), (3, true), (27, false), (3, true), (27, false), (3, true), (27, false), (3, true), (11, true)] (behind (s8c y 13 46 52 H1) (two0 12) (vH [46, 43, 45, 52, 49, 50, 51, 41, 0] [some (.cells (cellsPb 43 45 (mOf s) (inV 41 0 (0 + (n + 1))) (.slice none 0 0)) 54), some (memL F), some (memL D), some (.cells (refC s 52 (sl 0 (n + 1))) 44), some (refR s), some (memL F), some (memL D), some (.fn 1 (fun i _ => .int .u8 (f (0 + i))) (n + 1) 5), some (ints .u8 f (n + 1))] 1000))).out? =
  some ((decide (y ≤ 0), false) :: tFl s :: tNe s.ip :: tIe s.ie :: tIg n f :: tIq n f :: tRg s F D, .bool true) := by kernel_rfl
end Go.Proofs.Ytnknopebjdgdjaa
namespace Go.Proofs.Ytnknopebjdgdjaa
open Go Go.Ly Go.RowKit
theorem x8_RRN0 (s : Sv) (n k l : Nat) (f fa fb fc fd : Nat → Int) (y : Int) : (Ly.run ctxN 9000 [(0, false)] (Ly.start Try.f8 [svV s (sl 0 (n + 1)) (sls 1 (k + 1)) nilS, .int .i64 y] (mkH [some (ints .u8 f (n + 1)), some (bytes2 fa fb (k + 1)), some (bytes2 fc fd l)]))).out? = some ([((tLi n).1, false)], .bool true) := by kernel_rfl
theorem x8_RRN1 (s : Sv) (n k l : Nat) (f fa fb fc fd : Nat → Int) (y : Int) : (Ly.run ctxN 9000 [(0, true), (4, false)] (Ly.start Try.f8 [svV s (sl 0 (n + 1)) (sls 1 (k + 1)) nilS, .int .i64 y] (mkH [some (ints .u8 f (n + 1)), some (bytes2 fa fb (k + 1)), some (bytes2 fc fd l)]))).out? = some ([tLi n, ((tLc k).1, false)], .bool true) := by kernel_rfl
theorem x8_RRN2 (s : Sv) (n k l : Nat) (f fa fb fc fd : Nat → Int) (y : Int) : (Ly.run ctxN 9000 [(0, true), (4, true), (9, false)] (Ly.start Try.f8 [svV s (sl 0 (n + 1)) (sls 1 (k + 1)) nilS, .int .i64 y] (mkH [some (ints .u8 f (n + 1)), some (bytes2 fa fb (k + 1)), some (bytes2 fc fd l)]))).out? = some ([tLi n, tLc k, ((tMe n).1, false)], .bool true) := by kernel_rfl
theorem x8_RRN3 (s : Sv) (n k l : Nat) (f fa fb fc fd : Nat → Int) (y : Int) : (Ly.run ctxN 9000 [(0, true), (4, true), (9, true), (2, true)] (Ly.start Try.f8 [svV s (sl 0 (n + 1)) (sls 1 (k + 1)) nilS, .int .i64 y] (mkH [some (ints .u8 f (n + 1)), some (bytes2 fa fb (k + 1)), some (bytes2 fc fd l)]))).out? = some ([tLi n, tLc k, tMe n, ((tY y).1, true)], .bool true) := by kernel_rfl
theorem w8_RRN (s : Sv) (n k l : Nat) (f fa fb fc fd : Nat → Int) (y : Int) (hs : s.Ok) (hb : ∀ e, e < k + 1 → B16 (fa e) ∧ B8 (fb e)) : LCalls Try.prog 8 [svV s (sl 0 (n + 1)) (sls 1 (k + 1)) nilS, .int .i64 y] (mkH [some (ints .u8 f (n + 1)), some (bytes2 fa fb (k + 1)), some (bytes2 fc fd l)]) (fun u _ => u = .bool true) := by
  by_cases h : n + 1 ≤ 300
  rotate_left
  · exact LCalls_of ctxN_ok gN8 (by kernel_rfl) (MWp.out ctxN_ok 9000 _ (x8_RRN0 s n k l f fa fb fc fd y) (tr_cons (tLi_no h) trivial) (fun _ => rfl))
  have hLi := h
  clear h
  by_cases h : k + 1 ≤ 600
  rotate_left
  · exact LCalls_of ctxN_ok gN8 (by kernel_rfl) (MWp.out ctxN_ok 9000 _ (x8_RRN1 s n k l f fa fb fc fd y) (tr_cons (tLi_ok hLi) (tr_cons (tLc_no h) trivial)) (fun _ => rfl))
  have hLc := h
  clear h
  by_cases h : n + 1 ≤ 256
  rotate_left
  · exact LCalls_of ctxN_ok gN8 (by kernel_rfl) (MWp.out ctxN_ok 9000 _ (x8_RRN2 s n k l f fa fb fc fd y) (tr_cons (tLi_ok hLi) (tr_cons (tLc_ok hLc) (tr_cons (tMe_no h) trivial))) (fun _ => rfl))
  have hMe := h
  clear h
  by_cases h : ¬ 1000 < y
  rotate_left
  · exact LCalls_of ctxN_ok gN8 (by kernel_rfl) (MWp.out ctxN_ok 9000 _ (x8_RRN3 s n k l f fa fb fc fd y) (tr_cons (tLi_ok hLi) (tr_cons (tLc_ok hLc) (tr_cons (tMe_ok hMe) (tr_cons (tY_no h) trivial)))) (fun _ => rfl))
  have hY := h
  clear h
  refine LCalls_of ctxN_ok gN8 (by kernel_rfl) (MWp.haltH ctxN_ok _ _ _ _ (n5_RRN s n k l f fa fb fc fd y) (tr_cons (tLi_ok hLi) (tr_cons (tLc_ok hLc) (tr_cons (tMe_ok hMe) (tr_cons (tY_ok hY) (tr_cons (tR1_ok (by omega)) (tr_cons (tR2_ok (by omega)) (tr_cons (tOkB_ok (gokNB b244 hb) (by omega)) (tr_cons (tMx_ok hMe) (tr_cons (tR1_ok (by omega)) (tr_cons (tOkB_ok (gokNB b244 hb) (by omega)) (tr_cons (tR1_ok (by omega)) (tr_cons (tR2_ok (by omega)) (tr_cons (tOkB_ok (gokNB b15 hb) (by omega)) (tr_cons (tMx_ok hMe) (tr_cons (tR1_ok (by omega)) (tr_cons (tOkB_ok (gokNB b15 hb) (by omega)) trivial)))))))))))))))) ?_)
  intro H hnx hl hc hos
  simp only [List.map_cons, List.map_nil, List.cons.injEq, and_true] at hos
  obtain ⟨h1, h2, h3, h4, h5, h6, h7, h8, h9, h10, h11, h12⟩ := hos
  rw [gs_eq] at h2 h5
  refine tail8 (by omega) hl hc ⟨h1, h2, h3, rfl, rfl, by decide⟩ ⟨h4, h5, h6, rfl, rfl, by decide⟩ (by decide) (byNB s 244 fa fb k) (byNB s 15 fa fb k) fun hy H1 H' hl' hn' hP hold => ?_
  have hHb : (behind (s8c y 13 46 52 H1) (two0 12) H').H = H' := behind_H (E := env) (by rw [call8c]; rfl)
  refine MWp.few (I := [46, 43, 45, 52, 49, 50, 51, 41, 0]) (os := [(.cells (cellsPb 43 45 (mOf s) (inV 41 0 (0 + (n + 1))) (.slice none 0 0)) 54), (memL (gm (GB fa fb k (lN s 15) 1) (0 + (k + 1) + 1))), (memL (fun _ => 0)), (.cells (refC s 52 (sl 0 (n + 1))) 44), (refR s), (memL (gm (GB fa fb k (lN s 15) 1) (0 + (k + 1) + 1))), (memL (fun _ => 0)), (.fn 1 (fun i _ => .int .u8 (f (0 + i))) (n + 1) 5), (ints .u8 f (n + 1))]) (n := 1000) (by rw [hHb]; exact hl') (by rw [hHb]; omega) (by unfold big; omega) rfl (by decide) (by decide) (few_of ?_) ?_
  · rw [hHb]
    simp only [List.map_cons, List.map_nil, List.cons.injEq, and_true]
    exact ⟨hP.cells, hP.code, hP.data, (hold 52 (by omega) (by decide)).trans h7, (hold 49 (by omega) (by decide)).trans h8, (hold 50 (by omega) (by decide)).trans h9, (hold 51 (by omega) (by decide)).trans h10, (hold 41 (by omega) (by decide)).trans h11, (hold 0 (by omega) (by decide)).trans h12⟩
  · rw [bh8]
    exact MWp.out ctxZ_ok 3000 _ (n8_RR s n f (gm (GB fa fb k (lN s 15) 1) (0 + (k + 1) + 1)) (fun _ => 0) y H1) (tailsR_ok hs hy (by omega) _ _) (fun _ => rfl)
end Go.Proofs.Ytnknopebjdgdjaa
namespace Go.Proofs.Ytnknopebjdgdjaa
open Go Go.Ly Go.RowKit
set_option maxRecDepth 100000 in
theorem n5_RRS (s : Sv) (n k l : Nat) (f fa fb fc fd : Nat → Int) (y : Int) : haltH [1, 8, 11, 12, 85] [22, 19, 21, 46, 43, 45, 52, 49, 50, 51, 41, 0] 53 rd8 (Ly.run ctxN 9000 [(0, true), (4, true), (4, true), (4, true), (2, false), (1, true), (4, true), (3, true), (0, true), (9, false), (1, true), (15, true), (0, true), (0, true), (4, true), (3, true), (0, true), (9, false), (1, true), (15, true), (0, true)] (Ly.start Try.f8 [svV s (sl 0 (n + 1)) (sls 1 (k + 1)) (sls 2 l), .int .i64 y] (mkH [some (ints .u8 f (n + 1)), some (bytes2 fa fb (k + 1)), some (bytes2 fc fd l)]))) =
  (true, [tLi n, tLc k, tLd l, tMe n, tY y, tR1 k, tR2 k, tOkB (GB fa fb k (lN s 244) 1) (0 + (k + 1)) 1, tOd fc fd l, tMx n, tR1 n, tOkB (GB fa fb k (lN s 244) 1) (0 + (k + 1)) 1, tOd fc fd l, tR1 k, tR2 k, tOkB (GB fa fb k (lN s 15) 1) (0 + (k + 1)) 1, tOd fc fd l, tMx n, tR1 n, tOkB (GB fa fb k (lN s 15) 1) (0 + (k + 1)) 1, tOd fc fd l], true, (Try.f8, k8, some 34, 3), v8 y 22 46 52, (true, true, true), [some (.cells (cellsPb 19 21 (mOf s) (inV 17 0 (0 + (n + 1))) (.slice none 0 0)) 54), some (memL (gs (gm (GB fa fb k (lN s 244) 1) (0 + (k + 1) + 1)))), some (memL (gs (gm (GD fc fd) l))), some (.cells (cellsPb 43 45 (mOf s) (inV 41 0 (0 + (n + 1))) (.slice none 0 0)) 54), some (memL (gs (gm (GB fa fb k (lN s 15) 1) (0 + (k + 1) + 1)))), some (memL (gs (gm (GD fc fd) l))), some (.cells (refC s 52 (sl 0 (n + 1))) 44), some (refR s), some (memL (gm (GB fa fb k (lN s 15) 1) (0 + (k + 1) + 1))), some (memL (gm (GD fc fd) l)), some (.fn 1 (fun i _ => .int .u8 (f (0 + i))) (n + 1) 5), some (ints .u8 f (n + 1))]) := by kernel_rfl
end Go.Proofs.Ytnknopebjdgdjaa
namespace Go.Proofs.Ytnknopebjdgdjaa
open Go Go.Ly Go.RowKit
theorem x8_RRS0 (s : Sv) (n k l : Nat) (f fa fb fc fd : Nat → Int) (y : Int) : (Ly.run ctxN 9000 [(0, false)] (Ly.start Try.f8 [svV s (sl 0 (n + 1)) (sls 1 (k + 1)) (sls 2 l), .int .i64 y] (mkH [some (ints .u8 f (n + 1)), some (bytes2 fa fb (k + 1)), some (bytes2 fc fd l)]))).out? = some ([((tLi n).1, false)], .bool true) := by kernel_rfl
theorem x8_RRS1 (s : Sv) (n k l : Nat) (f fa fb fc fd : Nat → Int) (y : Int) : (Ly.run ctxN 9000 [(0, true), (4, false)] (Ly.start Try.f8 [svV s (sl 0 (n + 1)) (sls 1 (k + 1)) (sls 2 l), .int .i64 y] (mkH [some (ints .u8 f (n + 1)), some (bytes2 fa fb (k + 1)), some (bytes2 fc fd l)]))).out? = some ([tLi n, ((tLc k).1, false)], .bool true) := by kernel_rfl
theorem x8_RRS2 (s : Sv) (n k l : Nat) (f fa fb fc fd : Nat → Int) (y : Int) : (Ly.run ctxN 9000 [(0, true), (4, true), (4, false)] (Ly.start Try.f8 [svV s (sl 0 (n + 1)) (sls 1 (k + 1)) (sls 2 l), .int .i64 y] (mkH [some (ints .u8 f (n + 1)), some (bytes2 fa fb (k + 1)), some (bytes2 fc fd l)]))).out? = some ([tLi n, tLc k, ((tLd l).1, false)], .bool true) := by kernel_rfl
theorem x8_RRS3 (s : Sv) (n k l : Nat) (f fa fb fc fd : Nat → Int) (y : Int) : (Ly.run ctxN 9000 [(0, true), (4, true), (4, true), (4, false)] (Ly.start Try.f8 [svV s (sl 0 (n + 1)) (sls 1 (k + 1)) (sls 2 l), .int .i64 y] (mkH [some (ints .u8 f (n + 1)), some (bytes2 fa fb (k + 1)), some (bytes2 fc fd l)]))).out? = some ([tLi n, tLc k, tLd l, ((tMe n).1, false)], .bool true) := by kernel_rfl
theorem x8_RRS4 (s : Sv) (n k l : Nat) (f fa fb fc fd : Nat → Int) (y : Int) : (Ly.run ctxN 9000 [(0, true), (4, true), (4, true), (4, true), (2, true)] (Ly.start Try.f8 [svV s (sl 0 (n + 1)) (sls 1 (k + 1)) (sls 2 l), .int .i64 y] (mkH [some (ints .u8 f (n + 1)), some (bytes2 fa fb (k + 1)), some (bytes2 fc fd l)]))).out? = some ([tLi n, tLc k, tLd l, tMe n, ((tY y).1, true)], .bool true) := by kernel_rfl
theorem w8_RRS (s : Sv) (n k l : Nat) (f fa fb fc fd : Nat → Int) (y : Int) (hs : s.Ok) (hb : ∀ e, e < k + 1 → B16 (fa e) ∧ B8 (fb e)) (hd : ∀ e, e < l → B16 (fc e) ∧ B8 (fd e)) : LCalls Try.prog 8 [svV s (sl 0 (n + 1)) (sls 1 (k + 1)) (sls 2 l), .int .i64 y] (mkH [some (ints .u8 f (n + 1)), some (bytes2 fa fb (k + 1)), some (bytes2 fc fd l)]) (fun u _ => u = .bool true) := by
  by_cases h : n + 1 ≤ 300
  rotate_left
  · exact LCalls_of ctxN_ok gN8 (by kernel_rfl) (MWp.out ctxN_ok 9000 _ (x8_RRS0 s n k l f fa fb fc fd y) (tr_cons (tLi_no h) trivial) (fun _ => rfl))
  have hLi := h
  clear h
  by_cases h : k + 1 ≤ 600
  rotate_left
  · exact LCalls_of ctxN_ok gN8 (by kernel_rfl) (MWp.out ctxN_ok 9000 _ (x8_RRS1 s n k l f fa fb fc fd y) (tr_cons (tLi_ok hLi) (tr_cons (tLc_no h) trivial)) (fun _ => rfl))
  have hLc := h
  clear h
  by_cases h : l ≤ 300
  rotate_left
  · exact LCalls_of ctxN_ok gN8 (by kernel_rfl) (MWp.out ctxN_ok 9000 _ (x8_RRS2 s n k l f fa fb fc fd y) (tr_cons (tLi_ok hLi) (tr_cons (tLc_ok hLc) (tr_cons (tLd_no h) trivial))) (fun _ => rfl))
  have hLd := h
  clear h
  by_cases h : n + 1 ≤ 256
  rotate_left
  · exact LCalls_of ctxN_ok gN8 (by kernel_rfl) (MWp.out ctxN_ok 9000 _ (x8_RRS3 s n k l f fa fb fc fd y) (tr_cons (tLi_ok hLi) (tr_cons (tLc_ok hLc) (tr_cons (tLd_ok hLd) (tr_cons (tMe_no h) trivial)))) (fun _ => rfl))
  have hMe := h
  clear h
  by_cases h : ¬ 1000 < y
  rotate_left
  · exact LCalls_of ctxN_ok gN8 (by kernel_rfl) (MWp.out ctxN_ok 9000 _ (x8_RRS4 s n k l f fa fb fc fd y) (tr_cons (tLi_ok hLi) (tr_cons (tLc_ok hLc) (tr_cons (tLd_ok hLd) (tr_cons (tMe_ok hMe) (tr_cons (tY_no h) trivial))))) (fun _ => rfl))
  have hY := h
  clear h
  refine LCalls_of ctxN_ok gN8 (by kernel_rfl) (MWp.haltH ctxN_ok _ _ _ _ (n5_RRS s n k l f fa fb fc fd y) (tr_cons (tLi_ok hLi) (tr_cons (tLc_ok hLc) (tr_cons (tLd_ok hLd) (tr_cons (tMe_ok hMe) (tr_cons (tY_ok hY) (tr_cons (tR1_ok (by omega)) (tr_cons (tR2_ok (by omega)) (tr_cons (tOkB_ok (gokNB b244 hb) (by omega)) (tr_cons (tOd_ok hd (by omega)) (tr_cons (tMx_ok hMe) (tr_cons (tR1_ok (by omega)) (tr_cons (tOkB_ok (gokNB b244 hb) (by omega)) (tr_cons (tOd_ok hd (by omega)) (tr_cons (tR1_ok (by omega)) (tr_cons (tR2_ok (by omega)) (tr_cons (tOkB_ok (gokNB b15 hb) (by omega)) (tr_cons (tOd_ok hd (by omega)) (tr_cons (tMx_ok hMe) (tr_cons (tR1_ok (by omega)) (tr_cons (tOkB_ok (gokNB b15 hb) (by omega)) (tr_cons (tOd_ok hd (by omega)) trivial))))))))))))))))))))) ?_)
  intro H hnx hl hc hos
  simp only [List.map_cons, List.map_nil, List.cons.injEq, and_true] at hos
  obtain ⟨h1, h2, h3, h4, h5, h6, h7, h8, h9, h10, h11, h12⟩ := hos
  rw [gs_eq] at h2 h5
  rw [gs_eq] at h3 h6
  refine tail8 (by omega) hl hc ⟨h1, h2, h3, rfl, rfl, by decide⟩ ⟨h4, h5, h6, rfl, rfl, by decide⟩ (by decide) (byNB s 244 fa fb k) (byNB s 15 fa fb k) fun hy H1 H' hl' hn' hP hold => ?_
  have hHb : (behind (s8c y 13 46 52 H1) (two0 12) H').H = H' := behind_H (E := env) (by rw [call8c]; rfl)
  refine MWp.few (I := [46, 43, 45, 52, 49, 50, 51, 41, 0]) (os := [(.cells (cellsPb 43 45 (mOf s) (inV 41 0 (0 + (n + 1))) (.slice none 0 0)) 54), (memL (gm (GB fa fb k (lN s 15) 1) (0 + (k + 1) + 1))), (memL (gm (GD fc fd) l)), (.cells (refC s 52 (sl 0 (n + 1))) 44), (refR s), (memL (gm (GB fa fb k (lN s 15) 1) (0 + (k + 1) + 1))), (memL (gm (GD fc fd) l)), (.fn 1 (fun i _ => .int .u8 (f (0 + i))) (n + 1) 5), (ints .u8 f (n + 1))]) (n := 1000) (by rw [hHb]; exact hl') (by rw [hHb]; omega) (by unfold big; omega) rfl (by decide) (by decide) (few_of ?_) ?_
  · rw [hHb]
    simp only [List.map_cons, List.map_nil, List.cons.injEq, and_true]
    exact ⟨hP.cells, hP.code, hP.data, (hold 52 (by omega) (by decide)).trans h7, (hold 49 (by omega) (by decide)).trans h8, (hold 50 (by omega) (by decide)).trans h9, (hold 51 (by omega) (by decide)).trans h10, (hold 41 (by omega) (by decide)).trans h11, (hold 0 (by omega) (by decide)).trans h12⟩
  · rw [bh8]
    exact MWp.out ctxZ_ok 3000 _ (n8_RR s n f (gm (GB fa fb k (lN s 15) 1) (0 + (k + 1) + 1)) (gm (GD fc fd) l) y H1) (tailsR_ok hs hy (by omega) _ _) (fun _ => rfl)
end Go.Proofs.Ytnknopebjdgdjaa
namespace Go.Proofs.Ytnknopebjdgdjaa
open Go Go.Ly Go.RowKit
def MRowS (w : World) (i : Nat) (a b : Nat → Int) (n : Nat) (loc v : Value) (p : Option Plc) : Prop :=
  (loc = .slice none 0 0 ∧ v = .slice none 0 0 ∧ n = 0 ∧ p = none) ∨ (loc = sls i n ∧ RealRows w 2 (fun e j => match j with | 0 => .int .u16 (a e) | _ + 1 => .int .u8 (b e)) n v p)
theorem m_casesS {w : World} (i : Nat) {v : Value} (h : CkOk w (.slice [.int .u16, .int .u8]) v) : ∃ (a b : Nat → Int) (n : Nat) (loc : Value) (p : Option Plc), MRowS w i a b n loc v p ∧ (∀ e, e < n → B16 (a e) ∧ B8 (b e)) ∧ n ≤ maxLen := by
  rcases ck_bytes2 h with rfl | ⟨n, a, b, p, hr, hf, hn⟩
  · exact ⟨fun _ => 0, fun _ => 0, 0, .slice none 0 0, none, .inl ⟨rfl, rfl, rfl, rfl⟩, fun e he => by omega, by simp [maxLen]⟩
  · exact ⟨a, b, n, sls i n, p, .inr ⟨rfl, hr⟩, hf, hn⟩
theorem calls_startS {W : World} {F : FuncId} {s : Sv} {f a b c d : Nat → Int} {n k l : Nat} {li lm ld iv mv dv : Value} {pi pm pd : Option Plc} {rest : List Value} (hi : InRow W 0 f n li iv pi) (hm : MRowS W 1 a b k lm mv pm) (hd : MRowS W 2 c d l ld dv pd) (hp : plainL rest = true)
    (h : LCalls Try.prog F (svV s li lm ld :: rest) (mkH [some (ints .u8 f n), some (bytes2 a b k), some (bytes2 c d l)]) (fun u _ => u = .bool true)) :
    Calls Try.prog F ⟨svV s iv mv dv :: rest⟩ W (fun e W' => e = .returned (.bool true) ∧ Below W.heap.size W W') := by
  have hrep : Rep (rowsRenW [pi, pm, pd] (fun i => if i = 0 then 1 else 2)) (mkH [some (ints .u8 f n), some (bytes2 a b k), some (bytes2 c d l)]) W := by
    refine rowsW_rep (l := [pi, pm, pd]) (rs := [(1, fun e _ => .int .u8 (f e), n), (2, fun e j => match j with | 0 => .int .u16 (a e) | _ + 1 => .int .u8 (b e), k), (2, fun e j => match j with | 0 => .int .u16 (c e) | _ + 1 => .int .u8 (d e), l)]) rfl (by simp) (fun i q hq => ?_) (fun i k' g n' hr => ?_)
    · match i, hq with
      | 0, hq =>
        simp at hq
        rcases hi with ⟨_, _, _, rfl⟩ | ⟨_, hr⟩
        · cases hq
        · exact hr.low q hq
      | 1, hq =>
        simp at hq
        rcases hm with ⟨_, _, _, rfl⟩ | ⟨_, hr⟩
        · cases hq
        · exact hr.low q hq
      | 2, hq =>
        simp at hq
        rcases hd with ⟨_, _, _, rfl⟩ | ⟨_, hr⟩
        · cases hq
        · exact hr.low q hq
      | i + 3, hq => simp at hq
    · match i, hr with
      | 0, hr =>
        simp at hr
        obtain ⟨rfl, rfl, rfl⟩ := hr
        refine ⟨rfl, fun e j he hj => ?_⟩
        rcases hi with ⟨_, _, h0, _⟩ | ⟨_, hr⟩
        · omega
        · exact ⟨hr.one e j he hj, hr.cell e j he hj⟩
      | 1, hr =>
        simp at hr
        obtain ⟨rfl, rfl, rfl⟩ := hr
        refine ⟨rfl, fun e j he hj => ?_⟩
        rcases hm with ⟨_, _, h0, _⟩ | ⟨_, hr⟩
        · omega
        · exact ⟨hr.one e j he hj, hr.cell e j he hj⟩
      | 2, hr =>
        simp at hr
        obtain ⟨rfl, rfl, rfl⟩ := hr
        refine ⟨rfl, fun e j he hj => ?_⟩
        rcases hd with ⟨_, _, h0, _⟩ | ⟨_, hr⟩
        · omega
        · exact ⟨hr.one e j he hj, hr.cell e j he hj⟩
      | i + 3, hr => simp at hr
  have vi : VR (rowsRenW [pi, pm, pd] (fun i => if i = 0 then 1 else 2)) li iv := by
    rcases hi with ⟨rfl, rfl, _, _⟩ | ⟨rfl, hr⟩
    · simp [VR]
    · exact slW_VR hr rfl
  have vm : VR (rowsRenW [pi, pm, pd] (fun i => if i = 0 then 1 else 2)) lm mv := by
    rcases hm with ⟨rfl, rfl, _, _⟩ | ⟨rfl, hr⟩
    · simp [VR]
    · exact VR_sls (slW_VR hr rfl)
  have vd : VR (rowsRenW [pi, pm, pd] (fun i => if i = 0 then 1 else 2)) ld dv := by
    rcases hd with ⟨rfl, rfl, _, _⟩ | ⟨rfl, hr⟩
    · simp [VR]
    · exact VR_sls (slW_VR hr rfl)
  refine calls_ro h rfl ?_ hrep (fun _ => rfl)
  simp only [VRL]
  refine ⟨_, rest, ?_, plainL_VR _ hp, rfl⟩
  simp only [svV, VR, VRL]
  exact ⟨_, ⟨_, _, rfl, ⟨_, _, rfl, ⟨_, _, rfl, ⟨_, _, rfl, ⟨_, _, rfl, ⟨_, _, rfl, ⟨_, _, rfl, ⟨_, _, rfl, ⟨_, _, rfl, ⟨_, _, rfl, ⟨_, _, rfl, ⟨_, _, rfl, ⟨_, _, rfl, ⟨_, _, rfl, ⟨_, _, rfl, ⟨_, _, vi, ⟨_, _, vm, ⟨_, _, vd, rfl, rfl⟩, rfl⟩, rfl⟩, rfl⟩, rfl⟩, rfl⟩, rfl⟩, rfl⟩, rfl⟩, rfl⟩, rfl⟩, rfl⟩, rfl⟩, rfl⟩, rfl⟩, rfl⟩, rfl⟩, rfl⟩, rfl⟩
abbrev TrueAt (F : FuncId) (args : List Value) (r0 r1 r2 : LO) : Prop := LCalls Try.prog F args (mkH [some r0, some r1, some r2]) (fun u _ => u = .bool true)
theorem start_law {W : World} {F : FuncId} {v : Value} {rest : List Value} (h : ∃ cs, v = .agg ⟨cs⟩ ∧ CksOk W [.int .u16, .int .u16, .int .u16, .int .u16, .int .u16, .int .u16, .int .u16, .int .u16, .bool, .bool, .bool, .bool, .bool, .int .u16, .bool, .slice [.int .u8], .slice [.int .u16, .int .u8], .slice [.int .u16, .int .u8]] cs) (hp : plainL rest = true)
    (hNNN : ∀ (s : Sv) (n k l : Nat) (f fa fb fc fd : Nat → Int), s.Ok → TrueAt F (svV s nilS nilS nilS :: rest) (ints .u8 f n) (bytes2 fa fb k) (bytes2 fc fd l))
    (hNNS : ∀ (s : Sv) (n k l : Nat) (f fa fb fc fd : Nat → Int), s.Ok → (∀ e, e < l → B16 (fc e) ∧ B8 (fd e)) → TrueAt F (svV s nilS nilS (sls 2 l) :: rest) (ints .u8 f n) (bytes2 fa fb k) (bytes2 fc fd l))
    (hNEN : ∀ (s : Sv) (n k l : Nat) (f fa fb fc fd : Nat → Int), s.Ok → TrueAt F (svV s nilS (sls 1 0) nilS :: rest) (ints .u8 f n) (bytes2 fa fb 0) (bytes2 fc fd l))
    (hNES : ∀ (s : Sv) (n k l : Nat) (f fa fb fc fd : Nat → Int), s.Ok → (∀ e, e < l → B16 (fc e) ∧ B8 (fd e)) → TrueAt F (svV s nilS (sls 1 0) (sls 2 l) :: rest) (ints .u8 f n) (bytes2 fa fb 0) (bytes2 fc fd l))
    (hNRN : ∀ (s : Sv) (n k l : Nat) (f fa fb fc fd : Nat → Int), s.Ok → (∀ e, e < k + 1 → B16 (fa e) ∧ B8 (fb e)) → TrueAt F (svV s nilS (sls 1 (k + 1)) nilS :: rest) (ints .u8 f n) (bytes2 fa fb (k + 1)) (bytes2 fc fd l))
    (hNRS : ∀ (s : Sv) (n k l : Nat) (f fa fb fc fd : Nat → Int), s.Ok → (∀ e, e < k + 1 → B16 (fa e) ∧ B8 (fb e)) → (∀ e, e < l → B16 (fc e) ∧ B8 (fd e)) → TrueAt F (svV s nilS (sls 1 (k + 1)) (sls 2 l) :: rest) (ints .u8 f n) (bytes2 fa fb (k + 1)) (bytes2 fc fd l))
    (hENN : ∀ (s : Sv) (n k l : Nat) (f fa fb fc fd : Nat → Int), s.Ok → TrueAt F (svV s (sl 0 0) nilS nilS :: rest) (ints .u8 f 0) (bytes2 fa fb k) (bytes2 fc fd l))
    (hENS : ∀ (s : Sv) (n k l : Nat) (f fa fb fc fd : Nat → Int), s.Ok → (∀ e, e < l → B16 (fc e) ∧ B8 (fd e)) → TrueAt F (svV s (sl 0 0) nilS (sls 2 l) :: rest) (ints .u8 f 0) (bytes2 fa fb k) (bytes2 fc fd l))
    (hEEN : ∀ (s : Sv) (n k l : Nat) (f fa fb fc fd : Nat → Int), s.Ok → TrueAt F (svV s (sl 0 0) (sls 1 0) nilS :: rest) (ints .u8 f 0) (bytes2 fa fb 0) (bytes2 fc fd l))
    (hEES : ∀ (s : Sv) (n k l : Nat) (f fa fb fc fd : Nat → Int), s.Ok → (∀ e, e < l → B16 (fc e) ∧ B8 (fd e)) → TrueAt F (svV s (sl 0 0) (sls 1 0) (sls 2 l) :: rest) (ints .u8 f 0) (bytes2 fa fb 0) (bytes2 fc fd l))
    (hERN : ∀ (s : Sv) (n k l : Nat) (f fa fb fc fd : Nat → Int), s.Ok → (∀ e, e < k + 1 → B16 (fa e) ∧ B8 (fb e)) → TrueAt F (svV s (sl 0 0) (sls 1 (k + 1)) nilS :: rest) (ints .u8 f 0) (bytes2 fa fb (k + 1)) (bytes2 fc fd l))
    (hERS : ∀ (s : Sv) (n k l : Nat) (f fa fb fc fd : Nat → Int), s.Ok → (∀ e, e < k + 1 → B16 (fa e) ∧ B8 (fb e)) → (∀ e, e < l → B16 (fc e) ∧ B8 (fd e)) → TrueAt F (svV s (sl 0 0) (sls 1 (k + 1)) (sls 2 l) :: rest) (ints .u8 f 0) (bytes2 fa fb (k + 1)) (bytes2 fc fd l))
    (hRNN : ∀ (s : Sv) (n k l : Nat) (f fa fb fc fd : Nat → Int), s.Ok → (∀ e, e < n + 1 → B8 (f e)) → TrueAt F (svV s (sl 0 (n + 1)) nilS nilS :: rest) (ints .u8 f (n + 1)) (bytes2 fa fb k) (bytes2 fc fd l))
    (hRNS : ∀ (s : Sv) (n k l : Nat) (f fa fb fc fd : Nat → Int), s.Ok → (∀ e, e < n + 1 → B8 (f e)) → (∀ e, e < l → B16 (fc e) ∧ B8 (fd e)) → TrueAt F (svV s (sl 0 (n + 1)) nilS (sls 2 l) :: rest) (ints .u8 f (n + 1)) (bytes2 fa fb k) (bytes2 fc fd l))
    (hREN : ∀ (s : Sv) (n k l : Nat) (f fa fb fc fd : Nat → Int), s.Ok → (∀ e, e < n + 1 → B8 (f e)) → TrueAt F (svV s (sl 0 (n + 1)) (sls 1 0) nilS :: rest) (ints .u8 f (n + 1)) (bytes2 fa fb 0) (bytes2 fc fd l))
    (hRES : ∀ (s : Sv) (n k l : Nat) (f fa fb fc fd : Nat → Int), s.Ok → (∀ e, e < n + 1 → B8 (f e)) → (∀ e, e < l → B16 (fc e) ∧ B8 (fd e)) → TrueAt F (svV s (sl 0 (n + 1)) (sls 1 0) (sls 2 l) :: rest) (ints .u8 f (n + 1)) (bytes2 fa fb 0) (bytes2 fc fd l))
    (hRRN : ∀ (s : Sv) (n k l : Nat) (f fa fb fc fd : Nat → Int), s.Ok → (∀ e, e < n + 1 → B8 (f e)) → (∀ e, e < k + 1 → B16 (fa e) ∧ B8 (fb e)) → TrueAt F (svV s (sl 0 (n + 1)) (sls 1 (k + 1)) nilS :: rest) (ints .u8 f (n + 1)) (bytes2 fa fb (k + 1)) (bytes2 fc fd l))
    (hRRS : ∀ (s : Sv) (n k l : Nat) (f fa fb fc fd : Nat → Int), s.Ok → (∀ e, e < n + 1 → B8 (f e)) → (∀ e, e < k + 1 → B16 (fa e) ∧ B8 (fb e)) → (∀ e, e < l → B16 (fc e) ∧ B8 (fd e)) → TrueAt F (svV s (sl 0 (n + 1)) (sls 1 (k + 1)) (sls 2 l) :: rest) (ints .u8 f (n + 1)) (bytes2 fa fb (k + 1)) (bytes2 fc fd l)) :
    Calls Try.prog F ⟨v :: rest⟩ W (fun e W' => e = .returned (.bool true) ∧ Below W.heap.size W W') := by
  obtain ⟨s, iv, cv, dv, hs, rfl, hi, hc, hd⟩ := sv_open h
  obtain ⟨f, n, li, pi, hI, hf, _⟩ := in_cases hi
  obtain ⟨a, b, k, lc, pc, hC, hb, _⟩ := m_casesS 1 hc
  obtain ⟨c, d, l, ld, pd, hD, hdd, _⟩ := m_casesS 2 hd
  refine calls_startS hI hC hD hp ?_
  rcases hI with ⟨rfl, _, _, _⟩ | ⟨rfl, _⟩ <;> rcases hC with ⟨rfl, _, _, _⟩ | ⟨rfl, _⟩ <;> rcases hD with ⟨rfl, _, _, _⟩ | ⟨rfl, _⟩
  · exact hNNN s n k l f a b c d hs
  · exact hNNS s n k l f a b c d hs hdd
  · rcases k with _ | k
    · exact hNEN s n 0 l f a b c d hs
    · exact hNRN s n k l f a b c d hs hb
  · rcases k with _ | k
    · exact hNES s n 0 l f a b c d hs hdd
    · exact hNRS s n k l f a b c d hs hb hdd
  · rcases n with _ | n
    · exact hENN s 0 k l f a b c d hs
    · exact hRNN s n k l f a b c d hs hf
  · rcases n with _ | n
    · exact hENS s 0 k l f a b c d hs hdd
    · exact hRNS s n k l f a b c d hs hf hdd
  · rcases n with _ | n <;> rcases k with _ | k
    · exact hEEN s 0 0 l f a b c d hs
    · exact hERN s 0 k l f a b c d hs hb
    · exact hREN s n 0 l f a b c d hs hf
    · exact hRRN s n k l f a b c d hs hf hb
  · rcases n with _ | n <;> rcases k with _ | k
    · exact hEES s 0 0 l f a b c d hs hdd
    · exact hERS s 0 k l f a b c d hs hb hdd
    · exact hRES s n 0 l f a b c d hs hf hdd
    · exact hRRS s n k l f a b c d hs hf hb hdd
end Go.Proofs.Ytnknopebjdgdjaa
namespace Go.Proofs.Ytnknopebjdgdjaa
open Go Go.Ly Go.RowKit
theorem nils_walk (W : World) (v0 v1 : Value) (h0 : ∃ cs, v0 = .agg ⟨cs⟩ ∧ CksOk W [.int .u16, .int .u16, .int .u16, .int .u16, .int .u16, .int .u16, .int .u16, .int .u16, .bool, .bool, .bool, .bool, .bool, .int .u16, .bool, .slice [.int .u8], .slice [.int .u16, .int .u8], .slice [.int .u16, .int .u8]] cs) (h1 : CkOk W (.int .i64) v1) :
    Calls Try.prog 8 #[v0, v1] W fun e W' => e = .returned (.bool true) ∧ Below W.heap.size W W' := by
  simp only [CkOk] at h1
  obtain ⟨y, rfl, _⟩ := h1
  refine start_law h0 (rest := [.int .i64 y]) (by simp [plain, plainL]) ?_ ?_ ?_ ?_ ?_ ?_ ?_ ?_ ?_ ?_ ?_ ?_ ?_ ?_ ?_ ?_ ?_ ?_
  · intro s n k l f fa fb fc fd hs
    exact w8_NNN s n k l f fa fb fc fd y hs
  · intro s n k l f fa fb fc fd hs hd
    exact w8_NNS s n k l f fa fb fc fd y hs hd
  · intro s n k l f fa fb fc fd hs
    exact w8_NEN s n k l f fa fb fc fd y hs
  · intro s n k l f fa fb fc fd hs hd
    exact w8_NES s n k l f fa fb fc fd y hs hd
  · intro s n k l f fa fb fc fd hs hb
    exact w8_NRN s n k l f fa fb fc fd y hs hb
  · intro s n k l f fa fb fc fd hs hb hd
    exact w8_NRS s n k l f fa fb fc fd y hs hb hd
  · intro s n k l f fa fb fc fd hs
    exact w8_ENN s n k l f fa fb fc fd y hs
  · intro s n k l f fa fb fc fd hs hd
    exact w8_ENS s n k l f fa fb fc fd y hs hd
  · intro s n k l f fa fb fc fd hs
    exact w8_EEN s n k l f fa fb fc fd y hs
  · intro s n k l f fa fb fc fd hs hd
    exact w8_EES s n k l f fa fb fc fd y hs hd
  · intro s n k l f fa fb fc fd hs hb
    exact w8_ERN s n k l f fa fb fc fd y hs hb
  · intro s n k l f fa fb fc fd hs hb hd
    exact w8_ERS s n k l f fa fb fc fd y hs hb hd
  · intro s n k l f fa fb fc fd hs hf
    exact w8_RNN s n k l f fa fb fc fd y hs
  · intro s n k l f fa fb fc fd hs hf hd
    exact w8_RNS s n k l f fa fb fc fd y hs hd
  · intro s n k l f fa fb fc fd hs hf
    exact w8_REN s n k l f fa fb fc fd y hs
  · intro s n k l f fa fb fc fd hs hf hd
    exact w8_RES s n k l f fa fb fc fd y hs hd
  · intro s n k l f fa fb fc fd hs hf hb
    exact w8_RRN s n k l f fa fb fc fd y hs hb
  · intro s n k l f fa fb fc fd hs hf hb hd
    exact w8_RRS s n k l f fa fb fc fd y hs hb hd
end Go.Proofs.Ytnknopebjdgdjaa
end
