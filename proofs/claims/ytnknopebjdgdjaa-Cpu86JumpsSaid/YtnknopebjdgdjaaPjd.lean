/- Part 4 of the texts that the law needs, laid together. By program (pack.py). -/
import Derived.Test.YtnknopebjdgdjaaPjc
import Derived.KernelRfl
set_option linter.unusedVariables false
set_option linter.unusedSimpArgs false
noncomputable section
namespace Go.Proofs.Ytnknopebjdgdjaa
open Go Go.Ly Go.RowKit
theorem tLi_no {n : Nat} (h : ¬ n + 1 ≤ 300) : trusted [((tLi n).1, false)] := ⟨by show (decide (((n + 1 : Nat) : Int) ≤ 300) == true) = false; rw [decide_eq_false (by omega)]; rfl, trivial⟩
theorem tLc_no {k : Nat} (h : ¬ k + 1 ≤ 600) : trusted [((tLc k).1, false)] := ⟨by show (decide (((k + 1 : Nat) : Int) ≤ 600) == true) = false; rw [decide_eq_false (by omega)]; rfl, trivial⟩
theorem tLd_no {l : Nat} (h : ¬ l ≤ 300) : trusted [((tLd l).1, false)] := ⟨by show ((!(decide ((l : Int) ≤ 300))) == false) = false; rw [decide_eq_false (by omega)]; rfl, trivial⟩
theorem tMe_no {n : Nat} (h : ¬ n + 1 ≤ 256) : trusted [((tMe n).1, false)] := ⟨by show (decide ((256 : Int) < ((n + 1 : Nat) : Int)) == false) = false; rw [decide_eq_true (by omega)]; rfl, trivial⟩
theorem tCd_no {op : Int} (h : condB op = false) : trusted [((tCd op).1, false)] := ⟨by show ((!(condB op)) == false) = false; rw [h]; rfl, trivial⟩
theorem tMd_no {op : Int} (h : (op.tmod 2 == 1) = true) : trusted [((tMd op).1, true)] := ⟨h, trivial⟩
theorem tNr_no {x : Int} (h : nearB x = false) : trusted [((tNr x).1, false)] := ⟨h, trivial⟩
theorem tX0_no {x : Int} (h : (x == 0) = true) : trusted [((tX0 x).1, true)] := ⟨h, trivial⟩
theorem x5_NNN0 (s : Sv) (n k l : Nat) (f fa fb fc fd : Nat → Int) (op x : Int) : (Ly.run ctxK 9000 [(20, false)] (Ly.start Try.f5 [svV s nilS nilS nilS, .int .i64 op, .int .u16 x] (mkH [some (ints .u8 f n), some (bytes2 fa fb k), some (bytes2 fc fd l)]))).out? = some ([((tCd op).1, false)], .bool true) := by kernel_rfl
theorem x5_NNN1 (s : Sv) (n k l : Nat) (f fa fb fc fd : Nat → Int) (op x : Int) : (Ly.run ctxK 9000 [(20, true), (4, true)] (Ly.start Try.f5 [svV s nilS nilS nilS, .int .i64 op, .int .u16 x] (mkH [some (ints .u8 f n), some (bytes2 fa fb k), some (bytes2 fc fd l)]))).out? = some ([tCd op, ((tMd op).1, true)], .bool true) := by kernel_rfl
theorem x5_NNN3 (s : Sv) (n k l : Nat) (f fa fb fc fd : Nat → Int) (op x : Int) : (Ly.run ctxK 9000 [(20, true), (4, false), (0, true), (0, false), (0, true), (0, false)] (Ly.start Try.f5 [svV s nilS nilS nilS, .int .i64 op, .int .u16 x] (mkH [some (ints .u8 f n), some (bytes2 fa fb k), some (bytes2 fc fd l)]))).out? = some ([tCd op, tMd op, tC1 op x, ((tNr x).1, false), tC1 (op1 op) x, ((tNr x).1, false)], .bool true) := by kernel_rfl
theorem x5_NNN6 (s : Sv) (n k l : Nat) (f fa fb fc fd : Nat → Int) (op x : Int) : (Ly.run ctxK 9000 [(20, true), (4, false), (0, true), (0, true), (0, true), (0, true), (6, true)] (Ly.start Try.f5 [svV s nilS nilS nilS, .int .i64 op, .int .u16 x] (mkH [some (ints .u8 f n), some (bytes2 fa fb k), some (bytes2 fc fd l)]))).out? = some ([tCd op, tMd op, tC1 op x, tNr x, tC1 (op1 op) x, tNr x, ((tX0 x).1, true)], .bool true) := by kernel_rfl
theorem x5_NNS0 (s : Sv) (n k l : Nat) (f fa fb fc fd : Nat → Int) (op x : Int) : (Ly.run ctxK 9000 [(10, false)] (Ly.start Try.f5 [svV s nilS nilS (sls 2 l), .int .i64 op, .int .u16 x] (mkH [some (ints .u8 f n), some (bytes2 fa fb k), some (bytes2 fc fd l)]))).out? = some ([((tLd l).1, false)], .bool true) := by kernel_rfl
theorem x5_NNS1 (s : Sv) (n k l : Nat) (f fa fb fc fd : Nat → Int) (op x : Int) : (Ly.run ctxK 9000 [(10, true), (9, false)] (Ly.start Try.f5 [svV s nilS nilS (sls 2 l), .int .i64 op, .int .u16 x] (mkH [some (ints .u8 f n), some (bytes2 fa fb k), some (bytes2 fc fd l)]))).out? = some ([tLd l, ((tCd op).1, false)], .bool true) := by kernel_rfl
theorem x5_NNS2 (s : Sv) (n k l : Nat) (f fa fb fc fd : Nat → Int) (op x : Int) : (Ly.run ctxK 9000 [(10, true), (9, true), (4, true)] (Ly.start Try.f5 [svV s nilS nilS (sls 2 l), .int .i64 op, .int .u16 x] (mkH [some (ints .u8 f n), some (bytes2 fa fb k), some (bytes2 fc fd l)]))).out? = some ([tLd l, tCd op, ((tMd op).1, true)], .bool true) := by kernel_rfl
theorem x5_NNS4 (s : Sv) (n k l : Nat) (f fa fb fc fd : Nat → Int) (op x : Int) : (Ly.run ctxK 9000 [(10, true), (9, true), (4, false), (0, true), (0, false), (0, true), (0, false)] (Ly.start Try.f5 [svV s nilS nilS (sls 2 l), .int .i64 op, .int .u16 x] (mkH [some (ints .u8 f n), some (bytes2 fa fb k), some (bytes2 fc fd l)]))).out? = some ([tLd l, tCd op, tMd op, tC1 op x, ((tNr x).1, false), tC1 (op1 op) x, ((tNr x).1, false)], .bool true) := by kernel_rfl
theorem x5_NNS7 (s : Sv) (n k l : Nat) (f fa fb fc fd : Nat → Int) (op x : Int) : (Ly.run ctxK 9000 [(10, true), (9, true), (4, false), (0, true), (0, true), (0, true), (0, true), (6, true)] (Ly.start Try.f5 [svV s nilS nilS (sls 2 l), .int .i64 op, .int .u16 x] (mkH [some (ints .u8 f n), some (bytes2 fa fb k), some (bytes2 fc fd l)]))).out? = some ([tLd l, tCd op, tMd op, tC1 op x, tNr x, tC1 (op1 op) x, tNr x, ((tX0 x).1, true)], .bool true) := by kernel_rfl
theorem x5_NEN0 (s : Sv) (n k l : Nat) (f fa fb fc fd : Nat → Int) (op x : Int) : (Ly.run ctxK 9000 [(20, false)] (Ly.start Try.f5 [svV s nilS (sls 1 0) nilS, .int .i64 op, .int .u16 x] (mkH [some (ints .u8 f n), some (bytes2 fa fb 0), some (bytes2 fc fd l)]))).out? = some ([((tCd op).1, false)], .bool true) := by kernel_rfl
theorem x5_NEN1 (s : Sv) (n k l : Nat) (f fa fb fc fd : Nat → Int) (op x : Int) : (Ly.run ctxK 9000 [(20, true), (4, true)] (Ly.start Try.f5 [svV s nilS (sls 1 0) nilS, .int .i64 op, .int .u16 x] (mkH [some (ints .u8 f n), some (bytes2 fa fb 0), some (bytes2 fc fd l)]))).out? = some ([tCd op, ((tMd op).1, true)], .bool true) := by kernel_rfl
theorem x5_NEN3 (s : Sv) (n k l : Nat) (f fa fb fc fd : Nat → Int) (op x : Int) : (Ly.run ctxK 9000 [(20, true), (4, false), (0, true), (0, false), (0, true), (0, false)] (Ly.start Try.f5 [svV s nilS (sls 1 0) nilS, .int .i64 op, .int .u16 x] (mkH [some (ints .u8 f n), some (bytes2 fa fb 0), some (bytes2 fc fd l)]))).out? = some ([tCd op, tMd op, tC1 op x, ((tNr x).1, false), tC1 (op1 op) x, ((tNr x).1, false)], .bool true) := by kernel_rfl
theorem x5_NEN6 (s : Sv) (n k l : Nat) (f fa fb fc fd : Nat → Int) (op x : Int) : (Ly.run ctxK 9000 [(20, true), (4, false), (0, true), (0, true), (0, true), (0, true), (6, true)] (Ly.start Try.f5 [svV s nilS (sls 1 0) nilS, .int .i64 op, .int .u16 x] (mkH [some (ints .u8 f n), some (bytes2 fa fb 0), some (bytes2 fc fd l)]))).out? = some ([tCd op, tMd op, tC1 op x, tNr x, tC1 (op1 op) x, tNr x, ((tX0 x).1, true)], .bool true) := by kernel_rfl
theorem x5_NES0 (s : Sv) (n k l : Nat) (f fa fb fc fd : Nat → Int) (op x : Int) : (Ly.run ctxK 9000 [(10, false)] (Ly.start Try.f5 [svV s nilS (sls 1 0) (sls 2 l), .int .i64 op, .int .u16 x] (mkH [some (ints .u8 f n), some (bytes2 fa fb 0), some (bytes2 fc fd l)]))).out? = some ([((tLd l).1, false)], .bool true) := by kernel_rfl
theorem x5_NES1 (s : Sv) (n k l : Nat) (f fa fb fc fd : Nat → Int) (op x : Int) : (Ly.run ctxK 9000 [(10, true), (9, false)] (Ly.start Try.f5 [svV s nilS (sls 1 0) (sls 2 l), .int .i64 op, .int .u16 x] (mkH [some (ints .u8 f n), some (bytes2 fa fb 0), some (bytes2 fc fd l)]))).out? = some ([tLd l, ((tCd op).1, false)], .bool true) := by kernel_rfl
theorem x5_NES2 (s : Sv) (n k l : Nat) (f fa fb fc fd : Nat → Int) (op x : Int) : (Ly.run ctxK 9000 [(10, true), (9, true), (4, true)] (Ly.start Try.f5 [svV s nilS (sls 1 0) (sls 2 l), .int .i64 op, .int .u16 x] (mkH [some (ints .u8 f n), some (bytes2 fa fb 0), some (bytes2 fc fd l)]))).out? = some ([tLd l, tCd op, ((tMd op).1, true)], .bool true) := by kernel_rfl
theorem x5_NES4 (s : Sv) (n k l : Nat) (f fa fb fc fd : Nat → Int) (op x : Int) : (Ly.run ctxK 9000 [(10, true), (9, true), (4, false), (0, true), (0, false), (0, true), (0, false)] (Ly.start Try.f5 [svV s nilS (sls 1 0) (sls 2 l), .int .i64 op, .int .u16 x] (mkH [some (ints .u8 f n), some (bytes2 fa fb 0), some (bytes2 fc fd l)]))).out? = some ([tLd l, tCd op, tMd op, tC1 op x, ((tNr x).1, false), tC1 (op1 op) x, ((tNr x).1, false)], .bool true) := by kernel_rfl
theorem x5_NES7 (s : Sv) (n k l : Nat) (f fa fb fc fd : Nat → Int) (op x : Int) : (Ly.run ctxK 9000 [(10, true), (9, true), (4, false), (0, true), (0, true), (0, true), (0, true), (6, true)] (Ly.start Try.f5 [svV s nilS (sls 1 0) (sls 2 l), .int .i64 op, .int .u16 x] (mkH [some (ints .u8 f n), some (bytes2 fa fb 0), some (bytes2 fc fd l)]))).out? = some ([tLd l, tCd op, tMd op, tC1 op x, tNr x, tC1 (op1 op) x, tNr x, ((tX0 x).1, true)], .bool true) := by kernel_rfl
theorem x5_NRN0 (s : Sv) (n k l : Nat) (f fa fb fc fd : Nat → Int) (op x : Int) : (Ly.run ctxK 9000 [(5, false)] (Ly.start Try.f5 [svV s nilS (sls 1 (k + 1)) nilS, .int .i64 op, .int .u16 x] (mkH [some (ints .u8 f n), some (bytes2 fa fb (k + 1)), some (bytes2 fc fd l)]))).out? = some ([((tLc k).1, false)], .bool true) := by kernel_rfl
theorem x5_NRN1 (s : Sv) (n k l : Nat) (f fa fb fc fd : Nat → Int) (op x : Int) : (Ly.run ctxK 9000 [(5, true), (14, false)] (Ly.start Try.f5 [svV s nilS (sls 1 (k + 1)) nilS, .int .i64 op, .int .u16 x] (mkH [some (ints .u8 f n), some (bytes2 fa fb (k + 1)), some (bytes2 fc fd l)]))).out? = some ([tLc k, ((tCd op).1, false)], .bool true) := by kernel_rfl
theorem x5_NRN2 (s : Sv) (n k l : Nat) (f fa fb fc fd : Nat → Int) (op x : Int) : (Ly.run ctxK 9000 [(5, true), (14, true), (4, true)] (Ly.start Try.f5 [svV s nilS (sls 1 (k + 1)) nilS, .int .i64 op, .int .u16 x] (mkH [some (ints .u8 f n), some (bytes2 fa fb (k + 1)), some (bytes2 fc fd l)]))).out? = some ([tLc k, tCd op, ((tMd op).1, true)], .bool true) := by kernel_rfl
theorem x5_NRN4 (s : Sv) (n k l : Nat) (f fa fb fc fd : Nat → Int) (op x : Int) : (Ly.run ctxK 9000 [(5, true), (14, true), (4, false), (0, true), (0, false), (0, true), (0, false)] (Ly.start Try.f5 [svV s nilS (sls 1 (k + 1)) nilS, .int .i64 op, .int .u16 x] (mkH [some (ints .u8 f n), some (bytes2 fa fb (k + 1)), some (bytes2 fc fd l)]))).out? = some ([tLc k, tCd op, tMd op, tC1 op x, ((tNr x).1, false), tC1 (op1 op) x, ((tNr x).1, false)], .bool true) := by kernel_rfl
theorem x5_NRN7 (s : Sv) (n k l : Nat) (f fa fb fc fd : Nat → Int) (op x : Int) : (Ly.run ctxK 9000 [(5, true), (14, true), (4, false), (0, true), (0, true), (0, true), (0, true), (6, true)] (Ly.start Try.f5 [svV s nilS (sls 1 (k + 1)) nilS, .int .i64 op, .int .u16 x] (mkH [some (ints .u8 f n), some (bytes2 fa fb (k + 1)), some (bytes2 fc fd l)]))).out? = some ([tLc k, tCd op, tMd op, tC1 op x, tNr x, tC1 (op1 op) x, tNr x, ((tX0 x).1, true)], .bool true) := by kernel_rfl
theorem x5_NRS0 (s : Sv) (n k l : Nat) (f fa fb fc fd : Nat → Int) (op x : Int) : (Ly.run ctxK 9000 [(5, false)] (Ly.start Try.f5 [svV s nilS (sls 1 (k + 1)) (sls 2 l), .int .i64 op, .int .u16 x] (mkH [some (ints .u8 f n), some (bytes2 fa fb (k + 1)), some (bytes2 fc fd l)]))).out? = some ([((tLc k).1, false)], .bool true) := by kernel_rfl
theorem x5_NRS1 (s : Sv) (n k l : Nat) (f fa fb fc fd : Nat → Int) (op x : Int) : (Ly.run ctxK 9000 [(5, true), (4, false)] (Ly.start Try.f5 [svV s nilS (sls 1 (k + 1)) (sls 2 l), .int .i64 op, .int .u16 x] (mkH [some (ints .u8 f n), some (bytes2 fa fb (k + 1)), some (bytes2 fc fd l)]))).out? = some ([tLc k, ((tLd l).1, false)], .bool true) := by kernel_rfl
theorem x5_NRS2 (s : Sv) (n k l : Nat) (f fa fb fc fd : Nat → Int) (op x : Int) : (Ly.run ctxK 9000 [(5, true), (4, true), (9, false)] (Ly.start Try.f5 [svV s nilS (sls 1 (k + 1)) (sls 2 l), .int .i64 op, .int .u16 x] (mkH [some (ints .u8 f n), some (bytes2 fa fb (k + 1)), some (bytes2 fc fd l)]))).out? = some ([tLc k, tLd l, ((tCd op).1, false)], .bool true) := by kernel_rfl
theorem x5_NRS3 (s : Sv) (n k l : Nat) (f fa fb fc fd : Nat → Int) (op x : Int) : (Ly.run ctxK 9000 [(5, true), (4, true), (9, true), (4, true)] (Ly.start Try.f5 [svV s nilS (sls 1 (k + 1)) (sls 2 l), .int .i64 op, .int .u16 x] (mkH [some (ints .u8 f n), some (bytes2 fa fb (k + 1)), some (bytes2 fc fd l)]))).out? = some ([tLc k, tLd l, tCd op, ((tMd op).1, true)], .bool true) := by kernel_rfl
theorem x5_NRS5 (s : Sv) (n k l : Nat) (f fa fb fc fd : Nat → Int) (op x : Int) : (Ly.run ctxK 9000 [(5, true), (4, true), (9, true), (4, false), (0, true), (0, false), (0, true), (0, false)] (Ly.start Try.f5 [svV s nilS (sls 1 (k + 1)) (sls 2 l), .int .i64 op, .int .u16 x] (mkH [some (ints .u8 f n), some (bytes2 fa fb (k + 1)), some (bytes2 fc fd l)]))).out? = some ([tLc k, tLd l, tCd op, tMd op, tC1 op x, ((tNr x).1, false), tC1 (op1 op) x, ((tNr x).1, false)], .bool true) := by kernel_rfl
theorem x5_NRS8 (s : Sv) (n k l : Nat) (f fa fb fc fd : Nat → Int) (op x : Int) : (Ly.run ctxK 9000 [(5, true), (4, true), (9, true), (4, false), (0, true), (0, true), (0, true), (0, true), (6, true)] (Ly.start Try.f5 [svV s nilS (sls 1 (k + 1)) (sls 2 l), .int .i64 op, .int .u16 x] (mkH [some (ints .u8 f n), some (bytes2 fa fb (k + 1)), some (bytes2 fc fd l)]))).out? = some ([tLc k, tLd l, tCd op, tMd op, tC1 op x, tNr x, tC1 (op1 op) x, tNr x, ((tX0 x).1, true)], .bool true) := by kernel_rfl
theorem x5_ENN0 (s : Sv) (n k l : Nat) (f fa fb fc fd : Nat → Int) (op x : Int) : (Ly.run ctxK 9000 [(20, false)] (Ly.start Try.f5 [svV s (sl 0 0) nilS nilS, .int .i64 op, .int .u16 x] (mkH [some (ints .u8 f 0), some (bytes2 fa fb k), some (bytes2 fc fd l)]))).out? = some ([((tCd op).1, false)], .bool true) := by kernel_rfl
theorem x5_ENN1 (s : Sv) (n k l : Nat) (f fa fb fc fd : Nat → Int) (op x : Int) : (Ly.run ctxK 9000 [(20, true), (4, true)] (Ly.start Try.f5 [svV s (sl 0 0) nilS nilS, .int .i64 op, .int .u16 x] (mkH [some (ints .u8 f 0), some (bytes2 fa fb k), some (bytes2 fc fd l)]))).out? = some ([tCd op, ((tMd op).1, true)], .bool true) := by kernel_rfl
theorem x5_ENN3 (s : Sv) (n k l : Nat) (f fa fb fc fd : Nat → Int) (op x : Int) : (Ly.run ctxK 9000 [(20, true), (4, false), (0, true), (0, false), (0, true), (0, false)] (Ly.start Try.f5 [svV s (sl 0 0) nilS nilS, .int .i64 op, .int .u16 x] (mkH [some (ints .u8 f 0), some (bytes2 fa fb k), some (bytes2 fc fd l)]))).out? = some ([tCd op, tMd op, tC1 op x, ((tNr x).1, false), tC1 (op1 op) x, ((tNr x).1, false)], .bool true) := by kernel_rfl
theorem x5_ENN6 (s : Sv) (n k l : Nat) (f fa fb fc fd : Nat → Int) (op x : Int) : (Ly.run ctxK 9000 [(20, true), (4, false), (0, true), (0, true), (0, true), (0, true), (6, true)] (Ly.start Try.f5 [svV s (sl 0 0) nilS nilS, .int .i64 op, .int .u16 x] (mkH [some (ints .u8 f 0), some (bytes2 fa fb k), some (bytes2 fc fd l)]))).out? = some ([tCd op, tMd op, tC1 op x, tNr x, tC1 (op1 op) x, tNr x, ((tX0 x).1, true)], .bool true) := by kernel_rfl
theorem x5_ENS0 (s : Sv) (n k l : Nat) (f fa fb fc fd : Nat → Int) (op x : Int) : (Ly.run ctxK 9000 [(10, false)] (Ly.start Try.f5 [svV s (sl 0 0) nilS (sls 2 l), .int .i64 op, .int .u16 x] (mkH [some (ints .u8 f 0), some (bytes2 fa fb k), some (bytes2 fc fd l)]))).out? = some ([((tLd l).1, false)], .bool true) := by kernel_rfl
theorem x5_ENS1 (s : Sv) (n k l : Nat) (f fa fb fc fd : Nat → Int) (op x : Int) : (Ly.run ctxK 9000 [(10, true), (9, false)] (Ly.start Try.f5 [svV s (sl 0 0) nilS (sls 2 l), .int .i64 op, .int .u16 x] (mkH [some (ints .u8 f 0), some (bytes2 fa fb k), some (bytes2 fc fd l)]))).out? = some ([tLd l, ((tCd op).1, false)], .bool true) := by kernel_rfl
theorem x5_ENS2 (s : Sv) (n k l : Nat) (f fa fb fc fd : Nat → Int) (op x : Int) : (Ly.run ctxK 9000 [(10, true), (9, true), (4, true)] (Ly.start Try.f5 [svV s (sl 0 0) nilS (sls 2 l), .int .i64 op, .int .u16 x] (mkH [some (ints .u8 f 0), some (bytes2 fa fb k), some (bytes2 fc fd l)]))).out? = some ([tLd l, tCd op, ((tMd op).1, true)], .bool true) := by kernel_rfl
theorem x5_ENS4 (s : Sv) (n k l : Nat) (f fa fb fc fd : Nat → Int) (op x : Int) : (Ly.run ctxK 9000 [(10, true), (9, true), (4, false), (0, true), (0, false), (0, true), (0, false)] (Ly.start Try.f5 [svV s (sl 0 0) nilS (sls 2 l), .int .i64 op, .int .u16 x] (mkH [some (ints .u8 f 0), some (bytes2 fa fb k), some (bytes2 fc fd l)]))).out? = some ([tLd l, tCd op, tMd op, tC1 op x, ((tNr x).1, false), tC1 (op1 op) x, ((tNr x).1, false)], .bool true) := by kernel_rfl
theorem x5_ENS7 (s : Sv) (n k l : Nat) (f fa fb fc fd : Nat → Int) (op x : Int) : (Ly.run ctxK 9000 [(10, true), (9, true), (4, false), (0, true), (0, true), (0, true), (0, true), (6, true)] (Ly.start Try.f5 [svV s (sl 0 0) nilS (sls 2 l), .int .i64 op, .int .u16 x] (mkH [some (ints .u8 f 0), some (bytes2 fa fb k), some (bytes2 fc fd l)]))).out? = some ([tLd l, tCd op, tMd op, tC1 op x, tNr x, tC1 (op1 op) x, tNr x, ((tX0 x).1, true)], .bool true) := by kernel_rfl
theorem x5_EEN0 (s : Sv) (n k l : Nat) (f fa fb fc fd : Nat → Int) (op x : Int) : (Ly.run ctxK 9000 [(20, false)] (Ly.start Try.f5 [svV s (sl 0 0) (sls 1 0) nilS, .int .i64 op, .int .u16 x] (mkH [some (ints .u8 f 0), some (bytes2 fa fb 0), some (bytes2 fc fd l)]))).out? = some ([((tCd op).1, false)], .bool true) := by kernel_rfl
theorem x5_EEN1 (s : Sv) (n k l : Nat) (f fa fb fc fd : Nat → Int) (op x : Int) : (Ly.run ctxK 9000 [(20, true), (4, true)] (Ly.start Try.f5 [svV s (sl 0 0) (sls 1 0) nilS, .int .i64 op, .int .u16 x] (mkH [some (ints .u8 f 0), some (bytes2 fa fb 0), some (bytes2 fc fd l)]))).out? = some ([tCd op, ((tMd op).1, true)], .bool true) := by kernel_rfl
theorem x5_EEN3 (s : Sv) (n k l : Nat) (f fa fb fc fd : Nat → Int) (op x : Int) : (Ly.run ctxK 9000 [(20, true), (4, false), (0, true), (0, false), (0, true), (0, false)] (Ly.start Try.f5 [svV s (sl 0 0) (sls 1 0) nilS, .int .i64 op, .int .u16 x] (mkH [some (ints .u8 f 0), some (bytes2 fa fb 0), some (bytes2 fc fd l)]))).out? = some ([tCd op, tMd op, tC1 op x, ((tNr x).1, false), tC1 (op1 op) x, ((tNr x).1, false)], .bool true) := by kernel_rfl
theorem x5_EEN6 (s : Sv) (n k l : Nat) (f fa fb fc fd : Nat → Int) (op x : Int) : (Ly.run ctxK 9000 [(20, true), (4, false), (0, true), (0, true), (0, true), (0, true), (6, true)] (Ly.start Try.f5 [svV s (sl 0 0) (sls 1 0) nilS, .int .i64 op, .int .u16 x] (mkH [some (ints .u8 f 0), some (bytes2 fa fb 0), some (bytes2 fc fd l)]))).out? = some ([tCd op, tMd op, tC1 op x, tNr x, tC1 (op1 op) x, tNr x, ((tX0 x).1, true)], .bool true) := by kernel_rfl
theorem x5_EES0 (s : Sv) (n k l : Nat) (f fa fb fc fd : Nat → Int) (op x : Int) : (Ly.run ctxK 9000 [(10, false)] (Ly.start Try.f5 [svV s (sl 0 0) (sls 1 0) (sls 2 l), .int .i64 op, .int .u16 x] (mkH [some (ints .u8 f 0), some (bytes2 fa fb 0), some (bytes2 fc fd l)]))).out? = some ([((tLd l).1, false)], .bool true) := by kernel_rfl
theorem x5_EES1 (s : Sv) (n k l : Nat) (f fa fb fc fd : Nat → Int) (op x : Int) : (Ly.run ctxK 9000 [(10, true), (9, false)] (Ly.start Try.f5 [svV s (sl 0 0) (sls 1 0) (sls 2 l), .int .i64 op, .int .u16 x] (mkH [some (ints .u8 f 0), some (bytes2 fa fb 0), some (bytes2 fc fd l)]))).out? = some ([tLd l, ((tCd op).1, false)], .bool true) := by kernel_rfl
theorem x5_EES2 (s : Sv) (n k l : Nat) (f fa fb fc fd : Nat → Int) (op x : Int) : (Ly.run ctxK 9000 [(10, true), (9, true), (4, true)] (Ly.start Try.f5 [svV s (sl 0 0) (sls 1 0) (sls 2 l), .int .i64 op, .int .u16 x] (mkH [some (ints .u8 f 0), some (bytes2 fa fb 0), some (bytes2 fc fd l)]))).out? = some ([tLd l, tCd op, ((tMd op).1, true)], .bool true) := by kernel_rfl
theorem x5_EES4 (s : Sv) (n k l : Nat) (f fa fb fc fd : Nat → Int) (op x : Int) : (Ly.run ctxK 9000 [(10, true), (9, true), (4, false), (0, true), (0, false), (0, true), (0, false)] (Ly.start Try.f5 [svV s (sl 0 0) (sls 1 0) (sls 2 l), .int .i64 op, .int .u16 x] (mkH [some (ints .u8 f 0), some (bytes2 fa fb 0), some (bytes2 fc fd l)]))).out? = some ([tLd l, tCd op, tMd op, tC1 op x, ((tNr x).1, false), tC1 (op1 op) x, ((tNr x).1, false)], .bool true) := by kernel_rfl
theorem x5_EES7 (s : Sv) (n k l : Nat) (f fa fb fc fd : Nat → Int) (op x : Int) : (Ly.run ctxK 9000 [(10, true), (9, true), (4, false), (0, true), (0, true), (0, true), (0, true), (6, true)] (Ly.start Try.f5 [svV s (sl 0 0) (sls 1 0) (sls 2 l), .int .i64 op, .int .u16 x] (mkH [some (ints .u8 f 0), some (bytes2 fa fb 0), some (bytes2 fc fd l)]))).out? = some ([tLd l, tCd op, tMd op, tC1 op x, tNr x, tC1 (op1 op) x, tNr x, ((tX0 x).1, true)], .bool true) := by kernel_rfl
theorem x5_ERN0 (s : Sv) (n k l : Nat) (f fa fb fc fd : Nat → Int) (op x : Int) : (Ly.run ctxK 9000 [(5, false)] (Ly.start Try.f5 [svV s (sl 0 0) (sls 1 (k + 1)) nilS, .int .i64 op, .int .u16 x] (mkH [some (ints .u8 f 0), some (bytes2 fa fb (k + 1)), some (bytes2 fc fd l)]))).out? = some ([((tLc k).1, false)], .bool true) := by kernel_rfl
theorem x5_ERN1 (s : Sv) (n k l : Nat) (f fa fb fc fd : Nat → Int) (op x : Int) : (Ly.run ctxK 9000 [(5, true), (14, false)] (Ly.start Try.f5 [svV s (sl 0 0) (sls 1 (k + 1)) nilS, .int .i64 op, .int .u16 x] (mkH [some (ints .u8 f 0), some (bytes2 fa fb (k + 1)), some (bytes2 fc fd l)]))).out? = some ([tLc k, ((tCd op).1, false)], .bool true) := by kernel_rfl
theorem x5_ERN2 (s : Sv) (n k l : Nat) (f fa fb fc fd : Nat → Int) (op x : Int) : (Ly.run ctxK 9000 [(5, true), (14, true), (4, true)] (Ly.start Try.f5 [svV s (sl 0 0) (sls 1 (k + 1)) nilS, .int .i64 op, .int .u16 x] (mkH [some (ints .u8 f 0), some (bytes2 fa fb (k + 1)), some (bytes2 fc fd l)]))).out? = some ([tLc k, tCd op, ((tMd op).1, true)], .bool true) := by kernel_rfl
theorem x5_ERN4 (s : Sv) (n k l : Nat) (f fa fb fc fd : Nat → Int) (op x : Int) : (Ly.run ctxK 9000 [(5, true), (14, true), (4, false), (0, true), (0, false), (0, true), (0, false)] (Ly.start Try.f5 [svV s (sl 0 0) (sls 1 (k + 1)) nilS, .int .i64 op, .int .u16 x] (mkH [some (ints .u8 f 0), some (bytes2 fa fb (k + 1)), some (bytes2 fc fd l)]))).out? = some ([tLc k, tCd op, tMd op, tC1 op x, ((tNr x).1, false), tC1 (op1 op) x, ((tNr x).1, false)], .bool true) := by kernel_rfl
theorem x5_ERN7 (s : Sv) (n k l : Nat) (f fa fb fc fd : Nat → Int) (op x : Int) : (Ly.run ctxK 9000 [(5, true), (14, true), (4, false), (0, true), (0, true), (0, true), (0, true), (6, true)] (Ly.start Try.f5 [svV s (sl 0 0) (sls 1 (k + 1)) nilS, .int .i64 op, .int .u16 x] (mkH [some (ints .u8 f 0), some (bytes2 fa fb (k + 1)), some (bytes2 fc fd l)]))).out? = some ([tLc k, tCd op, tMd op, tC1 op x, tNr x, tC1 (op1 op) x, tNr x, ((tX0 x).1, true)], .bool true) := by kernel_rfl
theorem x5_ERS0 (s : Sv) (n k l : Nat) (f fa fb fc fd : Nat → Int) (op x : Int) : (Ly.run ctxK 9000 [(5, false)] (Ly.start Try.f5 [svV s (sl 0 0) (sls 1 (k + 1)) (sls 2 l), .int .i64 op, .int .u16 x] (mkH [some (ints .u8 f 0), some (bytes2 fa fb (k + 1)), some (bytes2 fc fd l)]))).out? = some ([((tLc k).1, false)], .bool true) := by kernel_rfl
theorem x5_ERS1 (s : Sv) (n k l : Nat) (f fa fb fc fd : Nat → Int) (op x : Int) : (Ly.run ctxK 9000 [(5, true), (4, false)] (Ly.start Try.f5 [svV s (sl 0 0) (sls 1 (k + 1)) (sls 2 l), .int .i64 op, .int .u16 x] (mkH [some (ints .u8 f 0), some (bytes2 fa fb (k + 1)), some (bytes2 fc fd l)]))).out? = some ([tLc k, ((tLd l).1, false)], .bool true) := by kernel_rfl
theorem x5_ERS2 (s : Sv) (n k l : Nat) (f fa fb fc fd : Nat → Int) (op x : Int) : (Ly.run ctxK 9000 [(5, true), (4, true), (9, false)] (Ly.start Try.f5 [svV s (sl 0 0) (sls 1 (k + 1)) (sls 2 l), .int .i64 op, .int .u16 x] (mkH [some (ints .u8 f 0), some (bytes2 fa fb (k + 1)), some (bytes2 fc fd l)]))).out? = some ([tLc k, tLd l, ((tCd op).1, false)], .bool true) := by kernel_rfl
theorem x5_ERS3 (s : Sv) (n k l : Nat) (f fa fb fc fd : Nat → Int) (op x : Int) : (Ly.run ctxK 9000 [(5, true), (4, true), (9, true), (4, true)] (Ly.start Try.f5 [svV s (sl 0 0) (sls 1 (k + 1)) (sls 2 l), .int .i64 op, .int .u16 x] (mkH [some (ints .u8 f 0), some (bytes2 fa fb (k + 1)), some (bytes2 fc fd l)]))).out? = some ([tLc k, tLd l, tCd op, ((tMd op).1, true)], .bool true) := by kernel_rfl
theorem x5_ERS5 (s : Sv) (n k l : Nat) (f fa fb fc fd : Nat → Int) (op x : Int) : (Ly.run ctxK 9000 [(5, true), (4, true), (9, true), (4, false), (0, true), (0, false), (0, true), (0, false)] (Ly.start Try.f5 [svV s (sl 0 0) (sls 1 (k + 1)) (sls 2 l), .int .i64 op, .int .u16 x] (mkH [some (ints .u8 f 0), some (bytes2 fa fb (k + 1)), some (bytes2 fc fd l)]))).out? = some ([tLc k, tLd l, tCd op, tMd op, tC1 op x, ((tNr x).1, false), tC1 (op1 op) x, ((tNr x).1, false)], .bool true) := by kernel_rfl
theorem x5_ERS8 (s : Sv) (n k l : Nat) (f fa fb fc fd : Nat → Int) (op x : Int) : (Ly.run ctxK 9000 [(5, true), (4, true), (9, true), (4, false), (0, true), (0, true), (0, true), (0, true), (6, true)] (Ly.start Try.f5 [svV s (sl 0 0) (sls 1 (k + 1)) (sls 2 l), .int .i64 op, .int .u16 x] (mkH [some (ints .u8 f 0), some (bytes2 fa fb (k + 1)), some (bytes2 fc fd l)]))).out? = some ([tLc k, tLd l, tCd op, tMd op, tC1 op x, tNr x, tC1 (op1 op) x, tNr x, ((tX0 x).1, true)], .bool true) := by kernel_rfl
theorem x5_RNN0 (s : Sv) (n k l : Nat) (f fa fb fc fd : Nat → Int) (op x : Int) : (Ly.run ctxK 9000 [(0, false)] (Ly.start Try.f5 [svV s (sl 0 (n + 1)) nilS nilS, .int .i64 op, .int .u16 x] (mkH [some (ints .u8 f (n + 1)), some (bytes2 fa fb k), some (bytes2 fc fd l)]))).out? = some ([((tLi n).1, false)], .bool true) := by kernel_rfl
theorem x5_RNN1 (s : Sv) (n k l : Nat) (f fa fb fc fd : Nat → Int) (op x : Int) : (Ly.run ctxK 9000 [(0, true), (14, false)] (Ly.start Try.f5 [svV s (sl 0 (n + 1)) nilS nilS, .int .i64 op, .int .u16 x] (mkH [some (ints .u8 f (n + 1)), some (bytes2 fa fb k), some (bytes2 fc fd l)]))).out? = some ([tLi n, ((tMe n).1, false)], .bool true) := by kernel_rfl
theorem x5_RNN2 (s : Sv) (n k l : Nat) (f fa fb fc fd : Nat → Int) (op x : Int) : (Ly.run ctxK 9000 [(0, true), (14, true), (4, false)] (Ly.start Try.f5 [svV s (sl 0 (n + 1)) nilS nilS, .int .i64 op, .int .u16 x] (mkH [some (ints .u8 f (n + 1)), some (bytes2 fa fb k), some (bytes2 fc fd l)]))).out? = some ([tLi n, tMe n, ((tCd op).1, false)], .bool true) := by kernel_rfl
theorem x5_RNN3 (s : Sv) (n k l : Nat) (f fa fb fc fd : Nat → Int) (op x : Int) : (Ly.run ctxK 9000 [(0, true), (14, true), (4, true), (4, true)] (Ly.start Try.f5 [svV s (sl 0 (n + 1)) nilS nilS, .int .i64 op, .int .u16 x] (mkH [some (ints .u8 f (n + 1)), some (bytes2 fa fb k), some (bytes2 fc fd l)]))).out? = some ([tLi n, tMe n, tCd op, ((tMd op).1, true)], .bool true) := by kernel_rfl
theorem x5_RNN5 (s : Sv) (n k l : Nat) (f fa fb fc fd : Nat → Int) (op x : Int) : (Ly.run ctxK 9000 [(0, true), (14, true), (4, true), (4, false), (0, true), (0, false), (0, true), (0, false)] (Ly.start Try.f5 [svV s (sl 0 (n + 1)) nilS nilS, .int .i64 op, .int .u16 x] (mkH [some (ints .u8 f (n + 1)), some (bytes2 fa fb k), some (bytes2 fc fd l)]))).out? = some ([tLi n, tMe n, tCd op, tMd op, tC1 op x, ((tNr x).1, false), tC1 (op1 op) x, ((tNr x).1, false)], .bool true) := by kernel_rfl
theorem x5_RNN8 (s : Sv) (n k l : Nat) (f fa fb fc fd : Nat → Int) (op x : Int) : (Ly.run ctxK 9000 [(0, true), (14, true), (4, true), (4, false), (0, true), (0, true), (0, true), (0, true), (6, true)] (Ly.start Try.f5 [svV s (sl 0 (n + 1)) nilS nilS, .int .i64 op, .int .u16 x] (mkH [some (ints .u8 f (n + 1)), some (bytes2 fa fb k), some (bytes2 fc fd l)]))).out? = some ([tLi n, tMe n, tCd op, tMd op, tC1 op x, tNr x, tC1 (op1 op) x, tNr x, ((tX0 x).1, true)], .bool true) := by kernel_rfl
theorem x5_RNS0 (s : Sv) (n k l : Nat) (f fa fb fc fd : Nat → Int) (op x : Int) : (Ly.run ctxK 9000 [(0, false)] (Ly.start Try.f5 [svV s (sl 0 (n + 1)) nilS (sls 2 l), .int .i64 op, .int .u16 x] (mkH [some (ints .u8 f (n + 1)), some (bytes2 fa fb k), some (bytes2 fc fd l)]))).out? = some ([((tLi n).1, false)], .bool true) := by kernel_rfl
theorem x5_RNS1 (s : Sv) (n k l : Nat) (f fa fb fc fd : Nat → Int) (op x : Int) : (Ly.run ctxK 9000 [(0, true), (9, false)] (Ly.start Try.f5 [svV s (sl 0 (n + 1)) nilS (sls 2 l), .int .i64 op, .int .u16 x] (mkH [some (ints .u8 f (n + 1)), some (bytes2 fa fb k), some (bytes2 fc fd l)]))).out? = some ([tLi n, ((tLd l).1, false)], .bool true) := by kernel_rfl
theorem x5_RNS2 (s : Sv) (n k l : Nat) (f fa fb fc fd : Nat → Int) (op x : Int) : (Ly.run ctxK 9000 [(0, true), (9, true), (4, false)] (Ly.start Try.f5 [svV s (sl 0 (n + 1)) nilS (sls 2 l), .int .i64 op, .int .u16 x] (mkH [some (ints .u8 f (n + 1)), some (bytes2 fa fb k), some (bytes2 fc fd l)]))).out? = some ([tLi n, tLd l, ((tMe n).1, false)], .bool true) := by kernel_rfl
theorem x5_RNS3 (s : Sv) (n k l : Nat) (f fa fb fc fd : Nat → Int) (op x : Int) : (Ly.run ctxK 9000 [(0, true), (9, true), (4, true), (4, false)] (Ly.start Try.f5 [svV s (sl 0 (n + 1)) nilS (sls 2 l), .int .i64 op, .int .u16 x] (mkH [some (ints .u8 f (n + 1)), some (bytes2 fa fb k), some (bytes2 fc fd l)]))).out? = some ([tLi n, tLd l, tMe n, ((tCd op).1, false)], .bool true) := by kernel_rfl
theorem x5_RNS4 (s : Sv) (n k l : Nat) (f fa fb fc fd : Nat → Int) (op x : Int) : (Ly.run ctxK 9000 [(0, true), (9, true), (4, true), (4, true), (4, true)] (Ly.start Try.f5 [svV s (sl 0 (n + 1)) nilS (sls 2 l), .int .i64 op, .int .u16 x] (mkH [some (ints .u8 f (n + 1)), some (bytes2 fa fb k), some (bytes2 fc fd l)]))).out? = some ([tLi n, tLd l, tMe n, tCd op, ((tMd op).1, true)], .bool true) := by kernel_rfl
theorem x5_RNS6 (s : Sv) (n k l : Nat) (f fa fb fc fd : Nat → Int) (op x : Int) : (Ly.run ctxK 9000 [(0, true), (9, true), (4, true), (4, true), (4, false), (0, true), (0, false), (0, true), (0, false)] (Ly.start Try.f5 [svV s (sl 0 (n + 1)) nilS (sls 2 l), .int .i64 op, .int .u16 x] (mkH [some (ints .u8 f (n + 1)), some (bytes2 fa fb k), some (bytes2 fc fd l)]))).out? = some ([tLi n, tLd l, tMe n, tCd op, tMd op, tC1 op x, ((tNr x).1, false), tC1 (op1 op) x, ((tNr x).1, false)], .bool true) := by kernel_rfl
theorem x5_RNS9 (s : Sv) (n k l : Nat) (f fa fb fc fd : Nat → Int) (op x : Int) : (Ly.run ctxK 9000 [(0, true), (9, true), (4, true), (4, true), (4, false), (0, true), (0, true), (0, true), (0, true), (6, true)] (Ly.start Try.f5 [svV s (sl 0 (n + 1)) nilS (sls 2 l), .int .i64 op, .int .u16 x] (mkH [some (ints .u8 f (n + 1)), some (bytes2 fa fb k), some (bytes2 fc fd l)]))).out? = some ([tLi n, tLd l, tMe n, tCd op, tMd op, tC1 op x, tNr x, tC1 (op1 op) x, tNr x, ((tX0 x).1, true)], .bool true) := by kernel_rfl
theorem x5_REN0 (s : Sv) (n k l : Nat) (f fa fb fc fd : Nat → Int) (op x : Int) : (Ly.run ctxK 9000 [(0, false)] (Ly.start Try.f5 [svV s (sl 0 (n + 1)) (sls 1 0) nilS, .int .i64 op, .int .u16 x] (mkH [some (ints .u8 f (n + 1)), some (bytes2 fa fb 0), some (bytes2 fc fd l)]))).out? = some ([((tLi n).1, false)], .bool true) := by kernel_rfl
theorem x5_REN1 (s : Sv) (n k l : Nat) (f fa fb fc fd : Nat → Int) (op x : Int) : (Ly.run ctxK 9000 [(0, true), (14, false)] (Ly.start Try.f5 [svV s (sl 0 (n + 1)) (sls 1 0) nilS, .int .i64 op, .int .u16 x] (mkH [some (ints .u8 f (n + 1)), some (bytes2 fa fb 0), some (bytes2 fc fd l)]))).out? = some ([tLi n, ((tMe n).1, false)], .bool true) := by kernel_rfl
theorem x5_REN2 (s : Sv) (n k l : Nat) (f fa fb fc fd : Nat → Int) (op x : Int) : (Ly.run ctxK 9000 [(0, true), (14, true), (4, false)] (Ly.start Try.f5 [svV s (sl 0 (n + 1)) (sls 1 0) nilS, .int .i64 op, .int .u16 x] (mkH [some (ints .u8 f (n + 1)), some (bytes2 fa fb 0), some (bytes2 fc fd l)]))).out? = some ([tLi n, tMe n, ((tCd op).1, false)], .bool true) := by kernel_rfl
theorem x5_REN3 (s : Sv) (n k l : Nat) (f fa fb fc fd : Nat → Int) (op x : Int) : (Ly.run ctxK 9000 [(0, true), (14, true), (4, true), (4, true)] (Ly.start Try.f5 [svV s (sl 0 (n + 1)) (sls 1 0) nilS, .int .i64 op, .int .u16 x] (mkH [some (ints .u8 f (n + 1)), some (bytes2 fa fb 0), some (bytes2 fc fd l)]))).out? = some ([tLi n, tMe n, tCd op, ((tMd op).1, true)], .bool true) := by kernel_rfl
theorem x5_REN5 (s : Sv) (n k l : Nat) (f fa fb fc fd : Nat → Int) (op x : Int) : (Ly.run ctxK 9000 [(0, true), (14, true), (4, true), (4, false), (0, true), (0, false), (0, true), (0, false)] (Ly.start Try.f5 [svV s (sl 0 (n + 1)) (sls 1 0) nilS, .int .i64 op, .int .u16 x] (mkH [some (ints .u8 f (n + 1)), some (bytes2 fa fb 0), some (bytes2 fc fd l)]))).out? = some ([tLi n, tMe n, tCd op, tMd op, tC1 op x, ((tNr x).1, false), tC1 (op1 op) x, ((tNr x).1, false)], .bool true) := by kernel_rfl
theorem x5_REN8 (s : Sv) (n k l : Nat) (f fa fb fc fd : Nat → Int) (op x : Int) : (Ly.run ctxK 9000 [(0, true), (14, true), (4, true), (4, false), (0, true), (0, true), (0, true), (0, true), (6, true)] (Ly.start Try.f5 [svV s (sl 0 (n + 1)) (sls 1 0) nilS, .int .i64 op, .int .u16 x] (mkH [some (ints .u8 f (n + 1)), some (bytes2 fa fb 0), some (bytes2 fc fd l)]))).out? = some ([tLi n, tMe n, tCd op, tMd op, tC1 op x, tNr x, tC1 (op1 op) x, tNr x, ((tX0 x).1, true)], .bool true) := by kernel_rfl
theorem x5_RES0 (s : Sv) (n k l : Nat) (f fa fb fc fd : Nat → Int) (op x : Int) : (Ly.run ctxK 9000 [(0, false)] (Ly.start Try.f5 [svV s (sl 0 (n + 1)) (sls 1 0) (sls 2 l), .int .i64 op, .int .u16 x] (mkH [some (ints .u8 f (n + 1)), some (bytes2 fa fb 0), some (bytes2 fc fd l)]))).out? = some ([((tLi n).1, false)], .bool true) := by kernel_rfl
theorem x5_RES1 (s : Sv) (n k l : Nat) (f fa fb fc fd : Nat → Int) (op x : Int) : (Ly.run ctxK 9000 [(0, true), (9, false)] (Ly.start Try.f5 [svV s (sl 0 (n + 1)) (sls 1 0) (sls 2 l), .int .i64 op, .int .u16 x] (mkH [some (ints .u8 f (n + 1)), some (bytes2 fa fb 0), some (bytes2 fc fd l)]))).out? = some ([tLi n, ((tLd l).1, false)], .bool true) := by kernel_rfl
theorem x5_RES2 (s : Sv) (n k l : Nat) (f fa fb fc fd : Nat → Int) (op x : Int) : (Ly.run ctxK 9000 [(0, true), (9, true), (4, false)] (Ly.start Try.f5 [svV s (sl 0 (n + 1)) (sls 1 0) (sls 2 l), .int .i64 op, .int .u16 x] (mkH [some (ints .u8 f (n + 1)), some (bytes2 fa fb 0), some (bytes2 fc fd l)]))).out? = some ([tLi n, tLd l, ((tMe n).1, false)], .bool true) := by kernel_rfl
theorem x5_RES3 (s : Sv) (n k l : Nat) (f fa fb fc fd : Nat → Int) (op x : Int) : (Ly.run ctxK 9000 [(0, true), (9, true), (4, true), (4, false)] (Ly.start Try.f5 [svV s (sl 0 (n + 1)) (sls 1 0) (sls 2 l), .int .i64 op, .int .u16 x] (mkH [some (ints .u8 f (n + 1)), some (bytes2 fa fb 0), some (bytes2 fc fd l)]))).out? = some ([tLi n, tLd l, tMe n, ((tCd op).1, false)], .bool true) := by kernel_rfl
theorem x5_RES4 (s : Sv) (n k l : Nat) (f fa fb fc fd : Nat → Int) (op x : Int) : (Ly.run ctxK 9000 [(0, true), (9, true), (4, true), (4, true), (4, true)] (Ly.start Try.f5 [svV s (sl 0 (n + 1)) (sls 1 0) (sls 2 l), .int .i64 op, .int .u16 x] (mkH [some (ints .u8 f (n + 1)), some (bytes2 fa fb 0), some (bytes2 fc fd l)]))).out? = some ([tLi n, tLd l, tMe n, tCd op, ((tMd op).1, true)], .bool true) := by kernel_rfl
theorem x5_RES6 (s : Sv) (n k l : Nat) (f fa fb fc fd : Nat → Int) (op x : Int) : (Ly.run ctxK 9000 [(0, true), (9, true), (4, true), (4, true), (4, false), (0, true), (0, false), (0, true), (0, false)] (Ly.start Try.f5 [svV s (sl 0 (n + 1)) (sls 1 0) (sls 2 l), .int .i64 op, .int .u16 x] (mkH [some (ints .u8 f (n + 1)), some (bytes2 fa fb 0), some (bytes2 fc fd l)]))).out? = some ([tLi n, tLd l, tMe n, tCd op, tMd op, tC1 op x, ((tNr x).1, false), tC1 (op1 op) x, ((tNr x).1, false)], .bool true) := by kernel_rfl
theorem x5_RES9 (s : Sv) (n k l : Nat) (f fa fb fc fd : Nat → Int) (op x : Int) : (Ly.run ctxK 9000 [(0, true), (9, true), (4, true), (4, true), (4, false), (0, true), (0, true), (0, true), (0, true), (6, true)] (Ly.start Try.f5 [svV s (sl 0 (n + 1)) (sls 1 0) (sls 2 l), .int .i64 op, .int .u16 x] (mkH [some (ints .u8 f (n + 1)), some (bytes2 fa fb 0), some (bytes2 fc fd l)]))).out? = some ([tLi n, tLd l, tMe n, tCd op, tMd op, tC1 op x, tNr x, tC1 (op1 op) x, tNr x, ((tX0 x).1, true)], .bool true) := by kernel_rfl
theorem x5_RRN0 (s : Sv) (n k l : Nat) (f fa fb fc fd : Nat → Int) (op x : Int) : (Ly.run ctxK 9000 [(0, false)] (Ly.start Try.f5 [svV s (sl 0 (n + 1)) (sls 1 (k + 1)) nilS, .int .i64 op, .int .u16 x] (mkH [some (ints .u8 f (n + 1)), some (bytes2 fa fb (k + 1)), some (bytes2 fc fd l)]))).out? = some ([((tLi n).1, false)], .bool true) := by kernel_rfl
theorem x5_RRN1 (s : Sv) (n k l : Nat) (f fa fb fc fd : Nat → Int) (op x : Int) : (Ly.run ctxK 9000 [(0, true), (4, false)] (Ly.start Try.f5 [svV s (sl 0 (n + 1)) (sls 1 (k + 1)) nilS, .int .i64 op, .int .u16 x] (mkH [some (ints .u8 f (n + 1)), some (bytes2 fa fb (k + 1)), some (bytes2 fc fd l)]))).out? = some ([tLi n, ((tLc k).1, false)], .bool true) := by kernel_rfl
theorem x5_RRN2 (s : Sv) (n k l : Nat) (f fa fb fc fd : Nat → Int) (op x : Int) : (Ly.run ctxK 9000 [(0, true), (4, true), (9, false)] (Ly.start Try.f5 [svV s (sl 0 (n + 1)) (sls 1 (k + 1)) nilS, .int .i64 op, .int .u16 x] (mkH [some (ints .u8 f (n + 1)), some (bytes2 fa fb (k + 1)), some (bytes2 fc fd l)]))).out? = some ([tLi n, tLc k, ((tMe n).1, false)], .bool true) := by kernel_rfl
theorem x5_RRN3 (s : Sv) (n k l : Nat) (f fa fb fc fd : Nat → Int) (op x : Int) : (Ly.run ctxK 9000 [(0, true), (4, true), (9, true), (4, false)] (Ly.start Try.f5 [svV s (sl 0 (n + 1)) (sls 1 (k + 1)) nilS, .int .i64 op, .int .u16 x] (mkH [some (ints .u8 f (n + 1)), some (bytes2 fa fb (k + 1)), some (bytes2 fc fd l)]))).out? = some ([tLi n, tLc k, tMe n, ((tCd op).1, false)], .bool true) := by kernel_rfl
theorem x5_RRN4 (s : Sv) (n k l : Nat) (f fa fb fc fd : Nat → Int) (op x : Int) : (Ly.run ctxK 9000 [(0, true), (4, true), (9, true), (4, true), (4, true)] (Ly.start Try.f5 [svV s (sl 0 (n + 1)) (sls 1 (k + 1)) nilS, .int .i64 op, .int .u16 x] (mkH [some (ints .u8 f (n + 1)), some (bytes2 fa fb (k + 1)), some (bytes2 fc fd l)]))).out? = some ([tLi n, tLc k, tMe n, tCd op, ((tMd op).1, true)], .bool true) := by kernel_rfl
theorem x5_RRN6 (s : Sv) (n k l : Nat) (f fa fb fc fd : Nat → Int) (op x : Int) : (Ly.run ctxK 9000 [(0, true), (4, true), (9, true), (4, true), (4, false), (0, true), (0, false), (0, true), (0, false)] (Ly.start Try.f5 [svV s (sl 0 (n + 1)) (sls 1 (k + 1)) nilS, .int .i64 op, .int .u16 x] (mkH [some (ints .u8 f (n + 1)), some (bytes2 fa fb (k + 1)), some (bytes2 fc fd l)]))).out? = some ([tLi n, tLc k, tMe n, tCd op, tMd op, tC1 op x, ((tNr x).1, false), tC1 (op1 op) x, ((tNr x).1, false)], .bool true) := by kernel_rfl
theorem x5_RRN9 (s : Sv) (n k l : Nat) (f fa fb fc fd : Nat → Int) (op x : Int) : (Ly.run ctxK 9000 [(0, true), (4, true), (9, true), (4, true), (4, false), (0, true), (0, true), (0, true), (0, true), (6, true)] (Ly.start Try.f5 [svV s (sl 0 (n + 1)) (sls 1 (k + 1)) nilS, .int .i64 op, .int .u16 x] (mkH [some (ints .u8 f (n + 1)), some (bytes2 fa fb (k + 1)), some (bytes2 fc fd l)]))).out? = some ([tLi n, tLc k, tMe n, tCd op, tMd op, tC1 op x, tNr x, tC1 (op1 op) x, tNr x, ((tX0 x).1, true)], .bool true) := by kernel_rfl
theorem x5_RRS0 (s : Sv) (n k l : Nat) (f fa fb fc fd : Nat → Int) (op x : Int) : (Ly.run ctxK 9000 [(0, false)] (Ly.start Try.f5 [svV s (sl 0 (n + 1)) (sls 1 (k + 1)) (sls 2 l), .int .i64 op, .int .u16 x] (mkH [some (ints .u8 f (n + 1)), some (bytes2 fa fb (k + 1)), some (bytes2 fc fd l)]))).out? = some ([((tLi n).1, false)], .bool true) := by kernel_rfl
theorem x5_RRS1 (s : Sv) (n k l : Nat) (f fa fb fc fd : Nat → Int) (op x : Int) : (Ly.run ctxK 9000 [(0, true), (4, false)] (Ly.start Try.f5 [svV s (sl 0 (n + 1)) (sls 1 (k + 1)) (sls 2 l), .int .i64 op, .int .u16 x] (mkH [some (ints .u8 f (n + 1)), some (bytes2 fa fb (k + 1)), some (bytes2 fc fd l)]))).out? = some ([tLi n, ((tLc k).1, false)], .bool true) := by kernel_rfl
theorem x5_RRS2 (s : Sv) (n k l : Nat) (f fa fb fc fd : Nat → Int) (op x : Int) : (Ly.run ctxK 9000 [(0, true), (4, true), (4, false)] (Ly.start Try.f5 [svV s (sl 0 (n + 1)) (sls 1 (k + 1)) (sls 2 l), .int .i64 op, .int .u16 x] (mkH [some (ints .u8 f (n + 1)), some (bytes2 fa fb (k + 1)), some (bytes2 fc fd l)]))).out? = some ([tLi n, tLc k, ((tLd l).1, false)], .bool true) := by kernel_rfl
theorem x5_RRS3 (s : Sv) (n k l : Nat) (f fa fb fc fd : Nat → Int) (op x : Int) : (Ly.run ctxK 9000 [(0, true), (4, true), (4, true), (4, false)] (Ly.start Try.f5 [svV s (sl 0 (n + 1)) (sls 1 (k + 1)) (sls 2 l), .int .i64 op, .int .u16 x] (mkH [some (ints .u8 f (n + 1)), some (bytes2 fa fb (k + 1)), some (bytes2 fc fd l)]))).out? = some ([tLi n, tLc k, tLd l, ((tMe n).1, false)], .bool true) := by kernel_rfl
theorem x5_RRS4 (s : Sv) (n k l : Nat) (f fa fb fc fd : Nat → Int) (op x : Int) : (Ly.run ctxK 9000 [(0, true), (4, true), (4, true), (4, true), (4, false)] (Ly.start Try.f5 [svV s (sl 0 (n + 1)) (sls 1 (k + 1)) (sls 2 l), .int .i64 op, .int .u16 x] (mkH [some (ints .u8 f (n + 1)), some (bytes2 fa fb (k + 1)), some (bytes2 fc fd l)]))).out? = some ([tLi n, tLc k, tLd l, tMe n, ((tCd op).1, false)], .bool true) := by kernel_rfl
theorem x5_RRS5 (s : Sv) (n k l : Nat) (f fa fb fc fd : Nat → Int) (op x : Int) : (Ly.run ctxK 9000 [(0, true), (4, true), (4, true), (4, true), (4, true), (4, true)] (Ly.start Try.f5 [svV s (sl 0 (n + 1)) (sls 1 (k + 1)) (sls 2 l), .int .i64 op, .int .u16 x] (mkH [some (ints .u8 f (n + 1)), some (bytes2 fa fb (k + 1)), some (bytes2 fc fd l)]))).out? = some ([tLi n, tLc k, tLd l, tMe n, tCd op, ((tMd op).1, true)], .bool true) := by kernel_rfl
theorem x5_RRS7 (s : Sv) (n k l : Nat) (f fa fb fc fd : Nat → Int) (op x : Int) : (Ly.run ctxK 9000 [(0, true), (4, true), (4, true), (4, true), (4, true), (4, false), (0, true), (0, false), (0, true), (0, false)] (Ly.start Try.f5 [svV s (sl 0 (n + 1)) (sls 1 (k + 1)) (sls 2 l), .int .i64 op, .int .u16 x] (mkH [some (ints .u8 f (n + 1)), some (bytes2 fa fb (k + 1)), some (bytes2 fc fd l)]))).out? = some ([tLi n, tLc k, tLd l, tMe n, tCd op, tMd op, tC1 op x, ((tNr x).1, false), tC1 (op1 op) x, ((tNr x).1, false)], .bool true) := by kernel_rfl
theorem x5_RRS10 (s : Sv) (n k l : Nat) (f fa fb fc fd : Nat → Int) (op x : Int) : (Ly.run ctxK 9000 [(0, true), (4, true), (4, true), (4, true), (4, true), (4, false), (0, true), (0, true), (0, true), (0, true), (6, true)] (Ly.start Try.f5 [svV s (sl 0 (n + 1)) (sls 1 (k + 1)) (sls 2 l), .int .i64 op, .int .u16 x] (mkH [some (ints .u8 f (n + 1)), some (bytes2 fa fb (k + 1)), some (bytes2 fc fd l)]))).out? = some ([tLi n, tLc k, tLd l, tMe n, tCd op, tMd op, tC1 op x, tNr x, tC1 (op1 op) x, tNr x, ((tX0 x).1, true)], .bool true) := by kernel_rfl
end Go.Proofs.Ytnknopebjdgdjaa
namespace Go.Proofs.Ytnknopebjdgdjaa
open Go Go.Ly Go.RowKit
set_option maxRecDepth 100000 in
theorem e5_NNN (s : Sv) (n k l : Nat) (f fa fb fc fd : Nat → Int) (op x : Int) : haltH [2, 3, 11, 14, 97] [3, 36, 33, 35, 58, 55, 57] 65 rd5 (Ly.run ctxK 9000 [(20, true), (4, false), (0, true), (0, true), (0, true), (0, true), (6, false), (14, true), (25, true), (15, true), (25, true)] (Ly.start Try.f5 [svV s nilS nilS nilS, .int .i64 op, .int .u16 x] (mkH [some (ints .u8 f n), some (bytes2 fa fb k), some (bytes2 fc fd l)]))) =
  (true, [tCd op, tMd op, tC1 op x, tNr x, tC1 (op1 op) x, tNr x, tX0 x, tOk (GA (l5 s op x) 2) 2, tOk (GA (l5 s op x) 2) 2, tOk (GA (l5 s (op1 op) x) 2) 2, tOk (GA (l5 s (op1 op) x) 2) 2], true, (Try.f5, k5, some 22, 3), v5 x 36 58, (true, true, true), [some (.cells (svC s nilS nilS nilS) 29), some (.cells (cellsPb 33 35 (mOf s) (.slice none 0 0) (.slice none 0 0)) 54), some (memL (gs (gm (GA (l5 s op x) 2) 2))), some (memL (fun _ => 0)), some (.cells (cellsPb 55 57 (mOf s) (.slice none 0 0) (.slice none 0 0)) 54), some (memL (gs (gm (GA (l5 s (op1 op) x) 2) 2))), some (memL (fun _ => 0))]) := by kernel_rfl
end Go.Proofs.Ytnknopebjdgdjaa
namespace Go.Proofs.Ytnknopebjdgdjaa
open Go Go.Ly Go.RowKit
set_option maxRecDepth 100000 in
theorem e5_NNS (s : Sv) (n k l : Nat) (f fa fb fc fd : Nat → Int) (op x : Int) : haltH [2, 3, 11, 14, 97] [3, 36, 33, 35, 58, 55, 57] 65 rd5 (Ly.run ctxK 9000 [(10, true), (9, true), (4, false), (0, true), (0, true), (0, true), (0, true), (6, false), (14, true), (0, true), (24, true), (0, true), (14, true), (0, true), (24, true), (0, true)] (Ly.start Try.f5 [svV s nilS nilS (sls 2 l), .int .i64 op, .int .u16 x] (mkH [some (ints .u8 f n), some (bytes2 fa fb k), some (bytes2 fc fd l)]))) =
  (true, [tLd l, tCd op, tMd op, tC1 op x, tNr x, tC1 (op1 op) x, tNr x, tX0 x, tOk (GA (l5 s op x) 2) 2, tOd fc fd l, tOk (GA (l5 s op x) 2) 2, tOd fc fd l, tOk (GA (l5 s (op1 op) x) 2) 2, tOd fc fd l, tOk (GA (l5 s (op1 op) x) 2) 2, tOd fc fd l], true, (Try.f5, k5, some 22, 3), v5 x 36 58, (true, true, true), [some (.cells (svC s nilS nilS (sls 2 l)) 29), some (.cells (cellsPb 33 35 (mOf s) (.slice none 0 0) (.slice none 0 0)) 54), some (memL (gs (gm (GA (l5 s op x) 2) 2))), some (memL (gs (gm (GD fc fd) l))), some (.cells (cellsPb 55 57 (mOf s) (.slice none 0 0) (.slice none 0 0)) 54), some (memL (gs (gm (GA (l5 s (op1 op) x) 2) 2))), some (memL (gs (gm (GD fc fd) l)))]) := by kernel_rfl
end Go.Proofs.Ytnknopebjdgdjaa
namespace Go.Proofs.Ytnknopebjdgdjaa
open Go Go.Ly Go.RowKit
set_option maxRecDepth 100000 in
theorem e5_NEN (s : Sv) (n k l : Nat) (f fa fb fc fd : Nat → Int) (op x : Int) : haltH [2, 3, 11, 14, 97] [3, 36, 33, 35, 58, 55, 57] 65 rd5 (Ly.run ctxK 9000 [(20, true), (4, false), (0, true), (0, true), (0, true), (0, true), (6, false), (14, true), (25, true), (15, true), (25, true)] (Ly.start Try.f5 [svV s nilS (sls 1 0) nilS, .int .i64 op, .int .u16 x] (mkH [some (ints .u8 f n), some (bytes2 fa fb 0), some (bytes2 fc fd l)]))) =
  (true, [tCd op, tMd op, tC1 op x, tNr x, tC1 (op1 op) x, tNr x, tX0 x, tOk (GA (l5 s op x) 2) 2, tOk (GA (l5 s op x) 2) 2, tOk (GA (l5 s (op1 op) x) 2) 2, tOk (GA (l5 s (op1 op) x) 2) 2], true, (Try.f5, k5, some 22, 3), v5 x 36 58, (true, true, true), [some (.cells (svC s nilS (sls 1 0) nilS) 29), some (.cells (cellsPb 33 35 (mOf s) (.slice none 0 0) (.slice none 0 0)) 54), some (memL (gs (gm (GA (l5 s op x) 2) 2))), some (memL (fun _ => 0)), some (.cells (cellsPb 55 57 (mOf s) (.slice none 0 0) (.slice none 0 0)) 54), some (memL (gs (gm (GA (l5 s (op1 op) x) 2) 2))), some (memL (fun _ => 0))]) := by kernel_rfl
end Go.Proofs.Ytnknopebjdgdjaa
namespace Go.Proofs.Ytnknopebjdgdjaa
open Go Go.Ly Go.RowKit
set_option maxRecDepth 100000 in
theorem e5_NES (s : Sv) (n k l : Nat) (f fa fb fc fd : Nat → Int) (op x : Int) : haltH [2, 3, 11, 14, 97] [3, 36, 33, 35, 58, 55, 57] 65 rd5 (Ly.run ctxK 9000 [(10, true), (9, true), (4, false), (0, true), (0, true), (0, true), (0, true), (6, false), (14, true), (0, true), (24, true), (0, true), (14, true), (0, true), (24, true), (0, true)] (Ly.start Try.f5 [svV s nilS (sls 1 0) (sls 2 l), .int .i64 op, .int .u16 x] (mkH [some (ints .u8 f n), some (bytes2 fa fb 0), some (bytes2 fc fd l)]))) =
  (true, [tLd l, tCd op, tMd op, tC1 op x, tNr x, tC1 (op1 op) x, tNr x, tX0 x, tOk (GA (l5 s op x) 2) 2, tOd fc fd l, tOk (GA (l5 s op x) 2) 2, tOd fc fd l, tOk (GA (l5 s (op1 op) x) 2) 2, tOd fc fd l, tOk (GA (l5 s (op1 op) x) 2) 2, tOd fc fd l], true, (Try.f5, k5, some 22, 3), v5 x 36 58, (true, true, true), [some (.cells (svC s nilS (sls 1 0) (sls 2 l)) 29), some (.cells (cellsPb 33 35 (mOf s) (.slice none 0 0) (.slice none 0 0)) 54), some (memL (gs (gm (GA (l5 s op x) 2) 2))), some (memL (gs (gm (GD fc fd) l))), some (.cells (cellsPb 55 57 (mOf s) (.slice none 0 0) (.slice none 0 0)) 54), some (memL (gs (gm (GA (l5 s (op1 op) x) 2) 2))), some (memL (gs (gm (GD fc fd) l)))]) := by kernel_rfl
end Go.Proofs.Ytnknopebjdgdjaa
namespace Go.Proofs.Ytnknopebjdgdjaa
open Go Go.Ly Go.RowKit
set_option maxRecDepth 100000 in
theorem e5_NRN (s : Sv) (n k l : Nat) (f fa fb fc fd : Nat → Int) (op x : Int) : haltH [2, 3, 11, 14, 97] [3, 37, 34, 36, 60, 57, 59] 67 rd5 (Ly.run ctxK 9000 [(5, true), (14, true), (4, false), (0, true), (0, true), (0, true), (0, true), (6, false), (0, true), (4, true), (3, true), (3, true), (25, true), (1, true), (4, true), (3, true), (3, true), (25, true)] (Ly.start Try.f5 [svV s nilS (sls 1 (k + 1)) nilS, .int .i64 op, .int .u16 x] (mkH [some (ints .u8 f n), some (bytes2 fa fb (k + 1)), some (bytes2 fc fd l)]))) =
  (true, [tLc k, tCd op, tMd op, tC1 op x, tNr x, tC1 (op1 op) x, tNr x, tX0 x, tR1 k, tR2 k, tR3 k, tOkB (GC fa fb k (l5a s op) (l5b s x)) (0 + (k + 1) + 1) 1, tOkB (GC fa fb k (l5a s op) (l5b s x)) (0 + (k + 1) + 1) 1, tR1 k, tR2 k, tR3 k, tOkB (GC fa fb k (l5a s (op1 op)) (l5b s x)) (0 + (k + 1) + 1) 1, tOkB (GC fa fb k (l5a s (op1 op)) (l5b s x)) (0 + (k + 1) + 1) 1], true, (Try.f5, k5, some 22, 3), v5 x 37 60, (true, true, true), [some (.cells (svC s nilS (sls 1 (k + 1)) nilS) 29), some (.cells (cellsPb 34 36 (mOf s) (.slice none 0 0) (.slice none 0 0)) 54), some (memL (gs (gm (GC fa fb k (l5a s op) (l5b s x)) (0 + (k + 1) + 1 + 1)))), some (memL (fun _ => 0)), some (.cells (cellsPb 57 59 (mOf s) (.slice none 0 0) (.slice none 0 0)) 54), some (memL (gs (gm (GC fa fb k (l5a s (op1 op)) (l5b s x)) (0 + (k + 1) + 1 + 1)))), some (memL (fun _ => 0))]) := by kernel_rfl
end Go.Proofs.Ytnknopebjdgdjaa
namespace Go.Proofs.Ytnknopebjdgdjaa
open Go Go.Ly Go.RowKit
set_option maxRecDepth 100000 in
theorem e5_NRS (s : Sv) (n k l : Nat) (f fa fb fc fd : Nat → Int) (op x : Int) : haltH [2, 3, 11, 14, 97] [3, 37, 34, 36, 60, 57, 59] 67 rd5 (Ly.run ctxK 9000 [(5, true), (4, true), (9, true), (4, false), (0, true), (0, true), (0, true), (0, true), (6, false), (0, true), (4, true), (3, true), (3, true), (0, true), (24, true), (0, true), (0, true), (4, true), (3, true), (3, true), (0, true), (24, true), (0, true)] (Ly.start Try.f5 [svV s nilS (sls 1 (k + 1)) (sls 2 l), .int .i64 op, .int .u16 x] (mkH [some (ints .u8 f n), some (bytes2 fa fb (k + 1)), some (bytes2 fc fd l)]))) =
  (true, [tLc k, tLd l, tCd op, tMd op, tC1 op x, tNr x, tC1 (op1 op) x, tNr x, tX0 x, tR1 k, tR2 k, tR3 k, tOkB (GC fa fb k (l5a s op) (l5b s x)) (0 + (k + 1) + 1) 1, tOd fc fd l, tOkB (GC fa fb k (l5a s op) (l5b s x)) (0 + (k + 1) + 1) 1, tOd fc fd l, tR1 k, tR2 k, tR3 k, tOkB (GC fa fb k (l5a s (op1 op)) (l5b s x)) (0 + (k + 1) + 1) 1, tOd fc fd l, tOkB (GC fa fb k (l5a s (op1 op)) (l5b s x)) (0 + (k + 1) + 1) 1, tOd fc fd l], true, (Try.f5, k5, some 22, 3), v5 x 37 60, (true, true, true), [some (.cells (svC s nilS (sls 1 (k + 1)) (sls 2 l)) 29), some (.cells (cellsPb 34 36 (mOf s) (.slice none 0 0) (.slice none 0 0)) 54), some (memL (gs (gm (GC fa fb k (l5a s op) (l5b s x)) (0 + (k + 1) + 1 + 1)))), some (memL (gs (gm (GD fc fd) l))), some (.cells (cellsPb 57 59 (mOf s) (.slice none 0 0) (.slice none 0 0)) 54), some (memL (gs (gm (GC fa fb k (l5a s (op1 op)) (l5b s x)) (0 + (k + 1) + 1 + 1)))), some (memL (gs (gm (GD fc fd) l)))]) := by kernel_rfl
end Go.Proofs.Ytnknopebjdgdjaa
namespace Go.Proofs.Ytnknopebjdgdjaa
open Go Go.Ly Go.RowKit
set_option maxRecDepth 100000 in
theorem e5_ENN (s : Sv) (n k l : Nat) (f fa fb fc fd : Nat → Int) (op x : Int) : haltH [2, 3, 11, 14, 97] [3, 37, 34, 36, 60, 57, 59] 67 rd5 (Ly.run ctxK 9000 [(20, true), (4, false), (0, true), (0, true), (0, true), (0, true), (6, false), (14, true), (28, true), (15, true), (28, true)] (Ly.start Try.f5 [svV s (sl 0 0) nilS nilS, .int .i64 op, .int .u16 x] (mkH [some (ints .u8 f 0), some (bytes2 fa fb k), some (bytes2 fc fd l)]))) =
  (true, [tCd op, tMd op, tC1 op x, tNr x, tC1 (op1 op) x, tNr x, tX0 x, tOk (GA (l5 s op x) 2) 2, tOk (GA (l5 s op x) 2) 2, tOk (GA (l5 s (op1 op) x) 2) 2, tOk (GA (l5 s (op1 op) x) 2) 2], true, (Try.f5, k5, some 22, 3), v5 x 37 60, (true, true, true), [some (.cells (svC s (sl 0 0) nilS nilS) 29), some (.cells (cellsPb 34 36 (mOf s) (.slice (some ⟨32, 0, none⟩) 0 0) (.slice none 0 0)) 54), some (memL (gs (gm (GA (l5 s op x) 2) 2))), some (memL (fun _ => 0)), some (.cells (cellsPb 57 59 (mOf s) (.slice (some ⟨55, 0, none⟩) 0 0) (.slice none 0 0)) 54), some (memL (gs (gm (GA (l5 s (op1 op) x) 2) 2))), some (memL (fun _ => 0))]) := by kernel_rfl
end Go.Proofs.Ytnknopebjdgdjaa
namespace Go.Proofs.Ytnknopebjdgdjaa
open Go Go.Ly Go.RowKit
set_option maxRecDepth 100000 in
theorem e5_ENS (s : Sv) (n k l : Nat) (f fa fb fc fd : Nat → Int) (op x : Int) : haltH [2, 3, 11, 14, 97] [3, 37, 34, 36, 60, 57, 59] 67 rd5 (Ly.run ctxK 9000 [(10, true), (9, true), (4, false), (0, true), (0, true), (0, true), (0, true), (6, false), (14, true), (0, true), (27, true), (0, true), (14, true), (0, true), (27, true), (0, true)] (Ly.start Try.f5 [svV s (sl 0 0) nilS (sls 2 l), .int .i64 op, .int .u16 x] (mkH [some (ints .u8 f 0), some (bytes2 fa fb k), some (bytes2 fc fd l)]))) =
  (true, [tLd l, tCd op, tMd op, tC1 op x, tNr x, tC1 (op1 op) x, tNr x, tX0 x, tOk (GA (l5 s op x) 2) 2, tOd fc fd l, tOk (GA (l5 s op x) 2) 2, tOd fc fd l, tOk (GA (l5 s (op1 op) x) 2) 2, tOd fc fd l, tOk (GA (l5 s (op1 op) x) 2) 2, tOd fc fd l], true, (Try.f5, k5, some 22, 3), v5 x 37 60, (true, true, true), [some (.cells (svC s (sl 0 0) nilS (sls 2 l)) 29), some (.cells (cellsPb 34 36 (mOf s) (.slice (some ⟨32, 0, none⟩) 0 0) (.slice none 0 0)) 54), some (memL (gs (gm (GA (l5 s op x) 2) 2))), some (memL (gs (gm (GD fc fd) l))), some (.cells (cellsPb 57 59 (mOf s) (.slice (some ⟨55, 0, none⟩) 0 0) (.slice none 0 0)) 54), some (memL (gs (gm (GA (l5 s (op1 op) x) 2) 2))), some (memL (gs (gm (GD fc fd) l)))]) := by kernel_rfl
end Go.Proofs.Ytnknopebjdgdjaa
namespace Go.Proofs.Ytnknopebjdgdjaa
open Go Go.Ly Go.RowKit
set_option maxRecDepth 100000 in
theorem e5_EEN (s : Sv) (n k l : Nat) (f fa fb fc fd : Nat → Int) (op x : Int) : haltH [2, 3, 11, 14, 97] [3, 37, 34, 36, 60, 57, 59] 67 rd5 (Ly.run ctxK 9000 [(20, true), (4, false), (0, true), (0, true), (0, true), (0, true), (6, false), (14, true), (28, true), (15, true), (28, true)] (Ly.start Try.f5 [svV s (sl 0 0) (sls 1 0) nilS, .int .i64 op, .int .u16 x] (mkH [some (ints .u8 f 0), some (bytes2 fa fb 0), some (bytes2 fc fd l)]))) =
  (true, [tCd op, tMd op, tC1 op x, tNr x, tC1 (op1 op) x, tNr x, tX0 x, tOk (GA (l5 s op x) 2) 2, tOk (GA (l5 s op x) 2) 2, tOk (GA (l5 s (op1 op) x) 2) 2, tOk (GA (l5 s (op1 op) x) 2) 2], true, (Try.f5, k5, some 22, 3), v5 x 37 60, (true, true, true), [some (.cells (svC s (sl 0 0) (sls 1 0) nilS) 29), some (.cells (cellsPb 34 36 (mOf s) (.slice (some ⟨32, 0, none⟩) 0 0) (.slice none 0 0)) 54), some (memL (gs (gm (GA (l5 s op x) 2) 2))), some (memL (fun _ => 0)), some (.cells (cellsPb 57 59 (mOf s) (.slice (some ⟨55, 0, none⟩) 0 0) (.slice none 0 0)) 54), some (memL (gs (gm (GA (l5 s (op1 op) x) 2) 2))), some (memL (fun _ => 0))]) := by kernel_rfl
end Go.Proofs.Ytnknopebjdgdjaa
namespace Go.Proofs.Ytnknopebjdgdjaa
open Go Go.Ly Go.RowKit
set_option maxRecDepth 100000 in
theorem e5_EES (s : Sv) (n k l : Nat) (f fa fb fc fd : Nat → Int) (op x : Int) : haltH [2, 3, 11, 14, 97] [3, 37, 34, 36, 60, 57, 59] 67 rd5 (Ly.run ctxK 9000 [(10, true), (9, true), (4, false), (0, true), (0, true), (0, true), (0, true), (6, false), (14, true), (0, true), (27, true), (0, true), (14, true), (0, true), (27, true), (0, true)] (Ly.start Try.f5 [svV s (sl 0 0) (sls 1 0) (sls 2 l), .int .i64 op, .int .u16 x] (mkH [some (ints .u8 f 0), some (bytes2 fa fb 0), some (bytes2 fc fd l)]))) =
  (true, [tLd l, tCd op, tMd op, tC1 op x, tNr x, tC1 (op1 op) x, tNr x, tX0 x, tOk (GA (l5 s op x) 2) 2, tOd fc fd l, tOk (GA (l5 s op x) 2) 2, tOd fc fd l, tOk (GA (l5 s (op1 op) x) 2) 2, tOd fc fd l, tOk (GA (l5 s (op1 op) x) 2) 2, tOd fc fd l], true, (Try.f5, k5, some 22, 3), v5 x 37 60, (true, true, true), [some (.cells (svC s (sl 0 0) (sls 1 0) (sls 2 l)) 29), some (.cells (cellsPb 34 36 (mOf s) (.slice (some ⟨32, 0, none⟩) 0 0) (.slice none 0 0)) 54), some (memL (gs (gm (GA (l5 s op x) 2) 2))), some (memL (gs (gm (GD fc fd) l))), some (.cells (cellsPb 57 59 (mOf s) (.slice (some ⟨55, 0, none⟩) 0 0) (.slice none 0 0)) 54), some (memL (gs (gm (GA (l5 s (op1 op) x) 2) 2))), some (memL (gs (gm (GD fc fd) l)))]) := by kernel_rfl
end Go.Proofs.Ytnknopebjdgdjaa
namespace Go.Proofs.Ytnknopebjdgdjaa
open Go Go.Ly Go.RowKit
set_option maxRecDepth 100000 in
theorem e5_ERN (s : Sv) (n k l : Nat) (f fa fb fc fd : Nat → Int) (op x : Int) : haltH [2, 3, 11, 14, 97] [3, 38, 35, 37, 62, 59, 61] 69 rd5 (Ly.run ctxK 9000 [(5, true), (14, true), (4, false), (0, true), (0, true), (0, true), (0, true), (6, false), (0, true), (4, true), (3, true), (3, true), (28, true), (1, true), (4, true), (3, true), (3, true), (28, true)] (Ly.start Try.f5 [svV s (sl 0 0) (sls 1 (k + 1)) nilS, .int .i64 op, .int .u16 x] (mkH [some (ints .u8 f 0), some (bytes2 fa fb (k + 1)), some (bytes2 fc fd l)]))) =
  (true, [tLc k, tCd op, tMd op, tC1 op x, tNr x, tC1 (op1 op) x, tNr x, tX0 x, tR1 k, tR2 k, tR3 k, tOkB (GC fa fb k (l5a s op) (l5b s x)) (0 + (k + 1) + 1) 1, tOkB (GC fa fb k (l5a s op) (l5b s x)) (0 + (k + 1) + 1) 1, tR1 k, tR2 k, tR3 k, tOkB (GC fa fb k (l5a s (op1 op)) (l5b s x)) (0 + (k + 1) + 1) 1, tOkB (GC fa fb k (l5a s (op1 op)) (l5b s x)) (0 + (k + 1) + 1) 1], true, (Try.f5, k5, some 22, 3), v5 x 38 62, (true, true, true), [some (.cells (svC s (sl 0 0) (sls 1 (k + 1)) nilS) 29), some (.cells (cellsPb 35 37 (mOf s) (.slice (some ⟨33, 0, none⟩) 0 0) (.slice none 0 0)) 54), some (memL (gs (gm (GC fa fb k (l5a s op) (l5b s x)) (0 + (k + 1) + 1 + 1)))), some (memL (fun _ => 0)), some (.cells (cellsPb 59 61 (mOf s) (.slice (some ⟨57, 0, none⟩) 0 0) (.slice none 0 0)) 54), some (memL (gs (gm (GC fa fb k (l5a s (op1 op)) (l5b s x)) (0 + (k + 1) + 1 + 1)))), some (memL (fun _ => 0))]) := by kernel_rfl
end Go.Proofs.Ytnknopebjdgdjaa
namespace Go.Proofs.Ytnknopebjdgdjaa
open Go Go.Ly Go.RowKit
set_option maxRecDepth 100000 in
theorem e5_ERS (s : Sv) (n k l : Nat) (f fa fb fc fd : Nat → Int) (op x : Int) : haltH [2, 3, 11, 14, 97] [3, 38, 35, 37, 62, 59, 61] 69 rd5 (Ly.run ctxK 9000 [(5, true), (4, true), (9, true), (4, false), (0, true), (0, true), (0, true), (0, true), (6, false), (0, true), (4, true), (3, true), (3, true), (0, true), (27, true), (0, true), (0, true), (4, true), (3, true), (3, true), (0, true), (27, true), (0, true)] (Ly.start Try.f5 [svV s (sl 0 0) (sls 1 (k + 1)) (sls 2 l), .int .i64 op, .int .u16 x] (mkH [some (ints .u8 f 0), some (bytes2 fa fb (k + 1)), some (bytes2 fc fd l)]))) =
  (true, [tLc k, tLd l, tCd op, tMd op, tC1 op x, tNr x, tC1 (op1 op) x, tNr x, tX0 x, tR1 k, tR2 k, tR3 k, tOkB (GC fa fb k (l5a s op) (l5b s x)) (0 + (k + 1) + 1) 1, tOd fc fd l, tOkB (GC fa fb k (l5a s op) (l5b s x)) (0 + (k + 1) + 1) 1, tOd fc fd l, tR1 k, tR2 k, tR3 k, tOkB (GC fa fb k (l5a s (op1 op)) (l5b s x)) (0 + (k + 1) + 1) 1, tOd fc fd l, tOkB (GC fa fb k (l5a s (op1 op)) (l5b s x)) (0 + (k + 1) + 1) 1, tOd fc fd l], true, (Try.f5, k5, some 22, 3), v5 x 38 62, (true, true, true), [some (.cells (svC s (sl 0 0) (sls 1 (k + 1)) (sls 2 l)) 29), some (.cells (cellsPb 35 37 (mOf s) (.slice (some ⟨33, 0, none⟩) 0 0) (.slice none 0 0)) 54), some (memL (gs (gm (GC fa fb k (l5a s op) (l5b s x)) (0 + (k + 1) + 1 + 1)))), some (memL (gs (gm (GD fc fd) l))), some (.cells (cellsPb 59 61 (mOf s) (.slice (some ⟨57, 0, none⟩) 0 0) (.slice none 0 0)) 54), some (memL (gs (gm (GC fa fb k (l5a s (op1 op)) (l5b s x)) (0 + (k + 1) + 1 + 1)))), some (memL (gs (gm (GD fc fd) l)))]) := by kernel_rfl
end Go.Proofs.Ytnknopebjdgdjaa
namespace Go.Proofs.Ytnknopebjdgdjaa
open Go Go.Ly Go.RowKit
set_option maxRecDepth 100000 in
theorem e5_RNN (s : Sv) (n k l : Nat) (f fa fb fc fd : Nat → Int) (op x : Int) : haltH [2, 3, 11, 14, 97] [3, 38, 35, 37, 62, 59, 61] 69 rd5 (Ly.run ctxK 9000 [(0, true), (14, true), (4, true), (4, false), (0, true), (0, true), (0, true), (0, true), (6, false), (14, true), (10, false), (1, true), (15, true), (15, true), (10, false), (1, true), (15, true)] (Ly.start Try.f5 [svV s (sl 0 (n + 1)) nilS nilS, .int .i64 op, .int .u16 x] (mkH [some (ints .u8 f (n + 1)), some (bytes2 fa fb k), some (bytes2 fc fd l)]))) =
  (true, [tLi n, tMe n, tCd op, tMd op, tC1 op x, tNr x, tC1 (op1 op) x, tNr x, tX0 x, tOk (GA (l5 s op x) 2) 2, tMx n, tR1 n, tOk (GA (l5 s op x) 2) 2, tOk (GA (l5 s (op1 op) x) 2) 2, tMx n, tR1 n, tOk (GA (l5 s (op1 op) x) 2) 2], true, (Try.f5, k5, some 22, 3), v5 x 38 62, (true, true, true), [some (.cells (svC s (sl 0 (n + 1)) nilS nilS) 29), some (.cells (cellsPb 35 37 (mOf s) (inV 33 0 (0 + (n + 1))) (.slice none 0 0)) 54), some (memL (gs (gm (GA (l5 s op x) 2) 2))), some (memL (fun _ => 0)), some (.cells (cellsPb 59 61 (mOf s) (inV 57 0 (0 + (n + 1))) (.slice none 0 0)) 54), some (memL (gs (gm (GA (l5 s (op1 op) x) 2) 2))), some (memL (fun _ => 0))]) := by kernel_rfl
end Go.Proofs.Ytnknopebjdgdjaa
namespace Go.Proofs.Ytnknopebjdgdjaa
open Go Go.Ly Go.RowKit
set_option maxRecDepth 100000 in
theorem e5_RNS (s : Sv) (n k l : Nat) (f fa fb fc fd : Nat → Int) (op x : Int) : haltH [2, 3, 11, 14, 97] [3, 38, 35, 37, 62, 59, 61] 69 rd5 (Ly.run ctxK 9000 [(0, true), (9, true), (4, true), (4, true), (4, false), (0, true), (0, true), (0, true), (0, true), (6, false), (14, true), (0, true), (9, false), (1, true), (15, true), (0, true), (14, true), (0, true), (9, false), (1, true), (15, true), (0, true)] (Ly.start Try.f5 [svV s (sl 0 (n + 1)) nilS (sls 2 l), .int .i64 op, .int .u16 x] (mkH [some (ints .u8 f (n + 1)), some (bytes2 fa fb k), some (bytes2 fc fd l)]))) =
  (true, [tLi n, tLd l, tMe n, tCd op, tMd op, tC1 op x, tNr x, tC1 (op1 op) x, tNr x, tX0 x, tOk (GA (l5 s op x) 2) 2, tOd fc fd l, tMx n, tR1 n, tOk (GA (l5 s op x) 2) 2, tOd fc fd l, tOk (GA (l5 s (op1 op) x) 2) 2, tOd fc fd l, tMx n, tR1 n, tOk (GA (l5 s (op1 op) x) 2) 2, tOd fc fd l], true, (Try.f5, k5, some 22, 3), v5 x 38 62, (true, true, true), [some (.cells (svC s (sl 0 (n + 1)) nilS (sls 2 l)) 29), some (.cells (cellsPb 35 37 (mOf s) (inV 33 0 (0 + (n + 1))) (.slice none 0 0)) 54), some (memL (gs (gm (GA (l5 s op x) 2) 2))), some (memL (gs (gm (GD fc fd) l))), some (.cells (cellsPb 59 61 (mOf s) (inV 57 0 (0 + (n + 1))) (.slice none 0 0)) 54), some (memL (gs (gm (GA (l5 s (op1 op) x) 2) 2))), some (memL (gs (gm (GD fc fd) l)))]) := by kernel_rfl
end Go.Proofs.Ytnknopebjdgdjaa
namespace Go.Proofs.Ytnknopebjdgdjaa
open Go Go.Ly Go.RowKit
set_option maxRecDepth 100000 in
theorem e5_REN (s : Sv) (n k l : Nat) (f fa fb fc fd : Nat → Int) (op x : Int) : haltH [2, 3, 11, 14, 97] [3, 38, 35, 37, 62, 59, 61] 69 rd5 (Ly.run ctxK 9000 [(0, true), (14, true), (4, true), (4, false), (0, true), (0, true), (0, true), (0, true), (6, false), (14, true), (10, false), (1, true), (15, true), (15, true), (10, false), (1, true), (15, true)] (Ly.start Try.f5 [svV s (sl 0 (n + 1)) (sls 1 0) nilS, .int .i64 op, .int .u16 x] (mkH [some (ints .u8 f (n + 1)), some (bytes2 fa fb 0), some (bytes2 fc fd l)]))) =
  (true, [tLi n, tMe n, tCd op, tMd op, tC1 op x, tNr x, tC1 (op1 op) x, tNr x, tX0 x, tOk (GA (l5 s op x) 2) 2, tMx n, tR1 n, tOk (GA (l5 s op x) 2) 2, tOk (GA (l5 s (op1 op) x) 2) 2, tMx n, tR1 n, tOk (GA (l5 s (op1 op) x) 2) 2], true, (Try.f5, k5, some 22, 3), v5 x 38 62, (true, true, true), [some (.cells (svC s (sl 0 (n + 1)) (sls 1 0) nilS) 29), some (.cells (cellsPb 35 37 (mOf s) (inV 33 0 (0 + (n + 1))) (.slice none 0 0)) 54), some (memL (gs (gm (GA (l5 s op x) 2) 2))), some (memL (fun _ => 0)), some (.cells (cellsPb 59 61 (mOf s) (inV 57 0 (0 + (n + 1))) (.slice none 0 0)) 54), some (memL (gs (gm (GA (l5 s (op1 op) x) 2) 2))), some (memL (fun _ => 0))]) := by kernel_rfl
end Go.Proofs.Ytnknopebjdgdjaa
namespace Go.Proofs.Ytnknopebjdgdjaa
open Go Go.Ly Go.RowKit
set_option maxRecDepth 100000 in
theorem e5_RES (s : Sv) (n k l : Nat) (f fa fb fc fd : Nat → Int) (op x : Int) : haltH [2, 3, 11, 14, 97] [3, 38, 35, 37, 62, 59, 61] 69 rd5 (Ly.run ctxK 9000 [(0, true), (9, true), (4, true), (4, true), (4, false), (0, true), (0, true), (0, true), (0, true), (6, false), (14, true), (0, true), (9, false), (1, true), (15, true), (0, true), (14, true), (0, true), (9, false), (1, true), (15, true), (0, true)] (Ly.start Try.f5 [svV s (sl 0 (n + 1)) (sls 1 0) (sls 2 l), .int .i64 op, .int .u16 x] (mkH [some (ints .u8 f (n + 1)), some (bytes2 fa fb 0), some (bytes2 fc fd l)]))) =
  (true, [tLi n, tLd l, tMe n, tCd op, tMd op, tC1 op x, tNr x, tC1 (op1 op) x, tNr x, tX0 x, tOk (GA (l5 s op x) 2) 2, tOd fc fd l, tMx n, tR1 n, tOk (GA (l5 s op x) 2) 2, tOd fc fd l, tOk (GA (l5 s (op1 op) x) 2) 2, tOd fc fd l, tMx n, tR1 n, tOk (GA (l5 s (op1 op) x) 2) 2, tOd fc fd l], true, (Try.f5, k5, some 22, 3), v5 x 38 62, (true, true, true), [some (.cells (svC s (sl 0 (n + 1)) (sls 1 0) (sls 2 l)) 29), some (.cells (cellsPb 35 37 (mOf s) (inV 33 0 (0 + (n + 1))) (.slice none 0 0)) 54), some (memL (gs (gm (GA (l5 s op x) 2) 2))), some (memL (gs (gm (GD fc fd) l))), some (.cells (cellsPb 59 61 (mOf s) (inV 57 0 (0 + (n + 1))) (.slice none 0 0)) 54), some (memL (gs (gm (GA (l5 s (op1 op) x) 2) 2))), some (memL (gs (gm (GD fc fd) l)))]) := by kernel_rfl
end Go.Proofs.Ytnknopebjdgdjaa
namespace Go.Proofs.Ytnknopebjdgdjaa
open Go Go.Ly Go.RowKit
set_option maxRecDepth 100000 in
theorem e5_RRN (s : Sv) (n k l : Nat) (f fa fb fc fd : Nat → Int) (op x : Int) : haltH [2, 3, 11, 14, 97] [3, 39, 36, 38, 64, 61, 63] 71 rd5 (Ly.run ctxK 9000 [(0, true), (4, true), (9, true), (4, true), (4, false), (0, true), (0, true), (0, true), (0, true), (6, false), (0, true), (4, true), (3, true), (3, true), (10, false), (1, true), (15, true), (1, true), (4, true), (3, true), (3, true), (10, false), (1, true), (15, true)] (Ly.start Try.f5 [svV s (sl 0 (n + 1)) (sls 1 (k + 1)) nilS, .int .i64 op, .int .u16 x] (mkH [some (ints .u8 f (n + 1)), some (bytes2 fa fb (k + 1)), some (bytes2 fc fd l)]))) =
  (true, [tLi n, tLc k, tMe n, tCd op, tMd op, tC1 op x, tNr x, tC1 (op1 op) x, tNr x, tX0 x, tR1 k, tR2 k, tR3 k, tOkB (GC fa fb k (l5a s op) (l5b s x)) (0 + (k + 1) + 1) 1, tMx n, tR1 n, tOkB (GC fa fb k (l5a s op) (l5b s x)) (0 + (k + 1) + 1) 1, tR1 k, tR2 k, tR3 k, tOkB (GC fa fb k (l5a s (op1 op)) (l5b s x)) (0 + (k + 1) + 1) 1, tMx n, tR1 n, tOkB (GC fa fb k (l5a s (op1 op)) (l5b s x)) (0 + (k + 1) + 1) 1], true, (Try.f5, k5, some 22, 3), v5 x 39 64, (true, true, true), [some (.cells (svC s (sl 0 (n + 1)) (sls 1 (k + 1)) nilS) 29), some (.cells (cellsPb 36 38 (mOf s) (inV 34 0 (0 + (n + 1))) (.slice none 0 0)) 54), some (memL (gs (gm (GC fa fb k (l5a s op) (l5b s x)) (0 + (k + 1) + 1 + 1)))), some (memL (fun _ => 0)), some (.cells (cellsPb 61 63 (mOf s) (inV 59 0 (0 + (n + 1))) (.slice none 0 0)) 54), some (memL (gs (gm (GC fa fb k (l5a s (op1 op)) (l5b s x)) (0 + (k + 1) + 1 + 1)))), some (memL (fun _ => 0))]) := by kernel_rfl
end Go.Proofs.Ytnknopebjdgdjaa
namespace Go.Proofs.Ytnknopebjdgdjaa
open Go Go.Ly Go.RowKit
set_option maxRecDepth 100000 in
theorem e5_RRS (s : Sv) (n k l : Nat) (f fa fb fc fd : Nat → Int) (op x : Int) : haltH [2, 3, 11, 14, 97] [3, 39, 36, 38, 64, 61, 63] 71 rd5 (Ly.run ctxK 9000 [(0, true), (4, true), (4, true), (4, true), (4, true), (4, false), (0, true), (0, true), (0, true), (0, true), (6, false), (0, true), (4, true), (3, true), (3, true), (0, true), (9, false), (1, true), (15, true), (0, true), (0, true), (4, true), (3, true), (3, true), (0, true), (9, false), (1, true), (15, true), (0, true)] (Ly.start Try.f5 [svV s (sl 0 (n + 1)) (sls 1 (k + 1)) (sls 2 l), .int .i64 op, .int .u16 x] (mkH [some (ints .u8 f (n + 1)), some (bytes2 fa fb (k + 1)), some (bytes2 fc fd l)]))) =
  (true, [tLi n, tLc k, tLd l, tMe n, tCd op, tMd op, tC1 op x, tNr x, tC1 (op1 op) x, tNr x, tX0 x, tR1 k, tR2 k, tR3 k, tOkB (GC fa fb k (l5a s op) (l5b s x)) (0 + (k + 1) + 1) 1, tOd fc fd l, tMx n, tR1 n, tOkB (GC fa fb k (l5a s op) (l5b s x)) (0 + (k + 1) + 1) 1, tOd fc fd l, tR1 k, tR2 k, tR3 k, tOkB (GC fa fb k (l5a s (op1 op)) (l5b s x)) (0 + (k + 1) + 1) 1, tOd fc fd l, tMx n, tR1 n, tOkB (GC fa fb k (l5a s (op1 op)) (l5b s x)) (0 + (k + 1) + 1) 1, tOd fc fd l], true, (Try.f5, k5, some 22, 3), v5 x 39 64, (true, true, true), [some (.cells (svC s (sl 0 (n + 1)) (sls 1 (k + 1)) (sls 2 l)) 29), some (.cells (cellsPb 36 38 (mOf s) (inV 34 0 (0 + (n + 1))) (.slice none 0 0)) 54), some (memL (gs (gm (GC fa fb k (l5a s op) (l5b s x)) (0 + (k + 1) + 1 + 1)))), some (memL (gs (gm (GD fc fd) l))), some (.cells (cellsPb 61 63 (mOf s) (inV 59 0 (0 + (n + 1))) (.slice none 0 0)) 54), some (memL (gs (gm (GC fa fb k (l5a s (op1 op)) (l5b s x)) (0 + (k + 1) + 1 + 1)))), some (memL (gs (gm (GD fc fd) l)))]) := by kernel_rfl
end Go.Proofs.Ytnknopebjdgdjaa
namespace Go.Proofs.Ytnknopebjdgdjaa
open Go Go.Ly Go.RowKit
theorem g5_NNN (s : Sv) (n k l : Nat) (f fa fb fc fd : Nat → Int) (op x : Int) (hip : B16 s.ip) (ho : condB op = true) (he : (op.tmod 2 == 1) = false) (hxw : inw x = true) (hnr : nearB x = true) (hx0 : (x == 0) = false) :
    LCalls Try.prog 5 [svV s nilS nilS nilS, .int .i64 op, .int .u16 x] (mkH [some (ints .u8 f n), some (bytes2 fa fb k), some (bytes2 fc fd l)]) (fun u _ => u = .bool true) := by
  have hoo := cond1 ho he
  have ho1 : condB (op1 op) = true := by rw [op1_eq ho]; exact hoo
  obtain ⟨hx1, hx2⟩ := (inw_iff x).1 hxw
  refine LCalls_of ctxK_ok gL5 (by kernel_rfl) (MWp.haltH ctxK_ok _ _ _ _ (e5_NNN s n k l f fa fb fc fd op x) (tr_cons (tCd_ok ho) (tr_cons (tMd_ok he) (tr_cons (tC1_ok ho hxw) (tr_cons (tNr_ok hnr) (tr_cons (tC1_ok ho1 hxw) (tr_cons (tNr_ok hnr) (tr_cons (tX0_ok hx0) (tr_cons (tOk_ok (gok5 ho) (by omega)) (tr_cons (tOk_ok (gok5 ho) (by omega)) (tr_cons (tOk_ok (gok5 ho1) (by omega)) (tr_cons (tOk_ok (gok5 ho1) (by omega)) trivial))))))))))) ?_)
  intro H hnx hl hc hos
  simp only [List.map_cons, List.map_nil, List.cons.injEq, and_true] at hos
  obtain ⟨h1, h2, h3, h4, h5, h6, h7⟩ := hos
  rw [gs_eq] at h3 h6
  have q0 := by5 s op x hip
  have q1 := by5 s (op1 op) x hip
  rw [op1_eq ho] at q1
  rw [op1_eq ho] at h6
  exact tail5 fin36 hx1 hx2 hx0 hip ho hoo he hnr (by omega) hl hc h1 ⟨h2, h3, h4, rfl, rfl, by decide⟩ ⟨h5, h6, h7, rfl, rfl, by decide⟩ (by decide) q0.1 q0.2 q1.1 q1.2
theorem g5_NNS (s : Sv) (n k l : Nat) (f fa fb fc fd : Nat → Int) (op x : Int) (hip : B16 s.ip) (hLd : l ≤ 300) (hd : ∀ e, e < l → B16 (fc e) ∧ B8 (fd e)) (ho : condB op = true) (he : (op.tmod 2 == 1) = false) (hxw : inw x = true) (hnr : nearB x = true) (hx0 : (x == 0) = false) :
    LCalls Try.prog 5 [svV s nilS nilS (sls 2 l), .int .i64 op, .int .u16 x] (mkH [some (ints .u8 f n), some (bytes2 fa fb k), some (bytes2 fc fd l)]) (fun u _ => u = .bool true) := by
  have hoo := cond1 ho he
  have ho1 : condB (op1 op) = true := by rw [op1_eq ho]; exact hoo
  obtain ⟨hx1, hx2⟩ := (inw_iff x).1 hxw
  refine LCalls_of ctxK_ok gL5 (by kernel_rfl) (MWp.haltH ctxK_ok _ _ _ _ (e5_NNS s n k l f fa fb fc fd op x) (tr_cons (tLd_ok hLd) (tr_cons (tCd_ok ho) (tr_cons (tMd_ok he) (tr_cons (tC1_ok ho hxw) (tr_cons (tNr_ok hnr) (tr_cons (tC1_ok ho1 hxw) (tr_cons (tNr_ok hnr) (tr_cons (tX0_ok hx0) (tr_cons (tOk_ok (gok5 ho) (by omega)) (tr_cons (tOd_ok hd (by omega)) (tr_cons (tOk_ok (gok5 ho) (by omega)) (tr_cons (tOd_ok hd (by omega)) (tr_cons (tOk_ok (gok5 ho1) (by omega)) (tr_cons (tOd_ok hd (by omega)) (tr_cons (tOk_ok (gok5 ho1) (by omega)) (tr_cons (tOd_ok hd (by omega)) trivial)))))))))))))))) ?_)
  intro H hnx hl hc hos
  simp only [List.map_cons, List.map_nil, List.cons.injEq, and_true] at hos
  obtain ⟨h1, h2, h3, h4, h5, h6, h7⟩ := hos
  rw [gs_eq] at h3 h6
  have q0 := by5 s op x hip
  have q1 := by5 s (op1 op) x hip
  rw [op1_eq ho] at q1
  rw [op1_eq ho] at h6
  exact tail5 fin36 hx1 hx2 hx0 hip ho hoo he hnr (by omega) hl hc h1 ⟨h2, h3, h4, rfl, rfl, by decide⟩ ⟨h5, h6, h7, rfl, rfl, by decide⟩ (by decide) q0.1 q0.2 q1.1 q1.2
theorem g5_NEN (s : Sv) (n k l : Nat) (f fa fb fc fd : Nat → Int) (op x : Int) (hip : B16 s.ip) (ho : condB op = true) (he : (op.tmod 2 == 1) = false) (hxw : inw x = true) (hnr : nearB x = true) (hx0 : (x == 0) = false) :
    LCalls Try.prog 5 [svV s nilS (sls 1 0) nilS, .int .i64 op, .int .u16 x] (mkH [some (ints .u8 f n), some (bytes2 fa fb 0), some (bytes2 fc fd l)]) (fun u _ => u = .bool true) := by
  have hoo := cond1 ho he
  have ho1 : condB (op1 op) = true := by rw [op1_eq ho]; exact hoo
  obtain ⟨hx1, hx2⟩ := (inw_iff x).1 hxw
  refine LCalls_of ctxK_ok gL5 (by kernel_rfl) (MWp.haltH ctxK_ok _ _ _ _ (e5_NEN s n k l f fa fb fc fd op x) (tr_cons (tCd_ok ho) (tr_cons (tMd_ok he) (tr_cons (tC1_ok ho hxw) (tr_cons (tNr_ok hnr) (tr_cons (tC1_ok ho1 hxw) (tr_cons (tNr_ok hnr) (tr_cons (tX0_ok hx0) (tr_cons (tOk_ok (gok5 ho) (by omega)) (tr_cons (tOk_ok (gok5 ho) (by omega)) (tr_cons (tOk_ok (gok5 ho1) (by omega)) (tr_cons (tOk_ok (gok5 ho1) (by omega)) trivial))))))))))) ?_)
  intro H hnx hl hc hos
  simp only [List.map_cons, List.map_nil, List.cons.injEq, and_true] at hos
  obtain ⟨h1, h2, h3, h4, h5, h6, h7⟩ := hos
  rw [gs_eq] at h3 h6
  have q0 := by5 s op x hip
  have q1 := by5 s (op1 op) x hip
  rw [op1_eq ho] at q1
  rw [op1_eq ho] at h6
  exact tail5 fin36 hx1 hx2 hx0 hip ho hoo he hnr (by omega) hl hc h1 ⟨h2, h3, h4, rfl, rfl, by decide⟩ ⟨h5, h6, h7, rfl, rfl, by decide⟩ (by decide) q0.1 q0.2 q1.1 q1.2
theorem g5_NES (s : Sv) (n k l : Nat) (f fa fb fc fd : Nat → Int) (op x : Int) (hip : B16 s.ip) (hLd : l ≤ 300) (hd : ∀ e, e < l → B16 (fc e) ∧ B8 (fd e)) (ho : condB op = true) (he : (op.tmod 2 == 1) = false) (hxw : inw x = true) (hnr : nearB x = true) (hx0 : (x == 0) = false) :
    LCalls Try.prog 5 [svV s nilS (sls 1 0) (sls 2 l), .int .i64 op, .int .u16 x] (mkH [some (ints .u8 f n), some (bytes2 fa fb 0), some (bytes2 fc fd l)]) (fun u _ => u = .bool true) := by
  have hoo := cond1 ho he
  have ho1 : condB (op1 op) = true := by rw [op1_eq ho]; exact hoo
  obtain ⟨hx1, hx2⟩ := (inw_iff x).1 hxw
  refine LCalls_of ctxK_ok gL5 (by kernel_rfl) (MWp.haltH ctxK_ok _ _ _ _ (e5_NES s n k l f fa fb fc fd op x) (tr_cons (tLd_ok hLd) (tr_cons (tCd_ok ho) (tr_cons (tMd_ok he) (tr_cons (tC1_ok ho hxw) (tr_cons (tNr_ok hnr) (tr_cons (tC1_ok ho1 hxw) (tr_cons (tNr_ok hnr) (tr_cons (tX0_ok hx0) (tr_cons (tOk_ok (gok5 ho) (by omega)) (tr_cons (tOd_ok hd (by omega)) (tr_cons (tOk_ok (gok5 ho) (by omega)) (tr_cons (tOd_ok hd (by omega)) (tr_cons (tOk_ok (gok5 ho1) (by omega)) (tr_cons (tOd_ok hd (by omega)) (tr_cons (tOk_ok (gok5 ho1) (by omega)) (tr_cons (tOd_ok hd (by omega)) trivial)))))))))))))))) ?_)
  intro H hnx hl hc hos
  simp only [List.map_cons, List.map_nil, List.cons.injEq, and_true] at hos
  obtain ⟨h1, h2, h3, h4, h5, h6, h7⟩ := hos
  rw [gs_eq] at h3 h6
  have q0 := by5 s op x hip
  have q1 := by5 s (op1 op) x hip
  rw [op1_eq ho] at q1
  rw [op1_eq ho] at h6
  exact tail5 fin36 hx1 hx2 hx0 hip ho hoo he hnr (by omega) hl hc h1 ⟨h2, h3, h4, rfl, rfl, by decide⟩ ⟨h5, h6, h7, rfl, rfl, by decide⟩ (by decide) q0.1 q0.2 q1.1 q1.2
theorem g5_NRN (s : Sv) (n k l : Nat) (f fa fb fc fd : Nat → Int) (op x : Int) (hip : B16 s.ip) (hLc : k + 1 ≤ 600) (hb : ∀ e, e < k + 1 → B16 (fa e) ∧ B8 (fb e)) (ho : condB op = true) (he : (op.tmod 2 == 1) = false) (hxw : inw x = true) (hnr : nearB x = true) (hx0 : (x == 0) = false) :
    LCalls Try.prog 5 [svV s nilS (sls 1 (k + 1)) nilS, .int .i64 op, .int .u16 x] (mkH [some (ints .u8 f n), some (bytes2 fa fb (k + 1)), some (bytes2 fc fd l)]) (fun u _ => u = .bool true) := by
  have hoo := cond1 ho he
  have ho1 : condB (op1 op) = true := by rw [op1_eq ho]; exact hoo
  obtain ⟨hx1, hx2⟩ := (inw_iff x).1 hxw
  refine LCalls_of ctxK_ok gL5 (by kernel_rfl) (MWp.haltH ctxK_ok _ _ _ _ (e5_NRN s n k l f fa fb fc fd op x) (tr_cons (tLc_ok hLc) (tr_cons (tCd_ok ho) (tr_cons (tMd_ok he) (tr_cons (tC1_ok ho hxw) (tr_cons (tNr_ok hnr) (tr_cons (tC1_ok ho1 hxw) (tr_cons (tNr_ok hnr) (tr_cons (tX0_ok hx0) (tr_cons (tR1_ok (by omega)) (tr_cons (tR2_ok (by omega)) (tr_cons (tR3_ok (by omega)) (tr_cons (tOkB_ok (gok5C ho hb) (by omega)) (tr_cons (tOkB_ok (gok5C ho hb) (by omega)) (tr_cons (tR1_ok (by omega)) (tr_cons (tR2_ok (by omega)) (tr_cons (tR3_ok (by omega)) (tr_cons (tOkB_ok (gok5C ho1 hb) (by omega)) (tr_cons (tOkB_ok (gok5C ho1 hb) (by omega)) trivial)))))))))))))))))) ?_)
  intro H hnx hl hc hos
  simp only [List.map_cons, List.map_nil, List.cons.injEq, and_true] at hos
  obtain ⟨h1, h2, h3, h4, h5, h6, h7⟩ := hos
  rw [gs_eq] at h3 h6
  have q0 := by5C s op x fa fb k hip
  have q1 := by5C s (op1 op) x fa fb k hip
  rw [op1_eq ho] at q1
  rw [op1_eq ho] at h6
  exact tail5 fin37 hx1 hx2 hx0 hip ho hoo he hnr (by omega) hl hc h1 ⟨h2, h3, h4, rfl, rfl, by decide⟩ ⟨h5, h6, h7, rfl, rfl, by decide⟩ (by decide) q0.1 q0.2 q1.1 q1.2
theorem g5_NRS (s : Sv) (n k l : Nat) (f fa fb fc fd : Nat → Int) (op x : Int) (hip : B16 s.ip) (hLc : k + 1 ≤ 600) (hb : ∀ e, e < k + 1 → B16 (fa e) ∧ B8 (fb e)) (hLd : l ≤ 300) (hd : ∀ e, e < l → B16 (fc e) ∧ B8 (fd e)) (ho : condB op = true) (he : (op.tmod 2 == 1) = false) (hxw : inw x = true) (hnr : nearB x = true) (hx0 : (x == 0) = false) :
    LCalls Try.prog 5 [svV s nilS (sls 1 (k + 1)) (sls 2 l), .int .i64 op, .int .u16 x] (mkH [some (ints .u8 f n), some (bytes2 fa fb (k + 1)), some (bytes2 fc fd l)]) (fun u _ => u = .bool true) := by
  have hoo := cond1 ho he
  have ho1 : condB (op1 op) = true := by rw [op1_eq ho]; exact hoo
  obtain ⟨hx1, hx2⟩ := (inw_iff x).1 hxw
  refine LCalls_of ctxK_ok gL5 (by kernel_rfl) (MWp.haltH ctxK_ok _ _ _ _ (e5_NRS s n k l f fa fb fc fd op x) (tr_cons (tLc_ok hLc) (tr_cons (tLd_ok hLd) (tr_cons (tCd_ok ho) (tr_cons (tMd_ok he) (tr_cons (tC1_ok ho hxw) (tr_cons (tNr_ok hnr) (tr_cons (tC1_ok ho1 hxw) (tr_cons (tNr_ok hnr) (tr_cons (tX0_ok hx0) (tr_cons (tR1_ok (by omega)) (tr_cons (tR2_ok (by omega)) (tr_cons (tR3_ok (by omega)) (tr_cons (tOkB_ok (gok5C ho hb) (by omega)) (tr_cons (tOd_ok hd (by omega)) (tr_cons (tOkB_ok (gok5C ho hb) (by omega)) (tr_cons (tOd_ok hd (by omega)) (tr_cons (tR1_ok (by omega)) (tr_cons (tR2_ok (by omega)) (tr_cons (tR3_ok (by omega)) (tr_cons (tOkB_ok (gok5C ho1 hb) (by omega)) (tr_cons (tOd_ok hd (by omega)) (tr_cons (tOkB_ok (gok5C ho1 hb) (by omega)) (tr_cons (tOd_ok hd (by omega)) trivial))))))))))))))))))))))) ?_)
  intro H hnx hl hc hos
  simp only [List.map_cons, List.map_nil, List.cons.injEq, and_true] at hos
  obtain ⟨h1, h2, h3, h4, h5, h6, h7⟩ := hos
  rw [gs_eq] at h3 h6
  have q0 := by5C s op x fa fb k hip
  have q1 := by5C s (op1 op) x fa fb k hip
  rw [op1_eq ho] at q1
  rw [op1_eq ho] at h6
  exact tail5 fin37 hx1 hx2 hx0 hip ho hoo he hnr (by omega) hl hc h1 ⟨h2, h3, h4, rfl, rfl, by decide⟩ ⟨h5, h6, h7, rfl, rfl, by decide⟩ (by decide) q0.1 q0.2 q1.1 q1.2
theorem g5_ENN (s : Sv) (n k l : Nat) (f fa fb fc fd : Nat → Int) (op x : Int) (hip : B16 s.ip) (ho : condB op = true) (he : (op.tmod 2 == 1) = false) (hxw : inw x = true) (hnr : nearB x = true) (hx0 : (x == 0) = false) :
    LCalls Try.prog 5 [svV s (sl 0 0) nilS nilS, .int .i64 op, .int .u16 x] (mkH [some (ints .u8 f 0), some (bytes2 fa fb k), some (bytes2 fc fd l)]) (fun u _ => u = .bool true) := by
  have hoo := cond1 ho he
  have ho1 : condB (op1 op) = true := by rw [op1_eq ho]; exact hoo
  obtain ⟨hx1, hx2⟩ := (inw_iff x).1 hxw
  refine LCalls_of ctxK_ok gL5 (by kernel_rfl) (MWp.haltH ctxK_ok _ _ _ _ (e5_ENN s n k l f fa fb fc fd op x) (tr_cons (tCd_ok ho) (tr_cons (tMd_ok he) (tr_cons (tC1_ok ho hxw) (tr_cons (tNr_ok hnr) (tr_cons (tC1_ok ho1 hxw) (tr_cons (tNr_ok hnr) (tr_cons (tX0_ok hx0) (tr_cons (tOk_ok (gok5 ho) (by omega)) (tr_cons (tOk_ok (gok5 ho) (by omega)) (tr_cons (tOk_ok (gok5 ho1) (by omega)) (tr_cons (tOk_ok (gok5 ho1) (by omega)) trivial))))))))))) ?_)
  intro H hnx hl hc hos
  simp only [List.map_cons, List.map_nil, List.cons.injEq, and_true] at hos
  obtain ⟨h1, h2, h3, h4, h5, h6, h7⟩ := hos
  rw [gs_eq] at h3 h6
  have q0 := by5 s op x hip
  have q1 := by5 s (op1 op) x hip
  rw [op1_eq ho] at q1
  rw [op1_eq ho] at h6
  exact tail5 fin37 hx1 hx2 hx0 hip ho hoo he hnr (by omega) hl hc h1 ⟨h2, h3, h4, rfl, rfl, by decide⟩ ⟨h5, h6, h7, rfl, rfl, by decide⟩ (by decide) q0.1 q0.2 q1.1 q1.2
theorem g5_ENS (s : Sv) (n k l : Nat) (f fa fb fc fd : Nat → Int) (op x : Int) (hip : B16 s.ip) (hLd : l ≤ 300) (hd : ∀ e, e < l → B16 (fc e) ∧ B8 (fd e)) (ho : condB op = true) (he : (op.tmod 2 == 1) = false) (hxw : inw x = true) (hnr : nearB x = true) (hx0 : (x == 0) = false) :
    LCalls Try.prog 5 [svV s (sl 0 0) nilS (sls 2 l), .int .i64 op, .int .u16 x] (mkH [some (ints .u8 f 0), some (bytes2 fa fb k), some (bytes2 fc fd l)]) (fun u _ => u = .bool true) := by
  have hoo := cond1 ho he
  have ho1 : condB (op1 op) = true := by rw [op1_eq ho]; exact hoo
  obtain ⟨hx1, hx2⟩ := (inw_iff x).1 hxw
  refine LCalls_of ctxK_ok gL5 (by kernel_rfl) (MWp.haltH ctxK_ok _ _ _ _ (e5_ENS s n k l f fa fb fc fd op x) (tr_cons (tLd_ok hLd) (tr_cons (tCd_ok ho) (tr_cons (tMd_ok he) (tr_cons (tC1_ok ho hxw) (tr_cons (tNr_ok hnr) (tr_cons (tC1_ok ho1 hxw) (tr_cons (tNr_ok hnr) (tr_cons (tX0_ok hx0) (tr_cons (tOk_ok (gok5 ho) (by omega)) (tr_cons (tOd_ok hd (by omega)) (tr_cons (tOk_ok (gok5 ho) (by omega)) (tr_cons (tOd_ok hd (by omega)) (tr_cons (tOk_ok (gok5 ho1) (by omega)) (tr_cons (tOd_ok hd (by omega)) (tr_cons (tOk_ok (gok5 ho1) (by omega)) (tr_cons (tOd_ok hd (by omega)) trivial)))))))))))))))) ?_)
  intro H hnx hl hc hos
  simp only [List.map_cons, List.map_nil, List.cons.injEq, and_true] at hos
  obtain ⟨h1, h2, h3, h4, h5, h6, h7⟩ := hos
  rw [gs_eq] at h3 h6
  have q0 := by5 s op x hip
  have q1 := by5 s (op1 op) x hip
  rw [op1_eq ho] at q1
  rw [op1_eq ho] at h6
  exact tail5 fin37 hx1 hx2 hx0 hip ho hoo he hnr (by omega) hl hc h1 ⟨h2, h3, h4, rfl, rfl, by decide⟩ ⟨h5, h6, h7, rfl, rfl, by decide⟩ (by decide) q0.1 q0.2 q1.1 q1.2
theorem g5_EEN (s : Sv) (n k l : Nat) (f fa fb fc fd : Nat → Int) (op x : Int) (hip : B16 s.ip) (ho : condB op = true) (he : (op.tmod 2 == 1) = false) (hxw : inw x = true) (hnr : nearB x = true) (hx0 : (x == 0) = false) :
    LCalls Try.prog 5 [svV s (sl 0 0) (sls 1 0) nilS, .int .i64 op, .int .u16 x] (mkH [some (ints .u8 f 0), some (bytes2 fa fb 0), some (bytes2 fc fd l)]) (fun u _ => u = .bool true) := by
  have hoo := cond1 ho he
  have ho1 : condB (op1 op) = true := by rw [op1_eq ho]; exact hoo
  obtain ⟨hx1, hx2⟩ := (inw_iff x).1 hxw
  refine LCalls_of ctxK_ok gL5 (by kernel_rfl) (MWp.haltH ctxK_ok _ _ _ _ (e5_EEN s n k l f fa fb fc fd op x) (tr_cons (tCd_ok ho) (tr_cons (tMd_ok he) (tr_cons (tC1_ok ho hxw) (tr_cons (tNr_ok hnr) (tr_cons (tC1_ok ho1 hxw) (tr_cons (tNr_ok hnr) (tr_cons (tX0_ok hx0) (tr_cons (tOk_ok (gok5 ho) (by omega)) (tr_cons (tOk_ok (gok5 ho) (by omega)) (tr_cons (tOk_ok (gok5 ho1) (by omega)) (tr_cons (tOk_ok (gok5 ho1) (by omega)) trivial))))))))))) ?_)
  intro H hnx hl hc hos
  simp only [List.map_cons, List.map_nil, List.cons.injEq, and_true] at hos
  obtain ⟨h1, h2, h3, h4, h5, h6, h7⟩ := hos
  rw [gs_eq] at h3 h6
  have q0 := by5 s op x hip
  have q1 := by5 s (op1 op) x hip
  rw [op1_eq ho] at q1
  rw [op1_eq ho] at h6
  exact tail5 fin37 hx1 hx2 hx0 hip ho hoo he hnr (by omega) hl hc h1 ⟨h2, h3, h4, rfl, rfl, by decide⟩ ⟨h5, h6, h7, rfl, rfl, by decide⟩ (by decide) q0.1 q0.2 q1.1 q1.2
theorem g5_EES (s : Sv) (n k l : Nat) (f fa fb fc fd : Nat → Int) (op x : Int) (hip : B16 s.ip) (hLd : l ≤ 300) (hd : ∀ e, e < l → B16 (fc e) ∧ B8 (fd e)) (ho : condB op = true) (he : (op.tmod 2 == 1) = false) (hxw : inw x = true) (hnr : nearB x = true) (hx0 : (x == 0) = false) :
    LCalls Try.prog 5 [svV s (sl 0 0) (sls 1 0) (sls 2 l), .int .i64 op, .int .u16 x] (mkH [some (ints .u8 f 0), some (bytes2 fa fb 0), some (bytes2 fc fd l)]) (fun u _ => u = .bool true) := by
  have hoo := cond1 ho he
  have ho1 : condB (op1 op) = true := by rw [op1_eq ho]; exact hoo
  obtain ⟨hx1, hx2⟩ := (inw_iff x).1 hxw
  refine LCalls_of ctxK_ok gL5 (by kernel_rfl) (MWp.haltH ctxK_ok _ _ _ _ (e5_EES s n k l f fa fb fc fd op x) (tr_cons (tLd_ok hLd) (tr_cons (tCd_ok ho) (tr_cons (tMd_ok he) (tr_cons (tC1_ok ho hxw) (tr_cons (tNr_ok hnr) (tr_cons (tC1_ok ho1 hxw) (tr_cons (tNr_ok hnr) (tr_cons (tX0_ok hx0) (tr_cons (tOk_ok (gok5 ho) (by omega)) (tr_cons (tOd_ok hd (by omega)) (tr_cons (tOk_ok (gok5 ho) (by omega)) (tr_cons (tOd_ok hd (by omega)) (tr_cons (tOk_ok (gok5 ho1) (by omega)) (tr_cons (tOd_ok hd (by omega)) (tr_cons (tOk_ok (gok5 ho1) (by omega)) (tr_cons (tOd_ok hd (by omega)) trivial)))))))))))))))) ?_)
  intro H hnx hl hc hos
  simp only [List.map_cons, List.map_nil, List.cons.injEq, and_true] at hos
  obtain ⟨h1, h2, h3, h4, h5, h6, h7⟩ := hos
  rw [gs_eq] at h3 h6
  have q0 := by5 s op x hip
  have q1 := by5 s (op1 op) x hip
  rw [op1_eq ho] at q1
  rw [op1_eq ho] at h6
  exact tail5 fin37 hx1 hx2 hx0 hip ho hoo he hnr (by omega) hl hc h1 ⟨h2, h3, h4, rfl, rfl, by decide⟩ ⟨h5, h6, h7, rfl, rfl, by decide⟩ (by decide) q0.1 q0.2 q1.1 q1.2
theorem g5_ERN (s : Sv) (n k l : Nat) (f fa fb fc fd : Nat → Int) (op x : Int) (hip : B16 s.ip) (hLc : k + 1 ≤ 600) (hb : ∀ e, e < k + 1 → B16 (fa e) ∧ B8 (fb e)) (ho : condB op = true) (he : (op.tmod 2 == 1) = false) (hxw : inw x = true) (hnr : nearB x = true) (hx0 : (x == 0) = false) :
    LCalls Try.prog 5 [svV s (sl 0 0) (sls 1 (k + 1)) nilS, .int .i64 op, .int .u16 x] (mkH [some (ints .u8 f 0), some (bytes2 fa fb (k + 1)), some (bytes2 fc fd l)]) (fun u _ => u = .bool true) := by
  have hoo := cond1 ho he
  have ho1 : condB (op1 op) = true := by rw [op1_eq ho]; exact hoo
  obtain ⟨hx1, hx2⟩ := (inw_iff x).1 hxw
  refine LCalls_of ctxK_ok gL5 (by kernel_rfl) (MWp.haltH ctxK_ok _ _ _ _ (e5_ERN s n k l f fa fb fc fd op x) (tr_cons (tLc_ok hLc) (tr_cons (tCd_ok ho) (tr_cons (tMd_ok he) (tr_cons (tC1_ok ho hxw) (tr_cons (tNr_ok hnr) (tr_cons (tC1_ok ho1 hxw) (tr_cons (tNr_ok hnr) (tr_cons (tX0_ok hx0) (tr_cons (tR1_ok (by omega)) (tr_cons (tR2_ok (by omega)) (tr_cons (tR3_ok (by omega)) (tr_cons (tOkB_ok (gok5C ho hb) (by omega)) (tr_cons (tOkB_ok (gok5C ho hb) (by omega)) (tr_cons (tR1_ok (by omega)) (tr_cons (tR2_ok (by omega)) (tr_cons (tR3_ok (by omega)) (tr_cons (tOkB_ok (gok5C ho1 hb) (by omega)) (tr_cons (tOkB_ok (gok5C ho1 hb) (by omega)) trivial)))))))))))))))))) ?_)
  intro H hnx hl hc hos
  simp only [List.map_cons, List.map_nil, List.cons.injEq, and_true] at hos
  obtain ⟨h1, h2, h3, h4, h5, h6, h7⟩ := hos
  rw [gs_eq] at h3 h6
  have q0 := by5C s op x fa fb k hip
  have q1 := by5C s (op1 op) x fa fb k hip
  rw [op1_eq ho] at q1
  rw [op1_eq ho] at h6
  exact tail5 fin38 hx1 hx2 hx0 hip ho hoo he hnr (by omega) hl hc h1 ⟨h2, h3, h4, rfl, rfl, by decide⟩ ⟨h5, h6, h7, rfl, rfl, by decide⟩ (by decide) q0.1 q0.2 q1.1 q1.2
theorem g5_ERS (s : Sv) (n k l : Nat) (f fa fb fc fd : Nat → Int) (op x : Int) (hip : B16 s.ip) (hLc : k + 1 ≤ 600) (hb : ∀ e, e < k + 1 → B16 (fa e) ∧ B8 (fb e)) (hLd : l ≤ 300) (hd : ∀ e, e < l → B16 (fc e) ∧ B8 (fd e)) (ho : condB op = true) (he : (op.tmod 2 == 1) = false) (hxw : inw x = true) (hnr : nearB x = true) (hx0 : (x == 0) = false) :
    LCalls Try.prog 5 [svV s (sl 0 0) (sls 1 (k + 1)) (sls 2 l), .int .i64 op, .int .u16 x] (mkH [some (ints .u8 f 0), some (bytes2 fa fb (k + 1)), some (bytes2 fc fd l)]) (fun u _ => u = .bool true) := by
  have hoo := cond1 ho he
  have ho1 : condB (op1 op) = true := by rw [op1_eq ho]; exact hoo
  obtain ⟨hx1, hx2⟩ := (inw_iff x).1 hxw
  refine LCalls_of ctxK_ok gL5 (by kernel_rfl) (MWp.haltH ctxK_ok _ _ _ _ (e5_ERS s n k l f fa fb fc fd op x) (tr_cons (tLc_ok hLc) (tr_cons (tLd_ok hLd) (tr_cons (tCd_ok ho) (tr_cons (tMd_ok he) (tr_cons (tC1_ok ho hxw) (tr_cons (tNr_ok hnr) (tr_cons (tC1_ok ho1 hxw) (tr_cons (tNr_ok hnr) (tr_cons (tX0_ok hx0) (tr_cons (tR1_ok (by omega)) (tr_cons (tR2_ok (by omega)) (tr_cons (tR3_ok (by omega)) (tr_cons (tOkB_ok (gok5C ho hb) (by omega)) (tr_cons (tOd_ok hd (by omega)) (tr_cons (tOkB_ok (gok5C ho hb) (by omega)) (tr_cons (tOd_ok hd (by omega)) (tr_cons (tR1_ok (by omega)) (tr_cons (tR2_ok (by omega)) (tr_cons (tR3_ok (by omega)) (tr_cons (tOkB_ok (gok5C ho1 hb) (by omega)) (tr_cons (tOd_ok hd (by omega)) (tr_cons (tOkB_ok (gok5C ho1 hb) (by omega)) (tr_cons (tOd_ok hd (by omega)) trivial))))))))))))))))))))))) ?_)
  intro H hnx hl hc hos
  simp only [List.map_cons, List.map_nil, List.cons.injEq, and_true] at hos
  obtain ⟨h1, h2, h3, h4, h5, h6, h7⟩ := hos
  rw [gs_eq] at h3 h6
  have q0 := by5C s op x fa fb k hip
  have q1 := by5C s (op1 op) x fa fb k hip
  rw [op1_eq ho] at q1
  rw [op1_eq ho] at h6
  exact tail5 fin38 hx1 hx2 hx0 hip ho hoo he hnr (by omega) hl hc h1 ⟨h2, h3, h4, rfl, rfl, by decide⟩ ⟨h5, h6, h7, rfl, rfl, by decide⟩ (by decide) q0.1 q0.2 q1.1 q1.2
theorem g5_RNN (s : Sv) (n k l : Nat) (f fa fb fc fd : Nat → Int) (op x : Int) (hip : B16 s.ip) (hMe : n + 1 ≤ 256) (ho : condB op = true) (he : (op.tmod 2 == 1) = false) (hxw : inw x = true) (hnr : nearB x = true) (hx0 : (x == 0) = false) :
    LCalls Try.prog 5 [svV s (sl 0 (n + 1)) nilS nilS, .int .i64 op, .int .u16 x] (mkH [some (ints .u8 f (n + 1)), some (bytes2 fa fb k), some (bytes2 fc fd l)]) (fun u _ => u = .bool true) := by
  have hLi : n + 1 ≤ 300 := by omega
  have hoo := cond1 ho he
  have ho1 : condB (op1 op) = true := by rw [op1_eq ho]; exact hoo
  obtain ⟨hx1, hx2⟩ := (inw_iff x).1 hxw
  refine LCalls_of ctxK_ok gL5 (by kernel_rfl) (MWp.haltH ctxK_ok _ _ _ _ (e5_RNN s n k l f fa fb fc fd op x) (tr_cons (tLi_ok hLi) (tr_cons (tMe_ok hMe) (tr_cons (tCd_ok ho) (tr_cons (tMd_ok he) (tr_cons (tC1_ok ho hxw) (tr_cons (tNr_ok hnr) (tr_cons (tC1_ok ho1 hxw) (tr_cons (tNr_ok hnr) (tr_cons (tX0_ok hx0) (tr_cons (tOk_ok (gok5 ho) (by omega)) (tr_cons (tMx_ok hMe) (tr_cons (tR1_ok (by omega)) (tr_cons (tOk_ok (gok5 ho) (by omega)) (tr_cons (tOk_ok (gok5 ho1) (by omega)) (tr_cons (tMx_ok hMe) (tr_cons (tR1_ok (by omega)) (tr_cons (tOk_ok (gok5 ho1) (by omega)) trivial))))))))))))))))) ?_)
  intro H hnx hl hc hos
  simp only [List.map_cons, List.map_nil, List.cons.injEq, and_true] at hos
  obtain ⟨h1, h2, h3, h4, h5, h6, h7⟩ := hos
  rw [gs_eq] at h3 h6
  have q0 := by5 s op x hip
  have q1 := by5 s (op1 op) x hip
  rw [op1_eq ho] at q1
  rw [op1_eq ho] at h6
  exact tail5 fin38 hx1 hx2 hx0 hip ho hoo he hnr (by omega) hl hc h1 ⟨h2, h3, h4, rfl, rfl, by decide⟩ ⟨h5, h6, h7, rfl, rfl, by decide⟩ (by decide) q0.1 q0.2 q1.1 q1.2
theorem g5_RNS (s : Sv) (n k l : Nat) (f fa fb fc fd : Nat → Int) (op x : Int) (hip : B16 s.ip) (hMe : n + 1 ≤ 256) (hLd : l ≤ 300) (hd : ∀ e, e < l → B16 (fc e) ∧ B8 (fd e)) (ho : condB op = true) (he : (op.tmod 2 == 1) = false) (hxw : inw x = true) (hnr : nearB x = true) (hx0 : (x == 0) = false) :
    LCalls Try.prog 5 [svV s (sl 0 (n + 1)) nilS (sls 2 l), .int .i64 op, .int .u16 x] (mkH [some (ints .u8 f (n + 1)), some (bytes2 fa fb k), some (bytes2 fc fd l)]) (fun u _ => u = .bool true) := by
  have hLi : n + 1 ≤ 300 := by omega
  have hoo := cond1 ho he
  have ho1 : condB (op1 op) = true := by rw [op1_eq ho]; exact hoo
  obtain ⟨hx1, hx2⟩ := (inw_iff x).1 hxw
  refine LCalls_of ctxK_ok gL5 (by kernel_rfl) (MWp.haltH ctxK_ok _ _ _ _ (e5_RNS s n k l f fa fb fc fd op x) (tr_cons (tLi_ok hLi) (tr_cons (tLd_ok hLd) (tr_cons (tMe_ok hMe) (tr_cons (tCd_ok ho) (tr_cons (tMd_ok he) (tr_cons (tC1_ok ho hxw) (tr_cons (tNr_ok hnr) (tr_cons (tC1_ok ho1 hxw) (tr_cons (tNr_ok hnr) (tr_cons (tX0_ok hx0) (tr_cons (tOk_ok (gok5 ho) (by omega)) (tr_cons (tOd_ok hd (by omega)) (tr_cons (tMx_ok hMe) (tr_cons (tR1_ok (by omega)) (tr_cons (tOk_ok (gok5 ho) (by omega)) (tr_cons (tOd_ok hd (by omega)) (tr_cons (tOk_ok (gok5 ho1) (by omega)) (tr_cons (tOd_ok hd (by omega)) (tr_cons (tMx_ok hMe) (tr_cons (tR1_ok (by omega)) (tr_cons (tOk_ok (gok5 ho1) (by omega)) (tr_cons (tOd_ok hd (by omega)) trivial)))))))))))))))))))))) ?_)
  intro H hnx hl hc hos
  simp only [List.map_cons, List.map_nil, List.cons.injEq, and_true] at hos
  obtain ⟨h1, h2, h3, h4, h5, h6, h7⟩ := hos
  rw [gs_eq] at h3 h6
  have q0 := by5 s op x hip
  have q1 := by5 s (op1 op) x hip
  rw [op1_eq ho] at q1
  rw [op1_eq ho] at h6
  exact tail5 fin38 hx1 hx2 hx0 hip ho hoo he hnr (by omega) hl hc h1 ⟨h2, h3, h4, rfl, rfl, by decide⟩ ⟨h5, h6, h7, rfl, rfl, by decide⟩ (by decide) q0.1 q0.2 q1.1 q1.2
theorem g5_REN (s : Sv) (n k l : Nat) (f fa fb fc fd : Nat → Int) (op x : Int) (hip : B16 s.ip) (hMe : n + 1 ≤ 256) (ho : condB op = true) (he : (op.tmod 2 == 1) = false) (hxw : inw x = true) (hnr : nearB x = true) (hx0 : (x == 0) = false) :
    LCalls Try.prog 5 [svV s (sl 0 (n + 1)) (sls 1 0) nilS, .int .i64 op, .int .u16 x] (mkH [some (ints .u8 f (n + 1)), some (bytes2 fa fb 0), some (bytes2 fc fd l)]) (fun u _ => u = .bool true) := by
  have hLi : n + 1 ≤ 300 := by omega
  have hoo := cond1 ho he
  have ho1 : condB (op1 op) = true := by rw [op1_eq ho]; exact hoo
  obtain ⟨hx1, hx2⟩ := (inw_iff x).1 hxw
  refine LCalls_of ctxK_ok gL5 (by kernel_rfl) (MWp.haltH ctxK_ok _ _ _ _ (e5_REN s n k l f fa fb fc fd op x) (tr_cons (tLi_ok hLi) (tr_cons (tMe_ok hMe) (tr_cons (tCd_ok ho) (tr_cons (tMd_ok he) (tr_cons (tC1_ok ho hxw) (tr_cons (tNr_ok hnr) (tr_cons (tC1_ok ho1 hxw) (tr_cons (tNr_ok hnr) (tr_cons (tX0_ok hx0) (tr_cons (tOk_ok (gok5 ho) (by omega)) (tr_cons (tMx_ok hMe) (tr_cons (tR1_ok (by omega)) (tr_cons (tOk_ok (gok5 ho) (by omega)) (tr_cons (tOk_ok (gok5 ho1) (by omega)) (tr_cons (tMx_ok hMe) (tr_cons (tR1_ok (by omega)) (tr_cons (tOk_ok (gok5 ho1) (by omega)) trivial))))))))))))))))) ?_)
  intro H hnx hl hc hos
  simp only [List.map_cons, List.map_nil, List.cons.injEq, and_true] at hos
  obtain ⟨h1, h2, h3, h4, h5, h6, h7⟩ := hos
  rw [gs_eq] at h3 h6
  have q0 := by5 s op x hip
  have q1 := by5 s (op1 op) x hip
  rw [op1_eq ho] at q1
  rw [op1_eq ho] at h6
  exact tail5 fin38 hx1 hx2 hx0 hip ho hoo he hnr (by omega) hl hc h1 ⟨h2, h3, h4, rfl, rfl, by decide⟩ ⟨h5, h6, h7, rfl, rfl, by decide⟩ (by decide) q0.1 q0.2 q1.1 q1.2
theorem g5_RES (s : Sv) (n k l : Nat) (f fa fb fc fd : Nat → Int) (op x : Int) (hip : B16 s.ip) (hMe : n + 1 ≤ 256) (hLd : l ≤ 300) (hd : ∀ e, e < l → B16 (fc e) ∧ B8 (fd e)) (ho : condB op = true) (he : (op.tmod 2 == 1) = false) (hxw : inw x = true) (hnr : nearB x = true) (hx0 : (x == 0) = false) :
    LCalls Try.prog 5 [svV s (sl 0 (n + 1)) (sls 1 0) (sls 2 l), .int .i64 op, .int .u16 x] (mkH [some (ints .u8 f (n + 1)), some (bytes2 fa fb 0), some (bytes2 fc fd l)]) (fun u _ => u = .bool true) := by
  have hLi : n + 1 ≤ 300 := by omega
  have hoo := cond1 ho he
  have ho1 : condB (op1 op) = true := by rw [op1_eq ho]; exact hoo
  obtain ⟨hx1, hx2⟩ := (inw_iff x).1 hxw
  refine LCalls_of ctxK_ok gL5 (by kernel_rfl) (MWp.haltH ctxK_ok _ _ _ _ (e5_RES s n k l f fa fb fc fd op x) (tr_cons (tLi_ok hLi) (tr_cons (tLd_ok hLd) (tr_cons (tMe_ok hMe) (tr_cons (tCd_ok ho) (tr_cons (tMd_ok he) (tr_cons (tC1_ok ho hxw) (tr_cons (tNr_ok hnr) (tr_cons (tC1_ok ho1 hxw) (tr_cons (tNr_ok hnr) (tr_cons (tX0_ok hx0) (tr_cons (tOk_ok (gok5 ho) (by omega)) (tr_cons (tOd_ok hd (by omega)) (tr_cons (tMx_ok hMe) (tr_cons (tR1_ok (by omega)) (tr_cons (tOk_ok (gok5 ho) (by omega)) (tr_cons (tOd_ok hd (by omega)) (tr_cons (tOk_ok (gok5 ho1) (by omega)) (tr_cons (tOd_ok hd (by omega)) (tr_cons (tMx_ok hMe) (tr_cons (tR1_ok (by omega)) (tr_cons (tOk_ok (gok5 ho1) (by omega)) (tr_cons (tOd_ok hd (by omega)) trivial)))))))))))))))))))))) ?_)
  intro H hnx hl hc hos
  simp only [List.map_cons, List.map_nil, List.cons.injEq, and_true] at hos
  obtain ⟨h1, h2, h3, h4, h5, h6, h7⟩ := hos
  rw [gs_eq] at h3 h6
  have q0 := by5 s op x hip
  have q1 := by5 s (op1 op) x hip
  rw [op1_eq ho] at q1
  rw [op1_eq ho] at h6
  exact tail5 fin38 hx1 hx2 hx0 hip ho hoo he hnr (by omega) hl hc h1 ⟨h2, h3, h4, rfl, rfl, by decide⟩ ⟨h5, h6, h7, rfl, rfl, by decide⟩ (by decide) q0.1 q0.2 q1.1 q1.2
theorem g5_RRN (s : Sv) (n k l : Nat) (f fa fb fc fd : Nat → Int) (op x : Int) (hip : B16 s.ip) (hMe : n + 1 ≤ 256) (hLc : k + 1 ≤ 600) (hb : ∀ e, e < k + 1 → B16 (fa e) ∧ B8 (fb e)) (ho : condB op = true) (he : (op.tmod 2 == 1) = false) (hxw : inw x = true) (hnr : nearB x = true) (hx0 : (x == 0) = false) :
    LCalls Try.prog 5 [svV s (sl 0 (n + 1)) (sls 1 (k + 1)) nilS, .int .i64 op, .int .u16 x] (mkH [some (ints .u8 f (n + 1)), some (bytes2 fa fb (k + 1)), some (bytes2 fc fd l)]) (fun u _ => u = .bool true) := by
  have hLi : n + 1 ≤ 300 := by omega
  have hoo := cond1 ho he
  have ho1 : condB (op1 op) = true := by rw [op1_eq ho]; exact hoo
  obtain ⟨hx1, hx2⟩ := (inw_iff x).1 hxw
  refine LCalls_of ctxK_ok gL5 (by kernel_rfl) (MWp.haltH ctxK_ok _ _ _ _ (e5_RRN s n k l f fa fb fc fd op x) (tr_cons (tLi_ok hLi) (tr_cons (tLc_ok hLc) (tr_cons (tMe_ok hMe) (tr_cons (tCd_ok ho) (tr_cons (tMd_ok he) (tr_cons (tC1_ok ho hxw) (tr_cons (tNr_ok hnr) (tr_cons (tC1_ok ho1 hxw) (tr_cons (tNr_ok hnr) (tr_cons (tX0_ok hx0) (tr_cons (tR1_ok (by omega)) (tr_cons (tR2_ok (by omega)) (tr_cons (tR3_ok (by omega)) (tr_cons (tOkB_ok (gok5C ho hb) (by omega)) (tr_cons (tMx_ok hMe) (tr_cons (tR1_ok (by omega)) (tr_cons (tOkB_ok (gok5C ho hb) (by omega)) (tr_cons (tR1_ok (by omega)) (tr_cons (tR2_ok (by omega)) (tr_cons (tR3_ok (by omega)) (tr_cons (tOkB_ok (gok5C ho1 hb) (by omega)) (tr_cons (tMx_ok hMe) (tr_cons (tR1_ok (by omega)) (tr_cons (tOkB_ok (gok5C ho1 hb) (by omega)) trivial)))))))))))))))))))))))) ?_)
  intro H hnx hl hc hos
  simp only [List.map_cons, List.map_nil, List.cons.injEq, and_true] at hos
  obtain ⟨h1, h2, h3, h4, h5, h6, h7⟩ := hos
  rw [gs_eq] at h3 h6
  have q0 := by5C s op x fa fb k hip
  have q1 := by5C s (op1 op) x fa fb k hip
  rw [op1_eq ho] at q1
  rw [op1_eq ho] at h6
  exact tail5 fin39 hx1 hx2 hx0 hip ho hoo he hnr (by omega) hl hc h1 ⟨h2, h3, h4, rfl, rfl, by decide⟩ ⟨h5, h6, h7, rfl, rfl, by decide⟩ (by decide) q0.1 q0.2 q1.1 q1.2
theorem g5_RRS (s : Sv) (n k l : Nat) (f fa fb fc fd : Nat → Int) (op x : Int) (hip : B16 s.ip) (hMe : n + 1 ≤ 256) (hLc : k + 1 ≤ 600) (hb : ∀ e, e < k + 1 → B16 (fa e) ∧ B8 (fb e)) (hLd : l ≤ 300) (hd : ∀ e, e < l → B16 (fc e) ∧ B8 (fd e)) (ho : condB op = true) (he : (op.tmod 2 == 1) = false) (hxw : inw x = true) (hnr : nearB x = true) (hx0 : (x == 0) = false) :
    LCalls Try.prog 5 [svV s (sl 0 (n + 1)) (sls 1 (k + 1)) (sls 2 l), .int .i64 op, .int .u16 x] (mkH [some (ints .u8 f (n + 1)), some (bytes2 fa fb (k + 1)), some (bytes2 fc fd l)]) (fun u _ => u = .bool true) := by
  have hLi : n + 1 ≤ 300 := by omega
  have hoo := cond1 ho he
  have ho1 : condB (op1 op) = true := by rw [op1_eq ho]; exact hoo
  obtain ⟨hx1, hx2⟩ := (inw_iff x).1 hxw
  refine LCalls_of ctxK_ok gL5 (by kernel_rfl) (MWp.haltH ctxK_ok _ _ _ _ (e5_RRS s n k l f fa fb fc fd op x) (tr_cons (tLi_ok hLi) (tr_cons (tLc_ok hLc) (tr_cons (tLd_ok hLd) (tr_cons (tMe_ok hMe) (tr_cons (tCd_ok ho) (tr_cons (tMd_ok he) (tr_cons (tC1_ok ho hxw) (tr_cons (tNr_ok hnr) (tr_cons (tC1_ok ho1 hxw) (tr_cons (tNr_ok hnr) (tr_cons (tX0_ok hx0) (tr_cons (tR1_ok (by omega)) (tr_cons (tR2_ok (by omega)) (tr_cons (tR3_ok (by omega)) (tr_cons (tOkB_ok (gok5C ho hb) (by omega)) (tr_cons (tOd_ok hd (by omega)) (tr_cons (tMx_ok hMe) (tr_cons (tR1_ok (by omega)) (tr_cons (tOkB_ok (gok5C ho hb) (by omega)) (tr_cons (tOd_ok hd (by omega)) (tr_cons (tR1_ok (by omega)) (tr_cons (tR2_ok (by omega)) (tr_cons (tR3_ok (by omega)) (tr_cons (tOkB_ok (gok5C ho1 hb) (by omega)) (tr_cons (tOd_ok hd (by omega)) (tr_cons (tMx_ok hMe) (tr_cons (tR1_ok (by omega)) (tr_cons (tOkB_ok (gok5C ho1 hb) (by omega)) (tr_cons (tOd_ok hd (by omega)) trivial))))))))))))))))))))))))))))) ?_)
  intro H hnx hl hc hos
  simp only [List.map_cons, List.map_nil, List.cons.injEq, and_true] at hos
  obtain ⟨h1, h2, h3, h4, h5, h6, h7⟩ := hos
  rw [gs_eq] at h3 h6
  have q0 := by5C s op x fa fb k hip
  have q1 := by5C s (op1 op) x fa fb k hip
  rw [op1_eq ho] at q1
  rw [op1_eq ho] at h6
  exact tail5 fin39 hx1 hx2 hx0 hip ho hoo he hnr (by omega) hl hc h1 ⟨h2, h3, h4, rfl, rfl, by decide⟩ ⟨h5, h6, h7, rfl, rfl, by decide⟩ (by decide) q0.1 q0.2 q1.1 q1.2
end Go.Proofs.Ytnknopebjdgdjaa
namespace Go.Proofs.Ytnknopebjdgdjaa
open Go Go.Ly Go.RowKit
def MRowS (w : World) (i : Nat) (a b : Nat → Int) (n : Nat) (loc v : Value) (p : Option Plc) : Prop :=
  (loc = .slice none 0 0 ∧ v = .slice none 0 0 ∧ n = 0 ∧ p = none) ∨ (loc = sls i n ∧ RealRows w 2 (fun e j => match j with | 0 => .int .u16 (a e) | _ + 1 => .int .u8 (b e)) n v p)
theorem m_casesS {w : World} (i : Nat) {v : Value} (h : CkOk w (.slice [.int .u16, .int .u8]) v) : ∃ (a b : Nat → Int) (n : Nat) (loc : Value) (p : Option Plc), MRowS w i a b n loc v p ∧ (∀ e, e < n → B16 (a e) ∧ B8 (b e)) ∧ n ≤ maxLen := by
  rcases ck_bytes2 h with rfl | ⟨n, a, b, p, hr, hf, hn⟩
  · exact ⟨fun _ => 0, fun _ => 0, 0, .slice none 0 0, none, .inl ⟨rfl, rfl, rfl, rfl⟩, fun e he => by omega, by simp [maxLen]⟩
  · exact ⟨a, b, n, sls i n, p, .inr ⟨rfl, hr⟩, hf, hn⟩
theorem calls_startS {W : World} {F : FuncId} {s : Sv} {f a b c d : Nat → Int} {n k l : Nat} {li lm ld iv mv dv : Value} {pi pm pd : Option Plc} {rest : List Value} (hi : InRow W 0 f n li iv pi) (hm : MRowS W 1 a b k lm mv pm) (hd : MRowS W 2 c d l ld dv pd) (hp : plainL rest = true)
    (h : LCalls Try.prog F (svV s li lm ld :: rest) (mkH [some (ints .u8 f n), some (bytes2 a b k), some (bytes2 c d l)]) (fun u _ => u = .bool true)) :
    Calls Try.prog F ⟨svV s iv mv dv :: rest⟩ W (fun e W' => e = .returned (.bool true) ∧ Below W.heap.size W W') := by
  have hrep : Rep (rowsRenW [pi, pm, pd] (fun i => if i = 0 then 1 else 2)) (mkH [some (ints .u8 f n), some (bytes2 a b k), some (bytes2 c d l)]) W := by
    refine rowsW_rep (l := [pi, pm, pd]) (rs := [(1, fun e _ => .int .u8 (f e), n), (2, fun e j => match j with | 0 => .int .u16 (a e) | _ + 1 => .int .u8 (b e), k), (2, fun e j => match j with | 0 => .int .u16 (c e) | _ + 1 => .int .u8 (d e), l)]) rfl (by simp) (fun i q hq => ?_) (fun i k' g n' hr => ?_)
    · match i, hq with
      | 0, hq =>
        simp at hq
        rcases hi with ⟨_, _, _, rfl⟩ | ⟨_, hr⟩
        · cases hq
        · exact hr.low q hq
      | 1, hq =>
        simp at hq
        rcases hm with ⟨_, _, _, rfl⟩ | ⟨_, hr⟩
        · cases hq
        · exact hr.low q hq
      | 2, hq =>
        simp at hq
        rcases hd with ⟨_, _, _, rfl⟩ | ⟨_, hr⟩
        · cases hq
        · exact hr.low q hq
      | i + 3, hq => simp at hq
    · match i, hr with
      | 0, hr =>
        simp at hr
        obtain ⟨rfl, rfl, rfl⟩ := hr
        refine ⟨rfl, fun e j he hj => ?_⟩
        rcases hi with ⟨_, _, h0, _⟩ | ⟨_, hr⟩
        · omega
        · exact ⟨hr.one e j he hj, hr.cell e j he hj⟩
      | 1, hr =>
        simp at hr
        obtain ⟨rfl, rfl, rfl⟩ := hr
        refine ⟨rfl, fun e j he hj => ?_⟩
        rcases hm with ⟨_, _, h0, _⟩ | ⟨_, hr⟩
        · omega
        · exact ⟨hr.one e j he hj, hr.cell e j he hj⟩
      | 2, hr =>
        simp at hr
        obtain ⟨rfl, rfl, rfl⟩ := hr
        refine ⟨rfl, fun e j he hj => ?_⟩
        rcases hd with ⟨_, _, h0, _⟩ | ⟨_, hr⟩
        · omega
        · exact ⟨hr.one e j he hj, hr.cell e j he hj⟩
      | i + 3, hr => simp at hr
  have vi : VR (rowsRenW [pi, pm, pd] (fun i => if i = 0 then 1 else 2)) li iv := by
    rcases hi with ⟨rfl, rfl, _, _⟩ | ⟨rfl, hr⟩
    · simp [VR]
    · exact slW_VR hr rfl
  have vm : VR (rowsRenW [pi, pm, pd] (fun i => if i = 0 then 1 else 2)) lm mv := by
    rcases hm with ⟨rfl, rfl, _, _⟩ | ⟨rfl, hr⟩
    · simp [VR]
    · exact VR_sls (slW_VR hr rfl)
  have vd : VR (rowsRenW [pi, pm, pd] (fun i => if i = 0 then 1 else 2)) ld dv := by
    rcases hd with ⟨rfl, rfl, _, _⟩ | ⟨rfl, hr⟩
    · simp [VR]
    · exact VR_sls (slW_VR hr rfl)
  refine calls_ro h rfl ?_ hrep (fun _ => rfl)
  simp only [VRL]
  refine ⟨_, rest, ?_, plainL_VR _ hp, rfl⟩
  simp only [svV, VR, VRL]
  exact ⟨_, ⟨_, _, rfl, ⟨_, _, rfl, ⟨_, _, rfl, ⟨_, _, rfl, ⟨_, _, rfl, ⟨_, _, rfl, ⟨_, _, rfl, ⟨_, _, rfl, ⟨_, _, rfl, ⟨_, _, rfl, ⟨_, _, rfl, ⟨_, _, rfl, ⟨_, _, rfl, ⟨_, _, rfl, ⟨_, _, rfl, ⟨_, _, vi, ⟨_, _, vm, ⟨_, _, vd, rfl, rfl⟩, rfl⟩, rfl⟩, rfl⟩, rfl⟩, rfl⟩, rfl⟩, rfl⟩, rfl⟩, rfl⟩, rfl⟩, rfl⟩, rfl⟩, rfl⟩, rfl⟩, rfl⟩, rfl⟩, rfl⟩, rfl⟩
abbrev TrueAt (F : FuncId) (args : List Value) (r0 r1 r2 : LO) : Prop := LCalls Try.prog F args (mkH [some r0, some r1, some r2]) (fun u _ => u = .bool true)
theorem start_law {W : World} {F : FuncId} {v : Value} {rest : List Value} (h : ∃ cs, v = .agg ⟨cs⟩ ∧ CksOk W [.int .u16, .int .u16, .int .u16, .int .u16, .int .u16, .int .u16, .int .u16, .int .u16, .bool, .bool, .bool, .bool, .bool, .int .u16, .bool, .slice [.int .u8], .slice [.int .u16, .int .u8], .slice [.int .u16, .int .u8]] cs) (hp : plainL rest = true)
    (hNNN : ∀ (s : Sv) (n k l : Nat) (f fa fb fc fd : Nat → Int), s.Ok → TrueAt F (svV s nilS nilS nilS :: rest) (ints .u8 f n) (bytes2 fa fb k) (bytes2 fc fd l))
    (hNNS : ∀ (s : Sv) (n k l : Nat) (f fa fb fc fd : Nat → Int), s.Ok → (∀ e, e < l → B16 (fc e) ∧ B8 (fd e)) → TrueAt F (svV s nilS nilS (sls 2 l) :: rest) (ints .u8 f n) (bytes2 fa fb k) (bytes2 fc fd l))
    (hNEN : ∀ (s : Sv) (n k l : Nat) (f fa fb fc fd : Nat → Int), s.Ok → TrueAt F (svV s nilS (sls 1 0) nilS :: rest) (ints .u8 f n) (bytes2 fa fb 0) (bytes2 fc fd l))
    (hNES : ∀ (s : Sv) (n k l : Nat) (f fa fb fc fd : Nat → Int), s.Ok → (∀ e, e < l → B16 (fc e) ∧ B8 (fd e)) → TrueAt F (svV s nilS (sls 1 0) (sls 2 l) :: rest) (ints .u8 f n) (bytes2 fa fb 0) (bytes2 fc fd l))
    (hNRN : ∀ (s : Sv) (n k l : Nat) (f fa fb fc fd : Nat → Int), s.Ok → (∀ e, e < k + 1 → B16 (fa e) ∧ B8 (fb e)) → TrueAt F (svV s nilS (sls 1 (k + 1)) nilS :: rest) (ints .u8 f n) (bytes2 fa fb (k + 1)) (bytes2 fc fd l))
    (hNRS : ∀ (s : Sv) (n k l : Nat) (f fa fb fc fd : Nat → Int), s.Ok → (∀ e, e < k + 1 → B16 (fa e) ∧ B8 (fb e)) → (∀ e, e < l → B16 (fc e) ∧ B8 (fd e)) → TrueAt F (svV s nilS (sls 1 (k + 1)) (sls 2 l) :: rest) (ints .u8 f n) (bytes2 fa fb (k + 1)) (bytes2 fc fd l))
    (hENN : ∀ (s : Sv) (n k l : Nat) (f fa fb fc fd : Nat → Int), s.Ok → TrueAt F (svV s (sl 0 0) nilS nilS :: rest) (ints .u8 f 0) (bytes2 fa fb k) (bytes2 fc fd l))
    (hENS : ∀ (s : Sv) (n k l : Nat) (f fa fb fc fd : Nat → Int), s.Ok → (∀ e, e < l → B16 (fc e) ∧ B8 (fd e)) → TrueAt F (svV s (sl 0 0) nilS (sls 2 l) :: rest) (ints .u8 f 0) (bytes2 fa fb k) (bytes2 fc fd l))
    (hEEN : ∀ (s : Sv) (n k l : Nat) (f fa fb fc fd : Nat → Int), s.Ok → TrueAt F (svV s (sl 0 0) (sls 1 0) nilS :: rest) (ints .u8 f 0) (bytes2 fa fb 0) (bytes2 fc fd l))
    (hEES : ∀ (s : Sv) (n k l : Nat) (f fa fb fc fd : Nat → Int), s.Ok → (∀ e, e < l → B16 (fc e) ∧ B8 (fd e)) → TrueAt F (svV s (sl 0 0) (sls 1 0) (sls 2 l) :: rest) (ints .u8 f 0) (bytes2 fa fb 0) (bytes2 fc fd l))
    (hERN : ∀ (s : Sv) (n k l : Nat) (f fa fb fc fd : Nat → Int), s.Ok → (∀ e, e < k + 1 → B16 (fa e) ∧ B8 (fb e)) → TrueAt F (svV s (sl 0 0) (sls 1 (k + 1)) nilS :: rest) (ints .u8 f 0) (bytes2 fa fb (k + 1)) (bytes2 fc fd l))
    (hERS : ∀ (s : Sv) (n k l : Nat) (f fa fb fc fd : Nat → Int), s.Ok → (∀ e, e < k + 1 → B16 (fa e) ∧ B8 (fb e)) → (∀ e, e < l → B16 (fc e) ∧ B8 (fd e)) → TrueAt F (svV s (sl 0 0) (sls 1 (k + 1)) (sls 2 l) :: rest) (ints .u8 f 0) (bytes2 fa fb (k + 1)) (bytes2 fc fd l))
    (hRNN : ∀ (s : Sv) (n k l : Nat) (f fa fb fc fd : Nat → Int), s.Ok → (∀ e, e < n + 1 → B8 (f e)) → TrueAt F (svV s (sl 0 (n + 1)) nilS nilS :: rest) (ints .u8 f (n + 1)) (bytes2 fa fb k) (bytes2 fc fd l))
    (hRNS : ∀ (s : Sv) (n k l : Nat) (f fa fb fc fd : Nat → Int), s.Ok → (∀ e, e < n + 1 → B8 (f e)) → (∀ e, e < l → B16 (fc e) ∧ B8 (fd e)) → TrueAt F (svV s (sl 0 (n + 1)) nilS (sls 2 l) :: rest) (ints .u8 f (n + 1)) (bytes2 fa fb k) (bytes2 fc fd l))
    (hREN : ∀ (s : Sv) (n k l : Nat) (f fa fb fc fd : Nat → Int), s.Ok → (∀ e, e < n + 1 → B8 (f e)) → TrueAt F (svV s (sl 0 (n + 1)) (sls 1 0) nilS :: rest) (ints .u8 f (n + 1)) (bytes2 fa fb 0) (bytes2 fc fd l))
    (hRES : ∀ (s : Sv) (n k l : Nat) (f fa fb fc fd : Nat → Int), s.Ok → (∀ e, e < n + 1 → B8 (f e)) → (∀ e, e < l → B16 (fc e) ∧ B8 (fd e)) → TrueAt F (svV s (sl 0 (n + 1)) (sls 1 0) (sls 2 l) :: rest) (ints .u8 f (n + 1)) (bytes2 fa fb 0) (bytes2 fc fd l))
    (hRRN : ∀ (s : Sv) (n k l : Nat) (f fa fb fc fd : Nat → Int), s.Ok → (∀ e, e < n + 1 → B8 (f e)) → (∀ e, e < k + 1 → B16 (fa e) ∧ B8 (fb e)) → TrueAt F (svV s (sl 0 (n + 1)) (sls 1 (k + 1)) nilS :: rest) (ints .u8 f (n + 1)) (bytes2 fa fb (k + 1)) (bytes2 fc fd l))
    (hRRS : ∀ (s : Sv) (n k l : Nat) (f fa fb fc fd : Nat → Int), s.Ok → (∀ e, e < n + 1 → B8 (f e)) → (∀ e, e < k + 1 → B16 (fa e) ∧ B8 (fb e)) → (∀ e, e < l → B16 (fc e) ∧ B8 (fd e)) → TrueAt F (svV s (sl 0 (n + 1)) (sls 1 (k + 1)) (sls 2 l) :: rest) (ints .u8 f (n + 1)) (bytes2 fa fb (k + 1)) (bytes2 fc fd l)) :
    Calls Try.prog F ⟨v :: rest⟩ W (fun e W' => e = .returned (.bool true) ∧ Below W.heap.size W W') := by
  obtain ⟨s, iv, cv, dv, hs, rfl, hi, hc, hd⟩ := sv_open h
  obtain ⟨f, n, li, pi, hI, hf, _⟩ := in_cases hi
  obtain ⟨a, b, k, lc, pc, hC, hb, _⟩ := m_casesS 1 hc
  obtain ⟨c, d, l, ld, pd, hD, hdd, _⟩ := m_casesS 2 hd
  refine calls_startS hI hC hD hp ?_
  rcases hI with ⟨rfl, _, _, _⟩ | ⟨rfl, _⟩ <;> rcases hC with ⟨rfl, _, _, _⟩ | ⟨rfl, _⟩ <;> rcases hD with ⟨rfl, _, _, _⟩ | ⟨rfl, _⟩
  · exact hNNN s n k l f a b c d hs
  · exact hNNS s n k l f a b c d hs hdd
  · rcases k with _ | k
    · exact hNEN s n 0 l f a b c d hs
    · exact hNRN s n k l f a b c d hs hb
  · rcases k with _ | k
    · exact hNES s n 0 l f a b c d hs hdd
    · exact hNRS s n k l f a b c d hs hb hdd
  · rcases n with _ | n
    · exact hENN s 0 k l f a b c d hs
    · exact hRNN s n k l f a b c d hs hf
  · rcases n with _ | n
    · exact hENS s 0 k l f a b c d hs hdd
    · exact hRNS s n k l f a b c d hs hf hdd
  · rcases n with _ | n <;> rcases k with _ | k
    · exact hEEN s 0 0 l f a b c d hs
    · exact hERN s 0 k l f a b c d hs hb
    · exact hREN s n 0 l f a b c d hs hf
    · exact hRRN s n k l f a b c d hs hf hb
  · rcases n with _ | n <;> rcases k with _ | k
    · exact hEES s 0 0 l f a b c d hs hdd
    · exact hERS s 0 k l f a b c d hs hb hdd
    · exact hRES s n 0 l f a b c d hs hf hdd
    · exact hRRS s n k l f a b c d hs hf hb hdd
end Go.Proofs.Ytnknopebjdgdjaa
namespace Go.Proofs.Ytnknopebjdgdjaa
open Go Go.Ly Go.RowKit
theorem w5_NNN (s : Sv) (n k l : Nat) (f fa fb fc fd : Nat → Int) (op x : Int) (hip : B16 s.ip) (hxw : inw x = true) : LCalls Try.prog 5 [svV s nilS nilS nilS, .int .i64 op, .int .u16 x] (mkH [some (ints .u8 f n), some (bytes2 fa fb k), some (bytes2 fc fd l)]) (fun u _ => u = .bool true) := by
  rcases Bool.eq_false_or_eq_true (condB op) with h | h
  rotate_left
  · exact LCalls_of ctxK_ok gL5 (by kernel_rfl) (MWp.out ctxK_ok 9000 _ (x5_NNN0 s n k l f fa fb fc fd op x) (tr_cons (tCd_no h) trivial) (fun _ => rfl))
  have ho := h
  clear h
  rcases Bool.eq_false_or_eq_true (op.tmod 2 == 1) with h | h
  · exact LCalls_of ctxK_ok gL5 (by kernel_rfl) (MWp.out ctxK_ok 9000 _ (x5_NNN1 s n k l f fa fb fc fd op x) (tr_cons (tCd_ok ho) (tr_cons (tMd_no h) trivial)) (fun _ => rfl))
  have he := h
  clear h
  have ho1 : condB (op1 op) = true := by rw [op1_eq ho]; exact cond1 ho he
  rcases Bool.eq_false_or_eq_true (nearB x) with h | h
  rotate_left
  · exact LCalls_of ctxK_ok gL5 (by kernel_rfl) (MWp.out ctxK_ok 9000 _ (x5_NNN3 s n k l f fa fb fc fd op x) (tr_cons (tCd_ok ho) (tr_cons (tMd_ok he) (tr_cons (tC1_ok ho hxw) (tr_cons (tNr_no h) (tr_cons (tC1_ok ho1 hxw) (tr_cons (tNr_no h) trivial)))))) (fun _ => rfl))
  have hnr := h
  clear h
  rcases Bool.eq_false_or_eq_true (x == 0) with h | h
  · exact LCalls_of ctxK_ok gL5 (by kernel_rfl) (MWp.out ctxK_ok 9000 _ (x5_NNN6 s n k l f fa fb fc fd op x) (tr_cons (tCd_ok ho) (tr_cons (tMd_ok he) (tr_cons (tC1_ok ho hxw) (tr_cons (tNr_ok hnr) (tr_cons (tC1_ok ho1 hxw) (tr_cons (tNr_ok hnr) (tr_cons (tX0_no h) trivial))))))) (fun _ => rfl))
  have hx0 := h
  clear h
  exact g5_NNN s n k l f fa fb fc fd op x hip ho he hxw hnr hx0
theorem w5_NNS (s : Sv) (n k l : Nat) (f fa fb fc fd : Nat → Int) (op x : Int) (hip : B16 s.ip) (hxw : inw x = true) (hd : ∀ e, e < l → B16 (fc e) ∧ B8 (fd e)) : LCalls Try.prog 5 [svV s nilS nilS (sls 2 l), .int .i64 op, .int .u16 x] (mkH [some (ints .u8 f n), some (bytes2 fa fb k), some (bytes2 fc fd l)]) (fun u _ => u = .bool true) := by
  by_cases h : l ≤ 300
  rotate_left
  · exact LCalls_of ctxK_ok gL5 (by kernel_rfl) (MWp.out ctxK_ok 9000 _ (x5_NNS0 s n k l f fa fb fc fd op x) (tr_cons (tLd_no h) trivial) (fun _ => rfl))
  have hLd := h
  clear h
  rcases Bool.eq_false_or_eq_true (condB op) with h | h
  rotate_left
  · exact LCalls_of ctxK_ok gL5 (by kernel_rfl) (MWp.out ctxK_ok 9000 _ (x5_NNS1 s n k l f fa fb fc fd op x) (tr_cons (tLd_ok hLd) (tr_cons (tCd_no h) trivial)) (fun _ => rfl))
  have ho := h
  clear h
  rcases Bool.eq_false_or_eq_true (op.tmod 2 == 1) with h | h
  · exact LCalls_of ctxK_ok gL5 (by kernel_rfl) (MWp.out ctxK_ok 9000 _ (x5_NNS2 s n k l f fa fb fc fd op x) (tr_cons (tLd_ok hLd) (tr_cons (tCd_ok ho) (tr_cons (tMd_no h) trivial))) (fun _ => rfl))
  have he := h
  clear h
  have ho1 : condB (op1 op) = true := by rw [op1_eq ho]; exact cond1 ho he
  rcases Bool.eq_false_or_eq_true (nearB x) with h | h
  rotate_left
  · exact LCalls_of ctxK_ok gL5 (by kernel_rfl) (MWp.out ctxK_ok 9000 _ (x5_NNS4 s n k l f fa fb fc fd op x) (tr_cons (tLd_ok hLd) (tr_cons (tCd_ok ho) (tr_cons (tMd_ok he) (tr_cons (tC1_ok ho hxw) (tr_cons (tNr_no h) (tr_cons (tC1_ok ho1 hxw) (tr_cons (tNr_no h) trivial))))))) (fun _ => rfl))
  have hnr := h
  clear h
  rcases Bool.eq_false_or_eq_true (x == 0) with h | h
  · exact LCalls_of ctxK_ok gL5 (by kernel_rfl) (MWp.out ctxK_ok 9000 _ (x5_NNS7 s n k l f fa fb fc fd op x) (tr_cons (tLd_ok hLd) (tr_cons (tCd_ok ho) (tr_cons (tMd_ok he) (tr_cons (tC1_ok ho hxw) (tr_cons (tNr_ok hnr) (tr_cons (tC1_ok ho1 hxw) (tr_cons (tNr_ok hnr) (tr_cons (tX0_no h) trivial)))))))) (fun _ => rfl))
  have hx0 := h
  clear h
  exact g5_NNS s n k l f fa fb fc fd op x hip hLd hd ho he hxw hnr hx0
theorem w5_NEN (s : Sv) (n k l : Nat) (f fa fb fc fd : Nat → Int) (op x : Int) (hip : B16 s.ip) (hxw : inw x = true) : LCalls Try.prog 5 [svV s nilS (sls 1 0) nilS, .int .i64 op, .int .u16 x] (mkH [some (ints .u8 f n), some (bytes2 fa fb 0), some (bytes2 fc fd l)]) (fun u _ => u = .bool true) := by
  rcases Bool.eq_false_or_eq_true (condB op) with h | h
  rotate_left
  · exact LCalls_of ctxK_ok gL5 (by kernel_rfl) (MWp.out ctxK_ok 9000 _ (x5_NEN0 s n k l f fa fb fc fd op x) (tr_cons (tCd_no h) trivial) (fun _ => rfl))
  have ho := h
  clear h
  rcases Bool.eq_false_or_eq_true (op.tmod 2 == 1) with h | h
  · exact LCalls_of ctxK_ok gL5 (by kernel_rfl) (MWp.out ctxK_ok 9000 _ (x5_NEN1 s n k l f fa fb fc fd op x) (tr_cons (tCd_ok ho) (tr_cons (tMd_no h) trivial)) (fun _ => rfl))
  have he := h
  clear h
  have ho1 : condB (op1 op) = true := by rw [op1_eq ho]; exact cond1 ho he
  rcases Bool.eq_false_or_eq_true (nearB x) with h | h
  rotate_left
  · exact LCalls_of ctxK_ok gL5 (by kernel_rfl) (MWp.out ctxK_ok 9000 _ (x5_NEN3 s n k l f fa fb fc fd op x) (tr_cons (tCd_ok ho) (tr_cons (tMd_ok he) (tr_cons (tC1_ok ho hxw) (tr_cons (tNr_no h) (tr_cons (tC1_ok ho1 hxw) (tr_cons (tNr_no h) trivial)))))) (fun _ => rfl))
  have hnr := h
  clear h
  rcases Bool.eq_false_or_eq_true (x == 0) with h | h
  · exact LCalls_of ctxK_ok gL5 (by kernel_rfl) (MWp.out ctxK_ok 9000 _ (x5_NEN6 s n k l f fa fb fc fd op x) (tr_cons (tCd_ok ho) (tr_cons (tMd_ok he) (tr_cons (tC1_ok ho hxw) (tr_cons (tNr_ok hnr) (tr_cons (tC1_ok ho1 hxw) (tr_cons (tNr_ok hnr) (tr_cons (tX0_no h) trivial))))))) (fun _ => rfl))
  have hx0 := h
  clear h
  exact g5_NEN s n k l f fa fb fc fd op x hip ho he hxw hnr hx0
theorem w5_NES (s : Sv) (n k l : Nat) (f fa fb fc fd : Nat → Int) (op x : Int) (hip : B16 s.ip) (hxw : inw x = true) (hd : ∀ e, e < l → B16 (fc e) ∧ B8 (fd e)) : LCalls Try.prog 5 [svV s nilS (sls 1 0) (sls 2 l), .int .i64 op, .int .u16 x] (mkH [some (ints .u8 f n), some (bytes2 fa fb 0), some (bytes2 fc fd l)]) (fun u _ => u = .bool true) := by
  by_cases h : l ≤ 300
  rotate_left
  · exact LCalls_of ctxK_ok gL5 (by kernel_rfl) (MWp.out ctxK_ok 9000 _ (x5_NES0 s n k l f fa fb fc fd op x) (tr_cons (tLd_no h) trivial) (fun _ => rfl))
  have hLd := h
  clear h
  rcases Bool.eq_false_or_eq_true (condB op) with h | h
  rotate_left
  · exact LCalls_of ctxK_ok gL5 (by kernel_rfl) (MWp.out ctxK_ok 9000 _ (x5_NES1 s n k l f fa fb fc fd op x) (tr_cons (tLd_ok hLd) (tr_cons (tCd_no h) trivial)) (fun _ => rfl))
  have ho := h
  clear h
  rcases Bool.eq_false_or_eq_true (op.tmod 2 == 1) with h | h
  · exact LCalls_of ctxK_ok gL5 (by kernel_rfl) (MWp.out ctxK_ok 9000 _ (x5_NES2 s n k l f fa fb fc fd op x) (tr_cons (tLd_ok hLd) (tr_cons (tCd_ok ho) (tr_cons (tMd_no h) trivial))) (fun _ => rfl))
  have he := h
  clear h
  have ho1 : condB (op1 op) = true := by rw [op1_eq ho]; exact cond1 ho he
  rcases Bool.eq_false_or_eq_true (nearB x) with h | h
  rotate_left
  · exact LCalls_of ctxK_ok gL5 (by kernel_rfl) (MWp.out ctxK_ok 9000 _ (x5_NES4 s n k l f fa fb fc fd op x) (tr_cons (tLd_ok hLd) (tr_cons (tCd_ok ho) (tr_cons (tMd_ok he) (tr_cons (tC1_ok ho hxw) (tr_cons (tNr_no h) (tr_cons (tC1_ok ho1 hxw) (tr_cons (tNr_no h) trivial))))))) (fun _ => rfl))
  have hnr := h
  clear h
  rcases Bool.eq_false_or_eq_true (x == 0) with h | h
  · exact LCalls_of ctxK_ok gL5 (by kernel_rfl) (MWp.out ctxK_ok 9000 _ (x5_NES7 s n k l f fa fb fc fd op x) (tr_cons (tLd_ok hLd) (tr_cons (tCd_ok ho) (tr_cons (tMd_ok he) (tr_cons (tC1_ok ho hxw) (tr_cons (tNr_ok hnr) (tr_cons (tC1_ok ho1 hxw) (tr_cons (tNr_ok hnr) (tr_cons (tX0_no h) trivial)))))))) (fun _ => rfl))
  have hx0 := h
  clear h
  exact g5_NES s n k l f fa fb fc fd op x hip hLd hd ho he hxw hnr hx0
theorem w5_NRN (s : Sv) (n k l : Nat) (f fa fb fc fd : Nat → Int) (op x : Int) (hip : B16 s.ip) (hxw : inw x = true) (hb : ∀ e, e < k + 1 → B16 (fa e) ∧ B8 (fb e)) : LCalls Try.prog 5 [svV s nilS (sls 1 (k + 1)) nilS, .int .i64 op, .int .u16 x] (mkH [some (ints .u8 f n), some (bytes2 fa fb (k + 1)), some (bytes2 fc fd l)]) (fun u _ => u = .bool true) := by
  by_cases h : k + 1 ≤ 600
  rotate_left
  · exact LCalls_of ctxK_ok gL5 (by kernel_rfl) (MWp.out ctxK_ok 9000 _ (x5_NRN0 s n k l f fa fb fc fd op x) (tr_cons (tLc_no h) trivial) (fun _ => rfl))
  have hLc := h
  clear h
  rcases Bool.eq_false_or_eq_true (condB op) with h | h
  rotate_left
  · exact LCalls_of ctxK_ok gL5 (by kernel_rfl) (MWp.out ctxK_ok 9000 _ (x5_NRN1 s n k l f fa fb fc fd op x) (tr_cons (tLc_ok hLc) (tr_cons (tCd_no h) trivial)) (fun _ => rfl))
  have ho := h
  clear h
  rcases Bool.eq_false_or_eq_true (op.tmod 2 == 1) with h | h
  · exact LCalls_of ctxK_ok gL5 (by kernel_rfl) (MWp.out ctxK_ok 9000 _ (x5_NRN2 s n k l f fa fb fc fd op x) (tr_cons (tLc_ok hLc) (tr_cons (tCd_ok ho) (tr_cons (tMd_no h) trivial))) (fun _ => rfl))
  have he := h
  clear h
  have ho1 : condB (op1 op) = true := by rw [op1_eq ho]; exact cond1 ho he
  rcases Bool.eq_false_or_eq_true (nearB x) with h | h
  rotate_left
  · exact LCalls_of ctxK_ok gL5 (by kernel_rfl) (MWp.out ctxK_ok 9000 _ (x5_NRN4 s n k l f fa fb fc fd op x) (tr_cons (tLc_ok hLc) (tr_cons (tCd_ok ho) (tr_cons (tMd_ok he) (tr_cons (tC1_ok ho hxw) (tr_cons (tNr_no h) (tr_cons (tC1_ok ho1 hxw) (tr_cons (tNr_no h) trivial))))))) (fun _ => rfl))
  have hnr := h
  clear h
  rcases Bool.eq_false_or_eq_true (x == 0) with h | h
  · exact LCalls_of ctxK_ok gL5 (by kernel_rfl) (MWp.out ctxK_ok 9000 _ (x5_NRN7 s n k l f fa fb fc fd op x) (tr_cons (tLc_ok hLc) (tr_cons (tCd_ok ho) (tr_cons (tMd_ok he) (tr_cons (tC1_ok ho hxw) (tr_cons (tNr_ok hnr) (tr_cons (tC1_ok ho1 hxw) (tr_cons (tNr_ok hnr) (tr_cons (tX0_no h) trivial)))))))) (fun _ => rfl))
  have hx0 := h
  clear h
  exact g5_NRN s n k l f fa fb fc fd op x hip hLc hb ho he hxw hnr hx0
theorem w5_NRS (s : Sv) (n k l : Nat) (f fa fb fc fd : Nat → Int) (op x : Int) (hip : B16 s.ip) (hxw : inw x = true) (hb : ∀ e, e < k + 1 → B16 (fa e) ∧ B8 (fb e)) (hd : ∀ e, e < l → B16 (fc e) ∧ B8 (fd e)) : LCalls Try.prog 5 [svV s nilS (sls 1 (k + 1)) (sls 2 l), .int .i64 op, .int .u16 x] (mkH [some (ints .u8 f n), some (bytes2 fa fb (k + 1)), some (bytes2 fc fd l)]) (fun u _ => u = .bool true) := by
  by_cases h : k + 1 ≤ 600
  rotate_left
  · exact LCalls_of ctxK_ok gL5 (by kernel_rfl) (MWp.out ctxK_ok 9000 _ (x5_NRS0 s n k l f fa fb fc fd op x) (tr_cons (tLc_no h) trivial) (fun _ => rfl))
  have hLc := h
  clear h
  by_cases h : l ≤ 300
  rotate_left
  · exact LCalls_of ctxK_ok gL5 (by kernel_rfl) (MWp.out ctxK_ok 9000 _ (x5_NRS1 s n k l f fa fb fc fd op x) (tr_cons (tLc_ok hLc) (tr_cons (tLd_no h) trivial)) (fun _ => rfl))
  have hLd := h
  clear h
  rcases Bool.eq_false_or_eq_true (condB op) with h | h
  rotate_left
  · exact LCalls_of ctxK_ok gL5 (by kernel_rfl) (MWp.out ctxK_ok 9000 _ (x5_NRS2 s n k l f fa fb fc fd op x) (tr_cons (tLc_ok hLc) (tr_cons (tLd_ok hLd) (tr_cons (tCd_no h) trivial))) (fun _ => rfl))
  have ho := h
  clear h
  rcases Bool.eq_false_or_eq_true (op.tmod 2 == 1) with h | h
  · exact LCalls_of ctxK_ok gL5 (by kernel_rfl) (MWp.out ctxK_ok 9000 _ (x5_NRS3 s n k l f fa fb fc fd op x) (tr_cons (tLc_ok hLc) (tr_cons (tLd_ok hLd) (tr_cons (tCd_ok ho) (tr_cons (tMd_no h) trivial)))) (fun _ => rfl))
  have he := h
  clear h
  have ho1 : condB (op1 op) = true := by rw [op1_eq ho]; exact cond1 ho he
  rcases Bool.eq_false_or_eq_true (nearB x) with h | h
  rotate_left
  · exact LCalls_of ctxK_ok gL5 (by kernel_rfl) (MWp.out ctxK_ok 9000 _ (x5_NRS5 s n k l f fa fb fc fd op x) (tr_cons (tLc_ok hLc) (tr_cons (tLd_ok hLd) (tr_cons (tCd_ok ho) (tr_cons (tMd_ok he) (tr_cons (tC1_ok ho hxw) (tr_cons (tNr_no h) (tr_cons (tC1_ok ho1 hxw) (tr_cons (tNr_no h) trivial)))))))) (fun _ => rfl))
  have hnr := h
  clear h
  rcases Bool.eq_false_or_eq_true (x == 0) with h | h
  · exact LCalls_of ctxK_ok gL5 (by kernel_rfl) (MWp.out ctxK_ok 9000 _ (x5_NRS8 s n k l f fa fb fc fd op x) (tr_cons (tLc_ok hLc) (tr_cons (tLd_ok hLd) (tr_cons (tCd_ok ho) (tr_cons (tMd_ok he) (tr_cons (tC1_ok ho hxw) (tr_cons (tNr_ok hnr) (tr_cons (tC1_ok ho1 hxw) (tr_cons (tNr_ok hnr) (tr_cons (tX0_no h) trivial))))))))) (fun _ => rfl))
  have hx0 := h
  clear h
  exact g5_NRS s n k l f fa fb fc fd op x hip hLc hb hLd hd ho he hxw hnr hx0
theorem w5_ENN (s : Sv) (n k l : Nat) (f fa fb fc fd : Nat → Int) (op x : Int) (hip : B16 s.ip) (hxw : inw x = true) : LCalls Try.prog 5 [svV s (sl 0 0) nilS nilS, .int .i64 op, .int .u16 x] (mkH [some (ints .u8 f 0), some (bytes2 fa fb k), some (bytes2 fc fd l)]) (fun u _ => u = .bool true) := by
  rcases Bool.eq_false_or_eq_true (condB op) with h | h
  rotate_left
  · exact LCalls_of ctxK_ok gL5 (by kernel_rfl) (MWp.out ctxK_ok 9000 _ (x5_ENN0 s n k l f fa fb fc fd op x) (tr_cons (tCd_no h) trivial) (fun _ => rfl))
  have ho := h
  clear h
  rcases Bool.eq_false_or_eq_true (op.tmod 2 == 1) with h | h
  · exact LCalls_of ctxK_ok gL5 (by kernel_rfl) (MWp.out ctxK_ok 9000 _ (x5_ENN1 s n k l f fa fb fc fd op x) (tr_cons (tCd_ok ho) (tr_cons (tMd_no h) trivial)) (fun _ => rfl))
  have he := h
  clear h
  have ho1 : condB (op1 op) = true := by rw [op1_eq ho]; exact cond1 ho he
  rcases Bool.eq_false_or_eq_true (nearB x) with h | h
  rotate_left
  · exact LCalls_of ctxK_ok gL5 (by kernel_rfl) (MWp.out ctxK_ok 9000 _ (x5_ENN3 s n k l f fa fb fc fd op x) (tr_cons (tCd_ok ho) (tr_cons (tMd_ok he) (tr_cons (tC1_ok ho hxw) (tr_cons (tNr_no h) (tr_cons (tC1_ok ho1 hxw) (tr_cons (tNr_no h) trivial)))))) (fun _ => rfl))
  have hnr := h
  clear h
  rcases Bool.eq_false_or_eq_true (x == 0) with h | h
  · exact LCalls_of ctxK_ok gL5 (by kernel_rfl) (MWp.out ctxK_ok 9000 _ (x5_ENN6 s n k l f fa fb fc fd op x) (tr_cons (tCd_ok ho) (tr_cons (tMd_ok he) (tr_cons (tC1_ok ho hxw) (tr_cons (tNr_ok hnr) (tr_cons (tC1_ok ho1 hxw) (tr_cons (tNr_ok hnr) (tr_cons (tX0_no h) trivial))))))) (fun _ => rfl))
  have hx0 := h
  clear h
  exact g5_ENN s n k l f fa fb fc fd op x hip ho he hxw hnr hx0
theorem w5_ENS (s : Sv) (n k l : Nat) (f fa fb fc fd : Nat → Int) (op x : Int) (hip : B16 s.ip) (hxw : inw x = true) (hd : ∀ e, e < l → B16 (fc e) ∧ B8 (fd e)) : LCalls Try.prog 5 [svV s (sl 0 0) nilS (sls 2 l), .int .i64 op, .int .u16 x] (mkH [some (ints .u8 f 0), some (bytes2 fa fb k), some (bytes2 fc fd l)]) (fun u _ => u = .bool true) := by
  by_cases h : l ≤ 300
  rotate_left
  · exact LCalls_of ctxK_ok gL5 (by kernel_rfl) (MWp.out ctxK_ok 9000 _ (x5_ENS0 s n k l f fa fb fc fd op x) (tr_cons (tLd_no h) trivial) (fun _ => rfl))
  have hLd := h
  clear h
  rcases Bool.eq_false_or_eq_true (condB op) with h | h
  rotate_left
  · exact LCalls_of ctxK_ok gL5 (by kernel_rfl) (MWp.out ctxK_ok 9000 _ (x5_ENS1 s n k l f fa fb fc fd op x) (tr_cons (tLd_ok hLd) (tr_cons (tCd_no h) trivial)) (fun _ => rfl))
  have ho := h
  clear h
  rcases Bool.eq_false_or_eq_true (op.tmod 2 == 1) with h | h
  · exact LCalls_of ctxK_ok gL5 (by kernel_rfl) (MWp.out ctxK_ok 9000 _ (x5_ENS2 s n k l f fa fb fc fd op x) (tr_cons (tLd_ok hLd) (tr_cons (tCd_ok ho) (tr_cons (tMd_no h) trivial))) (fun _ => rfl))
  have he := h
  clear h
  have ho1 : condB (op1 op) = true := by rw [op1_eq ho]; exact cond1 ho he
  rcases Bool.eq_false_or_eq_true (nearB x) with h | h
  rotate_left
  · exact LCalls_of ctxK_ok gL5 (by kernel_rfl) (MWp.out ctxK_ok 9000 _ (x5_ENS4 s n k l f fa fb fc fd op x) (tr_cons (tLd_ok hLd) (tr_cons (tCd_ok ho) (tr_cons (tMd_ok he) (tr_cons (tC1_ok ho hxw) (tr_cons (tNr_no h) (tr_cons (tC1_ok ho1 hxw) (tr_cons (tNr_no h) trivial))))))) (fun _ => rfl))
  have hnr := h
  clear h
  rcases Bool.eq_false_or_eq_true (x == 0) with h | h
  · exact LCalls_of ctxK_ok gL5 (by kernel_rfl) (MWp.out ctxK_ok 9000 _ (x5_ENS7 s n k l f fa fb fc fd op x) (tr_cons (tLd_ok hLd) (tr_cons (tCd_ok ho) (tr_cons (tMd_ok he) (tr_cons (tC1_ok ho hxw) (tr_cons (tNr_ok hnr) (tr_cons (tC1_ok ho1 hxw) (tr_cons (tNr_ok hnr) (tr_cons (tX0_no h) trivial)))))))) (fun _ => rfl))
  have hx0 := h
  clear h
  exact g5_ENS s n k l f fa fb fc fd op x hip hLd hd ho he hxw hnr hx0
theorem w5_EEN (s : Sv) (n k l : Nat) (f fa fb fc fd : Nat → Int) (op x : Int) (hip : B16 s.ip) (hxw : inw x = true) : LCalls Try.prog 5 [svV s (sl 0 0) (sls 1 0) nilS, .int .i64 op, .int .u16 x] (mkH [some (ints .u8 f 0), some (bytes2 fa fb 0), some (bytes2 fc fd l)]) (fun u _ => u = .bool true) := by
  rcases Bool.eq_false_or_eq_true (condB op) with h | h
  rotate_left
  · exact LCalls_of ctxK_ok gL5 (by kernel_rfl) (MWp.out ctxK_ok 9000 _ (x5_EEN0 s n k l f fa fb fc fd op x) (tr_cons (tCd_no h) trivial) (fun _ => rfl))
  have ho := h
  clear h
  rcases Bool.eq_false_or_eq_true (op.tmod 2 == 1) with h | h
  · exact LCalls_of ctxK_ok gL5 (by kernel_rfl) (MWp.out ctxK_ok 9000 _ (x5_EEN1 s n k l f fa fb fc fd op x) (tr_cons (tCd_ok ho) (tr_cons (tMd_no h) trivial)) (fun _ => rfl))
  have he := h
  clear h
  have ho1 : condB (op1 op) = true := by rw [op1_eq ho]; exact cond1 ho he
  rcases Bool.eq_false_or_eq_true (nearB x) with h | h
  rotate_left
  · exact LCalls_of ctxK_ok gL5 (by kernel_rfl) (MWp.out ctxK_ok 9000 _ (x5_EEN3 s n k l f fa fb fc fd op x) (tr_cons (tCd_ok ho) (tr_cons (tMd_ok he) (tr_cons (tC1_ok ho hxw) (tr_cons (tNr_no h) (tr_cons (tC1_ok ho1 hxw) (tr_cons (tNr_no h) trivial)))))) (fun _ => rfl))
  have hnr := h
  clear h
  rcases Bool.eq_false_or_eq_true (x == 0) with h | h
  · exact LCalls_of ctxK_ok gL5 (by kernel_rfl) (MWp.out ctxK_ok 9000 _ (x5_EEN6 s n k l f fa fb fc fd op x) (tr_cons (tCd_ok ho) (tr_cons (tMd_ok he) (tr_cons (tC1_ok ho hxw) (tr_cons (tNr_ok hnr) (tr_cons (tC1_ok ho1 hxw) (tr_cons (tNr_ok hnr) (tr_cons (tX0_no h) trivial))))))) (fun _ => rfl))
  have hx0 := h
  clear h
  exact g5_EEN s n k l f fa fb fc fd op x hip ho he hxw hnr hx0
theorem w5_EES (s : Sv) (n k l : Nat) (f fa fb fc fd : Nat → Int) (op x : Int) (hip : B16 s.ip) (hxw : inw x = true) (hd : ∀ e, e < l → B16 (fc e) ∧ B8 (fd e)) : LCalls Try.prog 5 [svV s (sl 0 0) (sls 1 0) (sls 2 l), .int .i64 op, .int .u16 x] (mkH [some (ints .u8 f 0), some (bytes2 fa fb 0), some (bytes2 fc fd l)]) (fun u _ => u = .bool true) := by
  by_cases h : l ≤ 300
  rotate_left
  · exact LCalls_of ctxK_ok gL5 (by kernel_rfl) (MWp.out ctxK_ok 9000 _ (x5_EES0 s n k l f fa fb fc fd op x) (tr_cons (tLd_no h) trivial) (fun _ => rfl))
  have hLd := h
  clear h
  rcases Bool.eq_false_or_eq_true (condB op) with h | h
  rotate_left
  · exact LCalls_of ctxK_ok gL5 (by kernel_rfl) (MWp.out ctxK_ok 9000 _ (x5_EES1 s n k l f fa fb fc fd op x) (tr_cons (tLd_ok hLd) (tr_cons (tCd_no h) trivial)) (fun _ => rfl))
  have ho := h
  clear h
  rcases Bool.eq_false_or_eq_true (op.tmod 2 == 1) with h | h
  · exact LCalls_of ctxK_ok gL5 (by kernel_rfl) (MWp.out ctxK_ok 9000 _ (x5_EES2 s n k l f fa fb fc fd op x) (tr_cons (tLd_ok hLd) (tr_cons (tCd_ok ho) (tr_cons (tMd_no h) trivial))) (fun _ => rfl))
  have he := h
  clear h
  have ho1 : condB (op1 op) = true := by rw [op1_eq ho]; exact cond1 ho he
  rcases Bool.eq_false_or_eq_true (nearB x) with h | h
  rotate_left
  · exact LCalls_of ctxK_ok gL5 (by kernel_rfl) (MWp.out ctxK_ok 9000 _ (x5_EES4 s n k l f fa fb fc fd op x) (tr_cons (tLd_ok hLd) (tr_cons (tCd_ok ho) (tr_cons (tMd_ok he) (tr_cons (tC1_ok ho hxw) (tr_cons (tNr_no h) (tr_cons (tC1_ok ho1 hxw) (tr_cons (tNr_no h) trivial))))))) (fun _ => rfl))
  have hnr := h
  clear h
  rcases Bool.eq_false_or_eq_true (x == 0) with h | h
  · exact LCalls_of ctxK_ok gL5 (by kernel_rfl) (MWp.out ctxK_ok 9000 _ (x5_EES7 s n k l f fa fb fc fd op x) (tr_cons (tLd_ok hLd) (tr_cons (tCd_ok ho) (tr_cons (tMd_ok he) (tr_cons (tC1_ok ho hxw) (tr_cons (tNr_ok hnr) (tr_cons (tC1_ok ho1 hxw) (tr_cons (tNr_ok hnr) (tr_cons (tX0_no h) trivial)))))))) (fun _ => rfl))
  have hx0 := h
  clear h
  exact g5_EES s n k l f fa fb fc fd op x hip hLd hd ho he hxw hnr hx0
theorem w5_ERN (s : Sv) (n k l : Nat) (f fa fb fc fd : Nat → Int) (op x : Int) (hip : B16 s.ip) (hxw : inw x = true) (hb : ∀ e, e < k + 1 → B16 (fa e) ∧ B8 (fb e)) : LCalls Try.prog 5 [svV s (sl 0 0) (sls 1 (k + 1)) nilS, .int .i64 op, .int .u16 x] (mkH [some (ints .u8 f 0), some (bytes2 fa fb (k + 1)), some (bytes2 fc fd l)]) (fun u _ => u = .bool true) := by
  by_cases h : k + 1 ≤ 600
  rotate_left
  · exact LCalls_of ctxK_ok gL5 (by kernel_rfl) (MWp.out ctxK_ok 9000 _ (x5_ERN0 s n k l f fa fb fc fd op x) (tr_cons (tLc_no h) trivial) (fun _ => rfl))
  have hLc := h
  clear h
  rcases Bool.eq_false_or_eq_true (condB op) with h | h
  rotate_left
  · exact LCalls_of ctxK_ok gL5 (by kernel_rfl) (MWp.out ctxK_ok 9000 _ (x5_ERN1 s n k l f fa fb fc fd op x) (tr_cons (tLc_ok hLc) (tr_cons (tCd_no h) trivial)) (fun _ => rfl))
  have ho := h
  clear h
  rcases Bool.eq_false_or_eq_true (op.tmod 2 == 1) with h | h
  · exact LCalls_of ctxK_ok gL5 (by kernel_rfl) (MWp.out ctxK_ok 9000 _ (x5_ERN2 s n k l f fa fb fc fd op x) (tr_cons (tLc_ok hLc) (tr_cons (tCd_ok ho) (tr_cons (tMd_no h) trivial))) (fun _ => rfl))
  have he := h
  clear h
  have ho1 : condB (op1 op) = true := by rw [op1_eq ho]; exact cond1 ho he
  rcases Bool.eq_false_or_eq_true (nearB x) with h | h
  rotate_left
  · exact LCalls_of ctxK_ok gL5 (by kernel_rfl) (MWp.out ctxK_ok 9000 _ (x5_ERN4 s n k l f fa fb fc fd op x) (tr_cons (tLc_ok hLc) (tr_cons (tCd_ok ho) (tr_cons (tMd_ok he) (tr_cons (tC1_ok ho hxw) (tr_cons (tNr_no h) (tr_cons (tC1_ok ho1 hxw) (tr_cons (tNr_no h) trivial))))))) (fun _ => rfl))
  have hnr := h
  clear h
  rcases Bool.eq_false_or_eq_true (x == 0) with h | h
  · exact LCalls_of ctxK_ok gL5 (by kernel_rfl) (MWp.out ctxK_ok 9000 _ (x5_ERN7 s n k l f fa fb fc fd op x) (tr_cons (tLc_ok hLc) (tr_cons (tCd_ok ho) (tr_cons (tMd_ok he) (tr_cons (tC1_ok ho hxw) (tr_cons (tNr_ok hnr) (tr_cons (tC1_ok ho1 hxw) (tr_cons (tNr_ok hnr) (tr_cons (tX0_no h) trivial)))))))) (fun _ => rfl))
  have hx0 := h
  clear h
  exact g5_ERN s n k l f fa fb fc fd op x hip hLc hb ho he hxw hnr hx0
theorem w5_ERS (s : Sv) (n k l : Nat) (f fa fb fc fd : Nat → Int) (op x : Int) (hip : B16 s.ip) (hxw : inw x = true) (hb : ∀ e, e < k + 1 → B16 (fa e) ∧ B8 (fb e)) (hd : ∀ e, e < l → B16 (fc e) ∧ B8 (fd e)) : LCalls Try.prog 5 [svV s (sl 0 0) (sls 1 (k + 1)) (sls 2 l), .int .i64 op, .int .u16 x] (mkH [some (ints .u8 f 0), some (bytes2 fa fb (k + 1)), some (bytes2 fc fd l)]) (fun u _ => u = .bool true) := by
  by_cases h : k + 1 ≤ 600
  rotate_left
  · exact LCalls_of ctxK_ok gL5 (by kernel_rfl) (MWp.out ctxK_ok 9000 _ (x5_ERS0 s n k l f fa fb fc fd op x) (tr_cons (tLc_no h) trivial) (fun _ => rfl))
  have hLc := h
  clear h
  by_cases h : l ≤ 300
  rotate_left
  · exact LCalls_of ctxK_ok gL5 (by kernel_rfl) (MWp.out ctxK_ok 9000 _ (x5_ERS1 s n k l f fa fb fc fd op x) (tr_cons (tLc_ok hLc) (tr_cons (tLd_no h) trivial)) (fun _ => rfl))
  have hLd := h
  clear h
  rcases Bool.eq_false_or_eq_true (condB op) with h | h
  rotate_left
  · exact LCalls_of ctxK_ok gL5 (by kernel_rfl) (MWp.out ctxK_ok 9000 _ (x5_ERS2 s n k l f fa fb fc fd op x) (tr_cons (tLc_ok hLc) (tr_cons (tLd_ok hLd) (tr_cons (tCd_no h) trivial))) (fun _ => rfl))
  have ho := h
  clear h
  rcases Bool.eq_false_or_eq_true (op.tmod 2 == 1) with h | h
  · exact LCalls_of ctxK_ok gL5 (by kernel_rfl) (MWp.out ctxK_ok 9000 _ (x5_ERS3 s n k l f fa fb fc fd op x) (tr_cons (tLc_ok hLc) (tr_cons (tLd_ok hLd) (tr_cons (tCd_ok ho) (tr_cons (tMd_no h) trivial)))) (fun _ => rfl))
  have he := h
  clear h
  have ho1 : condB (op1 op) = true := by rw [op1_eq ho]; exact cond1 ho he
  rcases Bool.eq_false_or_eq_true (nearB x) with h | h
  rotate_left
  · exact LCalls_of ctxK_ok gL5 (by kernel_rfl) (MWp.out ctxK_ok 9000 _ (x5_ERS5 s n k l f fa fb fc fd op x) (tr_cons (tLc_ok hLc) (tr_cons (tLd_ok hLd) (tr_cons (tCd_ok ho) (tr_cons (tMd_ok he) (tr_cons (tC1_ok ho hxw) (tr_cons (tNr_no h) (tr_cons (tC1_ok ho1 hxw) (tr_cons (tNr_no h) trivial)))))))) (fun _ => rfl))
  have hnr := h
  clear h
  rcases Bool.eq_false_or_eq_true (x == 0) with h | h
  · exact LCalls_of ctxK_ok gL5 (by kernel_rfl) (MWp.out ctxK_ok 9000 _ (x5_ERS8 s n k l f fa fb fc fd op x) (tr_cons (tLc_ok hLc) (tr_cons (tLd_ok hLd) (tr_cons (tCd_ok ho) (tr_cons (tMd_ok he) (tr_cons (tC1_ok ho hxw) (tr_cons (tNr_ok hnr) (tr_cons (tC1_ok ho1 hxw) (tr_cons (tNr_ok hnr) (tr_cons (tX0_no h) trivial))))))))) (fun _ => rfl))
  have hx0 := h
  clear h
  exact g5_ERS s n k l f fa fb fc fd op x hip hLc hb hLd hd ho he hxw hnr hx0
theorem w5_RNN (s : Sv) (n k l : Nat) (f fa fb fc fd : Nat → Int) (op x : Int) (hip : B16 s.ip) (hxw : inw x = true) : LCalls Try.prog 5 [svV s (sl 0 (n + 1)) nilS nilS, .int .i64 op, .int .u16 x] (mkH [some (ints .u8 f (n + 1)), some (bytes2 fa fb k), some (bytes2 fc fd l)]) (fun u _ => u = .bool true) := by
  by_cases h : n + 1 ≤ 300
  rotate_left
  · exact LCalls_of ctxK_ok gL5 (by kernel_rfl) (MWp.out ctxK_ok 9000 _ (x5_RNN0 s n k l f fa fb fc fd op x) (tr_cons (tLi_no h) trivial) (fun _ => rfl))
  have hLi := h
  clear h
  by_cases h : n + 1 ≤ 256
  rotate_left
  · exact LCalls_of ctxK_ok gL5 (by kernel_rfl) (MWp.out ctxK_ok 9000 _ (x5_RNN1 s n k l f fa fb fc fd op x) (tr_cons (tLi_ok hLi) (tr_cons (tMe_no h) trivial)) (fun _ => rfl))
  have hMe := h
  clear h
  rcases Bool.eq_false_or_eq_true (condB op) with h | h
  rotate_left
  · exact LCalls_of ctxK_ok gL5 (by kernel_rfl) (MWp.out ctxK_ok 9000 _ (x5_RNN2 s n k l f fa fb fc fd op x) (tr_cons (tLi_ok hLi) (tr_cons (tMe_ok hMe) (tr_cons (tCd_no h) trivial))) (fun _ => rfl))
  have ho := h
  clear h
  rcases Bool.eq_false_or_eq_true (op.tmod 2 == 1) with h | h
  · exact LCalls_of ctxK_ok gL5 (by kernel_rfl) (MWp.out ctxK_ok 9000 _ (x5_RNN3 s n k l f fa fb fc fd op x) (tr_cons (tLi_ok hLi) (tr_cons (tMe_ok hMe) (tr_cons (tCd_ok ho) (tr_cons (tMd_no h) trivial)))) (fun _ => rfl))
  have he := h
  clear h
  have ho1 : condB (op1 op) = true := by rw [op1_eq ho]; exact cond1 ho he
  rcases Bool.eq_false_or_eq_true (nearB x) with h | h
  rotate_left
  · exact LCalls_of ctxK_ok gL5 (by kernel_rfl) (MWp.out ctxK_ok 9000 _ (x5_RNN5 s n k l f fa fb fc fd op x) (tr_cons (tLi_ok hLi) (tr_cons (tMe_ok hMe) (tr_cons (tCd_ok ho) (tr_cons (tMd_ok he) (tr_cons (tC1_ok ho hxw) (tr_cons (tNr_no h) (tr_cons (tC1_ok ho1 hxw) (tr_cons (tNr_no h) trivial)))))))) (fun _ => rfl))
  have hnr := h
  clear h
  rcases Bool.eq_false_or_eq_true (x == 0) with h | h
  · exact LCalls_of ctxK_ok gL5 (by kernel_rfl) (MWp.out ctxK_ok 9000 _ (x5_RNN8 s n k l f fa fb fc fd op x) (tr_cons (tLi_ok hLi) (tr_cons (tMe_ok hMe) (tr_cons (tCd_ok ho) (tr_cons (tMd_ok he) (tr_cons (tC1_ok ho hxw) (tr_cons (tNr_ok hnr) (tr_cons (tC1_ok ho1 hxw) (tr_cons (tNr_ok hnr) (tr_cons (tX0_no h) trivial))))))))) (fun _ => rfl))
  have hx0 := h
  clear h
  exact g5_RNN s n k l f fa fb fc fd op x hip hMe ho he hxw hnr hx0
theorem w5_RNS (s : Sv) (n k l : Nat) (f fa fb fc fd : Nat → Int) (op x : Int) (hip : B16 s.ip) (hxw : inw x = true) (hd : ∀ e, e < l → B16 (fc e) ∧ B8 (fd e)) : LCalls Try.prog 5 [svV s (sl 0 (n + 1)) nilS (sls 2 l), .int .i64 op, .int .u16 x] (mkH [some (ints .u8 f (n + 1)), some (bytes2 fa fb k), some (bytes2 fc fd l)]) (fun u _ => u = .bool true) := by
  by_cases h : n + 1 ≤ 300
  rotate_left
  · exact LCalls_of ctxK_ok gL5 (by kernel_rfl) (MWp.out ctxK_ok 9000 _ (x5_RNS0 s n k l f fa fb fc fd op x) (tr_cons (tLi_no h) trivial) (fun _ => rfl))
  have hLi := h
  clear h
  by_cases h : l ≤ 300
  rotate_left
  · exact LCalls_of ctxK_ok gL5 (by kernel_rfl) (MWp.out ctxK_ok 9000 _ (x5_RNS1 s n k l f fa fb fc fd op x) (tr_cons (tLi_ok hLi) (tr_cons (tLd_no h) trivial)) (fun _ => rfl))
  have hLd := h
  clear h
  by_cases h : n + 1 ≤ 256
  rotate_left
  · exact LCalls_of ctxK_ok gL5 (by kernel_rfl) (MWp.out ctxK_ok 9000 _ (x5_RNS2 s n k l f fa fb fc fd op x) (tr_cons (tLi_ok hLi) (tr_cons (tLd_ok hLd) (tr_cons (tMe_no h) trivial))) (fun _ => rfl))
  have hMe := h
  clear h
  rcases Bool.eq_false_or_eq_true (condB op) with h | h
  rotate_left
  · exact LCalls_of ctxK_ok gL5 (by kernel_rfl) (MWp.out ctxK_ok 9000 _ (x5_RNS3 s n k l f fa fb fc fd op x) (tr_cons (tLi_ok hLi) (tr_cons (tLd_ok hLd) (tr_cons (tMe_ok hMe) (tr_cons (tCd_no h) trivial)))) (fun _ => rfl))
  have ho := h
  clear h
  rcases Bool.eq_false_or_eq_true (op.tmod 2 == 1) with h | h
  · exact LCalls_of ctxK_ok gL5 (by kernel_rfl) (MWp.out ctxK_ok 9000 _ (x5_RNS4 s n k l f fa fb fc fd op x) (tr_cons (tLi_ok hLi) (tr_cons (tLd_ok hLd) (tr_cons (tMe_ok hMe) (tr_cons (tCd_ok ho) (tr_cons (tMd_no h) trivial))))) (fun _ => rfl))
  have he := h
  clear h
  have ho1 : condB (op1 op) = true := by rw [op1_eq ho]; exact cond1 ho he
  rcases Bool.eq_false_or_eq_true (nearB x) with h | h
  rotate_left
  · exact LCalls_of ctxK_ok gL5 (by kernel_rfl) (MWp.out ctxK_ok 9000 _ (x5_RNS6 s n k l f fa fb fc fd op x) (tr_cons (tLi_ok hLi) (tr_cons (tLd_ok hLd) (tr_cons (tMe_ok hMe) (tr_cons (tCd_ok ho) (tr_cons (tMd_ok he) (tr_cons (tC1_ok ho hxw) (tr_cons (tNr_no h) (tr_cons (tC1_ok ho1 hxw) (tr_cons (tNr_no h) trivial))))))))) (fun _ => rfl))
  have hnr := h
  clear h
  rcases Bool.eq_false_or_eq_true (x == 0) with h | h
  · exact LCalls_of ctxK_ok gL5 (by kernel_rfl) (MWp.out ctxK_ok 9000 _ (x5_RNS9 s n k l f fa fb fc fd op x) (tr_cons (tLi_ok hLi) (tr_cons (tLd_ok hLd) (tr_cons (tMe_ok hMe) (tr_cons (tCd_ok ho) (tr_cons (tMd_ok he) (tr_cons (tC1_ok ho hxw) (tr_cons (tNr_ok hnr) (tr_cons (tC1_ok ho1 hxw) (tr_cons (tNr_ok hnr) (tr_cons (tX0_no h) trivial)))))))))) (fun _ => rfl))
  have hx0 := h
  clear h
  exact g5_RNS s n k l f fa fb fc fd op x hip hMe hLd hd ho he hxw hnr hx0
theorem w5_REN (s : Sv) (n k l : Nat) (f fa fb fc fd : Nat → Int) (op x : Int) (hip : B16 s.ip) (hxw : inw x = true) : LCalls Try.prog 5 [svV s (sl 0 (n + 1)) (sls 1 0) nilS, .int .i64 op, .int .u16 x] (mkH [some (ints .u8 f (n + 1)), some (bytes2 fa fb 0), some (bytes2 fc fd l)]) (fun u _ => u = .bool true) := by
  by_cases h : n + 1 ≤ 300
  rotate_left
  · exact LCalls_of ctxK_ok gL5 (by kernel_rfl) (MWp.out ctxK_ok 9000 _ (x5_REN0 s n k l f fa fb fc fd op x) (tr_cons (tLi_no h) trivial) (fun _ => rfl))
  have hLi := h
  clear h
  by_cases h : n + 1 ≤ 256
  rotate_left
  · exact LCalls_of ctxK_ok gL5 (by kernel_rfl) (MWp.out ctxK_ok 9000 _ (x5_REN1 s n k l f fa fb fc fd op x) (tr_cons (tLi_ok hLi) (tr_cons (tMe_no h) trivial)) (fun _ => rfl))
  have hMe := h
  clear h
  rcases Bool.eq_false_or_eq_true (condB op) with h | h
  rotate_left
  · exact LCalls_of ctxK_ok gL5 (by kernel_rfl) (MWp.out ctxK_ok 9000 _ (x5_REN2 s n k l f fa fb fc fd op x) (tr_cons (tLi_ok hLi) (tr_cons (tMe_ok hMe) (tr_cons (tCd_no h) trivial))) (fun _ => rfl))
  have ho := h
  clear h
  rcases Bool.eq_false_or_eq_true (op.tmod 2 == 1) with h | h
  · exact LCalls_of ctxK_ok gL5 (by kernel_rfl) (MWp.out ctxK_ok 9000 _ (x5_REN3 s n k l f fa fb fc fd op x) (tr_cons (tLi_ok hLi) (tr_cons (tMe_ok hMe) (tr_cons (tCd_ok ho) (tr_cons (tMd_no h) trivial)))) (fun _ => rfl))
  have he := h
  clear h
  have ho1 : condB (op1 op) = true := by rw [op1_eq ho]; exact cond1 ho he
  rcases Bool.eq_false_or_eq_true (nearB x) with h | h
  rotate_left
  · exact LCalls_of ctxK_ok gL5 (by kernel_rfl) (MWp.out ctxK_ok 9000 _ (x5_REN5 s n k l f fa fb fc fd op x) (tr_cons (tLi_ok hLi) (tr_cons (tMe_ok hMe) (tr_cons (tCd_ok ho) (tr_cons (tMd_ok he) (tr_cons (tC1_ok ho hxw) (tr_cons (tNr_no h) (tr_cons (tC1_ok ho1 hxw) (tr_cons (tNr_no h) trivial)))))))) (fun _ => rfl))
  have hnr := h
  clear h
  rcases Bool.eq_false_or_eq_true (x == 0) with h | h
  · exact LCalls_of ctxK_ok gL5 (by kernel_rfl) (MWp.out ctxK_ok 9000 _ (x5_REN8 s n k l f fa fb fc fd op x) (tr_cons (tLi_ok hLi) (tr_cons (tMe_ok hMe) (tr_cons (tCd_ok ho) (tr_cons (tMd_ok he) (tr_cons (tC1_ok ho hxw) (tr_cons (tNr_ok hnr) (tr_cons (tC1_ok ho1 hxw) (tr_cons (tNr_ok hnr) (tr_cons (tX0_no h) trivial))))))))) (fun _ => rfl))
  have hx0 := h
  clear h
  exact g5_REN s n k l f fa fb fc fd op x hip hMe ho he hxw hnr hx0
theorem w5_RES (s : Sv) (n k l : Nat) (f fa fb fc fd : Nat → Int) (op x : Int) (hip : B16 s.ip) (hxw : inw x = true) (hd : ∀ e, e < l → B16 (fc e) ∧ B8 (fd e)) : LCalls Try.prog 5 [svV s (sl 0 (n + 1)) (sls 1 0) (sls 2 l), .int .i64 op, .int .u16 x] (mkH [some (ints .u8 f (n + 1)), some (bytes2 fa fb 0), some (bytes2 fc fd l)]) (fun u _ => u = .bool true) := by
  by_cases h : n + 1 ≤ 300
  rotate_left
  · exact LCalls_of ctxK_ok gL5 (by kernel_rfl) (MWp.out ctxK_ok 9000 _ (x5_RES0 s n k l f fa fb fc fd op x) (tr_cons (tLi_no h) trivial) (fun _ => rfl))
  have hLi := h
  clear h
  by_cases h : l ≤ 300
  rotate_left
  · exact LCalls_of ctxK_ok gL5 (by kernel_rfl) (MWp.out ctxK_ok 9000 _ (x5_RES1 s n k l f fa fb fc fd op x) (tr_cons (tLi_ok hLi) (tr_cons (tLd_no h) trivial)) (fun _ => rfl))
  have hLd := h
  clear h
  by_cases h : n + 1 ≤ 256
  rotate_left
  · exact LCalls_of ctxK_ok gL5 (by kernel_rfl) (MWp.out ctxK_ok 9000 _ (x5_RES2 s n k l f fa fb fc fd op x) (tr_cons (tLi_ok hLi) (tr_cons (tLd_ok hLd) (tr_cons (tMe_no h) trivial))) (fun _ => rfl))
  have hMe := h
  clear h
  rcases Bool.eq_false_or_eq_true (condB op) with h | h
  rotate_left
  · exact LCalls_of ctxK_ok gL5 (by kernel_rfl) (MWp.out ctxK_ok 9000 _ (x5_RES3 s n k l f fa fb fc fd op x) (tr_cons (tLi_ok hLi) (tr_cons (tLd_ok hLd) (tr_cons (tMe_ok hMe) (tr_cons (tCd_no h) trivial)))) (fun _ => rfl))
  have ho := h
  clear h
  rcases Bool.eq_false_or_eq_true (op.tmod 2 == 1) with h | h
  · exact LCalls_of ctxK_ok gL5 (by kernel_rfl) (MWp.out ctxK_ok 9000 _ (x5_RES4 s n k l f fa fb fc fd op x) (tr_cons (tLi_ok hLi) (tr_cons (tLd_ok hLd) (tr_cons (tMe_ok hMe) (tr_cons (tCd_ok ho) (tr_cons (tMd_no h) trivial))))) (fun _ => rfl))
  have he := h
  clear h
  have ho1 : condB (op1 op) = true := by rw [op1_eq ho]; exact cond1 ho he
  rcases Bool.eq_false_or_eq_true (nearB x) with h | h
  rotate_left
  · exact LCalls_of ctxK_ok gL5 (by kernel_rfl) (MWp.out ctxK_ok 9000 _ (x5_RES6 s n k l f fa fb fc fd op x) (tr_cons (tLi_ok hLi) (tr_cons (tLd_ok hLd) (tr_cons (tMe_ok hMe) (tr_cons (tCd_ok ho) (tr_cons (tMd_ok he) (tr_cons (tC1_ok ho hxw) (tr_cons (tNr_no h) (tr_cons (tC1_ok ho1 hxw) (tr_cons (tNr_no h) trivial))))))))) (fun _ => rfl))
  have hnr := h
  clear h
  rcases Bool.eq_false_or_eq_true (x == 0) with h | h
  · exact LCalls_of ctxK_ok gL5 (by kernel_rfl) (MWp.out ctxK_ok 9000 _ (x5_RES9 s n k l f fa fb fc fd op x) (tr_cons (tLi_ok hLi) (tr_cons (tLd_ok hLd) (tr_cons (tMe_ok hMe) (tr_cons (tCd_ok ho) (tr_cons (tMd_ok he) (tr_cons (tC1_ok ho hxw) (tr_cons (tNr_ok hnr) (tr_cons (tC1_ok ho1 hxw) (tr_cons (tNr_ok hnr) (tr_cons (tX0_no h) trivial)))))))))) (fun _ => rfl))
  have hx0 := h
  clear h
  exact g5_RES s n k l f fa fb fc fd op x hip hMe hLd hd ho he hxw hnr hx0
theorem w5_RRN (s : Sv) (n k l : Nat) (f fa fb fc fd : Nat → Int) (op x : Int) (hip : B16 s.ip) (hxw : inw x = true) (hb : ∀ e, e < k + 1 → B16 (fa e) ∧ B8 (fb e)) : LCalls Try.prog 5 [svV s (sl 0 (n + 1)) (sls 1 (k + 1)) nilS, .int .i64 op, .int .u16 x] (mkH [some (ints .u8 f (n + 1)), some (bytes2 fa fb (k + 1)), some (bytes2 fc fd l)]) (fun u _ => u = .bool true) := by
  by_cases h : n + 1 ≤ 300
  rotate_left
  · exact LCalls_of ctxK_ok gL5 (by kernel_rfl) (MWp.out ctxK_ok 9000 _ (x5_RRN0 s n k l f fa fb fc fd op x) (tr_cons (tLi_no h) trivial) (fun _ => rfl))
  have hLi := h
  clear h
  by_cases h : k + 1 ≤ 600
  rotate_left
  · exact LCalls_of ctxK_ok gL5 (by kernel_rfl) (MWp.out ctxK_ok 9000 _ (x5_RRN1 s n k l f fa fb fc fd op x) (tr_cons (tLi_ok hLi) (tr_cons (tLc_no h) trivial)) (fun _ => rfl))
  have hLc := h
  clear h
  by_cases h : n + 1 ≤ 256
  rotate_left
  · exact LCalls_of ctxK_ok gL5 (by kernel_rfl) (MWp.out ctxK_ok 9000 _ (x5_RRN2 s n k l f fa fb fc fd op x) (tr_cons (tLi_ok hLi) (tr_cons (tLc_ok hLc) (tr_cons (tMe_no h) trivial))) (fun _ => rfl))
  have hMe := h
  clear h
  rcases Bool.eq_false_or_eq_true (condB op) with h | h
  rotate_left
  · exact LCalls_of ctxK_ok gL5 (by kernel_rfl) (MWp.out ctxK_ok 9000 _ (x5_RRN3 s n k l f fa fb fc fd op x) (tr_cons (tLi_ok hLi) (tr_cons (tLc_ok hLc) (tr_cons (tMe_ok hMe) (tr_cons (tCd_no h) trivial)))) (fun _ => rfl))
  have ho := h
  clear h
  rcases Bool.eq_false_or_eq_true (op.tmod 2 == 1) with h | h
  · exact LCalls_of ctxK_ok gL5 (by kernel_rfl) (MWp.out ctxK_ok 9000 _ (x5_RRN4 s n k l f fa fb fc fd op x) (tr_cons (tLi_ok hLi) (tr_cons (tLc_ok hLc) (tr_cons (tMe_ok hMe) (tr_cons (tCd_ok ho) (tr_cons (tMd_no h) trivial))))) (fun _ => rfl))
  have he := h
  clear h
  have ho1 : condB (op1 op) = true := by rw [op1_eq ho]; exact cond1 ho he
  rcases Bool.eq_false_or_eq_true (nearB x) with h | h
  rotate_left
  · exact LCalls_of ctxK_ok gL5 (by kernel_rfl) (MWp.out ctxK_ok 9000 _ (x5_RRN6 s n k l f fa fb fc fd op x) (tr_cons (tLi_ok hLi) (tr_cons (tLc_ok hLc) (tr_cons (tMe_ok hMe) (tr_cons (tCd_ok ho) (tr_cons (tMd_ok he) (tr_cons (tC1_ok ho hxw) (tr_cons (tNr_no h) (tr_cons (tC1_ok ho1 hxw) (tr_cons (tNr_no h) trivial))))))))) (fun _ => rfl))
  have hnr := h
  clear h
  rcases Bool.eq_false_or_eq_true (x == 0) with h | h
  · exact LCalls_of ctxK_ok gL5 (by kernel_rfl) (MWp.out ctxK_ok 9000 _ (x5_RRN9 s n k l f fa fb fc fd op x) (tr_cons (tLi_ok hLi) (tr_cons (tLc_ok hLc) (tr_cons (tMe_ok hMe) (tr_cons (tCd_ok ho) (tr_cons (tMd_ok he) (tr_cons (tC1_ok ho hxw) (tr_cons (tNr_ok hnr) (tr_cons (tC1_ok ho1 hxw) (tr_cons (tNr_ok hnr) (tr_cons (tX0_no h) trivial)))))))))) (fun _ => rfl))
  have hx0 := h
  clear h
  exact g5_RRN s n k l f fa fb fc fd op x hip hMe hLc hb ho he hxw hnr hx0
theorem w5_RRS (s : Sv) (n k l : Nat) (f fa fb fc fd : Nat → Int) (op x : Int) (hip : B16 s.ip) (hxw : inw x = true) (hb : ∀ e, e < k + 1 → B16 (fa e) ∧ B8 (fb e)) (hd : ∀ e, e < l → B16 (fc e) ∧ B8 (fd e)) : LCalls Try.prog 5 [svV s (sl 0 (n + 1)) (sls 1 (k + 1)) (sls 2 l), .int .i64 op, .int .u16 x] (mkH [some (ints .u8 f (n + 1)), some (bytes2 fa fb (k + 1)), some (bytes2 fc fd l)]) (fun u _ => u = .bool true) := by
  by_cases h : n + 1 ≤ 300
  rotate_left
  · exact LCalls_of ctxK_ok gL5 (by kernel_rfl) (MWp.out ctxK_ok 9000 _ (x5_RRS0 s n k l f fa fb fc fd op x) (tr_cons (tLi_no h) trivial) (fun _ => rfl))
  have hLi := h
  clear h
  by_cases h : k + 1 ≤ 600
  rotate_left
  · exact LCalls_of ctxK_ok gL5 (by kernel_rfl) (MWp.out ctxK_ok 9000 _ (x5_RRS1 s n k l f fa fb fc fd op x) (tr_cons (tLi_ok hLi) (tr_cons (tLc_no h) trivial)) (fun _ => rfl))
  have hLc := h
  clear h
  by_cases h : l ≤ 300
  rotate_left
  · exact LCalls_of ctxK_ok gL5 (by kernel_rfl) (MWp.out ctxK_ok 9000 _ (x5_RRS2 s n k l f fa fb fc fd op x) (tr_cons (tLi_ok hLi) (tr_cons (tLc_ok hLc) (tr_cons (tLd_no h) trivial))) (fun _ => rfl))
  have hLd := h
  clear h
  by_cases h : n + 1 ≤ 256
  rotate_left
  · exact LCalls_of ctxK_ok gL5 (by kernel_rfl) (MWp.out ctxK_ok 9000 _ (x5_RRS3 s n k l f fa fb fc fd op x) (tr_cons (tLi_ok hLi) (tr_cons (tLc_ok hLc) (tr_cons (tLd_ok hLd) (tr_cons (tMe_no h) trivial)))) (fun _ => rfl))
  have hMe := h
  clear h
  rcases Bool.eq_false_or_eq_true (condB op) with h | h
  rotate_left
  · exact LCalls_of ctxK_ok gL5 (by kernel_rfl) (MWp.out ctxK_ok 9000 _ (x5_RRS4 s n k l f fa fb fc fd op x) (tr_cons (tLi_ok hLi) (tr_cons (tLc_ok hLc) (tr_cons (tLd_ok hLd) (tr_cons (tMe_ok hMe) (tr_cons (tCd_no h) trivial))))) (fun _ => rfl))
  have ho := h
  clear h
  rcases Bool.eq_false_or_eq_true (op.tmod 2 == 1) with h | h
  · exact LCalls_of ctxK_ok gL5 (by kernel_rfl) (MWp.out ctxK_ok 9000 _ (x5_RRS5 s n k l f fa fb fc fd op x) (tr_cons (tLi_ok hLi) (tr_cons (tLc_ok hLc) (tr_cons (tLd_ok hLd) (tr_cons (tMe_ok hMe) (tr_cons (tCd_ok ho) (tr_cons (tMd_no h) trivial)))))) (fun _ => rfl))
  have he := h
  clear h
  have ho1 : condB (op1 op) = true := by rw [op1_eq ho]; exact cond1 ho he
  rcases Bool.eq_false_or_eq_true (nearB x) with h | h
  rotate_left
  · exact LCalls_of ctxK_ok gL5 (by kernel_rfl) (MWp.out ctxK_ok 9000 _ (x5_RRS7 s n k l f fa fb fc fd op x) (tr_cons (tLi_ok hLi) (tr_cons (tLc_ok hLc) (tr_cons (tLd_ok hLd) (tr_cons (tMe_ok hMe) (tr_cons (tCd_ok ho) (tr_cons (tMd_ok he) (tr_cons (tC1_ok ho hxw) (tr_cons (tNr_no h) (tr_cons (tC1_ok ho1 hxw) (tr_cons (tNr_no h) trivial)))))))))) (fun _ => rfl))
  have hnr := h
  clear h
  rcases Bool.eq_false_or_eq_true (x == 0) with h | h
  · exact LCalls_of ctxK_ok gL5 (by kernel_rfl) (MWp.out ctxK_ok 9000 _ (x5_RRS10 s n k l f fa fb fc fd op x) (tr_cons (tLi_ok hLi) (tr_cons (tLc_ok hLc) (tr_cons (tLd_ok hLd) (tr_cons (tMe_ok hMe) (tr_cons (tCd_ok ho) (tr_cons (tMd_ok he) (tr_cons (tC1_ok ho hxw) (tr_cons (tNr_ok hnr) (tr_cons (tC1_ok ho1 hxw) (tr_cons (tNr_ok hnr) (tr_cons (tX0_no h) trivial))))))))))) (fun _ => rfl))
  have hx0 := h
  clear h
  exact g5_RRS s n k l f fa fb fc fd op x hip hMe hLc hb hLd hd ho he hxw hnr hx0
theorem jumps_walk (W : World) (v0 v1 v2 : Value) (h0 : ∃ cs, v0 = .agg ⟨cs⟩ ∧ CksOk W [.int .u16, .int .u16, .int .u16, .int .u16, .int .u16, .int .u16, .int .u16, .int .u16, .bool, .bool, .bool, .bool, .bool, .int .u16, .bool, .slice [.int .u8], .slice [.int .u16, .int .u8], .slice [.int .u16, .int .u8]] cs) (h1 : CkOk W (.int .i64) v1) (h2 : CkOk W (.int .u16) v2) :
    Calls Try.prog 5 #[v0, v1, v2] W fun e W' => e = .returned (.bool true) ∧ Below W.heap.size W W' := by
  simp only [CkOk] at h1 h2
  obtain ⟨op, rfl, hop⟩ := h1
  obtain ⟨x, rfl, hx⟩ := h2
  have hxw : inw x = true := (inw_iff x).2 (bounds_u16 hx)
  refine start_law h0 (rest := [.int .i64 op, .int .u16 x]) (by simp [plain, plainL]) ?_ ?_ ?_ ?_ ?_ ?_ ?_ ?_ ?_ ?_ ?_ ?_ ?_ ?_ ?_ ?_ ?_ ?_
  · intro s n k l f fa fb fc fd hs
    exact w5_NNN s n k l f fa fb fc fd op x hs.2 hxw
  · intro s n k l f fa fb fc fd hs hd
    exact w5_NNS s n k l f fa fb fc fd op x hs.2 hxw hd
  · intro s n k l f fa fb fc fd hs
    exact w5_NEN s n k l f fa fb fc fd op x hs.2 hxw
  · intro s n k l f fa fb fc fd hs hd
    exact w5_NES s n k l f fa fb fc fd op x hs.2 hxw hd
  · intro s n k l f fa fb fc fd hs hb
    exact w5_NRN s n k l f fa fb fc fd op x hs.2 hxw hb
  · intro s n k l f fa fb fc fd hs hb hd
    exact w5_NRS s n k l f fa fb fc fd op x hs.2 hxw hb hd
  · intro s n k l f fa fb fc fd hs
    exact w5_ENN s n k l f fa fb fc fd op x hs.2 hxw
  · intro s n k l f fa fb fc fd hs hd
    exact w5_ENS s n k l f fa fb fc fd op x hs.2 hxw hd
  · intro s n k l f fa fb fc fd hs
    exact w5_EEN s n k l f fa fb fc fd op x hs.2 hxw
  · intro s n k l f fa fb fc fd hs hd
    exact w5_EES s n k l f fa fb fc fd op x hs.2 hxw hd
  · intro s n k l f fa fb fc fd hs hb
    exact w5_ERN s n k l f fa fb fc fd op x hs.2 hxw hb
  · intro s n k l f fa fb fc fd hs hb hd
    exact w5_ERS s n k l f fa fb fc fd op x hs.2 hxw hb hd
  · intro s n k l f fa fb fc fd hs hf
    exact w5_RNN s n k l f fa fb fc fd op x hs.2 hxw
  · intro s n k l f fa fb fc fd hs hf hd
    exact w5_RNS s n k l f fa fb fc fd op x hs.2 hxw hd
  · intro s n k l f fa fb fc fd hs hf
    exact w5_REN s n k l f fa fb fc fd op x hs.2 hxw
  · intro s n k l f fa fb fc fd hs hf hd
    exact w5_RES s n k l f fa fb fc fd op x hs.2 hxw hd
  · intro s n k l f fa fb fc fd hs hf hb
    exact w5_RRN s n k l f fa fb fc fd op x hs.2 hxw hb
  · intro s n k l f fa fb fc fd hs hf hb hd
    exact w5_RRS s n k l f fa fb fc fd op x hs.2 hxw hb hd
end Go.Proofs.Ytnknopebjdgdjaa
end
