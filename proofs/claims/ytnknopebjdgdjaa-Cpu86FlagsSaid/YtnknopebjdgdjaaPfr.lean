/- Part 18 of the texts that the law needs, laid together. By program (pack.py). -/
import Derived.Test.YtnknopebjdgdjaaPfj
import Derived.Test.YtnknopebjdgdjaaPfk
import Derived.Test.YtnknopebjdgdjaaPfo
import Derived.Test.YtnknopebjdgdjaaPfp
import Derived.Test.YtnknopebjdgdjaaPfq
import Derived.KernelRfl
set_option linter.unusedVariables false
set_option linter.unusedSimpArgs false
noncomputable section
namespace Go.Proofs.Ytnknopebjdgdjaa
open Go Go.Ly Go.RowKit
section
variable {m : Mc} {g h : Nat → Int} {op n sz : Int}
def AllP (P : Int → Int → Prop) : List (Nat × Nat) → Prop
  | [] => True
  | q :: l => P (q.1 : Int) (q.2 : Int) ∧ AllP P l
theorem AllP.of {P : Int → Int → Prop} : ∀ {l : List (Nat × Nat)}, AllP P l → ∀ {d s : Nat}, (l.any fun q => Nat.beq q.1 d && Nat.beq q.2 s) = true → P (d : Int) (s : Int)
  | [], _, d, s, h => by cases h
  | q :: l, ha, d, s, h => by
    rw [List.any_cons, Bool.or_eq_true] at h
    rcases h with h | h
    · rw [Bool.and_eq_true] at h
      have e1 := Nat.eq_of_beq_eq_true h.1
      have e2 := Nat.eq_of_beq_eq_true h.2
      rw [← e1, ← e2]; exact ha.1
    · exact AllP.of ha.2 h
def inL2 (l : List (Nat × Nat)) (d s : Nat) : Bool := l.any fun q => Nat.beq q.1 d && Nat.beq q.2 s
def sumP : List (Nat × Nat) := [(1, 1), (1, 2), (1, 3), (1, 4), (1, 6), (1, 7), (1, 8), (2, 1), (2, 2), (2, 3), (2, 4), (2, 6), (2, 7), (2, 8), (3, 1), (3, 2), (3, 3), (3, 4), (3, 6), (3, 7), (3, 8), (4, 1), (4, 2), (4, 3), (4, 4), (4, 6), (4, 7), (4, 8), (6, 1), (6, 2), (6, 3), (6, 4), (6, 6), (6, 7), (6, 8), (7, 1), (7, 2), (7, 3), (7, 4), (7, 6), (7, 7), (7, 8), (8, 1), (8, 2), (8, 3), (8, 4), (8, 6), (8, 7), (8, 8), (10, 10), (10, 11), (10, 12), (10, 13), (10, 14), (10, 15), (10, 16), (11, 10), (11, 11), (11, 12), (11, 13), (11, 14), (11, 15), (11, 16), (12, 10), (12, 11), (12, 12), (12, 13), (12, 14), (12, 15), (12, 16), (13, 10), (13, 11), (13, 12), (13, 13), (13, 14), (13, 15), (13, 16), (14, 10), (14, 11), (14, 12), (14, 13), (14, 14), (14, 15), (14, 16), (15, 10), (15, 11), (15, 12), (15, 13), (15, 14), (15, 15), (15, 16), (16, 10), (16, 11), (16, 12), (16, 13), (16, 14), (16, 15), (16, 16), (1, 17), (2, 17), (3, 17), (4, 17), (6, 17), (7, 17), (8, 17), (1, 20), (2, 20), (3, 20), (4, 20), (6, 20), (7, 20), (8, 20)]
theorem sumP_all (hr : Rw16 m) (hn : B16 n) (h2 : 2 ≤ op) (h9 : op ≤ 9) : AllP (fun d s => DoF m g h op d s n sz) sumP := ⟨dsm1_1 hr hn h2 h9, dsm1_2 hr hn h2 h9, dsm1_3 hr hn h2 h9, dsm1_4 hr hn h2 h9, dsm1_6 hr hn h2 h9, dsm1_7 hr hn h2 h9, dsm1_8 hr hn h2 h9, dsm2_1 hr hn h2 h9, dsm2_2 hr hn h2 h9, dsm2_3 hr hn h2 h9, dsm2_4 hr hn h2 h9, dsm2_6 hr hn h2 h9, dsm2_7 hr hn h2 h9, dsm2_8 hr hn h2 h9, dsm3_1 hr hn h2 h9, dsm3_2 hr hn h2 h9, dsm3_3 hr hn h2 h9, dsm3_4 hr hn h2 h9, dsm3_6 hr hn h2 h9, dsm3_7 hr hn h2 h9, dsm3_8 hr hn h2 h9, dsm4_1 hr hn h2 h9, dsm4_2 hr hn h2 h9, dsm4_3 hr hn h2 h9, dsm4_4 hr hn h2 h9, dsm4_6 hr hn h2 h9, dsm4_7 hr hn h2 h9, dsm4_8 hr hn h2 h9, dsm6_1 hr hn h2 h9, dsm6_2 hr hn h2 h9, dsm6_3 hr hn h2 h9, dsm6_4 hr hn h2 h9, dsm6_6 hr hn h2 h9, dsm6_7 hr hn h2 h9, dsm6_8 hr hn h2 h9, dsm7_1 hr hn h2 h9, dsm7_2 hr hn h2 h9, dsm7_3 hr hn h2 h9, dsm7_4 hr hn h2 h9, dsm7_6 hr hn h2 h9, dsm7_7 hr hn h2 h9, dsm7_8 hr hn h2 h9, dsm8_1 hr hn h2 h9, dsm8_2 hr hn h2 h9, dsm8_3 hr hn h2 h9, dsm8_4 hr hn h2 h9, dsm8_6 hr hn h2 h9, dsm8_7 hr hn h2 h9, dsm8_8 hr hn h2 h9, dsm10_10 hr hn h2 h9, dsm10_11 hr hn h2 h9, dsm10_12 hr hn h2 h9, dsm10_13 hr hn h2 h9, dsm10_14 hr hn h2 h9, dsm10_15 hr hn h2 h9, dsm10_16 hr hn h2 h9, dsm11_10 hr hn h2 h9, dsm11_11 hr hn h2 h9, dsm11_12 hr hn h2 h9, dsm11_13 hr hn h2 h9, dsm11_14 hr hn h2 h9, dsm11_15 hr hn h2 h9, dsm11_16 hr hn h2 h9, dsm12_10 hr hn h2 h9, dsm12_11 hr hn h2 h9, dsm12_12 hr hn h2 h9, dsm12_13 hr hn h2 h9, dsm12_14 hr hn h2 h9, dsm12_15 hr hn h2 h9, dsm12_16 hr hn h2 h9, dsm13_10 hr hn h2 h9, dsm13_11 hr hn h2 h9, dsm13_12 hr hn h2 h9, dsm13_13 hr hn h2 h9, dsm13_14 hr hn h2 h9, dsm13_15 hr hn h2 h9, dsm13_16 hr hn h2 h9, dsm14_10 hr hn h2 h9, dsm14_11 hr hn h2 h9, dsm14_12 hr hn h2 h9, dsm14_13 hr hn h2 h9, dsm14_14 hr hn h2 h9, dsm14_15 hr hn h2 h9, dsm14_16 hr hn h2 h9, dsm15_10 hr hn h2 h9, dsm15_11 hr hn h2 h9, dsm15_12 hr hn h2 h9, dsm15_13 hr hn h2 h9, dsm15_14 hr hn h2 h9, dsm15_15 hr hn h2 h9, dsm15_16 hr hn h2 h9, dsm16_10 hr hn h2 h9, dsm16_11 hr hn h2 h9, dsm16_12 hr hn h2 h9, dsm16_13 hr hn h2 h9, dsm16_14 hr hn h2 h9, dsm16_15 hr hn h2 h9, dsm16_16 hr hn h2 h9, dsm1_17 hr hn h2 h9, dsm2_17 hr hn h2 h9, dsm3_17 hr hn h2 h9, dsm4_17 hr hn h2 h9, dsm6_17 hr hn h2 h9, dsm7_17 hr hn h2 h9, dsm8_17 hr hn h2 h9, dsm1_20 hr hn h2 h9, dsm2_20 hr hn h2 h9, dsm3_20 hr hn h2 h9, dsm4_20 hr hn h2 h9, dsm6_20 hr hn h2 h9, dsm7_20 hr hn h2 h9, dsm8_20 hr hn h2 h9, trivial⟩
def mvP : List (Nat × Nat) := [(1, 1), (1, 2), (1, 3), (1, 4), (1, 6), (1, 7), (1, 8), (1, 20), (1, 17), (17, 1), (2, 1), (2, 2), (2, 3), (2, 4), (2, 6), (2, 7), (2, 8), (2, 20), (2, 17), (17, 2), (3, 1), (3, 2), (3, 3), (3, 4), (3, 6), (3, 7), (3, 8), (3, 20), (3, 17), (17, 3), (4, 1), (4, 2), (4, 3), (4, 4), (4, 6), (4, 7), (4, 8), (4, 20), (4, 17), (17, 4), (6, 1), (6, 2), (6, 3), (6, 4), (6, 6), (6, 7), (6, 8), (6, 20), (6, 17), (17, 6), (7, 1), (7, 2), (7, 3), (7, 4), (7, 6), (7, 7), (7, 8), (7, 20), (7, 17), (17, 7), (8, 1), (8, 2), (8, 3), (8, 4), (8, 6), (8, 7), (8, 8), (8, 20), (8, 17), (17, 8), (1, 18), (1, 19), (18, 1), (19, 1), (17, 20), (10, 10), (10, 11), (10, 12), (10, 13), (10, 14), (10, 15), (10, 16), (10, 20), (10, 19), (19, 10), (11, 10), (11, 11), (11, 12), (11, 13), (11, 14), (11, 15), (11, 16), (11, 20), (11, 19), (19, 11), (12, 10), (12, 11), (12, 12), (12, 13), (12, 14), (12, 15), (12, 16), (12, 20), (12, 19), (19, 12), (13, 10), (13, 11), (13, 12), (13, 13), (13, 14), (13, 15), (13, 16), (13, 20), (13, 19), (19, 13), (14, 10), (14, 11), (14, 12), (14, 13), (14, 14), (14, 15), (14, 16), (14, 20), (14, 19), (19, 14), (15, 10), (15, 11), (15, 12), (15, 13), (15, 14), (15, 15), (15, 16), (15, 20), (15, 19), (19, 15), (16, 10), (16, 11), (16, 12), (16, 13), (16, 14), (16, 15), (16, 16), (16, 20), (16, 19), (19, 16)]
theorem mvP_all (hr : Rw16 m) (hn : B16 n) : AllP (fun d s => DoF m g h 1 d s n sz) mvP := ⟨dmv1_1 hr hn, dmv1_2 hr hn, dmv1_3 hr hn, dmv1_4 hr hn, dmv1_6 hr hn, dmv1_7 hr hn, dmv1_8 hr hn, dmv1_20 hr hn, dmv1_17 hr hn, dmv17_1 hr hn, dmv2_1 hr hn, dmv2_2 hr hn, dmv2_3 hr hn, dmv2_4 hr hn, dmv2_6 hr hn, dmv2_7 hr hn, dmv2_8 hr hn, dmv2_20 hr hn, dmv2_17 hr hn, dmv17_2 hr hn, dmv3_1 hr hn, dmv3_2 hr hn, dmv3_3 hr hn, dmv3_4 hr hn, dmv3_6 hr hn, dmv3_7 hr hn, dmv3_8 hr hn, dmv3_20 hr hn, dmv3_17 hr hn, dmv17_3 hr hn, dmv4_1 hr hn, dmv4_2 hr hn, dmv4_3 hr hn, dmv4_4 hr hn, dmv4_6 hr hn, dmv4_7 hr hn, dmv4_8 hr hn, dmv4_20 hr hn, dmv4_17 hr hn, dmv17_4 hr hn, dmv6_1 hr hn, dmv6_2 hr hn, dmv6_3 hr hn, dmv6_4 hr hn, dmv6_6 hr hn, dmv6_7 hr hn, dmv6_8 hr hn, dmv6_20 hr hn, dmv6_17 hr hn, dmv17_6 hr hn, dmv7_1 hr hn, dmv7_2 hr hn, dmv7_3 hr hn, dmv7_4 hr hn, dmv7_6 hr hn, dmv7_7 hr hn, dmv7_8 hr hn, dmv7_20 hr hn, dmv7_17 hr hn, dmv17_7 hr hn, dmv8_1 hr hn, dmv8_2 hr hn, dmv8_3 hr hn, dmv8_4 hr hn, dmv8_6 hr hn, dmv8_7 hr hn, dmv8_8 hr hn, dmv8_20 hr hn, dmv8_17 hr hn, dmv17_8 hr hn, dmv1_18 hr hn, dmv1_19 hr hn, dmv18_1 hr hn, dmv19_1 hr hn, dmv17_20 hr hn, dmv10_10 hr hn, dmv10_11 hr hn, dmv10_12 hr hn, dmv10_13 hr hn, dmv10_14 hr hn, dmv10_15 hr hn, dmv10_16 hr hn, dmv10_20 hr hn, dmv10_19 hr hn, dmv19_10 hr hn, dmv11_10 hr hn, dmv11_11 hr hn, dmv11_12 hr hn, dmv11_13 hr hn, dmv11_14 hr hn, dmv11_15 hr hn, dmv11_16 hr hn, dmv11_20 hr hn, dmv11_19 hr hn, dmv19_11 hr hn, dmv12_10 hr hn, dmv12_11 hr hn, dmv12_12 hr hn, dmv12_13 hr hn, dmv12_14 hr hn, dmv12_15 hr hn, dmv12_16 hr hn, dmv12_20 hr hn, dmv12_19 hr hn, dmv19_12 hr hn, dmv13_10 hr hn, dmv13_11 hr hn, dmv13_12 hr hn, dmv13_13 hr hn, dmv13_14 hr hn, dmv13_15 hr hn, dmv13_16 hr hn, dmv13_20 hr hn, dmv13_19 hr hn, dmv19_13 hr hn, dmv14_10 hr hn, dmv14_11 hr hn, dmv14_12 hr hn, dmv14_13 hr hn, dmv14_14 hr hn, dmv14_15 hr hn, dmv14_16 hr hn, dmv14_20 hr hn, dmv14_19 hr hn, dmv19_14 hr hn, dmv15_10 hr hn, dmv15_11 hr hn, dmv15_12 hr hn, dmv15_13 hr hn, dmv15_14 hr hn, dmv15_15 hr hn, dmv15_16 hr hn, dmv15_20 hr hn, dmv15_19 hr hn, dmv19_15 hr hn, dmv16_10 hr hn, dmv16_11 hr hn, dmv16_12 hr hn, dmv16_13 hr hn, dmv16_14 hr hn, dmv16_15 hr hn, dmv16_16 hr hn, dmv16_20 hr hn, dmv16_19 hr hn, dmv19_16 hr hn, trivial⟩
def inP : List (Nat × Nat) := [(1, 0), (2, 0), (3, 0), (4, 0), (6, 0), (7, 0), (8, 0), (10, 0), (11, 0), (12, 0), (13, 0), (14, 0), (15, 0), (16, 0), (17, 0)]
theorem inP_all (hr : Rw16 m) (hn : B16 n) (h2 : 10 ≤ op) (h9 : op ≤ 11) : AllP (fun d s => DoF m g h op d s n sz) inP := ⟨din1 hr hn h2 h9, din2 hr hn h2 h9, din3 hr hn h2 h9, din4 hr hn h2 h9, din6 hr hn h2 h9, din7 hr hn h2 h9, din8 hr hn h2 h9, din10 hr hn h2 h9, din11 hr hn h2 h9, din12 hr hn h2 h9, din13 hr hn h2 h9, din14 hr hn h2 h9, din15 hr hn h2 h9, din16 hr hn h2 h9, din17 hr hn h2 h9, trivial⟩
def tu12P : List (Nat × Nat) := [(1, 0), (2, 0), (3, 0), (4, 0), (6, 0), (7, 0), (8, 0), (10, 0), (11, 0), (12, 0), (13, 0), (14, 0), (15, 0), (16, 0)]
theorem tu12P_all (hr : Rw16 m) (hn : B16 n) : AllP (fun d s => DoF m g h 12 d s n sz) tu12P := ⟨dtu12_1 hr hn, dtu12_2 hr hn, dtu12_3 hr hn, dtu12_4 hr hn, dtu12_6 hr hn, dtu12_7 hr hn, dtu12_8 hr hn, dtu12_10 hr hn, dtu12_11 hr hn, dtu12_12 hr hn, dtu12_13 hr hn, dtu12_14 hr hn, dtu12_15 hr hn, dtu12_16 hr hn, trivial⟩
def tu13P : List (Nat × Nat) := [(1, 0), (2, 0), (3, 0), (4, 0), (6, 0), (7, 0), (8, 0), (10, 0), (11, 0), (12, 0), (13, 0), (14, 0), (15, 0), (16, 0)]
theorem tu13P_all (hr : Rw16 m) (hn : B16 n) : AllP (fun d s => DoF m g h 13 d s n sz) tu13P := ⟨dtu13_1 hr hn, dtu13_2 hr hn, dtu13_3 hr hn, dtu13_4 hr hn, dtu13_6 hr hn, dtu13_7 hr hn, dtu13_8 hr hn, dtu13_10 hr hn, dtu13_11 hr hn, dtu13_12 hr hn, dtu13_13 hr hn, dtu13_14 hr hn, dtu13_15 hr hn, dtu13_16 hr hn, trivial⟩
def tu14P : List (Nat × Nat) := [(1, 0), (2, 0), (3, 0), (4, 0), (6, 0), (7, 0), (8, 0), (10, 0), (11, 0), (12, 0), (13, 0), (14, 0), (15, 0), (16, 0)]
theorem tu14P_all (hr : Rw16 m) (hn : B16 n) : AllP (fun d s => DoF m g h 14 d s n sz) tu14P := ⟨dtu14_1 hr hn, dtu14_2 hr hn, dtu14_3 hr hn, dtu14_4 hr hn, dtu14_6 hr hn, dtu14_7 hr hn, dtu14_8 hr hn, dtu14_10 hr hn, dtu14_11 hr hn, dtu14_12 hr hn, dtu14_13 hr hn, dtu14_14 hr hn, dtu14_15 hr hn, dtu14_16 hr hn, trivial⟩
def tu15P : List (Nat × Nat) := [(1, 0), (2, 0), (3, 0), (4, 0), (6, 0), (7, 0), (8, 0), (10, 0), (11, 0), (12, 0), (13, 0), (14, 0), (15, 0), (16, 0)]
theorem tu15P_all (hr : Rw16 m) (hn : B16 n) : AllP (fun d s => DoF m g h 15 d s n sz) tu15P := ⟨dtu15_1 hr hn, dtu15_2 hr hn, dtu15_3 hr hn, dtu15_4 hr hn, dtu15_6 hr hn, dtu15_7 hr hn, dtu15_8 hr hn, dtu15_10 hr hn, dtu15_11 hr hn, dtu15_12 hr hn, dtu15_13 hr hn, dtu15_14 hr hn, dtu15_15 hr hn, dtu15_16 hr hn, trivial⟩
def ntP : List (Nat × Nat) := [(1, 0), (2, 0), (3, 0), (4, 0), (6, 0), (7, 0), (8, 0)]
theorem ntP_all (hr : Rw16 m) (hn : B16 n) : AllP (fun d s => DoF m g h 16 d s n sz) ntP := ⟨dnt1 hr hn, dnt2 hr hn, dnt3 hr hn, dnt4 hr hn, dnt6 hr hn, dnt7 hr hn, dnt8 hr hn, trivial⟩
def xcP : List (Nat × Nat) := [(1, 1), (1, 2), (1, 3), (1, 4), (1, 6), (1, 7), (1, 8), (2, 1), (2, 2), (2, 3), (2, 4), (2, 6), (2, 7), (2, 8), (3, 1), (3, 2), (3, 3), (3, 4), (3, 6), (3, 7), (3, 8), (4, 1), (4, 2), (4, 3), (4, 4), (4, 6), (4, 7), (4, 8), (6, 1), (6, 2), (6, 3), (6, 4), (6, 6), (6, 7), (6, 8), (7, 1), (7, 2), (7, 3), (7, 4), (7, 6), (7, 7), (7, 8), (8, 1), (8, 2), (8, 3), (8, 4), (8, 6), (8, 7), (8, 8), (10, 10), (10, 11), (10, 12), (10, 13), (10, 14), (10, 15), (10, 16), (11, 10), (11, 11), (11, 12), (11, 13), (11, 14), (11, 15), (11, 16), (12, 10), (12, 11), (12, 12), (12, 13), (12, 14), (12, 15), (12, 16), (13, 10), (13, 11), (13, 12), (13, 13), (13, 14), (13, 15), (13, 16), (14, 10), (14, 11), (14, 12), (14, 13), (14, 14), (14, 15), (14, 16), (15, 10), (15, 11), (15, 12), (15, 13), (15, 14), (15, 15), (15, 16), (16, 10), (16, 11), (16, 12), (16, 13), (16, 14), (16, 15), (16, 16)]
theorem xcP_all (hr : Rw16 m) (hn : B16 n) : AllP (fun d s => DoF m g h 17 d s n sz) xcP := ⟨dxc1_1 hr hn, dxc1_2 hr hn, dxc1_3 hr hn, dxc1_4 hr hn, dxc1_6 hr hn, dxc1_7 hr hn, dxc1_8 hr hn, dxc2_1 hr hn, dxc2_2 hr hn, dxc2_3 hr hn, dxc2_4 hr hn, dxc2_6 hr hn, dxc2_7 hr hn, dxc2_8 hr hn, dxc3_1 hr hn, dxc3_2 hr hn, dxc3_3 hr hn, dxc3_4 hr hn, dxc3_6 hr hn, dxc3_7 hr hn, dxc3_8 hr hn, dxc4_1 hr hn, dxc4_2 hr hn, dxc4_3 hr hn, dxc4_4 hr hn, dxc4_6 hr hn, dxc4_7 hr hn, dxc4_8 hr hn, dxc6_1 hr hn, dxc6_2 hr hn, dxc6_3 hr hn, dxc6_4 hr hn, dxc6_6 hr hn, dxc6_7 hr hn, dxc6_8 hr hn, dxc7_1 hr hn, dxc7_2 hr hn, dxc7_3 hr hn, dxc7_4 hr hn, dxc7_6 hr hn, dxc7_7 hr hn, dxc7_8 hr hn, dxc8_1 hr hn, dxc8_2 hr hn, dxc8_3 hr hn, dxc8_4 hr hn, dxc8_6 hr hn, dxc8_7 hr hn, dxc8_8 hr hn, dxc10_10 hr hn, dxc10_11 hr hn, dxc10_12 hr hn, dxc10_13 hr hn, dxc10_14 hr hn, dxc10_15 hr hn, dxc10_16 hr hn, dxc11_10 hr hn, dxc11_11 hr hn, dxc11_12 hr hn, dxc11_13 hr hn, dxc11_14 hr hn, dxc11_15 hr hn, dxc11_16 hr hn, dxc12_10 hr hn, dxc12_11 hr hn, dxc12_12 hr hn, dxc12_13 hr hn, dxc12_14 hr hn, dxc12_15 hr hn, dxc12_16 hr hn, dxc13_10 hr hn, dxc13_11 hr hn, dxc13_12 hr hn, dxc13_13 hr hn, dxc13_14 hr hn, dxc13_15 hr hn, dxc13_16 hr hn, dxc14_10 hr hn, dxc14_11 hr hn, dxc14_12 hr hn, dxc14_13 hr hn, dxc14_14 hr hn, dxc14_15 hr hn, dxc14_16 hr hn, dxc15_10 hr hn, dxc15_11 hr hn, dxc15_12 hr hn, dxc15_13 hr hn, dxc15_14 hr hn, dxc15_15 hr hn, dxc15_16 hr hn, dxc16_10 hr hn, dxc16_11 hr hn, dxc16_12 hr hn, dxc16_13 hr hn, dxc16_14 hr hn, dxc16_15 hr hn, dxc16_16 hr hn, trivial⟩
def tabO (op : Nat) : List (Nat × Nat) := match op with
  | 1 => mvP | 10 => inP | 11 => inP | 12 => tu12P | 13 => tu13P | 14 => tu14P | 15 => tu15P | 16 => ntP | 17 => xcP | _ => sumP
def okO (op d s : Nat) : Bool := Nat.beq d 5 || (Nat.beq d 9 || (Nat.beq s 5 || (Nat.beq s 9 || ((Isa.hd (op : Int) (d : Int) (s : Int)).n == 0 || inL2 (tabO op) d s))))
theorem okO_1 : ((List.range 21).all fun d => (List.range 21).all fun s => okO 1 d s) = true := by kernel_rfl
theorem okO_2 : ((List.range 21).all fun d => (List.range 21).all fun s => okO 2 d s) = true := by kernel_rfl
theorem okO_3 : ((List.range 21).all fun d => (List.range 21).all fun s => okO 3 d s) = true := by kernel_rfl
theorem okO_4 : ((List.range 21).all fun d => (List.range 21).all fun s => okO 4 d s) = true := by kernel_rfl
theorem okO_5 : ((List.range 21).all fun d => (List.range 21).all fun s => okO 5 d s) = true := by kernel_rfl
theorem okO_6 : ((List.range 21).all fun d => (List.range 21).all fun s => okO 6 d s) = true := by kernel_rfl
theorem okO_7 : ((List.range 21).all fun d => (List.range 21).all fun s => okO 7 d s) = true := by kernel_rfl
theorem okO_8 : ((List.range 21).all fun d => (List.range 21).all fun s => okO 8 d s) = true := by kernel_rfl
theorem okO_9 : ((List.range 21).all fun d => (List.range 21).all fun s => okO 9 d s) = true := by kernel_rfl
theorem okO_10 : ((List.range 21).all fun d => (List.range 21).all fun s => okO 10 d s) = true := by kernel_rfl
theorem okO_11 : ((List.range 21).all fun d => (List.range 21).all fun s => okO 11 d s) = true := by kernel_rfl
theorem okO_12 : ((List.range 21).all fun d => (List.range 21).all fun s => okO 12 d s) = true := by kernel_rfl
theorem okO_13 : ((List.range 21).all fun d => (List.range 21).all fun s => okO 13 d s) = true := by kernel_rfl
theorem okO_14 : ((List.range 21).all fun d => (List.range 21).all fun s => okO 14 d s) = true := by kernel_rfl
theorem okO_15 : ((List.range 21).all fun d => (List.range 21).all fun s => okO 15 d s) = true := by kernel_rfl
theorem okO_16 : ((List.range 21).all fun d => (List.range 21).all fun s => okO 16 d s) = true := by kernel_rfl
theorem okO_17 : ((List.range 21).all fun d => (List.range 21).all fun s => okO 17 d s) = true := by kernel_rfl
theorem okO_all {op d s : Nat} (h0 : 1 ≤ op) (h1 : op < 18) (hd : d < 21) (hs : s < 21) : okO op d s = true := by
  have key : ((List.range 21).all fun d => (List.range 21).all fun s => okO op d s) = true := by
    have : op = 1 ∨ op = 2 ∨ op = 3 ∨ op = 4 ∨ op = 5 ∨ op = 6 ∨ op = 7 ∨ op = 8 ∨ op = 9 ∨ op = 10 ∨ op = 11 ∨ op = 12 ∨ op = 13 ∨ op = 14 ∨ op = 15 ∨ op = 16 ∨ op = 17 := by omega
    rcases this with rfl | rfl | rfl | rfl | rfl | rfl | rfl | rfl | rfl | rfl | rfl | rfl | rfl | rfl | rfl | rfl | rfl
    · exact okO_1
    · exact okO_2
    · exact okO_3
    · exact okO_4
    · exact okO_5
    · exact okO_6
    · exact okO_7
    · exact okO_8
    · exact okO_9
    · exact okO_10
    · exact okO_11
    · exact okO_12
    · exact okO_13
    · exact okO_14
    · exact okO_15
    · exact okO_16
    · exact okO_17
  exact List.all_eq_true.1 (List.all_eq_true.1 key d (List.mem_range.2 hd)) s (List.mem_range.2 hs)
theorem do_all (hr : Rw16 m) (hn : B16 n) {op d s : Nat} (h0 : 1 ≤ op) (h1 : op < 18) (hd : d < 21) (hs : s < 21) (d5 : d ≠ 5) (d9 : d ≠ 9) (s5 : s ≠ 5) (s9 : s ≠ 9) (hz : (Isa.hd (op : Int) (d : Int) (s : Int)).n ≠ 0) : DoF m g h (op : Int) (d : Int) (s : Int) n sz := by
  have hk := okO_all h0 h1 hd hs
  have b : ∀ {x y : Nat}, x ≠ y → Nat.beq x y = false := fun q => Bool.eq_false_iff.2 fun e => q (Nat.eq_of_beq_eq_true e)
  have hz' : ((Isa.hd (op : Int) (d : Int) (s : Int)).n == 0) = false := by simpa using hz
  unfold okO at hk
  rw [b d5, b d9, b s5, b s9, hz'] at hk
  simp only [Bool.false_or] at hk
  unfold inL2 at hk
  have : op = 1 ∨ op = 10 ∨ op = 11 ∨ op = 12 ∨ op = 13 ∨ op = 14 ∨ op = 15 ∨ op = 16 ∨ op = 17 ∨ (2 ≤ op ∧ op ≤ 9) := by omega
  rcases this with rfl | rfl | rfl | rfl | rfl | rfl | rfl | rfl | rfl | ⟨k2, k9⟩
  · exact (mvP_all hr hn).of hk
  · exact (inP_all (op := 10) hr hn (by omega) (by omega)).of hk
  · exact (inP_all (op := 11) hr hn (by omega) (by omega)).of hk
  · exact (tu12P_all hr hn).of hk
  · exact (tu13P_all hr hn).of hk
  · exact (tu14P_all hr hn).of hk
  · exact (tu15P_all hr hn).of hk
  · exact (ntP_all hr hn).of hk
  · exact (xcP_all hr hn).of hk
  · have e : tabO op = sumP := by
      have : op = 2 ∨ op = 3 ∨ op = 4 ∨ op = 5 ∨ op = 6 ∨ op = 7 ∨ op = 8 ∨ op = 9 := by omega
      rcases this with rfl | rfl | rfl | rfl | rfl | rfl | rfl | rfl <;> rfl
    rw [e] at hk
    exact (sumP_all (op := (op : Int)) hr hn (by omega) (by omega)).of hk
end
end Go.Proofs.Ytnknopebjdgdjaa
namespace Go.Proofs.Ytnknopebjdgdjaa
open Go Go.Ly Go.RowKit
theorem rim_16 (t : Int) (k : Nat) (f : Nat → Int) : B16 (Isa.rim t k f) := by
  unfold Isa.rim
  cases t == 0 with
  | true => exact ⟨Int.le_refl _, by show (0 : Int) ≤ 65535; omega⟩
  | false =>
    cases t == 1 with
    | true => exact wr16 _
    | false =>
      cases t == 2 with
      | true => exact wr16 _
      | false => exact wr16 _
theorem rd_form {op d s : Int} (hz : (Isa.hd op d s).n ≠ 0) {f : Nat → Int} (h0 : f 0 = (Isa.hd op d s).b0) (h1 : (Isa.hd op d s).n ≠ 1 → f 1 = (Isa.hd op d s).b1) (hb1 : 0 ≤ f 1 ∧ f 1 ≤ 255) :
    (Isa.by1 (f 0) && Isa.by1 (f 1)) = true ∧ ∃ n, B16 n ∧ Isa.rd2 4 f = ⟨op, d, s, n, (Isa.lenB op d s : Int), 0⟩ := by
  have hg : Isa.gs (f 0) (f 1) = ⟨op, d, s⟩ ∧ (0 ≤ f 0 ∧ f 0 ≤ 255) := by
    by_cases hn : (Isa.hd op d s).n = 1
    · obtain ⟨k1, _, k3⟩ := Isa.hd_one hn
      rw [h0]; exact ⟨k3 _ hb1.1 hb1.2, k1⟩
    · obtain ⟨_, k1, _, _, k5⟩ := Isa.hd_two hz hn
      rw [h0, h1 hn]; exact ⟨k5, k1⟩
  refine ⟨by rw [Bool.and_eq_true, Isa.by1_iff, Isa.by1_iff]; exact ⟨hg.2, hb1⟩, Isa.rim (Isa.hd op d s).t (bif (Isa.hd op d s).n == 1 then 1 else 2) f, rim_16 _ _ _, ?_⟩
  · have hmt : Isa.mt ⟨op, d, s⟩ (f 0) (f 1) = true := by
      unfold Isa.mt
      have e1 : ((Isa.hd op d s).n != 0) = true := by simpa using hz
      have e2 : ((Isa.hd op d s).b0 == f 0) = true := by rw [h0]; simp
      have e3 : (((Isa.hd op d s).n == 1) || ((Isa.hd op d s).b1 == f 1)) = true := by
        by_cases hn : (Isa.hd op d s).n = 1
        · rw [hn]; rfl
        · rw [h1 hn]; simp
      simp only [e1, e2, e3, Bool.and_self]
    have hl : Isa.lenB op d s ≤ 4 := by
      unfold Isa.lenB
      cases ((Isa.hd op d s).n == 1) <;> cases ((Isa.hd op d s).t == 0) <;> cases ((Isa.hd op d s).t == 2) <;> simp
    unfold Isa.rd2
    rw [hg.1, hmt, cond_true]
    unfold Isa.rdS
    have : Nat.blt 4 (Isa.lenB op d s) = false := Bool.eq_false_iff.2 fun e => by rw [Nat.blt_eq] at e; omega
    show (bif Nat.blt 4 (Isa.lenB op d s) then Isa.rS else _) = _
    rw [this, cond_false]
section
variable {m : Mc} {g h : Nat → Int}
theorem stepForm {op d s : Int} (hh : m.halt = false) (hz : (Isa.hd op d s).n ≠ 0) (h0 : g (at4 m.ip 0) = (Isa.hd op d s).b0) (h1 : (Isa.hd op d s).n ≠ 1 → g (at4 m.ip 1) = (Isa.hd op d s).b1) (hb1 : B8 (g (at4 m.ip 1)))
    {Q : Prop} (hd : ∀ n, B16 n → (∃ p t nx os, endsAt [0, 1, 2] (Ly.run qtx4 3000 p (bS m g h op d s n (Isa.lenB op d s : Int))) = some (t, .int .i64 0, nx, os) ∧ trusted t ∧ (Ly.Ends Try.prog 17 [ptr 0] (hP m g h) [0, 1, 2] (.int .i64 0) nx os → Q))) : Q := by
  obtain ⟨hby, n, hn, hr⟩ := rd_form hz (f := f4 (g (at4 m.ip 0)) (g (at4 m.ip 1)) (g (at4 m.ip 2)) (g (at4 m.ip 3))) h0 h1 hb1
  obtain ⟨p, t, nx, os, e1, e2, e3⟩ := hd n hn
  exact e3 (stepEnds hh hby hr e1 e2)
theorem big64 : 64 < big := by unfold big; omega
theorem lahf_ends (hh : m.halt = false) (h0 : g (at4 m.ip 0) = 159) (hb1 : B8 (g (at4 m.ip 1))) : Ly.Ends Try.prog 17 [ptr 0] (hP m g h) [0, 1, 2] (.int .i64 0) 64 (hP { m with r0 := shiB m.r0 (pswI m.fs m.fz m.fx m.fp m.fc), ip := ipN m 1 } g h) := by
  refine stepForm (h := h) (op := 20) (d := 0) (s := 0) hh (by decide) h0 (fun e => absurd rfl e) hb1 (fun n hn => ?_)
  exact ⟨_, _, _, _, la_all m g h n 1 m.fs m.fz m.fx m.fp m.fc, trivial, fun e => e.grow (by omega) big64⟩
theorem sahf_ends (hh : m.halt = false) (h0 : g (at4 m.ip 0) = 158) (hb1 : B8 (g (at4 m.ip 1))) : Ly.Ends Try.prog 17 [ptr 0] (hP m g h) [0, 1, 2] (.int .i64 0) 64 (hP { ofM m (hb m.r0) with ip := ipN m 1 } g h) := by
  refine stepForm (h := h) (op := 21) (d := 0) (s := 0) hh (by decide) h0 (fun e => absurd rfl e) hb1 (fun n hn => ?_)
  exact ⟨_, _, _, _, sa_all m g h n 1, trivial, fun e => e.grow (by omega) big64⟩
theorem mid_ends {op d s : Nat} (hh : m.halt = false) (hR : Rw16 m) (o1 : 1 ≤ op) (o2 : op < 18) (hd : d < 21) (hs : s < 21) (d5 : d ≠ 5) (d9 : d ≠ 9) (s5 : s ≠ 5) (s9 : s ≠ 9) (hz : (Isa.hd (op : Int) (d : Int) (s : Int)).n ≠ 0)
    (h0 : g (at4 m.ip 0) = (Isa.hd (op : Int) (d : Int) (s : Int)).b0) (h1 : (Isa.hd (op : Int) (d : Int) (s : Int)).n ≠ 1 → g (at4 m.ip 1) = (Isa.hd (op : Int) (d : Int) (s : Int)).b1) (hb1 : B8 (g (at4 m.ip 1))) :
    ∃ m' h', Ly.Ends Try.prog 17 [ptr 0] (hP m g h) [0, 1, 2] (.int .i64 0) 64 (hP m' g h') ∧ (hb m'.r0 = hb m.r0 ∧ B16 m'.r0) ∧ m'.ip = ipN m (Isa.lenB (op : Int) (d : Int) (s : Int) : Int) ∧ m'.halt = false := by
  refine stepForm (h := h) (op := (op : Int)) (d := (d : Int)) (s := (s : Int)) hh hz h0 h1 hb1 (fun n hn => ?_)
  obtain ⟨p, t, nx, os, m', h', e1, e2, e3, e4, e5, e6, e7⟩ := do_all (g := g) (h := h) (sz := (Isa.lenB (op : Int) (d : Int) (s : Int) : Int)) hR hn o1 o2 hd hs d5 d9 s5 s9 hz
  refine ⟨p, t, nx, os, e1, e2, fun e => ⟨m', h', ?_, e5, e6, e7.trans hh⟩⟩
  rcases e4 with rfl | ⟨x, rfl, hx⟩
  · exact e.grow e3 big64
  · exact Ly.Ends.grow (Ly.Ends.eqv (os'' := hP m' g h') e (by decide) (by unfold hQ hP; exact ⟨.inl rfl, .inl rfl, hx, trivial⟩)) e3 big64
end
end Go.Proofs.Ytnknopebjdgdjaa
namespace Go.Proofs.Ytnknopebjdgdjaa
open Go Go.Ly Go.RowKit
def v23g (i : Int) (p : Nat) : List Value := slots 22 [(0, ptr p), (1, .int .i64 3), (6, .int .i64 i), (13, ptr p)]
def s23g (i : Int) (p bs : Nat) (H : Heap) : St := atSt Try.f23 k23 none bs (v23g i p) H
theorem call23g (i : Int) (p bs : Nat) (H : Heap) : callOf env (s23g i p bs H) = some (17, [ptr p]) := by kernel_rfl
theorem run23s (p : Nat) (H : Heap) : haltF [0, 1, 6, 13] rd23 (Ly.run ctxM 100 [] (Ly.start Try.f23 [ptr p, .int .i64 3] H)) = (true, [], true, (Try.f23, k23, none, H.next), v23g 0 p, H) := by kernel_rfl
theorem run23_0 (p bs : Nat) (H H' : Heap) : haltF [0, 1, 6, 13] rd23 (Ly.run ctxM 100 [] (behind (s23g 0 p bs H) (.int .i64 0) H')) = (true, [], true, (Try.f23, k23, none, bs), v23g 1 p, H') := by kernel_rfl
theorem run23_1 (p bs : Nat) (H H' : Heap) : haltF [0, 1, 6, 13] rd23 (Ly.run ctxM 100 [] (behind (s23g 1 p bs H) (.int .i64 0) H')) = (true, [], true, (Try.f23, k23, none, bs), v23g 2 p, H') := by kernel_rfl
def two3 : Value := .tuple ⟨[.int .i64 3, .int .i64 0]⟩
theorem run23_2 (p bs : Nat) (H H' : Heap) : (Ly.run ctxM 100 [] (behind (s23g 2 p bs H) (.int .i64 0) H')).fin? = some ([], two3, H') := by kernel_rfl
theorem Nx.then {H H' H'' : Heap} {O : List Nat} (h : Nx H H' O) (h' : Nx H' H'' O) : H''.lock = 0 ∧ H.next ≤ H''.next ∧ H''.next ≤ H.next + 128 ∧ Ly.Clean H'' ∧ ∀ i, i < H.next → i ∉ O → H''.get i = H.get i :=
  ⟨h'.lock, Nat.le_trans h.le h'.le, by have := h.ge; have := h'.ge; omega, h'.clean, fun i hi hO => by rw [h'.old i (by have := h.le; omega) hO, h.old i hi hO]⟩
theorem run_three {H : Heap} {p b d : Nat} {m m1 m2 m3 : Mc} {g h h1 h2 h3 : Nat → Int} {iv ov : Value} (hp : Pm H p b d m g h iv ov) (hl : H.lock = 0) (hc : Ly.Clean H) (hb : H.next + 300 < big)
    (e1 : Ly.Ends Try.prog 17 [ptr 0] (hP m g h) [0, 1, 2] (.int .i64 0) 64 (hP m1 g h1)) (e2 : Ly.Ends Try.prog 17 [ptr 0] (hP m1 g h1) [0, 1, 2] (.int .i64 0) 64 (hP m2 g h2)) (e3 : Ly.Ends Try.prog 17 [ptr 0] (hP m2 g h2) [0, 1, 2] (.int .i64 0) 64 (hP m3 g h3)) :
    LCalls Try.prog 23 [ptr p, .int .i64 3] H (fun u H' => u = two3 ∧ (H'.lock = 0 ∧ H'.next ≤ H.next + 192 ∧ ∀ i, i < H.next → i ∉ [p, b, d] → H'.get i = H.get i) ∧ Pm H' p b d m3 g h3 iv ov) := by
  refine LCalls_of ctxM_ok gR23 (by kernel_rfl) (MWp.halted ctxM_ok [0, 1, 6, 13] 100 _ (run23s p H) trivial ?_)
  refine MWp.call envOk (call23g 0 p H.next H) (P_tok hp hl hc (by show H.next + 64 < big; omega) e1) ?_
  rintro v H1 ⟨rfl, hN1, hM1⟩
  have hN1 : Nx H H1 [p, b, d] := hN1
  have g1 := hN1.ge
  refine MWp.halted ctxM_ok _ _ _ (run23_0 p H.next H H1) trivial ?_
  refine MWp.call envOk (call23g 1 p H.next H1) (P_tok hM1 hN1.lock hN1.clean (by show H1.next + 64 < big; omega) e2) ?_
  rintro v H2 ⟨rfl, hN2, hM2⟩
  have hN2 : Nx H1 H2 [p, b, d] := hN2
  have g2 := hN2.ge
  refine MWp.halted ctxM_ok _ _ _ (run23_1 p H.next H1 H2) trivial ?_
  refine MWp.call envOk (call23g 2 p H.next H2) (P_tok hM2 hN2.lock hN2.clean (by show H2.next + 64 < big; omega) e3) ?_
  rintro v H3 ⟨rfl, hN3, hM3⟩
  have hN3 : Nx H2 H3 [p, b, d] := hN3
  have g3 := hN3.ge
  refine MWp.fin ctxM_ok 100 [] (run23_2 p H.next H2 H3) trivial ⟨rfl, ⟨hN3.lock, by omega, fun i hi hO => ?_⟩, hM3⟩
  have l1 := hN1.le
  have l2 := hN2.le
  rw [hN3.old i (by omega) hO, hN2.old i (by omega) hO, hN1.old i hi hO]
def Code3 (g : Nat → Int) (ip : Int) (op d s : Int) : Prop := g (at4 ip 0) = 159 ∧ g (at4 (IntKind.u16.wrap (ip + IntKind.u16.wrap 1)) 0) = (Isa.hd op d s).b0 ∧ ((Isa.hd op d s).n ≠ 1 → g (at4 (IntKind.u16.wrap (ip + IntKind.u16.wrap 1)) 1) = (Isa.hd op d s).b1) ∧ g (at4 (IntKind.u16.wrap (IntKind.u16.wrap (ip + IntKind.u16.wrap 1) + IntKind.u16.wrap (Isa.lenB op d s : Int))) 0) = 158
theorem three {m : Mc} {g h : Nat → Int} {op d s : Nat} (hh : m.halt = false) (hg : Mem g) (hR : Rw16 m) (o1 : 1 ≤ op) (o2 : op < 18) (hd : d < 21) (hs : s < 21) (d5 : d ≠ 5) (d9 : d ≠ 9) (s5 : s ≠ 5) (s9 : s ≠ 9) (hz : (Isa.hd (op : Int) (d : Int) (s : Int)).n ≠ 0) (hC : Code3 g m.ip (op : Int) (d : Int) (s : Int)) :
    ∃ m1 m2 m3 h2, Ly.Ends Try.prog 17 [ptr 0] (hP m g h) [0, 1, 2] (.int .i64 0) 64 (hP m1 g h) ∧ Ly.Ends Try.prog 17 [ptr 0] (hP m1 g h) [0, 1, 2] (.int .i64 0) 64 (hP m2 g h2) ∧ Ly.Ends Try.prog 17 [ptr 0] (hP m2 g h2) [0, 1, 2] (.int .i64 0) 64 (hP m3 g h2) ∧
      (m3.fs = m.fs ∧ m3.fz = m.fz ∧ m3.fx = m.fx ∧ m3.fp = m.fp ∧ m3.fc = m.fc) ∧ hb m3.r0 = pswI m.fs m.fz m.fx m.fp m.fc := by
  obtain ⟨c0, c1, c2, c3⟩ := hC
  obtain ⟨w0, w3, w6⟩ := hR
  obtain ⟨q8, q1, q2, q3, q4, q5⟩ := psw_of m.fs m.fz m.fx m.fp m.fc
  obtain ⟨s1, s2⟩ := hb_shiB w0 q8
  have E1 := lahf_ends (h := h) hh c0 (hg _)
  obtain ⟨m2, h2, E2, ⟨k1, k2⟩, k3, k4⟩ := mid_ends (m := { m with r0 := shiB m.r0 (pswI m.fs m.fz m.fx m.fp m.fc), ip := ipN m 1 }) (g := g) (h := h) hh ⟨s2, w3, w6⟩ o1 o2 hd hs d5 d9 s5 s9 hz c1 c2 (hg _)
  have E3 := sahf_ends (m := m2) (g := g) (h := h2) k4 (by rw [k3]; exact c3) (hg _)
  refine ⟨_, m2, _, h2, E1, E2, E3, ?_, ?_⟩
  · have e : hb m2.r0 = pswI m.fs m.fz m.fx m.fp m.fc := k1.trans s1
    show ((bits .and .u8 (hb m2.r0) 128 != 0) = m.fs ∧ (bits .and .u8 (hb m2.r0) 64 != 0) = m.fz ∧ (bits .and .u8 (hb m2.r0) 16 != 0) = m.fx ∧ (bits .and .u8 (hb m2.r0) 4 != 0) = m.fp ∧ (bits .and .u8 (hb m2.r0) 1 != 0) = m.fc)
    rw [e]; exact ⟨q1, q2, q3, q4, q5⟩
  · exact k1.trans s1
end Go.Proofs.Ytnknopebjdgdjaa
namespace Go.Proofs.Ytnknopebjdgdjaa
open Go Go.Ly Go.RowKit
def bitC (l : List Value) : Option (Bool × Value) := match l with
  | [.bool b, .int .i64 k] => some (true, .int .i64 (bif b then k else 0))
  | _ => none
theorem gBit : ctxG.fn.get 33 = some Try.f33 := by kernel_rfl
theorem bit_run (k : Int) : ∀ b : Bool, (Ly.run ctxG 400 [] (Ly.start Try.f33 [.bool b, .int .i64 k] H0)).out? = some ([], .int .i64 (bif b then k else 0)) := by
  intro b
  cases b <;> kernel_rfl
theorem bit_ans : Answers Try.prog 33 bitC := by
  intro args g v h hg
  unfold bitC at h
  split at h
  · rename_i b k
    simp only [Option.some.injEq, Prod.mk.injEq] at h
    obtain ⟨rfl, rfl⟩ := h
    exact ⟨by simp [plain, plainL], by simp [plain, plainL], fun w => calls_trust ctxG_ok 400 [] gBit (by kernel_rfl) (by simp [plain, plainL]) (by simp [plain, plainL]) (bit_run k b) trivial w⟩
  · cases h
def ctxGb : Ctx := ctxG.with 33 bitC
theorem ctxGb_ok : ctxGb.Ok Try.prog := ctxG_ok.with bit_ans
def pswC (l : List Value) : Option (Bool × Value) := match l with
  | [.agg ⟨[.bool s, .bool z, .bool x, .bool p, .bool c]⟩] => some (true, .int .u8 (pswI s z x p c))
  | _ => none
theorem gPs : ctxGb.fn.get 26 = some Try.f26 := by kernel_rfl
theorem psw_run : ∀ s z x p c : Bool, (Ly.run ctxGb 400 [] (Ly.start Try.f26 [.agg ⟨[.bool s, .bool z, .bool x, .bool p, .bool c]⟩] H0)).out? = some ([], .int .u8 (pswI s z x p c)) := by
  intro s z x p c
  cases s <;> cases z <;> cases x <;> cases p <;> cases c <;> kernel_rfl
theorem psw_ans : Answers Try.prog 26 pswC := by
  intro args g v h hg
  unfold pswC at h
  split at h
  · rename_i s z x p c
    simp only [Option.some.injEq, Prod.mk.injEq] at h
    obtain ⟨rfl, rfl⟩ := h
    exact ⟨by simp [plain, plainL], by simp [plain, plainL], fun w => calls_trust ctxGb_ok 400 [] gPs (by kernel_rfl) (by simp [plain, plainL]) (by simp [plain, plainL]) (psw_run s z x p c) trivial w⟩
  · cases h
def ctxG2 : Ctx := ctxGb.with 26 pswC
theorem ctxG2_ok : ctxG2.Ok Try.prog := ctxGb_ok.with psw_ans
def flC (r0 : Int) (fs fz fx fp fc : Bool) : List Value := [.int .u16 r0, anyV, anyV, anyV, anyV, anyV, anyV, anyV, .bool fs, .bool fz, .bool fx, .bool fp, .bool fc, anyV, anyV, anyV, anyV, anyV, anyV, anyV]
def fsC (fs fz fx fp fc : Bool) : List Value := [anyV, anyV, anyV, anyV, anyV, anyV, anyV, anyV, .bool fs, .bool fz, .bool fx, .bool fp, .bool fc, anyV, anyV, anyV, anyV, anyV]
def H7 (p : Nat) (r0 : Int) (fs fz fx fp fc : Bool) : Heap := vH [3, p] [some (.cells (fsC fs fz fx fp fc) 29), some (.cells (flC r0 fs fz fx fp fc) 54)] 1000
end Go.Proofs.Ytnknopebjdgdjaa
namespace Go.Proofs.Ytnknopebjdgdjaa
open Go Go.Ly Go.RowKit
theorem gL7 : ctxG.fn.get 7 = some Try.f7 := by kernel_rfl
theorem call7 (p : Nat) (H : Heap) : callOf env (atSt Try.f7 k7 (some 18) 3 (v7 p) H) = some (23, [ptr p, .int .i64 3]) := by kernel_rfl
theorem bh7 (p : Nat) (H1 H2 K : Heap) : { behind (atSt Try.f7 k7 (some 18) 3 (v7 p) H1) two3 H2 with H := K } = behind (atSt Try.f7 k7 (some 18) 3 (v7 p) H1) two3 K := by kernel_rfl
def tY (r0 : Int) (fs fz fx fp fc : Bool) : List (Bool × Bool) := [((fs == fs && (fz == fz && (fx == fx && (fp == fp && (fc == fc && true))))) == true, true), ((hb r0 == pswI fs fz fx fp fc) == true, true)]
theorem tY_ok {r0 : Int} {fs fz fx fp fc : Bool} (h : hb r0 = pswI fs fz fx fp fc) : trusted (tY r0 fs fz fx fp fc) := by
  refine ⟨?_, ?_, trivial⟩
  · show ((fs == fs && (fz == fz && (fx == fx && (fp == fp && (fc == fc && true))))) == true) = true
    simp
  · show ((hb r0 == pswI fs fz fx fp fc) == true) = true
    rw [h]; simp
def Fin7 (p : Nat) : Prop := ∀ (r0 : Int) (fs fz fx fp fc : Bool) (H : Heap), (Ly.run ctxG2 3000 [(14, true), (17, true)] (behind (atSt Try.f7 k7 (some 18) 3 (v7 p) H) two3 (H7 p r0 fs fz fx fp fc))).out? = some (tY r0 fs fz fx fp fc, .bool true)
theorem ow_fl (b d : Nat) (m : Mc) (i o : Value) : OW (.cells (cellsPb b d m i o) 54) (.cells (flC m.r0 m.fs m.fz m.fx m.fp m.fc) 54) := by
  refine OW.cells ?_
  simp only [cellsPb, flC, VWL]
  exact ⟨_, _, VW.refl _, ⟨_, _, VW.any _, ⟨_, _, VW.any _, ⟨_, _, VW.any _, ⟨_, _, VW.any _, ⟨_, _, VW.any _, ⟨_, _, VW.any _, ⟨_, _, VW.any _, ⟨_, _, VW.refl _, ⟨_, _, VW.refl _, ⟨_, _, VW.refl _, ⟨_, _, VW.refl _, ⟨_, _, VW.refl _, ⟨_, _, VW.any _, ⟨_, _, VW.any _, ⟨_, _, VW.any _, ⟨_, _, VW.any _, ⟨_, _, VW.any _, ⟨_, _, VW.any _, ⟨_, _, VW.any _, rfl, rfl⟩, rfl⟩, rfl⟩, rfl⟩, rfl⟩, rfl⟩, rfl⟩, rfl⟩, rfl⟩, rfl⟩, rfl⟩, rfl⟩, rfl⟩, rfl⟩, rfl⟩, rfl⟩, rfl⟩, rfl⟩, rfl⟩, rfl⟩
theorem ow_fs (s : Sv) (i c d : Value) : OW (.cells (svC s i c d) 29) (.cells (fsC s.fs s.fz s.fx s.fp s.fc) 29) := by
  refine OW.cells ?_
  simp only [svC, fsC, VWL]
  exact ⟨_, _, VW.any _, ⟨_, _, VW.any _, ⟨_, _, VW.any _, ⟨_, _, VW.any _, ⟨_, _, VW.any _, ⟨_, _, VW.any _, ⟨_, _, VW.any _, ⟨_, _, VW.any _, ⟨_, _, VW.refl _, ⟨_, _, VW.refl _, ⟨_, _, VW.refl _, ⟨_, _, VW.refl _, ⟨_, _, VW.refl _, ⟨_, _, VW.any _, ⟨_, _, VW.any _, ⟨_, _, VW.any _, ⟨_, _, VW.any _, ⟨_, _, VW.any _, rfl, rfl⟩, rfl⟩, rfl⟩, rfl⟩, rfl⟩, rfl⟩, rfl⟩, rfl⟩, rfl⟩, rfl⟩, rfl⟩, rfl⟩, rfl⟩, rfl⟩, rfl⟩, rfl⟩, rfl⟩, rfl⟩
theorem at4_add (ip : Int) (a b : Int) : at4 (IntKind.u16.wrap (ip + IntKind.u16.wrap a)) b = at4 ip (a + b) := by
  unfold at4
  simp only [IntKind.wrap_u16]
  congr 3
  omega
theorem at4_ne {ip : Int} {a b : Nat} (h : a < b) (hb : b < 1000) : at4 ip a ≠ at4 ip b := by
  unfold at4
  simp only [IntKind.wrap_u16]
  omega
theorem beq_ff {i j : Nat} (h : i ≠ j) : Nat.beq i j = false := by
  cases hb : Nat.beq i j with
  | false => rfl
  | true => exact absurd (Nat.eq_of_beq_eq_true hb) h
theorem upd_self (g : Nat → Int) (i : Nat) (v : Int) : upd g i v i = v := by unfold upd; rw [Nat.beq_refl]; rfl
theorem upd_ne (g : Nat → Int) {i j : Nat} (v : Int) (h : j ≠ i) : upd g i v j = g j := by unfold upd; rw [beq_ff h]; rfl
theorem by7 (Q : Nat → Nat) (hQ : ∀ t, Q (t + 1) = Q t + 1) {G : Nat → Nat → Value} {ip : Int} {B : Nat → Int} : ∀ (m : Nat), m ≤ 100 → (∀ t, t < m → G (Q t) 0 = .int .u16 (IntKind.u16.wrap (ip + IntKind.u16.wrap (t : Int))) ∧ G (Q t) 1 = .int .u8 (B t)) → ∀ t, t < m → memF (atOf G) (byOf G) (Q m) (at4 ip (t : Int)) = B t
  | 0, _, _, t, ht => by omega
  | m + 1, hm, h, t, ht => by
    rw [hQ]
    show upd (memF (atOf G) (byOf G) (Q m)) (ix (intV (G (Q m) 0))) (intV (G (Q m) 1)) (at4 ip (t : Int)) = B t
    obtain ⟨h0, h1⟩ := h m (by omega)
    rw [h0, h1]
    show upd (memF (atOf G) (byOf G) (Q m)) (at4 ip (m : Int)) (B m) (at4 ip (t : Int)) = B t
    by_cases e : t = m
    · subst e; exact upd_self _ _ _
    · rw [upd_ne _ _ (at4_ne (ip := ip) (a := t) (b := m) (by omega) (by omega))]
      exact by7 Q hQ m (by omega) (fun t ht => h t (by omega)) t (by omega)
theorem lenB_eq {op d s : Int} (e : hd6 op d s = Isa.hd op d s) : lenB6 op d s = Isa.lenB op d s := by unfold lenB6 Isa.lenB; rw [e]
theorem code7 {g : Nat → Int} {ip op d s x : Int} {L : Nat} (o1 : 1 ≤ op) (o2 : op < 18) (hz : (hd6 op d s).n ≠ 0) (hL : lenB6 op d s = L) (hL1 : 1 ≤ L) (hL4 : L ≤ 4) (hg : ∀ t, t < L + 2 → g (at4 ip (t : Int)) = yB op d s x L t) : Code3 g ip op d s := by
  have e := hd6_eq o1 o2 hz
  have hl : Isa.lenB op d s = L := by rw [← lenB_eq e]; exact hL
  refine ⟨?_, ?_, fun h1 => ?_, ?_⟩
  · exact hg 0 (by omega)
  · have k := hg 1 (by omega)
    rw [at4_add, ← e]
    rw [show ((1 : Int) + 0) = ((1 : Nat) : Int) by rfl, k]
    unfold yB
    rw [beq_ff (show 1 ≠ L + 1 by omega)]
    rfl
  · have h1' : (hd6 op d s).n ≠ 1 := by rw [e]; exact h1
    have hb : ((hd6 op d s).n == 1) = false := by simpa using h1'
    have h2 : 2 ≤ L := by rw [← hL]; unfold lenB6; rw [hb]; exact Nat.le_add_right _ _
    have k := hg 2 (by omega)
    rw [at4_add, ← e]
    rw [show ((1 : Int) + 1) = ((2 : Nat) : Int) by rfl, k]
    unfold yB
    rw [beq_ff (show 2 ≠ L + 1 by omega)]
    show bF op d s x 1 = _
    unfold bF
    rw [hb]; rfl
  · rw [hl, show IntKind.u16.wrap (ip + IntKind.u16.wrap 1) = IntKind.u16.wrap (ip + IntKind.u16.wrap ((1 : Nat) : Int)) by rfl]
    have k := hg (L + 1) (by omega)
    rw [at4_add]
    have e2 : at4 (IntKind.u16.wrap (ip + IntKind.u16.wrap ((1 : Nat) : Int))) ((L : Int) + 0) = at4 ip ((L + 1 : Nat) : Int) := by
      rw [at4_add]; congr 1; omega
    rw [e2, k]
    unfold yB
    rw [beq_ff (show L + 1 ≠ 0 by omega), Nat.beq_refl]
    rfl
theorem tail7 {p b d : Nat} {s : Sv} {op dd sr x : Int} {L : Nat} {H : Heap} {g h : Nat → Int} {iv ov ic cc dc : Value} (hfin : Fin7 p) (hnx : H.next ≤ 600) (hl : H.lock = 0) (hc : Ly.Clean H) (hst : H.get 3 = some (.cells (svC s ic cc dc) 29))
    (h1 : Pm H p b d (mOf s) g h iv ov) (n3 : (3 : Nat) ∉ [p, b, d]) (hg : Mem g) (hR : Rw16 (mOf s)) (o1 : 1 ≤ op) (o2 : op < 18) (hz : (hd6 op dd sr).n ≠ 0) (d5 : dd ≠ 5) (d9 : dd ≠ 9) (s5 : sr ≠ 5) (s9 : sr ≠ 9)
    (hL : lenB6 op dd sr = L) (hL1 : 1 ≤ L) (hL4 : L ≤ 4) (hB : ∀ t, t < L + 2 → g (at4 s.ip (t : Int)) = yB op dd sr x L t) :
    MWp Try.prog (atSt Try.f7 k7 (some 18) 3 (v7 p) H) (fun u _ => u = .bool true) := by
  have hbig : big = 2147483000 := rfl
  have hC := code7 o1 o2 hz hL hL1 hL4 hB
  have e6 := hd6_eq o1 o2 hz
  obtain ⟨⟨q1, q2⟩, q3, q4⟩ := hd6_rng o1 o2 hz
  obtain ⟨op, rfl⟩ := Int.eq_ofNat_of_zero_le (show 0 ≤ op by omega)
  obtain ⟨dd, rfl⟩ := Int.eq_ofNat_of_zero_le q1
  obtain ⟨sr, rfl⟩ := Int.eq_ofNat_of_zero_le q3
  obtain ⟨m1, m2, m3, h2, e1, e2, e3, ⟨f1, f2, f3, f4, f5⟩, hr⟩ := three (m := mOf s) (g := g) (h := h) (op := op) (d := dd) (s := sr) rfl hg hR (by omega) (by omega) (by omega) (by omega) (by omega) (by omega) (by omega) (by omega) (by rw [← e6]; exact hz) hC
  refine MWp.ltn (fun (hlt : ∀ i o, H.get i = some o → i < H.next) (_ : H.next < big) => ?_)
  have l3 : (3 : Nat) < H.next := hlt _ _ hst
  refine MWp.call envOk (call7 p H) (run_three h1 hl hc (by show H.next + 300 < big; omega) e1 e2 e3) ?_
  rintro v H2 ⟨rfl, ⟨hlk, hn2, hold⟩, hM⟩
  have hn2 : H2.next ≤ H.next + 192 := hn2
  have h3 : H2.get 3 = some (.cells (svC s ic cc dc) 29) := by rw [hold 3 l3 n3]; exact hst
  have hHb : (behind (atSt Try.f7 k7 (some 18) 3 (v7 p) H) two3 H2).H = H2 := behind_H (E := env) (by rw [call7]; rfl)
  have lp : p < H.next := hlt _ _ h1.cells
  have np : 3 ≠ p := fun e => n3 (by simp [e])
  refine MWp.few (I := [3, p]) (os := [.cells (fsC s.fs s.fz s.fx s.fp s.fc) 29, .cells (flC m3.r0 m3.fs m3.fz m3.fx m3.fp m3.fc) 54]) (n := 1000) (by rw [hHb]; exact hlk) (by rw [hHb]; omega) (by omega) rfl (by simp [np]) (fun y hy => by
    simp only [List.mem_cons, List.not_mem_nil, or_false] at hy
    rcases hy with rfl | rfl <;> omega) (fun j y o hj hoo => ?_) ?_
  · rw [hHb]
    rcases j with _ | _ | j
    · simp at hj hoo; subst hj hoo; exact ⟨_, h3, ow_fs _ _ _ _⟩
    · simp at hj hoo; subst hj hoo; exact ⟨_, hM.cells, ow_fl _ _ _ _ _⟩
    · simp at hj
  · rw [bh7, f1, f2, f3, f4, f5]
    exact MWp.out ctxG2_ok 3000 _ (hfin m3.r0 s.fs s.fz s.fx s.fp s.fc H) (tY_ok hr) (fun _ => rfl)
end Go.Proofs.Ytnknopebjdgdjaa
namespace Go.Proofs.Ytnknopebjdgdjaa
open Go Go.Ly Go.RowKit
theorem tLi_ok {n : Nat} (h : n + 1 ≤ 256) : trusted [tLi n] := ⟨by show (decide (((n + 1 : Nat) : Int) ≤ 300) == true) = true; rw [decide_eq_true (by omega)]; rfl, trivial⟩
theorem tLc_ok {k : Nat} (h : k + 1 ≤ 600) : trusted [tLc k] := ⟨by show (decide (((k + 1 : Nat) : Int) ≤ 600) == true) = true; rw [decide_eq_true (by omega)]; rfl, trivial⟩
theorem tLd_ok {l : Nat} (h : l ≤ 300) : trusted [tLd l] := ⟨by show ((!(decide ((l : Int) ≤ 300))) == false) = true; rw [decide_eq_true (by omega)]; rfl, trivial⟩
theorem tMe_ok {n : Nat} (h : n + 1 ≤ 256) : trusted [tMe n] := ⟨by show (decide ((256 : Int) < ((n + 1 : Nat) : Int)) == false) = true; rw [decide_eq_false (by omega)]; rfl, trivial⟩
theorem tMx_ok {n : Nat} (h : n + 1 ≤ 256) : trusted [tMx n] := ⟨by show decide ((256 : Int) < ((n + 1 : Nat) : Int)) = false; exact decide_eq_false (by omega), trivial⟩
theorem tR2_ok {k : Nat} (h : k ≤ 1000) : trusted [tR2 k] := by
  refine ⟨?_, trivial⟩
  show (true && (Nat.ble (0 + (0 + (k + 1))) (k + 1) && ((Nat.beq 2 2 && (Nat.beq 78 78 && (Nat.beq (k + 1) (0 + (k + 1)) && true))) && (Nat.ble 1 (0 + (k + 1)) && Nat.ble (0 + (k + 1) + 1) 4294967296)))) = true
  have e1 : Nat.ble (k + 1) (k + 1) = true := by rw [Nat.ble_eq]; exact Nat.le_refl _
  have e2 : Nat.ble 1 (k + 1) = true := by rw [Nat.ble_eq]; omega
  have e3 : Nat.ble (k + 1 + 1) 4294967296 = true := by rw [Nat.ble_eq]; omega
  have e4 : Nat.beq (k + 1) (k + 1) = true := Nat.beq_refl _
  simp only [Nat.zero_add, e1, e2, e3, e4]; rfl
theorem yRn_ok {a : Nat} (h : 1 ≤ a) (h1 : a ≤ 2000) : trusted [yRn a] := by
  refine ⟨?_, trivial⟩
  show (true && (Nat.ble (0 + a) a && ((Nat.beq 2 2 && (Nat.beq 78 78 && (Nat.beq a a && true))) && (Nat.ble 1 a && Nat.ble (a + 1) 4294967296)))) = true
  have e1 : Nat.ble a a = true := by rw [Nat.ble_eq]; exact Nat.le_refl _
  have e2 : Nat.ble 1 a = true := by rw [Nat.ble_eq]; omega
  have e3 : Nat.ble (a + 1) 4294967296 = true := by rw [Nat.ble_eq]; omega
  have e4 : Nat.beq a a = true := Nat.beq_refl _
  simp only [Nat.zero_add, e1, e2, e3, e4]; rfl
theorem gokD {fc fd : Nat → Int} {l : Nat} (h : ∀ e, e < l → B16 (fc e) ∧ B8 (fd e)) : Gok l (GD fc fd) := (Gok.bb h).shift
theorem tOd_ok {fc fd : Nat → Int} {l : Nat} (h : ∀ e, e < l → B16 (fc e) ∧ B8 (fd e)) (hl : l ≤ 1000) : trusted [tOd fc fd l] := by
  refine ⟨?_, trivial⟩
  show (Nat.ble (0 + l) l && (true && okM l (GD fc fd))) = true
  rw [(gokD h).ok hl, Nat.zero_add, Bool.and_eq_true, Nat.ble_eq]
  exact ⟨Nat.le_refl _, rfl⟩
theorem yOk_ok {G : Nat → Nat → Value} {q : Nat} (h : Gok (q + 1) G) (hq : q + 1 ≤ 1000) : trusted [yOk G q] := by
  refine ⟨?_, trivial⟩
  show (Nat.ble (0 + (q + 1)) (q + 1) && (true && okM (q + 1) G)) = true
  rw [h.ok hq, Nat.zero_add, Bool.and_eq_true, Nat.ble_eq]
  exact ⟨Nat.le_refl _, rfl⟩
theorem blt_ff (k : Nat) : Nat.blt k k = false := by
  cases h : Nat.blt k k with
  | false => rfl
  | true => rw [Nat.blt_eq] at h; omega
theorem yN_eq (k : Nat) : ∀ t, yN k t = k + 1 + t
  | 0 => by show 0 + (k + 1) = _; omega
  | t + 1 => by show yN k t + 1 = _; rw [yN_eq k t]; omega
theorem yRk_ok {op d sr x : Int} (h : rk6 op d sr x = 0) : trusted [yRk op d sr x] := ⟨beq_iff_eq.2 h, trivial⟩
theorem yL_ok {op d sr : Int} {L t : Nat} {b : Bool} (h : lenB6 op d sr = L) (hb : Nat.beq L t = b) : trusted [yL op d sr t b] := by
  cases b with
  | true => exact ⟨by show Nat.beq (lenB6 op d sr) t = true; rw [h]; exact hb, trivial⟩
  | false => exact ⟨by show Nat.beq (lenB6 op d sr) t = false; rw [h]; exact hb, trivial⟩
theorem y18_ok {op : Int} (h : op < 18) : trusted [y18 op] := ⟨by show (decide (18 ≤ op) == false) = true; rw [decide_eq_false (by omega)]; rfl, trivial⟩
theorem yNe_ok {d v : Int} (h : d ≠ v) : trusted [yNe d v] := ⟨by show ((d == v) == false) = true; rw [beq_eq_false_iff_ne.2 h]; rfl, trivial⟩
theorem yNf_ok {d v : Int} (h : d ≠ v) : trusted [yNf d v] := ⟨beq_eq_false_iff_ne.2 h, trivial⟩
theorem bF_ok {op d s x : Int} (o1 : 1 ≤ op) (o2 : op < 18) (hz : (hd6 op d s).n ≠ 0) (t : Nat) : B8 (bF op d s x t) := by
  have e := hd6_eq o1 o2 hz
  have hz' := hz
  rw [e] at hz'
  have w : ∀ y : Int, B8 (IntKind.u8.wrap y) := fun y => by unfold B8; rw [IntKind.wrap_u8]; omega
  unfold bF
  rw [e]
  by_cases h1 : (Isa.hd op d s).n = 1
  · rw [show ((Isa.hd op d s).n == 1) = true from beq_iff_eq.2 h1]
    have k := (Isa.hd_one h1).1
    cases Nat.beq t 0 with
    | true => exact k
    | false => cases Nat.beq t 1 with
      | true => exact w _
      | false => exact w _
  · rw [show ((Isa.hd op d s).n == 1) = false from beq_eq_false_iff_ne.2 h1]
    have k := Isa.hd_two hz' h1
    cases Nat.beq t 0 with
    | true => exact k.2.1
    | false => cases Nat.beq t 1 with
      | true => exact k.2.2.1
      | false => cases Nat.beq t 2 with
        | true => exact w _
        | false => exact w _
theorem yB_ok {op d s x : Int} {L : Nat} (o1 : 1 ≤ op) (o2 : op < 18) (hz : (hd6 op d s).n ≠ 0) (t : Nat) : B8 (yB op d s x L t) := by
  unfold yB
  cases Nat.beq t 0 with
  | true => exact (by decide : (0 : Int) ≤ 159 ∧ (159 : Int) ≤ 255)
  | false => cases Nat.beq t (L + 1) with
    | true => exact (by decide : (0 : Int) ≤ 158 ∧ (158 : Int) ≤ 255)
    | false => exact bF_ok o1 o2 hz _
theorem gokR {fa fb : Nat → Int} {k : Nat} {ip : Int} {B : Nat → Int} (P : Nat → List Value) (hP : ∀ t, P t = [.int .u16 (IntKind.u16.wrap (ip + IntKind.u16.wrap (t : Int))), .int .u8 (B t)]) (hB : ∀ t, B8 (B t)) (h : ∀ e, e < k + 1 → B16 (fa e) ∧ B8 (fb e)) : ∀ m, Gok (yN k m) (yGR fa fb k P m)
  | 0 => by
    show Gok (0 + (k + 1)) (fun i j => bbG fa fb (0 + (0 + i)) j)
    rw [Nat.zero_add]; exact ((Gok.bb h).shift).shift
  | m + 1 => by
    have g1 : Gok 1 (lstG 2 1 (P m)) := by rw [hP]; exact Gok.cons (wr16 _) (hB m) Gok.nil
    exact ((gokR P hP hB h m).join g1).shift
theorem rowsR {fa fb : Nat → Int} {k : Nat} (P : Nat → List Value) : ∀ (m t : Nat), t < m → ∀ j, yGR fa fb k P m (yN k t) j = lstG 2 1 (P t) 0 j
  | 0, t, ht, j => by omega
  | m + 1, t, ht, j => by
    show joinG (yN k m) (fun i j => yGR fa fb k P m i j) (lstG 2 1 (P m)) (0 + yN k t) j = _
    by_cases e : t = m
    · subst e
      simp only [joinG, vif_eq, Nat.zero_add, blt_ff, Nat.sub_self]; rfl
    · have e2 : Nat.blt (yN k t) (yN k m) = true := by rw [Nat.blt_eq, yN_eq, yN_eq]; omega
      simp only [joinG, vif_eq, Nat.zero_add, e2]
      exact rowsR P m t (by omega) j
theorem byR {fa fb : Nat → Int} {k : Nat} {s : Sv} {op d sr x : Int} {L : Nat} (hL : L ≤ 4) : ∀ t, t < L + 2 → gm (yGR fa fb k (yP s op d sr x L) (L + 2)) (yN k (L + 2)) (at4 s.ip (t : Int)) = yB op d sr x L t :=
  by7 (yN k) (fun t => rfl) (L + 2) (by omega) (fun t ht => ⟨by rw [rowsR _ _ t ht]; rfl, by rw [rowsR _ _ t ht]; rfl⟩)
theorem gokA1 {s : Sv} {op d sr x : Int} (hB : ∀ t, B8 (yB op d sr x 1 t)) : Gok 3 (GA (yl s op d sr x 1) 3) := Gok.cons (wr16 _) (hB 0) (Gok.cons (wr16 _) (hB 1) (Gok.cons (wr16 _) (hB 2) (Gok.nil)))
theorem byA1 {s : Sv} {op d sr x : Int} : ∀ t : Nat, t < 3 → gm (GA (yl s op d sr x 1) 3) 3 (at4 s.ip (t : Int)) = yB op d sr x 1 t :=
  by7 (B := yB op d sr x 1) (fun t => t) (fun t => rfl) 3 (by omega) (fun t ht => by
    have : t = 0 ∨ t = 1 ∨ t = 2 := by omega
    rcases this with rfl | rfl | rfl <;> exact ⟨rfl, rfl⟩)
theorem gokA2 {s : Sv} {op d sr x : Int} (hB : ∀ t, B8 (yB op d sr x 2 t)) : Gok 4 (GA (yl s op d sr x 2) 4) := Gok.cons (wr16 _) (hB 0) (Gok.cons (wr16 _) (hB 1) (Gok.cons (wr16 _) (hB 2) (Gok.cons (wr16 _) (hB 3) (Gok.nil))))
theorem byA2 {s : Sv} {op d sr x : Int} : ∀ t : Nat, t < 4 → gm (GA (yl s op d sr x 2) 4) 4 (at4 s.ip (t : Int)) = yB op d sr x 2 t :=
  by7 (B := yB op d sr x 2) (fun t => t) (fun t => rfl) 4 (by omega) (fun t ht => by
    have : t = 0 ∨ t = 1 ∨ t = 2 ∨ t = 3 := by omega
    rcases this with rfl | rfl | rfl | rfl <;> exact ⟨rfl, rfl⟩)
theorem gokA3 {s : Sv} {op d sr x : Int} (hB : ∀ t, B8 (yB op d sr x 3 t)) : Gok 5 (GA (yl s op d sr x 3) 5) := Gok.cons (wr16 _) (hB 0) (Gok.cons (wr16 _) (hB 1) (Gok.cons (wr16 _) (hB 2) (Gok.cons (wr16 _) (hB 3) (Gok.cons (wr16 _) (hB 4) (Gok.nil)))))
theorem byA3 {s : Sv} {op d sr x : Int} : ∀ t : Nat, t < 5 → gm (GA (yl s op d sr x 3) 5) 5 (at4 s.ip (t : Int)) = yB op d sr x 3 t :=
  by7 (B := yB op d sr x 3) (fun t => t) (fun t => rfl) 5 (by omega) (fun t ht => by
    have : t = 0 ∨ t = 1 ∨ t = 2 ∨ t = 3 ∨ t = 4 := by omega
    rcases this with rfl | rfl | rfl | rfl | rfl <;> exact ⟨rfl, rfl⟩)
theorem gokA4 {s : Sv} {op d sr x : Int} (hB : ∀ t, B8 (yB op d sr x 4 t)) : Gok 6 (GA (yl s op d sr x 4) 6) := Gok.cons (wr16 _) (hB 0) (Gok.cons (wr16 _) (hB 1) (Gok.cons (wr16 _) (hB 2) (Gok.cons (wr16 _) (hB 3) (Gok.cons (wr16 _) (hB 4) (Gok.cons (wr16 _) (hB 5) (Gok.nil))))))
theorem byA4 {s : Sv} {op d sr x : Int} : ∀ t : Nat, t < 6 → gm (GA (yl s op d sr x 4) 6) 6 (at4 s.ip (t : Int)) = yB op d sr x 4 t :=
  by7 (B := yB op d sr x 4) (fun t => t) (fun t => rfl) 6 (by omega) (fun t ht => by
    have : t = 0 ∨ t = 1 ∨ t = 2 ∨ t = 3 ∨ t = 4 ∨ t = 5 := by omega
    rcases this with rfl | rfl | rfl | rfl | rfl | rfl <;> exact ⟨rfl, rfl⟩)
structure K7 (s : Sv) (op d sr x : Int) (L : Nat) : Prop where
  hR : Rw16 (mOf s)
  rk : rk6 op d sr x = 0
  hL : lenB6 op d sr = L
  o1 : 1 ≤ op
  o2 : op < 18
  d5 : d ≠ 5
  d9 : d ≠ 9
  s5 : sr ≠ 5
  s9 : sr ≠ 9
theorem tr_app {a b : List (Bool × Bool)} (h : trusted a) (h' : trusted b) : trusted (a ++ b) := by
  induction a with
  | nil => exact h'
  | cons q l ih => exact ⟨h.1, ih h.2⟩
theorem yLs_ok {op d sr : Int} {L : Nat} (h : lenB6 op d sr = L) : ∀ c, c < L → trusted (yLs op d sr L c)
  | 0, _ => yL_ok h (Nat.beq_refl L)
  | c + 1, hc => tr_cons (yL_ok h (by cases e : Nat.beq L (L - 1 - c) with
    | false => rfl
    | true => have := Nat.eq_of_beq_eq_true e; omega)) (yLs_ok h c (by omega))
theorem y1_ok {s : Sv} {op d sr x : Int} {L : Nat} (K : K7 s op d sr x L) (hL : 1 ≤ L) : trusted (y1 op d sr x L) := tr_cons (yRk_ok K.rk) (yLs_ok K.hL (L - 1) (by omega))
theorem y2_ok {s : Sv} {op d sr x : Int} {L : Nat} (K : K7 s op d sr x L) : trusted (y2 op d sr) := tr_cons (y18_ok K.o2) (tr_cons (yNe_ok K.d5) (tr_cons (yNe_ok K.s5) (tr_cons (yNe_ok K.d9) (yNf_ok K.s9))))
theorem K7.hB {s : Sv} {op d sr x : Int} {L : Nat} (K : K7 s op d sr x L) (t : Nat) : B8 (yB op d sr x L t) := yB_ok (x := x) (L := L) K.o1 K.o2 (rk6_hd K.rk) t
theorem tk7 {s : Sv} {op d sr x : Int} {L : Nat} (K : K7 s op d sr x L) (hL : 1 ≤ L) {a b : List (Bool × Bool)} (ha : trusted a) (hb : trusted b) : trusted (y1 op d sr x L ++ a ++ y2 op d sr ++ b) := tr_app (tr_app (tr_app (y1_ok K hL) ha) (y2_ok K)) hb
theorem g7of {s : Sv} {op d sr x : Int} {L p nx Q : Nat} {path : List Nat} {a b c iv : Value} {os : List (Option LO)} {ts : List (Bool × Bool)} {G : Nat → Nat → Value} {dat : Nat → Int}
    (e : E7 p nx path (A7 s a b c op d sr x) os = O7 p ts s a b c iv G Q dat) (K : K7 s op d sr x L) (ht : trusted ts) (f7 : Fin7 p) (hp : 7 ≤ p ∧ nx ≤ 600 ∧ 1 ≤ L ∧ L ≤ 4) (hG : Gok Q G) (hv : noTok iv = true) (hB : ∀ t, t < L + 2 → gm G Q (at4 s.ip (t : Int)) = yB op d sr x L t) :
    LCalls Try.prog 7 (A7 s a b c op d sr x) (mkH os) (fun u _ => u = .bool true) := by
  refine LCalls_of ctxG_ok gL7 (by kernel_rfl) (MWp.haltH ctxG_ok _ _ _ _ e ht ?_)
  intro H hnx hl hc' hos
  simp only [List.map_cons, List.map_nil, List.cons.injEq, and_true] at hos
  obtain ⟨h1, h2, h3, h4⟩ := hos
  rw [gs_eq] at h3
  exact tail7 f7 (by omega) hl hc' h1 ⟨h2, h3, h4, hv, rfl, by simp; omega⟩ (by simp; omega) hG.mem K.hR K.o1 K.o2 (rk6_hd K.rk) K.d5 K.d9 K.s5 K.s9 K.hL (by omega) (by omega) hB
theorem f7_28 : Fin7 28 := fun r0 fs fz fx fp fc H => by kernel_rfl
theorem f7_29 : Fin7 29 := fun r0 fs fz fx fp fc H => by kernel_rfl
theorem f7_30 : Fin7 30 := fun r0 fs fz fx fp fc H => by kernel_rfl
theorem f7_31 : Fin7 31 := fun r0 fs fz fx fp fc H => by kernel_rfl
theorem f7_32 : Fin7 32 := fun r0 fs fz fx fp fc H => by kernel_rfl
theorem f7_33 : Fin7 33 := fun r0 fs fz fx fp fc H => by kernel_rfl
theorem f7_34 : Fin7 34 := fun r0 fs fz fx fp fc H => by kernel_rfl
theorem f7_35 : Fin7 35 := fun r0 fs fz fx fp fc H => by kernel_rfl
theorem f7_36 : Fin7 36 := fun r0 fs fz fx fp fc H => by kernel_rfl
theorem f7_37 : Fin7 37 := fun r0 fs fz fx fp fc H => by kernel_rfl
end Go.Proofs.Ytnknopebjdgdjaa
namespace Go.Proofs.Ytnknopebjdgdjaa
open Go Go.Ly Go.RowKit
theorem lenB6_rng (op d s : Int) : lenB6 op d s = 1 ∨ lenB6 op d s = 2 ∨ lenB6 op d s = 3 ∨ lenB6 op d s = 4 := by
  unfold lenB6
  cases (hd6 op d s).n == 1 <;> cases (hd6 op d s).t == 0 <;> cases (hd6 op d s).t == 2 <;> simp
theorem op_pos {op d s : Int} (h : (hd6 op d s).n ≠ 0) : 1 ≤ op := by
  rcases Int.lt_or_le 0 op with h0 | h0
  · exact h0
  · exfalso
    unfold hd6 at h
    rw [decide_eq_true h0, cond_true] at h
    unfold hf6 at h
    cases hb : ((s != 0) == false) <;> rw [hb] at h <;> exact h rfl
def bytesE7 (H : Heap) (args : List Value) : ER :=
  match args with
  | [.agg ⟨[.int .i64 op, .int .i64 d, .int .i64 s, .int .u16 n]⟩] => .tst (rk6 op d s n == 0) (pairNew H (fun e => .int .u8 (bF op d s n e)) (lenB6 op d s) 5 (.int .i64 0)) (.val (.tuple ⟨[.slice none 0 0, .int .i64 (rk6 op d s n)]⟩))
  | _ => .no
theorem bytes7_good (H : Heap) (args : List Value) : HGood Try.prog 22 args H (bytesE7 H args) := by
  have k := bytes6_good H args
  unfold bytesE6 at k
  unfold bytesE7
  split
  · rename_i op d s n
    obtain ⟨k1, k2⟩ := k
    refine ⟨fun h => ?_, k2⟩
    obtain ⟨a1, b1⟩ := k1 h
    rcases lenB6_rng op d s with e | e | e | e
    · have := a1 (by rw [e]; rfl)
      rw [e]; exact this
    · have := (b1 (by rw [e]; rfl)).1 (by rw [e]; rfl)
      rw [e]; exact this
    · have := ((b1 (by rw [e]; rfl)).2 (by rw [e]; rfl)).1 (by rw [e]; rfl)
      rw [e]; exact this
    · have := (((b1 (by rw [e]; rfl)).2 (by rw [e]; rfl)).2 (by rw [e]; rfl)).1 (by rw [e]; rfl)
      rw [e]; exact this
  · exact trivial
def ctxX : Ctx := ctxA.withH 22 bytesE7
theorem ctxX_ok : ctxX.Ok Try.prog := ctxA_ok.withH bytes7_good
theorem gX7 : ctxX.fn.get 7 = some Try.f7 := by kernel_rfl
def yRt (op d sr x : Int) : Bool × Bool := ((rk6 op d sr x != 0) == false, false)
theorem out7 {a : List Value} {os : List (Option LO)} {T : RT Unit} (hl : (Nat.ble a.length Try.f7.ntmps && Nat.blt Try.f7.ntmps 1000000) = true) (h : treeG ctxX (fun v _ => match v with | .bool true => some () | _ => none) 9000 T.cnt T (Ly.start Try.f7 a (mkH os)) = T) (hs : T.sat (fun _ => True)) : LCalls Try.prog 7 a (mkH os) (fun u _ => u = .bool true) := by
  obtain ⟨v, K, u, h1, _, h3⟩ := MWp.treeG ctxX_ok h hs
  refine (LCalls_of ctxX_ok gX7 hl h3).mono ?_
  rintro u K' ⟨rfl, _⟩
  split at h1
  · rfl
  · cases h1
theorem tLi_e (n : Nat) : (tLi n).1 = decide (n + 1 ≤ 300) := by
  show (decide (((n + 1 : Nat) : Int) ≤ 300) == true) = _
  by_cases h : n + 1 ≤ 300
  · rw [decide_eq_true (by omega), decide_eq_true h]; rfl
  · rw [decide_eq_false (by omega), decide_eq_false h]; rfl
theorem tLc_e (k : Nat) : (tLc k).1 = decide (k + 1 ≤ 600) := by
  show (decide (((k + 1 : Nat) : Int) ≤ 600) == true) = _
  by_cases h : k + 1 ≤ 600
  · rw [decide_eq_true (by omega), decide_eq_true h]; rfl
  · rw [decide_eq_false (by omega), decide_eq_false h]; rfl
theorem tLd_e (l : Nat) : (tLd l).1 = decide (l ≤ 300) := by
  show ((!(decide ((l : Int) ≤ 300))) == false) = _
  by_cases h : l ≤ 300
  · rw [decide_eq_true (by omega), decide_eq_true h]; rfl
  · rw [decide_eq_false (by omega), decide_eq_false h]; rfl
theorem tMe_e (n : Nat) : (tMe n).1 = decide (n + 1 ≤ 256) := by
  show (decide ((256 : Int) < ((n + 1 : Nat) : Int)) == false) = _
  by_cases h : n + 1 ≤ 256
  · rw [decide_eq_false (by omega), decide_eq_true h]; rfl
  · rw [decide_eq_true (by omega), decide_eq_false h]; rfl
end Go.Proofs.Ytnknopebjdgdjaa
namespace Go.Proofs.Ytnknopebjdgdjaa
open Go Go.Ly Go.RowKit
set_option linter.unusedSectionVars false
set_option maxRecDepth 100000
variable (s : Sv) (n k l : Nat) (f fa fb fc fd : Nat → Int) (op d sr x : Int)
include s n k l f fa fb fc fd op d sr x
theorem e7_1NNN : E7 28 35 [1, 1, 45, 7, 7, 7, 6, 53, 51] (A7 s nilS nilS nilS op d sr x) (X7 f n fa fb k fc fd l) = O7 28 (y1 op d sr x 1 ++ [] ++ y2 op d sr ++ [tOk (GA (yl s op d sr x 1) 3) 3, tOk (GA (yl s op d sr x 1) 3) 3]) s nilS nilS nilS (.slice none 0 0) (GA (yl s op d sr x 1) 3) 3 (fun _ => 0) := by kernel_rfl
theorem e7_1NNS : E7 28 35 [1, 1, 21, 23, 7, 7, 7, 6, 53, 1, 49, 1] (A7 s nilS nilS (sls 2 l) op d sr x) (X7 f n fa fb k fc fd l) = O7 28 (y1 op d sr x 1 ++ [tLd l] ++ y2 op d sr ++ [tOk (GA (yl s op d sr x 1) 3) 3, tOd fc fd l, tOk (GA (yl s op d sr x 1) 3) 3, tOd fc fd l]) s nilS nilS (sls 2 l) (.slice none 0 0) (GA (yl s op d sr x 1) 3) 3 (gs (gm (GD fc fd) l)) := by kernel_rfl
theorem e7_1NEN : E7 28 35 [1, 1, 45, 7, 7, 7, 6, 53, 51] (A7 s nilS (sls 1 0) nilS op d sr x) (X7 f n fa fb 0 fc fd l) = O7 28 (y1 op d sr x 1 ++ [] ++ y2 op d sr ++ [tOk (GA (yl s op d sr x 1) 3) 3, tOk (GA (yl s op d sr x 1) 3) 3]) s nilS (sls 1 0) nilS (.slice none 0 0) (GA (yl s op d sr x 1) 3) 3 (fun _ => 0) := by kernel_rfl
theorem e7_1NES : E7 28 35 [1, 1, 21, 23, 7, 7, 7, 6, 53, 1, 49, 1] (A7 s nilS (sls 1 0) (sls 2 l) op d sr x) (X7 f n fa fb 0 fc fd l) = O7 28 (y1 op d sr x 1 ++ [tLd l] ++ y2 op d sr ++ [tOk (GA (yl s op d sr x 1) 3) 3, tOd fc fd l, tOk (GA (yl s op d sr x 1) 3) 3, tOd fc fd l]) s nilS (sls 1 0) (sls 2 l) (.slice none 0 0) (GA (yl s op d sr x 1) 3) 3 (gs (gm (GD fc fd) l)) := by kernel_rfl
theorem e7_1NRN : E7 29 36 [1, 1, 11, 33, 7, 7, 7, 6, 11, 11, 9, 9, 7, 51] (A7 s nilS (sls 1 (k + 1)) nilS op d sr x) (X7 f n fa fb (k + 1) fc fd l) = O7 29 (y1 op d sr x 1 ++ [tLc k] ++ y2 op d sr ++ [tR1 k, tR2 k, yRn (yN k 1), yRn (yN k 2), yOk (yGR fa fb k (yP s op d sr x 1) 3) (yN k 2), yOk (yGR fa fb k (yP s op d sr x 1) 3) (yN k 2)]) s nilS (sls 1 (k + 1)) nilS (.slice none 0 0) (yGR fa fb k (yP s op d sr x 1) 3) (yN k 3) (fun _ => 0) := by kernel_rfl
theorem e7_1NRS : E7 29 36 [1, 1, 11, 9, 23, 7, 7, 7, 6, 11, 11, 9, 9, 7, 1, 49, 1] (A7 s nilS (sls 1 (k + 1)) (sls 2 l) op d sr x) (X7 f n fa fb (k + 1) fc fd l) = O7 29 (y1 op d sr x 1 ++ [tLc k, tLd l] ++ y2 op d sr ++ [tR1 k, tR2 k, yRn (yN k 1), yRn (yN k 2), yOk (yGR fa fb k (yP s op d sr x 1) 3) (yN k 2), tOd fc fd l, yOk (yGR fa fb k (yP s op d sr x 1) 3) (yN k 2), tOd fc fd l]) s nilS (sls 1 (k + 1)) (sls 2 l) (.slice none 0 0) (yGR fa fb k (yP s op d sr x 1) 3) (yN k 3) (gs (gm (GD fc fd) l)) := by kernel_rfl
end Go.Proofs.Ytnknopebjdgdjaa
end
