/- Part 6 of the texts that the law needs, laid together. By program (pack.py). -/
import Derived.Test.YtpggoincnebfnaaPac
import Derived.Test.YtpggoincnebfnaaPad
import Derived.Test.YtpggoincnebfnaaPae
import Derived.KernelRfl
set_option linter.unusedVariables false
set_option linter.unusedSimpArgs false
noncomputable section
namespace Go.Proofs.Ytpggoincnebfnaa
open Go Go.Ly Go.RowKit
def cI (c : Bool) : Int := bif c then 1 else 0
abbrev fl (b : Int) (x c : Bool) : Value := .agg ⟨[.bool (decide (128 ≤ b)), .bool (b == 0), .bool x, .bool (par b), .bool c]⟩
abbrev tup (b : Int) (x c : Bool) : Value := .tuple ⟨[.int .u8 b, fl b x c]⟩
theorem tup_ext {b b' : Int} {x x' c c' : Bool} (h : b = b') (hx : x = x') (hc : c = c') : tup b x c = tup b' x' c' := by rw [h, hx, hc]
theorem tup_plain (b : Int) (x c : Bool) : plain (tup b x c) = true := by simp [plain, plainL]
theorem w64 (n : Int) (h₀ : 0 ≤ n) (h₁ : n < 18446744073709551616) : IntKind.u64.wrap n = n := by rw [IntKind.wrap_u64]; omega
theorem wi64 (n : Int) (h₀ : -9223372036854775808 ≤ n) (h₁ : n < 9223372036854775808) : IntKind.i64.wrap n = n := by rw [IntKind.wrap_i64]; omega
theorem tmodp (n m : Int) (h : 0 ≤ n) : n.tmod m = n % m := Int.tmod_eq_emod_of_nonneg h
theorem tdivp (n m : Int) (h : 0 ≤ n) : n.tdiv m = n / m := Int.tdiv_eq_ediv_of_nonneg h
theorem bitsb (o : BinOp) (a b : Int) : 0 ≤ bits o .u8 a b ∧ bits o .u8 a b ≤ 255 := by
  cases o <;> (first | (simp only [bits, IntKind.wrap_u8']; omega) | (simp [bits]))
theorem i64_and65535 (n : Int) : bits .and .i64 n 65535 = n % 65536 := by
  have h127 : (BitVec.ofInt 64 65535).toNat = 2 ^ 16 - 1 := by decide
  have key : (BitVec.ofInt 64 n &&& BitVec.ofInt 64 65535).toNat = (n % ((2 ^ 64 : Nat) : Int)).toNat % 2 ^ 16 := by
    rw [BitVec.toNat_and, BitVec.toNat_ofInt, h127, Nat.and_two_pow_sub_one_eq_mod]
  show IntKind.i64.wrap ((BitVec.ofInt 64 n &&& BitVec.ofInt 64 65535).toNat : Nat) = n % 65536
  rw [key, IntKind.wrap_i64]
  omega
theorem aux8 (b : Int) (h0 : 0 ≤ b) (h1 : b ≤ 255) : ((b / 8 % 256) % 2 == 1) = (bits .and .u8 b 8 != 0) :=
  byte_all (p := fun b => ((b / 8 % 256) % 2 == 1) = (bits .and .u8 b 8 != 0)) (by decide +kernel) b h0 h1
def addR (a b : Int) (c : Bool) : Value := tup ((a + b + cI c) % 256) (decide (15 < a % 16 + b % 16 + cI c)) (decide (255 < a + b + cI c))
def subR (a b : Int) (c : Bool) : Value := tup ((a - b - cI c) % 256) (decide (15 < a % 16 + 15 - b % 16 + cI (!c))) (decide (a - b - cI c < 0))
def andR (a b : Int) : Value := tup (bits .and .u8 a b) (bits .and .u8 (bits .or .u8 a b) 8 != 0) false
def orR (a b : Int) : Value := tup (bits .or .u8 a b) false false
def xorR (a b : Int) : Value := tup (bits .xor .u8 a b) false false
def add16R (a b : Int) : Value := .tuple ⟨[.int .u16 ((a + b) % 65536), .bool (decide (65535 < a + b))]⟩
theorem add13F_ok (a b : Int) (ha : 0 ≤ a) (ha' : a ≤ 255) (hb : 0 ≤ b) (hb' : b ≤ 255) : trusted (add13FT0 a b) ∧ add13FV0 a b = addR a b false := by
  unfold add13FT0 add13FV0 addR
  refine ⟨?_, ?_⟩
  · (first | simp (disch := omega) only [w64, wi64, IntKind.wrap_u8', IntKind.wrap_u16, Int.zero_add, Int.add_zero, Int.sub_zero, and128, Ly.and15, not8, and255, i64_and65535, tmodp, tdivp, aux8, cI, cond_true, cond_false, Bool.not_true, Bool.not_false, Bool.not_not, decide_not, trusted, Bool.and_eq_true, decide_eq_true_eq, and_true] | skip)
    first | done | omega | trivial
  · (first | simp (disch := omega) only [w64, wi64, IntKind.wrap_u8', IntKind.wrap_u16, Int.zero_add, Int.add_zero, Int.sub_zero, and128, Ly.and15, not8, and255, i64_and65535, tmodp, tdivp, aux8, cI, cond_true, cond_false, Bool.not_true, Bool.not_false, Bool.not_not, decide_not, trusted, Bool.and_eq_true, decide_eq_true_eq, and_true] | skip)
    first | done | rfl | exact tup_ext (by omega) (by first | rfl | (simp only [decide_eq_decide]; omega)) (by first | rfl | (simp only [decide_eq_decide]; omega) | (rw [← decide_not, decide_eq_decide]; omega) | (rw [Bool.eq_iff_iff]; simp only [Bool.not_eq_true', decide_eq_false_iff_not, decide_eq_true_eq]; omega)) | (simp only [Int.emod_emod_of_dvd _ (Int.dvd_refl _)])
theorem add13T_ok (a b : Int) (ha : 0 ≤ a) (ha' : a ≤ 255) (hb : 0 ≤ b) (hb' : b ≤ 255) : trusted (add13TT0 a b) ∧ add13TV0 a b = addR a b true := by
  unfold add13TT0 add13TV0 addR
  refine ⟨?_, ?_⟩
  · (first | simp (disch := omega) only [w64, wi64, IntKind.wrap_u8', IntKind.wrap_u16, Int.zero_add, Int.add_zero, Int.sub_zero, and128, Ly.and15, not8, and255, i64_and65535, tmodp, tdivp, aux8, cI, cond_true, cond_false, Bool.not_true, Bool.not_false, Bool.not_not, decide_not, trusted, Bool.and_eq_true, decide_eq_true_eq, and_true] | skip)
    first | done | omega | trivial
  · (first | simp (disch := omega) only [w64, wi64, IntKind.wrap_u8', IntKind.wrap_u16, Int.zero_add, Int.add_zero, Int.sub_zero, and128, Ly.and15, not8, and255, i64_and65535, tmodp, tdivp, aux8, cI, cond_true, cond_false, Bool.not_true, Bool.not_false, Bool.not_not, decide_not, trusted, Bool.and_eq_true, decide_eq_true_eq, and_true] | skip)
    first | done | rfl | exact tup_ext (by omega) (by first | rfl | (simp only [decide_eq_decide]; omega)) (by first | rfl | (simp only [decide_eq_decide]; omega) | (rw [← decide_not, decide_eq_decide]; omega) | (rw [Bool.eq_iff_iff]; simp only [Bool.not_eq_true', decide_eq_false_iff_not, decide_eq_true_eq]; omega)) | (simp only [Int.emod_emod_of_dvd _ (Int.dvd_refl _)])
theorem add23F_ok (a b : Int) (ha : 0 ≤ a) (ha' : a ≤ 255) (hb : 0 ≤ b) (hb' : b ≤ 255) : trusted (add23FT0 a b) ∧ add23FV0 a b = addR a b false := by
  unfold add23FT0 add23FV0 addR
  refine ⟨?_, ?_⟩
  · (first | simp (disch := omega) only [w64, wi64, IntKind.wrap_u8', IntKind.wrap_u16, Int.zero_add, Int.add_zero, Int.sub_zero, and128, Ly.and15, not8, and255, i64_and65535, tmodp, tdivp, aux8, cI, cond_true, cond_false, Bool.not_true, Bool.not_false, Bool.not_not, decide_not, trusted, Bool.and_eq_true, decide_eq_true_eq, and_true] | skip)
    first | done | omega | trivial
  · (first | simp (disch := omega) only [w64, wi64, IntKind.wrap_u8', IntKind.wrap_u16, Int.zero_add, Int.add_zero, Int.sub_zero, and128, Ly.and15, not8, and255, i64_and65535, tmodp, tdivp, aux8, cI, cond_true, cond_false, Bool.not_true, Bool.not_false, Bool.not_not, decide_not, trusted, Bool.and_eq_true, decide_eq_true_eq, and_true] | skip)
    first | done | rfl | exact tup_ext (by omega) (by first | rfl | (simp only [decide_eq_decide]; omega)) (by first | rfl | (simp only [decide_eq_decide]; omega) | (rw [← decide_not, decide_eq_decide]; omega) | (rw [Bool.eq_iff_iff]; simp only [Bool.not_eq_true', decide_eq_false_iff_not, decide_eq_true_eq]; omega)) | (simp only [Int.emod_emod_of_dvd _ (Int.dvd_refl _)])
theorem add23T_ok (a b : Int) (ha : 0 ≤ a) (ha' : a ≤ 255) (hb : 0 ≤ b) (hb' : b ≤ 255) : trusted (add23TT0 a b) ∧ add23TV0 a b = addR a b true := by
  unfold add23TT0 add23TV0 addR
  refine ⟨?_, ?_⟩
  · (first | simp (disch := omega) only [w64, wi64, IntKind.wrap_u8', IntKind.wrap_u16, Int.zero_add, Int.add_zero, Int.sub_zero, and128, Ly.and15, not8, and255, i64_and65535, tmodp, tdivp, aux8, cI, cond_true, cond_false, Bool.not_true, Bool.not_false, Bool.not_not, decide_not, trusted, Bool.and_eq_true, decide_eq_true_eq, and_true] | skip)
    first | done | omega | trivial
  · (first | simp (disch := omega) only [w64, wi64, IntKind.wrap_u8', IntKind.wrap_u16, Int.zero_add, Int.add_zero, Int.sub_zero, and128, Ly.and15, not8, and255, i64_and65535, tmodp, tdivp, aux8, cI, cond_true, cond_false, Bool.not_true, Bool.not_false, Bool.not_not, decide_not, trusted, Bool.and_eq_true, decide_eq_true_eq, and_true] | skip)
    first | done | rfl | exact tup_ext (by omega) (by first | rfl | (simp only [decide_eq_decide]; omega)) (by first | rfl | (simp only [decide_eq_decide]; omega) | (rw [← decide_not, decide_eq_decide]; omega) | (rw [Bool.eq_iff_iff]; simp only [Bool.not_eq_true', decide_eq_false_iff_not, decide_eq_true_eq]; omega)) | (simp only [Int.emod_emod_of_dvd _ (Int.dvd_refl _)])
theorem sub24F_ok (a b : Int) (ha : 0 ≤ a) (ha' : a ≤ 255) (hb : 0 ≤ b) (hb' : b ≤ 255) : trusted (sub24FT0 a b) ∧ sub24FV0 a b = subR a b false := by
  unfold sub24FT0 sub24FV0 subR
  refine ⟨?_, ?_⟩
  · (first | simp (disch := omega) only [w64, wi64, IntKind.wrap_u8', IntKind.wrap_u16, Int.zero_add, Int.add_zero, Int.sub_zero, and128, Ly.and15, not8, and255, i64_and65535, tmodp, tdivp, aux8, cI, cond_true, cond_false, Bool.not_true, Bool.not_false, Bool.not_not, decide_not, trusted, Bool.and_eq_true, decide_eq_true_eq, and_true] | skip)
    first | done | omega | trivial
  · (first | simp (disch := omega) only [w64, wi64, IntKind.wrap_u8', IntKind.wrap_u16, Int.zero_add, Int.add_zero, Int.sub_zero, and128, Ly.and15, not8, and255, i64_and65535, tmodp, tdivp, aux8, cI, cond_true, cond_false, Bool.not_true, Bool.not_false, Bool.not_not, decide_not, trusted, Bool.and_eq_true, decide_eq_true_eq, and_true] | skip)
    first | done | rfl | exact tup_ext (by omega) (by first | rfl | (simp only [decide_eq_decide]; omega)) (by first | rfl | (simp only [decide_eq_decide]; omega) | (rw [← decide_not, decide_eq_decide]; omega) | (rw [Bool.eq_iff_iff]; simp only [Bool.not_eq_true', decide_eq_false_iff_not, decide_eq_true_eq]; omega)) | (simp only [Int.emod_emod_of_dvd _ (Int.dvd_refl _)])
theorem sub24T_ok (a b : Int) (ha : 0 ≤ a) (ha' : a ≤ 255) (hb : 0 ≤ b) (hb' : b ≤ 255) : trusted (sub24TT0 a b) ∧ sub24TV0 a b = subR a b true := by
  have hs : subR a b true = tup ((a - b - 1) % 256) (decide (15 < a % 16 + 15 - b % 16 + 0)) (decide (a - b - 1 < 0)) := rfl
  rw [hs]; unfold sub24TT0 sub24TV0
  refine ⟨?_, ?_⟩
  · (first | simp (disch := omega) only [w64, wi64, IntKind.wrap_u8', IntKind.wrap_u16, Int.zero_add, Int.add_zero, Int.sub_zero, and128, Ly.and15, not8, and255, i64_and65535, tmodp, tdivp, aux8, cI, cond_true, cond_false, Bool.not_true, Bool.not_false, Bool.not_not, decide_not, trusted, Bool.and_eq_true, decide_eq_true_eq, and_true] | skip)
    first | done | omega | trivial
  · (first | simp (disch := omega) only [w64, wi64, IntKind.wrap_u8', IntKind.wrap_u16, Int.zero_add, Int.add_zero, Int.sub_zero, and128, Ly.and15, not8, and255, i64_and65535, tmodp, tdivp, aux8, cI, cond_true, cond_false, Bool.not_true, Bool.not_false, Bool.not_not, decide_not, trusted, Bool.and_eq_true, decide_eq_true_eq, and_true] | skip)
    first | done | rfl | exact tup_ext (by omega) (by first | rfl | (simp only [decide_eq_decide]; omega)) (by first | rfl | (simp only [decide_eq_decide]; omega) | (rw [← decide_not, decide_eq_decide]; omega) | (rw [Bool.eq_iff_iff]; simp only [Bool.not_eq_true', decide_eq_false_iff_not, decide_eq_true_eq]; omega)) | (simp only [Int.emod_emod_of_dvd _ (Int.dvd_refl _)])
theorem sub25F_ok (a b : Int) (ha : 0 ≤ a) (ha' : a ≤ 255) (hb : 0 ≤ b) (hb' : b ≤ 255) : trusted (sub25FT0 a b) ∧ sub25FV0 a b = subR a b false := by
  unfold sub25FT0 sub25FV0 subR
  refine ⟨?_, ?_⟩
  · (first | simp (disch := omega) only [w64, wi64, IntKind.wrap_u8', IntKind.wrap_u16, Int.zero_add, Int.add_zero, Int.sub_zero, and128, Ly.and15, not8, and255, i64_and65535, tmodp, tdivp, aux8, cI, cond_true, cond_false, Bool.not_true, Bool.not_false, Bool.not_not, decide_not, trusted, Bool.and_eq_true, decide_eq_true_eq, and_true] | skip)
    first | done | omega | trivial
  · (first | simp (disch := omega) only [w64, wi64, IntKind.wrap_u8', IntKind.wrap_u16, Int.zero_add, Int.add_zero, Int.sub_zero, and128, Ly.and15, not8, and255, i64_and65535, tmodp, tdivp, aux8, cI, cond_true, cond_false, Bool.not_true, Bool.not_false, Bool.not_not, decide_not, trusted, Bool.and_eq_true, decide_eq_true_eq, and_true] | skip)
    first | done | rfl | exact tup_ext (by omega) (by first | rfl | (simp only [decide_eq_decide]; omega)) (by first | rfl | (simp only [decide_eq_decide]; omega) | (rw [← decide_not, decide_eq_decide]; omega) | (rw [Bool.eq_iff_iff]; simp only [Bool.not_eq_true', decide_eq_false_iff_not, decide_eq_true_eq]; omega)) | (simp only [Int.emod_emod_of_dvd _ (Int.dvd_refl _)])
theorem sub25T_ok (a b : Int) (ha : 0 ≤ a) (ha' : a ≤ 255) (hb : 0 ≤ b) (hb' : b ≤ 255) : trusted (sub25TT0 a b) ∧ sub25TV0 a b = subR a b true := by
  unfold sub25TT0 sub25TV0 subR
  refine ⟨?_, ?_⟩
  · (first | simp (disch := omega) only [w64, wi64, IntKind.wrap_u8', IntKind.wrap_u16, Int.zero_add, Int.add_zero, Int.sub_zero, and128, Ly.and15, not8, and255, i64_and65535, tmodp, tdivp, aux8, cI, cond_true, cond_false, Bool.not_true, Bool.not_false, Bool.not_not, decide_not, trusted, Bool.and_eq_true, decide_eq_true_eq, and_true] | skip)
    first | done | omega | trivial
  · (first | simp (disch := omega) only [w64, wi64, IntKind.wrap_u8', IntKind.wrap_u16, Int.zero_add, Int.add_zero, Int.sub_zero, and128, Ly.and15, not8, and255, i64_and65535, tmodp, tdivp, aux8, cI, cond_true, cond_false, Bool.not_true, Bool.not_false, Bool.not_not, decide_not, trusted, Bool.and_eq_true, decide_eq_true_eq, and_true] | skip)
    first | done | rfl | exact tup_ext (by omega) (by first | rfl | (simp only [decide_eq_decide]; omega)) (by first | rfl | (simp only [decide_eq_decide]; omega) | (rw [← decide_not, decide_eq_decide]; omega) | (rw [Bool.eq_iff_iff]; simp only [Bool.not_eq_true', decide_eq_false_iff_not, decide_eq_true_eq]; omega)) | (simp only [Int.emod_emod_of_dvd _ (Int.dvd_refl _)])
theorem and15_ok (a b : Int) (ha : 0 ≤ a) (ha' : a ≤ 255) (hb : 0 ≤ b) (hb' : b ≤ 255) : trusted (and15T0 a b) ∧ and15V0 a b = andR a b := by
  have hq := bitsb .and a b; have hr := bitsb .or a b; have hs := bitsb .xor a b
  obtain ⟨hq0, hq1⟩ := hq; obtain ⟨hr0, hr1⟩ := hr; obtain ⟨hs0, hs1⟩ := hs
  unfold and15T0 and15V0 andR
  refine ⟨?_, ?_⟩
  · (first | simp (disch := omega) only [w64, wi64, IntKind.wrap_u8', IntKind.wrap_u16, Int.zero_add, Int.add_zero, Int.sub_zero, and128, Ly.and15, not8, and255, i64_and65535, tmodp, tdivp, aux8, cI, cond_true, cond_false, Bool.not_true, Bool.not_false, Bool.not_not, decide_not, trusted, Bool.and_eq_true, decide_eq_true_eq, and_true] | skip)
    first | done | omega | trivial
  · (first | simp (disch := omega) only [w64, wi64, IntKind.wrap_u8', IntKind.wrap_u16, Int.zero_add, Int.add_zero, Int.sub_zero, and128, Ly.and15, not8, and255, i64_and65535, tmodp, tdivp, aux8, cI, cond_true, cond_false, Bool.not_true, Bool.not_false, Bool.not_not, decide_not, trusted, Bool.and_eq_true, decide_eq_true_eq, and_true] | skip)
    first | done | rfl | exact tup_ext (by omega) (by first | rfl | (simp only [decide_eq_decide]; omega)) (by first | rfl | (simp only [decide_eq_decide]; omega) | (rw [← decide_not, decide_eq_decide]; omega) | (rw [Bool.eq_iff_iff]; simp only [Bool.not_eq_true', decide_eq_false_iff_not, decide_eq_true_eq]; omega)) | (simp only [Int.emod_emod_of_dvd _ (Int.dvd_refl _)])
theorem and18_ok (a b : Int) (ha : 0 ≤ a) (ha' : a ≤ 255) (hb : 0 ≤ b) (hb' : b ≤ 255) : trusted (and18T0 a b) ∧ and18V0 a b = andR a b := by
  have hq := bitsb .and a b; have hr := bitsb .or a b; have hs := bitsb .xor a b
  obtain ⟨hq0, hq1⟩ := hq; obtain ⟨hr0, hr1⟩ := hr; obtain ⟨hs0, hs1⟩ := hs
  unfold and18T0 and18V0 andR
  refine ⟨?_, ?_⟩
  · (first | simp (disch := omega) only [w64, wi64, IntKind.wrap_u8', IntKind.wrap_u16, Int.zero_add, Int.add_zero, Int.sub_zero, and128, Ly.and15, not8, and255, i64_and65535, tmodp, tdivp, aux8, cI, cond_true, cond_false, Bool.not_true, Bool.not_false, Bool.not_not, decide_not, trusted, Bool.and_eq_true, decide_eq_true_eq, and_true] | skip)
    first | done | omega | trivial
  · (first | simp (disch := omega) only [w64, wi64, IntKind.wrap_u8', IntKind.wrap_u16, Int.zero_add, Int.add_zero, Int.sub_zero, and128, Ly.and15, not8, and255, i64_and65535, tmodp, tdivp, aux8, cI, cond_true, cond_false, Bool.not_true, Bool.not_false, Bool.not_not, decide_not, trusted, Bool.and_eq_true, decide_eq_true_eq, and_true] | skip)
    first | done | rfl | exact tup_ext (by omega) (by first | rfl | (simp only [decide_eq_decide]; omega)) (by first | rfl | (simp only [decide_eq_decide]; omega) | (rw [← decide_not, decide_eq_decide]; omega) | (rw [Bool.eq_iff_iff]; simp only [Bool.not_eq_true', decide_eq_false_iff_not, decide_eq_true_eq]; omega)) | (simp only [Int.emod_emod_of_dvd _ (Int.dvd_refl _)])
theorem or16_ok (a b : Int) (ha : 0 ≤ a) (ha' : a ≤ 255) (hb : 0 ≤ b) (hb' : b ≤ 255) : trusted (or16T0 a b) ∧ or16V0 a b = orR a b := by
  have hq := bitsb .and a b; have hr := bitsb .or a b; have hs := bitsb .xor a b
  obtain ⟨hq0, hq1⟩ := hq; obtain ⟨hr0, hr1⟩ := hr; obtain ⟨hs0, hs1⟩ := hs
  unfold or16T0 or16V0 orR
  refine ⟨?_, ?_⟩
  · (first | simp (disch := omega) only [w64, wi64, IntKind.wrap_u8', IntKind.wrap_u16, Int.zero_add, Int.add_zero, Int.sub_zero, and128, Ly.and15, not8, and255, i64_and65535, tmodp, tdivp, aux8, cI, cond_true, cond_false, Bool.not_true, Bool.not_false, Bool.not_not, decide_not, trusted, Bool.and_eq_true, decide_eq_true_eq, and_true] | skip)
    first | done | omega | trivial
  · (first | simp (disch := omega) only [w64, wi64, IntKind.wrap_u8', IntKind.wrap_u16, Int.zero_add, Int.add_zero, Int.sub_zero, and128, Ly.and15, not8, and255, i64_and65535, tmodp, tdivp, aux8, cI, cond_true, cond_false, Bool.not_true, Bool.not_false, Bool.not_not, decide_not, trusted, Bool.and_eq_true, decide_eq_true_eq, and_true] | skip)
    first | done | rfl | exact tup_ext (by omega) (by first | rfl | (simp only [decide_eq_decide]; omega)) (by first | rfl | (simp only [decide_eq_decide]; omega) | (rw [← decide_not, decide_eq_decide]; omega) | (rw [Bool.eq_iff_iff]; simp only [Bool.not_eq_true', decide_eq_false_iff_not, decide_eq_true_eq]; omega)) | (simp only [Int.emod_emod_of_dvd _ (Int.dvd_refl _)])
theorem or19_ok (a b : Int) (ha : 0 ≤ a) (ha' : a ≤ 255) (hb : 0 ≤ b) (hb' : b ≤ 255) : trusted (or19T0 a b) ∧ or19V0 a b = orR a b := by
  have hq := bitsb .and a b; have hr := bitsb .or a b; have hs := bitsb .xor a b
  obtain ⟨hq0, hq1⟩ := hq; obtain ⟨hr0, hr1⟩ := hr; obtain ⟨hs0, hs1⟩ := hs
  unfold or19T0 or19V0 orR
  refine ⟨?_, ?_⟩
  · (first | simp (disch := omega) only [w64, wi64, IntKind.wrap_u8', IntKind.wrap_u16, Int.zero_add, Int.add_zero, Int.sub_zero, and128, Ly.and15, not8, and255, i64_and65535, tmodp, tdivp, aux8, cI, cond_true, cond_false, Bool.not_true, Bool.not_false, Bool.not_not, decide_not, trusted, Bool.and_eq_true, decide_eq_true_eq, and_true] | skip)
    first | done | omega | trivial
  · (first | simp (disch := omega) only [w64, wi64, IntKind.wrap_u8', IntKind.wrap_u16, Int.zero_add, Int.add_zero, Int.sub_zero, and128, Ly.and15, not8, and255, i64_and65535, tmodp, tdivp, aux8, cI, cond_true, cond_false, Bool.not_true, Bool.not_false, Bool.not_not, decide_not, trusted, Bool.and_eq_true, decide_eq_true_eq, and_true] | skip)
    first | done | rfl | exact tup_ext (by omega) (by first | rfl | (simp only [decide_eq_decide]; omega)) (by first | rfl | (simp only [decide_eq_decide]; omega) | (rw [← decide_not, decide_eq_decide]; omega) | (rw [Bool.eq_iff_iff]; simp only [Bool.not_eq_true', decide_eq_false_iff_not, decide_eq_true_eq]; omega)) | (simp only [Int.emod_emod_of_dvd _ (Int.dvd_refl _)])
theorem xor17_ok (a b : Int) (ha : 0 ≤ a) (ha' : a ≤ 255) (hb : 0 ≤ b) (hb' : b ≤ 255) : trusted (xor17T0 a b) ∧ xor17V0 a b = xorR a b := by
  have hq := bitsb .and a b; have hr := bitsb .or a b; have hs := bitsb .xor a b
  obtain ⟨hq0, hq1⟩ := hq; obtain ⟨hr0, hr1⟩ := hr; obtain ⟨hs0, hs1⟩ := hs
  unfold xor17T0 xor17V0 xorR
  refine ⟨?_, ?_⟩
  · (first | simp (disch := omega) only [w64, wi64, IntKind.wrap_u8', IntKind.wrap_u16, Int.zero_add, Int.add_zero, Int.sub_zero, and128, Ly.and15, not8, and255, i64_and65535, tmodp, tdivp, aux8, cI, cond_true, cond_false, Bool.not_true, Bool.not_false, Bool.not_not, decide_not, trusted, Bool.and_eq_true, decide_eq_true_eq, and_true] | skip)
    first | done | omega | trivial
  · (first | simp (disch := omega) only [w64, wi64, IntKind.wrap_u8', IntKind.wrap_u16, Int.zero_add, Int.add_zero, Int.sub_zero, and128, Ly.and15, not8, and255, i64_and65535, tmodp, tdivp, aux8, cI, cond_true, cond_false, Bool.not_true, Bool.not_false, Bool.not_not, decide_not, trusted, Bool.and_eq_true, decide_eq_true_eq, and_true] | skip)
    first | done | rfl | exact tup_ext (by omega) (by first | rfl | (simp only [decide_eq_decide]; omega)) (by first | rfl | (simp only [decide_eq_decide]; omega) | (rw [← decide_not, decide_eq_decide]; omega) | (rw [Bool.eq_iff_iff]; simp only [Bool.not_eq_true', decide_eq_false_iff_not, decide_eq_true_eq]; omega)) | (simp only [Int.emod_emod_of_dvd _ (Int.dvd_refl _)])
theorem xor20_ok (a b : Int) (ha : 0 ≤ a) (ha' : a ≤ 255) (hb : 0 ≤ b) (hb' : b ≤ 255) : trusted (xor20T0 a b) ∧ xor20V0 a b = xorR a b := by
  have hq := bitsb .and a b; have hr := bitsb .or a b; have hs := bitsb .xor a b
  obtain ⟨hq0, hq1⟩ := hq; obtain ⟨hr0, hr1⟩ := hr; obtain ⟨hs0, hs1⟩ := hs
  unfold xor20T0 xor20V0 xorR
  refine ⟨?_, ?_⟩
  · (first | simp (disch := omega) only [w64, wi64, IntKind.wrap_u8', IntKind.wrap_u16, Int.zero_add, Int.add_zero, Int.sub_zero, and128, Ly.and15, not8, and255, i64_and65535, tmodp, tdivp, aux8, cI, cond_true, cond_false, Bool.not_true, Bool.not_false, Bool.not_not, decide_not, trusted, Bool.and_eq_true, decide_eq_true_eq, and_true] | skip)
    first | done | omega | trivial
  · (first | simp (disch := omega) only [w64, wi64, IntKind.wrap_u8', IntKind.wrap_u16, Int.zero_add, Int.add_zero, Int.sub_zero, and128, Ly.and15, not8, and255, i64_and65535, tmodp, tdivp, aux8, cI, cond_true, cond_false, Bool.not_true, Bool.not_false, Bool.not_not, decide_not, trusted, Bool.and_eq_true, decide_eq_true_eq, and_true] | skip)
    first | done | rfl | exact tup_ext (by omega) (by first | rfl | (simp only [decide_eq_decide]; omega)) (by first | rfl | (simp only [decide_eq_decide]; omega) | (rw [← decide_not, decide_eq_decide]; omega) | (rw [Bool.eq_iff_iff]; simp only [Bool.not_eq_true', decide_eq_false_iff_not, decide_eq_true_eq]; omega)) | (simp only [Int.emod_emod_of_dvd _ (Int.dvd_refl _)])
theorem add22_ok (a b : Int) (ha : 0 ≤ a) (ha' : a ≤ 65535) (hb : 0 ≤ b) (hb' : b ≤ 65535) : trusted (add22T0 a b) ∧ add22V0 a b = add16R a b := by
  unfold add22T0 add22V0 add16R
  refine ⟨?_, ?_⟩
  · (first | simp (disch := omega) only [w64, wi64, IntKind.wrap_u8', IntKind.wrap_u16, Int.zero_add, Int.add_zero, Int.sub_zero, and128, Ly.and15, not8, and255, i64_and65535, tmodp, tdivp, aux8, cI, cond_true, cond_false, Bool.not_true, Bool.not_false, Bool.not_not, decide_not, trusted, Bool.and_eq_true, decide_eq_true_eq, and_true] | skip)
    first | done | omega | trivial
  · (first | simp (disch := omega) only [w64, wi64, IntKind.wrap_u8', IntKind.wrap_u16, Int.zero_add, Int.add_zero, Int.sub_zero, and128, Ly.and15, not8, and255, i64_and65535, tmodp, tdivp, aux8, cI, cond_true, cond_false, Bool.not_true, Bool.not_false, Bool.not_not, decide_not, trusted, Bool.and_eq_true, decide_eq_true_eq, and_true] | skip)
    first | done | rfl | exact tup_ext (by omega) (by first | rfl | (simp only [decide_eq_decide]; omega)) (by first | rfl | (simp only [decide_eq_decide]; omega) | (rw [← decide_not, decide_eq_decide]; omega) | (rw [Bool.eq_iff_iff]; simp only [Bool.not_eq_true', decide_eq_false_iff_not, decide_eq_true_eq]; omega)) | (simp only [Int.emod_emod_of_dvd _ (Int.dvd_refl _)])
theorem add41_ok (a b : Int) (ha : 0 ≤ a) (ha' : a ≤ 65535) (hb : 0 ≤ b) (hb' : b ≤ 65535) : trusted (add41T0 a b) ∧ add41V0 a b = add16R a b := by
  unfold add41T0 add41V0 add16R
  refine ⟨?_, ?_⟩
  · (first | simp (disch := omega) only [w64, wi64, IntKind.wrap_u8', IntKind.wrap_u16, Int.zero_add, Int.add_zero, Int.sub_zero, and128, Ly.and15, not8, and255, i64_and65535, tmodp, tdivp, aux8, cI, cond_true, cond_false, Bool.not_true, Bool.not_false, Bool.not_not, decide_not, trusted, Bool.and_eq_true, decide_eq_true_eq, and_true] | skip)
    first | done | omega | trivial
  · (first | simp (disch := omega) only [w64, wi64, IntKind.wrap_u8', IntKind.wrap_u16, Int.zero_add, Int.add_zero, Int.sub_zero, and128, Ly.and15, not8, and255, i64_and65535, tmodp, tdivp, aux8, cI, cond_true, cond_false, Bool.not_true, Bool.not_false, Bool.not_not, decide_not, trusted, Bool.and_eq_true, decide_eq_true_eq, and_true] | skip)
    first | done | rfl | exact tup_ext (by omega) (by first | rfl | (simp only [decide_eq_decide]; omega)) (by first | rfl | (simp only [decide_eq_decide]; omega) | (rw [← decide_not, decide_eq_decide]; omega) | (rw [Bool.eq_iff_iff]; simp only [Bool.not_eq_true', decide_eq_false_iff_not, decide_eq_true_eq]; omega)) | (simp only [Int.emod_emod_of_dvd _ (Int.dvd_refl _)])
end Go.Proofs.Ytpggoincnebfnaa
namespace Go.Proofs.Ytpggoincnebfnaa
open Go Go.Ly Go.RowKit
def incR (a : Int) (c : Bool) : Value := tup ((a + 1) % 256) (decide (15 < a % 16 + 1)) c
def decR (a : Int) (c : Bool) : Value := tup ((a - 1) % 256) (decide (15 < a % 16 + 15)) c
def daaL (a : Int) (x : Bool) : Bool := decide (9 < a % 16) || x
def daaH (a : Int) (x c : Bool) : Bool := decide (9 < (a + 6 * cI (daaL a x)) / 16) || c
def daaR (a : Int) (x c : Bool) : Value := tup ((a + 6 * cI (daaL a x) + 96 * cI (daaH a x c)) % 256) (decide (9 < a % 16)) (daaH a x c)
def turnR (k a : Int) (c : Bool) : Value := bif k == 0 then .tuple ⟨[.int .u8 ((2 * a + a / 128) % 256), .bool (decide (128 ≤ a))]⟩ else bif k == 1 then .tuple ⟨[.int .u8 (a / 2 + a % 2 * 128), .bool (a % 2 == 1)]⟩ else bif k == 2 then .tuple ⟨[.int .u8 ((2 * a + cI c) % 256), .bool (decide (128 ≤ a))]⟩ else bif k == 3 then .tuple ⟨[.int .u8 (a / 2 + 128 * cI c), .bool (a % 2 == 1)]⟩ else .tuple ⟨[.int .u8 a, .bool c]⟩
def ofR (a : Int) : Value := .agg ⟨[.bool (decide (128 ≤ a)), .bool (a / 64 % 2 == 1), .bool (a / 16 % 2 == 1), .bool (a / 4 % 2 == 1), .bool (a % 2 == 1)]⟩
def pswR (s z x p c : Bool) : Value := .int .u8 (128 * cI s + 64 * cI z + 16 * cI x + 4 * cI p + 2 + cI c)
def con3 (r : Int → Int → Bool → Value) (l : List Value) : Option (Bool × Value) := match l with
  | [.int .u8 a, .int .u8 b, .bool c] => some (inb a && inb b, r a b c)
  | _ => none
def con2 (r : Int → Int → Value) (l : List Value) : Option (Bool × Value) := match l with
  | [.int .u8 a, .int .u8 b] => some (inb a && inb b, r a b)
  | _ => none
def conW (l : List Value) : Option (Bool × Value) := match l with
  | [.int .u16 a, .int .u16 b] => some ((decide (0 ≤ a) && decide (a ≤ 65535)) && (decide (0 ≤ b) && decide (b ≤ 65535)), add16R a b)
  | _ => none
def conF (r : Int → Bool → Bool → Bool → Bool → Bool → Value) (l : List Value) : Option (Bool × Value) := match l with
  | [.int .u8 a, .agg ⟨[.bool s, .bool z, .bool x, .bool p, .bool c]⟩] => some (inb a, r a s z x p c)
  | _ => none
def conT (l : List Value) : Option (Bool × Value) := match l with
  | [.int .i64 k, .int .u8 a, .bool c] => some (inb a, turnR k a c)
  | _ => none
def con1b (r : Int → Value) (l : List Value) : Option (Bool × Value) := match l with
  | [.int .u8 a] => some (inb a, r a)
  | _ => none
def conP (l : List Value) : Option (Bool × Value) := match l with
  | [.agg ⟨[.bool s, .bool z, .bool x, .bool p, .bool c]⟩] => some (true, pswR s z x p c)
  | _ => none
theorem turn_plain (k a : Int) (c : Bool) : plain (turnR k a c) = true := by
  unfold turnR
  cases (k == 0) <;> cases (k == 1) <;> cases (k == 2) <;> cases (k == 3) <;> simp [plain, plainL]
theorem get13 : wctx.fn.get 50 = some Try.f50 := by kernel_rfl
theorem get23 : wctx.fn.get 67 = some Try.f67 := by kernel_rfl
theorem get24 : wctx.fn.get 51 = some Try.f51 := by kernel_rfl
theorem get25 : wctx.fn.get 68 = some Try.f68 := by kernel_rfl
theorem get15 : wctx.fn.get 52 = some Try.f52 := by kernel_rfl
theorem get18 : wctx.fn.get 69 = some Try.f69 := by kernel_rfl
theorem get16 : wctx.fn.get 54 = some Try.f54 := by kernel_rfl
theorem get19 : wctx.fn.get 71 = some Try.f71 := by kernel_rfl
theorem get17 : wctx.fn.get 53 = some Try.f53 := by kernel_rfl
theorem get20 : wctx.fn.get 70 = some Try.f70 := by kernel_rfl
theorem get22 : wctx.fn.get 45 = some Try.f45 := by kernel_rfl
theorem get41 : wctx.fn.get 62 = some Try.f62 := by kernel_rfl
theorem get27 : wctx.fn.get 47 = some Try.f47 := by kernel_rfl
theorem get30 : wctx.fn.get 64 = some Try.f64 := by kernel_rfl
theorem get29 : wctx.fn.get 48 = some Try.f48 := by kernel_rfl
theorem get31 : wctx.fn.get 65 = some Try.f65 := by kernel_rfl
theorem get14 : wctx.fn.get 81 = some Try.f81 := by kernel_rfl
theorem get32 : wctx.fn.get 91 = some Try.f91 := by kernel_rfl
theorem get39 : wctx.fn.get 82 = some Try.f82 := by kernel_rfl
theorem get40 : wctx.fn.get 92 = some Try.f92 := by kernel_rfl
theorem get35 : wctx.fn.get 89 = some Try.f89 := by kernel_rfl
theorem get36 : wctx.fn.get 77 = some Try.f77 := by kernel_rfl
theorem ans13 : Answers Try.prog 50 (con3 addR) := by
  intro args g v h hg
  unfold con3 at h
  split at h
  · rename_i a b c
    simp only [Option.some.injEq, Prod.mk.injEq] at h
    obtain ⟨rfl, rfl⟩ := h
    simp only [Bool.and_eq_true, inb_iff] at hg
    obtain ⟨⟨h0, h1⟩, h2, h3⟩ := hg
    refine ⟨by simp [plain, plainL], tup_plain _ _ _, fun w => ?_⟩
    cases c with
    | false =>
      obtain ⟨ht, hv⟩ := add13F_ok a b h0 h1 h2 h3
      rw [← hv]
      exact calls_trust wok 20000 _ get13 (by kernel_rfl) (by simp [plain, plainL]) (by rw [hv]; exact tup_plain _ _ _) (add13FR0 a b) ht w
    | true =>
      obtain ⟨ht, hv⟩ := add13T_ok a b h0 h1 h2 h3
      rw [← hv]
      exact calls_trust wok 20000 _ get13 (by kernel_rfl) (by simp [plain, plainL]) (by rw [hv]; exact tup_plain _ _ _) (add13TR0 a b) ht w
  · cases h
theorem ans23 : Answers Try.prog 67 (con3 addR) := by
  intro args g v h hg
  unfold con3 at h
  split at h
  · rename_i a b c
    simp only [Option.some.injEq, Prod.mk.injEq] at h
    obtain ⟨rfl, rfl⟩ := h
    simp only [Bool.and_eq_true, inb_iff] at hg
    obtain ⟨⟨h0, h1⟩, h2, h3⟩ := hg
    refine ⟨by simp [plain, plainL], tup_plain _ _ _, fun w => ?_⟩
    cases c with
    | false =>
      obtain ⟨ht, hv⟩ := add23F_ok a b h0 h1 h2 h3
      rw [← hv]
      exact calls_trust wok 20000 _ get23 (by kernel_rfl) (by simp [plain, plainL]) (by rw [hv]; exact tup_plain _ _ _) (add23FR0 a b) ht w
    | true =>
      obtain ⟨ht, hv⟩ := add23T_ok a b h0 h1 h2 h3
      rw [← hv]
      exact calls_trust wok 20000 _ get23 (by kernel_rfl) (by simp [plain, plainL]) (by rw [hv]; exact tup_plain _ _ _) (add23TR0 a b) ht w
  · cases h
theorem ans24 : Answers Try.prog 51 (con3 subR) := by
  intro args g v h hg
  unfold con3 at h
  split at h
  · rename_i a b c
    simp only [Option.some.injEq, Prod.mk.injEq] at h
    obtain ⟨rfl, rfl⟩ := h
    simp only [Bool.and_eq_true, inb_iff] at hg
    obtain ⟨⟨h0, h1⟩, h2, h3⟩ := hg
    refine ⟨by simp [plain, plainL], tup_plain _ _ _, fun w => ?_⟩
    cases c with
    | false =>
      obtain ⟨ht, hv⟩ := sub24F_ok a b h0 h1 h2 h3
      rw [← hv]
      exact calls_trust wok 20000 _ get24 (by kernel_rfl) (by simp [plain, plainL]) (by rw [hv]; exact tup_plain _ _ _) (sub24FR0 a b) ht w
    | true =>
      obtain ⟨ht, hv⟩ := sub24T_ok a b h0 h1 h2 h3
      rw [← hv]
      exact calls_trust wok 20000 _ get24 (by kernel_rfl) (by simp [plain, plainL]) (by rw [hv]; exact tup_plain _ _ _) (sub24TR0 a b) ht w
  · cases h
theorem ans25 : Answers Try.prog 68 (con3 subR) := by
  intro args g v h hg
  unfold con3 at h
  split at h
  · rename_i a b c
    simp only [Option.some.injEq, Prod.mk.injEq] at h
    obtain ⟨rfl, rfl⟩ := h
    simp only [Bool.and_eq_true, inb_iff] at hg
    obtain ⟨⟨h0, h1⟩, h2, h3⟩ := hg
    refine ⟨by simp [plain, plainL], tup_plain _ _ _, fun w => ?_⟩
    cases c with
    | false =>
      obtain ⟨ht, hv⟩ := sub25F_ok a b h0 h1 h2 h3
      rw [← hv]
      exact calls_trust wok 20000 _ get25 (by kernel_rfl) (by simp [plain, plainL]) (by rw [hv]; exact tup_plain _ _ _) (sub25FR0 a b) ht w
    | true =>
      obtain ⟨ht, hv⟩ := sub25T_ok a b h0 h1 h2 h3
      rw [← hv]
      exact calls_trust wok 20000 _ get25 (by kernel_rfl) (by simp [plain, plainL]) (by rw [hv]; exact tup_plain _ _ _) (sub25TR0 a b) ht w
  · cases h
theorem ans15 : Answers Try.prog 52 (con2 andR) := by
  intro args g v h hg
  unfold con2 at h
  split at h
  · rename_i a b
    simp only [Option.some.injEq, Prod.mk.injEq] at h
    obtain ⟨rfl, rfl⟩ := h
    simp only [Bool.and_eq_true, inb_iff] at hg
    obtain ⟨⟨h0, h1⟩, h2, h3⟩ := hg
    refine ⟨by simp [plain, plainL], tup_plain _ _ _, fun w => ?_⟩
    obtain ⟨ht, hv⟩ := and15_ok a b h0 h1 h2 h3
    rw [← hv]
    exact calls_trust wok 20000 _ get15 (by kernel_rfl) (by simp [plain, plainL]) (by rw [hv]; exact tup_plain _ _ _) (and15R0 a b) ht w
  · cases h
theorem ans18 : Answers Try.prog 69 (con2 andR) := by
  intro args g v h hg
  unfold con2 at h
  split at h
  · rename_i a b
    simp only [Option.some.injEq, Prod.mk.injEq] at h
    obtain ⟨rfl, rfl⟩ := h
    simp only [Bool.and_eq_true, inb_iff] at hg
    obtain ⟨⟨h0, h1⟩, h2, h3⟩ := hg
    refine ⟨by simp [plain, plainL], tup_plain _ _ _, fun w => ?_⟩
    obtain ⟨ht, hv⟩ := and18_ok a b h0 h1 h2 h3
    rw [← hv]
    exact calls_trust wok 20000 _ get18 (by kernel_rfl) (by simp [plain, plainL]) (by rw [hv]; exact tup_plain _ _ _) (and18R0 a b) ht w
  · cases h
theorem ans16 : Answers Try.prog 54 (con2 orR) := by
  intro args g v h hg
  unfold con2 at h
  split at h
  · rename_i a b
    simp only [Option.some.injEq, Prod.mk.injEq] at h
    obtain ⟨rfl, rfl⟩ := h
    simp only [Bool.and_eq_true, inb_iff] at hg
    obtain ⟨⟨h0, h1⟩, h2, h3⟩ := hg
    refine ⟨by simp [plain, plainL], tup_plain _ _ _, fun w => ?_⟩
    obtain ⟨ht, hv⟩ := or16_ok a b h0 h1 h2 h3
    rw [← hv]
    exact calls_trust wok 20000 _ get16 (by kernel_rfl) (by simp [plain, plainL]) (by rw [hv]; exact tup_plain _ _ _) (or16R0 a b) ht w
  · cases h
theorem ans19 : Answers Try.prog 71 (con2 orR) := by
  intro args g v h hg
  unfold con2 at h
  split at h
  · rename_i a b
    simp only [Option.some.injEq, Prod.mk.injEq] at h
    obtain ⟨rfl, rfl⟩ := h
    simp only [Bool.and_eq_true, inb_iff] at hg
    obtain ⟨⟨h0, h1⟩, h2, h3⟩ := hg
    refine ⟨by simp [plain, plainL], tup_plain _ _ _, fun w => ?_⟩
    obtain ⟨ht, hv⟩ := or19_ok a b h0 h1 h2 h3
    rw [← hv]
    exact calls_trust wok 20000 _ get19 (by kernel_rfl) (by simp [plain, plainL]) (by rw [hv]; exact tup_plain _ _ _) (or19R0 a b) ht w
  · cases h
theorem ans17 : Answers Try.prog 53 (con2 xorR) := by
  intro args g v h hg
  unfold con2 at h
  split at h
  · rename_i a b
    simp only [Option.some.injEq, Prod.mk.injEq] at h
    obtain ⟨rfl, rfl⟩ := h
    simp only [Bool.and_eq_true, inb_iff] at hg
    obtain ⟨⟨h0, h1⟩, h2, h3⟩ := hg
    refine ⟨by simp [plain, plainL], tup_plain _ _ _, fun w => ?_⟩
    obtain ⟨ht, hv⟩ := xor17_ok a b h0 h1 h2 h3
    rw [← hv]
    exact calls_trust wok 20000 _ get17 (by kernel_rfl) (by simp [plain, plainL]) (by rw [hv]; exact tup_plain _ _ _) (xor17R0 a b) ht w
  · cases h
theorem ans20 : Answers Try.prog 70 (con2 xorR) := by
  intro args g v h hg
  unfold con2 at h
  split at h
  · rename_i a b
    simp only [Option.some.injEq, Prod.mk.injEq] at h
    obtain ⟨rfl, rfl⟩ := h
    simp only [Bool.and_eq_true, inb_iff] at hg
    obtain ⟨⟨h0, h1⟩, h2, h3⟩ := hg
    refine ⟨by simp [plain, plainL], tup_plain _ _ _, fun w => ?_⟩
    obtain ⟨ht, hv⟩ := xor20_ok a b h0 h1 h2 h3
    rw [← hv]
    exact calls_trust wok 20000 _ get20 (by kernel_rfl) (by simp [plain, plainL]) (by rw [hv]; exact tup_plain _ _ _) (xor20R0 a b) ht w
  · cases h
theorem ans22 : Answers Try.prog 45 conW := by
  intro args g v h hg
  unfold conW at h
  split at h
  · rename_i a b
    simp only [Option.some.injEq, Prod.mk.injEq] at h
    obtain ⟨rfl, rfl⟩ := h
    simp only [Bool.and_eq_true, decide_eq_true_eq] at hg
    obtain ⟨⟨h0, h1⟩, h2, h3⟩ := hg
    refine ⟨by simp [plain, plainL], by simp [add16R, plain, plainL], fun w => ?_⟩
    obtain ⟨ht, hv⟩ := add22_ok a b h0 h1 h2 h3
    rw [← hv]
    exact calls_trust wok 20000 _ get22 (by kernel_rfl) (by simp [plain, plainL]) (by rw [hv]; exact by simp [add16R, plain, plainL]) (add22R0 a b) ht w
  · cases h
theorem ans41 : Answers Try.prog 62 conW := by
  intro args g v h hg
  unfold conW at h
  split at h
  · rename_i a b
    simp only [Option.some.injEq, Prod.mk.injEq] at h
    obtain ⟨rfl, rfl⟩ := h
    simp only [Bool.and_eq_true, decide_eq_true_eq] at hg
    obtain ⟨⟨h0, h1⟩, h2, h3⟩ := hg
    refine ⟨by simp [plain, plainL], by simp [add16R, plain, plainL], fun w => ?_⟩
    obtain ⟨ht, hv⟩ := add41_ok a b h0 h1 h2 h3
    rw [← hv]
    exact calls_trust wok 20000 _ get41 (by kernel_rfl) (by simp [plain, plainL]) (by rw [hv]; exact by simp [add16R, plain, plainL]) (add41R0 a b) ht w
  · cases h
end Go.Proofs.Ytpggoincnebfnaa
namespace Go.Proofs.Ytpggoincnebfnaa
open Go Go.Ly Go.RowKit
theorem inc27_ok (a : Int) (s z x p c : Bool) (h0 : 0 ≤ a) (h1 : a ≤ 255) : (tok (inc27T0 a s z x p c) && peq (inc27V0 a s z x p c) (incR a c)) = true := by
  cases c
  · exact byte_all (p := fun a => (tok (inc27T0 a false false false false false) && peq (inc27V0 a false false false false false) (incR a false)) = true) (by decide +kernel) a h0 h1
  · exact byte_all (p := fun a => (tok (inc27T0 a false false false false true) && peq (inc27V0 a false false false false true) (incR a true)) = true) (by decide +kernel) a h0 h1
theorem ans27 : Answers Try.prog 47 (conF fun a _ _ _ _ c => incR a c) := by
  intro args g v h hg
  unfold conF at h
  split at h
  · rename_i a s z x p c
    simp only [Option.some.injEq, Prod.mk.injEq] at h
    obtain ⟨rfl, rfl⟩ := h
    rw [inb_iff] at hg
    obtain ⟨h0, h1⟩ := hg
    refine ⟨by simp [plain, plainL], tup_plain _ _ _, fun w => ?_⟩
    have hk := inc27_ok a s z x p c h0 h1
    exact calls_leaf wok 20000 _ get27 (by kernel_rfl) (by simp [plain, plainL]) (tup_plain _ _ _) (inc27R0 a s z x p c) hk w
  · cases h
theorem inc30_ok (a : Int) (s z x p c : Bool) (h0 : 0 ≤ a) (h1 : a ≤ 255) : (tok (inc30T0 a s z x p c) && peq (inc30V0 a s z x p c) (incR a c)) = true := by
  cases c
  · exact byte_all (p := fun a => (tok (inc30T0 a false false false false false) && peq (inc30V0 a false false false false false) (incR a false)) = true) (by decide +kernel) a h0 h1
  · exact byte_all (p := fun a => (tok (inc30T0 a false false false false true) && peq (inc30V0 a false false false false true) (incR a true)) = true) (by decide +kernel) a h0 h1
theorem ans30 : Answers Try.prog 64 (conF fun a _ _ _ _ c => incR a c) := by
  intro args g v h hg
  unfold conF at h
  split at h
  · rename_i a s z x p c
    simp only [Option.some.injEq, Prod.mk.injEq] at h
    obtain ⟨rfl, rfl⟩ := h
    rw [inb_iff] at hg
    obtain ⟨h0, h1⟩ := hg
    refine ⟨by simp [plain, plainL], tup_plain _ _ _, fun w => ?_⟩
    have hk := inc30_ok a s z x p c h0 h1
    exact calls_leaf wok 20000 _ get30 (by kernel_rfl) (by simp [plain, plainL]) (tup_plain _ _ _) (inc30R0 a s z x p c) hk w
  · cases h
theorem dec29_ok (a : Int) (s z x p c : Bool) (h0 : 0 ≤ a) (h1 : a ≤ 255) : (tok (dec29T0 a s z x p c) && peq (dec29V0 a s z x p c) (decR a c)) = true := by
  cases c
  · exact byte_all (p := fun a => (tok (dec29T0 a false false false false false) && peq (dec29V0 a false false false false false) (decR a false)) = true) (by decide +kernel) a h0 h1
  · exact byte_all (p := fun a => (tok (dec29T0 a false false false false true) && peq (dec29V0 a false false false false true) (decR a true)) = true) (by decide +kernel) a h0 h1
theorem ans29 : Answers Try.prog 48 (conF fun a _ _ _ _ c => decR a c) := by
  intro args g v h hg
  unfold conF at h
  split at h
  · rename_i a s z x p c
    simp only [Option.some.injEq, Prod.mk.injEq] at h
    obtain ⟨rfl, rfl⟩ := h
    rw [inb_iff] at hg
    obtain ⟨h0, h1⟩ := hg
    refine ⟨by simp [plain, plainL], tup_plain _ _ _, fun w => ?_⟩
    have hk := dec29_ok a s z x p c h0 h1
    exact calls_leaf wok 20000 _ get29 (by kernel_rfl) (by simp [plain, plainL]) (tup_plain _ _ _) (dec29R0 a s z x p c) hk w
  · cases h
theorem dec31_ok (a : Int) (s z x p c : Bool) (h0 : 0 ≤ a) (h1 : a ≤ 255) : (tok (dec31T0 a s z x p c) && peq (dec31V0 a s z x p c) (decR a c)) = true := by
  cases c
  · exact byte_all (p := fun a => (tok (dec31T0 a false false false false false) && peq (dec31V0 a false false false false false) (decR a false)) = true) (by decide +kernel) a h0 h1
  · exact byte_all (p := fun a => (tok (dec31T0 a false false false false true) && peq (dec31V0 a false false false false true) (decR a true)) = true) (by decide +kernel) a h0 h1
theorem ans31 : Answers Try.prog 65 (conF fun a _ _ _ _ c => decR a c) := by
  intro args g v h hg
  unfold conF at h
  split at h
  · rename_i a s z x p c
    simp only [Option.some.injEq, Prod.mk.injEq] at h
    obtain ⟨rfl, rfl⟩ := h
    rw [inb_iff] at hg
    obtain ⟨h0, h1⟩ := hg
    refine ⟨by simp [plain, plainL], tup_plain _ _ _, fun w => ?_⟩
    have hk := dec31_ok a s z x p c h0 h1
    exact calls_leaf wok 20000 _ get31 (by kernel_rfl) (by simp [plain, plainL]) (tup_plain _ _ _) (dec31R0 a s z x p c) hk w
  · cases h
theorem daa14FF_ok (a : Int) (s : Bool) (z : Bool) (p : Bool) (h0 : 0 ≤ a) (h1 : a ≤ 255) : ((tok (daa14FFT0 a s z p) && peq (daa14FFV0 a s z p) (daaR a false false)) || (tok (daa14FFT1 a s z p) && peq (daa14FFV1 a s z p) (daaR a false false)) || (tok (daa14FFT2 a s z p) && peq (daa14FFV2 a s z p) (daaR a false false)) || (tok (daa14FFT3 a s z p) && peq (daa14FFV3 a s z p) (daaR a false false))) = true := by
  exact byte_all (p := fun a => ((tok (daa14FFT0 a false false false) && peq (daa14FFV0 a false false false) (daaR a false false)) || (tok (daa14FFT1 a false false false) && peq (daa14FFV1 a false false false) (daaR a false false)) || (tok (daa14FFT2 a false false false) && peq (daa14FFV2 a false false false) (daaR a false false)) || (tok (daa14FFT3 a false false false) && peq (daa14FFV3 a false false false) (daaR a false false))) = true) (by decide +kernel) a h0 h1
theorem daa14FT_ok (a : Int) (s : Bool) (z : Bool) (p : Bool) (h0 : 0 ≤ a) (h1 : a ≤ 255) : ((tok (daa14FTT0 a s z p) && peq (daa14FTV0 a s z p) (daaR a false true)) || (tok (daa14FTT1 a s z p) && peq (daa14FTV1 a s z p) (daaR a false true)) || (tok (daa14FTT2 a s z p) && peq (daa14FTV2 a s z p) (daaR a false true)) || (tok (daa14FTT3 a s z p) && peq (daa14FTV3 a s z p) (daaR a false true))) = true := by
  exact byte_all (p := fun a => ((tok (daa14FTT0 a false false false) && peq (daa14FTV0 a false false false) (daaR a false true)) || (tok (daa14FTT1 a false false false) && peq (daa14FTV1 a false false false) (daaR a false true)) || (tok (daa14FTT2 a false false false) && peq (daa14FTV2 a false false false) (daaR a false true)) || (tok (daa14FTT3 a false false false) && peq (daa14FTV3 a false false false) (daaR a false true))) = true) (by decide +kernel) a h0 h1
theorem daa14TF_ok (a : Int) (s : Bool) (z : Bool) (p : Bool) (h0 : 0 ≤ a) (h1 : a ≤ 255) : ((tok (daa14TFT0 a s z p) && peq (daa14TFV0 a s z p) (daaR a true false)) || (tok (daa14TFT1 a s z p) && peq (daa14TFV1 a s z p) (daaR a true false)) || (tok (daa14TFT2 a s z p) && peq (daa14TFV2 a s z p) (daaR a true false)) || (tok (daa14TFT3 a s z p) && peq (daa14TFV3 a s z p) (daaR a true false))) = true := by
  exact byte_all (p := fun a => ((tok (daa14TFT0 a false false false) && peq (daa14TFV0 a false false false) (daaR a true false)) || (tok (daa14TFT1 a false false false) && peq (daa14TFV1 a false false false) (daaR a true false)) || (tok (daa14TFT2 a false false false) && peq (daa14TFV2 a false false false) (daaR a true false)) || (tok (daa14TFT3 a false false false) && peq (daa14TFV3 a false false false) (daaR a true false))) = true) (by decide +kernel) a h0 h1
theorem daa14TT_ok (a : Int) (s : Bool) (z : Bool) (p : Bool) (h0 : 0 ≤ a) (h1 : a ≤ 255) : ((tok (daa14TTT0 a s z p) && peq (daa14TTV0 a s z p) (daaR a true true)) || (tok (daa14TTT1 a s z p) && peq (daa14TTV1 a s z p) (daaR a true true)) || (tok (daa14TTT2 a s z p) && peq (daa14TTV2 a s z p) (daaR a true true)) || (tok (daa14TTT3 a s z p) && peq (daa14TTV3 a s z p) (daaR a true true))) = true := by
  exact byte_all (p := fun a => ((tok (daa14TTT0 a false false false) && peq (daa14TTV0 a false false false) (daaR a true true)) || (tok (daa14TTT1 a false false false) && peq (daa14TTV1 a false false false) (daaR a true true)) || (tok (daa14TTT2 a false false false) && peq (daa14TTV2 a false false false) (daaR a true true)) || (tok (daa14TTT3 a false false false) && peq (daa14TTV3 a false false false) (daaR a true true))) = true) (by decide +kernel) a h0 h1
theorem ans14 : Answers Try.prog 81 (conF fun a _ _ x _ c => daaR a x c) := by
  intro args g v h hg
  unfold conF at h
  split at h
  · rename_i a s z x p c
    simp only [Option.some.injEq, Prod.mk.injEq] at h
    obtain ⟨rfl, rfl⟩ := h
    rw [inb_iff] at hg
    obtain ⟨h0, h1⟩ := hg
    refine ⟨by simp [plain, plainL], tup_plain _ _ _, fun w => ?_⟩
    cases x with
    | false =>
      cases c with
      | false =>
        have hk := daa14FF_ok a s z p h0 h1
        simp only [Bool.or_eq_true] at hk
        rcases hk with ((hk | hk) | hk) | hk
        · exact calls_leaf wok 20000 _ get14 (by kernel_rfl) (by simp [plain, plainL]) (tup_plain _ _ _) (daa14FFR0 a s z p) hk w
        · exact calls_leaf wok 20000 _ get14 (by kernel_rfl) (by simp [plain, plainL]) (tup_plain _ _ _) (daa14FFR1 a s z p) hk w
        · exact calls_leaf wok 20000 _ get14 (by kernel_rfl) (by simp [plain, plainL]) (tup_plain _ _ _) (daa14FFR2 a s z p) hk w
        · exact calls_leaf wok 20000 _ get14 (by kernel_rfl) (by simp [plain, plainL]) (tup_plain _ _ _) (daa14FFR3 a s z p) hk w
      | true =>
        have hk := daa14FT_ok a s z p h0 h1
        simp only [Bool.or_eq_true] at hk
        rcases hk with ((hk | hk) | hk) | hk
        · exact calls_leaf wok 20000 _ get14 (by kernel_rfl) (by simp [plain, plainL]) (tup_plain _ _ _) (daa14FTR0 a s z p) hk w
        · exact calls_leaf wok 20000 _ get14 (by kernel_rfl) (by simp [plain, plainL]) (tup_plain _ _ _) (daa14FTR1 a s z p) hk w
        · exact calls_leaf wok 20000 _ get14 (by kernel_rfl) (by simp [plain, plainL]) (tup_plain _ _ _) (daa14FTR2 a s z p) hk w
        · exact calls_leaf wok 20000 _ get14 (by kernel_rfl) (by simp [plain, plainL]) (tup_plain _ _ _) (daa14FTR3 a s z p) hk w
    | true =>
      cases c with
      | false =>
        have hk := daa14TF_ok a s z p h0 h1
        simp only [Bool.or_eq_true] at hk
        rcases hk with ((hk | hk) | hk) | hk
        · exact calls_leaf wok 20000 _ get14 (by kernel_rfl) (by simp [plain, plainL]) (tup_plain _ _ _) (daa14TFR0 a s z p) hk w
        · exact calls_leaf wok 20000 _ get14 (by kernel_rfl) (by simp [plain, plainL]) (tup_plain _ _ _) (daa14TFR1 a s z p) hk w
        · exact calls_leaf wok 20000 _ get14 (by kernel_rfl) (by simp [plain, plainL]) (tup_plain _ _ _) (daa14TFR2 a s z p) hk w
        · exact calls_leaf wok 20000 _ get14 (by kernel_rfl) (by simp [plain, plainL]) (tup_plain _ _ _) (daa14TFR3 a s z p) hk w
      | true =>
        have hk := daa14TT_ok a s z p h0 h1
        simp only [Bool.or_eq_true] at hk
        rcases hk with ((hk | hk) | hk) | hk
        · exact calls_leaf wok 20000 _ get14 (by kernel_rfl) (by simp [plain, plainL]) (tup_plain _ _ _) (daa14TTR0 a s z p) hk w
        · exact calls_leaf wok 20000 _ get14 (by kernel_rfl) (by simp [plain, plainL]) (tup_plain _ _ _) (daa14TTR1 a s z p) hk w
        · exact calls_leaf wok 20000 _ get14 (by kernel_rfl) (by simp [plain, plainL]) (tup_plain _ _ _) (daa14TTR2 a s z p) hk w
        · exact calls_leaf wok 20000 _ get14 (by kernel_rfl) (by simp [plain, plainL]) (tup_plain _ _ _) (daa14TTR3 a s z p) hk w
  · cases h
theorem daa32FF_ok (a : Int) (s : Bool) (z : Bool) (p : Bool) (h0 : 0 ≤ a) (h1 : a ≤ 255) : ((tok (daa32FFT0 a s z p) && peq (daa32FFV0 a s z p) (daaR a false false)) || (tok (daa32FFT1 a s z p) && peq (daa32FFV1 a s z p) (daaR a false false)) || (tok (daa32FFT2 a s z p) && peq (daa32FFV2 a s z p) (daaR a false false)) || (tok (daa32FFT3 a s z p) && peq (daa32FFV3 a s z p) (daaR a false false))) = true := by
  exact byte_all (p := fun a => ((tok (daa32FFT0 a false false false) && peq (daa32FFV0 a false false false) (daaR a false false)) || (tok (daa32FFT1 a false false false) && peq (daa32FFV1 a false false false) (daaR a false false)) || (tok (daa32FFT2 a false false false) && peq (daa32FFV2 a false false false) (daaR a false false)) || (tok (daa32FFT3 a false false false) && peq (daa32FFV3 a false false false) (daaR a false false))) = true) (by decide +kernel) a h0 h1
theorem daa32FT_ok (a : Int) (s : Bool) (z : Bool) (p : Bool) (h0 : 0 ≤ a) (h1 : a ≤ 255) : ((tok (daa32FTT0 a s z p) && peq (daa32FTV0 a s z p) (daaR a false true)) || (tok (daa32FTT1 a s z p) && peq (daa32FTV1 a s z p) (daaR a false true)) || (tok (daa32FTT2 a s z p) && peq (daa32FTV2 a s z p) (daaR a false true)) || (tok (daa32FTT3 a s z p) && peq (daa32FTV3 a s z p) (daaR a false true))) = true := by
  exact byte_all (p := fun a => ((tok (daa32FTT0 a false false false) && peq (daa32FTV0 a false false false) (daaR a false true)) || (tok (daa32FTT1 a false false false) && peq (daa32FTV1 a false false false) (daaR a false true)) || (tok (daa32FTT2 a false false false) && peq (daa32FTV2 a false false false) (daaR a false true)) || (tok (daa32FTT3 a false false false) && peq (daa32FTV3 a false false false) (daaR a false true))) = true) (by decide +kernel) a h0 h1
theorem daa32TF_ok (a : Int) (s : Bool) (z : Bool) (p : Bool) (h0 : 0 ≤ a) (h1 : a ≤ 255) : ((tok (daa32TFT0 a s z p) && peq (daa32TFV0 a s z p) (daaR a true false)) || (tok (daa32TFT1 a s z p) && peq (daa32TFV1 a s z p) (daaR a true false)) || (tok (daa32TFT2 a s z p) && peq (daa32TFV2 a s z p) (daaR a true false)) || (tok (daa32TFT3 a s z p) && peq (daa32TFV3 a s z p) (daaR a true false))) = true := by
  exact byte_all (p := fun a => ((tok (daa32TFT0 a false false false) && peq (daa32TFV0 a false false false) (daaR a true false)) || (tok (daa32TFT1 a false false false) && peq (daa32TFV1 a false false false) (daaR a true false)) || (tok (daa32TFT2 a false false false) && peq (daa32TFV2 a false false false) (daaR a true false)) || (tok (daa32TFT3 a false false false) && peq (daa32TFV3 a false false false) (daaR a true false))) = true) (by decide +kernel) a h0 h1
theorem daa32TT_ok (a : Int) (s : Bool) (z : Bool) (p : Bool) (h0 : 0 ≤ a) (h1 : a ≤ 255) : ((tok (daa32TTT0 a s z p) && peq (daa32TTV0 a s z p) (daaR a true true)) || (tok (daa32TTT1 a s z p) && peq (daa32TTV1 a s z p) (daaR a true true)) || (tok (daa32TTT2 a s z p) && peq (daa32TTV2 a s z p) (daaR a true true)) || (tok (daa32TTT3 a s z p) && peq (daa32TTV3 a s z p) (daaR a true true))) = true := by
  exact byte_all (p := fun a => ((tok (daa32TTT0 a false false false) && peq (daa32TTV0 a false false false) (daaR a true true)) || (tok (daa32TTT1 a false false false) && peq (daa32TTV1 a false false false) (daaR a true true)) || (tok (daa32TTT2 a false false false) && peq (daa32TTV2 a false false false) (daaR a true true)) || (tok (daa32TTT3 a false false false) && peq (daa32TTV3 a false false false) (daaR a true true))) = true) (by decide +kernel) a h0 h1
theorem ans32 : Answers Try.prog 91 (conF fun a _ _ x _ c => daaR a x c) := by
  intro args g v h hg
  unfold conF at h
  split at h
  · rename_i a s z x p c
    simp only [Option.some.injEq, Prod.mk.injEq] at h
    obtain ⟨rfl, rfl⟩ := h
    rw [inb_iff] at hg
    obtain ⟨h0, h1⟩ := hg
    refine ⟨by simp [plain, plainL], tup_plain _ _ _, fun w => ?_⟩
    cases x with
    | false =>
      cases c with
      | false =>
        have hk := daa32FF_ok a s z p h0 h1
        simp only [Bool.or_eq_true] at hk
        rcases hk with ((hk | hk) | hk) | hk
        · exact calls_leaf wok 20000 _ get32 (by kernel_rfl) (by simp [plain, plainL]) (tup_plain _ _ _) (daa32FFR0 a s z p) hk w
        · exact calls_leaf wok 20000 _ get32 (by kernel_rfl) (by simp [plain, plainL]) (tup_plain _ _ _) (daa32FFR1 a s z p) hk w
        · exact calls_leaf wok 20000 _ get32 (by kernel_rfl) (by simp [plain, plainL]) (tup_plain _ _ _) (daa32FFR2 a s z p) hk w
        · exact calls_leaf wok 20000 _ get32 (by kernel_rfl) (by simp [plain, plainL]) (tup_plain _ _ _) (daa32FFR3 a s z p) hk w
      | true =>
        have hk := daa32FT_ok a s z p h0 h1
        simp only [Bool.or_eq_true] at hk
        rcases hk with ((hk | hk) | hk) | hk
        · exact calls_leaf wok 20000 _ get32 (by kernel_rfl) (by simp [plain, plainL]) (tup_plain _ _ _) (daa32FTR0 a s z p) hk w
        · exact calls_leaf wok 20000 _ get32 (by kernel_rfl) (by simp [plain, plainL]) (tup_plain _ _ _) (daa32FTR1 a s z p) hk w
        · exact calls_leaf wok 20000 _ get32 (by kernel_rfl) (by simp [plain, plainL]) (tup_plain _ _ _) (daa32FTR2 a s z p) hk w
        · exact calls_leaf wok 20000 _ get32 (by kernel_rfl) (by simp [plain, plainL]) (tup_plain _ _ _) (daa32FTR3 a s z p) hk w
    | true =>
      cases c with
      | false =>
        have hk := daa32TF_ok a s z p h0 h1
        simp only [Bool.or_eq_true] at hk
        rcases hk with ((hk | hk) | hk) | hk
        · exact calls_leaf wok 20000 _ get32 (by kernel_rfl) (by simp [plain, plainL]) (tup_plain _ _ _) (daa32TFR0 a s z p) hk w
        · exact calls_leaf wok 20000 _ get32 (by kernel_rfl) (by simp [plain, plainL]) (tup_plain _ _ _) (daa32TFR1 a s z p) hk w
        · exact calls_leaf wok 20000 _ get32 (by kernel_rfl) (by simp [plain, plainL]) (tup_plain _ _ _) (daa32TFR2 a s z p) hk w
        · exact calls_leaf wok 20000 _ get32 (by kernel_rfl) (by simp [plain, plainL]) (tup_plain _ _ _) (daa32TFR3 a s z p) hk w
      | true =>
        have hk := daa32TT_ok a s z p h0 h1
        simp only [Bool.or_eq_true] at hk
        rcases hk with ((hk | hk) | hk) | hk
        · exact calls_leaf wok 20000 _ get32 (by kernel_rfl) (by simp [plain, plainL]) (tup_plain _ _ _) (daa32TTR0 a s z p) hk w
        · exact calls_leaf wok 20000 _ get32 (by kernel_rfl) (by simp [plain, plainL]) (tup_plain _ _ _) (daa32TTR1 a s z p) hk w
        · exact calls_leaf wok 20000 _ get32 (by kernel_rfl) (by simp [plain, plainL]) (tup_plain _ _ _) (daa32TTR2 a s z p) hk w
        · exact calls_leaf wok 20000 _ get32 (by kernel_rfl) (by simp [plain, plainL]) (tup_plain _ _ _) (daa32TTR3 a s z p) hk w
  · cases h
end Go.Proofs.Ytpggoincnebfnaa
namespace Go.Proofs.Ytpggoincnebfnaa
open Go Go.Ly Go.RowKit
theorem turn390F_ok (a : Int) (h0 : 0 ≤ a) (h1 : a ≤ 255) : ((tok (turn390FT0 a) && peq (turn390FV0 a) (turnR 0 a false))) = true := by
  exact byte_all (p := fun a => ((tok (turn390FT0 a) && peq (turn390FV0 a) (turnR 0 a false))) = true) (by decide +kernel) a h0 h1
theorem turn390T_ok (a : Int) (h0 : 0 ≤ a) (h1 : a ≤ 255) : ((tok (turn390TT0 a) && peq (turn390TV0 a) (turnR 0 a true))) = true := by
  exact byte_all (p := fun a => ((tok (turn390TT0 a) && peq (turn390TV0 a) (turnR 0 a true))) = true) (by decide +kernel) a h0 h1
theorem turn391F_ok (a : Int) (h0 : 0 ≤ a) (h1 : a ≤ 255) : ((tok (turn391FT0 a) && peq (turn391FV0 a) (turnR 1 a false))) = true := by
  exact byte_all (p := fun a => ((tok (turn391FT0 a) && peq (turn391FV0 a) (turnR 1 a false))) = true) (by decide +kernel) a h0 h1
theorem turn391T_ok (a : Int) (h0 : 0 ≤ a) (h1 : a ≤ 255) : ((tok (turn391TT0 a) && peq (turn391TV0 a) (turnR 1 a true))) = true := by
  exact byte_all (p := fun a => ((tok (turn391TT0 a) && peq (turn391TV0 a) (turnR 1 a true))) = true) (by decide +kernel) a h0 h1
theorem turn392F_ok (a : Int) (h0 : 0 ≤ a) (h1 : a ≤ 255) : ((tok (turn392FT0 a) && peq (turn392FV0 a) (turnR 2 a false))) = true := by
  exact byte_all (p := fun a => ((tok (turn392FT0 a) && peq (turn392FV0 a) (turnR 2 a false))) = true) (by decide +kernel) a h0 h1
theorem turn392T_ok (a : Int) (h0 : 0 ≤ a) (h1 : a ≤ 255) : ((tok (turn392TT0 a) && peq (turn392TV0 a) (turnR 2 a true))) = true := by
  exact byte_all (p := fun a => ((tok (turn392TT0 a) && peq (turn392TV0 a) (turnR 2 a true))) = true) (by decide +kernel) a h0 h1
theorem turn393F_ok (a : Int) (h0 : 0 ≤ a) (h1 : a ≤ 255) : ((tok (turn393FT0 a) && peq (turn393FV0 a) (turnR 3 a false))) = true := by
  exact byte_all (p := fun a => ((tok (turn393FT0 a) && peq (turn393FV0 a) (turnR 3 a false))) = true) (by decide +kernel) a h0 h1
theorem turn393T_ok (a : Int) (h0 : 0 ≤ a) (h1 : a ≤ 255) : ((tok (turn393TT0 a) && peq (turn393TV0 a) (turnR 3 a true))) = true := by
  exact byte_all (p := fun a => ((tok (turn393TT0 a) && peq (turn393TV0 a) (turnR 3 a true))) = true) (by decide +kernel) a h0 h1
theorem ans39 : Answers Try.prog 82 conT := by
  intro args g v h hg
  unfold conT at h
  split at h
  · rename_i k a c
    simp only [Option.some.injEq, Prod.mk.injEq] at h
    obtain ⟨rfl, rfl⟩ := h
    rw [inb_iff] at hg
    obtain ⟨h0, h1⟩ := hg
    refine ⟨by simp [plain, plainL], turn_plain _ _ _, fun w => ?_⟩
    by_cases hk0 : k = 0
    · subst hk0
      cases c with
      | false =>
        have hk := turn390F_ok a h0 h1
        exact calls_leaf wok 20000 _ get39 (by kernel_rfl) (by simp [plain, plainL]) (turn_plain _ _ _) (turn390FR0 a) hk w
      | true =>
        have hk := turn390T_ok a h0 h1
        exact calls_leaf wok 20000 _ get39 (by kernel_rfl) (by simp [plain, plainL]) (turn_plain _ _ _) (turn390TR0 a) hk w
    by_cases hk1 : k = 1
    · subst hk1
      cases c with
      | false =>
        have hk := turn391F_ok a h0 h1
        exact calls_leaf wok 20000 _ get39 (by kernel_rfl) (by simp [plain, plainL]) (turn_plain _ _ _) (turn391FR0 a) hk w
      | true =>
        have hk := turn391T_ok a h0 h1
        exact calls_leaf wok 20000 _ get39 (by kernel_rfl) (by simp [plain, plainL]) (turn_plain _ _ _) (turn391TR0 a) hk w
    by_cases hk2 : k = 2
    · subst hk2
      cases c with
      | false =>
        have hk := turn392F_ok a h0 h1
        exact calls_leaf wok 20000 _ get39 (by kernel_rfl) (by simp [plain, plainL]) (turn_plain _ _ _) (turn392FR0 a) hk w
      | true =>
        have hk := turn392T_ok a h0 h1
        exact calls_leaf wok 20000 _ get39 (by kernel_rfl) (by simp [plain, plainL]) (turn_plain _ _ _) (turn392TR0 a) hk w
    by_cases hk3 : k = 3
    · subst hk3
      cases c with
      | false =>
        have hk := turn393F_ok a h0 h1
        exact calls_leaf wok 20000 _ get39 (by kernel_rfl) (by simp [plain, plainL]) (turn_plain _ _ _) (turn393FR0 a) hk w
      | true =>
        have hk := turn393T_ok a h0 h1
        exact calls_leaf wok 20000 _ get39 (by kernel_rfl) (by simp [plain, plainL]) (turn_plain _ _ _) (turn393TR0 a) hk w
    have hv : turn39XV6 k a c = turnR k a c := by
      have e0 : (k == 0) = false := by simpa using hk0
      have e1 : (k == 1) = false := by simpa using hk1
      have e2 : (k == 2) = false := by simpa using hk2
      have e3 : (k == 3) = false := by simpa using hk3
      unfold turnR
      rw [e0, e1, e2, e3]
      rfl
    rw [← hv]
    exact calls_trust wok 20000 _ get39 (by kernel_rfl) (by simp [plain, plainL]) (by rw [hv]; exact turn_plain _ _ _) (turn39XR6 k a c) (by simp [turn39XT6, trusted, hk0, hk1, hk2, hk3]) w
  · cases h
theorem turn400F_ok (a : Int) (h0 : 0 ≤ a) (h1 : a ≤ 255) : ((tok (turn400FT0 a) && peq (turn400FV0 a) (turnR 0 a false))) = true := by
  exact byte_all (p := fun a => ((tok (turn400FT0 a) && peq (turn400FV0 a) (turnR 0 a false))) = true) (by decide +kernel) a h0 h1
theorem turn400T_ok (a : Int) (h0 : 0 ≤ a) (h1 : a ≤ 255) : ((tok (turn400TT0 a) && peq (turn400TV0 a) (turnR 0 a true))) = true := by
  exact byte_all (p := fun a => ((tok (turn400TT0 a) && peq (turn400TV0 a) (turnR 0 a true))) = true) (by decide +kernel) a h0 h1
theorem turn401F_ok (a : Int) (h0 : 0 ≤ a) (h1 : a ≤ 255) : ((tok (turn401FT0 a) && peq (turn401FV0 a) (turnR 1 a false))) = true := by
  exact byte_all (p := fun a => ((tok (turn401FT0 a) && peq (turn401FV0 a) (turnR 1 a false))) = true) (by decide +kernel) a h0 h1
theorem turn401T_ok (a : Int) (h0 : 0 ≤ a) (h1 : a ≤ 255) : ((tok (turn401TT0 a) && peq (turn401TV0 a) (turnR 1 a true))) = true := by
  exact byte_all (p := fun a => ((tok (turn401TT0 a) && peq (turn401TV0 a) (turnR 1 a true))) = true) (by decide +kernel) a h0 h1
theorem turn402F_ok (a : Int) (h0 : 0 ≤ a) (h1 : a ≤ 255) : ((tok (turn402FT0 a) && peq (turn402FV0 a) (turnR 2 a false))) = true := by
  exact byte_all (p := fun a => ((tok (turn402FT0 a) && peq (turn402FV0 a) (turnR 2 a false))) = true) (by decide +kernel) a h0 h1
theorem turn402T_ok (a : Int) (h0 : 0 ≤ a) (h1 : a ≤ 255) : ((tok (turn402TT0 a) && peq (turn402TV0 a) (turnR 2 a true))) = true := by
  exact byte_all (p := fun a => ((tok (turn402TT0 a) && peq (turn402TV0 a) (turnR 2 a true))) = true) (by decide +kernel) a h0 h1
theorem turn403F_ok (a : Int) (h0 : 0 ≤ a) (h1 : a ≤ 255) : ((tok (turn403FT0 a) && peq (turn403FV0 a) (turnR 3 a false))) = true := by
  exact byte_all (p := fun a => ((tok (turn403FT0 a) && peq (turn403FV0 a) (turnR 3 a false))) = true) (by decide +kernel) a h0 h1
theorem turn403T_ok (a : Int) (h0 : 0 ≤ a) (h1 : a ≤ 255) : ((tok (turn403TT0 a) && peq (turn403TV0 a) (turnR 3 a true))) = true := by
  exact byte_all (p := fun a => ((tok (turn403TT0 a) && peq (turn403TV0 a) (turnR 3 a true))) = true) (by decide +kernel) a h0 h1
theorem ans40 : Answers Try.prog 92 conT := by
  intro args g v h hg
  unfold conT at h
  split at h
  · rename_i k a c
    simp only [Option.some.injEq, Prod.mk.injEq] at h
    obtain ⟨rfl, rfl⟩ := h
    rw [inb_iff] at hg
    obtain ⟨h0, h1⟩ := hg
    refine ⟨by simp [plain, plainL], turn_plain _ _ _, fun w => ?_⟩
    by_cases hk0 : k = 0
    · subst hk0
      cases c with
      | false =>
        have hk := turn400F_ok a h0 h1
        exact calls_leaf wok 20000 _ get40 (by kernel_rfl) (by simp [plain, plainL]) (turn_plain _ _ _) (turn400FR0 a) hk w
      | true =>
        have hk := turn400T_ok a h0 h1
        exact calls_leaf wok 20000 _ get40 (by kernel_rfl) (by simp [plain, plainL]) (turn_plain _ _ _) (turn400TR0 a) hk w
    by_cases hk1 : k = 1
    · subst hk1
      cases c with
      | false =>
        have hk := turn401F_ok a h0 h1
        exact calls_leaf wok 20000 _ get40 (by kernel_rfl) (by simp [plain, plainL]) (turn_plain _ _ _) (turn401FR0 a) hk w
      | true =>
        have hk := turn401T_ok a h0 h1
        exact calls_leaf wok 20000 _ get40 (by kernel_rfl) (by simp [plain, plainL]) (turn_plain _ _ _) (turn401TR0 a) hk w
    by_cases hk2 : k = 2
    · subst hk2
      cases c with
      | false =>
        have hk := turn402F_ok a h0 h1
        exact calls_leaf wok 20000 _ get40 (by kernel_rfl) (by simp [plain, plainL]) (turn_plain _ _ _) (turn402FR0 a) hk w
      | true =>
        have hk := turn402T_ok a h0 h1
        exact calls_leaf wok 20000 _ get40 (by kernel_rfl) (by simp [plain, plainL]) (turn_plain _ _ _) (turn402TR0 a) hk w
    by_cases hk3 : k = 3
    · subst hk3
      cases c with
      | false =>
        have hk := turn403F_ok a h0 h1
        exact calls_leaf wok 20000 _ get40 (by kernel_rfl) (by simp [plain, plainL]) (turn_plain _ _ _) (turn403FR0 a) hk w
      | true =>
        have hk := turn403T_ok a h0 h1
        exact calls_leaf wok 20000 _ get40 (by kernel_rfl) (by simp [plain, plainL]) (turn_plain _ _ _) (turn403TR0 a) hk w
    have hv : turn40XV6 k a c = turnR k a c := by
      have e0 : (k == 0) = false := by simpa using hk0
      have e1 : (k == 1) = false := by simpa using hk1
      have e2 : (k == 2) = false := by simpa using hk2
      have e3 : (k == 3) = false := by simpa using hk3
      unfold turnR
      rw [e0, e1, e2, e3]
      rfl
    rw [← hv]
    exact calls_trust wok 20000 _ get40 (by kernel_rfl) (by simp [plain, plainL]) (by rw [hv]; exact turn_plain _ _ _) (turn40XR6 k a c) (by simp [turn40XT6, trusted, hk0, hk1, hk2, hk3]) w
  · cases h
theorem of35_ok (a : Int) (h0 : 0 ≤ a) (h1 : a ≤ 255) : ((tok (of35T0 a) && peq (of35V0 a) (ofR a))) = true := by
  exact byte_all (p := fun a => ((tok (of35T0 a) && peq (of35V0 a) (ofR a))) = true) (by decide +kernel) a h0 h1
theorem ans35 : Answers Try.prog 89 (con1b ofR) := by
  intro args g v h hg
  unfold con1b at h
  split at h
  · rename_i a
    simp only [Option.some.injEq, Prod.mk.injEq] at h
    obtain ⟨rfl, rfl⟩ := h
    rw [inb_iff] at hg
    obtain ⟨h0, h1⟩ := hg
    refine ⟨by simp [plain, plainL], by simp [ofR, plain, plainL], fun w => ?_⟩
    have hk := of35_ok a h0 h1
    exact calls_leaf wok 20000 _ get35 (by kernel_rfl) (by simp [plain, plainL]) (by simp [ofR, plain, plainL]) (of35R0 a) hk w
  · cases h
theorem of36_ok (a : Int) (h0 : 0 ≤ a) (h1 : a ≤ 255) : ((tok (of36T0 a) && peq (of36V0 a) (ofR a))) = true := by
  exact byte_all (p := fun a => ((tok (of36T0 a) && peq (of36V0 a) (ofR a))) = true) (by decide +kernel) a h0 h1
theorem ans36 : Answers Try.prog 77 (con1b ofR) := by
  intro args g v h hg
  unfold con1b at h
  split at h
  · rename_i a
    simp only [Option.some.injEq, Prod.mk.injEq] at h
    obtain ⟨rfl, rfl⟩ := h
    rw [inb_iff] at hg
    obtain ⟨h0, h1⟩ := hg
    refine ⟨by simp [plain, plainL], by simp [ofR, plain, plainL], fun w => ?_⟩
    have hk := of36_ok a h0 h1
    exact calls_leaf wok 20000 _ get36 (by kernel_rfl) (by simp [plain, plainL]) (by simp [ofR, plain, plainL]) (of36R0 a) hk w
  · cases h
end Go.Proofs.Ytpggoincnebfnaa
namespace Go.Proofs.Ytpggoincnebfnaa
open Go Go.Ly Go.RowKit
def conBit (l : List Value) : Option (Bool × Value) := match l with
  | [.bool c, .int .i64 n] => some (true, .int .i64 (bif c then n else 0))
  | _ => none
theorem get46 : wctx.fn.get 93 = some Try.f93 := by kernel_rfl
theorem bitF (n : Int) : (Ly.run wctx 20000 [] (Ly.start Try.f93 [.bool false, .int .i64 n] H0)).out? = some ([], .int .i64 0) := by kernel_rfl
theorem bitT (n : Int) : (Ly.run wctx 20000 [] (Ly.start Try.f93 [.bool true, .int .i64 n] H0)).out? = some ([], .int .i64 n) := by kernel_rfl
theorem ans46 : Answers Try.prog 93 conBit := by
  intro args g v h hg
  unfold conBit at h
  split at h
  · rename_i c n
    simp only [Option.some.injEq, Prod.mk.injEq] at h
    obtain ⟨rfl, rfl⟩ := h
    refine ⟨by simp [plain, plainL], by simp [plain], fun w => ?_⟩
    cases c with
    | false => exact calls_trust wok 20000 _ get46 (by kernel_rfl) (by simp [plain, plainL]) (by simp [plain]) (bitF n) trivial w
    | true => exact calls_trust wok 20000 _ get46 (by kernel_rfl) (by simp [plain, plainL]) (by simp [plain]) (bitT n) trivial w
  · cases h
def bctx : Ctx := wctx.with 93 conBit
theorem bok : bctx.Ok Try.prog := wok.with ans46
theorem get33 : bctx.fn.get 88 = some Try.f88 := by kernel_rfl
theorem get34 : bctx.fn.get 75 = some Try.f75 := by kernel_rfl
theorem psw33 (s z x p c : Bool) : (Ly.run bctx 20000 [] (Ly.start Try.f88 [.agg ⟨[.bool s, .bool z, .bool x, .bool p, .bool c]⟩] H0)).out? = some ([], pswR s z x p c) := by
  cases s <;> cases z <;> cases x <;> cases p <;> cases c <;> kernel_rfl
theorem ans33 : Answers Try.prog 88 conP := by
  intro args g v h hg
  unfold conP at h
  split at h
  · rename_i s z x p c
    simp only [Option.some.injEq, Prod.mk.injEq] at h
    obtain ⟨rfl, rfl⟩ := h
    refine ⟨by simp [plain, plainL], by simp [pswR, plain, plainL], fun w => ?_⟩
    exact calls_trust bok 20000 _ get33 (by kernel_rfl) (by simp [plain, plainL]) (by simp [pswR, plain, plainL]) (psw33 s z x p c) trivial w
  · cases h
theorem psw34 (s z x p c : Bool) : (Ly.run bctx 20000 [] (Ly.start Try.f75 [.agg ⟨[.bool s, .bool z, .bool x, .bool p, .bool c]⟩] H0)).out? = some ([], pswR s z x p c) := by
  cases s <;> cases z <;> cases x <;> cases p <;> cases c <;> kernel_rfl
theorem ans34 : Answers Try.prog 75 conP := by
  intro args g v h hg
  unfold conP at h
  split at h
  · rename_i s z x p c
    simp only [Option.some.injEq, Prod.mk.injEq] at h
    obtain ⟨rfl, rfl⟩ := h
    refine ⟨by simp [plain, plainL], by simp [pswR, plain, plainL], fun w => ?_⟩
    exact calls_trust bok 20000 _ get34 (by kernel_rfl) (by simp [plain, plainL]) (by simp [pswR, plain, plainL]) (psw34 s z x p c) trivial w
  · cases h
end Go.Proofs.Ytpggoincnebfnaa
namespace Go.Proofs.Ytpggoincnebfnaa
open Go Go.Ly Go.RowKit
def xctx : Ctx := wctx.with 50 (con3 addR) |>.with 67 (con3 addR) |>.with 51 (con3 subR) |>.with 68 (con3 subR) |>.with 52 (con2 andR) |>.with 69 (con2 andR) |>.with 54 (con2 orR) |>.with 71 (con2 orR) |>.with 53 (con2 xorR) |>.with 70 (con2 xorR) |>.with 45 (conW) |>.with 62 (conW) |>.with 47 (conF fun a _ _ _ _ c => incR a c) |>.with 64 (conF fun a _ _ _ _ c => incR a c) |>.with 48 (conF fun a _ _ _ _ c => decR a c) |>.with 65 (conF fun a _ _ _ _ c => decR a c) |>.with 81 (conF fun a _ _ x _ c => daaR a x c) |>.with 91 (conF fun a _ _ x _ c => daaR a x c) |>.with 82 (conT) |>.with 92 (conT) |>.with 89 (con1b ofR) |>.with 77 (con1b ofR) |>.with 88 (conP) |>.with 75 (conP)
theorem xok : xctx.Ok Try.prog := by
  exact wok.with ans13 |>.with ans23 |>.with ans24 |>.with ans25 |>.with ans15 |>.with ans18 |>.with ans16 |>.with ans19 |>.with ans17 |>.with ans20 |>.with ans22 |>.with ans41 |>.with ans27 |>.with ans30 |>.with ans29 |>.with ans31 |>.with ans14 |>.with ans32 |>.with ans39 |>.with ans40 |>.with ans35 |>.with ans36 |>.with ans33 |>.with ans34
end Go.Proofs.Ytpggoincnebfnaa
namespace Go.Proofs.Ytpggoincnebfnaa
open Go Go.Ly Go.RowKit
def nameL : List (List UInt8) := [[82, 78, 90], [80, 79, 80], [74, 78, 90], [74, 77, 80], [67, 78, 90], [80, 85, 83, 72], [65, 68, 73], [82, 83, 84], [82, 90], [82, 69, 84], [74, 90], [], [67, 90], [67, 65, 76, 76], [65, 67, 73], [82, 83, 84], [82, 78, 67], [80, 79, 80], [74, 78, 67], [79, 85, 84], [67, 78, 67], [80, 85, 83, 72], [83, 85, 73], [82, 83, 84], [82, 67], [], [74, 67], [73, 78], [67, 67], [], [83, 66, 73], [82, 83, 84], [82, 80, 79], [80, 79, 80], [74, 80, 79], [88, 84, 72, 76], [67, 80, 79], [80, 85, 83, 72], [65, 78, 73], [82, 83, 84], [82, 80, 69], [80, 67, 72, 76], [74, 80, 69], [88, 67, 72, 71], [67, 80, 69], [], [88, 82, 73], [82, 83, 84], [82, 80], [80, 79, 80], [74, 80], [68, 73], [67, 80], [80, 85, 83, 72], [79, 82, 73], [82, 83, 84], [82, 77], [83, 80, 72, 76], [74, 77], [69, 73], [67, 77], [], [67, 80, 73], [82, 83, 84]]
def nameT (op : Int) : ByteArray := ⟨⟨(nameL[op.toNat - 192]?).getD []⟩⟩
def nameC (l : List Value) : Option (Bool × Value) := match l with
  | [.int .u8 op] => some (decide (192 ≤ op) && decide (op < 256), .string (nameT op))
  | _ => none
def nameI : Option Value → ByteArray → Bool
  | some (.string x), b => strEq x b
  | _, _ => false
theorem nameI_eq {o : Option Value} {b : ByteArray} (h : nameI o b = true) : o = some (.string b) := by
  unfold nameI at h
  split at h
  · rename_i x
    unfold strEq at h
    rw [eqB_eq] at h
    have h1 : x.data.toList = b.data.toList := by simpa using h
    have : x = b := ByteArray.ext (Array.ext' h1)
    rw [this]
  · cases h
theorem name73_12 : ((List.range 16).all fun i => nameI (Ly.run env.bare 9000 [] (Ly.start Try.f73 [.int .u8 (((192 + i) : Nat) : Int)] H0)).val? (nameT (((192 + i) : Nat) : Int))) = true := by kernel_rfl
theorem name73_13 : ((List.range 16).all fun i => nameI (Ly.run env.bare 9000 [] (Ly.start Try.f73 [.int .u8 (((208 + i) : Nat) : Int)] H0)).val? (nameT (((208 + i) : Nat) : Int))) = true := by kernel_rfl
theorem name73_14 : ((List.range 16).all fun i => nameI (Ly.run env.bare 9000 [] (Ly.start Try.f73 [.int .u8 (((224 + i) : Nat) : Int)] H0)).val? (nameT (((224 + i) : Nat) : Int))) = true := by kernel_rfl
theorem name73_15 : ((List.range 16).all fun i => nameI (Ly.run env.bare 9000 [] (Ly.start Try.f73 [.int .u8 (((240 + i) : Nat) : Int)] H0)).val? (nameT (((240 + i) : Nat) : Int))) = true := by kernel_rfl
theorem name73_all (n : Nat) (h0 : 192 ≤ n) (h : n < 256) : nameI (Ly.run env.bare 9000 [] (Ly.start Try.f73 [.int .u8 ((n : Nat) : Int)] H0)).val? (nameT ((n : Nat) : Int)) = true := by
  rcases Nat.lt_or_ge n 208 with g12 | g12
  · exact range_all (p := fun n => nameI (Ly.run env.bare 9000 [] (Ly.start Try.f73 [.int .u8 ((n : Nat) : Int)] H0)).val? (nameT ((n : Nat) : Int))) name73_12 n (by omega) (by omega)
  rcases Nat.lt_or_ge n 224 with g13 | g13
  · exact range_all (p := fun n => nameI (Ly.run env.bare 9000 [] (Ly.start Try.f73 [.int .u8 ((n : Nat) : Int)] H0)).val? (nameT ((n : Nat) : Int))) name73_13 n (by omega) (by omega)
  rcases Nat.lt_or_ge n 240 with g14 | g14
  · exact range_all (p := fun n => nameI (Ly.run env.bare 9000 [] (Ly.start Try.f73 [.int .u8 ((n : Nat) : Int)] H0)).val? (nameT ((n : Nat) : Int))) name73_14 n (by omega) (by omega)
  rcases Nat.lt_or_ge n 256 with g15 | g15
  · exact range_all (p := fun n => nameI (Ly.run env.bare 9000 [] (Ly.start Try.f73 [.int .u8 ((n : Nat) : Int)] H0)).val? (nameT ((n : Nat) : Int))) name73_15 n (by omega) (by omega)
  omega
theorem name73_get : env.bare.fn.get 73 = some Try.f73 := by kernel_rfl
theorem name73_ans : Answers Try.prog 73 nameC := by
  intro args g v h hg
  unfold nameC at h
  split at h
  · rename_i op
    simp only [Option.some.injEq, Prod.mk.injEq] at h
    obtain ⟨rfl, rfl⟩ := h
    simp only [Bool.and_eq_true, decide_eq_true_eq] at hg
    obtain ⟨n, rfl⟩ := Int.eq_ofNat_of_zero_le (show (0 : Int) ≤ op by omega)
    refine ⟨by simp [plain, plainL], by simp [plain], fun w => ?_⟩
    exact calls_plain (by simp [VRL, VR]) (fun ρ v' h => by simpa [VR] using h) (LCalls_run (Env.bare_ok envOk) 9000 name73_get (by kernel_rfl) (nameI_eq (name73_all n (by omega) (by omega)))) w
  · cases h
end Go.Proofs.Ytpggoincnebfnaa
namespace Go.Proofs.Ytpggoincnebfnaa
open Go Go.Ly Go.RowKit
def sizeL : List Nat := [1, 3, 1, 1, 1, 1, 2, 1, 0, 1, 1, 1, 1, 1, 2, 1, 0, 3, 1, 1, 1, 1, 2, 1, 0, 1, 1, 1, 1, 1, 2, 1, 0, 3, 3, 1, 1, 1, 2, 1, 0, 1, 3, 1, 1, 1, 2, 1, 0, 3, 3, 1, 1, 1, 2, 1, 0, 1, 3, 1, 1, 1, 2, 1, 1, 1, 1, 1, 1, 1, 1, 1, 1, 1, 1, 1, 1, 1, 1, 1, 1, 1, 1, 1, 1, 1, 1, 1, 1, 1, 1, 1, 1, 1, 1, 1, 1, 1, 1, 1, 1, 1, 1, 1, 1, 1, 1, 1, 1, 1, 1, 1, 1, 1, 1, 1, 1, 1, 1, 1, 1, 1, 1, 1, 1, 1, 1, 1, 1, 1, 1, 1, 1, 1, 1, 1, 1, 1, 1, 1, 1, 1, 1, 1, 1, 1, 1, 1, 1, 1, 1, 1, 1, 1, 1, 1, 1, 1, 1, 1, 1, 1, 1, 1, 1, 1, 1, 1, 1, 1, 1, 1, 1, 1, 1, 1, 1, 1, 1, 1, 1, 1, 1, 1, 1, 1, 1, 1, 1, 1, 1, 1, 1, 1, 3, 3, 3, 1, 2, 1, 1, 1, 3, 0, 3, 3, 2, 1, 1, 1, 3, 2, 3, 1, 2, 1, 1, 0, 3, 2, 3, 0, 2, 1, 1, 1, 3, 1, 3, 1, 2, 1, 1, 1, 3, 1, 3, 0, 2, 1, 1, 1, 3, 1, 3, 1, 2, 1, 1, 1, 3, 1, 3, 0, 2, 1]
def sizeT (op : Int) : Int := ((sizeL[op.toNat]?).getD 0 : Nat)
def sizeC (l : List Value) : Option (Bool × Value) := match l with
  | [.int .u8 op] => some (inb op, .int .i64 (sizeT op))
  | _ => none
def sizeI : Option Value → Int → Bool
  | some (.int .i64 x), b => x == b
  | _, _ => false
theorem sizeI_eq {o : Option Value} {b : Int} (h : sizeI o b = true) : o = some (.int .i64 b) := by
  unfold sizeI at h
  split at h
  · simp at h; subst h; rfl
  · cases h
theorem size43_0 : ((List.range 16).all fun i => sizeI (Ly.run env.bare 6000 [] (Ly.start Try.f43 [.int .u8 (((0 + i) : Nat) : Int)] H0)).val? (sizeT (((0 + i) : Nat) : Int))) = true := by kernel_rfl
theorem size43_1 : ((List.range 16).all fun i => sizeI (Ly.run env.bare 6000 [] (Ly.start Try.f43 [.int .u8 (((16 + i) : Nat) : Int)] H0)).val? (sizeT (((16 + i) : Nat) : Int))) = true := by kernel_rfl
theorem size43_2 : ((List.range 16).all fun i => sizeI (Ly.run env.bare 6000 [] (Ly.start Try.f43 [.int .u8 (((32 + i) : Nat) : Int)] H0)).val? (sizeT (((32 + i) : Nat) : Int))) = true := by kernel_rfl
theorem size43_3 : ((List.range 16).all fun i => sizeI (Ly.run env.bare 6000 [] (Ly.start Try.f43 [.int .u8 (((48 + i) : Nat) : Int)] H0)).val? (sizeT (((48 + i) : Nat) : Int))) = true := by kernel_rfl
theorem size43_4 : ((List.range 16).all fun i => sizeI (Ly.run env.bare 6000 [] (Ly.start Try.f43 [.int .u8 (((64 + i) : Nat) : Int)] H0)).val? (sizeT (((64 + i) : Nat) : Int))) = true := by kernel_rfl
theorem size43_5 : ((List.range 16).all fun i => sizeI (Ly.run env.bare 6000 [] (Ly.start Try.f43 [.int .u8 (((80 + i) : Nat) : Int)] H0)).val? (sizeT (((80 + i) : Nat) : Int))) = true := by kernel_rfl
theorem size43_6 : ((List.range 16).all fun i => sizeI (Ly.run env.bare 6000 [] (Ly.start Try.f43 [.int .u8 (((96 + i) : Nat) : Int)] H0)).val? (sizeT (((96 + i) : Nat) : Int))) = true := by kernel_rfl
theorem size43_7 : ((List.range 16).all fun i => sizeI (Ly.run env.bare 6000 [] (Ly.start Try.f43 [.int .u8 (((112 + i) : Nat) : Int)] H0)).val? (sizeT (((112 + i) : Nat) : Int))) = true := by kernel_rfl
theorem size43_8 : ((List.range 16).all fun i => sizeI (Ly.run env.bare 6000 [] (Ly.start Try.f43 [.int .u8 (((128 + i) : Nat) : Int)] H0)).val? (sizeT (((128 + i) : Nat) : Int))) = true := by kernel_rfl
theorem size43_9 : ((List.range 16).all fun i => sizeI (Ly.run env.bare 6000 [] (Ly.start Try.f43 [.int .u8 (((144 + i) : Nat) : Int)] H0)).val? (sizeT (((144 + i) : Nat) : Int))) = true := by kernel_rfl
theorem size43_10 : ((List.range 16).all fun i => sizeI (Ly.run env.bare 6000 [] (Ly.start Try.f43 [.int .u8 (((160 + i) : Nat) : Int)] H0)).val? (sizeT (((160 + i) : Nat) : Int))) = true := by kernel_rfl
theorem size43_11 : ((List.range 16).all fun i => sizeI (Ly.run env.bare 6000 [] (Ly.start Try.f43 [.int .u8 (((176 + i) : Nat) : Int)] H0)).val? (sizeT (((176 + i) : Nat) : Int))) = true := by kernel_rfl
theorem size43_12 : ((List.range 16).all fun i => sizeI (Ly.run env.bare 6000 [] (Ly.start Try.f43 [.int .u8 (((192 + i) : Nat) : Int)] H0)).val? (sizeT (((192 + i) : Nat) : Int))) = true := by kernel_rfl
theorem size43_13 : ((List.range 16).all fun i => sizeI (Ly.run env.bare 6000 [] (Ly.start Try.f43 [.int .u8 (((208 + i) : Nat) : Int)] H0)).val? (sizeT (((208 + i) : Nat) : Int))) = true := by kernel_rfl
theorem size43_14 : ((List.range 16).all fun i => sizeI (Ly.run env.bare 6000 [] (Ly.start Try.f43 [.int .u8 (((224 + i) : Nat) : Int)] H0)).val? (sizeT (((224 + i) : Nat) : Int))) = true := by kernel_rfl
theorem size43_15 : ((List.range 16).all fun i => sizeI (Ly.run env.bare 6000 [] (Ly.start Try.f43 [.int .u8 (((240 + i) : Nat) : Int)] H0)).val? (sizeT (((240 + i) : Nat) : Int))) = true := by kernel_rfl
theorem size43_all (n : Nat) (h : n < 256) : sizeI (Ly.run env.bare 6000 [] (Ly.start Try.f43 [.int .u8 ((n : Nat) : Int)] H0)).val? (sizeT ((n : Nat) : Int)) = true := by
  rcases Nat.lt_or_ge n 16 with g0 | g0
  · exact range_all (p := fun n => sizeI (Ly.run env.bare 6000 [] (Ly.start Try.f43 [.int .u8 ((n : Nat) : Int)] H0)).val? (sizeT ((n : Nat) : Int))) size43_0 n (by omega) (by omega)
  rcases Nat.lt_or_ge n 32 with g1 | g1
  · exact range_all (p := fun n => sizeI (Ly.run env.bare 6000 [] (Ly.start Try.f43 [.int .u8 ((n : Nat) : Int)] H0)).val? (sizeT ((n : Nat) : Int))) size43_1 n (by omega) (by omega)
  rcases Nat.lt_or_ge n 48 with g2 | g2
  · exact range_all (p := fun n => sizeI (Ly.run env.bare 6000 [] (Ly.start Try.f43 [.int .u8 ((n : Nat) : Int)] H0)).val? (sizeT ((n : Nat) : Int))) size43_2 n (by omega) (by omega)
  rcases Nat.lt_or_ge n 64 with g3 | g3
  · exact range_all (p := fun n => sizeI (Ly.run env.bare 6000 [] (Ly.start Try.f43 [.int .u8 ((n : Nat) : Int)] H0)).val? (sizeT ((n : Nat) : Int))) size43_3 n (by omega) (by omega)
  rcases Nat.lt_or_ge n 80 with g4 | g4
  · exact range_all (p := fun n => sizeI (Ly.run env.bare 6000 [] (Ly.start Try.f43 [.int .u8 ((n : Nat) : Int)] H0)).val? (sizeT ((n : Nat) : Int))) size43_4 n (by omega) (by omega)
  rcases Nat.lt_or_ge n 96 with g5 | g5
  · exact range_all (p := fun n => sizeI (Ly.run env.bare 6000 [] (Ly.start Try.f43 [.int .u8 ((n : Nat) : Int)] H0)).val? (sizeT ((n : Nat) : Int))) size43_5 n (by omega) (by omega)
  rcases Nat.lt_or_ge n 112 with g6 | g6
  · exact range_all (p := fun n => sizeI (Ly.run env.bare 6000 [] (Ly.start Try.f43 [.int .u8 ((n : Nat) : Int)] H0)).val? (sizeT ((n : Nat) : Int))) size43_6 n (by omega) (by omega)
  rcases Nat.lt_or_ge n 128 with g7 | g7
  · exact range_all (p := fun n => sizeI (Ly.run env.bare 6000 [] (Ly.start Try.f43 [.int .u8 ((n : Nat) : Int)] H0)).val? (sizeT ((n : Nat) : Int))) size43_7 n (by omega) (by omega)
  rcases Nat.lt_or_ge n 144 with g8 | g8
  · exact range_all (p := fun n => sizeI (Ly.run env.bare 6000 [] (Ly.start Try.f43 [.int .u8 ((n : Nat) : Int)] H0)).val? (sizeT ((n : Nat) : Int))) size43_8 n (by omega) (by omega)
  rcases Nat.lt_or_ge n 160 with g9 | g9
  · exact range_all (p := fun n => sizeI (Ly.run env.bare 6000 [] (Ly.start Try.f43 [.int .u8 ((n : Nat) : Int)] H0)).val? (sizeT ((n : Nat) : Int))) size43_9 n (by omega) (by omega)
  rcases Nat.lt_or_ge n 176 with g10 | g10
  · exact range_all (p := fun n => sizeI (Ly.run env.bare 6000 [] (Ly.start Try.f43 [.int .u8 ((n : Nat) : Int)] H0)).val? (sizeT ((n : Nat) : Int))) size43_10 n (by omega) (by omega)
  rcases Nat.lt_or_ge n 192 with g11 | g11
  · exact range_all (p := fun n => sizeI (Ly.run env.bare 6000 [] (Ly.start Try.f43 [.int .u8 ((n : Nat) : Int)] H0)).val? (sizeT ((n : Nat) : Int))) size43_11 n (by omega) (by omega)
  rcases Nat.lt_or_ge n 208 with g12 | g12
  · exact range_all (p := fun n => sizeI (Ly.run env.bare 6000 [] (Ly.start Try.f43 [.int .u8 ((n : Nat) : Int)] H0)).val? (sizeT ((n : Nat) : Int))) size43_12 n (by omega) (by omega)
  rcases Nat.lt_or_ge n 224 with g13 | g13
  · exact range_all (p := fun n => sizeI (Ly.run env.bare 6000 [] (Ly.start Try.f43 [.int .u8 ((n : Nat) : Int)] H0)).val? (sizeT ((n : Nat) : Int))) size43_13 n (by omega) (by omega)
  rcases Nat.lt_or_ge n 240 with g14 | g14
  · exact range_all (p := fun n => sizeI (Ly.run env.bare 6000 [] (Ly.start Try.f43 [.int .u8 ((n : Nat) : Int)] H0)).val? (sizeT ((n : Nat) : Int))) size43_14 n (by omega) (by omega)
  rcases Nat.lt_or_ge n 256 with g15 | g15
  · exact range_all (p := fun n => sizeI (Ly.run env.bare 6000 [] (Ly.start Try.f43 [.int .u8 ((n : Nat) : Int)] H0)).val? (sizeT ((n : Nat) : Int))) size43_15 n (by omega) (by omega)
  omega
theorem size43_get : env.bare.fn.get 43 = some Try.f43 := by kernel_rfl
theorem size43_ans : Answers Try.prog 43 sizeC := by
  intro args g v h hg
  unfold sizeC at h
  split at h
  · rename_i op
    simp only [Option.some.injEq, Prod.mk.injEq] at h
    obtain ⟨rfl, rfl⟩ := h
    rw [inb_iff] at hg
    obtain ⟨n, rfl⟩ := Int.eq_ofNat_of_zero_le hg.1
    refine ⟨by simp [plain, plainL], by simp [plain], fun w => ?_⟩
    exact calls_plain (by simp [VRL, VR]) (fun ρ v' h => by simpa [VR] using h) (LCalls_run (Env.bare_ok envOk) 6000 size43_get (by kernel_rfl) (sizeI_eq (size43_all n (by omega)))) w
  · cases h
theorem size32_0 : ((List.range 16).all fun i => sizeI (Ly.run env.bare 6000 [] (Ly.start Try.f32 [.int .u8 (((0 + i) : Nat) : Int)] H0)).val? (sizeT (((0 + i) : Nat) : Int))) = true := by kernel_rfl
theorem size32_1 : ((List.range 16).all fun i => sizeI (Ly.run env.bare 6000 [] (Ly.start Try.f32 [.int .u8 (((16 + i) : Nat) : Int)] H0)).val? (sizeT (((16 + i) : Nat) : Int))) = true := by kernel_rfl
theorem size32_2 : ((List.range 16).all fun i => sizeI (Ly.run env.bare 6000 [] (Ly.start Try.f32 [.int .u8 (((32 + i) : Nat) : Int)] H0)).val? (sizeT (((32 + i) : Nat) : Int))) = true := by kernel_rfl
theorem size32_3 : ((List.range 16).all fun i => sizeI (Ly.run env.bare 6000 [] (Ly.start Try.f32 [.int .u8 (((48 + i) : Nat) : Int)] H0)).val? (sizeT (((48 + i) : Nat) : Int))) = true := by kernel_rfl
theorem size32_4 : ((List.range 16).all fun i => sizeI (Ly.run env.bare 6000 [] (Ly.start Try.f32 [.int .u8 (((64 + i) : Nat) : Int)] H0)).val? (sizeT (((64 + i) : Nat) : Int))) = true := by kernel_rfl
theorem size32_5 : ((List.range 16).all fun i => sizeI (Ly.run env.bare 6000 [] (Ly.start Try.f32 [.int .u8 (((80 + i) : Nat) : Int)] H0)).val? (sizeT (((80 + i) : Nat) : Int))) = true := by kernel_rfl
theorem size32_6 : ((List.range 16).all fun i => sizeI (Ly.run env.bare 6000 [] (Ly.start Try.f32 [.int .u8 (((96 + i) : Nat) : Int)] H0)).val? (sizeT (((96 + i) : Nat) : Int))) = true := by kernel_rfl
theorem size32_7 : ((List.range 16).all fun i => sizeI (Ly.run env.bare 6000 [] (Ly.start Try.f32 [.int .u8 (((112 + i) : Nat) : Int)] H0)).val? (sizeT (((112 + i) : Nat) : Int))) = true := by kernel_rfl
theorem size32_8 : ((List.range 16).all fun i => sizeI (Ly.run env.bare 6000 [] (Ly.start Try.f32 [.int .u8 (((128 + i) : Nat) : Int)] H0)).val? (sizeT (((128 + i) : Nat) : Int))) = true := by kernel_rfl
theorem size32_9 : ((List.range 16).all fun i => sizeI (Ly.run env.bare 6000 [] (Ly.start Try.f32 [.int .u8 (((144 + i) : Nat) : Int)] H0)).val? (sizeT (((144 + i) : Nat) : Int))) = true := by kernel_rfl
theorem size32_10 : ((List.range 16).all fun i => sizeI (Ly.run env.bare 6000 [] (Ly.start Try.f32 [.int .u8 (((160 + i) : Nat) : Int)] H0)).val? (sizeT (((160 + i) : Nat) : Int))) = true := by kernel_rfl
theorem size32_11 : ((List.range 16).all fun i => sizeI (Ly.run env.bare 6000 [] (Ly.start Try.f32 [.int .u8 (((176 + i) : Nat) : Int)] H0)).val? (sizeT (((176 + i) : Nat) : Int))) = true := by kernel_rfl
theorem size32_12 : ((List.range 16).all fun i => sizeI (Ly.run env.bare 6000 [] (Ly.start Try.f32 [.int .u8 (((192 + i) : Nat) : Int)] H0)).val? (sizeT (((192 + i) : Nat) : Int))) = true := by kernel_rfl
theorem size32_13 : ((List.range 16).all fun i => sizeI (Ly.run env.bare 6000 [] (Ly.start Try.f32 [.int .u8 (((208 + i) : Nat) : Int)] H0)).val? (sizeT (((208 + i) : Nat) : Int))) = true := by kernel_rfl
theorem size32_14 : ((List.range 16).all fun i => sizeI (Ly.run env.bare 6000 [] (Ly.start Try.f32 [.int .u8 (((224 + i) : Nat) : Int)] H0)).val? (sizeT (((224 + i) : Nat) : Int))) = true := by kernel_rfl
theorem size32_15 : ((List.range 16).all fun i => sizeI (Ly.run env.bare 6000 [] (Ly.start Try.f32 [.int .u8 (((240 + i) : Nat) : Int)] H0)).val? (sizeT (((240 + i) : Nat) : Int))) = true := by kernel_rfl
theorem size32_all (n : Nat) (h : n < 256) : sizeI (Ly.run env.bare 6000 [] (Ly.start Try.f32 [.int .u8 ((n : Nat) : Int)] H0)).val? (sizeT ((n : Nat) : Int)) = true := by
  rcases Nat.lt_or_ge n 16 with g0 | g0
  · exact range_all (p := fun n => sizeI (Ly.run env.bare 6000 [] (Ly.start Try.f32 [.int .u8 ((n : Nat) : Int)] H0)).val? (sizeT ((n : Nat) : Int))) size32_0 n (by omega) (by omega)
  rcases Nat.lt_or_ge n 32 with g1 | g1
  · exact range_all (p := fun n => sizeI (Ly.run env.bare 6000 [] (Ly.start Try.f32 [.int .u8 ((n : Nat) : Int)] H0)).val? (sizeT ((n : Nat) : Int))) size32_1 n (by omega) (by omega)
  rcases Nat.lt_or_ge n 48 with g2 | g2
  · exact range_all (p := fun n => sizeI (Ly.run env.bare 6000 [] (Ly.start Try.f32 [.int .u8 ((n : Nat) : Int)] H0)).val? (sizeT ((n : Nat) : Int))) size32_2 n (by omega) (by omega)
  rcases Nat.lt_or_ge n 64 with g3 | g3
  · exact range_all (p := fun n => sizeI (Ly.run env.bare 6000 [] (Ly.start Try.f32 [.int .u8 ((n : Nat) : Int)] H0)).val? (sizeT ((n : Nat) : Int))) size32_3 n (by omega) (by omega)
  rcases Nat.lt_or_ge n 80 with g4 | g4
  · exact range_all (p := fun n => sizeI (Ly.run env.bare 6000 [] (Ly.start Try.f32 [.int .u8 ((n : Nat) : Int)] H0)).val? (sizeT ((n : Nat) : Int))) size32_4 n (by omega) (by omega)
  rcases Nat.lt_or_ge n 96 with g5 | g5
  · exact range_all (p := fun n => sizeI (Ly.run env.bare 6000 [] (Ly.start Try.f32 [.int .u8 ((n : Nat) : Int)] H0)).val? (sizeT ((n : Nat) : Int))) size32_5 n (by omega) (by omega)
  rcases Nat.lt_or_ge n 112 with g6 | g6
  · exact range_all (p := fun n => sizeI (Ly.run env.bare 6000 [] (Ly.start Try.f32 [.int .u8 ((n : Nat) : Int)] H0)).val? (sizeT ((n : Nat) : Int))) size32_6 n (by omega) (by omega)
  rcases Nat.lt_or_ge n 128 with g7 | g7
  · exact range_all (p := fun n => sizeI (Ly.run env.bare 6000 [] (Ly.start Try.f32 [.int .u8 ((n : Nat) : Int)] H0)).val? (sizeT ((n : Nat) : Int))) size32_7 n (by omega) (by omega)
  rcases Nat.lt_or_ge n 144 with g8 | g8
  · exact range_all (p := fun n => sizeI (Ly.run env.bare 6000 [] (Ly.start Try.f32 [.int .u8 ((n : Nat) : Int)] H0)).val? (sizeT ((n : Nat) : Int))) size32_8 n (by omega) (by omega)
  rcases Nat.lt_or_ge n 160 with g9 | g9
  · exact range_all (p := fun n => sizeI (Ly.run env.bare 6000 [] (Ly.start Try.f32 [.int .u8 ((n : Nat) : Int)] H0)).val? (sizeT ((n : Nat) : Int))) size32_9 n (by omega) (by omega)
  rcases Nat.lt_or_ge n 176 with g10 | g10
  · exact range_all (p := fun n => sizeI (Ly.run env.bare 6000 [] (Ly.start Try.f32 [.int .u8 ((n : Nat) : Int)] H0)).val? (sizeT ((n : Nat) : Int))) size32_10 n (by omega) (by omega)
  rcases Nat.lt_or_ge n 192 with g11 | g11
  · exact range_all (p := fun n => sizeI (Ly.run env.bare 6000 [] (Ly.start Try.f32 [.int .u8 ((n : Nat) : Int)] H0)).val? (sizeT ((n : Nat) : Int))) size32_11 n (by omega) (by omega)
  rcases Nat.lt_or_ge n 208 with g12 | g12
  · exact range_all (p := fun n => sizeI (Ly.run env.bare 6000 [] (Ly.start Try.f32 [.int .u8 ((n : Nat) : Int)] H0)).val? (sizeT ((n : Nat) : Int))) size32_12 n (by omega) (by omega)
  rcases Nat.lt_or_ge n 224 with g13 | g13
  · exact range_all (p := fun n => sizeI (Ly.run env.bare 6000 [] (Ly.start Try.f32 [.int .u8 ((n : Nat) : Int)] H0)).val? (sizeT ((n : Nat) : Int))) size32_13 n (by omega) (by omega)
  rcases Nat.lt_or_ge n 240 with g14 | g14
  · exact range_all (p := fun n => sizeI (Ly.run env.bare 6000 [] (Ly.start Try.f32 [.int .u8 ((n : Nat) : Int)] H0)).val? (sizeT ((n : Nat) : Int))) size32_14 n (by omega) (by omega)
  rcases Nat.lt_or_ge n 256 with g15 | g15
  · exact range_all (p := fun n => sizeI (Ly.run env.bare 6000 [] (Ly.start Try.f32 [.int .u8 ((n : Nat) : Int)] H0)).val? (sizeT ((n : Nat) : Int))) size32_15 n (by omega) (by omega)
  omega
theorem size32_get : env.bare.fn.get 32 = some Try.f32 := by kernel_rfl
theorem size32_ans : Answers Try.prog 32 sizeC := by
  intro args g v h hg
  unfold sizeC at h
  split at h
  · rename_i op
    simp only [Option.some.injEq, Prod.mk.injEq] at h
    obtain ⟨rfl, rfl⟩ := h
    rw [inb_iff] at hg
    obtain ⟨n, rfl⟩ := Int.eq_ofNat_of_zero_le hg.1
    refine ⟨by simp [plain, plainL], by simp [plain], fun w => ?_⟩
    exact calls_plain (by simp [VRL, VR]) (fun ρ v' h => by simpa [VR] using h) (LCalls_run (Env.bare_ok envOk) 6000 size32_get (by kernel_rfl) (sizeI_eq (size32_all n (by omega)))) w
  · cases h
end Go.Proofs.Ytpggoincnebfnaa
end
