/- What the functions of package word, and of the document's answer, compute: one closed form for both. -/
import Derived.Test.YtnknopebjdgdjaaWdRuns
namespace Go.Proofs.Ytnknopebjdgdjaa
open Go Go.Ly Go.RowKit
set_option linter.unusedVariables false
set_option linter.unusedSimpArgs false

def cI (c : Bool) : Int := bif c then 1 else 0
noncomputable abbrev fl (b : Int) (x c : Bool) : Value := .agg ⟨[.bool (decide (128 ≤ b)), .bool (b == 0), .bool x, .bool (par b), .bool c]⟩
noncomputable abbrev tup (b : Int) (x c : Bool) : Value := .tuple ⟨[.int .u8 b, fl b x c]⟩
theorem tup_ext {b b' : Int} {x x' c c' : Bool} (h : b = b') (hx : x = x') (hc : c = c') : tup b x c = tup b' x' c' := by rw [h, hx, hc]
theorem tup_plain (b : Int) (x c : Bool) : plain (tup b x c) = true := by simp [plain, plainL]

theorem w64 (n : Int) (h₀ : 0 ≤ n) (h₁ : n < 18446744073709551616) : IntKind.u64.wrap n = n := by rw [IntKind.wrap_u64]; omega
theorem wi64 (n : Int) (h₀ : -9223372036854775808 ≤ n) (h₁ : n < 9223372036854775808) : IntKind.i64.wrap n = n := by rw [IntKind.wrap_i64]; omega
theorem tmodp (n m : Int) (h : 0 ≤ n) : n.tmod m = n % m := Int.tmod_eq_emod_of_nonneg h
theorem tdivp (n m : Int) (h : 0 ≤ n) : n.tdiv m = n / m := Int.tdiv_eq_ediv_of_nonneg h
theorem bitsb (o : BinOp) (a b : Int) : 0 ≤ bits o .u8 a b ∧ bits o .u8 a b ≤ 255 := by
  cases o <;> (first | (simp only [bits, IntKind.wrap_u8']; omega) | (simp [bits]))
theorem i64_and65535 (n : Int) : bits .and .i64 n 65535 = n % 65536 := by
  have h127 : (BitVec.ofInt 64 65535).toNat = 2 ^ 16 - 1 := by decide
  have key : (BitVec.ofInt 64 n &&& BitVec.ofInt 64 65535).toNat = (n % ((2 ^ 64 : Nat) : Int)).toNat % 2 ^ 16 := by
    rw [BitVec.toNat_and, BitVec.toNat_ofInt, h127, Nat.and_two_pow_sub_one_eq_mod]
  show IntKind.i64.wrap ((BitVec.ofInt 64 n &&& BitVec.ofInt 64 65535).toNat : Nat) = n % 65536
  rw [key, IntKind.wrap_i64]
  omega
theorem aux8 (b : Int) (h0 : 0 ≤ b) (h1 : b ≤ 255) : ((b / 8 % 256) % 2 == 1) = (bits .and .u8 b 8 != 0) :=
  byte_all (p := fun b => ((b / 8 % 256) % 2 == 1) = (bits .and .u8 b 8 != 0)) (by decide +kernel) b h0 h1

noncomputable def addR (a b : Int) (c : Bool) : Value := tup ((a + b + cI c) % 256) (decide (15 < a % 16 + b % 16 + cI c)) (decide (255 < a + b + cI c))
noncomputable def subR (a b : Int) (c : Bool) : Value := tup ((a - b - cI c) % 256) (decide (15 < a % 16 + 15 - b % 16 + cI (!c))) (decide (a - b - cI c < 0))
noncomputable def andR (a b : Int) : Value := tup (bits .and .u8 a b) (bits .and .u8 (bits .or .u8 a b) 8 != 0) false
noncomputable def orR (a b : Int) : Value := tup (bits .or .u8 a b) false false
noncomputable def xorR (a b : Int) : Value := tup (bits .xor .u8 a b) false false
noncomputable def add16R (a b : Int) : Value := .tuple ⟨[.int .u16 ((a + b) % 65536), .bool (decide (65535 < a + b))]⟩
theorem add23F_ok (a b : Int) (ha : 0 ≤ a) (ha' : a ≤ 255) (hb : 0 ≤ b) (hb' : b ≤ 255) : trusted (add23FT0 a b) ∧ add23FV0 a b = addR a b false := by
  unfold add23FT0 add23FV0 addR
  refine ⟨?_, ?_⟩
  · (first | simp (disch := omega) only [w64, wi64, IntKind.wrap_u8', IntKind.wrap_u16, Int.zero_add, Int.add_zero, Int.sub_zero, and128, Ly.and15, not8, and255, i64_and65535, tmodp, tdivp, aux8, cI, cond_true, cond_false, Bool.not_true, Bool.not_false, Bool.not_not, decide_not, trusted, Bool.and_eq_true, decide_eq_true_eq, and_true] | skip)
    first | done | omega | trivial
  · (first | simp (disch := omega) only [w64, wi64, IntKind.wrap_u8', IntKind.wrap_u16, Int.zero_add, Int.add_zero, Int.sub_zero, and128, Ly.and15, not8, and255, i64_and65535, tmodp, tdivp, aux8, cI, cond_true, cond_false, Bool.not_true, Bool.not_false, Bool.not_not, decide_not, trusted, Bool.and_eq_true, decide_eq_true_eq, and_true] | skip)
    first | done | rfl | exact tup_ext (by omega) (by first | rfl | (simp only [decide_eq_decide]; omega)) (by first | rfl | (simp only [decide_eq_decide]; omega) | (rw [← decide_not, decide_eq_decide]; omega) | (rw [Bool.eq_iff_iff]; simp only [Bool.not_eq_true', decide_eq_false_iff_not, decide_eq_true_eq]; omega)) | (simp only [Int.emod_emod_of_dvd _ (Int.dvd_refl _)])
theorem add23T_ok (a b : Int) (ha : 0 ≤ a) (ha' : a ≤ 255) (hb : 0 ≤ b) (hb' : b ≤ 255) : trusted (add23TT0 a b) ∧ add23TV0 a b = addR a b true := by
  unfold add23TT0 add23TV0 addR
  refine ⟨?_, ?_⟩
  · (first | simp (disch := omega) only [w64, wi64, IntKind.wrap_u8', IntKind.wrap_u16, Int.zero_add, Int.add_zero, Int.sub_zero, and128, Ly.and15, not8, and255, i64_and65535, tmodp, tdivp, aux8, cI, cond_true, cond_false, Bool.not_true, Bool.not_false, Bool.not_not, decide_not, trusted, Bool.and_eq_true, decide_eq_true_eq, and_true] | skip)
    first | done | omega | trivial
  · (first | simp (disch := omega) only [w64, wi64, IntKind.wrap_u8', IntKind.wrap_u16, Int.zero_add, Int.add_zero, Int.sub_zero, and128, Ly.and15, not8, and255, i64_and65535, tmodp, tdivp, aux8, cI, cond_true, cond_false, Bool.not_true, Bool.not_false, Bool.not_not, decide_not, trusted, Bool.and_eq_true, decide_eq_true_eq, and_true] | skip)
    first | done | rfl | exact tup_ext (by omega) (by first | rfl | (simp only [decide_eq_decide]; omega)) (by first | rfl | (simp only [decide_eq_decide]; omega) | (rw [← decide_not, decide_eq_decide]; omega) | (rw [Bool.eq_iff_iff]; simp only [Bool.not_eq_true', decide_eq_false_iff_not, decide_eq_true_eq]; omega)) | (simp only [Int.emod_emod_of_dvd _ (Int.dvd_refl _)])
theorem sub25F_ok (a b : Int) (ha : 0 ≤ a) (ha' : a ≤ 255) (hb : 0 ≤ b) (hb' : b ≤ 255) : trusted (sub25FT0 a b) ∧ sub25FV0 a b = subR a b false := by
  unfold sub25FT0 sub25FV0 subR
  refine ⟨?_, ?_⟩
  · (first | simp (disch := omega) only [w64, wi64, IntKind.wrap_u8', IntKind.wrap_u16, Int.zero_add, Int.add_zero, Int.sub_zero, and128, Ly.and15, not8, and255, i64_and65535, tmodp, tdivp, aux8, cI, cond_true, cond_false, Bool.not_true, Bool.not_false, Bool.not_not, decide_not, trusted, Bool.and_eq_true, decide_eq_true_eq, and_true] | skip)
    first | done | omega | trivial
  · (first | simp (disch := omega) only [w64, wi64, IntKind.wrap_u8', IntKind.wrap_u16, Int.zero_add, Int.add_zero, Int.sub_zero, and128, Ly.and15, not8, and255, i64_and65535, tmodp, tdivp, aux8, cI, cond_true, cond_false, Bool.not_true, Bool.not_false, Bool.not_not, decide_not, trusted, Bool.and_eq_true, decide_eq_true_eq, and_true] | skip)
    first | done | rfl | exact tup_ext (by omega) (by first | rfl | (simp only [decide_eq_decide]; omega)) (by first | rfl | (simp only [decide_eq_decide]; omega) | (rw [← decide_not, decide_eq_decide]; omega) | (rw [Bool.eq_iff_iff]; simp only [Bool.not_eq_true', decide_eq_false_iff_not, decide_eq_true_eq]; omega)) | (simp only [Int.emod_emod_of_dvd _ (Int.dvd_refl _)])
theorem sub25T_ok (a b : Int) (ha : 0 ≤ a) (ha' : a ≤ 255) (hb : 0 ≤ b) (hb' : b ≤ 255) : trusted (sub25TT0 a b) ∧ sub25TV0 a b = subR a b true := by
  unfold sub25TT0 sub25TV0 subR
  refine ⟨?_, ?_⟩
  · (first | simp (disch := omega) only [w64, wi64, IntKind.wrap_u8', IntKind.wrap_u16, Int.zero_add, Int.add_zero, Int.sub_zero, and128, Ly.and15, not8, and255, i64_and65535, tmodp, tdivp, aux8, cI, cond_true, cond_false, Bool.not_true, Bool.not_false, Bool.not_not, decide_not, trusted, Bool.and_eq_true, decide_eq_true_eq, and_true] | skip)
    first | done | omega | trivial
  · (first | simp (disch := omega) only [w64, wi64, IntKind.wrap_u8', IntKind.wrap_u16, Int.zero_add, Int.add_zero, Int.sub_zero, and128, Ly.and15, not8, and255, i64_and65535, tmodp, tdivp, aux8, cI, cond_true, cond_false, Bool.not_true, Bool.not_false, Bool.not_not, decide_not, trusted, Bool.and_eq_true, decide_eq_true_eq, and_true] | skip)
    first | done | rfl | exact tup_ext (by omega) (by first | rfl | (simp only [decide_eq_decide]; omega)) (by first | rfl | (simp only [decide_eq_decide]; omega) | (rw [← decide_not, decide_eq_decide]; omega) | (rw [Bool.eq_iff_iff]; simp only [Bool.not_eq_true', decide_eq_false_iff_not, decide_eq_true_eq]; omega)) | (simp only [Int.emod_emod_of_dvd _ (Int.dvd_refl _)])
end Go.Proofs.Ytnknopebjdgdjaa
