/- The walks of this seat's laws: each returns true at every input, and writes nothing that was there. -/
import Derived.Test.YtabhfbmaomkmhaaWLeaf
import Derived.Test.YtabhfbmaomkmhaaWTurn
import Derived.KernelRfl
import Derived.OpenShut
namespace Go.Proofs.Ytabhfbmaomkmhaa
open Go Go.Lx Go.RowKit
set_option linter.unusedVariables false
set_option linter.unusedSimpArgs false
noncomputable def turns10T0 (k : Int) (a : Int) (c : Bool) (m : Int) (n : Int) : List (Bool × Bool) := [(inb a, true),
 (inb a, true),
 (decide (0 ≤ m) && decide (m ≤ 65535) && (decide (0 ≤ n) && decide (n ≤ 65535)), true),
 (decide (0 ≤ m) && decide (m ≤ 65535) && (decide (0 ≤ n) && decide (n ≤ 65535)), true),
 ((turnA k a c == turnA k a c) == true, true),
 ((turnA k a c == turnA k a c) == true, true),
 ((turnA k a c == turnA k a c) == true, true),
 (turnA k a c == turnA k a c, true),
 ((turnB k a c == turnB k a c) == true, true),
 ((turnB k a c == turnB k a c) == true, true),
 ((turnB k a c == turnB k a c) == true, true),
 (turnB k a c == turnB k a c, true),
 (((m + n) % 65536 == (m + n) % 65536) == true, true),
 (((m + n) % 65536 == (m + n) % 65536) == true, true),
 (((m + n) % 65536 == (m + n) % 65536) == true, true),
 ((m + n) % 65536 == (m + n) % 65536, true),
 ((decide (65535 < m + n) == decide (65535 < m + n)) == true, true),
 (decide (65535 < m + n) == decide (65535 < m + n), true)]
noncomputable def turns10V0 (k : Int) (a : Int) (c : Bool) (m : Int) (n : Int) : Value := Value.bool true
theorem turns10R0 (k : Int) (a : Int) (c : Bool) (m : Int) (n : Int) : (Lx.run (uctx) 20000 [(0, true), (0, true), (0, true), (0, true), (0, true), (0, true), (0, true), (0, true), (0, true), (0, true), (0, true), (0, true), (0, true), (0, true), (0, true), (0, true), (0, true), (0, true)] (Lx.start Try.f10 ([Value.int
    IntKind.i64 k,
  Value.int IntKind.u8 a, Value.bool c, Value.int IntKind.u16 m,
  Value.int IntKind.u16 n]) H0)).out? = some (turns10T0 k a c m n, turns10V0 k a c m n) := by kernel_rfl
theorem lget3 : xctx.fn.get 3 = some Try.f3 := by kernel_rfl
theorem lget4 : xctx.fn.get 4 = some Try.f4 := by kernel_rfl
theorem lget5 : xctx.fn.get 5 = some Try.f5 := by kernel_rfl
theorem lget6 : xctx.fn.get 6 = some Try.f6 := by kernel_rfl
theorem lget7 : xctx.fn.get 7 = some Try.f7 := by kernel_rfl
theorem lget8 : xctx.fn.get 8 = some Try.f8 := by kernel_rfl
theorem lget9 : xctx.fn.get 9 = some Try.f9 := by kernel_rfl
theorem lget10 : uctx.fn.get 10 = some Try.f10 := by kernel_rfl
theorem lget11 : xctx.fn.get 11 = some Try.f11 := by kernel_rfl

theorem bounds16 {a : Int} (h : (Lit.int .u16 a).wf = true) : 0 ≤ a ∧ a ≤ 65535 := bounds_u16 h
theorem tens_tab : ∀ a : Fin 100, ∀ b : Fin 100, tok (tens3T1 (a.val : Int) (b.val : Int)) = true := by decide +kernel
theorem tens_walk (a b : Int) (wa : (Lit.int .u8 a).wf = true) (wb : (Lit.int .u8 b).wf = true) (w : World) :
    Calls Try.prog 3 #[.int .u8 a, .int .u8 b] w fun e w' => e = .returned (.bool true) ∧ Below w.heap.size w w' := by
  have ha := bounds_u8 wa
  have hb := bounds_u8 wb
  by_cases h1 : 99 < a
  · exact calls_trust (v := .bool true) xok 20000 _ lget3 (by kernel_rfl) (by simp [plainL, plain]) (by simp [plain]) (tens3R4 a b) (by simp [tens3T4, trusted, h1]) w
  · by_cases h2 : 99 < b
    · exact calls_trust (v := .bool true) xok 20000 _ lget3 (by kernel_rfl) (by simp [plainL, plain]) (by simp [plain]) (tens3R0 a b) (by simp [tens3T0, trusted, h1, h2]) w
    · have ht := fin_all 100 (p := fun a => ∀ b : Fin 100, tok (tens3T1 a (b.val : Int)) = true) tens_tab a ha.1 (by omega)
      have ht := fin_all 100 (p := fun b => tok (tens3T1 a b) = true) ht b hb.1 (by omega)
      exact calls_trust (v := .bool true) xok 20000 _ lget3 (by kernel_rfl) (by simp [plainL, plain]) (by simp [plain]) (tens3R1 a b) (tok_trusted _ ht) w
theorem bits_walk (a b : Int) (wa : (Lit.int .u8 a).wf = true) (wb : (Lit.int .u8 b).wf = true) (w : World) :
    Calls Try.prog 4 #[.int .u8 a, .int .u8 b] w fun e w' => e = .returned (.bool true) ∧ Below w.heap.size w w' := by
  have ha := bounds_u8 wa
  have hb := bounds_u8 wb
  have i1 : inb a = true := (inb_iff a).2 (by omega)
  have i2 : inb b = true := (inb_iff b).2 (by omega)
  exact calls_trust (v := .bool true) xok 20000 _ lget4 (by kernel_rfl) (by simp [plainL, plain]) (by simp [plain]) (bits4R0 a b) (by simp [bits4T0, trusted, i1, i2]) w
theorem sums_walk (a b : Int) (c : Bool) (wa : (Lit.int .u8 a).wf = true) (wb : (Lit.int .u8 b).wf = true) (w : World) :
    Calls Try.prog 6 #[.int .u8 a, .int .u8 b, .bool c] w fun e w' => e = .returned (.bool true) ∧ Below w.heap.size w w' := by
  have ha := bounds_u8 wa
  have hb := bounds_u8 wb
  have i1 : inb a = true := (inb_iff a).2 (by omega)
  have i2 : inb b = true := (inb_iff b).2 (by omega)
  exact calls_trust (v := .bool true) xok 20000 _ lget6 (by kernel_rfl) (by simp [plainL, plain]) (by simp [plain]) (sums6R0 a b c) (by simp [sums6T0, trusted, i1, i2]) w
theorem inb_mod (x : Int) : inb (x % 256) = true := (inb_iff _).2 (by omega)
theorem inb_bits (o : BinOp) (a b : Int) : inb (bits o .u8 a b) = true := (inb_iff _).2 (bitsb o a b)
theorem signs_walk (a b : Int) (c : Bool) (wa : (Lit.int .u8 a).wf = true) (wb : (Lit.int .u8 b).wf = true) (w : World) :
    Calls Try.prog 7 #[.int .u8 a, .int .u8 b, .bool c] w fun e w' => e = .returned (.bool true) ∧ Below w.heap.size w w' := by
  have ha := bounds_u8 wa
  have hb := bounds_u8 wb
  have n1 := (inb_iff _).1 (inb_mod (a + b + cI c))
  have n2 := (inb_iff _).1 (inb_mod (a - b - cI c))
  have n3 := bitsb .and a b
  have n4 := bitsb .or a b
  have n5 := bitsb .xor a b
  have i1 : inb a = true := (inb_iff a).2 (by omega)
  have i2 : inb b = true := (inb_iff b).2 (by omega)
  exact calls_trust (v := .bool true) xok 20000 _ lget7 (by kernel_rfl) (by simp [plainL, plain]) (by simp [plain]) (signs7R0 a b c) (by simp [signs7T0, trusted, i1, i2, n1, n2, n3, n4, n5]) w
theorem steps_walk (a : Int) (s z x p c : Bool) (wa : (Lit.int .u8 a).wf = true) (w : World) :
    Calls Try.prog 8 #[.int .u8 a, .agg #[.bool s, .bool z, .bool x, .bool p, .bool c]] w fun e w' => e = .returned (.bool true) ∧ Below w.heap.size w w' := by
  have ha := bounds_u8 wa
  have i1 : inb a = true := (inb_iff a).2 (by omega)
  exact calls_trust (v := .bool true) xok 20000 _ lget8 (by kernel_rfl) (by simp [plainL, plain]) (by simp [plain]) (steps8R0 a s z x p c) (by simp [steps8T0, trusted, i1]) w
theorem bytes_tab : ∀ s z x p c : Bool, ∀ a : Fin 256, tok (bytes9T0 s z x p c (a.val : Int)) = true := by decide +kernel
theorem bytes_walk (s z x p c : Bool) (a : Int) (wa : (Lit.int .u8 a).wf = true) (w : World) :
    Calls Try.prog 9 #[.agg #[.bool s, .bool z, .bool x, .bool p, .bool c], .int .u8 a] w fun e w' => e = .returned (.bool true) ∧ Below w.heap.size w w' := by
  have ha := bounds_u8 wa
  exact calls_trust (v := .bool true) xok 20000 _ lget9 (by kernel_rfl) (by simp [plainL, plain]) (by simp [plain]) (bytes9R0 s z x p c a) (tok_trusted _ (byte_all (p := fun a => tok (bytes9T0 s z x p c a) = true) (bytes_tab s z x p c) a ha.1 (by omega))) w
theorem turns_walk (k a : Int) (c : Bool) (m n : Int) (wk : (Lit.int .i64 k).wf = true) (wa : (Lit.int .u8 a).wf = true) (wm : (Lit.int .u16 m).wf = true) (wn : (Lit.int .u16 n).wf = true) (w : World) :
    Calls Try.prog 10 #[.int .i64 k, .int .u8 a, .bool c, .int .u16 m, .int .u16 n] w fun e w' => e = .returned (.bool true) ∧ Below w.heap.size w w' := by
  have ha := bounds_u8 wa
  have hm := bounds16 wm
  have hn := bounds16 wn
  have i1 : inb a = true := (inb_iff a).2 (by omega)
  exact calls_trust (v := .bool true) uok 20000 _ lget10 (by kernel_rfl) (by simp [plainL, plain]) (by simp [plain]) (turns10R0 k a c m n) (by simp [turns10T0, trusted, i1, hm, hn]) w
theorem wide_ok (a b : Int) (h0 : 0 ≤ a) (h1 : a ≤ 65535) (h2 : 0 ≤ b) (h3 : b ≤ 65535) : trusted (wide5T0 a b) := by
  have p8 : pw 8 .u16 = 256 := by decide
  have e1 : a.fdiv 256 = a / 256 := Int.fdiv_eq_ediv_of_nonneg _ (by omega)
  have e2 : b.fdiv 256 = b / 256 := Int.fdiv_eq_ediv_of_nonneg _ (by omega)
  have e3 : a / 256 % 256 = a / 256 := by omega
  have e4 : b / 256 % 256 = b / 256 := by omega
  have i1 := inb_mod a
  have i2 := inb_mod b
  have i3 := inb_mod (a / 256)
  have i4 := inb_mod (b / 256)
  have t1 : (decide (0 ≤ a) && decide (a ≤ 65535) && (decide (0 ≤ b) && decide (b ≤ 65535))) = true := by simp; omega
  have key : (a + b) % 65536 = ((a / 256 + b / 256 + cI (decide (255 < a % 256 + b % 256 + 0))) % 256 * 256 + (a % 256 + b % 256 + 0) % 256) % 65536 := by
    by_cases h : 255 < a % 256 + b % 256 + 0
    · simp only [h, decide_true, cI, cond_true]; omega
    · simp only [h, decide_false, cI, cond_false]; omega
  have key2 : decide (65535 < a + b) = decide (255 < a / 256 + b / 256 + cI (decide (255 < a % 256 + b % 256 + 0))) := by
    rw [decide_eq_decide]
    by_cases h : 255 < a % 256 + b % 256 + 0
    · simp only [h, decide_true, cI, cond_true]; omega
    · simp only [h, decide_false, cI, cond_false]; omega
  have m1 : ∀ x : Int, x % 256 % 65536 = x % 256 := fun x => by omega
  have m2 : ∀ x : Int, (x % 256 * 256) % 65536 = x % 256 * 256 := fun x => by omega
  unfold wide5T0
  rw [t1, p8, IntKind.wrap_u8', IntKind.wrap_u8', IntKind.wrap_u8', IntKind.wrap_u8', IntKind.wrap_u16, IntKind.wrap_u16, IntKind.wrap_u16, IntKind.wrap_u16, e1, e2, i1, i2, i3, i4, e3, e4]
  have c0 : cI false = 0 := rfl
  rw [c0, m1, m1, m2, ← key, ← key2]
  simp [trusted]
theorem wide_walk (a b : Int) (wa : (Lit.int .u16 a).wf = true) (wb : (Lit.int .u16 b).wf = true) (w : World) :
    Calls Try.prog 5 #[.int .u16 a, .int .u16 b] w fun e w' => e = .returned (.bool true) ∧ Below w.heap.size w w' := by
  have ha := bounds16 wa
  have hb := bounds16 wb
  exact calls_trust (v := .bool true) xok 20000 _ lget5 (by kernel_rfl) (by simp [plainL, plain]) (by simp [plain]) (wide5R0 a b) (wide_ok a b (by omega) (by omega) (by omega) (by omega)) w
theorem back_ok (a b : Int) (c : Bool) (h0 : 0 ≤ a) (h1 : a ≤ 255) (h2 : 0 ≤ b) (h3 : b ≤ 255) : trusted (back11T0 a b c) := by
  have i1 : inb a = true := (inb_iff a).2 (by omega)
  have i2 : inb b = true := (inb_iff b).2 (by omega)
  have c0 : cI false = 0 := rfl
  have k1 : ((a + b + cI c) % 256 - b - cI c) % 256 = a := by cases c <;> simp only [cI, cond_true, cond_false] <;> omega
  have k2 : decide (a - b - 0 < 0) = decide (a < b) := by rw [decide_eq_decide]; omega
  have k3 : ((a - b - 0) % 256 == 0) = (a == b) := by
    rw [Bool.eq_iff_iff]; simp only [beq_iff_eq]; omega
  have k4 : (2 * a + cI c) % 256 / 2 + 128 * cI (decide (128 ≤ a)) = a := by
    by_cases h : 128 ≤ a <;> cases c <;> simp only [h, decide_true, decide_false, cI, cond_true, cond_false] <;> omega
  have k5 : ((2 * a + cI c) % 256 % 2 == 1) = c := by
    cases c <;> simp only [cI, cond_true, cond_false]
    · rw [beq_eq_false_iff_ne]; omega
    · rw [beq_iff_eq]; omega
  have k6 : (2 * a + a / 128) % 256 / 2 + (2 * a + a / 128) % 256 % 2 * 128 = a := by
    clear k1 k2 k3 k4 k5
    by_cases h : 128 ≤ a
    · have : a / 128 = 1 := by omega
      rw [this]; omega
    · have : a / 128 = 0 := by omega
      rw [this]; omega
  unfold back11T0
  rw [c0, k1, k2, k3, k4, k5, k6]
  simp [trusted, i1, i2, inb_mod]
theorem back_walk (a b : Int) (c : Bool) (wa : (Lit.int .u8 a).wf = true) (wb : (Lit.int .u8 b).wf = true) (w : World) :
    Calls Try.prog 11 #[.int .u8 a, .int .u8 b, .bool c] w fun e w' => e = .returned (.bool true) ∧ Below w.heap.size w w' := by
  have ha := bounds_u8 wa
  have hb := bounds_u8 wb
  exact calls_trust (v := .bool true) xok 20000 _ lget11 (by kernel_rfl) (by simp [plainL, plain]) (by simp [plain]) (back11R0 a b c) (back_ok a b c (by omega) (by omega) (by omega) (by omega)) w
end Go.Proofs.Ytabhfbmaomkmhaa
