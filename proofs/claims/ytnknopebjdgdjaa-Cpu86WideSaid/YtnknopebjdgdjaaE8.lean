/- Cpu86AsEight: the tests come out. By program (gene8.py). -/
import Derived.Test.YtnknopebjdgdjaaE8r
namespace Go.Proofs.Ytnknopebjdgdjaa
open Go Go.Ly Go.RowKit
set_option linter.unusedVariables false
set_option linter.unusedSimpArgs false
theorem g4 : ctxA.fn.get 4 = some Try.f4 := by kernel_rfl
def Says8 (a b k : Int) (v : Value) : Prop := ∀ W : World, Calls Try.prog 4 ⟨[.int .u8 a, .int .u8 b, .int .i64 k, v]⟩ W (fun e W' => e = .returned (.bool true) ∧ Below W.heap.size W W')
theorem says8 {a b k : Int} {s z x p c : Bool} {t : List (Bool × Bool)} (q : Path) (h : (Ly.run ctxA 20000 q (Ly.start Try.f4 [.int .u8 a, .int .u8 b, .int .i64 k, .agg ⟨[.bool s, .bool z, .bool x, .bool p, .bool c]⟩] H0)).out? = some (t, .bool true)) (ht : trusted t) : Says8 a b k (.agg ⟨[.bool s, .bool z, .bool x, .bool p, .bool c]⟩) := fun W =>
  calls_trust ctxA_ok 20000 q g4 (by kernel_rfl) (by simp [plain, plainL]) (by simp [plain]) h ht W
theorem k8_0f (a b : Int) (s z x p c : Bool) (h0 : 0 ≤ a) (h1 : a ≤ 255) (h2 : 0 ≤ b) (h3 : b ≤ 255) : Says8 a b 0 (.agg ⟨[.bool s, .bool z, .bool x, .bool p, .bool false]⟩) := by
  refine says8 _ (a8_0f a b s z x p false) ?_
  have ea : IntKind.u16.wrap (IntKind.u8.wrap ((IntKind.u16.wrap a).fdiv 1)) = a := by rw [Int.fdiv_one, w16 a h0 (by omega), w8 a h0 (by omega), w16 a h0 (by omega)]
  have eb : IntKind.u16.wrap (IntKind.u8.wrap ((IntKind.u16.wrap b).fdiv 1)) = b := by rw [Int.fdiv_one, w16 b h2 (by omega), w8 b h2 (by omega), w16 b h2 (by omega)]
  have ha : IntKind.u32.wrap a = a := w32 a h0 (by omega)
  have hb : IntKind.u32.wrap b = b := w32 b h2 (by omega)
  have ma : bits BinOp.and IntKind.u32 a 15 = a % 16 := u32_and15 a h0 (by omega)
  have mb : bits BinOp.and IntKind.u32 b 15 = b % 16 := u32_and15 b h2 (by omega)
  have ib1 : inb a = true := (inb_iff a).2 ⟨h0, h1⟩
  have ib2 : inb b = true := (inb_iff b).2 ⟨h2, h3⟩
  have wa := w16 a h0 (by omega)
  have e0 : in32 (IntKind.u32.wrap (IntKind.u32.wrap (a + b) + 0)) = true := by simp only [in32, IntKind.wrap_u32, Bool.and_eq_true, decide_eq_true_eq]; omega
  have e1 : (IntKind.u32.wrap (IntKind.u32.wrap (a + b) + 0)) % 256 = (a + b + 0) % 256 := by simp only [IntKind.wrap_u32]; omega
  have e2 : ((IntKind.u32.wrap (IntKind.u32.wrap (a + b) + 0)) / 256 % 2 == 1) = decide (255 < a + b + 0) := by rw [Bool.eq_iff_iff]; simp only [beq_iff_eq, decide_eq_true_eq, IntKind.wrap_u32]; omega
  have e3 : decide (15 < IntKind.u32.wrap (IntKind.u32.wrap (a % 16 + b % 16) + 0)) = decide (15 < a % 16 + b % 16 + 0) := by rw [decide_eq_decide]; simp only [IntKind.wrap_u32]; omega
  have w0 : IntKind.u8.wrap a = a := w8 a h0 (by omega)
  have wb := w16 b h2 (by omega)
  have w0b : IntKind.u8.wrap b = b := w8 b h2 (by omega)
  have ff : (false == true) = false := rfl
  simp only [ea, eb, ha, hb, ma, mb, ib1, ib2, wa, w0, wb, w0b, ff, e0, e1, e2, e3, wy, low8 a _ h0 h1, trusted, Bool.true_and, Bool.and_self, true_and, and_true, Bool.and_true, Int.mul_one, Int.fdiv_one, beq_self_eq_true]
theorem k8_0t (a b : Int) (s z x p c : Bool) (h0 : 0 ≤ a) (h1 : a ≤ 255) (h2 : 0 ≤ b) (h3 : b ≤ 255) : Says8 a b 0 (.agg ⟨[.bool s, .bool z, .bool x, .bool p, .bool true]⟩) := by
  refine says8 _ (a8_0t a b s z x p true) ?_
  have ea : IntKind.u16.wrap (IntKind.u8.wrap ((IntKind.u16.wrap a).fdiv 1)) = a := by rw [Int.fdiv_one, w16 a h0 (by omega), w8 a h0 (by omega), w16 a h0 (by omega)]
  have eb : IntKind.u16.wrap (IntKind.u8.wrap ((IntKind.u16.wrap b).fdiv 1)) = b := by rw [Int.fdiv_one, w16 b h2 (by omega), w8 b h2 (by omega), w16 b h2 (by omega)]
  have ha : IntKind.u32.wrap a = a := w32 a h0 (by omega)
  have hb : IntKind.u32.wrap b = b := w32 b h2 (by omega)
  have ma : bits BinOp.and IntKind.u32 a 15 = a % 16 := u32_and15 a h0 (by omega)
  have mb : bits BinOp.and IntKind.u32 b 15 = b % 16 := u32_and15 b h2 (by omega)
  have ib1 : inb a = true := (inb_iff a).2 ⟨h0, h1⟩
  have ib2 : inb b = true := (inb_iff b).2 ⟨h2, h3⟩
  have wa := w16 a h0 (by omega)
  have e0 : in32 (IntKind.u32.wrap (IntKind.u32.wrap (a + b) + 0)) = true := by simp only [in32, IntKind.wrap_u32, Bool.and_eq_true, decide_eq_true_eq]; omega
  have e1 : (IntKind.u32.wrap (IntKind.u32.wrap (a + b) + 0)) % 256 = (a + b + 0) % 256 := by simp only [IntKind.wrap_u32]; omega
  have e2 : ((IntKind.u32.wrap (IntKind.u32.wrap (a + b) + 0)) / 256 % 2 == 1) = decide (255 < a + b + 0) := by rw [Bool.eq_iff_iff]; simp only [beq_iff_eq, decide_eq_true_eq, IntKind.wrap_u32]; omega
  have e3 : decide (15 < IntKind.u32.wrap (IntKind.u32.wrap (a % 16 + b % 16) + 0)) = decide (15 < a % 16 + b % 16 + 0) := by rw [decide_eq_decide]; simp only [IntKind.wrap_u32]; omega
  have w0 : IntKind.u8.wrap a = a := w8 a h0 (by omega)
  have wb := w16 b h2 (by omega)
  have w0b : IntKind.u8.wrap b = b := w8 b h2 (by omega)
  have ff : (false == true) = false := rfl
  simp only [ea, eb, ha, hb, ma, mb, ib1, ib2, wa, w0, wb, w0b, ff, e0, e1, e2, e3, wy, low8 a _ h0 h1, trusted, Bool.true_and, Bool.and_self, true_and, and_true, Bool.and_true, Int.mul_one, Int.fdiv_one, beq_self_eq_true]
theorem k8_2f (a b : Int) (s z x p c : Bool) (h0 : 0 ≤ a) (h1 : a ≤ 255) (h2 : 0 ≤ b) (h3 : b ≤ 255) : Says8 a b 2 (.agg ⟨[.bool s, .bool z, .bool x, .bool p, .bool false]⟩) := by
  refine says8 _ (a8_2f a b s z x p c) ?_
  have ea : IntKind.u16.wrap (IntKind.u8.wrap ((IntKind.u16.wrap a).fdiv 1)) = a := by rw [Int.fdiv_one, w16 a h0 (by omega), w8 a h0 (by omega), w16 a h0 (by omega)]
  have eb : IntKind.u16.wrap (IntKind.u8.wrap ((IntKind.u16.wrap b).fdiv 1)) = b := by rw [Int.fdiv_one, w16 b h2 (by omega), w8 b h2 (by omega), w16 b h2 (by omega)]
  have ha : IntKind.u32.wrap a = a := w32 a h0 (by omega)
  have hb : IntKind.u32.wrap b = b := w32 b h2 (by omega)
  have ma : bits BinOp.and IntKind.u32 a 15 = a % 16 := u32_and15 a h0 (by omega)
  have mb : bits BinOp.and IntKind.u32 b 15 = b % 16 := u32_and15 b h2 (by omega)
  have ib1 : inb a = true := (inb_iff a).2 ⟨h0, h1⟩
  have ib2 : inb b = true := (inb_iff b).2 ⟨h2, h3⟩
  have wa := w16 a h0 (by omega)
  have e0 : in32 (IntKind.u32.wrap (IntKind.u32.wrap (a + b) + 0)) = true := by simp only [in32, IntKind.wrap_u32, Bool.and_eq_true, decide_eq_true_eq]; omega
  have e1 : (IntKind.u32.wrap (IntKind.u32.wrap (a + b) + 0)) % 256 = (a + b + 0) % 256 := by simp only [IntKind.wrap_u32]; omega
  have e2 : ((IntKind.u32.wrap (IntKind.u32.wrap (a + b) + 0)) / 256 % 2 == 1) = decide (255 < a + b + 0) := by rw [Bool.eq_iff_iff]; simp only [beq_iff_eq, decide_eq_true_eq, IntKind.wrap_u32]; omega
  have e3 : decide (15 < IntKind.u32.wrap (IntKind.u32.wrap (a % 16 + b % 16) + 0)) = decide (15 < a % 16 + b % 16 + 0) := by rw [decide_eq_decide]; simp only [IntKind.wrap_u32]; omega
  have w0 : IntKind.u8.wrap a = a := w8 a h0 (by omega)
  have wb := w16 b h2 (by omega)
  have w0b : IntKind.u8.wrap b = b := w8 b h2 (by omega)
  have ff : (false == true) = false := rfl
  simp only [ea, eb, ha, hb, ma, mb, ib1, ib2, wa, w0, wb, w0b, ff, e0, e1, e2, e3, wy, low8 a _ h0 h1, trusted, Bool.true_and, Bool.and_self, true_and, and_true, Bool.and_true, Int.mul_one, Int.fdiv_one, beq_self_eq_true]
theorem k8_2t (a b : Int) (s z x p c : Bool) (h0 : 0 ≤ a) (h1 : a ≤ 255) (h2 : 0 ≤ b) (h3 : b ≤ 255) : Says8 a b 2 (.agg ⟨[.bool s, .bool z, .bool x, .bool p, .bool true]⟩) := by
  refine says8 _ (a8_2t a b s z x p c) ?_
  have ea : IntKind.u16.wrap (IntKind.u8.wrap ((IntKind.u16.wrap a).fdiv 1)) = a := by rw [Int.fdiv_one, w16 a h0 (by omega), w8 a h0 (by omega), w16 a h0 (by omega)]
  have eb : IntKind.u16.wrap (IntKind.u8.wrap ((IntKind.u16.wrap b).fdiv 1)) = b := by rw [Int.fdiv_one, w16 b h2 (by omega), w8 b h2 (by omega), w16 b h2 (by omega)]
  have ha : IntKind.u32.wrap a = a := w32 a h0 (by omega)
  have hb : IntKind.u32.wrap b = b := w32 b h2 (by omega)
  have ma : bits BinOp.and IntKind.u32 a 15 = a % 16 := u32_and15 a h0 (by omega)
  have mb : bits BinOp.and IntKind.u32 b 15 = b % 16 := u32_and15 b h2 (by omega)
  have ib1 : inb a = true := (inb_iff a).2 ⟨h0, h1⟩
  have ib2 : inb b = true := (inb_iff b).2 ⟨h2, h3⟩
  have wa := w16 a h0 (by omega)
  have e0 : in32 (IntKind.u32.wrap (IntKind.u32.wrap (a + b) + 1)) = true := by simp only [in32, IntKind.wrap_u32, Bool.and_eq_true, decide_eq_true_eq]; omega
  have e1 : (IntKind.u32.wrap (IntKind.u32.wrap (a + b) + 1)) % 256 = (a + b + 1) % 256 := by simp only [IntKind.wrap_u32]; omega
  have e2 : ((IntKind.u32.wrap (IntKind.u32.wrap (a + b) + 1)) / 256 % 2 == 1) = decide (255 < a + b + 1) := by rw [Bool.eq_iff_iff]; simp only [beq_iff_eq, decide_eq_true_eq, IntKind.wrap_u32]; omega
  have e3 : decide (15 < IntKind.u32.wrap (IntKind.u32.wrap (a % 16 + b % 16) + 1)) = decide (15 < a % 16 + b % 16 + 1) := by rw [decide_eq_decide]; simp only [IntKind.wrap_u32]; omega
  have w0 : IntKind.u8.wrap a = a := w8 a h0 (by omega)
  have wb := w16 b h2 (by omega)
  have w0b : IntKind.u8.wrap b = b := w8 b h2 (by omega)
  have ff : (false == true) = false := rfl
  simp only [ea, eb, ha, hb, ma, mb, ib1, ib2, wa, w0, wb, w0b, ff, e0, e1, e2, e3, wy, low8 a _ h0 h1, trusted, Bool.true_and, Bool.and_self, true_and, and_true, Bool.and_true, Int.mul_one, Int.fdiv_one, beq_self_eq_true]
theorem k8_3f (a b : Int) (s z x p c : Bool) (h0 : 0 ≤ a) (h1 : a ≤ 255) (h2 : 0 ≤ b) (h3 : b ≤ 255) : Says8 a b 3 (.agg ⟨[.bool s, .bool z, .bool x, .bool p, .bool false]⟩) := by
  refine says8 _ (a8_3f a b s z x p c) ?_
  have ea : IntKind.u16.wrap (IntKind.u8.wrap ((IntKind.u16.wrap a).fdiv 1)) = a := by rw [Int.fdiv_one, w16 a h0 (by omega), w8 a h0 (by omega), w16 a h0 (by omega)]
  have eb : IntKind.u16.wrap (IntKind.u8.wrap ((IntKind.u16.wrap b).fdiv 1)) = b := by rw [Int.fdiv_one, w16 b h2 (by omega), w8 b h2 (by omega), w16 b h2 (by omega)]
  have ha : IntKind.u32.wrap a = a := w32 a h0 (by omega)
  have hb : IntKind.u32.wrap b = b := w32 b h2 (by omega)
  have ma : bits BinOp.and IntKind.u32 a 15 = a % 16 := u32_and15 a h0 (by omega)
  have mb : bits BinOp.and IntKind.u32 b 15 = b % 16 := u32_and15 b h2 (by omega)
  have ib1 : inb a = true := (inb_iff a).2 ⟨h0, h1⟩
  have ib2 : inb b = true := (inb_iff b).2 ⟨h2, h3⟩
  have wa := w16 a h0 (by omega)
  have e0 : in32 (IntKind.u32.wrap (IntKind.u32.wrap (a - b) - 0)) = true := by simp only [in32, IntKind.wrap_u32, Bool.and_eq_true, decide_eq_true_eq]; omega
  have e1 : (IntKind.u32.wrap (IntKind.u32.wrap (a - b) - 0)) % 256 = (a - b - 0) % 256 := by simp only [IntKind.wrap_u32]; omega
  have e2 : ((IntKind.u32.wrap (IntKind.u32.wrap (a - b) - 0)) / 256 % 2 == 1) = decide (a - b - 0 < 0) := by rw [Bool.eq_iff_iff]; simp only [beq_iff_eq, decide_eq_true_eq, IntKind.wrap_u32]; omega
  have e3 : decide (a % 16 < IntKind.u32.wrap (b % 16 + 0)) = !decide (15 < a % 16 + 15 - b % 16 + 1) := by rw [← decide_not, decide_eq_decide]; simp only [IntKind.wrap_u32]; omega
  have w0 : IntKind.u8.wrap a = a := w8 a h0 (by omega)
  have wb := w16 b h2 (by omega)
  have w0b : IntKind.u8.wrap b = b := w8 b h2 (by omega)
  have ff : (false == true) = false := rfl
  simp only [ea, eb, ha, hb, ma, mb, ib1, ib2, wa, w0, wb, w0b, ff, e0, e1, e2, e3, wy, low8 a _ h0 h1, trusted, Bool.true_and, Bool.and_self, true_and, and_true, Bool.and_true, Int.mul_one, Int.fdiv_one, beq_self_eq_true]
theorem k8_3t (a b : Int) (s z x p c : Bool) (h0 : 0 ≤ a) (h1 : a ≤ 255) (h2 : 0 ≤ b) (h3 : b ≤ 255) : Says8 a b 3 (.agg ⟨[.bool s, .bool z, .bool x, .bool p, .bool true]⟩) := by
  refine says8 _ (a8_3t a b s z x p c) ?_
  have ea : IntKind.u16.wrap (IntKind.u8.wrap ((IntKind.u16.wrap a).fdiv 1)) = a := by rw [Int.fdiv_one, w16 a h0 (by omega), w8 a h0 (by omega), w16 a h0 (by omega)]
  have eb : IntKind.u16.wrap (IntKind.u8.wrap ((IntKind.u16.wrap b).fdiv 1)) = b := by rw [Int.fdiv_one, w16 b h2 (by omega), w8 b h2 (by omega), w16 b h2 (by omega)]
  have ha : IntKind.u32.wrap a = a := w32 a h0 (by omega)
  have hb : IntKind.u32.wrap b = b := w32 b h2 (by omega)
  have ma : bits BinOp.and IntKind.u32 a 15 = a % 16 := u32_and15 a h0 (by omega)
  have mb : bits BinOp.and IntKind.u32 b 15 = b % 16 := u32_and15 b h2 (by omega)
  have ib1 : inb a = true := (inb_iff a).2 ⟨h0, h1⟩
  have ib2 : inb b = true := (inb_iff b).2 ⟨h2, h3⟩
  have wa := w16 a h0 (by omega)
  have e0 : in32 (IntKind.u32.wrap (IntKind.u32.wrap (a - b) - 1)) = true := by simp only [in32, IntKind.wrap_u32, Bool.and_eq_true, decide_eq_true_eq]; omega
  have e1 : (IntKind.u32.wrap (IntKind.u32.wrap (a - b) - 1)) % 256 = (a - b - 1) % 256 := by simp only [IntKind.wrap_u32]; omega
  have e2 : ((IntKind.u32.wrap (IntKind.u32.wrap (a - b) - 1)) / 256 % 2 == 1) = decide (a - b - 1 < 0) := by rw [Bool.eq_iff_iff]; simp only [beq_iff_eq, decide_eq_true_eq, IntKind.wrap_u32]; omega
  have e3 : decide (a % 16 < IntKind.u32.wrap (b % 16 + 1)) = !decide (15 < a % 16 + 15 - b % 16 + 0) := by rw [← decide_not, decide_eq_decide]; simp only [IntKind.wrap_u32]; omega
  have w0 : IntKind.u8.wrap a = a := w8 a h0 (by omega)
  have wb := w16 b h2 (by omega)
  have w0b : IntKind.u8.wrap b = b := w8 b h2 (by omega)
  have ff : (false == true) = false := rfl
  simp only [ea, eb, ha, hb, ma, mb, ib1, ib2, wa, w0, wb, w0b, ff, e0, e1, e2, e3, wy, low8 a _ h0 h1, trusted, Bool.true_and, Bool.and_self, true_and, and_true, Bool.and_true, Int.mul_one, Int.fdiv_one, beq_self_eq_true]
theorem k8_5f (a b : Int) (s z x p c : Bool) (h0 : 0 ≤ a) (h1 : a ≤ 255) (h2 : 0 ≤ b) (h3 : b ≤ 255) : Says8 a b 5 (.agg ⟨[.bool s, .bool z, .bool x, .bool p, .bool false]⟩) := by
  refine says8 _ (a8_5f a b s z x p false) ?_
  have ea : IntKind.u16.wrap (IntKind.u8.wrap ((IntKind.u16.wrap a).fdiv 1)) = a := by rw [Int.fdiv_one, w16 a h0 (by omega), w8 a h0 (by omega), w16 a h0 (by omega)]
  have eb : IntKind.u16.wrap (IntKind.u8.wrap ((IntKind.u16.wrap b).fdiv 1)) = b := by rw [Int.fdiv_one, w16 b h2 (by omega), w8 b h2 (by omega), w16 b h2 (by omega)]
  have ha : IntKind.u32.wrap a = a := w32 a h0 (by omega)
  have hb : IntKind.u32.wrap b = b := w32 b h2 (by omega)
  have ma : bits BinOp.and IntKind.u32 a 15 = a % 16 := u32_and15 a h0 (by omega)
  have mb : bits BinOp.and IntKind.u32 b 15 = b % 16 := u32_and15 b h2 (by omega)
  have ib1 : inb a = true := (inb_iff a).2 ⟨h0, h1⟩
  have ib2 : inb b = true := (inb_iff b).2 ⟨h2, h3⟩
  have wa := w16 a h0 (by omega)
  have e0 : in32 (IntKind.u32.wrap (IntKind.u32.wrap (a - b) - 0)) = true := by simp only [in32, IntKind.wrap_u32, Bool.and_eq_true, decide_eq_true_eq]; omega
  have e1 : (IntKind.u32.wrap (IntKind.u32.wrap (a - b) - 0)) % 256 = (a - b - 0) % 256 := by simp only [IntKind.wrap_u32]; omega
  have e2 : ((IntKind.u32.wrap (IntKind.u32.wrap (a - b) - 0)) / 256 % 2 == 1) = decide (a - b - 0 < 0) := by rw [Bool.eq_iff_iff]; simp only [beq_iff_eq, decide_eq_true_eq, IntKind.wrap_u32]; omega
  have e3 : decide (a % 16 < IntKind.u32.wrap (b % 16 + 0)) = !decide (15 < a % 16 + 15 - b % 16 + 1) := by rw [← decide_not, decide_eq_decide]; simp only [IntKind.wrap_u32]; omega
  have w0 : IntKind.u8.wrap a = a := w8 a h0 (by omega)
  have wb := w16 b h2 (by omega)
  have w0b : IntKind.u8.wrap b = b := w8 b h2 (by omega)
  have ff : (false == true) = false := rfl
  simp only [ea, eb, ha, hb, ma, mb, ib1, ib2, wa, w0, wb, w0b, ff, e0, e1, e2, e3, wy, low8 a _ h0 h1, trusted, Bool.true_and, Bool.and_self, true_and, and_true, Bool.and_true, Int.mul_one, Int.fdiv_one, beq_self_eq_true]
theorem k8_5t (a b : Int) (s z x p c : Bool) (h0 : 0 ≤ a) (h1 : a ≤ 255) (h2 : 0 ≤ b) (h3 : b ≤ 255) : Says8 a b 5 (.agg ⟨[.bool s, .bool z, .bool x, .bool p, .bool true]⟩) := by
  refine says8 _ (a8_5t a b s z x p true) ?_
  have ea : IntKind.u16.wrap (IntKind.u8.wrap ((IntKind.u16.wrap a).fdiv 1)) = a := by rw [Int.fdiv_one, w16 a h0 (by omega), w8 a h0 (by omega), w16 a h0 (by omega)]
  have eb : IntKind.u16.wrap (IntKind.u8.wrap ((IntKind.u16.wrap b).fdiv 1)) = b := by rw [Int.fdiv_one, w16 b h2 (by omega), w8 b h2 (by omega), w16 b h2 (by omega)]
  have ha : IntKind.u32.wrap a = a := w32 a h0 (by omega)
  have hb : IntKind.u32.wrap b = b := w32 b h2 (by omega)
  have ma : bits BinOp.and IntKind.u32 a 15 = a % 16 := u32_and15 a h0 (by omega)
  have mb : bits BinOp.and IntKind.u32 b 15 = b % 16 := u32_and15 b h2 (by omega)
  have ib1 : inb a = true := (inb_iff a).2 ⟨h0, h1⟩
  have ib2 : inb b = true := (inb_iff b).2 ⟨h2, h3⟩
  have wa := w16 a h0 (by omega)
  have e0 : in32 (IntKind.u32.wrap (IntKind.u32.wrap (a - b) - 0)) = true := by simp only [in32, IntKind.wrap_u32, Bool.and_eq_true, decide_eq_true_eq]; omega
  have e1 : (IntKind.u32.wrap (IntKind.u32.wrap (a - b) - 0)) % 256 = (a - b - 0) % 256 := by simp only [IntKind.wrap_u32]; omega
  have e2 : ((IntKind.u32.wrap (IntKind.u32.wrap (a - b) - 0)) / 256 % 2 == 1) = decide (a - b - 0 < 0) := by rw [Bool.eq_iff_iff]; simp only [beq_iff_eq, decide_eq_true_eq, IntKind.wrap_u32]; omega
  have e3 : decide (a % 16 < IntKind.u32.wrap (b % 16 + 0)) = !decide (15 < a % 16 + 15 - b % 16 + 1) := by rw [← decide_not, decide_eq_decide]; simp only [IntKind.wrap_u32]; omega
  have w0 : IntKind.u8.wrap a = a := w8 a h0 (by omega)
  have wb := w16 b h2 (by omega)
  have w0b : IntKind.u8.wrap b = b := w8 b h2 (by omega)
  have ff : (false == true) = false := rfl
  simp only [ea, eb, ha, hb, ma, mb, ib1, ib2, wa, w0, wb, w0b, ff, e0, e1, e2, e3, wy, low8 a _ h0 h1, trusted, Bool.true_and, Bool.and_self, true_and, and_true, Bool.and_true, Int.mul_one, Int.fdiv_one, beq_self_eq_true]
theorem k8_7f (a b : Int) (s z x p c : Bool) (h0 : 0 ≤ a) (h1 : a ≤ 255) (h2 : 0 ≤ b) (h3 : b ≤ 255) : Says8 a b 7 (.agg ⟨[.bool s, .bool z, .bool x, .bool p, .bool false]⟩) := by
  refine says8 _ (a8_7f a b s z x p false) ?_
  have ea : IntKind.u16.wrap (IntKind.u8.wrap ((IntKind.u16.wrap a).fdiv 1)) = a := by rw [Int.fdiv_one, w16 a h0 (by omega), w8 a h0 (by omega), w16 a h0 (by omega)]
  have eb : IntKind.u16.wrap (IntKind.u8.wrap ((IntKind.u16.wrap b).fdiv 1)) = b := by rw [Int.fdiv_one, w16 b h2 (by omega), w8 b h2 (by omega), w16 b h2 (by omega)]
  have ha : IntKind.u32.wrap a = a := w32 a h0 (by omega)
  have hb : IntKind.u32.wrap b = b := w32 b h2 (by omega)
  have ma : bits BinOp.and IntKind.u32 a 15 = a % 16 := u32_and15 a h0 (by omega)
  have mb : bits BinOp.and IntKind.u32 b 15 = b % 16 := u32_and15 b h2 (by omega)
  have ib1 : inb a = true := (inb_iff a).2 ⟨h0, h1⟩
  have ib2 : inb b = true := (inb_iff b).2 ⟨h2, h3⟩
  have wa := w16 a h0 (by omega)
  have e0 : in32 (IntKind.u32.wrap (IntKind.u32.wrap (a - b) - 0)) = true := by simp only [in32, IntKind.wrap_u32, Bool.and_eq_true, decide_eq_true_eq]; omega
  have e1 : (IntKind.u32.wrap (IntKind.u32.wrap (a - b) - 0)) % 256 = (a - b - 0) % 256 := by simp only [IntKind.wrap_u32]; omega
  have e2 : ((IntKind.u32.wrap (IntKind.u32.wrap (a - b) - 0)) / 256 % 2 == 1) = decide (a - b - 0 < 0) := by rw [Bool.eq_iff_iff]; simp only [beq_iff_eq, decide_eq_true_eq, IntKind.wrap_u32]; omega
  have e3 : decide (a % 16 < IntKind.u32.wrap (b % 16 + 0)) = !decide (15 < a % 16 + 15 - b % 16 + 1) := by rw [← decide_not, decide_eq_decide]; simp only [IntKind.wrap_u32]; omega
  have w0 : IntKind.u8.wrap a = a := w8 a h0 (by omega)
  have wb := w16 b h2 (by omega)
  have w0b : IntKind.u8.wrap b = b := w8 b h2 (by omega)
  have ff : (false == true) = false := rfl
  simp only [ea, eb, ha, hb, ma, mb, ib1, ib2, wa, w0, wb, w0b, ff, e0, e1, e2, e3, wy, low8 a _ h0 h1, trusted, Bool.true_and, Bool.and_self, true_and, and_true, Bool.and_true, Int.mul_one, Int.fdiv_one, beq_self_eq_true]
theorem k8_7t (a b : Int) (s z x p c : Bool) (h0 : 0 ≤ a) (h1 : a ≤ 255) (h2 : 0 ≤ b) (h3 : b ≤ 255) : Says8 a b 7 (.agg ⟨[.bool s, .bool z, .bool x, .bool p, .bool true]⟩) := by
  refine says8 _ (a8_7t a b s z x p true) ?_
  have ea : IntKind.u16.wrap (IntKind.u8.wrap ((IntKind.u16.wrap a).fdiv 1)) = a := by rw [Int.fdiv_one, w16 a h0 (by omega), w8 a h0 (by omega), w16 a h0 (by omega)]
  have eb : IntKind.u16.wrap (IntKind.u8.wrap ((IntKind.u16.wrap b).fdiv 1)) = b := by rw [Int.fdiv_one, w16 b h2 (by omega), w8 b h2 (by omega), w16 b h2 (by omega)]
  have ha : IntKind.u32.wrap a = a := w32 a h0 (by omega)
  have hb : IntKind.u32.wrap b = b := w32 b h2 (by omega)
  have ma : bits BinOp.and IntKind.u32 a 15 = a % 16 := u32_and15 a h0 (by omega)
  have mb : bits BinOp.and IntKind.u32 b 15 = b % 16 := u32_and15 b h2 (by omega)
  have ib1 : inb a = true := (inb_iff a).2 ⟨h0, h1⟩
  have ib2 : inb b = true := (inb_iff b).2 ⟨h2, h3⟩
  have wa := w16 a h0 (by omega)
  have e0 : in32 (IntKind.u32.wrap (IntKind.u32.wrap (a - b) - 0)) = true := by simp only [in32, IntKind.wrap_u32, Bool.and_eq_true, decide_eq_true_eq]; omega
  have e1 : (IntKind.u32.wrap (IntKind.u32.wrap (a - b) - 0)) % 256 = (a - b - 0) % 256 := by simp only [IntKind.wrap_u32]; omega
  have e2 : ((IntKind.u32.wrap (IntKind.u32.wrap (a - b) - 0)) / 256 % 2 == 1) = decide (a - b - 0 < 0) := by rw [Bool.eq_iff_iff]; simp only [beq_iff_eq, decide_eq_true_eq, IntKind.wrap_u32]; omega
  have e3 : decide (a % 16 < IntKind.u32.wrap (b % 16 + 0)) = !decide (15 < a % 16 + 15 - b % 16 + 1) := by rw [← decide_not, decide_eq_decide]; simp only [IntKind.wrap_u32]; omega
  have w0 : IntKind.u8.wrap a = a := w8 a h0 (by omega)
  have wb := w16 b h2 (by omega)
  have w0b : IntKind.u8.wrap b = b := w8 b h2 (by omega)
  have ff : (false == true) = false := rfl
  simp only [ea, eb, ha, hb, ma, mb, ib1, ib2, wa, w0, wb, w0b, ff, e0, e1, e2, e3, wy, low8 a _ h0 h1, trusted, Bool.true_and, Bool.and_self, true_and, and_true, Bool.and_true, Int.mul_one, Int.fdiv_one, beq_self_eq_true]
end Go.Proofs.Ytnknopebjdgdjaa
