/- Contracts: what each function answers, for every byte. -/
import Derived.Test.YtnknopebjdgdjaaWdAns
namespace Go.Proofs.Ytnknopebjdgdjaa
open Go Go.Ly Go.RowKit
set_option linter.unusedVariables false
set_option linter.unusedSimpArgs false
noncomputable def incR (a : Int) (c : Bool) : Value := tup ((a + 1) % 256) (decide (15 < a % 16 + 1)) c
noncomputable def decR (a : Int) (c : Bool) : Value := tup ((a - 1) % 256) (decide (15 < a % 16 + 15)) c
noncomputable def daaL (a : Int) (x : Bool) : Bool := decide (9 < a % 16) || x
noncomputable def daaH (a : Int) (x c : Bool) : Bool := decide (9 < (a + 6 * cI (daaL a x)) / 16) || c
noncomputable def daaR (a : Int) (x c : Bool) : Value := tup ((a + 6 * cI (daaL a x) + 96 * cI (daaH a x c)) % 256) (decide (9 < a % 16)) (daaH a x c)
noncomputable def turnR (k a : Int) (c : Bool) : Value :=
  bif k == 0 then .tuple ⟨[.int .u8 ((2 * a + a / 128) % 256), .bool (decide (128 ≤ a))]⟩
  else bif k == 1 then .tuple ⟨[.int .u8 (a / 2 + a % 2 * 128), .bool (a % 2 == 1)]⟩
  else bif k == 2 then .tuple ⟨[.int .u8 ((2 * a + cI c) % 256), .bool (decide (128 ≤ a))]⟩
  else bif k == 3 then .tuple ⟨[.int .u8 (a / 2 + 128 * cI c), .bool (a % 2 == 1)]⟩
  else .tuple ⟨[.int .u8 a, .bool c]⟩
noncomputable def ofR (a : Int) : Value := .agg ⟨[.bool (decide (128 ≤ a)), .bool (a / 64 % 2 == 1), .bool (a / 16 % 2 == 1), .bool (a / 4 % 2 == 1), .bool (a % 2 == 1)]⟩
noncomputable def pswR (s z x p c : Bool) : Value := .int .u8 (128 * cI s + 64 * cI z + 16 * cI x + 4 * cI p + 2 + cI c)
noncomputable def con3 (r : Int → Int → Bool → Value) (l : List Value) : Option (Bool × Value) := match l with
  | [.int .u8 a, .int .u8 b, .bool c] => some (inb a && inb b, r a b c)
  | _ => none
noncomputable def con2 (r : Int → Int → Value) (l : List Value) : Option (Bool × Value) := match l with
  | [.int .u8 a, .int .u8 b] => some (inb a && inb b, r a b)
  | _ => none
noncomputable def conW (l : List Value) : Option (Bool × Value) := match l with
  | [.int .u16 a, .int .u16 b] => some ((decide (0 ≤ a) && decide (a ≤ 65535)) && (decide (0 ≤ b) && decide (b ≤ 65535)), add16R a b)
  | _ => none
noncomputable def conF (r : Int → Bool → Bool → Bool → Bool → Bool → Value) (l : List Value) : Option (Bool × Value) := match l with
  | [.int .u8 a, .agg ⟨[.bool s, .bool z, .bool x, .bool p, .bool c]⟩] => some (inb a, r a s z x p c)
  | _ => none
noncomputable def conT (l : List Value) : Option (Bool × Value) := match l with
  | [.int .i64 k, .int .u8 a, .bool c] => some (inb a, turnR k a c)
  | _ => none
noncomputable def con1b (r : Int → Value) (l : List Value) : Option (Bool × Value) := match l with
  | [.int .u8 a] => some (inb a, r a)
  | _ => none
noncomputable def conP (l : List Value) : Option (Bool × Value) := match l with
  | [.agg ⟨[.bool s, .bool z, .bool x, .bool p, .bool c]⟩] => some (true, pswR s z x p c)
  | _ => none
theorem turn_plain (k a : Int) (c : Bool) : plain (turnR k a c) = true := by
  unfold turnR
  cases (k == 0) <;> cases (k == 1) <;> cases (k == 2) <;> cases (k == 3) <;> simp [plain, plainL]
theorem get23 : wctx.fn.get 18 = some Try.f18 := by kernel_rfl
theorem get25 : wctx.fn.get 19 = some Try.f19 := by kernel_rfl
theorem ans23 : Answers Try.prog 18 (con3 addR) := by
  intro args g v h hg
  unfold con3 at h
  split at h
  · rename_i a b c
    simp only [Option.some.injEq, Prod.mk.injEq] at h
    obtain ⟨rfl, rfl⟩ := h
    simp only [Bool.and_eq_true, inb_iff] at hg
    obtain ⟨⟨h0, h1⟩, h2, h3⟩ := hg
    refine ⟨by simp [plain, plainL], tup_plain _ _ _, fun w => ?_⟩
    cases c with
    | false =>
      obtain ⟨ht, hv⟩ := add23F_ok a b h0 h1 h2 h3
      rw [← hv]
      exact calls_trust wok 20000 _ get23 (by kernel_rfl) (by simp [plain, plainL]) (by rw [hv]; exact tup_plain _ _ _) (add23FR0 a b) ht w
    | true =>
      obtain ⟨ht, hv⟩ := add23T_ok a b h0 h1 h2 h3
      rw [← hv]
      exact calls_trust wok 20000 _ get23 (by kernel_rfl) (by simp [plain, plainL]) (by rw [hv]; exact tup_plain _ _ _) (add23TR0 a b) ht w
  · cases h
theorem ans25 : Answers Try.prog 19 (con3 subR) := by
  intro args g v h hg
  unfold con3 at h
  split at h
  · rename_i a b c
    simp only [Option.some.injEq, Prod.mk.injEq] at h
    obtain ⟨rfl, rfl⟩ := h
    simp only [Bool.and_eq_true, inb_iff] at hg
    obtain ⟨⟨h0, h1⟩, h2, h3⟩ := hg
    refine ⟨by simp [plain, plainL], tup_plain _ _ _, fun w => ?_⟩
    cases c with
    | false =>
      obtain ⟨ht, hv⟩ := sub25F_ok a b h0 h1 h2 h3
      rw [← hv]
      exact calls_trust wok 20000 _ get25 (by kernel_rfl) (by simp [plain, plainL]) (by rw [hv]; exact tup_plain _ _ _) (sub25FR0 a b) ht w
    | true =>
      obtain ⟨ht, hv⟩ := sub25T_ok a b h0 h1 h2 h3
      rw [← hv]
      exact calls_trust wok 20000 _ get25 (by kernel_rfl) (by simp [plain, plainL]) (by rw [hv]; exact tup_plain _ _ _) (sub25TR0 a b) ht w
  · cases h
end Go.Proofs.Ytnknopebjdgdjaa
