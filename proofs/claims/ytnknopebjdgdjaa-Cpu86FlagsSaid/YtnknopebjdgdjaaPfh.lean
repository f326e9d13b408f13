/- Part 8 of the texts that the law needs, laid together. By program (pack.py). -/
import Derived.Test.YtnknopebjdgdjaaPfd
import Derived.Test.YtnknopebjdgdjaaPff
import Derived.Test.YtnknopebjdgdjaaPfg
import Derived.KernelRfl
set_option linter.unusedVariables false
set_option linter.unusedSimpArgs false
noncomputable section
namespace Go.Proofs.Ytnknopebjdgdjaa.Isa
def wd (c : Int) : Int := bif decide (1 ≤ c) && decide (c ≤ 8) then 8 else bif decide (9 ≤ c) && decide (c ≤ 16) then 16 else 0
def nm (c : Int) : Int := (c - 1) % 8
def sm (d s : Int) : Bool := (wd d != 0) && (wd d == wd s)
def w1 (d : Int) : Int := bif wd d == 16 then 1 else 0
structure Hd where
  n : Int
  b0 : Int
  b1 : Int
  t : Int
deriving DecidableEq
def hdN : Hd := ⟨0, 0, 0, 0⟩
def hdPlaces (d s : Int) : Hd := bif (wd d == 8) && (s == 17) then ⟨2, 138, nm d * 8 + 7, 0⟩ else bif (d == 17) && (wd s == 8) then ⟨2, 136, nm s * 8 + 7, 0⟩ else bif (d == 1) && (s == 18) then ⟨2, 138, 4, 0⟩ else bif (d == 18) && (s == 1) then ⟨2, 136, 4, 0⟩ else bif (d == 1) && (s == 19) then ⟨1, 160, 0, 2⟩ else bif (d == 19) && (s == 1) then ⟨1, 162, 0, 2⟩ else bif (wd d == 16) && ((d != 9) && (s == 19)) then ⟨2, 139, nm d * 8 + 6, 2⟩ else bif (d == 19) && ((wd s == 16) && (s != 9)) then ⟨2, 137, nm s * 8 + 6, 2⟩ else bif (wd d == 8) && (s == 20) then ⟨1, 176 + nm d, 0, 1⟩ else bif (wd d == 16) && (s == 20) then ⟨1, 184 + nm d, 0, 2⟩ else bif (d == 17) && (s == 20) then ⟨2, 198, 7, 1⟩ else hdN
def hdTwo (op d s : Int) : Hd := bif (op == 1) && sm d s then ⟨2, 136 + w1 d, 192 + nm s * 8 + nm d, 0⟩ else bif op == 1 then hdPlaces d s else bif (op == 17) && (sm d s && ((d != 9) && (s != 9))) then ⟨2, 134 + w1 d, 192 + nm s * 8 + nm d, 0⟩ else bif (op == 30) && ((d == 1) && (s == 20)) then ⟨1, 228, 0, 1⟩ else bif (op == 31) && ((d == 20) && (s == 1)) then ⟨1, 230, 0, 1⟩ else bif decide (op < 2) || decide (9 < op) then hdN else bif sm d s then ⟨2, (op - 2) * 8 + w1 d, 192 + nm s * 8 + nm d, 0⟩ else bif (wd d == 8) && (s == 17) then ⟨2, (op - 2) * 8 + 2, nm d * 8 + 7, 0⟩ else bif (d == 1) && (s == 20) then ⟨1, (op - 2) * 8 + 4, 0, 1⟩ else bif (wd d == 8) && (s == 20) then ⟨2, 128, 192 + (op - 2) * 8 + nm d, 1⟩ else hdN
def hdOne (op d : Int) : Hd := bif decide (op ≤ 11) && (d == 17) then ⟨2, 254, (op - 10) * 8 + 7, 0⟩ else bif decide (op ≤ 11) && (wd d == 8) then ⟨2, 254, 192 + (op - 10) * 8 + nm d, 0⟩ else bif decide (op ≤ 11) && (wd d == 16) then ⟨1, 64 + (op - 10) * 8 + nm d, 0, 0⟩ else bif decide (op ≤ 15) && (wd d != 0) then ⟨2, 208 + w1 d, 192 + (op - 12) * 8 + nm d, 0⟩ else bif (op == 16) && (wd d == 8) then ⟨2, 246, 208 + nm d, 0⟩ else bif decide (18 ≤ op) && (wd d == 16) then ⟨1, 80 + (op - 18) * 8 + nm d, 0, 0⟩ else hdN
def al10 (i : Int) : Int := bif i == 0 then 159 else bif i == 1 then 158 else bif i == 2 then 39 else bif i == 3 then 245 else bif i == 4 then 249 else bif i == 5 then 248 else bif i == 6 then 251 else bif i == 7 then 250 else bif i == 8 then 244 else 144
def hd (op d s : Int) : Hd := bif decide (op < 1) then hdN else bif (s != 0) || ((op == 1) || (op == 17)) then hdTwo op d s else bif decide (10 ≤ op) && decide (op ≤ 19) then hdOne op d else bif (d == 0) && (decide (20 ≤ op) && decide (op ≤ 29)) then ⟨1, al10 (op - 20), 0, 0⟩ else bif (d == 0) && (op == 35) then ⟨1, 195, 0, 0⟩ else bif d != 20 then hdN else bif op == 32 then ⟨1, 233, 0, 2⟩ else bif op == 33 then ⟨1, 235, 0, 3⟩ else bif op == 34 then ⟨1, 232, 0, 2⟩ else bif decide (42 ≤ op) && (decide (op ≤ 51) && ((op != 46) && (op != 47))) then ⟨1, 112 + (op - 40), 0, 3⟩ else hdN
structure T3 where
  op : Int
  d : Int
  s : Int
deriving DecidableEq
def rgs (x : Int) (w : Bool) : Int := bif w then x % 8 + 9 else x % 8 + 1
def gsMoved (a m : Int) (reg r : Int) : T3 :=
  let place : Int := bif m / 64 == 3 then r else bif m % 8 == 7 then 17 else bif m % 8 == 4 then 18 else bif m % 8 == 6 then 19 else 0
  bif a / 2 % 2 == 0 then ⟨1, place, reg⟩ else ⟨1, reg, place⟩
def gsAlone (a : Int) : T3 := bif a == 160 then ⟨1, 1, 19⟩ else bif a == 162 then ⟨1, 19, 1⟩ else bif a == 228 then ⟨30, 1, 20⟩ else bif a == 230 then ⟨31, 20, 1⟩ else bif a == 233 then ⟨32, 20, 0⟩ else bif a == 235 then ⟨33, 20, 0⟩ else bif a == 232 then ⟨34, 20, 0⟩ else bif a == 195 then ⟨35, 0, 0⟩ else bif a == 159 then ⟨20, 0, 0⟩ else bif a == 158 then ⟨21, 0, 0⟩ else bif a == 39 then ⟨22, 0, 0⟩ else bif a == 245 then ⟨23, 0, 0⟩ else bif a == 249 then ⟨24, 0, 0⟩ else bif a == 248 then ⟨25, 0, 0⟩ else bif a == 251 then ⟨26, 0, 0⟩ else bif a == 250 then ⟨27, 0, 0⟩ else bif a == 244 then ⟨28, 0, 0⟩ else bif a == 144 then ⟨29, 0, 0⟩ else ⟨19, 0, 0⟩
def gs (a m : Int) : T3 :=
  let w := a % 2 == 1
  let reg := rgs (m / 8) w
  let r := rgs m w
  let k := m / 8 % 8
  bif decide (a < 64) && decide (a % 8 < 2) then ⟨a / 8 + 2, r, reg⟩
  else bif decide (a < 64) && (a % 8 == 2) then ⟨a / 8 + 2, reg, 17⟩
  else bif decide (a < 64) && (a % 8 == 4) then ⟨a / 8 + 2, 1, 20⟩
  else bif a == 39 then ⟨22, 0, 0⟩
  else bif a / 16 == 4 then ⟨10 + a / 8 % 2, a % 8 + 9, 0⟩
  else bif a / 16 == 5 then ⟨18 + a / 8 % 2, a % 8 + 9, 0⟩
  else bif a / 16 == 7 then ⟨40 + a % 16, 20, 0⟩
  else bif a == 128 then ⟨k + 2, r, 20⟩
  else bif (a == 134) || (a == 135) then ⟨17, r, reg⟩
  else bif a / 8 == 22 then ⟨1, a % 8 + 1, 20⟩
  else bif a / 8 == 23 then ⟨1, a % 8 + 9, 20⟩
  else bif a == 198 then ⟨1, 17, 20⟩
  else bif (a == 208) || (a == 209) then ⟨12 + k, r, 0⟩
  else bif a == 246 then ⟨16, r, 0⟩
  else bif (a == 254) && (m / 64 == 0) then ⟨10 + k, 17, 0⟩
  else bif a == 254 then ⟨10 + k, r, 0⟩
  else bif a / 4 == 34 then gsMoved a m reg r
  else gsAlone a
def by1 (x : Int) : Bool := decide (0 ≤ x) && decide (x ≤ 255)
def is3 (t : T3) (op d s : Int) : Bool := (t.op == op) && ((t.d == d) && (t.s == s))
def okHd (op d s : Int) : Bool :=
  let h := hd op d s
  bif h.n == 0 then (h.b0 == 0) && ((h.b1 == 0) && (h.t == 0))
  else bif h.n == 1 then by1 h.b0 && ((h.b1 == 0) && (decide (0 ≤ h.t) && decide (h.t ≤ 3)) && ((List.range 256).all fun m => is3 (gs h.b0 (m : Nat)) op d s))
  else (h.n == 2) && (by1 h.b0 && (by1 h.b1 && (decide (0 ≤ h.t) && decide (h.t ≤ 2) && is3 (gs h.b0 h.b1) op d s)))
def okAll (k : Nat) : Bool := (List.range 21).all fun d => (List.range 21).all fun s => okHd (k : Nat) (d : Nat) (s : Nat)
theorem wd_8 {c : Int} : (wd c == 8) = true ↔ 1 ≤ c ∧ c ≤ 8 := by
  unfold wd
  by_cases h1 : 1 ≤ c ∧ c ≤ 8
  · simp [h1]
  · by_cases h2 : 9 ≤ c ∧ c ≤ 16
    · have : (decide (1 ≤ c) && decide (c ≤ 8)) = false := by simp; omega
      simp [this, h2]; omega
    · have e1 : (decide (1 ≤ c) && decide (c ≤ 8)) = false := by simp; omega
      have e2 : (decide (9 ≤ c) && decide (c ≤ 16)) = false := by simp; omega
      simp [e1, e2]; omega
theorem wd_16 {c : Int} : (wd c == 16) = true ↔ 9 ≤ c ∧ c ≤ 16 := by
  unfold wd
  by_cases h1 : 1 ≤ c ∧ c ≤ 8
  · simp only [h1, decide_true, Bool.and_self, cond_true]
    constructor
    · intro h; cases h
    · intro h; omega
  · have e1 : (decide (1 ≤ c) && decide (c ≤ 8)) = false := by simp; omega
    by_cases h2 : 9 ≤ c ∧ c ≤ 16
    · simp [e1, h2]
    · have e2 : (decide (9 ≤ c) && decide (c ≤ 16)) = false := by simp; omega
      simp [e1, e2]; omega
theorem wd8 {c : Int} : wd c = 8 ↔ 1 ≤ c ∧ c ≤ 8 := by rw [← wd_8, beq_iff_eq]
theorem wd16 {c : Int} : wd c = 16 ↔ 9 ≤ c ∧ c ≤ 16 := by rw [← wd_16, beq_iff_eq]
theorem wd0 {c : Int} (h : wd c ≠ 0) : 1 ≤ c ∧ c ≤ 16 := by
  unfold wd at h
  cases e1 : (decide (1 ≤ c) && decide (c ≤ 8)) with
  | true => simp at e1; omega
  | false =>
    rw [e1] at h
    cases e2 : (decide (9 ≤ c) && decide (c ≤ 16)) with
    | true => simp at e2; omega
    | false => rw [e2] at h; exact absurd rfl h
theorem sm_range {d s : Int} (h : sm d s = true) : 1 ≤ d ∧ d ≤ 16 ∧ 1 ≤ s ∧ s ≤ 16 := by
  unfold sm at h
  simp only [Bool.and_eq_true, bne_iff_ne, ne_eq, beq_iff_eq] at h
  have h1 := wd0 h.1
  have h2 := wd0 (c := s) (by rw [← h.2]; exact h.1)
  omega
theorem cond_n {c : Bool} {x y : Hd} (h : (bif c then x else y).n ≠ 0) : (c = true ∧ x.n ≠ 0) ∨ (c = false ∧ y.n ≠ 0) := by
  cases c with
  | true => exact .inl ⟨rfl, h⟩
  | false => exact .inr ⟨rfl, h⟩
theorem places_range {d s : Int} (h : (hdPlaces d s).n ≠ 0) : 0 ≤ d ∧ d ≤ 20 ∧ 0 ≤ s ∧ s ≤ 20 := by
  unfold hdPlaces at h
  rcases cond_n h with ⟨c, h⟩ | ⟨c0, h⟩
  · (try simp only [Bool.and_eq_true, Bool.or_eq_true, beq_iff_eq, bne_iff_ne, ne_eq, decide_eq_true_eq, wd8, wd16] at c); omega
  rcases cond_n h with ⟨c, h⟩ | ⟨c1, h⟩
  · (try simp only [Bool.and_eq_true, Bool.or_eq_true, beq_iff_eq, bne_iff_ne, ne_eq, decide_eq_true_eq, wd8, wd16] at c); omega
  rcases cond_n h with ⟨c, h⟩ | ⟨c2, h⟩
  · (try simp only [Bool.and_eq_true, Bool.or_eq_true, beq_iff_eq, bne_iff_ne, ne_eq, decide_eq_true_eq, wd8, wd16] at c); omega
  rcases cond_n h with ⟨c, h⟩ | ⟨c3, h⟩
  · (try simp only [Bool.and_eq_true, Bool.or_eq_true, beq_iff_eq, bne_iff_ne, ne_eq, decide_eq_true_eq, wd8, wd16] at c); omega
  rcases cond_n h with ⟨c, h⟩ | ⟨c4, h⟩
  · (try simp only [Bool.and_eq_true, Bool.or_eq_true, beq_iff_eq, bne_iff_ne, ne_eq, decide_eq_true_eq, wd8, wd16] at c); omega
  rcases cond_n h with ⟨c, h⟩ | ⟨c5, h⟩
  · (try simp only [Bool.and_eq_true, Bool.or_eq_true, beq_iff_eq, bne_iff_ne, ne_eq, decide_eq_true_eq, wd8, wd16] at c); omega
  rcases cond_n h with ⟨c, h⟩ | ⟨c6, h⟩
  · (try simp only [Bool.and_eq_true, Bool.or_eq_true, beq_iff_eq, bne_iff_ne, ne_eq, decide_eq_true_eq, wd8, wd16] at c); omega
  rcases cond_n h with ⟨c, h⟩ | ⟨c7, h⟩
  · (try simp only [Bool.and_eq_true, Bool.or_eq_true, beq_iff_eq, bne_iff_ne, ne_eq, decide_eq_true_eq, wd8, wd16] at c); omega
  rcases cond_n h with ⟨c, h⟩ | ⟨c8, h⟩
  · (try simp only [Bool.and_eq_true, Bool.or_eq_true, beq_iff_eq, bne_iff_ne, ne_eq, decide_eq_true_eq, wd8, wd16] at c); omega
  rcases cond_n h with ⟨c, h⟩ | ⟨c9, h⟩
  · (try simp only [Bool.and_eq_true, Bool.or_eq_true, beq_iff_eq, bne_iff_ne, ne_eq, decide_eq_true_eq, wd8, wd16] at c); omega
  rcases cond_n h with ⟨c, h⟩ | ⟨c10, h⟩
  · (try simp only [Bool.and_eq_true, Bool.or_eq_true, beq_iff_eq, bne_iff_ne, ne_eq, decide_eq_true_eq, wd8, wd16] at c); omega
  exact absurd rfl h
theorem two_range {op d s : Int} (h : (hdTwo op d s).n ≠ 0) : 1 ≤ op ∧ op ≤ 51 ∧ 0 ≤ d ∧ d ≤ 20 ∧ 0 ≤ s ∧ s ≤ 20 := by
  unfold hdTwo at h
  rcases cond_n h with ⟨c, h⟩ | ⟨c0, h⟩
  · simp only [Bool.and_eq_true, Bool.or_eq_true, beq_iff_eq, bne_iff_ne, ne_eq, decide_eq_true_eq, wd8, wd16] at c; have := sm_range c.2; omega
  rcases cond_n h with ⟨c, h⟩ | ⟨c1, h⟩
  · simp only [Bool.and_eq_true, Bool.or_eq_true, beq_iff_eq, bne_iff_ne, ne_eq, decide_eq_true_eq, wd8, wd16] at c; have := places_range h; omega
  rcases cond_n h with ⟨c, h⟩ | ⟨c2, h⟩
  · simp only [Bool.and_eq_true, Bool.or_eq_true, beq_iff_eq, bne_iff_ne, ne_eq, decide_eq_true_eq, wd8, wd16] at c; have := sm_range c.2.1; omega
  rcases cond_n h with ⟨c, h⟩ | ⟨c3, h⟩
  · (try simp only [Bool.and_eq_true, Bool.or_eq_true, beq_iff_eq, bne_iff_ne, ne_eq, decide_eq_true_eq, wd8, wd16] at c); omega
  rcases cond_n h with ⟨c, h⟩ | ⟨c4, h⟩
  · (try simp only [Bool.and_eq_true, Bool.or_eq_true, beq_iff_eq, bne_iff_ne, ne_eq, decide_eq_true_eq, wd8, wd16] at c); omega
  rcases cond_n h with ⟨c, h⟩ | ⟨c5, h⟩
  · exact absurd rfl h
  rcases cond_n h with ⟨c, h⟩ | ⟨c6, h⟩
  · simp only [Bool.or_eq_false_iff, decide_eq_false_iff_not] at c5; have := sm_range c; omega
  rcases cond_n h with ⟨c, h⟩ | ⟨c7, h⟩
  · simp only [Bool.or_eq_false_iff, decide_eq_false_iff_not] at c5; (try simp only [Bool.and_eq_true, Bool.or_eq_true, beq_iff_eq, bne_iff_ne, ne_eq, decide_eq_true_eq, wd8, wd16] at c); omega
  rcases cond_n h with ⟨c, h⟩ | ⟨c8, h⟩
  · simp only [Bool.or_eq_false_iff, decide_eq_false_iff_not] at c5; (try simp only [Bool.and_eq_true, Bool.or_eq_true, beq_iff_eq, bne_iff_ne, ne_eq, decide_eq_true_eq, wd8, wd16] at c); omega
  rcases cond_n h with ⟨c, h⟩ | ⟨c9, h⟩
  · simp only [Bool.or_eq_false_iff, decide_eq_false_iff_not] at c5; (try simp only [Bool.and_eq_true, Bool.or_eq_true, beq_iff_eq, bne_iff_ne, ne_eq, decide_eq_true_eq, wd8, wd16] at c); omega
  exact absurd rfl h
theorem one_range {op d : Int} (h : (hdOne op d).n ≠ 0) : 0 ≤ d ∧ d ≤ 20 := by
  unfold hdOne at h
  rcases cond_n h with ⟨c, h⟩ | ⟨c0, h⟩
  · (try simp only [Bool.and_eq_true, Bool.or_eq_true, beq_iff_eq, bne_iff_ne, ne_eq, decide_eq_true_eq, wd8, wd16] at c); omega
  rcases cond_n h with ⟨c, h⟩ | ⟨c1, h⟩
  · (try simp only [Bool.and_eq_true, Bool.or_eq_true, beq_iff_eq, bne_iff_ne, ne_eq, decide_eq_true_eq, wd8, wd16] at c); omega
  rcases cond_n h with ⟨c, h⟩ | ⟨c2, h⟩
  · (try simp only [Bool.and_eq_true, Bool.or_eq_true, beq_iff_eq, bne_iff_ne, ne_eq, decide_eq_true_eq, wd8, wd16] at c); omega
  rcases cond_n h with ⟨c, h⟩ | ⟨c3, h⟩
  · simp only [Bool.and_eq_true, bne_iff_ne, ne_eq, decide_eq_true_eq] at c; have := wd0 c.2; omega
  rcases cond_n h with ⟨c, h⟩ | ⟨c4, h⟩
  · (try simp only [Bool.and_eq_true, Bool.or_eq_true, beq_iff_eq, bne_iff_ne, ne_eq, decide_eq_true_eq, wd8, wd16] at c); omega
  rcases cond_n h with ⟨c, h⟩ | ⟨c5, h⟩
  · (try simp only [Bool.and_eq_true, Bool.or_eq_true, beq_iff_eq, bne_iff_ne, ne_eq, decide_eq_true_eq, wd8, wd16] at c); omega
  exact absurd rfl h
theorem hd_range {op d s : Int} (h : (hd op d s).n ≠ 0) : 1 ≤ op ∧ op ≤ 51 ∧ 0 ≤ d ∧ d ≤ 20 ∧ 0 ≤ s ∧ s ≤ 20 := by
  unfold hd at h
  rcases cond_n h with ⟨c, h⟩ | ⟨c0, h⟩
  · exact absurd rfl h
  rcases cond_n h with ⟨c, h⟩ | ⟨c1, h⟩
  · exact two_range h
  rcases cond_n h with ⟨c, h⟩ | ⟨c2, h⟩
  · simp only [Bool.or_eq_false_iff, bne_eq_false_iff_eq, beq_eq_false_iff_ne] at c1; have := one_range h; (try simp only [Bool.and_eq_true, Bool.or_eq_true, beq_iff_eq, bne_iff_ne, ne_eq, decide_eq_true_eq, wd8, wd16] at c); omega
  rcases cond_n h with ⟨c, h⟩ | ⟨c3, h⟩
  · simp only [Bool.or_eq_false_iff, bne_eq_false_iff_eq, beq_eq_false_iff_ne] at c1; (try simp only [Bool.and_eq_true, Bool.or_eq_true, beq_iff_eq, bne_iff_ne, ne_eq, decide_eq_true_eq, wd8, wd16] at c); omega
  rcases cond_n h with ⟨c, h⟩ | ⟨c4, h⟩
  · simp only [Bool.or_eq_false_iff, bne_eq_false_iff_eq, beq_eq_false_iff_ne] at c1; (try simp only [Bool.and_eq_true, Bool.or_eq_true, beq_iff_eq, bne_iff_ne, ne_eq, decide_eq_true_eq, wd8, wd16] at c); omega
  rcases cond_n h with ⟨c, h⟩ | ⟨c5, h⟩
  · exact absurd rfl h
  rcases cond_n h with ⟨c, h⟩ | ⟨c6, h⟩
  · simp only [Bool.or_eq_false_iff, bne_eq_false_iff_eq, beq_eq_false_iff_ne] at c1; simp only [bne_eq_false_iff_eq] at c5; (try simp only [Bool.and_eq_true, Bool.or_eq_true, beq_iff_eq, bne_iff_ne, ne_eq, decide_eq_true_eq, wd8, wd16] at c); omega
  rcases cond_n h with ⟨c, h⟩ | ⟨c7, h⟩
  · simp only [Bool.or_eq_false_iff, bne_eq_false_iff_eq, beq_eq_false_iff_ne] at c1; simp only [bne_eq_false_iff_eq] at c5; (try simp only [Bool.and_eq_true, Bool.or_eq_true, beq_iff_eq, bne_iff_ne, ne_eq, decide_eq_true_eq, wd8, wd16] at c); omega
  rcases cond_n h with ⟨c, h⟩ | ⟨c8, h⟩
  · simp only [Bool.or_eq_false_iff, bne_eq_false_iff_eq, beq_eq_false_iff_ne] at c1; simp only [bne_eq_false_iff_eq] at c5; (try simp only [Bool.and_eq_true, Bool.or_eq_true, beq_iff_eq, bne_iff_ne, ne_eq, decide_eq_true_eq, wd8, wd16] at c); omega
  rcases cond_n h with ⟨c, h⟩ | ⟨c9, h⟩
  · simp only [Bool.or_eq_false_iff, bne_eq_false_iff_eq, beq_eq_false_iff_ne] at c1; simp only [bne_eq_false_iff_eq] at c5; (try simp only [Bool.and_eq_true, Bool.or_eq_true, beq_iff_eq, bne_iff_ne, ne_eq, decide_eq_true_eq, wd8, wd16] at c); omega
  exact absurd rfl h
end Go.Proofs.Ytnknopebjdgdjaa.Isa
namespace Go.Ly
open Go.RowKit
theorem VRL_get {ρ : Ren} : ∀ {l l' : List Value}, VRL ρ l l' → ∀ {i : Nat} {v : Value}, l[i]? = some v → ∃ v', l'[i]? = some v' ∧ VR ρ v v'
  | [], _, _, i, v, hi => by simp at hi
  | x :: r, l', h, i, v, hi => by
    simp only [VRL] at h
    obtain ⟨x', r', h1, h2, rfl⟩ := h
    cases i with
    | zero => simp at hi; subst hi; exact ⟨x', rfl, h1⟩
    | succ i =>
      obtain ⟨v', h3, h4⟩ := VRL_get h2 (i := i) (by simpa using hi)
      exact ⟨v', by simpa using h3, h4⟩
theorem VRL_length {ρ : Ren} : ∀ {l l' : List Value}, VRL ρ l l' → l'.length = l.length
  | [], _, h => by simp only [VRL] at h; subst h; rfl
  | x :: r, l', h => by
    simp only [VRL] at h
    obtain ⟨x', r', h1, h2, rfl⟩ := h
    simp [VRL_length h2]
def pairNew (H : Heap) (g : Nat → Value) (n : Nat) (t : TypeId) (x : Value) : ER := bif Nat.beq H.lock 0 && Nat.blt (H.next + 1) 2147483000 then .mem (.tuple ⟨[sl H.next n, x]⟩) (H.new (.fn 1 (fun e _ => g e) n t)) else .no
theorem pairNew_good {P : Program} {f : FuncId} {args : List Value} {x : Value} {r n : Nat} {c : List Value} {t : TypeId} {g : Nat → Value} (ha : plainL args = true) (hx : plain x = true) (hc : c.all cst = true) (hn : c.length = n) (hn0 : n ≠ 0)
    (hg : ∀ e, e < n → c[e]? = some (g e))
    (h : LCalls P f args H0 (fun u K => u = .tuple ⟨[.slice (some ⟨r, 0, none⟩) n 18446744073709551616, x]⟩ ∧ K.get r = some (.row c t 1) ∧ K.lock = 0)) (H : Heap) : HGood P f args H (pairNew H g n t x) := by
  unfold pairNew
  cases hb0 : (Nat.beq H.lock 0 && Nat.blt (H.next + 1) 2147483000) with
  | false => exact trivial
  | true =>
    simp only [cond_true]
    rw [Bool.and_eq_true] at hb0
    have hb : H.next + 1 < big := by have := hb0.2; unfold big; rw [Nat.blt_eq] at this; exact this
    intro ρ args' w hva hr
    have hva0 := plainL_eq ha hva
    subst hva0
    refine (h ρ0 args' w (plainL_VR _ ha) (Rep0 w)).mono ?_
    rintro e w' ⟨ρ2, u, u', K, rfl, ⟨rfl, hK, hlk⟩, h1, h2, h3, h4, h5⟩
    have hbel : Below w.heap.size w w' := ⟨h5.os, h5.tape, h5.output, h5.size, fun k hk => h5.block k hk (fun i hi => by cases hi)⟩
    obtain ⟨q1, b, o', q2, q3, q4⟩ := h4.obj r _ hK rfl
    have hbnew : w.heap.size ≤ b := by
      rcases h2 r b q2 with h6 | ⟨j, h6, _⟩
      · exact h6
      · cases h6
    have hrB := hr.below hbel
    have hnone : ∀ i, ρ i ≠ some b := fun i e => by have := (hr.dom i b e).2; omega
    obtain ⟨z1, c', d', z2, z3, z4⟩ := q4
    have hlen := VRL_length z2
    have hOR : OR (ρ.ext H.next b (ρ2.cap r) 1) H.next (.fn 1 (fun e _ => g e) n t) o' := by
      refine ⟨by simp [Ren.ext], by simp [Ren.ext], c', d', z3, by rw [hlen, hn]; omega, by simp [Ren.ext]; omega, ⟨fun e j he hj => ?_, fun e j he hj => ?_⟩⟩
      · obtain ⟨v', k1, k2⟩ := VRL_get z2 (hg e he)
        refine ⟨v', ?_, ?_⟩
        · have : 0 + (e * 1 + j) = e := by omega
          rw [this]; exact k1
        · have hcst : cst (g e) = true := List.all_eq_true.1 hc _ (List.mem_of_getElem? (hg e he))
          exact VR_cst hcst k2
      · exact List.all_eq_true.1 hc _ (List.mem_of_getElem? (hg e he))
    have hRep := hrB.extNew (k := ρ2.cap r) (wd := 1) hb rfl (h4.dom r b q2).2 hnone q3 hOR
    refine ⟨ρ.ext H.next b (ρ2.cap r) 1, .tuple ⟨[sl H.next n, x]⟩, u', _, rfl, ⟨rfl, rfl⟩, hr.ext_le _ _ _, fun i y hy => ?_, ?_, hRep, Below.toKeep hbel⟩
    · simp only [Ren.ext] at hy
      split at hy
      · simp at hy; subst hy; exact .inl hbnew
      · rename_i e; exact .inr ⟨i, hy, by simp [Ren.ext, e]⟩
    · simp only [VR, VRL] at h3 ⊢
      obtain ⟨l', ⟨s', r', ⟨a', c2, rfl, y1, y2, y3⟩, ⟨x', e', hx', he', rfl⟩, rfl⟩, rfl⟩ := h3
      subst he'
      have := plain_eq hx hx'
      subst this
      refine ⟨_, ⟨_, _, ⟨a', c2, rfl, y1, fun hc => absurd rfl hc, fun hN => ?_⟩, ⟨_, _, plain_VR _ hx, rfl, rfl⟩, rfl⟩, rfl⟩
      obtain ⟨b', x1, x2, x3⟩ := y3 hN
      have hbb : b' = b := by
        have x1' : ρ2 r = some b' := x1
        rw [q2] at x1'; simp at x1'; exact x1'.symm
      subst hbb
      refine ⟨b', by simp [Ren.ext], ?_, ?_⟩
      · rw [x2]; simp [Ren.at, Ren.ext, z1]
      · intro hc _
        have := x3 rfl (by simp [Ren.at, z1])
        simpa [Ren.ext] using this
end Go.Ly
namespace Go.Ly
open Go.RowKit
def aggNew (H : Heap) (c : List Value) (t : TypeId) (x : Value) : ER := bif Nat.beq H.lock 0 && Nat.blt (H.next + 1) 2147483000 then .mem (.agg ⟨[.slice (some ⟨H.next, 0, none⟩) c.length c.length, x]⟩) (H.new (.cells c t)) else .no
theorem aggNew_good {P : Program} {f : FuncId} {args : List Value} {x : Value} {r : Nat} {c : List Value} {t : TypeId} (ha : plainL args = true) (hx : plain x = true) (hc : plainL c = true) (hcap : c.length ≠ capU)
    (h : LCalls P f args H0 (fun u K => u = .agg ⟨[.slice (some ⟨r, 0, none⟩) c.length c.length, x]⟩ ∧ K.get r = some (.cells c t) ∧ K.lock = 0)) (H : Heap) : HGood P f args H (aggNew H c t x) := by
  unfold aggNew
  cases hb0 : (Nat.beq H.lock 0 && Nat.blt (H.next + 1) 2147483000) with
  | false => exact trivial
  | true =>
    simp only [cond_true]
    rw [Bool.and_eq_true] at hb0
    have hb : H.next + 1 < big := by have := hb0.2; unfold big; rw [Nat.blt_eq] at this; exact this
    intro ρ args' w hva hr
    have hva0 := plainL_eq ha hva
    subst hva0
    refine (h ρ0 args' w (plainL_VR _ ha) (Rep0 w)).mono ?_
    rintro e w' ⟨ρ2, u, u', K, rfl, ⟨rfl, hK, hlk⟩, h1, h2, h3, h4, h5⟩
    have hbel : Below w.heap.size w w' := ⟨h5.os, h5.tape, h5.output, h5.size, fun k hk => h5.block k hk (fun i hi => by cases hi)⟩
    obtain ⟨q1, b, o', q2, q3, q4⟩ := h4.obj r _ hK rfl
    have hbnew : w.heap.size ≤ b := by
      rcases h2 r b q2 with h6 | ⟨j, h6, _⟩
      · exact h6
      · cases h6
    have hrB := hr.below hbel
    have hnone : ∀ i, ρ i ≠ some b := fun i e => by have := (hr.dom i b e).2; omega
    obtain ⟨z1, c', z2, z3⟩ := q4
    have hcc := plainL_eq hc z2
    subst hcc
    have hOR : OR (ρ.ext H.next b (ρ2.cap r) 1) H.next (.cells c' t) o' := ⟨by simp [Ren.ext], c', plainL_VR _ hc, z3⟩
    have hRep := hrB.extNew (k := ρ2.cap r) (wd := 1) hb rfl (h4.dom r b q2).2 hnone q3 hOR
    refine ⟨ρ.ext H.next b (ρ2.cap r) 1, _, u', _, rfl, ⟨rfl, rfl⟩, hr.ext_le _ _ _, fun i y hy => ?_, ?_, hRep, Below.toKeep hbel⟩
    · simp only [Ren.ext] at hy
      split at hy
      · simp at hy; subst hy; exact .inl hbnew
      · rename_i e; exact .inr ⟨i, hy, by simp [Ren.ext, e]⟩
    · simp only [VR, VRL] at h3 ⊢
      obtain ⟨l', ⟨s', r', ⟨a', c2, rfl, y1, y2, y3⟩, ⟨x', e', hx', he', rfl⟩, rfl⟩, rfl⟩ := h3
      subst he'
      have := plain_eq hx hx'
      subst this
      refine ⟨_, ⟨_, _, ⟨a', c2, rfl, y1, y2, fun hN => ?_⟩, ⟨_, _, plain_VR _ hx, rfl, rfl⟩, rfl⟩, rfl⟩
      obtain ⟨b', x1, x2, x3⟩ := y3 hN
      have hbb : b' = b := by
        have x1' : ρ2 r = some b' := x1
        rw [q2] at x1'; simp at x1'; exact x1'.symm
      subst hbb
      refine ⟨b', by simp [Ren.ext], ?_, fun hc _ => absurd hc hcap⟩
      rw [x2]; simp [Ren.at, Ren.ext, z1]
end Go.Ly
namespace Go.Ly
open Go.RowKit
theorem pairNew_good2 {P : Program} {f : FuncId} {args : List Value} {x : Value} {r n : Nat} {c : List Value} {t : TypeId} {g : Nat → Value} (ha : plainL args = true) (hx : plain x = true) (hc : c.all cst = true) (hn : c.length = n) (hn0 : n ≠ 0) (hcap : n ≠ capU)
    (hg : ∀ e, e < n → c[e]? = some (g e))
    (h : LCalls P f args H0 (fun u K => u = .tuple ⟨[.slice (some ⟨r, 0, none⟩) n n, x]⟩ ∧ K.get r = some (.cells c t) ∧ K.lock = 0)) (H : Heap) : HGood P f args H (pairNew H g n t x) := by
  unfold pairNew
  cases hb0 : (Nat.beq H.lock 0 && Nat.blt (H.next + 1) 2147483000) with
  | false => exact trivial
  | true =>
    simp only [cond_true]
    rw [Bool.and_eq_true] at hb0
    have hb : H.next + 1 < big := by have := hb0.2; unfold big; rw [Nat.blt_eq] at this; exact this
    intro ρ args' w hva hr
    have hva0 := plainL_eq ha hva
    subst hva0
    refine (h ρ0 args' w (plainL_VR _ ha) (Rep0 w)).mono ?_
    rintro e w' ⟨ρ2, u, u', K, rfl, ⟨rfl, hK, hlk⟩, h1, h2, h3, h4, h5⟩
    have hbel : Below w.heap.size w w' := ⟨h5.os, h5.tape, h5.output, h5.size, fun k hk => h5.block k hk (fun i hi => by cases hi)⟩
    obtain ⟨q1, b, o', q2, q3, q4⟩ := h4.obj r _ hK rfl
    have hbnew : w.heap.size ≤ b := by
      rcases h2 r b q2 with h6 | ⟨j, h6, _⟩
      · exact h6
      · cases h6
    have hrB := hr.below hbel
    have hnone : ∀ i, ρ i ≠ some b := fun i e => by have := (hr.dom i b e).2; omega
    obtain ⟨z1, c', z2, z3⟩ := q4
    have hlen := VRL_length z2
    have hOR : OR (ρ.ext H.next b n 1) H.next (.fn 1 (fun e _ => g e) n t) o' := by
      refine ⟨by simp [Ren.ext], by simp [Ren.ext], c', [], by rw [List.append_nil]; exact z3, by rw [hlen, hn]; omega, by simp [Ren.ext, hlen, hn], ⟨fun e j he hj => ?_, fun e j he hj => ?_⟩⟩
      · obtain ⟨v', k1, k2⟩ := VRL_get z2 (hg e he)
        refine ⟨v', ?_, ?_⟩
        · have : 0 + (e * 1 + j) = e := by omega
          rw [this]; exact k1
        · have hcst : cst (g e) = true := List.all_eq_true.1 hc _ (List.mem_of_getElem? (hg e he))
          exact VR_cst hcst k2
      · exact List.all_eq_true.1 hc _ (List.mem_of_getElem? (hg e he))
    have hRep := hrB.extNew (k := n) (wd := 1) hb rfl (h4.dom r b q2).2 hnone q3 hOR
    refine ⟨ρ.ext H.next b n 1, .tuple ⟨[sl H.next n, x]⟩, u', _, rfl, ⟨rfl, rfl⟩, hr.ext_le _ _ _, fun i y hy => ?_, ?_, hRep, Below.toKeep hbel⟩
    · simp only [Ren.ext] at hy
      split at hy
      · simp at hy; subst hy; exact .inl hbnew
      · rename_i e; exact .inr ⟨i, hy, by simp [Ren.ext, e]⟩
    · simp only [VR, VRL] at h3 ⊢
      obtain ⟨l', ⟨s', r', ⟨a', c2, rfl, y1, y2, y3⟩, ⟨x', e', hx', he', rfl⟩, rfl⟩, rfl⟩ := h3
      subst he'
      have := plain_eq hx hx'
      subst this
      refine ⟨_, ⟨_, _, ⟨a', c2, rfl, y1, fun hc => absurd rfl hc, fun hN => ?_⟩, ⟨_, _, plain_VR _ hx, rfl, rfl⟩, rfl⟩, rfl⟩
      obtain ⟨b', x1, x2, x3⟩ := y3 hN
      have hbb : b' = b := by
        have x1' : ρ2 r = some b' := x1
        rw [q2] at x1'; simp at x1'; exact x1'.symm
      subst hbb
      refine ⟨b', by simp [Ren.ext], ?_, ?_⟩
      · rw [x2]; simp [Ren.at, Ren.ext, z1]
      · intro hc _
        have := y2 hcap
        simp [Ren.ext]; omega
end Go.Ly
namespace Go.Ly
inductive RT (α : Type) where
  | b (k : Nat) (t : Bool) (x y : RT α)
  | t (k : Nat) (t : Bool) (x : RT α)
  | f (k : Nat) (t : Bool) (x : RT α)
  | l (a : α)
  | no
variable {α : Type}
def RT.cnt : RT α → Nat
  | .b k _ _ _ => k
  | .t k _ _ => k
  | .f k _ _ => k
  | _ => 1000
def treeGS (leaf : Value → Heap → Option α) (rec : Nat → RT α → St → RT α) : SR → Nat → RT α → RT α
  | .go S, k, g => rec k g S
  | .done v H, _, _ => match leaf v H with | some a => .l a | none => .no
  | .tst b x y, k + 1, g => bif b then treeGS leaf rec x k g else treeGS leaf rec y k g
  | .tst b x y, 0, g => match g with
    | .b c _ gx gy => .b c b (treeGS leaf rec x gx.cnt gx) (treeGS leaf rec y gy.cnt gy)
    | .t c _ gx => .t c b (treeGS leaf rec x gx.cnt gx)
    | .f c _ gy => .f c b (treeGS leaf rec y gy.cnt gy)
    | _ => .no
  | _, _, _ => .no
def treeG (C : Ctx) (leaf : Value → Heap → Option α) : Nat → Nat → RT α → St → RT α
  | 0, _, _, _ => .no
  | n + 1, k, g, S => treeGS leaf (treeG C leaf n) (step C S) k g
def RT.sat (Q : α → Prop) : RT α → Prop
  | .b _ c x y => (c = true → x.sat Q) ∧ (c = false → y.sat Q)
  | .t _ c x => c = true ∧ x.sat Q
  | .f _ c x => c = false ∧ x.sat Q
  | .l a => Q a
  | .no => False
theorem RT.sb {Q : α → Prop} {n : Nat} {X Y : RT α} {c : Bool} (h : c = true → X.sat Q) (h' : c = false → Y.sat Q) : (RT.b n c X Y).sat Q := ⟨h, h'⟩
theorem RT.st {Q : α → Prop} {n : Nat} {X : RT α} {c : Bool} (h : c = true) (h' : c = true → X.sat Q) : (RT.t n c X).sat Q := ⟨h, h' h⟩
theorem RT.sf {Q : α → Prop} {n : Nat} {X : RT α} {c : Bool} (h : c = false) (h' : c = false → X.sat Q) : (RT.f n c X).sat Q := ⟨h, h' h⟩
theorem RT.sl {Q : α → Prop} {a : α} (h : Q a) : (RT.l a).sat Q := h
section
variable {P : Program} {C : Ctx} {leaf : Value → Heap → Option α} {Q : α → Prop}
theorem treeGS_sound {rec : Nat → RT α → St → RT α} (hrec : ∀ k g S, (rec k g S).sat Q → ∃ v H a, leaf v H = some a ∧ Q a ∧ MWp P S (fun u K => u = v ∧ K = H)) :
    ∀ (x : SR) (k : Nat) (g : RT α), (treeGS leaf rec x k g).sat Q → ∃ v H a, leaf v H = some a ∧ Q a ∧ x.sat P (fun u K => u = v ∧ K = H)
  | .go S, k, g, h => hrec k g S h
  | .done v H, _, _, h => by
    simp only [treeGS] at h
    cases hl : leaf v H with
    | none => rw [hl] at h; exact h.elim
    | some a => rw [hl] at h; exact ⟨v, H, a, hl, h, rfl, rfl⟩
  | .tst b x y, k + 1, g, h => by
    simp only [treeGS] at h
    cases b with
    | true =>
      obtain ⟨v, H, a, h1, h2, h3⟩ := treeGS_sound hrec x k g h
      exact ⟨v, H, a, h1, h2, fun _ => h3, fun e => by cases e⟩
    | false =>
      obtain ⟨v, H, a, h1, h2, h3⟩ := treeGS_sound hrec y k g h
      exact ⟨v, H, a, h1, h2, fun e => (by cases e), fun _ => h3⟩
  | .tst b x y, 0, .b c _ gx gy, h => by
    simp only [treeGS, RT.sat] at h
    cases b with
    | true =>
      obtain ⟨v, H, a, h1, h2, h3⟩ := treeGS_sound hrec x _ gx (h.1 rfl)
      exact ⟨v, H, a, h1, h2, fun _ => h3, fun e => by cases e⟩
    | false =>
      obtain ⟨v, H, a, h1, h2, h3⟩ := treeGS_sound hrec y _ gy (h.2 rfl)
      exact ⟨v, H, a, h1, h2, fun e => (by cases e), fun _ => h3⟩
  | .tst b x y, 0, .t c _ gx, h => by
    simp only [treeGS, RT.sat] at h
    obtain ⟨rfl, h⟩ := h
    obtain ⟨v, H, a, h1, h2, h3⟩ := treeGS_sound hrec x _ gx h
    exact ⟨v, H, a, h1, h2, fun _ => h3, fun e => by cases e⟩
  | .tst b x y, 0, .f c _ gy, h => by
    simp only [treeGS, RT.sat] at h
    obtain ⟨rfl, h⟩ := h
    obtain ⟨v, H, a, h1, h2, h3⟩ := treeGS_sound hrec y _ gy h
    exact ⟨v, H, a, h1, h2, fun e => (by cases e), fun _ => h3⟩
  | .tst _ _ _, 0, .l _, h => h.elim
  | .tst _ _ _, 0, .no, h => h.elim
  | .stop, _, _, h => h.elim
  | .no, _, _, h => h.elim
theorem treeG_sound (hC : C.Ok P) : ∀ (n k : Nat) (g : RT α) (S : St), (treeG C leaf n k g S).sat Q → ∃ v H a, leaf v H = some a ∧ Q a ∧ MWp P S (fun u K => u = v ∧ K = H)
  | 0, _, _, _, h => h.elim
  | n + 1, k, g, S, h => by
    obtain ⟨v, H, a, h1, h2, h3⟩ := treeGS_sound (fun k g S h => treeG_sound hC n k g S h) (step C S) k g h
    exact ⟨v, H, a, h1, h2, step_sound hC h3⟩
theorem MWp.treeG (hC : C.Ok P) {n : Nat} {T : RT α} {S : St} (h : Go.Ly.treeG C leaf n T.cnt T S = T) (hs : T.sat Q) : ∃ v H a, leaf v H = some a ∧ Q a ∧ MWp P S (fun u K => u = v ∧ K = H) :=
  treeG_sound hC n T.cnt T S (by rw [h]; exact hs)
end
end Go.Ly
namespace Go.Proofs.Ytnknopebjdgdjaa
open Go Go.Ly Go.RowKit
end Go.Proofs.Ytnknopebjdgdjaa
namespace Go.Ly
open Go.RowKit
section
variable {P : Program} {E : Env} {ρ : Ren} {H : Heap} {w : World}
def Ren.see (ρ : Ren) (i b c : Nat) : Ren :=
  ⟨fun j => if j = i then some b else ρ j, fun j => if j = i then c else ρ.cap j, fun j => if j = i then true else ρ.ro j, fun j => if j = i then 0 else ρ.off j, fun j => if j = i then 1 else ρ.wd j, ρ.tok⟩
theorem see_le (hr : Rep ρ H w) (b c : Nat) : Ren.le ρ (ρ.see H.next b c) := ⟨fun j x e => by
  have : j ≠ H.next := by have := (hr.dom j x e).1; omega
  exact ⟨by simp [Ren.see, this], by simp [Ren.see, this], by simp [Ren.see, this], by simp [Ren.see, this], by simp [Ren.see, this]⟩, rfl⟩
def convH (H : Heap) (i : Nat) (cs : List Value) : Heap := { m := (H.m.set i none).set H.next (some (.arg 1 (fun e _ => cs[e]?.getD undef) cs.length)), next := H.next + 1, lock := H.lock }
theorem freeze_at (w : World) (b n : Nat) {o : Obj} (j : Nat) (h : j ≠ b) : (w.freeze ⟨b, n, none⟩ 1).heap[j]? = w.heap[j]? := by
  unfold World.freeze
  rw [if_neg (by decide)]
  show (w.heap.modify b _)[j]? = _
  rw [Array.getElem?_modify, if_neg (fun e => h e.symm)]
theorem freeze_size (w : World) (b n : Nat) : (w.freeze ⟨b, n, none⟩ 1).heap.size = w.heap.size := by
  unfold World.freeze
  rw [if_neg (by decide)]
  show (w.heap.modify b _).size = _
  rw [Array.size_modify]
theorem conv_good (hE : E.Ok P) (hr : Rep ρ H w) (hl : H.lock = 0) (hb : H.next + 1 < big) {s e t : TypeId} {i q : TI} {a n c : Nat} {cs : List Value} {x' : Value}
    (hs : E.ty.get s = some i) (hsd : i.desc = .slice e) (he : E.ty.get e = some q) (hed : q.desc = .int .u8) (ho : H.get a = some (.cells cs t)) (hc : cs.all cst = true) (hn : n ≠ 0) (hnc : n ≤ cs.length) (hcc : c ≠ capU) (hx : VR ρ (.slice (some ⟨a, 0, none⟩) n c) x') :
    Next.Good P ρ w (valued ((convert s s x').run P w)) (.mem (.slice (some ⟨H.next, 0, none⟩) n c) (convH H a cs)) := by
  obtain ⟨hu, _, _⟩ := hE.ty s i hs
  obtain ⟨hv, _, _⟩ := hE.ty e q he
  rw [hsd] at hu; rw [hed] at hv
  simp only [VR] at hx
  obtain ⟨a', c', rfl, h2, h3, h4⟩ := hx
  obtain ⟨b, hab, rfl, _⟩ := h4 hn
  have h3' := h3 hcc
  subst h3'
  obtain ⟨hro, b', o', hab', hbo, hor⟩ := hr.obj a _ ho rfl
  have hbb : b' = b := by rw [hab] at hab'; exact (Option.some.inj hab').symm
  subst hbb
  obtain ⟨hoff, c1, hv1, rfl⟩ := hor
  have hro0 : ρ.ro a = false := hro (by rw [hl]; exact Nat.zero_le _)
  have hat : ρ.at ⟨a, 0, none⟩ = 0 := by simp [Ren.at, hoff]
  have hlen : c1.length = cs.length := VRL.length hv1
  have han : a < H.next := hr.ltn a _ ho
  have hsz : b' < w.heap.size := (hr.dom a b' hab).2
  have hget : ∀ j, (convH H a cs).get j = if j = H.next then some (.arg 1 (fun e _ => cs[e]?.getD undef) cs.length) else if j = a then none else H.get j := by
    intro j
    show ((H.m.set a none).set H.next _).get j = _
    rw [Tr.get_set _ _ _ (by unfold big at *; omega) j]
    by_cases hj : j = H.next
    · simp [hj]
    · rw [if_neg hj, if_neg hj, Tr.get_set _ _ _ (by unfold big at *; omega) j]; rfl
  let w' := w.freeze ⟨b', c1.length, none⟩ 1
  have hw' : ∀ j, j ≠ b' → w'.heap[j]? = w.heap[j]? := fun j hj => freeze_at w b' _ (o := .cells ⟨c1⟩ t (0, 0)) j hj
  have hwb : ∀ p : Addr, p.block = b' → w'.cell? p = w.cell? p := fun p hp => by
    unfold World.cell?
    have : w'.heap[b']? = some (.cells ⟨c1⟩ t (c1.length, c1.length + 1)) := by
      show (w.freeze _ 1).heap[b']? = _
      unfold World.freeze
      rw [if_neg (by decide)]
      show (w.heap.modify b' _)[b']? = _
      rw [Array.getElem?_modify, if_pos rfl, hbo]
      rfl
    rw [hp, this, hbo]
  have hrun : (convert s s (.slice (some ⟨b', ρ.at ⟨a, 0, none⟩, none⟩) n c')).run P w = .ok (.slice (some ⟨b', ρ.at ⟨a, 0, none⟩, none⟩) n c') w' := by
    have hsh : w.shape? b' = some (t, c1.length) := by unfold World.shape?; rw [hbo]; rfl
    simp [convert, run_underlying hu, run_underlying hv, markStringish, hsh]
    rfl
  refine ⟨ρ.see H.next b' c', _, w', see_le hr b' c', ?_, ?_, by rw [hrun]; rfl, ⟨hb, ?_, ?_, ?_, ?_, ?_⟩, ⟨rfl, rfl, rfl, by rw [freeze_size]; exact Nat.le_refl _, ?_⟩⟩
  · intro j x hx
    simp only [Ren.see] at hx
    by_cases hj : j = H.next
    · rw [if_pos hj] at hx
      simp only [Option.some.injEq] at hx; subst hx
      exact .inr ⟨a, hab, fun h => by simp [Ren.see, hj] at h⟩
    · rw [if_neg hj] at hx
      exact .inr ⟨j, hx, fun h => by simpa [Ren.see, hj] using h⟩
  · simp only [VR]
    exact ⟨⟨b', ρ.at ⟨a, 0, none⟩, none⟩, c', rfl, h2, fun _ => rfl, fun _ => ⟨b', by simp [Ren.see], by rw [hat]; simp [Ren.at, Ren.see], fun hh => absurd hh hcc⟩⟩
  · intro j x hx
    simp only [Ren.see] at hx
    show j < H.next + 1 ∧ x < w'.heap.size
    rw [freeze_size]
    by_cases hj : j = H.next
    · rw [if_pos hj] at hx
      simp only [Option.some.injEq] at hx; subst hx
      exact ⟨by omega, hsz⟩
    · rw [if_neg hj] at hx
      have := hr.dom j x hx
      exact ⟨by omega, this.2⟩
  · intro j k x o hj hoo hk h1 h2
    rw [hget] at hj hk
    have hjn : j ≠ H.next := by
      intro e; rw [if_pos e] at hj; simp only [Option.some.injEq] at hj; subst hj; cases hoo
    rw [if_neg hjn] at hj
    have hja : j ≠ a := by intro e; rw [if_pos e] at hj; cases hj
    rw [if_neg hja] at hj
    have h1' : ρ j = some x := by simpa [Ren.see, hjn] using h1
    by_cases hkn : k = H.next
    · have : x = b' := by have : (ρ.see H.next b' c') k = some b' := by simp [Ren.see, hkn]
                          rw [this] at h2; exact (Option.some.inj h2).symm
      subst this
      exact absurd (hr.inj j a x o hj hoo (by rw [ho]; rfl) h1' hab) hja
    · rw [if_neg hkn] at hk
      have hka : k ≠ a := by intro e; rw [if_pos e] at hk; cases hk
      rw [if_neg hka] at hk
      exact hr.inj j k x o hj hoo hk h1' (by simpa [Ren.see, hkn] using h2)
  · intro j o hj
    rw [hget] at hj
    show j < H.next + 1
    by_cases hjn : j = H.next
    · omega
    · rw [if_neg hjn] at hj
      by_cases hja : j = a
      · omega
      · rw [if_neg hja] at hj
        have := hr.ltn j o hj; omega
  · intro j o hj hoo
    rw [hget] at hj
    have hjn : j ≠ H.next := by
      intro e; rw [if_pos e] at hj; simp only [Option.some.injEq] at hj; subst hj; cases hoo
    rw [if_neg hjn] at hj
    have hja : j ≠ a := by intro e; rw [if_pos e] at hj; cases hj
    rw [if_neg hja] at hj
    obtain ⟨k1, x, o', k2, k3, k4⟩ := hr.obj j o hj hoo
    have hxb : x ≠ b' := by
      intro e; subst e
      exact hja (hr.inj j a x o hj hoo (by rw [ho]; rfl) k2 hab)
    refine ⟨fun hlk => by simpa [Ren.see, hjn] using k1 hlk, x, o', by simpa [Ren.see, hjn] using k2, by rw [hw' x hxb]; exact k3, OR.mono (see_le hr b' c') (by simp [Ren.see, hjn]) (by simp [Ren.see, hjn]) (by simp [Ren.see, hjn]) o o' k4⟩
  · intro j k g m hj
    rw [hget] at hj
    by_cases hjn : j = H.next
    · rw [if_pos hjn] at hj
      simp only [Option.some.injEq, LO.arg.injEq] at hj
      obtain ⟨rfl, rfl, rfl⟩ := hj
      subst hjn
      refine ⟨by simp [Ren.see], ⟨by simp [Ren.see], fun e j he hj => ?_⟩⟩
      obtain rfl : j = 0 := by omega
      have hce : cs[e]? = some cs[e] := List.getElem?_eq_getElem he
      obtain ⟨v1, hv2, hv3⟩ := VRL.get hv1 e _ hce
      have hcst : cst cs[e] = true := by rw [List.all_eq_true] at hc; exact hc _ (List.getElem_mem he)
      refine ⟨by rw [hce]; exact hcst, b', v1, by simp [Ren.see], ?_, ?_⟩
      · rw [hwb _ rfl]
        unfold World.cell?
        rw [hbo]
        simp [Ren.see]
        exact hv2
      · rw [hce]; exact VR.mono (see_le hr b' c') _ _ hv3
    · rw [if_neg hjn] at hj
      have hja : j ≠ a := by intro e; rw [if_pos e] at hj; cases hj
      rw [if_neg hja] at hj
      obtain ⟨k1, k2⟩ := hr.arg j k g m hj
      refine ⟨by simpa [Ren.see, hjn] using k1, ⟨by simpa [Ren.see, hjn] using k2.wd, fun e jj he hjj => ?_⟩⟩
      obtain ⟨m1, x, v', m2, m3, m4⟩ := k2.cell e jj he hjj
      refine ⟨m1, x, v', by simpa [Ren.see, hjn] using m2, ?_, VR.mono (see_le hr b' c') _ _ m4⟩
      by_cases hxb : x = b'
      · rw [show (ρ.see H.next b' c').off j = ρ.off j by simp [Ren.see, hjn], hwb _ hxb]; exact m3
      · rw [show (ρ.see H.next b' c').off j = ρ.off j by simp [Ren.see, hjn], ← m3]
        unfold World.cell?
        rw [hw' x hxb]
  · intro k hk hro
    refine hw' k fun e => ?_
    subst e
    have := hro a hab
    rw [hro0] at this; cases this
def opConv (E : Env) (S : St) : Option (TypeId × Nat × Nat × Nat) :=
  match S.top.k with
  | .ops all (o :: l) :: k =>
    bif guardB all S.top.t S.top.fn.ntmps o && dstOk S.top.fn.ntmps o.dst then
      (match o.op with
      | .convert s d x => match evx S.top.t x with
        | some (.slice (some ⟨a, 0, none⟩) n c) => bif Nat.beq s d then some (s, a, n, c) else none
        | _ => none
      | _ => none)
    else none
  | _ => none
def isBytes (E : Env) (s : TypeId) : Bool := match E.ty.get s with
  | some i => match i.desc with
    | .slice e => match E.ty.get e with
      | some q => match q.desc with | .int .u8 => true | _ => false
      | none => false
    | _ => false
  | none => false
theorem MWp.conv {Q : Value → Heap → Prop} (hE : E.Ok P) {S : St} {s a n c t : Nat} {cs : List Value} (h : opConv E S = some (s, a, n, c)) (hty : isBytes E s = true) (hl : S.H.lock = 0) (hb : S.H.next + 1 < big)
    (ho : S.H.get a = some (.cells cs t)) (hc : cs.all cst = true) (hn : n ≠ 0) (hnc : n ≤ cs.length) (hcc : c ≠ capU)
    (hs : MWp P (behind S (.slice (some ⟨S.H.next, 0, none⟩) n c) (convH S.H a cs)) Q) : MWp P S Q := by
  unfold opConv at h
  split at h
  · rename_i all o l k hk
    cases hcd : (guardB all S.top.t S.top.fn.ntmps o && dstOk S.top.fn.ntmps o.dst) with
    | false => rw [hcd] at h; cases h
    | true =>
      rw [hcd] at h; simp only [cond_true] at h
      simp only [Bool.and_eq_true] at hcd
      split at h
      · rename_i s1 d x hop
        split at h
        · rename_i a1 n1 c1 hev
          cases hsd : Nat.beq s1 d with
          | false => rw [hsd] at h; cases h
          | true =>
            rw [hsd] at h
            simp only [cond_true, Option.some.injEq, Prod.mk.injEq] at h
            obtain ⟨rfl, rfl, rfl, rfl⟩ := h
            have hsd' := Nat.eq_of_beq_eq_true hsd
            subst hsd'
            unfold isBytes at hty
            split at hty
            · rename_i i hi
              split at hty
              · rename_i e hid
                split at hty
                · rename_i q hq
                  split at hty
                  · rename_i hqd
                    intro ρ w g gs R hr hf hfs hR
                    unfold stateWp
                    rw [hf.k, hk]
                    show wpList P all _ (o :: l) g.a w
                    unfold wpList
                    rw [guardB_wanted P hf hcd.1, if_pos rfl]
                    left
                    have hgood := conv_good (P := P) hE hr hl hb hi hid hq hqd ho hc hn hnc hcc (evx_VR hf.t hev)
                    obtain ⟨ρ', v', w', h1, h2, h3, h4, h5, h6⟩ := hgood
                    unfold Oper.wp
                    have hrun : (execOp g.a.eval o).run P w = .ok (.value v') w' := by
                      rw [← h4]
                      unfold execOp
                      rw [hop]
                      exact run_v _
                    rw [hrun]
                    simp only [Oper.upon]
                    refine putFr_sound (S := S) (Q := Q) (v := .slice (some ⟨S.H.next, 0, none⟩) n1 c1) (H' := convH S.H a1 cs) (k := .ops all l :: k) (dst := o.dst) ?_ hf hfs h1 h2 h5 h6 h3 hR
                    unfold putFr
                    rw [hcd.2]
                    unfold behind at hs
                    rw [hk] at hs
                    exact hs
                  · cases hty
                · cases hty
              · cases hty
            · cases hty
        · cases h
      · cases h
  · cases h
end
end Go.Ly
namespace Go.Proofs.Ytnknopebjdgdjaa
open Go Go.Ly Go.RowKit
def alD : St := Ly.start Try.f68 [] H0
def alCs : List Value := [.int .u8 159, .int .u8 158, .int .u8 39, .int .u8 245, .int .u8 249, .int .u8 248, .int .u8 251, .int .u8 250, .int .u8 244, .int .u8 144]
def alH : Heap := H0.new (.cells alCs 5)
def alK : List KI := ((Ly.run env.bare 65 [(0, false), (0, false), (0, false), (0, false), (0, false), (0, false), (0, false), (0, false)] (Ly.start Try.f68 [.int .u8 0] H0)).st alD).top.k
def alV (a : Int) : List Value := slots 27 [(0, .int .u8 a), (22, .slice (some ⟨0, 0, none⟩) 10 10)]
theorem alJ (a : Int) : haltF [0, 22] alD (Ly.run env.bare 65 [(0, false), (0, false), (0, false), (0, false), (0, false), (0, false), (0, false), (0, false)] (Ly.start Try.f68 [.int .u8 a] H0)) = (true, [(a == 160, false), (a == 162, false), (a == 228, false), (a == 230, false), (a == 233, false), (a == 235, false), (a == 232, false), (a == 195, false)], true, (Try.f68, alK, none, 0), alV a, alH) := by kernel_rfl
def alS (a : Int) : St := behind (atSt Try.f68 alK none 0 (alV a) alH) (.slice (some ⟨1, 0, none⟩) 10 10) (convH alH 0 alCs)
theorem alC (a : Int) : opConv env (atSt Try.f68 alK none 0 (alV a) alH) = some (26, 0, 10, 10) := by kernel_rfl
theorem alG : env.bare.fn.get 68 = some Try.f68 := by kernel_rfl
theorem al0 (a : Int) : (Ly.run env.bare 600 [(0, true)] (Ly.start Try.f68 [.int .u8 a] H0)).out? = some ([(a == 160, true)], .tuple ⟨[.int .i64 1, .int .i64 1, .int .i64 19]⟩) := by kernel_rfl
theorem al1 (a : Int) : (Ly.run env.bare 600 [(0, false), (0, true)] (Ly.start Try.f68 [.int .u8 a] H0)).out? = some ([(a == 160, false), (a == 162, true)], .tuple ⟨[.int .i64 1, .int .i64 19, .int .i64 1]⟩) := by kernel_rfl
theorem al2 (a : Int) : (Ly.run env.bare 600 [(0, false), (0, false), (0, true)] (Ly.start Try.f68 [.int .u8 a] H0)).out? = some ([(a == 160, false), (a == 162, false), (a == 228, true)], .tuple ⟨[.int .i64 30, .int .i64 1, .int .i64 20]⟩) := by kernel_rfl
theorem al3 (a : Int) : (Ly.run env.bare 600 [(0, false), (0, false), (0, false), (0, true)] (Ly.start Try.f68 [.int .u8 a] H0)).out? = some ([(a == 160, false), (a == 162, false), (a == 228, false), (a == 230, true)], .tuple ⟨[.int .i64 31, .int .i64 20, .int .i64 1]⟩) := by kernel_rfl
theorem al4 (a : Int) : (Ly.run env.bare 600 [(0, false), (0, false), (0, false), (0, false), (0, true)] (Ly.start Try.f68 [.int .u8 a] H0)).out? = some ([(a == 160, false), (a == 162, false), (a == 228, false), (a == 230, false), (a == 233, true)], .tuple ⟨[.int .i64 32, .int .i64 20, .int .i64 0]⟩) := by kernel_rfl
theorem al5 (a : Int) : (Ly.run env.bare 600 [(0, false), (0, false), (0, false), (0, false), (0, false), (0, true)] (Ly.start Try.f68 [.int .u8 a] H0)).out? = some ([(a == 160, false), (a == 162, false), (a == 228, false), (a == 230, false), (a == 233, false), (a == 235, true)], .tuple ⟨[.int .i64 33, .int .i64 20, .int .i64 0]⟩) := by kernel_rfl
theorem al6 (a : Int) : (Ly.run env.bare 600 [(0, false), (0, false), (0, false), (0, false), (0, false), (0, false), (0, true)] (Ly.start Try.f68 [.int .u8 a] H0)).out? = some ([(a == 160, false), (a == 162, false), (a == 228, false), (a == 230, false), (a == 233, false), (a == 235, false), (a == 232, true)], .tuple ⟨[.int .i64 34, .int .i64 20, .int .i64 0]⟩) := by kernel_rfl
theorem al7 (a : Int) : (Ly.run env.bare 600 [(0, false), (0, false), (0, false), (0, false), (0, false), (0, false), (0, false), (0, true)] (Ly.start Try.f68 [.int .u8 a] H0)).out? = some ([(a == 160, false), (a == 162, false), (a == 228, false), (a == 230, false), (a == 233, false), (a == 235, false), (a == 232, false), (a == 195, true)], .tuple ⟨[.int .i64 35, .int .i64 0, .int .i64 0]⟩) := by kernel_rfl
theorem alt0 (a : Int) : (Ly.run env.bare 600 [(3, true)] (alS a)).out? = some ([(a == 159, true)], .tuple ⟨[.int .i64 20, .int .i64 0, .int .i64 0]⟩) := by kernel_rfl
theorem alt1 (a : Int) : (Ly.run env.bare 600 [(3, false), (3, true)] (alS a)).out? = some ([(a == 159, false), (a == 158, true)], .tuple ⟨[.int .i64 21, .int .i64 0, .int .i64 0]⟩) := by kernel_rfl
theorem alt2 (a : Int) : (Ly.run env.bare 600 [(3, false), (3, false), (3, true)] (alS a)).out? = some ([(a == 159, false), (a == 158, false), (a == 39, true)], .tuple ⟨[.int .i64 22, .int .i64 0, .int .i64 0]⟩) := by kernel_rfl
theorem alt3 (a : Int) : (Ly.run env.bare 600 [(3, false), (3, false), (3, false), (3, true)] (alS a)).out? = some ([(a == 159, false), (a == 158, false), (a == 39, false), (a == 245, true)], .tuple ⟨[.int .i64 23, .int .i64 0, .int .i64 0]⟩) := by kernel_rfl
theorem alt4 (a : Int) : (Ly.run env.bare 600 [(3, false), (3, false), (3, false), (3, false), (3, true)] (alS a)).out? = some ([(a == 159, false), (a == 158, false), (a == 39, false), (a == 245, false), (a == 249, true)], .tuple ⟨[.int .i64 24, .int .i64 0, .int .i64 0]⟩) := by kernel_rfl
theorem alt5 (a : Int) : (Ly.run env.bare 600 [(3, false), (3, false), (3, false), (3, false), (3, false), (3, true)] (alS a)).out? = some ([(a == 159, false), (a == 158, false), (a == 39, false), (a == 245, false), (a == 249, false), (a == 248, true)], .tuple ⟨[.int .i64 25, .int .i64 0, .int .i64 0]⟩) := by kernel_rfl
theorem alt6 (a : Int) : (Ly.run env.bare 600 [(3, false), (3, false), (3, false), (3, false), (3, false), (3, false), (3, true)] (alS a)).out? = some ([(a == 159, false), (a == 158, false), (a == 39, false), (a == 245, false), (a == 249, false), (a == 248, false), (a == 251, true)], .tuple ⟨[.int .i64 26, .int .i64 0, .int .i64 0]⟩) := by kernel_rfl
theorem alt7 (a : Int) : (Ly.run env.bare 600 [(3, false), (3, false), (3, false), (3, false), (3, false), (3, false), (3, false), (3, true)] (alS a)).out? = some ([(a == 159, false), (a == 158, false), (a == 39, false), (a == 245, false), (a == 249, false), (a == 248, false), (a == 251, false), (a == 250, true)], .tuple ⟨[.int .i64 27, .int .i64 0, .int .i64 0]⟩) := by kernel_rfl
theorem alt8 (a : Int) : (Ly.run env.bare 600 [(3, false), (3, false), (3, false), (3, false), (3, false), (3, false), (3, false), (3, false), (3, true)] (alS a)).out? = some ([(a == 159, false), (a == 158, false), (a == 39, false), (a == 245, false), (a == 249, false), (a == 248, false), (a == 251, false), (a == 250, false), (a == 244, true)], .tuple ⟨[.int .i64 28, .int .i64 0, .int .i64 0]⟩) := by kernel_rfl
theorem alt9 (a : Int) : (Ly.run env.bare 600 [(3, false), (3, false), (3, false), (3, false), (3, false), (3, false), (3, false), (3, false), (3, false), (3, true)] (alS a)).out? = some ([(a == 159, false), (a == 158, false), (a == 39, false), (a == 245, false), (a == 249, false), (a == 248, false), (a == 251, false), (a == 250, false), (a == 244, false), (a == 144, true)], .tuple ⟨[.int .i64 29, .int .i64 0, .int .i64 0]⟩) := by kernel_rfl
theorem alt10 (a : Int) : (Ly.run env.bare 600 [(3, false), (3, false), (3, false), (3, false), (3, false), (3, false), (3, false), (3, false), (3, false), (3, false)] (alS a)).out? = some ([(a == 159, false), (a == 158, false), (a == 39, false), (a == 245, false), (a == 249, false), (a == 248, false), (a == 251, false), (a == 250, false), (a == 244, false), (a == 144, false)], .tuple ⟨[.int .i64 19, .int .i64 0, .int .i64 0]⟩) := by kernel_rfl
def alT (a : Int) : Value := bif a == 160 then .tuple ⟨[.int .i64 1, .int .i64 1, .int .i64 19]⟩ else bif a == 162 then .tuple ⟨[.int .i64 1, .int .i64 19, .int .i64 1]⟩ else bif a == 228 then .tuple ⟨[.int .i64 30, .int .i64 1, .int .i64 20]⟩ else bif a == 230 then .tuple ⟨[.int .i64 31, .int .i64 20, .int .i64 1]⟩ else bif a == 233 then .tuple ⟨[.int .i64 32, .int .i64 20, .int .i64 0]⟩ else bif a == 235 then .tuple ⟨[.int .i64 33, .int .i64 20, .int .i64 0]⟩ else bif a == 232 then .tuple ⟨[.int .i64 34, .int .i64 20, .int .i64 0]⟩ else bif a == 195 then .tuple ⟨[.int .i64 35, .int .i64 0, .int .i64 0]⟩ else bif a == 159 then .tuple ⟨[.int .i64 20, .int .i64 0, .int .i64 0]⟩ else bif a == 158 then .tuple ⟨[.int .i64 21, .int .i64 0, .int .i64 0]⟩ else bif a == 39 then .tuple ⟨[.int .i64 22, .int .i64 0, .int .i64 0]⟩ else bif a == 245 then .tuple ⟨[.int .i64 23, .int .i64 0, .int .i64 0]⟩ else bif a == 249 then .tuple ⟨[.int .i64 24, .int .i64 0, .int .i64 0]⟩ else bif a == 248 then .tuple ⟨[.int .i64 25, .int .i64 0, .int .i64 0]⟩ else bif a == 251 then .tuple ⟨[.int .i64 26, .int .i64 0, .int .i64 0]⟩ else bif a == 250 then .tuple ⟨[.int .i64 27, .int .i64 0, .int .i64 0]⟩ else bif a == 244 then .tuple ⟨[.int .i64 28, .int .i64 0, .int .i64 0]⟩ else bif a == 144 then .tuple ⟨[.int .i64 29, .int .i64 0, .int .i64 0]⟩ else .tuple ⟨[.int .i64 19, .int .i64 0, .int .i64 0]⟩
theorem alT_plain (a : Int) : plain (alT a) = true := by
  unfold alT
  repeat' (first | rfl | (rw [Bool.cond_eq_ite]; split))
theorem al_call (a : Int) : LCalls Try.prog 68 [.int .u8 a] H0 (fun u _ => u = alT a) := by
  unfold alT
  cases h0 : (a == 160) with
  | true => simp only [cond_true]; exact LCalls_trust (Env.bare_ok envOk) 600 _ alG (by kernel_rfl) (al0 a) (by simp [trusted, h0])
  | false =>
  simp only [cond_false]
  cases h1 : (a == 162) with
  | true => simp only [cond_true]; exact LCalls_trust (Env.bare_ok envOk) 600 _ alG (by kernel_rfl) (al1 a) (by simp [trusted, h0, h1])
  | false =>
  simp only [cond_false]
  cases h2 : (a == 228) with
  | true => simp only [cond_true]; exact LCalls_trust (Env.bare_ok envOk) 600 _ alG (by kernel_rfl) (al2 a) (by simp [trusted, h0, h1, h2])
  | false =>
  simp only [cond_false]
  cases h3 : (a == 230) with
  | true => simp only [cond_true]; exact LCalls_trust (Env.bare_ok envOk) 600 _ alG (by kernel_rfl) (al3 a) (by simp [trusted, h0, h1, h2, h3])
  | false =>
  simp only [cond_false]
  cases h4 : (a == 233) with
  | true => simp only [cond_true]; exact LCalls_trust (Env.bare_ok envOk) 600 _ alG (by kernel_rfl) (al4 a) (by simp [trusted, h0, h1, h2, h3, h4])
  | false =>
  simp only [cond_false]
  cases h5 : (a == 235) with
  | true => simp only [cond_true]; exact LCalls_trust (Env.bare_ok envOk) 600 _ alG (by kernel_rfl) (al5 a) (by simp [trusted, h0, h1, h2, h3, h4, h5])
  | false =>
  simp only [cond_false]
  cases h6 : (a == 232) with
  | true => simp only [cond_true]; exact LCalls_trust (Env.bare_ok envOk) 600 _ alG (by kernel_rfl) (al6 a) (by simp [trusted, h0, h1, h2, h3, h4, h5, h6])
  | false =>
  simp only [cond_false]
  cases h7 : (a == 195) with
  | true => simp only [cond_true]; exact LCalls_trust (Env.bare_ok envOk) 600 _ alG (by kernel_rfl) (al7 a) (by simp [trusted, h0, h1, h2, h3, h4, h5, h6, h7])
  | false =>
  simp only [cond_false]
  refine LCalls_of (Env.bare_ok envOk) alG (by kernel_rfl) (MWp.halted (Env.bare_ok envOk) [0, 22] 65 _ (alJ a) (by simp [trusted, h0, h1, h2, h3, h4, h5, h6, h7]) ?_)
  refine MWp.conv (t := 5) (cs := alCs) envOk (alC a) (by kernel_rfl) rfl (by show 2 < 2147483000; omega) (by kernel_rfl) (by rfl) (by omega) (by show 10 ≤ 10; omega) (by unfold capU; omega) ?_
  show MWp Try.prog (alS a) _
  cases k0 : (a == 159) with
  | true => simp only [cond_true]; exact MWp.out (Env.bare_ok envOk) 600 _ (alt0 a) (by simp [trusted, k0]) (fun _ => rfl)
  | false =>
  simp only [cond_false]
  cases k1 : (a == 158) with
  | true => simp only [cond_true]; exact MWp.out (Env.bare_ok envOk) 600 _ (alt1 a) (by simp [trusted, k0, k1]) (fun _ => rfl)
  | false =>
  simp only [cond_false]
  cases k2 : (a == 39) with
  | true => simp only [cond_true]; exact MWp.out (Env.bare_ok envOk) 600 _ (alt2 a) (by simp [trusted, k0, k1, k2]) (fun _ => rfl)
  | false =>
  simp only [cond_false]
  cases k3 : (a == 245) with
  | true => simp only [cond_true]; exact MWp.out (Env.bare_ok envOk) 600 _ (alt3 a) (by simp [trusted, k0, k1, k2, k3]) (fun _ => rfl)
  | false =>
  simp only [cond_false]
  cases k4 : (a == 249) with
  | true => simp only [cond_true]; exact MWp.out (Env.bare_ok envOk) 600 _ (alt4 a) (by simp [trusted, k0, k1, k2, k3, k4]) (fun _ => rfl)
  | false =>
  simp only [cond_false]
  cases k5 : (a == 248) with
  | true => simp only [cond_true]; exact MWp.out (Env.bare_ok envOk) 600 _ (alt5 a) (by simp [trusted, k0, k1, k2, k3, k4, k5]) (fun _ => rfl)
  | false =>
  simp only [cond_false]
  cases k6 : (a == 251) with
  | true => simp only [cond_true]; exact MWp.out (Env.bare_ok envOk) 600 _ (alt6 a) (by simp [trusted, k0, k1, k2, k3, k4, k5, k6]) (fun _ => rfl)
  | false =>
  simp only [cond_false]
  cases k7 : (a == 250) with
  | true => simp only [cond_true]; exact MWp.out (Env.bare_ok envOk) 600 _ (alt7 a) (by simp [trusted, k0, k1, k2, k3, k4, k5, k6, k7]) (fun _ => rfl)
  | false =>
  simp only [cond_false]
  cases k8 : (a == 244) with
  | true => simp only [cond_true]; exact MWp.out (Env.bare_ok envOk) 600 _ (alt8 a) (by simp [trusted, k0, k1, k2, k3, k4, k5, k6, k7, k8]) (fun _ => rfl)
  | false =>
  simp only [cond_false]
  cases k9 : (a == 144) with
  | true => simp only [cond_true]; exact MWp.out (Env.bare_ok envOk) 600 _ (alt9 a) (by simp [trusted, k0, k1, k2, k3, k4, k5, k6, k7, k8, k9]) (fun _ => rfl)
  | false =>
  simp only [cond_false]
  exact MWp.out (Env.bare_ok envOk) 600 _ (alt10 a) (by simp [trusted, k0, k1, k2, k3, k4, k5, k6, k7, k8, k9]) (fun _ => rfl)
def aloneR (l : List Value) : Option (Bool × Value) := match l with
  | [.int .u8 a] => some (true, alT a)
  | _ => none
theorem alone_ans : Answers Try.prog 68 aloneR := by
  intro args g v h hg
  unfold aloneR at h
  split at h
  · rename_i a
    simp only [Option.some.injEq, Prod.mk.injEq] at h
    obtain ⟨rfl, rfl⟩ := h
    exact ⟨by simp [plain, plainL], alT_plain a, fun w => calls_plain (by simp [VRL, VR]) (fun ρ v' h => plain_eq (alT_plain a) h) (al_call a) w⟩
  · cases h
end Go.Proofs.Ytnknopebjdgdjaa
namespace Go.Ly
open Go.RowKit
def RO.fin? : RO → Option (List (Bool × Bool) × Value × Heap)
  | .ok t (.done v H) => some (t, v, H)
  | _ => none
theorem MWp.fin {P : Program} {C : Ctx} {Q : Value → Heap → Prop} (hC : C.Ok P) {S : St} {t : List (Bool × Bool)} {v : Value} {H : Heap} (n : Nat) (p : Path) (h : (run C n p S).fin? = some (t, v, H)) (htr : trusted t) (hq : Q v H) : MWp P S Q := by
  cases hr : run C n p S with
  | no => rw [hr] at h; cases h
  | ok t' l =>
    cases l with
    | halt S' => rw [hr] at h; cases h
    | done v' H' =>
      rw [hr] at h
      simp only [RO.fin?, Option.some.injEq, Prod.mk.injEq] at h
      obtain ⟨rfl, rfl, rfl⟩ := h
      exact run_sound hC n p S _ _ hr htr hq
end Go.Ly
namespace Go.Proofs.Ytnknopebjdgdjaa
open Go Go.Ly Go.RowKit
def ctx4a : Ctx := ctx4.with 68 aloneR
theorem ctx4a_ok : ctx4a.Ok Try.prog := ctx4_ok.with alone_ans
def ctxM : Ctx := haltAt ctx4a 17
theorem ctxM_ok : ctxM.Ok Try.prog := haltAt_ok ctx4a_ok 17
def rd23 : St := Ly.start Try.f23 [] H0
def k23 : List KI := ((Ly.run ctxM 100 [] (Ly.start Try.f23 [ptr 0, .int .i64 1] H0)).st rd23).top.k
theorem gR23 : ctxM.fn.get 23 = some Try.f23 := by kernel_rfl
end Go.Proofs.Ytnknopebjdgdjaa
end
