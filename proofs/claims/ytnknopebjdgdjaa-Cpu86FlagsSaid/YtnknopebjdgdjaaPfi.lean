/- Part 9 of the texts that the law needs, laid together. By program (pack.py). -/
import Derived.Test.YtnknopebjdgdjaaPfh
import Derived.KernelRfl
set_option linter.unusedVariables false
set_option linter.unusedSimpArgs false
noncomputable section
namespace Go.Proofs.Ytnknopebjdgdjaa
open Go Go.Ly Go.RowKit
def f8v (n : Int) : Int := bits BinOp.and IntKind.u16 (IntKind.u16.wrap n) 255
def f8s (n : Int) : Bool := bits BinOp.and IntKind.u16 (f8v n) 128 != 0
def f8z (n : Int) : Bool := f8v n == 0
def f8p (n : Int) : Bool := par (IntKind.u8.wrap (f8v n))
def f8c (n : Int) : Bool := bits BinOp.and IntKind.u32 (n.fdiv 256) 1 == 1
def f16v (n : Int) : Int := bits BinOp.and IntKind.u16 (IntKind.u16.wrap n) 65535
def f16s (n : Int) : Bool := bits BinOp.and IntKind.u16 (f16v n) 32768 != 0
def f16z (n : Int) : Bool := f16v n == 0
def f16p (n : Int) : Bool := par (IntKind.u8.wrap (f16v n))
def f16c (n : Int) : Bool := bits BinOp.and IntKind.u32 (n.fdiv 65536) 1 == 1
def fl8V (n : Int) (x : Bool) : Value := .tuple ⟨[.int .u16 (f8v n), .agg ⟨[.bool (f8s n), .bool (f8z n), .bool x, .bool (f8p n), .bool (f8c n)]⟩]⟩
def fl16V (n : Int) (x : Bool) : Value := .tuple ⟨[.int .u16 (f16v n), .agg ⟨[.bool (f16s n), .bool (f16z n), .bool x, .bool (f16p n), .bool (f16c n)]⟩]⟩
def flagsQ (l : List Value) : Option (Bool × Value) := match l with
  | [.int .u64 w, .int .u32 n, .bool x] => some (w == 8 || w == 16, bif w == 8 then fl8V n x else fl16V n x)
  | _ => none
theorem inb_w8 (n : Int) : inb (IntKind.u8.wrap n) = true := (inb_iff _).2 (by rw [IntKind.wrap_u8']; omega)
theorem flq_ans : Answers Try.prog 80 flagsQ := by
  intro args g v h hg
  unfold flagsQ at h
  split at h
  · rename_i w n x
    simp only [Option.some.injEq, Prod.mk.injEq] at h
    obtain ⟨rfl, rfl⟩ := h
    simp only [Bool.or_eq_true, beq_iff_eq] at hg
    rcases hg with rfl | rfl
    · refine ⟨by simp [plain, plainL], by simp [plain, plainL, fl8V], fun w => ?_⟩
      exact calls_trust wok 600 _ gF80 (by kernel_rfl) (by simp [plain, plainL]) (by simp [plain, plainL, fl8V]) (f8R n x) ⟨inb_w8 _, trivial⟩ w
    · refine ⟨by simp [plain, plainL], by simp [plain, plainL, fl16V], fun w => ?_⟩
      exact calls_trust wok 600 _ gF80 (by kernel_rfl) (by simp [plain, plainL]) (by simp [plain, plainL, fl16V]) (f16R n x) ⟨inb_w8 _, trivial⟩ w
  · cases h
def zctx : Ctx := xctx.with 80 flagsQ
theorem zok : zctx.Ok Try.prog := xok.with flq_ans
def qtx1 : Ctx := zctx |>.withC 43 (conTree zctx 300 43) |>.withC 73 (conTree zctx 300 73) |>.withC 13 (conTree zctx 300 13) |>.withC 82 (conTree zctx 300 82) |>.withC 81 (conTree zctx 300 81) |>.withC 72 (conTree zctx 300 72)
theorem qtx1_ok : qtx1.Ok Try.prog := ((((((zok.byCon zok 300 43).byCon zok 300 73).byCon zok 300 13).byCon zok 300 82).byCon zok 300 81).byCon zok 300 72)
def l13 (m : Mc) : List Value := [.int .u16 m.r0, .int .u16 m.r1, .int .u16 m.r2, .int .u16 m.r3, .int .u16 m.r4, .int .u16 m.r5, .int .u16 m.r6, .int .u16 m.r7, .bool m.fs, .bool m.fz, .bool m.fx, .bool m.fp, .bool m.fc]
def g13 (l : List Value) : Nat → Nat → Value := fun _ j => (l[j]?).getD undef
def sumA (k a b w : Int) : List Value := [.pointer (some ⟨0, 0, some 0⟩), .int .i64 k, .int .u16 a, .int .u16 b, .int .u64 w]
def sumR (p : Path) (m : Mc) (k a b w : Int) : RO := Ly.run qtx1 900 p (Ly.start Try.f52 (sumA k a b w) (mkH [some (.arg 13 (g13 (l13 m)) 1)]))
end Go.Proofs.Ytnknopebjdgdjaa
namespace Go.Proofs.Ytnknopebjdgdjaa
open Go Go.Ly Go.RowKit
def hdAl (op : Int) : Isa.Hd := bif op == 20 then ⟨1, 159, 0, 0⟩ else bif op == 21 then ⟨1, 158, 0, 0⟩ else bif op == 22 then ⟨1, 39, 0, 0⟩ else bif op == 23 then ⟨1, 245, 0, 0⟩ else bif op == 24 then ⟨1, 249, 0, 0⟩ else bif op == 25 then ⟨1, 248, 0, 0⟩ else bif op == 26 then ⟨1, 251, 0, 0⟩ else bif op == 27 then ⟨1, 250, 0, 0⟩ else bif op == 28 then ⟨1, 244, 0, 0⟩ else ⟨1, 144, 0, 0⟩
def ha6 (d s : Int) : Isa.Hd := bif (decide (1 ≤ d) == true) then bif (decide (d ≤ 8) == true) then bif (decide (1 ≤ s) == true) then bif (decide (s ≤ 8)) then ⟨2, 136, (IntKind.u8.wrap (IntKind.i64.wrap (IntKind.i64.wrap (192 + IntKind.i64.wrap (IntKind.i64.wrap (s - 1) * 8)) + IntKind.i64.wrap (d - 1)))), 0⟩ else bif (s == 17) then ⟨2, 138, (IntKind.u8.wrap (IntKind.i64.wrap (IntKind.i64.wrap (8 * IntKind.i64.wrap (d - 1)) + 7))), 0⟩ else bif ((d == 1) == true) then bif (s == 18) then ⟨2, 138, 4, 0⟩ else bif (s == 20) then ⟨1, (IntKind.u8.wrap (IntKind.i64.wrap (IntKind.i64.wrap (176 + d) - 1))), 0, 1⟩ else bif (s == 19) then ⟨1, 160, 0, 2⟩ else Isa.hdN else bif (s == 20) then ⟨1, (IntKind.u8.wrap (IntKind.i64.wrap (IntKind.i64.wrap (176 + d) - 1))), 0, 1⟩ else Isa.hdN else bif ((d == 1) == true) then Isa.hdN else Isa.hdN else bif ((d == 17) == true) then bif (decide (1 ≤ s) == true) then bif (decide (s ≤ 8)) then ⟨2, 136, (IntKind.u8.wrap (IntKind.i64.wrap (IntKind.i64.wrap (8 * IntKind.i64.wrap (s - 1)) + 7))), 0⟩ else bif (s == 20) then ⟨2, 198, 7, 1⟩ else Isa.hdN else Isa.hdN else bif ((d == 18) == true) then bif (s == 1) then ⟨2, 136, 4, 0⟩ else Isa.hdN else bif (decide (d ≤ 16) == true) then bif (s == 20) then ⟨1, (IntKind.u8.wrap (IntKind.i64.wrap (IntKind.i64.wrap (184 + d) - 9))), 0, 2⟩ else bif ((d != 9) == true) then bif (s == 19) then ⟨2, 139, (IntKind.u8.wrap (IntKind.i64.wrap (IntKind.i64.wrap (8 * IntKind.i64.wrap (d - 9)) + 6))), 2⟩ else bif (decide (9 ≤ s) == true) then bif (decide (s ≤ 16)) then ⟨2, 137, (IntKind.u8.wrap (IntKind.i64.wrap (IntKind.i64.wrap (192 + IntKind.i64.wrap (IntKind.i64.wrap (s - 9) * 8)) + IntKind.i64.wrap (d - 9)))), 0⟩ else Isa.hdN else Isa.hdN else bif (decide (9 ≤ s) == true) then bif (decide (s ≤ 16)) then ⟨2, 137, (IntKind.u8.wrap (IntKind.i64.wrap (IntKind.i64.wrap (192 + IntKind.i64.wrap (IntKind.i64.wrap (s - 9) * 8)) + IntKind.i64.wrap (d - 9)))), 0⟩ else Isa.hdN else Isa.hdN else bif ((d == 19) == true) then bif (s == 1) then ⟨1, 162, 0, 2⟩ else bif (decide (9 ≤ s) == true) then bif (decide (s ≤ 16) == true) then bif (s != 9) then ⟨2, 137, (IntKind.u8.wrap (IntKind.i64.wrap (IntKind.i64.wrap (8 * IntKind.i64.wrap (s - 9)) + 6))), 2⟩ else Isa.hdN else Isa.hdN else Isa.hdN else Isa.hdN else Isa.hdN
def hb6 (op d s : Int) : Isa.Hd := bif (decide (1 ≤ d) == true) then bif (decide (d ≤ 8) == true) then bif (decide (1 ≤ s) == true) then bif (decide (s ≤ 8)) then ⟨2, (IntKind.u8.wrap (IntKind.i64.wrap (8 * IntKind.i64.wrap (op - 2)))), (IntKind.u8.wrap (IntKind.i64.wrap (IntKind.i64.wrap (192 + IntKind.i64.wrap (IntKind.i64.wrap (s - 1) * 8)) + IntKind.i64.wrap (d - 1)))), 0⟩ else bif (s == 17) then ⟨2, (IntKind.u8.wrap (IntKind.i64.wrap (IntKind.i64.wrap (8 * IntKind.i64.wrap (op - 2)) + 2))), (IntKind.u8.wrap (IntKind.i64.wrap (IntKind.i64.wrap (8 * IntKind.i64.wrap (d - 1)) + 7))), 0⟩ else bif ((d == 1) == true) then bif (s == 20) then ⟨1, (IntKind.u8.wrap (IntKind.i64.wrap (IntKind.i64.wrap (8 * IntKind.i64.wrap (op - 2)) + 4))), 0, 1⟩ else Isa.hdN else bif (s == 20) then ⟨2, 128, (IntKind.u8.wrap (IntKind.i64.wrap (IntKind.i64.wrap (192 + IntKind.i64.wrap (IntKind.i64.wrap (op - 2) * 8)) + IntKind.i64.wrap (d - 1)))), 1⟩ else Isa.hdN else bif ((d == 1) == true) then Isa.hdN else Isa.hdN else bif (decide (d ≤ 16) == true) then bif (decide (9 ≤ s) == true) then bif (decide (s ≤ 16)) then ⟨2, (IntKind.u8.wrap (IntKind.i64.wrap (IntKind.i64.wrap (8 * IntKind.i64.wrap (op - 2)) + 1))), (IntKind.u8.wrap (IntKind.i64.wrap (IntKind.i64.wrap (192 + IntKind.i64.wrap (IntKind.i64.wrap (s - 9) * 8)) + IntKind.i64.wrap (d - 9)))), 0⟩ else Isa.hdN else Isa.hdN else Isa.hdN else Isa.hdN
def hc6 (op d s : Int) : Isa.Hd := bif ((s != 0) == false) then bif (decide (op ≤ 11) == true) then bif (decide (1 ≤ d) == true) then bif (decide (d ≤ 8)) then ⟨2, 254, (IntKind.u8.wrap (IntKind.i64.wrap (IntKind.i64.wrap (192 + IntKind.i64.wrap (IntKind.i64.wrap (op - 10) * 8)) + IntKind.i64.wrap (d - 1)))), 0⟩ else bif (d == 17) then ⟨2, 254, (IntKind.u8.wrap (IntKind.i64.wrap (IntKind.i64.wrap (8 * IntKind.i64.wrap (op - 10)) + 7))), 0⟩ else bif (decide (d ≤ 16)) then ⟨1, (IntKind.u8.wrap (IntKind.i64.wrap (IntKind.i64.wrap (IntKind.i64.wrap (64 + IntKind.i64.wrap (8 * IntKind.i64.wrap (op - 10))) + d) - 9))), 0, 0⟩ else Isa.hdN else Isa.hdN else bif (decide (op ≤ 15) == true) then bif (decide (1 ≤ d) == true) then bif (decide (d ≤ 8)) then ⟨2, 208, (IntKind.u8.wrap (IntKind.i64.wrap (IntKind.i64.wrap (192 + IntKind.i64.wrap (IntKind.i64.wrap (op - 12) * 8)) + IntKind.i64.wrap (d - 1)))), 0⟩ else bif (decide (d ≤ 16)) then ⟨2, 209, (IntKind.u8.wrap (IntKind.i64.wrap (IntKind.i64.wrap (192 + IntKind.i64.wrap (IntKind.i64.wrap (op - 12) * 8)) + IntKind.i64.wrap (d - 9)))), 0⟩ else Isa.hdN else Isa.hdN else bif ((op == 16) == true) then bif (decide (1 ≤ d) == true) then bif (decide (d ≤ 8)) then ⟨2, 246, (IntKind.u8.wrap (IntKind.i64.wrap (208 + IntKind.i64.wrap (d - 1)))), 0⟩ else Isa.hdN else Isa.hdN else bif (decide (9 ≤ d) == true) then bif (decide (d ≤ 16)) then ⟨1, (IntKind.u8.wrap (IntKind.i64.wrap (IntKind.i64.wrap (IntKind.i64.wrap (80 + IntKind.i64.wrap (8 * IntKind.i64.wrap (op - 18))) + d) - 9))), 0, 0⟩ else Isa.hdN else Isa.hdN else Isa.hdN
def hd_6 (d s : Int) : Isa.Hd := bif (decide (1 ≤ d) == true) then bif (decide (d ≤ 8) == true) then bif (decide (1 ≤ s) == true) then bif (decide (s ≤ 8)) then ⟨2, 134, (IntKind.u8.wrap (IntKind.i64.wrap (IntKind.i64.wrap (192 + IntKind.i64.wrap (IntKind.i64.wrap (s - 1) * 8)) + IntKind.i64.wrap (d - 1)))), 0⟩ else Isa.hdN else bif ((s != 0) == false) then Isa.hdN else Isa.hdN else bif (decide (d ≤ 16) == true) then bif (decide (9 ≤ s) == true) then bif (decide (s ≤ 16) == true) then bif ((d != 9) == true) then bif (s != 9) then ⟨2, 135, (IntKind.u8.wrap (IntKind.i64.wrap (IntKind.i64.wrap (192 + IntKind.i64.wrap (IntKind.i64.wrap (s - 9) * 8)) + IntKind.i64.wrap (d - 9)))), 0⟩ else Isa.hdN else Isa.hdN else Isa.hdN else bif ((s != 0) == false) then Isa.hdN else Isa.hdN else bif ((s != 0) == false) then Isa.hdN else Isa.hdN else bif ((s != 0) == false) then Isa.hdN else Isa.hdN
def he6 (op d s : Int) : Isa.Hd := bif ((op == 30) == true) then bif ((d == 1) == true) then bif (s == 20) then ⟨1, 228, 0, 1⟩ else bif ((s != 0) == false) then Isa.hdN else Isa.hdN else bif ((s != 0) == false) then Isa.hdN else Isa.hdN else bif ((op == 31) == true) then bif ((d == 20) == true) then bif (s == 1) then ⟨1, 230, 0, 1⟩ else bif ((s != 0) == false) then Isa.hdN else Isa.hdN else bif ((s != 0) == false) then Isa.hdN else Isa.hdN else bif ((s != 0) == false) then bif (decide (op ≤ 29) == true) then bif (d == 0) then (hdAl op) else Isa.hdN else bif ((op == 32) == true) then bif (d == 20) then ⟨1, 233, 0, 2⟩ else Isa.hdN else bif ((op == 33) == true) then bif (d == 20) then ⟨1, 235, 0, 3⟩ else Isa.hdN else bif ((op == 34) == true) then bif (d == 20) then ⟨1, 232, 0, 2⟩ else Isa.hdN else bif ((op == 35) == true) then bif (d == 0) then ⟨1, 195, 0, 0⟩ else Isa.hdN else bif (decide (42 ≤ op) == true) then bif (decide (op ≤ 45) == false) then bif (decide (48 ≤ op) == true) then bif (decide (op ≤ 51) == true) then bif (d == 20) then ⟨1, (IntKind.u8.wrap (IntKind.i64.wrap (IntKind.i64.wrap (112 + op) - 40))), 0, 3⟩ else Isa.hdN else Isa.hdN else Isa.hdN else bif (d == 20) then ⟨1, (IntKind.u8.wrap (IntKind.i64.wrap (IntKind.i64.wrap (112 + op) - 40))), 0, 3⟩ else Isa.hdN else Isa.hdN else Isa.hdN
def hf6 (op d s : Int) : Isa.Hd := bif ((s != 0) == false) then Isa.hdN else Isa.hdN
def hd6 (op d s : Int) : Isa.Hd := bif decide (op ≤ 0) then hf6 op d s else bif op == 1 then ha6 d s else bif decide (op ≤ 9) then hb6 op d s else bif op == 17 then hd_6 d s else bif decide (op ≤ 19) then hc6 op d s else he6 op d s
def nilTp : Value := .tuple ⟨[.slice none 0 0, .int .i64 0]⟩
def HdC (op d s : Int) (h : Isa.Hd) : Prop := (h.n = 0 ∧ LCalls Try.prog 36 [.int .i64 op, .int .i64 d, .int .i64 s] H0 (fun u _ => u = nilTp)) ∨ (h.n = 1 ∧ ∃ r, LCalls Try.prog 36 [.int .i64 op, .int .i64 d, .int .i64 s] H0 (fun u K => u = .tuple ⟨[.slice (some ⟨r, 0, none⟩) 1 1, .int .i64 h.t]⟩ ∧ K.get r = some (.cells [.int .u8 h.b0] 5) ∧ K.lock = 0)) ∨ (h.n = 2 ∧ ∃ r, LCalls Try.prog 36 [.int .i64 op, .int .i64 d, .int .i64 s] H0 (fun u K => u = .tuple ⟨[.slice (some ⟨r, 0, none⟩) 2 2, .int .i64 h.t]⟩ ∧ K.get r = some (.cells [.int .u8 h.b0, .int .u8 h.b1] 5) ∧ K.lock = 0))
def hdLeaf6 (v : Value) (K : Heap) : Option Isa.Hd :=
  match K.lock, v with
  | 0, .tuple ⟨[.slice none 0 0, .int .i64 0]⟩ => some Isa.hdN
  | 0, .tuple ⟨[.slice (some ⟨r, 0, none⟩) 1 1, .int .i64 t]⟩ => match K.get r with
    | some (.cells [.int .u8 x] 5) => some ⟨1, x, 0, t⟩
    | _ => none
  | 0, .tuple ⟨[.slice (some ⟨r, 0, none⟩) 2 2, .int .i64 t]⟩ => match K.get r with
    | some (.cells [.int .u8 x, .int .u8 y] 5) => some ⟨2, x, y, t⟩
    | _ => none
  | _, _ => none
abbrev u2 (x y t : Int) : RT Isa.Hd := .l ⟨2, x, y, t⟩
abbrev u1 (x t : Int) : RT Isa.Hd := .l ⟨1, x, 0, t⟩
abbrev u0 : RT Isa.Hd := .l Isa.hdN
theorem gHd6 : zctx.fn.get 36 = some Try.f36 := by kernel_rfl
abbrev hs6 (op d s : Int) : St := Ly.start Try.f36 [.int .i64 op, .int .i64 d, .int .i64 s] H0
theorem hdc_of {op d s : Int} {q : Isa.Hd} {T : RT Isa.Hd} (h : treeG zctx hdLeaf6 3000 T.cnt T (hs6 op d s) = T) (hs : T.sat (fun a => q = a)) : HdC op d s q := by
  obtain ⟨v, K, a, h1, rfl, h3⟩ := MWp.treeG zok h hs
  have h4 : LCalls Try.prog 36 [.int .i64 op, .int .i64 d, .int .i64 s] H0 (fun u K' => u = v ∧ K' = K) := LCalls_of zok gHd6 (by kernel_rfl) h3
  unfold hdLeaf6 at h1
  split at h1
  · injection h1 with h1
    subst h1
    exact .inl ⟨rfl, h4.mono (fun u K h => h.1)⟩
  · rename_i r t hl
    split at h1
    · rename_i x hx
      injection h1 with h1
      subst h1
      exact .inr (.inl ⟨rfl, r, h4.mono (by rintro u K' ⟨rfl, rfl⟩; exact ⟨rfl, hx, hl⟩)⟩)
    · cases h1
  · rename_i r t hl
    split at h1
    · rename_i x y hx
      injection h1 with h1
      subst h1
      exact .inr (.inr ⟨rfl, r, h4.mono (by rintro u K' ⟨rfl, rfl⟩; exact ⟨rfl, hx, hl⟩)⟩)
    · cases h1
  · cases h1
end Go.Proofs.Ytnknopebjdgdjaa
namespace Go.Proofs.Ytnknopebjdgdjaa
open Go Go.Ly Go.RowKit
def haT (d s : Int) : RT Isa.Hd := .b 1 (decide (1 ≤ d) == true) (.b 2 (decide (d ≤ 8) == true) (.b 1 (decide (1 ≤ s) == true) (.b 3 (decide (s ≤ 8)) (u2 136 (IntKind.u8.wrap (IntKind.i64.wrap (IntKind.i64.wrap (192 + IntKind.i64.wrap (IntKind.i64.wrap (s - 1) * 8)) + IntKind.i64.wrap (d - 1)))) 0) (.t 0 (decide (1 ≤ d) == true) (.t 2 (decide (d ≤ 8) == true) (.b 2 (s == 17) (u2 138 (IntKind.u8.wrap (IntKind.i64.wrap (IntKind.i64.wrap (8 * IntKind.i64.wrap (d - 1)) + 7))) 0) (.f 0 ((d == 17) == true) (.b 3 ((d == 1) == true) (.b 2 (s == 18) (u2 138 4 0) (.f 0 ((d == 18) == true) (.t 3 (decide (1 ≤ d) == true) (.t 2 (decide (d ≤ 8) == true) (.b 2 (s == 20) (u1 (IntKind.u8.wrap (IntKind.i64.wrap (IntKind.i64.wrap (176 + d) - 1))) 1) (.f 0 (decide (9 ≤ d) == true) (.t 6 ((d == 1) == true) (.b 2 (s == 19) (u1 160 2) (.f 0 ((d == 19) == true) (.f 3 (decide (9 ≤ d) == true) (.f 9 ((d == 19) == true) (.f 6 (decide (9 ≤ d) == true) (.f 6 ((d == 17) == true) u0))))))))))))) (.f 3 ((d == 18) == true) (.t 3 (decide (1 ≤ d) == true) (.t 2 (decide (d ≤ 8) == true) (.b 2 (s == 20) (u1 (IntKind.u8.wrap (IntKind.i64.wrap (IntKind.i64.wrap (176 + d) - 1))) 1) (.f 0 (decide (9 ≤ d) == true) (.f 6 ((d == 1) == true) (.f 3 ((d == 19) == true) (.f 3 (decide (9 ≤ d) == true) (.f 9 ((d == 19) == true) (.f 6 (decide (9 ≤ d) == true) (.f 6 ((d == 17) == true) u0))))))))))))))))) (.t 4 (decide (1 ≤ d) == true) (.t 2 (decide (d ≤ 8) == true) (.f 2 (s == 17) (.f 0 ((d == 17) == true) (.b 3 ((d == 1) == true) (.f 2 (s == 18) (.f 0 ((d == 18) == true) (.t 3 (decide (1 ≤ d) == true) (.t 2 (decide (d ≤ 8) == true) (.f 2 (s == 20) (.f 0 (decide (9 ≤ d) == true) (.t 6 ((d == 1) == true) (.f 2 (s == 19) (.f 0 ((d == 19) == true) (.f 3 (decide (9 ≤ d) == true) (.f 9 ((d == 19) == true) (.f 6 (decide (9 ≤ d) == true) (.f 6 ((d == 17) == true) u0))))))))))))) (.f 3 ((d == 18) == true) (.t 3 (decide (1 ≤ d) == true) (.t 2 (decide (d ≤ 8) == true) (.f 2 (s == 20) (.f 0 (decide (9 ≤ d) == true) (.f 6 ((d == 1) == true) (.f 3 ((d == 19) == true) (.f 3 (decide (9 ≤ d) == true) (.f 9 ((d == 19) == true) (.f 6 (decide (9 ≤ d) == true) (.f 6 ((d == 17) == true) u0))))))))))))))))) (.t 3 (decide (1 ≤ d) == true) (.f 2 (decide (d ≤ 8) == true) (.b 3 ((d == 17) == true) (.b 1 (decide (1 ≤ s) == true) (.b 3 (decide (s ≤ 8)) (u2 136 (IntKind.u8.wrap (IntKind.i64.wrap (IntKind.i64.wrap (8 * IntKind.i64.wrap (s - 1)) + 7))) 0) (.f 0 ((d == 1) == true) (.f 3 ((d == 18) == true) (.t 3 (decide (1 ≤ d) == true) (.f 2 (decide (d ≤ 8) == true) (.t 3 (decide (9 ≤ d) == true) (.f 2 (decide (d ≤ 16) == true) (.f 3 ((d == 1) == true) (.f 3 ((d == 19) == true) (.t 3 (decide (9 ≤ d) == true) (.f 2 (decide (d ≤ 16) == true) (.f 6 ((d == 19) == true) (.t 6 (decide (9 ≤ d) == true) (.f 2 (decide (d ≤ 16) == true) (.t 3 ((d == 17) == true) (.b 2 (s == 20) (u2 198 7 1) u0)))))))))))))))) (.f 4 ((d == 1) == true) (.f 3 ((d == 18) == true) (.t 3 (decide (1 ≤ d) == true) (.f 2 (decide (d ≤ 8) == true) (.t 3 (decide (9 ≤ d) == true) (.f 2 (decide (d ≤ 16) == true) (.f 3 ((d == 1) == true) (.f 3 ((d == 19) == true) (.t 3 (decide (9 ≤ d) == true) (.f 2 (decide (d ≤ 16) == true) (.f 6 ((d == 19) == true) (.t 6 (decide (9 ≤ d) == true) (.f 2 (decide (d ≤ 16) == true) (.t 3 ((d == 17) == true) (.f 2 (s == 20) u0)))))))))))))))) (.f 3 ((d == 1) == true) (.b 3 ((d == 18) == true) (.b 2 (s == 1) (u2 136 4 0) (.t 0 (decide (1 ≤ d) == true) (.f 2 (decide (d ≤ 8) == true) (.t 3 (decide (9 ≤ d) == true) (.f 2 (decide (d ≤ 16) == true) (.f 3 ((d == 1) == true) (.f 3 ((d == 19) == true) (.t 3 (decide (9 ≤ d) == true) (.f 2 (decide (d ≤ 16) == true) (.f 6 ((d == 19) == true) (.t 6 (decide (9 ≤ d) == true) (.f 2 (decide (d ≤ 16) == true) (.f 3 ((d == 17) == true) u0))))))))))))) (.t 3 (decide (1 ≤ d) == true) (.f 2 (decide (d ≤ 8) == true) (.t 3 (decide (9 ≤ d) == true) (.b 2 (decide (d ≤ 16) == true) (.b 2 (s == 20) (u1 (IntKind.u8.wrap (IntKind.i64.wrap (IntKind.i64.wrap (184 + d) - 9))) 2) (.f 0 ((d == 1) == true) (.f 3 ((d == 19) == true) (.t 3 (decide (9 ≤ d) == true) (.t 2 (decide (d ≤ 16) == true) (.b 2 ((d != 9) == true) (.b 2 (s == 19) (u2 139 (IntKind.u8.wrap (IntKind.i64.wrap (IntKind.i64.wrap (8 * IntKind.i64.wrap (d - 9)) + 6))) 2) (.f 0 ((d == 19) == true) (.t 6 (decide (9 ≤ d) == true) (.t 2 (decide (d ≤ 16) == true) (.b 1 (decide (9 ≤ s) == true) (.b 3 (decide (s ≤ 16)) (u2 137 (IntKind.u8.wrap (IntKind.i64.wrap (IntKind.i64.wrap (192 + IntKind.i64.wrap (IntKind.i64.wrap (s - 9) * 8)) + IntKind.i64.wrap (d - 9)))) 0) (.f 0 ((d == 17) == true) u0)) (.f 4 ((d == 17) == true) u0)))))) (.f 3 ((d == 19) == true) (.t 6 (decide (9 ≤ d) == true) (.t 2 (decide (d ≤ 16) == true) (.b 1 (decide (9 ≤ s) == true) (.b 3 (decide (s ≤ 16)) (u2 137 (IntKind.u8.wrap (IntKind.i64.wrap (IntKind.i64.wrap (192 + IntKind.i64.wrap (IntKind.i64.wrap (s - 9) * 8)) + IntKind.i64.wrap (d - 9)))) 0) (.f 0 ((d == 17) == true) u0)) (.f 4 ((d == 17) == true) u0))))))))))) (.f 3 ((d == 1) == true) (.b 3 ((d == 19) == true) (.b 2 (s == 1) (u1 162 2) (.t 0 (decide (9 ≤ d) == true) (.f 2 (decide (d ≤ 16) == true) (.t 6 ((d == 19) == true) (.b 1 (decide (9 ≤ s) == true) (.b 3 (decide (s ≤ 16) == true) (.b 2 (s != 9) (u2 137 (IntKind.u8.wrap (IntKind.i64.wrap (IntKind.i64.wrap (8 * IntKind.i64.wrap (s - 9)) + 6))) 2) (.t 0 (decide (9 ≤ d) == true) (.f 2 (decide (d ≤ 16) == true) (.f 3 ((d == 17) == true) u0)))) (.t 3 (decide (9 ≤ d) == true) (.f 2 (decide (d ≤ 16) == true) (.f 3 ((d == 17) == true) u0)))) (.t 7 (decide (9 ≤ d) == true) (.f 2 (decide (d ≤ 16) == true) (.f 3 ((d == 17) == true) u0)))))))) (.t 3 (decide (9 ≤ d) == true) (.f 2 (decide (d ≤ 16) == true) (.f 6 ((d == 19) == true) (.t 6 (decide (9 ≤ d) == true) (.f 2 (decide (d ≤ 16) == true) (.f 3 ((d == 17) == true) u0)))))))))))))))))) (.f 6 (decide (1 ≤ d) == true) (.f 6 ((d == 17) == true) (.f 3 ((d == 1) == true) (.f 3 ((d == 18) == true) (.f 3 (decide (1 ≤ d) == true) (.f 6 (decide (9 ≤ d) == true) (.f 6 ((d == 1) == true) (.f 3 ((d == 19) == true) (.f 3 (decide (9 ≤ d) == true) (.f 9 ((d == 19) == true) (.f 6 (decide (9 ≤ d) == true) (.f 6 ((d == 17) == true) u0))))))))))))
set_option maxHeartbeats 100000000 in
set_option maxRecDepth 100000 in
theorem ha_all (d s : Int)  : HdC 1 d s (ha6 d s) := by
  refine hdc_of (T := haT d s) (by kernel_rfl) ?_
  unfold haT
  repeat' with_reducible first | refine RT.sl ?_ | refine RT.sb (fun _ => ?_) (fun _ => ?_) | refine RT.st ?_ (fun _ => ?_) | refine RT.sf ?_ (fun _ => ?_)
  all_goals first | assumption | (unfold ha6; simp only [cond_true, cond_false, *]; done) | (simp; omega) | (simp_all; done) | (simp_all; omega) | (simp at *; omega)
end Go.Proofs.Ytnknopebjdgdjaa
namespace Go.Proofs.Ytnknopebjdgdjaa
open Go Go.Ly Go.RowKit
def hbT (op d s : Int) : RT Isa.Hd := .f 0 (op == 1) (.t 0 (decide (2 ≤ op) == true) (.t 2 (decide (op ≤ 9)) (.b 0 (decide (1 ≤ d) == true) (.b 2 (decide (d ≤ 8) == true) (.b 1 (decide (1 ≤ s) == true) (.b 3 (decide (s ≤ 8)) (u2 (IntKind.u8.wrap (IntKind.i64.wrap (8 * IntKind.i64.wrap (op - 2)))) (IntKind.u8.wrap (IntKind.i64.wrap (IntKind.i64.wrap (192 + IntKind.i64.wrap (IntKind.i64.wrap (s - 1) * 8)) + IntKind.i64.wrap (d - 1)))) 0) (.f 0 (decide (9 ≤ d) == true) (.t 6 (decide (1 ≤ d) == true) (.t 2 (decide (d ≤ 8) == true) (.b 2 (s == 17) (u2 (IntKind.u8.wrap (IntKind.i64.wrap (IntKind.i64.wrap (8 * IntKind.i64.wrap (op - 2)) + 2))) (IntKind.u8.wrap (IntKind.i64.wrap (IntKind.i64.wrap (8 * IntKind.i64.wrap (d - 1)) + 7))) 0) (.b 0 ((d == 1) == true) (.b 2 (s == 20) (u1 (IntKind.u8.wrap (IntKind.i64.wrap (IntKind.i64.wrap (8 * IntKind.i64.wrap (op - 2)) + 4))) 1) (.t 0 (decide (1 ≤ d) == true) (.t 2 (decide (d ≤ 8) == true) (.f 2 (s == 20) u0)))) (.t 3 (decide (1 ≤ d) == true) (.t 2 (decide (d ≤ 8) == true) (.b 2 (s == 20) (u2 128 (IntKind.u8.wrap (IntKind.i64.wrap (IntKind.i64.wrap (192 + IntKind.i64.wrap (IntKind.i64.wrap (op - 2) * 8)) + IntKind.i64.wrap (d - 1)))) 1) u0))))))))) (.f 4 (decide (9 ≤ d) == true) (.t 6 (decide (1 ≤ d) == true) (.t 2 (decide (d ≤ 8) == true) (.f 2 (s == 17) (.b 0 ((d == 1) == true) (.f 2 (s == 20) (.t 0 (decide (1 ≤ d) == true) (.t 2 (decide (d ≤ 8) == true) (.f 2 (s == 20) u0)))) (.t 3 (decide (1 ≤ d) == true) (.t 2 (decide (d ≤ 8) == true) (.f 2 (s == 20) u0))))))))) (.t 3 (decide (9 ≤ d) == true) (.b 2 (decide (d ≤ 16) == true) (.b 1 (decide (9 ≤ s) == true) (.b 3 (decide (s ≤ 16)) (u2 (IntKind.u8.wrap (IntKind.i64.wrap (IntKind.i64.wrap (8 * IntKind.i64.wrap (op - 2)) + 1))) (IntKind.u8.wrap (IntKind.i64.wrap (IntKind.i64.wrap (192 + IntKind.i64.wrap (IntKind.i64.wrap (s - 9) * 8)) + IntKind.i64.wrap (d - 9)))) 0) (.t 0 (decide (1 ≤ d) == true) (.f 2 (decide (d ≤ 8) == true) (.f 3 ((d == 1) == true) (.t 3 (decide (1 ≤ d) == true) (.f 2 (decide (d ≤ 8) == true) u0)))))) (.t 4 (decide (1 ≤ d) == true) (.f 2 (decide (d ≤ 8) == true) (.f 3 ((d == 1) == true) (.t 3 (decide (1 ≤ d) == true) (.f 2 (decide (d ≤ 8) == true) u0)))))) (.t 3 (decide (1 ≤ d) == true) (.f 2 (decide (d ≤ 8) == true) (.f 3 ((d == 1) == true) (.t 3 (decide (1 ≤ d) == true) (.f 2 (decide (d ≤ 8) == true) u0)))))))) (.f 6 (decide (9 ≤ d) == true) (.f 6 (decide (1 ≤ d) == true) (.f 6 ((d == 1) == true) (.f 3 (decide (1 ≤ d) == true) u0)))))))
set_option maxHeartbeats 100000000 in
set_option maxRecDepth 100000 in
theorem hb_all (op d s : Int) (k1 : 2 ≤ op) (k2 : op ≤ 9) : HdC op d s (hb6 op d s) := by
  refine hdc_of (T := hbT op d s) (by kernel_rfl) ?_
  unfold hbT
  repeat' with_reducible first | refine RT.sl ?_ | refine RT.sb (fun _ => ?_) (fun _ => ?_) | refine RT.st ?_ (fun _ => ?_) | refine RT.sf ?_ (fun _ => ?_)
  all_goals first | assumption | (unfold hb6; simp only [cond_true, cond_false, *]; done) | (simp; omega) | (simp_all; done) | (simp_all; omega) | (simp at *; omega)
def hdT (d s : Int) : RT Isa.Hd := .b 7 (decide (1 ≤ d) == true) (.b 3 (decide (d ≤ 8) == true) (.b 1 (decide (1 ≤ s) == true) (.b 3 (decide (s ≤ 8)) (u2 134 (IntKind.u8.wrap (IntKind.i64.wrap (IntKind.i64.wrap (192 + IntKind.i64.wrap (IntKind.i64.wrap (s - 1) * 8)) + IntKind.i64.wrap (d - 1)))) 0) (.f 2 (decide (9 ≤ d) == true) (.f 27 ((s != 0) == false) u0))) (.f 6 (decide (9 ≤ d) == true) (.b 27 ((s != 0) == false) u0 u0))) (.t 5 (decide (9 ≤ d) == true) (.b 3 (decide (d ≤ 16) == true) (.b 1 (decide (9 ≤ s) == true) (.b 3 (decide (s ≤ 16) == true) (.b 2 ((d != 9) == true) (.b 2 (s != 9) (u2 135 (IntKind.u8.wrap (IntKind.i64.wrap (IntKind.i64.wrap (192 + IntKind.i64.wrap (IntKind.i64.wrap (s - 9) * 8)) + IntKind.i64.wrap (d - 9)))) 0) (.f 14 ((s != 0) == false) u0)) (.f 17 ((s != 0) == false) u0)) (.f 20 ((s != 0) == false) u0)) (.b 24 ((s != 0) == false) u0 u0)) (.b 23 ((s != 0) == false) u0 u0)))) (.f 9 (decide (9 ≤ d) == true) (.b 27 ((s != 0) == false) u0 u0))
set_option maxHeartbeats 100000000 in
set_option maxRecDepth 100000 in
theorem hd_all (d s : Int)  : HdC 17 d s (hd_6 d s) := by
  refine hdc_of (T := hdT d s) (by kernel_rfl) ?_
  unfold hdT
  repeat' with_reducible first | refine RT.sl ?_ | refine RT.sb (fun _ => ?_) (fun _ => ?_) | refine RT.st ?_ (fun _ => ?_) | refine RT.sf ?_ (fun _ => ?_)
  all_goals first | assumption | (unfold hd_6; simp only [cond_true, cond_false, *]; done) | (simp; omega) | (simp_all; done) | (simp_all; omega) | (simp at *; omega)
end Go.Proofs.Ytnknopebjdgdjaa
namespace Go.Proofs.Ytnknopebjdgdjaa
open Go Go.Ly Go.RowKit
def hcT (op d s : Int) : RT Isa.Hd := .f 0 (op == 1) (.t 0 (decide (2 ≤ op) == true) (.f 2 (decide (op ≤ 9)) (.f 0 ((op == 17) == true) (.f 6 ((op == 17) == true) (.f 12 ((op == 30) == true) (.f 6 ((op == 31) == true) (.b 6 ((s != 0) == false) (.f 2 (op == 17) (.t 0 (decide (10 ≤ op) == true) (.t 2 (decide (op ≤ 19)) (.b 0 (decide (op ≤ 11) == true) (.b 1 (decide (1 ≤ d) == true) (.b 3 (decide (d ≤ 8)) (u2 254 (IntKind.u8.wrap (IntKind.i64.wrap (IntKind.i64.wrap (192 + IntKind.i64.wrap (IntKind.i64.wrap (op - 10) * 8)) + IntKind.i64.wrap (d - 1)))) 0) (.t 0 (decide (op ≤ 11) == true) (.b 2 (d == 17) (u2 254 (IntKind.u8.wrap (IntKind.i64.wrap (IntKind.i64.wrap (8 * IntKind.i64.wrap (op - 10)) + 7))) 0) (.t 0 (decide (op ≤ 11) == true) (.t 1 (decide (9 ≤ d) == true) (.b 3 (decide (d ≤ 16)) (u1 (IntKind.u8.wrap (IntKind.i64.wrap (IntKind.i64.wrap (IntKind.i64.wrap (64 + IntKind.i64.wrap (8 * IntKind.i64.wrap (op - 10))) + d) - 9))) 0) (.f 0 (decide (12 ≤ op) == true) (.f 6 (decide (12 ≤ op) == true) (.f 6 ((op == 16) == true) (.f 3 (decide (18 ≤ op) == true) u0)))))))))) (.t 4 (decide (op ≤ 11) == true) (.f 2 (d == 17) (.t 0 (decide (op ≤ 11) == true) (.f 1 (decide (9 ≤ d) == true) (.f 4 (decide (12 ≤ op) == true) (.f 6 (decide (12 ≤ op) == true) (.f 6 ((op == 16) == true) (.f 3 (decide (18 ≤ op) == true) u0))))))))) (.f 3 (decide (op ≤ 11) == true) (.f 3 (decide (op ≤ 11) == true) (.t 3 (decide (12 ≤ op) == true) (.b 2 (decide (op ≤ 15) == true) (.b 1 (decide (1 ≤ d) == true) (.b 3 (decide (d ≤ 8)) (u2 208 (IntKind.u8.wrap (IntKind.i64.wrap (IntKind.i64.wrap (192 + IntKind.i64.wrap (IntKind.i64.wrap (op - 12) * 8)) + IntKind.i64.wrap (d - 1)))) 0) (.t 0 (decide (12 ≤ op) == true) (.t 2 (decide (op ≤ 15) == true) (.t 1 (decide (9 ≤ d) == true) (.b 3 (decide (d ≤ 16)) (u2 209 (IntKind.u8.wrap (IntKind.i64.wrap (IntKind.i64.wrap (192 + IntKind.i64.wrap (IntKind.i64.wrap (op - 12) * 8)) + IntKind.i64.wrap (d - 9)))) 0) (.f 0 ((op == 16) == true) (.f 3 (decide (18 ≤ op) == true) u0))))))) (.t 4 (decide (12 ≤ op) == true) (.t 2 (decide (op ≤ 15) == true) (.f 1 (decide (9 ≤ d) == true) (.f 4 ((op == 16) == true) (.f 3 (decide (18 ≤ op) == true) u0)))))) (.t 3 (decide (12 ≤ op) == true) (.f 2 (decide (op ≤ 15) == true) (.b 3 ((op == 16) == true) (.b 1 (decide (1 ≤ d) == true) (.b 3 (decide (d ≤ 8)) (u2 246 (IntKind.u8.wrap (IntKind.i64.wrap (208 + IntKind.i64.wrap (d - 1)))) 0) (.f 0 (decide (18 ≤ op) == true) u0)) (.f 4 (decide (18 ≤ op) == true) u0)) (.t 3 (decide (18 ≤ op) == true) (.b 1 (decide (9 ≤ d) == true) (.b 3 (decide (d ≤ 16)) (u1 (IntKind.u8.wrap (IntKind.i64.wrap (IntKind.i64.wrap (IntKind.i64.wrap (80 + IntKind.i64.wrap (8 * IntKind.i64.wrap (op - 18))) + d) - 9))) 0) u0) u0))))))))))))) u0)))))))
set_option maxHeartbeats 100000000 in
set_option maxRecDepth 100000 in
theorem hc_all (op d s : Int) (k1 : 10 ≤ op) (k2 : op ≤ 19) (k3 : op ≠ 17) : HdC op d s (hc6 op d s) := by
  refine hdc_of (T := hcT op d s) (by kernel_rfl) ?_
  unfold hcT
  repeat' with_reducible first | refine RT.sl ?_ | refine RT.sb (fun _ => ?_) (fun _ => ?_) | refine RT.st ?_ (fun _ => ?_) | refine RT.sf ?_ (fun _ => ?_)
  all_goals first | assumption | (unfold hc6; simp only [cond_true, cond_false, *]; done) | (simp; omega) | (simp_all; done) | (simp_all; omega) | (simp at *; omega)
end Go.Proofs.Ytnknopebjdgdjaa
namespace Go.Proofs.Ytnknopebjdgdjaa
open Go Go.Ly Go.RowKit
def heT (op d s : Int) : RT Isa.Hd := .f 0 (op == 1) (.t 0 (decide (2 ≤ op) == true) (.f 2 (decide (op ≤ 9)) (.f 0 ((op == 17) == true) (.f 6 ((op == 17) == true) (.b 12 ((op == 30) == true) (.b 2 ((d == 1) == true) (.b 2 (s == 20) (u1 228 1) (.f 0 ((op == 31) == true) (.b 6 ((s != 0) == false) (.f 2 (op == 17) (.t 0 (decide (10 ≤ op) == true) (.f 2 (decide (op ≤ 19)) (.t 0 (decide (20 ≤ op) == true) (.f 2 (decide (op ≤ 29) == true) (.f 3 ((op == 32) == true) (.f 3 ((op == 33) == true) (.f 3 ((op == 34) == true) (.f 3 ((op == 35) == true) (.f 3 (decide (42 ≤ op) == true) (.f 5 (decide (48 ≤ op) == true) u0))))))))))) u0))) (.f 3 ((op == 31) == true) (.b 6 ((s != 0) == false) (.f 2 (op == 17) (.t 0 (decide (10 ≤ op) == true) (.f 2 (decide (op ≤ 19)) (.t 0 (decide (20 ≤ op) == true) (.f 2 (decide (op ≤ 29) == true) (.f 3 ((op == 32) == true) (.f 3 ((op == 33) == true) (.f 3 ((op == 34) == true) (.f 3 ((op == 35) == true) (.f 3 (decide (42 ≤ op) == true) (.f 5 (decide (48 ≤ op) == true) u0))))))))))) u0))) (.b 6 ((op == 31) == true) (.b 2 ((d == 20) == true) (.b 2 (s == 1) (u1 230 1) (.b 0 ((s != 0) == false) (.f 2 (op == 17) (.t 0 (decide (10 ≤ op) == true) (.f 2 (decide (op ≤ 19)) (.t 0 (decide (20 ≤ op) == true) (.f 2 (decide (op ≤ 29) == true) (.f 3 ((op == 32) == true) (.f 3 ((op == 33) == true) (.f 3 ((op == 34) == true) (.f 3 ((op == 35) == true) (.f 3 (decide (42 ≤ op) == true) (.f 5 (decide (48 ≤ op) == true) u0))))))))))) u0)) (.b 3 ((s != 0) == false) (.f 2 (op == 17) (.t 0 (decide (10 ≤ op) == true) (.f 2 (decide (op ≤ 19)) (.t 0 (decide (20 ≤ op) == true) (.f 2 (decide (op ≤ 29) == true) (.f 3 ((op == 32) == true) (.f 3 ((op == 33) == true) (.f 3 ((op == 34) == true) (.f 3 ((op == 35) == true) (.f 3 (decide (42 ≤ op) == true) (.f 5 (decide (48 ≤ op) == true) u0))))))))))) u0)) (.b 6 ((s != 0) == false) (.f 2 (op == 17) (.t 0 (decide (10 ≤ op) == true) (.f 2 (decide (op ≤ 19)) (.t 0 (decide (20 ≤ op) == true) (.b 2 (decide (op ≤ 29) == true) (.f 2 (d == 0) (.f 0 ((op == 32) == true) (.f 3 ((op == 33) == true) (.f 3 ((op == 34) == true) (.f 3 ((op == 35) == true) (.f 3 (decide (42 ≤ op) == true) (.f 5 (decide (48 ≤ op) == true) u0))))))) (.b 3 ((op == 32) == true) (.b 2 (d == 20) (u1 233 2) (.f 0 ((op == 33) == true) (.f 3 ((op == 34) == true) (.f 3 ((op == 35) == true) (.f 3 (decide (42 ≤ op) == true) (.f 5 (decide (48 ≤ op) == true) u0)))))) (.b 3 ((op == 33) == true) (.b 2 (d == 20) (u1 235 3) (.f 0 ((op == 34) == true) (.f 3 ((op == 35) == true) (.f 3 (decide (42 ≤ op) == true) (.f 5 (decide (48 ≤ op) == true) u0))))) (.b 3 ((op == 34) == true) (.b 2 (d == 20) (u1 232 2) (.f 0 ((op == 35) == true) (.f 3 (decide (42 ≤ op) == true) (.f 5 (decide (48 ≤ op) == true) u0)))) (.b 3 ((op == 35) == true) (.b 2 (d == 0) (u1 195 0) (.f 0 (decide (42 ≤ op) == true) (.f 5 (decide (48 ≤ op) == true) u0))) (.b 3 (decide (42 ≤ op) == true) (.b 2 (decide (op ≤ 45) == false) (.b 2 (decide (48 ≤ op) == true) (.b 4 (decide (op ≤ 51) == true) (.b 2 (d == 20) (u1 (IntKind.u8.wrap (IntKind.i64.wrap (IntKind.i64.wrap (112 + op) - 40))) 3) u0) u0) u0) (.b 7 (d == 20) (u1 (IntKind.u8.wrap (IntKind.i64.wrap (IntKind.i64.wrap (112 + op) - 40))) 3) u0)) (.f 5 (decide (48 ≤ op) == true) u0))))))))))) u0)))))))
set_option maxRecDepth 100000 in
theorem al_all (op : Int) (k1 : 20 ≤ op) (k2 : op ≤ 29) : HdC op 0 0 (he6 op 0 0) := by
  have e : he6 op 0 0 = hdAl op := by
    have q : op = 20 ∨ op = 21 ∨ op = 22 ∨ op = 23 ∨ op = 24 ∨ op = 25 ∨ op = 26 ∨ op = 27 ∨ op = 28 ∨ op = 29 := by omega
    rcases q with rfl | rfl | rfl | rfl | rfl | rfl | rfl | rfl | rfl | rfl <;> rfl
  rw [e]
  have q : op = 20 ∨ op = 21 ∨ op = 22 ∨ op = 23 ∨ op = 24 ∨ op = 25 ∨ op = 26 ∨ op = 27 ∨ op = 28 ∨ op = 29 := by omega
  rcases q with rfl | rfl | rfl | rfl | rfl | rfl | rfl | rfl | rfl | rfl
  · exact hdc_of (T := .l (hdAl 20)) (by kernel_rfl) (RT.sl rfl)
  · exact hdc_of (T := .l (hdAl 21)) (by kernel_rfl) (RT.sl rfl)
  · exact hdc_of (T := .l (hdAl 22)) (by kernel_rfl) (RT.sl rfl)
  · exact hdc_of (T := .l (hdAl 23)) (by kernel_rfl) (RT.sl rfl)
  · exact hdc_of (T := .l (hdAl 24)) (by kernel_rfl) (RT.sl rfl)
  · exact hdc_of (T := .l (hdAl 25)) (by kernel_rfl) (RT.sl rfl)
  · exact hdc_of (T := .l (hdAl 26)) (by kernel_rfl) (RT.sl rfl)
  · exact hdc_of (T := .l (hdAl 27)) (by kernel_rfl) (RT.sl rfl)
  · exact hdc_of (T := .l (hdAl 28)) (by kernel_rfl) (RT.sl rfl)
  · exact hdc_of (T := .l (hdAl 29)) (by kernel_rfl) (RT.sl rfl)
set_option maxHeartbeats 100000000 in
set_option maxRecDepth 100000 in
theorem he_all (op d s : Int) (k1 : 20 ≤ op) : HdC op d s (he6 op d s) := by
  by_cases q : op ≤ 29 ∧ d = 0 ∧ s = 0
  · obtain ⟨q1, rfl, rfl⟩ := q
    exact al_all op k1 q1
  refine hdc_of (T := heT op d s) (by kernel_rfl) ?_
  unfold heT
  repeat' with_reducible first | refine RT.sl ?_ | refine RT.sb (fun _ => ?_) (fun _ => ?_) | refine RT.st ?_ (fun _ => ?_) | refine RT.sf ?_ (fun _ => ?_)
  all_goals first | assumption | (unfold he6; simp only [cond_true, cond_false, *]; done) | (simp; omega) | (simp_all; done) | (simp_all; omega) | (simp at *; omega)
def hfT (op d s : Int) : RT Isa.Hd := .f 0 (op == 1) (.f 0 (decide (2 ≤ op) == true) (.f 3 ((op == 17) == true) (.f 6 ((op == 17) == true) (.f 12 ((op == 30) == true) (.f 6 ((op == 31) == true) (.b 6 ((s != 0) == false) (.f 2 (op == 17) (.f 0 (decide (10 ≤ op) == true) (.f 3 (decide (20 ≤ op) == true) (.f 6 ((op == 32) == true) (.f 3 ((op == 33) == true) (.f 3 ((op == 34) == true) (.f 3 ((op == 35) == true) (.f 3 (decide (42 ≤ op) == true) (.f 5 (decide (48 ≤ op) == true) u0))))))))) u0))))))
set_option maxHeartbeats 100000000 in
set_option maxRecDepth 100000 in
theorem hf_all (op d s : Int) (k1 : op ≤ 0) : HdC op d s (hf6 op d s) := by
  refine hdc_of (T := hfT op d s) (by kernel_rfl) ?_
  unfold hfT
  repeat' with_reducible first | refine RT.sl ?_ | refine RT.sb (fun _ => ?_) (fun _ => ?_) | refine RT.st ?_ (fun _ => ?_) | refine RT.sf ?_ (fun _ => ?_)
  all_goals first | assumption | (unfold hf6; simp only [cond_true, cond_false, *]; done) | (simp; omega) | (simp_all; done) | (simp_all; omega) | (simp at *; omega)
end Go.Proofs.Ytnknopebjdgdjaa
namespace Go.Ly
open Go.RowKit
def tupNew (H : Heap) (c : List Value) (t : TypeId) (x : Value) : ER := bif Nat.beq H.lock 0 && Nat.blt (H.next + 1) 2147483000 then .mem (.tuple ⟨[.slice (some ⟨H.next, 0, none⟩) c.length c.length, x]⟩) (H.new (.cells c t)) else .no
theorem tupNew_good {P : Program} {f : FuncId} {args : List Value} {x : Value} {r : Nat} {c : List Value} {t : TypeId} (ha : plainL args = true) (hx : plain x = true) (hc : plainL c = true) (hcap : c.length ≠ capU)
    (h : LCalls P f args H0 (fun u K => u = .tuple ⟨[.slice (some ⟨r, 0, none⟩) c.length c.length, x]⟩ ∧ K.get r = some (.cells c t) ∧ K.lock = 0)) (H : Heap) : HGood P f args H (tupNew H c t x) := by
  unfold tupNew
  cases hb0 : (Nat.beq H.lock 0 && Nat.blt (H.next + 1) 2147483000) with
  | false => exact trivial
  | true =>
    simp only [cond_true]
    rw [Bool.and_eq_true] at hb0
    have hb : H.next + 1 < big := by have := hb0.2; unfold big; rw [Nat.blt_eq] at this; exact this
    intro ρ args' w hva hr
    have hva0 := plainL_eq ha hva
    subst hva0
    refine (h ρ0 args' w (plainL_VR _ ha) (Rep0 w)).mono ?_
    rintro e w' ⟨ρ2, u, u', K, rfl, ⟨rfl, hK, hlk⟩, h1, h2, h3, h4, h5⟩
    have hbel : Below w.heap.size w w' := ⟨h5.os, h5.tape, h5.output, h5.size, fun k hk => h5.block k hk (fun i hi => by cases hi)⟩
    obtain ⟨q1, b, o', q2, q3, q4⟩ := h4.obj r _ hK rfl
    have hbnew : w.heap.size ≤ b := by
      rcases h2 r b q2 with h6 | ⟨j, h6, _⟩
      · exact h6
      · cases h6
    have hrB := hr.below hbel
    have hnone : ∀ i, ρ i ≠ some b := fun i e => by have := (hr.dom i b e).2; omega
    obtain ⟨z1, c', z2, z3⟩ := q4
    have hcc := plainL_eq hc z2
    subst hcc
    have hOR : OR (ρ.ext H.next b (ρ2.cap r) 1) H.next (.cells c' t) o' := ⟨by simp [Ren.ext], c', plainL_VR _ hc, z3⟩
    have hRep := hrB.extNew (k := ρ2.cap r) (wd := 1) hb rfl (h4.dom r b q2).2 hnone q3 hOR
    refine ⟨ρ.ext H.next b (ρ2.cap r) 1, _, u', _, rfl, ⟨rfl, rfl⟩, hr.ext_le _ _ _, fun i y hy => ?_, ?_, hRep, Below.toKeep hbel⟩
    · simp only [Ren.ext] at hy
      split at hy
      · simp at hy; subst hy; exact .inl hbnew
      · rename_i e; exact .inr ⟨i, hy, by simp [Ren.ext, e]⟩
    · simp only [VR, VRL] at h3 ⊢
      obtain ⟨l', ⟨s', r', ⟨a', c2, rfl, y1, y2, y3⟩, ⟨x', e', hx', he', rfl⟩, rfl⟩, rfl⟩ := h3
      subst he'
      have := plain_eq hx hx'
      subst this
      refine ⟨_, ⟨_, _, ⟨a', c2, rfl, y1, y2, fun hN => ?_⟩, ⟨_, _, plain_VR _ hx, rfl, rfl⟩, rfl⟩, rfl⟩
      obtain ⟨b', x1, x2, x3⟩ := y3 hN
      have hbb : b' = b := by
        have x1' : ρ2 r = some b' := x1
        rw [q2] at x1'; simp at x1'; exact x1'.symm
      subst hbb
      refine ⟨b', by simp [Ren.ext], ?_, fun hc _ => absurd hc hcap⟩
      rw [x2]; simp [Ren.at, Ren.ext, z1]
end Go.Ly
namespace Go.Proofs.Ytnknopebjdgdjaa
open Go Go.Ly Go.RowKit
theorem head_all (op d s : Int) : HdC op d s (hd6 op d s) := by
  unfold hd6
  rcases Int.lt_or_le 0 op with h0 | h0
  · rw [decide_eq_false (show ¬ op ≤ 0 by omega)]
    by_cases h1 : op = 1
    · subst h1; exact ha_all d s
    · rw [show (op == 1) = false from beq_eq_false_iff_ne.2 h1]
      rcases Int.lt_or_le 9 op with h9 | h9
      · rw [decide_eq_false (show ¬ op ≤ 9 by omega)]
        by_cases h7 : op = 17
        · subst h7; exact hd_all d s
        · rw [show (op == 17) = false from beq_eq_false_iff_ne.2 h7]
          rcases Int.lt_or_le 19 op with h19 | h19
          · rw [decide_eq_false (show ¬ op ≤ 19 by omega)]; exact he_all op d s (by omega)
          · rw [decide_eq_true h19]; exact hc_all op d s (by omega) h19 h7
      · rw [decide_eq_true h9]; exact hb_all op d s (by omega) h9
  · rw [decide_eq_true h0]; exact hf_all op d s h0
theorem nilTp_plain : plain nilTp = true := rfl
def byT (t : Int) (f : Int → ER) : ER := .tst (t == 0) (f 0) (.tst (t == 1) (f 1) (.tst (t == 2) (f 2) (.tst (t == 3) (f 3) .no)))
theorem byT_good {f : Nat} {args : List Value} {H : Heap} {t : Int} {g : Int → ER} (h : HGood Try.prog f args H (g t)) : HGood Try.prog f args H (byT t g) := by
  refine ⟨fun e => ?_, fun _ => ⟨fun e => ?_, fun _ => ⟨fun e => ?_, fun _ => ⟨fun e => ?_, fun _ => trivial⟩⟩⟩⟩ <;>
  · have e := beq_iff_eq.1 e
    rw [e] at h; exact h
def headD (H : Heap) (args : List Value) : ER :=
  match args with
  | [.int .i64 op, .int .i64 d, .int .i64 s] => .tst ((hd6 op d s).n == 0) (.val nilTp) (.tst ((hd6 op d s).n == 1) (byT (hd6 op d s).t fun t => tupNew H [.int .u8 (hd6 op d s).b0] 5 (.int .i64 t)) (byT (hd6 op d s).t fun t => tupNew H [.int .u8 (hd6 op d s).b0, .int .u8 (hd6 op d s).b1] 5 (.int .i64 t)))
  | _ => .no
theorem headD_good (H : Heap) (args : List Value) : HGood Try.prog 36 args H (headD H args) := by
  unfold headD
  split
  · rename_i op d s
    refine ⟨fun h => ?_, fun h => ⟨fun h1 => byT_good ?_, fun h1 => byT_good ?_⟩⟩
    · have h := beq_iff_eq.1 h
      rcases head_all op d s with ⟨_, k⟩ | ⟨e, _⟩ | ⟨e, _⟩
      · exact HGood_val (by simp [plain, plainL]) nilTp_plain (fun w => calls_plain (by simp [VRL, VR]) (fun ρ v' h => plain_eq nilTp_plain h) k w) H
      · omega
      · omega
    · have h1 := beq_iff_eq.1 h1
      rcases head_all op d s with ⟨e, _⟩ | ⟨_, r, k⟩ | ⟨e, _⟩
      · omega
      · exact tupNew_good (r := r) (by simp [plain, plainL]) (by simp [plain]) (by simp [plain, plainL]) (by unfold capU; simp) k H
      · omega
    · have h1 : (hd6 op d s).n ≠ 1 := by simpa using h1
      have h : (hd6 op d s).n ≠ 0 := by simpa using h
      rcases head_all op d s with ⟨e, _⟩ | ⟨e, _⟩ | ⟨_, r, k⟩
      · omega
      · omega
      · exact tupNew_good (r := r) (by simp [plain, plainL]) (by simp [plain]) (by simp [plain, plainL]) (by unfold capU; simp) k H
  · exact trivial
def ctxY1 : Ctx := zctx.withH 36 headD
theorem ctxY1_ok : ctxY1.Ok Try.prog := zok.withH headD_good
end Go.Proofs.Ytnknopebjdgdjaa
namespace Go.Proofs.Ytnknopebjdgdjaa
open Go Go.Ly Go.RowKit
def hdSame (o d s : Nat) : Bool := decide (hd6 ((o : Int) + 1) (d : Int) (s : Int) = Isa.hd ((o : Int) + 1) (d : Int) (s : Int))
set_option maxRecDepth 100000 in
theorem hd_same_all : ((List.range 17).all fun o => (List.range 21).all fun d => (List.range 21).all fun s => hdSame o d s) = true := by kernel_rfl
theorem bif_e {P : Prop} {c : Bool} {x y : Isa.Hd} (h : (bif c then x else y).n ≠ 0) (h1 : c = true → x.n ≠ 0 → P) (h2 : c = false → y.n ≠ 0 → P) : P := by
  cases c
  · exact h2 rfl h
  · exact h1 rfl h
theorem hd6_rng {op d s : Int} (o1 : 1 ≤ op) (o2 : op < 18) (h : (hd6 op d s).n ≠ 0) : (0 ≤ d ∧ d ≤ 20) ∧ (0 ≤ s ∧ s ≤ 20) := by
  unfold hd6 at h
  rw [decide_eq_false (show ¬ op ≤ 0 by omega), cond_false] at h
  by_cases h1 : op = 1
  · rw [show (op == 1) = true from beq_iff_eq.2 h1, cond_true] at h
    unfold ha6 at h
    repeat' (refine bif_e h ?_ ?_ <;> clear h <;> intro _ h)
    all_goals first | (exact absurd rfl h) | (clear h; simp at *; omega)
  · rw [show (op == 1) = false from beq_eq_false_iff_ne.2 h1, cond_false] at h
    rcases Int.lt_or_le 9 op with h9 | h9
    · rw [decide_eq_false (show ¬ op ≤ 9 by omega), cond_false] at h
      by_cases h7 : op = 17
      · rw [show (op == 17) = true from beq_iff_eq.2 h7, cond_true] at h
        unfold hd_6 at h
        repeat' (refine bif_e h ?_ ?_ <;> clear h <;> intro _ h)
        all_goals first | (exact absurd rfl h) | (clear h; simp at *; omega)
      · rw [show (op == 17) = false from beq_eq_false_iff_ne.2 h7, cond_false] at h
        rw [decide_eq_true (show op ≤ 19 by omega), cond_true] at h
        unfold hc6 at h
        repeat' (refine bif_e h ?_ ?_ <;> clear h <;> intro _ h)
        all_goals first | (exact absurd rfl h) | (clear h; simp at *; omega)
    · rw [decide_eq_true h9, cond_true] at h
      unfold hb6 at h
      repeat' (refine bif_e h ?_ ?_ <;> clear h <;> intro _ h)
      all_goals first | (exact absurd rfl h) | (clear h; simp at *; omega)
theorem hd6_eq {op d s : Int} (o1 : 1 ≤ op) (o2 : op < 18) (h : (hd6 op d s).n ≠ 0) : hd6 op d s = Isa.hd op d s := by
  obtain ⟨⟨d1, d2⟩, s1, s2⟩ := hd6_rng o1 o2 h
  obtain ⟨o, rfl⟩ : ∃ o : Nat, op = (o : Int) + 1 := ⟨(op - 1).toNat, by omega⟩
  obtain ⟨d, rfl⟩ := Int.eq_ofNat_of_zero_le d1
  obtain ⟨s, rfl⟩ := Int.eq_ofNat_of_zero_le s1
  have k := List.all_eq_true.1 (List.all_eq_true.1 (List.all_eq_true.1 hd_same_all o (List.mem_range.2 (by omega))) d (List.mem_range.2 (by omega))) s (List.mem_range.2 (by omega))
  exact of_decide_eq_true k
end Go.Proofs.Ytnknopebjdgdjaa
end
