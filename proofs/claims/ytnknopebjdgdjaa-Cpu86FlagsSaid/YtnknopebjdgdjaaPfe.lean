/- Part 5 of the texts that the law needs, laid together. By program (pack.py). -/
import Derived.Test.YtnknopebjdgdjaaPfc
import Derived.Test.YtnknopebjdgdjaaPfd
import Derived.KernelRfl
import Derived.OpenShut
set_option linter.unusedVariables false
set_option linter.unusedSimpArgs false
noncomputable section
namespace Go.Proofs.Ytnknopebjdgdjaa
open Go.Ly Go.RowKit
def par (b : Int) : Bool := (b % 2 + b / 2 % 2 + b / 4 % 2 + b / 8 % 2 + b / 16 % 2 + b / 32 % 2 + b / 64 % 2 + b / 128 % 2) % 2 == 0
def isB : Option Value → Bool → Bool
  | some (.bool x), b => x == b
  | _, _ => false
theorem isB_eq {o : Option Value} {b : Bool} (h : isB o b = true) : o = some (.bool b) := by
  unfold isB at h
  split at h
  · simp at h; subst h; rfl
  · cases h
theorem par37_0 : ((List.range 32).all fun i => isB (Ly.run env.bare 3000 [] (Ly.start Try.f101 [.int .u8 (((0 + i) : Nat) : Int)] H0)).val? (par (((0 + i) : Nat) : Int))) = true := by kernel_rfl
theorem par38_0 : ((List.range 32).all fun i => isB (Ly.run env.bare 3000 [] (Ly.start Try.f56 [.int .u8 (((0 + i) : Nat) : Int)] H0)).val? (par (((0 + i) : Nat) : Int))) = true := by kernel_rfl
theorem par37_1 : ((List.range 32).all fun i => isB (Ly.run env.bare 3000 [] (Ly.start Try.f101 [.int .u8 (((32 + i) : Nat) : Int)] H0)).val? (par (((32 + i) : Nat) : Int))) = true := by kernel_rfl
theorem par38_1 : ((List.range 32).all fun i => isB (Ly.run env.bare 3000 [] (Ly.start Try.f56 [.int .u8 (((32 + i) : Nat) : Int)] H0)).val? (par (((32 + i) : Nat) : Int))) = true := by kernel_rfl
theorem par37_2 : ((List.range 32).all fun i => isB (Ly.run env.bare 3000 [] (Ly.start Try.f101 [.int .u8 (((64 + i) : Nat) : Int)] H0)).val? (par (((64 + i) : Nat) : Int))) = true := by kernel_rfl
theorem par38_2 : ((List.range 32).all fun i => isB (Ly.run env.bare 3000 [] (Ly.start Try.f56 [.int .u8 (((64 + i) : Nat) : Int)] H0)).val? (par (((64 + i) : Nat) : Int))) = true := by kernel_rfl
theorem par37_3 : ((List.range 32).all fun i => isB (Ly.run env.bare 3000 [] (Ly.start Try.f101 [.int .u8 (((96 + i) : Nat) : Int)] H0)).val? (par (((96 + i) : Nat) : Int))) = true := by kernel_rfl
theorem par38_3 : ((List.range 32).all fun i => isB (Ly.run env.bare 3000 [] (Ly.start Try.f56 [.int .u8 (((96 + i) : Nat) : Int)] H0)).val? (par (((96 + i) : Nat) : Int))) = true := by kernel_rfl
theorem par37_4 : ((List.range 32).all fun i => isB (Ly.run env.bare 3000 [] (Ly.start Try.f101 [.int .u8 (((128 + i) : Nat) : Int)] H0)).val? (par (((128 + i) : Nat) : Int))) = true := by kernel_rfl
theorem par38_4 : ((List.range 32).all fun i => isB (Ly.run env.bare 3000 [] (Ly.start Try.f56 [.int .u8 (((128 + i) : Nat) : Int)] H0)).val? (par (((128 + i) : Nat) : Int))) = true := by kernel_rfl
theorem par37_5 : ((List.range 32).all fun i => isB (Ly.run env.bare 3000 [] (Ly.start Try.f101 [.int .u8 (((160 + i) : Nat) : Int)] H0)).val? (par (((160 + i) : Nat) : Int))) = true := by kernel_rfl
theorem par38_5 : ((List.range 32).all fun i => isB (Ly.run env.bare 3000 [] (Ly.start Try.f56 [.int .u8 (((160 + i) : Nat) : Int)] H0)).val? (par (((160 + i) : Nat) : Int))) = true := by kernel_rfl
theorem par37_6 : ((List.range 32).all fun i => isB (Ly.run env.bare 3000 [] (Ly.start Try.f101 [.int .u8 (((192 + i) : Nat) : Int)] H0)).val? (par (((192 + i) : Nat) : Int))) = true := by kernel_rfl
theorem par38_6 : ((List.range 32).all fun i => isB (Ly.run env.bare 3000 [] (Ly.start Try.f56 [.int .u8 (((192 + i) : Nat) : Int)] H0)).val? (par (((192 + i) : Nat) : Int))) = true := by kernel_rfl
theorem par37_7 : ((List.range 32).all fun i => isB (Ly.run env.bare 3000 [] (Ly.start Try.f101 [.int .u8 (((224 + i) : Nat) : Int)] H0)).val? (par (((224 + i) : Nat) : Int))) = true := by kernel_rfl
theorem par38_7 : ((List.range 32).all fun i => isB (Ly.run env.bare 3000 [] (Ly.start Try.f56 [.int .u8 (((224 + i) : Nat) : Int)] H0)).val? (par (((224 + i) : Nat) : Int))) = true := by kernel_rfl
theorem par37_all (n : Nat) (h : n < 256) : isB (Ly.run env.bare 3000 [] (Ly.start Try.f101 [.int .u8 (n : Int)] H0)).val? (par (n : Int)) = true := by
  rcases Nat.lt_or_ge n 32 with g0 | g0
  · exact range_all (p := fun n => isB (Ly.run env.bare 3000 [] (Ly.start Try.f101 [.int .u8 (n : Int)] H0)).val? (par (n : Int))) par37_0 n (by omega) (by omega)
  rcases Nat.lt_or_ge n 64 with g1 | g1
  · exact range_all (p := fun n => isB (Ly.run env.bare 3000 [] (Ly.start Try.f101 [.int .u8 (n : Int)] H0)).val? (par (n : Int))) par37_1 n (by omega) (by omega)
  rcases Nat.lt_or_ge n 96 with g2 | g2
  · exact range_all (p := fun n => isB (Ly.run env.bare 3000 [] (Ly.start Try.f101 [.int .u8 (n : Int)] H0)).val? (par (n : Int))) par37_2 n (by omega) (by omega)
  rcases Nat.lt_or_ge n 128 with g3 | g3
  · exact range_all (p := fun n => isB (Ly.run env.bare 3000 [] (Ly.start Try.f101 [.int .u8 (n : Int)] H0)).val? (par (n : Int))) par37_3 n (by omega) (by omega)
  rcases Nat.lt_or_ge n 160 with g4 | g4
  · exact range_all (p := fun n => isB (Ly.run env.bare 3000 [] (Ly.start Try.f101 [.int .u8 (n : Int)] H0)).val? (par (n : Int))) par37_4 n (by omega) (by omega)
  rcases Nat.lt_or_ge n 192 with g5 | g5
  · exact range_all (p := fun n => isB (Ly.run env.bare 3000 [] (Ly.start Try.f101 [.int .u8 (n : Int)] H0)).val? (par (n : Int))) par37_5 n (by omega) (by omega)
  rcases Nat.lt_or_ge n 224 with g6 | g6
  · exact range_all (p := fun n => isB (Ly.run env.bare 3000 [] (Ly.start Try.f101 [.int .u8 (n : Int)] H0)).val? (par (n : Int))) par37_6 n (by omega) (by omega)
  rcases Nat.lt_or_ge n 256 with g7 | g7
  · exact range_all (p := fun n => isB (Ly.run env.bare 3000 [] (Ly.start Try.f101 [.int .u8 (n : Int)] H0)).val? (par (n : Int))) par37_7 n (by omega) (by omega)
  omega
theorem get37 : env.bare.fn.get 101 = some Try.f101 := by kernel_rfl
theorem par37_calls (b : Int) (h0 : 0 ≤ b) (h1 : b ≤ 255) (w : World) : Calls Try.prog 101 #[.int .u8 b] w fun e w' => e = .returned (.bool (par b)) ∧ Below w.heap.size w w' := by
  obtain ⟨n, rfl⟩ := Int.eq_ofNat_of_zero_le h0
  exact calls_plain (by simp [VRL, VR]) (fun ρ v' h => by simpa [VR] using h) (LCalls_run (Env.bare_ok envOk) 3000 get37 (by kernel_rfl) (isB_eq (par37_all n (by omega)))) w
theorem par38_all (n : Nat) (h : n < 256) : isB (Ly.run env.bare 3000 [] (Ly.start Try.f56 [.int .u8 (n : Int)] H0)).val? (par (n : Int)) = true := by
  rcases Nat.lt_or_ge n 32 with g0 | g0
  · exact range_all (p := fun n => isB (Ly.run env.bare 3000 [] (Ly.start Try.f56 [.int .u8 (n : Int)] H0)).val? (par (n : Int))) par38_0 n (by omega) (by omega)
  rcases Nat.lt_or_ge n 64 with g1 | g1
  · exact range_all (p := fun n => isB (Ly.run env.bare 3000 [] (Ly.start Try.f56 [.int .u8 (n : Int)] H0)).val? (par (n : Int))) par38_1 n (by omega) (by omega)
  rcases Nat.lt_or_ge n 96 with g2 | g2
  · exact range_all (p := fun n => isB (Ly.run env.bare 3000 [] (Ly.start Try.f56 [.int .u8 (n : Int)] H0)).val? (par (n : Int))) par38_2 n (by omega) (by omega)
  rcases Nat.lt_or_ge n 128 with g3 | g3
  · exact range_all (p := fun n => isB (Ly.run env.bare 3000 [] (Ly.start Try.f56 [.int .u8 (n : Int)] H0)).val? (par (n : Int))) par38_3 n (by omega) (by omega)
  rcases Nat.lt_or_ge n 160 with g4 | g4
  · exact range_all (p := fun n => isB (Ly.run env.bare 3000 [] (Ly.start Try.f56 [.int .u8 (n : Int)] H0)).val? (par (n : Int))) par38_4 n (by omega) (by omega)
  rcases Nat.lt_or_ge n 192 with g5 | g5
  · exact range_all (p := fun n => isB (Ly.run env.bare 3000 [] (Ly.start Try.f56 [.int .u8 (n : Int)] H0)).val? (par (n : Int))) par38_5 n (by omega) (by omega)
  rcases Nat.lt_or_ge n 224 with g6 | g6
  · exact range_all (p := fun n => isB (Ly.run env.bare 3000 [] (Ly.start Try.f56 [.int .u8 (n : Int)] H0)).val? (par (n : Int))) par38_6 n (by omega) (by omega)
  rcases Nat.lt_or_ge n 256 with g7 | g7
  · exact range_all (p := fun n => isB (Ly.run env.bare 3000 [] (Ly.start Try.f56 [.int .u8 (n : Int)] H0)).val? (par (n : Int))) par38_7 n (by omega) (by omega)
  omega
theorem get38 : env.bare.fn.get 56 = some Try.f56 := by kernel_rfl
theorem par38_calls (b : Int) (h0 : 0 ≤ b) (h1 : b ≤ 255) (w : World) : Calls Try.prog 56 #[.int .u8 b] w fun e w' => e = .returned (.bool (par b)) ∧ Below w.heap.size w w' := by
  obtain ⟨n, rfl⟩ := Int.eq_ofNat_of_zero_le h0
  exact calls_plain (by simp [VRL, VR]) (fun ρ v' h => by simpa [VR] using h) (LCalls_run (Env.bare_ok envOk) 3000 get38 (by kernel_rfl) (isB_eq (par38_all n (by omega)))) w
end Go.Proofs.Ytnknopebjdgdjaa
namespace Go.Proofs.Ytnknopebjdgdjaa
open Go Go.Ly Go.RowKit
theorem get21 : env.bare.fn.get 29 = some Try.f29 := by kernel_rfl
theorem get28 : env.bare.fn.get 20 = some Try.f20 := by kernel_rfl
theorem run21 (s z a p c : Bool) : (Ly.run env.bare 1000 [] (Ly.start Try.f29 [.agg ⟨[.bool s, .bool z, .bool a, .bool p, .bool c]⟩] H0)).out? = some ([], .agg ⟨[.bool s, .bool z, .bool a, .bool p, .bool c]⟩) := by kernel_rfl
theorem run28 (s z a p c : Bool) : (Ly.run env.bare 1000 [] (Ly.start Try.f20 [.agg ⟨[.bool s, .bool z, .bool a, .bool p, .bool c]⟩] H0)).out? = some ([], .agg ⟨[.bool s, .bool z, .bool a, .bool p, .bool c]⟩) := by kernel_rfl
def parC (l : List Value) : Option (Bool × Value) := match l with
  | [.int .u8 b] => some (inb b, .bool (par b))
  | _ => none
def idC (l : List Value) : Option (Bool × Value) := match l with
  | [.agg ⟨[.bool s, .bool z, .bool a, .bool p, .bool c]⟩] => some (true, .agg ⟨[.bool s, .bool z, .bool a, .bool p, .bool c]⟩)
  | _ => none
theorem ansP37 : Answers Try.prog 101 parC := by
  intro args g v h hg
  unfold parC at h
  split at h
  · simp only [Option.some.injEq, Prod.mk.injEq] at h
    obtain ⟨rfl, rfl⟩ := h
    rw [inb_iff] at hg
    exact ⟨by simp [plain, plainL], by simp [plain], fun w => par37_calls _ hg.1 hg.2 w⟩
  · cases h
theorem ansP38 : Answers Try.prog 56 parC := by
  intro args g v h hg
  unfold parC at h
  split at h
  · simp only [Option.some.injEq, Prod.mk.injEq] at h
    obtain ⟨rfl, rfl⟩ := h
    rw [inb_iff] at hg
    exact ⟨by simp [plain, plainL], by simp [plain], fun w => par38_calls _ hg.1 hg.2 w⟩
  · cases h
theorem ansI21 : Answers Try.prog 29 idC := by
  intro args g v h hg
  unfold idC at h
  split at h
  · simp only [Option.some.injEq, Prod.mk.injEq] at h
    obtain ⟨rfl, rfl⟩ := h
    exact ⟨by simp [plain, plainL], by simp [plain, plainL], fun w => calls_trust (Env.bare_ok envOk) 1000 [] get21 (by kernel_rfl) (by simp [plain, plainL]) (by simp [plain, plainL]) (run21 _ _ _ _ _) trivial w⟩
  · cases h
theorem ansI28 : Answers Try.prog 20 idC := by
  intro args g v h hg
  unfold idC at h
  split at h
  · simp only [Option.some.injEq, Prod.mk.injEq] at h
    obtain ⟨rfl, rfl⟩ := h
    exact ⟨by simp [plain, plainL], by simp [plain, plainL], fun w => calls_trust (Env.bare_ok envOk) 1000 [] get28 (by kernel_rfl) (by simp [plain, plainL]) (by simp [plain, plainL]) (run28 _ _ _ _ _) trivial w⟩
  · cases h
def wctx : Ctx := env.bare.with 101 parC |>.with 56 parC |>.with 29 idC |>.with 20 idC
theorem wok : wctx.Ok Try.prog := (Env.bare_ok envOk).with ansP37 |>.with ansP38 |>.with ansI21 |>.with ansI28
end Go.Proofs.Ytnknopebjdgdjaa
namespace Go.Proofs.Ytnknopebjdgdjaa
open Go Go.Ly Go.RowKit
def add23FT0 (a : Int) (b : Int) : List (Bool × Bool) := [(decide (0 ≤ IntKind.u8.wrap (bits BinOp.and IntKind.i64 (IntKind.i64.wrap (IntKind.i64.wrap (IntKind.i64.wrap a + IntKind.i64.wrap b) + 0)) 255)) && decide (IntKind.u8.wrap (bits BinOp.and IntKind.i64 (IntKind.i64.wrap (IntKind.i64.wrap (IntKind.i64.wrap a + IntKind.i64.wrap b) + 0)) 255) ≤ 255), true)]
def add23FV0 (a : Int) (b : Int) : Value := Value.tuple { toList := [Value.int IntKind.u8 (IntKind.u8.wrap (bits BinOp.and IntKind.i64 (IntKind.i64.wrap (IntKind.i64.wrap (IntKind.i64.wrap a + IntKind.i64.wrap b) + 0)) 255)), Value.agg { toList := [Value.bool (decide (128 ≤ IntKind.u8.wrap (bits BinOp.and IntKind.i64 (IntKind.i64.wrap (IntKind.i64.wrap (IntKind.i64.wrap a + IntKind.i64.wrap b) + 0)) 255))), Value.bool (IntKind.u8.wrap (bits BinOp.and IntKind.i64 (IntKind.i64.wrap (IntKind.i64.wrap (IntKind.i64.wrap a + IntKind.i64.wrap b) + 0)) 255) == 0), Value.bool (decide (15 < IntKind.i64.wrap (IntKind.i64.wrap ((IntKind.i64.wrap a).tmod 16 + (IntKind.i64.wrap b).tmod 16) + 0))), Value.bool (par (IntKind.u8.wrap (bits BinOp.and IntKind.i64 (IntKind.i64.wrap (IntKind.i64.wrap (IntKind.i64.wrap a + IntKind.i64.wrap b) + 0)) 255))), Value.bool (decide (255 < IntKind.i64.wrap (IntKind.i64.wrap (IntKind.i64.wrap a + IntKind.i64.wrap b) + 0)))] }] }
theorem add23FR0 (a : Int) (b : Int) : (Ly.run (wctx) 20000 [(4, true)] (Ly.start Try.f18 ([Value.int IntKind.u8 a, Value.int IntKind.u8 b, Value.bool false]) H0)).out? = some (add23FT0 a b, add23FV0 a b) := by kernel_rfl
def add23TT0 (a : Int) (b : Int) : List (Bool × Bool) := [(decide (0 ≤ IntKind.u8.wrap (bits BinOp.and IntKind.i64 (IntKind.i64.wrap (IntKind.i64.wrap (IntKind.i64.wrap a + IntKind.i64.wrap b) + 1)) 255)) && decide (IntKind.u8.wrap (bits BinOp.and IntKind.i64 (IntKind.i64.wrap (IntKind.i64.wrap (IntKind.i64.wrap a + IntKind.i64.wrap b) + 1)) 255) ≤ 255), true)]
def add23TV0 (a : Int) (b : Int) : Value := Value.tuple { toList := [Value.int IntKind.u8 (IntKind.u8.wrap (bits BinOp.and IntKind.i64 (IntKind.i64.wrap (IntKind.i64.wrap (IntKind.i64.wrap a + IntKind.i64.wrap b) + 1)) 255)), Value.agg { toList := [Value.bool (decide (128 ≤ IntKind.u8.wrap (bits BinOp.and IntKind.i64 (IntKind.i64.wrap (IntKind.i64.wrap (IntKind.i64.wrap a + IntKind.i64.wrap b) + 1)) 255))), Value.bool (IntKind.u8.wrap (bits BinOp.and IntKind.i64 (IntKind.i64.wrap (IntKind.i64.wrap (IntKind.i64.wrap a + IntKind.i64.wrap b) + 1)) 255) == 0), Value.bool (decide (15 < IntKind.i64.wrap (IntKind.i64.wrap ((IntKind.i64.wrap a).tmod 16 + (IntKind.i64.wrap b).tmod 16) + 1))), Value.bool (par (IntKind.u8.wrap (bits BinOp.and IntKind.i64 (IntKind.i64.wrap (IntKind.i64.wrap (IntKind.i64.wrap a + IntKind.i64.wrap b) + 1)) 255))), Value.bool (decide (255 < IntKind.i64.wrap (IntKind.i64.wrap (IntKind.i64.wrap a + IntKind.i64.wrap b) + 1)))] }] }
theorem add23TR0 (a : Int) (b : Int) : (Ly.run (wctx) 20000 [(4, true)] (Ly.start Try.f18 ([Value.int IntKind.u8 a, Value.int IntKind.u8 b, Value.bool true]) H0)).out? = some (add23TT0 a b, add23TV0 a b) := by kernel_rfl
def sub25FT0 (a : Int) (b : Int) : List (Bool × Bool) := [(decide (0 ≤ IntKind.u8.wrap (bits BinOp.and IntKind.i64 (IntKind.i64.wrap (IntKind.i64.wrap (IntKind.i64.wrap (IntKind.i64.wrap a - IntKind.i64.wrap b) - 0) + 256)) 255)) && decide (IntKind.u8.wrap (bits BinOp.and IntKind.i64 (IntKind.i64.wrap (IntKind.i64.wrap (IntKind.i64.wrap (IntKind.i64.wrap a - IntKind.i64.wrap b) - 0) + 256)) 255) ≤ 255), true)]
def sub25FV0 (a : Int) (b : Int) : Value := Value.tuple { toList := [Value.int IntKind.u8 (IntKind.u8.wrap (bits BinOp.and IntKind.i64 (IntKind.i64.wrap (IntKind.i64.wrap (IntKind.i64.wrap (IntKind.i64.wrap a - IntKind.i64.wrap b) - 0) + 256)) 255)), Value.agg { toList := [Value.bool (decide (128 ≤ IntKind.u8.wrap (bits BinOp.and IntKind.i64 (IntKind.i64.wrap (IntKind.i64.wrap (IntKind.i64.wrap (IntKind.i64.wrap a - IntKind.i64.wrap b) - 0) + 256)) 255))), Value.bool (IntKind.u8.wrap (bits BinOp.and IntKind.i64 (IntKind.i64.wrap (IntKind.i64.wrap (IntKind.i64.wrap (IntKind.i64.wrap a - IntKind.i64.wrap b) - 0) + 256)) 255) == 0), Value.bool (decide (15 < IntKind.i64.wrap (IntKind.i64.wrap (IntKind.i64.wrap ((IntKind.i64.wrap a).tmod 16 + 15) - (IntKind.i64.wrap b).tmod 16) + 1))), Value.bool (par (IntKind.u8.wrap (bits BinOp.and IntKind.i64 (IntKind.i64.wrap (IntKind.i64.wrap (IntKind.i64.wrap (IntKind.i64.wrap a - IntKind.i64.wrap b) - 0) + 256)) 255))), Value.bool (decide (IntKind.i64.wrap (IntKind.i64.wrap (IntKind.i64.wrap a - IntKind.i64.wrap b) - 0) < 0))] }] }
theorem sub25FR0 (a : Int) (b : Int) : (Ly.run (wctx) 20000 [(4, true)] (Ly.start Try.f19 ([Value.int IntKind.u8 a, Value.int IntKind.u8 b, Value.bool false]) H0)).out? = some (sub25FT0 a b, sub25FV0 a b) := by kernel_rfl
def sub25TT0 (a : Int) (b : Int) : List (Bool × Bool) := [(decide (0 ≤ IntKind.u8.wrap (bits BinOp.and IntKind.i64 (IntKind.i64.wrap (IntKind.i64.wrap (IntKind.i64.wrap (IntKind.i64.wrap a - IntKind.i64.wrap b) - 1) + 256)) 255)) && decide (IntKind.u8.wrap (bits BinOp.and IntKind.i64 (IntKind.i64.wrap (IntKind.i64.wrap (IntKind.i64.wrap (IntKind.i64.wrap a - IntKind.i64.wrap b) - 1) + 256)) 255) ≤ 255), true)]
def sub25TV0 (a : Int) (b : Int) : Value := Value.tuple { toList := [Value.int IntKind.u8 (IntKind.u8.wrap (bits BinOp.and IntKind.i64 (IntKind.i64.wrap (IntKind.i64.wrap (IntKind.i64.wrap (IntKind.i64.wrap a - IntKind.i64.wrap b) - 1) + 256)) 255)), Value.agg { toList := [Value.bool (decide (128 ≤ IntKind.u8.wrap (bits BinOp.and IntKind.i64 (IntKind.i64.wrap (IntKind.i64.wrap (IntKind.i64.wrap (IntKind.i64.wrap a - IntKind.i64.wrap b) - 1) + 256)) 255))), Value.bool (IntKind.u8.wrap (bits BinOp.and IntKind.i64 (IntKind.i64.wrap (IntKind.i64.wrap (IntKind.i64.wrap (IntKind.i64.wrap a - IntKind.i64.wrap b) - 1) + 256)) 255) == 0), Value.bool (decide (15 < IntKind.i64.wrap (IntKind.i64.wrap (IntKind.i64.wrap ((IntKind.i64.wrap a).tmod 16 + 15) - (IntKind.i64.wrap b).tmod 16) + 0))), Value.bool (par (IntKind.u8.wrap (bits BinOp.and IntKind.i64 (IntKind.i64.wrap (IntKind.i64.wrap (IntKind.i64.wrap (IntKind.i64.wrap a - IntKind.i64.wrap b) - 1) + 256)) 255))), Value.bool (decide (IntKind.i64.wrap (IntKind.i64.wrap (IntKind.i64.wrap a - IntKind.i64.wrap b) - 1) < 0))] }] }
theorem sub25TR0 (a : Int) (b : Int) : (Ly.run (wctx) 20000 [(4, true)] (Ly.start Try.f19 ([Value.int IntKind.u8 a, Value.int IntKind.u8 b, Value.bool true]) H0)).out? = some (sub25TT0 a b, sub25TV0 a b) := by kernel_rfl
end Go.Proofs.Ytnknopebjdgdjaa
namespace Go.Proofs.Ytnknopebjdgdjaa
open Go Go.Ly Go.RowKit
def cI (c : Bool) : Int := bif c then 1 else 0
abbrev fl (b : Int) (x c : Bool) : Value := .agg ⟨[.bool (decide (128 ≤ b)), .bool (b == 0), .bool x, .bool (par b), .bool c]⟩
abbrev tup (b : Int) (x c : Bool) : Value := .tuple ⟨[.int .u8 b, fl b x c]⟩
theorem tup_ext {b b' : Int} {x x' c c' : Bool} (h : b = b') (hx : x = x') (hc : c = c') : tup b x c = tup b' x' c' := by rw [h, hx, hc]
theorem tup_plain (b : Int) (x c : Bool) : plain (tup b x c) = true := by simp [plain, plainL]
theorem w64 (n : Int) (h₀ : 0 ≤ n) (h₁ : n < 18446744073709551616) : IntKind.u64.wrap n = n := by rw [IntKind.wrap_u64]; omega
theorem wi64 (n : Int) (h₀ : -9223372036854775808 ≤ n) (h₁ : n < 9223372036854775808) : IntKind.i64.wrap n = n := by rw [IntKind.wrap_i64]; omega
theorem tmodp (n m : Int) (h : 0 ≤ n) : n.tmod m = n % m := Int.tmod_eq_emod_of_nonneg h
theorem tdivp (n m : Int) (h : 0 ≤ n) : n.tdiv m = n / m := Int.tdiv_eq_ediv_of_nonneg h
theorem i64_and65535 (n : Int) : bits .and .i64 n 65535 = n % 65536 := by
  have h127 : (BitVec.ofInt 64 65535).toNat = 2 ^ 16 - 1 := by decide
  have key : (BitVec.ofInt 64 n &&& BitVec.ofInt 64 65535).toNat = (n % ((2 ^ 64 : Nat) : Int)).toNat % 2 ^ 16 := by
    rw [BitVec.toNat_and, BitVec.toNat_ofInt, h127, Nat.and_two_pow_sub_one_eq_mod]
  show IntKind.i64.wrap ((BitVec.ofInt 64 n &&& BitVec.ofInt 64 65535).toNat : Nat) = n % 65536
  rw [key, IntKind.wrap_i64]
  omega
theorem aux8 (b : Int) (h0 : 0 ≤ b) (h1 : b ≤ 255) : ((b / 8 % 256) % 2 == 1) = (bits .and .u8 b 8 != 0) :=
  byte_all (p := fun b => ((b / 8 % 256) % 2 == 1) = (bits .and .u8 b 8 != 0)) (by decide +kernel) b h0 h1
def addR (a b : Int) (c : Bool) : Value := tup ((a + b + cI c) % 256) (decide (15 < a % 16 + b % 16 + cI c)) (decide (255 < a + b + cI c))
def subR (a b : Int) (c : Bool) : Value := tup ((a - b - cI c) % 256) (decide (15 < a % 16 + 15 - b % 16 + cI (!c))) (decide (a - b - cI c < 0))
theorem add23F_ok (a b : Int) (ha : 0 ≤ a) (ha' : a ≤ 255) (hb : 0 ≤ b) (hb' : b ≤ 255) : trusted (add23FT0 a b) ∧ add23FV0 a b = addR a b false := by
  unfold add23FT0 add23FV0 addR
  refine ⟨?_, ?_⟩
  · (first | simp (disch := omega) only [w64, wi64, IntKind.wrap_u8', IntKind.wrap_u16, Int.zero_add, Int.add_zero, Int.sub_zero, and128, Ly.and15, not8, and255, i64_and65535, tmodp, tdivp, aux8, cI, cond_true, cond_false, Bool.not_true, Bool.not_false, Bool.not_not, decide_not, trusted, Bool.and_eq_true, decide_eq_true_eq, and_true] | skip)
    first | done | omega | trivial
  · (first | simp (disch := omega) only [w64, wi64, IntKind.wrap_u8', IntKind.wrap_u16, Int.zero_add, Int.add_zero, Int.sub_zero, and128, Ly.and15, not8, and255, i64_and65535, tmodp, tdivp, aux8, cI, cond_true, cond_false, Bool.not_true, Bool.not_false, Bool.not_not, decide_not, trusted, Bool.and_eq_true, decide_eq_true_eq, and_true] | skip)
    first | done | rfl | exact tup_ext (by omega) (by first | rfl | (simp only [decide_eq_decide]; omega)) (by first | rfl | (simp only [decide_eq_decide]; omega) | (rw [← decide_not, decide_eq_decide]; omega) | (rw [Bool.eq_iff_iff]; simp only [Bool.not_eq_true', decide_eq_false_iff_not, decide_eq_true_eq]; omega)) | (simp only [Int.emod_emod_of_dvd _ (Int.dvd_refl _)])
theorem add23T_ok (a b : Int) (ha : 0 ≤ a) (ha' : a ≤ 255) (hb : 0 ≤ b) (hb' : b ≤ 255) : trusted (add23TT0 a b) ∧ add23TV0 a b = addR a b true := by
  unfold add23TT0 add23TV0 addR
  refine ⟨?_, ?_⟩
  · (first | simp (disch := omega) only [w64, wi64, IntKind.wrap_u8', IntKind.wrap_u16, Int.zero_add, Int.add_zero, Int.sub_zero, and128, Ly.and15, not8, and255, i64_and65535, tmodp, tdivp, aux8, cI, cond_true, cond_false, Bool.not_true, Bool.not_false, Bool.not_not, decide_not, trusted, Bool.and_eq_true, decide_eq_true_eq, and_true] | skip)
    first | done | omega | trivial
  · (first | simp (disch := omega) only [w64, wi64, IntKind.wrap_u8', IntKind.wrap_u16, Int.zero_add, Int.add_zero, Int.sub_zero, and128, Ly.and15, not8, and255, i64_and65535, tmodp, tdivp, aux8, cI, cond_true, cond_false, Bool.not_true, Bool.not_false, Bool.not_not, decide_not, trusted, Bool.and_eq_true, decide_eq_true_eq, and_true] | skip)
    first | done | rfl | exact tup_ext (by omega) (by first | rfl | (simp only [decide_eq_decide]; omega)) (by first | rfl | (simp only [decide_eq_decide]; omega) | (rw [← decide_not, decide_eq_decide]; omega) | (rw [Bool.eq_iff_iff]; simp only [Bool.not_eq_true', decide_eq_false_iff_not, decide_eq_true_eq]; omega)) | (simp only [Int.emod_emod_of_dvd _ (Int.dvd_refl _)])
theorem sub25F_ok (a b : Int) (ha : 0 ≤ a) (ha' : a ≤ 255) (hb : 0 ≤ b) (hb' : b ≤ 255) : trusted (sub25FT0 a b) ∧ sub25FV0 a b = subR a b false := by
  unfold sub25FT0 sub25FV0 subR
  refine ⟨?_, ?_⟩
  · (first | simp (disch := omega) only [w64, wi64, IntKind.wrap_u8', IntKind.wrap_u16, Int.zero_add, Int.add_zero, Int.sub_zero, and128, Ly.and15, not8, and255, i64_and65535, tmodp, tdivp, aux8, cI, cond_true, cond_false, Bool.not_true, Bool.not_false, Bool.not_not, decide_not, trusted, Bool.and_eq_true, decide_eq_true_eq, and_true] | skip)
    first | done | omega | trivial
  · (first | simp (disch := omega) only [w64, wi64, IntKind.wrap_u8', IntKind.wrap_u16, Int.zero_add, Int.add_zero, Int.sub_zero, and128, Ly.and15, not8, and255, i64_and65535, tmodp, tdivp, aux8, cI, cond_true, cond_false, Bool.not_true, Bool.not_false, Bool.not_not, decide_not, trusted, Bool.and_eq_true, decide_eq_true_eq, and_true] | skip)
    first | done | rfl | exact tup_ext (by omega) (by first | rfl | (simp only [decide_eq_decide]; omega)) (by first | rfl | (simp only [decide_eq_decide]; omega) | (rw [← decide_not, decide_eq_decide]; omega) | (rw [Bool.eq_iff_iff]; simp only [Bool.not_eq_true', decide_eq_false_iff_not, decide_eq_true_eq]; omega)) | (simp only [Int.emod_emod_of_dvd _ (Int.dvd_refl _)])
theorem sub25T_ok (a b : Int) (ha : 0 ≤ a) (ha' : a ≤ 255) (hb : 0 ≤ b) (hb' : b ≤ 255) : trusted (sub25TT0 a b) ∧ sub25TV0 a b = subR a b true := by
  unfold sub25TT0 sub25TV0 subR
  refine ⟨?_, ?_⟩
  · (first | simp (disch := omega) only [w64, wi64, IntKind.wrap_u8', IntKind.wrap_u16, Int.zero_add, Int.add_zero, Int.sub_zero, and128, Ly.and15, not8, and255, i64_and65535, tmodp, tdivp, aux8, cI, cond_true, cond_false, Bool.not_true, Bool.not_false, Bool.not_not, decide_not, trusted, Bool.and_eq_true, decide_eq_true_eq, and_true] | skip)
    first | done | omega | trivial
  · (first | simp (disch := omega) only [w64, wi64, IntKind.wrap_u8', IntKind.wrap_u16, Int.zero_add, Int.add_zero, Int.sub_zero, and128, Ly.and15, not8, and255, i64_and65535, tmodp, tdivp, aux8, cI, cond_true, cond_false, Bool.not_true, Bool.not_false, Bool.not_not, decide_not, trusted, Bool.and_eq_true, decide_eq_true_eq, and_true] | skip)
    first | done | rfl | exact tup_ext (by omega) (by first | rfl | (simp only [decide_eq_decide]; omega)) (by first | rfl | (simp only [decide_eq_decide]; omega) | (rw [← decide_not, decide_eq_decide]; omega) | (rw [Bool.eq_iff_iff]; simp only [Bool.not_eq_true', decide_eq_false_iff_not, decide_eq_true_eq]; omega)) | (simp only [Int.emod_emod_of_dvd _ (Int.dvd_refl _)])
end Go.Proofs.Ytnknopebjdgdjaa
namespace Go.Proofs.Ytnknopebjdgdjaa
open Go Go.Ly Go.RowKit
def con3 (r : Int → Int → Bool → Value) (l : List Value) : Option (Bool × Value) := match l with
  | [.int .u8 a, .int .u8 b, .bool c] => some (inb a && inb b, r a b c)
  | _ => none
theorem get23 : wctx.fn.get 18 = some Try.f18 := by kernel_rfl
theorem get25 : wctx.fn.get 19 = some Try.f19 := by kernel_rfl
theorem ans23 : Answers Try.prog 18 (con3 addR) := by
  intro args g v h hg
  unfold con3 at h
  split at h
  · rename_i a b c
    simp only [Option.some.injEq, Prod.mk.injEq] at h
    obtain ⟨rfl, rfl⟩ := h
    simp only [Bool.and_eq_true, inb_iff] at hg
    obtain ⟨⟨h0, h1⟩, h2, h3⟩ := hg
    refine ⟨by simp [plain, plainL], tup_plain _ _ _, fun w => ?_⟩
    cases c with
    | false =>
      obtain ⟨ht, hv⟩ := add23F_ok a b h0 h1 h2 h3
      rw [← hv]
      exact calls_trust wok 20000 _ get23 (by kernel_rfl) (by simp [plain, plainL]) (by rw [hv]; exact tup_plain _ _ _) (add23FR0 a b) ht w
    | true =>
      obtain ⟨ht, hv⟩ := add23T_ok a b h0 h1 h2 h3
      rw [← hv]
      exact calls_trust wok 20000 _ get23 (by kernel_rfl) (by simp [plain, plainL]) (by rw [hv]; exact tup_plain _ _ _) (add23TR0 a b) ht w
  · cases h
theorem ans25 : Answers Try.prog 19 (con3 subR) := by
  intro args g v h hg
  unfold con3 at h
  split at h
  · rename_i a b c
    simp only [Option.some.injEq, Prod.mk.injEq] at h
    obtain ⟨rfl, rfl⟩ := h
    simp only [Bool.and_eq_true, inb_iff] at hg
    obtain ⟨⟨h0, h1⟩, h2, h3⟩ := hg
    refine ⟨by simp [plain, plainL], tup_plain _ _ _, fun w => ?_⟩
    cases c with
    | false =>
      obtain ⟨ht, hv⟩ := sub25F_ok a b h0 h1 h2 h3
      rw [← hv]
      exact calls_trust wok 20000 _ get25 (by kernel_rfl) (by simp [plain, plainL]) (by rw [hv]; exact tup_plain _ _ _) (sub25FR0 a b) ht w
    | true =>
      obtain ⟨ht, hv⟩ := sub25T_ok a b h0 h1 h2 h3
      rw [← hv]
      exact calls_trust wok 20000 _ get25 (by kernel_rfl) (by simp [plain, plainL]) (by rw [hv]; exact tup_plain _ _ _) (sub25TR0 a b) ht w
  · cases h
end Go.Proofs.Ytnknopebjdgdjaa
namespace Go.Proofs.Ytnknopebjdgdjaa
open Go Go.Ly Go.RowKit
def xctx : Ctx := wctx.with 18 (con3 addR) |>.with 19 (con3 subR)
theorem xok : xctx.Ok Try.prog := wok.with ans23 |>.with ans25
end Go.Proofs.Ytnknopebjdgdjaa
end
