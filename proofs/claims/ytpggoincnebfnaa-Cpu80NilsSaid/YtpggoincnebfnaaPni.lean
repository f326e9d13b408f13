/- Part 9 of the texts that the law needs, laid together. By program (pack.py). -/
import Derived.Test.YtpggoincnebfnaaPng
import Derived.Test.YtpggoincnebfnaaPnh
import Derived.KernelRfl
import Derived.OpenShut
set_option linter.unusedVariables false
set_option linter.unusedSimpArgs false
noncomputable section
namespace Go.Proofs.Ytpggoincnebfnaa
open Go Go.Ly Go.RowKit
def gM (g : Nat → Int) : Rw := Rw.gen 65536 fun i _ => .int .u8 (g (0 + i))
def eqM (g : Nat → Int) : Bool := Nat.beq (gM g).n (gM g).n && eqU (gM g).n (gM g).at (gM g).at
theorem eqM_true (g : Nat → Int) : eqM g = true := by unfold eqM; rw [eqU_true (fun _ _ => rfl), Nat.beq_refl]; rfl
theorem gS15 : ctxS.fn.get 15 = some Try.f15 := by kernel_rfl
theorem sm_nn0 (m : Mc) (g f fp fb : Nat → Int) (j n N q : Nat) : endsAt [0, 1, 2, 3, 4] (Ly.run ctxS 3000 [(3, true)] (Ly.start Try.f15 [ptr 0, ptr 1] (mkH (sameC m g nilV nilV nilV nilV 2 3 4 [] [])))) = some ([(cdec (IsSame (mkH (sameC m g nilV nilV nilV nilV 2 3 4 [] []))), true)], .bool (eqM g), 5, sameC m g nilV nilV nilV nilV 2 3 4 [] []) := by kernel_rfl
theorem sq_nn0 (m : Mc) (g f fp fb : Nat → Int) (j n N q : Nat) (h : j + (n + 1) ≤ N) (hn : n + 1 ≤ 9223372036854775807) (hq : q ≤ 9223372036854775806) : Ly.Ends Try.prog 15 [ptr 0, ptr 1] (sameC m g nilV nilV nilV nilV 2 3 4 [] []) [0, 1, 2, 3, 4] (.bool true) 5 (sameC m g nilV nilV nilV nilV 2 3 4 [] []) := by
  have hS : IsSame (mkH (sameC m g nilV nilV nilV nilV 2 3 4 [] [])) := ⟨m, g, f, fp, fb, j, n, N, q, h, hn, hq, .inl rfl⟩
  have e := Ends.of_run ctxS_ok 3000 _ gS15 (by kernel_rfl) (sm_nn0 m g f fp fb j n N q) ⟨cdec_true hS, trivial⟩
  rw [eqM_true] at e
  exact e
theorem sm_nn1 (m : Mc) (g f fp fb : Nat → Int) (j n N q : Nat) : endsAt [0, 1, 2, 3, 4, 5, 6] (Ly.run ctxS 3000 [(3, true)] (Ly.start Try.f15 [ptr 0, ptr 1] (mkH (sameC m g nilV (sls 2 q) nilV (sls 5 q) 3 4 6 [some (outF fp fb q)] [some (outF fp fb q)])))) = some ([(cdec (IsSame (mkH (sameC m g nilV (sls 2 q) nilV (sls 5 q) 3 4 6 [some (outF fp fb q)] [some (outF fp fb q)]))), true)], .bool (eqM g), 7, sameC m g nilV (sls 2 q) nilV (sls 5 q) 3 4 6 [some (outF fp fb q)] [some (outF fp fb q)]) := by kernel_rfl
theorem sq_nn1 (m : Mc) (g f fp fb : Nat → Int) (j n N q : Nat) (h : j + (n + 1) ≤ N) (hn : n + 1 ≤ 9223372036854775807) (hq : q ≤ 9223372036854775806) : Ly.Ends Try.prog 15 [ptr 0, ptr 1] (sameC m g nilV (sls 2 q) nilV (sls 5 q) 3 4 6 [some (outF fp fb q)] [some (outF fp fb q)]) [0, 1, 2, 3, 4, 5, 6] (.bool true) 7 (sameC m g nilV (sls 2 q) nilV (sls 5 q) 3 4 6 [some (outF fp fb q)] [some (outF fp fb q)]) := by
  have hS : IsSame (mkH (sameC m g nilV (sls 2 q) nilV (sls 5 q) 3 4 6 [some (outF fp fb q)] [some (outF fp fb q)])) := ⟨m, g, f, fp, fb, j, n, N, q, h, hn, hq, .inr (.inl rfl)⟩
  have e := Ends.of_run ctxS_ok 3000 _ gS15 (by kernel_rfl) (sm_nn1 m g f fp fb j n N q) ⟨cdec_true hS, trivial⟩
  rw [eqM_true] at e
  exact e
theorem sm_ne0 (m : Mc) (g f fp fb : Nat → Int) (j n N q : Nat) : endsAt [0, 1, 2, 3, 4] (Ly.run ctxS 3000 [(3, true)] (Ly.start Try.f15 [ptr 0, ptr 1] (mkH (sameC m g nilV nilV (empV 1) nilV 2 3 4 [] [])))) = some ([(cdec (IsSame (mkH (sameC m g nilV nilV (empV 1) nilV 2 3 4 [] []))), true)], .bool (eqM g), 5, sameC m g nilV nilV (empV 1) nilV 2 3 4 [] []) := by kernel_rfl
theorem sq_ne0 (m : Mc) (g f fp fb : Nat → Int) (j n N q : Nat) (h : j + (n + 1) ≤ N) (hn : n + 1 ≤ 9223372036854775807) (hq : q ≤ 9223372036854775806) : Ly.Ends Try.prog 15 [ptr 0, ptr 1] (sameC m g nilV nilV (empV 1) nilV 2 3 4 [] []) [0, 1, 2, 3, 4] (.bool true) 5 (sameC m g nilV nilV (empV 1) nilV 2 3 4 [] []) := by
  have hS : IsSame (mkH (sameC m g nilV nilV (empV 1) nilV 2 3 4 [] [])) := ⟨m, g, f, fp, fb, j, n, N, q, h, hn, hq, .inr (.inr (.inl rfl))⟩
  have e := Ends.of_run ctxS_ok 3000 _ gS15 (by kernel_rfl) (sm_ne0 m g f fp fb j n N q) ⟨cdec_true hS, trivial⟩
  rw [eqM_true] at e
  exact e
theorem sm_ne1 (m : Mc) (g f fp fb : Nat → Int) (j n N q : Nat) : endsAt [0, 1, 2, 3, 4, 5, 6] (Ly.run ctxS 3000 [(3, true)] (Ly.start Try.f15 [ptr 0, ptr 1] (mkH (sameC m g nilV (sls 2 q) (empV 1) (sls 5 q) 3 4 6 [some (outF fp fb q)] [some (outF fp fb q)])))) = some ([(cdec (IsSame (mkH (sameC m g nilV (sls 2 q) (empV 1) (sls 5 q) 3 4 6 [some (outF fp fb q)] [some (outF fp fb q)]))), true)], .bool (eqM g), 7, sameC m g nilV (sls 2 q) (empV 1) (sls 5 q) 3 4 6 [some (outF fp fb q)] [some (outF fp fb q)]) := by kernel_rfl
theorem sq_ne1 (m : Mc) (g f fp fb : Nat → Int) (j n N q : Nat) (h : j + (n + 1) ≤ N) (hn : n + 1 ≤ 9223372036854775807) (hq : q ≤ 9223372036854775806) : Ly.Ends Try.prog 15 [ptr 0, ptr 1] (sameC m g nilV (sls 2 q) (empV 1) (sls 5 q) 3 4 6 [some (outF fp fb q)] [some (outF fp fb q)]) [0, 1, 2, 3, 4, 5, 6] (.bool true) 7 (sameC m g nilV (sls 2 q) (empV 1) (sls 5 q) 3 4 6 [some (outF fp fb q)] [some (outF fp fb q)]) := by
  have hS : IsSame (mkH (sameC m g nilV (sls 2 q) (empV 1) (sls 5 q) 3 4 6 [some (outF fp fb q)] [some (outF fp fb q)])) := ⟨m, g, f, fp, fb, j, n, N, q, h, hn, hq, .inr (.inr (.inr (.inl rfl)))⟩
  have e := Ends.of_run ctxS_ok 3000 _ gS15 (by kernel_rfl) (sm_ne1 m g f fp fb j n N q) ⟨cdec_true hS, trivial⟩
  rw [eqM_true] at e
  exact e
theorem sm_en0 (m : Mc) (g f fp fb : Nat → Int) (j n N q : Nat) : endsAt [0, 1, 2, 3, 4] (Ly.run ctxS 3000 [(3, true)] (Ly.start Try.f15 [ptr 0, ptr 1] (mkH (sameC m g (empV 0) nilV nilV nilV 2 3 4 [] [])))) = some ([(cdec (IsSame (mkH (sameC m g (empV 0) nilV nilV nilV 2 3 4 [] []))), true)], .bool (eqM g), 5, sameC m g (empV 0) nilV nilV nilV 2 3 4 [] []) := by kernel_rfl
theorem sq_en0 (m : Mc) (g f fp fb : Nat → Int) (j n N q : Nat) (h : j + (n + 1) ≤ N) (hn : n + 1 ≤ 9223372036854775807) (hq : q ≤ 9223372036854775806) : Ly.Ends Try.prog 15 [ptr 0, ptr 1] (sameC m g (empV 0) nilV nilV nilV 2 3 4 [] []) [0, 1, 2, 3, 4] (.bool true) 5 (sameC m g (empV 0) nilV nilV nilV 2 3 4 [] []) := by
  have hS : IsSame (mkH (sameC m g (empV 0) nilV nilV nilV 2 3 4 [] [])) := ⟨m, g, f, fp, fb, j, n, N, q, h, hn, hq, .inr (.inr (.inr (.inr (.inl rfl))))⟩
  have e := Ends.of_run ctxS_ok 3000 _ gS15 (by kernel_rfl) (sm_en0 m g f fp fb j n N q) ⟨cdec_true hS, trivial⟩
  rw [eqM_true] at e
  exact e
theorem sm_en1 (m : Mc) (g f fp fb : Nat → Int) (j n N q : Nat) : endsAt [0, 1, 2, 3, 4, 5, 6] (Ly.run ctxS 3000 [(3, true)] (Ly.start Try.f15 [ptr 0, ptr 1] (mkH (sameC m g (empV 0) (sls 2 q) nilV (sls 5 q) 3 4 6 [some (outF fp fb q)] [some (outF fp fb q)])))) = some ([(cdec (IsSame (mkH (sameC m g (empV 0) (sls 2 q) nilV (sls 5 q) 3 4 6 [some (outF fp fb q)] [some (outF fp fb q)]))), true)], .bool (eqM g), 7, sameC m g (empV 0) (sls 2 q) nilV (sls 5 q) 3 4 6 [some (outF fp fb q)] [some (outF fp fb q)]) := by kernel_rfl
theorem sq_en1 (m : Mc) (g f fp fb : Nat → Int) (j n N q : Nat) (h : j + (n + 1) ≤ N) (hn : n + 1 ≤ 9223372036854775807) (hq : q ≤ 9223372036854775806) : Ly.Ends Try.prog 15 [ptr 0, ptr 1] (sameC m g (empV 0) (sls 2 q) nilV (sls 5 q) 3 4 6 [some (outF fp fb q)] [some (outF fp fb q)]) [0, 1, 2, 3, 4, 5, 6] (.bool true) 7 (sameC m g (empV 0) (sls 2 q) nilV (sls 5 q) 3 4 6 [some (outF fp fb q)] [some (outF fp fb q)]) := by
  have hS : IsSame (mkH (sameC m g (empV 0) (sls 2 q) nilV (sls 5 q) 3 4 6 [some (outF fp fb q)] [some (outF fp fb q)])) := ⟨m, g, f, fp, fb, j, n, N, q, h, hn, hq, .inr (.inr (.inr (.inr (.inr (.inl rfl)))))⟩
  have e := Ends.of_run ctxS_ok 3000 _ gS15 (by kernel_rfl) (sm_en1 m g f fp fb j n N q) ⟨cdec_true hS, trivial⟩
  rw [eqM_true] at e
  exact e
theorem sm_ee0 (m : Mc) (g f fp fb : Nat → Int) (j n N q : Nat) : endsAt [0, 1, 2, 3, 4] (Ly.run ctxS 3000 [(3, true)] (Ly.start Try.f15 [ptr 0, ptr 1] (mkH (sameC m g (empV 0) nilV (empV 1) nilV 2 3 4 [] [])))) = some ([(cdec (IsSame (mkH (sameC m g (empV 0) nilV (empV 1) nilV 2 3 4 [] []))), true)], .bool (eqM g), 5, sameC m g (empV 0) nilV (empV 1) nilV 2 3 4 [] []) := by kernel_rfl
theorem sq_ee0 (m : Mc) (g f fp fb : Nat → Int) (j n N q : Nat) (h : j + (n + 1) ≤ N) (hn : n + 1 ≤ 9223372036854775807) (hq : q ≤ 9223372036854775806) : Ly.Ends Try.prog 15 [ptr 0, ptr 1] (sameC m g (empV 0) nilV (empV 1) nilV 2 3 4 [] []) [0, 1, 2, 3, 4] (.bool true) 5 (sameC m g (empV 0) nilV (empV 1) nilV 2 3 4 [] []) := by
  have hS : IsSame (mkH (sameC m g (empV 0) nilV (empV 1) nilV 2 3 4 [] [])) := ⟨m, g, f, fp, fb, j, n, N, q, h, hn, hq, .inr (.inr (.inr (.inr (.inr (.inr (.inl rfl))))))⟩
  have e := Ends.of_run ctxS_ok 3000 _ gS15 (by kernel_rfl) (sm_ee0 m g f fp fb j n N q) ⟨cdec_true hS, trivial⟩
  rw [eqM_true] at e
  exact e
theorem sm_ee1 (m : Mc) (g f fp fb : Nat → Int) (j n N q : Nat) : endsAt [0, 1, 2, 3, 4, 5, 6] (Ly.run ctxS 3000 [(3, true)] (Ly.start Try.f15 [ptr 0, ptr 1] (mkH (sameC m g (empV 0) (sls 2 q) (empV 1) (sls 5 q) 3 4 6 [some (outF fp fb q)] [some (outF fp fb q)])))) = some ([(cdec (IsSame (mkH (sameC m g (empV 0) (sls 2 q) (empV 1) (sls 5 q) 3 4 6 [some (outF fp fb q)] [some (outF fp fb q)]))), true)], .bool (eqM g), 7, sameC m g (empV 0) (sls 2 q) (empV 1) (sls 5 q) 3 4 6 [some (outF fp fb q)] [some (outF fp fb q)]) := by kernel_rfl
theorem sq_ee1 (m : Mc) (g f fp fb : Nat → Int) (j n N q : Nat) (h : j + (n + 1) ≤ N) (hn : n + 1 ≤ 9223372036854775807) (hq : q ≤ 9223372036854775806) : Ly.Ends Try.prog 15 [ptr 0, ptr 1] (sameC m g (empV 0) (sls 2 q) (empV 1) (sls 5 q) 3 4 6 [some (outF fp fb q)] [some (outF fp fb q)]) [0, 1, 2, 3, 4, 5, 6] (.bool true) 7 (sameC m g (empV 0) (sls 2 q) (empV 1) (sls 5 q) 3 4 6 [some (outF fp fb q)] [some (outF fp fb q)]) := by
  have hS : IsSame (mkH (sameC m g (empV 0) (sls 2 q) (empV 1) (sls 5 q) 3 4 6 [some (outF fp fb q)] [some (outF fp fb q)])) := ⟨m, g, f, fp, fb, j, n, N, q, h, hn, hq, .inr (.inr (.inr (.inr (.inr (.inr (.inr (.inl rfl)))))))⟩
  have e := Ends.of_run ctxS_ok 3000 _ gS15 (by kernel_rfl) (sm_ee1 m g f fp fb j n N q) ⟨cdec_true hS, trivial⟩
  rw [eqM_true] at e
  exact e
theorem sm_rr0 (m : Mc) (g f fp fb : Nat → Int) (j n N q : Nat) : endsAt [0, 1, 2, 3, 4, 5, 6] (Ly.run ctxS 3000 [(3, true)] (Ly.start Try.f15 [ptr 0, ptr 1] (mkH (sameC m g (inV 2 j (n + 1)) nilV (inV 5 j (n + 1)) nilV 3 4 6 [some (rowP f N)] [some (rowR f N)])))) = some ([(cdec (IsSame (mkH (sameC m g (inV 2 j (n + 1)) nilV (inV 5 j (n + 1)) nilV 3 4 6 [some (rowP f N)] [some (rowR f N)]))), true)], .bool (eqM g), 7, sameC m g (inV 2 j (n + 1)) nilV (inV 5 j (n + 1)) nilV 3 4 6 [some (rowP f N)] [some (rowR f N)]) := by kernel_rfl
theorem sq_rr0 (m : Mc) (g f fp fb : Nat → Int) (j n N q : Nat) (h : j + (n + 1) ≤ N) (hn : n + 1 ≤ 9223372036854775807) (hq : q ≤ 9223372036854775806) : Ly.Ends Try.prog 15 [ptr 0, ptr 1] (sameC m g (inV 2 j (n + 1)) nilV (inV 5 j (n + 1)) nilV 3 4 6 [some (rowP f N)] [some (rowR f N)]) [0, 1, 2, 3, 4, 5, 6] (.bool true) 7 (sameC m g (inV 2 j (n + 1)) nilV (inV 5 j (n + 1)) nilV 3 4 6 [some (rowP f N)] [some (rowR f N)]) := by
  have hS : IsSame (mkH (sameC m g (inV 2 j (n + 1)) nilV (inV 5 j (n + 1)) nilV 3 4 6 [some (rowP f N)] [some (rowR f N)])) := ⟨m, g, f, fp, fb, j, n, N, q, h, hn, hq, .inr (.inr (.inr (.inr (.inr (.inr (.inr (.inr (.inl rfl))))))))⟩
  have e := Ends.of_run ctxS_ok 3000 _ gS15 (by kernel_rfl) (sm_rr0 m g f fp fb j n N q) ⟨cdec_true hS, trivial⟩
  rw [eqM_true] at e
  exact e
theorem sm_rr1 (m : Mc) (g f fp fb : Nat → Int) (j n N q : Nat) : endsAt [0, 1, 2, 3, 4, 5, 6, 7, 8] (Ly.run ctxS 3000 [(3, true)] (Ly.start Try.f15 [ptr 0, ptr 1] (mkH (sameC m g (inV 2 j (n + 1)) (sls 3 q) (inV 6 j (n + 1)) (sls 7 q) 4 5 8 [some (rowP f N), some (outF fp fb q)] [some (rowR f N), some (outF fp fb q)])))) = some ([(cdec (IsSame (mkH (sameC m g (inV 2 j (n + 1)) (sls 3 q) (inV 6 j (n + 1)) (sls 7 q) 4 5 8 [some (rowP f N), some (outF fp fb q)] [some (rowR f N), some (outF fp fb q)]))), true)], .bool (eqM g), 9, sameC m g (inV 2 j (n + 1)) (sls 3 q) (inV 6 j (n + 1)) (sls 7 q) 4 5 8 [some (rowP f N), some (outF fp fb q)] [some (rowR f N), some (outF fp fb q)]) := by kernel_rfl
theorem sq_rr1 (m : Mc) (g f fp fb : Nat → Int) (j n N q : Nat) (h : j + (n + 1) ≤ N) (hn : n + 1 ≤ 9223372036854775807) (hq : q ≤ 9223372036854775806) : Ly.Ends Try.prog 15 [ptr 0, ptr 1] (sameC m g (inV 2 j (n + 1)) (sls 3 q) (inV 6 j (n + 1)) (sls 7 q) 4 5 8 [some (rowP f N), some (outF fp fb q)] [some (rowR f N), some (outF fp fb q)]) [0, 1, 2, 3, 4, 5, 6, 7, 8] (.bool true) 9 (sameC m g (inV 2 j (n + 1)) (sls 3 q) (inV 6 j (n + 1)) (sls 7 q) 4 5 8 [some (rowP f N), some (outF fp fb q)] [some (rowR f N), some (outF fp fb q)]) := by
  have hS : IsSame (mkH (sameC m g (inV 2 j (n + 1)) (sls 3 q) (inV 6 j (n + 1)) (sls 7 q) 4 5 8 [some (rowP f N), some (outF fp fb q)] [some (rowR f N), some (outF fp fb q)])) := ⟨m, g, f, fp, fb, j, n, N, q, h, hn, hq, .inr (.inr (.inr (.inr (.inr (.inr (.inr (.inr (.inr (rfl)))))))))⟩
  have e := Ends.of_run ctxS_ok 3000 _ gS15 (by kernel_rfl) (sm_rr1 m g f fp fb j n N q) ⟨cdec_true hS, trivial⟩
  rw [eqM_true] at e
  exact e
end Go.Proofs.Ytpggoincnebfnaa
namespace Go.Proofs.Ytpggoincnebfnaa
open Go Go.Ly Go.RowKit
structure Sv where
  r0 : Int
  r1 : Int
  r2 : Int
  r3 : Int
  r4 : Int
  r5 : Int
  r6 : Int
  r7 : Int
  fs : Bool
  fz : Bool
  fx : Bool
  fp : Bool
  fc : Bool
  sp : Int
  pc : Int
  ie : Bool
def svV (s : Sv) (i m : Value) : Value := .agg ⟨[.int .u8 s.r0, .int .u8 s.r1, .int .u8 s.r2, .int .u8 s.r3, .int .u8 s.r4, .int .u8 s.r5, .int .u8 s.r6, .int .u8 s.r7, .bool s.fs, .bool s.fz, .bool s.fx, .bool s.fp, .bool s.fc, .int .u16 s.sp, .int .u16 s.pc, .bool s.ie, i, m]⟩
def nilS : Value := .slice none 0 0
end Go.Proofs.Ytpggoincnebfnaa
namespace Go.Proofs.Ytpggoincnebfnaa
open Go Go.Ly Go.RowKit
def Sv.Ok (s : Sv) : Prop := (B8 s.r0 ∧ B8 s.r1 ∧ B8 s.r2 ∧ B8 s.r3 ∧ B8 s.r4 ∧ B8 s.r5 ∧ B8 s.r6 ∧ B8 s.r7) ∧ B16 s.sp ∧ B16 s.pc
theorem ck_bytes2 {w : World} {v : Value} (h : CkOk w (.slice [.int .u16, .int .u8]) v) : v = .slice none 0 0 ∨ ∃ (n : Nat) (a b : Nat → Int) (p : Option Plc),
    RealRows w 2 (fun e j => match j with | 0 => .int .u16 (a e) | _ + 1 => .int .u8 (b e)) n v p ∧ (∀ e, e < n → B16 (a e) ∧ B8 (b e)) ∧ n ≤ maxLen := by
  rcases ck_rows rfl (by decide) h with rfl | ⟨n, F, p, hr, hF, hn⟩
  · exact .inl rfl
  · right
    have key : ∀ e, e < n → ∃ x y, F e = [.int .u16 x, .int .u8 y] ∧ (Lit.int .u16 x).wf = true ∧ (Lit.int .u8 y).wf = true := by
      intro e he
      have := hF e he
      simp only [CksOk, CkOk] at this
      obtain ⟨v1, r1, e1, ⟨x, rfl, hx⟩, v2, r2, rfl, ⟨y, rfl, hy⟩, rfl⟩ := this
      exact ⟨x, y, e1, hx, hy⟩
    refine ⟨n, fun e => intV ((F e)[0]?.getD undef), fun e => intV ((F e)[1]?.getD undef), p, hr.congr (fun e j he hj => ?_), fun e he => ?_, hn⟩
    · obtain ⟨x, y, e1, _, _⟩ := key e he
      have : j = 0 ∨ j = 1 := by simp at hj; omega
      rcases this with rfl | rfl <;> simp [e1, intV]
    · obtain ⟨x, y, e1, hx, hy⟩ := key e he
      simp only [e1, List.getElem?_cons_zero, List.getElem?_cons_succ, Option.getD_some, intV]
      exact ⟨bounds_u16 hx, bounds_u8 hy⟩
theorem ck_in {w : World} {v : Value} (h : CkOk w (.slice [.int .u8]) v) : v = .slice none 0 0 ∨ ∃ (n : Nat) (f : Nat → Int) (p : Option Plc),
    RealRows w 1 (fun e _ => .int .u8 (f e)) n v p ∧ (∀ e, e < n → B8 (f e)) ∧ n ≤ maxLen := by
  rcases ck_rows rfl (by decide) h with rfl | ⟨n, F, p, hr, hF, hn⟩
  · exact .inl rfl
  · right
    have key : ∀ e, e < n → ∃ y, F e = [.int .u8 y] ∧ (Lit.int .u8 y).wf = true := by
      intro e he
      have := hF e he
      simp only [CksOk, CkOk] at this
      obtain ⟨v2, r2, e1, ⟨y, rfl, hy⟩, rfl⟩ := this
      exact ⟨y, e1, hy⟩
    refine ⟨n, fun e => intV ((F e)[0]?.getD undef), p, hr.congr (fun e j he hj => ?_), fun e he => ?_, hn⟩
    · obtain ⟨y, e1, _⟩ := key e he
      have : j = 0 := by simp at hj; omega
      subst this
      simp [e1, intV]
    · obtain ⟨y, e1, hy⟩ := key e he
      simp only [e1, List.getElem?_cons_zero, Option.getD_some, intV]
      exact bounds_u8 hy
def InRow (w : World) (i : Nat) (f : Nat → Int) (n : Nat) (loc v : Value) (p : Option Plc) : Prop := (loc = .slice none 0 0 ∧ v = .slice none 0 0 ∧ n = 0 ∧ p = none) ∨ (loc = sl i n ∧ RealRows w 1 (fun e _ => .int .u8 (f e)) n v p)
theorem sv_open {W : World} {v : Value} (h : ∃ cs, v = .agg ⟨cs⟩ ∧ CksOk W [.int .u8, .int .u8, .int .u8, .int .u8, .int .u8, .int .u8, .int .u8, .int .u8, .bool, .bool, .bool, .bool, .bool, .int .u16, .int .u16, .bool, .slice [.int .u8], .slice [.int .u16, .int .u8]] cs) :
    ∃ (s : Sv) (iv mv : Value), s.Ok ∧ v = svV s iv mv ∧ CkOk W (.slice [.int .u8]) iv ∧ CkOk W (.slice [.int .u16, .int .u8]) mv := by
  obtain ⟨cs, rfl, h⟩ := h
  simp only [CksOk] at h
  obtain ⟨v0, _, rfl, c0, v1, _, rfl, c1, v2, _, rfl, c2, v3, _, rfl, c3, v4, _, rfl, c4, v5, _, rfl, c5, v6, _, rfl, c6, v7, _, rfl, c7, v8, _, rfl, c8, v9, _, rfl, c9, v10, _, rfl, c10, v11, _, rfl, c11, v12, _, rfl, c12, v13, _, rfl, c13, v14, _, rfl, c14, v15, _, rfl, c15, v16, _, rfl, c16, v17, _, rfl, c17, rfl⟩ := h
  simp only [CkOk] at c0 c1 c2 c3 c4 c5 c6 c7 c8 c9 c10 c11 c12 c13 c14 c15
  obtain ⟨n0, rfl, w0⟩ := c0
  obtain ⟨n1, rfl, w1⟩ := c1
  obtain ⟨n2, rfl, w2⟩ := c2
  obtain ⟨n3, rfl, w3⟩ := c3
  obtain ⟨n4, rfl, w4⟩ := c4
  obtain ⟨n5, rfl, w5⟩ := c5
  obtain ⟨n6, rfl, w6⟩ := c6
  obtain ⟨n7, rfl, w7⟩ := c7
  obtain ⟨b8, rfl⟩ := c8
  obtain ⟨b9, rfl⟩ := c9
  obtain ⟨b10, rfl⟩ := c10
  obtain ⟨b11, rfl⟩ := c11
  obtain ⟨b12, rfl⟩ := c12
  obtain ⟨n13, rfl, w13⟩ := c13
  obtain ⟨n14, rfl, w14⟩ := c14
  obtain ⟨b15, rfl⟩ := c15
  exact ⟨⟨n0, n1, n2, n3, n4, n5, n6, n7, b8, b9, b10, b11, b12, n13, n14, b15⟩, v16, v17,
    ⟨⟨bounds_u8 w0, bounds_u8 w1, bounds_u8 w2, bounds_u8 w3, bounds_u8 w4, bounds_u8 w5, bounds_u8 w6, bounds_u8 w7⟩, bounds_u16 w13, bounds_u16 w14⟩, rfl, c16, c17⟩
theorem in_cases {w : World} {v : Value} (h : CkOk w (.slice [.int .u8]) v) : ∃ (f : Nat → Int) (n : Nat) (loc : Value) (p : Option Plc), InRow w 0 f n loc v p ∧ (∀ e, e < n → B8 (f e)) ∧ n ≤ maxLen := by
  rcases ck_in h with rfl | ⟨n, f, p, hr, hf, hn⟩
  · exact ⟨fun _ => 0, 0, .slice none 0 0, none, .inl ⟨rfl, rfl, rfl, rfl⟩, fun e he => by omega, by simp [maxLen]⟩
  · exact ⟨f, n, sl 0 n, p, .inr ⟨rfl, hr⟩, hf, hn⟩
end Go.Proofs.Ytpggoincnebfnaa
namespace Go.Proofs.Ytpggoincnebfnaa
open Go Go.Ly Go.RowKit
def ctxO : Ctx := ctx5.withH 25 memC |>.with 11 aliveC
theorem ctxO_ok : ctxO.Ok Try.prog := (ctx5_ok.withH memC_good).with alive_ans
def ctxH : Ctx := haltAt (haltAt (haltAt (haltAt (haltAt ctxO 13) 14) 15) 16) 17
theorem ctxH_ok : ctxH.Ok Try.prog := haltAt_ok (haltAt_ok (haltAt_ok (haltAt_ok (haltAt_ok ctxO_ok 13) 14) 15) 16) 17
end Go.Proofs.Ytpggoincnebfnaa
namespace Go.Ly
open Go.RowKit
def cleanB (H : Heap) : Nat → Bool
  | 0 => true
  | n + 1 => (match H.get n with | some o => noTokO o | none => true) && cleanB H n
theorem cleanB_spec {H : Heap} : ∀ (n : Nat), cleanB H n = true → ∀ i, i < n → ∀ o, H.get i = some o → noTokO o = true
  | 0, _, i, hi, _, _ => by omega
  | n + 1, h, i, hi, o, ho => by
    simp only [cleanB, Bool.and_eq_true] at h
    rcases Nat.lt_or_ge i n with h1 | h1
    · exact cleanB_spec n h.2 i h1 o ho
    · have : i = n := by omega
      subst this
      have h2 := h.1
      rw [ho] at h2; exact h2
def haltG (keep bs : List Nat) (nx : Nat) (d : St) (r : RO) : Bool × List (Bool × Bool) × Bool × (Func × List KI × Option Tmp × Nat) × List Value × (Bool × Bool × Bool) × List (Option LO) := (r.isHalt, r.trust, (r.st d).rest.isEmpty && Nat.blt (r.st d).top.fn.ntmps 1000000, ((r.st d).top.fn, (r.st d).top.k, (r.st d).top.dst, (r.st d).base), keepV keep (r.st d).top.fn.ntmps (r.st d).top.t, (Nat.beq (r.st d).H.next nx, Nat.beq (r.st d).H.lock 0, cleanB (r.st d).H nx), bs.map (r.st d).H.get)
section
variable {P : Program} {C : Ctx} {Q : Value → Heap → Prop}
theorem MWp.haltG (hC : C.Ok P) {S d : St} {t : List (Bool × Bool)} {fn : Func} {k : List KI} {dst : Option Tmp} {base nx : Nat} {vals : List Value} {os : List (Option LO)} (keep bs : List Nat) (n : Nat) (p : Path)
    (h : Go.Ly.haltG keep bs nx d (run C n p S) = (true, t, true, (fn, k, dst, base), vals, (true, true, true), os)) (ht : trusted t)
    (hs : ∀ H, H.next = nx → H.lock = 0 → Clean H → bs.map H.get = os → MWp P (atSt fn k dst base vals H) Q) : MWp P S Q := by
  simp only [Go.Ly.haltG, Prod.mk.injEq] at h
  obtain ⟨h1, h2, h3, ⟨h4, h5, h6, h7⟩, h8, ⟨h9, h10, h11⟩, h12⟩ := h
  have hn := Nat.eq_of_beq_eq_true h9
  refine MWp.halted (H := ((run C n p S).st d).H) (fn := fn) (k := k) (dst := dst) (base := base) (vals := vals) hC keep n p (d := d) ?_ ht ?_
  · simp only [haltF, Prod.mk.injEq]
    exact ⟨h1, h2, h3, ⟨h4, h5, h6, h7⟩, h8, trivial⟩
  · refine MWp.ltn fun hlt hsm => ?_
    exact hs _ hn (Nat.eq_of_beq_eq_true h10) (fun i o ho => cleanB_spec nx h11 i (by rw [← hn]; exact hlt i o ho) o ho) h12
def haltH (keep bs : List Nat) (nx : Nat) (d : St) (r : RO) : Bool × List (Bool × Bool) × Bool × (Func × List KI × Option Tmp × Nat) × List Value × (Bool × Bool × Bool) × List (Option LO) := forceTr forceO (r.st d).top.t fun t => forceTr forceLO (r.st d).H.m fun hm => (r.isHalt, r.trust, (r.st d).rest.isEmpty && Nat.blt (r.st d).top.fn.ntmps 1000000, ((r.st d).top.fn, (r.st d).top.k, (r.st d).top.dst, (r.st d).base), keepV keep (r.st d).top.fn.ntmps t, (Nat.beq (r.st d).H.next nx, Nat.beq (r.st d).H.lock 0, cleanB { m := hm, next := (r.st d).H.next, lock := (r.st d).H.lock } nx), bs.map (Heap.get { m := hm, next := (r.st d).H.next, lock := (r.st d).H.lock }))
theorem haltH_eq (keep bs : List Nat) (nx : Nat) (d : St) (r : RO) : haltH keep bs nx d r = Go.Ly.haltG keep bs nx d r := by
  unfold haltH Go.Ly.haltG
  rw [forceTr_eq forceO_eq, forceTr_eq forceLO_eq]
theorem MWp.haltH (hC : C.Ok P) {S d : St} {t : List (Bool × Bool)} {fn : Func} {k : List KI} {dst : Option Tmp} {base nx : Nat} {vals : List Value} {os : List (Option LO)} (keep bs : List Nat) (n : Nat) (p : Path)
    (h : Go.Ly.haltH keep bs nx d (run C n p S) = (true, t, true, (fn, k, dst, base), vals, (true, true, true), os)) (ht : trusted t)
    (hs : ∀ H, H.next = nx → H.lock = 0 → Clean H → bs.map H.get = os → MWp P (atSt fn k dst base vals H) Q) : MWp P S Q :=
  MWp.haltG hC keep bs n p (by rw [← haltH_eq]; exact h) ht hs
end
end Go.Ly
namespace Go.Proofs.Ytpggoincnebfnaa
open Go Go.Ly Go.RowKit
def AllAt (H : Heap) (τ : Nat → Nat) : List (Option LO) → List Nat → Prop
  | [], [] => True
  | some o :: r, b :: s => H.get b = some (renO τ o) ∧ AllAt H τ r s
  | none :: r, _ :: s => AllAt H τ r s
  | _, _ => False
theorem AllAt.at_ {H : Heap} {τ : Nat → Nat} : ∀ {os : List (Option LO)} {L : List Nat}, AllAt H τ os L → L.length = os.length ∧ ∀ i o, os[i]? = some (some o) → H.get (sg L i) = some (renO τ o)
  | [], [], _ => ⟨rfl, fun i o h => by simp at h⟩
  | some o :: r, b :: s, h => by
    obtain ⟨h1, h2⟩ := h
    obtain ⟨k1, k2⟩ := AllAt.at_ h2
    refine ⟨by simp [k1], fun i x hi => ?_⟩
    cases i with
    | zero => simp at hi; subst hi; exact h1
    | succ i => exact k2 i x (by simpa using hi)
  | none :: r, b :: s, h => by
    obtain ⟨k1, k2⟩ := AllAt.at_ (os := r) (L := s) h
    refine ⟨by simp [k1], fun i x hi => ?_⟩
    cases i with
    | zero => simp at hi
    | succ i => exact k2 i x (by simpa using hi)
  | [], _ :: _, h => h.elim
  | some _ :: _, [], h => h.elim
  | none :: _, [], h => h.elim
theorem AllAt.nil {H : Heap} {τ : Nat → Nat} : AllAt H τ [] [] := trivial
theorem AllAt.cons {H : Heap} {τ : Nat → Nat} {o o' : LO} {b : Nat} {r : List (Option LO)} {s : List Nat} (h : H.get b = some o') (e : o' = renO τ o) (t : AllAt H τ r s) : AllAt H τ (some o :: r) (b :: s) := ⟨e ▸ h, t⟩
theorem AllAt.sit {H : Heap} {os : List (Option LO)} {L : List Nat} (h : AllAt H (tau L H.next) os L) (hl : H.lock = 0) (hn : L.Nodup) : Sit H os L :=
  ⟨hl, h.at_.1, hn, h.at_.2⟩
structure Left (H K : Heap) : Prop where
  lock : K.lock = 0
  clean : Ly.Clean K
  le : H.next ≤ K.next
  ge : K.next ≤ H.next + 16
  old : ∀ i, i < H.next → K.get i = H.get i
theorem same_fit {H : Heap} {os : List (Option LO)} {L : List Nat} {p r nx : Nat} (he : Ly.Ends Try.prog 15 [ptr 0, ptr 1] os (List.range nx) (.bool true) nx os) (hB : fitB os (List.range nx) nx = true) (ha : AllAt H (tau L H.next) os L) (hn : L.Nodup) (hl : H.lock = 0) (hc : Ly.Clean H)
    (hx : os.length = nx) (hp : renL (tau L H.next) [ptr 0, ptr 1] = [ptr p, ptr r]) (hb : H.next + nx < big) : LCalls Try.prog 15 [ptr p, ptr r] H (fun u K => u = .bool true ∧ Left H K) := by
  refine LCalls.ltn fun hlt hsm => ?_
  have hs := ha.sit hl hn
  have hL := hs.len
  have := he.fit hB hs hb
  rw [hp] at this
  refine this.mono ?_
  rintro u K ⟨h1, h2, h3, h4, h5, h6⟩
  have hget : ∀ k, k ∈ L → ∃ i, i < nx ∧ tau L H.next i = k := by
    intro k hk
    obtain ⟨i, hi, e⟩ := List.getElem_of_mem hk
    refine ⟨i, by omega, ?_⟩
    have e2 : tau L H.next i = sg L i := ext_lt hi
    rw [e2]; unfold sg; rw [List.getD_eq_getElem?_getD, List.getElem?_eq_getElem hi]; exact e
  have hsome : ∀ i, i < nx → ∃ o, os[i]? = some (some o) := fun i hi => by
    simp only [fitB, Bool.and_eq_true] at hB
    have hx2 := List.all_eq_true.1 hB.1 _ (List.getElem_mem (show i < os.length by omega))
    obtain ⟨o, ho⟩ := Option.isSome_iff_exists.1 hx2
    exact ⟨o, by rw [List.getElem?_eq_getElem (by omega), ho]⟩
  have hold : ∀ k, k < H.next → K.get k = H.get k := by
    intro k hk
    by_cases hkL : k ∈ L
    · obtain ⟨i, hi, rfl⟩ := hget k hkL
      obtain ⟨o, ho⟩ := hsome i hi
      have e1 := h4 i i (some o) (by rw [List.getElem?_range hi]) ho
      have e2 := hs.at_ i o ho
      have e3 : tau L H.next i = sg L i := ext_lt (by omega)
      rw [e1, e3, e2]; rfl
    · exact h5 k hk hkL
  refine ⟨h1, h2, fun k o ho => ?_, by omega, by rw [h3, hx]; omega, hold⟩
  rcases h6 k o ho with ⟨_, _, h7⟩ | ⟨j, i, o', hj, hoj, rfl, rfl⟩
  · exact hc k o h7
  · have hi : i < nx := List.mem_range.1 (List.mem_of_getElem? hj)
    have hji : j = i := by
      have hjn : j < nx := by have := (List.getElem?_eq_some_iff.1 hj).1; simpa using this
      rw [List.getElem?_range hjn] at hj
      exact Option.some.inj hj
    subst hji
    have e2 := hs.at_ j o' hoj
    have e3 : tau L H.next j = sg L j := ext_lt (by omega)
    exact hc (sg L j) _ e2
def Apart (V V2 : List Nat) : Prop := ∀ i ∈ V, i ∉ V2
theorem sd_nn0 {H : Heap} {p r b rg0 b2 rg : Nat} {s : Js} (hP : Pm H p b rg0 s nilV nilV [] []) (hR : Rm H r b2 rg s nilV nilV [] [])
    (hd : Apart ([p, b] ++ ([] ++ [])) ([r, b2, rg] ++ ([] ++ []))) (hl : H.lock = 0) (hcl : Ly.Clean H) (hb : H.next + 16 < big) : LCalls Try.prog 15 [ptr p, ptr r] H (fun u K => u = .bool true ∧ Left H K) := by
  have n1 := hP.nd
  have n2 := hR.nd
  refine same_fit (L := [p, r, b, rg, b2]) (sq_nn0 s.m s.g s.f s.fp s.fb 0 0 1 0 (by omega) (by omega) (by omega)) (by rfl) ?_ ?_ hl hcl rfl (by kernel_rfl) (by omega)
  · unfold sameC
    simp only [List.cons_append, List.nil_append]
    exact AllAt.cons hP.cells (by kernel_rfl) ( AllAt.cons hR.cells (by kernel_rfl) ( AllAt.cons hP.mem (by kernel_rfl) ( AllAt.cons hR.regs (by kernel_rfl) ( AllAt.cons hR.mem (by kernel_rfl) (AllAt.nil)))))
  · skip
    simp only [Apart, List.nodup_cons, List.mem_cons, List.mem_append, List.cons_append, List.nil_append, List.append_nil, List.not_mem_nil, or_false, not_or, forall_eq_or_imp, forall_eq] at n1 n2 hd ⊢
    simp only [List.nodup_nil, and_true, not_false_iff] at n1 n2 hd ⊢
    grind
theorem sd_nn1 {H : Heap} {p r b rg0 b2 rg : Nat} {s : Js} {y y' : Nat} (hy : H.get y = some (outF s.fp s.fb s.q)) (hy' : H.get y' = some (outF s.fp s.fb s.q)) (hq : s.q ≤ 9223372036854775806) (hP : Pm H p b rg0 s nilV (sls y s.q) [] [y]) (hR : Rm H r b2 rg s nilV (sls y' s.q) [] [y'])
    (hd : Apart ([p, b] ++ ([] ++ [y])) ([r, b2, rg] ++ ([] ++ [y']))) (hl : H.lock = 0) (hcl : Ly.Clean H) (hb : H.next + 16 < big) : LCalls Try.prog 15 [ptr p, ptr r] H (fun u K => u = .bool true ∧ Left H K) := by
  have n1 := hP.nd
  have n2 := hR.nd
  refine same_fit (L := [p, r, y, b, rg, y', b2]) (sq_nn1 s.m s.g s.f s.fp s.fb 0 0 1 s.q (by omega) (by omega) hq) (by rfl) ?_ ?_ hl hcl rfl (by kernel_rfl) (by omega)
  · unfold sameC
    simp only [List.cons_append, List.nil_append]
    exact AllAt.cons hP.cells (by kernel_rfl) ( AllAt.cons hR.cells (by kernel_rfl) ( AllAt.cons hy (by kernel_rfl) ( AllAt.cons hP.mem (by kernel_rfl) ( AllAt.cons hR.regs (by kernel_rfl) ( AllAt.cons hy' (by kernel_rfl) ( AllAt.cons hR.mem (by kernel_rfl) (AllAt.nil)))))))
  · skip
    simp only [Apart, List.nodup_cons, List.mem_cons, List.mem_append, List.cons_append, List.nil_append, List.append_nil, List.not_mem_nil, or_false, not_or, forall_eq_or_imp, forall_eq] at n1 n2 hd ⊢
    simp only [List.nodup_nil, and_true, not_false_iff] at n1 n2 hd ⊢
    grind
theorem sd_ne0 {H : Heap} {p r b rg0 b2 rg : Nat} {s : Js} (hP : Pm H p b rg0 s nilV nilV [] []) (hR : Rm H r b2 rg s (empV r) nilV [] [])
    (hd : Apart ([p, b] ++ ([] ++ [])) ([r, b2, rg] ++ ([] ++ []))) (hl : H.lock = 0) (hcl : Ly.Clean H) (hb : H.next + 16 < big) : LCalls Try.prog 15 [ptr p, ptr r] H (fun u K => u = .bool true ∧ Left H K) := by
  have n1 := hP.nd
  have n2 := hR.nd
  refine same_fit (L := [p, r, b, rg, b2]) (sq_ne0 s.m s.g s.f s.fp s.fb 0 0 1 0 (by omega) (by omega) (by omega)) (by rfl) ?_ ?_ hl hcl rfl (by kernel_rfl) (by omega)
  · unfold sameC
    simp only [List.cons_append, List.nil_append]
    exact AllAt.cons hP.cells (by kernel_rfl) ( AllAt.cons hR.cells (by kernel_rfl) ( AllAt.cons hP.mem (by kernel_rfl) ( AllAt.cons hR.regs (by kernel_rfl) ( AllAt.cons hR.mem (by kernel_rfl) (AllAt.nil)))))
  · skip
    simp only [Apart, List.nodup_cons, List.mem_cons, List.mem_append, List.cons_append, List.nil_append, List.append_nil, List.not_mem_nil, or_false, not_or, forall_eq_or_imp, forall_eq] at n1 n2 hd ⊢
    simp only [List.nodup_nil, and_true, not_false_iff] at n1 n2 hd ⊢
    grind
theorem sd_ne1 {H : Heap} {p r b rg0 b2 rg : Nat} {s : Js} {y y' : Nat} (hy : H.get y = some (outF s.fp s.fb s.q)) (hy' : H.get y' = some (outF s.fp s.fb s.q)) (hq : s.q ≤ 9223372036854775806) (hP : Pm H p b rg0 s nilV (sls y s.q) [] [y]) (hR : Rm H r b2 rg s (empV r) (sls y' s.q) [] [y'])
    (hd : Apart ([p, b] ++ ([] ++ [y])) ([r, b2, rg] ++ ([] ++ [y']))) (hl : H.lock = 0) (hcl : Ly.Clean H) (hb : H.next + 16 < big) : LCalls Try.prog 15 [ptr p, ptr r] H (fun u K => u = .bool true ∧ Left H K) := by
  have n1 := hP.nd
  have n2 := hR.nd
  refine same_fit (L := [p, r, y, b, rg, y', b2]) (sq_ne1 s.m s.g s.f s.fp s.fb 0 0 1 s.q (by omega) (by omega) hq) (by rfl) ?_ ?_ hl hcl rfl (by kernel_rfl) (by omega)
  · unfold sameC
    simp only [List.cons_append, List.nil_append]
    exact AllAt.cons hP.cells (by kernel_rfl) ( AllAt.cons hR.cells (by kernel_rfl) ( AllAt.cons hy (by kernel_rfl) ( AllAt.cons hP.mem (by kernel_rfl) ( AllAt.cons hR.regs (by kernel_rfl) ( AllAt.cons hy' (by kernel_rfl) ( AllAt.cons hR.mem (by kernel_rfl) (AllAt.nil)))))))
  · skip
    simp only [Apart, List.nodup_cons, List.mem_cons, List.mem_append, List.cons_append, List.nil_append, List.append_nil, List.not_mem_nil, or_false, not_or, forall_eq_or_imp, forall_eq] at n1 n2 hd ⊢
    simp only [List.nodup_nil, and_true, not_false_iff] at n1 n2 hd ⊢
    grind
theorem sd_en0 {H : Heap} {p r b rg0 b2 rg : Nat} {s : Js} (hP : Pm H p b rg0 s (empV p) nilV [] []) (hR : Rm H r b2 rg s nilV nilV [] [])
    (hd : Apart ([p, b] ++ ([] ++ [])) ([r, b2, rg] ++ ([] ++ []))) (hl : H.lock = 0) (hcl : Ly.Clean H) (hb : H.next + 16 < big) : LCalls Try.prog 15 [ptr p, ptr r] H (fun u K => u = .bool true ∧ Left H K) := by
  have n1 := hP.nd
  have n2 := hR.nd
  refine same_fit (L := [p, r, b, rg, b2]) (sq_en0 s.m s.g s.f s.fp s.fb 0 0 1 0 (by omega) (by omega) (by omega)) (by rfl) ?_ ?_ hl hcl rfl (by kernel_rfl) (by omega)
  · unfold sameC
    simp only [List.cons_append, List.nil_append]
    exact AllAt.cons hP.cells (by kernel_rfl) ( AllAt.cons hR.cells (by kernel_rfl) ( AllAt.cons hP.mem (by kernel_rfl) ( AllAt.cons hR.regs (by kernel_rfl) ( AllAt.cons hR.mem (by kernel_rfl) (AllAt.nil)))))
  · skip
    simp only [Apart, List.nodup_cons, List.mem_cons, List.mem_append, List.cons_append, List.nil_append, List.append_nil, List.not_mem_nil, or_false, not_or, forall_eq_or_imp, forall_eq] at n1 n2 hd ⊢
    simp only [List.nodup_nil, and_true, not_false_iff] at n1 n2 hd ⊢
    grind
theorem sd_en1 {H : Heap} {p r b rg0 b2 rg : Nat} {s : Js} {y y' : Nat} (hy : H.get y = some (outF s.fp s.fb s.q)) (hy' : H.get y' = some (outF s.fp s.fb s.q)) (hq : s.q ≤ 9223372036854775806) (hP : Pm H p b rg0 s (empV p) (sls y s.q) [] [y]) (hR : Rm H r b2 rg s nilV (sls y' s.q) [] [y'])
    (hd : Apart ([p, b] ++ ([] ++ [y])) ([r, b2, rg] ++ ([] ++ [y']))) (hl : H.lock = 0) (hcl : Ly.Clean H) (hb : H.next + 16 < big) : LCalls Try.prog 15 [ptr p, ptr r] H (fun u K => u = .bool true ∧ Left H K) := by
  have n1 := hP.nd
  have n2 := hR.nd
  refine same_fit (L := [p, r, y, b, rg, y', b2]) (sq_en1 s.m s.g s.f s.fp s.fb 0 0 1 s.q (by omega) (by omega) hq) (by rfl) ?_ ?_ hl hcl rfl (by kernel_rfl) (by omega)
  · unfold sameC
    simp only [List.cons_append, List.nil_append]
    exact AllAt.cons hP.cells (by kernel_rfl) ( AllAt.cons hR.cells (by kernel_rfl) ( AllAt.cons hy (by kernel_rfl) ( AllAt.cons hP.mem (by kernel_rfl) ( AllAt.cons hR.regs (by kernel_rfl) ( AllAt.cons hy' (by kernel_rfl) ( AllAt.cons hR.mem (by kernel_rfl) (AllAt.nil)))))))
  · skip
    simp only [Apart, List.nodup_cons, List.mem_cons, List.mem_append, List.cons_append, List.nil_append, List.append_nil, List.not_mem_nil, or_false, not_or, forall_eq_or_imp, forall_eq] at n1 n2 hd ⊢
    simp only [List.nodup_nil, and_true, not_false_iff] at n1 n2 hd ⊢
    grind
theorem sd_ee0 {H : Heap} {p r b rg0 b2 rg : Nat} {s : Js} (hP : Pm H p b rg0 s (empV p) nilV [] []) (hR : Rm H r b2 rg s (empV r) nilV [] [])
    (hd : Apart ([p, b] ++ ([] ++ [])) ([r, b2, rg] ++ ([] ++ []))) (hl : H.lock = 0) (hcl : Ly.Clean H) (hb : H.next + 16 < big) : LCalls Try.prog 15 [ptr p, ptr r] H (fun u K => u = .bool true ∧ Left H K) := by
  have n1 := hP.nd
  have n2 := hR.nd
  refine same_fit (L := [p, r, b, rg, b2]) (sq_ee0 s.m s.g s.f s.fp s.fb 0 0 1 0 (by omega) (by omega) (by omega)) (by rfl) ?_ ?_ hl hcl rfl (by kernel_rfl) (by omega)
  · unfold sameC
    simp only [List.cons_append, List.nil_append]
    exact AllAt.cons hP.cells (by kernel_rfl) ( AllAt.cons hR.cells (by kernel_rfl) ( AllAt.cons hP.mem (by kernel_rfl) ( AllAt.cons hR.regs (by kernel_rfl) ( AllAt.cons hR.mem (by kernel_rfl) (AllAt.nil)))))
  · skip
    simp only [Apart, List.nodup_cons, List.mem_cons, List.mem_append, List.cons_append, List.nil_append, List.append_nil, List.not_mem_nil, or_false, not_or, forall_eq_or_imp, forall_eq] at n1 n2 hd ⊢
    simp only [List.nodup_nil, and_true, not_false_iff] at n1 n2 hd ⊢
    grind
theorem sd_ee1 {H : Heap} {p r b rg0 b2 rg : Nat} {s : Js} {y y' : Nat} (hy : H.get y = some (outF s.fp s.fb s.q)) (hy' : H.get y' = some (outF s.fp s.fb s.q)) (hq : s.q ≤ 9223372036854775806) (hP : Pm H p b rg0 s (empV p) (sls y s.q) [] [y]) (hR : Rm H r b2 rg s (empV r) (sls y' s.q) [] [y'])
    (hd : Apart ([p, b] ++ ([] ++ [y])) ([r, b2, rg] ++ ([] ++ [y']))) (hl : H.lock = 0) (hcl : Ly.Clean H) (hb : H.next + 16 < big) : LCalls Try.prog 15 [ptr p, ptr r] H (fun u K => u = .bool true ∧ Left H K) := by
  have n1 := hP.nd
  have n2 := hR.nd
  refine same_fit (L := [p, r, y, b, rg, y', b2]) (sq_ee1 s.m s.g s.f s.fp s.fb 0 0 1 s.q (by omega) (by omega) hq) (by rfl) ?_ ?_ hl hcl rfl (by kernel_rfl) (by omega)
  · unfold sameC
    simp only [List.cons_append, List.nil_append]
    exact AllAt.cons hP.cells (by kernel_rfl) ( AllAt.cons hR.cells (by kernel_rfl) ( AllAt.cons hy (by kernel_rfl) ( AllAt.cons hP.mem (by kernel_rfl) ( AllAt.cons hR.regs (by kernel_rfl) ( AllAt.cons hy' (by kernel_rfl) ( AllAt.cons hR.mem (by kernel_rfl) (AllAt.nil)))))))
  · skip
    simp only [Apart, List.nodup_cons, List.mem_cons, List.mem_append, List.cons_append, List.nil_append, List.append_nil, List.not_mem_nil, or_false, not_or, forall_eq_or_imp, forall_eq] at n1 n2 hd ⊢
    simp only [List.nodup_nil, and_true, not_false_iff] at n1 n2 hd ⊢
    grind
theorem sd_rr0 {H : Heap} {p r b rg0 b2 rg : Nat} {s : Js} {x x' n : Nat} (hn : s.N - s.j = n + 1) (hx : H.get x = some (rowP s.f s.N)) (hx' : H.get x' = some (rowR s.f s.N)) (hjN : s.j + (n + 1) ≤ s.N) (hnn : n + 1 ≤ 9223372036854775807) (hP : Pm H p b rg0 s (inV x s.j (n + 1)) nilV [x] []) (hR : Rm H r b2 rg s (inV x' s.j (n + 1)) nilV [x'] [])
    (hd : Apart ([p, b] ++ ([x] ++ [])) ([r, b2, rg] ++ ([x'] ++ []))) (hl : H.lock = 0) (hcl : Ly.Clean H) (hb : H.next + 16 < big) : LCalls Try.prog 15 [ptr p, ptr r] H (fun u K => u = .bool true ∧ Left H K) := by
  have n1 := hP.nd
  have n2 := hR.nd
  refine same_fit (L := [p, r, x, b, rg, x', b2]) (sq_rr0 s.m s.g s.f s.fp s.fb s.j n s.N 0 hjN hnn (by omega)) (by rfl) ?_ ?_ hl hcl rfl (by kernel_rfl) (by omega)
  · unfold sameC
    simp only [List.cons_append, List.nil_append]
    exact AllAt.cons hP.cells (by kernel_rfl) ( AllAt.cons hR.cells (by kernel_rfl) ( AllAt.cons hx (by kernel_rfl) ( AllAt.cons hP.mem (by kernel_rfl) ( AllAt.cons hR.regs (by kernel_rfl) ( AllAt.cons hx' (by kernel_rfl) ( AllAt.cons hR.mem (by kernel_rfl) (AllAt.nil)))))))
  · skip
    simp only [Apart, List.nodup_cons, List.mem_cons, List.mem_append, List.cons_append, List.nil_append, List.append_nil, List.not_mem_nil, or_false, not_or, forall_eq_or_imp, forall_eq] at n1 n2 hd ⊢
    simp only [List.nodup_nil, and_true, not_false_iff] at n1 n2 hd ⊢
    grind
theorem sd_rr1 {H : Heap} {p r b rg0 b2 rg : Nat} {s : Js} {x x' n : Nat} (hn : s.N - s.j = n + 1) (hx : H.get x = some (rowP s.f s.N)) (hx' : H.get x' = some (rowR s.f s.N)) (hjN : s.j + (n + 1) ≤ s.N) (hnn : n + 1 ≤ 9223372036854775807) {y y' : Nat} (hy : H.get y = some (outF s.fp s.fb s.q)) (hy' : H.get y' = some (outF s.fp s.fb s.q)) (hq : s.q ≤ 9223372036854775806) (hP : Pm H p b rg0 s (inV x s.j (n + 1)) (sls y s.q) [x] [y]) (hR : Rm H r b2 rg s (inV x' s.j (n + 1)) (sls y' s.q) [x'] [y'])
    (hd : Apart ([p, b] ++ ([x] ++ [y])) ([r, b2, rg] ++ ([x'] ++ [y']))) (hl : H.lock = 0) (hcl : Ly.Clean H) (hb : H.next + 16 < big) : LCalls Try.prog 15 [ptr p, ptr r] H (fun u K => u = .bool true ∧ Left H K) := by
  have n1 := hP.nd
  have n2 := hR.nd
  refine same_fit (L := [p, r, x, y, b, rg, x', y', b2]) (sq_rr1 s.m s.g s.f s.fp s.fb s.j n s.N s.q hjN hnn hq) (by rfl) ?_ ?_ hl hcl rfl (by kernel_rfl) (by omega)
  · unfold sameC
    simp only [List.cons_append, List.nil_append]
    exact AllAt.cons hP.cells (by kernel_rfl) ( AllAt.cons hR.cells (by kernel_rfl) ( AllAt.cons hx (by kernel_rfl) ( AllAt.cons hy (by kernel_rfl) ( AllAt.cons hP.mem (by kernel_rfl) ( AllAt.cons hR.regs (by kernel_rfl) ( AllAt.cons hx' (by kernel_rfl) ( AllAt.cons hy' (by kernel_rfl) ( AllAt.cons hR.mem (by kernel_rfl) (AllAt.nil)))))))))
  · skip
    simp only [Apart, List.nodup_cons, List.mem_cons, List.mem_append, List.cons_append, List.nil_append, List.append_nil, List.not_mem_nil, or_false, not_or, forall_eq_or_imp, forall_eq] at n1 n2 hd ⊢
    simp only [List.nodup_nil, and_true, not_false_iff] at n1 n2 hd ⊢
    grind
theorem same_calls {H : Heap} {p r : Nat} {s : Js} {O V O2 V2 : List Nat} (hP : PM H p s O V) (hR : RM H r s O2 V2) (hd : Apart V V2) (hl : H.lock = 0) (hc : Ly.Clean H) (hb : H.next + 16 < big)
    (hN : s.N ≤ 9223372036854775807) (hq : s.q ≤ 9223372036854775806) : LCalls Try.prog 15 [ptr p, ptr r] H (fun u K' => u = .bool true ∧ ∃ K, WeakH H K ∧ (∃ O V, PM K p s O V) ∧ (∃ O2 V2, RM K r s O2 V2) ∧ Left K K') := by
  refine LCalls.ltn fun hlt hsm => ?_
  obtain ⟨b, rg0, iv, ov, VI, VO, hP, rfl, rfl⟩ := hP
  obtain ⟨b2, rg, iv2, ov2, VI2, VO2, hR, rfl, rfl⟩ := hR
  have hp := hlt _ _ hP.cells
  have hr := hlt _ _ hR.cells
  have hpr : p ≠ r := fun e => hd p (by simp) (by simp [e])
  have ends : s.j = s.N → VI = [] ∧ (iv = nilV ∨ ∃ a c, iv = .slice (some a) 0 c) := fun hj => by
    rcases hP.inn with ⟨_, h1, h2⟩ | ⟨h1, _⟩
    · exact ⟨h1, h2⟩
    · omega
  have ends2 : s.j = s.N → VI2 = [] ∧ (iv2 = nilV ∨ ∃ a c, iv2 = .slice (some a) 0 c) := fun hj => by
    rcases hR.inn with ⟨_, h1, h2⟩ | ⟨h1, _⟩
    · exact ⟨h1, h2⟩
    · omega
  by_cases hj : s.j = s.N
  · obtain ⟨rfl, hi1⟩ := ends hj
    obtain ⟨rfl, hi2⟩ := ends2 hj
    -- empty slices made one
    obtain ⟨K, hK, hPK, hRK, hne⟩ : ∃ K, WeakH H K ∧ (Pm K p b rg0 s nilV ov [] VO ∨ Pm K p b rg0 s (empV p) ov [] VO) ∧ (Rm K r b2 rg s nilV ov2 [] VO2 ∨ Rm K r b2 rg s (empV r) ov2 [] VO2) ∧ Ly.Clean K := by
      obtain ⟨K1, w1, c1, h1, o1, e1⟩ : ∃ K, WeakH H K ∧ Ly.Clean K ∧ (Pm K p b rg0 s nilV ov [] VO ∨ Pm K p b rg0 s (empV p) ov [] VO) ∧ (∀ i, i ≠ p → K.get i = H.get i) ∧ K.next = H.next := by
        rcases hi1 with rfl | ⟨a, c, rfl⟩
        · exact ⟨H, WeakH.refl H, hc, .inl hP, fun _ _ => rfl, rfl⟩
        · obtain ⟨K, hw, hk⟩ := emp_P hP hj hc (Nat.lt_trans hp hsm)
          exact ⟨K, hw.weak, hw.clean, .inr hk, hw.old, hw.next⟩
      have hR1 : Rm K1 r b2 rg s iv2 ov2 [] VO2 := by
        have hne : ∀ i ∈ [r, b2, rg] ++ ([] ++ VO2), i ≠ p := fun i hi e => hd p (by simp) (by rw [← e]; exact hi)
        exact ⟨by rw [o1 r (hne r (by simp))]; exact hR.cells, by rw [o1 b2 (hne b2 (by simp))]; exact hR.mem, by rw [o1 rg (hne rg (by simp))]; exact hR.regs,
          hR.inn.same fun i hi => by simp at hi, hR.out.same fun i hi => o1 i (hne i (by simp [hi])), hR.nd⟩
      rcases hi2 with rfl | ⟨a, c, rfl⟩
      · exact ⟨K1, w1, h1, .inl hR1, c1⟩
      · obtain ⟨K, hw, hk⟩ := emp_R hR1 hj c1 (Nat.lt_trans hr hsm)
        have hne : ∀ i ∈ [p, b] ++ ([] ++ VO), i ≠ r := fun i hi e => hd r (by rw [← e]; exact hi) (by simp)
        have wt : WeakH H K := ⟨hw.next.trans w1.next, hw.lock.trans w1.lock, fun i o ho => by
          by_cases e : i = r
          · subst e
            obtain ⟨x, h3, h4⟩ := hw.weak.obj i o ho
            exact ⟨x, by rw [← o1 i (Ne.symm hpr)]; exact h3, h4⟩
          · rw [hw.old i e] at ho
            exact w1.obj i o ho⟩
        have mv : ∀ {iv : Value}, Pm K1 p b rg0 s iv ov [] VO → Pm K p b rg0 s iv ov [] VO := fun h =>
          ⟨by rw [hw.old p (hne p (by simp))]; exact h.cells, by rw [hw.old b (hne b (by simp))]; exact h.mem, trivial,
            h.inn.same fun i hi => by simp at hi, h.out.same fun i hi => hw.old i (hne i (by simp [hi])), h.nd⟩
        exact ⟨K, wt, h1.imp mv mv, .inr hk, hw.clean⟩
    refine LCalls.weak hK ?_
    have hPK' : ∃ O V, PM K p s O V := by rcases hPK with h | h <;> exact ⟨_, _, b, rg0, _, ov, [], VO, h, rfl, rfl⟩
    have hRK' : ∃ O2 V2, RM K r s O2 V2 := by rcases hRK with h | h <;> exact ⟨_, _, b2, rg, _, ov2, [], VO2, h, rfl, rfl⟩
    have fin : ∀ {P : LCalls Try.prog 15 [ptr p, ptr r] K (fun u K' => u = .bool true ∧ Left K K')}, LCalls Try.prog 15 [ptr p, ptr r] K (fun u K' => u = .bool true ∧ ∃ K, WeakH H K ∧ (∃ O V, PM K p s O V) ∧ (∃ O2 V2, RM K r s O2 V2) ∧ Left K K') := fun {P} => P.mono fun u K' h => ⟨h.1, K, hK, hPK', hRK', h.2⟩
    have hlK : K.lock = 0 := hK.lock.trans hl
    have hbK : K.next + 16 < big := by rw [hK.next]; exact hb
    have o1 : OutAt K ov s.q s.fp s.fb VO := by rcases hPK with h | h <;> exact h.out
    have o2 : OutAt K ov2 s.q s.fp s.fb VO2 := by rcases hRK with h | h <;> exact h.out
    rcases o1 with ⟨h0, rfl, rfl⟩ | ⟨h0, y, rfl, rfl, hy⟩
    · rcases o2 with ⟨_, rfl, rfl⟩ | ⟨h1, _⟩
      · rcases hPK with h | h <;> rcases hRK with h' | h'
        · exact fin (P := sd_nn0 h h' hd hlK hne hbK)
        · exact fin (P := sd_ne0 h h' hd hlK hne hbK)
        · exact fin (P := sd_en0 h h' hd hlK hne hbK)
        · exact fin (P := sd_ee0 h h' hd hlK hne hbK)
      · omega
    · rcases o2 with ⟨h1, _⟩ | ⟨_, y', rfl, rfl, hy'⟩
      · omega
      · rcases hPK with h | h <;> rcases hRK with h' | h'
        · exact fin (P := sd_nn1 hy hy' hq h h' hd hlK hne hbK)
        · exact fin (P := sd_ne1 hy hy' hq h h' hd hlK hne hbK)
        · exact fin (P := sd_en1 hy hy' hq h h' hd hlK hne hbK)
        · exact fin (P := sd_ee1 hy hy' hq h h' hd hlK hne hbK)
  · rcases hP.inn with ⟨h1, _⟩ | ⟨h1, x, rfl, rfl, hx⟩
    · exact absurd h1 hj
    rcases hR.inn with ⟨h2, _⟩ | ⟨h2, x', rfl, rfl, hx'⟩
    · exact absurd h2 hj
    obtain ⟨n, hn⟩ : ∃ n, s.N - s.j = n + 1 := ⟨s.N - s.j - 1, by omega⟩
    have hP' := hP
    have hR' := hR
    have hPK' : ∃ O V, PM H p s O V := ⟨_, _, b, rg0, _, ov, [x], VO, hP, rfl, rfl⟩
    have hRK' : ∃ O2 V2, RM H r s O2 V2 := ⟨_, _, b2, rg, _, ov2, [x'], VO2, hR, rfl, rfl⟩
    have fin : ∀ {P : LCalls Try.prog 15 [ptr p, ptr r] H (fun u K' => u = .bool true ∧ Left H K')}, LCalls Try.prog 15 [ptr p, ptr r] H (fun u K' => u = .bool true ∧ ∃ K, WeakH H K ∧ (∃ O V, PM K p s O V) ∧ (∃ O2 V2, RM K r s O2 V2) ∧ Left K K') := fun {P} => P.mono fun u K' h => ⟨h.1, H, WeakH.refl H, hPK', hRK', h.2⟩
    rw [hn] at hP' hR'
    rcases hP.out with ⟨h0, rfl, rfl⟩ | ⟨h0, y, rfl, rfl, hy⟩
    · rcases hR.out with ⟨_, rfl, rfl⟩ | ⟨h3, _⟩
      · exact fin (P := sd_rr0 hn hx hx' (by omega) (by omega) hP' hR' hd hl hc hb)
      · omega
    · rcases hR.out with ⟨h3, _⟩ | ⟨_, y', rfl, rfl, hy'⟩
      · omega
      · exact fin (P := sd_rr1 hn hx hx' (by omega) (by omega) hy hy' hq hP' hR' hd hl hc hb)
end Go.Proofs.Ytpggoincnebfnaa
namespace Go.Proofs.Ytpggoincnebfnaa
open Go Go.Ly Go.RowKit
variable (m : Mc) (g : Nat → Int) (b1 b2 : Int)
@[simp] def z03_0 (m : Mc) : Mc := { m with pc := w16 (m.pc + 1), r0 := w8 ((w16 (or16 (w16 (w16 m.r0 * 256)) (w16 m.r1) + 1)).fdiv 256), r1 := w8 (w16 (or16 (w16 (w16 m.r0 * 256)) (w16 m.r1) + 1)) }
@[simp] def z04_0 (m : Mc) : Mc := { m with fp := par ((m.r0 + 1) % 256), fs := decide (128 ≤ (m.r0 + 1) % 256), fx := decide (15 < m.r0 % 16 + 1), fz := (m.r0 + 1) % 256 == 0, pc := w16 (m.pc + 1), r0 := (m.r0 + 1) % 256 }
@[simp] def z05_0 (m : Mc) : Mc := { m with fp := par ((m.r0 - 1) % 256), fs := decide (128 ≤ (m.r0 - 1) % 256), fx := decide (15 < m.r0 % 16 + 15), fz := (m.r0 - 1) % 256 == 0, pc := w16 (m.pc + 1), r0 := (m.r0 - 1) % 256 }
@[simp] def z07_0 (m : Mc) : Mc := { m with fc := decide (128 ≤ m.r7), pc := w16 (m.pc + 1), r7 := (2 * m.r7 + m.r7 / 128) % 256 }
@[simp] def z09_0 (m : Mc) : Mc := { m with fc := decide (65535 < or16 (w16 (w16 m.r4 * 256)) (w16 m.r5) + or16 (w16 (w16 m.r0 * 256)) (w16 m.r1)), pc := w16 (m.pc + 1), r4 := w8 (((or16 (w16 (w16 m.r4 * 256)) (w16 m.r5) + or16 (w16 (w16 m.r0 * 256)) (w16 m.r1)) % 65536).fdiv 256), r5 := w8 ((or16 (w16 (w16 m.r4 * 256)) (w16 m.r5) + or16 (w16 (w16 m.r0 * 256)) (w16 m.r1)) % 65536) }
@[simp] def z0a_0 (m : Mc) (g : Nat → Int) : Mc := { m with pc := w16 (m.pc + 1), r7 := g (ix (or16 (w16 (w16 m.r0 * 256)) (w16 m.r1))) }
@[simp] def z0b_0 (m : Mc) : Mc := { m with pc := w16 (m.pc + 1), r0 := w8 ((w16 (or16 (w16 (w16 m.r0 * 256)) (w16 m.r1) - 1)).fdiv 256), r1 := w8 (w16 (or16 (w16 (w16 m.r0 * 256)) (w16 m.r1) - 1)) }
@[simp] def z0c_0 (m : Mc) : Mc := { m with fp := par ((m.r1 + 1) % 256), fs := decide (128 ≤ (m.r1 + 1) % 256), fx := decide (15 < m.r1 % 16 + 1), fz := (m.r1 + 1) % 256 == 0, pc := w16 (m.pc + 1), r1 := (m.r1 + 1) % 256 }
@[simp] def z0d_0 (m : Mc) : Mc := { m with fp := par ((m.r1 - 1) % 256), fs := decide (128 ≤ (m.r1 - 1) % 256), fx := decide (15 < m.r1 % 16 + 15), fz := (m.r1 - 1) % 256 == 0, pc := w16 (m.pc + 1), r1 := (m.r1 - 1) % 256 }
@[simp] def z0f_0 (m : Mc) : Mc := { m with fc := m.r7 % 2 == 1, pc := w16 (m.pc + 1), r7 := m.r7 / 2 + m.r7 % 2 * 128 }
end Go.Proofs.Ytpggoincnebfnaa
namespace Go.Proofs.Ytpggoincnebfnaa
open Go Go.Ly Go.RowKit
variable (m : Mc) (g : Nat → Int) (b1 b2 : Int)
@[simp] def z13_0 (m : Mc) : Mc := { m with pc := w16 (m.pc + 1), r2 := w8 ((w16 (or16 (w16 (w16 m.r2 * 256)) (w16 m.r3) + 1)).fdiv 256), r3 := w8 (w16 (or16 (w16 (w16 m.r2 * 256)) (w16 m.r3) + 1)) }
@[simp] def z14_0 (m : Mc) : Mc := { m with fp := par ((m.r2 + 1) % 256), fs := decide (128 ≤ (m.r2 + 1) % 256), fx := decide (15 < m.r2 % 16 + 1), fz := (m.r2 + 1) % 256 == 0, pc := w16 (m.pc + 1), r2 := (m.r2 + 1) % 256 }
@[simp] def z15_0 (m : Mc) : Mc := { m with fp := par ((m.r2 - 1) % 256), fs := decide (128 ≤ (m.r2 - 1) % 256), fx := decide (15 < m.r2 % 16 + 15), fz := (m.r2 - 1) % 256 == 0, pc := w16 (m.pc + 1), r2 := (m.r2 - 1) % 256 }
@[simp] def z17_0 (m : Mc) : Mc := { m with fc := decide (128 ≤ m.r7), pc := w16 (m.pc + 1), r7 := (2 * m.r7 + cI m.fc) % 256 }
@[simp] def z19_0 (m : Mc) : Mc := { m with fc := decide (65535 < or16 (w16 (w16 m.r4 * 256)) (w16 m.r5) + or16 (w16 (w16 m.r2 * 256)) (w16 m.r3)), pc := w16 (m.pc + 1), r4 := w8 (((or16 (w16 (w16 m.r4 * 256)) (w16 m.r5) + or16 (w16 (w16 m.r2 * 256)) (w16 m.r3)) % 65536).fdiv 256), r5 := w8 ((or16 (w16 (w16 m.r4 * 256)) (w16 m.r5) + or16 (w16 (w16 m.r2 * 256)) (w16 m.r3)) % 65536) }
@[simp] def z1a_0 (m : Mc) (g : Nat → Int) : Mc := { m with pc := w16 (m.pc + 1), r7 := g (ix (or16 (w16 (w16 m.r2 * 256)) (w16 m.r3))) }
@[simp] def z1b_0 (m : Mc) : Mc := { m with pc := w16 (m.pc + 1), r2 := w8 ((w16 (or16 (w16 (w16 m.r2 * 256)) (w16 m.r3) - 1)).fdiv 256), r3 := w8 (w16 (or16 (w16 (w16 m.r2 * 256)) (w16 m.r3) - 1)) }
@[simp] def z1c_0 (m : Mc) : Mc := { m with fp := par ((m.r3 + 1) % 256), fs := decide (128 ≤ (m.r3 + 1) % 256), fx := decide (15 < m.r3 % 16 + 1), fz := (m.r3 + 1) % 256 == 0, pc := w16 (m.pc + 1), r3 := (m.r3 + 1) % 256 }
@[simp] def z1d_0 (m : Mc) : Mc := { m with fp := par ((m.r3 - 1) % 256), fs := decide (128 ≤ (m.r3 - 1) % 256), fx := decide (15 < m.r3 % 16 + 15), fz := (m.r3 - 1) % 256 == 0, pc := w16 (m.pc + 1), r3 := (m.r3 - 1) % 256 }
@[simp] def z1f_0 (m : Mc) : Mc := { m with fc := m.r7 % 2 == 1, pc := w16 (m.pc + 1), r7 := m.r7 / 2 + 128 * cI m.fc }
end Go.Proofs.Ytpggoincnebfnaa
namespace Go.Proofs.Ytpggoincnebfnaa
open Go Go.Ly Go.RowKit
variable (m : Mc) (g : Nat → Int) (b1 b2 : Int)
@[simp] def z23_0 (m : Mc) : Mc := { m with pc := w16 (m.pc + 1), r4 := w8 ((w16 (or16 (w16 (w16 m.r4 * 256)) (w16 m.r5) + 1)).fdiv 256), r5 := w8 (w16 (or16 (w16 (w16 m.r4 * 256)) (w16 m.r5) + 1)) }
@[simp] def z24_0 (m : Mc) : Mc := { m with fp := par ((m.r4 + 1) % 256), fs := decide (128 ≤ (m.r4 + 1) % 256), fx := decide (15 < m.r4 % 16 + 1), fz := (m.r4 + 1) % 256 == 0, pc := w16 (m.pc + 1), r4 := (m.r4 + 1) % 256 }
@[simp] def z25_0 (m : Mc) : Mc := { m with fp := par ((m.r4 - 1) % 256), fs := decide (128 ≤ (m.r4 - 1) % 256), fx := decide (15 < m.r4 % 16 + 15), fz := (m.r4 - 1) % 256 == 0, pc := w16 (m.pc + 1), r4 := (m.r4 - 1) % 256 }
@[simp] def z27_0 (m : Mc) : Mc := { m with fc := daaH m.r7 m.fx m.fc, fp := par ((m.r7 + 6 * cI (daaL m.r7 m.fx) + 96 * cI (daaH m.r7 m.fx m.fc)) % 256), fs := decide (128 ≤ (m.r7 + 6 * cI (daaL m.r7 m.fx) + 96 * cI (daaH m.r7 m.fx m.fc)) % 256), fx := decide (9 < m.r7 % 16), fz := (m.r7 + 6 * cI (daaL m.r7 m.fx) + 96 * cI (daaH m.r7 m.fx m.fc)) % 256 == 0, pc := w16 (m.pc + 1), r7 := (m.r7 + 6 * cI (daaL m.r7 m.fx) + 96 * cI (daaH m.r7 m.fx m.fc)) % 256 }
@[simp] def z29_0 (m : Mc) : Mc := { m with fc := decide (65535 < or16 (w16 (w16 m.r4 * 256)) (w16 m.r5) + or16 (w16 (w16 m.r4 * 256)) (w16 m.r5)), pc := w16 (m.pc + 1), r4 := w8 (((or16 (w16 (w16 m.r4 * 256)) (w16 m.r5) + or16 (w16 (w16 m.r4 * 256)) (w16 m.r5)) % 65536).fdiv 256), r5 := w8 ((or16 (w16 (w16 m.r4 * 256)) (w16 m.r5) + or16 (w16 (w16 m.r4 * 256)) (w16 m.r5)) % 65536) }
@[simp] def z2b_0 (m : Mc) : Mc := { m with pc := w16 (m.pc + 1), r4 := w8 ((w16 (or16 (w16 (w16 m.r4 * 256)) (w16 m.r5) - 1)).fdiv 256), r5 := w8 (w16 (or16 (w16 (w16 m.r4 * 256)) (w16 m.r5) - 1)) }
@[simp] def z2c_0 (m : Mc) : Mc := { m with fp := par ((m.r5 + 1) % 256), fs := decide (128 ≤ (m.r5 + 1) % 256), fx := decide (15 < m.r5 % 16 + 1), fz := (m.r5 + 1) % 256 == 0, pc := w16 (m.pc + 1), r5 := (m.r5 + 1) % 256 }
@[simp] def z2d_0 (m : Mc) : Mc := { m with fp := par ((m.r5 - 1) % 256), fs := decide (128 ≤ (m.r5 - 1) % 256), fx := decide (15 < m.r5 % 16 + 15), fz := (m.r5 - 1) % 256 == 0, pc := w16 (m.pc + 1), r5 := (m.r5 - 1) % 256 }
@[simp] def z2f_0 (m : Mc) : Mc := { m with pc := w16 (m.pc + 1), r7 := xor8 255 m.r7 }
end Go.Proofs.Ytpggoincnebfnaa
namespace Go.Proofs.Ytpggoincnebfnaa
open Go Go.Ly Go.RowKit
variable (m : Mc) (g : Nat → Int) (b1 b2 : Int)
@[simp] def z33_0 (m : Mc) : Mc := { m with pc := w16 (m.pc + 1), sp := w16 (m.sp + 1) }
@[simp] def z34_0 (m : Mc) (g : Nat → Int) : Mc := { m with fp := par ((g (ix (or16 (w16 (w16 m.r4 * 256)) (w16 m.r5))) + 1) % 256), fs := decide (128 ≤ (g (ix (or16 (w16 (w16 m.r4 * 256)) (w16 m.r5))) + 1) % 256), fx := decide (15 < g (ix (or16 (w16 (w16 m.r4 * 256)) (w16 m.r5))) % 16 + 1), fz := (g (ix (or16 (w16 (w16 m.r4 * 256)) (w16 m.r5))) + 1) % 256 == 0, pc := w16 (m.pc + 1) }
@[simp] def z35_0 (m : Mc) (g : Nat → Int) : Mc := { m with fp := par ((g (ix (or16 (w16 (w16 m.r4 * 256)) (w16 m.r5))) - 1) % 256), fs := decide (128 ≤ (g (ix (or16 (w16 (w16 m.r4 * 256)) (w16 m.r5))) - 1) % 256), fx := decide (15 < g (ix (or16 (w16 (w16 m.r4 * 256)) (w16 m.r5))) % 16 + 15), fz := (g (ix (or16 (w16 (w16 m.r4 * 256)) (w16 m.r5))) - 1) % 256 == 0, pc := w16 (m.pc + 1) }
@[simp] def z37_0 (m : Mc) : Mc := { m with fc := true, pc := w16 (m.pc + 1) }
@[simp] def z39_0 (m : Mc) : Mc := { m with fc := decide (65535 < or16 (w16 (w16 m.r4 * 256)) (w16 m.r5) + m.sp), pc := w16 (m.pc + 1), r4 := w8 (((or16 (w16 (w16 m.r4 * 256)) (w16 m.r5) + m.sp) % 65536).fdiv 256), r5 := w8 ((or16 (w16 (w16 m.r4 * 256)) (w16 m.r5) + m.sp) % 65536) }
@[simp] def z3b_0 (m : Mc) : Mc := { m with pc := w16 (m.pc + 1), sp := w16 (m.sp - 1) }
@[simp] def z3c_0 (m : Mc) : Mc := { m with fp := par ((m.r7 + 1) % 256), fs := decide (128 ≤ (m.r7 + 1) % 256), fx := decide (15 < m.r7 % 16 + 1), fz := (m.r7 + 1) % 256 == 0, pc := w16 (m.pc + 1), r7 := (m.r7 + 1) % 256 }
@[simp] def z3d_0 (m : Mc) : Mc := { m with fp := par ((m.r7 - 1) % 256), fs := decide (128 ≤ (m.r7 - 1) % 256), fx := decide (15 < m.r7 % 16 + 15), fz := (m.r7 - 1) % 256 == 0, pc := w16 (m.pc + 1), r7 := (m.r7 - 1) % 256 }
@[simp] def z3f_0 (m : Mc) : Mc := { m with fc := !m.fc, pc := w16 (m.pc + 1) }
end Go.Proofs.Ytpggoincnebfnaa
namespace Go.Proofs.Ytpggoincnebfnaa
open Go Go.Ly Go.RowKit
variable (m : Mc) (g : Nat → Int) (b1 b2 : Int)
@[simp] def z41_0 (m : Mc) : Mc := { m with pc := w16 (m.pc + 1), r0 := m.r1 }
@[simp] def z42_0 (m : Mc) : Mc := { m with pc := w16 (m.pc + 1), r0 := m.r2 }
@[simp] def z43_0 (m : Mc) : Mc := { m with pc := w16 (m.pc + 1), r0 := m.r3 }
@[simp] def z44_0 (m : Mc) : Mc := { m with pc := w16 (m.pc + 1), r0 := m.r4 }
@[simp] def z45_0 (m : Mc) : Mc := { m with pc := w16 (m.pc + 1), r0 := m.r5 }
@[simp] def z46_0 (m : Mc) (g : Nat → Int) : Mc := { m with pc := w16 (m.pc + 1), r0 := g (ix (or16 (w16 (w16 m.r4 * 256)) (w16 m.r5))) }
@[simp] def z47_0 (m : Mc) : Mc := { m with pc := w16 (m.pc + 1), r0 := m.r7 }
@[simp] def z48_0 (m : Mc) : Mc := { m with pc := w16 (m.pc + 1), r1 := m.r0 }
@[simp] def z4a_0 (m : Mc) : Mc := { m with pc := w16 (m.pc + 1), r1 := m.r2 }
@[simp] def z4b_0 (m : Mc) : Mc := { m with pc := w16 (m.pc + 1), r1 := m.r3 }
@[simp] def z4c_0 (m : Mc) : Mc := { m with pc := w16 (m.pc + 1), r1 := m.r4 }
@[simp] def z4d_0 (m : Mc) : Mc := { m with pc := w16 (m.pc + 1), r1 := m.r5 }
@[simp] def z4e_0 (m : Mc) (g : Nat → Int) : Mc := { m with pc := w16 (m.pc + 1), r1 := g (ix (or16 (w16 (w16 m.r4 * 256)) (w16 m.r5))) }
@[simp] def z4f_0 (m : Mc) : Mc := { m with pc := w16 (m.pc + 1), r1 := m.r7 }
end Go.Proofs.Ytpggoincnebfnaa
namespace Go.Proofs.Ytpggoincnebfnaa
open Go Go.Ly Go.RowKit
variable (m : Mc) (g : Nat → Int) (b1 b2 : Int)
@[simp] def z50_0 (m : Mc) : Mc := { m with pc := w16 (m.pc + 1), r2 := m.r0 }
@[simp] def z51_0 (m : Mc) : Mc := { m with pc := w16 (m.pc + 1), r2 := m.r1 }
@[simp] def z53_0 (m : Mc) : Mc := { m with pc := w16 (m.pc + 1), r2 := m.r3 }
@[simp] def z54_0 (m : Mc) : Mc := { m with pc := w16 (m.pc + 1), r2 := m.r4 }
@[simp] def z55_0 (m : Mc) : Mc := { m with pc := w16 (m.pc + 1), r2 := m.r5 }
@[simp] def z56_0 (m : Mc) (g : Nat → Int) : Mc := { m with pc := w16 (m.pc + 1), r2 := g (ix (or16 (w16 (w16 m.r4 * 256)) (w16 m.r5))) }
@[simp] def z57_0 (m : Mc) : Mc := { m with pc := w16 (m.pc + 1), r2 := m.r7 }
@[simp] def z58_0 (m : Mc) : Mc := { m with pc := w16 (m.pc + 1), r3 := m.r0 }
@[simp] def z59_0 (m : Mc) : Mc := { m with pc := w16 (m.pc + 1), r3 := m.r1 }
@[simp] def z5a_0 (m : Mc) : Mc := { m with pc := w16 (m.pc + 1), r3 := m.r2 }
@[simp] def z5c_0 (m : Mc) : Mc := { m with pc := w16 (m.pc + 1), r3 := m.r4 }
@[simp] def z5d_0 (m : Mc) : Mc := { m with pc := w16 (m.pc + 1), r3 := m.r5 }
@[simp] def z5e_0 (m : Mc) (g : Nat → Int) : Mc := { m with pc := w16 (m.pc + 1), r3 := g (ix (or16 (w16 (w16 m.r4 * 256)) (w16 m.r5))) }
@[simp] def z5f_0 (m : Mc) : Mc := { m with pc := w16 (m.pc + 1), r3 := m.r7 }
end Go.Proofs.Ytpggoincnebfnaa
namespace Go.Proofs.Ytpggoincnebfnaa
open Go Go.Ly Go.RowKit
variable (m : Mc) (g : Nat → Int) (b1 b2 : Int)
@[simp] def z60_0 (m : Mc) : Mc := { m with pc := w16 (m.pc + 1), r4 := m.r0 }
@[simp] def z61_0 (m : Mc) : Mc := { m with pc := w16 (m.pc + 1), r4 := m.r1 }
@[simp] def z62_0 (m : Mc) : Mc := { m with pc := w16 (m.pc + 1), r4 := m.r2 }
@[simp] def z63_0 (m : Mc) : Mc := { m with pc := w16 (m.pc + 1), r4 := m.r3 }
@[simp] def z65_0 (m : Mc) : Mc := { m with pc := w16 (m.pc + 1), r4 := m.r5 }
@[simp] def z66_0 (m : Mc) (g : Nat → Int) : Mc := { m with pc := w16 (m.pc + 1), r4 := g (ix (or16 (w16 (w16 m.r4 * 256)) (w16 m.r5))) }
@[simp] def z67_0 (m : Mc) : Mc := { m with pc := w16 (m.pc + 1), r4 := m.r7 }
@[simp] def z68_0 (m : Mc) : Mc := { m with pc := w16 (m.pc + 1), r5 := m.r0 }
@[simp] def z69_0 (m : Mc) : Mc := { m with pc := w16 (m.pc + 1), r5 := m.r1 }
@[simp] def z6a_0 (m : Mc) : Mc := { m with pc := w16 (m.pc + 1), r5 := m.r2 }
@[simp] def z6b_0 (m : Mc) : Mc := { m with pc := w16 (m.pc + 1), r5 := m.r3 }
@[simp] def z6c_0 (m : Mc) : Mc := { m with pc := w16 (m.pc + 1), r5 := m.r4 }
@[simp] def z6e_0 (m : Mc) (g : Nat → Int) : Mc := { m with pc := w16 (m.pc + 1), r5 := g (ix (or16 (w16 (w16 m.r4 * 256)) (w16 m.r5))) }
@[simp] def z6f_0 (m : Mc) : Mc := { m with pc := w16 (m.pc + 1), r5 := m.r7 }
end Go.Proofs.Ytpggoincnebfnaa
namespace Go.Proofs.Ytpggoincnebfnaa
open Go Go.Ly Go.RowKit
variable (m : Mc) (g : Nat → Int) (b1 b2 : Int)
@[simp] def z76_0 (m : Mc) : Mc := { m with halt := true, pc := w16 (m.pc + 1) }
theorem p76_0 : endsAt [0, 1] (Ly.run ctx3 3000 [] (sP m g 118 b1 b2)) = some (T [], .int .i64 0, 5, hPm (z76_0 m) (memL g)) := by kernel_rfl
theorem r76_0 : endsAt [0, 1, 2] (Ly.run ctx3 3000 [(4, true)] (sR m g 118)) = some (T [inw m.pc && true], .int .i64 0, 3, hRm (z76_0 m) (memL g)) := by kernel_rfl
@[simp] def z78_0 (m : Mc) : Mc := { m with pc := w16 (m.pc + 1), r7 := m.r0 }
@[simp] def z79_0 (m : Mc) : Mc := { m with pc := w16 (m.pc + 1), r7 := m.r1 }
@[simp] def z7a_0 (m : Mc) : Mc := { m with pc := w16 (m.pc + 1), r7 := m.r2 }
@[simp] def z7b_0 (m : Mc) : Mc := { m with pc := w16 (m.pc + 1), r7 := m.r3 }
@[simp] def z7c_0 (m : Mc) : Mc := { m with pc := w16 (m.pc + 1), r7 := m.r4 }
@[simp] def z7d_0 (m : Mc) : Mc := { m with pc := w16 (m.pc + 1), r7 := m.r5 }
@[simp] def z7e_0 (m : Mc) (g : Nat → Int) : Mc := { m with pc := w16 (m.pc + 1), r7 := g (ix (or16 (w16 (w16 m.r4 * 256)) (w16 m.r5))) }
end Go.Proofs.Ytpggoincnebfnaa
namespace Go.Proofs.Ytpggoincnebfnaa
open Go Go.Ly Go.RowKit
variable (m : Mc) (g : Nat → Int) (b1 b2 : Int)
@[simp] def z80_0 (m : Mc) : Mc := { m with fc := decide (255 < m.r7 + m.r0 + 0), fp := par ((m.r7 + m.r0 + 0) % 256), fs := decide (128 ≤ (m.r7 + m.r0 + 0) % 256), fx := decide (15 < m.r7 % 16 + m.r0 % 16 + 0), fz := (m.r7 + m.r0 + 0) % 256 == 0, pc := w16 (m.pc + 1), r7 := (m.r7 + m.r0 + 0) % 256 }
@[simp] def z81_0 (m : Mc) : Mc := { m with fc := decide (255 < m.r7 + m.r1 + 0), fp := par ((m.r7 + m.r1 + 0) % 256), fs := decide (128 ≤ (m.r7 + m.r1 + 0) % 256), fx := decide (15 < m.r7 % 16 + m.r1 % 16 + 0), fz := (m.r7 + m.r1 + 0) % 256 == 0, pc := w16 (m.pc + 1), r7 := (m.r7 + m.r1 + 0) % 256 }
@[simp] def z82_0 (m : Mc) : Mc := { m with fc := decide (255 < m.r7 + m.r2 + 0), fp := par ((m.r7 + m.r2 + 0) % 256), fs := decide (128 ≤ (m.r7 + m.r2 + 0) % 256), fx := decide (15 < m.r7 % 16 + m.r2 % 16 + 0), fz := (m.r7 + m.r2 + 0) % 256 == 0, pc := w16 (m.pc + 1), r7 := (m.r7 + m.r2 + 0) % 256 }
@[simp] def z83_0 (m : Mc) : Mc := { m with fc := decide (255 < m.r7 + m.r3 + 0), fp := par ((m.r7 + m.r3 + 0) % 256), fs := decide (128 ≤ (m.r7 + m.r3 + 0) % 256), fx := decide (15 < m.r7 % 16 + m.r3 % 16 + 0), fz := (m.r7 + m.r3 + 0) % 256 == 0, pc := w16 (m.pc + 1), r7 := (m.r7 + m.r3 + 0) % 256 }
@[simp] def z84_0 (m : Mc) : Mc := { m with fc := decide (255 < m.r7 + m.r4 + 0), fp := par ((m.r7 + m.r4 + 0) % 256), fs := decide (128 ≤ (m.r7 + m.r4 + 0) % 256), fx := decide (15 < m.r7 % 16 + m.r4 % 16 + 0), fz := (m.r7 + m.r4 + 0) % 256 == 0, pc := w16 (m.pc + 1), r7 := (m.r7 + m.r4 + 0) % 256 }
@[simp] def z85_0 (m : Mc) : Mc := { m with fc := decide (255 < m.r7 + m.r5 + 0), fp := par ((m.r7 + m.r5 + 0) % 256), fs := decide (128 ≤ (m.r7 + m.r5 + 0) % 256), fx := decide (15 < m.r7 % 16 + m.r5 % 16 + 0), fz := (m.r7 + m.r5 + 0) % 256 == 0, pc := w16 (m.pc + 1), r7 := (m.r7 + m.r5 + 0) % 256 }
@[simp] def z86_0 (m : Mc) (g : Nat → Int) : Mc := { m with fc := decide (255 < m.r7 + g (ix (or16 (w16 (w16 m.r4 * 256)) (w16 m.r5))) + 0), fp := par ((m.r7 + g (ix (or16 (w16 (w16 m.r4 * 256)) (w16 m.r5))) + 0) % 256), fs := decide (128 ≤ (m.r7 + g (ix (or16 (w16 (w16 m.r4 * 256)) (w16 m.r5))) + 0) % 256), fx := decide (15 < m.r7 % 16 + g (ix (or16 (w16 (w16 m.r4 * 256)) (w16 m.r5))) % 16 + 0), fz := (m.r7 + g (ix (or16 (w16 (w16 m.r4 * 256)) (w16 m.r5))) + 0) % 256 == 0, pc := w16 (m.pc + 1), r7 := (m.r7 + g (ix (or16 (w16 (w16 m.r4 * 256)) (w16 m.r5))) + 0) % 256 }
@[simp] def z87_0 (m : Mc) : Mc := { m with fc := decide (255 < m.r7 + m.r7 + 0), fp := par ((m.r7 + m.r7 + 0) % 256), fs := decide (128 ≤ (m.r7 + m.r7 + 0) % 256), fx := decide (15 < m.r7 % 16 + m.r7 % 16 + 0), fz := (m.r7 + m.r7 + 0) % 256 == 0, pc := w16 (m.pc + 1), r7 := (m.r7 + m.r7 + 0) % 256 }
@[simp] def z88_0 (m : Mc) : Mc := { m with fc := decide (255 < m.r7 + m.r0 + 1), fp := par ((m.r7 + m.r0 + 1) % 256), fs := decide (128 ≤ (m.r7 + m.r0 + 1) % 256), fx := decide (15 < m.r7 % 16 + m.r0 % 16 + 1), fz := (m.r7 + m.r0 + 1) % 256 == 0, pc := w16 (m.pc + 1), r7 := (m.r7 + m.r0 + 1) % 256 }
@[simp] def z88_1 (m : Mc) : Mc := { m with fc := decide (255 < m.r7 + m.r0 + 0), fp := par ((m.r7 + m.r0 + 0) % 256), fs := decide (128 ≤ (m.r7 + m.r0 + 0) % 256), fx := decide (15 < m.r7 % 16 + m.r0 % 16 + 0), fz := (m.r7 + m.r0 + 0) % 256 == 0, pc := w16 (m.pc + 1), r7 := (m.r7 + m.r0 + 0) % 256 }
@[simp] def z89_0 (m : Mc) : Mc := { m with fc := decide (255 < m.r7 + m.r1 + 1), fp := par ((m.r7 + m.r1 + 1) % 256), fs := decide (128 ≤ (m.r7 + m.r1 + 1) % 256), fx := decide (15 < m.r7 % 16 + m.r1 % 16 + 1), fz := (m.r7 + m.r1 + 1) % 256 == 0, pc := w16 (m.pc + 1), r7 := (m.r7 + m.r1 + 1) % 256 }
@[simp] def z89_1 (m : Mc) : Mc := { m with fc := decide (255 < m.r7 + m.r1 + 0), fp := par ((m.r7 + m.r1 + 0) % 256), fs := decide (128 ≤ (m.r7 + m.r1 + 0) % 256), fx := decide (15 < m.r7 % 16 + m.r1 % 16 + 0), fz := (m.r7 + m.r1 + 0) % 256 == 0, pc := w16 (m.pc + 1), r7 := (m.r7 + m.r1 + 0) % 256 }
@[simp] def z8a_0 (m : Mc) : Mc := { m with fc := decide (255 < m.r7 + m.r2 + 1), fp := par ((m.r7 + m.r2 + 1) % 256), fs := decide (128 ≤ (m.r7 + m.r2 + 1) % 256), fx := decide (15 < m.r7 % 16 + m.r2 % 16 + 1), fz := (m.r7 + m.r2 + 1) % 256 == 0, pc := w16 (m.pc + 1), r7 := (m.r7 + m.r2 + 1) % 256 }
@[simp] def z8a_1 (m : Mc) : Mc := { m with fc := decide (255 < m.r7 + m.r2 + 0), fp := par ((m.r7 + m.r2 + 0) % 256), fs := decide (128 ≤ (m.r7 + m.r2 + 0) % 256), fx := decide (15 < m.r7 % 16 + m.r2 % 16 + 0), fz := (m.r7 + m.r2 + 0) % 256 == 0, pc := w16 (m.pc + 1), r7 := (m.r7 + m.r2 + 0) % 256 }
@[simp] def z8b_0 (m : Mc) : Mc := { m with fc := decide (255 < m.r7 + m.r3 + 1), fp := par ((m.r7 + m.r3 + 1) % 256), fs := decide (128 ≤ (m.r7 + m.r3 + 1) % 256), fx := decide (15 < m.r7 % 16 + m.r3 % 16 + 1), fz := (m.r7 + m.r3 + 1) % 256 == 0, pc := w16 (m.pc + 1), r7 := (m.r7 + m.r3 + 1) % 256 }
@[simp] def z8b_1 (m : Mc) : Mc := { m with fc := decide (255 < m.r7 + m.r3 + 0), fp := par ((m.r7 + m.r3 + 0) % 256), fs := decide (128 ≤ (m.r7 + m.r3 + 0) % 256), fx := decide (15 < m.r7 % 16 + m.r3 % 16 + 0), fz := (m.r7 + m.r3 + 0) % 256 == 0, pc := w16 (m.pc + 1), r7 := (m.r7 + m.r3 + 0) % 256 }
@[simp] def z8c_0 (m : Mc) : Mc := { m with fc := decide (255 < m.r7 + m.r4 + 1), fp := par ((m.r7 + m.r4 + 1) % 256), fs := decide (128 ≤ (m.r7 + m.r4 + 1) % 256), fx := decide (15 < m.r7 % 16 + m.r4 % 16 + 1), fz := (m.r7 + m.r4 + 1) % 256 == 0, pc := w16 (m.pc + 1), r7 := (m.r7 + m.r4 + 1) % 256 }
@[simp] def z8c_1 (m : Mc) : Mc := { m with fc := decide (255 < m.r7 + m.r4 + 0), fp := par ((m.r7 + m.r4 + 0) % 256), fs := decide (128 ≤ (m.r7 + m.r4 + 0) % 256), fx := decide (15 < m.r7 % 16 + m.r4 % 16 + 0), fz := (m.r7 + m.r4 + 0) % 256 == 0, pc := w16 (m.pc + 1), r7 := (m.r7 + m.r4 + 0) % 256 }
@[simp] def z8d_0 (m : Mc) : Mc := { m with fc := decide (255 < m.r7 + m.r5 + 1), fp := par ((m.r7 + m.r5 + 1) % 256), fs := decide (128 ≤ (m.r7 + m.r5 + 1) % 256), fx := decide (15 < m.r7 % 16 + m.r5 % 16 + 1), fz := (m.r7 + m.r5 + 1) % 256 == 0, pc := w16 (m.pc + 1), r7 := (m.r7 + m.r5 + 1) % 256 }
@[simp] def z8d_1 (m : Mc) : Mc := { m with fc := decide (255 < m.r7 + m.r5 + 0), fp := par ((m.r7 + m.r5 + 0) % 256), fs := decide (128 ≤ (m.r7 + m.r5 + 0) % 256), fx := decide (15 < m.r7 % 16 + m.r5 % 16 + 0), fz := (m.r7 + m.r5 + 0) % 256 == 0, pc := w16 (m.pc + 1), r7 := (m.r7 + m.r5 + 0) % 256 }
@[simp] def z8e_0 (m : Mc) (g : Nat → Int) : Mc := { m with fc := decide (255 < m.r7 + g (ix (or16 (w16 (w16 m.r4 * 256)) (w16 m.r5))) + 1), fp := par ((m.r7 + g (ix (or16 (w16 (w16 m.r4 * 256)) (w16 m.r5))) + 1) % 256), fs := decide (128 ≤ (m.r7 + g (ix (or16 (w16 (w16 m.r4 * 256)) (w16 m.r5))) + 1) % 256), fx := decide (15 < m.r7 % 16 + g (ix (or16 (w16 (w16 m.r4 * 256)) (w16 m.r5))) % 16 + 1), fz := (m.r7 + g (ix (or16 (w16 (w16 m.r4 * 256)) (w16 m.r5))) + 1) % 256 == 0, pc := w16 (m.pc + 1), r7 := (m.r7 + g (ix (or16 (w16 (w16 m.r4 * 256)) (w16 m.r5))) + 1) % 256 }
@[simp] def z8e_1 (m : Mc) (g : Nat → Int) : Mc := { m with fc := decide (255 < m.r7 + g (ix (or16 (w16 (w16 m.r4 * 256)) (w16 m.r5))) + 0), fp := par ((m.r7 + g (ix (or16 (w16 (w16 m.r4 * 256)) (w16 m.r5))) + 0) % 256), fs := decide (128 ≤ (m.r7 + g (ix (or16 (w16 (w16 m.r4 * 256)) (w16 m.r5))) + 0) % 256), fx := decide (15 < m.r7 % 16 + g (ix (or16 (w16 (w16 m.r4 * 256)) (w16 m.r5))) % 16 + 0), fz := (m.r7 + g (ix (or16 (w16 (w16 m.r4 * 256)) (w16 m.r5))) + 0) % 256 == 0, pc := w16 (m.pc + 1), r7 := (m.r7 + g (ix (or16 (w16 (w16 m.r4 * 256)) (w16 m.r5))) + 0) % 256 }
@[simp] def z8f_0 (m : Mc) : Mc := { m with fc := decide (255 < m.r7 + m.r7 + 1), fp := par ((m.r7 + m.r7 + 1) % 256), fs := decide (128 ≤ (m.r7 + m.r7 + 1) % 256), fx := decide (15 < m.r7 % 16 + m.r7 % 16 + 1), fz := (m.r7 + m.r7 + 1) % 256 == 0, pc := w16 (m.pc + 1), r7 := (m.r7 + m.r7 + 1) % 256 }
@[simp] def z8f_1 (m : Mc) : Mc := { m with fc := decide (255 < m.r7 + m.r7 + 0), fp := par ((m.r7 + m.r7 + 0) % 256), fs := decide (128 ≤ (m.r7 + m.r7 + 0) % 256), fx := decide (15 < m.r7 % 16 + m.r7 % 16 + 0), fz := (m.r7 + m.r7 + 0) % 256 == 0, pc := w16 (m.pc + 1), r7 := (m.r7 + m.r7 + 0) % 256 }
end Go.Proofs.Ytpggoincnebfnaa
namespace Go.Proofs.Ytpggoincnebfnaa
open Go Go.Ly Go.RowKit
variable (m : Mc) (g : Nat → Int) (b1 b2 : Int)
@[simp] def z90_0 (m : Mc) : Mc := { m with fc := decide (m.r7 - m.r0 - 0 < 0), fp := par ((m.r7 - m.r0 - 0) % 256), fs := decide (128 ≤ (m.r7 - m.r0 - 0) % 256), fx := decide (15 < m.r7 % 16 + 15 - m.r0 % 16 + 1), fz := (m.r7 - m.r0 - 0) % 256 == 0, pc := w16 (m.pc + 1), r7 := (m.r7 - m.r0 - 0) % 256 }
@[simp] def z91_0 (m : Mc) : Mc := { m with fc := decide (m.r7 - m.r1 - 0 < 0), fp := par ((m.r7 - m.r1 - 0) % 256), fs := decide (128 ≤ (m.r7 - m.r1 - 0) % 256), fx := decide (15 < m.r7 % 16 + 15 - m.r1 % 16 + 1), fz := (m.r7 - m.r1 - 0) % 256 == 0, pc := w16 (m.pc + 1), r7 := (m.r7 - m.r1 - 0) % 256 }
@[simp] def z92_0 (m : Mc) : Mc := { m with fc := decide (m.r7 - m.r2 - 0 < 0), fp := par ((m.r7 - m.r2 - 0) % 256), fs := decide (128 ≤ (m.r7 - m.r2 - 0) % 256), fx := decide (15 < m.r7 % 16 + 15 - m.r2 % 16 + 1), fz := (m.r7 - m.r2 - 0) % 256 == 0, pc := w16 (m.pc + 1), r7 := (m.r7 - m.r2 - 0) % 256 }
@[simp] def z93_0 (m : Mc) : Mc := { m with fc := decide (m.r7 - m.r3 - 0 < 0), fp := par ((m.r7 - m.r3 - 0) % 256), fs := decide (128 ≤ (m.r7 - m.r3 - 0) % 256), fx := decide (15 < m.r7 % 16 + 15 - m.r3 % 16 + 1), fz := (m.r7 - m.r3 - 0) % 256 == 0, pc := w16 (m.pc + 1), r7 := (m.r7 - m.r3 - 0) % 256 }
@[simp] def z94_0 (m : Mc) : Mc := { m with fc := decide (m.r7 - m.r4 - 0 < 0), fp := par ((m.r7 - m.r4 - 0) % 256), fs := decide (128 ≤ (m.r7 - m.r4 - 0) % 256), fx := decide (15 < m.r7 % 16 + 15 - m.r4 % 16 + 1), fz := (m.r7 - m.r4 - 0) % 256 == 0, pc := w16 (m.pc + 1), r7 := (m.r7 - m.r4 - 0) % 256 }
@[simp] def z95_0 (m : Mc) : Mc := { m with fc := decide (m.r7 - m.r5 - 0 < 0), fp := par ((m.r7 - m.r5 - 0) % 256), fs := decide (128 ≤ (m.r7 - m.r5 - 0) % 256), fx := decide (15 < m.r7 % 16 + 15 - m.r5 % 16 + 1), fz := (m.r7 - m.r5 - 0) % 256 == 0, pc := w16 (m.pc + 1), r7 := (m.r7 - m.r5 - 0) % 256 }
@[simp] def z96_0 (m : Mc) (g : Nat → Int) : Mc := { m with fc := decide (m.r7 - g (ix (or16 (w16 (w16 m.r4 * 256)) (w16 m.r5))) - 0 < 0), fp := par ((m.r7 - g (ix (or16 (w16 (w16 m.r4 * 256)) (w16 m.r5))) - 0) % 256), fs := decide (128 ≤ (m.r7 - g (ix (or16 (w16 (w16 m.r4 * 256)) (w16 m.r5))) - 0) % 256), fx := decide (15 < m.r7 % 16 + 15 - g (ix (or16 (w16 (w16 m.r4 * 256)) (w16 m.r5))) % 16 + 1), fz := (m.r7 - g (ix (or16 (w16 (w16 m.r4 * 256)) (w16 m.r5))) - 0) % 256 == 0, pc := w16 (m.pc + 1), r7 := (m.r7 - g (ix (or16 (w16 (w16 m.r4 * 256)) (w16 m.r5))) - 0) % 256 }
@[simp] def z97_0 (m : Mc) : Mc := { m with fc := decide (m.r7 - m.r7 - 0 < 0), fp := par ((m.r7 - m.r7 - 0) % 256), fs := decide (128 ≤ (m.r7 - m.r7 - 0) % 256), fx := decide (15 < m.r7 % 16 + 15 - m.r7 % 16 + 1), fz := (m.r7 - m.r7 - 0) % 256 == 0, pc := w16 (m.pc + 1), r7 := (m.r7 - m.r7 - 0) % 256 }
@[simp] def z98_0 (m : Mc) : Mc := { m with fc := decide (m.r7 - m.r0 - 1 < 0), fp := par ((m.r7 - m.r0 - 1) % 256), fs := decide (128 ≤ (m.r7 - m.r0 - 1) % 256), fx := decide (15 < m.r7 % 16 + 15 - m.r0 % 16 + 0), fz := (m.r7 - m.r0 - 1) % 256 == 0, pc := w16 (m.pc + 1), r7 := (m.r7 - m.r0 - 1) % 256 }
@[simp] def z98_1 (m : Mc) : Mc := { m with fc := decide (m.r7 - m.r0 - 0 < 0), fp := par ((m.r7 - m.r0 - 0) % 256), fs := decide (128 ≤ (m.r7 - m.r0 - 0) % 256), fx := decide (15 < m.r7 % 16 + 15 - m.r0 % 16 + 1), fz := (m.r7 - m.r0 - 0) % 256 == 0, pc := w16 (m.pc + 1), r7 := (m.r7 - m.r0 - 0) % 256 }
@[simp] def z99_0 (m : Mc) : Mc := { m with fc := decide (m.r7 - m.r1 - 1 < 0), fp := par ((m.r7 - m.r1 - 1) % 256), fs := decide (128 ≤ (m.r7 - m.r1 - 1) % 256), fx := decide (15 < m.r7 % 16 + 15 - m.r1 % 16 + 0), fz := (m.r7 - m.r1 - 1) % 256 == 0, pc := w16 (m.pc + 1), r7 := (m.r7 - m.r1 - 1) % 256 }
@[simp] def z99_1 (m : Mc) : Mc := { m with fc := decide (m.r7 - m.r1 - 0 < 0), fp := par ((m.r7 - m.r1 - 0) % 256), fs := decide (128 ≤ (m.r7 - m.r1 - 0) % 256), fx := decide (15 < m.r7 % 16 + 15 - m.r1 % 16 + 1), fz := (m.r7 - m.r1 - 0) % 256 == 0, pc := w16 (m.pc + 1), r7 := (m.r7 - m.r1 - 0) % 256 }
@[simp] def z9a_0 (m : Mc) : Mc := { m with fc := decide (m.r7 - m.r2 - 1 < 0), fp := par ((m.r7 - m.r2 - 1) % 256), fs := decide (128 ≤ (m.r7 - m.r2 - 1) % 256), fx := decide (15 < m.r7 % 16 + 15 - m.r2 % 16 + 0), fz := (m.r7 - m.r2 - 1) % 256 == 0, pc := w16 (m.pc + 1), r7 := (m.r7 - m.r2 - 1) % 256 }
@[simp] def z9a_1 (m : Mc) : Mc := { m with fc := decide (m.r7 - m.r2 - 0 < 0), fp := par ((m.r7 - m.r2 - 0) % 256), fs := decide (128 ≤ (m.r7 - m.r2 - 0) % 256), fx := decide (15 < m.r7 % 16 + 15 - m.r2 % 16 + 1), fz := (m.r7 - m.r2 - 0) % 256 == 0, pc := w16 (m.pc + 1), r7 := (m.r7 - m.r2 - 0) % 256 }
@[simp] def z9b_0 (m : Mc) : Mc := { m with fc := decide (m.r7 - m.r3 - 1 < 0), fp := par ((m.r7 - m.r3 - 1) % 256), fs := decide (128 ≤ (m.r7 - m.r3 - 1) % 256), fx := decide (15 < m.r7 % 16 + 15 - m.r3 % 16 + 0), fz := (m.r7 - m.r3 - 1) % 256 == 0, pc := w16 (m.pc + 1), r7 := (m.r7 - m.r3 - 1) % 256 }
@[simp] def z9b_1 (m : Mc) : Mc := { m with fc := decide (m.r7 - m.r3 - 0 < 0), fp := par ((m.r7 - m.r3 - 0) % 256), fs := decide (128 ≤ (m.r7 - m.r3 - 0) % 256), fx := decide (15 < m.r7 % 16 + 15 - m.r3 % 16 + 1), fz := (m.r7 - m.r3 - 0) % 256 == 0, pc := w16 (m.pc + 1), r7 := (m.r7 - m.r3 - 0) % 256 }
@[simp] def z9c_0 (m : Mc) : Mc := { m with fc := decide (m.r7 - m.r4 - 1 < 0), fp := par ((m.r7 - m.r4 - 1) % 256), fs := decide (128 ≤ (m.r7 - m.r4 - 1) % 256), fx := decide (15 < m.r7 % 16 + 15 - m.r4 % 16 + 0), fz := (m.r7 - m.r4 - 1) % 256 == 0, pc := w16 (m.pc + 1), r7 := (m.r7 - m.r4 - 1) % 256 }
@[simp] def z9c_1 (m : Mc) : Mc := { m with fc := decide (m.r7 - m.r4 - 0 < 0), fp := par ((m.r7 - m.r4 - 0) % 256), fs := decide (128 ≤ (m.r7 - m.r4 - 0) % 256), fx := decide (15 < m.r7 % 16 + 15 - m.r4 % 16 + 1), fz := (m.r7 - m.r4 - 0) % 256 == 0, pc := w16 (m.pc + 1), r7 := (m.r7 - m.r4 - 0) % 256 }
@[simp] def z9d_0 (m : Mc) : Mc := { m with fc := decide (m.r7 - m.r5 - 1 < 0), fp := par ((m.r7 - m.r5 - 1) % 256), fs := decide (128 ≤ (m.r7 - m.r5 - 1) % 256), fx := decide (15 < m.r7 % 16 + 15 - m.r5 % 16 + 0), fz := (m.r7 - m.r5 - 1) % 256 == 0, pc := w16 (m.pc + 1), r7 := (m.r7 - m.r5 - 1) % 256 }
@[simp] def z9d_1 (m : Mc) : Mc := { m with fc := decide (m.r7 - m.r5 - 0 < 0), fp := par ((m.r7 - m.r5 - 0) % 256), fs := decide (128 ≤ (m.r7 - m.r5 - 0) % 256), fx := decide (15 < m.r7 % 16 + 15 - m.r5 % 16 + 1), fz := (m.r7 - m.r5 - 0) % 256 == 0, pc := w16 (m.pc + 1), r7 := (m.r7 - m.r5 - 0) % 256 }
@[simp] def z9e_0 (m : Mc) (g : Nat → Int) : Mc := { m with fc := decide (m.r7 - g (ix (or16 (w16 (w16 m.r4 * 256)) (w16 m.r5))) - 1 < 0), fp := par ((m.r7 - g (ix (or16 (w16 (w16 m.r4 * 256)) (w16 m.r5))) - 1) % 256), fs := decide (128 ≤ (m.r7 - g (ix (or16 (w16 (w16 m.r4 * 256)) (w16 m.r5))) - 1) % 256), fx := decide (15 < m.r7 % 16 + 15 - g (ix (or16 (w16 (w16 m.r4 * 256)) (w16 m.r5))) % 16 + 0), fz := (m.r7 - g (ix (or16 (w16 (w16 m.r4 * 256)) (w16 m.r5))) - 1) % 256 == 0, pc := w16 (m.pc + 1), r7 := (m.r7 - g (ix (or16 (w16 (w16 m.r4 * 256)) (w16 m.r5))) - 1) % 256 }
@[simp] def z9e_1 (m : Mc) (g : Nat → Int) : Mc := { m with fc := decide (m.r7 - g (ix (or16 (w16 (w16 m.r4 * 256)) (w16 m.r5))) - 0 < 0), fp := par ((m.r7 - g (ix (or16 (w16 (w16 m.r4 * 256)) (w16 m.r5))) - 0) % 256), fs := decide (128 ≤ (m.r7 - g (ix (or16 (w16 (w16 m.r4 * 256)) (w16 m.r5))) - 0) % 256), fx := decide (15 < m.r7 % 16 + 15 - g (ix (or16 (w16 (w16 m.r4 * 256)) (w16 m.r5))) % 16 + 1), fz := (m.r7 - g (ix (or16 (w16 (w16 m.r4 * 256)) (w16 m.r5))) - 0) % 256 == 0, pc := w16 (m.pc + 1), r7 := (m.r7 - g (ix (or16 (w16 (w16 m.r4 * 256)) (w16 m.r5))) - 0) % 256 }
@[simp] def z9f_0 (m : Mc) : Mc := { m with fc := decide (m.r7 - m.r7 - 1 < 0), fp := par ((m.r7 - m.r7 - 1) % 256), fs := decide (128 ≤ (m.r7 - m.r7 - 1) % 256), fx := decide (15 < m.r7 % 16 + 15 - m.r7 % 16 + 0), fz := (m.r7 - m.r7 - 1) % 256 == 0, pc := w16 (m.pc + 1), r7 := (m.r7 - m.r7 - 1) % 256 }
@[simp] def z9f_1 (m : Mc) : Mc := { m with fc := decide (m.r7 - m.r7 - 0 < 0), fp := par ((m.r7 - m.r7 - 0) % 256), fs := decide (128 ≤ (m.r7 - m.r7 - 0) % 256), fx := decide (15 < m.r7 % 16 + 15 - m.r7 % 16 + 1), fz := (m.r7 - m.r7 - 0) % 256 == 0, pc := w16 (m.pc + 1), r7 := (m.r7 - m.r7 - 0) % 256 }
end Go.Proofs.Ytpggoincnebfnaa
namespace Go.Proofs.Ytpggoincnebfnaa
open Go Go.Ly Go.RowKit
variable (m : Mc) (g : Nat → Int) (b1 b2 : Int)
@[simp] def za0_0 (m : Mc) : Mc := { m with fc := false, fp := par (and8 m.r7 m.r0), fs := decide (128 ≤ and8 m.r7 m.r0), fx := and8 (or8 m.r7 m.r0) 8 != 0, fz := and8 m.r7 m.r0 == 0, pc := w16 (m.pc + 1), r7 := and8 m.r7 m.r0 }
@[simp] def za1_0 (m : Mc) : Mc := { m with fc := false, fp := par (and8 m.r7 m.r1), fs := decide (128 ≤ and8 m.r7 m.r1), fx := and8 (or8 m.r7 m.r1) 8 != 0, fz := and8 m.r7 m.r1 == 0, pc := w16 (m.pc + 1), r7 := and8 m.r7 m.r1 }
@[simp] def za2_0 (m : Mc) : Mc := { m with fc := false, fp := par (and8 m.r7 m.r2), fs := decide (128 ≤ and8 m.r7 m.r2), fx := and8 (or8 m.r7 m.r2) 8 != 0, fz := and8 m.r7 m.r2 == 0, pc := w16 (m.pc + 1), r7 := and8 m.r7 m.r2 }
@[simp] def za3_0 (m : Mc) : Mc := { m with fc := false, fp := par (and8 m.r7 m.r3), fs := decide (128 ≤ and8 m.r7 m.r3), fx := and8 (or8 m.r7 m.r3) 8 != 0, fz := and8 m.r7 m.r3 == 0, pc := w16 (m.pc + 1), r7 := and8 m.r7 m.r3 }
@[simp] def za4_0 (m : Mc) : Mc := { m with fc := false, fp := par (and8 m.r7 m.r4), fs := decide (128 ≤ and8 m.r7 m.r4), fx := and8 (or8 m.r7 m.r4) 8 != 0, fz := and8 m.r7 m.r4 == 0, pc := w16 (m.pc + 1), r7 := and8 m.r7 m.r4 }
@[simp] def za5_0 (m : Mc) : Mc := { m with fc := false, fp := par (and8 m.r7 m.r5), fs := decide (128 ≤ and8 m.r7 m.r5), fx := and8 (or8 m.r7 m.r5) 8 != 0, fz := and8 m.r7 m.r5 == 0, pc := w16 (m.pc + 1), r7 := and8 m.r7 m.r5 }
@[simp] def za6_0 (m : Mc) (g : Nat → Int) : Mc := { m with fc := false, fp := par (and8 m.r7 (g (ix (or16 (w16 (w16 m.r4 * 256)) (w16 m.r5))))), fs := decide (128 ≤ and8 m.r7 (g (ix (or16 (w16 (w16 m.r4 * 256)) (w16 m.r5))))), fx := and8 (or8 m.r7 (g (ix (or16 (w16 (w16 m.r4 * 256)) (w16 m.r5))))) 8 != 0, fz := and8 m.r7 (g (ix (or16 (w16 (w16 m.r4 * 256)) (w16 m.r5)))) == 0, pc := w16 (m.pc + 1), r7 := and8 m.r7 (g (ix (or16 (w16 (w16 m.r4 * 256)) (w16 m.r5)))) }
@[simp] def za7_0 (m : Mc) : Mc := { m with fc := false, fp := par (and8 m.r7 m.r7), fs := decide (128 ≤ and8 m.r7 m.r7), fx := and8 (or8 m.r7 m.r7) 8 != 0, fz := and8 m.r7 m.r7 == 0, pc := w16 (m.pc + 1), r7 := and8 m.r7 m.r7 }
@[simp] def za8_0 (m : Mc) : Mc := { m with fc := false, fp := par (xor8 m.r7 m.r0), fs := decide (128 ≤ xor8 m.r7 m.r0), fx := false, fz := xor8 m.r7 m.r0 == 0, pc := w16 (m.pc + 1), r7 := xor8 m.r7 m.r0 }
@[simp] def za9_0 (m : Mc) : Mc := { m with fc := false, fp := par (xor8 m.r7 m.r1), fs := decide (128 ≤ xor8 m.r7 m.r1), fx := false, fz := xor8 m.r7 m.r1 == 0, pc := w16 (m.pc + 1), r7 := xor8 m.r7 m.r1 }
@[simp] def zaa_0 (m : Mc) : Mc := { m with fc := false, fp := par (xor8 m.r7 m.r2), fs := decide (128 ≤ xor8 m.r7 m.r2), fx := false, fz := xor8 m.r7 m.r2 == 0, pc := w16 (m.pc + 1), r7 := xor8 m.r7 m.r2 }
@[simp] def zab_0 (m : Mc) : Mc := { m with fc := false, fp := par (xor8 m.r7 m.r3), fs := decide (128 ≤ xor8 m.r7 m.r3), fx := false, fz := xor8 m.r7 m.r3 == 0, pc := w16 (m.pc + 1), r7 := xor8 m.r7 m.r3 }
@[simp] def zac_0 (m : Mc) : Mc := { m with fc := false, fp := par (xor8 m.r7 m.r4), fs := decide (128 ≤ xor8 m.r7 m.r4), fx := false, fz := xor8 m.r7 m.r4 == 0, pc := w16 (m.pc + 1), r7 := xor8 m.r7 m.r4 }
@[simp] def zad_0 (m : Mc) : Mc := { m with fc := false, fp := par (xor8 m.r7 m.r5), fs := decide (128 ≤ xor8 m.r7 m.r5), fx := false, fz := xor8 m.r7 m.r5 == 0, pc := w16 (m.pc + 1), r7 := xor8 m.r7 m.r5 }
@[simp] def zae_0 (m : Mc) (g : Nat → Int) : Mc := { m with fc := false, fp := par (xor8 m.r7 (g (ix (or16 (w16 (w16 m.r4 * 256)) (w16 m.r5))))), fs := decide (128 ≤ xor8 m.r7 (g (ix (or16 (w16 (w16 m.r4 * 256)) (w16 m.r5))))), fx := false, fz := xor8 m.r7 (g (ix (or16 (w16 (w16 m.r4 * 256)) (w16 m.r5)))) == 0, pc := w16 (m.pc + 1), r7 := xor8 m.r7 (g (ix (or16 (w16 (w16 m.r4 * 256)) (w16 m.r5)))) }
@[simp] def zaf_0 (m : Mc) : Mc := { m with fc := false, fp := par (xor8 m.r7 m.r7), fs := decide (128 ≤ xor8 m.r7 m.r7), fx := false, fz := xor8 m.r7 m.r7 == 0, pc := w16 (m.pc + 1), r7 := xor8 m.r7 m.r7 }
end Go.Proofs.Ytpggoincnebfnaa
namespace Go.Proofs.Ytpggoincnebfnaa
open Go Go.Ly Go.RowKit
variable (m : Mc) (g : Nat → Int) (b1 b2 : Int)
@[simp] def zb0_0 (m : Mc) : Mc := { m with fc := false, fp := par (or8 m.r7 m.r0), fs := decide (128 ≤ or8 m.r7 m.r0), fx := false, fz := or8 m.r7 m.r0 == 0, pc := w16 (m.pc + 1), r7 := or8 m.r7 m.r0 }
@[simp] def zb1_0 (m : Mc) : Mc := { m with fc := false, fp := par (or8 m.r7 m.r1), fs := decide (128 ≤ or8 m.r7 m.r1), fx := false, fz := or8 m.r7 m.r1 == 0, pc := w16 (m.pc + 1), r7 := or8 m.r7 m.r1 }
@[simp] def zb2_0 (m : Mc) : Mc := { m with fc := false, fp := par (or8 m.r7 m.r2), fs := decide (128 ≤ or8 m.r7 m.r2), fx := false, fz := or8 m.r7 m.r2 == 0, pc := w16 (m.pc + 1), r7 := or8 m.r7 m.r2 }
@[simp] def zb3_0 (m : Mc) : Mc := { m with fc := false, fp := par (or8 m.r7 m.r3), fs := decide (128 ≤ or8 m.r7 m.r3), fx := false, fz := or8 m.r7 m.r3 == 0, pc := w16 (m.pc + 1), r7 := or8 m.r7 m.r3 }
@[simp] def zb4_0 (m : Mc) : Mc := { m with fc := false, fp := par (or8 m.r7 m.r4), fs := decide (128 ≤ or8 m.r7 m.r4), fx := false, fz := or8 m.r7 m.r4 == 0, pc := w16 (m.pc + 1), r7 := or8 m.r7 m.r4 }
@[simp] def zb5_0 (m : Mc) : Mc := { m with fc := false, fp := par (or8 m.r7 m.r5), fs := decide (128 ≤ or8 m.r7 m.r5), fx := false, fz := or8 m.r7 m.r5 == 0, pc := w16 (m.pc + 1), r7 := or8 m.r7 m.r5 }
@[simp] def zb6_0 (m : Mc) (g : Nat → Int) : Mc := { m with fc := false, fp := par (or8 m.r7 (g (ix (or16 (w16 (w16 m.r4 * 256)) (w16 m.r5))))), fs := decide (128 ≤ or8 m.r7 (g (ix (or16 (w16 (w16 m.r4 * 256)) (w16 m.r5))))), fx := false, fz := or8 m.r7 (g (ix (or16 (w16 (w16 m.r4 * 256)) (w16 m.r5)))) == 0, pc := w16 (m.pc + 1), r7 := or8 m.r7 (g (ix (or16 (w16 (w16 m.r4 * 256)) (w16 m.r5)))) }
@[simp] def zb7_0 (m : Mc) : Mc := { m with fc := false, fp := par (or8 m.r7 m.r7), fs := decide (128 ≤ or8 m.r7 m.r7), fx := false, fz := or8 m.r7 m.r7 == 0, pc := w16 (m.pc + 1), r7 := or8 m.r7 m.r7 }
@[simp] def zb8_0 (m : Mc) : Mc := { m with fc := decide (m.r7 - m.r0 - 0 < 0), fp := par ((m.r7 - m.r0 - 0) % 256), fs := decide (128 ≤ (m.r7 - m.r0 - 0) % 256), fx := decide (15 < m.r7 % 16 + 15 - m.r0 % 16 + 1), fz := (m.r7 - m.r0 - 0) % 256 == 0, pc := w16 (m.pc + 1) }
@[simp] def zb9_0 (m : Mc) : Mc := { m with fc := decide (m.r7 - m.r1 - 0 < 0), fp := par ((m.r7 - m.r1 - 0) % 256), fs := decide (128 ≤ (m.r7 - m.r1 - 0) % 256), fx := decide (15 < m.r7 % 16 + 15 - m.r1 % 16 + 1), fz := (m.r7 - m.r1 - 0) % 256 == 0, pc := w16 (m.pc + 1) }
@[simp] def zba_0 (m : Mc) : Mc := { m with fc := decide (m.r7 - m.r2 - 0 < 0), fp := par ((m.r7 - m.r2 - 0) % 256), fs := decide (128 ≤ (m.r7 - m.r2 - 0) % 256), fx := decide (15 < m.r7 % 16 + 15 - m.r2 % 16 + 1), fz := (m.r7 - m.r2 - 0) % 256 == 0, pc := w16 (m.pc + 1) }
@[simp] def zbb_0 (m : Mc) : Mc := { m with fc := decide (m.r7 - m.r3 - 0 < 0), fp := par ((m.r7 - m.r3 - 0) % 256), fs := decide (128 ≤ (m.r7 - m.r3 - 0) % 256), fx := decide (15 < m.r7 % 16 + 15 - m.r3 % 16 + 1), fz := (m.r7 - m.r3 - 0) % 256 == 0, pc := w16 (m.pc + 1) }
@[simp] def zbc_0 (m : Mc) : Mc := { m with fc := decide (m.r7 - m.r4 - 0 < 0), fp := par ((m.r7 - m.r4 - 0) % 256), fs := decide (128 ≤ (m.r7 - m.r4 - 0) % 256), fx := decide (15 < m.r7 % 16 + 15 - m.r4 % 16 + 1), fz := (m.r7 - m.r4 - 0) % 256 == 0, pc := w16 (m.pc + 1) }
@[simp] def zbd_0 (m : Mc) : Mc := { m with fc := decide (m.r7 - m.r5 - 0 < 0), fp := par ((m.r7 - m.r5 - 0) % 256), fs := decide (128 ≤ (m.r7 - m.r5 - 0) % 256), fx := decide (15 < m.r7 % 16 + 15 - m.r5 % 16 + 1), fz := (m.r7 - m.r5 - 0) % 256 == 0, pc := w16 (m.pc + 1) }
@[simp] def zbe_0 (m : Mc) (g : Nat → Int) : Mc := { m with fc := decide (m.r7 - g (ix (or16 (w16 (w16 m.r4 * 256)) (w16 m.r5))) - 0 < 0), fp := par ((m.r7 - g (ix (or16 (w16 (w16 m.r4 * 256)) (w16 m.r5))) - 0) % 256), fs := decide (128 ≤ (m.r7 - g (ix (or16 (w16 (w16 m.r4 * 256)) (w16 m.r5))) - 0) % 256), fx := decide (15 < m.r7 % 16 + 15 - g (ix (or16 (w16 (w16 m.r4 * 256)) (w16 m.r5))) % 16 + 1), fz := (m.r7 - g (ix (or16 (w16 (w16 m.r4 * 256)) (w16 m.r5))) - 0) % 256 == 0, pc := w16 (m.pc + 1) }
@[simp] def zbf_0 (m : Mc) : Mc := { m with fc := decide (m.r7 - m.r7 - 0 < 0), fp := par ((m.r7 - m.r7 - 0) % 256), fs := decide (128 ≤ (m.r7 - m.r7 - 0) % 256), fx := decide (15 < m.r7 % 16 + 15 - m.r7 % 16 + 1), fz := (m.r7 - m.r7 - 0) % 256 == 0, pc := w16 (m.pc + 1) }
end Go.Proofs.Ytpggoincnebfnaa
namespace Go.Proofs.Ytpggoincnebfnaa
open Go Go.Ly Go.RowKit
variable (m : Mc) (g : Nat → Int) (b1 b2 : Int)
@[simp] def zc0_0 (m : Mc) (g : Nat → Int) : Mc := { m with pc := or16 (w16 (g (ix (w16 (w16 (m.sp + 2) - 2))))) (w16 (w16 (g (ix (w16 (w16 (w16 (m.sp + 2) - 2) + 1)))) * 256)), sp := w16 (m.sp + 2) }
@[simp] def zc1_0 (m : Mc) (g : Nat → Int) : Mc := { m with pc := w16 (m.pc + 1), r0 := w8 ((or16 (w16 (g (ix (w16 (w16 (m.sp + 2) - 2))))) (w16 (w16 (g (ix (w16 (w16 (w16 (m.sp + 2) - 2) + 1)))) * 256))).fdiv 256), r1 := w8 (or16 (w16 (g (ix (w16 (w16 (m.sp + 2) - 2))))) (w16 (w16 (g (ix (w16 (w16 (w16 (m.sp + 2) - 2) + 1)))) * 256))), sp := w16 (m.sp + 2) }
@[simp] def zc5_0 (m : Mc) : Mc := { m with pc := w16 (m.pc + 1), sp := w16 (m.sp - 2) }
@[simp] def zc6_0 (m : Mc) (g : Nat → Int) : Mc := { m with fc := decide (255 < m.r7 + w8 (or16 0 (w16 (g (at1 m.pc 1)))) + 0), fp := par ((m.r7 + w8 (or16 0 (w16 (g (at1 m.pc 1)))) + 0) % 256), fs := decide (128 ≤ (m.r7 + w8 (or16 0 (w16 (g (at1 m.pc 1)))) + 0) % 256), fx := decide (15 < m.r7 % 16 + w8 (or16 0 (w16 (g (at1 m.pc 1)))) % 16 + 0), fz := (m.r7 + w8 (or16 0 (w16 (g (at1 m.pc 1)))) + 0) % 256 == 0, pc := w16 (m.pc + 2), r7 := (m.r7 + w8 (or16 0 (w16 (g (at1 m.pc 1)))) + 0) % 256 }
@[simp] def zc6_1 (m : Mc) (b1 : Int) : Mc := { m with fc := decide (255 < m.r7 + w8 (or16 0 (w16 b1)) + 0), fp := par ((m.r7 + w8 (or16 0 (w16 b1)) + 0) % 256), fs := decide (128 ≤ (m.r7 + w8 (or16 0 (w16 b1)) + 0) % 256), fx := decide (15 < m.r7 % 16 + w8 (or16 0 (w16 b1)) % 16 + 0), fz := (m.r7 + w8 (or16 0 (w16 b1)) + 0) % 256 == 0, pc := w16 (m.pc + 2), r7 := (m.r7 + w8 (or16 0 (w16 b1)) + 0) % 256 }
@[simp] def zc8_0 (m : Mc) (g : Nat → Int) : Mc := { m with pc := or16 (w16 (g (ix (w16 (w16 (m.sp + 2) - 2))))) (w16 (w16 (g (ix (w16 (w16 (w16 (m.sp + 2) - 2) + 1)))) * 256)), sp := w16 (m.sp + 2) }
@[simp] def zc9_0 (m : Mc) (g : Nat → Int) : Mc := { m with pc := or16 (w16 (g (ix (w16 (w16 (m.sp + 2) - 2))))) (w16 (w16 (g (ix (w16 (w16 (w16 (m.sp + 2) - 2) + 1)))) * 256)), sp := w16 (m.sp + 2) }
end Go.Proofs.Ytpggoincnebfnaa
namespace Go.Proofs.Ytpggoincnebfnaa
open Go Go.Ly Go.RowKit
variable (m : Mc) (g : Nat → Int) (b1 b2 : Int)
@[simp] def zd0_0 (m : Mc) (g : Nat → Int) : Mc := { m with pc := or16 (w16 (g (ix (w16 (w16 (m.sp + 2) - 2))))) (w16 (w16 (g (ix (w16 (w16 (w16 (m.sp + 2) - 2) + 1)))) * 256)), sp := w16 (m.sp + 2) }
@[simp] def zd1_0 (m : Mc) (g : Nat → Int) : Mc := { m with pc := w16 (m.pc + 1), r2 := w8 ((or16 (w16 (g (ix (w16 (w16 (m.sp + 2) - 2))))) (w16 (w16 (g (ix (w16 (w16 (w16 (m.sp + 2) - 2) + 1)))) * 256))).fdiv 256), r3 := w8 (or16 (w16 (g (ix (w16 (w16 (m.sp + 2) - 2))))) (w16 (w16 (g (ix (w16 (w16 (w16 (m.sp + 2) - 2) + 1)))) * 256))), sp := w16 (m.sp + 2) }
@[simp] def zd5_0 (m : Mc) : Mc := { m with pc := w16 (m.pc + 1), sp := w16 (m.sp - 2) }
@[simp] def zd6_0 (m : Mc) (g : Nat → Int) : Mc := { m with fc := decide (m.r7 - w8 (or16 0 (w16 (g (at1 m.pc 1)))) - 0 < 0), fp := par ((m.r7 - w8 (or16 0 (w16 (g (at1 m.pc 1)))) - 0) % 256), fs := decide (128 ≤ (m.r7 - w8 (or16 0 (w16 (g (at1 m.pc 1)))) - 0) % 256), fx := decide (15 < m.r7 % 16 + 15 - w8 (or16 0 (w16 (g (at1 m.pc 1)))) % 16 + 1), fz := (m.r7 - w8 (or16 0 (w16 (g (at1 m.pc 1)))) - 0) % 256 == 0, pc := w16 (m.pc + 2), r7 := (m.r7 - w8 (or16 0 (w16 (g (at1 m.pc 1)))) - 0) % 256 }
@[simp] def zd6_1 (m : Mc) (b1 : Int) : Mc := { m with fc := decide (m.r7 - w8 (or16 0 (w16 b1)) - 0 < 0), fp := par ((m.r7 - w8 (or16 0 (w16 b1)) - 0) % 256), fs := decide (128 ≤ (m.r7 - w8 (or16 0 (w16 b1)) - 0) % 256), fx := decide (15 < m.r7 % 16 + 15 - w8 (or16 0 (w16 b1)) % 16 + 1), fz := (m.r7 - w8 (or16 0 (w16 b1)) - 0) % 256 == 0, pc := w16 (m.pc + 2), r7 := (m.r7 - w8 (or16 0 (w16 b1)) - 0) % 256 }
@[simp] def zd7_0 (m : Mc) : Mc := { m with pc := 16, sp := w16 (m.sp - 2) }
@[simp] def zd8_0 (m : Mc) (g : Nat → Int) : Mc := { m with pc := or16 (w16 (g (ix (w16 (w16 (m.sp + 2) - 2))))) (w16 (w16 (g (ix (w16 (w16 (w16 (m.sp + 2) - 2) + 1)))) * 256)), sp := w16 (m.sp + 2) }
@[simp] def zdf_0 (m : Mc) : Mc := { m with pc := 24, sp := w16 (m.sp - 2) }
end Go.Proofs.Ytpggoincnebfnaa
end
