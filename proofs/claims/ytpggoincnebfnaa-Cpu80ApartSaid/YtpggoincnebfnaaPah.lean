/- Part 8 of the texts that the law needs, laid together. By program (pack.py). -/
import Derived.Test.YtpggoincnebfnaaPac
import Derived.Test.YtpggoincnebfnaaPad
import Derived.Test.YtpggoincnebfnaaPag
import Derived.KernelRfl
import Derived.Laws.BitsLemmas
import Derived.OpenShut
set_option linter.unusedVariables false
set_option linter.unusedSimpArgs false
noncomputable section
namespace Go.Proofs.Ytpggoincnebfnaa
open Go Go.Ly Go.RowKit
def memF (a b : Nat → Int) : Nat → Nat → Int
  | 0 => fun _ => 0
  | i + 1 => upd (memF a b i) (ix (a i)) (b i)
theorem memF_mem {a b : Nat → Int} : ∀ (n : Nat), (∀ e, e < n → B8 (b e)) → Mem (memF a b n)
  | 0, _ => fun e => by simp [memF]
  | n + 1, h => upd_mem (memF_mem n (fun e he => h e (by omega))) (h n (by omega))
def zeroL : LO := .fn 1 (fun x q => ((cellsL (Value.int .u8 0))[q]?).getD undef) 65536 5
theorem zero_eq : LOeq zeroL (memL (fun _ => 0)) := by
  refine .inr ⟨1, _, _, _, _, rfl, rfl, fun e x _ hx => ?_⟩
  obtain rfl : x = 0 := by omega
  rfl
def memD : St := Ly.start Try.f25 [] H0
def memK : List KI := ((Ly.run env.bare 16 [] (Ly.start Try.f25 [sls 0 0] (mkH [some (bytes2 (fun _ => 0) (fun _ => 0) 0)]))).st memD).top.k
def memV (n : Nat) (i : Int) : List Value := slots 25 [(0, sls 0 n), (3, sl 1 65536), (4, .int .i64 i)]
theorem gM25 : env.bare.fn.get 25 = some Try.f25 := by kernel_rfl
theorem mem_0 (n : Nat) (a b : Nat → Int) : headAt [0, 3, 4] [0, 1] memD (Ly.run env.bare 16 [] (Ly.start Try.f25 [sls 0 n] (mkH [some (bytes2 a b n)]))) = (true, [], true, (Try.f25, memK, none, 1), memV n 0, [some (bytes2 a b n), some zeroL]) := by kernel_rfl
theorem mem_I (n : Nat) (a b g : Nat → Int) (i : Int) : headAt [0, 3, 4] [0, 1] memD (Ly.run env.bare 35 [(0, true), (0, true), (0, true), (0, true), (0, true), (0, true), (0, true)] (mkSt Try.f25 memK none 1 (memV n i) [some (bytes2 a b n), some (memL g)])) = (true, [(decide (i < n), true), (decide (0 ≤ i) && decide (i < n), true), (Nat.blt (0 + i.toNat) n, true), (decide (0 ≤ i) && decide (i < n), true), (Nat.blt (0 + i.toNat) n, true), (rg (a (0 + i.toNat)), true), (bl (ix (a (0 + i.toNat))), true)], true, (Try.f25, memK, none, 1), memV n (IntKind.i64.wrap (i + 1)), [some (bytes2 a b n), some (M1 g (ix (a (0 + i.toNat))) (b (0 + i.toNat)))]) := by kernel_rfl
theorem mem_T (n : Nat) (a b g : Nat → Int) (i : Int) : (Ly.run env.bare 200 [(0, false)] (mkSt Try.f25 memK none 1 (memV n i) [some (bytes2 a b n), some (memL g)])).end? = some ([(decide (i < n), false)], sl 1 65536, mkH [some (bytes2 a b n), some (memL g)]) := by kernel_rfl
theorem mem_nil : (Ly.run env.bare 300 [] (Ly.start Try.f25 [.slice none 0 0] (mkH []))).end? = some ([], sl 0 65536, mkH [some zeroL]) := by kernel_rfl
theorem mem_P (n : Nat) (a b g : Nat → Int) (i : Nat) (v : Int) : ∀ o ∈ [some (bytes2 a b n), some (M1 g i v)], ∀ x, o = some x → plainO x := by
  intro o ho x hx
  simp only [List.mem_cons, List.not_mem_nil, or_false] at ho
  rcases ho with rfl | rfl <;> (simp only [Option.some.injEq] at hx; subst hx)
  · intro e j; cases j <;> simp [noBlk, blks]
  · intro e j
    simp only [updG]
    cases h : (Nat.ble 0 j && Nat.blt j (0 + [Value.int .u8 v].length)) with
    | false => simp [noBlk, blks]
    | true =>
      simp only [cond_true]; rw [vif_eq]
      cases Nat.beq e i with
      | false => simp [noBlk, blks]
      | true =>
        have : j = 0 := by simp [Nat.blt_eq] at h; omega
        subst this; simp [noBlk, blks]
theorem mem_Pz (n : Nat) (a b : Nat → Int) : ∀ o ∈ [some (bytes2 a b n), some zeroL], ∀ x, o = some x → plainO x := by
  intro o ho x hx
  simp only [List.mem_cons, List.not_mem_nil, or_false] at ho
  rcases ho with rfl | rfl <;> (simp only [Option.some.injEq] at hx; subst hx)
  · intro e j; cases j <;> simp [noBlk, blks]
  · intro e j; cases j <;> simp [noBlk, blks, blksL, cellsL, undef]
theorem mem_loop (n : Nat) (a b : Nat → Int) (hn : n ≤ 9223372036854775806) (ha : ∀ e, e < n → B16 (a e)) : ∀ (d : Nat) (i : Nat), i ≤ n → n - i = d →
    MWp Try.prog (mkSt Try.f25 memK none 1 (memV n i) [some (bytes2 a b n), some (memL (memF a b i))]) (fun v K => v = sl 1 65536 ∧ K.get 1 = some (memL (memF a b n)) ∧ K.lock = 0)
  | 0, i, h1, hd => by
    have hi : i = n := by omega
    subst hi
    refine MWp.done (Env.bare_ok envOk) 200 _ (mem_T i a b _ i) (by simp [trusted]) ⟨rfl, ?_, rfl⟩
    rw [mkH_get _ (by simp [big])]; rfl
  | d + 1, i, h1, hd => by
    have hi : i < n := by omega
    have e0 : 0 + (i : Int).toNat = i := by omega
    have hlt : Nat.blt i n = true := by rw [Nat.blt_eq]; omega
    have hb := ha i hi
    refine MWp.head (Env.bare_ok envOk) _ _ _ _ (mem_I n a b _ i) (by rw [e0]; simp [trusted, hlt, hi, hb]) (mem_P n a b _ _ _) ?_
    have hw : IntKind.i64.wrap ((i : Int) + 1) = ((i + 1 : Nat) : Int) := by rw [IntKind.wrap_i64]; omega
    rw [hw, e0]
    refine MWp.weak (K := mkH [some (bytes2 a b n), some (memL (memF a b (i + 1)))]) (weak_mkH ⟨.inl rfl, mem1 _ _ _, trivial⟩ (by simp [big])) ?_
    exact mem_loop n a b hn ha d (i + 1) (by omega) (by omega)
theorem mem_calls (n : Nat) (a b : Nat → Int) (hn : n ≤ 9223372036854775806) (ha : ∀ e, e < n → B16 (a e)) :
    LCalls Try.prog 25 [sls 0 n] (mkH [some (bytes2 a b n)]) (fun u K => u = sl 1 65536 ∧ K.get 1 = some (memL (memF a b n)) ∧ K.lock = 0) := by
  refine LCalls_of (Env.bare_ok envOk) gM25 (by kernel_rfl) ?_
  refine MWp.head (Env.bare_ok envOk) _ _ _ _ (mem_0 n a b) trivial (mem_Pz n a b) ?_
  refine MWp.weak (K := mkH [some (bytes2 a b n), some (memL (memF a b 0))]) (weak_mkH ⟨.inl rfl, zero_eq, trivial⟩ (by simp [big])) ?_
  exact mem_loop n a b hn ha n 0 (by omega) (by omega)
def atOf (G : Nat → Nat → Value) : Nat → Int := fun e => intV (G e 0)
def byOf (G : Nat → Nat → Value) : Nat → Int := fun e => intV (G e 1)
def okM (n : Nat) (G : Nat → Nat → Value) : Bool := Nat.ble n 1000 && (List.range n).all fun e => isK .u16 (G e 0) && (isK .u8 (G e 1) && inw (intV (G e 0)))
def memMk (n : Nat) (G : Nat → Nat → Value) : Bool × (Nat → Nat → Value) × Nat := (okM n G, fun e _ => .int .u8 (memF (atOf G) (byOf G) n e), 65536)
def memC : Heap → List Value → ER := rowNew 2 memMk 1 5
theorem memC_good (H : Heap) (args : List Value) : HGood Try.prog 25 args H (memC H args) := by
  refine rowNew_good (by decide) (fun n G h => ⟨1, ?_⟩) (fun G h => ⟨0, ?_⟩) H args
  · simp only [memMk, okM, Bool.and_eq_true, List.all_eq_true, List.mem_range] at h
    obtain ⟨h1, h2⟩ := h
    have h1' := Nat.le_of_ble_eq_true h1
    refine LCalls.argEq (g' := fun e j => match j with | 0 => .int .u16 (atOf G e) | _ + 1 => .int .u8 (byOf G e)) (fun e j he hj => ?_) (mem_calls n (atOf G) (byOf G) (by omega) (fun e he => (inw_iff _).1 (h2 e he).2.2))
    obtain ⟨k1, k2, _⟩ := h2 e he
    have : j = 0 ∨ j = 1 := by omega
    rcases this with rfl | rfl
    · exact isK_eq k1
    · exact isK_eq k2
  · refine LCalls_of (Env.bare_ok envOk) gM25 (by kernel_rfl) ?_
    refine MWp.weakQ (MWp.done (Q := fun u K => u = sl 0 65536 ∧ K = mkH [some zeroL]) (Env.bare_ok envOk) 300 _ mem_nil trivial ⟨rfl, rfl⟩) ?_
    rintro v K ⟨rfl, rfl⟩
    refine ⟨mkH [some (memL (fun _ => 0))], ⟨rfl, ?_, rfl⟩, weak_mkH ⟨zero_eq, trivial⟩ (by simp [big])⟩
    rw [mkH_get _ (by simp [big])]; rfl
end Go.Proofs.Ytpggoincnebfnaa
namespace Go.Proofs.Ytpggoincnebfnaa
open Go Go.Ly Go.RowKit
def nilV : Value := .slice none 0 0
def empV (p : Nat) : Value := .slice (some ⟨p, 0, none⟩) 0 18446744073709551616
def inV (x j n : Nat) : Value := .slice (some ⟨x, j, none⟩) n 18446744073709551616
def rowF (f : Nat → Int) (n : Nat) : LO := .fn 1 (fun e _ => .int .u8 (f e)) n 5
def outF (a b : Nat → Int) (n : Nat) : LO := .fn 2 (fun e j => match j with | 0 => .int .u8 (a e) | _ + 1 => .int .u8 (b e)) n 81
def hPi (m : Mc) (g : Nat → Int) (i o : Value) (rs : List (Option LO)) : List (Option LO) := some (.cells (cellsP m i o) 60) :: some (memL g) :: rs
def hRi (m : Mc) (g : Nat → Int) (i o : Value) (rs : List (Option LO)) : List (Option LO) := some (.cells (cellsR m i o) 56) :: some (memL g) :: some (regsR m) :: rs
def sPi (h : List (Option LO)) (b0 b1 b2 : Int) : St := atSt Try.f13 kP none h.length (slots 130 [(0, ptr 0), (53, .slice (some ⟨h.length, 0, none⟩) 3 3)]) ((mkH h).new (.cells [.int .u8 b0, .int .u8 b1, .int .u8 b2] 5))
def sRi (h : List (Option LO)) (b0 : Int) : St := atSt Try.f14 kR none h.length (slots 109 [(0, ptr 0), (3, .int .u8 b0), (20, .int .u8 b0)]) (mkH h)
def jP (h : List (Option LO)) (m : Mc) (g : Nat → Int) : Prop := haltF [0, 53] dP (Ly.run (haltAt ctx3 27) 300 pathP (Ly.start Try.f13 [ptr 0] (mkH h))) = (true, tP m, true, (Try.f13, kP, none, h.length), slots 130 [(0, ptr 0), (53, .slice (some ⟨h.length, 0, none⟩) 3 3)], (mkH h).new (.cells [.int .u8 (g (0 + m.pc.toNat * 1)), .int .u8 (g (at1 m.pc 1)), .int .u8 (g (at1 m.pc 2))] 5))
def jR (h : List (Option LO)) (m : Mc) (g : Nat → Int) : Prop := haltF [0, 3, 20] dR (Ly.run (haltAt ctx3 32) 300 pathR (Ly.start Try.f14 [ptr 0] (mkH h))) = (true, tR m, true, (Try.f14, kR, none, h.length), slots 109 [(0, ptr 0), (3, .int .u8 (g (0 + m.pc.toNat * 1))), (20, .int .u8 (g (0 + m.pc.toNat * 1)))], mkH h)
theorem jP_i0 (m : Mc) (g : Nat → Int) : jP (hPi m g nilV (tokV 18) []) m g := by unfold jP; kernel_rfl
theorem jP_iE (m : Mc) (g : Nat → Int) : jP (hPi m g (empV 0) (tokV 18) []) m g := by unfold jP; kernel_rfl
theorem jP_iR (m : Mc) (g f : Nat → Int) (j n N : Nat) : jP (hPi m g (inV 2 j (n + 1)) (tokV 18) [some (rowF f N)]) m g := by unfold jP; kernel_rfl
theorem jP_o0 (m : Mc) (g : Nat → Int) : jP (hPi m g (tokV 17) nilV []) m g := by unfold jP; kernel_rfl
theorem jP_oR (m : Mc) (g a b : Nat → Int) (q : Nat) : jP (hPi m g (tokV 17) (sls 2 q) [some (outF a b q)]) m g := by unfold jP; kernel_rfl
theorem jR_i0 (m : Mc) (g : Nat → Int) : jR (hRi m g nilV (tokV 11) []) m g := by unfold jR; kernel_rfl
theorem jR_iE (m : Mc) (g : Nat → Int) : jR (hRi m g (empV 0) (tokV 11) []) m g := by unfold jR; kernel_rfl
theorem jR_iR (m : Mc) (g f : Nat → Int) (j n N : Nat) : jR (hRi m g (inV 3 j (n + 1)) (tokV 11) [some (ints .u8 f N)]) m g := by unfold jR; kernel_rfl
theorem jR_o0 (m : Mc) (g : Nat → Int) : jR (hRi m g (tokV 10) nilV []) m g := by unfold jR; kernel_rfl
theorem jR_oR (m : Mc) (g a b : Nat → Int) (q : Nat) : jR (hRi m g (tokV 10) (sls 3 q) [some (outF a b q)]) m g := by unfold jR; kernel_rfl
end Go.Proofs.Ytpggoincnebfnaa
namespace Go.Proofs.Ytpggoincnebfnaa
open Go Go.Ly Go.RowKit
def inM (m : Mc) (b : Int) : Mc := { m with pc := w16 (m.pc + 2), r7 := b }
def outM (m : Mc) : Mc := { m with pc := w16 (m.pc + 2) }
def tI (n j N : Nat) : List (Bool × Bool) := T [decide ((0 : Int) < ((n + 1 : Nat) : Int)), true && decide ((0 : Int) < ((n + 1 : Nat) : Int)), Nat.blt (j + 0) N, true && (decide ((1 : Int) ≤ ((n + 1 : Nat) : Int)) && decide (((n + 1 : Nat) : Int) ≤ ((n + 1 : Nat) : Int)))]
def tRI (m : Mc) : List (Bool × Bool) := T [inw m.pc && true, rg (w16 (m.pc + 1)), bl (ix (w16 (m.pc + 1))), inw m.pc && true, inb m.r4 && inb m.r5]
def pRI : Path := [(3, true), (0, true), (0, true), (1, true), (70, true)]
def fullT (q : Nat) : Bool := true && (Nat.ble (0 + q) q && ((Nat.beq 2 2 && (Nat.beq 81 81 && (Nat.beq q q && true))) && (Nat.ble 1 q && Nat.ble (q + 1) 4294967296)))
def outG1 (x y : Int) : LO := .fn 2 (lstG 2 1 [.int .u8 x, .int .u8 y]) 1 81
def outG2 (a b : Nat → Int) (q : Nat) (x y : Int) : LO := .fn 2 (joinG q (fun e j => match j with | 0 => .int .u8 (a (0 + e)) | _ + 1 => .int .u8 (b (0 + e))) (lstG 2 1 [.int .u8 x, .int .u8 y])) (q + 1) 81
theorem pi0 (m : Mc) (g : Nat → Int) (b1 b2 : Int) : endsAt [0, 1] (Ly.run ctx3 3000 [] (sPi (hPi m g nilV (tokV 18) []) 219 b1 b2)) = some ([], .int .i64 0, 5, hPi (inM m 0) g nilV (tokV 18) []) := by kernel_rfl
theorem piE (m : Mc) (g : Nat → Int) (b1 b2 : Int) : endsAt [0, 1] (Ly.run ctx3 3000 [] (sPi (hPi m g (empV 0) (tokV 18) []) 219 b1 b2)) = some ([], .int .i64 0, 5, hPi (inM m 0) g (empV 0) (tokV 18) []) := by kernel_rfl
theorem piR (m : Mc) (g f : Nat → Int) (b1 b2 : Int) (j n N : Nat) : endsAt [0, 1, 2] (Ly.run ctx3 3000 [(63, true), (0, true), (0, true), (0, true)] (sPi (hPi m g (inV 2 j (n + 1)) (tokV 18) [some (rowF f N)]) 219 b1 b2)) = some (tI n j N, .int .i64 0, 6, hPi (inM m (f (j + 0))) g (inV 2 (j + 1) n) (tokV 18) [some (rowF f N)]) := by kernel_rfl
theorem po0 (m : Mc) (g : Nat → Int) (b1 b2 : Int) : endsAt [0, 1, 6] (Ly.run ctx3 3000 [] (sPi (hPi m g (tokV 17) nilV []) 211 b1 b2)) = some ([], .int .i64 0, 7, hPi (outM m) g (tokV 17) (sls 6 1) [some (outG1 (w8 (or16 0 (w16 b1))) m.r7)]) := by kernel_rfl
theorem poR (m : Mc) (g a b : Nat → Int) (b1 b2 : Int) (q : Nat) : endsAt [0, 1, 7] (Ly.run ctx3 3000 [(62, true)] (sPi (hPi m g (tokV 17) (sls 2 q) [some (outF a b q)]) 211 b1 b2)) = some (T [fullT q], .int .i64 0, 8, hPi (outM m) g (tokV 17) (sls 7 (q + 1)) [some (outG2 a b q (w8 (or16 0 (w16 b1))) m.r7)]) := by kernel_rfl
theorem ri0 (m : Mc) (g : Nat → Int) : endsAt [0, 1, 2] (Ly.run ctx3 3000 pRI (sRi (hRi m g nilV (tokV 11) []) 219)) = some (tRI m, .int .i64 0, 3, hRi (inM m 0) g nilV (tokV 11) []) := by kernel_rfl
theorem riE (m : Mc) (g : Nat → Int) : endsAt [0, 1, 2] (Ly.run ctx3 3000 pRI (sRi (hRi m g (empV 0) (tokV 11) []) 219)) = some (tRI m, .int .i64 0, 3, hRi (inM m 0) g (empV 0) (tokV 11) []) := by kernel_rfl
theorem riR (m : Mc) (g f : Nat → Int) (j n N : Nat) : endsAt [0, 1, 2, 3] (Ly.run ctx3 3000 [(3, true), (0, true), (0, true), (1, true), (70, true), (2, true), (0, true), (0, true), (1, true)] (sRi (hRi m g (inV 3 j (n + 1)) (tokV 11) [some (ints .u8 f N)]) 219)) = some (T [inw m.pc && true, rg (w16 (m.pc + 1)), bl (ix (w16 (m.pc + 1))), inw m.pc && true, inb m.r4 && inb m.r5, decide ((0 : Int) < ((n + 1 : Nat) : Int)), true && decide ((0 : Int) < ((n + 1 : Nat) : Int)), Nat.blt (j + 0) N, true && (decide ((1 : Int) ≤ ((n + 1 : Nat) : Int)) && decide (((n + 1 : Nat) : Int) ≤ ((n + 1 : Nat) : Int)))], .int .i64 0, 4, hRi (inM m (f (j + 0))) g (inV 3 (j + 1) n) (tokV 11) [some (ints .u8 f N)]) := by kernel_rfl
theorem ro0 (m : Mc) (g : Nat → Int) : endsAt [0, 1, 2, 4] (Ly.run ctx3 3000 pRI (sRi (hRi m g (tokV 10) nilV []) 211)) = some (tRI m, .int .i64 0, 5, hRi (outM m) g (tokV 10) (sls 4 1) [some (outG1 (w8 (w16 (g (ix (w16 (m.pc + 1)))))) m.r7)]) := by kernel_rfl
theorem roR (m : Mc) (g a b : Nat → Int) (q : Nat) : endsAt [0, 1, 2, 5] (Ly.run ctx3 3000 [(3, true), (0, true), (0, true), (1, true), (70, true), (3, true)] (sRi (hRi m g (tokV 10) (sls 3 q) [some (outF a b q)]) 211)) = some (T [inw m.pc && true, rg (w16 (m.pc + 1)), bl (ix (w16 (m.pc + 1))), inw m.pc && true, inb m.r4 && inb m.r5, fullT q], .int .i64 0, 6, hRi (outM m) g (tokV 10) (sls 5 (q + 1)) [some (outG2 a b q (w8 (w16 (g (ix (w16 (m.pc + 1)))))) m.r7)]) := by kernel_rfl
end Go.Proofs.Ytpggoincnebfnaa
namespace Go.Proofs.Ytpggoincnebfnaa
open Go Go.Ly Go.RowKit
structure Js where
  m : Mc
  g : Nat → Int
  j : Nat
  N : Nat
  f : Nat → Int
  q : Nat
  fp : Nat → Int
  fb : Nat → Int
structure Js.Ok (s : Js) : Prop where
  m : s.m.Ok
  g : Mem s.g
  f : ∀ e, e < s.N → B8 (s.f e)
  j : s.j ≤ s.N
def cellsPb (b rg : Nat) (m : Mc) (i o : Value) : List Value := [.int .u8 m.r0, .int .u8 m.r1, .int .u8 m.r2, .int .u8 m.r3, .int .u8 m.r4, .int .u8 m.r5, .int .u8 0, .int .u8 m.r7, .bool m.fs, .bool m.fz, .bool m.fx, .bool m.fp, .bool m.fc, .int .u16 m.sp, .int .u16 m.pc, .bool m.ie, .bool m.halt, i, o, sl b 65536]
def cellsRb (b rg : Nat) (m : Mc) (i o : Value) : List Value := [sl rg 8, .bool m.fs, .bool m.fz, .bool m.fx, .bool m.fp, .bool m.fc, .int .u16 m.sp, .int .u16 m.pc, .bool m.ie, .bool m.halt, i, o, sl b 65536]
theorem noP (b rg : Nat) (m : Mc) (i o : Value) : noTokL (cellsPb b rg m i o) = (noTok i && noTok o) := by simp [cellsPb, noTokL, noTok, sl]
theorem noR (b rg : Nat) (m : Mc) (i o : Value) : noTokL (cellsRb b rg m i o) = (noTok i && noTok o) := by simp [cellsRb, noTokL, noTok, sl]
def rowP (f : Nat → Int) (N : Nat) : LO := rowF f N
def rowR (f : Nat → Int) (N : Nat) : LO := ints .u8 f N
def InAt (row : (Nat → Int) → Nat → LO) (H : Heap) (iv : Value) (j N : Nat) (f : Nat → Int) (V : List Nat) : Prop := (j = N ∧ V = [] ∧ (iv = nilV ∨ ∃ a c, iv = .slice (some a) 0 c)) ∨ (j < N ∧ ∃ x, V = [x] ∧ iv = inV x j (N - j) ∧ H.get x = some (row f N))
def OutAt (H : Heap) (ov : Value) (q : Nat) (fp fb : Nat → Int) (V : List Nat) : Prop := (q = 0 ∧ V = [] ∧ ov = nilV) ∨ (0 < q ∧ ∃ y, V = [y] ∧ ov = sls y q ∧ H.get y = some (outF fp fb q))
theorem InAt.same {row : (Nat → Int) → Nat → LO} {H H' : Heap} {iv : Value} {j N : Nat} {f : Nat → Int} {V : List Nat} (h : InAt row H iv j N f V) (he : ∀ i ∈ V, H'.get i = H.get i) : InAt row H' iv j N f V := by
  rcases h with h | ⟨h1, x, rfl, h2, h3⟩
  · exact .inl h
  · exact .inr ⟨h1, x, rfl, h2, by rw [he x (by simp)]; exact h3⟩
theorem OutAt.same {H H' : Heap} {ov : Value} {q : Nat} {fp fb : Nat → Int} {V : List Nat} (h : OutAt H ov q fp fb V) (he : ∀ i ∈ V, H'.get i = H.get i) : OutAt H' ov q fp fb V := by
  rcases h with h | ⟨h1, y, rfl, h2, h3⟩
  · exact .inl h
  · exact .inr ⟨h1, y, rfl, h2, by rw [he y (by simp)]; exact h3⟩
theorem InAt.noTok {row : (Nat → Int) → Nat → LO} {H : Heap} {iv : Value} {j N : Nat} {f : Nat → Int} {V : List Nat} (h : InAt row H iv j N f V) : Go.Ly.noTok iv = true := by
  rcases h with ⟨_, _, rfl | ⟨a, c, rfl⟩⟩ | ⟨_, x, _, rfl, _⟩ <;> rfl
theorem OutAt.noTok {H : Heap} {ov : Value} {q : Nat} {fp fb : Nat → Int} {V : List Nat} (h : OutAt H ov q fp fb V) : Go.Ly.noTok ov = true := by
  rcases h with ⟨_, _, rfl⟩ | ⟨_, x, _, rfl, _⟩ <;> rfl
def snoc (q : Nat) (f : Nat → Int) (x : Int) : Nat → Int := fun e => bif Nat.blt e q then f e else x
theorem out1 (fp fb : Nat → Int) (x y : Int) : LOeq (outG1 x y) (outF (snoc 0 fp x) (snoc 0 fb y) 1) := by
  refine .inr ⟨2, _, _, _, _, rfl, rfl, fun e j he hj => ?_⟩
  obtain rfl : e = 0 := by omega
  have : j = 0 ∨ j = 1 := by omega
  rcases this with rfl | rfl <;> rfl
theorem out2 (fp fb : Nat → Int) (q : Nat) (x y : Int) : LOeq (outG2 fp fb q x y) (outF (snoc q fp x) (snoc q fb y) (q + 1)) := by
  refine .inr ⟨2, _, _, _, _, rfl, rfl, fun e j he hj => ?_⟩
  simp only [joinG, vif_eq, snoc, Nat.zero_add]
  have hj' : j = 0 ∨ j = 1 := by omega
  cases hb : Nat.blt e q with
  | true => rcases hj' with rfl | rfl <;> rfl
  | false =>
    have : e = q := by
      have : ¬ e < q := fun h => by have h2 : Nat.blt e q = true := (by rw [Nat.blt_eq]; exact h); rw [h2] at hb; cases hb
      omega
    subst this
    simp only [Nat.sub_self, cond_false]
    rcases hj' with rfl | rfl <;> rfl
structure Nx (H H' : Heap) (O : List Nat) : Prop where
  lock : H'.lock = 0
  le : H.next ≤ H'.next
  ge : H'.next ≤ H.next + 64
  clean : Ly.Clean H'
  old : ∀ i, i < H.next → i ∉ O → H'.get i = H.get i
def inS (s : Js) : Js := bif Nat.blt s.j s.N then { s with m := inM s.m (s.f s.j), j := s.j + 1 } else { s with m := inM s.m 0 }
def outS (s : Js) (x : Int) : Js := { s with m := outM s.m, q := s.q + 1, fp := snoc s.q s.fp x, fb := snoc s.q s.fb s.m.r7 }
structure Pm (H : Heap) (p b rg : Nat) (s : Js) (iv ov : Value) (VI VO : List Nat) : Prop where
  cells : H.get p = some (.cells (cellsPb b rg s.m iv ov) 60)
  mem : H.get b = some (memL s.g)
  regs : True
  inn : InAt rowP H iv s.j s.N s.f VI
  out : OutAt H ov s.q s.fp s.fb VO
  nd : ([p, b] ++ (VI ++ VO)).Nodup
def PM (H : Heap) (p : Nat) (s : Js) (O V : List Nat) : Prop := ∃ b rg iv ov VI VO, Pm H p b rg s iv ov VI VO ∧ O = [p, b] ++ VO ∧ V = [p, b] ++ (VI ++ VO)
theorem PM.same {H H' : Heap} {p : Nat} {s : Js} {O V : List Nat} (h : PM H p s O V) (he : ∀ i ∈ V, H'.get i = H.get i) : PM H' p s O V := by
  obtain ⟨b, rg, iv, ov, VI, VO, ⟨h1, h2, h3, h4, h5, h6⟩, rfl, rfl⟩ := h
  refine ⟨b, rg, iv, ov, VI, VO, ⟨by rw [he p (by simp)]; exact h1, by rw [he b (by simp)]; exact h2, h3, h4.same fun i hi => he i (by simp [hi]), h5.same fun i hi => he i (by simp [hi]), h6⟩, rfl, rfl⟩
def PN (H : Heap) (p : Nat) (s' : Js) (O V : List Nat) (H' : Heap) : Prop := Nx H H' O ∧ ∃ O' V', PM H' p s' O' V' ∧ (∀ i ∈ O', i ∈ O ∨ H.next ≤ i) ∧ (∀ i ∈ V', i ∈ V ∨ H.next ≤ i)
theorem P_tok {H : Heap} {p : Nat} {s : Js} {O V : List Nat} {k : Int} {m' : Mc} {g' : Nat → Int} (h : PM H p s O V) (hl : H.lock = 0) (hc : Ly.Clean H) (hb : H.next + 64 < big)
    (he : Ly.Ends Try.prog 13 [ptr 0] (hP s.m s.g) [0, 1] (.int .i64 k) 64 (hP m' g')) :
    LCalls Try.prog 13 [ptr p] H (fun u H' => u = .int .i64 k ∧ PN H p { s with m := m', g := g' } O V H') := by
  obtain ⟨b, rg, iv, ov, VI, VO, ⟨h1, h2, h3, h4, h5, h6⟩, rfl, rfl⟩ := h
  refine LCalls.ltn fun hlt hsm => ?_
  have hnp := hlt _ _ h1
  have hn1 := h4.noTok
  have hn2 := h5.noTok
  have hnd : [p, b].Nodup := (List.nodup_append.1 h6).1
  have hpb : p ≠ b := by intro e; simp [e] at hnd
  have hget := fun i => Heap.get_put (H := H) (o := .cells (tokAt [17, 18] 0 (cellsPb b rg s.m iv ov)) 60) (Nat.lt_trans hnp hsm) i
  have hs : Sit (H.put p (.cells (tokAt [17, 18] 0 (cellsPb b rg s.m iv ov)) 60)) (hP s.m s.g) [p, b] := by
    refine ⟨hl, rfl, hnd, fun i o hi => ?_⟩
    rcases i with _ | _ | i
    · simp only [hP, List.getElem?_cons_zero, Option.some.injEq] at hi; subst hi
      show (H.put p _).get p = _
      rw [hget, if_pos rfl]; rfl
    · simp only [hP, List.getElem?_cons_succ, List.getElem?_cons_zero, Option.some.injEq] at hi; subst hi
      show (H.put p _).get b = _
      rw [hget, if_neg hpb.symm, h2]; rfl
    · simp [hP] at hi
  have key : LCalls Try.prog 13 [ptr p] H _ := he.madeTok (c := cellsPb b rg s.m iv ov) (t := 60) (ps := [17, 18]) (b0 := p) (L := [p, b]) (by rfl) hl h1 (by simp) hs hb hc (by rfl) (by rfl) (by rfl) (by
    intro o ho x hx
    simp only [hP, List.mem_cons, List.not_mem_nil, or_false] at ho
    rcases ho with rfl | rfl <;> (simp only [Option.some.injEq] at hx; subst hx)
    · refine ⟨rfl, ?_⟩
      show noTokL (cellsPb b rg m' iv ov) = true
      rw [noP, hn1, hn2]; rfl
    · exact ⟨rfl, rfl⟩
)
  refine key.mono ?_
  rintro u H' ⟨rfl, hM⟩
  refine ⟨rfl, ⟨hM.lock, by rw [hM.next]; omega, by rw [hM.next]; omega, hM.clean, fun i hi hO => hM.old i hi (fun h => hO (by simp at h ⊢; grind))⟩, _, _, ⟨b, rg, iv, ov, VI, VO, ⟨?_, ?_, ?_, ?_, ?_, h6⟩, rfl, rfl⟩, fun i hi => .inl hi, fun i hi => .inl hi⟩
  · exact hM.now 0 0 _ rfl rfl
  · exact hM.now 1 1 _ rfl rfl
  · trivial
  · refine h4.same fun i hi => hM.old i ?_ ?_
    · rcases h4 with ⟨_, rfl, _⟩ | ⟨_, x, rfl, _, hx⟩
      · cases hi
      · simp at hi; subst hi; exact hlt _ _ hx
    · intro hiL; exact (List.nodup_append.1 h6).2.2 i hiL i (by simp [hi]) rfl
  · refine h5.same fun i hi => hM.old i ?_ ?_
    · rcases h5 with ⟨_, rfl, _⟩ | ⟨_, x, rfl, _, hx⟩
      · cases hi
      · simp at hi; subst hi; exact hlt _ _ hx
    · intro hiL; exact (List.nodup_append.1 h6).2.2 i hiL i (by simp [hi]) rfl
theorem P_in0 {H : Heap} {p b rg : Nat} {s : Js} {ov : Value} {VO : List Nat} (h : Pm H p b rg s nilV ov [] VO) (hl : H.lock = 0) (hc : Ly.Clean H) (hb : H.next + 64 < big)
    (he : Ly.Ends Try.prog 13 [ptr 0] (hPi s.m s.g nilV (tokV 18) []) [0, 1] (.int .i64 0) 64 (hPi (inM s.m 0) s.g nilV (tokV 18) [])) :
    LCalls Try.prog 13 [ptr p] H (fun u H' => u = .int .i64 0 ∧ PN H p ({ s with m := inM s.m 0 }) ([p, b] ++ VO) ([p, b] ++ ([] ++ VO)) H') := by
  obtain ⟨h1, h2, h3, h4, h5, h6⟩ := h
  refine LCalls.ltn fun hlt hsm => ?_
  have hnp := hlt _ _ h1
  have hnb := hlt _ _ h2
  have hn1 := h4.noTok
  have hn2 := h5.noTok
  have hnd : [p, b].Nodup := (List.nodup_append.1 h6).1
  have hpb : p ≠ b := by intro e; simp [e] at hnd
  have hndL := hnd
  have hget := fun i => Heap.get_put (H := H) (o := .cells (tokAt [18] 0 (cellsPb b rg s.m nilV ov)) 60) (Nat.lt_trans hnp hsm) i
  have hs : Sit (H.put p (.cells (tokAt [18] 0 (cellsPb b rg s.m nilV ov)) 60)) (hPi s.m s.g nilV (tokV 18) []) [p, b] := by
    refine ⟨hl, rfl, hndL, fun i o hi => ?_⟩
    rcases i with _ | _ | i
    · simp only [hPi, List.getElem?_cons_zero, Option.some.injEq] at hi; subst hi
      show (H.put p _).get p = _
      rw [hget, if_pos rfl]; rfl
    · simp only [hPi, List.getElem?_cons_succ, List.getElem?_cons_zero, Option.some.injEq] at hi; subst hi
      show (H.put p _).get b = _
      rw [hget, if_neg hpb.symm, h2]; rfl
    · simp [hPi] at hi
  have key : LCalls Try.prog 13 [ptr p] H _ := he.madeTok (c := cellsPb b rg s.m nilV ov) (t := 60) (ps := [18]) (b0 := p) (L := [p, b]) (by rfl) hl h1 (by simp) hs hb hc (by rfl) (by rfl) (by rfl) (by
    intro o ho x hx
    simp only [hPi, List.mem_cons, List.not_mem_nil, or_false] at ho
    rcases ho with rfl | rfl <;> (simp only [Option.some.injEq] at hx; subst hx)
    · refine ⟨rfl, ?_⟩
      show noTokL (cellsPb b rg (inM s.m 0) nilV ov) = true
      rw [noP]; simp only [hn2]; rfl
    · exact ⟨rfl, rfl⟩)
  refine key.mono ?_
  rintro u H' ⟨rfl, hM⟩
  have hN : H'.next = H.next + (64 - 2) := hM.next
  have hNx : Nx H H' ([p, b] ++ VO) := ⟨hM.lock, by omega, by omega, hM.clean, fun i hi hO => hM.old i hi (fun h => hO (by simp at h ⊢; grind))⟩
  refine ⟨rfl, hNx, _, _, ⟨b, rg, nilV, ov, [], VO, ⟨hM.now 0 0 _ rfl rfl, hM.now 1 1 _ rfl rfl, trivial, ?_, ?_, h6⟩, rfl, rfl⟩, fun i hi => .inl hi, fun i hi => .inl hi⟩
  · exact h4.same fun i hi => by cases hi
  · refine h5.same fun i hi => hM.old i ?_ ?_
    · rcases h5 with ⟨_, rfl, _⟩ | ⟨_, x, rfl, _, hx⟩
      · cases hi
      · simp at hi; subst hi; exact hlt _ _ hx
    · intro hiL; exact (List.nodup_append.1 h6).2.2 i hiL i (by simp [hi]) rfl
theorem P_inE {H : Heap} {p b rg : Nat} {s : Js} {ov : Value} {VO : List Nat} (h : Pm H p b rg s (empV p) ov [] VO) (hl : H.lock = 0) (hc : Ly.Clean H) (hb : H.next + 64 < big)
    (he : Ly.Ends Try.prog 13 [ptr 0] (hPi s.m s.g (empV 0) (tokV 18) []) [0, 1] (.int .i64 0) 64 (hPi (inM s.m 0) s.g (empV 0) (tokV 18) [])) :
    LCalls Try.prog 13 [ptr p] H (fun u H' => u = .int .i64 0 ∧ PN H p ({ s with m := inM s.m 0 }) ([p, b] ++ VO) ([p, b] ++ ([] ++ VO)) H') := by
  obtain ⟨h1, h2, h3, h4, h5, h6⟩ := h
  refine LCalls.ltn fun hlt hsm => ?_
  have hnp := hlt _ _ h1
  have hnb := hlt _ _ h2
  have hn1 := h4.noTok
  have hn2 := h5.noTok
  have hnd : [p, b].Nodup := (List.nodup_append.1 h6).1
  have hpb : p ≠ b := by intro e; simp [e] at hnd
  have hndL := hnd
  have hget := fun i => Heap.get_put (H := H) (o := .cells (tokAt [18] 0 (cellsPb b rg s.m (empV p) ov)) 60) (Nat.lt_trans hnp hsm) i
  have hs : Sit (H.put p (.cells (tokAt [18] 0 (cellsPb b rg s.m (empV p) ov)) 60)) (hPi s.m s.g (empV 0) (tokV 18) []) [p, b] := by
    refine ⟨hl, rfl, hndL, fun i o hi => ?_⟩
    rcases i with _ | _ | i
    · simp only [hPi, List.getElem?_cons_zero, Option.some.injEq] at hi; subst hi
      show (H.put p _).get p = _
      rw [hget, if_pos rfl]; rfl
    · simp only [hPi, List.getElem?_cons_succ, List.getElem?_cons_zero, Option.some.injEq] at hi; subst hi
      show (H.put p _).get b = _
      rw [hget, if_neg hpb.symm, h2]; rfl
    · simp [hPi] at hi
  have key : LCalls Try.prog 13 [ptr p] H _ := he.madeTok (c := cellsPb b rg s.m (empV p) ov) (t := 60) (ps := [18]) (b0 := p) (L := [p, b]) (by rfl) hl h1 (by simp) hs hb hc (by rfl) (by rfl) (by rfl) (by
    intro o ho x hx
    simp only [hPi, List.mem_cons, List.not_mem_nil, or_false] at ho
    rcases ho with rfl | rfl <;> (simp only [Option.some.injEq] at hx; subst hx)
    · refine ⟨rfl, ?_⟩
      show noTokL (cellsPb b rg (inM s.m 0) (empV p) ov) = true
      rw [noP]; simp only [hn2]; rfl
    · exact ⟨rfl, rfl⟩)
  refine key.mono ?_
  rintro u H' ⟨rfl, hM⟩
  have hN : H'.next = H.next + (64 - 2) := hM.next
  have hNx : Nx H H' ([p, b] ++ VO) := ⟨hM.lock, by omega, by omega, hM.clean, fun i hi hO => hM.old i hi (fun h => hO (by simp at h ⊢; grind))⟩
  refine ⟨rfl, hNx, _, _, ⟨b, rg, (empV p), ov, [], VO, ⟨hM.now 0 0 _ rfl rfl, hM.now 1 1 _ rfl rfl, trivial, ?_, ?_, h6⟩, rfl, rfl⟩, fun i hi => .inl hi, fun i hi => .inl hi⟩
  · exact h4.same fun i hi => by cases hi
  · refine h5.same fun i hi => hM.old i ?_ ?_
    · rcases h5 with ⟨_, rfl, _⟩ | ⟨_, x, rfl, _, hx⟩
      · cases hi
      · simp at hi; subst hi; exact hlt _ _ hx
    · intro hiL; exact (List.nodup_append.1 h6).2.2 i hiL i (by simp [hi]) rfl
theorem P_inR {H : Heap} {p b rg : Nat} {s : Js} {ov : Value} {VO : List Nat} {x n : Nat} (hn : s.N - s.j = n + 1) (h : Pm H p b rg s (inV x s.j (n + 1)) ov [x] VO) (hrow : H.get x = some (rowP s.f s.N)) (hl : H.lock = 0) (hc : Ly.Clean H) (hb : H.next + 64 < big)
    (he : Ly.Ends Try.prog 13 [ptr 0] (hPi s.m s.g (inV 2 s.j (n + 1)) (tokV 18) [some (rowP s.f s.N)]) [0, 1, 2] (.int .i64 0) 64 (hPi (inM s.m (s.f s.j)) s.g (inV 2 (s.j + 1) n) (tokV 18) [some (rowP s.f s.N)])) :
    LCalls Try.prog 13 [ptr p] H (fun u H' => u = .int .i64 0 ∧ PN H p ({ s with m := inM s.m (s.f s.j), j := s.j + 1 }) ([p, b] ++ VO) ([p, b] ++ ([x] ++ VO)) H') := by
  obtain ⟨h1, h2, h3, h4, h5, h6⟩ := h
  refine LCalls.ltn fun hlt hsm => ?_
  have hnp := hlt _ _ h1
  have hnb := hlt _ _ h2
  have hn1 := h4.noTok
  have hn2 := h5.noTok
  have hnd : [p, b].Nodup := (List.nodup_append.1 h6).1
  have hpb : p ≠ b := by intro e; simp [e] at hnd
  have hnx := hlt _ _ hrow
  have hxL : x ∉ [p, b] := fun hm => (List.nodup_append.1 h6).2.2 x hm x (by simp) rfl
  have hpx : p ≠ x := by intro e; exact hxL (by simp [e])
  have hndL : [p, b, x].Nodup := by
    have := List.nodup_append.2 ⟨hnd, (by simp : [x].Nodup), fun a ha c hc e => by simp at hc; subst hc; exact hxL (e ▸ ha)⟩
    exact this
  have hget := fun i => Heap.get_put (H := H) (o := .cells (tokAt [18] 0 (cellsPb b rg s.m (inV x s.j (n + 1)) ov)) 60) (Nat.lt_trans hnp hsm) i
  have hs : Sit (H.put p (.cells (tokAt [18] 0 (cellsPb b rg s.m (inV x s.j (n + 1)) ov)) 60)) (hPi s.m s.g (inV 2 s.j (n + 1)) (tokV 18) [some (rowP s.f s.N)]) [p, b, x] := by
    refine ⟨hl, rfl, hndL, fun i o hi => ?_⟩
    rcases i with _ | _ | _ | i
    · simp only [hPi, List.getElem?_cons_zero, Option.some.injEq] at hi; subst hi
      show (H.put p _).get p = _
      rw [hget, if_pos rfl]; rfl
    · simp only [hPi, List.getElem?_cons_succ, List.getElem?_cons_zero, Option.some.injEq] at hi; subst hi
      show (H.put p _).get b = _
      rw [hget, if_neg hpb.symm, h2]; rfl
    · simp only [hPi, List.getElem?_cons_succ, List.getElem?_cons_zero, Option.some.injEq] at hi; subst hi
      show (H.put p _).get x = _
      rw [hget, if_neg hpx.symm, hrow]; rfl
    · simp [hPi] at hi
  have key : LCalls Try.prog 13 [ptr p] H _ := he.madeTok (c := cellsPb b rg s.m (inV x s.j (n + 1)) ov) (t := 60) (ps := [18]) (b0 := p) (L := [p, b, x]) (by rfl) hl h1 (by simp) hs hb hc (by rfl) (by rfl) (by rfl) (by
    intro o ho x hx
    simp only [hPi, List.mem_cons, List.not_mem_nil, or_false] at ho
    rcases ho with rfl | rfl | rfl <;> (simp only [Option.some.injEq] at hx; subst hx)
    · refine ⟨rfl, ?_⟩
      show noTokL (cellsPb b rg (inM s.m (s.f s.j)) (inV x (s.j + 1) n) ov) = true
      rw [noP]; simp only [hn2]; rfl
    · exact ⟨rfl, rfl⟩
    · exact ⟨rfl, rfl⟩)
  refine key.mono ?_
  rintro u H' ⟨rfl, hM⟩
  have hN : H'.next = H.next + (64 - 3) := hM.next
  have hNx : Nx H H' ([p, b] ++ VO) := ⟨hM.lock, by omega, by omega, hM.clean, fun i hi hO => (by
    by_cases hx : i = x
    · subst hx; rw [hrow]; exact hM.now 2 2 _ rfl rfl
    · exact hM.old i hi (fun h => hO (by simp at h ⊢; grind)))⟩
  have hout : OutAt H' ov s.q s.fp s.fb VO := by
    refine h5.same fun i hi => hM.old i ?_ ?_
    · rcases h5 with ⟨_, rfl, _⟩ | ⟨_, x, rfl, _, hx⟩
      · cases hi
      · simp at hi; subst hi; exact hlt _ _ hx
    · intro hiL
      have h7 := List.nodup_append.1 h6
      have h8 := List.nodup_append.1 h7.2.1
      have : i ∈ [p, b] ∨ i = x := by simp at hiL ⊢; grind
      rcases this with h9 | rfl
      · exact h7.2.2 i h9 i (by simp [hi]) rfl
      · exact h8.2.2 i (by simp) i hi rfl
  have hx' : H'.get x = some (rowP s.f s.N) := hM.now 2 2 _ rfl rfl
  by_cases hj : s.j + 1 = s.N
  · have hn0 : n = 0 := by omega
    subst hn0
    refine ⟨rfl, hNx, _, _, ⟨b, rg, inV x (s.j + 1) 0, ov, [], VO, ⟨hM.now 0 0 _ rfl rfl, hM.now 1 1 _ rfl rfl, trivial, .inl ⟨hj, rfl, .inr ⟨_, _, rfl⟩⟩, hout, ?_⟩, rfl, rfl⟩, fun i hi => .inl hi, fun i hi => .inl (by simp at hi ⊢; grind)⟩
    have h7 := List.nodup_append.1 h6
    have h8 := List.nodup_append.1 h7.2.1
    exact List.nodup_append.2 ⟨hnd, h8.2.1, fun a ha c hc => h7.2.2 a ha c (by simp at hc ⊢; grind)⟩
  · refine ⟨rfl, hNx, _, _, ⟨b, rg, inV x (s.j + 1) n, ov, [x], VO, ⟨hM.now 0 0 _ rfl rfl, hM.now 1 1 _ rfl rfl, trivial, .inr ⟨?_, x, rfl, ?_, hx'⟩, hout, h6⟩, rfl, rfl⟩, fun i hi => .inl hi, fun i hi => .inl hi⟩
    · show s.j + 1 < s.N; omega
    · show _ = inV x (s.j + 1) (s.N - (s.j + 1))
      rw [show s.N - (s.j + 1) = n by omega]
theorem P_out0 {H : Heap} {p b rg : Nat} {s : Js} {iv : Value} {VI : List Nat} {z : Int} (h : Pm H p b rg s iv nilV VI []) (hl : H.lock = 0) (hc : Ly.Clean H) (hb : H.next + 64 < big)
    (he : Ly.Ends Try.prog 13 [ptr 0] (hPi s.m s.g (tokV 17) nilV []) [0, 1, 6] (.int .i64 0) 64 (hPi (outM s.m) s.g (tokV 17) (sls 6 (s.q + 1)) [some (outF (snoc s.q s.fp z) (snoc s.q s.fb s.m.r7) (s.q + 1))])) :
    LCalls Try.prog 13 [ptr p] H (fun u H' => u = .int .i64 0 ∧ PN H p (outS s z) ([p, b] ++ []) ([p, b] ++ (VI ++ [])) H') := by
  obtain ⟨h1, h2, h3, h4, h5, h6⟩ := h
  refine LCalls.ltn fun hlt hsm => ?_
  have hnp := hlt _ _ h1
  have hnb := hlt _ _ h2
  have hn1 := h4.noTok
  have hn2 := h5.noTok
  have hnd : [p, b].Nodup := (List.nodup_append.1 h6).1
  have hpb : p ≠ b := by intro e; simp [e] at hnd
  have hndL := hnd
  have hget := fun i => Heap.get_put (H := H) (o := .cells (tokAt [17] 0 (cellsPb b rg s.m iv nilV)) 60) (Nat.lt_trans hnp hsm) i
  have hs : Sit (H.put p (.cells (tokAt [17] 0 (cellsPb b rg s.m iv nilV)) 60)) (hPi s.m s.g (tokV 17) nilV []) [p, b] := by
    refine ⟨hl, rfl, hndL, fun i o hi => ?_⟩
    rcases i with _ | _ | i
    · simp only [hPi, List.getElem?_cons_zero, Option.some.injEq] at hi; subst hi
      show (H.put p _).get p = _
      rw [hget, if_pos rfl]; rfl
    · simp only [hPi, List.getElem?_cons_succ, List.getElem?_cons_zero, Option.some.injEq] at hi; subst hi
      show (H.put p _).get b = _
      rw [hget, if_neg hpb.symm, h2]; rfl
    · simp [hPi] at hi
  have key : LCalls Try.prog 13 [ptr p] H _ := he.madeTok (c := cellsPb b rg s.m iv nilV) (t := 60) (ps := [17]) (b0 := p) (L := [p, b]) (by rfl) hl h1 (by simp) hs hb hc (by rfl) (by rfl) (by rfl) (by
    intro o ho x hx
    simp only [hPi, List.mem_cons, List.not_mem_nil, or_false] at ho
    rcases ho with rfl | rfl | rfl <;> (simp only [Option.some.injEq] at hx; subst hx)
    · refine ⟨rfl, ?_⟩
      show noTokL (cellsPb b rg (outM s.m) iv (sls (tau [p, b] H.next 6) (s.q + 1))) = true
      rw [noP]; simp only [hn1]; rfl
    · exact ⟨rfl, rfl⟩
    · exact ⟨rfl, rfl⟩)
  refine key.mono ?_
  rintro u H' ⟨rfl, hM⟩
  have hN : H'.next = H.next + (64 - 2) := hM.next
  have hNx : Nx H H' ([p, b] ++ []) := ⟨hM.lock, by omega, by omega, hM.clean, fun i hi hO => hM.old i hi (fun h => hO (by simp at h ⊢; grind))⟩
  have hin : InAt rowP H' iv s.j s.N s.f VI := by
    refine h4.same fun i hi => hM.old i ?_ ?_
    · rcases h4 with ⟨_, rfl, _⟩ | ⟨_, x, rfl, _, hx⟩
      · cases hi
      · simp at hi; subst hi; exact hlt _ _ hx
    · intro hiL
      have h7 := List.nodup_append.1 h6
      have h8 := List.nodup_append.1 h7.2.1
      exact h7.2.2 i hiL i (by simp [hi]) rfl
  have hVI : ∀ i ∈ VI, i < H.next := by
    intro i hi
    rcases h4 with ⟨_, rfl, _⟩ | ⟨_, x, rfl, _, hx⟩
    · cases hi
    · simp at hi; subst hi; exact hlt _ _ hx
  refine ⟨rfl, hNx, _, _, ⟨b, rg, iv, sls (H.next + 4) (s.q + 1), VI, [H.next + 4], ⟨hM.now 0 0 _ rfl rfl, hM.now 1 1 _ rfl rfl, trivial, hin, .inr ⟨Nat.succ_pos _, _, rfl, rfl, hM.now 2 6 _ rfl rfl⟩, ?_⟩, rfl, rfl⟩, fun i hi => ?_, fun i hi => ?_⟩
  · have h7 := List.nodup_append.1 h6
    have h8 := List.nodup_append.1 h7.2.1
    have hbl : ∀ a ∈ [p, b], a < H.next := by
      intro a ha
      simp at ha
      rcases ha with rfl | rfl <;> assumption
    refine List.nodup_append.2 ⟨hnd, List.nodup_append.2 ⟨h8.1, by simp, fun a ha c hc => ?_⟩, fun a ha c hc => ?_⟩
    · simp at hc; have := hVI a ha; omega
    · simp at hc
      rcases hc with hc | hc
      · exact h7.2.2 a ha c (by simp [hc])
      · have := hbl a ha; omega
  · simp at hi ⊢
    rcases hi with hi | hi | hi <;> first | (subst hi; right; omega) | simp [hi]
  · simp at hi ⊢
    rcases hi with hi | hi | hi | hi <;> first | (subst hi; right; omega) | simp [hi]
theorem P_outR {H : Heap} {p b rg : Nat} {s : Js} {iv : Value} {VI : List Nat} {y : Nat} {z : Int} (h : Pm H p b rg s iv (sls y s.q) VI [y]) (hrow : H.get y = some (outF s.fp s.fb s.q)) (hl : H.lock = 0) (hc : Ly.Clean H) (hb : H.next + 64 < big)
    (he : Ly.Ends Try.prog 13 [ptr 0] (hPi s.m s.g (tokV 17) (sls 2 s.q) [some (outF s.fp s.fb s.q)]) [0, 1, 7] (.int .i64 0) 64 (hPi (outM s.m) s.g (tokV 17) (sls 7 (s.q + 1)) [some (outF (snoc s.q s.fp z) (snoc s.q s.fb s.m.r7) (s.q + 1))])) :
    LCalls Try.prog 13 [ptr p] H (fun u H' => u = .int .i64 0 ∧ PN H p (outS s z) ([p, b] ++ [y]) ([p, b] ++ (VI ++ [y])) H') := by
  obtain ⟨h1, h2, h3, h4, h5, h6⟩ := h
  refine LCalls.ltn fun hlt hsm => ?_
  have hnp := hlt _ _ h1
  have hnb := hlt _ _ h2
  have hn1 := h4.noTok
  have hn2 := h5.noTok
  have hnd : [p, b].Nodup := (List.nodup_append.1 h6).1
  have hpb : p ≠ b := by intro e; simp [e] at hnd
  have hnx := hlt _ _ hrow
  have hxL : y ∉ [p, b] := fun hm => (List.nodup_append.1 h6).2.2 y hm y (by simp) rfl
  have hpx : p ≠ y := by intro e; exact hxL (by simp [e])
  have hndL : [p, b, y].Nodup := by
    have := List.nodup_append.2 ⟨hnd, (by simp : [y].Nodup), fun a ha c hc e => by simp at hc; subst hc; exact hxL (e ▸ ha)⟩
    exact this
  have hget := fun i => Heap.get_put (H := H) (o := .cells (tokAt [17] 0 (cellsPb b rg s.m iv (sls y s.q))) 60) (Nat.lt_trans hnp hsm) i
  have hs : Sit (H.put p (.cells (tokAt [17] 0 (cellsPb b rg s.m iv (sls y s.q))) 60)) (hPi s.m s.g (tokV 17) (sls 2 s.q) [some (outF s.fp s.fb s.q)]) [p, b, y] := by
    refine ⟨hl, rfl, hndL, fun i o hi => ?_⟩
    rcases i with _ | _ | _ | i
    · simp only [hPi, List.getElem?_cons_zero, Option.some.injEq] at hi; subst hi
      show (H.put p _).get p = _
      rw [hget, if_pos rfl]; rfl
    · simp only [hPi, List.getElem?_cons_succ, List.getElem?_cons_zero, Option.some.injEq] at hi; subst hi
      show (H.put p _).get b = _
      rw [hget, if_neg hpb.symm, h2]; rfl
    · simp only [hPi, List.getElem?_cons_succ, List.getElem?_cons_zero, Option.some.injEq] at hi; subst hi
      show (H.put p _).get y = _
      rw [hget, if_neg hpx.symm, hrow]; rfl
    · simp [hPi] at hi
  have key : LCalls Try.prog 13 [ptr p] H _ := he.madeTok (c := cellsPb b rg s.m iv (sls y s.q)) (t := 60) (ps := [17]) (b0 := p) (L := [p, b, y]) (by rfl) hl h1 (by simp) hs hb hc (by rfl) (by rfl) (by rfl) (by
    intro o ho x hx
    simp only [hPi, List.mem_cons, List.not_mem_nil, or_false] at ho
    rcases ho with rfl | rfl | rfl <;> (simp only [Option.some.injEq] at hx; subst hx)
    · refine ⟨rfl, ?_⟩
      show noTokL (cellsPb b rg (outM s.m) iv (sls (tau [p, b, y] H.next 7) (s.q + 1))) = true
      rw [noP]; simp only [hn1]; rfl
    · exact ⟨rfl, rfl⟩
    · exact ⟨rfl, rfl⟩)
  refine key.mono ?_
  rintro u H' ⟨rfl, hM⟩
  have hN : H'.next = H.next + (64 - 3) := hM.next
  have hNx : Nx H H' ([p, b] ++ [y]) := ⟨hM.lock, by omega, by omega, hM.clean, fun i hi hO => hM.old i hi (fun h => hO (by simp at h ⊢; grind))⟩
  have hin : InAt rowP H' iv s.j s.N s.f VI := by
    refine h4.same fun i hi => hM.old i ?_ ?_
    · rcases h4 with ⟨_, rfl, _⟩ | ⟨_, x, rfl, _, hx⟩
      · cases hi
      · simp at hi; subst hi; exact hlt _ _ hx
    · intro hiL
      have h7 := List.nodup_append.1 h6
      have h8 := List.nodup_append.1 h7.2.1
      have : i ∈ [p, b] ∨ i = y := by simp at hiL ⊢; grind
      rcases this with h9 | rfl
      · exact h7.2.2 i h9 i (by simp [hi]) rfl
      · exact h8.2.2 i hi i (by simp) rfl
  have hVI : ∀ i ∈ VI, i < H.next := by
    intro i hi
    rcases h4 with ⟨_, rfl, _⟩ | ⟨_, x, rfl, _, hx⟩
    · cases hi
    · simp at hi; subst hi; exact hlt _ _ hx
  refine ⟨rfl, hNx, _, _, ⟨b, rg, iv, sls (H.next + 4) (s.q + 1), VI, [H.next + 4], ⟨hM.now 0 0 _ rfl rfl, hM.now 1 1 _ rfl rfl, trivial, hin, .inr ⟨Nat.succ_pos _, _, rfl, rfl, hM.now 2 7 _ rfl rfl⟩, ?_⟩, rfl, rfl⟩, fun i hi => ?_, fun i hi => ?_⟩
  · have h7 := List.nodup_append.1 h6
    have h8 := List.nodup_append.1 h7.2.1
    have hbl : ∀ a ∈ [p, b], a < H.next := by
      intro a ha
      simp at ha
      rcases ha with rfl | rfl <;> assumption
    refine List.nodup_append.2 ⟨hnd, List.nodup_append.2 ⟨h8.1, by simp, fun a ha c hc => ?_⟩, fun a ha c hc => ?_⟩
    · simp at hc; have := hVI a ha; omega
    · simp at hc
      rcases hc with hc | hc
      · exact h7.2.2 a ha c (by simp [hc])
      · have := hbl a ha; omega
  · simp at hi ⊢
    rcases hi with hi | hi | hi <;> first | (subst hi; right; omega) | simp [hi]
  · simp at hi ⊢
    rcases hi with hi | hi | hi | hi <;> first | (subst hi; right; omega) | simp [hi]
structure Rm (H : Heap) (p b rg : Nat) (s : Js) (iv ov : Value) (VI VO : List Nat) : Prop where
  cells : H.get p = some (.cells (cellsRb b rg s.m iv ov) 56)
  mem : H.get b = some (memL s.g)
  regs : H.get rg = some (regsR s.m)
  inn : InAt rowR H iv s.j s.N s.f VI
  out : OutAt H ov s.q s.fp s.fb VO
  nd : ([p, b, rg] ++ (VI ++ VO)).Nodup
def RM (H : Heap) (p : Nat) (s : Js) (O V : List Nat) : Prop := ∃ b rg iv ov VI VO, Rm H p b rg s iv ov VI VO ∧ O = [p, b, rg] ++ VO ∧ V = [p, b, rg] ++ (VI ++ VO)
def RN (H : Heap) (p : Nat) (s' : Js) (O V : List Nat) (H' : Heap) : Prop := Nx H H' O ∧ ∃ O' V', RM H' p s' O' V' ∧ (∀ i ∈ O', i ∈ O ∨ H.next ≤ i) ∧ (∀ i ∈ V', i ∈ V ∨ H.next ≤ i)
theorem R_tok {H : Heap} {p : Nat} {s : Js} {O V : List Nat} {k : Int} {m' : Mc} {g' : Nat → Int} (h : RM H p s O V) (hl : H.lock = 0) (hc : Ly.Clean H) (hb : H.next + 64 < big)
    (he : Ly.Ends Try.prog 14 [ptr 0] (hR s.m s.g) [0, 1, 2] (.int .i64 k) 64 (hR m' g')) :
    LCalls Try.prog 14 [ptr p] H (fun u H' => u = .int .i64 k ∧ RN H p { s with m := m', g := g' } O V H') := by
  obtain ⟨b, rg, iv, ov, VI, VO, ⟨h1, h2, h3, h4, h5, h6⟩, rfl, rfl⟩ := h
  refine LCalls.ltn fun hlt hsm => ?_
  have hnp := hlt _ _ h1
  have hn1 := h4.noTok
  have hn2 := h5.noTok
  have hnd : [p, b, rg].Nodup := (List.nodup_append.1 h6).1
  have hpb : p ≠ b := by intro e; simp [e] at hnd
  have hpr : p ≠ rg := by intro e; simp [e] at hnd
  have hget := fun i => Heap.get_put (H := H) (o := .cells (tokAt [10, 11] 0 (cellsRb b rg s.m iv ov)) 56) (Nat.lt_trans hnp hsm) i
  have hs : Sit (H.put p (.cells (tokAt [10, 11] 0 (cellsRb b rg s.m iv ov)) 56)) (hR s.m s.g) [p, b, rg] := by
    refine ⟨hl, rfl, hnd, fun i o hi => ?_⟩
    rcases i with _ | _ | _ | i
    · simp only [hR, List.getElem?_cons_zero, Option.some.injEq] at hi; subst hi
      show (H.put p _).get p = _
      rw [hget, if_pos rfl]; rfl
    · simp only [hR, List.getElem?_cons_succ, List.getElem?_cons_zero, Option.some.injEq] at hi; subst hi
      show (H.put p _).get b = _
      rw [hget, if_neg hpb.symm, h2]; rfl
    · simp only [hR, List.getElem?_cons_succ, List.getElem?_cons_zero, Option.some.injEq] at hi; subst hi
      show (H.put p _).get rg = _
      rw [hget, if_neg hpr.symm, h3]; rfl
    · simp [hR] at hi
  have key : LCalls Try.prog 14 [ptr p] H _ := he.madeTok (c := cellsRb b rg s.m iv ov) (t := 56) (ps := [10, 11]) (b0 := p) (L := [p, b, rg]) (by rfl) hl h1 (by simp) hs hb hc (by rfl) (by rfl) (by rfl) (by
    intro o ho x hx
    simp only [hR, List.mem_cons, List.not_mem_nil, or_false] at ho
    rcases ho with rfl | rfl | rfl <;> (simp only [Option.some.injEq] at hx; subst hx)
    · refine ⟨rfl, ?_⟩
      show noTokL (cellsRb b rg m' iv ov) = true
      rw [noR, hn1, hn2]; rfl
    · exact ⟨rfl, rfl⟩
    · exact ⟨rfl, rfl⟩)
  refine key.mono ?_
  rintro u H' ⟨rfl, hM⟩
  refine ⟨rfl, ⟨hM.lock, by rw [hM.next]; omega, by rw [hM.next]; omega, hM.clean, fun i hi hO => hM.old i hi (fun h => hO (by simp at h ⊢; grind))⟩, _, _, ⟨b, rg, iv, ov, VI, VO, ⟨?_, ?_, ?_, ?_, ?_, h6⟩, rfl, rfl⟩, fun i hi => .inl hi, fun i hi => .inl hi⟩
  · exact hM.now 0 0 _ rfl rfl
  · exact hM.now 1 1 _ rfl rfl
  · exact hM.now 2 2 _ rfl rfl
  · refine h4.same fun i hi => hM.old i ?_ ?_
    · rcases h4 with ⟨_, rfl, _⟩ | ⟨_, x, rfl, _, hx⟩
      · cases hi
      · simp at hi; subst hi; exact hlt _ _ hx
    · intro hiL; exact (List.nodup_append.1 h6).2.2 i hiL i (by simp [hi]) rfl
  · refine h5.same fun i hi => hM.old i ?_ ?_
    · rcases h5 with ⟨_, rfl, _⟩ | ⟨_, x, rfl, _, hx⟩
      · cases hi
      · simp at hi; subst hi; exact hlt _ _ hx
    · intro hiL; exact (List.nodup_append.1 h6).2.2 i hiL i (by simp [hi]) rfl
theorem R_in0 {H : Heap} {p b rg : Nat} {s : Js} {ov : Value} {VO : List Nat} (h : Rm H p b rg s nilV ov [] VO) (hl : H.lock = 0) (hc : Ly.Clean H) (hb : H.next + 64 < big)
    (he : Ly.Ends Try.prog 14 [ptr 0] (hRi s.m s.g nilV (tokV 11) []) [0, 1, 2] (.int .i64 0) 64 (hRi (inM s.m 0) s.g nilV (tokV 11) [])) :
    LCalls Try.prog 14 [ptr p] H (fun u H' => u = .int .i64 0 ∧ RN H p ({ s with m := inM s.m 0 }) ([p, b, rg] ++ VO) ([p, b, rg] ++ ([] ++ VO)) H') := by
  obtain ⟨h1, h2, h3, h4, h5, h6⟩ := h
  refine LCalls.ltn fun hlt hsm => ?_
  have hnp := hlt _ _ h1
  have hnb := hlt _ _ h2
  have hn1 := h4.noTok
  have hn2 := h5.noTok
  have hnd : [p, b, rg].Nodup := (List.nodup_append.1 h6).1
  have hpb : p ≠ b := by intro e; simp [e] at hnd
  have hpr : p ≠ rg := by intro e; simp [e] at hnd
  have hnr := hlt _ _ h3
  have hndL := hnd
  have hget := fun i => Heap.get_put (H := H) (o := .cells (tokAt [11] 0 (cellsRb b rg s.m nilV ov)) 56) (Nat.lt_trans hnp hsm) i
  have hs : Sit (H.put p (.cells (tokAt [11] 0 (cellsRb b rg s.m nilV ov)) 56)) (hRi s.m s.g nilV (tokV 11) []) [p, b, rg] := by
    refine ⟨hl, rfl, hndL, fun i o hi => ?_⟩
    rcases i with _ | _ | _ | i
    · simp only [hRi, List.getElem?_cons_zero, Option.some.injEq] at hi; subst hi
      show (H.put p _).get p = _
      rw [hget, if_pos rfl]; rfl
    · simp only [hRi, List.getElem?_cons_succ, List.getElem?_cons_zero, Option.some.injEq] at hi; subst hi
      show (H.put p _).get b = _
      rw [hget, if_neg hpb.symm, h2]; rfl
    · simp only [hRi, List.getElem?_cons_succ, List.getElem?_cons_zero, Option.some.injEq] at hi; subst hi
      show (H.put p _).get rg = _
      rw [hget, if_neg hpr.symm, h3]; rfl
    · simp [hRi] at hi
  have key : LCalls Try.prog 14 [ptr p] H _ := he.madeTok (c := cellsRb b rg s.m nilV ov) (t := 56) (ps := [11]) (b0 := p) (L := [p, b, rg]) (by rfl) hl h1 (by simp) hs hb hc (by rfl) (by rfl) (by rfl) (by
    intro o ho x hx
    simp only [hRi, List.mem_cons, List.not_mem_nil, or_false] at ho
    rcases ho with rfl | rfl | rfl <;> (simp only [Option.some.injEq] at hx; subst hx)
    · refine ⟨rfl, ?_⟩
      show noTokL (cellsRb b rg (inM s.m 0) nilV ov) = true
      rw [noR]; simp only [hn2]; rfl
    · exact ⟨rfl, rfl⟩
    · exact ⟨rfl, rfl⟩)
  refine key.mono ?_
  rintro u H' ⟨rfl, hM⟩
  have hN : H'.next = H.next + (64 - 3) := hM.next
  have hNx : Nx H H' ([p, b, rg] ++ VO) := ⟨hM.lock, by omega, by omega, hM.clean, fun i hi hO => hM.old i hi (fun h => hO (by simp at h ⊢; grind))⟩
  refine ⟨rfl, hNx, _, _, ⟨b, rg, nilV, ov, [], VO, ⟨hM.now 0 0 _ rfl rfl, hM.now 1 1 _ rfl rfl, hM.now 2 2 _ rfl rfl, ?_, ?_, h6⟩, rfl, rfl⟩, fun i hi => .inl hi, fun i hi => .inl hi⟩
  · exact h4.same fun i hi => by cases hi
  · refine h5.same fun i hi => hM.old i ?_ ?_
    · rcases h5 with ⟨_, rfl, _⟩ | ⟨_, x, rfl, _, hx⟩
      · cases hi
      · simp at hi; subst hi; exact hlt _ _ hx
    · intro hiL; exact (List.nodup_append.1 h6).2.2 i hiL i (by simp [hi]) rfl
theorem R_inE {H : Heap} {p b rg : Nat} {s : Js} {ov : Value} {VO : List Nat} (h : Rm H p b rg s (empV p) ov [] VO) (hl : H.lock = 0) (hc : Ly.Clean H) (hb : H.next + 64 < big)
    (he : Ly.Ends Try.prog 14 [ptr 0] (hRi s.m s.g (empV 0) (tokV 11) []) [0, 1, 2] (.int .i64 0) 64 (hRi (inM s.m 0) s.g (empV 0) (tokV 11) [])) :
    LCalls Try.prog 14 [ptr p] H (fun u H' => u = .int .i64 0 ∧ RN H p ({ s with m := inM s.m 0 }) ([p, b, rg] ++ VO) ([p, b, rg] ++ ([] ++ VO)) H') := by
  obtain ⟨h1, h2, h3, h4, h5, h6⟩ := h
  refine LCalls.ltn fun hlt hsm => ?_
  have hnp := hlt _ _ h1
  have hnb := hlt _ _ h2
  have hn1 := h4.noTok
  have hn2 := h5.noTok
  have hnd : [p, b, rg].Nodup := (List.nodup_append.1 h6).1
  have hpb : p ≠ b := by intro e; simp [e] at hnd
  have hpr : p ≠ rg := by intro e; simp [e] at hnd
  have hnr := hlt _ _ h3
  have hndL := hnd
  have hget := fun i => Heap.get_put (H := H) (o := .cells (tokAt [11] 0 (cellsRb b rg s.m (empV p) ov)) 56) (Nat.lt_trans hnp hsm) i
  have hs : Sit (H.put p (.cells (tokAt [11] 0 (cellsRb b rg s.m (empV p) ov)) 56)) (hRi s.m s.g (empV 0) (tokV 11) []) [p, b, rg] := by
    refine ⟨hl, rfl, hndL, fun i o hi => ?_⟩
    rcases i with _ | _ | _ | i
    · simp only [hRi, List.getElem?_cons_zero, Option.some.injEq] at hi; subst hi
      show (H.put p _).get p = _
      rw [hget, if_pos rfl]; rfl
    · simp only [hRi, List.getElem?_cons_succ, List.getElem?_cons_zero, Option.some.injEq] at hi; subst hi
      show (H.put p _).get b = _
      rw [hget, if_neg hpb.symm, h2]; rfl
    · simp only [hRi, List.getElem?_cons_succ, List.getElem?_cons_zero, Option.some.injEq] at hi; subst hi
      show (H.put p _).get rg = _
      rw [hget, if_neg hpr.symm, h3]; rfl
    · simp [hRi] at hi
  have key : LCalls Try.prog 14 [ptr p] H _ := he.madeTok (c := cellsRb b rg s.m (empV p) ov) (t := 56) (ps := [11]) (b0 := p) (L := [p, b, rg]) (by rfl) hl h1 (by simp) hs hb hc (by rfl) (by rfl) (by rfl) (by
    intro o ho x hx
    simp only [hRi, List.mem_cons, List.not_mem_nil, or_false] at ho
    rcases ho with rfl | rfl | rfl <;> (simp only [Option.some.injEq] at hx; subst hx)
    · refine ⟨rfl, ?_⟩
      show noTokL (cellsRb b rg (inM s.m 0) (empV p) ov) = true
      rw [noR]; simp only [hn2]; rfl
    · exact ⟨rfl, rfl⟩
    · exact ⟨rfl, rfl⟩)
  refine key.mono ?_
  rintro u H' ⟨rfl, hM⟩
  have hN : H'.next = H.next + (64 - 3) := hM.next
  have hNx : Nx H H' ([p, b, rg] ++ VO) := ⟨hM.lock, by omega, by omega, hM.clean, fun i hi hO => hM.old i hi (fun h => hO (by simp at h ⊢; grind))⟩
  refine ⟨rfl, hNx, _, _, ⟨b, rg, (empV p), ov, [], VO, ⟨hM.now 0 0 _ rfl rfl, hM.now 1 1 _ rfl rfl, hM.now 2 2 _ rfl rfl, ?_, ?_, h6⟩, rfl, rfl⟩, fun i hi => .inl hi, fun i hi => .inl hi⟩
  · exact h4.same fun i hi => by cases hi
  · refine h5.same fun i hi => hM.old i ?_ ?_
    · rcases h5 with ⟨_, rfl, _⟩ | ⟨_, x, rfl, _, hx⟩
      · cases hi
      · simp at hi; subst hi; exact hlt _ _ hx
    · intro hiL; exact (List.nodup_append.1 h6).2.2 i hiL i (by simp [hi]) rfl
theorem R_inR {H : Heap} {p b rg : Nat} {s : Js} {ov : Value} {VO : List Nat} {x n : Nat} (hn : s.N - s.j = n + 1) (h : Rm H p b rg s (inV x s.j (n + 1)) ov [x] VO) (hrow : H.get x = some (rowR s.f s.N)) (hl : H.lock = 0) (hc : Ly.Clean H) (hb : H.next + 64 < big)
    (he : Ly.Ends Try.prog 14 [ptr 0] (hRi s.m s.g (inV 3 s.j (n + 1)) (tokV 11) [some (rowR s.f s.N)]) [0, 1, 2, 3] (.int .i64 0) 64 (hRi (inM s.m (s.f s.j)) s.g (inV 3 (s.j + 1) n) (tokV 11) [some (rowR s.f s.N)])) :
    LCalls Try.prog 14 [ptr p] H (fun u H' => u = .int .i64 0 ∧ RN H p ({ s with m := inM s.m (s.f s.j), j := s.j + 1 }) ([p, b, rg] ++ VO) ([p, b, rg] ++ ([x] ++ VO)) H') := by
  obtain ⟨h1, h2, h3, h4, h5, h6⟩ := h
  refine LCalls.ltn fun hlt hsm => ?_
  have hnp := hlt _ _ h1
  have hnb := hlt _ _ h2
  have hn1 := h4.noTok
  have hn2 := h5.noTok
  have hnd : [p, b, rg].Nodup := (List.nodup_append.1 h6).1
  have hpb : p ≠ b := by intro e; simp [e] at hnd
  have hpr : p ≠ rg := by intro e; simp [e] at hnd
  have hnr := hlt _ _ h3
  have hnx := hlt _ _ hrow
  have hxL : x ∉ [p, b, rg] := fun hm => (List.nodup_append.1 h6).2.2 x hm x (by simp) rfl
  have hpx : p ≠ x := by intro e; exact hxL (by simp [e])
  have hndL : [p, b, rg, x].Nodup := by
    have := List.nodup_append.2 ⟨hnd, (by simp : [x].Nodup), fun a ha c hc e => by simp at hc; subst hc; exact hxL (e ▸ ha)⟩
    exact this
  have hget := fun i => Heap.get_put (H := H) (o := .cells (tokAt [11] 0 (cellsRb b rg s.m (inV x s.j (n + 1)) ov)) 56) (Nat.lt_trans hnp hsm) i
  have hs : Sit (H.put p (.cells (tokAt [11] 0 (cellsRb b rg s.m (inV x s.j (n + 1)) ov)) 56)) (hRi s.m s.g (inV 3 s.j (n + 1)) (tokV 11) [some (rowR s.f s.N)]) [p, b, rg, x] := by
    refine ⟨hl, rfl, hndL, fun i o hi => ?_⟩
    rcases i with _ | _ | _ | _ | i
    · simp only [hRi, List.getElem?_cons_zero, Option.some.injEq] at hi; subst hi
      show (H.put p _).get p = _
      rw [hget, if_pos rfl]; rfl
    · simp only [hRi, List.getElem?_cons_succ, List.getElem?_cons_zero, Option.some.injEq] at hi; subst hi
      show (H.put p _).get b = _
      rw [hget, if_neg hpb.symm, h2]; rfl
    · simp only [hRi, List.getElem?_cons_succ, List.getElem?_cons_zero, Option.some.injEq] at hi; subst hi
      show (H.put p _).get rg = _
      rw [hget, if_neg hpr.symm, h3]; rfl
    · simp only [hRi, List.getElem?_cons_succ, List.getElem?_cons_zero, Option.some.injEq] at hi; subst hi
      show (H.put p _).get x = _
      rw [hget, if_neg hpx.symm, hrow]; rfl
    · simp [hRi] at hi
  have key : LCalls Try.prog 14 [ptr p] H _ := he.madeTok (c := cellsRb b rg s.m (inV x s.j (n + 1)) ov) (t := 56) (ps := [11]) (b0 := p) (L := [p, b, rg, x]) (by rfl) hl h1 (by simp) hs hb hc (by rfl) (by rfl) (by rfl) (by
    intro o ho x hx
    simp only [hRi, List.mem_cons, List.not_mem_nil, or_false] at ho
    rcases ho with rfl | rfl | rfl | rfl <;> (simp only [Option.some.injEq] at hx; subst hx)
    · refine ⟨rfl, ?_⟩
      show noTokL (cellsRb b rg (inM s.m (s.f s.j)) (inV x (s.j + 1) n) ov) = true
      rw [noR]; simp only [hn2]; rfl
    · exact ⟨rfl, rfl⟩
    · exact ⟨rfl, rfl⟩
    · exact ⟨rfl, rfl⟩)
  refine key.mono ?_
  rintro u H' ⟨rfl, hM⟩
  have hN : H'.next = H.next + (64 - 4) := hM.next
  have hNx : Nx H H' ([p, b, rg] ++ VO) := ⟨hM.lock, by omega, by omega, hM.clean, fun i hi hO => (by
    by_cases hx : i = x
    · subst hx; rw [hrow]; exact hM.now 3 3 _ rfl rfl
    · exact hM.old i hi (fun h => hO (by simp at h ⊢; grind)))⟩
  have hout : OutAt H' ov s.q s.fp s.fb VO := by
    refine h5.same fun i hi => hM.old i ?_ ?_
    · rcases h5 with ⟨_, rfl, _⟩ | ⟨_, x, rfl, _, hx⟩
      · cases hi
      · simp at hi; subst hi; exact hlt _ _ hx
    · intro hiL
      have h7 := List.nodup_append.1 h6
      have h8 := List.nodup_append.1 h7.2.1
      have : i ∈ [p, b, rg] ∨ i = x := by simp at hiL ⊢; grind
      rcases this with h9 | rfl
      · exact h7.2.2 i h9 i (by simp [hi]) rfl
      · exact h8.2.2 i (by simp) i hi rfl
  have hx' : H'.get x = some (rowR s.f s.N) := hM.now 3 3 _ rfl rfl
  by_cases hj : s.j + 1 = s.N
  · have hn0 : n = 0 := by omega
    subst hn0
    refine ⟨rfl, hNx, _, _, ⟨b, rg, inV x (s.j + 1) 0, ov, [], VO, ⟨hM.now 0 0 _ rfl rfl, hM.now 1 1 _ rfl rfl, hM.now 2 2 _ rfl rfl, .inl ⟨hj, rfl, .inr ⟨_, _, rfl⟩⟩, hout, ?_⟩, rfl, rfl⟩, fun i hi => .inl hi, fun i hi => .inl (by simp at hi ⊢; grind)⟩
    have h7 := List.nodup_append.1 h6
    have h8 := List.nodup_append.1 h7.2.1
    exact List.nodup_append.2 ⟨hnd, h8.2.1, fun a ha c hc => h7.2.2 a ha c (by simp at hc ⊢; grind)⟩
  · refine ⟨rfl, hNx, _, _, ⟨b, rg, inV x (s.j + 1) n, ov, [x], VO, ⟨hM.now 0 0 _ rfl rfl, hM.now 1 1 _ rfl rfl, hM.now 2 2 _ rfl rfl, .inr ⟨?_, x, rfl, ?_, hx'⟩, hout, h6⟩, rfl, rfl⟩, fun i hi => .inl hi, fun i hi => .inl hi⟩
    · show s.j + 1 < s.N; omega
    · show _ = inV x (s.j + 1) (s.N - (s.j + 1))
      rw [show s.N - (s.j + 1) = n by omega]
theorem R_out0 {H : Heap} {p b rg : Nat} {s : Js} {iv : Value} {VI : List Nat} {z : Int} (h : Rm H p b rg s iv nilV VI []) (hl : H.lock = 0) (hc : Ly.Clean H) (hb : H.next + 64 < big)
    (he : Ly.Ends Try.prog 14 [ptr 0] (hRi s.m s.g (tokV 10) nilV []) [0, 1, 2, 4] (.int .i64 0) 64 (hRi (outM s.m) s.g (tokV 10) (sls 4 (s.q + 1)) [some (outF (snoc s.q s.fp z) (snoc s.q s.fb s.m.r7) (s.q + 1))])) :
    LCalls Try.prog 14 [ptr p] H (fun u H' => u = .int .i64 0 ∧ RN H p (outS s z) ([p, b, rg] ++ []) ([p, b, rg] ++ (VI ++ [])) H') := by
  obtain ⟨h1, h2, h3, h4, h5, h6⟩ := h
  refine LCalls.ltn fun hlt hsm => ?_
  have hnp := hlt _ _ h1
  have hnb := hlt _ _ h2
  have hn1 := h4.noTok
  have hn2 := h5.noTok
  have hnd : [p, b, rg].Nodup := (List.nodup_append.1 h6).1
  have hpb : p ≠ b := by intro e; simp [e] at hnd
  have hpr : p ≠ rg := by intro e; simp [e] at hnd
  have hnr := hlt _ _ h3
  have hndL := hnd
  have hget := fun i => Heap.get_put (H := H) (o := .cells (tokAt [10] 0 (cellsRb b rg s.m iv nilV)) 56) (Nat.lt_trans hnp hsm) i
  have hs : Sit (H.put p (.cells (tokAt [10] 0 (cellsRb b rg s.m iv nilV)) 56)) (hRi s.m s.g (tokV 10) nilV []) [p, b, rg] := by
    refine ⟨hl, rfl, hndL, fun i o hi => ?_⟩
    rcases i with _ | _ | _ | i
    · simp only [hRi, List.getElem?_cons_zero, Option.some.injEq] at hi; subst hi
      show (H.put p _).get p = _
      rw [hget, if_pos rfl]; rfl
    · simp only [hRi, List.getElem?_cons_succ, List.getElem?_cons_zero, Option.some.injEq] at hi; subst hi
      show (H.put p _).get b = _
      rw [hget, if_neg hpb.symm, h2]; rfl
    · simp only [hRi, List.getElem?_cons_succ, List.getElem?_cons_zero, Option.some.injEq] at hi; subst hi
      show (H.put p _).get rg = _
      rw [hget, if_neg hpr.symm, h3]; rfl
    · simp [hRi] at hi
  have key : LCalls Try.prog 14 [ptr p] H _ := he.madeTok (c := cellsRb b rg s.m iv nilV) (t := 56) (ps := [10]) (b0 := p) (L := [p, b, rg]) (by rfl) hl h1 (by simp) hs hb hc (by rfl) (by rfl) (by rfl) (by
    intro o ho x hx
    simp only [hRi, List.mem_cons, List.not_mem_nil, or_false] at ho
    rcases ho with rfl | rfl | rfl | rfl <;> (simp only [Option.some.injEq] at hx; subst hx)
    · refine ⟨rfl, ?_⟩
      show noTokL (cellsRb b rg (outM s.m) iv (sls (tau [p, b, rg] H.next 4) (s.q + 1))) = true
      rw [noR]; simp only [hn1]; rfl
    · exact ⟨rfl, rfl⟩
    · exact ⟨rfl, rfl⟩
    · exact ⟨rfl, rfl⟩)
  refine key.mono ?_
  rintro u H' ⟨rfl, hM⟩
  have hN : H'.next = H.next + (64 - 3) := hM.next
  have hNx : Nx H H' ([p, b, rg] ++ []) := ⟨hM.lock, by omega, by omega, hM.clean, fun i hi hO => hM.old i hi (fun h => hO (by simp at h ⊢; grind))⟩
  have hin : InAt rowR H' iv s.j s.N s.f VI := by
    refine h4.same fun i hi => hM.old i ?_ ?_
    · rcases h4 with ⟨_, rfl, _⟩ | ⟨_, x, rfl, _, hx⟩
      · cases hi
      · simp at hi; subst hi; exact hlt _ _ hx
    · intro hiL
      have h7 := List.nodup_append.1 h6
      have h8 := List.nodup_append.1 h7.2.1
      exact h7.2.2 i hiL i (by simp [hi]) rfl
  have hVI : ∀ i ∈ VI, i < H.next := by
    intro i hi
    rcases h4 with ⟨_, rfl, _⟩ | ⟨_, x, rfl, _, hx⟩
    · cases hi
    · simp at hi; subst hi; exact hlt _ _ hx
  refine ⟨rfl, hNx, _, _, ⟨b, rg, iv, sls (H.next + 1) (s.q + 1), VI, [H.next + 1], ⟨hM.now 0 0 _ rfl rfl, hM.now 1 1 _ rfl rfl, hM.now 2 2 _ rfl rfl, hin, .inr ⟨Nat.succ_pos _, _, rfl, rfl, hM.now 3 4 _ rfl rfl⟩, ?_⟩, rfl, rfl⟩, fun i hi => ?_, fun i hi => ?_⟩
  · have h7 := List.nodup_append.1 h6
    have h8 := List.nodup_append.1 h7.2.1
    have hbl : ∀ a ∈ [p, b, rg], a < H.next := by
      intro a ha
      simp at ha
      rcases ha with rfl | rfl | rfl <;> assumption
    refine List.nodup_append.2 ⟨hnd, List.nodup_append.2 ⟨h8.1, by simp, fun a ha c hc => ?_⟩, fun a ha c hc => ?_⟩
    · simp at hc; have := hVI a ha; omega
    · simp at hc
      rcases hc with hc | hc
      · exact h7.2.2 a ha c (by simp [hc])
      · have := hbl a ha; omega
  · simp at hi ⊢
    rcases hi with hi | hi | hi | hi <;> first | (subst hi; right; omega) | simp [hi]
  · simp at hi ⊢
    rcases hi with hi | hi | hi | hi | hi <;> first | (subst hi; right; omega) | simp [hi]
theorem R_outR {H : Heap} {p b rg : Nat} {s : Js} {iv : Value} {VI : List Nat} {y : Nat} {z : Int} (h : Rm H p b rg s iv (sls y s.q) VI [y]) (hrow : H.get y = some (outF s.fp s.fb s.q)) (hl : H.lock = 0) (hc : Ly.Clean H) (hb : H.next + 64 < big)
    (he : Ly.Ends Try.prog 14 [ptr 0] (hRi s.m s.g (tokV 10) (sls 3 s.q) [some (outF s.fp s.fb s.q)]) [0, 1, 2, 5] (.int .i64 0) 64 (hRi (outM s.m) s.g (tokV 10) (sls 5 (s.q + 1)) [some (outF (snoc s.q s.fp z) (snoc s.q s.fb s.m.r7) (s.q + 1))])) :
    LCalls Try.prog 14 [ptr p] H (fun u H' => u = .int .i64 0 ∧ RN H p (outS s z) ([p, b, rg] ++ [y]) ([p, b, rg] ++ (VI ++ [y])) H') := by
  obtain ⟨h1, h2, h3, h4, h5, h6⟩ := h
  refine LCalls.ltn fun hlt hsm => ?_
  have hnp := hlt _ _ h1
  have hnb := hlt _ _ h2
  have hn1 := h4.noTok
  have hn2 := h5.noTok
  have hnd : [p, b, rg].Nodup := (List.nodup_append.1 h6).1
  have hpb : p ≠ b := by intro e; simp [e] at hnd
  have hpr : p ≠ rg := by intro e; simp [e] at hnd
  have hnr := hlt _ _ h3
  have hnx := hlt _ _ hrow
  have hxL : y ∉ [p, b, rg] := fun hm => (List.nodup_append.1 h6).2.2 y hm y (by simp) rfl
  have hpx : p ≠ y := by intro e; exact hxL (by simp [e])
  have hndL : [p, b, rg, y].Nodup := by
    have := List.nodup_append.2 ⟨hnd, (by simp : [y].Nodup), fun a ha c hc e => by simp at hc; subst hc; exact hxL (e ▸ ha)⟩
    exact this
  have hget := fun i => Heap.get_put (H := H) (o := .cells (tokAt [10] 0 (cellsRb b rg s.m iv (sls y s.q))) 56) (Nat.lt_trans hnp hsm) i
  have hs : Sit (H.put p (.cells (tokAt [10] 0 (cellsRb b rg s.m iv (sls y s.q))) 56)) (hRi s.m s.g (tokV 10) (sls 3 s.q) [some (outF s.fp s.fb s.q)]) [p, b, rg, y] := by
    refine ⟨hl, rfl, hndL, fun i o hi => ?_⟩
    rcases i with _ | _ | _ | _ | i
    · simp only [hRi, List.getElem?_cons_zero, Option.some.injEq] at hi; subst hi
      show (H.put p _).get p = _
      rw [hget, if_pos rfl]; rfl
    · simp only [hRi, List.getElem?_cons_succ, List.getElem?_cons_zero, Option.some.injEq] at hi; subst hi
      show (H.put p _).get b = _
      rw [hget, if_neg hpb.symm, h2]; rfl
    · simp only [hRi, List.getElem?_cons_succ, List.getElem?_cons_zero, Option.some.injEq] at hi; subst hi
      show (H.put p _).get rg = _
      rw [hget, if_neg hpr.symm, h3]; rfl
    · simp only [hRi, List.getElem?_cons_succ, List.getElem?_cons_zero, Option.some.injEq] at hi; subst hi
      show (H.put p _).get y = _
      rw [hget, if_neg hpx.symm, hrow]; rfl
    · simp [hRi] at hi
  have key : LCalls Try.prog 14 [ptr p] H _ := he.madeTok (c := cellsRb b rg s.m iv (sls y s.q)) (t := 56) (ps := [10]) (b0 := p) (L := [p, b, rg, y]) (by rfl) hl h1 (by simp) hs hb hc (by rfl) (by rfl) (by rfl) (by
    intro o ho x hx
    simp only [hRi, List.mem_cons, List.not_mem_nil, or_false] at ho
    rcases ho with rfl | rfl | rfl | rfl <;> (simp only [Option.some.injEq] at hx; subst hx)
    · refine ⟨rfl, ?_⟩
      show noTokL (cellsRb b rg (outM s.m) iv (sls (tau [p, b, rg, y] H.next 5) (s.q + 1))) = true
      rw [noR]; simp only [hn1]; rfl
    · exact ⟨rfl, rfl⟩
    · exact ⟨rfl, rfl⟩
    · exact ⟨rfl, rfl⟩)
  refine key.mono ?_
  rintro u H' ⟨rfl, hM⟩
  have hN : H'.next = H.next + (64 - 4) := hM.next
  have hNx : Nx H H' ([p, b, rg] ++ [y]) := ⟨hM.lock, by omega, by omega, hM.clean, fun i hi hO => hM.old i hi (fun h => hO (by simp at h ⊢; grind))⟩
  have hin : InAt rowR H' iv s.j s.N s.f VI := by
    refine h4.same fun i hi => hM.old i ?_ ?_
    · rcases h4 with ⟨_, rfl, _⟩ | ⟨_, x, rfl, _, hx⟩
      · cases hi
      · simp at hi; subst hi; exact hlt _ _ hx
    · intro hiL
      have h7 := List.nodup_append.1 h6
      have h8 := List.nodup_append.1 h7.2.1
      have : i ∈ [p, b, rg] ∨ i = y := by simp at hiL ⊢; grind
      rcases this with h9 | rfl
      · exact h7.2.2 i h9 i (by simp [hi]) rfl
      · exact h8.2.2 i hi i (by simp) rfl
  have hVI : ∀ i ∈ VI, i < H.next := by
    intro i hi
    rcases h4 with ⟨_, rfl, _⟩ | ⟨_, x, rfl, _, hx⟩
    · cases hi
    · simp at hi; subst hi; exact hlt _ _ hx
  refine ⟨rfl, hNx, _, _, ⟨b, rg, iv, sls (H.next + 1) (s.q + 1), VI, [H.next + 1], ⟨hM.now 0 0 _ rfl rfl, hM.now 1 1 _ rfl rfl, hM.now 2 2 _ rfl rfl, hin, .inr ⟨Nat.succ_pos _, _, rfl, rfl, hM.now 3 5 _ rfl rfl⟩, ?_⟩, rfl, rfl⟩, fun i hi => ?_, fun i hi => ?_⟩
  · have h7 := List.nodup_append.1 h6
    have h8 := List.nodup_append.1 h7.2.1
    have hbl : ∀ a ∈ [p, b, rg], a < H.next := by
      intro a ha
      simp at ha
      rcases ha with rfl | rfl | rfl <;> assumption
    refine List.nodup_append.2 ⟨hnd, List.nodup_append.2 ⟨h8.1, by simp, fun a ha c hc => ?_⟩, fun a ha c hc => ?_⟩
    · simp at hc; have := hVI a ha; omega
    · simp at hc
      rcases hc with hc | hc
      · exact h7.2.2 a ha c (by simp [hc])
      · have := hbl a ha; omega
  · simp at hi ⊢
    rcases hi with hi | hi | hi | hi <;> first | (subst hi; right; omega) | simp [hi]
  · simp at hi ⊢
    rcases hi with hi | hi | hi | hi | hi <;> first | (subst hi; right; omega) | simp [hi]
end Go.Proofs.Ytpggoincnebfnaa
namespace Go.Proofs.Ytpggoincnebfnaa
open Go Go.Ly Go.RowKit
def eq26H (n m : Nat) (f g : Nat → Int) : List (Option LO) := [some (ints .u8 f n), some (ints .u8 g m)]
def eq26D : St := Ly.start Try.f26 [] H0
def eq26K : List KI := ((Ly.run env.bare 22 [] (Ly.start Try.f26 [sl 0 0, sl 1 0] (mkH (eq26H 0 0 (fun _ => 0) (fun _ => 0))))).st eq26D).top.k
def eq26V (n m : Nat) (i : Int) : List Value := slots 26 [(0, sl 0 n), (1, sl 1 m), (5, .int .i64 i)]
theorem eq26get : env.bare.fn.get 26 = some Try.f26 := by kernel_rfl
theorem eq260 (n m : Nat) (f g : Nat → Int) : headAt [0, 1, 5] [0, 1] eq26D (Ly.run env.bare 22 [(0, false)] (Ly.start Try.f26 [sl 0 n, sl 1 m] (mkH (eq26H n m f g)))) = (true, [((n : Int) != (m : Int), false)], true, (Try.f26, eq26K, none, 2), eq26V n m 0, eq26H n m f g) := by kernel_rfl
theorem eq26N (n m : Nat) (f g : Nat → Int) : (Ly.run env.bare 200 [(0, true)] (Ly.start Try.f26 [sl 0 n, sl 1 m] (mkH (eq26H n m f g)))).end? = some ([((n : Int) != (m : Int), true)], .bool false, mkH (eq26H n m f g)) := by kernel_rfl
theorem eq26I (n m : Nat) (f g : Nat → Int) (i : Int) : headAt [0, 1, 5] [0, 1] eq26D (Ly.run env.bare 23 [(0, true), (0, true), (0, true), (0, true), (0, true), (0, false)] (mkSt Try.f26 eq26K none 2 (eq26V n m i) (eq26H n m f g))) = (true, [(decide (i < (n : Int)), true), (decide (0 ≤ i) && decide (i < (n : Int)), true), (Nat.blt (0 + i.toNat * 1) n, true), (decide (0 ≤ i) && decide (i < (m : Int)), true), (Nat.blt (0 + i.toNat * 1) m, true), (f (0 + i.toNat * 1) != g (0 + i.toNat * 1), false)], true, (Try.f26, eq26K, none, 2), eq26V n m (IntKind.i64.wrap (i + 1)), eq26H n m f g) := by kernel_rfl
theorem eq26T (n m : Nat) (f g : Nat → Int) (i : Int) : (Ly.run env.bare 200 [(0, false)] (mkSt Try.f26 eq26K none 2 (eq26V n m i) (eq26H n m f g))).out? = some ([(decide (i < (n : Int)), false)], .bool true) := by kernel_rfl
theorem eq26E (n m : Nat) (f g : Nat → Int) (i : Int) : (Ly.run env.bare 200 [(0, true), (0, true), (0, true), (0, true), (0, true), (0, true)] (mkSt Try.f26 eq26K none 2 (eq26V n m i) (eq26H n m f g))).out? = some ([(decide (i < (n : Int)), true), (decide (0 ≤ i) && decide (i < (n : Int)), true), (Nat.blt (0 + i.toNat * 1) n, true), (decide (0 ≤ i) && decide (i < (m : Int)), true), (Nat.blt (0 + i.toNat * 1) m, true), (f (0 + i.toNat * 1) != g (0 + i.toNat * 1), true)], .bool false) := by kernel_rfl
theorem eq26P (n m : Nat) (f g : Nat → Int) : ∀ o ∈ eq26H n m f g, ∀ x, o = some x → plainO x := by
  intro o ho x hx
  simp only [eq26H, List.mem_cons, List.not_mem_nil, or_false] at ho
  rcases ho with rfl | rfl <;> (simp only [Option.some.injEq] at hx; subst hx; exact plain_ints)
theorem eq26loop (n : Nat) (f g : Nat → Int) (hn : n ≤ 9223372036854775807) : ∀ (d : Nat) (i : Int), 0 ≤ i → i ≤ n → ((n : Int) - i).toNat = d → (∀ e : Nat, (e : Int) < i → f e = g e) →
    MWp Try.prog (mkSt Try.f26 eq26K none 2 (eq26V n n i) (eq26H n n f g)) (fun v _ => v = .bool (eqU n f g))
  | 0, i, h0, h1, hd, he => by
    have hi : i = n := by omega
    refine MWp.out (Env.bare_ok envOk) 200 _ (eq26T n n f g i) (by simp [trusted]; omega) ?_
    intro _; rw [eqU_true (fun e h => he e (by omega))]
  | d + 1, i, h0, h1, hd, he => by
    have hi : i < n := by omega
    have ht : 0 + i.toNat * 1 = i.toNat := by omega
    have hlt : Nat.blt i.toNat n = true := by rw [Nat.blt_eq]; omega
    by_cases hf : f i.toNat = g i.toNat
    · refine MWp.head (Env.bare_ok envOk) _ _ _ _ (eq26I n n f g i) (by rw [ht]; simp [trusted, hf, hlt, hi, h0]) (eq26P n n f g) ?_
      have hw : IntKind.i64.wrap (i + 1) = i + 1 := by rw [IntKind.wrap_i64]; omega
      rw [hw]
      refine eq26loop n f g hn d (i + 1) (by omega) (by omega) (by omega) (fun e h => ?_)
      by_cases h2 : (e : Int) = i
      · have : e = i.toNat := by omega
        rw [this]; exact hf
      · exact he e (by omega)
    · refine MWp.out (Env.bare_ok envOk) 200 _ (eq26E n n f g i) (by rw [ht]; simp [trusted, hf, hlt, hi, h0]) ?_
      intro _; rw [eqU_false (e := i.toNat) (by omega) hf]
theorem eq26SS (n m : Nat) (f g : Nat → Int) (hn : n ≤ 9223372036854775807) : LCalls Try.prog 26 [sl 0 n, sl 1 m] (mkH [some (ints .u8 f n), some (ints .u8 g m)]) (fun u _ => u = .bool (Nat.beq n m && eqU n f g)) := by
  refine LCalls_of (Env.bare_ok envOk) eq26get (by kernel_rfl) ?_
  by_cases h : n = m
  · subst h
    refine MWp.head (Env.bare_ok envOk) _ _ _ _ (eq260 n n f g) (by simp [trusted]) (eq26P n n f g) ?_
    refine (eq26loop n f g hn _ 0 (by omega) (by omega) rfl (fun e h => by omega)).mono ?_
    rintro v H rfl
    simp
  · refine MWp.done (Env.bare_ok envOk) 200 _ (eq26N n m f g) (by simp [trusted]; omega) ?_
    have : Nat.beq n m = false := by
      cases hb : Nat.beq n m with
      | false => rfl
      | true => exact absurd (Nat.eq_of_beq_eq_true hb) h
    rw [this]; rfl
theorem eq26a (m : Nat) (q : Nat → Int) (b : Bool) : (Ly.run env.bare 200 [(0, b)] (Ly.start Try.f26 [.slice none 0 0, sl 0 m] (mkH [some (ints .u8 q m)]))).out? = some ([((0 : Int) != (m : Int), b)], .bool (!b)) := by cases b <;> kernel_rfl
theorem eq26NS (m : Nat) (q : Nat → Int) : LCalls Try.prog 26 [.slice none 0 0, sl 0 m] (mkH [some (ints .u8 q m)]) (fun u _ => u = .bool (Nat.beq 0 m)) := by
  by_cases h : m = 0
  · subst h
    exact LCalls_trust (Env.bare_ok envOk) 200 _ eq26get (by kernel_rfl) (eq26a 0 q false) (by simp [trusted])
  · have hb : Nat.beq 0 m = false := by rcases m with _ | m; exact absurd rfl h; rfl
    rw [hb]
    exact LCalls_trust (Env.bare_ok envOk) 200 _ eq26get (by kernel_rfl) (eq26a m q true) (by simp [trusted]; omega)
theorem eq26b (n : Nat) (q : Nat → Int) : (Ly.run env.bare 200 [(0, true)] (Ly.start Try.f26 [sl 0 n, .slice none 0 0] (mkH [some (ints .u8 q n)]))).out? = some ([((n : Int) != 0, true)], .bool false) := by kernel_rfl
theorem eq26c (q : Nat → Int) : (Ly.run env.bare 200 [] (Ly.start Try.f26 [sl 0 0, .slice none 0 0] (mkH [some (ints .u8 q 0)]))).out? = some ([], .bool true) := by kernel_rfl
theorem eq26SN (n : Nat) (p : Nat → Int) : LCalls Try.prog 26 [sl 0 n, .slice none 0 0] (mkH [some (ints .u8 p n)]) (fun u _ => u = .bool (Nat.beq n 0)) := by
  by_cases h : n = 0
  · subst h
    exact LCalls_trust (Env.bare_ok envOk) 200 _ eq26get (by kernel_rfl) (eq26c p) trivial
  · have hb : Nat.beq n 0 = false := by rcases n with _ | n; exact absurd rfl h; rfl
    rw [hb]
    exact LCalls_trust (Env.bare_ok envOk) 200 _ eq26get (by kernel_rfl) (eq26b n p) (by simp [trusted]; omega)
theorem eq26NN : LCalls Try.prog 26 [.slice none 0 0, .slice none 0 0] (mkH []) (fun u _ => u = .bool true) :=
  LCalls_trust (v := .bool true) (Env.bare_ok envOk) 200 [] eq26get (by kernel_rfl) (t := []) (by kernel_rfl) trivial
theorem eq26con : ∀ args ρ args' w H, VRL ρ args args' → Rep ρ H w → ConGood Try.prog ρ 26 args' w (conEq .u8 H args) := conEq_good eq26SS eq26NS eq26SN eq26NN
end Go.Proofs.Ytpggoincnebfnaa
namespace Go.Proofs.Ytpggoincnebfnaa
open Go Go.Ly Go.RowKit
def holdsF (c : Int) (s z p y : Bool) : Bool := bif c == 0 then !z else bif c == 1 then z else bif c == 2 then !y else bif c == 3 then y else bif c == 4 then !p else bif c == 5 then p else bif c == 6 then !s else bif c == 7 then s else false
def holdC (l : List Value) : Option (Bool × Value) := match l with
  | [.int .i64 c, .agg ⟨[.bool s, .bool z, .bool x, .bool p, .bool y]⟩] => some (true, .bool (holdsF c s z p y))
  | _ => none
theorem gH11 : ctxL.fn.get 11 = some Try.f11 := by kernel_rfl
def aliveC (l : List Value) : Option (Bool × Value) := match l with
  | [] => some (true, .bool true)
  | _ => none
theorem aliveR : (Ly.run ctxL 9000 [] (Ly.start Try.f11 [] H0)).out? = some ([], .bool true) := by kernel_rfl
theorem alive_ans : Answers Try.prog 11 aliveC := by
  intro args g v h hg
  unfold aliveC at h
  split at h
  · simp only [Option.some.injEq, Prod.mk.injEq] at h
    obtain ⟨rfl, rfl⟩ := h
    exact ⟨rfl, rfl, fun w => calls_trust ctxL_ok 9000 [] gH11 (by kernel_rfl) rfl rfl aliveR trivial w⟩
  · cases h
end Go.Proofs.Ytpggoincnebfnaa
namespace Go.Proofs.Ytpggoincnebfnaa
open Go Go.Ly Go.RowKit
end Go.Proofs.Ytpggoincnebfnaa
namespace Go.Proofs.Ytpggoincnebfnaa
open Go Go.Ly Go.RowKit
def gF (m : Mc) : Bool := !(m.fs == m.fs && (m.fz == m.fz && (m.fx == m.fx && (m.fp == m.fp && (m.fc == m.fc && true)))))
def tA (m : Mc) : List (Bool × Bool) := [(m.r0 != m.r0, false), (m.r1 != m.r1, false), (m.r2 != m.r2, false), (m.r3 != m.r3, false), (m.r4 != m.r4, false), (m.r5 != m.r5, false), (m.r7 != m.r7, false), (gF m == false, true), ((m.sp != m.sp) == false, true), ((m.pc != m.pc) == false, true), ((!(m.ie == m.ie)) == false, true), ((!(m.halt == m.halt)) == false, true)]
def gR (f : Nat → Int) (j n : Nat) : Rw := Rw.gen (n + 1) fun i _ => .int .u8 (f (j + i))
def eqR (f : Nat → Int) (j n : Nat) : Bool := !(Nat.beq (gR f j n).n (gR f j n).n && eqU (gR f j n).n (gR f j n).at (gR f j n).at)
def conR (f : Nat → Int) (j n N : Nat) : Bool := Nat.ble (j + (n + 1)) N && (Nat.ble (j + (n + 1)) N && ((gR f j n).ints .u8 && ((gR f j n).ints .u8 && Nat.ble (gR f j n).n 9223372036854775807)))
def tR' (m : Mc) (f : Nat → Int) (j n N : Nat) : List (Bool × Bool) := tA m ++ [(conR f j n N, true), (eqR f j n == false, true)]
end Go.Proofs.Ytpggoincnebfnaa
namespace Go.Proofs.Ytpggoincnebfnaa
open Go Go.Ly Go.RowKit
end Go.Proofs.Ytpggoincnebfnaa
namespace Go.Proofs.Ytpggoincnebfnaa
open Go Go.Ly Go.RowKit
end Go.Proofs.Ytpggoincnebfnaa
namespace Go.Proofs.Ytpggoincnebfnaa
open Go Go.Ly Go.RowKit
structure WeakAt (H K : Heap) (p : Nat) : Prop where
  weak : WeakH H K
  lock : K.lock = H.lock
  next : K.next = H.next
  clean : Ly.Clean K
  old : ∀ i, i ≠ p → K.get i = H.get i
end Go.Proofs.Ytpggoincnebfnaa
namespace Go.Proofs.Ytpggoincnebfnaa
open Go Go.Ly Go.RowKit
end Go.Proofs.Ytpggoincnebfnaa
namespace Go.Proofs.Ytpggoincnebfnaa
open Go Go.Ly Go.RowKit
end Go.Proofs.Ytpggoincnebfnaa
namespace Go.Proofs.Ytpggoincnebfnaa
open Go Go.Ly Go.RowKit
structure Sv where
  r0 : Int
  r1 : Int
  r2 : Int
  r3 : Int
  r4 : Int
  r5 : Int
  r6 : Int
  r7 : Int
  fs : Bool
  fz : Bool
  fx : Bool
  fp : Bool
  fc : Bool
  sp : Int
  pc : Int
  ie : Bool
def svV (s : Sv) (i m : Value) : Value := .agg ⟨[.int .u8 s.r0, .int .u8 s.r1, .int .u8 s.r2, .int .u8 s.r3, .int .u8 s.r4, .int .u8 s.r5, .int .u8 s.r6, .int .u8 s.r7, .bool s.fs, .bool s.fz, .bool s.fx, .bool s.fp, .bool s.fc, .int .u16 s.sp, .int .u16 s.pc, .bool s.ie, i, m]⟩
def nilS : Value := .slice none 0 0
end Go.Proofs.Ytpggoincnebfnaa
namespace Go.Proofs.Ytpggoincnebfnaa
open Go Go.Ly Go.RowKit
def Sv.Ok (s : Sv) : Prop := (B8 s.r0 ∧ B8 s.r1 ∧ B8 s.r2 ∧ B8 s.r3 ∧ B8 s.r4 ∧ B8 s.r5 ∧ B8 s.r6 ∧ B8 s.r7) ∧ B16 s.sp ∧ B16 s.pc
theorem ck_bytes2 {w : World} {v : Value} (h : CkOk w (.slice [.int .u16, .int .u8]) v) : v = .slice none 0 0 ∨ ∃ (n : Nat) (a b : Nat → Int) (p : Option Plc),
    RealRows w 2 (fun e j => match j with | 0 => .int .u16 (a e) | _ + 1 => .int .u8 (b e)) n v p ∧ (∀ e, e < n → B16 (a e) ∧ B8 (b e)) ∧ n ≤ maxLen := by
  rcases ck_rows rfl (by decide) h with rfl | ⟨n, F, p, hr, hF, hn⟩
  · exact .inl rfl
  · right
    have key : ∀ e, e < n → ∃ x y, F e = [.int .u16 x, .int .u8 y] ∧ (Lit.int .u16 x).wf = true ∧ (Lit.int .u8 y).wf = true := by
      intro e he
      have := hF e he
      simp only [CksOk, CkOk] at this
      obtain ⟨v1, r1, e1, ⟨x, rfl, hx⟩, v2, r2, rfl, ⟨y, rfl, hy⟩, rfl⟩ := this
      exact ⟨x, y, e1, hx, hy⟩
    refine ⟨n, fun e => intV ((F e)[0]?.getD undef), fun e => intV ((F e)[1]?.getD undef), p, hr.congr (fun e j he hj => ?_), fun e he => ?_, hn⟩
    · obtain ⟨x, y, e1, _, _⟩ := key e he
      have : j = 0 ∨ j = 1 := by simp at hj; omega
      rcases this with rfl | rfl <;> simp [e1, intV]
    · obtain ⟨x, y, e1, hx, hy⟩ := key e he
      simp only [e1, List.getElem?_cons_zero, List.getElem?_cons_succ, Option.getD_some, intV]
      exact ⟨bounds_u16 hx, bounds_u8 hy⟩
theorem ck_in {w : World} {v : Value} (h : CkOk w (.slice [.int .u8]) v) : v = .slice none 0 0 ∨ ∃ (n : Nat) (f : Nat → Int) (p : Option Plc),
    RealRows w 1 (fun e _ => .int .u8 (f e)) n v p ∧ (∀ e, e < n → B8 (f e)) ∧ n ≤ maxLen := by
  rcases ck_rows rfl (by decide) h with rfl | ⟨n, F, p, hr, hF, hn⟩
  · exact .inl rfl
  · right
    have key : ∀ e, e < n → ∃ y, F e = [.int .u8 y] ∧ (Lit.int .u8 y).wf = true := by
      intro e he
      have := hF e he
      simp only [CksOk, CkOk] at this
      obtain ⟨v2, r2, e1, ⟨y, rfl, hy⟩, rfl⟩ := this
      exact ⟨y, e1, hy⟩
    refine ⟨n, fun e => intV ((F e)[0]?.getD undef), p, hr.congr (fun e j he hj => ?_), fun e he => ?_, hn⟩
    · obtain ⟨y, e1, _⟩ := key e he
      have : j = 0 := by simp at hj; omega
      subst this
      simp [e1, intV]
    · obtain ⟨y, e1, hy⟩ := key e he
      simp only [e1, List.getElem?_cons_zero, Option.getD_some, intV]
      exact bounds_u8 hy
def InRow (w : World) (i : Nat) (f : Nat → Int) (n : Nat) (loc v : Value) (p : Option Plc) : Prop := (loc = .slice none 0 0 ∧ v = .slice none 0 0 ∧ n = 0 ∧ p = none) ∨ (loc = sl i n ∧ RealRows w 1 (fun e _ => .int .u8 (f e)) n v p)
theorem sv_open {W : World} {v : Value} (h : ∃ cs, v = .agg ⟨cs⟩ ∧ CksOk W [.int .u8, .int .u8, .int .u8, .int .u8, .int .u8, .int .u8, .int .u8, .int .u8, .bool, .bool, .bool, .bool, .bool, .int .u16, .int .u16, .bool, .slice [.int .u8], .slice [.int .u16, .int .u8]] cs) :
    ∃ (s : Sv) (iv mv : Value), s.Ok ∧ v = svV s iv mv ∧ CkOk W (.slice [.int .u8]) iv ∧ CkOk W (.slice [.int .u16, .int .u8]) mv := by
  obtain ⟨cs, rfl, h⟩ := h
  simp only [CksOk] at h
  obtain ⟨v0, _, rfl, c0, v1, _, rfl, c1, v2, _, rfl, c2, v3, _, rfl, c3, v4, _, rfl, c4, v5, _, rfl, c5, v6, _, rfl, c6, v7, _, rfl, c7, v8, _, rfl, c8, v9, _, rfl, c9, v10, _, rfl, c10, v11, _, rfl, c11, v12, _, rfl, c12, v13, _, rfl, c13, v14, _, rfl, c14, v15, _, rfl, c15, v16, _, rfl, c16, v17, _, rfl, c17, rfl⟩ := h
  simp only [CkOk] at c0 c1 c2 c3 c4 c5 c6 c7 c8 c9 c10 c11 c12 c13 c14 c15
  obtain ⟨n0, rfl, w0⟩ := c0
  obtain ⟨n1, rfl, w1⟩ := c1
  obtain ⟨n2, rfl, w2⟩ := c2
  obtain ⟨n3, rfl, w3⟩ := c3
  obtain ⟨n4, rfl, w4⟩ := c4
  obtain ⟨n5, rfl, w5⟩ := c5
  obtain ⟨n6, rfl, w6⟩ := c6
  obtain ⟨n7, rfl, w7⟩ := c7
  obtain ⟨b8, rfl⟩ := c8
  obtain ⟨b9, rfl⟩ := c9
  obtain ⟨b10, rfl⟩ := c10
  obtain ⟨b11, rfl⟩ := c11
  obtain ⟨b12, rfl⟩ := c12
  obtain ⟨n13, rfl, w13⟩ := c13
  obtain ⟨n14, rfl, w14⟩ := c14
  obtain ⟨b15, rfl⟩ := c15
  exact ⟨⟨n0, n1, n2, n3, n4, n5, n6, n7, b8, b9, b10, b11, b12, n13, n14, b15⟩, v16, v17,
    ⟨⟨bounds_u8 w0, bounds_u8 w1, bounds_u8 w2, bounds_u8 w3, bounds_u8 w4, bounds_u8 w5, bounds_u8 w6, bounds_u8 w7⟩, bounds_u16 w13, bounds_u16 w14⟩, rfl, c16, c17⟩
theorem in_cases {w : World} {v : Value} (h : CkOk w (.slice [.int .u8]) v) : ∃ (f : Nat → Int) (n : Nat) (loc : Value) (p : Option Plc), InRow w 0 f n loc v p ∧ (∀ e, e < n → B8 (f e)) ∧ n ≤ maxLen := by
  rcases ck_in h with rfl | ⟨n, f, p, hr, hf, hn⟩
  · exact ⟨fun _ => 0, 0, .slice none 0 0, none, .inl ⟨rfl, rfl, rfl, rfl⟩, fun e he => by omega, by simp [maxLen]⟩
  · exact ⟨f, n, sl 0 n, p, .inr ⟨rfl, hr⟩, hf, hn⟩
end Go.Proofs.Ytpggoincnebfnaa
namespace Go.Proofs.Ytpggoincnebfnaa
open Go Go.Ly Go.RowKit
def ctxO : Ctx := ctx5.withH 25 memC |>.with 11 aliveC
theorem ctxO_ok : ctxO.Ok Try.prog := (ctx5_ok.withH memC_good).with alive_ans
def ctxH : Ctx := haltAt (haltAt (haltAt (haltAt (haltAt ctxO 13) 14) 15) 16) 17
theorem ctxH_ok : ctxH.Ok Try.prog := haltAt_ok (haltAt_ok (haltAt_ok (haltAt_ok (haltAt_ok ctxO_ok 13) 14) 15) 16) 17
end Go.Proofs.Ytpggoincnebfnaa
namespace Go.Ly
open Go.RowKit
def cleanB (H : Heap) : Nat → Bool
  | 0 => true
  | n + 1 => (match H.get n with | some o => noTokO o | none => true) && cleanB H n
theorem cleanB_spec {H : Heap} : ∀ (n : Nat), cleanB H n = true → ∀ i, i < n → ∀ o, H.get i = some o → noTokO o = true
  | 0, _, i, hi, _, _ => by omega
  | n + 1, h, i, hi, o, ho => by
    simp only [cleanB, Bool.and_eq_true] at h
    rcases Nat.lt_or_ge i n with h1 | h1
    · exact cleanB_spec n h.2 i h1 o ho
    · have : i = n := by omega
      subst this
      have h2 := h.1
      rw [ho] at h2; exact h2
def haltG (keep bs : List Nat) (nx : Nat) (d : St) (r : RO) : Bool × List (Bool × Bool) × Bool × (Func × List KI × Option Tmp × Nat) × List Value × (Bool × Bool × Bool) × List (Option LO) := (r.isHalt, r.trust, (r.st d).rest.isEmpty && Nat.blt (r.st d).top.fn.ntmps 1000000, ((r.st d).top.fn, (r.st d).top.k, (r.st d).top.dst, (r.st d).base), keepV keep (r.st d).top.fn.ntmps (r.st d).top.t, (Nat.beq (r.st d).H.next nx, Nat.beq (r.st d).H.lock 0, cleanB (r.st d).H nx), bs.map (r.st d).H.get)
section
variable {P : Program} {C : Ctx} {Q : Value → Heap → Prop}
theorem MWp.haltG (hC : C.Ok P) {S d : St} {t : List (Bool × Bool)} {fn : Func} {k : List KI} {dst : Option Tmp} {base nx : Nat} {vals : List Value} {os : List (Option LO)} (keep bs : List Nat) (n : Nat) (p : Path)
    (h : Go.Ly.haltG keep bs nx d (run C n p S) = (true, t, true, (fn, k, dst, base), vals, (true, true, true), os)) (ht : trusted t)
    (hs : ∀ H, H.next = nx → H.lock = 0 → Clean H → bs.map H.get = os → MWp P (atSt fn k dst base vals H) Q) : MWp P S Q := by
  simp only [Go.Ly.haltG, Prod.mk.injEq] at h
  obtain ⟨h1, h2, h3, ⟨h4, h5, h6, h7⟩, h8, ⟨h9, h10, h11⟩, h12⟩ := h
  have hn := Nat.eq_of_beq_eq_true h9
  refine MWp.halted (H := ((run C n p S).st d).H) (fn := fn) (k := k) (dst := dst) (base := base) (vals := vals) hC keep n p (d := d) ?_ ht ?_
  · simp only [haltF, Prod.mk.injEq]
    exact ⟨h1, h2, h3, ⟨h4, h5, h6, h7⟩, h8, trivial⟩
  · refine MWp.ltn fun hlt hsm => ?_
    exact hs _ hn (Nat.eq_of_beq_eq_true h10) (fun i o ho => cleanB_spec nx h11 i (by rw [← hn]; exact hlt i o ho) o ho) h12
def haltH (keep bs : List Nat) (nx : Nat) (d : St) (r : RO) : Bool × List (Bool × Bool) × Bool × (Func × List KI × Option Tmp × Nat) × List Value × (Bool × Bool × Bool) × List (Option LO) := forceTr forceO (r.st d).top.t fun t => forceTr forceLO (r.st d).H.m fun hm => (r.isHalt, r.trust, (r.st d).rest.isEmpty && Nat.blt (r.st d).top.fn.ntmps 1000000, ((r.st d).top.fn, (r.st d).top.k, (r.st d).top.dst, (r.st d).base), keepV keep (r.st d).top.fn.ntmps t, (Nat.beq (r.st d).H.next nx, Nat.beq (r.st d).H.lock 0, cleanB { m := hm, next := (r.st d).H.next, lock := (r.st d).H.lock } nx), bs.map (Heap.get { m := hm, next := (r.st d).H.next, lock := (r.st d).H.lock }))
theorem haltH_eq (keep bs : List Nat) (nx : Nat) (d : St) (r : RO) : haltH keep bs nx d r = Go.Ly.haltG keep bs nx d r := by
  unfold haltH Go.Ly.haltG
  rw [forceTr_eq forceO_eq, forceTr_eq forceLO_eq]
theorem MWp.haltH (hC : C.Ok P) {S d : St} {t : List (Bool × Bool)} {fn : Func} {k : List KI} {dst : Option Tmp} {base nx : Nat} {vals : List Value} {os : List (Option LO)} (keep bs : List Nat) (n : Nat) (p : Path)
    (h : Go.Ly.haltH keep bs nx d (run C n p S) = (true, t, true, (fn, k, dst, base), vals, (true, true, true), os)) (ht : trusted t)
    (hs : ∀ H, H.next = nx → H.lock = 0 → Clean H → bs.map H.get = os → MWp P (atSt fn k dst base vals H) Q) : MWp P S Q :=
  MWp.haltG hC keep bs n p (by rw [← haltH_eq]; exact h) ht hs
end
end Go.Ly
namespace Go.Proofs.Ytpggoincnebfnaa
open Go Go.Ly Go.RowKit
def AllAt (H : Heap) (τ : Nat → Nat) : List (Option LO) → List Nat → Prop
  | [], [] => True
  | some o :: r, b :: s => H.get b = some (renO τ o) ∧ AllAt H τ r s
  | none :: r, _ :: s => AllAt H τ r s
  | _, _ => False
theorem AllAt.at_ {H : Heap} {τ : Nat → Nat} : ∀ {os : List (Option LO)} {L : List Nat}, AllAt H τ os L → L.length = os.length ∧ ∀ i o, os[i]? = some (some o) → H.get (sg L i) = some (renO τ o)
  | [], [], _ => ⟨rfl, fun i o h => by simp at h⟩
  | some o :: r, b :: s, h => by
    obtain ⟨h1, h2⟩ := h
    obtain ⟨k1, k2⟩ := AllAt.at_ h2
    refine ⟨by simp [k1], fun i x hi => ?_⟩
    cases i with
    | zero => simp at hi; subst hi; exact h1
    | succ i => exact k2 i x (by simpa using hi)
  | none :: r, b :: s, h => by
    obtain ⟨k1, k2⟩ := AllAt.at_ (os := r) (L := s) h
    refine ⟨by simp [k1], fun i x hi => ?_⟩
    cases i with
    | zero => simp at hi
    | succ i => exact k2 i x (by simpa using hi)
  | [], _ :: _, h => h.elim
  | some _ :: _, [], h => h.elim
  | none :: _, [], h => h.elim
theorem AllAt.nil {H : Heap} {τ : Nat → Nat} : AllAt H τ [] [] := trivial
structure Left (H K : Heap) : Prop where
  lock : K.lock = 0
  clean : Ly.Clean K
  le : H.next ≤ K.next
  ge : K.next ≤ H.next + 16
  old : ∀ i, i < H.next → K.get i = H.get i
def Apart (V V2 : List Nat) : Prop := ∀ i ∈ V, i ∉ V2
end Go.Proofs.Ytpggoincnebfnaa
namespace Go.Proofs.Ytpggoincnebfnaa
open Go Go.Ly Go.RowKit
variable (m : Mc) (g : Nat → Int) (b1 b2 : Int)
theorem p00_0 : endsAt [0, 1] (Ly.run ctx3 3000 [] (sP m g 0 b1 b2)) = some (T [], .int .i64 0, 5, hPm { m with pc := w16 (m.pc + 1) } (memL g)) := by kernel_rfl
theorem r00_0 : endsAt [0, 1, 2] (Ly.run ctx3 3000 [(4, true)] (sR m g 0)) = some (T [inw m.pc && true], .int .i64 0, 3, hRm { m with pc := w16 (m.pc + 1) } (memL g)) := by kernel_rfl
theorem o00 (hm : m.Ok) (hg : ∀ e, B8 (g e)) (hh : m.halt = false) (h0 : g (ix m.pc) = 0) : Both m g := by
  obtain ⟨r0, r1, r2, r3, r4, r5, r7, sp, pc⟩ := id hm
  exact joinA (m' := { m with pc := w16 (m.pc + 1) }) hm hh h0 (p00_0 m g _ _) (r00_0 m g) hg
theorem p01_0 : endsAt [0, 1] (Ly.run ctx3 3000 [] (sP m g 1 b1 b2)) = some (T [], .int .i64 0, 5, hPm { m with pc := w16 (m.pc + 3), r0 := w8 ((or16 (w16 (or16 0 (w16 b2) * 256)) (w16 b1)).fdiv 256), r1 := w8 (or16 (w16 (or16 0 (w16 b2) * 256)) (w16 b1)) } (memL g)) := by kernel_rfl
theorem r01_0 : endsAt [0, 1, 2] (Ly.run ctx3 3000 [(3, true), (0, true), (0, true), (1, true), (0, true), (0, true), (0, true)] (sR m g 1)) = some (T [inw m.pc && true, rg (w16 (m.pc + 1)), bl (ix (w16 (m.pc + 1))), inw m.pc && true, rg (w16 (m.pc + 2)), bl (ix (w16 (m.pc + 2))), inw m.pc && true], .int .i64 0, 3, hRm { m with pc := w16 (m.pc + 3), r0 := w8 ((w16 (w16 (g (ix (w16 (m.pc + 1)))) + w16 (w16 (g (ix (w16 (m.pc + 2)))) * 256))).fdiv 256), r1 := w8 (and16 (w16 (w16 (g (ix (w16 (m.pc + 1)))) + w16 (w16 (g (ix (w16 (m.pc + 2)))) * 256))) 255) } (memL g)) := by kernel_rfl
theorem o01 (hm : m.Ok) (hg : ∀ e, B8 (g e)) (hh : m.halt = false) (h0 : g (ix m.pc) = 1) : Both m g := by
  obtain ⟨r0, r1, r2, r3, r4, r5, r7, sp, pc⟩ := id hm
  exact joinA (m' := { m with pc := w16 (m.pc + 3), r0 := w8 ((or16 (w16 (or16 0 (w16 (g (at1 m.pc 2))) * 256)) (w16 (g (at1 m.pc 1)))).fdiv 256), r1 := w8 (or16 (w16 (or16 0 (w16 (g (at1 m.pc 2))) * 256)) (w16 (g (at1 m.pc 1)))) }) hm hh h0 (p01_0 m g _ _) (r01_0 m g) hg
theorem p02_0 : endsAt [0, 1] (Ly.run ctx3 3000 [(33, true), (0, true)] (sP m g 2 b1 b2)) = some (T [(true && lt16 (or16 (w16 (w16 m.r0 * 256)) (w16 m.r1))), bl (ix (or16 (w16 (w16 m.r0 * 256)) (w16 m.r1)))], .int .i64 0, 5, hPm { m with pc := w16 (m.pc + 1) } (M1 g (ix (or16 (w16 (w16 m.r0 * 256)) (w16 m.r1))) (m.r7))) := by kernel_rfl
theorem r02_0 : endsAt [0, 1, 2] (Ly.run ctx3 3000 [(4, true), (13, true), (4, true), (0, true)] (sR m g 2)) = some (T [inw m.pc && true, inb m.r0 && inb m.r1, rg (256 * m.r0 + m.r1), bl (ix (256 * m.r0 + m.r1))], .int .i64 0, 3, hRm { m with pc := w16 (m.pc + 1) } (M1 g (ix (256 * m.r0 + m.r1)) (m.r7))) := by kernel_rfl
theorem o02 (hm : m.Ok) (hg : ∀ e, B8 (g e)) (hh : m.halt = false) (h0 : g (ix m.pc) = 2) : Both m g := by
  obtain ⟨r0, r1, r2, r3, r4, r5, r7, sp, pc⟩ := id hm
  exact join (m' := { m with pc := w16 (m.pc + 1) }) (g' := (upd g (ix (or16 (w16 (w16 m.r0 * 256)) (w16 m.r1))) (m.r7))) hm hh h0 (p02_0 m g _ _) (r02_0 m g) (by simp [*]) (by simp [*]) (by decide) (by decide) (eP (m1s rfl rfl)) (eR rfl (m1s (by simp [*]) (by simp [*]))) (by constructor <;> simp [*]) (upd_b8 hg (by simp [*]))
@[simp] def z03_0 (m : Mc) : Mc := { m with pc := w16 (m.pc + 1), r0 := w8 ((w16 (or16 (w16 (w16 m.r0 * 256)) (w16 m.r1) + 1)).fdiv 256), r1 := w8 (w16 (or16 (w16 (w16 m.r0 * 256)) (w16 m.r1) + 1)) }
theorem p03_0 : endsAt [0, 1] (Ly.run ctx3 3000 [] (sP m g 3 b1 b2)) = some (T [], .int .i64 0, 5, hPm (z03_0 m) (memL g)) := by kernel_rfl
theorem r03_0 : endsAt [0, 1, 2] (Ly.run ctx3 3000 [(4, true), (14, true), (0, true)] (sR m g 3)) = some (T [inw m.pc && true, inb m.r0 && inb m.r1, inw (256 * m.r0 + m.r1) && true], .int .i64 0, 3, hRm { m with pc := w16 (m.pc + 1), r0 := w8 ((w16 (256 * m.r0 + m.r1 + 1)).fdiv 256), r1 := w8 (and16 (w16 (256 * m.r0 + m.r1 + 1)) 255) } (memL g)) := by kernel_rfl
theorem o03 (hm : m.Ok) (hg : ∀ e, B8 (g e)) (hh : m.halt = false) (h0 : g (ix m.pc) = 3) : Both m g := by
  obtain ⟨r0, r1, r2, r3, r4, r5, r7, sp, pc⟩ := id hm
  exact joinA (m' := (z03_0 m)) hm hh h0 (p03_0 m g _ _) (r03_0 m g) hg
@[simp] def z04_0 (m : Mc) : Mc := { m with fp := par ((m.r0 + 1) % 256), fs := decide (128 ≤ (m.r0 + 1) % 256), fx := decide (15 < m.r0 % 16 + 1), fz := (m.r0 + 1) % 256 == 0, pc := w16 (m.pc + 1), r0 := (m.r0 + 1) % 256 }
theorem p04_0 : endsAt [0, 1] (Ly.run ctx3 3000 [(21, true)] (sP m g 4 b1 b2)) = some (T [inb m.r0], .int .i64 0, 5, hPm (z04_0 m) (memL g)) := by kernel_rfl
theorem r04_0 : endsAt [0, 1, 2] (Ly.run ctx3 3000 [(4, true), (10, true)] (sR m g 4)) = some (T [inw m.pc && true, inb m.r0], .int .i64 0, 4, hRm (z04_0 m) (memL g)) := by kernel_rfl
theorem o04 (hm : m.Ok) (hg : ∀ e, B8 (g e)) (hh : m.halt = false) (h0 : g (ix m.pc) = 4) : Both m g := by
  obtain ⟨r0, r1, r2, r3, r4, r5, r7, sp, pc⟩ := id hm
  exact joinA (m' := (z04_0 m)) hm hh h0 (p04_0 m g _ _) (r04_0 m g) hg
@[simp] def z05_0 (m : Mc) : Mc := { m with fp := par ((m.r0 - 1) % 256), fs := decide (128 ≤ (m.r0 - 1) % 256), fx := decide (15 < m.r0 % 16 + 15), fz := (m.r0 - 1) % 256 == 0, pc := w16 (m.pc + 1), r0 := (m.r0 - 1) % 256 }
theorem p05_0 : endsAt [0, 1] (Ly.run ctx3 3000 [(22, true)] (sP m g 5 b1 b2)) = some (T [inb m.r0], .int .i64 0, 5, hPm (z05_0 m) (memL g)) := by kernel_rfl
theorem r05_0 : endsAt [0, 1, 2] (Ly.run ctx3 3000 [(4, true), (11, true)] (sR m g 5)) = some (T [inw m.pc && true, inb m.r0], .int .i64 0, 4, hRm (z05_0 m) (memL g)) := by kernel_rfl
theorem o05 (hm : m.Ok) (hg : ∀ e, B8 (g e)) (hh : m.halt = false) (h0 : g (ix m.pc) = 5) : Both m g := by
  obtain ⟨r0, r1, r2, r3, r4, r5, r7, sp, pc⟩ := id hm
  exact joinA (m' := (z05_0 m)) hm hh h0 (p05_0 m g _ _) (r05_0 m g) hg
theorem p06_0 : endsAt [0, 1] (Ly.run ctx3 3000 [] (sP m g 6 b1 b2)) = some (T [], .int .i64 0, 5, hPm { m with pc := w16 (m.pc + 2), r0 := w8 (or16 0 (w16 b1)) } (memL g)) := by kernel_rfl
theorem r06_0 : endsAt [0, 1, 2] (Ly.run ctx3 3000 [(3, true), (0, true), (0, true), (1, true)] (sR m g 6)) = some (T [inw m.pc && true, rg (w16 (m.pc + 1)), bl (ix (w16 (m.pc + 1))), inw m.pc && true], .int .i64 0, 3, hRm { m with pc := w16 (m.pc + 2), r0 := w8 (w16 (g (ix (w16 (m.pc + 1))))) } (memL g)) := by kernel_rfl
theorem o06 (hm : m.Ok) (hg : ∀ e, B8 (g e)) (hh : m.halt = false) (h0 : g (ix m.pc) = 6) : Both m g := by
  obtain ⟨r0, r1, r2, r3, r4, r5, r7, sp, pc⟩ := id hm
  exact joinA (m' := { m with pc := w16 (m.pc + 2), r0 := w8 (or16 0 (w16 (g (at1 m.pc 1)))) }) hm hh h0 (p06_0 m g _ _) (r06_0 m g) hg
@[simp] def z07_0 (m : Mc) : Mc := { m with fc := decide (128 ≤ m.r7), pc := w16 (m.pc + 1), r7 := (2 * m.r7 + m.r7 / 128) % 256 }
theorem p07_0 : endsAt [0, 1] (Ly.run ctx3 3000 [(27, true)] (sP m g 7 b1 b2)) = some (T [inb m.r7], .int .i64 0, 5, hPm (z07_0 m) (memL g)) := by kernel_rfl
theorem r07_0 : endsAt [0, 1, 2] (Ly.run ctx3 3000 [(4, true), (16, true)] (sR m g 7)) = some (T [inw m.pc && true, inb m.r7], .int .i64 0, 3, hRm (z07_0 m) (memL g)) := by kernel_rfl
theorem o07 (hm : m.Ok) (hg : ∀ e, B8 (g e)) (hh : m.halt = false) (h0 : g (ix m.pc) = 7) : Both m g := by
  obtain ⟨r0, r1, r2, r3, r4, r5, r7, sp, pc⟩ := id hm
  exact joinA (m' := (z07_0 m)) hm hh h0 (p07_0 m g _ _) (r07_0 m g) hg
theorem p08_0 : endsAt [0, 1] (Ly.run ctx3 3000 [] (sP m g 8 b1 b2)) = some (T [], .int .i64 8, 5, hPm m (memL g)) := by kernel_rfl
theorem r08_0 : endsAt [0, 1, 2] (Ly.run ctx3 3000 [] (sR m g 8)) = some (T [], .int .i64 8, 3, hRm m (memL g)) := by kernel_rfl
theorem o08 (hm : m.Ok) (hg : ∀ e, B8 (g e)) (hh : m.halt = false) (h0 : g (ix m.pc) = 8) : Both m g := by
  obtain ⟨r0, r1, r2, r3, r4, r5, r7, sp, pc⟩ := id hm
  exact join (m' := m) (g' := g) hm hh h0 (p08_0 m g _ _) (r08_0 m g) (by simp [*]) (by simp [*]) (by decide) (by decide) (eP (.inl rfl)) (eR rfl (.inl rfl)) (by constructor <;> simp [*]) hg
@[simp] def z09_0 (m : Mc) : Mc := { m with fc := decide (65535 < or16 (w16 (w16 m.r4 * 256)) (w16 m.r5) + or16 (w16 (w16 m.r0 * 256)) (w16 m.r1)), pc := w16 (m.pc + 1), r4 := w8 (((or16 (w16 (w16 m.r4 * 256)) (w16 m.r5) + or16 (w16 (w16 m.r0 * 256)) (w16 m.r1)) % 65536).fdiv 256), r5 := w8 ((or16 (w16 (w16 m.r4 * 256)) (w16 m.r5) + or16 (w16 (w16 m.r0 * 256)) (w16 m.r1)) % 65536) }
theorem p09_0 : endsAt [0, 1] (Ly.run ctx3 3000 [(37, true)] (sP m g 9 b1 b2)) = some (T [true && decide (or16 (w16 (w16 m.r4 * 256)) (w16 m.r5) ≤ 65535) && (true && decide (or16 (w16 (w16 m.r0 * 256)) (w16 m.r1) ≤ 65535))], .int .i64 0, 5, hPm (z09_0 m) (memL g)) := by kernel_rfl
theorem r09_0 : endsAt [0, 1, 2] (Ly.run ctx3 3000 [(4, true), (12, true), (6, true), (0, true)] (sR m g 9)) = some (T [inw m.pc && true, inb m.r4 && inb m.r5, inb m.r0 && inb m.r1, decide (0 ≤ 256 * m.r4 + m.r5) && decide (256 * m.r4 + m.r5 ≤ 65535) && (decide (0 ≤ 256 * m.r0 + m.r1) && decide (256 * m.r0 + m.r1 ≤ 65535))], .int .i64 0, 3, hRm { m with fc := decide (65535 < 256 * m.r4 + m.r5 + (256 * m.r0 + m.r1)), pc := w16 (m.pc + 1), r4 := w8 (((256 * m.r4 + m.r5 + (256 * m.r0 + m.r1)) % 65536).fdiv 256), r5 := w8 (and16 ((256 * m.r4 + m.r5 + (256 * m.r0 + m.r1)) % 65536) 255) } (memL g)) := by kernel_rfl
theorem o09 (hm : m.Ok) (hg : ∀ e, B8 (g e)) (hh : m.halt = false) (h0 : g (ix m.pc) = 9) : Both m g := by
  obtain ⟨r0, r1, r2, r3, r4, r5, r7, sp, pc⟩ := id hm
  exact join (m' := (z09_0 m)) (g' := g) hm hh h0 (p09_0 m g _ _) (r09_0 m g) (by simp [*]; unfold B8 B16 at *; omega) (by simp [*]; unfold B8 B16 at *; omega) (by decide) (by decide) (eP (.inl rfl)) (eR (by simp [*]) (.inl rfl)) (by constructor <;> simp [*]) hg
@[simp] def z0a_0 (m : Mc) (g : Nat → Int) : Mc := { m with pc := w16 (m.pc + 1), r7 := g (ix (or16 (w16 (w16 m.r0 * 256)) (w16 m.r1))) }
theorem p0a_0 : endsAt [0, 1] (Ly.run ctx3 3000 [(34, true), (0, true)] (sP m g 10 b1 b2)) = some (T [(true && lt16 (or16 (w16 (w16 m.r0 * 256)) (w16 m.r1))), bl (ix (or16 (w16 (w16 m.r0 * 256)) (w16 m.r1)))], .int .i64 0, 5, hPm (z0a_0 m g) (memL g)) := by kernel_rfl
theorem r0a_0 : endsAt [0, 1, 2] (Ly.run ctx3 3000 [(4, true), (13, true), (3, true), (0, true)] (sR m g 10)) = some (T [inw m.pc && true, inb m.r0 && inb m.r1, rg (256 * m.r0 + m.r1), bl (ix (256 * m.r0 + m.r1))], .int .i64 0, 3, hRm { m with pc := w16 (m.pc + 1), r7 := g (ix (256 * m.r0 + m.r1)) } (memL g)) := by kernel_rfl
theorem o0a (hm : m.Ok) (hg : ∀ e, B8 (g e)) (hh : m.halt = false) (h0 : g (ix m.pc) = 10) : Both m g := by
  obtain ⟨r0, r1, r2, r3, r4, r5, r7, sp, pc⟩ := id hm
  exact joinA (m' := (z0a_0 m g)) hm hh h0 (p0a_0 m g _ _) (r0a_0 m g) hg
@[simp] def z0b_0 (m : Mc) : Mc := { m with pc := w16 (m.pc + 1), r0 := w8 ((w16 (or16 (w16 (w16 m.r0 * 256)) (w16 m.r1) - 1)).fdiv 256), r1 := w8 (w16 (or16 (w16 (w16 m.r0 * 256)) (w16 m.r1) - 1)) }
theorem p0b_0 : endsAt [0, 1] (Ly.run ctx3 3000 [] (sP m g 11 b1 b2)) = some (T [], .int .i64 0, 5, hPm (z0b_0 m) (memL g)) := by kernel_rfl
theorem r0b_0 : endsAt [0, 1, 2] (Ly.run ctx3 3000 [(4, true), (14, true), (0, true)] (sR m g 11)) = some (T [inw m.pc && true, inb m.r0 && inb m.r1, inw (256 * m.r0 + m.r1) && true], .int .i64 0, 3, hRm { m with pc := w16 (m.pc + 1), r0 := w8 ((w16 (256 * m.r0 + m.r1 + -1)).fdiv 256), r1 := w8 (and16 (w16 (256 * m.r0 + m.r1 + -1)) 255) } (memL g)) := by kernel_rfl
theorem o0b (hm : m.Ok) (hg : ∀ e, B8 (g e)) (hh : m.halt = false) (h0 : g (ix m.pc) = 11) : Both m g := by
  obtain ⟨r0, r1, r2, r3, r4, r5, r7, sp, pc⟩ := id hm
  exact joinA (m' := (z0b_0 m)) hm hh h0 (p0b_0 m g _ _) (r0b_0 m g) hg
@[simp] def z0c_0 (m : Mc) : Mc := { m with fp := par ((m.r1 + 1) % 256), fs := decide (128 ≤ (m.r1 + 1) % 256), fx := decide (15 < m.r1 % 16 + 1), fz := (m.r1 + 1) % 256 == 0, pc := w16 (m.pc + 1), r1 := (m.r1 + 1) % 256 }
theorem p0c_0 : endsAt [0, 1] (Ly.run ctx3 3000 [(21, true)] (sP m g 12 b1 b2)) = some (T [inb m.r1], .int .i64 0, 5, hPm (z0c_0 m) (memL g)) := by kernel_rfl
theorem r0c_0 : endsAt [0, 1, 2] (Ly.run ctx3 3000 [(4, true), (10, true)] (sR m g 12)) = some (T [inw m.pc && true, inb m.r1], .int .i64 0, 4, hRm (z0c_0 m) (memL g)) := by kernel_rfl
theorem o0c (hm : m.Ok) (hg : ∀ e, B8 (g e)) (hh : m.halt = false) (h0 : g (ix m.pc) = 12) : Both m g := by
  obtain ⟨r0, r1, r2, r3, r4, r5, r7, sp, pc⟩ := id hm
  exact joinA (m' := (z0c_0 m)) hm hh h0 (p0c_0 m g _ _) (r0c_0 m g) hg
@[simp] def z0d_0 (m : Mc) : Mc := { m with fp := par ((m.r1 - 1) % 256), fs := decide (128 ≤ (m.r1 - 1) % 256), fx := decide (15 < m.r1 % 16 + 15), fz := (m.r1 - 1) % 256 == 0, pc := w16 (m.pc + 1), r1 := (m.r1 - 1) % 256 }
theorem p0d_0 : endsAt [0, 1] (Ly.run ctx3 3000 [(22, true)] (sP m g 13 b1 b2)) = some (T [inb m.r1], .int .i64 0, 5, hPm (z0d_0 m) (memL g)) := by kernel_rfl
theorem r0d_0 : endsAt [0, 1, 2] (Ly.run ctx3 3000 [(4, true), (11, true)] (sR m g 13)) = some (T [inw m.pc && true, inb m.r1], .int .i64 0, 4, hRm (z0d_0 m) (memL g)) := by kernel_rfl
theorem o0d (hm : m.Ok) (hg : ∀ e, B8 (g e)) (hh : m.halt = false) (h0 : g (ix m.pc) = 13) : Both m g := by
  obtain ⟨r0, r1, r2, r3, r4, r5, r7, sp, pc⟩ := id hm
  exact joinA (m' := (z0d_0 m)) hm hh h0 (p0d_0 m g _ _) (r0d_0 m g) hg
theorem p0e_0 : endsAt [0, 1] (Ly.run ctx3 3000 [] (sP m g 14 b1 b2)) = some (T [], .int .i64 0, 5, hPm { m with pc := w16 (m.pc + 2), r1 := w8 (or16 0 (w16 b1)) } (memL g)) := by kernel_rfl
theorem r0e_0 : endsAt [0, 1, 2] (Ly.run ctx3 3000 [(3, true), (0, true), (0, true), (1, true)] (sR m g 14)) = some (T [inw m.pc && true, rg (w16 (m.pc + 1)), bl (ix (w16 (m.pc + 1))), inw m.pc && true], .int .i64 0, 3, hRm { m with pc := w16 (m.pc + 2), r1 := w8 (w16 (g (ix (w16 (m.pc + 1))))) } (memL g)) := by kernel_rfl
theorem o0e (hm : m.Ok) (hg : ∀ e, B8 (g e)) (hh : m.halt = false) (h0 : g (ix m.pc) = 14) : Both m g := by
  obtain ⟨r0, r1, r2, r3, r4, r5, r7, sp, pc⟩ := id hm
  exact joinA (m' := { m with pc := w16 (m.pc + 2), r1 := w8 (or16 0 (w16 (g (at1 m.pc 1)))) }) hm hh h0 (p0e_0 m g _ _) (r0e_0 m g) hg
@[simp] def z0f_0 (m : Mc) : Mc := { m with fc := m.r7 % 2 == 1, pc := w16 (m.pc + 1), r7 := m.r7 / 2 + m.r7 % 2 * 128 }
theorem p0f_0 : endsAt [0, 1] (Ly.run ctx3 3000 [(27, true)] (sP m g 15 b1 b2)) = some (T [inb m.r7], .int .i64 0, 5, hPm (z0f_0 m) (memL g)) := by kernel_rfl
theorem r0f_0 : endsAt [0, 1, 2] (Ly.run ctx3 3000 [(4, true), (16, true)] (sR m g 15)) = some (T [inw m.pc && true, inb m.r7], .int .i64 0, 3, hRm (z0f_0 m) (memL g)) := by kernel_rfl
theorem o0f (hm : m.Ok) (hg : ∀ e, B8 (g e)) (hh : m.halt = false) (h0 : g (ix m.pc) = 15) : Both m g := by
  obtain ⟨r0, r1, r2, r3, r4, r5, r7, sp, pc⟩ := id hm
  exact joinA (m' := (z0f_0 m)) hm hh h0 (p0f_0 m g _ _) (r0f_0 m g) hg
theorem blk0 (m : Mc) (g : Nat → Int) (hm : m.Ok) (hg : ∀ e, B8 (g e)) (hh : m.halt = false) (h1 : 0 ≤ g (ix m.pc)) (h2 : g (ix m.pc) < 16) : Both m g := by
  have h : g (ix m.pc) = 0 ∨ g (ix m.pc) = 1 ∨ g (ix m.pc) = 2 ∨ g (ix m.pc) = 3 ∨ g (ix m.pc) = 4 ∨ g (ix m.pc) = 5 ∨ g (ix m.pc) = 6 ∨ g (ix m.pc) = 7 ∨ g (ix m.pc) = 8 ∨ g (ix m.pc) = 9 ∨ g (ix m.pc) = 10 ∨ g (ix m.pc) = 11 ∨ g (ix m.pc) = 12 ∨ g (ix m.pc) = 13 ∨ g (ix m.pc) = 14 ∨ g (ix m.pc) = 15 := by omega
  rcases h with h | h | h | h | h | h | h | h | h | h | h | h | h | h | h | h
  · exact o00 m g hm hg hh h
  · exact o01 m g hm hg hh h
  · exact o02 m g hm hg hh h
  · exact o03 m g hm hg hh h
  · exact o04 m g hm hg hh h
  · exact o05 m g hm hg hh h
  · exact o06 m g hm hg hh h
  · exact o07 m g hm hg hh h
  · exact o08 m g hm hg hh h
  · exact o09 m g hm hg hh h
  · exact o0a m g hm hg hh h
  · exact o0b m g hm hg hh h
  · exact o0c m g hm hg hh h
  · exact o0d m g hm hg hh h
  · exact o0e m g hm hg hh h
  · exact o0f m g hm hg hh h
end Go.Proofs.Ytpggoincnebfnaa
end
