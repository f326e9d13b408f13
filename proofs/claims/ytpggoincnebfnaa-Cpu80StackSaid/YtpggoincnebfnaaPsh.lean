/- Part 8 of the texts that the law needs, laid together. By program (pack.py). -/
import Derived.Test.YtpggoincnebfnaaPsc
import Derived.Test.YtpggoincnebfnaaPsd
import Derived.Test.YtpggoincnebfnaaPsg
import Derived.KernelRfl
import Derived.Laws.BitsLemmas
import Derived.OpenShut
set_option linter.unusedVariables false
set_option linter.unusedSimpArgs false
noncomputable section
namespace Go.Proofs.Ytpggoincnebfnaa
open Go Go.Ly Go.RowKit
def memF (a b : Nat → Int) : Nat → Nat → Int
  | 0 => fun _ => 0
  | i + 1 => upd (memF a b i) (ix (a i)) (b i)
theorem memF_mem {a b : Nat → Int} : ∀ (n : Nat), (∀ e, e < n → B8 (b e)) → Mem (memF a b n)
  | 0, _ => fun e => by simp [memF]
  | n + 1, h => upd_mem (memF_mem n (fun e he => h e (by omega))) (h n (by omega))
def zeroL : LO := .fn 1 (fun x q => ((cellsL (Value.int .u8 0))[q]?).getD undef) 65536 5
theorem zero_eq : LOeq zeroL (memL (fun _ => 0)) := by
  refine .inr ⟨1, _, _, _, _, rfl, rfl, fun e x _ hx => ?_⟩
  obtain rfl : x = 0 := by omega
  rfl
def memD : St := Ly.start Try.f25 [] H0
def memK : List KI := ((Ly.run env.bare 16 [] (Ly.start Try.f25 [sls 0 0] (mkH [some (bytes2 (fun _ => 0) (fun _ => 0) 0)]))).st memD).top.k
def memV (n : Nat) (i : Int) : List Value := slots 25 [(0, sls 0 n), (3, sl 1 65536), (4, .int .i64 i)]
theorem gM25 : env.bare.fn.get 25 = some Try.f25 := by kernel_rfl
theorem mem_0 (n : Nat) (a b : Nat → Int) : headAt [0, 3, 4] [0, 1] memD (Ly.run env.bare 16 [] (Ly.start Try.f25 [sls 0 n] (mkH [some (bytes2 a b n)]))) = (true, [], true, (Try.f25, memK, none, 1), memV n 0, [some (bytes2 a b n), some zeroL]) := by kernel_rfl
theorem mem_I (n : Nat) (a b g : Nat → Int) (i : Int) : headAt [0, 3, 4] [0, 1] memD (Ly.run env.bare 35 [(0, true), (0, true), (0, true), (0, true), (0, true), (0, true), (0, true)] (mkSt Try.f25 memK none 1 (memV n i) [some (bytes2 a b n), some (memL g)])) = (true, [(decide (i < n), true), (decide (0 ≤ i) && decide (i < n), true), (Nat.blt (0 + i.toNat) n, true), (decide (0 ≤ i) && decide (i < n), true), (Nat.blt (0 + i.toNat) n, true), (rg (a (0 + i.toNat)), true), (bl (ix (a (0 + i.toNat))), true)], true, (Try.f25, memK, none, 1), memV n (IntKind.i64.wrap (i + 1)), [some (bytes2 a b n), some (M1 g (ix (a (0 + i.toNat))) (b (0 + i.toNat)))]) := by kernel_rfl
theorem mem_T (n : Nat) (a b g : Nat → Int) (i : Int) : (Ly.run env.bare 200 [(0, false)] (mkSt Try.f25 memK none 1 (memV n i) [some (bytes2 a b n), some (memL g)])).end? = some ([(decide (i < n), false)], sl 1 65536, mkH [some (bytes2 a b n), some (memL g)]) := by kernel_rfl
theorem mem_nil : (Ly.run env.bare 300 [] (Ly.start Try.f25 [.slice none 0 0] (mkH []))).end? = some ([], sl 0 65536, mkH [some zeroL]) := by kernel_rfl
theorem mem_P (n : Nat) (a b g : Nat → Int) (i : Nat) (v : Int) : ∀ o ∈ [some (bytes2 a b n), some (M1 g i v)], ∀ x, o = some x → plainO x := by
  intro o ho x hx
  simp only [List.mem_cons, List.not_mem_nil, or_false] at ho
  rcases ho with rfl | rfl <;> (simp only [Option.some.injEq] at hx; subst hx)
  · intro e j; cases j <;> simp [noBlk, blks]
  · intro e j
    simp only [updG]
    cases h : (Nat.ble 0 j && Nat.blt j (0 + [Value.int .u8 v].length)) with
    | false => simp [noBlk, blks]
    | true =>
      simp only [cond_true]; rw [vif_eq]
      cases Nat.beq e i with
      | false => simp [noBlk, blks]
      | true =>
        have : j = 0 := by simp [Nat.blt_eq] at h; omega
        subst this; simp [noBlk, blks]
theorem mem_Pz (n : Nat) (a b : Nat → Int) : ∀ o ∈ [some (bytes2 a b n), some zeroL], ∀ x, o = some x → plainO x := by
  intro o ho x hx
  simp only [List.mem_cons, List.not_mem_nil, or_false] at ho
  rcases ho with rfl | rfl <;> (simp only [Option.some.injEq] at hx; subst hx)
  · intro e j; cases j <;> simp [noBlk, blks]
  · intro e j; cases j <;> simp [noBlk, blks, blksL, cellsL, undef]
theorem mem_loop (n : Nat) (a b : Nat → Int) (hn : n ≤ 9223372036854775806) (ha : ∀ e, e < n → B16 (a e)) : ∀ (d : Nat) (i : Nat), i ≤ n → n - i = d →
    MWp Try.prog (mkSt Try.f25 memK none 1 (memV n i) [some (bytes2 a b n), some (memL (memF a b i))]) (fun v K => v = sl 1 65536 ∧ K.get 1 = some (memL (memF a b n)) ∧ K.lock = 0)
  | 0, i, h1, hd => by
    have hi : i = n := by omega
    subst hi
    refine MWp.done (Env.bare_ok envOk) 200 _ (mem_T i a b _ i) (by simp [trusted]) ⟨rfl, ?_, rfl⟩
    rw [mkH_get _ (by simp [big])]; rfl
  | d + 1, i, h1, hd => by
    have hi : i < n := by omega
    have e0 : 0 + (i : Int).toNat = i := by omega
    have hlt : Nat.blt i n = true := by rw [Nat.blt_eq]; omega
    have hb := ha i hi
    refine MWp.head (Env.bare_ok envOk) _ _ _ _ (mem_I n a b _ i) (by rw [e0]; simp [trusted, hlt, hi, hb]) (mem_P n a b _ _ _) ?_
    have hw : IntKind.i64.wrap ((i : Int) + 1) = ((i + 1 : Nat) : Int) := by rw [IntKind.wrap_i64]; omega
    rw [hw, e0]
    refine MWp.weak (K := mkH [some (bytes2 a b n), some (memL (memF a b (i + 1)))]) (weak_mkH ⟨.inl rfl, mem1 _ _ _, trivial⟩ (by simp [big])) ?_
    exact mem_loop n a b hn ha d (i + 1) (by omega) (by omega)
theorem mem_calls (n : Nat) (a b : Nat → Int) (hn : n ≤ 9223372036854775806) (ha : ∀ e, e < n → B16 (a e)) :
    LCalls Try.prog 25 [sls 0 n] (mkH [some (bytes2 a b n)]) (fun u K => u = sl 1 65536 ∧ K.get 1 = some (memL (memF a b n)) ∧ K.lock = 0) := by
  refine LCalls_of (Env.bare_ok envOk) gM25 (by kernel_rfl) ?_
  refine MWp.head (Env.bare_ok envOk) _ _ _ _ (mem_0 n a b) trivial (mem_Pz n a b) ?_
  refine MWp.weak (K := mkH [some (bytes2 a b n), some (memL (memF a b 0))]) (weak_mkH ⟨.inl rfl, zero_eq, trivial⟩ (by simp [big])) ?_
  exact mem_loop n a b hn ha n 0 (by omega) (by omega)
def atOf (G : Nat → Nat → Value) : Nat → Int := fun e => intV (G e 0)
def byOf (G : Nat → Nat → Value) : Nat → Int := fun e => intV (G e 1)
def okM (n : Nat) (G : Nat → Nat → Value) : Bool := Nat.ble n 1000 && (List.range n).all fun e => isK .u16 (G e 0) && (isK .u8 (G e 1) && inw (intV (G e 0)))
def memMk (n : Nat) (G : Nat → Nat → Value) : Bool × (Nat → Nat → Value) × Nat := (okM n G, fun e _ => .int .u8 (memF (atOf G) (byOf G) n e), 65536)
def memC : Heap → List Value → ER := rowNew 2 memMk 1 5
theorem memC_good (H : Heap) (args : List Value) : HGood Try.prog 25 args H (memC H args) := by
  refine rowNew_good (by decide) (fun n G h => ⟨1, ?_⟩) (fun G h => ⟨0, ?_⟩) H args
  · simp only [memMk, okM, Bool.and_eq_true, List.all_eq_true, List.mem_range] at h
    obtain ⟨h1, h2⟩ := h
    have h1' := Nat.le_of_ble_eq_true h1
    refine LCalls.argEq (g' := fun e j => match j with | 0 => .int .u16 (atOf G e) | _ + 1 => .int .u8 (byOf G e)) (fun e j he hj => ?_) (mem_calls n (atOf G) (byOf G) (by omega) (fun e he => (inw_iff _).1 (h2 e he).2.2))
    obtain ⟨k1, k2, _⟩ := h2 e he
    have : j = 0 ∨ j = 1 := by omega
    rcases this with rfl | rfl
    · exact isK_eq k1
    · exact isK_eq k2
  · refine LCalls_of (Env.bare_ok envOk) gM25 (by kernel_rfl) ?_
    refine MWp.weakQ (MWp.done (Q := fun u K => u = sl 0 65536 ∧ K = mkH [some zeroL]) (Env.bare_ok envOk) 300 _ mem_nil trivial ⟨rfl, rfl⟩) ?_
    rintro v K ⟨rfl, rfl⟩
    refine ⟨mkH [some (memL (fun _ => 0))], ⟨rfl, ?_, rfl⟩, weak_mkH ⟨zero_eq, trivial⟩ (by simp [big])⟩
    rw [mkH_get _ (by simp [big])]; rfl
end Go.Proofs.Ytpggoincnebfnaa
namespace Go.Proofs.Ytpggoincnebfnaa
open Go Go.Ly Go.RowKit
def nilV : Value := .slice none 0 0
def inV (x j n : Nat) : Value := .slice (some ⟨x, j, none⟩) n 18446744073709551616
def rowF (f : Nat → Int) (n : Nat) : LO := .fn 1 (fun e _ => .int .u8 (f e)) n 5
def outF (a b : Nat → Int) (n : Nat) : LO := .fn 2 (fun e j => match j with | 0 => .int .u8 (a e) | _ + 1 => .int .u8 (b e)) n 81
end Go.Proofs.Ytpggoincnebfnaa
namespace Go.Proofs.Ytpggoincnebfnaa
open Go Go.Ly Go.RowKit
end Go.Proofs.Ytpggoincnebfnaa
namespace Go.Proofs.Ytpggoincnebfnaa
open Go Go.Ly Go.RowKit
structure Js where
  m : Mc
  g : Nat → Int
  j : Nat
  N : Nat
  f : Nat → Int
  q : Nat
  fp : Nat → Int
  fb : Nat → Int
structure Js.Ok (s : Js) : Prop where
  m : s.m.Ok
  g : Mem s.g
  f : ∀ e, e < s.N → B8 (s.f e)
  j : s.j ≤ s.N
def cellsPb (b rg : Nat) (m : Mc) (i o : Value) : List Value := [.int .u8 m.r0, .int .u8 m.r1, .int .u8 m.r2, .int .u8 m.r3, .int .u8 m.r4, .int .u8 m.r5, .int .u8 0, .int .u8 m.r7, .bool m.fs, .bool m.fz, .bool m.fx, .bool m.fp, .bool m.fc, .int .u16 m.sp, .int .u16 m.pc, .bool m.ie, .bool m.halt, i, o, sl b 65536]
def cellsRb (b rg : Nat) (m : Mc) (i o : Value) : List Value := [sl rg 8, .bool m.fs, .bool m.fz, .bool m.fx, .bool m.fp, .bool m.fc, .int .u16 m.sp, .int .u16 m.pc, .bool m.ie, .bool m.halt, i, o, sl b 65536]
theorem noP (b rg : Nat) (m : Mc) (i o : Value) : noTokL (cellsPb b rg m i o) = (noTok i && noTok o) := by simp [cellsPb, noTokL, noTok, sl]
def rowP (f : Nat → Int) (N : Nat) : LO := rowF f N
def rowR (f : Nat → Int) (N : Nat) : LO := ints .u8 f N
def InAt (row : (Nat → Int) → Nat → LO) (H : Heap) (iv : Value) (j N : Nat) (f : Nat → Int) (V : List Nat) : Prop := (j = N ∧ V = [] ∧ (iv = nilV ∨ ∃ a c, iv = .slice (some a) 0 c)) ∨ (j < N ∧ ∃ x, V = [x] ∧ iv = inV x j (N - j) ∧ H.get x = some (row f N))
def OutAt (H : Heap) (ov : Value) (q : Nat) (fp fb : Nat → Int) (V : List Nat) : Prop := (q = 0 ∧ V = [] ∧ ov = nilV) ∨ (0 < q ∧ ∃ y, V = [y] ∧ ov = sls y q ∧ H.get y = some (outF fp fb q))
theorem InAt.noTok {row : (Nat → Int) → Nat → LO} {H : Heap} {iv : Value} {j N : Nat} {f : Nat → Int} {V : List Nat} (h : InAt row H iv j N f V) : Go.Ly.noTok iv = true := by
  rcases h with ⟨_, _, rfl | ⟨a, c, rfl⟩⟩ | ⟨_, x, _, rfl, _⟩ <;> rfl
theorem OutAt.noTok {H : Heap} {ov : Value} {q : Nat} {fp fb : Nat → Int} {V : List Nat} (h : OutAt H ov q fp fb V) : Go.Ly.noTok ov = true := by
  rcases h with ⟨_, _, rfl⟩ | ⟨_, x, _, rfl, _⟩ <;> rfl
structure Nx (H H' : Heap) (O : List Nat) : Prop where
  lock : H'.lock = 0
  le : H.next ≤ H'.next
  ge : H'.next ≤ H.next + 64
  clean : Ly.Clean H'
  old : ∀ i, i < H.next → i ∉ O → H'.get i = H.get i
structure Pm (H : Heap) (p b rg : Nat) (s : Js) (iv ov : Value) (VI VO : List Nat) : Prop where
  cells : H.get p = some (.cells (cellsPb b rg s.m iv ov) 60)
  mem : H.get b = some (memL s.g)
  regs : True
  inn : InAt rowP H iv s.j s.N s.f VI
  out : OutAt H ov s.q s.fp s.fb VO
  nd : ([p, b] ++ (VI ++ VO)).Nodup
def PM (H : Heap) (p : Nat) (s : Js) (O V : List Nat) : Prop := ∃ b rg iv ov VI VO, Pm H p b rg s iv ov VI VO ∧ O = [p, b] ++ VO ∧ V = [p, b] ++ (VI ++ VO)
structure Rm (H : Heap) (p b rg : Nat) (s : Js) (iv ov : Value) (VI VO : List Nat) : Prop where
  cells : H.get p = some (.cells (cellsRb b rg s.m iv ov) 56)
  mem : H.get b = some (memL s.g)
  regs : H.get rg = some (regsR s.m)
  inn : InAt rowR H iv s.j s.N s.f VI
  out : OutAt H ov s.q s.fp s.fb VO
  nd : ([p, b, rg] ++ (VI ++ VO)).Nodup
def RM (H : Heap) (p : Nat) (s : Js) (O V : List Nat) : Prop := ∃ b rg iv ov VI VO, Rm H p b rg s iv ov VI VO ∧ O = [p, b, rg] ++ VO ∧ V = [p, b, rg] ++ (VI ++ VO)
end Go.Proofs.Ytpggoincnebfnaa
namespace Go.Proofs.Ytpggoincnebfnaa
open Go Go.Ly Go.RowKit
end Go.Proofs.Ytpggoincnebfnaa
namespace Go.Proofs.Ytpggoincnebfnaa
open Go Go.Ly Go.RowKit
def holdsF (c : Int) (s z p y : Bool) : Bool := bif c == 0 then !z else bif c == 1 then z else bif c == 2 then !y else bif c == 3 then y else bif c == 4 then !p else bif c == 5 then p else bif c == 6 then !s else bif c == 7 then s else false
def holdC (l : List Value) : Option (Bool × Value) := match l with
  | [.int .i64 c, .agg ⟨[.bool s, .bool z, .bool x, .bool p, .bool y]⟩] => some (true, .bool (holdsF c s z p y))
  | _ => none
theorem gH11 : ctxL.fn.get 11 = some Try.f11 := by kernel_rfl
def aliveC (l : List Value) : Option (Bool × Value) := match l with
  | [] => some (true, .bool true)
  | _ => none
theorem aliveR : (Ly.run ctxL 9000 [] (Ly.start Try.f11 [] H0)).out? = some ([], .bool true) := by kernel_rfl
theorem alive_ans : Answers Try.prog 11 aliveC := by
  intro args g v h hg
  unfold aliveC at h
  split at h
  · simp only [Option.some.injEq, Prod.mk.injEq] at h
    obtain ⟨rfl, rfl⟩ := h
    exact ⟨rfl, rfl, fun w => calls_trust ctxL_ok 9000 [] gH11 (by kernel_rfl) rfl rfl aliveR trivial w⟩
  · cases h
end Go.Proofs.Ytpggoincnebfnaa
namespace Go.Proofs.Ytpggoincnebfnaa
open Go Go.Ly Go.RowKit
end Go.Proofs.Ytpggoincnebfnaa
namespace Go.Proofs.Ytpggoincnebfnaa
open Go Go.Ly Go.RowKit
end Go.Proofs.Ytpggoincnebfnaa
namespace Go.Proofs.Ytpggoincnebfnaa
open Go Go.Ly Go.RowKit
end Go.Proofs.Ytpggoincnebfnaa
namespace Go.Proofs.Ytpggoincnebfnaa
open Go Go.Ly Go.RowKit
end Go.Proofs.Ytpggoincnebfnaa
namespace Go.Proofs.Ytpggoincnebfnaa
open Go Go.Ly Go.RowKit
structure WeakAt (H K : Heap) (p : Nat) : Prop where
  weak : WeakH H K
  lock : K.lock = H.lock
  next : K.next = H.next
  clean : Ly.Clean K
  old : ∀ i, i ≠ p → K.get i = H.get i
def cdec (p : Prop) : Bool := @decide p (Classical.propDecidable p)
theorem cdec_true {p : Prop} (h : p) : cdec p = true := @decide_eq_true p (Classical.propDecidable p) h
theorem cdec_of {p : Prop} (h : cdec p = true) : p := @of_decide_eq_true p (Classical.propDecidable p) h
end Go.Proofs.Ytpggoincnebfnaa
namespace Go.Proofs.Ytpggoincnebfnaa
open Go Go.Ly Go.RowKit
end Go.Proofs.Ytpggoincnebfnaa
namespace Go.Proofs.Ytpggoincnebfnaa
open Go Go.Ly Go.RowKit
end Go.Proofs.Ytpggoincnebfnaa
namespace Go.Proofs.Ytpggoincnebfnaa
open Go Go.Ly Go.RowKit
structure Sv where
  r0 : Int
  r1 : Int
  r2 : Int
  r3 : Int
  r4 : Int
  r5 : Int
  r6 : Int
  r7 : Int
  fs : Bool
  fz : Bool
  fx : Bool
  fp : Bool
  fc : Bool
  sp : Int
  pc : Int
  ie : Bool
def svV (s : Sv) (i m : Value) : Value := .agg ⟨[.int .u8 s.r0, .int .u8 s.r1, .int .u8 s.r2, .int .u8 s.r3, .int .u8 s.r4, .int .u8 s.r5, .int .u8 s.r6, .int .u8 s.r7, .bool s.fs, .bool s.fz, .bool s.fx, .bool s.fp, .bool s.fc, .int .u16 s.sp, .int .u16 s.pc, .bool s.ie, i, m]⟩
def nilS : Value := .slice none 0 0
end Go.Proofs.Ytpggoincnebfnaa
namespace Go.Proofs.Ytpggoincnebfnaa
open Go Go.Ly Go.RowKit
def Sv.Ok (s : Sv) : Prop := (B8 s.r0 ∧ B8 s.r1 ∧ B8 s.r2 ∧ B8 s.r3 ∧ B8 s.r4 ∧ B8 s.r5 ∧ B8 s.r6 ∧ B8 s.r7) ∧ B16 s.sp ∧ B16 s.pc
theorem ck_bytes2 {w : World} {v : Value} (h : CkOk w (.slice [.int .u16, .int .u8]) v) : v = .slice none 0 0 ∨ ∃ (n : Nat) (a b : Nat → Int) (p : Option Plc),
    RealRows w 2 (fun e j => match j with | 0 => .int .u16 (a e) | _ + 1 => .int .u8 (b e)) n v p ∧ (∀ e, e < n → B16 (a e) ∧ B8 (b e)) ∧ n ≤ maxLen := by
  rcases ck_rows rfl (by decide) h with rfl | ⟨n, F, p, hr, hF, hn⟩
  · exact .inl rfl
  · right
    have key : ∀ e, e < n → ∃ x y, F e = [.int .u16 x, .int .u8 y] ∧ (Lit.int .u16 x).wf = true ∧ (Lit.int .u8 y).wf = true := by
      intro e he
      have := hF e he
      simp only [CksOk, CkOk] at this
      obtain ⟨v1, r1, e1, ⟨x, rfl, hx⟩, v2, r2, rfl, ⟨y, rfl, hy⟩, rfl⟩ := this
      exact ⟨x, y, e1, hx, hy⟩
    refine ⟨n, fun e => intV ((F e)[0]?.getD undef), fun e => intV ((F e)[1]?.getD undef), p, hr.congr (fun e j he hj => ?_), fun e he => ?_, hn⟩
    · obtain ⟨x, y, e1, _, _⟩ := key e he
      have : j = 0 ∨ j = 1 := by simp at hj; omega
      rcases this with rfl | rfl <;> simp [e1, intV]
    · obtain ⟨x, y, e1, hx, hy⟩ := key e he
      simp only [e1, List.getElem?_cons_zero, List.getElem?_cons_succ, Option.getD_some, intV]
      exact ⟨bounds_u16 hx, bounds_u8 hy⟩
theorem ck_in {w : World} {v : Value} (h : CkOk w (.slice [.int .u8]) v) : v = .slice none 0 0 ∨ ∃ (n : Nat) (f : Nat → Int) (p : Option Plc),
    RealRows w 1 (fun e _ => .int .u8 (f e)) n v p ∧ (∀ e, e < n → B8 (f e)) ∧ n ≤ maxLen := by
  rcases ck_rows rfl (by decide) h with rfl | ⟨n, F, p, hr, hF, hn⟩
  · exact .inl rfl
  · right
    have key : ∀ e, e < n → ∃ y, F e = [.int .u8 y] ∧ (Lit.int .u8 y).wf = true := by
      intro e he
      have := hF e he
      simp only [CksOk, CkOk] at this
      obtain ⟨v2, r2, e1, ⟨y, rfl, hy⟩, rfl⟩ := this
      exact ⟨y, e1, hy⟩
    refine ⟨n, fun e => intV ((F e)[0]?.getD undef), p, hr.congr (fun e j he hj => ?_), fun e he => ?_, hn⟩
    · obtain ⟨y, e1, _⟩ := key e he
      have : j = 0 := by simp at hj; omega
      subst this
      simp [e1, intV]
    · obtain ⟨y, e1, hy⟩ := key e he
      simp only [e1, List.getElem?_cons_zero, Option.getD_some, intV]
      exact bounds_u8 hy
def InRow (w : World) (i : Nat) (f : Nat → Int) (n : Nat) (loc v : Value) (p : Option Plc) : Prop := (loc = .slice none 0 0 ∧ v = .slice none 0 0 ∧ n = 0 ∧ p = none) ∨ (loc = sl i n ∧ RealRows w 1 (fun e _ => .int .u8 (f e)) n v p)
theorem sv_open {W : World} {v : Value} (h : ∃ cs, v = .agg ⟨cs⟩ ∧ CksOk W [.int .u8, .int .u8, .int .u8, .int .u8, .int .u8, .int .u8, .int .u8, .int .u8, .bool, .bool, .bool, .bool, .bool, .int .u16, .int .u16, .bool, .slice [.int .u8], .slice [.int .u16, .int .u8]] cs) :
    ∃ (s : Sv) (iv mv : Value), s.Ok ∧ v = svV s iv mv ∧ CkOk W (.slice [.int .u8]) iv ∧ CkOk W (.slice [.int .u16, .int .u8]) mv := by
  obtain ⟨cs, rfl, h⟩ := h
  simp only [CksOk] at h
  obtain ⟨v0, _, rfl, c0, v1, _, rfl, c1, v2, _, rfl, c2, v3, _, rfl, c3, v4, _, rfl, c4, v5, _, rfl, c5, v6, _, rfl, c6, v7, _, rfl, c7, v8, _, rfl, c8, v9, _, rfl, c9, v10, _, rfl, c10, v11, _, rfl, c11, v12, _, rfl, c12, v13, _, rfl, c13, v14, _, rfl, c14, v15, _, rfl, c15, v16, _, rfl, c16, v17, _, rfl, c17, rfl⟩ := h
  simp only [CkOk] at c0 c1 c2 c3 c4 c5 c6 c7 c8 c9 c10 c11 c12 c13 c14 c15
  obtain ⟨n0, rfl, w0⟩ := c0
  obtain ⟨n1, rfl, w1⟩ := c1
  obtain ⟨n2, rfl, w2⟩ := c2
  obtain ⟨n3, rfl, w3⟩ := c3
  obtain ⟨n4, rfl, w4⟩ := c4
  obtain ⟨n5, rfl, w5⟩ := c5
  obtain ⟨n6, rfl, w6⟩ := c6
  obtain ⟨n7, rfl, w7⟩ := c7
  obtain ⟨b8, rfl⟩ := c8
  obtain ⟨b9, rfl⟩ := c9
  obtain ⟨b10, rfl⟩ := c10
  obtain ⟨b11, rfl⟩ := c11
  obtain ⟨b12, rfl⟩ := c12
  obtain ⟨n13, rfl, w13⟩ := c13
  obtain ⟨n14, rfl, w14⟩ := c14
  obtain ⟨b15, rfl⟩ := c15
  exact ⟨⟨n0, n1, n2, n3, n4, n5, n6, n7, b8, b9, b10, b11, b12, n13, n14, b15⟩, v16, v17,
    ⟨⟨bounds_u8 w0, bounds_u8 w1, bounds_u8 w2, bounds_u8 w3, bounds_u8 w4, bounds_u8 w5, bounds_u8 w6, bounds_u8 w7⟩, bounds_u16 w13, bounds_u16 w14⟩, rfl, c16, c17⟩
theorem in_cases {w : World} {v : Value} (h : CkOk w (.slice [.int .u8]) v) : ∃ (f : Nat → Int) (n : Nat) (loc : Value) (p : Option Plc), InRow w 0 f n loc v p ∧ (∀ e, e < n → B8 (f e)) ∧ n ≤ maxLen := by
  rcases ck_in h with rfl | ⟨n, f, p, hr, hf, hn⟩
  · exact ⟨fun _ => 0, 0, .slice none 0 0, none, .inl ⟨rfl, rfl, rfl, rfl⟩, fun e he => by omega, by simp [maxLen]⟩
  · exact ⟨f, n, sl 0 n, p, .inr ⟨rfl, hr⟩, hf, hn⟩
end Go.Proofs.Ytpggoincnebfnaa
namespace Go.Proofs.Ytpggoincnebfnaa
open Go Go.Ly Go.RowKit
def ctxO : Ctx := ctx5.withH 25 memC |>.with 11 aliveC
theorem ctxO_ok : ctxO.Ok Try.prog := (ctx5_ok.withH memC_good).with alive_ans
def ctxH : Ctx := haltAt (haltAt (haltAt (haltAt (haltAt ctxO 13) 14) 15) 16) 17
theorem ctxH_ok : ctxH.Ok Try.prog := haltAt_ok (haltAt_ok (haltAt_ok (haltAt_ok (haltAt_ok ctxO_ok 13) 14) 15) 16) 17
end Go.Proofs.Ytpggoincnebfnaa
namespace Go.Ly
open Go.RowKit
def cleanB (H : Heap) : Nat → Bool
  | 0 => true
  | n + 1 => (match H.get n with | some o => noTokO o | none => true) && cleanB H n
theorem cleanB_spec {H : Heap} : ∀ (n : Nat), cleanB H n = true → ∀ i, i < n → ∀ o, H.get i = some o → noTokO o = true
  | 0, _, i, hi, _, _ => by omega
  | n + 1, h, i, hi, o, ho => by
    simp only [cleanB, Bool.and_eq_true] at h
    rcases Nat.lt_or_ge i n with h1 | h1
    · exact cleanB_spec n h.2 i h1 o ho
    · have : i = n := by omega
      subst this
      have h2 := h.1
      rw [ho] at h2; exact h2
def haltG (keep bs : List Nat) (nx : Nat) (d : St) (r : RO) : Bool × List (Bool × Bool) × Bool × (Func × List KI × Option Tmp × Nat) × List Value × (Bool × Bool × Bool) × List (Option LO) := (r.isHalt, r.trust, (r.st d).rest.isEmpty && Nat.blt (r.st d).top.fn.ntmps 1000000, ((r.st d).top.fn, (r.st d).top.k, (r.st d).top.dst, (r.st d).base), keepV keep (r.st d).top.fn.ntmps (r.st d).top.t, (Nat.beq (r.st d).H.next nx, Nat.beq (r.st d).H.lock 0, cleanB (r.st d).H nx), bs.map (r.st d).H.get)
section
variable {P : Program} {C : Ctx} {Q : Value → Heap → Prop}
theorem MWp.haltG (hC : C.Ok P) {S d : St} {t : List (Bool × Bool)} {fn : Func} {k : List KI} {dst : Option Tmp} {base nx : Nat} {vals : List Value} {os : List (Option LO)} (keep bs : List Nat) (n : Nat) (p : Path)
    (h : Go.Ly.haltG keep bs nx d (run C n p S) = (true, t, true, (fn, k, dst, base), vals, (true, true, true), os)) (ht : trusted t)
    (hs : ∀ H, H.next = nx → H.lock = 0 → Clean H → bs.map H.get = os → MWp P (atSt fn k dst base vals H) Q) : MWp P S Q := by
  simp only [Go.Ly.haltG, Prod.mk.injEq] at h
  obtain ⟨h1, h2, h3, ⟨h4, h5, h6, h7⟩, h8, ⟨h9, h10, h11⟩, h12⟩ := h
  have hn := Nat.eq_of_beq_eq_true h9
  refine MWp.halted (H := ((run C n p S).st d).H) (fn := fn) (k := k) (dst := dst) (base := base) (vals := vals) hC keep n p (d := d) ?_ ht ?_
  · simp only [haltF, Prod.mk.injEq]
    exact ⟨h1, h2, h3, ⟨h4, h5, h6, h7⟩, h8, trivial⟩
  · refine MWp.ltn fun hlt hsm => ?_
    exact hs _ hn (Nat.eq_of_beq_eq_true h10) (fun i o ho => cleanB_spec nx h11 i (by rw [← hn]; exact hlt i o ho) o ho) h12
def haltH (keep bs : List Nat) (nx : Nat) (d : St) (r : RO) : Bool × List (Bool × Bool) × Bool × (Func × List KI × Option Tmp × Nat) × List Value × (Bool × Bool × Bool) × List (Option LO) := forceTr forceO (r.st d).top.t fun t => forceTr forceLO (r.st d).H.m fun hm => (r.isHalt, r.trust, (r.st d).rest.isEmpty && Nat.blt (r.st d).top.fn.ntmps 1000000, ((r.st d).top.fn, (r.st d).top.k, (r.st d).top.dst, (r.st d).base), keepV keep (r.st d).top.fn.ntmps t, (Nat.beq (r.st d).H.next nx, Nat.beq (r.st d).H.lock 0, cleanB { m := hm, next := (r.st d).H.next, lock := (r.st d).H.lock } nx), bs.map (Heap.get { m := hm, next := (r.st d).H.next, lock := (r.st d).H.lock }))
theorem haltH_eq (keep bs : List Nat) (nx : Nat) (d : St) (r : RO) : haltH keep bs nx d r = Go.Ly.haltG keep bs nx d r := by
  unfold haltH Go.Ly.haltG
  rw [forceTr_eq forceO_eq, forceTr_eq forceLO_eq]
theorem MWp.haltH (hC : C.Ok P) {S d : St} {t : List (Bool × Bool)} {fn : Func} {k : List KI} {dst : Option Tmp} {base nx : Nat} {vals : List Value} {os : List (Option LO)} (keep bs : List Nat) (n : Nat) (p : Path)
    (h : Go.Ly.haltH keep bs nx d (run C n p S) = (true, t, true, (fn, k, dst, base), vals, (true, true, true), os)) (ht : trusted t)
    (hs : ∀ H, H.next = nx → H.lock = 0 → Clean H → bs.map H.get = os → MWp P (atSt fn k dst base vals H) Q) : MWp P S Q :=
  MWp.haltG hC keep bs n p (by rw [← haltH_eq]; exact h) ht hs
end
end Go.Ly
namespace Go.Proofs.Ytpggoincnebfnaa
open Go Go.Ly Go.RowKit
def AllAt (H : Heap) (τ : Nat → Nat) : List (Option LO) → List Nat → Prop
  | [], [] => True
  | some o :: r, b :: s => H.get b = some (renO τ o) ∧ AllAt H τ r s
  | none :: r, _ :: s => AllAt H τ r s
  | _, _ => False
theorem AllAt.at_ {H : Heap} {τ : Nat → Nat} : ∀ {os : List (Option LO)} {L : List Nat}, AllAt H τ os L → L.length = os.length ∧ ∀ i o, os[i]? = some (some o) → H.get (sg L i) = some (renO τ o)
  | [], [], _ => ⟨rfl, fun i o h => by simp at h⟩
  | some o :: r, b :: s, h => by
    obtain ⟨h1, h2⟩ := h
    obtain ⟨k1, k2⟩ := AllAt.at_ h2
    refine ⟨by simp [k1], fun i x hi => ?_⟩
    cases i with
    | zero => simp at hi; subst hi; exact h1
    | succ i => exact k2 i x (by simpa using hi)
  | none :: r, b :: s, h => by
    obtain ⟨k1, k2⟩ := AllAt.at_ (os := r) (L := s) h
    refine ⟨by simp [k1], fun i x hi => ?_⟩
    cases i with
    | zero => simp at hi
    | succ i => exact k2 i x (by simpa using hi)
  | [], _ :: _, h => h.elim
  | some _ :: _, [], h => h.elim
  | none :: _, [], h => h.elim
theorem AllAt.nil {H : Heap} {τ : Nat → Nat} : AllAt H τ [] [] := trivial
structure Left (H K : Heap) : Prop where
  lock : K.lock = 0
  clean : Ly.Clean K
  le : H.next ≤ K.next
  ge : K.next ≤ H.next + 16
  old : ∀ i, i < H.next → K.get i = H.get i
def Apart (V V2 : List Nat) : Prop := ∀ i ∈ V, i ∉ V2
end Go.Proofs.Ytpggoincnebfnaa
namespace Go.Proofs.Ytpggoincnebfnaa
open Go Go.Ly Go.RowKit
variable (m : Mc) (g : Nat → Int) (b1 b2 : Int)
@[simp] def z03_0 (m : Mc) : Mc := { m with pc := w16 (m.pc + 1), r0 := w8 ((w16 (or16 (w16 (w16 m.r0 * 256)) (w16 m.r1) + 1)).fdiv 256), r1 := w8 (w16 (or16 (w16 (w16 m.r0 * 256)) (w16 m.r1) + 1)) }
@[simp] def z04_0 (m : Mc) : Mc := { m with fp := par ((m.r0 + 1) % 256), fs := decide (128 ≤ (m.r0 + 1) % 256), fx := decide (15 < m.r0 % 16 + 1), fz := (m.r0 + 1) % 256 == 0, pc := w16 (m.pc + 1), r0 := (m.r0 + 1) % 256 }
@[simp] def z05_0 (m : Mc) : Mc := { m with fp := par ((m.r0 - 1) % 256), fs := decide (128 ≤ (m.r0 - 1) % 256), fx := decide (15 < m.r0 % 16 + 15), fz := (m.r0 - 1) % 256 == 0, pc := w16 (m.pc + 1), r0 := (m.r0 - 1) % 256 }
theorem p06_0 : endsAt [0, 1] (Ly.run ctx3 3000 [] (sP m g 6 b1 b2)) = some (T [], .int .i64 0, 5, hPm { m with pc := w16 (m.pc + 2), r0 := w8 (or16 0 (w16 b1)) } (memL g)) := by kernel_rfl
@[simp] def z07_0 (m : Mc) : Mc := { m with fc := decide (128 ≤ m.r7), pc := w16 (m.pc + 1), r7 := (2 * m.r7 + m.r7 / 128) % 256 }
@[simp] def z09_0 (m : Mc) : Mc := { m with fc := decide (65535 < or16 (w16 (w16 m.r4 * 256)) (w16 m.r5) + or16 (w16 (w16 m.r0 * 256)) (w16 m.r1)), pc := w16 (m.pc + 1), r4 := w8 (((or16 (w16 (w16 m.r4 * 256)) (w16 m.r5) + or16 (w16 (w16 m.r0 * 256)) (w16 m.r1)) % 65536).fdiv 256), r5 := w8 ((or16 (w16 (w16 m.r4 * 256)) (w16 m.r5) + or16 (w16 (w16 m.r0 * 256)) (w16 m.r1)) % 65536) }
@[simp] def z0a_0 (m : Mc) (g : Nat → Int) : Mc := { m with pc := w16 (m.pc + 1), r7 := g (ix (or16 (w16 (w16 m.r0 * 256)) (w16 m.r1))) }
@[simp] def z0b_0 (m : Mc) : Mc := { m with pc := w16 (m.pc + 1), r0 := w8 ((w16 (or16 (w16 (w16 m.r0 * 256)) (w16 m.r1) - 1)).fdiv 256), r1 := w8 (w16 (or16 (w16 (w16 m.r0 * 256)) (w16 m.r1) - 1)) }
@[simp] def z0c_0 (m : Mc) : Mc := { m with fp := par ((m.r1 + 1) % 256), fs := decide (128 ≤ (m.r1 + 1) % 256), fx := decide (15 < m.r1 % 16 + 1), fz := (m.r1 + 1) % 256 == 0, pc := w16 (m.pc + 1), r1 := (m.r1 + 1) % 256 }
@[simp] def z0d_0 (m : Mc) : Mc := { m with fp := par ((m.r1 - 1) % 256), fs := decide (128 ≤ (m.r1 - 1) % 256), fx := decide (15 < m.r1 % 16 + 15), fz := (m.r1 - 1) % 256 == 0, pc := w16 (m.pc + 1), r1 := (m.r1 - 1) % 256 }
@[simp] def z0f_0 (m : Mc) : Mc := { m with fc := m.r7 % 2 == 1, pc := w16 (m.pc + 1), r7 := m.r7 / 2 + m.r7 % 2 * 128 }
end Go.Proofs.Ytpggoincnebfnaa
namespace Go.Proofs.Ytpggoincnebfnaa
open Go Go.Ly Go.RowKit
variable (m : Mc) (g : Nat → Int) (b1 b2 : Int)
@[simp] def z13_0 (m : Mc) : Mc := { m with pc := w16 (m.pc + 1), r2 := w8 ((w16 (or16 (w16 (w16 m.r2 * 256)) (w16 m.r3) + 1)).fdiv 256), r3 := w8 (w16 (or16 (w16 (w16 m.r2 * 256)) (w16 m.r3) + 1)) }
@[simp] def z14_0 (m : Mc) : Mc := { m with fp := par ((m.r2 + 1) % 256), fs := decide (128 ≤ (m.r2 + 1) % 256), fx := decide (15 < m.r2 % 16 + 1), fz := (m.r2 + 1) % 256 == 0, pc := w16 (m.pc + 1), r2 := (m.r2 + 1) % 256 }
@[simp] def z15_0 (m : Mc) : Mc := { m with fp := par ((m.r2 - 1) % 256), fs := decide (128 ≤ (m.r2 - 1) % 256), fx := decide (15 < m.r2 % 16 + 15), fz := (m.r2 - 1) % 256 == 0, pc := w16 (m.pc + 1), r2 := (m.r2 - 1) % 256 }
@[simp] def z17_0 (m : Mc) : Mc := { m with fc := decide (128 ≤ m.r7), pc := w16 (m.pc + 1), r7 := (2 * m.r7 + cI m.fc) % 256 }
@[simp] def z19_0 (m : Mc) : Mc := { m with fc := decide (65535 < or16 (w16 (w16 m.r4 * 256)) (w16 m.r5) + or16 (w16 (w16 m.r2 * 256)) (w16 m.r3)), pc := w16 (m.pc + 1), r4 := w8 (((or16 (w16 (w16 m.r4 * 256)) (w16 m.r5) + or16 (w16 (w16 m.r2 * 256)) (w16 m.r3)) % 65536).fdiv 256), r5 := w8 ((or16 (w16 (w16 m.r4 * 256)) (w16 m.r5) + or16 (w16 (w16 m.r2 * 256)) (w16 m.r3)) % 65536) }
@[simp] def z1a_0 (m : Mc) (g : Nat → Int) : Mc := { m with pc := w16 (m.pc + 1), r7 := g (ix (or16 (w16 (w16 m.r2 * 256)) (w16 m.r3))) }
@[simp] def z1b_0 (m : Mc) : Mc := { m with pc := w16 (m.pc + 1), r2 := w8 ((w16 (or16 (w16 (w16 m.r2 * 256)) (w16 m.r3) - 1)).fdiv 256), r3 := w8 (w16 (or16 (w16 (w16 m.r2 * 256)) (w16 m.r3) - 1)) }
@[simp] def z1c_0 (m : Mc) : Mc := { m with fp := par ((m.r3 + 1) % 256), fs := decide (128 ≤ (m.r3 + 1) % 256), fx := decide (15 < m.r3 % 16 + 1), fz := (m.r3 + 1) % 256 == 0, pc := w16 (m.pc + 1), r3 := (m.r3 + 1) % 256 }
@[simp] def z1d_0 (m : Mc) : Mc := { m with fp := par ((m.r3 - 1) % 256), fs := decide (128 ≤ (m.r3 - 1) % 256), fx := decide (15 < m.r3 % 16 + 15), fz := (m.r3 - 1) % 256 == 0, pc := w16 (m.pc + 1), r3 := (m.r3 - 1) % 256 }
@[simp] def z1f_0 (m : Mc) : Mc := { m with fc := m.r7 % 2 == 1, pc := w16 (m.pc + 1), r7 := m.r7 / 2 + 128 * cI m.fc }
end Go.Proofs.Ytpggoincnebfnaa
namespace Go.Proofs.Ytpggoincnebfnaa
open Go Go.Ly Go.RowKit
variable (m : Mc) (g : Nat → Int) (b1 b2 : Int)
@[simp] def z23_0 (m : Mc) : Mc := { m with pc := w16 (m.pc + 1), r4 := w8 ((w16 (or16 (w16 (w16 m.r4 * 256)) (w16 m.r5) + 1)).fdiv 256), r5 := w8 (w16 (or16 (w16 (w16 m.r4 * 256)) (w16 m.r5) + 1)) }
@[simp] def z24_0 (m : Mc) : Mc := { m with fp := par ((m.r4 + 1) % 256), fs := decide (128 ≤ (m.r4 + 1) % 256), fx := decide (15 < m.r4 % 16 + 1), fz := (m.r4 + 1) % 256 == 0, pc := w16 (m.pc + 1), r4 := (m.r4 + 1) % 256 }
@[simp] def z25_0 (m : Mc) : Mc := { m with fp := par ((m.r4 - 1) % 256), fs := decide (128 ≤ (m.r4 - 1) % 256), fx := decide (15 < m.r4 % 16 + 15), fz := (m.r4 - 1) % 256 == 0, pc := w16 (m.pc + 1), r4 := (m.r4 - 1) % 256 }
@[simp] def z27_0 (m : Mc) : Mc := { m with fc := daaH m.r7 m.fx m.fc, fp := par ((m.r7 + 6 * cI (daaL m.r7 m.fx) + 96 * cI (daaH m.r7 m.fx m.fc)) % 256), fs := decide (128 ≤ (m.r7 + 6 * cI (daaL m.r7 m.fx) + 96 * cI (daaH m.r7 m.fx m.fc)) % 256), fx := decide (9 < m.r7 % 16), fz := (m.r7 + 6 * cI (daaL m.r7 m.fx) + 96 * cI (daaH m.r7 m.fx m.fc)) % 256 == 0, pc := w16 (m.pc + 1), r7 := (m.r7 + 6 * cI (daaL m.r7 m.fx) + 96 * cI (daaH m.r7 m.fx m.fc)) % 256 }
@[simp] def z29_0 (m : Mc) : Mc := { m with fc := decide (65535 < or16 (w16 (w16 m.r4 * 256)) (w16 m.r5) + or16 (w16 (w16 m.r4 * 256)) (w16 m.r5)), pc := w16 (m.pc + 1), r4 := w8 (((or16 (w16 (w16 m.r4 * 256)) (w16 m.r5) + or16 (w16 (w16 m.r4 * 256)) (w16 m.r5)) % 65536).fdiv 256), r5 := w8 ((or16 (w16 (w16 m.r4 * 256)) (w16 m.r5) + or16 (w16 (w16 m.r4 * 256)) (w16 m.r5)) % 65536) }
@[simp] def z2b_0 (m : Mc) : Mc := { m with pc := w16 (m.pc + 1), r4 := w8 ((w16 (or16 (w16 (w16 m.r4 * 256)) (w16 m.r5) - 1)).fdiv 256), r5 := w8 (w16 (or16 (w16 (w16 m.r4 * 256)) (w16 m.r5) - 1)) }
@[simp] def z2c_0 (m : Mc) : Mc := { m with fp := par ((m.r5 + 1) % 256), fs := decide (128 ≤ (m.r5 + 1) % 256), fx := decide (15 < m.r5 % 16 + 1), fz := (m.r5 + 1) % 256 == 0, pc := w16 (m.pc + 1), r5 := (m.r5 + 1) % 256 }
@[simp] def z2d_0 (m : Mc) : Mc := { m with fp := par ((m.r5 - 1) % 256), fs := decide (128 ≤ (m.r5 - 1) % 256), fx := decide (15 < m.r5 % 16 + 15), fz := (m.r5 - 1) % 256 == 0, pc := w16 (m.pc + 1), r5 := (m.r5 - 1) % 256 }
@[simp] def z2f_0 (m : Mc) : Mc := { m with pc := w16 (m.pc + 1), r7 := xor8 255 m.r7 }
end Go.Proofs.Ytpggoincnebfnaa
namespace Go.Proofs.Ytpggoincnebfnaa
open Go Go.Ly Go.RowKit
variable (m : Mc) (g : Nat → Int) (b1 b2 : Int)
@[simp] def z33_0 (m : Mc) : Mc := { m with pc := w16 (m.pc + 1), sp := w16 (m.sp + 1) }
@[simp] def z34_0 (m : Mc) (g : Nat → Int) : Mc := { m with fp := par ((g (ix (or16 (w16 (w16 m.r4 * 256)) (w16 m.r5))) + 1) % 256), fs := decide (128 ≤ (g (ix (or16 (w16 (w16 m.r4 * 256)) (w16 m.r5))) + 1) % 256), fx := decide (15 < g (ix (or16 (w16 (w16 m.r4 * 256)) (w16 m.r5))) % 16 + 1), fz := (g (ix (or16 (w16 (w16 m.r4 * 256)) (w16 m.r5))) + 1) % 256 == 0, pc := w16 (m.pc + 1) }
@[simp] def z35_0 (m : Mc) (g : Nat → Int) : Mc := { m with fp := par ((g (ix (or16 (w16 (w16 m.r4 * 256)) (w16 m.r5))) - 1) % 256), fs := decide (128 ≤ (g (ix (or16 (w16 (w16 m.r4 * 256)) (w16 m.r5))) - 1) % 256), fx := decide (15 < g (ix (or16 (w16 (w16 m.r4 * 256)) (w16 m.r5))) % 16 + 15), fz := (g (ix (or16 (w16 (w16 m.r4 * 256)) (w16 m.r5))) - 1) % 256 == 0, pc := w16 (m.pc + 1) }
@[simp] def z37_0 (m : Mc) : Mc := { m with fc := true, pc := w16 (m.pc + 1) }
@[simp] def z39_0 (m : Mc) : Mc := { m with fc := decide (65535 < or16 (w16 (w16 m.r4 * 256)) (w16 m.r5) + m.sp), pc := w16 (m.pc + 1), r4 := w8 (((or16 (w16 (w16 m.r4 * 256)) (w16 m.r5) + m.sp) % 65536).fdiv 256), r5 := w8 ((or16 (w16 (w16 m.r4 * 256)) (w16 m.r5) + m.sp) % 65536) }
@[simp] def z3b_0 (m : Mc) : Mc := { m with pc := w16 (m.pc + 1), sp := w16 (m.sp - 1) }
@[simp] def z3c_0 (m : Mc) : Mc := { m with fp := par ((m.r7 + 1) % 256), fs := decide (128 ≤ (m.r7 + 1) % 256), fx := decide (15 < m.r7 % 16 + 1), fz := (m.r7 + 1) % 256 == 0, pc := w16 (m.pc + 1), r7 := (m.r7 + 1) % 256 }
@[simp] def z3d_0 (m : Mc) : Mc := { m with fp := par ((m.r7 - 1) % 256), fs := decide (128 ≤ (m.r7 - 1) % 256), fx := decide (15 < m.r7 % 16 + 15), fz := (m.r7 - 1) % 256 == 0, pc := w16 (m.pc + 1), r7 := (m.r7 - 1) % 256 }
@[simp] def z3f_0 (m : Mc) : Mc := { m with fc := !m.fc, pc := w16 (m.pc + 1) }
end Go.Proofs.Ytpggoincnebfnaa
namespace Go.Proofs.Ytpggoincnebfnaa
open Go Go.Ly Go.RowKit
variable (m : Mc) (g : Nat → Int) (b1 b2 : Int)
@[simp] def z41_0 (m : Mc) : Mc := { m with pc := w16 (m.pc + 1), r0 := m.r1 }
@[simp] def z42_0 (m : Mc) : Mc := { m with pc := w16 (m.pc + 1), r0 := m.r2 }
@[simp] def z43_0 (m : Mc) : Mc := { m with pc := w16 (m.pc + 1), r0 := m.r3 }
@[simp] def z44_0 (m : Mc) : Mc := { m with pc := w16 (m.pc + 1), r0 := m.r4 }
@[simp] def z45_0 (m : Mc) : Mc := { m with pc := w16 (m.pc + 1), r0 := m.r5 }
@[simp] def z46_0 (m : Mc) (g : Nat → Int) : Mc := { m with pc := w16 (m.pc + 1), r0 := g (ix (or16 (w16 (w16 m.r4 * 256)) (w16 m.r5))) }
@[simp] def z47_0 (m : Mc) : Mc := { m with pc := w16 (m.pc + 1), r0 := m.r7 }
@[simp] def z48_0 (m : Mc) : Mc := { m with pc := w16 (m.pc + 1), r1 := m.r0 }
@[simp] def z4a_0 (m : Mc) : Mc := { m with pc := w16 (m.pc + 1), r1 := m.r2 }
@[simp] def z4b_0 (m : Mc) : Mc := { m with pc := w16 (m.pc + 1), r1 := m.r3 }
@[simp] def z4c_0 (m : Mc) : Mc := { m with pc := w16 (m.pc + 1), r1 := m.r4 }
@[simp] def z4d_0 (m : Mc) : Mc := { m with pc := w16 (m.pc + 1), r1 := m.r5 }
@[simp] def z4e_0 (m : Mc) (g : Nat → Int) : Mc := { m with pc := w16 (m.pc + 1), r1 := g (ix (or16 (w16 (w16 m.r4 * 256)) (w16 m.r5))) }
@[simp] def z4f_0 (m : Mc) : Mc := { m with pc := w16 (m.pc + 1), r1 := m.r7 }
end Go.Proofs.Ytpggoincnebfnaa
namespace Go.Proofs.Ytpggoincnebfnaa
open Go Go.Ly Go.RowKit
variable (m : Mc) (g : Nat → Int) (b1 b2 : Int)
@[simp] def z50_0 (m : Mc) : Mc := { m with pc := w16 (m.pc + 1), r2 := m.r0 }
@[simp] def z51_0 (m : Mc) : Mc := { m with pc := w16 (m.pc + 1), r2 := m.r1 }
@[simp] def z53_0 (m : Mc) : Mc := { m with pc := w16 (m.pc + 1), r2 := m.r3 }
@[simp] def z54_0 (m : Mc) : Mc := { m with pc := w16 (m.pc + 1), r2 := m.r4 }
@[simp] def z55_0 (m : Mc) : Mc := { m with pc := w16 (m.pc + 1), r2 := m.r5 }
@[simp] def z56_0 (m : Mc) (g : Nat → Int) : Mc := { m with pc := w16 (m.pc + 1), r2 := g (ix (or16 (w16 (w16 m.r4 * 256)) (w16 m.r5))) }
@[simp] def z57_0 (m : Mc) : Mc := { m with pc := w16 (m.pc + 1), r2 := m.r7 }
@[simp] def z58_0 (m : Mc) : Mc := { m with pc := w16 (m.pc + 1), r3 := m.r0 }
@[simp] def z59_0 (m : Mc) : Mc := { m with pc := w16 (m.pc + 1), r3 := m.r1 }
@[simp] def z5a_0 (m : Mc) : Mc := { m with pc := w16 (m.pc + 1), r3 := m.r2 }
@[simp] def z5c_0 (m : Mc) : Mc := { m with pc := w16 (m.pc + 1), r3 := m.r4 }
@[simp] def z5d_0 (m : Mc) : Mc := { m with pc := w16 (m.pc + 1), r3 := m.r5 }
@[simp] def z5e_0 (m : Mc) (g : Nat → Int) : Mc := { m with pc := w16 (m.pc + 1), r3 := g (ix (or16 (w16 (w16 m.r4 * 256)) (w16 m.r5))) }
@[simp] def z5f_0 (m : Mc) : Mc := { m with pc := w16 (m.pc + 1), r3 := m.r7 }
end Go.Proofs.Ytpggoincnebfnaa
namespace Go.Proofs.Ytpggoincnebfnaa
open Go Go.Ly Go.RowKit
variable (m : Mc) (g : Nat → Int) (b1 b2 : Int)
@[simp] def z60_0 (m : Mc) : Mc := { m with pc := w16 (m.pc + 1), r4 := m.r0 }
@[simp] def z61_0 (m : Mc) : Mc := { m with pc := w16 (m.pc + 1), r4 := m.r1 }
@[simp] def z62_0 (m : Mc) : Mc := { m with pc := w16 (m.pc + 1), r4 := m.r2 }
@[simp] def z63_0 (m : Mc) : Mc := { m with pc := w16 (m.pc + 1), r4 := m.r3 }
@[simp] def z65_0 (m : Mc) : Mc := { m with pc := w16 (m.pc + 1), r4 := m.r5 }
@[simp] def z66_0 (m : Mc) (g : Nat → Int) : Mc := { m with pc := w16 (m.pc + 1), r4 := g (ix (or16 (w16 (w16 m.r4 * 256)) (w16 m.r5))) }
@[simp] def z67_0 (m : Mc) : Mc := { m with pc := w16 (m.pc + 1), r4 := m.r7 }
@[simp] def z68_0 (m : Mc) : Mc := { m with pc := w16 (m.pc + 1), r5 := m.r0 }
@[simp] def z69_0 (m : Mc) : Mc := { m with pc := w16 (m.pc + 1), r5 := m.r1 }
@[simp] def z6a_0 (m : Mc) : Mc := { m with pc := w16 (m.pc + 1), r5 := m.r2 }
@[simp] def z6b_0 (m : Mc) : Mc := { m with pc := w16 (m.pc + 1), r5 := m.r3 }
@[simp] def z6c_0 (m : Mc) : Mc := { m with pc := w16 (m.pc + 1), r5 := m.r4 }
@[simp] def z6e_0 (m : Mc) (g : Nat → Int) : Mc := { m with pc := w16 (m.pc + 1), r5 := g (ix (or16 (w16 (w16 m.r4 * 256)) (w16 m.r5))) }
@[simp] def z6f_0 (m : Mc) : Mc := { m with pc := w16 (m.pc + 1), r5 := m.r7 }
end Go.Proofs.Ytpggoincnebfnaa
namespace Go.Proofs.Ytpggoincnebfnaa
open Go Go.Ly Go.RowKit
variable (m : Mc) (g : Nat → Int) (b1 b2 : Int)
@[simp] def z76_0 (m : Mc) : Mc := { m with halt := true, pc := w16 (m.pc + 1) }
@[simp] def z78_0 (m : Mc) : Mc := { m with pc := w16 (m.pc + 1), r7 := m.r0 }
@[simp] def z79_0 (m : Mc) : Mc := { m with pc := w16 (m.pc + 1), r7 := m.r1 }
@[simp] def z7a_0 (m : Mc) : Mc := { m with pc := w16 (m.pc + 1), r7 := m.r2 }
@[simp] def z7b_0 (m : Mc) : Mc := { m with pc := w16 (m.pc + 1), r7 := m.r3 }
@[simp] def z7c_0 (m : Mc) : Mc := { m with pc := w16 (m.pc + 1), r7 := m.r4 }
@[simp] def z7d_0 (m : Mc) : Mc := { m with pc := w16 (m.pc + 1), r7 := m.r5 }
@[simp] def z7e_0 (m : Mc) (g : Nat → Int) : Mc := { m with pc := w16 (m.pc + 1), r7 := g (ix (or16 (w16 (w16 m.r4 * 256)) (w16 m.r5))) }
end Go.Proofs.Ytpggoincnebfnaa
namespace Go.Proofs.Ytpggoincnebfnaa
open Go Go.Ly Go.RowKit
variable (m : Mc) (g : Nat → Int) (b1 b2 : Int)
@[simp] def z80_0 (m : Mc) : Mc := { m with fc := decide (255 < m.r7 + m.r0 + 0), fp := par ((m.r7 + m.r0 + 0) % 256), fs := decide (128 ≤ (m.r7 + m.r0 + 0) % 256), fx := decide (15 < m.r7 % 16 + m.r0 % 16 + 0), fz := (m.r7 + m.r0 + 0) % 256 == 0, pc := w16 (m.pc + 1), r7 := (m.r7 + m.r0 + 0) % 256 }
@[simp] def z81_0 (m : Mc) : Mc := { m with fc := decide (255 < m.r7 + m.r1 + 0), fp := par ((m.r7 + m.r1 + 0) % 256), fs := decide (128 ≤ (m.r7 + m.r1 + 0) % 256), fx := decide (15 < m.r7 % 16 + m.r1 % 16 + 0), fz := (m.r7 + m.r1 + 0) % 256 == 0, pc := w16 (m.pc + 1), r7 := (m.r7 + m.r1 + 0) % 256 }
@[simp] def z82_0 (m : Mc) : Mc := { m with fc := decide (255 < m.r7 + m.r2 + 0), fp := par ((m.r7 + m.r2 + 0) % 256), fs := decide (128 ≤ (m.r7 + m.r2 + 0) % 256), fx := decide (15 < m.r7 % 16 + m.r2 % 16 + 0), fz := (m.r7 + m.r2 + 0) % 256 == 0, pc := w16 (m.pc + 1), r7 := (m.r7 + m.r2 + 0) % 256 }
@[simp] def z83_0 (m : Mc) : Mc := { m with fc := decide (255 < m.r7 + m.r3 + 0), fp := par ((m.r7 + m.r3 + 0) % 256), fs := decide (128 ≤ (m.r7 + m.r3 + 0) % 256), fx := decide (15 < m.r7 % 16 + m.r3 % 16 + 0), fz := (m.r7 + m.r3 + 0) % 256 == 0, pc := w16 (m.pc + 1), r7 := (m.r7 + m.r3 + 0) % 256 }
@[simp] def z84_0 (m : Mc) : Mc := { m with fc := decide (255 < m.r7 + m.r4 + 0), fp := par ((m.r7 + m.r4 + 0) % 256), fs := decide (128 ≤ (m.r7 + m.r4 + 0) % 256), fx := decide (15 < m.r7 % 16 + m.r4 % 16 + 0), fz := (m.r7 + m.r4 + 0) % 256 == 0, pc := w16 (m.pc + 1), r7 := (m.r7 + m.r4 + 0) % 256 }
@[simp] def z85_0 (m : Mc) : Mc := { m with fc := decide (255 < m.r7 + m.r5 + 0), fp := par ((m.r7 + m.r5 + 0) % 256), fs := decide (128 ≤ (m.r7 + m.r5 + 0) % 256), fx := decide (15 < m.r7 % 16 + m.r5 % 16 + 0), fz := (m.r7 + m.r5 + 0) % 256 == 0, pc := w16 (m.pc + 1), r7 := (m.r7 + m.r5 + 0) % 256 }
@[simp] def z86_0 (m : Mc) (g : Nat → Int) : Mc := { m with fc := decide (255 < m.r7 + g (ix (or16 (w16 (w16 m.r4 * 256)) (w16 m.r5))) + 0), fp := par ((m.r7 + g (ix (or16 (w16 (w16 m.r4 * 256)) (w16 m.r5))) + 0) % 256), fs := decide (128 ≤ (m.r7 + g (ix (or16 (w16 (w16 m.r4 * 256)) (w16 m.r5))) + 0) % 256), fx := decide (15 < m.r7 % 16 + g (ix (or16 (w16 (w16 m.r4 * 256)) (w16 m.r5))) % 16 + 0), fz := (m.r7 + g (ix (or16 (w16 (w16 m.r4 * 256)) (w16 m.r5))) + 0) % 256 == 0, pc := w16 (m.pc + 1), r7 := (m.r7 + g (ix (or16 (w16 (w16 m.r4 * 256)) (w16 m.r5))) + 0) % 256 }
@[simp] def z87_0 (m : Mc) : Mc := { m with fc := decide (255 < m.r7 + m.r7 + 0), fp := par ((m.r7 + m.r7 + 0) % 256), fs := decide (128 ≤ (m.r7 + m.r7 + 0) % 256), fx := decide (15 < m.r7 % 16 + m.r7 % 16 + 0), fz := (m.r7 + m.r7 + 0) % 256 == 0, pc := w16 (m.pc + 1), r7 := (m.r7 + m.r7 + 0) % 256 }
@[simp] def z88_0 (m : Mc) : Mc := { m with fc := decide (255 < m.r7 + m.r0 + 1), fp := par ((m.r7 + m.r0 + 1) % 256), fs := decide (128 ≤ (m.r7 + m.r0 + 1) % 256), fx := decide (15 < m.r7 % 16 + m.r0 % 16 + 1), fz := (m.r7 + m.r0 + 1) % 256 == 0, pc := w16 (m.pc + 1), r7 := (m.r7 + m.r0 + 1) % 256 }
@[simp] def z88_1 (m : Mc) : Mc := { m with fc := decide (255 < m.r7 + m.r0 + 0), fp := par ((m.r7 + m.r0 + 0) % 256), fs := decide (128 ≤ (m.r7 + m.r0 + 0) % 256), fx := decide (15 < m.r7 % 16 + m.r0 % 16 + 0), fz := (m.r7 + m.r0 + 0) % 256 == 0, pc := w16 (m.pc + 1), r7 := (m.r7 + m.r0 + 0) % 256 }
@[simp] def z89_0 (m : Mc) : Mc := { m with fc := decide (255 < m.r7 + m.r1 + 1), fp := par ((m.r7 + m.r1 + 1) % 256), fs := decide (128 ≤ (m.r7 + m.r1 + 1) % 256), fx := decide (15 < m.r7 % 16 + m.r1 % 16 + 1), fz := (m.r7 + m.r1 + 1) % 256 == 0, pc := w16 (m.pc + 1), r7 := (m.r7 + m.r1 + 1) % 256 }
@[simp] def z89_1 (m : Mc) : Mc := { m with fc := decide (255 < m.r7 + m.r1 + 0), fp := par ((m.r7 + m.r1 + 0) % 256), fs := decide (128 ≤ (m.r7 + m.r1 + 0) % 256), fx := decide (15 < m.r7 % 16 + m.r1 % 16 + 0), fz := (m.r7 + m.r1 + 0) % 256 == 0, pc := w16 (m.pc + 1), r7 := (m.r7 + m.r1 + 0) % 256 }
@[simp] def z8a_0 (m : Mc) : Mc := { m with fc := decide (255 < m.r7 + m.r2 + 1), fp := par ((m.r7 + m.r2 + 1) % 256), fs := decide (128 ≤ (m.r7 + m.r2 + 1) % 256), fx := decide (15 < m.r7 % 16 + m.r2 % 16 + 1), fz := (m.r7 + m.r2 + 1) % 256 == 0, pc := w16 (m.pc + 1), r7 := (m.r7 + m.r2 + 1) % 256 }
@[simp] def z8a_1 (m : Mc) : Mc := { m with fc := decide (255 < m.r7 + m.r2 + 0), fp := par ((m.r7 + m.r2 + 0) % 256), fs := decide (128 ≤ (m.r7 + m.r2 + 0) % 256), fx := decide (15 < m.r7 % 16 + m.r2 % 16 + 0), fz := (m.r7 + m.r2 + 0) % 256 == 0, pc := w16 (m.pc + 1), r7 := (m.r7 + m.r2 + 0) % 256 }
@[simp] def z8b_0 (m : Mc) : Mc := { m with fc := decide (255 < m.r7 + m.r3 + 1), fp := par ((m.r7 + m.r3 + 1) % 256), fs := decide (128 ≤ (m.r7 + m.r3 + 1) % 256), fx := decide (15 < m.r7 % 16 + m.r3 % 16 + 1), fz := (m.r7 + m.r3 + 1) % 256 == 0, pc := w16 (m.pc + 1), r7 := (m.r7 + m.r3 + 1) % 256 }
@[simp] def z8b_1 (m : Mc) : Mc := { m with fc := decide (255 < m.r7 + m.r3 + 0), fp := par ((m.r7 + m.r3 + 0) % 256), fs := decide (128 ≤ (m.r7 + m.r3 + 0) % 256), fx := decide (15 < m.r7 % 16 + m.r3 % 16 + 0), fz := (m.r7 + m.r3 + 0) % 256 == 0, pc := w16 (m.pc + 1), r7 := (m.r7 + m.r3 + 0) % 256 }
@[simp] def z8c_0 (m : Mc) : Mc := { m with fc := decide (255 < m.r7 + m.r4 + 1), fp := par ((m.r7 + m.r4 + 1) % 256), fs := decide (128 ≤ (m.r7 + m.r4 + 1) % 256), fx := decide (15 < m.r7 % 16 + m.r4 % 16 + 1), fz := (m.r7 + m.r4 + 1) % 256 == 0, pc := w16 (m.pc + 1), r7 := (m.r7 + m.r4 + 1) % 256 }
@[simp] def z8c_1 (m : Mc) : Mc := { m with fc := decide (255 < m.r7 + m.r4 + 0), fp := par ((m.r7 + m.r4 + 0) % 256), fs := decide (128 ≤ (m.r7 + m.r4 + 0) % 256), fx := decide (15 < m.r7 % 16 + m.r4 % 16 + 0), fz := (m.r7 + m.r4 + 0) % 256 == 0, pc := w16 (m.pc + 1), r7 := (m.r7 + m.r4 + 0) % 256 }
@[simp] def z8d_0 (m : Mc) : Mc := { m with fc := decide (255 < m.r7 + m.r5 + 1), fp := par ((m.r7 + m.r5 + 1) % 256), fs := decide (128 ≤ (m.r7 + m.r5 + 1) % 256), fx := decide (15 < m.r7 % 16 + m.r5 % 16 + 1), fz := (m.r7 + m.r5 + 1) % 256 == 0, pc := w16 (m.pc + 1), r7 := (m.r7 + m.r5 + 1) % 256 }
@[simp] def z8d_1 (m : Mc) : Mc := { m with fc := decide (255 < m.r7 + m.r5 + 0), fp := par ((m.r7 + m.r5 + 0) % 256), fs := decide (128 ≤ (m.r7 + m.r5 + 0) % 256), fx := decide (15 < m.r7 % 16 + m.r5 % 16 + 0), fz := (m.r7 + m.r5 + 0) % 256 == 0, pc := w16 (m.pc + 1), r7 := (m.r7 + m.r5 + 0) % 256 }
@[simp] def z8e_0 (m : Mc) (g : Nat → Int) : Mc := { m with fc := decide (255 < m.r7 + g (ix (or16 (w16 (w16 m.r4 * 256)) (w16 m.r5))) + 1), fp := par ((m.r7 + g (ix (or16 (w16 (w16 m.r4 * 256)) (w16 m.r5))) + 1) % 256), fs := decide (128 ≤ (m.r7 + g (ix (or16 (w16 (w16 m.r4 * 256)) (w16 m.r5))) + 1) % 256), fx := decide (15 < m.r7 % 16 + g (ix (or16 (w16 (w16 m.r4 * 256)) (w16 m.r5))) % 16 + 1), fz := (m.r7 + g (ix (or16 (w16 (w16 m.r4 * 256)) (w16 m.r5))) + 1) % 256 == 0, pc := w16 (m.pc + 1), r7 := (m.r7 + g (ix (or16 (w16 (w16 m.r4 * 256)) (w16 m.r5))) + 1) % 256 }
@[simp] def z8e_1 (m : Mc) (g : Nat → Int) : Mc := { m with fc := decide (255 < m.r7 + g (ix (or16 (w16 (w16 m.r4 * 256)) (w16 m.r5))) + 0), fp := par ((m.r7 + g (ix (or16 (w16 (w16 m.r4 * 256)) (w16 m.r5))) + 0) % 256), fs := decide (128 ≤ (m.r7 + g (ix (or16 (w16 (w16 m.r4 * 256)) (w16 m.r5))) + 0) % 256), fx := decide (15 < m.r7 % 16 + g (ix (or16 (w16 (w16 m.r4 * 256)) (w16 m.r5))) % 16 + 0), fz := (m.r7 + g (ix (or16 (w16 (w16 m.r4 * 256)) (w16 m.r5))) + 0) % 256 == 0, pc := w16 (m.pc + 1), r7 := (m.r7 + g (ix (or16 (w16 (w16 m.r4 * 256)) (w16 m.r5))) + 0) % 256 }
@[simp] def z8f_0 (m : Mc) : Mc := { m with fc := decide (255 < m.r7 + m.r7 + 1), fp := par ((m.r7 + m.r7 + 1) % 256), fs := decide (128 ≤ (m.r7 + m.r7 + 1) % 256), fx := decide (15 < m.r7 % 16 + m.r7 % 16 + 1), fz := (m.r7 + m.r7 + 1) % 256 == 0, pc := w16 (m.pc + 1), r7 := (m.r7 + m.r7 + 1) % 256 }
@[simp] def z8f_1 (m : Mc) : Mc := { m with fc := decide (255 < m.r7 + m.r7 + 0), fp := par ((m.r7 + m.r7 + 0) % 256), fs := decide (128 ≤ (m.r7 + m.r7 + 0) % 256), fx := decide (15 < m.r7 % 16 + m.r7 % 16 + 0), fz := (m.r7 + m.r7 + 0) % 256 == 0, pc := w16 (m.pc + 1), r7 := (m.r7 + m.r7 + 0) % 256 }
end Go.Proofs.Ytpggoincnebfnaa
namespace Go.Proofs.Ytpggoincnebfnaa
open Go Go.Ly Go.RowKit
variable (m : Mc) (g : Nat → Int) (b1 b2 : Int)
@[simp] def z90_0 (m : Mc) : Mc := { m with fc := decide (m.r7 - m.r0 - 0 < 0), fp := par ((m.r7 - m.r0 - 0) % 256), fs := decide (128 ≤ (m.r7 - m.r0 - 0) % 256), fx := decide (15 < m.r7 % 16 + 15 - m.r0 % 16 + 1), fz := (m.r7 - m.r0 - 0) % 256 == 0, pc := w16 (m.pc + 1), r7 := (m.r7 - m.r0 - 0) % 256 }
@[simp] def z91_0 (m : Mc) : Mc := { m with fc := decide (m.r7 - m.r1 - 0 < 0), fp := par ((m.r7 - m.r1 - 0) % 256), fs := decide (128 ≤ (m.r7 - m.r1 - 0) % 256), fx := decide (15 < m.r7 % 16 + 15 - m.r1 % 16 + 1), fz := (m.r7 - m.r1 - 0) % 256 == 0, pc := w16 (m.pc + 1), r7 := (m.r7 - m.r1 - 0) % 256 }
@[simp] def z92_0 (m : Mc) : Mc := { m with fc := decide (m.r7 - m.r2 - 0 < 0), fp := par ((m.r7 - m.r2 - 0) % 256), fs := decide (128 ≤ (m.r7 - m.r2 - 0) % 256), fx := decide (15 < m.r7 % 16 + 15 - m.r2 % 16 + 1), fz := (m.r7 - m.r2 - 0) % 256 == 0, pc := w16 (m.pc + 1), r7 := (m.r7 - m.r2 - 0) % 256 }
@[simp] def z93_0 (m : Mc) : Mc := { m with fc := decide (m.r7 - m.r3 - 0 < 0), fp := par ((m.r7 - m.r3 - 0) % 256), fs := decide (128 ≤ (m.r7 - m.r3 - 0) % 256), fx := decide (15 < m.r7 % 16 + 15 - m.r3 % 16 + 1), fz := (m.r7 - m.r3 - 0) % 256 == 0, pc := w16 (m.pc + 1), r7 := (m.r7 - m.r3 - 0) % 256 }
@[simp] def z94_0 (m : Mc) : Mc := { m with fc := decide (m.r7 - m.r4 - 0 < 0), fp := par ((m.r7 - m.r4 - 0) % 256), fs := decide (128 ≤ (m.r7 - m.r4 - 0) % 256), fx := decide (15 < m.r7 % 16 + 15 - m.r4 % 16 + 1), fz := (m.r7 - m.r4 - 0) % 256 == 0, pc := w16 (m.pc + 1), r7 := (m.r7 - m.r4 - 0) % 256 }
@[simp] def z95_0 (m : Mc) : Mc := { m with fc := decide (m.r7 - m.r5 - 0 < 0), fp := par ((m.r7 - m.r5 - 0) % 256), fs := decide (128 ≤ (m.r7 - m.r5 - 0) % 256), fx := decide (15 < m.r7 % 16 + 15 - m.r5 % 16 + 1), fz := (m.r7 - m.r5 - 0) % 256 == 0, pc := w16 (m.pc + 1), r7 := (m.r7 - m.r5 - 0) % 256 }
@[simp] def z96_0 (m : Mc) (g : Nat → Int) : Mc := { m with fc := decide (m.r7 - g (ix (or16 (w16 (w16 m.r4 * 256)) (w16 m.r5))) - 0 < 0), fp := par ((m.r7 - g (ix (or16 (w16 (w16 m.r4 * 256)) (w16 m.r5))) - 0) % 256), fs := decide (128 ≤ (m.r7 - g (ix (or16 (w16 (w16 m.r4 * 256)) (w16 m.r5))) - 0) % 256), fx := decide (15 < m.r7 % 16 + 15 - g (ix (or16 (w16 (w16 m.r4 * 256)) (w16 m.r5))) % 16 + 1), fz := (m.r7 - g (ix (or16 (w16 (w16 m.r4 * 256)) (w16 m.r5))) - 0) % 256 == 0, pc := w16 (m.pc + 1), r7 := (m.r7 - g (ix (or16 (w16 (w16 m.r4 * 256)) (w16 m.r5))) - 0) % 256 }
@[simp] def z97_0 (m : Mc) : Mc := { m with fc := decide (m.r7 - m.r7 - 0 < 0), fp := par ((m.r7 - m.r7 - 0) % 256), fs := decide (128 ≤ (m.r7 - m.r7 - 0) % 256), fx := decide (15 < m.r7 % 16 + 15 - m.r7 % 16 + 1), fz := (m.r7 - m.r7 - 0) % 256 == 0, pc := w16 (m.pc + 1), r7 := (m.r7 - m.r7 - 0) % 256 }
@[simp] def z98_0 (m : Mc) : Mc := { m with fc := decide (m.r7 - m.r0 - 1 < 0), fp := par ((m.r7 - m.r0 - 1) % 256), fs := decide (128 ≤ (m.r7 - m.r0 - 1) % 256), fx := decide (15 < m.r7 % 16 + 15 - m.r0 % 16 + 0), fz := (m.r7 - m.r0 - 1) % 256 == 0, pc := w16 (m.pc + 1), r7 := (m.r7 - m.r0 - 1) % 256 }
@[simp] def z98_1 (m : Mc) : Mc := { m with fc := decide (m.r7 - m.r0 - 0 < 0), fp := par ((m.r7 - m.r0 - 0) % 256), fs := decide (128 ≤ (m.r7 - m.r0 - 0) % 256), fx := decide (15 < m.r7 % 16 + 15 - m.r0 % 16 + 1), fz := (m.r7 - m.r0 - 0) % 256 == 0, pc := w16 (m.pc + 1), r7 := (m.r7 - m.r0 - 0) % 256 }
@[simp] def z99_0 (m : Mc) : Mc := { m with fc := decide (m.r7 - m.r1 - 1 < 0), fp := par ((m.r7 - m.r1 - 1) % 256), fs := decide (128 ≤ (m.r7 - m.r1 - 1) % 256), fx := decide (15 < m.r7 % 16 + 15 - m.r1 % 16 + 0), fz := (m.r7 - m.r1 - 1) % 256 == 0, pc := w16 (m.pc + 1), r7 := (m.r7 - m.r1 - 1) % 256 }
@[simp] def z99_1 (m : Mc) : Mc := { m with fc := decide (m.r7 - m.r1 - 0 < 0), fp := par ((m.r7 - m.r1 - 0) % 256), fs := decide (128 ≤ (m.r7 - m.r1 - 0) % 256), fx := decide (15 < m.r7 % 16 + 15 - m.r1 % 16 + 1), fz := (m.r7 - m.r1 - 0) % 256 == 0, pc := w16 (m.pc + 1), r7 := (m.r7 - m.r1 - 0) % 256 }
@[simp] def z9a_0 (m : Mc) : Mc := { m with fc := decide (m.r7 - m.r2 - 1 < 0), fp := par ((m.r7 - m.r2 - 1) % 256), fs := decide (128 ≤ (m.r7 - m.r2 - 1) % 256), fx := decide (15 < m.r7 % 16 + 15 - m.r2 % 16 + 0), fz := (m.r7 - m.r2 - 1) % 256 == 0, pc := w16 (m.pc + 1), r7 := (m.r7 - m.r2 - 1) % 256 }
@[simp] def z9a_1 (m : Mc) : Mc := { m with fc := decide (m.r7 - m.r2 - 0 < 0), fp := par ((m.r7 - m.r2 - 0) % 256), fs := decide (128 ≤ (m.r7 - m.r2 - 0) % 256), fx := decide (15 < m.r7 % 16 + 15 - m.r2 % 16 + 1), fz := (m.r7 - m.r2 - 0) % 256 == 0, pc := w16 (m.pc + 1), r7 := (m.r7 - m.r2 - 0) % 256 }
@[simp] def z9b_0 (m : Mc) : Mc := { m with fc := decide (m.r7 - m.r3 - 1 < 0), fp := par ((m.r7 - m.r3 - 1) % 256), fs := decide (128 ≤ (m.r7 - m.r3 - 1) % 256), fx := decide (15 < m.r7 % 16 + 15 - m.r3 % 16 + 0), fz := (m.r7 - m.r3 - 1) % 256 == 0, pc := w16 (m.pc + 1), r7 := (m.r7 - m.r3 - 1) % 256 }
@[simp] def z9b_1 (m : Mc) : Mc := { m with fc := decide (m.r7 - m.r3 - 0 < 0), fp := par ((m.r7 - m.r3 - 0) % 256), fs := decide (128 ≤ (m.r7 - m.r3 - 0) % 256), fx := decide (15 < m.r7 % 16 + 15 - m.r3 % 16 + 1), fz := (m.r7 - m.r3 - 0) % 256 == 0, pc := w16 (m.pc + 1), r7 := (m.r7 - m.r3 - 0) % 256 }
@[simp] def z9c_0 (m : Mc) : Mc := { m with fc := decide (m.r7 - m.r4 - 1 < 0), fp := par ((m.r7 - m.r4 - 1) % 256), fs := decide (128 ≤ (m.r7 - m.r4 - 1) % 256), fx := decide (15 < m.r7 % 16 + 15 - m.r4 % 16 + 0), fz := (m.r7 - m.r4 - 1) % 256 == 0, pc := w16 (m.pc + 1), r7 := (m.r7 - m.r4 - 1) % 256 }
@[simp] def z9c_1 (m : Mc) : Mc := { m with fc := decide (m.r7 - m.r4 - 0 < 0), fp := par ((m.r7 - m.r4 - 0) % 256), fs := decide (128 ≤ (m.r7 - m.r4 - 0) % 256), fx := decide (15 < m.r7 % 16 + 15 - m.r4 % 16 + 1), fz := (m.r7 - m.r4 - 0) % 256 == 0, pc := w16 (m.pc + 1), r7 := (m.r7 - m.r4 - 0) % 256 }
@[simp] def z9d_0 (m : Mc) : Mc := { m with fc := decide (m.r7 - m.r5 - 1 < 0), fp := par ((m.r7 - m.r5 - 1) % 256), fs := decide (128 ≤ (m.r7 - m.r5 - 1) % 256), fx := decide (15 < m.r7 % 16 + 15 - m.r5 % 16 + 0), fz := (m.r7 - m.r5 - 1) % 256 == 0, pc := w16 (m.pc + 1), r7 := (m.r7 - m.r5 - 1) % 256 }
@[simp] def z9d_1 (m : Mc) : Mc := { m with fc := decide (m.r7 - m.r5 - 0 < 0), fp := par ((m.r7 - m.r5 - 0) % 256), fs := decide (128 ≤ (m.r7 - m.r5 - 0) % 256), fx := decide (15 < m.r7 % 16 + 15 - m.r5 % 16 + 1), fz := (m.r7 - m.r5 - 0) % 256 == 0, pc := w16 (m.pc + 1), r7 := (m.r7 - m.r5 - 0) % 256 }
@[simp] def z9e_0 (m : Mc) (g : Nat → Int) : Mc := { m with fc := decide (m.r7 - g (ix (or16 (w16 (w16 m.r4 * 256)) (w16 m.r5))) - 1 < 0), fp := par ((m.r7 - g (ix (or16 (w16 (w16 m.r4 * 256)) (w16 m.r5))) - 1) % 256), fs := decide (128 ≤ (m.r7 - g (ix (or16 (w16 (w16 m.r4 * 256)) (w16 m.r5))) - 1) % 256), fx := decide (15 < m.r7 % 16 + 15 - g (ix (or16 (w16 (w16 m.r4 * 256)) (w16 m.r5))) % 16 + 0), fz := (m.r7 - g (ix (or16 (w16 (w16 m.r4 * 256)) (w16 m.r5))) - 1) % 256 == 0, pc := w16 (m.pc + 1), r7 := (m.r7 - g (ix (or16 (w16 (w16 m.r4 * 256)) (w16 m.r5))) - 1) % 256 }
@[simp] def z9e_1 (m : Mc) (g : Nat → Int) : Mc := { m with fc := decide (m.r7 - g (ix (or16 (w16 (w16 m.r4 * 256)) (w16 m.r5))) - 0 < 0), fp := par ((m.r7 - g (ix (or16 (w16 (w16 m.r4 * 256)) (w16 m.r5))) - 0) % 256), fs := decide (128 ≤ (m.r7 - g (ix (or16 (w16 (w16 m.r4 * 256)) (w16 m.r5))) - 0) % 256), fx := decide (15 < m.r7 % 16 + 15 - g (ix (or16 (w16 (w16 m.r4 * 256)) (w16 m.r5))) % 16 + 1), fz := (m.r7 - g (ix (or16 (w16 (w16 m.r4 * 256)) (w16 m.r5))) - 0) % 256 == 0, pc := w16 (m.pc + 1), r7 := (m.r7 - g (ix (or16 (w16 (w16 m.r4 * 256)) (w16 m.r5))) - 0) % 256 }
@[simp] def z9f_0 (m : Mc) : Mc := { m with fc := decide (m.r7 - m.r7 - 1 < 0), fp := par ((m.r7 - m.r7 - 1) % 256), fs := decide (128 ≤ (m.r7 - m.r7 - 1) % 256), fx := decide (15 < m.r7 % 16 + 15 - m.r7 % 16 + 0), fz := (m.r7 - m.r7 - 1) % 256 == 0, pc := w16 (m.pc + 1), r7 := (m.r7 - m.r7 - 1) % 256 }
@[simp] def z9f_1 (m : Mc) : Mc := { m with fc := decide (m.r7 - m.r7 - 0 < 0), fp := par ((m.r7 - m.r7 - 0) % 256), fs := decide (128 ≤ (m.r7 - m.r7 - 0) % 256), fx := decide (15 < m.r7 % 16 + 15 - m.r7 % 16 + 1), fz := (m.r7 - m.r7 - 0) % 256 == 0, pc := w16 (m.pc + 1), r7 := (m.r7 - m.r7 - 0) % 256 }
end Go.Proofs.Ytpggoincnebfnaa
namespace Go.Proofs.Ytpggoincnebfnaa
open Go Go.Ly Go.RowKit
variable (m : Mc) (g : Nat → Int) (b1 b2 : Int)
@[simp] def za0_0 (m : Mc) : Mc := { m with fc := false, fp := par (and8 m.r7 m.r0), fs := decide (128 ≤ and8 m.r7 m.r0), fx := and8 (or8 m.r7 m.r0) 8 != 0, fz := and8 m.r7 m.r0 == 0, pc := w16 (m.pc + 1), r7 := and8 m.r7 m.r0 }
@[simp] def za1_0 (m : Mc) : Mc := { m with fc := false, fp := par (and8 m.r7 m.r1), fs := decide (128 ≤ and8 m.r7 m.r1), fx := and8 (or8 m.r7 m.r1) 8 != 0, fz := and8 m.r7 m.r1 == 0, pc := w16 (m.pc + 1), r7 := and8 m.r7 m.r1 }
@[simp] def za2_0 (m : Mc) : Mc := { m with fc := false, fp := par (and8 m.r7 m.r2), fs := decide (128 ≤ and8 m.r7 m.r2), fx := and8 (or8 m.r7 m.r2) 8 != 0, fz := and8 m.r7 m.r2 == 0, pc := w16 (m.pc + 1), r7 := and8 m.r7 m.r2 }
@[simp] def za3_0 (m : Mc) : Mc := { m with fc := false, fp := par (and8 m.r7 m.r3), fs := decide (128 ≤ and8 m.r7 m.r3), fx := and8 (or8 m.r7 m.r3) 8 != 0, fz := and8 m.r7 m.r3 == 0, pc := w16 (m.pc + 1), r7 := and8 m.r7 m.r3 }
@[simp] def za4_0 (m : Mc) : Mc := { m with fc := false, fp := par (and8 m.r7 m.r4), fs := decide (128 ≤ and8 m.r7 m.r4), fx := and8 (or8 m.r7 m.r4) 8 != 0, fz := and8 m.r7 m.r4 == 0, pc := w16 (m.pc + 1), r7 := and8 m.r7 m.r4 }
@[simp] def za5_0 (m : Mc) : Mc := { m with fc := false, fp := par (and8 m.r7 m.r5), fs := decide (128 ≤ and8 m.r7 m.r5), fx := and8 (or8 m.r7 m.r5) 8 != 0, fz := and8 m.r7 m.r5 == 0, pc := w16 (m.pc + 1), r7 := and8 m.r7 m.r5 }
@[simp] def za6_0 (m : Mc) (g : Nat → Int) : Mc := { m with fc := false, fp := par (and8 m.r7 (g (ix (or16 (w16 (w16 m.r4 * 256)) (w16 m.r5))))), fs := decide (128 ≤ and8 m.r7 (g (ix (or16 (w16 (w16 m.r4 * 256)) (w16 m.r5))))), fx := and8 (or8 m.r7 (g (ix (or16 (w16 (w16 m.r4 * 256)) (w16 m.r5))))) 8 != 0, fz := and8 m.r7 (g (ix (or16 (w16 (w16 m.r4 * 256)) (w16 m.r5)))) == 0, pc := w16 (m.pc + 1), r7 := and8 m.r7 (g (ix (or16 (w16 (w16 m.r4 * 256)) (w16 m.r5)))) }
@[simp] def za7_0 (m : Mc) : Mc := { m with fc := false, fp := par (and8 m.r7 m.r7), fs := decide (128 ≤ and8 m.r7 m.r7), fx := and8 (or8 m.r7 m.r7) 8 != 0, fz := and8 m.r7 m.r7 == 0, pc := w16 (m.pc + 1), r7 := and8 m.r7 m.r7 }
@[simp] def za8_0 (m : Mc) : Mc := { m with fc := false, fp := par (xor8 m.r7 m.r0), fs := decide (128 ≤ xor8 m.r7 m.r0), fx := false, fz := xor8 m.r7 m.r0 == 0, pc := w16 (m.pc + 1), r7 := xor8 m.r7 m.r0 }
@[simp] def za9_0 (m : Mc) : Mc := { m with fc := false, fp := par (xor8 m.r7 m.r1), fs := decide (128 ≤ xor8 m.r7 m.r1), fx := false, fz := xor8 m.r7 m.r1 == 0, pc := w16 (m.pc + 1), r7 := xor8 m.r7 m.r1 }
@[simp] def zaa_0 (m : Mc) : Mc := { m with fc := false, fp := par (xor8 m.r7 m.r2), fs := decide (128 ≤ xor8 m.r7 m.r2), fx := false, fz := xor8 m.r7 m.r2 == 0, pc := w16 (m.pc + 1), r7 := xor8 m.r7 m.r2 }
@[simp] def zab_0 (m : Mc) : Mc := { m with fc := false, fp := par (xor8 m.r7 m.r3), fs := decide (128 ≤ xor8 m.r7 m.r3), fx := false, fz := xor8 m.r7 m.r3 == 0, pc := w16 (m.pc + 1), r7 := xor8 m.r7 m.r3 }
@[simp] def zac_0 (m : Mc) : Mc := { m with fc := false, fp := par (xor8 m.r7 m.r4), fs := decide (128 ≤ xor8 m.r7 m.r4), fx := false, fz := xor8 m.r7 m.r4 == 0, pc := w16 (m.pc + 1), r7 := xor8 m.r7 m.r4 }
@[simp] def zad_0 (m : Mc) : Mc := { m with fc := false, fp := par (xor8 m.r7 m.r5), fs := decide (128 ≤ xor8 m.r7 m.r5), fx := false, fz := xor8 m.r7 m.r5 == 0, pc := w16 (m.pc + 1), r7 := xor8 m.r7 m.r5 }
@[simp] def zae_0 (m : Mc) (g : Nat → Int) : Mc := { m with fc := false, fp := par (xor8 m.r7 (g (ix (or16 (w16 (w16 m.r4 * 256)) (w16 m.r5))))), fs := decide (128 ≤ xor8 m.r7 (g (ix (or16 (w16 (w16 m.r4 * 256)) (w16 m.r5))))), fx := false, fz := xor8 m.r7 (g (ix (or16 (w16 (w16 m.r4 * 256)) (w16 m.r5)))) == 0, pc := w16 (m.pc + 1), r7 := xor8 m.r7 (g (ix (or16 (w16 (w16 m.r4 * 256)) (w16 m.r5)))) }
@[simp] def zaf_0 (m : Mc) : Mc := { m with fc := false, fp := par (xor8 m.r7 m.r7), fs := decide (128 ≤ xor8 m.r7 m.r7), fx := false, fz := xor8 m.r7 m.r7 == 0, pc := w16 (m.pc + 1), r7 := xor8 m.r7 m.r7 }
end Go.Proofs.Ytpggoincnebfnaa
namespace Go.Proofs.Ytpggoincnebfnaa
open Go Go.Ly Go.RowKit
variable (m : Mc) (g : Nat → Int) (b1 b2 : Int)
@[simp] def zb0_0 (m : Mc) : Mc := { m with fc := false, fp := par (or8 m.r7 m.r0), fs := decide (128 ≤ or8 m.r7 m.r0), fx := false, fz := or8 m.r7 m.r0 == 0, pc := w16 (m.pc + 1), r7 := or8 m.r7 m.r0 }
@[simp] def zb1_0 (m : Mc) : Mc := { m with fc := false, fp := par (or8 m.r7 m.r1), fs := decide (128 ≤ or8 m.r7 m.r1), fx := false, fz := or8 m.r7 m.r1 == 0, pc := w16 (m.pc + 1), r7 := or8 m.r7 m.r1 }
@[simp] def zb2_0 (m : Mc) : Mc := { m with fc := false, fp := par (or8 m.r7 m.r2), fs := decide (128 ≤ or8 m.r7 m.r2), fx := false, fz := or8 m.r7 m.r2 == 0, pc := w16 (m.pc + 1), r7 := or8 m.r7 m.r2 }
@[simp] def zb3_0 (m : Mc) : Mc := { m with fc := false, fp := par (or8 m.r7 m.r3), fs := decide (128 ≤ or8 m.r7 m.r3), fx := false, fz := or8 m.r7 m.r3 == 0, pc := w16 (m.pc + 1), r7 := or8 m.r7 m.r3 }
@[simp] def zb4_0 (m : Mc) : Mc := { m with fc := false, fp := par (or8 m.r7 m.r4), fs := decide (128 ≤ or8 m.r7 m.r4), fx := false, fz := or8 m.r7 m.r4 == 0, pc := w16 (m.pc + 1), r7 := or8 m.r7 m.r4 }
@[simp] def zb5_0 (m : Mc) : Mc := { m with fc := false, fp := par (or8 m.r7 m.r5), fs := decide (128 ≤ or8 m.r7 m.r5), fx := false, fz := or8 m.r7 m.r5 == 0, pc := w16 (m.pc + 1), r7 := or8 m.r7 m.r5 }
@[simp] def zb6_0 (m : Mc) (g : Nat → Int) : Mc := { m with fc := false, fp := par (or8 m.r7 (g (ix (or16 (w16 (w16 m.r4 * 256)) (w16 m.r5))))), fs := decide (128 ≤ or8 m.r7 (g (ix (or16 (w16 (w16 m.r4 * 256)) (w16 m.r5))))), fx := false, fz := or8 m.r7 (g (ix (or16 (w16 (w16 m.r4 * 256)) (w16 m.r5)))) == 0, pc := w16 (m.pc + 1), r7 := or8 m.r7 (g (ix (or16 (w16 (w16 m.r4 * 256)) (w16 m.r5)))) }
@[simp] def zb7_0 (m : Mc) : Mc := { m with fc := false, fp := par (or8 m.r7 m.r7), fs := decide (128 ≤ or8 m.r7 m.r7), fx := false, fz := or8 m.r7 m.r7 == 0, pc := w16 (m.pc + 1), r7 := or8 m.r7 m.r7 }
@[simp] def zb8_0 (m : Mc) : Mc := { m with fc := decide (m.r7 - m.r0 - 0 < 0), fp := par ((m.r7 - m.r0 - 0) % 256), fs := decide (128 ≤ (m.r7 - m.r0 - 0) % 256), fx := decide (15 < m.r7 % 16 + 15 - m.r0 % 16 + 1), fz := (m.r7 - m.r0 - 0) % 256 == 0, pc := w16 (m.pc + 1) }
@[simp] def zb9_0 (m : Mc) : Mc := { m with fc := decide (m.r7 - m.r1 - 0 < 0), fp := par ((m.r7 - m.r1 - 0) % 256), fs := decide (128 ≤ (m.r7 - m.r1 - 0) % 256), fx := decide (15 < m.r7 % 16 + 15 - m.r1 % 16 + 1), fz := (m.r7 - m.r1 - 0) % 256 == 0, pc := w16 (m.pc + 1) }
@[simp] def zba_0 (m : Mc) : Mc := { m with fc := decide (m.r7 - m.r2 - 0 < 0), fp := par ((m.r7 - m.r2 - 0) % 256), fs := decide (128 ≤ (m.r7 - m.r2 - 0) % 256), fx := decide (15 < m.r7 % 16 + 15 - m.r2 % 16 + 1), fz := (m.r7 - m.r2 - 0) % 256 == 0, pc := w16 (m.pc + 1) }
@[simp] def zbb_0 (m : Mc) : Mc := { m with fc := decide (m.r7 - m.r3 - 0 < 0), fp := par ((m.r7 - m.r3 - 0) % 256), fs := decide (128 ≤ (m.r7 - m.r3 - 0) % 256), fx := decide (15 < m.r7 % 16 + 15 - m.r3 % 16 + 1), fz := (m.r7 - m.r3 - 0) % 256 == 0, pc := w16 (m.pc + 1) }
@[simp] def zbc_0 (m : Mc) : Mc := { m with fc := decide (m.r7 - m.r4 - 0 < 0), fp := par ((m.r7 - m.r4 - 0) % 256), fs := decide (128 ≤ (m.r7 - m.r4 - 0) % 256), fx := decide (15 < m.r7 % 16 + 15 - m.r4 % 16 + 1), fz := (m.r7 - m.r4 - 0) % 256 == 0, pc := w16 (m.pc + 1) }
@[simp] def zbd_0 (m : Mc) : Mc := { m with fc := decide (m.r7 - m.r5 - 0 < 0), fp := par ((m.r7 - m.r5 - 0) % 256), fs := decide (128 ≤ (m.r7 - m.r5 - 0) % 256), fx := decide (15 < m.r7 % 16 + 15 - m.r5 % 16 + 1), fz := (m.r7 - m.r5 - 0) % 256 == 0, pc := w16 (m.pc + 1) }
@[simp] def zbe_0 (m : Mc) (g : Nat → Int) : Mc := { m with fc := decide (m.r7 - g (ix (or16 (w16 (w16 m.r4 * 256)) (w16 m.r5))) - 0 < 0), fp := par ((m.r7 - g (ix (or16 (w16 (w16 m.r4 * 256)) (w16 m.r5))) - 0) % 256), fs := decide (128 ≤ (m.r7 - g (ix (or16 (w16 (w16 m.r4 * 256)) (w16 m.r5))) - 0) % 256), fx := decide (15 < m.r7 % 16 + 15 - g (ix (or16 (w16 (w16 m.r4 * 256)) (w16 m.r5))) % 16 + 1), fz := (m.r7 - g (ix (or16 (w16 (w16 m.r4 * 256)) (w16 m.r5))) - 0) % 256 == 0, pc := w16 (m.pc + 1) }
@[simp] def zbf_0 (m : Mc) : Mc := { m with fc := decide (m.r7 - m.r7 - 0 < 0), fp := par ((m.r7 - m.r7 - 0) % 256), fs := decide (128 ≤ (m.r7 - m.r7 - 0) % 256), fx := decide (15 < m.r7 % 16 + 15 - m.r7 % 16 + 1), fz := (m.r7 - m.r7 - 0) % 256 == 0, pc := w16 (m.pc + 1) }
end Go.Proofs.Ytpggoincnebfnaa
namespace Go.Proofs.Ytpggoincnebfnaa
open Go Go.Ly Go.RowKit
variable (m : Mc) (g : Nat → Int) (b1 b2 : Int)
@[simp] def zc0_0 (m : Mc) (g : Nat → Int) : Mc := { m with pc := or16 (w16 (g (ix (w16 (w16 (m.sp + 2) - 2))))) (w16 (w16 (g (ix (w16 (w16 (w16 (m.sp + 2) - 2) + 1)))) * 256)), sp := w16 (m.sp + 2) }
@[simp] def zc1_0 (m : Mc) (g : Nat → Int) : Mc := { m with pc := w16 (m.pc + 1), r0 := w8 ((or16 (w16 (g (ix (w16 (w16 (m.sp + 2) - 2))))) (w16 (w16 (g (ix (w16 (w16 (w16 (m.sp + 2) - 2) + 1)))) * 256))).fdiv 256), r1 := w8 (or16 (w16 (g (ix (w16 (w16 (m.sp + 2) - 2))))) (w16 (w16 (g (ix (w16 (w16 (w16 (m.sp + 2) - 2) + 1)))) * 256))), sp := w16 (m.sp + 2) }
theorem pc1_0 : endsAt [0, 1] (Ly.run ctx3 3000 [(45, true), (0, true), (0, true), (0, true)] (sP m g 193 b1 b2)) = some (T [rg (w16 (w16 (m.sp + 2) - 2)), bl (ix (w16 (w16 (m.sp + 2) - 2))), rg (w16 (w16 (w16 (m.sp + 2) - 2) + 1)), bl (ix (w16 (w16 (w16 (m.sp + 2) - 2) + 1)))], .int .i64 0, 5, hPm (zc1_0 m g) (memL g)) := by kernel_rfl
@[simp] def zc5_0 (m : Mc) : Mc := { m with pc := w16 (m.pc + 1), sp := w16 (m.sp - 2) }
theorem pc5_0 : endsAt [0, 1] (Ly.run ctx3 3000 [(59, true), (0, true), (2, true), (0, true)] (sP m g 197 b1 b2)) = some (T [rg (w16 (m.sp - 2)), bl (ix (w16 (m.sp - 2))), rg (w16 (w16 (m.sp - 2) + 1)), bl (ix (w16 (w16 (m.sp - 2) + 1)))], .int .i64 0, 6, hPm (zc5_0 m) (M2 g (ix (w16 (m.sp - 2))) (w8 (or16 (w16 (w16 m.r0 * 256)) (w16 m.r1))) (ix (w16 (w16 (m.sp - 2) + 1))) (w8 ((or16 (w16 (w16 m.r0 * 256)) (w16 m.r1)).fdiv 256)))) := by kernel_rfl
@[simp] def zc6_0 (m : Mc) (g : Nat → Int) : Mc := { m with fc := decide (255 < m.r7 + w8 (or16 0 (w16 (g (at1 m.pc 1)))) + 0), fp := par ((m.r7 + w8 (or16 0 (w16 (g (at1 m.pc 1)))) + 0) % 256), fs := decide (128 ≤ (m.r7 + w8 (or16 0 (w16 (g (at1 m.pc 1)))) + 0) % 256), fx := decide (15 < m.r7 % 16 + w8 (or16 0 (w16 (g (at1 m.pc 1)))) % 16 + 0), fz := (m.r7 + w8 (or16 0 (w16 (g (at1 m.pc 1)))) + 0) % 256 == 0, pc := w16 (m.pc + 2), r7 := (m.r7 + w8 (or16 0 (w16 (g (at1 m.pc 1)))) + 0) % 256 }
@[simp] def zc6_1 (m : Mc) (b1 : Int) : Mc := { m with fc := decide (255 < m.r7 + w8 (or16 0 (w16 b1)) + 0), fp := par ((m.r7 + w8 (or16 0 (w16 b1)) + 0) % 256), fs := decide (128 ≤ (m.r7 + w8 (or16 0 (w16 b1)) + 0) % 256), fx := decide (15 < m.r7 % 16 + w8 (or16 0 (w16 b1)) % 16 + 0), fz := (m.r7 + w8 (or16 0 (w16 b1)) + 0) % 256 == 0, pc := w16 (m.pc + 2), r7 := (m.r7 + w8 (or16 0 (w16 b1)) + 0) % 256 }
@[simp] def zc8_0 (m : Mc) (g : Nat → Int) : Mc := { m with pc := or16 (w16 (g (ix (w16 (w16 (m.sp + 2) - 2))))) (w16 (w16 (g (ix (w16 (w16 (w16 (m.sp + 2) - 2) + 1)))) * 256)), sp := w16 (m.sp + 2) }
@[simp] def zc9_0 (m : Mc) (g : Nat → Int) : Mc := { m with pc := or16 (w16 (g (ix (w16 (w16 (m.sp + 2) - 2))))) (w16 (w16 (g (ix (w16 (w16 (w16 (m.sp + 2) - 2) + 1)))) * 256)), sp := w16 (m.sp + 2) }
theorem pc9_0 : endsAt [0, 1] (Ly.run ctx3 3000 [(37, true), (0, true), (0, true), (0, true)] (sP m g 201 b1 b2)) = some (T [rg (w16 (w16 (m.sp + 2) - 2)), bl (ix (w16 (w16 (m.sp + 2) - 2))), rg (w16 (w16 (w16 (m.sp + 2) - 2) + 1)), bl (ix (w16 (w16 (w16 (m.sp + 2) - 2) + 1)))], .int .i64 0, 5, hPm (zc9_0 m g) (memL g)) := by kernel_rfl
theorem pcd_0 : endsAt [0, 1] (Ly.run ctx3 3000 [(50, true), (0, true), (2, true), (0, true)] (sP m g 205 b1 b2)) = some (T [rg (w16 (m.sp - 2)), bl (ix (w16 (m.sp - 2))), rg (w16 (w16 (m.sp - 2) + 1)), bl (ix (w16 (w16 (m.sp - 2) + 1)))], .int .i64 0, 6, hPm { m with pc := or16 (w16 (or16 0 (w16 b2) * 256)) (w16 b1), sp := w16 (m.sp - 2) } (M2 g (ix (w16 (m.sp - 2))) (w8 (w16 (m.pc + 3))) (ix (w16 (w16 (m.sp - 2) + 1))) (w8 ((w16 (m.pc + 3)).fdiv 256)))) := by kernel_rfl
end Go.Proofs.Ytpggoincnebfnaa
namespace Go.Proofs.Ytpggoincnebfnaa
open Go Go.Ly Go.RowKit
variable (m : Mc) (g : Nat → Int) (b1 b2 : Int)
@[simp] def zd0_0 (m : Mc) (g : Nat → Int) : Mc := { m with pc := or16 (w16 (g (ix (w16 (w16 (m.sp + 2) - 2))))) (w16 (w16 (g (ix (w16 (w16 (w16 (m.sp + 2) - 2) + 1)))) * 256)), sp := w16 (m.sp + 2) }
@[simp] def zd1_0 (m : Mc) (g : Nat → Int) : Mc := { m with pc := w16 (m.pc + 1), r2 := w8 ((or16 (w16 (g (ix (w16 (w16 (m.sp + 2) - 2))))) (w16 (w16 (g (ix (w16 (w16 (w16 (m.sp + 2) - 2) + 1)))) * 256))).fdiv 256), r3 := w8 (or16 (w16 (g (ix (w16 (w16 (m.sp + 2) - 2))))) (w16 (w16 (g (ix (w16 (w16 (w16 (m.sp + 2) - 2) + 1)))) * 256))), sp := w16 (m.sp + 2) }
theorem pd1_0 : endsAt [0, 1] (Ly.run ctx3 3000 [(45, true), (0, true), (0, true), (0, true)] (sP m g 209 b1 b2)) = some (T [rg (w16 (w16 (m.sp + 2) - 2)), bl (ix (w16 (w16 (m.sp + 2) - 2))), rg (w16 (w16 (w16 (m.sp + 2) - 2) + 1)), bl (ix (w16 (w16 (w16 (m.sp + 2) - 2) + 1)))], .int .i64 0, 5, hPm (zd1_0 m g) (memL g)) := by kernel_rfl
@[simp] def zd5_0 (m : Mc) : Mc := { m with pc := w16 (m.pc + 1), sp := w16 (m.sp - 2) }
theorem pd5_0 : endsAt [0, 1] (Ly.run ctx3 3000 [(59, true), (0, true), (2, true), (0, true)] (sP m g 213 b1 b2)) = some (T [rg (w16 (m.sp - 2)), bl (ix (w16 (m.sp - 2))), rg (w16 (w16 (m.sp - 2) + 1)), bl (ix (w16 (w16 (m.sp - 2) + 1)))], .int .i64 0, 6, hPm (zd5_0 m) (M2 g (ix (w16 (m.sp - 2))) (w8 (or16 (w16 (w16 m.r2 * 256)) (w16 m.r3))) (ix (w16 (w16 (m.sp - 2) + 1))) (w8 ((or16 (w16 (w16 m.r2 * 256)) (w16 m.r3)).fdiv 256)))) := by kernel_rfl
@[simp] def zd6_0 (m : Mc) (g : Nat → Int) : Mc := { m with fc := decide (m.r7 - w8 (or16 0 (w16 (g (at1 m.pc 1)))) - 0 < 0), fp := par ((m.r7 - w8 (or16 0 (w16 (g (at1 m.pc 1)))) - 0) % 256), fs := decide (128 ≤ (m.r7 - w8 (or16 0 (w16 (g (at1 m.pc 1)))) - 0) % 256), fx := decide (15 < m.r7 % 16 + 15 - w8 (or16 0 (w16 (g (at1 m.pc 1)))) % 16 + 1), fz := (m.r7 - w8 (or16 0 (w16 (g (at1 m.pc 1)))) - 0) % 256 == 0, pc := w16 (m.pc + 2), r7 := (m.r7 - w8 (or16 0 (w16 (g (at1 m.pc 1)))) - 0) % 256 }
@[simp] def zd6_1 (m : Mc) (b1 : Int) : Mc := { m with fc := decide (m.r7 - w8 (or16 0 (w16 b1)) - 0 < 0), fp := par ((m.r7 - w8 (or16 0 (w16 b1)) - 0) % 256), fs := decide (128 ≤ (m.r7 - w8 (or16 0 (w16 b1)) - 0) % 256), fx := decide (15 < m.r7 % 16 + 15 - w8 (or16 0 (w16 b1)) % 16 + 1), fz := (m.r7 - w8 (or16 0 (w16 b1)) - 0) % 256 == 0, pc := w16 (m.pc + 2), r7 := (m.r7 - w8 (or16 0 (w16 b1)) - 0) % 256 }
@[simp] def zd7_0 (m : Mc) : Mc := { m with pc := 16, sp := w16 (m.sp - 2) }
@[simp] def zd8_0 (m : Mc) (g : Nat → Int) : Mc := { m with pc := or16 (w16 (g (ix (w16 (w16 (m.sp + 2) - 2))))) (w16 (w16 (g (ix (w16 (w16 (w16 (m.sp + 2) - 2) + 1)))) * 256)), sp := w16 (m.sp + 2) }
@[simp] def zdf_0 (m : Mc) : Mc := { m with pc := 24, sp := w16 (m.sp - 2) }
end Go.Proofs.Ytpggoincnebfnaa
namespace Go.Proofs.Ytpggoincnebfnaa
open Go Go.Ly Go.RowKit
variable (m : Mc) (g : Nat → Int) (b1 b2 : Int)
@[simp] def ze0_0 (m : Mc) (g : Nat → Int) : Mc := { m with pc := or16 (w16 (g (ix (w16 (w16 (m.sp + 2) - 2))))) (w16 (w16 (g (ix (w16 (w16 (w16 (m.sp + 2) - 2) + 1)))) * 256)), sp := w16 (m.sp + 2) }
@[simp] def ze1_0 (m : Mc) (g : Nat → Int) : Mc := { m with pc := w16 (m.pc + 1), r4 := w8 ((or16 (w16 (g (ix (w16 (w16 (m.sp + 2) - 2))))) (w16 (w16 (g (ix (w16 (w16 (w16 (m.sp + 2) - 2) + 1)))) * 256))).fdiv 256), r5 := w8 (or16 (w16 (g (ix (w16 (w16 (m.sp + 2) - 2))))) (w16 (w16 (g (ix (w16 (w16 (w16 (m.sp + 2) - 2) + 1)))) * 256))), sp := w16 (m.sp + 2) }
theorem pe1_0 : endsAt [0, 1] (Ly.run ctx3 3000 [(45, true), (0, true), (0, true), (0, true)] (sP m g 225 b1 b2)) = some (T [rg (w16 (w16 (m.sp + 2) - 2)), bl (ix (w16 (w16 (m.sp + 2) - 2))), rg (w16 (w16 (w16 (m.sp + 2) - 2) + 1)), bl (ix (w16 (w16 (w16 (m.sp + 2) - 2) + 1)))], .int .i64 0, 5, hPm (ze1_0 m g) (memL g)) := by kernel_rfl
@[simp] def ze3_0 (m : Mc) (g : Nat → Int) : Mc := { m with pc := w16 (m.pc + 1), r4 := w8 ((or16 (w16 (g (ix m.sp))) (w16 (w16 (g (ix (w16 (m.sp + 1)))) * 256))).fdiv 256), r5 := w8 (or16 (w16 (g (ix m.sp))) (w16 (w16 (g (ix (w16 (m.sp + 1)))) * 256))) }
@[simp] def ze5_0 (m : Mc) : Mc := { m with pc := w16 (m.pc + 1), sp := w16 (m.sp - 2) }
theorem pe5_0 : endsAt [0, 1] (Ly.run ctx3 3000 [(59, true), (0, true), (2, true), (0, true)] (sP m g 229 b1 b2)) = some (T [rg (w16 (m.sp - 2)), bl (ix (w16 (m.sp - 2))), rg (w16 (w16 (m.sp - 2) + 1)), bl (ix (w16 (w16 (m.sp - 2) + 1)))], .int .i64 0, 6, hPm (ze5_0 m) (M2 g (ix (w16 (m.sp - 2))) (w8 (or16 (w16 (w16 m.r4 * 256)) (w16 m.r5))) (ix (w16 (w16 (m.sp - 2) + 1))) (w8 ((or16 (w16 (w16 m.r4 * 256)) (w16 m.r5)).fdiv 256)))) := by kernel_rfl
@[simp] def ze6_0 (m : Mc) (g : Nat → Int) : Mc := { m with fc := false, fp := par (and8 m.r7 (w8 (or16 0 (w16 (g (at1 m.pc 1)))))), fs := decide (128 ≤ and8 m.r7 (w8 (or16 0 (w16 (g (at1 m.pc 1)))))), fx := and8 (or8 m.r7 (w8 (or16 0 (w16 (g (at1 m.pc 1)))))) 8 != 0, fz := and8 m.r7 (w8 (or16 0 (w16 (g (at1 m.pc 1))))) == 0, pc := w16 (m.pc + 2), r7 := and8 m.r7 (w8 (or16 0 (w16 (g (at1 m.pc 1))))) }
@[simp] def ze6_1 (m : Mc) (b1 : Int) : Mc := { m with fc := false, fp := par (and8 m.r7 (w8 (or16 0 (w16 b1)))), fs := decide (128 ≤ and8 m.r7 (w8 (or16 0 (w16 b1)))), fx := and8 (or8 m.r7 (w8 (or16 0 (w16 b1)))) 8 != 0, fz := and8 m.r7 (w8 (or16 0 (w16 b1))) == 0, pc := w16 (m.pc + 2), r7 := and8 m.r7 (w8 (or16 0 (w16 b1))) }
@[simp] def ze7_0 (m : Mc) : Mc := { m with pc := 32, sp := w16 (m.sp - 2) }
@[simp] def ze8_0 (m : Mc) (g : Nat → Int) : Mc := { m with pc := or16 (w16 (g (ix (w16 (w16 (m.sp + 2) - 2))))) (w16 (w16 (g (ix (w16 (w16 (w16 (m.sp + 2) - 2) + 1)))) * 256)), sp := w16 (m.sp + 2) }
@[simp] def ze9_0 (m : Mc) : Mc := { m with pc := or16 (w16 (w16 m.r4 * 256)) (w16 m.r5) }
@[simp] def zeb_0 (m : Mc) : Mc := { m with pc := w16 (m.pc + 1), r2 := w8 ((or16 (w16 (w16 m.r4 * 256)) (w16 m.r5)).fdiv 256), r3 := w8 (or16 (w16 (w16 m.r4 * 256)) (w16 m.r5)), r4 := w8 ((or16 (w16 (w16 m.r2 * 256)) (w16 m.r3)).fdiv 256), r5 := w8 (or16 (w16 (w16 m.r2 * 256)) (w16 m.r3)) }
@[simp] def zee_0 (m : Mc) (g : Nat → Int) : Mc := { m with fc := false, fp := par (xor8 m.r7 (w8 (or16 0 (w16 (g (at1 m.pc 1)))))), fs := decide (128 ≤ xor8 m.r7 (w8 (or16 0 (w16 (g (at1 m.pc 1)))))), fx := false, fz := xor8 m.r7 (w8 (or16 0 (w16 (g (at1 m.pc 1))))) == 0, pc := w16 (m.pc + 2), r7 := xor8 m.r7 (w8 (or16 0 (w16 (g (at1 m.pc 1))))) }
@[simp] def zee_1 (m : Mc) (b1 : Int) : Mc := { m with fc := false, fp := par (xor8 m.r7 (w8 (or16 0 (w16 b1)))), fs := decide (128 ≤ xor8 m.r7 (w8 (or16 0 (w16 b1)))), fx := false, fz := xor8 m.r7 (w8 (or16 0 (w16 b1))) == 0, pc := w16 (m.pc + 2), r7 := xor8 m.r7 (w8 (or16 0 (w16 b1))) }
@[simp] def zef_0 (m : Mc) : Mc := { m with pc := 40, sp := w16 (m.sp - 2) }
end Go.Proofs.Ytpggoincnebfnaa
namespace Go.Proofs.Ytpggoincnebfnaa
open Go Go.Ly Go.RowKit
variable (m : Mc) (g : Nat → Int) (b1 b2 : Int)
@[simp] def zf0_0 (m : Mc) (g : Nat → Int) : Mc := { m with pc := or16 (w16 (g (ix (w16 (w16 (m.sp + 2) - 2))))) (w16 (w16 (g (ix (w16 (w16 (w16 (m.sp + 2) - 2) + 1)))) * 256)), sp := w16 (m.sp + 2) }
@[simp] def zf1_0 (m : Mc) (g : Nat → Int) : Mc := { m with fc := w8 (or16 (w16 (g (ix (w16 (w16 (m.sp + 2) - 2))))) (w16 (w16 (g (ix (w16 (w16 (w16 (m.sp + 2) - 2) + 1)))) * 256))) % 2 == 1, fp := w8 (or16 (w16 (g (ix (w16 (w16 (m.sp + 2) - 2))))) (w16 (w16 (g (ix (w16 (w16 (w16 (m.sp + 2) - 2) + 1)))) * 256))) / 4 % 2 == 1, fs := decide (128 ≤ w8 (or16 (w16 (g (ix (w16 (w16 (m.sp + 2) - 2))))) (w16 (w16 (g (ix (w16 (w16 (w16 (m.sp + 2) - 2) + 1)))) * 256)))), fx := w8 (or16 (w16 (g (ix (w16 (w16 (m.sp + 2) - 2))))) (w16 (w16 (g (ix (w16 (w16 (w16 (m.sp + 2) - 2) + 1)))) * 256))) / 16 % 2 == 1, fz := w8 (or16 (w16 (g (ix (w16 (w16 (m.sp + 2) - 2))))) (w16 (w16 (g (ix (w16 (w16 (w16 (m.sp + 2) - 2) + 1)))) * 256))) / 64 % 2 == 1, pc := w16 (m.pc + 1), r7 := w8 ((or16 (w16 (g (ix (w16 (w16 (m.sp + 2) - 2))))) (w16 (w16 (g (ix (w16 (w16 (w16 (m.sp + 2) - 2) + 1)))) * 256))).fdiv 256), sp := w16 (m.sp + 2) }
theorem pf1_0 : endsAt [0, 1] (Ly.run ctx3 3000 [(45, true), (0, true), (0, true), (0, true), (3, true)] (sP m g 241 b1 b2)) = some (T [rg (w16 (w16 (m.sp + 2) - 2)), bl (ix (w16 (w16 (m.sp + 2) - 2))), rg (w16 (w16 (w16 (m.sp + 2) - 2) + 1)), bl (ix (w16 (w16 (w16 (m.sp + 2) - 2) + 1))), inb (w8 (or16 (w16 (g (ix (w16 (w16 (m.sp + 2) - 2))))) (w16 (w16 (g (ix (w16 (w16 (w16 (m.sp + 2) - 2) + 1)))) * 256))))], .int .i64 0, 5, hPm (zf1_0 m g) (memL g)) := by kernel_rfl
@[simp] def zf3_0 (m : Mc) : Mc := { m with ie := false, pc := w16 (m.pc + 1) }
@[simp] def zf5_0 (m : Mc) : Mc := { m with pc := w16 (m.pc + 1), sp := w16 (m.sp - 2) }
theorem pf5_0 : endsAt [0, 1] (Ly.run ctx3 3000 [(59, true), (0, true), (2, true), (0, true)] (sP m g 245 b1 b2)) = some (T [rg (w16 (m.sp - 2)), bl (ix (w16 (m.sp - 2))), rg (w16 (w16 (m.sp - 2) + 1)), bl (ix (w16 (w16 (m.sp - 2) + 1)))], .int .i64 0, 6, hPm (zf5_0 m) (M2 g (ix (w16 (m.sp - 2))) (w8 (or16 (w16 (w16 m.r7 * 256)) (w16 (128 * cI m.fs + 64 * cI m.fz + 16 * cI m.fx + 4 * cI m.fp + 2 + cI m.fc)))) (ix (w16 (w16 (m.sp - 2) + 1))) (w8 ((or16 (w16 (w16 m.r7 * 256)) (w16 (128 * cI m.fs + 64 * cI m.fz + 16 * cI m.fx + 4 * cI m.fp + 2 + cI m.fc))).fdiv 256)))) := by kernel_rfl
@[simp] def zf6_0 (m : Mc) (g : Nat → Int) : Mc := { m with fc := false, fp := par (or8 m.r7 (w8 (or16 0 (w16 (g (at1 m.pc 1)))))), fs := decide (128 ≤ or8 m.r7 (w8 (or16 0 (w16 (g (at1 m.pc 1)))))), fx := false, fz := or8 m.r7 (w8 (or16 0 (w16 (g (at1 m.pc 1))))) == 0, pc := w16 (m.pc + 2), r7 := or8 m.r7 (w8 (or16 0 (w16 (g (at1 m.pc 1))))) }
@[simp] def zf6_1 (m : Mc) (b1 : Int) : Mc := { m with fc := false, fp := par (or8 m.r7 (w8 (or16 0 (w16 b1)))), fs := decide (128 ≤ or8 m.r7 (w8 (or16 0 (w16 b1)))), fx := false, fz := or8 m.r7 (w8 (or16 0 (w16 b1))) == 0, pc := w16 (m.pc + 2), r7 := or8 m.r7 (w8 (or16 0 (w16 b1))) }
@[simp] def zf7_0 (m : Mc) : Mc := { m with pc := 48, sp := w16 (m.sp - 2) }
@[simp] def zf8_0 (m : Mc) (g : Nat → Int) : Mc := { m with pc := or16 (w16 (g (ix (w16 (w16 (m.sp + 2) - 2))))) (w16 (w16 (g (ix (w16 (w16 (w16 (m.sp + 2) - 2) + 1)))) * 256)), sp := w16 (m.sp + 2) }
@[simp] def zf9_0 (m : Mc) : Mc := { m with pc := w16 (m.pc + 1), sp := or16 (w16 (w16 m.r4 * 256)) (w16 m.r5) }
@[simp] def zfb_0 (m : Mc) : Mc := { m with ie := true, pc := w16 (m.pc + 1) }
@[simp] def zfe_0 (m : Mc) (g : Nat → Int) : Mc := { m with fc := decide (m.r7 - w8 (or16 0 (w16 (g (at1 m.pc 1)))) - 0 < 0), fp := par ((m.r7 - w8 (or16 0 (w16 (g (at1 m.pc 1)))) - 0) % 256), fs := decide (128 ≤ (m.r7 - w8 (or16 0 (w16 (g (at1 m.pc 1)))) - 0) % 256), fx := decide (15 < m.r7 % 16 + 15 - w8 (or16 0 (w16 (g (at1 m.pc 1)))) % 16 + 1), fz := (m.r7 - w8 (or16 0 (w16 (g (at1 m.pc 1)))) - 0) % 256 == 0, pc := w16 (m.pc + 2) }
@[simp] def zfe_1 (m : Mc) (b1 : Int) : Mc := { m with fc := decide (m.r7 - w8 (or16 0 (w16 b1)) - 0 < 0), fp := par ((m.r7 - w8 (or16 0 (w16 b1)) - 0) % 256), fs := decide (128 ≤ (m.r7 - w8 (or16 0 (w16 b1)) - 0) % 256), fx := decide (15 < m.r7 % 16 + 15 - w8 (or16 0 (w16 b1)) % 16 + 1), fz := (m.r7 - w8 (or16 0 (w16 b1)) - 0) % 256 == 0, pc := w16 (m.pc + 2) }
@[simp] def zff_0 (m : Mc) : Mc := { m with pc := 56, sp := w16 (m.sp - 2) }
theorem pff_0 : endsAt [0, 1] (Ly.run ctx3 3000 [(44, true), (0, true), (2, true), (0, true)] (sP m g 255 b1 b2)) = some (T [rg (w16 (m.sp - 2)), bl (ix (w16 (m.sp - 2))), rg (w16 (w16 (m.sp - 2) + 1)), bl (ix (w16 (w16 (m.sp - 2) + 1)))], .int .i64 0, 6, hPm (zff_0 m) (M2 g (ix (w16 (m.sp - 2))) (w8 (w16 (m.pc + 1))) (ix (w16 (w16 (m.sp - 2) + 1))) (w8 ((w16 (m.pc + 1)).fdiv 256)))) := by kernel_rfl
theorem rff_0 : endsAt [0, 1, 2] (Ly.run ctx3 3000 [(4, true), (24, true), (0, true), (1, true), (0, true), (0, true), (0, true)] (sR m g 255)) = some (T [inw m.pc && true, inw m.sp && true, inw (w16 (m.sp + -2)) && true, rg (w16 (w16 (m.sp + -2) + 1)), bl (ix (w16 (w16 (m.sp + -2) + 1))), rg (w16 (m.sp + -2)), bl (ix (w16 (m.sp + -2)))], .int .i64 0, 3, hRm { m with pc := 56, sp := w16 (m.sp + -2) } (M2 g (ix (w16 (w16 (m.sp + -2) + 1))) (w8 ((w16 (m.pc + 1)).fdiv 256)) (ix (w16 (m.sp + -2))) (w8 (and16 (w16 (m.pc + 1)) 255)))) := by kernel_rfl
theorem off (hm : m.Ok) (hg : ∀ e, B8 (g e)) (hh : m.halt = false) (h0 : g (ix m.pc) = 255) : Both m g := by
  obtain ⟨r0, r1, r2, r3, r4, r5, r7, sp, pc⟩ := id hm
  exact join (m' := (zff_0 m)) (g' := (upd (upd g (ix (w16 (m.sp - 2))) (w8 (w16 (m.pc + 1)))) (ix (w16 (w16 (m.sp - 2) + 1))) (w8 ((w16 (m.pc + 1)).fdiv 256)))) hm hh h0 (pff_0 m g _ _) (rff_0 m g) (by simp [*]) (by simp [*]) (by decide) (by decide) (eP (m2s rfl rfl rfl rfl)) (eR (by simp [*]) (m2c (by simp [*]) (by simp [*]) (by simp [*]) (by simp [*]) (by simp [*]))) (by constructor <;> simp [*]) (upd_b8 (upd_b8 hg (by simp [*])) (by simp [*]))
end Go.Proofs.Ytpggoincnebfnaa
namespace Go.Proofs.Ytpggoincnebfnaa
open Go Go.Ly Go.RowKit
variable (m : Mc) (g : Nat → Int) (b1 b2 : Int)
end Go.Proofs.Ytpggoincnebfnaa
namespace Go.Proofs.Ytpggoincnebfnaa
open Go Go.Ly Go.RowKit
end Go.Proofs.Ytpggoincnebfnaa
namespace Go.Ly
open Go.RowKit
def RO.fin? : RO → Option (List (Bool × Bool) × Value × Heap)
  | .ok t (.done v H) => some (t, v, H)
  | _ => none
theorem MWp.fin {P : Program} {C : Ctx} {Q : Value → Heap → Prop} (hC : C.Ok P) {S : St} {t : List (Bool × Bool)} {v : Value} {H : Heap} (n : Nat) (p : Path) (h : (run C n p S).fin? = some (t, v, H)) (htr : trusted t) (hq : Q v H) : MWp P S Q := by
  cases hr : run C n p S with
  | no => rw [hr] at h; cases h
  | ok t' l =>
    cases l with
    | halt S' => rw [hr] at h; cases h
    | done v' H' =>
      rw [hr] at h
      simp only [RO.fin?, Option.some.injEq, Prod.mk.injEq] at h
      obtain ⟨rfl, rfl, rfl⟩ := h
      exact run_sound hC n p S _ _ hr htr hq
end Go.Ly
namespace Go.Proofs.Ytpggoincnebfnaa
open Go Go.Ly Go.RowKit
structure NxN (H H' : Heap) (O : List Nat) (m : Nat) : Prop where
  lock : H'.lock = 0
  le : H.next ≤ H'.next
  ge : H'.next ≤ H.next + m
  clean : Ly.Clean H'
  old : ∀ i, i < H.next → i ∉ O → H'.get i = H.get i
def MN (M : Heap → Nat → Js → List Nat → List Nat → Prop) (H : Heap) (p : Nat) (s' : Js) (O V : List Nat) (m : Nat) (H' : Heap) : Prop := NxN H H' O m ∧ ∃ O' V', M H' p s' O' V' ∧ (∀ i ∈ O', i ∈ O ∨ H.next ≤ i) ∧ (∀ i ∈ V', i ∈ V ∨ H.next ≤ i)
theorem MN.step {M : Heap → Nat → Js → List Nat → List Nat → Prop} {H H1 H2 : Heap} {p m : Nat} {s2 : Js} {O V O1 V1 : List Nat} (h1 : Nx H H1 O) (hO : ∀ i ∈ O1, i ∈ O ∨ H.next ≤ i) (hV : ∀ i ∈ V1, i ∈ V ∨ H.next ≤ i) (h2 : MN M H1 p s2 O1 V1 m H2) : MN M H p s2 O V (m + 64) H2 := by
  obtain ⟨⟨a1, a2, a3, a4, a5⟩, O', V', b1, b2, b3⟩ := h2
  refine ⟨⟨a1, by have := h1.le; omega, by have := h1.ge; omega, a4, fun i hi hiO => ?_⟩, O', V', b1, fun i hi => ?_, fun i hi => ?_⟩
  · rw [a5 i (by have := h1.le; omega) (fun h => ?_), h1.old i hi hiO]
    rcases hO i h with h3 | h3
    · exact hiO h3
    · omega
  · rcases b2 i hi with h3 | h3
    · exact hO i h3
    · right; have := h1.le; omega
  · rcases b3 i hi with h3 | h3
    · exact hV i h3
    · right; have := h1.le; omega
theorem MN.of {M : Heap → Nat → Js → List Nat → List Nat → Prop} {H H1 : Heap} {p : Nat} {s1 : Js} {O V O1 V1 : List Nat} (m : Nat) (h1 : Nx H H1 O) (hO : ∀ i ∈ O1, i ∈ O ∨ H.next ≤ i) (hV : ∀ i ∈ V1, i ∈ V ∨ H.next ≤ i) (h : M H1 p s1 O1 V1) : MN M H p s1 O V (m + 64) H1 :=
  ⟨⟨h1.lock, h1.le, by have := h1.ge; omega, h1.clean, h1.old⟩, O1, V1, h, hO, hV⟩
end Go.Proofs.Ytpggoincnebfnaa
namespace Go.Proofs.Ytpggoincnebfnaa
open Go Go.Ly Go.RowKit
def MRowS (w : World) (i : Nat) (a b : Nat → Int) (n : Nat) (loc v : Value) (p : Option Plc) : Prop :=
  (loc = .slice none 0 0 ∧ v = .slice none 0 0 ∧ n = 0 ∧ p = none) ∨ (loc = sls i n ∧ RealRows w 2 (fun e j => match j with | 0 => .int .u16 (a e) | _ + 1 => .int .u8 (b e)) n v p)
theorem m_casesS {w : World} {v : Value} (h : CkOk w (.slice [.int .u16, .int .u8]) v) : ∃ (a b : Nat → Int) (n : Nat) (loc : Value) (p : Option Plc), MRowS w 1 a b n loc v p ∧ (∀ e, e < n → B16 (a e) ∧ B8 (b e)) ∧ n ≤ maxLen := by
  rcases ck_bytes2 h with rfl | ⟨n, a, b, p, hr, hf, hn⟩
  · exact ⟨fun _ => 0, fun _ => 0, 0, .slice none 0 0, none, .inl ⟨rfl, rfl, rfl, rfl⟩, fun e he => by omega, by simp [maxLen]⟩
  · exact ⟨a, b, n, sls 1 n, p, .inr ⟨rfl, hr⟩, hf, hn⟩
theorem calls_startS {W : World} {F : FuncId} {s : Sv} {f a b : Nat → Int} {n k : Nat} {li lm iv mv : Value} {pi pm : Option Plc} {rest : List Value} (hi : InRow W 0 f n li iv pi) (hm : MRowS W 1 a b k lm mv pm) (hp : plainL rest = true)
    (h : LCalls Try.prog F (svV s li lm :: rest) (mkH [some (ints .u8 f n), some (bytes2 a b k)]) (fun u _ => u = .bool true)) :
    Calls Try.prog F ⟨svV s iv mv :: rest⟩ W (fun e W' => e = .returned (.bool true) ∧ Below W.heap.size W W') := by
  have hrep : Rep (rowsRenW [pi, pm] (fun i => if i = 0 then 1 else 2)) (mkH [some (ints .u8 f n), some (bytes2 a b k)]) W := by
    refine rowsW_rep (l := [pi, pm]) (rs := [(1, fun e _ => .int .u8 (f e), n), (2, fun e j => match j with | 0 => .int .u16 (a e) | _ + 1 => .int .u8 (b e), k)]) rfl (by simp) (fun i q hq => ?_) (fun i k' g n' hr => ?_)
    · match i, hq with
      | 0, hq =>
        simp at hq
        rcases hi with ⟨_, _, _, rfl⟩ | ⟨_, hr⟩
        · cases hq
        · exact hr.low q hq
      | 1, hq =>
        simp at hq
        rcases hm with ⟨_, _, _, rfl⟩ | ⟨_, hr⟩
        · cases hq
        · exact hr.low q hq
      | i + 2, hq => simp at hq
    · match i, hr with
      | 0, hr =>
        simp at hr
        obtain ⟨rfl, rfl, rfl⟩ := hr
        refine ⟨rfl, fun e j he hj => ?_⟩
        rcases hi with ⟨_, _, h0, _⟩ | ⟨_, hr⟩
        · omega
        · exact ⟨hr.one e j he hj, hr.cell e j he hj⟩
      | 1, hr =>
        simp at hr
        obtain ⟨rfl, rfl, rfl⟩ := hr
        refine ⟨rfl, fun e j he hj => ?_⟩
        rcases hm with ⟨_, _, h0, _⟩ | ⟨_, hr⟩
        · omega
        · exact ⟨hr.one e j he hj, hr.cell e j he hj⟩
      | i + 2, hr => simp at hr
  have vi : VR (rowsRenW [pi, pm] (fun i => if i = 0 then 1 else 2)) li iv := by
    rcases hi with ⟨rfl, rfl, _, _⟩ | ⟨rfl, hr⟩
    · simp [VR]
    · exact slW_VR hr rfl
  have vm : VR (rowsRenW [pi, pm] (fun i => if i = 0 then 1 else 2)) lm mv := by
    rcases hm with ⟨rfl, rfl, _, _⟩ | ⟨rfl, hr⟩
    · simp [VR]
    · exact VR_sls (slW_VR hr rfl)
  refine calls_ro h rfl ?_ hrep (fun _ => rfl)
  simp only [VRL]
  refine ⟨_, rest, ?_, plainL_VR _ hp, rfl⟩
  simp only [svV, VR, VRL]
  exact ⟨_, ⟨_, _, rfl, ⟨_, _, rfl, ⟨_, _, rfl, ⟨_, _, rfl, ⟨_, _, rfl, ⟨_, _, rfl, ⟨_, _, rfl, ⟨_, _, rfl, ⟨_, _, rfl, ⟨_, _, rfl, ⟨_, _, rfl, ⟨_, _, rfl, ⟨_, _, rfl, ⟨_, _, rfl, ⟨_, _, rfl, ⟨_, _, rfl, ⟨_, _, vi, ⟨_, _, vm, rfl, rfl⟩, rfl⟩, rfl⟩, rfl⟩, rfl⟩, rfl⟩, rfl⟩, rfl⟩, rfl⟩, rfl⟩, rfl⟩, rfl⟩, rfl⟩, rfl⟩, rfl⟩, rfl⟩, rfl⟩, rfl⟩, rfl⟩
end Go.Proofs.Ytpggoincnebfnaa
namespace Go.Proofs.Ytpggoincnebfnaa
open Go Go.Ly Go.RowKit
def Gok (n : Nat) (G : Nat → Nat → Value) : Prop := ∀ e, e < n → ∃ x y, G e 0 = .int .u16 x ∧ G e 1 = .int .u8 y ∧ B16 x ∧ B8 y
theorem Gok.ok {n : Nat} {G : Nat → Nat → Value} (h : Gok n G) (hn : n ≤ 1000) : okM n G = true := by
  unfold okM
  rw [Bool.and_eq_true, Nat.ble_eq, List.all_eq_true]
  refine ⟨hn, fun e he => ?_⟩
  obtain ⟨x, y, h1, h2, h3, h4⟩ := h e (List.mem_range.1 he)
  rw [h1, h2]
  simp [isK, kbeq, intV, h3]
theorem Gok.mem {n : Nat} {G : Nat → Nat → Value} (h : Gok n G) : Mem (memF (atOf G) (byOf G) n) := by
  refine memF_mem n fun e he => ?_
  obtain ⟨x, y, h1, h2, h3, h4⟩ := h e he
  show B8 (intV (G e 1))
  rw [h2]; exact h4
theorem Gok.nil {G : Nat → Nat → Value} : Gok 0 G := fun e he => by omega
theorem Gok.cons {n : Nat} {x y : Int} {l : List Value} (hx : B16 x) (hy : B8 y) (h : Gok n (lstG 2 n l)) : Gok (n + 1) (lstG 2 (n + 1) (.int .u16 x :: .int .u8 y :: l)) := fun e he => by
  cases n with
  | zero =>
    obtain rfl : e = 0 := by omega
    exact ⟨x, y, rfl, rfl, hx, hy⟩
  | succ n =>
    cases e with
    | zero => exact ⟨x, y, by rw [lstG, vif_eq]; rfl, by rw [lstG, vif_eq]; rfl, hx, hy⟩
    | succ e =>
      obtain ⟨u, v, h1, h2, h3⟩ := h e (by omega)
      have e1 : Nat.beq (e + 1) 0 = false := rfl
      exact ⟨u, v, by rw [lstG, vif_eq, e1]; exact h1, by rw [lstG, vif_eq, e1]; exact h2, h3⟩
def mOf (s : Sv) : Mc := ⟨s.r0, s.r1, s.r2, s.r3, s.r4, s.r5, s.r7, s.fs, s.fz, s.fx, s.fp, s.fc, s.sp, s.pc, s.ie, false⟩
structure Opened (H : Heap) (p r : Nat) (s : Js) (O V O2 V2 : List Nat) : Prop where
  lock : H.lock = 0
  clean : Ly.Clean H
  P : PM H p s O V
  R : RM H r s O2 V2
  apart : Apart V V2
end Go.Proofs.Ytpggoincnebfnaa
namespace Go.Proofs.Ytpggoincnebfnaa
open Go Go.Ly Go.RowKit
abbrev TrueAt (F : FuncId) (args : List Value) (r0 r1 : LO) : Prop := LCalls Try.prog F args (mkH [some r0, some r1]) (fun u _ => u = .bool true)
theorem start_law {W : World} {F : FuncId} {v : Value} {rest : List Value} (h : ∃ cs, v = .agg ⟨cs⟩ ∧ CksOk W [.int .u8, .int .u8, .int .u8, .int .u8, .int .u8, .int .u8, .int .u8, .int .u8, .bool, .bool, .bool, .bool, .bool, .int .u16, .int .u16, .bool, .slice [.int .u8], .slice [.int .u16, .int .u8]] cs) (hp : plainL rest = true)
    (hNN : ∀ (s : Sv) (n k : Nat) (f fa fb : Nat → Int), s.Ok → TrueAt F (svV s nilS nilS :: rest) (ints .u8 f n) (bytes2 fa fb k))
    (hNE : ∀ (s : Sv) (n k : Nat) (f fa fb : Nat → Int), s.Ok → TrueAt F (svV s nilS (sls 1 0) :: rest) (ints .u8 f n) (bytes2 fa fb 0))
    (hNR : ∀ (s : Sv) (n k : Nat) (f fa fb : Nat → Int), s.Ok → (∀ e, e < k + 1 → B16 (fa e) ∧ B8 (fb e)) → TrueAt F (svV s nilS (sls 1 (k + 1)) :: rest) (ints .u8 f n) (bytes2 fa fb (k + 1)))
    (hEN : ∀ (s : Sv) (n k : Nat) (f fa fb : Nat → Int), s.Ok → TrueAt F (svV s (sl 0 0) nilS :: rest) (ints .u8 f 0) (bytes2 fa fb k))
    (hEE : ∀ (s : Sv) (n k : Nat) (f fa fb : Nat → Int), s.Ok → TrueAt F (svV s (sl 0 0) (sls 1 0) :: rest) (ints .u8 f 0) (bytes2 fa fb 0))
    (hER : ∀ (s : Sv) (n k : Nat) (f fa fb : Nat → Int), s.Ok → (∀ e, e < k + 1 → B16 (fa e) ∧ B8 (fb e)) → TrueAt F (svV s (sl 0 0) (sls 1 (k + 1)) :: rest) (ints .u8 f 0) (bytes2 fa fb (k + 1)))
    (hRN : ∀ (s : Sv) (n k : Nat) (f fa fb : Nat → Int), s.Ok → (∀ e, e < n + 1 → B8 (f e)) → TrueAt F (svV s (sl 0 (n + 1)) nilS :: rest) (ints .u8 f (n + 1)) (bytes2 fa fb k))
    (hRE : ∀ (s : Sv) (n k : Nat) (f fa fb : Nat → Int), s.Ok → (∀ e, e < n + 1 → B8 (f e)) → TrueAt F (svV s (sl 0 (n + 1)) (sls 1 0) :: rest) (ints .u8 f (n + 1)) (bytes2 fa fb 0))
    (hRR : ∀ (s : Sv) (n k : Nat) (f fa fb : Nat → Int), s.Ok → (∀ e, e < n + 1 → B8 (f e)) → (∀ e, e < k + 1 → B16 (fa e) ∧ B8 (fb e)) → TrueAt F (svV s (sl 0 (n + 1)) (sls 1 (k + 1)) :: rest) (ints .u8 f (n + 1)) (bytes2 fa fb (k + 1))) :
    Calls Try.prog F ⟨v :: rest⟩ W (fun e W' => e = .returned (.bool true) ∧ Below W.heap.size W W') := by
  obtain ⟨s, iv, mv, hs, rfl, hi, hm⟩ := sv_open h
  obtain ⟨f, n, li, pi, hI, hf, _⟩ := in_cases hi
  obtain ⟨a, b, k, lm, pm, hM, hb, _⟩ := m_casesS hm
  refine calls_startS hI hM hp ?_
  rcases hI with ⟨rfl, _, _, _⟩ | ⟨rfl, _⟩ <;> rcases hM with ⟨rfl, _, _, _⟩ | ⟨rfl, _⟩
  · exact hNN s n k f a b hs
  · rcases k with _ | k
    · exact hNE s n 0 f a b hs
    · exact hNR s n k f a b hs hb
  · rcases n with _ | n
    · exact hEN s 0 k f a b hs
    · exact hRN s n k f a b hs hf
  · rcases n with _ | n <;> rcases k with _ | k
    · exact hEE s 0 0 f a b hs
    · exact hER s 0 k f a b hs hb
    · exact hRE s n 0 f a b hs hf
    · exact hRR s n k f a b hs hf hb
end Go.Proofs.Ytpggoincnebfnaa
namespace Go.Proofs.Ytpggoincnebfnaa
open Go Go.Ly Go.RowKit
def GA (L : List Value) (c : Nat) : Nat → Nat → Value := lstG 2 c L
def gm (G : Nat → Nat → Value) (c : Nat) : Nat → Int := memF (atOf G) (byOf G) c
def gs (g : Nat → Int) : Nat → Int := fun e => g (0 + e)
theorem gs_eq (g : Nat → Int) : gs g = g := by funext e; unfold gs; rw [Nat.zero_add]
def tLi (n : Nat) : Bool × Bool := (decide (((n + 1 : Nat) : Int) ≤ 300) == true, true)
def tMx (n : Nat) : Bool × Bool := (decide ((256 : Int) < ((n + 1 : Nat) : Int)), false)
def tOk (G : Nat → Nat → Value) (c : Nat) : Bool × Bool := (okM c G, true)
def tR1 (k : Nat) : Bool × Bool := (Nat.ble (0 + (k + 1)) (k + 1) && (true && Nat.ble (0 + (k + 1)) 4294967296), true)
theorem tLi_ok {n : Nat} (h : n + 1 ≤ 300) : trusted [tLi n] := ⟨by show (decide (((n + 1 : Nat) : Int) ≤ 300) == true) = true; rw [decide_eq_true (by omega)]; rfl, trivial⟩
theorem tMx_ok {n : Nat} (h : n + 1 ≤ 256) : trusted [tMx n] := ⟨by show decide ((256 : Int) < ((n + 1 : Nat) : Int)) = false; exact decide_eq_false (by omega), trivial⟩
theorem tOk_ok {G : Nat → Nat → Value} {c : Nat} (h : Gok c G) (hc : c ≤ 1000) : trusted [tOk G c] := ⟨h.ok hc, trivial⟩
theorem tR1_ok {k : Nat} (h : k ≤ 1000) : trusted [tR1 k] := by
  refine ⟨?_, trivial⟩
  show (Nat.ble (0 + (k + 1)) (k + 1) && (true && Nat.ble (0 + (k + 1)) 4294967296)) = true
  rw [Nat.zero_add, Bool.and_eq_true, Bool.and_eq_true, Nat.ble_eq, Nat.ble_eq]
  exact ⟨Nat.le_refl _, rfl, by omega⟩
theorem tr_cons {x : Bool × Bool} {l : List (Bool × Bool)} (h : trusted [x]) (k : trusted l) : trusted (x :: l) := ⟨h.1, k⟩
end Go.Proofs.Ytpggoincnebfnaa
namespace Go.Proofs.Ytpggoincnebfnaa
open Go Go.Ly Go.RowKit
theorem P_any {H : Heap} {p b : Nat} {m m' : Mc} {g g' : Nat → Int} {iv ov : Value} {k : Int} (h1 : H.get p = some (.cells (cellsPb b 0 m iv ov) 60)) (h2 : H.get b = some (memL g)) (hpb : p ≠ b) (hn1 : noTok iv = true) (hn2 : noTok ov = true) (hl : H.lock = 0) (hc : Ly.Clean H) (hb : H.next + 64 < big)
    (he : Ly.Ends Try.prog 13 [ptr 0] (hP m g) [0, 1] (.int .i64 k) 64 (hP m' g')) :
    LCalls Try.prog 13 [ptr p] H (fun u K => u = .int .i64 k ∧ K.lock = 0 ∧ K.next = H.next + 62 ∧ K.get p = some (.cells (cellsPb b 0 m' iv ov) 60) ∧ K.get b = some (memL g') ∧ ∀ i, i < H.next → i ≠ p → i ≠ b → K.get i = H.get i) := by
  refine LCalls.ltn fun hlt hsm => ?_
  have hnp := hlt _ _ h1
  have hnd : [p, b].Nodup := by simp [hpb]
  have hget := fun i => Heap.get_put (H := H) (o := .cells (tokAt [17, 18] 0 (cellsPb b 0 m iv ov)) 60) (Nat.lt_trans hnp hsm) i
  have hs : Sit (H.put p (.cells (tokAt [17, 18] 0 (cellsPb b 0 m iv ov)) 60)) (hP m g) [p, b] := by
    refine ⟨hl, rfl, hnd, fun i o hi => ?_⟩
    rcases i with _ | _ | i
    · simp only [hP, List.getElem?_cons_zero, Option.some.injEq] at hi; subst hi
      show (H.put p _).get p = _
      rw [hget, if_pos rfl]; rfl
    · simp only [hP, List.getElem?_cons_succ, List.getElem?_cons_zero, Option.some.injEq] at hi; subst hi
      show (H.put p _).get b = _
      rw [hget, if_neg hpb.symm, h2]; rfl
    · simp [hP] at hi
  have key : LCalls Try.prog 13 [ptr p] H _ := he.madeTok (c := cellsPb b 0 m iv ov) (t := 60) (ps := [17, 18]) (b0 := p) (L := [p, b]) (by rfl) hl h1 (by simp) hs hb hc (by rfl) (by rfl) (by rfl) (by
    intro o ho x hx
    simp only [hP, List.mem_cons, List.not_mem_nil, or_false] at ho
    rcases ho with rfl | rfl <;> (simp only [Option.some.injEq] at hx; subst hx)
    · refine ⟨rfl, ?_⟩
      show noTokL (cellsPb b 0 m' iv ov) = true
      rw [noP, hn1, hn2]; rfl
    · exact ⟨rfl, rfl⟩)
  refine key.mono ?_
  rintro u K ⟨rfl, hM⟩
  exact ⟨rfl, hM.lock, by rw [hM.next]; rfl, hM.now 0 0 _ rfl rfl, hM.now 1 1 _ rfl rfl, fun i hi hp hb => hM.old i hi (by simp [hp, hb])⟩
def takeI {β : Type} (k : IntKind) (cs : List Value) (f : Int → List Value → Option β) : Option β :=
  match cs with
  | .int k' n :: r => bif kbeq k' k then f n r else none
  | _ => none
def takeB {β : Type} (cs : List Value) (f : Bool → List Value → Option β) : Option β :=
  match cs with
  | .bool n :: r => f n r
  | _ => none
theorem takeI_some {β : Type} {k : IntKind} {cs : List Value} {f : Int → List Value → Option β} {x : β} (h : takeI k cs f = some x) : ∃ n r, cs = .int k n :: r ∧ f n r = some x := by
  unfold takeI at h
  split at h
  · rename_i k' n r
    cases hk : kbeq k' k with
    | false => rw [hk] at h; cases h
    | true => rw [hk] at h; rw [kbeq_eq hk]; exact ⟨n, r, rfl, h⟩
  · cases h
theorem takeB_some {β : Type} {cs : List Value} {f : Bool → List Value → Option β} {x : β} (h : takeB cs f = some x) : ∃ n r, cs = .bool n :: r ∧ f n r = some x := by
  unfold takeB at h
  split at h
  · exact ⟨_, _, rfl, h⟩
  · cases h
def takeE (m : Mc) (z : Int) (cs : List Value) : Option (Mc × Value × Value × Nat) :=
  match cs with
  | [i, o, .slice (some ⟨b, 0, none⟩) n c] => bif (z == 0) && (Nat.beq n 65536 && Nat.beq c 18446744073709551616) then some (m, i, o, b) else none
  | _ => none
theorem takeE_some {m : Mc} {z : Int} {cs : List Value} {x : Mc × Value × Value × Nat} (h : takeE m z cs = some x) : z = 0 ∧ x.1 = m ∧ cs = [x.2.1, x.2.2.1, sl x.2.2.2 65536] := by
  unfold takeE at h
  split at h
  · rename_i i o b n c
    cases hz : ((z == 0) && (Nat.beq n 65536 && Nat.beq c 18446744073709551616)) with
    | false => rw [hz] at h; cases h
    | true =>
      rw [hz] at h
      simp only [cond_true, Option.some.injEq] at h
      subst h
      simp only [Bool.and_eq_true, beq_iff_eq] at hz
      obtain ⟨h1, h2, h3⟩ := hz
      have h2 := Nat.eq_of_beq_eq_true h2
      have h3 := Nat.eq_of_beq_eq_true h3
      subst h2 h3
      exact ⟨h1, rfl, rfl⟩
  · cases h
def asM (cs : List Value) : Option (Mc × Value × Value × Nat) := takeI .u8 cs fun r0 cs => takeI .u8 cs fun r1 cs => takeI .u8 cs fun r2 cs => takeI .u8 cs fun r3 cs => takeI .u8 cs fun r4 cs => takeI .u8 cs fun r5 cs => takeI .u8 cs fun z cs => takeI .u8 cs fun r7 cs => takeB cs fun fs cs => takeB cs fun fz cs => takeB cs fun fx cs => takeB cs fun fp cs => takeB cs fun fc cs => takeI .u16 cs fun sp cs => takeI .u16 cs fun pc cs => takeB cs fun ie cs => takeB cs fun halt cs => takeE ⟨r0, r1, r2, r3, r4, r5, r7, fs, fz, fx, fp, fc, sp, pc, ie, halt⟩ z cs
theorem asM_some {cs : List Value} {m : Mc} {i o : Value} {b : Nat} (h : asM cs = some (m, i, o, b)) : cs = cellsPb b 0 m i o := by
  unfold asM at h
  obtain ⟨a0, c0, e0, h0⟩ := takeI_some h
  clear h
  subst e0
  obtain ⟨a1, c1, e1, h1⟩ := takeI_some h0
  clear h0
  subst e1
  obtain ⟨a2, c2, e2, h2⟩ := takeI_some h1
  clear h1
  subst e2
  obtain ⟨a3, c3, e3, h3⟩ := takeI_some h2
  clear h2
  subst e3
  obtain ⟨a4, c4, e4, h4⟩ := takeI_some h3
  clear h3
  subst e4
  obtain ⟨a5, c5, e5, h5⟩ := takeI_some h4
  clear h4
  subst e5
  obtain ⟨a6, c6, e6, h6⟩ := takeI_some h5
  clear h5
  subst e6
  obtain ⟨a7, c7, e7, h7⟩ := takeI_some h6
  clear h6
  subst e7
  obtain ⟨a8, c8, e8, h8⟩ := takeB_some h7
  clear h7
  subst e8
  obtain ⟨a9, c9, e9, h9⟩ := takeB_some h8
  clear h8
  subst e9
  obtain ⟨a10, c10, e10, h10⟩ := takeB_some h9
  clear h9
  subst e10
  obtain ⟨a11, c11, e11, h11⟩ := takeB_some h10
  clear h10
  subst e11
  obtain ⟨a12, c12, e12, h12⟩ := takeB_some h11
  clear h11
  subst e12
  obtain ⟨a13, c13, e13, h13⟩ := takeI_some h12
  clear h12
  subst e13
  obtain ⟨a14, c14, e14, h14⟩ := takeI_some h13
  clear h13
  subst e14
  obtain ⟨a15, c15, e15, h15⟩ := takeB_some h14
  clear h14
  subst e15
  obtain ⟨a16, c16, e16, h16⟩ := takeB_some h15
  clear h15
  subst e16
  obtain ⟨rfl, h1, rfl⟩ := takeE_some h16
  simp only at h1
  subst h1
  rfl
def IsMem (G : Nat → Nat → Value) : Prop := ∀ e, e < 65536 → G e 0 = .int .u8 (intV (G e 0))
structure Ent where
  op : Int
  grd : Mc → (Nat → Int) → Bool
  mf : Mc → (Nat → Int) → Mc
  gf : Mc → (Nat → Int) → Nat → Int
def Ent.Ok (e : Ent) : Prop := ∀ m g, m.halt = false → inw m.pc = true → g (ix m.pc) = e.op → e.grd m g = true → Ly.Ends Try.prog 13 [ptr 0] (hP m g) [0, 1] (.int .i64 0) 64 (hP (e.mf m g) (e.gf m g))
def afterE (H : Heap) (p b : Nat) (m' : Mc) (g' : Nat → Int) (i o : Value) : Heap := { m := (H.m.set p (some (.cells (cellsPb b 0 m' i o) 60))).set b (some (memL g')), next := H.next + 62, lock := 0 }
def entE (H : Heap) (p b : Nat) (m : Mc) (g : Nat → Int) (i o : Value) : List Ent → ER
  | [] => .no
  | e :: l => .tst (g (ix m.pc) == e.op) (.tst (e.grd m g) (.mem (.int .i64 0) (afterE H p b (e.mf m g) (e.gf m g) i o)) .no) (entE H p b m g i o l)
def stepB (l : List Ent) (H : Heap) (p : Nat) (m : Mc) (i o : Value) (b : Nat) : ER :=
  match H.get b with
  | some (.fn k G n t) =>
    bif (Nat.beq k 1 && (Nat.beq n 65536 && Nat.beq t 5)) && ((!(Nat.beq p b) && (noTok i && noTok o)) && (Nat.beq H.lock 0 && (cleanB H H.next && Nat.blt (H.next + 64) 2147483000))) then
      .tst m.halt .no (.tst (inw m.pc) (.tst (cdec (IsMem G)) (entE H p b m (fun e => intV (G e 0)) i o l) .no) .no)
    else .no
  | _ => .no
def stepE (l : List Ent) (H : Heap) (args : List Value) : ER :=
  match args with
  | [.pointer (some ⟨p, 0, none⟩)] =>
    (match H.get p with
    | some (.cells cs t) => bif Nat.beq t 60 then (match asM cs with
      | some (m, i, o, b) => stepB l H p m i o b
      | none => .no) else .no
    | _ => .no)
  | _ => .no
theorem HGood_mem {f : Nat} {args : List Value} {H K : Heap} {v : Value} (h : LCalls Try.prog f args H (fun u K' => u = v ∧ K' = K)) : HGood Try.prog f args H (.mem v K) := h
theorem entE_good {H : Heap} {p b : Nat} {m : Mc} {g : Nat → Int} {i o : Value} {x : LO} (h1 : H.get p = some (.cells (cellsPb b 0 m i o) 60)) (h2 : H.get b = some x) (hx : LOeq x (memL g)) (hpb : p ≠ b) (hn1 : noTok i = true) (hn2 : noTok o = true) (hl : H.lock = 0) (hcb : cleanB H H.next = true) (hb : H.next + 64 < big) (hh : m.halt = false) (hpc : inw m.pc = true) :
    ∀ (l : List Ent), (∀ e ∈ l, e.Ok) → HGood Try.prog 13 [ptr p] H (entE H p b m g i o l)
  | [], _ => trivial
  | e :: l, hok => by
    refine ⟨fun h3 => ⟨fun h4 => HGood_mem ?_, fun _ => trivial⟩, fun _ => entE_good h1 h2 hx hpb hn1 hn2 hl hcb hb hh hpc l fun e' he' => hok e' (by simp [he'])⟩
    simp only [beq_iff_eq] at h3
    refine LCalls.ltn fun hlt hsm => ?_
    have hp := Nat.lt_trans (hlt _ _ h1) hsm
    have hb' := Nat.lt_trans (hlt _ _ h2) hsm
    have hc : Ly.Clean H := fun i o ho => cleanB_spec H.next hcb i (hlt i o ho) o ho
    have hget := fun i => Heap.get_put (H := H) (o := memL g) hb' i
    have hw : WeakH H (H.put b (memL g)) := ⟨rfl, rfl, fun j y hy => by
      rw [hget] at hy
      split at hy
      · rename_i hj; subst hj; simp only [Option.some.injEq] at hy; subst hy; exact ⟨_, h2, .inr hx⟩
      · exact ⟨y, hy, OW.refl _⟩⟩
    have hcK : Ly.Clean (H.put b (memL g)) := by
      intro j y hy
      rw [hget] at hy
      split at hy
      · simp only [Option.some.injEq] at hy; subst hy; rfl
      · exact hc j y hy
    refine (LCalls.weak hw (P_any (H := H.put b (memL g)) (by rw [hget, if_neg hpb]; exact h1) (by rw [hget, if_pos rfl]) hpb hn1 hn2 hl hcK hb (hok e (by simp) m g hh hpc h3 h4))).weakQ ?_
    rintro v K ⟨rfl, k1, k2, k3, k4, k5⟩
    refine ⟨_, ⟨rfl, rfl⟩, by rw [k2]; rfl, k1.symm, fun j y hy => ?_⟩
    have e1 : (afterE H p b (e.mf m g) (e.gf m g) i o).get j = if j = b then some (memL (e.gf m g)) else if j = p then some (.cells (cellsPb b 0 (e.mf m g) i o) 60) else H.get j := by
      show ((H.m.set p _).set b _).get j = _
      rw [Tr.get_set _ _ _ hb', Tr.get_set _ _ _ hp]; rfl
    rw [e1] at hy
    split at hy
    · rename_i hj; subst hj; simp only [Option.some.injEq] at hy; subst hy; exact ⟨_, k4, OW.refl _⟩
    · rename_i hj
      split at hy
      · rename_i hj2; subst hj2; simp only [Option.some.injEq] at hy; subst hy; exact ⟨_, k3, OW.refl _⟩
      · rename_i hj2
        refine ⟨y, ?_, OW.refl _⟩
        rw [k5 j (hlt _ _ hy) hj2 hj, hget, if_neg hj]; exact hy
theorem stepE_good {l : List Ent} (hok : ∀ e ∈ l, e.Ok) (H : Heap) (args : List Value) : HGood Try.prog 13 args H (stepE l H args) := by
  unfold stepE
  split
  · rename_i p
    split
    · rename_i cs t hcs
      cases ht : Nat.beq t 60 with
      | false => exact trivial
      | true =>
        have ht := Nat.eq_of_beq_eq_true ht
        subst ht
        simp only [cond_true]
        split
        · rename_i m i o b hm
          have e0 := asM_some hm
          subst e0
          unfold stepB
          split
          · rename_i k G n t hb
            cases hg : ((Nat.beq k 1 && (Nat.beq n 65536 && Nat.beq t 5)) && ((!(Nat.beq p b) && (noTok i && noTok o)) && (Nat.beq H.lock 0 && (cleanB H H.next && Nat.blt (H.next + 64) 2147483000)))) with
            | false => exact trivial
            | true =>
              simp only [Bool.and_eq_true, Bool.not_eq_true', Nat.blt_eq] at hg
              obtain ⟨⟨g1, g2, g3⟩, ⟨g4, g5, g6⟩, g7, g8, g9⟩ := hg
              have g1 := Nat.eq_of_beq_eq_true g1
              have g2 := Nat.eq_of_beq_eq_true g2
              have g3 := Nat.eq_of_beq_eq_true g3
              have g7 := Nat.eq_of_beq_eq_true g7
              subst g1 g2 g3
              simp only [cond_true]
              refine ⟨fun _ => trivial, fun hh => ⟨fun hpc => ⟨fun hM => ?_, fun _ => trivial⟩, fun _ => trivial⟩⟩
              have hM := cdec_of hM
              have hpb : p ≠ b := by intro e; rw [e, Nat.beq_refl] at g4; cases g4
              have eq1 : LOeq (.fn 1 G 65536 5) (memL fun e => intV (G e 0)) := .inr ⟨1, _, _, _, _, rfl, rfl, fun e j he hj => by
                obtain rfl : j = 0 := by omega
                exact hM e he⟩
              exact entE_good hcs hb eq1 hpb g5 g6 g7 g8 g9 hh hpc l hok
          · exact trivial
        · exact trivial
    · exact trivial
  · exact trivial
end Go.Proofs.Ytpggoincnebfnaa
end
