/- Part 14 of the texts that the law needs, laid together. By program (pack.py). -/
import Derived.Test.YtnknopebjdgdjaaPfm
import Derived.KernelRfl
set_option linter.unusedVariables false
set_option linter.unusedSimpArgs false
noncomputable section
namespace Go.Proofs.Ytnknopebjdgdjaa
open Go Go.Ly Go.RowKit
def lo8 (x : Int) : Int := IntKind.u16.wrap (IntKind.u8.wrap (x.fdiv 1))
def hi8 (x : Int) : Int := IntKind.u16.wrap (IntKind.u8.wrap (x.fdiv 256))
def slo (x v : Int) : Int := bits .or .u16 (bits .andNot .u16 x 255) (IntKind.u16.wrap (IntKind.u16.wrap (IntKind.u8.wrap v) * 1))
def shi (x v : Int) : Int := bits .or .u16 (bits .andNot .u16 x 65280) (IntKind.u16.wrap (IntKind.u16.wrap (IntKind.u8.wrap v) * 256))
def ipN (m : Mc) (sz : Int) : Int := IntKind.u16.wrap (m.ip + IntKind.u16.wrap sz)
def adr (x : Int) : Nat := 0 + x.toNat * 1
def ldB (h : Nat → Int) (x : Int) : Int := IntKind.u16.wrap (h (adr x))
def tJ0 (op : Int) (l : List (Bool × Bool)) : List (Bool × Bool) := (op == 32, false) :: (op == 33, false) :: (op == 34, false) :: (op == 42, false) :: (op == 43, false) :: (op == 44, false) :: (op == 45, false) :: (op == 48, false) :: (op == 49, false) :: (op == 50, false) :: (op == 51, false) :: (decide (20 ≤ op) == true, false) :: (decide (30 ≤ op), false) :: (op == 1, false) :: (decide (op ≤ 9), true) :: l
def pJ0 (c : Nat) (l : Path) : Path := (c, false) :: (0, false) :: (0, false) :: (0, false) :: (0, false) :: (0, false) :: (0, false) :: (0, false) :: (0, false) :: (0, false) :: (0, false) :: (1, false) :: (6, false) :: (0, false) :: (0, true) :: l
def tJ1 (op : Int) (l : List (Bool × Bool)) : List (Bool × Bool) := (op == 32, false) :: (op == 33, false) :: (op == 34, false) :: (op == 42, false) :: (op == 43, false) :: (op == 44, false) :: (op == 45, false) :: (op == 48, false) :: (op == 49, false) :: (op == 50, false) :: (op == 51, false) :: (decide (20 ≤ op) == true, false) :: (decide (30 ≤ op), false) :: (op == 1, false) :: (decide (op ≤ 9), false) :: (decide (op ≤ 11), true) :: l
def pJ1 (c : Nat) (l : Path) : Path := (c, false) :: (0, false) :: (0, false) :: (0, false) :: (0, false) :: (0, false) :: (0, false) :: (0, false) :: (0, false) :: (0, false) :: (0, false) :: (1, false) :: (6, false) :: (0, false) :: (0, false) :: (0, true) :: l
def kOf (op : Int) : Int := IntKind.i64.wrap (op - 2)
def sumG (op : Int) : Bool := decide (0 ≤ kOf op) && decide (kOf op < 8) && true
def nSum (m : Mc) (op a b : Int) : Int := sN (cyI m.fc (kOf op)) (kOf op) a b
def xSum (m : Mc) (op a b : Int) : Bool := sX (cyI m.fc (kOf op)) (kOf op) a b
def kInc (op : Int) : Int := IntKind.i64.wrap (IntKind.i64.wrap (op.tdiv 11) * 5)
def incG (op : Int) : Bool := decide (0 ≤ kInc op) && decide (kInc op < 8) && true
def nInc (m : Mc) (op a : Int) : Int := sN (cyI m.fc (kInc op)) (kInc op) a 1
def xInc (m : Mc) (op a : Int) : Bool := sX (cyI m.fc (kInc op)) (kInc op) a 1
def in8M (m : Mc) (k : Int) (op a : Int) : Mc := { m with fs := f8s (nInc m op a), fz := f8z (nInc m op a), fx := xInc m op a, fp := f8p (nInc m op a), ip := ipN m k }
def in16M (m : Mc) (k : Int) (op a : Int) : Mc := { m with fs := f16s (nInc m op a), fz := f16z (nInc m op a), fx := xInc m op a, fp := f16p (nInc m op a), ip := ipN m k }
def tpB (t v : Int) : Bool := bits .and .u16 v t != 0
def upL (k : Int) (v : Int) : Int := bits .and .u16 (bits .or .u16 (IntKind.u16.wrap (v * 2)) 1) k
def upR (k : Int) (v : Int) : Int := bits .and .u16 (IntKind.u16.wrap (v * 2)) k
def dnT (t v : Int) : Int := bits .or .u16 (v.fdiv 2) t
def nadr (x : Int) : Int := IntKind.u16.wrap (x + 1)
def ldW (h : Nat → Int) (x : Int) : Int := bits .or .u16 (IntKind.u16.wrap (h (adr x))) (IntKind.u16.wrap (IntKind.u16.wrap (h (adr (nadr x))) * 256))
def stB (h : Nat → Int) (x v : Int) : LO := .fn 1 (updG (fun e _ => .int .u8 (h e)) (adr x) 0 [.int .u8 (IntKind.u8.wrap v)]) 65536 5
def stW (h : Nat → Int) (x v : Int) : LO := .fn 1 (updG (updG (fun e _ => .int .u8 (h e)) (adr x) 0 [.int .u8 (IntKind.u8.wrap v)]) (adr (nadr x)) 0 [.int .u8 (IntKind.u8.wrap (v.fdiv 256))]) 65536 5
def hQ (m : Mc) (g : Nat → Int) (d : LO) : List (Option LO) := [some (.cells (cellsPb 1 2 m (tokV 16) (tokV 17)) 54), some (memL g), some d]
def fl8M (m : Mc) (k : Int) (op a b : Int) : Mc := { m with fs := f8s (nSum m op a b), fz := f8z (nSum m op a b), fx := xSum m op a b, fp := f8p (nSum m op a b), fc := f8c (nSum m op a b), ip := ipN m k }
def fl16M (m : Mc) (k : Int) (op a b : Int) : Mc := { m with fs := f16s (nSum m op a b), fz := f16z (nSum m op a b), fx := xSum m op a b, fp := f16p (nSum m op a b), fc := f16c (nSum m op a b), ip := ipN m k }
abbrev eD (p : Path) (m : Mc) (g h : Nat → Int) (op d s n sz : Int) : Option (List (Bool × Bool) × Value × Nat × List (Option LO)) := endsAt [0, 1, 2] (Ly.run qtx4 3000 p (bS m g h op d s n sz))
abbrev oD (t : List (Bool × Bool)) (nx : Nat) (r : List (Option LO)) : Option (List (Bool × Bool) × Value × Nat × List (Option LO)) := some (t, .int .i64 0, nx, r)
end Go.Proofs.Ytnknopebjdgdjaa
namespace Go.Ly
open Go.RowKit
section
variable {P : Program} {Q : Value → Heap → Prop}
theorem MWp.few {S : St} {I : List Nat} {os : List LO} {n : Nat} (hl : S.H.lock = 0) (hn : S.H.next ≤ n) (hb : n < big) (hI : I.length = os.length) (hnd : I.Nodup) (hlt : ∀ b ∈ I, b < big)
    (h : ∀ (j b : Nat) (o : LO), I[j]? = some b → os[j]? = some o → ∃ x, S.H.get b = some x ∧ OW x o) (hs : MWp P { S with H := vH I (os.map some) n } Q) : MWp P S Q := by
  intro ρ w g gs R hr hf hfs hR
  obtain ⟨h1, h2⟩ := setZip_get I (os.map some) .nil (by simpa using hI) hlt hnd
  have hK : Rep ρ { m := setAll (I.zip (os.map some)) .nil, next := S.H.next } w := by
    refine Rep.weak (H := S.H) ⟨rfl, hl.symm, fun i o hi => ?_⟩ hr
    by_cases hm : i ∈ I
    · obtain ⟨j, hj⟩ := List.getElem?_of_mem hm
      have hjl : j < os.length := by
        have := (List.getElem?_eq_some_iff.1 hj).1; omega
      have ho : (os.map some)[j]? = some (some os[j]) := by rw [List.getElem?_map, List.getElem?_eq_getElem hjl]; rfl
      have := h1 j i _ hj ho
      have hi' : (setAll (I.zip (os.map some)) .nil).get i = some o := hi
      rw [this] at hi'
      simp only [Option.some.injEq] at hi'
      subst hi'
      exact h j i _ hj (List.getElem?_eq_getElem hjl)
    · have := h2 i hm
      have hi' : (setAll (I.zip (os.map some)) .nil).get i = some o := hi
      rw [this, Tr.get_nil] at hi'; cases hi'
  have hK2 : Rep ρ (vH I (os.map some) n) w := Rep.grow (H := { m := setAll (I.zip (os.map some)) .nil, next := S.H.next }) hn hb hK
  exact hs ρ w g gs R hK2 hf hfs hR
theorem LCalls_con {f : Nat} {c : Heap → List Value → ER} (h : ∀ args ρ args' w H, VRL ρ args args' → Rep ρ H w → ConGood P ρ f args' w (c H args)) {H : Heap} {args : List Value} {b : Bool} {v : Value} (hc : c H args = .tst b (.val v) .no) (hb : b = true) :
    LCalls P f args H (fun u K => u = v ∧ K = H) := by
  intro ρ args' w ha hr
  have k := h args ρ args' w H ha hr
  rw [hc] at k
  obtain ⟨v', hv, hcalls⟩ := k.1 hb
  refine hcalls.mono ?_
  rintro e w' ⟨rfl, hbl⟩
  exact ⟨ρ, v, v', H, rfl, ⟨rfl, rfl⟩, Ren.le_refl _, Fresh.refl _ _, hv, hr.below hbl, Below.toKeep hbl⟩
end
end Go.Ly
namespace Go.Proofs.Ytnknopebjdgdjaa
open Go Go.Ly Go.RowKit
def rdMk4 (n : Nat) (f : Nat → Int) : Bool × Value := (Nat.beq n 4 && (Isa.by1 (f 0) && Isa.by1 (f 1)), bif Nat.beq n 0 then Isa.r6V Isa.rS else Isa.r6V (Isa.rd2 n f))
theorem rd4_con (args : List Value) (ρ : Ren) (args' : List Value) (w : World) (H : Heap) (ha : VRL ρ args args') (hr : Rep ρ H w) : ConGood Try.prog ρ 31 args' w (con1 .u8 rdMk4 H args) := by
  refine con1_good (fun n p => ?_) (fun n f hg => ?_) (fun p => ?_) args ρ args' w H ha hr
  · unfold rdMk4; cases Nat.beq n 0 <;> simp [Isa.r6V, plain, plainL]
  · simp only [rdMk4, Bool.and_eq_true] at hg
    have h4 := Nat.eq_of_beq_eq_true hg.1
    subst h4
    exact Isa.rd_two 4 f (by omega) (by rw [hg.2.1, hg.2.2]; rfl)
  · exact LCalls_trust (v := Isa.r6V Isa.rS) Isa.ctxD_ok 3000 [] Isa.gRd2 (by kernel_rfl) (t := []) (by kernel_rfl) trivial
def f4 (b0 b1 b2 b3 : Int) : Nat → Int := fun e => intV ((([.int .u8 b0, .int .u8 b1, .int .u8 b2, .int .u8 b3] : List Value)[e]?).getD undef)
def HS (m : Mc) (g h : Nat → Int) (b0 b1 b2 b3 : Int) : Heap := (mkH (hP m g h)).new (.cells [.int .u8 b0, .int .u8 b1, .int .u8 b2, .int .u8 b3] 79)
theorem callR (m : Mc) (g h : Nat → Int) (b0 b1 b2 b3 : Int) : callOf env (sS m g h b0 b1 b2 b3) = some (31, [.slice (some ⟨3, 0, none⟩) 4 4]) := by kernel_rfl
theorem conR (m : Mc) (g h : Nat → Int) (b0 b1 b2 b3 : Int) : con1 .u8 rdMk4 (HS m g h b0 b1 b2 b3) [.slice (some ⟨3, 0, none⟩) 4 4] = .tst (Isa.by1 b0 && Isa.by1 b1) (.val (Isa.r6V (Isa.rd2 4 (f4 b0 b1 b2 b3)))) .no := by kernel_rfl
theorem behR (m : Mc) (g h : Nat → Int) (b0 b1 b2 b3 : Int) (op d s n sz : Int) (K : Heap) : { behind (sS m g h b0 b1 b2 b3) (.tuple ⟨[.agg ⟨[.int .i64 op, .int .i64 d, .int .i64 s, .int .u16 n]⟩, .int .i64 sz, .int .i64 0]⟩) K with H := vH [0, 1, 2] (hP m g h) 40 } = bS m g h op d s n sz := by kernel_rfl
theorem behH (m : Mc) (g h : Nat → Int) (b0 b1 b2 b3 : Int) (op d s n sz : Int) (K : Heap) : (behind (sS m g h b0 b1 b2 b3) (.tuple ⟨[.agg ⟨[.int .i64 op, .int .i64 d, .int .i64 s, .int .u16 n]⟩, .int .i64 sz, .int .i64 0]⟩) K).H = K := by kernel_rfl
theorem HS_0 (m : Mc) (g h : Nat → Int) (b0 b1 b2 b3 : Int) : (HS m g h b0 b1 b2 b3).get 0 = some (.cells (cellsPb 1 2 m (tokV 16) (tokV 17)) 54) := by kernel_rfl
theorem HS_1 (m : Mc) (g h : Nat → Int) (b0 b1 b2 b3 : Int) : (HS m g h b0 b1 b2 b3).get 1 = some (memL g) := by kernel_rfl
theorem HS_2 (m : Mc) (g h : Nat → Int) (b0 b1 b2 b3 : Int) : (HS m g h b0 b1 b2 b3).get 2 = some (memL h) := by kernel_rfl
theorem stepEnds {m : Mc} {g h : Nat → Int} {op d s n sz k : Int} {p : Path} {t : List (Bool × Bool)} {nx : Nat} {os : List (Option LO)} (hh : m.halt = false) (hb : (Isa.by1 (g (at4 m.ip 0)) && Isa.by1 (g (at4 m.ip 1))) = true)
    (hR : Isa.rd2 4 (f4 (g (at4 m.ip 0)) (g (at4 m.ip 1)) (g (at4 m.ip 2)) (g (at4 m.ip 3))) = ⟨op, d, s, n, sz, 0⟩)
    (hr : endsAt [0, 1, 2] (Ly.run qtx4 3000 p (bS m g h op d s n sz)) = some (t, .int .i64 k, nx, os)) (ht : trusted t) : Ly.Ends Try.prog 17 [ptr 0] (hP m g h) [0, 1, 2] (.int .i64 k) nx os := by
  have e3 := MWp.ends qtx4_ok 3000 p hr ht
  refine LCalls_of ctx4_ok gS17 (by kernel_rfl) (MWp.halted ctxSh_ok [0, 38] 600 pathS (juncS m g h) (trS hh) ?_)
  refine MWp.call envOk (callR m g h _ _ _ _) (LCalls_con rd4_con (conR m g h _ _ _ _) hb) ?_
  rintro v K ⟨rfl, rfl⟩
  rw [hR]
  have hH := behH m g h (g (at4 m.ip 0)) (g (at4 m.ip 1)) (g (at4 m.ip 2)) (g (at4 m.ip 3)) op d s n sz (HS m g h (g (at4 m.ip 0)) (g (at4 m.ip 1)) (g (at4 m.ip 2)) (g (at4 m.ip 3)))
  have hB := behR m g h (g (at4 m.ip 0)) (g (at4 m.ip 1)) (g (at4 m.ip 2)) (g (at4 m.ip 3)) op d s n sz (HS m g h (g (at4 m.ip 0)) (g (at4 m.ip 1)) (g (at4 m.ip 2)) (g (at4 m.ip 3)))
  show MWp Try.prog (behind (sS m g h (g (at4 m.ip 0)) (g (at4 m.ip 1)) (g (at4 m.ip 2)) (g (at4 m.ip 3))) (.tuple ⟨[.agg ⟨[.int .i64 op, .int .i64 d, .int .i64 s, .int .u16 n]⟩, .int .i64 sz, .int .i64 0]⟩) (HS m g h (g (at4 m.ip 0)) (g (at4 m.ip 1)) (g (at4 m.ip 2)) (g (at4 m.ip 3)))) _
  refine MWp.few (I := [0, 1, 2]) (os := [.cells (cellsPb 1 2 m (tokV 16) (tokV 17)) 54, memL g, memL h]) (n := 40) (by rw [hH]; rfl) (by rw [hH]; show 4 ≤ 40; omega) (by simp [big]) rfl (by decide) (by simp [big]) ?_ ?_
  · intro j b o hj ho
    rw [hH]
    rcases j with _ | _ | _ | j
    · simp only [List.getElem?_cons_zero, Option.some.injEq] at hj ho; subst hj; subst ho; exact ⟨_, HS_0 .., OW.refl _⟩
    · simp only [List.getElem?_cons_succ, List.getElem?_cons_zero, Option.some.injEq] at hj ho; subst hj; subst ho; exact ⟨_, HS_1 .., OW.refl _⟩
    · simp only [List.getElem?_cons_succ, List.getElem?_cons_zero, Option.some.injEq] at hj ho; subst hj; subst ho; exact ⟨_, HS_2 .., OW.refl _⟩
    · simp at hj
  · exact hB ▸ e3
end Go.Proofs.Ytnknopebjdgdjaa
namespace Go.Proofs.Ytnknopebjdgdjaa
open Go Go.Ly Go.RowKit
def hb (x : Int) : Int := IntKind.u8.wrap (x.fdiv 256)
def shiB (x b : Int) : Int := bits .or .u16 (bits .andNot .u16 x 65280) (IntKind.u16.wrap (IntKind.u16.wrap b * 256))
def pswI (s z x p c : Bool) : Int := 128 * cI s + 64 * cI z + 16 * cI x + 4 * cI p + 2 + cI c
def mF (m : Mc) (s z x p c : Bool) : Mc := { m with fs := s, fz := z, fx := x, fp := p, fc := c }
theorem la_all (m : Mc) (g h : Nat → Int) (n sz : Int) : ∀ s z x p c : Bool, endsAt [0, 1, 2] (Ly.run qtx4 3000 [] (bS (mF m s z x p c) g h 20 0 0 n sz)) = some ([], .int .i64 0, 47, hP { mF m s z x p c with r0 := shiB m.r0 (pswI s z x p c), ip := ipN m sz } g h) := by
  intro s z x p c
  cases s <;> cases z <;> cases x <;> cases p <;> cases c <;> kernel_rfl
def ofM (m : Mc) (b : Int) : Mc := { m with fs := bits .and .u8 b 128 != 0, fz := bits .and .u8 b 64 != 0, fx := bits .and .u8 b 16 != 0, fp := bits .and .u8 b 4 != 0, fc := bits .and .u8 b 1 != 0 }
theorem sa_all (m : Mc) (g h : Nat → Int) (n sz : Int) : endsAt [0, 1, 2] (Ly.run qtx4 3000 [] (bS m g h 21 0 0 n sz)) = some ([], .int .i64 0, 46, hP { ofM m (hb m.r0) with ip := ipN m sz } g h) := by kernel_rfl
theorem nlo {x y : Nat} (hx : x < 65536) (hy : y < 256) : (x &&& 65280 ||| y) / 256 = x / 256 := by
  have h1 : (x &&& 65280 ||| y) >>> 8 = x >>> 8 := by
    rw [Nat.shiftRight_or_distrib, Nat.shiftRight_and_distrib]
    have e1 : y >>> 8 = 0 := by rw [Nat.shiftRight_eq_div_pow]; exact Nat.div_eq_of_lt hy
    rw [e1, show 65280 >>> 8 = 2 ^ 8 - 1 from rfl, Nat.or_zero, Nat.and_two_pow_sub_one_eq_mod, Nat.shiftRight_eq_div_pow]
    exact Nat.mod_eq_of_lt (by omega)
  simpa [Nat.shiftRight_eq_div_pow] using h1
theorem nhi {x y : Nat} (hx : x < 65536) (hy : y < 256) : (x &&& 255 ||| y * 256) / 256 = y := by
  have h1 : (x &&& 255 ||| y * 256) >>> 8 = y := by
    rw [Nat.shiftRight_or_distrib, Nat.shiftRight_and_distrib]
    have e1 : (y * 256) >>> 8 = y := by rw [Nat.shiftRight_eq_div_pow]; omega
    rw [e1, show 255 >>> 8 = 0 from rfl, Nat.and_zero, Nat.zero_or]
  simpa [Nat.shiftRight_eq_div_pow] using h1
theorem hb_nat {x : Nat} (hx : x < 65536) : hb (x : Int) = ((x / 256 : Nat) : Int) := by
  unfold hb
  rw [IntKind.wrap_u8', fdivp _ _ (by omega)]; omega
theorem slo_nat {x : Nat} (v : Int) (hx : x < 65536) : ∃ y : Nat, y < 256 ∧ slo (x : Int) v = ((x &&& 65280 ||| y : Nat) : Int) := by
  unfold slo
  have hv : 0 ≤ IntKind.u8.wrap v ∧ IntKind.u8.wrap v < 256 := by rw [IntKind.wrap_u8']; omega
  obtain ⟨y, hy⟩ := Int.eq_ofNat_of_zero_le hv.1
  refine ⟨y, by omega, ?_⟩
  have e1 : IntKind.u16.wrap (IntKind.u16.wrap (IntKind.u8.wrap v) * 1) = (y : Int) := by rw [IntKind.wrap_u16, IntKind.wrap_u16, hy]; omega
  have e2 := u16_andNot_nat x 255 hx (by omega)
  have e2 : bits .andNot .u16 (x : Int) 255 = ((x &&& 65280 : Nat) : Int) := e2
  rw [e1, e2]
  exact u16_or_nat _ _ (Nat.lt_of_le_of_lt Nat.and_le_left hx) (by omega)
theorem hb_slo {x : Int} (v : Int) (hx : B16 x) : hb (slo x v) = hb x ∧ B16 (slo x v) := by
  obtain ⟨n, rfl⟩ := Int.eq_ofNat_of_zero_le hx.1
  have hn : n < 65536 := by have := hx.2; omega
  obtain ⟨y, hy, e⟩ := slo_nat v hn
  have hlt : (n &&& 65280 ||| y) < 65536 := Nat.or_lt_two_pow (n := 16) (Nat.lt_of_le_of_lt Nat.and_le_left hn) (by omega)
  rw [e, hb_nat hlt, hb_nat hn, nlo hn hy]
  exact ⟨rfl, by unfold B16; omega⟩
theorem hb_shiB {x b : Int} (hx : B16 x) (hb' : B8 b) : hb (shiB x b) = b ∧ B16 (shiB x b) := by
  obtain ⟨n, rfl⟩ := Int.eq_ofNat_of_zero_le hx.1
  obtain ⟨y, rfl⟩ := Int.eq_ofNat_of_zero_le hb'.1
  have hn : n < 65536 := by have := hx.2; omega
  have hy : y < 256 := by have := hb'.2; omega
  have e1 : IntKind.u16.wrap (IntKind.u16.wrap (y : Int) * 256) = ((y * 256 : Nat) : Int) := by rw [IntKind.wrap_u16, IntKind.wrap_u16]; omega
  have e2 : bits .andNot .u16 (n : Int) 65280 = ((n &&& 255 : Nat) : Int) := u16_andNot_nat n 65280 hn (by omega)
  have hlt : (n &&& 255 ||| y * 256) < 65536 := Nat.or_lt_two_pow (n := 16) (Nat.lt_of_le_of_lt Nat.and_le_left hn) (by omega)
  have e3 : shiB (n : Int) (y : Int) = ((n &&& 255 ||| y * 256 : Nat) : Int) := by
    unfold shiB
    rw [e1, e2]
    exact u16_or_nat _ _ (Nat.lt_of_le_of_lt Nat.and_le_left hn) (by omega)
  rw [e3, hb_nat hlt, nhi hn hy]
  exact ⟨rfl, by unfold B16; omega⟩
theorem psw_of (s z x p c : Bool) : B8 (pswI s z x p c) ∧ (bits .and .u8 (pswI s z x p c) 128 != 0) = s ∧ (bits .and .u8 (pswI s z x p c) 64 != 0) = z ∧ (bits .and .u8 (pswI s z x p c) 16 != 0) = x ∧ (bits .and .u8 (pswI s z x p c) 4 != 0) = p ∧ (bits .and .u8 (pswI s z x p c) 1 != 0) = c := by
  unfold B8
  cases s <;> cases z <;> cases x <;> cases p <;> cases c <;> decide
def DoF (m : Mc) (g h : Nat → Int) (op d s n sz : Int) : Prop := ∃ (p : Path) (t : List (Bool × Bool)) (nx : Nat) (os : List (Option LO)) (m' : Mc) (h' : Nat → Int), endsAt [0, 1, 2] (Ly.run qtx4 3000 p (bS m g h op d s n sz)) = some (t, .int .i64 0, nx, os) ∧ trusted t ∧ nx ≤ 64 ∧ (os = hP m' g h' ∨ ∃ x, os = hQ m' g x ∧ LOeq x (memL h')) ∧ (hb m'.r0 = hb m.r0 ∧ B16 m'.r0) ∧ m'.ip = ipN m sz ∧ m'.halt = m.halt
def Rw16 (m : Mc) : Prop := B16 m.r0 ∧ B16 m.r3 ∧ B16 m.r6
theorem rg_ok {x : Int} (hx : B16 x) : (decide (0 ≤ x) && decide (x < 65536)) = true ∧ Nat.blt (adr x) 65536 = true := by
  refine ⟨by rw [Bool.and_eq_true, decide_eq_true_eq, decide_eq_true_eq]; have := hx.1; have := hx.2; omega, ?_⟩
  unfold adr; rw [Nat.blt_eq]; have := hx.1; have := hx.2; omega
theorem nadr_16 (x : Int) : B16 (nadr x) := wr16 _
section
variable {m m' : Mc} {g h : Nat → Int} {op d s n sz : Int} {p : Path} {t : List (Bool × Bool)} {nx : Nat}
theorem DoF.reg (hr : endsAt [0, 1, 2] (Ly.run qtx4 3000 p (bS m g h op d s n sz)) = some (t, .int .i64 0, nx, hP m' g h)) (ht : trusted t) (hn : nx ≤ 64) (h0 : hb m'.r0 = hb m.r0 ∧ B16 m'.r0) (hi : m'.ip = ipN m sz) (hh : m'.halt = m.halt) : DoF m g h op d s n sz :=
  ⟨p, t, nx, _, m', h, hr, ht, hn, .inl rfl, h0, hi, hh⟩
theorem DoF.memB {x v : Int} (hr : endsAt [0, 1, 2] (Ly.run qtx4 3000 p (bS m g h op d s n sz)) = some (t, .int .i64 0, nx, hQ m' g (stB h x v))) (ht : trusted t) (hn : nx ≤ 64) (h0 : hb m'.r0 = hb m.r0 ∧ B16 m'.r0) (hi : m'.ip = ipN m sz) (hh : m'.halt = m.halt) : DoF m g h op d s n sz :=
  ⟨p, t, nx, _, m', _, hr, ht, hn, .inr ⟨_, rfl, mem1 h (adr x) (IntKind.u8.wrap v)⟩, h0, hi, hh⟩
theorem DoF.memW {x v : Int} (hr : endsAt [0, 1, 2] (Ly.run qtx4 3000 p (bS m g h op d s n sz)) = some (t, .int .i64 0, nx, hQ m' g (stW h x v))) (ht : trusted t) (hn : nx ≤ 64) (h0 : hb m'.r0 = hb m.r0 ∧ B16 m'.r0) (hi : m'.ip = ipN m sz) (hh : m'.halt = m.halt) : DoF m g h op d s n sz :=
  ⟨p, t, nx, _, m', _, hr, ht, hn, .inr ⟨_, rfl, mem2 h (adr x) (adr (nadr x)) (IntKind.u8.wrap v) (IntKind.u8.wrap (v.fdiv 256))⟩, h0, hi, hh⟩
theorem tJ0_ok {l : List (Bool × Bool)} (h2 : 2 ≤ op) (h9 : op ≤ 9) (hl : trusted l) : trusted (tJ0 op l) := by
  have e : ∀ k : Int, 9 < k → (op == k) = false := fun k hk => by simp; omega
  have e1 : (op == 1) = false := by simp; omega
  have e2 : (decide (20 ≤ op) == true) = false := by simp; omega
  have e3 : decide (30 ≤ op) = false := by simp; omega
  have e4 : decide (op ≤ 9) = true := by simp; omega
  simp only [tJ0, trusted, e 32 (by omega), e 33 (by omega), e 34 (by omega), e 42 (by omega), e 43 (by omega), e 44 (by omega), e 45 (by omega), e 48 (by omega), e 49 (by omega), e 50 (by omega), e 51 (by omega), e1, e2, e3, e4, hl, and_self]
theorem tJ1_ok {l : List (Bool × Bool)} (h2 : 10 ≤ op) (h9 : op ≤ 11) (hl : trusted l) : trusted (tJ1 op l) := by
  have e : ∀ k : Int, 11 < k → (op == k) = false := fun k hk => by simp; omega
  have e1 : (op == 1) = false := by simp; omega
  have e2 : (decide (20 ≤ op) == true) = false := by simp; omega
  have e3 : decide (30 ≤ op) = false := by simp; omega
  have e4 : decide (op ≤ 9) = false := by simp; omega
  have e5 : decide (op ≤ 11) = true := by simp; omega
  simp only [tJ1, trusted, e 32 (by omega), e 33 (by omega), e 34 (by omega), e 42 (by omega), e 43 (by omega), e 44 (by omega), e 45 (by omega), e 48 (by omega), e 49 (by omega), e 50 (by omega), e 51 (by omega), e1, e2, e3, e4, e5, hl, and_self]
theorem sumG_ok (h2 : 2 ≤ op) (h9 : op ≤ 9) : sumG op = true := by
  have : kOf op = op - 2 := by unfold kOf; rw [IntKind.wrap_i64]; omega
  unfold sumG; rw [this]; simp; omega
theorem incG_ok (h2 : 10 ≤ op) (h9 : op ≤ 11) : incG op = true := by
  have : op = 10 ∨ op = 11 := by omega
  rcases this with rfl | rfl <;> rfl
theorem tSm {b : Bool} (h2 : 2 ≤ op) (h9 : op ≤ 9) (e : (op != 9) = b) : trusted (tJ0 op [(sumG op, true), (op != 9, b)]) := tJ0_ok h2 h9 (by simp only [trusted, sumG_ok h2 h9, e, and_self])
theorem tEm {c b : Bool} (e : c = b) : trusted [(c, b)] := ⟨e, trivial⟩
end
end Go.Proofs.Ytnknopebjdgdjaa
namespace Go.Proofs.Ytnknopebjdgdjaa
open Go Go.Ly Go.RowKit
variable (m : Mc) (g h : Nat → Int) (op n sz : Int)
include m g h op n sz
set_option linter.unusedSectionVars false
theorem sm1_1t : eD (pJ0 14 [(22, true), (0, true)]) m g h op 1 1 n sz = oD (tJ0 op [(sumG op, true), (op != 9, true)]) 46 (hP ({ fl8M m sz op (lo8 m.r0) (lo8 m.r0) with r0 := slo m.r0 (f8v (nSum m op (lo8 m.r0) (lo8 m.r0))) }) g h) := by kernel_rfl
theorem sm1_1f : eD (pJ0 14 [(22, true), (0, false)]) m g h op 1 1 n sz = oD (tJ0 op [(sumG op, true), (op != 9, false)]) 46 (hP (fl8M m sz op (lo8 m.r0) (lo8 m.r0)) g h) := by kernel_rfl
theorem sm1_2t : eD (pJ0 14 [(22, true), (0, true)]) m g h op 1 2 n sz = oD (tJ0 op [(sumG op, true), (op != 9, true)]) 46 (hP ({ fl8M m sz op (lo8 m.r0) (lo8 m.r1) with r0 := slo m.r0 (f8v (nSum m op (lo8 m.r0) (lo8 m.r1))) }) g h) := by kernel_rfl
theorem sm1_2f : eD (pJ0 14 [(22, true), (0, false)]) m g h op 1 2 n sz = oD (tJ0 op [(sumG op, true), (op != 9, false)]) 46 (hP (fl8M m sz op (lo8 m.r0) (lo8 m.r1)) g h) := by kernel_rfl
theorem sm1_3t : eD (pJ0 14 [(22, true), (0, true)]) m g h op 1 3 n sz = oD (tJ0 op [(sumG op, true), (op != 9, true)]) 46 (hP ({ fl8M m sz op (lo8 m.r0) (lo8 m.r2) with r0 := slo m.r0 (f8v (nSum m op (lo8 m.r0) (lo8 m.r2))) }) g h) := by kernel_rfl
theorem sm1_3f : eD (pJ0 14 [(22, true), (0, false)]) m g h op 1 3 n sz = oD (tJ0 op [(sumG op, true), (op != 9, false)]) 46 (hP (fl8M m sz op (lo8 m.r0) (lo8 m.r2)) g h) := by kernel_rfl
theorem sm1_4t : eD (pJ0 14 [(22, true), (0, true)]) m g h op 1 4 n sz = oD (tJ0 op [(sumG op, true), (op != 9, true)]) 46 (hP ({ fl8M m sz op (lo8 m.r0) (lo8 m.r3) with r0 := slo m.r0 (f8v (nSum m op (lo8 m.r0) (lo8 m.r3))) }) g h) := by kernel_rfl
theorem sm1_4f : eD (pJ0 14 [(22, true), (0, false)]) m g h op 1 4 n sz = oD (tJ0 op [(sumG op, true), (op != 9, false)]) 46 (hP (fl8M m sz op (lo8 m.r0) (lo8 m.r3)) g h) := by kernel_rfl
theorem sm1_6t : eD (pJ0 14 [(22, true), (0, true)]) m g h op 1 6 n sz = oD (tJ0 op [(sumG op, true), (op != 9, true)]) 46 (hP ({ fl8M m sz op (lo8 m.r0) (hi8 m.r1) with r0 := slo m.r0 (f8v (nSum m op (lo8 m.r0) (hi8 m.r1))) }) g h) := by kernel_rfl
theorem sm1_6f : eD (pJ0 14 [(22, true), (0, false)]) m g h op 1 6 n sz = oD (tJ0 op [(sumG op, true), (op != 9, false)]) 46 (hP (fl8M m sz op (lo8 m.r0) (hi8 m.r1)) g h) := by kernel_rfl
theorem sm1_7t : eD (pJ0 14 [(22, true), (0, true)]) m g h op 1 7 n sz = oD (tJ0 op [(sumG op, true), (op != 9, true)]) 46 (hP ({ fl8M m sz op (lo8 m.r0) (hi8 m.r2) with r0 := slo m.r0 (f8v (nSum m op (lo8 m.r0) (hi8 m.r2))) }) g h) := by kernel_rfl
theorem sm1_7f : eD (pJ0 14 [(22, true), (0, false)]) m g h op 1 7 n sz = oD (tJ0 op [(sumG op, true), (op != 9, false)]) 46 (hP (fl8M m sz op (lo8 m.r0) (hi8 m.r2)) g h) := by kernel_rfl
theorem sm1_8t : eD (pJ0 14 [(22, true), (0, true)]) m g h op 1 8 n sz = oD (tJ0 op [(sumG op, true), (op != 9, true)]) 46 (hP ({ fl8M m sz op (lo8 m.r0) (hi8 m.r3) with r0 := slo m.r0 (f8v (nSum m op (lo8 m.r0) (hi8 m.r3))) }) g h) := by kernel_rfl
theorem sm1_8f : eD (pJ0 14 [(22, true), (0, false)]) m g h op 1 8 n sz = oD (tJ0 op [(sumG op, true), (op != 9, false)]) 46 (hP (fl8M m sz op (lo8 m.r0) (hi8 m.r3)) g h) := by kernel_rfl
theorem sm1_17t : eD (pJ0 14 [(17, true), (0, true), (0, true), (0, true)]) m g h op 1 17 n sz = oD (tJ0 op [(decide (0 ≤ m.r3) && decide (m.r3 < 65536), true), (Nat.blt (adr m.r3) 65536, true), (sumG op, true), (op != 9, true)]) 46 (hP ({ fl8M m sz op (lo8 m.r0) (ldB h m.r3) with r0 := slo m.r0 (f8v (nSum m op (lo8 m.r0) (ldB h m.r3))) }) g h) := by kernel_rfl
theorem sm1_17f : eD (pJ0 14 [(17, true), (0, true), (0, true), (0, false)]) m g h op 1 17 n sz = oD (tJ0 op [(decide (0 ≤ m.r3) && decide (m.r3 < 65536), true), (Nat.blt (adr m.r3) 65536, true), (sumG op, true), (op != 9, false)]) 46 (hP (fl8M m sz op (lo8 m.r0) (ldB h m.r3)) g h) := by kernel_rfl
theorem sm1_20t : eD (pJ0 14 [(14, true), (0, true)]) m g h op 1 20 n sz = oD (tJ0 op [(sumG op, true), (op != 9, true)]) 46 (hP ({ fl8M m sz op (lo8 m.r0) n with r0 := slo m.r0 (f8v (nSum m op (lo8 m.r0) n)) }) g h) := by kernel_rfl
theorem sm1_20f : eD (pJ0 14 [(14, true), (0, false)]) m g h op 1 20 n sz = oD (tJ0 op [(sumG op, true), (op != 9, false)]) 46 (hP (fl8M m sz op (lo8 m.r0) n) g h) := by kernel_rfl
end Go.Proofs.Ytnknopebjdgdjaa
namespace Go.Proofs.Ytnknopebjdgdjaa
open Go Go.Ly Go.RowKit
variable (m : Mc) (g h : Nat → Int) (op n sz : Int)
include m g h op n sz
set_option linter.unusedSectionVars false
theorem sm2_1t : eD (pJ0 14 [(22, true), (0, true)]) m g h op 2 1 n sz = oD (tJ0 op [(sumG op, true), (op != 9, true)]) 46 (hP ({ fl8M m sz op (lo8 m.r1) (lo8 m.r0) with r1 := slo m.r1 (f8v (nSum m op (lo8 m.r1) (lo8 m.r0))) }) g h) := by kernel_rfl
theorem sm2_1f : eD (pJ0 14 [(22, true), (0, false)]) m g h op 2 1 n sz = oD (tJ0 op [(sumG op, true), (op != 9, false)]) 46 (hP (fl8M m sz op (lo8 m.r1) (lo8 m.r0)) g h) := by kernel_rfl
theorem sm2_2t : eD (pJ0 14 [(22, true), (0, true)]) m g h op 2 2 n sz = oD (tJ0 op [(sumG op, true), (op != 9, true)]) 46 (hP ({ fl8M m sz op (lo8 m.r1) (lo8 m.r1) with r1 := slo m.r1 (f8v (nSum m op (lo8 m.r1) (lo8 m.r1))) }) g h) := by kernel_rfl
theorem sm2_2f : eD (pJ0 14 [(22, true), (0, false)]) m g h op 2 2 n sz = oD (tJ0 op [(sumG op, true), (op != 9, false)]) 46 (hP (fl8M m sz op (lo8 m.r1) (lo8 m.r1)) g h) := by kernel_rfl
theorem sm2_3t : eD (pJ0 14 [(22, true), (0, true)]) m g h op 2 3 n sz = oD (tJ0 op [(sumG op, true), (op != 9, true)]) 46 (hP ({ fl8M m sz op (lo8 m.r1) (lo8 m.r2) with r1 := slo m.r1 (f8v (nSum m op (lo8 m.r1) (lo8 m.r2))) }) g h) := by kernel_rfl
theorem sm2_3f : eD (pJ0 14 [(22, true), (0, false)]) m g h op 2 3 n sz = oD (tJ0 op [(sumG op, true), (op != 9, false)]) 46 (hP (fl8M m sz op (lo8 m.r1) (lo8 m.r2)) g h) := by kernel_rfl
theorem sm2_4t : eD (pJ0 14 [(22, true), (0, true)]) m g h op 2 4 n sz = oD (tJ0 op [(sumG op, true), (op != 9, true)]) 46 (hP ({ fl8M m sz op (lo8 m.r1) (lo8 m.r3) with r1 := slo m.r1 (f8v (nSum m op (lo8 m.r1) (lo8 m.r3))) }) g h) := by kernel_rfl
theorem sm2_4f : eD (pJ0 14 [(22, true), (0, false)]) m g h op 2 4 n sz = oD (tJ0 op [(sumG op, true), (op != 9, false)]) 46 (hP (fl8M m sz op (lo8 m.r1) (lo8 m.r3)) g h) := by kernel_rfl
theorem sm2_6t : eD (pJ0 14 [(22, true), (0, true)]) m g h op 2 6 n sz = oD (tJ0 op [(sumG op, true), (op != 9, true)]) 46 (hP ({ fl8M m sz op (lo8 m.r1) (hi8 m.r1) with r1 := slo m.r1 (f8v (nSum m op (lo8 m.r1) (hi8 m.r1))) }) g h) := by kernel_rfl
theorem sm2_6f : eD (pJ0 14 [(22, true), (0, false)]) m g h op 2 6 n sz = oD (tJ0 op [(sumG op, true), (op != 9, false)]) 46 (hP (fl8M m sz op (lo8 m.r1) (hi8 m.r1)) g h) := by kernel_rfl
theorem sm2_7t : eD (pJ0 14 [(22, true), (0, true)]) m g h op 2 7 n sz = oD (tJ0 op [(sumG op, true), (op != 9, true)]) 46 (hP ({ fl8M m sz op (lo8 m.r1) (hi8 m.r2) with r1 := slo m.r1 (f8v (nSum m op (lo8 m.r1) (hi8 m.r2))) }) g h) := by kernel_rfl
theorem sm2_7f : eD (pJ0 14 [(22, true), (0, false)]) m g h op 2 7 n sz = oD (tJ0 op [(sumG op, true), (op != 9, false)]) 46 (hP (fl8M m sz op (lo8 m.r1) (hi8 m.r2)) g h) := by kernel_rfl
theorem sm2_8t : eD (pJ0 14 [(22, true), (0, true)]) m g h op 2 8 n sz = oD (tJ0 op [(sumG op, true), (op != 9, true)]) 46 (hP ({ fl8M m sz op (lo8 m.r1) (hi8 m.r3) with r1 := slo m.r1 (f8v (nSum m op (lo8 m.r1) (hi8 m.r3))) }) g h) := by kernel_rfl
theorem sm2_8f : eD (pJ0 14 [(22, true), (0, false)]) m g h op 2 8 n sz = oD (tJ0 op [(sumG op, true), (op != 9, false)]) 46 (hP (fl8M m sz op (lo8 m.r1) (hi8 m.r3)) g h) := by kernel_rfl
theorem sm2_17t : eD (pJ0 14 [(17, true), (0, true), (0, true), (0, true)]) m g h op 2 17 n sz = oD (tJ0 op [(decide (0 ≤ m.r3) && decide (m.r3 < 65536), true), (Nat.blt (adr m.r3) 65536, true), (sumG op, true), (op != 9, true)]) 46 (hP ({ fl8M m sz op (lo8 m.r1) (ldB h m.r3) with r1 := slo m.r1 (f8v (nSum m op (lo8 m.r1) (ldB h m.r3))) }) g h) := by kernel_rfl
theorem sm2_17f : eD (pJ0 14 [(17, true), (0, true), (0, true), (0, false)]) m g h op 2 17 n sz = oD (tJ0 op [(decide (0 ≤ m.r3) && decide (m.r3 < 65536), true), (Nat.blt (adr m.r3) 65536, true), (sumG op, true), (op != 9, false)]) 46 (hP (fl8M m sz op (lo8 m.r1) (ldB h m.r3)) g h) := by kernel_rfl
theorem sm2_20t : eD (pJ0 14 [(14, true), (0, true)]) m g h op 2 20 n sz = oD (tJ0 op [(sumG op, true), (op != 9, true)]) 46 (hP ({ fl8M m sz op (lo8 m.r1) n with r1 := slo m.r1 (f8v (nSum m op (lo8 m.r1) n)) }) g h) := by kernel_rfl
theorem sm2_20f : eD (pJ0 14 [(14, true), (0, false)]) m g h op 2 20 n sz = oD (tJ0 op [(sumG op, true), (op != 9, false)]) 46 (hP (fl8M m sz op (lo8 m.r1) n) g h) := by kernel_rfl
end Go.Proofs.Ytnknopebjdgdjaa
namespace Go.Proofs.Ytnknopebjdgdjaa
open Go Go.Ly Go.RowKit
variable (m : Mc) (g h : Nat → Int) (op n sz : Int)
include m g h op n sz
set_option linter.unusedSectionVars false
theorem sm3_1t : eD (pJ0 14 [(22, true), (0, true)]) m g h op 3 1 n sz = oD (tJ0 op [(sumG op, true), (op != 9, true)]) 46 (hP ({ fl8M m sz op (lo8 m.r2) (lo8 m.r0) with r2 := slo m.r2 (f8v (nSum m op (lo8 m.r2) (lo8 m.r0))) }) g h) := by kernel_rfl
theorem sm3_1f : eD (pJ0 14 [(22, true), (0, false)]) m g h op 3 1 n sz = oD (tJ0 op [(sumG op, true), (op != 9, false)]) 46 (hP (fl8M m sz op (lo8 m.r2) (lo8 m.r0)) g h) := by kernel_rfl
theorem sm3_2t : eD (pJ0 14 [(22, true), (0, true)]) m g h op 3 2 n sz = oD (tJ0 op [(sumG op, true), (op != 9, true)]) 46 (hP ({ fl8M m sz op (lo8 m.r2) (lo8 m.r1) with r2 := slo m.r2 (f8v (nSum m op (lo8 m.r2) (lo8 m.r1))) }) g h) := by kernel_rfl
theorem sm3_2f : eD (pJ0 14 [(22, true), (0, false)]) m g h op 3 2 n sz = oD (tJ0 op [(sumG op, true), (op != 9, false)]) 46 (hP (fl8M m sz op (lo8 m.r2) (lo8 m.r1)) g h) := by kernel_rfl
theorem sm3_3t : eD (pJ0 14 [(22, true), (0, true)]) m g h op 3 3 n sz = oD (tJ0 op [(sumG op, true), (op != 9, true)]) 46 (hP ({ fl8M m sz op (lo8 m.r2) (lo8 m.r2) with r2 := slo m.r2 (f8v (nSum m op (lo8 m.r2) (lo8 m.r2))) }) g h) := by kernel_rfl
theorem sm3_3f : eD (pJ0 14 [(22, true), (0, false)]) m g h op 3 3 n sz = oD (tJ0 op [(sumG op, true), (op != 9, false)]) 46 (hP (fl8M m sz op (lo8 m.r2) (lo8 m.r2)) g h) := by kernel_rfl
theorem sm3_4t : eD (pJ0 14 [(22, true), (0, true)]) m g h op 3 4 n sz = oD (tJ0 op [(sumG op, true), (op != 9, true)]) 46 (hP ({ fl8M m sz op (lo8 m.r2) (lo8 m.r3) with r2 := slo m.r2 (f8v (nSum m op (lo8 m.r2) (lo8 m.r3))) }) g h) := by kernel_rfl
theorem sm3_4f : eD (pJ0 14 [(22, true), (0, false)]) m g h op 3 4 n sz = oD (tJ0 op [(sumG op, true), (op != 9, false)]) 46 (hP (fl8M m sz op (lo8 m.r2) (lo8 m.r3)) g h) := by kernel_rfl
theorem sm3_6t : eD (pJ0 14 [(22, true), (0, true)]) m g h op 3 6 n sz = oD (tJ0 op [(sumG op, true), (op != 9, true)]) 46 (hP ({ fl8M m sz op (lo8 m.r2) (hi8 m.r1) with r2 := slo m.r2 (f8v (nSum m op (lo8 m.r2) (hi8 m.r1))) }) g h) := by kernel_rfl
theorem sm3_6f : eD (pJ0 14 [(22, true), (0, false)]) m g h op 3 6 n sz = oD (tJ0 op [(sumG op, true), (op != 9, false)]) 46 (hP (fl8M m sz op (lo8 m.r2) (hi8 m.r1)) g h) := by kernel_rfl
theorem sm3_7t : eD (pJ0 14 [(22, true), (0, true)]) m g h op 3 7 n sz = oD (tJ0 op [(sumG op, true), (op != 9, true)]) 46 (hP ({ fl8M m sz op (lo8 m.r2) (hi8 m.r2) with r2 := slo m.r2 (f8v (nSum m op (lo8 m.r2) (hi8 m.r2))) }) g h) := by kernel_rfl
theorem sm3_7f : eD (pJ0 14 [(22, true), (0, false)]) m g h op 3 7 n sz = oD (tJ0 op [(sumG op, true), (op != 9, false)]) 46 (hP (fl8M m sz op (lo8 m.r2) (hi8 m.r2)) g h) := by kernel_rfl
theorem sm3_8t : eD (pJ0 14 [(22, true), (0, true)]) m g h op 3 8 n sz = oD (tJ0 op [(sumG op, true), (op != 9, true)]) 46 (hP ({ fl8M m sz op (lo8 m.r2) (hi8 m.r3) with r2 := slo m.r2 (f8v (nSum m op (lo8 m.r2) (hi8 m.r3))) }) g h) := by kernel_rfl
theorem sm3_8f : eD (pJ0 14 [(22, true), (0, false)]) m g h op 3 8 n sz = oD (tJ0 op [(sumG op, true), (op != 9, false)]) 46 (hP (fl8M m sz op (lo8 m.r2) (hi8 m.r3)) g h) := by kernel_rfl
theorem sm3_17t : eD (pJ0 14 [(17, true), (0, true), (0, true), (0, true)]) m g h op 3 17 n sz = oD (tJ0 op [(decide (0 ≤ m.r3) && decide (m.r3 < 65536), true), (Nat.blt (adr m.r3) 65536, true), (sumG op, true), (op != 9, true)]) 46 (hP ({ fl8M m sz op (lo8 m.r2) (ldB h m.r3) with r2 := slo m.r2 (f8v (nSum m op (lo8 m.r2) (ldB h m.r3))) }) g h) := by kernel_rfl
theorem sm3_17f : eD (pJ0 14 [(17, true), (0, true), (0, true), (0, false)]) m g h op 3 17 n sz = oD (tJ0 op [(decide (0 ≤ m.r3) && decide (m.r3 < 65536), true), (Nat.blt (adr m.r3) 65536, true), (sumG op, true), (op != 9, false)]) 46 (hP (fl8M m sz op (lo8 m.r2) (ldB h m.r3)) g h) := by kernel_rfl
theorem sm3_20t : eD (pJ0 14 [(14, true), (0, true)]) m g h op 3 20 n sz = oD (tJ0 op [(sumG op, true), (op != 9, true)]) 46 (hP ({ fl8M m sz op (lo8 m.r2) n with r2 := slo m.r2 (f8v (nSum m op (lo8 m.r2) n)) }) g h) := by kernel_rfl
theorem sm3_20f : eD (pJ0 14 [(14, true), (0, false)]) m g h op 3 20 n sz = oD (tJ0 op [(sumG op, true), (op != 9, false)]) 46 (hP (fl8M m sz op (lo8 m.r2) n) g h) := by kernel_rfl
end Go.Proofs.Ytnknopebjdgdjaa
namespace Go.Proofs.Ytnknopebjdgdjaa
open Go Go.Ly Go.RowKit
variable (m : Mc) (g h : Nat → Int) (op n sz : Int)
include m g h op n sz
set_option linter.unusedSectionVars false
theorem sm4_1t : eD (pJ0 14 [(22, true), (0, true)]) m g h op 4 1 n sz = oD (tJ0 op [(sumG op, true), (op != 9, true)]) 46 (hP ({ fl8M m sz op (lo8 m.r3) (lo8 m.r0) with r3 := slo m.r3 (f8v (nSum m op (lo8 m.r3) (lo8 m.r0))) }) g h) := by kernel_rfl
theorem sm4_1f : eD (pJ0 14 [(22, true), (0, false)]) m g h op 4 1 n sz = oD (tJ0 op [(sumG op, true), (op != 9, false)]) 46 (hP (fl8M m sz op (lo8 m.r3) (lo8 m.r0)) g h) := by kernel_rfl
theorem sm4_2t : eD (pJ0 14 [(22, true), (0, true)]) m g h op 4 2 n sz = oD (tJ0 op [(sumG op, true), (op != 9, true)]) 46 (hP ({ fl8M m sz op (lo8 m.r3) (lo8 m.r1) with r3 := slo m.r3 (f8v (nSum m op (lo8 m.r3) (lo8 m.r1))) }) g h) := by kernel_rfl
theorem sm4_2f : eD (pJ0 14 [(22, true), (0, false)]) m g h op 4 2 n sz = oD (tJ0 op [(sumG op, true), (op != 9, false)]) 46 (hP (fl8M m sz op (lo8 m.r3) (lo8 m.r1)) g h) := by kernel_rfl
theorem sm4_3t : eD (pJ0 14 [(22, true), (0, true)]) m g h op 4 3 n sz = oD (tJ0 op [(sumG op, true), (op != 9, true)]) 46 (hP ({ fl8M m sz op (lo8 m.r3) (lo8 m.r2) with r3 := slo m.r3 (f8v (nSum m op (lo8 m.r3) (lo8 m.r2))) }) g h) := by kernel_rfl
theorem sm4_3f : eD (pJ0 14 [(22, true), (0, false)]) m g h op 4 3 n sz = oD (tJ0 op [(sumG op, true), (op != 9, false)]) 46 (hP (fl8M m sz op (lo8 m.r3) (lo8 m.r2)) g h) := by kernel_rfl
theorem sm4_4t : eD (pJ0 14 [(22, true), (0, true)]) m g h op 4 4 n sz = oD (tJ0 op [(sumG op, true), (op != 9, true)]) 46 (hP ({ fl8M m sz op (lo8 m.r3) (lo8 m.r3) with r3 := slo m.r3 (f8v (nSum m op (lo8 m.r3) (lo8 m.r3))) }) g h) := by kernel_rfl
theorem sm4_4f : eD (pJ0 14 [(22, true), (0, false)]) m g h op 4 4 n sz = oD (tJ0 op [(sumG op, true), (op != 9, false)]) 46 (hP (fl8M m sz op (lo8 m.r3) (lo8 m.r3)) g h) := by kernel_rfl
theorem sm4_6t : eD (pJ0 14 [(22, true), (0, true)]) m g h op 4 6 n sz = oD (tJ0 op [(sumG op, true), (op != 9, true)]) 46 (hP ({ fl8M m sz op (lo8 m.r3) (hi8 m.r1) with r3 := slo m.r3 (f8v (nSum m op (lo8 m.r3) (hi8 m.r1))) }) g h) := by kernel_rfl
theorem sm4_6f : eD (pJ0 14 [(22, true), (0, false)]) m g h op 4 6 n sz = oD (tJ0 op [(sumG op, true), (op != 9, false)]) 46 (hP (fl8M m sz op (lo8 m.r3) (hi8 m.r1)) g h) := by kernel_rfl
theorem sm4_7t : eD (pJ0 14 [(22, true), (0, true)]) m g h op 4 7 n sz = oD (tJ0 op [(sumG op, true), (op != 9, true)]) 46 (hP ({ fl8M m sz op (lo8 m.r3) (hi8 m.r2) with r3 := slo m.r3 (f8v (nSum m op (lo8 m.r3) (hi8 m.r2))) }) g h) := by kernel_rfl
theorem sm4_7f : eD (pJ0 14 [(22, true), (0, false)]) m g h op 4 7 n sz = oD (tJ0 op [(sumG op, true), (op != 9, false)]) 46 (hP (fl8M m sz op (lo8 m.r3) (hi8 m.r2)) g h) := by kernel_rfl
theorem sm4_8t : eD (pJ0 14 [(22, true), (0, true)]) m g h op 4 8 n sz = oD (tJ0 op [(sumG op, true), (op != 9, true)]) 46 (hP ({ fl8M m sz op (lo8 m.r3) (hi8 m.r3) with r3 := slo m.r3 (f8v (nSum m op (lo8 m.r3) (hi8 m.r3))) }) g h) := by kernel_rfl
theorem sm4_8f : eD (pJ0 14 [(22, true), (0, false)]) m g h op 4 8 n sz = oD (tJ0 op [(sumG op, true), (op != 9, false)]) 46 (hP (fl8M m sz op (lo8 m.r3) (hi8 m.r3)) g h) := by kernel_rfl
theorem sm4_17t : eD (pJ0 14 [(17, true), (0, true), (0, true), (0, true)]) m g h op 4 17 n sz = oD (tJ0 op [(decide (0 ≤ m.r3) && decide (m.r3 < 65536), true), (Nat.blt (adr m.r3) 65536, true), (sumG op, true), (op != 9, true)]) 46 (hP ({ fl8M m sz op (lo8 m.r3) (ldB h m.r3) with r3 := slo m.r3 (f8v (nSum m op (lo8 m.r3) (ldB h m.r3))) }) g h) := by kernel_rfl
theorem sm4_17f : eD (pJ0 14 [(17, true), (0, true), (0, true), (0, false)]) m g h op 4 17 n sz = oD (tJ0 op [(decide (0 ≤ m.r3) && decide (m.r3 < 65536), true), (Nat.blt (adr m.r3) 65536, true), (sumG op, true), (op != 9, false)]) 46 (hP (fl8M m sz op (lo8 m.r3) (ldB h m.r3)) g h) := by kernel_rfl
theorem sm4_20t : eD (pJ0 14 [(14, true), (0, true)]) m g h op 4 20 n sz = oD (tJ0 op [(sumG op, true), (op != 9, true)]) 46 (hP ({ fl8M m sz op (lo8 m.r3) n with r3 := slo m.r3 (f8v (nSum m op (lo8 m.r3) n)) }) g h) := by kernel_rfl
theorem sm4_20f : eD (pJ0 14 [(14, true), (0, false)]) m g h op 4 20 n sz = oD (tJ0 op [(sumG op, true), (op != 9, false)]) 46 (hP (fl8M m sz op (lo8 m.r3) n) g h) := by kernel_rfl
end Go.Proofs.Ytnknopebjdgdjaa
namespace Go.Proofs.Ytnknopebjdgdjaa
open Go Go.Ly Go.RowKit
variable (m : Mc) (g h : Nat → Int) (op n sz : Int)
include m g h op n sz
set_option linter.unusedSectionVars false
end Go.Proofs.Ytnknopebjdgdjaa
namespace Go.Proofs.Ytnknopebjdgdjaa
open Go Go.Ly Go.RowKit
variable (m : Mc) (g h : Nat → Int) (op n sz : Int)
include m g h op n sz
set_option linter.unusedSectionVars false
theorem sm6_1t : eD (pJ0 14 [(22, true), (0, true)]) m g h op 6 1 n sz = oD (tJ0 op [(sumG op, true), (op != 9, true)]) 46 (hP ({ fl8M m sz op (hi8 m.r1) (lo8 m.r0) with r1 := shi m.r1 (f8v (nSum m op (hi8 m.r1) (lo8 m.r0))) }) g h) := by kernel_rfl
theorem sm6_1f : eD (pJ0 14 [(22, true), (0, false)]) m g h op 6 1 n sz = oD (tJ0 op [(sumG op, true), (op != 9, false)]) 46 (hP (fl8M m sz op (hi8 m.r1) (lo8 m.r0)) g h) := by kernel_rfl
theorem sm6_2t : eD (pJ0 14 [(22, true), (0, true)]) m g h op 6 2 n sz = oD (tJ0 op [(sumG op, true), (op != 9, true)]) 46 (hP ({ fl8M m sz op (hi8 m.r1) (lo8 m.r1) with r1 := shi m.r1 (f8v (nSum m op (hi8 m.r1) (lo8 m.r1))) }) g h) := by kernel_rfl
theorem sm6_2f : eD (pJ0 14 [(22, true), (0, false)]) m g h op 6 2 n sz = oD (tJ0 op [(sumG op, true), (op != 9, false)]) 46 (hP (fl8M m sz op (hi8 m.r1) (lo8 m.r1)) g h) := by kernel_rfl
theorem sm6_3t : eD (pJ0 14 [(22, true), (0, true)]) m g h op 6 3 n sz = oD (tJ0 op [(sumG op, true), (op != 9, true)]) 46 (hP ({ fl8M m sz op (hi8 m.r1) (lo8 m.r2) with r1 := shi m.r1 (f8v (nSum m op (hi8 m.r1) (lo8 m.r2))) }) g h) := by kernel_rfl
theorem sm6_3f : eD (pJ0 14 [(22, true), (0, false)]) m g h op 6 3 n sz = oD (tJ0 op [(sumG op, true), (op != 9, false)]) 46 (hP (fl8M m sz op (hi8 m.r1) (lo8 m.r2)) g h) := by kernel_rfl
theorem sm6_4t : eD (pJ0 14 [(22, true), (0, true)]) m g h op 6 4 n sz = oD (tJ0 op [(sumG op, true), (op != 9, true)]) 46 (hP ({ fl8M m sz op (hi8 m.r1) (lo8 m.r3) with r1 := shi m.r1 (f8v (nSum m op (hi8 m.r1) (lo8 m.r3))) }) g h) := by kernel_rfl
theorem sm6_4f : eD (pJ0 14 [(22, true), (0, false)]) m g h op 6 4 n sz = oD (tJ0 op [(sumG op, true), (op != 9, false)]) 46 (hP (fl8M m sz op (hi8 m.r1) (lo8 m.r3)) g h) := by kernel_rfl
theorem sm6_6t : eD (pJ0 14 [(22, true), (0, true)]) m g h op 6 6 n sz = oD (tJ0 op [(sumG op, true), (op != 9, true)]) 46 (hP ({ fl8M m sz op (hi8 m.r1) (hi8 m.r1) with r1 := shi m.r1 (f8v (nSum m op (hi8 m.r1) (hi8 m.r1))) }) g h) := by kernel_rfl
theorem sm6_6f : eD (pJ0 14 [(22, true), (0, false)]) m g h op 6 6 n sz = oD (tJ0 op [(sumG op, true), (op != 9, false)]) 46 (hP (fl8M m sz op (hi8 m.r1) (hi8 m.r1)) g h) := by kernel_rfl
theorem sm6_7t : eD (pJ0 14 [(22, true), (0, true)]) m g h op 6 7 n sz = oD (tJ0 op [(sumG op, true), (op != 9, true)]) 46 (hP ({ fl8M m sz op (hi8 m.r1) (hi8 m.r2) with r1 := shi m.r1 (f8v (nSum m op (hi8 m.r1) (hi8 m.r2))) }) g h) := by kernel_rfl
theorem sm6_7f : eD (pJ0 14 [(22, true), (0, false)]) m g h op 6 7 n sz = oD (tJ0 op [(sumG op, true), (op != 9, false)]) 46 (hP (fl8M m sz op (hi8 m.r1) (hi8 m.r2)) g h) := by kernel_rfl
theorem sm6_8t : eD (pJ0 14 [(22, true), (0, true)]) m g h op 6 8 n sz = oD (tJ0 op [(sumG op, true), (op != 9, true)]) 46 (hP ({ fl8M m sz op (hi8 m.r1) (hi8 m.r3) with r1 := shi m.r1 (f8v (nSum m op (hi8 m.r1) (hi8 m.r3))) }) g h) := by kernel_rfl
theorem sm6_8f : eD (pJ0 14 [(22, true), (0, false)]) m g h op 6 8 n sz = oD (tJ0 op [(sumG op, true), (op != 9, false)]) 46 (hP (fl8M m sz op (hi8 m.r1) (hi8 m.r3)) g h) := by kernel_rfl
theorem sm6_17t : eD (pJ0 14 [(17, true), (0, true), (0, true), (0, true)]) m g h op 6 17 n sz = oD (tJ0 op [(decide (0 ≤ m.r3) && decide (m.r3 < 65536), true), (Nat.blt (adr m.r3) 65536, true), (sumG op, true), (op != 9, true)]) 46 (hP ({ fl8M m sz op (hi8 m.r1) (ldB h m.r3) with r1 := shi m.r1 (f8v (nSum m op (hi8 m.r1) (ldB h m.r3))) }) g h) := by kernel_rfl
theorem sm6_17f : eD (pJ0 14 [(17, true), (0, true), (0, true), (0, false)]) m g h op 6 17 n sz = oD (tJ0 op [(decide (0 ≤ m.r3) && decide (m.r3 < 65536), true), (Nat.blt (adr m.r3) 65536, true), (sumG op, true), (op != 9, false)]) 46 (hP (fl8M m sz op (hi8 m.r1) (ldB h m.r3)) g h) := by kernel_rfl
theorem sm6_20t : eD (pJ0 14 [(14, true), (0, true)]) m g h op 6 20 n sz = oD (tJ0 op [(sumG op, true), (op != 9, true)]) 46 (hP ({ fl8M m sz op (hi8 m.r1) n with r1 := shi m.r1 (f8v (nSum m op (hi8 m.r1) n)) }) g h) := by kernel_rfl
theorem sm6_20f : eD (pJ0 14 [(14, true), (0, false)]) m g h op 6 20 n sz = oD (tJ0 op [(sumG op, true), (op != 9, false)]) 46 (hP (fl8M m sz op (hi8 m.r1) n) g h) := by kernel_rfl
end Go.Proofs.Ytnknopebjdgdjaa
namespace Go.Proofs.Ytnknopebjdgdjaa
open Go Go.Ly Go.RowKit
variable (m : Mc) (g h : Nat → Int) (op n sz : Int)
include m g h op n sz
set_option linter.unusedSectionVars false
theorem sm7_1t : eD (pJ0 14 [(22, true), (0, true)]) m g h op 7 1 n sz = oD (tJ0 op [(sumG op, true), (op != 9, true)]) 46 (hP ({ fl8M m sz op (hi8 m.r2) (lo8 m.r0) with r2 := shi m.r2 (f8v (nSum m op (hi8 m.r2) (lo8 m.r0))) }) g h) := by kernel_rfl
theorem sm7_1f : eD (pJ0 14 [(22, true), (0, false)]) m g h op 7 1 n sz = oD (tJ0 op [(sumG op, true), (op != 9, false)]) 46 (hP (fl8M m sz op (hi8 m.r2) (lo8 m.r0)) g h) := by kernel_rfl
theorem sm7_2t : eD (pJ0 14 [(22, true), (0, true)]) m g h op 7 2 n sz = oD (tJ0 op [(sumG op, true), (op != 9, true)]) 46 (hP ({ fl8M m sz op (hi8 m.r2) (lo8 m.r1) with r2 := shi m.r2 (f8v (nSum m op (hi8 m.r2) (lo8 m.r1))) }) g h) := by kernel_rfl
theorem sm7_2f : eD (pJ0 14 [(22, true), (0, false)]) m g h op 7 2 n sz = oD (tJ0 op [(sumG op, true), (op != 9, false)]) 46 (hP (fl8M m sz op (hi8 m.r2) (lo8 m.r1)) g h) := by kernel_rfl
theorem sm7_3t : eD (pJ0 14 [(22, true), (0, true)]) m g h op 7 3 n sz = oD (tJ0 op [(sumG op, true), (op != 9, true)]) 46 (hP ({ fl8M m sz op (hi8 m.r2) (lo8 m.r2) with r2 := shi m.r2 (f8v (nSum m op (hi8 m.r2) (lo8 m.r2))) }) g h) := by kernel_rfl
theorem sm7_3f : eD (pJ0 14 [(22, true), (0, false)]) m g h op 7 3 n sz = oD (tJ0 op [(sumG op, true), (op != 9, false)]) 46 (hP (fl8M m sz op (hi8 m.r2) (lo8 m.r2)) g h) := by kernel_rfl
theorem sm7_4t : eD (pJ0 14 [(22, true), (0, true)]) m g h op 7 4 n sz = oD (tJ0 op [(sumG op, true), (op != 9, true)]) 46 (hP ({ fl8M m sz op (hi8 m.r2) (lo8 m.r3) with r2 := shi m.r2 (f8v (nSum m op (hi8 m.r2) (lo8 m.r3))) }) g h) := by kernel_rfl
theorem sm7_4f : eD (pJ0 14 [(22, true), (0, false)]) m g h op 7 4 n sz = oD (tJ0 op [(sumG op, true), (op != 9, false)]) 46 (hP (fl8M m sz op (hi8 m.r2) (lo8 m.r3)) g h) := by kernel_rfl
theorem sm7_6t : eD (pJ0 14 [(22, true), (0, true)]) m g h op 7 6 n sz = oD (tJ0 op [(sumG op, true), (op != 9, true)]) 46 (hP ({ fl8M m sz op (hi8 m.r2) (hi8 m.r1) with r2 := shi m.r2 (f8v (nSum m op (hi8 m.r2) (hi8 m.r1))) }) g h) := by kernel_rfl
theorem sm7_6f : eD (pJ0 14 [(22, true), (0, false)]) m g h op 7 6 n sz = oD (tJ0 op [(sumG op, true), (op != 9, false)]) 46 (hP (fl8M m sz op (hi8 m.r2) (hi8 m.r1)) g h) := by kernel_rfl
theorem sm7_7t : eD (pJ0 14 [(22, true), (0, true)]) m g h op 7 7 n sz = oD (tJ0 op [(sumG op, true), (op != 9, true)]) 46 (hP ({ fl8M m sz op (hi8 m.r2) (hi8 m.r2) with r2 := shi m.r2 (f8v (nSum m op (hi8 m.r2) (hi8 m.r2))) }) g h) := by kernel_rfl
theorem sm7_7f : eD (pJ0 14 [(22, true), (0, false)]) m g h op 7 7 n sz = oD (tJ0 op [(sumG op, true), (op != 9, false)]) 46 (hP (fl8M m sz op (hi8 m.r2) (hi8 m.r2)) g h) := by kernel_rfl
theorem sm7_8t : eD (pJ0 14 [(22, true), (0, true)]) m g h op 7 8 n sz = oD (tJ0 op [(sumG op, true), (op != 9, true)]) 46 (hP ({ fl8M m sz op (hi8 m.r2) (hi8 m.r3) with r2 := shi m.r2 (f8v (nSum m op (hi8 m.r2) (hi8 m.r3))) }) g h) := by kernel_rfl
theorem sm7_8f : eD (pJ0 14 [(22, true), (0, false)]) m g h op 7 8 n sz = oD (tJ0 op [(sumG op, true), (op != 9, false)]) 46 (hP (fl8M m sz op (hi8 m.r2) (hi8 m.r3)) g h) := by kernel_rfl
theorem sm7_17t : eD (pJ0 14 [(17, true), (0, true), (0, true), (0, true)]) m g h op 7 17 n sz = oD (tJ0 op [(decide (0 ≤ m.r3) && decide (m.r3 < 65536), true), (Nat.blt (adr m.r3) 65536, true), (sumG op, true), (op != 9, true)]) 46 (hP ({ fl8M m sz op (hi8 m.r2) (ldB h m.r3) with r2 := shi m.r2 (f8v (nSum m op (hi8 m.r2) (ldB h m.r3))) }) g h) := by kernel_rfl
theorem sm7_17f : eD (pJ0 14 [(17, true), (0, true), (0, true), (0, false)]) m g h op 7 17 n sz = oD (tJ0 op [(decide (0 ≤ m.r3) && decide (m.r3 < 65536), true), (Nat.blt (adr m.r3) 65536, true), (sumG op, true), (op != 9, false)]) 46 (hP (fl8M m sz op (hi8 m.r2) (ldB h m.r3)) g h) := by kernel_rfl
theorem sm7_20t : eD (pJ0 14 [(14, true), (0, true)]) m g h op 7 20 n sz = oD (tJ0 op [(sumG op, true), (op != 9, true)]) 46 (hP ({ fl8M m sz op (hi8 m.r2) n with r2 := shi m.r2 (f8v (nSum m op (hi8 m.r2) n)) }) g h) := by kernel_rfl
theorem sm7_20f : eD (pJ0 14 [(14, true), (0, false)]) m g h op 7 20 n sz = oD (tJ0 op [(sumG op, true), (op != 9, false)]) 46 (hP (fl8M m sz op (hi8 m.r2) n) g h) := by kernel_rfl
end Go.Proofs.Ytnknopebjdgdjaa
namespace Go.Proofs.Ytnknopebjdgdjaa
open Go Go.Ly Go.RowKit
variable (m : Mc) (g h : Nat → Int) (op n sz : Int)
include m g h op n sz
set_option linter.unusedSectionVars false
theorem sm8_1t : eD (pJ0 14 [(22, true), (0, true)]) m g h op 8 1 n sz = oD (tJ0 op [(sumG op, true), (op != 9, true)]) 46 (hP ({ fl8M m sz op (hi8 m.r3) (lo8 m.r0) with r3 := shi m.r3 (f8v (nSum m op (hi8 m.r3) (lo8 m.r0))) }) g h) := by kernel_rfl
theorem sm8_1f : eD (pJ0 14 [(22, true), (0, false)]) m g h op 8 1 n sz = oD (tJ0 op [(sumG op, true), (op != 9, false)]) 46 (hP (fl8M m sz op (hi8 m.r3) (lo8 m.r0)) g h) := by kernel_rfl
theorem sm8_2t : eD (pJ0 14 [(22, true), (0, true)]) m g h op 8 2 n sz = oD (tJ0 op [(sumG op, true), (op != 9, true)]) 46 (hP ({ fl8M m sz op (hi8 m.r3) (lo8 m.r1) with r3 := shi m.r3 (f8v (nSum m op (hi8 m.r3) (lo8 m.r1))) }) g h) := by kernel_rfl
theorem sm8_2f : eD (pJ0 14 [(22, true), (0, false)]) m g h op 8 2 n sz = oD (tJ0 op [(sumG op, true), (op != 9, false)]) 46 (hP (fl8M m sz op (hi8 m.r3) (lo8 m.r1)) g h) := by kernel_rfl
theorem sm8_3t : eD (pJ0 14 [(22, true), (0, true)]) m g h op 8 3 n sz = oD (tJ0 op [(sumG op, true), (op != 9, true)]) 46 (hP ({ fl8M m sz op (hi8 m.r3) (lo8 m.r2) with r3 := shi m.r3 (f8v (nSum m op (hi8 m.r3) (lo8 m.r2))) }) g h) := by kernel_rfl
theorem sm8_3f : eD (pJ0 14 [(22, true), (0, false)]) m g h op 8 3 n sz = oD (tJ0 op [(sumG op, true), (op != 9, false)]) 46 (hP (fl8M m sz op (hi8 m.r3) (lo8 m.r2)) g h) := by kernel_rfl
theorem sm8_4t : eD (pJ0 14 [(22, true), (0, true)]) m g h op 8 4 n sz = oD (tJ0 op [(sumG op, true), (op != 9, true)]) 46 (hP ({ fl8M m sz op (hi8 m.r3) (lo8 m.r3) with r3 := shi m.r3 (f8v (nSum m op (hi8 m.r3) (lo8 m.r3))) }) g h) := by kernel_rfl
theorem sm8_4f : eD (pJ0 14 [(22, true), (0, false)]) m g h op 8 4 n sz = oD (tJ0 op [(sumG op, true), (op != 9, false)]) 46 (hP (fl8M m sz op (hi8 m.r3) (lo8 m.r3)) g h) := by kernel_rfl
theorem sm8_6t : eD (pJ0 14 [(22, true), (0, true)]) m g h op 8 6 n sz = oD (tJ0 op [(sumG op, true), (op != 9, true)]) 46 (hP ({ fl8M m sz op (hi8 m.r3) (hi8 m.r1) with r3 := shi m.r3 (f8v (nSum m op (hi8 m.r3) (hi8 m.r1))) }) g h) := by kernel_rfl
theorem sm8_6f : eD (pJ0 14 [(22, true), (0, false)]) m g h op 8 6 n sz = oD (tJ0 op [(sumG op, true), (op != 9, false)]) 46 (hP (fl8M m sz op (hi8 m.r3) (hi8 m.r1)) g h) := by kernel_rfl
theorem sm8_7t : eD (pJ0 14 [(22, true), (0, true)]) m g h op 8 7 n sz = oD (tJ0 op [(sumG op, true), (op != 9, true)]) 46 (hP ({ fl8M m sz op (hi8 m.r3) (hi8 m.r2) with r3 := shi m.r3 (f8v (nSum m op (hi8 m.r3) (hi8 m.r2))) }) g h) := by kernel_rfl
theorem sm8_7f : eD (pJ0 14 [(22, true), (0, false)]) m g h op 8 7 n sz = oD (tJ0 op [(sumG op, true), (op != 9, false)]) 46 (hP (fl8M m sz op (hi8 m.r3) (hi8 m.r2)) g h) := by kernel_rfl
theorem sm8_8t : eD (pJ0 14 [(22, true), (0, true)]) m g h op 8 8 n sz = oD (tJ0 op [(sumG op, true), (op != 9, true)]) 46 (hP ({ fl8M m sz op (hi8 m.r3) (hi8 m.r3) with r3 := shi m.r3 (f8v (nSum m op (hi8 m.r3) (hi8 m.r3))) }) g h) := by kernel_rfl
theorem sm8_8f : eD (pJ0 14 [(22, true), (0, false)]) m g h op 8 8 n sz = oD (tJ0 op [(sumG op, true), (op != 9, false)]) 46 (hP (fl8M m sz op (hi8 m.r3) (hi8 m.r3)) g h) := by kernel_rfl
theorem sm8_17t : eD (pJ0 14 [(17, true), (0, true), (0, true), (0, true)]) m g h op 8 17 n sz = oD (tJ0 op [(decide (0 ≤ m.r3) && decide (m.r3 < 65536), true), (Nat.blt (adr m.r3) 65536, true), (sumG op, true), (op != 9, true)]) 46 (hP ({ fl8M m sz op (hi8 m.r3) (ldB h m.r3) with r3 := shi m.r3 (f8v (nSum m op (hi8 m.r3) (ldB h m.r3))) }) g h) := by kernel_rfl
theorem sm8_17f : eD (pJ0 14 [(17, true), (0, true), (0, true), (0, false)]) m g h op 8 17 n sz = oD (tJ0 op [(decide (0 ≤ m.r3) && decide (m.r3 < 65536), true), (Nat.blt (adr m.r3) 65536, true), (sumG op, true), (op != 9, false)]) 46 (hP (fl8M m sz op (hi8 m.r3) (ldB h m.r3)) g h) := by kernel_rfl
theorem sm8_20t : eD (pJ0 14 [(14, true), (0, true)]) m g h op 8 20 n sz = oD (tJ0 op [(sumG op, true), (op != 9, true)]) 46 (hP ({ fl8M m sz op (hi8 m.r3) n with r3 := shi m.r3 (f8v (nSum m op (hi8 m.r3) n)) }) g h) := by kernel_rfl
theorem sm8_20f : eD (pJ0 14 [(14, true), (0, false)]) m g h op 8 20 n sz = oD (tJ0 op [(sumG op, true), (op != 9, false)]) 46 (hP (fl8M m sz op (hi8 m.r3) n) g h) := by kernel_rfl
end Go.Proofs.Ytnknopebjdgdjaa
end
