/- Part 6 of the texts that the law needs, laid together. By program (pack.py). -/
import Derived.Test.YtdjmpilegommlaaPte
import Derived.KernelRfl
import Derived.Laws.BitsLemmas
import Derived.Laws.BitsAllLaws
set_option linter.unusedVariables false
set_option linter.unusedSimpArgs false
noncomputable section
namespace Go.Ly
section
variable {P : Program}
theorem Rep.grow {ρ : Ren} {H : Heap} {w : World} {n : Nat} (h : H.next ≤ n) (hb : n < big) (hr : Rep ρ H w) : Rep ρ { H with next := n } w :=
  ⟨hb, fun i b e => ⟨Nat.lt_of_lt_of_le (hr.dom i b e).1 h, (hr.dom i b e).2⟩, hr.inj, fun i o e => Nat.lt_of_lt_of_le (hr.ltn i o e) h, hr.obj, hr.arg, hr.fix⟩
theorem Ends.grow {f : FuncId} {args : List Value} {os : List (Option LO)} {I : List Nat} {v : Value} {nx : Nat} {os' : List (Option LO)} (h : Ends P f args os I v nx os') {n : Nat} (hn : nx ≤ n) (hb : n < big) : Ends P f args os I v n os' := by
  intro ρ args' w ha hr
  refine (h ρ args' w ha hr).mono ?_
  rintro e w' ⟨ρ', u, u', H', rfl, ⟨rfl, h1, h2, h3⟩, h4, h5, h6, h7, h8⟩
  exact ⟨ρ', u, u', { H' with next := n }, rfl, ⟨rfl, rfl, h2, h3⟩, h4, h5, h6, h7.grow (by omega) hb, h8⟩
end
end Go.Ly
namespace Go.Ly
open Go.RowKit
def cleanB (H : Heap) : Nat → Bool
  | 0 => true
  | n + 1 => (match H.get n with | some o => noTokO o | none => true) && cleanB H n
theorem cleanB_spec {H : Heap} : ∀ (n : Nat), cleanB H n = true → ∀ i, i < n → ∀ o, H.get i = some o → noTokO o = true
  | 0, _, i, hi, _, _ => by omega
  | n + 1, h, i, hi, o, ho => by
    simp only [cleanB, Bool.and_eq_true] at h
    rcases Nat.lt_or_ge i n with h1 | h1
    · exact cleanB_spec n h.2 i h1 o ho
    · have : i = n := by omega
      subst this
      have h2 := h.1
      rw [ho] at h2; exact h2
def haltG (keep bs : List Nat) (nx : Nat) (d : St) (r : RO) : Bool × List (Bool × Bool) × Bool × (Func × List KI × Option Tmp × Nat) × List Value × (Bool × Bool × Bool) × List (Option LO) := (r.isHalt, r.trust, (r.st d).rest.isEmpty && Nat.blt (r.st d).top.fn.ntmps 1000000, ((r.st d).top.fn, (r.st d).top.k, (r.st d).top.dst, (r.st d).base), keepV keep (r.st d).top.fn.ntmps (r.st d).top.t, (Nat.beq (r.st d).H.next nx, Nat.beq (r.st d).H.lock 0, cleanB (r.st d).H nx), bs.map (r.st d).H.get)
section
variable {P : Program} {C : Ctx} {Q : Value → Heap → Prop}
theorem MWp.haltG (hC : C.Ok P) {S d : St} {t : List (Bool × Bool)} {fn : Func} {k : List KI} {dst : Option Tmp} {base nx : Nat} {vals : List Value} {os : List (Option LO)} (keep bs : List Nat) (n : Nat) (p : Path)
    (h : Go.Ly.haltG keep bs nx d (run C n p S) = (true, t, true, (fn, k, dst, base), vals, (true, true, true), os)) (ht : trusted t)
    (hs : ∀ H, H.next = nx → H.lock = 0 → Clean H → bs.map H.get = os → MWp P (atSt fn k dst base vals H) Q) : MWp P S Q := by
  simp only [Go.Ly.haltG, Prod.mk.injEq] at h
  obtain ⟨h1, h2, h3, ⟨h4, h5, h6, h7⟩, h8, ⟨h9, h10, h11⟩, h12⟩ := h
  have hn := Nat.eq_of_beq_eq_true h9
  refine MWp.halted (H := ((run C n p S).st d).H) (fn := fn) (k := k) (dst := dst) (base := base) (vals := vals) hC keep n p (d := d) ?_ ht ?_
  · simp only [haltF, Prod.mk.injEq]
    exact ⟨h1, h2, h3, ⟨h4, h5, h6, h7⟩, h8, trivial⟩
  · refine MWp.ltn fun hlt hsm => ?_
    exact hs _ hn (Nat.eq_of_beq_eq_true h10) (fun i o ho => cleanB_spec nx h11 i (by rw [← hn]; exact hlt i o ho) o ho) h12
end
def haltH (keep bs : List Nat) (nx : Nat) (d : St) (r : RO) : Bool × List (Bool × Bool) × Bool × (Func × List KI × Option Tmp × Nat) × List Value × (Bool × Bool × Bool) × List (Option LO) := forceTr forceO (r.st d).top.t fun t => forceTr forceLO (r.st d).H.m fun hm => (r.isHalt, r.trust, (r.st d).rest.isEmpty && Nat.blt (r.st d).top.fn.ntmps 1000000, ((r.st d).top.fn, (r.st d).top.k, (r.st d).top.dst, (r.st d).base), keepV keep (r.st d).top.fn.ntmps t, (Nat.beq (r.st d).H.next nx, Nat.beq (r.st d).H.lock 0, cleanB { m := hm, next := (r.st d).H.next, lock := (r.st d).H.lock } nx), bs.map (Heap.get { m := hm, next := (r.st d).H.next, lock := (r.st d).H.lock }))
theorem haltH_eq (keep bs : List Nat) (nx : Nat) (d : St) (r : RO) : haltH keep bs nx d r = Go.Ly.haltG keep bs nx d r := by
  unfold haltH Go.Ly.haltG
  rw [forceTr_eq forceO_eq, forceTr_eq forceLO_eq]
section
variable {P : Program} {C : Ctx} {Q : Value → Heap → Prop}
theorem MWp.haltH (hC : C.Ok P) {S d : St} {t : List (Bool × Bool)} {fn : Func} {k : List KI} {dst : Option Tmp} {base nx : Nat} {vals : List Value} {os : List (Option LO)} (keep bs : List Nat) (n : Nat) (p : Path)
    (h : Go.Ly.haltH keep bs nx d (run C n p S) = (true, t, true, (fn, k, dst, base), vals, (true, true, true), os)) (ht : trusted t)
    (hs : ∀ H, H.next = nx → H.lock = 0 → Clean H → bs.map H.get = os → MWp P (atSt fn k dst base vals H) Q) : MWp P S Q :=
  MWp.haltG hC keep bs n p (by rw [← haltH_eq]; exact h) ht hs
end
def opVal (E : Env) (S : St) : Option Value :=
  match S.top.k with
  | .ops all (o :: l) :: k =>
    bif guardB all S.top.t S.top.fn.ntmps o && dstOk S.top.fn.ntmps o.dst then
      (match evOp E S.H S.top.t o with
      | .val v => some v
      | _ => none)
    else none
  | _ => none
theorem MWp.val {P : Program} {E : Env} {Q : Value → Heap → Prop} (hE : E.Ok P) {S : St} {v : Value} (h : opVal E S = some v) (hs : MWp P (behind S v S.H) Q) : MWp P S Q := by
  unfold opVal at h
  split at h
  · rename_i all o l k hk
    cases hc : (guardB all S.top.t S.top.fn.ntmps o && dstOk S.top.fn.ntmps o.dst) with
    | false => rw [hc] at h; cases h
    | true =>
      rw [hc] at h; simp only [cond_true] at h
      simp only [Bool.and_eq_true] at hc
      intro ρ w g gs R hr hf hfs hR
      unfold stateWp
      rw [hf.k, hk]
      show wpList P all _ (o :: l) g.a w
      unfold wpList
      rw [guardB_wanted P hf hc.1, if_pos rfl]
      left
      have hgood := evOp_good hE hr hf.t o
      cases he : evOp E S.H S.top.t o with
      | val u =>
        rw [he] at h hgood
        simp only [Option.some.injEq] at h
        subst h
        obtain ⟨v', hv, hrun⟩ := hgood
        unfold Oper.wp; rw [hrun]
        simp only [Oper.upon]
        refine putFr_sound (S := S) (Q := Q) (v := u) (H' := S.H) (k := .ops all l :: k) (dst := o.dst) ?_ hf hfs (Ren.le_refl ρ) (Fresh.refl ρ w) hr (Keep.refl ρ w) hv hR
        unfold putFr
        rw [hc.2]
        unfold behind at hs
        rw [hk] at hs
        exact hs
      | _ => rw [he] at h; cases h
  · cases h
section
variable {P : Program} {Q : Value → Heap → Prop}
theorem MWp.few {S : St} {I : List Nat} {os : List LO} {n : Nat} (hl : S.H.lock = 0) (hn : S.H.next ≤ n) (hb : n < big) (hI : I.length = os.length) (hnd : I.Nodup) (hlt : ∀ b ∈ I, b < big)
    (h : ∀ (j b : Nat) (o : LO), I[j]? = some b → os[j]? = some o → ∃ x, S.H.get b = some x ∧ OW x o) (hs : MWp P { S with H := vH I (os.map some) n } Q) : MWp P S Q := by
  intro ρ w g gs R hr hf hfs hR
  obtain ⟨h1, h2⟩ := setZip_get I (os.map some) .nil (by simpa using hI) hlt hnd
  have hK : Rep ρ { m := setAll (I.zip (os.map some)) .nil, next := S.H.next } w := by
    refine Rep.weak (H := S.H) ⟨rfl, hl.symm, fun i o hi => ?_⟩ hr
    by_cases hm : i ∈ I
    · obtain ⟨j, hj⟩ := List.getElem?_of_mem hm
      have hjl : j < os.length := by
        have := (List.getElem?_eq_some_iff.1 hj).1; omega
      have ho : (os.map some)[j]? = some (some os[j]) := by rw [List.getElem?_map, List.getElem?_eq_getElem hjl]; rfl
      have := h1 j i _ hj ho
      have hi' : (setAll (I.zip (os.map some)) .nil).get i = some o := hi
      rw [this] at hi'
      simp only [Option.some.injEq] at hi'
      subst hi'
      exact h j i _ hj (List.getElem?_eq_getElem hjl)
    · have := h2 i hm
      have hi' : (setAll (I.zip (os.map some)) .nil).get i = some o := hi
      rw [this, Tr.get_nil] at hi'; cases hi'
  have hK2 : Rep ρ (vH I (os.map some) n) w := Rep.grow (H := { m := setAll (I.zip (os.map some)) .nil, next := S.H.next }) hn hb hK
  exact hs ρ w g gs R hK2 hf hfs hR
end
end Go.Ly
namespace Go.Proofs.Ytdjmpilegommlaa
open Go Go.Ly Go.RowKit
def inw (a : Int) : Bool := decide (0 ≤ a) && decide (a ≤ 65535)
theorem inw_iff (a : Int) : inw a = true ↔ 0 ≤ a ∧ a ≤ 65535 := by unfold inw; rw [Bool.and_eq_true, decide_eq_true_eq, decide_eq_true_eq]
def cx0 : Ctx := xctx.with 20 sizeC
theorem cx0_ok : cx0.Ok Try.prog := xok.with size20_ans
def cx1 : Ctx := cx0.withC 68 (conTree cx0 600 68)
theorem cx1_ok : cx1.Ok Try.prog := cx0_ok.byCon cx0_ok 600 68
def cx2 : Ctx := cx1.withC 45 (conTree cx1 600 45)
theorem cx2_ok : cx2.Ok Try.prog := cx1_ok.byCon cx1_ok 600 45
def cx3 : Ctx := cx2.withH 81 (hconTree cx2 600 81)
theorem cx3_ok : cx3.Ok Try.prog := cx2_ok.byRun cx2_ok 600 81
def haltAt (C : Ctx) (f : Nat) : Ctx := C.withH f (fun _ _ => .no)
theorem haltAt_ok {C : Ctx} (h : C.Ok Try.prog) (f : Nat) : (haltAt C f).Ok Try.prog := h.withH (fun _ _ => trivial)
structure Mc where
  r0 : Int
  r1 : Int
  r2 : Int
  r3 : Int
  r4 : Int
  r5 : Int
  r7 : Int
  fs : Bool
  fz : Bool
  fx : Bool
  fp : Bool
  fc : Bool
  sp : Int
  pc : Int
  ie : Bool
  halt : Bool
def cellsP (m : Mc) (i o : Value) : List Value := [.int .u8 m.r0, .int .u8 m.r1, .int .u8 m.r2, .int .u8 m.r3, .int .u8 m.r4, .int .u8 m.r5, .int .u8 0, .int .u8 m.r7, .bool m.fs, .bool m.fz, .bool m.fx, .bool m.fp, .bool m.fc, .int .u16 m.sp, .int .u16 m.pc, .bool m.ie, .bool m.halt, i, o, sl 1 65536]
def memL (f : Nat → Int) : LO := .fn 1 (fun e _ => .int .u8 (f e)) 65536 5
def ptr (i : Nat) : Value := .pointer (some ⟨i, 0, none⟩)
def hP (m : Mc) (g : Nat → Int) : List (Option LO) := [some (.cells (cellsP m (tokV 17) (tokV 18)) 53), some (memL g)]
def pathP : Path := [(1, false), (0, true), (0, true), (0, true), (0, true), (0, true), (0, true)]
def dP : St := Ly.start Try.f23 [] H0
def skipK : Nat → List Bool → List KI → List KI
  | 0, _, k => k
  | n + 1, ds, .code .skip :: k => skipK n ds k
  | n + 1, ds, .code (.seq a b) :: k => skipK n ds (.code a :: .code b :: k)
  | n + 1, ds, .code (.region _ _ _) :: k => skipK n ds k
  | n + 1, d :: ds, .code (.cond _ a b) :: k => skipK n ds (.code (bif d then a else b) :: k)
  | n + 1, ds, .code (.block id a) :: k => skipK n ds (.code a :: .inBlock id :: k)
  | n + 1, ds, .code (.exit id) :: k => match exitK id k with | some k' => skipK n ds k' | none => k
  | n + 1, ds, .inBlock _ :: k => skipK n ds k
  | _, _, k => k
def bodyK (f : Func) : List KI := match f.body with | some c => [.code c] | none => []
def opsAt (j : Nat) : List KI → List KI
  | .code (.region _ ops _) :: k => .ops ops (ops.toList.drop j) :: k
  | k => k
def kP : List KI := opsAt 1 (skipK 15 [false, false] (bodyK Try.f23))
def at1 (pc : Int) (k : Int) : Nat := 0 + (IntKind.u16.wrap (pc + k)).toNat * 1
def tP (m : Mc) : List (Bool × Bool) := [(m.halt, false), (decide (0 ≤ m.pc) && decide (m.pc < 65536), true), (Nat.blt (0 + m.pc.toNat * 1) 65536, true), (decide (0 ≤ IntKind.u16.wrap (m.pc + 1)) && decide (IntKind.u16.wrap (m.pc + 1) < 65536), true), (Nat.blt (at1 m.pc 1) 65536, true), (decide (0 ≤ IntKind.u16.wrap (m.pc + 2)) && decide (IntKind.u16.wrap (m.pc + 2) < 65536), true), (Nat.blt (at1 m.pc 2) 65536, true)]
def sP (m : Mc) (g : Nat → Int) (b0 b1 b2 : Int) : St := atSt Try.f23 kP none 2 (slots 130 [(0, ptr 0), (53, .slice (some ⟨2, 0, none⟩) 3 3)]) ((mkH (hP m g)).new (.cells [.int .u8 b0, .int .u8 b1, .int .u8 b2] 5))
theorem juncP (m : Mc) (g : Nat → Int) : haltF [0, 53] dP (Ly.run (haltAt cx3 43) 300 pathP (Ly.start Try.f23 [ptr 0] (mkH (hP m g)))) = (true, tP m, true, (Try.f23, kP, none, 2), slots 130 [(0, ptr 0), (53, .slice (some ⟨2, 0, none⟩) 3 3)], (mkH (hP m g)).new (.cells [.int .u8 (g (0 + m.pc.toNat * 1)), .int .u8 (g (at1 m.pc 1)), .int .u8 (g (at1 m.pc 2))] 5)) := by kernel_rfl
def B8 (n : Int) : Prop := 0 ≤ n ∧ n ≤ 255
def B16 (n : Int) : Prop := 0 ≤ n ∧ n ≤ 65535
structure Mc.Ok (m : Mc) : Prop where
  r0 : B8 m.r0
  r1 : B8 m.r1
  r2 : B8 m.r2
  r3 : B8 m.r3
  r4 : B8 m.r4
  r5 : B8 m.r5
  r7 : B8 m.r7
  sp : B16 m.sp
  pc : B16 m.pc
def Mem (g : Nat → Int) : Prop := ∀ e, B8 (g e)
def upd (g : Nat → Int) (i : Nat) (v : Int) : Nat → Int := fun e => bif Nat.beq e i then v else g e
theorem upd_mem {g : Nat → Int} {i : Nat} {v : Int} (hg : Mem g) (hv : B8 v) : Mem (upd g i v) := by
  intro e; unfold upd; cases Nat.beq e i <;> simp [hv, hg e]
theorem mem1 (g : Nat → Int) (i : Nat) (v : Int) : LOeq (.fn 1 (updG (fun e _ => .int .u8 (g e)) i 0 [.int .u8 v]) 65536 5) (memL (upd g i v)) := by
  refine .inr ⟨1, _, _, _, _, rfl, rfl, fun e x _ hx => ?_⟩
  obtain rfl : x = 0 := by omega
  rfl
theorem mem2 (g : Nat → Int) (i j : Nat) (u v : Int) : LOeq (.fn 1 (updG (updG (fun e _ => .int .u8 (g e)) i 0 [.int .u8 u]) j 0 [.int .u8 v]) 65536 5) (memL (upd (upd g i u) j v)) := by
  refine .inr ⟨1, _, _, _, _, rfl, rfl, fun e x _ hx => ?_⟩
  obtain rfl : x = 0 := by omega
  rfl
theorem gP13 : cx3.fn.get 23 = some Try.f23 := by kernel_rfl
theorem wrap16 (n : Int) : B16 (IntKind.u16.wrap n) := by unfold B16; rw [IntKind.wrap_u16]; omega
theorem inw_of {n : Int} (h : B16 n) : inw n = true := (inw_iff n).2 h
theorem inb_of {n : Int} (h : B8 n) : inb n = true := (inb_iff n).2 h
theorem idx_of {n : Int} (h : B16 n) : (decide (0 ≤ n) && decide (n < 65536)) = true := by unfold B16 at h; simp; omega
theorem blt_of {n : Int} (h : B16 n) : Nat.blt (0 + n.toNat * 1) 65536 = true := by unfold B16 at h; rw [Nat.blt_eq]; omega
theorem trP {m : Mc} (hm : m.Ok) (hh : m.halt = false) : trusted (tP m) := by
  simp only [tP, trusted, hh, idx_of hm.pc, blt_of hm.pc, idx_of (wrap16 _), at1, blt_of (wrap16 _), and_self]
def w16 (n : Int) : Int := IntKind.u16.wrap n
def w8 (n : Int) : Int := IntKind.u8.wrap n
def or16 (a b : Int) : Int := bits .or .u16 a b
def and16 (a b : Int) : Int := bits .and .u16 a b
def xor8 (a b : Int) : Int := bits .xor .u8 a b
def and8 (a b : Int) : Int := bits .and .u8 a b
def or8 (a b : Int) : Int := bits .or .u8 a b
def ix (n : Int) : Nat := 0 + n.toNat * 1
def rg (n : Int) : Bool := decide (0 ≤ n) && decide (n < 65536)
def lt16 (n : Int) : Bool := decide (n < 65536)
def bl (n : Nat) : Bool := Nat.blt n 65536
def T (l : List Bool) : List (Bool × Bool) := l.map fun b => (b, true)
def M1 (g : Nat → Int) (i : Nat) (v : Int) : LO := .fn 1 (updG (fun e _ => .int .u8 (g e)) i 0 [.int .u8 v]) 65536 5
def M2 (g : Nat → Int) (i : Nat) (u : Int) (j : Nat) (v : Int) : LO := .fn 1 (updG (updG (fun e _ => .int .u8 (g e)) i 0 [.int .u8 u]) j 0 [.int .u8 v]) 65536 5
def hPm (m : Mc) (o : LO) : List (Option LO) := [some (.cells (cellsP m (tokV 17) (tokV 18)) 53), some o]
theorem B8.w {n : Int} (h : B8 n) : B16 n := ⟨h.1, by have := h.2; omega⟩
theorem w16e (n : Int) : w16 n = n % 65536 := IntKind.wrap_u16 n
theorem w8e (n : Int) : w8 n = n % 256 := IntKind.wrap_u8 n
@[simp] theorem b8w8 (n : Int) : B8 (w8 n) := by unfold B8; rw [w8e]; omega
@[simp] theorem b16w16 (n : Int) : B16 (w16 n) := by unfold B16; rw [w16e]; omega
@[simp] theorem b8mod (n : Int) : B8 (n % 256) := by unfold B8; omega
theorem bitsNat (op : BinOp) (k : IntKind) (a b : Int) : ∃ n : Int, bits op k a b = k.wrap n := by
  unfold bits; exact ⟨_, rfl⟩
@[simp] theorem b16or (a b : Int) : B16 (or16 a b) := by
  obtain ⟨n, h⟩ := bitsNat .or .u16 a b; unfold or16; rw [h]; exact b16w16 n
@[simp] theorem b8xor (a b : Int) : B8 (xor8 a b) := by
  obtain ⟨n, h⟩ := bitsNat .xor .u8 a b; unfold xor8; rw [h]; exact b8w8 n
@[simp] theorem b8and (a b : Int) : B8 (and8 a b) := by
  obtain ⟨n, h⟩ := bitsNat .and .u8 a b; unfold and8; rw [h]; exact b8w8 n
@[simp] theorem b8or (a b : Int) : B8 (or8 a b) := by
  obtain ⟨n, h⟩ := bitsNat .or .u8 a b; unfold or8; rw [h]; exact b8w8 n
@[simp] theorem b16pair {h l : Int} (hh : B8 h) (hl : B8 l) : B16 (256 * h + l) := by unfold B8 at hh hl; unfold B16; omega
@[simp] theorem b16_0 : B16 0 := by unfold B16; omega
@[simp] theorem b16_8 : B16 8 := by unfold B16; omega
@[simp] theorem b16_16 : B16 16 := by unfold B16; omega
@[simp] theorem b16_24 : B16 24 := by unfold B16; omega
@[simp] theorem b16_32 : B16 32 := by unfold B16; omega
@[simp] theorem b16_40 : B16 40 := by unfold B16; omega
@[simp] theorem b16_48 : B16 48 := by unfold B16; omega
@[simp] theorem b16_56 : B16 56 := by unfold B16; omega
@[simp] theorem b16of {n : Int} (h : B8 n) : B16 n := h.w
@[simp] theorem w16id {n : Int} (h : B16 n) : w16 n = n := by unfold B16 at h; rw [w16e]; omega
@[simp] theorem w8id {n : Int} (h : B8 n) : w8 n = n := by unfold B8 at h; rw [w8e]; omega
@[simp] theorem sh8 {n : Int} (h : B8 n) : w16 (n * 256) = 256 * n := by unfold B8 at h; rw [w16e]; omega
theorem or_add (h l : Nat) (hh : h < 256) (hl : l < 256) : (256 * h) ||| l = 256 * h + l := by
  have := Nat.two_pow_add_eq_or_of_lt (i := 8) (b := l) (by omega) h
  simpa using this.symm
@[simp] theorem orhl {h l : Int} (hh : B8 h) (hl : B8 l) : or16 (256 * h) l = 256 * h + l := by
  unfold B8 at hh hl
  obtain ⟨h', rfl⟩ := Int.eq_ofNat_of_zero_le hh.1
  obtain ⟨l', rfl⟩ := Int.eq_ofNat_of_zero_le hl.1
  show IntKind.u16.wrap ((BitVec.ofInt 16 (256 * (h' : Int)) ||| BitVec.ofInt 16 (l' : Int)).toNat : Nat) = _
  have e1 : (BitVec.ofInt 16 (256 * (h' : Int))).toNat = 256 * h' := by rw [BitVec.toNat_ofInt]; omega
  have e2 : (BitVec.ofInt 16 (l' : Int)).toNat = l' := by rw [BitVec.toNat_ofInt]; omega
  rw [BitVec.toNat_or, e1, e2, or_add h' l' (by omega) (by omega), IntKind.wrap_u16]; omega
@[simp] theorem orlh {h l : Int} (hh : B8 h) (hl : B8 l) : or16 l (256 * h) = 256 * h + l := by
  have : or16 l (256 * h) = or16 (256 * h) l := by
    show IntKind.u16.wrap ((BitVec.ofInt 16 l ||| BitVec.ofInt 16 (256 * h)).toNat : Nat) = IntKind.u16.wrap ((BitVec.ofInt 16 (256 * h) ||| BitVec.ofInt 16 l).toNat : Nat)
    rw [BitVec.or_comm]
  rw [this, orhl hh hl]
@[simp] theorem or0 {n : Int} (h : B8 n) : or16 0 n = n := by
  have := orhl (h := 0) (l := n) (by unfold B8; omega) h
  simpa using this
@[simp] theorem rdw {a b : Int} (ha : B8 a) (hb : B8 b) : w16 (a + 256 * b) = 256 * b + a := by unfold B8 at ha hb; rw [w16e]; omega
@[simp] theorem and255u (n : Int) : w8 (and16 n 255) = w8 n := by
  show IntKind.u8.wrap (IntKind.u16.wrap ((BitVec.ofInt 16 n &&& BitVec.ofInt 16 255).toNat : Nat)) = IntKind.u8.wrap n
  have h1 : (BitVec.ofInt 16 255).toNat = 2 ^ 8 - 1 := by decide
  have key : (BitVec.ofInt 16 n &&& BitVec.ofInt 16 255).toNat = (n % ((2 ^ 16 : Nat) : Int)).toNat % 2 ^ 8 := by
    rw [BitVec.toNat_and, BitVec.toNat_ofInt, h1, Nat.and_two_pow_sub_one_eq_mod]
  rw [key, IntKind.wrap_u8, IntKind.wrap_u8, IntKind.wrap_u16]; omega
@[simp] theorem addneg1 (n : Int) : n + -1 = n - 1 := rfl
@[simp] theorem b8_0 : B8 0 := by unfold B8; omega
@[simp] theorem b8_255 : B8 255 := by unfold B8; omega
@[simp] theorem b8rrc {n : Int} (h : B8 n) : B8 (n / 2 + n % 2 * 128) := by unfold B8 at h ⊢; omega
@[simp] theorem b8rar {n : Int} (h : B8 n) (b : Bool) : B8 (n / 2 + 128 * cI b) := by unfold B8 at h ⊢; cases b <;> simp [cI] <;> omega
@[simp] theorem addneg2 (n : Int) : n + -2 = n - 2 := rfl
@[simp] theorem back2 {n : Int} (h : B16 n) : w16 (w16 (n + 2) - 2) = n := by unfold B16 at h; rw [w16e, w16e]; omega
@[simp] theorem xnot {n : Int} (h : B8 n) : xor8 255 n = w8 (255 - n) := by
  rw [w8e]
  have := not8 n h.1 h.2
  unfold xor8
  rw [show bits BinOp.xor IntKind.u8 255 n = 255 - n from this]
  unfold B8 at h; omega
@[simp] theorem rgt {n : Int} (h : B16 n) : rg n = true := idx_of h
@[simp] theorem lt16t {n : Int} (h : B16 n) : lt16 n = true := by unfold B16 at h; unfold lt16; simp; omega
@[simp] theorem blt' {n : Int} (h : B16 n) : bl (ix n) = true := blt_of h
@[simp] theorem inbt {n : Int} (h : B8 n) : inb n = true := inb_of h
@[simp] theorem inwt {n : Int} (h : B16 n) : inw n = true := inw_of h
@[simp] theorem Tnil : trusted (T []) = True := rfl
@[simp] theorem Tcons (b : Bool) (l : List Bool) : trusted (T (b :: l)) = (b = true ∧ trusted (T l)) := rfl
@[simp] theorem trnil : trusted [] = True := rfl
@[simp] theorem trcons (b d : Bool) (l : List (Bool × Bool)) : trusted ((b, d) :: l) = (b = d ∧ trusted l) := rfl
@[simp] theorem ixne {n : Int} (h : B16 n) : ix (w16 (n + 1)) ≠ ix n := by unfold B16 at h; unfold ix; rw [w16e]; omega
theorem cIb (b : Bool) : 0 ≤ cI b ∧ cI b ≤ 1 := by cases b <;> simp [cI]
@[simp] theorem b8psw (a b c d e : Bool) : B8 (128 * cI a + 64 * cI b + 16 * cI c + 4 * cI d + 2 + cI e) := by
  have := cIb a; have := cIb b; have := cIb c; have := cIb d; have := cIb e
  unfold B8; omega
theorem m1s {g : Nat → Int} {i i' : Nat} {v v' : Int} (h1 : i = i') (h2 : v = v') : LOeq (M1 g i v) (memL (upd g i' v')) := by subst h1 h2; exact mem1 g i v
theorem m2s {g : Nat → Int} {i i' j j' : Nat} {u u' v v' : Int} (h1 : i = i') (h2 : u = u') (h3 : j = j') (h4 : v = v') : LOeq (M2 g i u j v) (memL (upd (upd g i' u') j' v')) := by subst h1 h2 h3 h4; exact mem2 g i j u v
theorem eP {m : Mc} {o : LO} {g : Nat → Int} (h : LOeq o (memL g)) : Each2 OLeq (hPm m o) (hP m g) := ⟨.inl rfl, h, trivial⟩
theorem upd_b8 {g : Nat → Int} {i : Nat} {v : Int} (hg : ∀ e, B8 (g e)) (hv : B8 v) : ∀ e, B8 (upd g i v e) := upd_mem hg hv
@[simp] theorem at1_ix (n k : Int) : at1 n k = ix (w16 (n + k)) := rfl
@[simp] theorem cIt : cI true = 1 := rfl
@[simp] theorem cIf : cI false = 0 := rfl
def Stp (m : Mc) (g : Nat → Int) (m' : Mc) (g' : Nat → Int) (k : Int) : Prop := Ly.Ends Try.prog 23 [ptr 0] (hP m g) [0, 1] (.int .i64 k) 64 (hP m' g')
theorem joinP {m m' : Mc} {g g' : Nat → Int} {k b0 : Int} {nP : Nat} {tP' : List (Bool × Bool)} {pP : Path} {osP : List (Option LO)} (hm : m.Ok) (hh : m.halt = false) (h0 : g (ix m.pc) = b0)
    (hp : endsAt [0, 1] (Ly.run cx3 3000 pP (sP m g b0 (g (at1 m.pc 1)) (g (at1 m.pc 2)))) = some (tP', .int .i64 k, nP, osP)) (h1 : trusted tP') (h3 : nP ≤ 64) (h5 : Each2 OLeq osP (hP m' g')) : Stp m g m' g' k := by
  have e1 := MWp.ends cx3_ok 3000 pP hp h1
  have e2 : Ly.Ends Try.prog 23 [ptr 0] (hP m g) [0, 1] (.int .i64 k) nP osP := by
    refine LCalls_of cx3_ok gP13 (by kernel_rfl) (MWp.halted (haltAt_ok cx3_ok 43) [0, 53] 300 pathP (juncP m g) (trP hm hh) ?_)
    have h0' : g (0 + m.pc.toNat * 1) = b0 := h0
    rw [h0']; exact e1
  exact (e2.eqv (by kernel_rfl) h5).grow h3 (by unfold big; omega)
end Go.Proofs.Ytdjmpilegommlaa
namespace Go.Proofs.Ytdjmpilegommlaa
open Go Go.Ly Go.RowKit
def setF (m : Mc) (s z x p c : Bool) : Mc := { m with fs := s, fz := z, fx := x, fp := p, fc := c }
structure RQ (a b : Mc) : Prop where
  r0 : a.r0 = b.r0
  r1 : a.r1 = b.r1
  r2 : a.r2 = b.r2
  r3 : a.r3 = b.r3
  r4 : a.r4 = b.r4
  r5 : a.r5 = b.r5
  r7 : a.r7 = b.r7
  sp : a.sp = b.sp
  pc : a.pc = b.pc
  halt : a.halt = b.halt
def EqA (a b : Mc) : Prop := a.fs = b.fs ∧ a.fz = b.fz ∧ a.fx = b.fx ∧ a.fp = b.fp
def FR (v : Int) (m n a b : Mc) : Prop := (v = 31 ∧ EqA a b ∧ a.fc = b.fc) ∨ (v = 15 ∧ EqA a b ∧ a.fc = m.fc ∧ b.fc = n.fc) ∨ (v = 16 ∧ a.fc = b.fc ∧ EqA a m ∧ EqA b n) ∨ (v = 0 ∧ (EqA a m ∧ a.fc = m.fc) ∧ EqA b n ∧ b.fc = n.fc)
def Tw (v : Int) (m n : Mc) (g : Nat → Int) : Prop := ∃ a b ga gb k, Stp m g a ga k ∧ Stp n g b gb k ∧ RQ a b ∧ FR v m n a b
theorem setF_ok {m : Mc} {s z x p c : Bool} (h : m.Ok) : (setF m s z x p c).Ok := ⟨h.r0, h.r1, h.r2, h.r3, h.r4, h.r5, h.r7, h.sp, h.pc⟩
def Agr (u : Int) (m : Mc) (s z x p c : Bool) : Prop := (u = 1 → m.fs = s) ∧ (u = 2 → m.fz = z) ∧ (u = 8 → m.fp = p) ∧ (u = 16 → m.fc = c) ∧ (u = 20 → m.fx = x ∧ m.fc = c) ∧ (u = 31 → m.fs = s ∧ m.fz = z ∧ m.fx = x ∧ m.fp = p ∧ m.fc = c)
end Go.Proofs.Ytdjmpilegommlaa
namespace Go.Proofs.Ytdjmpilegommlaa
open Go Go.Ly Go.RowKit
theorem p00_0 (m : Mc) (g : Nat → Int) (b1 b2 : Int) : endsAt [0, 1] (Ly.run cx3 3000 [] (sP m g 0 b1 b2)) = some (T [], .int .i64 0, 5, hPm { m with pc := w16 (m.pc + 1) } (memL g)) := by kernel_rfl
theorem p01_0 (m : Mc) (g : Nat → Int) (b1 b2 : Int) : endsAt [0, 1] (Ly.run cx3 3000 [] (sP m g 1 b1 b2)) = some (T [], .int .i64 0, 5, hPm { m with pc := w16 (m.pc + 3), r0 := w8 ((or16 (w16 (or16 0 (w16 b2) * 256)) (w16 b1)).fdiv 256), r1 := w8 (or16 (w16 (or16 0 (w16 b2) * 256)) (w16 b1)) } (memL g)) := by kernel_rfl
theorem p02_0 (m : Mc) (g : Nat → Int) (b1 b2 : Int) : endsAt [0, 1] (Ly.run cx3 3000 [(33, true), (0, true)] (sP m g 2 b1 b2)) = some (T [(true && lt16 (or16 (w16 (w16 m.r0 * 256)) (w16 m.r1))), bl (ix (or16 (w16 (w16 m.r0 * 256)) (w16 m.r1)))], .int .i64 0, 5, hPm { m with pc := w16 (m.pc + 1) } (M1 g (ix (or16 (w16 (w16 m.r0 * 256)) (w16 m.r1))) (m.r7))) := by kernel_rfl
@[simp] def z03_0 (m : Mc) : Mc := { m with pc := w16 (m.pc + 1), r0 := w8 ((w16 (or16 (w16 (w16 m.r0 * 256)) (w16 m.r1) + 1)).fdiv 256), r1 := w8 (w16 (or16 (w16 (w16 m.r0 * 256)) (w16 m.r1) + 1)) }
theorem p03_0 (m : Mc) (g : Nat → Int) (b1 b2 : Int) : endsAt [0, 1] (Ly.run cx3 3000 [] (sP m g 3 b1 b2)) = some (T [], .int .i64 0, 5, hPm (z03_0 m) (memL g)) := by kernel_rfl
@[simp] def z04_0 (m : Mc) : Mc := { m with fp := par ((m.r0 + 1) % 256), fs := decide (128 ≤ (m.r0 + 1) % 256), fx := decide (15 < m.r0 % 16 + 1), fz := (m.r0 + 1) % 256 == 0, pc := w16 (m.pc + 1), r0 := (m.r0 + 1) % 256 }
theorem p04_0 (m : Mc) (g : Nat → Int) (b1 b2 : Int) : endsAt [0, 1] (Ly.run cx3 3000 [(21, true)] (sP m g 4 b1 b2)) = some (T [inb m.r0], .int .i64 0, 5, hPm (z04_0 m) (memL g)) := by kernel_rfl
@[simp] def z05_0 (m : Mc) : Mc := { m with fp := par ((m.r0 - 1) % 256), fs := decide (128 ≤ (m.r0 - 1) % 256), fx := decide (15 < m.r0 % 16 + 15), fz := (m.r0 - 1) % 256 == 0, pc := w16 (m.pc + 1), r0 := (m.r0 - 1) % 256 }
theorem p05_0 (m : Mc) (g : Nat → Int) (b1 b2 : Int) : endsAt [0, 1] (Ly.run cx3 3000 [(22, true)] (sP m g 5 b1 b2)) = some (T [inb m.r0], .int .i64 0, 5, hPm (z05_0 m) (memL g)) := by kernel_rfl
theorem p06_0 (m : Mc) (g : Nat → Int) (b1 b2 : Int) : endsAt [0, 1] (Ly.run cx3 3000 [] (sP m g 6 b1 b2)) = some (T [], .int .i64 0, 5, hPm { m with pc := w16 (m.pc + 2), r0 := w8 (or16 0 (w16 b1)) } (memL g)) := by kernel_rfl
@[simp] def z07_0 (m : Mc) : Mc := { m with fc := decide (128 ≤ m.r7), pc := w16 (m.pc + 1), r7 := (2 * m.r7 + m.r7 / 128) % 256 }
theorem p07_0 (m : Mc) (g : Nat → Int) (b1 b2 : Int) : endsAt [0, 1] (Ly.run cx3 3000 [(27, true)] (sP m g 7 b1 b2)) = some (T [inb m.r7], .int .i64 0, 5, hPm (z07_0 m) (memL g)) := by kernel_rfl
@[simp] def z09_0 (m : Mc) : Mc := { m with fc := decide (65535 < or16 (w16 (w16 m.r4 * 256)) (w16 m.r5) + or16 (w16 (w16 m.r0 * 256)) (w16 m.r1)), pc := w16 (m.pc + 1), r4 := w8 (((or16 (w16 (w16 m.r4 * 256)) (w16 m.r5) + or16 (w16 (w16 m.r0 * 256)) (w16 m.r1)) % 65536).fdiv 256), r5 := w8 ((or16 (w16 (w16 m.r4 * 256)) (w16 m.r5) + or16 (w16 (w16 m.r0 * 256)) (w16 m.r1)) % 65536) }
theorem p09_0 (m : Mc) (g : Nat → Int) (b1 b2 : Int) : endsAt [0, 1] (Ly.run cx3 3000 [(37, true)] (sP m g 9 b1 b2)) = some (T [true && decide (or16 (w16 (w16 m.r4 * 256)) (w16 m.r5) ≤ 65535) && (true && decide (or16 (w16 (w16 m.r0 * 256)) (w16 m.r1) ≤ 65535))], .int .i64 0, 5, hPm (z09_0 m) (memL g)) := by kernel_rfl
@[simp] def z0a_0 (m : Mc) (g : Nat → Int) : Mc := { m with pc := w16 (m.pc + 1), r7 := g (ix (or16 (w16 (w16 m.r0 * 256)) (w16 m.r1))) }
theorem p0a_0 (m : Mc) (g : Nat → Int) (b1 b2 : Int) : endsAt [0, 1] (Ly.run cx3 3000 [(34, true), (0, true)] (sP m g 10 b1 b2)) = some (T [(true && lt16 (or16 (w16 (w16 m.r0 * 256)) (w16 m.r1))), bl (ix (or16 (w16 (w16 m.r0 * 256)) (w16 m.r1)))], .int .i64 0, 5, hPm (z0a_0 m g) (memL g)) := by kernel_rfl
@[simp] def z0b_0 (m : Mc) : Mc := { m with pc := w16 (m.pc + 1), r0 := w8 ((w16 (or16 (w16 (w16 m.r0 * 256)) (w16 m.r1) - 1)).fdiv 256), r1 := w8 (w16 (or16 (w16 (w16 m.r0 * 256)) (w16 m.r1) - 1)) }
theorem p0b_0 (m : Mc) (g : Nat → Int) (b1 b2 : Int) : endsAt [0, 1] (Ly.run cx3 3000 [] (sP m g 11 b1 b2)) = some (T [], .int .i64 0, 5, hPm (z0b_0 m) (memL g)) := by kernel_rfl
@[simp] def z0c_0 (m : Mc) : Mc := { m with fp := par ((m.r1 + 1) % 256), fs := decide (128 ≤ (m.r1 + 1) % 256), fx := decide (15 < m.r1 % 16 + 1), fz := (m.r1 + 1) % 256 == 0, pc := w16 (m.pc + 1), r1 := (m.r1 + 1) % 256 }
theorem p0c_0 (m : Mc) (g : Nat → Int) (b1 b2 : Int) : endsAt [0, 1] (Ly.run cx3 3000 [(21, true)] (sP m g 12 b1 b2)) = some (T [inb m.r1], .int .i64 0, 5, hPm (z0c_0 m) (memL g)) := by kernel_rfl
@[simp] def z0d_0 (m : Mc) : Mc := { m with fp := par ((m.r1 - 1) % 256), fs := decide (128 ≤ (m.r1 - 1) % 256), fx := decide (15 < m.r1 % 16 + 15), fz := (m.r1 - 1) % 256 == 0, pc := w16 (m.pc + 1), r1 := (m.r1 - 1) % 256 }
theorem p0d_0 (m : Mc) (g : Nat → Int) (b1 b2 : Int) : endsAt [0, 1] (Ly.run cx3 3000 [(22, true)] (sP m g 13 b1 b2)) = some (T [inb m.r1], .int .i64 0, 5, hPm (z0d_0 m) (memL g)) := by kernel_rfl
theorem p0e_0 (m : Mc) (g : Nat → Int) (b1 b2 : Int) : endsAt [0, 1] (Ly.run cx3 3000 [] (sP m g 14 b1 b2)) = some (T [], .int .i64 0, 5, hPm { m with pc := w16 (m.pc + 2), r1 := w8 (or16 0 (w16 b1)) } (memL g)) := by kernel_rfl
@[simp] def z0f_0 (m : Mc) : Mc := { m with fc := m.r7 % 2 == 1, pc := w16 (m.pc + 1), r7 := m.r7 / 2 + m.r7 % 2 * 128 }
theorem p0f_0 (m : Mc) (g : Nat → Int) (b1 b2 : Int) : endsAt [0, 1] (Ly.run cx3 3000 [(27, true)] (sP m g 15 b1 b2)) = some (T [inb m.r7], .int .i64 0, 5, hPm (z0f_0 m) (memL g)) := by kernel_rfl
end Go.Proofs.Ytdjmpilegommlaa
namespace Go.Proofs.Ytdjmpilegommlaa
open Go Go.Ly Go.RowKit
theorem t00 {m : Mc} {g : Nat → Int} {s z x p c : Bool} (hm : m.Ok) (hg : ∀ e, B8 (g e)) (hh : m.halt = false) (h0 : g (ix m.pc) = 0) : Tw 0 m (setF m s z x p c) g := by
  obtain ⟨r0, r1, r2, r3, r4, r5, r7, sp, pc⟩ := id hm
  have hm2 := setF_ok (s := s) (z := z) (x := x) (p := p) (c := c) hm
  exact ⟨_, _, _, _, 0, joinP hm hh h0 (p00_0 m g _ _) (by simp [*]) (by decide) (eP (.inl rfl)), joinP hm2 hh h0 (p00_0 (setF m _ _ _ _ _) g _ _) (by simp [setF, *]) (by decide) (eP (.inl rfl)), ⟨rfl, rfl, rfl, rfl, rfl, rfl, rfl, rfl, rfl, rfl⟩, .inr (.inr (.inr ⟨rfl, ⟨⟨rfl, rfl, rfl, rfl⟩, rfl⟩, ⟨rfl, rfl, rfl, rfl⟩, rfl⟩))⟩
theorem t01 {m : Mc} {g : Nat → Int} {s z x p c : Bool} (hm : m.Ok) (hg : ∀ e, B8 (g e)) (hh : m.halt = false) (h0 : g (ix m.pc) = 1) : Tw 0 m (setF m s z x p c) g := by
  obtain ⟨r0, r1, r2, r3, r4, r5, r7, sp, pc⟩ := id hm
  have hm2 := setF_ok (s := s) (z := z) (x := x) (p := p) (c := c) hm
  exact ⟨_, _, _, _, 0, joinP hm hh h0 (p01_0 m g _ _) (by simp [*]) (by decide) (eP (.inl rfl)), joinP hm2 hh h0 (p01_0 (setF m _ _ _ _ _) g _ _) (by simp [setF, *]) (by decide) (eP (.inl rfl)), ⟨rfl, rfl, rfl, rfl, rfl, rfl, rfl, rfl, rfl, rfl⟩, .inr (.inr (.inr ⟨rfl, ⟨⟨rfl, rfl, rfl, rfl⟩, rfl⟩, ⟨rfl, rfl, rfl, rfl⟩, rfl⟩))⟩
theorem t02 {m : Mc} {g : Nat → Int} {s z x p c : Bool} (hm : m.Ok) (hg : ∀ e, B8 (g e)) (hh : m.halt = false) (h0 : g (ix m.pc) = 2) : Tw 0 m (setF m s z x p c) g := by
  obtain ⟨r0, r1, r2, r3, r4, r5, r7, sp, pc⟩ := id hm
  have hm2 := setF_ok (s := s) (z := z) (x := x) (p := p) (c := c) hm
  exact ⟨_, _, _, _, 0, joinP hm hh h0 (p02_0 m g _ _) (by simp [*]) (by decide) (eP (m1s rfl rfl)), joinP hm2 hh h0 (p02_0 (setF m _ _ _ _ _) g _ _) (by simp [setF, *]) (by decide) (eP (m1s rfl rfl)), ⟨rfl, rfl, rfl, rfl, rfl, rfl, rfl, rfl, rfl, rfl⟩, .inr (.inr (.inr ⟨rfl, ⟨⟨rfl, rfl, rfl, rfl⟩, rfl⟩, ⟨rfl, rfl, rfl, rfl⟩, rfl⟩))⟩
theorem t03 {m : Mc} {g : Nat → Int} {s z x p c : Bool} (hm : m.Ok) (hg : ∀ e, B8 (g e)) (hh : m.halt = false) (h0 : g (ix m.pc) = 3) : Tw 0 m (setF m s z x p c) g := by
  obtain ⟨r0, r1, r2, r3, r4, r5, r7, sp, pc⟩ := id hm
  have hm2 := setF_ok (s := s) (z := z) (x := x) (p := p) (c := c) hm
  exact ⟨_, _, _, _, 0, joinP hm hh h0 (p03_0 m g _ _) (by simp [*]) (by decide) (eP (.inl rfl)), joinP hm2 hh h0 (p03_0 (setF m _ _ _ _ _) g _ _) (by simp [setF, *]) (by decide) (eP (.inl rfl)), ⟨rfl, rfl, rfl, rfl, rfl, rfl, rfl, rfl, rfl, rfl⟩, .inr (.inr (.inr ⟨rfl, ⟨⟨rfl, rfl, rfl, rfl⟩, rfl⟩, ⟨rfl, rfl, rfl, rfl⟩, rfl⟩))⟩
theorem t04 {m : Mc} {g : Nat → Int} {s z x p c : Bool} (hm : m.Ok) (hg : ∀ e, B8 (g e)) (hh : m.halt = false) (h0 : g (ix m.pc) = 4) : Tw 15 m (setF m s z x p c) g := by
  obtain ⟨r0, r1, r2, r3, r4, r5, r7, sp, pc⟩ := id hm
  have hm2 := setF_ok (s := s) (z := z) (x := x) (p := p) (c := c) hm
  exact ⟨_, _, _, _, 0, joinP hm hh h0 (p04_0 m g _ _) (by simp [*]) (by decide) (eP (.inl rfl)), joinP hm2 hh h0 (p04_0 (setF m _ _ _ _ _) g _ _) (by simp [setF, *]) (by decide) (eP (.inl rfl)), ⟨rfl, rfl, rfl, rfl, rfl, rfl, rfl, rfl, rfl, rfl⟩, .inr (.inl ⟨rfl, ⟨rfl, rfl, rfl, rfl⟩, rfl, rfl⟩)⟩
theorem t05 {m : Mc} {g : Nat → Int} {s z x p c : Bool} (hm : m.Ok) (hg : ∀ e, B8 (g e)) (hh : m.halt = false) (h0 : g (ix m.pc) = 5) : Tw 15 m (setF m s z x p c) g := by
  obtain ⟨r0, r1, r2, r3, r4, r5, r7, sp, pc⟩ := id hm
  have hm2 := setF_ok (s := s) (z := z) (x := x) (p := p) (c := c) hm
  exact ⟨_, _, _, _, 0, joinP hm hh h0 (p05_0 m g _ _) (by simp [*]) (by decide) (eP (.inl rfl)), joinP hm2 hh h0 (p05_0 (setF m _ _ _ _ _) g _ _) (by simp [setF, *]) (by decide) (eP (.inl rfl)), ⟨rfl, rfl, rfl, rfl, rfl, rfl, rfl, rfl, rfl, rfl⟩, .inr (.inl ⟨rfl, ⟨rfl, rfl, rfl, rfl⟩, rfl, rfl⟩)⟩
theorem t06 {m : Mc} {g : Nat → Int} {s z x p c : Bool} (hm : m.Ok) (hg : ∀ e, B8 (g e)) (hh : m.halt = false) (h0 : g (ix m.pc) = 6) : Tw 0 m (setF m s z x p c) g := by
  obtain ⟨r0, r1, r2, r3, r4, r5, r7, sp, pc⟩ := id hm
  have hm2 := setF_ok (s := s) (z := z) (x := x) (p := p) (c := c) hm
  exact ⟨_, _, _, _, 0, joinP hm hh h0 (p06_0 m g _ _) (by simp [*]) (by decide) (eP (.inl rfl)), joinP hm2 hh h0 (p06_0 (setF m _ _ _ _ _) g _ _) (by simp [setF, *]) (by decide) (eP (.inl rfl)), ⟨rfl, rfl, rfl, rfl, rfl, rfl, rfl, rfl, rfl, rfl⟩, .inr (.inr (.inr ⟨rfl, ⟨⟨rfl, rfl, rfl, rfl⟩, rfl⟩, ⟨rfl, rfl, rfl, rfl⟩, rfl⟩))⟩
theorem t07 {m : Mc} {g : Nat → Int} {s z x p c : Bool} (hm : m.Ok) (hg : ∀ e, B8 (g e)) (hh : m.halt = false) (h0 : g (ix m.pc) = 7) : Tw 16 m (setF m s z x p c) g := by
  obtain ⟨r0, r1, r2, r3, r4, r5, r7, sp, pc⟩ := id hm
  have hm2 := setF_ok (s := s) (z := z) (x := x) (p := p) (c := c) hm
  exact ⟨_, _, _, _, 0, joinP hm hh h0 (p07_0 m g _ _) (by simp [*]) (by decide) (eP (.inl rfl)), joinP hm2 hh h0 (p07_0 (setF m _ _ _ _ _) g _ _) (by simp [setF, *]) (by decide) (eP (.inl rfl)), ⟨rfl, rfl, rfl, rfl, rfl, rfl, rfl, rfl, rfl, rfl⟩, .inr (.inr (.inl ⟨rfl, rfl, ⟨rfl, rfl, rfl, rfl⟩, ⟨rfl, rfl, rfl, rfl⟩⟩))⟩
theorem t09 {m : Mc} {g : Nat → Int} {s z x p c : Bool} (hm : m.Ok) (hg : ∀ e, B8 (g e)) (hh : m.halt = false) (h0 : g (ix m.pc) = 9) : Tw 16 m (setF m s z x p c) g := by
  obtain ⟨r0, r1, r2, r3, r4, r5, r7, sp, pc⟩ := id hm
  have hm2 := setF_ok (s := s) (z := z) (x := x) (p := p) (c := c) hm
  exact ⟨_, _, _, _, 0, joinP hm hh h0 (p09_0 m g _ _) (by simp [*]; unfold B8 B16 at *; omega) (by decide) (eP (.inl rfl)), joinP hm2 hh h0 (p09_0 (setF m _ _ _ _ _) g _ _) (by simp [setF, *]; unfold B8 B16 at *; omega) (by decide) (eP (.inl rfl)), ⟨rfl, rfl, rfl, rfl, rfl, rfl, rfl, rfl, rfl, rfl⟩, .inr (.inr (.inl ⟨rfl, rfl, ⟨rfl, rfl, rfl, rfl⟩, ⟨rfl, rfl, rfl, rfl⟩⟩))⟩
theorem t0a {m : Mc} {g : Nat → Int} {s z x p c : Bool} (hm : m.Ok) (hg : ∀ e, B8 (g e)) (hh : m.halt = false) (h0 : g (ix m.pc) = 10) : Tw 0 m (setF m s z x p c) g := by
  obtain ⟨r0, r1, r2, r3, r4, r5, r7, sp, pc⟩ := id hm
  have hm2 := setF_ok (s := s) (z := z) (x := x) (p := p) (c := c) hm
  exact ⟨_, _, _, _, 0, joinP hm hh h0 (p0a_0 m g _ _) (by simp [*]) (by decide) (eP (.inl rfl)), joinP hm2 hh h0 (p0a_0 (setF m _ _ _ _ _) g _ _) (by simp [setF, *]) (by decide) (eP (.inl rfl)), ⟨rfl, rfl, rfl, rfl, rfl, rfl, rfl, rfl, rfl, rfl⟩, .inr (.inr (.inr ⟨rfl, ⟨⟨rfl, rfl, rfl, rfl⟩, rfl⟩, ⟨rfl, rfl, rfl, rfl⟩, rfl⟩))⟩
theorem t0b {m : Mc} {g : Nat → Int} {s z x p c : Bool} (hm : m.Ok) (hg : ∀ e, B8 (g e)) (hh : m.halt = false) (h0 : g (ix m.pc) = 11) : Tw 0 m (setF m s z x p c) g := by
  obtain ⟨r0, r1, r2, r3, r4, r5, r7, sp, pc⟩ := id hm
  have hm2 := setF_ok (s := s) (z := z) (x := x) (p := p) (c := c) hm
  exact ⟨_, _, _, _, 0, joinP hm hh h0 (p0b_0 m g _ _) (by simp [*]) (by decide) (eP (.inl rfl)), joinP hm2 hh h0 (p0b_0 (setF m _ _ _ _ _) g _ _) (by simp [setF, *]) (by decide) (eP (.inl rfl)), ⟨rfl, rfl, rfl, rfl, rfl, rfl, rfl, rfl, rfl, rfl⟩, .inr (.inr (.inr ⟨rfl, ⟨⟨rfl, rfl, rfl, rfl⟩, rfl⟩, ⟨rfl, rfl, rfl, rfl⟩, rfl⟩))⟩
theorem t0c {m : Mc} {g : Nat → Int} {s z x p c : Bool} (hm : m.Ok) (hg : ∀ e, B8 (g e)) (hh : m.halt = false) (h0 : g (ix m.pc) = 12) : Tw 15 m (setF m s z x p c) g := by
  obtain ⟨r0, r1, r2, r3, r4, r5, r7, sp, pc⟩ := id hm
  have hm2 := setF_ok (s := s) (z := z) (x := x) (p := p) (c := c) hm
  exact ⟨_, _, _, _, 0, joinP hm hh h0 (p0c_0 m g _ _) (by simp [*]) (by decide) (eP (.inl rfl)), joinP hm2 hh h0 (p0c_0 (setF m _ _ _ _ _) g _ _) (by simp [setF, *]) (by decide) (eP (.inl rfl)), ⟨rfl, rfl, rfl, rfl, rfl, rfl, rfl, rfl, rfl, rfl⟩, .inr (.inl ⟨rfl, ⟨rfl, rfl, rfl, rfl⟩, rfl, rfl⟩)⟩
theorem t0d {m : Mc} {g : Nat → Int} {s z x p c : Bool} (hm : m.Ok) (hg : ∀ e, B8 (g e)) (hh : m.halt = false) (h0 : g (ix m.pc) = 13) : Tw 15 m (setF m s z x p c) g := by
  obtain ⟨r0, r1, r2, r3, r4, r5, r7, sp, pc⟩ := id hm
  have hm2 := setF_ok (s := s) (z := z) (x := x) (p := p) (c := c) hm
  exact ⟨_, _, _, _, 0, joinP hm hh h0 (p0d_0 m g _ _) (by simp [*]) (by decide) (eP (.inl rfl)), joinP hm2 hh h0 (p0d_0 (setF m _ _ _ _ _) g _ _) (by simp [setF, *]) (by decide) (eP (.inl rfl)), ⟨rfl, rfl, rfl, rfl, rfl, rfl, rfl, rfl, rfl, rfl⟩, .inr (.inl ⟨rfl, ⟨rfl, rfl, rfl, rfl⟩, rfl, rfl⟩)⟩
theorem t0e {m : Mc} {g : Nat → Int} {s z x p c : Bool} (hm : m.Ok) (hg : ∀ e, B8 (g e)) (hh : m.halt = false) (h0 : g (ix m.pc) = 14) : Tw 0 m (setF m s z x p c) g := by
  obtain ⟨r0, r1, r2, r3, r4, r5, r7, sp, pc⟩ := id hm
  have hm2 := setF_ok (s := s) (z := z) (x := x) (p := p) (c := c) hm
  exact ⟨_, _, _, _, 0, joinP hm hh h0 (p0e_0 m g _ _) (by simp [*]) (by decide) (eP (.inl rfl)), joinP hm2 hh h0 (p0e_0 (setF m _ _ _ _ _) g _ _) (by simp [setF, *]) (by decide) (eP (.inl rfl)), ⟨rfl, rfl, rfl, rfl, rfl, rfl, rfl, rfl, rfl, rfl⟩, .inr (.inr (.inr ⟨rfl, ⟨⟨rfl, rfl, rfl, rfl⟩, rfl⟩, ⟨rfl, rfl, rfl, rfl⟩, rfl⟩))⟩
theorem t0f {m : Mc} {g : Nat → Int} {s z x p c : Bool} (hm : m.Ok) (hg : ∀ e, B8 (g e)) (hh : m.halt = false) (h0 : g (ix m.pc) = 15) : Tw 16 m (setF m s z x p c) g := by
  obtain ⟨r0, r1, r2, r3, r4, r5, r7, sp, pc⟩ := id hm
  have hm2 := setF_ok (s := s) (z := z) (x := x) (p := p) (c := c) hm
  exact ⟨_, _, _, _, 0, joinP hm hh h0 (p0f_0 m g _ _) (by simp [*]) (by decide) (eP (.inl rfl)), joinP hm2 hh h0 (p0f_0 (setF m _ _ _ _ _) g _ _) (by simp [setF, *]) (by decide) (eP (.inl rfl)), ⟨rfl, rfl, rfl, rfl, rfl, rfl, rfl, rfl, rfl, rfl⟩, .inr (.inr (.inl ⟨rfl, rfl, ⟨rfl, rfl, rfl, rfl⟩, ⟨rfl, rfl, rfl, rfl⟩⟩))⟩
end Go.Proofs.Ytdjmpilegommlaa
namespace Go.Proofs.Ytdjmpilegommlaa
open Go Go.Ly Go.RowKit
theorem p11_0 (m : Mc) (g : Nat → Int) (b1 b2 : Int) : endsAt [0, 1] (Ly.run cx3 3000 [] (sP m g 17 b1 b2)) = some (T [], .int .i64 0, 5, hPm { m with pc := w16 (m.pc + 3), r2 := w8 ((or16 (w16 (or16 0 (w16 b2) * 256)) (w16 b1)).fdiv 256), r3 := w8 (or16 (w16 (or16 0 (w16 b2) * 256)) (w16 b1)) } (memL g)) := by kernel_rfl
theorem p12_0 (m : Mc) (g : Nat → Int) (b1 b2 : Int) : endsAt [0, 1] (Ly.run cx3 3000 [(33, true), (0, true)] (sP m g 18 b1 b2)) = some (T [(true && lt16 (or16 (w16 (w16 m.r2 * 256)) (w16 m.r3))), bl (ix (or16 (w16 (w16 m.r2 * 256)) (w16 m.r3)))], .int .i64 0, 5, hPm { m with pc := w16 (m.pc + 1) } (M1 g (ix (or16 (w16 (w16 m.r2 * 256)) (w16 m.r3))) (m.r7))) := by kernel_rfl
@[simp] def z13_0 (m : Mc) : Mc := { m with pc := w16 (m.pc + 1), r2 := w8 ((w16 (or16 (w16 (w16 m.r2 * 256)) (w16 m.r3) + 1)).fdiv 256), r3 := w8 (w16 (or16 (w16 (w16 m.r2 * 256)) (w16 m.r3) + 1)) }
theorem p13_0 (m : Mc) (g : Nat → Int) (b1 b2 : Int) : endsAt [0, 1] (Ly.run cx3 3000 [] (sP m g 19 b1 b2)) = some (T [], .int .i64 0, 5, hPm (z13_0 m) (memL g)) := by kernel_rfl
@[simp] def z14_0 (m : Mc) : Mc := { m with fp := par ((m.r2 + 1) % 256), fs := decide (128 ≤ (m.r2 + 1) % 256), fx := decide (15 < m.r2 % 16 + 1), fz := (m.r2 + 1) % 256 == 0, pc := w16 (m.pc + 1), r2 := (m.r2 + 1) % 256 }
theorem p14_0 (m : Mc) (g : Nat → Int) (b1 b2 : Int) : endsAt [0, 1] (Ly.run cx3 3000 [(21, true)] (sP m g 20 b1 b2)) = some (T [inb m.r2], .int .i64 0, 5, hPm (z14_0 m) (memL g)) := by kernel_rfl
@[simp] def z15_0 (m : Mc) : Mc := { m with fp := par ((m.r2 - 1) % 256), fs := decide (128 ≤ (m.r2 - 1) % 256), fx := decide (15 < m.r2 % 16 + 15), fz := (m.r2 - 1) % 256 == 0, pc := w16 (m.pc + 1), r2 := (m.r2 - 1) % 256 }
theorem p15_0 (m : Mc) (g : Nat → Int) (b1 b2 : Int) : endsAt [0, 1] (Ly.run cx3 3000 [(22, true)] (sP m g 21 b1 b2)) = some (T [inb m.r2], .int .i64 0, 5, hPm (z15_0 m) (memL g)) := by kernel_rfl
theorem p16_0 (m : Mc) (g : Nat → Int) (b1 b2 : Int) : endsAt [0, 1] (Ly.run cx3 3000 [] (sP m g 22 b1 b2)) = some (T [], .int .i64 0, 5, hPm { m with pc := w16 (m.pc + 2), r2 := w8 (or16 0 (w16 b1)) } (memL g)) := by kernel_rfl
@[simp] def z17_0 (m : Mc) : Mc := { m with fc := decide (128 ≤ m.r7), pc := w16 (m.pc + 1), r7 := (2 * m.r7 + cI m.fc) % 256 }
theorem p17_0 (m : Mc) (g : Nat → Int) (b1 b2 : Int) : endsAt [0, 1] (Ly.run cx3 3000 [(27, true)] (sP m g 23 b1 b2)) = some (T [inb m.r7], .int .i64 0, 5, hPm (z17_0 m) (memL g)) := by kernel_rfl
@[simp] def z19_0 (m : Mc) : Mc := { m with fc := decide (65535 < or16 (w16 (w16 m.r4 * 256)) (w16 m.r5) + or16 (w16 (w16 m.r2 * 256)) (w16 m.r3)), pc := w16 (m.pc + 1), r4 := w8 (((or16 (w16 (w16 m.r4 * 256)) (w16 m.r5) + or16 (w16 (w16 m.r2 * 256)) (w16 m.r3)) % 65536).fdiv 256), r5 := w8 ((or16 (w16 (w16 m.r4 * 256)) (w16 m.r5) + or16 (w16 (w16 m.r2 * 256)) (w16 m.r3)) % 65536) }
theorem p19_0 (m : Mc) (g : Nat → Int) (b1 b2 : Int) : endsAt [0, 1] (Ly.run cx3 3000 [(37, true)] (sP m g 25 b1 b2)) = some (T [true && decide (or16 (w16 (w16 m.r4 * 256)) (w16 m.r5) ≤ 65535) && (true && decide (or16 (w16 (w16 m.r2 * 256)) (w16 m.r3) ≤ 65535))], .int .i64 0, 5, hPm (z19_0 m) (memL g)) := by kernel_rfl
@[simp] def z1a_0 (m : Mc) (g : Nat → Int) : Mc := { m with pc := w16 (m.pc + 1), r7 := g (ix (or16 (w16 (w16 m.r2 * 256)) (w16 m.r3))) }
theorem p1a_0 (m : Mc) (g : Nat → Int) (b1 b2 : Int) : endsAt [0, 1] (Ly.run cx3 3000 [(34, true), (0, true)] (sP m g 26 b1 b2)) = some (T [(true && lt16 (or16 (w16 (w16 m.r2 * 256)) (w16 m.r3))), bl (ix (or16 (w16 (w16 m.r2 * 256)) (w16 m.r3)))], .int .i64 0, 5, hPm (z1a_0 m g) (memL g)) := by kernel_rfl
@[simp] def z1b_0 (m : Mc) : Mc := { m with pc := w16 (m.pc + 1), r2 := w8 ((w16 (or16 (w16 (w16 m.r2 * 256)) (w16 m.r3) - 1)).fdiv 256), r3 := w8 (w16 (or16 (w16 (w16 m.r2 * 256)) (w16 m.r3) - 1)) }
theorem p1b_0 (m : Mc) (g : Nat → Int) (b1 b2 : Int) : endsAt [0, 1] (Ly.run cx3 3000 [] (sP m g 27 b1 b2)) = some (T [], .int .i64 0, 5, hPm (z1b_0 m) (memL g)) := by kernel_rfl
@[simp] def z1c_0 (m : Mc) : Mc := { m with fp := par ((m.r3 + 1) % 256), fs := decide (128 ≤ (m.r3 + 1) % 256), fx := decide (15 < m.r3 % 16 + 1), fz := (m.r3 + 1) % 256 == 0, pc := w16 (m.pc + 1), r3 := (m.r3 + 1) % 256 }
theorem p1c_0 (m : Mc) (g : Nat → Int) (b1 b2 : Int) : endsAt [0, 1] (Ly.run cx3 3000 [(21, true)] (sP m g 28 b1 b2)) = some (T [inb m.r3], .int .i64 0, 5, hPm (z1c_0 m) (memL g)) := by kernel_rfl
@[simp] def z1d_0 (m : Mc) : Mc := { m with fp := par ((m.r3 - 1) % 256), fs := decide (128 ≤ (m.r3 - 1) % 256), fx := decide (15 < m.r3 % 16 + 15), fz := (m.r3 - 1) % 256 == 0, pc := w16 (m.pc + 1), r3 := (m.r3 - 1) % 256 }
theorem p1d_0 (m : Mc) (g : Nat → Int) (b1 b2 : Int) : endsAt [0, 1] (Ly.run cx3 3000 [(22, true)] (sP m g 29 b1 b2)) = some (T [inb m.r3], .int .i64 0, 5, hPm (z1d_0 m) (memL g)) := by kernel_rfl
theorem p1e_0 (m : Mc) (g : Nat → Int) (b1 b2 : Int) : endsAt [0, 1] (Ly.run cx3 3000 [] (sP m g 30 b1 b2)) = some (T [], .int .i64 0, 5, hPm { m with pc := w16 (m.pc + 2), r3 := w8 (or16 0 (w16 b1)) } (memL g)) := by kernel_rfl
@[simp] def z1f_0 (m : Mc) : Mc := { m with fc := m.r7 % 2 == 1, pc := w16 (m.pc + 1), r7 := m.r7 / 2 + 128 * cI m.fc }
theorem p1f_0 (m : Mc) (g : Nat → Int) (b1 b2 : Int) : endsAt [0, 1] (Ly.run cx3 3000 [(27, true)] (sP m g 31 b1 b2)) = some (T [inb m.r7], .int .i64 0, 5, hPm (z1f_0 m) (memL g)) := by kernel_rfl
end Go.Proofs.Ytdjmpilegommlaa
namespace Go.Proofs.Ytdjmpilegommlaa
open Go Go.Ly Go.RowKit
theorem t11 {m : Mc} {g : Nat → Int} {s z x p c : Bool} (hm : m.Ok) (hg : ∀ e, B8 (g e)) (hh : m.halt = false) (h0 : g (ix m.pc) = 17) : Tw 0 m (setF m s z x p c) g := by
  obtain ⟨r0, r1, r2, r3, r4, r5, r7, sp, pc⟩ := id hm
  have hm2 := setF_ok (s := s) (z := z) (x := x) (p := p) (c := c) hm
  exact ⟨_, _, _, _, 0, joinP hm hh h0 (p11_0 m g _ _) (by simp [*]) (by decide) (eP (.inl rfl)), joinP hm2 hh h0 (p11_0 (setF m _ _ _ _ _) g _ _) (by simp [setF, *]) (by decide) (eP (.inl rfl)), ⟨rfl, rfl, rfl, rfl, rfl, rfl, rfl, rfl, rfl, rfl⟩, .inr (.inr (.inr ⟨rfl, ⟨⟨rfl, rfl, rfl, rfl⟩, rfl⟩, ⟨rfl, rfl, rfl, rfl⟩, rfl⟩))⟩
theorem t12 {m : Mc} {g : Nat → Int} {s z x p c : Bool} (hm : m.Ok) (hg : ∀ e, B8 (g e)) (hh : m.halt = false) (h0 : g (ix m.pc) = 18) : Tw 0 m (setF m s z x p c) g := by
  obtain ⟨r0, r1, r2, r3, r4, r5, r7, sp, pc⟩ := id hm
  have hm2 := setF_ok (s := s) (z := z) (x := x) (p := p) (c := c) hm
  exact ⟨_, _, _, _, 0, joinP hm hh h0 (p12_0 m g _ _) (by simp [*]) (by decide) (eP (m1s rfl rfl)), joinP hm2 hh h0 (p12_0 (setF m _ _ _ _ _) g _ _) (by simp [setF, *]) (by decide) (eP (m1s rfl rfl)), ⟨rfl, rfl, rfl, rfl, rfl, rfl, rfl, rfl, rfl, rfl⟩, .inr (.inr (.inr ⟨rfl, ⟨⟨rfl, rfl, rfl, rfl⟩, rfl⟩, ⟨rfl, rfl, rfl, rfl⟩, rfl⟩))⟩
theorem t13 {m : Mc} {g : Nat → Int} {s z x p c : Bool} (hm : m.Ok) (hg : ∀ e, B8 (g e)) (hh : m.halt = false) (h0 : g (ix m.pc) = 19) : Tw 0 m (setF m s z x p c) g := by
  obtain ⟨r0, r1, r2, r3, r4, r5, r7, sp, pc⟩ := id hm
  have hm2 := setF_ok (s := s) (z := z) (x := x) (p := p) (c := c) hm
  exact ⟨_, _, _, _, 0, joinP hm hh h0 (p13_0 m g _ _) (by simp [*]) (by decide) (eP (.inl rfl)), joinP hm2 hh h0 (p13_0 (setF m _ _ _ _ _) g _ _) (by simp [setF, *]) (by decide) (eP (.inl rfl)), ⟨rfl, rfl, rfl, rfl, rfl, rfl, rfl, rfl, rfl, rfl⟩, .inr (.inr (.inr ⟨rfl, ⟨⟨rfl, rfl, rfl, rfl⟩, rfl⟩, ⟨rfl, rfl, rfl, rfl⟩, rfl⟩))⟩
theorem t14 {m : Mc} {g : Nat → Int} {s z x p c : Bool} (hm : m.Ok) (hg : ∀ e, B8 (g e)) (hh : m.halt = false) (h0 : g (ix m.pc) = 20) : Tw 15 m (setF m s z x p c) g := by
  obtain ⟨r0, r1, r2, r3, r4, r5, r7, sp, pc⟩ := id hm
  have hm2 := setF_ok (s := s) (z := z) (x := x) (p := p) (c := c) hm
  exact ⟨_, _, _, _, 0, joinP hm hh h0 (p14_0 m g _ _) (by simp [*]) (by decide) (eP (.inl rfl)), joinP hm2 hh h0 (p14_0 (setF m _ _ _ _ _) g _ _) (by simp [setF, *]) (by decide) (eP (.inl rfl)), ⟨rfl, rfl, rfl, rfl, rfl, rfl, rfl, rfl, rfl, rfl⟩, .inr (.inl ⟨rfl, ⟨rfl, rfl, rfl, rfl⟩, rfl, rfl⟩)⟩
theorem t15 {m : Mc} {g : Nat → Int} {s z x p c : Bool} (hm : m.Ok) (hg : ∀ e, B8 (g e)) (hh : m.halt = false) (h0 : g (ix m.pc) = 21) : Tw 15 m (setF m s z x p c) g := by
  obtain ⟨r0, r1, r2, r3, r4, r5, r7, sp, pc⟩ := id hm
  have hm2 := setF_ok (s := s) (z := z) (x := x) (p := p) (c := c) hm
  exact ⟨_, _, _, _, 0, joinP hm hh h0 (p15_0 m g _ _) (by simp [*]) (by decide) (eP (.inl rfl)), joinP hm2 hh h0 (p15_0 (setF m _ _ _ _ _) g _ _) (by simp [setF, *]) (by decide) (eP (.inl rfl)), ⟨rfl, rfl, rfl, rfl, rfl, rfl, rfl, rfl, rfl, rfl⟩, .inr (.inl ⟨rfl, ⟨rfl, rfl, rfl, rfl⟩, rfl, rfl⟩)⟩
theorem t16 {m : Mc} {g : Nat → Int} {s z x p c : Bool} (hm : m.Ok) (hg : ∀ e, B8 (g e)) (hh : m.halt = false) (h0 : g (ix m.pc) = 22) : Tw 0 m (setF m s z x p c) g := by
  obtain ⟨r0, r1, r2, r3, r4, r5, r7, sp, pc⟩ := id hm
  have hm2 := setF_ok (s := s) (z := z) (x := x) (p := p) (c := c) hm
  exact ⟨_, _, _, _, 0, joinP hm hh h0 (p16_0 m g _ _) (by simp [*]) (by decide) (eP (.inl rfl)), joinP hm2 hh h0 (p16_0 (setF m _ _ _ _ _) g _ _) (by simp [setF, *]) (by decide) (eP (.inl rfl)), ⟨rfl, rfl, rfl, rfl, rfl, rfl, rfl, rfl, rfl, rfl⟩, .inr (.inr (.inr ⟨rfl, ⟨⟨rfl, rfl, rfl, rfl⟩, rfl⟩, ⟨rfl, rfl, rfl, rfl⟩, rfl⟩))⟩
theorem t17 {m : Mc} {g : Nat → Int} {s z x p c : Bool} (hm : m.Ok) (hg : ∀ e, B8 (g e)) (hh : m.halt = false) (h0 : g (ix m.pc) = 23) (hc : m.fc = c) : Tw 16 m (setF m s z x p c) g := by
  subst hc
  obtain ⟨r0, r1, r2, r3, r4, r5, r7, sp, pc⟩ := id hm
  have hm2 := setF_ok (s := s) (z := z) (x := x) (p := p) (c := m.fc) hm
  exact ⟨_, _, _, _, 0, joinP hm hh h0 (p17_0 m g _ _) (by simp [*]) (by decide) (eP (.inl rfl)), joinP hm2 hh h0 (p17_0 (setF m _ _ _ _ _) g _ _) (by simp [setF, *]) (by decide) (eP (.inl rfl)), ⟨rfl, rfl, rfl, rfl, rfl, rfl, rfl, rfl, rfl, rfl⟩, .inr (.inr (.inl ⟨rfl, rfl, ⟨rfl, rfl, rfl, rfl⟩, ⟨rfl, rfl, rfl, rfl⟩⟩))⟩
theorem t19 {m : Mc} {g : Nat → Int} {s z x p c : Bool} (hm : m.Ok) (hg : ∀ e, B8 (g e)) (hh : m.halt = false) (h0 : g (ix m.pc) = 25) : Tw 16 m (setF m s z x p c) g := by
  obtain ⟨r0, r1, r2, r3, r4, r5, r7, sp, pc⟩ := id hm
  have hm2 := setF_ok (s := s) (z := z) (x := x) (p := p) (c := c) hm
  exact ⟨_, _, _, _, 0, joinP hm hh h0 (p19_0 m g _ _) (by simp [*]; unfold B8 B16 at *; omega) (by decide) (eP (.inl rfl)), joinP hm2 hh h0 (p19_0 (setF m _ _ _ _ _) g _ _) (by simp [setF, *]; unfold B8 B16 at *; omega) (by decide) (eP (.inl rfl)), ⟨rfl, rfl, rfl, rfl, rfl, rfl, rfl, rfl, rfl, rfl⟩, .inr (.inr (.inl ⟨rfl, rfl, ⟨rfl, rfl, rfl, rfl⟩, ⟨rfl, rfl, rfl, rfl⟩⟩))⟩
theorem t1a {m : Mc} {g : Nat → Int} {s z x p c : Bool} (hm : m.Ok) (hg : ∀ e, B8 (g e)) (hh : m.halt = false) (h0 : g (ix m.pc) = 26) : Tw 0 m (setF m s z x p c) g := by
  obtain ⟨r0, r1, r2, r3, r4, r5, r7, sp, pc⟩ := id hm
  have hm2 := setF_ok (s := s) (z := z) (x := x) (p := p) (c := c) hm
  exact ⟨_, _, _, _, 0, joinP hm hh h0 (p1a_0 m g _ _) (by simp [*]) (by decide) (eP (.inl rfl)), joinP hm2 hh h0 (p1a_0 (setF m _ _ _ _ _) g _ _) (by simp [setF, *]) (by decide) (eP (.inl rfl)), ⟨rfl, rfl, rfl, rfl, rfl, rfl, rfl, rfl, rfl, rfl⟩, .inr (.inr (.inr ⟨rfl, ⟨⟨rfl, rfl, rfl, rfl⟩, rfl⟩, ⟨rfl, rfl, rfl, rfl⟩, rfl⟩))⟩
theorem t1b {m : Mc} {g : Nat → Int} {s z x p c : Bool} (hm : m.Ok) (hg : ∀ e, B8 (g e)) (hh : m.halt = false) (h0 : g (ix m.pc) = 27) : Tw 0 m (setF m s z x p c) g := by
  obtain ⟨r0, r1, r2, r3, r4, r5, r7, sp, pc⟩ := id hm
  have hm2 := setF_ok (s := s) (z := z) (x := x) (p := p) (c := c) hm
  exact ⟨_, _, _, _, 0, joinP hm hh h0 (p1b_0 m g _ _) (by simp [*]) (by decide) (eP (.inl rfl)), joinP hm2 hh h0 (p1b_0 (setF m _ _ _ _ _) g _ _) (by simp [setF, *]) (by decide) (eP (.inl rfl)), ⟨rfl, rfl, rfl, rfl, rfl, rfl, rfl, rfl, rfl, rfl⟩, .inr (.inr (.inr ⟨rfl, ⟨⟨rfl, rfl, rfl, rfl⟩, rfl⟩, ⟨rfl, rfl, rfl, rfl⟩, rfl⟩))⟩
theorem t1c {m : Mc} {g : Nat → Int} {s z x p c : Bool} (hm : m.Ok) (hg : ∀ e, B8 (g e)) (hh : m.halt = false) (h0 : g (ix m.pc) = 28) : Tw 15 m (setF m s z x p c) g := by
  obtain ⟨r0, r1, r2, r3, r4, r5, r7, sp, pc⟩ := id hm
  have hm2 := setF_ok (s := s) (z := z) (x := x) (p := p) (c := c) hm
  exact ⟨_, _, _, _, 0, joinP hm hh h0 (p1c_0 m g _ _) (by simp [*]) (by decide) (eP (.inl rfl)), joinP hm2 hh h0 (p1c_0 (setF m _ _ _ _ _) g _ _) (by simp [setF, *]) (by decide) (eP (.inl rfl)), ⟨rfl, rfl, rfl, rfl, rfl, rfl, rfl, rfl, rfl, rfl⟩, .inr (.inl ⟨rfl, ⟨rfl, rfl, rfl, rfl⟩, rfl, rfl⟩)⟩
theorem t1d {m : Mc} {g : Nat → Int} {s z x p c : Bool} (hm : m.Ok) (hg : ∀ e, B8 (g e)) (hh : m.halt = false) (h0 : g (ix m.pc) = 29) : Tw 15 m (setF m s z x p c) g := by
  obtain ⟨r0, r1, r2, r3, r4, r5, r7, sp, pc⟩ := id hm
  have hm2 := setF_ok (s := s) (z := z) (x := x) (p := p) (c := c) hm
  exact ⟨_, _, _, _, 0, joinP hm hh h0 (p1d_0 m g _ _) (by simp [*]) (by decide) (eP (.inl rfl)), joinP hm2 hh h0 (p1d_0 (setF m _ _ _ _ _) g _ _) (by simp [setF, *]) (by decide) (eP (.inl rfl)), ⟨rfl, rfl, rfl, rfl, rfl, rfl, rfl, rfl, rfl, rfl⟩, .inr (.inl ⟨rfl, ⟨rfl, rfl, rfl, rfl⟩, rfl, rfl⟩)⟩
theorem t1e {m : Mc} {g : Nat → Int} {s z x p c : Bool} (hm : m.Ok) (hg : ∀ e, B8 (g e)) (hh : m.halt = false) (h0 : g (ix m.pc) = 30) : Tw 0 m (setF m s z x p c) g := by
  obtain ⟨r0, r1, r2, r3, r4, r5, r7, sp, pc⟩ := id hm
  have hm2 := setF_ok (s := s) (z := z) (x := x) (p := p) (c := c) hm
  exact ⟨_, _, _, _, 0, joinP hm hh h0 (p1e_0 m g _ _) (by simp [*]) (by decide) (eP (.inl rfl)), joinP hm2 hh h0 (p1e_0 (setF m _ _ _ _ _) g _ _) (by simp [setF, *]) (by decide) (eP (.inl rfl)), ⟨rfl, rfl, rfl, rfl, rfl, rfl, rfl, rfl, rfl, rfl⟩, .inr (.inr (.inr ⟨rfl, ⟨⟨rfl, rfl, rfl, rfl⟩, rfl⟩, ⟨rfl, rfl, rfl, rfl⟩, rfl⟩))⟩
theorem t1f {m : Mc} {g : Nat → Int} {s z x p c : Bool} (hm : m.Ok) (hg : ∀ e, B8 (g e)) (hh : m.halt = false) (h0 : g (ix m.pc) = 31) (hc : m.fc = c) : Tw 16 m (setF m s z x p c) g := by
  subst hc
  obtain ⟨r0, r1, r2, r3, r4, r5, r7, sp, pc⟩ := id hm
  have hm2 := setF_ok (s := s) (z := z) (x := x) (p := p) (c := m.fc) hm
  exact ⟨_, _, _, _, 0, joinP hm hh h0 (p1f_0 m g _ _) (by simp [*]) (by decide) (eP (.inl rfl)), joinP hm2 hh h0 (p1f_0 (setF m _ _ _ _ _) g _ _) (by simp [setF, *]) (by decide) (eP (.inl rfl)), ⟨rfl, rfl, rfl, rfl, rfl, rfl, rfl, rfl, rfl, rfl⟩, .inr (.inr (.inl ⟨rfl, rfl, ⟨rfl, rfl, rfl, rfl⟩, ⟨rfl, rfl, rfl, rfl⟩⟩))⟩
end Go.Proofs.Ytdjmpilegommlaa
namespace Go.Proofs.Ytdjmpilegommlaa
open Go Go.Ly Go.RowKit
theorem p21_0 (m : Mc) (g : Nat → Int) (b1 b2 : Int) : endsAt [0, 1] (Ly.run cx3 3000 [] (sP m g 33 b1 b2)) = some (T [], .int .i64 0, 5, hPm { m with pc := w16 (m.pc + 3), r4 := w8 ((or16 (w16 (or16 0 (w16 b2) * 256)) (w16 b1)).fdiv 256), r5 := w8 (or16 (w16 (or16 0 (w16 b2) * 256)) (w16 b1)) } (memL g)) := by kernel_rfl
theorem p22_0 (m : Mc) (g : Nat → Int) (b1 b2 : Int) : endsAt [0, 1] (Ly.run cx3 3000 [(33, true), (0, true), (2, true), (0, true)] (sP m g 34 b1 b2)) = some (T [(true && lt16 (or16 (w16 (or16 0 (w16 b2) * 256)) (w16 b1))), bl (ix (or16 (w16 (or16 0 (w16 b2) * 256)) (w16 b1))), (true && lt16 (w16 (or16 (w16 (or16 0 (w16 b2) * 256)) (w16 b1) + 1))), bl (ix (w16 (or16 (w16 (or16 0 (w16 b2) * 256)) (w16 b1) + 1)))], .int .i64 0, 6, hPm { m with pc := w16 (m.pc + 3) } (M2 g (ix (or16 (w16 (or16 0 (w16 b2) * 256)) (w16 b1))) (m.r5) (ix (w16 (or16 (w16 (or16 0 (w16 b2) * 256)) (w16 b1) + 1))) (m.r4))) := by kernel_rfl
@[simp] def z23_0 (m : Mc) : Mc := { m with pc := w16 (m.pc + 1), r4 := w8 ((w16 (or16 (w16 (w16 m.r4 * 256)) (w16 m.r5) + 1)).fdiv 256), r5 := w8 (w16 (or16 (w16 (w16 m.r4 * 256)) (w16 m.r5) + 1)) }
theorem p23_0 (m : Mc) (g : Nat → Int) (b1 b2 : Int) : endsAt [0, 1] (Ly.run cx3 3000 [] (sP m g 35 b1 b2)) = some (T [], .int .i64 0, 5, hPm (z23_0 m) (memL g)) := by kernel_rfl
@[simp] def z24_0 (m : Mc) : Mc := { m with fp := par ((m.r4 + 1) % 256), fs := decide (128 ≤ (m.r4 + 1) % 256), fx := decide (15 < m.r4 % 16 + 1), fz := (m.r4 + 1) % 256 == 0, pc := w16 (m.pc + 1), r4 := (m.r4 + 1) % 256 }
theorem p24_0 (m : Mc) (g : Nat → Int) (b1 b2 : Int) : endsAt [0, 1] (Ly.run cx3 3000 [(21, true)] (sP m g 36 b1 b2)) = some (T [inb m.r4], .int .i64 0, 5, hPm (z24_0 m) (memL g)) := by kernel_rfl
@[simp] def z25_0 (m : Mc) : Mc := { m with fp := par ((m.r4 - 1) % 256), fs := decide (128 ≤ (m.r4 - 1) % 256), fx := decide (15 < m.r4 % 16 + 15), fz := (m.r4 - 1) % 256 == 0, pc := w16 (m.pc + 1), r4 := (m.r4 - 1) % 256 }
theorem p25_0 (m : Mc) (g : Nat → Int) (b1 b2 : Int) : endsAt [0, 1] (Ly.run cx3 3000 [(22, true)] (sP m g 37 b1 b2)) = some (T [inb m.r4], .int .i64 0, 5, hPm (z25_0 m) (memL g)) := by kernel_rfl
theorem p26_0 (m : Mc) (g : Nat → Int) (b1 b2 : Int) : endsAt [0, 1] (Ly.run cx3 3000 [] (sP m g 38 b1 b2)) = some (T [], .int .i64 0, 5, hPm { m with pc := w16 (m.pc + 2), r4 := w8 (or16 0 (w16 b1)) } (memL g)) := by kernel_rfl
@[simp] def z27_0 (m : Mc) : Mc := { m with fc := daaH m.r7 m.fx m.fc, fp := par ((m.r7 + 6 * cI (daaL m.r7 m.fx) + 96 * cI (daaH m.r7 m.fx m.fc)) % 256), fs := decide (128 ≤ (m.r7 + 6 * cI (daaL m.r7 m.fx) + 96 * cI (daaH m.r7 m.fx m.fc)) % 256), fx := decide (9 < m.r7 % 16), fz := (m.r7 + 6 * cI (daaL m.r7 m.fx) + 96 * cI (daaH m.r7 m.fx m.fc)) % 256 == 0, pc := w16 (m.pc + 1), r7 := (m.r7 + 6 * cI (daaL m.r7 m.fx) + 96 * cI (daaH m.r7 m.fx m.fc)) % 256 }
theorem p27_0 (m : Mc) (g : Nat → Int) (b1 b2 : Int) : endsAt [0, 1] (Ly.run cx3 3000 [(24, true)] (sP m g 39 b1 b2)) = some (T [inb m.r7], .int .i64 0, 5, hPm (z27_0 m) (memL g)) := by kernel_rfl
@[simp] def z29_0 (m : Mc) : Mc := { m with fc := decide (65535 < or16 (w16 (w16 m.r4 * 256)) (w16 m.r5) + or16 (w16 (w16 m.r4 * 256)) (w16 m.r5)), pc := w16 (m.pc + 1), r4 := w8 (((or16 (w16 (w16 m.r4 * 256)) (w16 m.r5) + or16 (w16 (w16 m.r4 * 256)) (w16 m.r5)) % 65536).fdiv 256), r5 := w8 ((or16 (w16 (w16 m.r4 * 256)) (w16 m.r5) + or16 (w16 (w16 m.r4 * 256)) (w16 m.r5)) % 65536) }
theorem p29_0 (m : Mc) (g : Nat → Int) (b1 b2 : Int) : endsAt [0, 1] (Ly.run cx3 3000 [(37, true)] (sP m g 41 b1 b2)) = some (T [true && decide (or16 (w16 (w16 m.r4 * 256)) (w16 m.r5) ≤ 65535) && (true && decide (or16 (w16 (w16 m.r4 * 256)) (w16 m.r5) ≤ 65535))], .int .i64 0, 5, hPm (z29_0 m) (memL g)) := by kernel_rfl
theorem p2a_0 (m : Mc) (g : Nat → Int) (b1 b2 : Int) : endsAt [0, 1] (Ly.run cx3 3000 [(30, true), (0, true), (0, true), (0, true)] (sP m g 42 b1 b2)) = some (T [(true && lt16 (or16 (w16 (or16 0 (w16 b2) * 256)) (w16 b1))), bl (ix (or16 (w16 (or16 0 (w16 b2) * 256)) (w16 b1))), (true && lt16 (w16 (or16 (w16 (or16 0 (w16 b2) * 256)) (w16 b1) + 1))), bl (ix (w16 (or16 (w16 (or16 0 (w16 b2) * 256)) (w16 b1) + 1)))], .int .i64 0, 5, hPm { m with pc := w16 (m.pc + 3), r4 := w8 ((or16 (w16 (g (ix (or16 (w16 (or16 0 (w16 b2) * 256)) (w16 b1))))) (w16 (w16 (g (ix (w16 (or16 (w16 (or16 0 (w16 b2) * 256)) (w16 b1) + 1)))) * 256))).fdiv 256), r5 := w8 (or16 (w16 (g (ix (or16 (w16 (or16 0 (w16 b2) * 256)) (w16 b1))))) (w16 (w16 (g (ix (w16 (or16 (w16 (or16 0 (w16 b2) * 256)) (w16 b1) + 1)))) * 256))) } (memL g)) := by kernel_rfl
@[simp] def z2b_0 (m : Mc) : Mc := { m with pc := w16 (m.pc + 1), r4 := w8 ((w16 (or16 (w16 (w16 m.r4 * 256)) (w16 m.r5) - 1)).fdiv 256), r5 := w8 (w16 (or16 (w16 (w16 m.r4 * 256)) (w16 m.r5) - 1)) }
theorem p2b_0 (m : Mc) (g : Nat → Int) (b1 b2 : Int) : endsAt [0, 1] (Ly.run cx3 3000 [] (sP m g 43 b1 b2)) = some (T [], .int .i64 0, 5, hPm (z2b_0 m) (memL g)) := by kernel_rfl
@[simp] def z2c_0 (m : Mc) : Mc := { m with fp := par ((m.r5 + 1) % 256), fs := decide (128 ≤ (m.r5 + 1) % 256), fx := decide (15 < m.r5 % 16 + 1), fz := (m.r5 + 1) % 256 == 0, pc := w16 (m.pc + 1), r5 := (m.r5 + 1) % 256 }
theorem p2c_0 (m : Mc) (g : Nat → Int) (b1 b2 : Int) : endsAt [0, 1] (Ly.run cx3 3000 [(21, true)] (sP m g 44 b1 b2)) = some (T [inb m.r5], .int .i64 0, 5, hPm (z2c_0 m) (memL g)) := by kernel_rfl
@[simp] def z2d_0 (m : Mc) : Mc := { m with fp := par ((m.r5 - 1) % 256), fs := decide (128 ≤ (m.r5 - 1) % 256), fx := decide (15 < m.r5 % 16 + 15), fz := (m.r5 - 1) % 256 == 0, pc := w16 (m.pc + 1), r5 := (m.r5 - 1) % 256 }
theorem p2d_0 (m : Mc) (g : Nat → Int) (b1 b2 : Int) : endsAt [0, 1] (Ly.run cx3 3000 [(22, true)] (sP m g 45 b1 b2)) = some (T [inb m.r5], .int .i64 0, 5, hPm (z2d_0 m) (memL g)) := by kernel_rfl
theorem p2e_0 (m : Mc) (g : Nat → Int) (b1 b2 : Int) : endsAt [0, 1] (Ly.run cx3 3000 [] (sP m g 46 b1 b2)) = some (T [], .int .i64 0, 5, hPm { m with pc := w16 (m.pc + 2), r5 := w8 (or16 0 (w16 b1)) } (memL g)) := by kernel_rfl
@[simp] def z2f_0 (m : Mc) : Mc := { m with pc := w16 (m.pc + 1), r7 := xor8 255 m.r7 }
theorem p2f_0 (m : Mc) (g : Nat → Int) (b1 b2 : Int) : endsAt [0, 1] (Ly.run cx3 3000 [] (sP m g 47 b1 b2)) = some (T [], .int .i64 0, 5, hPm (z2f_0 m) (memL g)) := by kernel_rfl
end Go.Proofs.Ytdjmpilegommlaa
namespace Go.Proofs.Ytdjmpilegommlaa
open Go Go.Ly Go.RowKit
theorem t21 {m : Mc} {g : Nat → Int} {s z x p c : Bool} (hm : m.Ok) (hg : ∀ e, B8 (g e)) (hh : m.halt = false) (h0 : g (ix m.pc) = 33) : Tw 0 m (setF m s z x p c) g := by
  obtain ⟨r0, r1, r2, r3, r4, r5, r7, sp, pc⟩ := id hm
  have hm2 := setF_ok (s := s) (z := z) (x := x) (p := p) (c := c) hm
  exact ⟨_, _, _, _, 0, joinP hm hh h0 (p21_0 m g _ _) (by simp [*]) (by decide) (eP (.inl rfl)), joinP hm2 hh h0 (p21_0 (setF m _ _ _ _ _) g _ _) (by simp [setF, *]) (by decide) (eP (.inl rfl)), ⟨rfl, rfl, rfl, rfl, rfl, rfl, rfl, rfl, rfl, rfl⟩, .inr (.inr (.inr ⟨rfl, ⟨⟨rfl, rfl, rfl, rfl⟩, rfl⟩, ⟨rfl, rfl, rfl, rfl⟩, rfl⟩))⟩
theorem t22 {m : Mc} {g : Nat → Int} {s z x p c : Bool} (hm : m.Ok) (hg : ∀ e, B8 (g e)) (hh : m.halt = false) (h0 : g (ix m.pc) = 34) : Tw 0 m (setF m s z x p c) g := by
  obtain ⟨r0, r1, r2, r3, r4, r5, r7, sp, pc⟩ := id hm
  have hm2 := setF_ok (s := s) (z := z) (x := x) (p := p) (c := c) hm
  exact ⟨_, _, _, _, 0, joinP hm hh h0 (p22_0 m g _ _) (by simp [*]) (by decide) (eP (m2s rfl rfl rfl rfl)), joinP hm2 hh h0 (p22_0 (setF m _ _ _ _ _) g _ _) (by simp [setF, *]) (by decide) (eP (m2s rfl rfl rfl rfl)), ⟨rfl, rfl, rfl, rfl, rfl, rfl, rfl, rfl, rfl, rfl⟩, .inr (.inr (.inr ⟨rfl, ⟨⟨rfl, rfl, rfl, rfl⟩, rfl⟩, ⟨rfl, rfl, rfl, rfl⟩, rfl⟩))⟩
theorem t23 {m : Mc} {g : Nat → Int} {s z x p c : Bool} (hm : m.Ok) (hg : ∀ e, B8 (g e)) (hh : m.halt = false) (h0 : g (ix m.pc) = 35) : Tw 0 m (setF m s z x p c) g := by
  obtain ⟨r0, r1, r2, r3, r4, r5, r7, sp, pc⟩ := id hm
  have hm2 := setF_ok (s := s) (z := z) (x := x) (p := p) (c := c) hm
  exact ⟨_, _, _, _, 0, joinP hm hh h0 (p23_0 m g _ _) (by simp [*]) (by decide) (eP (.inl rfl)), joinP hm2 hh h0 (p23_0 (setF m _ _ _ _ _) g _ _) (by simp [setF, *]) (by decide) (eP (.inl rfl)), ⟨rfl, rfl, rfl, rfl, rfl, rfl, rfl, rfl, rfl, rfl⟩, .inr (.inr (.inr ⟨rfl, ⟨⟨rfl, rfl, rfl, rfl⟩, rfl⟩, ⟨rfl, rfl, rfl, rfl⟩, rfl⟩))⟩
theorem t24 {m : Mc} {g : Nat → Int} {s z x p c : Bool} (hm : m.Ok) (hg : ∀ e, B8 (g e)) (hh : m.halt = false) (h0 : g (ix m.pc) = 36) : Tw 15 m (setF m s z x p c) g := by
  obtain ⟨r0, r1, r2, r3, r4, r5, r7, sp, pc⟩ := id hm
  have hm2 := setF_ok (s := s) (z := z) (x := x) (p := p) (c := c) hm
  exact ⟨_, _, _, _, 0, joinP hm hh h0 (p24_0 m g _ _) (by simp [*]) (by decide) (eP (.inl rfl)), joinP hm2 hh h0 (p24_0 (setF m _ _ _ _ _) g _ _) (by simp [setF, *]) (by decide) (eP (.inl rfl)), ⟨rfl, rfl, rfl, rfl, rfl, rfl, rfl, rfl, rfl, rfl⟩, .inr (.inl ⟨rfl, ⟨rfl, rfl, rfl, rfl⟩, rfl, rfl⟩)⟩
theorem t25 {m : Mc} {g : Nat → Int} {s z x p c : Bool} (hm : m.Ok) (hg : ∀ e, B8 (g e)) (hh : m.halt = false) (h0 : g (ix m.pc) = 37) : Tw 15 m (setF m s z x p c) g := by
  obtain ⟨r0, r1, r2, r3, r4, r5, r7, sp, pc⟩ := id hm
  have hm2 := setF_ok (s := s) (z := z) (x := x) (p := p) (c := c) hm
  exact ⟨_, _, _, _, 0, joinP hm hh h0 (p25_0 m g _ _) (by simp [*]) (by decide) (eP (.inl rfl)), joinP hm2 hh h0 (p25_0 (setF m _ _ _ _ _) g _ _) (by simp [setF, *]) (by decide) (eP (.inl rfl)), ⟨rfl, rfl, rfl, rfl, rfl, rfl, rfl, rfl, rfl, rfl⟩, .inr (.inl ⟨rfl, ⟨rfl, rfl, rfl, rfl⟩, rfl, rfl⟩)⟩
theorem t26 {m : Mc} {g : Nat → Int} {s z x p c : Bool} (hm : m.Ok) (hg : ∀ e, B8 (g e)) (hh : m.halt = false) (h0 : g (ix m.pc) = 38) : Tw 0 m (setF m s z x p c) g := by
  obtain ⟨r0, r1, r2, r3, r4, r5, r7, sp, pc⟩ := id hm
  have hm2 := setF_ok (s := s) (z := z) (x := x) (p := p) (c := c) hm
  exact ⟨_, _, _, _, 0, joinP hm hh h0 (p26_0 m g _ _) (by simp [*]) (by decide) (eP (.inl rfl)), joinP hm2 hh h0 (p26_0 (setF m _ _ _ _ _) g _ _) (by simp [setF, *]) (by decide) (eP (.inl rfl)), ⟨rfl, rfl, rfl, rfl, rfl, rfl, rfl, rfl, rfl, rfl⟩, .inr (.inr (.inr ⟨rfl, ⟨⟨rfl, rfl, rfl, rfl⟩, rfl⟩, ⟨rfl, rfl, rfl, rfl⟩, rfl⟩))⟩
theorem t27 {m : Mc} {g : Nat → Int} {s z x p c : Bool} (hm : m.Ok) (hg : ∀ e, B8 (g e)) (hh : m.halt = false) (h0 : g (ix m.pc) = 39) (hx : m.fx = x) (hc : m.fc = c) : Tw 31 m (setF m s z x p c) g := by
  subst hx
  subst hc
  obtain ⟨r0, r1, r2, r3, r4, r5, r7, sp, pc⟩ := id hm
  have hm2 := setF_ok (s := s) (z := z) (x := m.fx) (p := p) (c := m.fc) hm
  exact ⟨_, _, _, _, 0, joinP hm hh h0 (p27_0 m g _ _) (by simp [*]) (by decide) (eP (.inl rfl)), joinP hm2 hh h0 (p27_0 (setF m _ _ _ _ _) g _ _) (by simp [setF, *]) (by decide) (eP (.inl rfl)), ⟨rfl, rfl, rfl, rfl, rfl, rfl, rfl, rfl, rfl, rfl⟩, .inl ⟨rfl, ⟨rfl, rfl, rfl, rfl⟩, rfl⟩⟩
theorem t29 {m : Mc} {g : Nat → Int} {s z x p c : Bool} (hm : m.Ok) (hg : ∀ e, B8 (g e)) (hh : m.halt = false) (h0 : g (ix m.pc) = 41) : Tw 16 m (setF m s z x p c) g := by
  obtain ⟨r0, r1, r2, r3, r4, r5, r7, sp, pc⟩ := id hm
  have hm2 := setF_ok (s := s) (z := z) (x := x) (p := p) (c := c) hm
  exact ⟨_, _, _, _, 0, joinP hm hh h0 (p29_0 m g _ _) (by simp [*]; unfold B8 B16 at *; omega) (by decide) (eP (.inl rfl)), joinP hm2 hh h0 (p29_0 (setF m _ _ _ _ _) g _ _) (by simp [setF, *]; unfold B8 B16 at *; omega) (by decide) (eP (.inl rfl)), ⟨rfl, rfl, rfl, rfl, rfl, rfl, rfl, rfl, rfl, rfl⟩, .inr (.inr (.inl ⟨rfl, rfl, ⟨rfl, rfl, rfl, rfl⟩, ⟨rfl, rfl, rfl, rfl⟩⟩))⟩
theorem t2a {m : Mc} {g : Nat → Int} {s z x p c : Bool} (hm : m.Ok) (hg : ∀ e, B8 (g e)) (hh : m.halt = false) (h0 : g (ix m.pc) = 42) : Tw 0 m (setF m s z x p c) g := by
  obtain ⟨r0, r1, r2, r3, r4, r5, r7, sp, pc⟩ := id hm
  have hm2 := setF_ok (s := s) (z := z) (x := x) (p := p) (c := c) hm
  exact ⟨_, _, _, _, 0, joinP hm hh h0 (p2a_0 m g _ _) (by simp [*]) (by decide) (eP (.inl rfl)), joinP hm2 hh h0 (p2a_0 (setF m _ _ _ _ _) g _ _) (by simp [setF, *]) (by decide) (eP (.inl rfl)), ⟨rfl, rfl, rfl, rfl, rfl, rfl, rfl, rfl, rfl, rfl⟩, .inr (.inr (.inr ⟨rfl, ⟨⟨rfl, rfl, rfl, rfl⟩, rfl⟩, ⟨rfl, rfl, rfl, rfl⟩, rfl⟩))⟩
theorem t2b {m : Mc} {g : Nat → Int} {s z x p c : Bool} (hm : m.Ok) (hg : ∀ e, B8 (g e)) (hh : m.halt = false) (h0 : g (ix m.pc) = 43) : Tw 0 m (setF m s z x p c) g := by
  obtain ⟨r0, r1, r2, r3, r4, r5, r7, sp, pc⟩ := id hm
  have hm2 := setF_ok (s := s) (z := z) (x := x) (p := p) (c := c) hm
  exact ⟨_, _, _, _, 0, joinP hm hh h0 (p2b_0 m g _ _) (by simp [*]) (by decide) (eP (.inl rfl)), joinP hm2 hh h0 (p2b_0 (setF m _ _ _ _ _) g _ _) (by simp [setF, *]) (by decide) (eP (.inl rfl)), ⟨rfl, rfl, rfl, rfl, rfl, rfl, rfl, rfl, rfl, rfl⟩, .inr (.inr (.inr ⟨rfl, ⟨⟨rfl, rfl, rfl, rfl⟩, rfl⟩, ⟨rfl, rfl, rfl, rfl⟩, rfl⟩))⟩
theorem t2c {m : Mc} {g : Nat → Int} {s z x p c : Bool} (hm : m.Ok) (hg : ∀ e, B8 (g e)) (hh : m.halt = false) (h0 : g (ix m.pc) = 44) : Tw 15 m (setF m s z x p c) g := by
  obtain ⟨r0, r1, r2, r3, r4, r5, r7, sp, pc⟩ := id hm
  have hm2 := setF_ok (s := s) (z := z) (x := x) (p := p) (c := c) hm
  exact ⟨_, _, _, _, 0, joinP hm hh h0 (p2c_0 m g _ _) (by simp [*]) (by decide) (eP (.inl rfl)), joinP hm2 hh h0 (p2c_0 (setF m _ _ _ _ _) g _ _) (by simp [setF, *]) (by decide) (eP (.inl rfl)), ⟨rfl, rfl, rfl, rfl, rfl, rfl, rfl, rfl, rfl, rfl⟩, .inr (.inl ⟨rfl, ⟨rfl, rfl, rfl, rfl⟩, rfl, rfl⟩)⟩
theorem t2d {m : Mc} {g : Nat → Int} {s z x p c : Bool} (hm : m.Ok) (hg : ∀ e, B8 (g e)) (hh : m.halt = false) (h0 : g (ix m.pc) = 45) : Tw 15 m (setF m s z x p c) g := by
  obtain ⟨r0, r1, r2, r3, r4, r5, r7, sp, pc⟩ := id hm
  have hm2 := setF_ok (s := s) (z := z) (x := x) (p := p) (c := c) hm
  exact ⟨_, _, _, _, 0, joinP hm hh h0 (p2d_0 m g _ _) (by simp [*]) (by decide) (eP (.inl rfl)), joinP hm2 hh h0 (p2d_0 (setF m _ _ _ _ _) g _ _) (by simp [setF, *]) (by decide) (eP (.inl rfl)), ⟨rfl, rfl, rfl, rfl, rfl, rfl, rfl, rfl, rfl, rfl⟩, .inr (.inl ⟨rfl, ⟨rfl, rfl, rfl, rfl⟩, rfl, rfl⟩)⟩
theorem t2e {m : Mc} {g : Nat → Int} {s z x p c : Bool} (hm : m.Ok) (hg : ∀ e, B8 (g e)) (hh : m.halt = false) (h0 : g (ix m.pc) = 46) : Tw 0 m (setF m s z x p c) g := by
  obtain ⟨r0, r1, r2, r3, r4, r5, r7, sp, pc⟩ := id hm
  have hm2 := setF_ok (s := s) (z := z) (x := x) (p := p) (c := c) hm
  exact ⟨_, _, _, _, 0, joinP hm hh h0 (p2e_0 m g _ _) (by simp [*]) (by decide) (eP (.inl rfl)), joinP hm2 hh h0 (p2e_0 (setF m _ _ _ _ _) g _ _) (by simp [setF, *]) (by decide) (eP (.inl rfl)), ⟨rfl, rfl, rfl, rfl, rfl, rfl, rfl, rfl, rfl, rfl⟩, .inr (.inr (.inr ⟨rfl, ⟨⟨rfl, rfl, rfl, rfl⟩, rfl⟩, ⟨rfl, rfl, rfl, rfl⟩, rfl⟩))⟩
theorem t2f {m : Mc} {g : Nat → Int} {s z x p c : Bool} (hm : m.Ok) (hg : ∀ e, B8 (g e)) (hh : m.halt = false) (h0 : g (ix m.pc) = 47) : Tw 0 m (setF m s z x p c) g := by
  obtain ⟨r0, r1, r2, r3, r4, r5, r7, sp, pc⟩ := id hm
  have hm2 := setF_ok (s := s) (z := z) (x := x) (p := p) (c := c) hm
  exact ⟨_, _, _, _, 0, joinP hm hh h0 (p2f_0 m g _ _) (by simp [*]) (by decide) (eP (.inl rfl)), joinP hm2 hh h0 (p2f_0 (setF m _ _ _ _ _) g _ _) (by simp [setF, *]) (by decide) (eP (.inl rfl)), ⟨rfl, rfl, rfl, rfl, rfl, rfl, rfl, rfl, rfl, rfl⟩, .inr (.inr (.inr ⟨rfl, ⟨⟨rfl, rfl, rfl, rfl⟩, rfl⟩, ⟨rfl, rfl, rfl, rfl⟩, rfl⟩))⟩
end Go.Proofs.Ytdjmpilegommlaa
namespace Go.Proofs.Ytdjmpilegommlaa
open Go Go.Ly Go.RowKit
theorem p31_0 (m : Mc) (g : Nat → Int) (b1 b2 : Int) : endsAt [0, 1] (Ly.run cx3 3000 [] (sP m g 49 b1 b2)) = some (T [], .int .i64 0, 5, hPm { m with pc := w16 (m.pc + 3), sp := or16 (w16 (or16 0 (w16 b2) * 256)) (w16 b1) } (memL g)) := by kernel_rfl
theorem p32_0 (m : Mc) (g : Nat → Int) (b1 b2 : Int) : endsAt [0, 1] (Ly.run cx3 3000 [(32, true), (0, true)] (sP m g 50 b1 b2)) = some (T [(true && lt16 (or16 (w16 (or16 0 (w16 b2) * 256)) (w16 b1))), bl (ix (or16 (w16 (or16 0 (w16 b2) * 256)) (w16 b1)))], .int .i64 0, 5, hPm { m with pc := w16 (m.pc + 3) } (M1 g (ix (or16 (w16 (or16 0 (w16 b2) * 256)) (w16 b1))) (m.r7))) := by kernel_rfl
@[simp] def z33_0 (m : Mc) : Mc := { m with pc := w16 (m.pc + 1), sp := w16 (m.sp + 1) }
theorem p33_0 (m : Mc) (g : Nat → Int) (b1 b2 : Int) : endsAt [0, 1] (Ly.run cx3 3000 [] (sP m g 51 b1 b2)) = some (T [], .int .i64 0, 5, hPm (z33_0 m) (memL g)) := by kernel_rfl
@[simp] def z34_0 (m : Mc) (g : Nat → Int) : Mc := { m with fp := par ((g (ix (or16 (w16 (w16 m.r4 * 256)) (w16 m.r5))) + 1) % 256), fs := decide (128 ≤ (g (ix (or16 (w16 (w16 m.r4 * 256)) (w16 m.r5))) + 1) % 256), fx := decide (15 < g (ix (or16 (w16 (w16 m.r4 * 256)) (w16 m.r5))) % 16 + 1), fz := (g (ix (or16 (w16 (w16 m.r4 * 256)) (w16 m.r5))) + 1) % 256 == 0, pc := w16 (m.pc + 1) }
theorem p34_0 (m : Mc) (g : Nat → Int) (b1 b2 : Int) : endsAt [0, 1] (Ly.run cx3 3000 [(31, true), (0, true), (0, true), (0, true)] (sP m g 52 b1 b2)) = some (T [(true && lt16 (or16 (w16 (w16 m.r4 * 256)) (w16 m.r5))), bl (ix (or16 (w16 (w16 m.r4 * 256)) (w16 m.r5))), inb (g (ix (or16 (w16 (w16 m.r4 * 256)) (w16 m.r5)))), bl (ix (or16 (w16 (w16 m.r4 * 256)) (w16 m.r5)))], .int .i64 0, 5, hPm (z34_0 m g) (M1 g (ix (or16 (w16 (w16 m.r4 * 256)) (w16 m.r5))) ((g (ix (or16 (w16 (w16 m.r4 * 256)) (w16 m.r5))) + 1) % 256))) := by kernel_rfl
@[simp] def z35_0 (m : Mc) (g : Nat → Int) : Mc := { m with fp := par ((g (ix (or16 (w16 (w16 m.r4 * 256)) (w16 m.r5))) - 1) % 256), fs := decide (128 ≤ (g (ix (or16 (w16 (w16 m.r4 * 256)) (w16 m.r5))) - 1) % 256), fx := decide (15 < g (ix (or16 (w16 (w16 m.r4 * 256)) (w16 m.r5))) % 16 + 15), fz := (g (ix (or16 (w16 (w16 m.r4 * 256)) (w16 m.r5))) - 1) % 256 == 0, pc := w16 (m.pc + 1) }
theorem p35_0 (m : Mc) (g : Nat → Int) (b1 b2 : Int) : endsAt [0, 1] (Ly.run cx3 3000 [(32, true), (0, true), (0, true), (0, true)] (sP m g 53 b1 b2)) = some (T [(true && lt16 (or16 (w16 (w16 m.r4 * 256)) (w16 m.r5))), bl (ix (or16 (w16 (w16 m.r4 * 256)) (w16 m.r5))), inb (g (ix (or16 (w16 (w16 m.r4 * 256)) (w16 m.r5)))), bl (ix (or16 (w16 (w16 m.r4 * 256)) (w16 m.r5)))], .int .i64 0, 5, hPm (z35_0 m g) (M1 g (ix (or16 (w16 (w16 m.r4 * 256)) (w16 m.r5))) ((g (ix (or16 (w16 (w16 m.r4 * 256)) (w16 m.r5))) - 1) % 256))) := by kernel_rfl
theorem p36_0 (m : Mc) (g : Nat → Int) (b1 b2 : Int) : endsAt [0, 1] (Ly.run cx3 3000 [(36, true), (0, true)] (sP m g 54 b1 b2)) = some (T [(true && lt16 (or16 (w16 (w16 m.r4 * 256)) (w16 m.r5))), bl (ix (or16 (w16 (w16 m.r4 * 256)) (w16 m.r5)))], .int .i64 0, 5, hPm { m with pc := w16 (m.pc + 2) } (M1 g (ix (or16 (w16 (w16 m.r4 * 256)) (w16 m.r5))) (w8 (or16 0 (w16 b1))))) := by kernel_rfl
@[simp] def z37_0 (m : Mc) : Mc := { m with fc := true, pc := w16 (m.pc + 1) }
theorem p37_0 (m : Mc) (g : Nat → Int) (b1 b2 : Int) : endsAt [0, 1] (Ly.run cx3 3000 [] (sP m g 55 b1 b2)) = some (T [], .int .i64 0, 5, hPm (z37_0 m) (memL g)) := by kernel_rfl
@[simp] def z39_0 (m : Mc) : Mc := { m with fc := decide (65535 < or16 (w16 (w16 m.r4 * 256)) (w16 m.r5) + m.sp), pc := w16 (m.pc + 1), r4 := w8 (((or16 (w16 (w16 m.r4 * 256)) (w16 m.r5) + m.sp) % 65536).fdiv 256), r5 := w8 ((or16 (w16 (w16 m.r4 * 256)) (w16 m.r5) + m.sp) % 65536) }
theorem p39_0 (m : Mc) (g : Nat → Int) (b1 b2 : Int) : endsAt [0, 1] (Ly.run cx3 3000 [(34, true)] (sP m g 57 b1 b2)) = some (T [true && decide (or16 (w16 (w16 m.r4 * 256)) (w16 m.r5) ≤ 65535) && (decide (0 ≤ m.sp) && decide (m.sp ≤ 65535))], .int .i64 0, 5, hPm (z39_0 m) (memL g)) := by kernel_rfl
theorem p3a_0 (m : Mc) (g : Nat → Int) (b1 b2 : Int) : endsAt [0, 1] (Ly.run cx3 3000 [(32, true), (0, true)] (sP m g 58 b1 b2)) = some (T [(true && lt16 (or16 (w16 (or16 0 (w16 b2) * 256)) (w16 b1))), bl (ix (or16 (w16 (or16 0 (w16 b2) * 256)) (w16 b1)))], .int .i64 0, 5, hPm { m with pc := w16 (m.pc + 3), r7 := g (ix (or16 (w16 (or16 0 (w16 b2) * 256)) (w16 b1))) } (memL g)) := by kernel_rfl
@[simp] def z3b_0 (m : Mc) : Mc := { m with pc := w16 (m.pc + 1), sp := w16 (m.sp - 1) }
theorem p3b_0 (m : Mc) (g : Nat → Int) (b1 b2 : Int) : endsAt [0, 1] (Ly.run cx3 3000 [] (sP m g 59 b1 b2)) = some (T [], .int .i64 0, 5, hPm (z3b_0 m) (memL g)) := by kernel_rfl
@[simp] def z3c_0 (m : Mc) : Mc := { m with fp := par ((m.r7 + 1) % 256), fs := decide (128 ≤ (m.r7 + 1) % 256), fx := decide (15 < m.r7 % 16 + 1), fz := (m.r7 + 1) % 256 == 0, pc := w16 (m.pc + 1), r7 := (m.r7 + 1) % 256 }
theorem p3c_0 (m : Mc) (g : Nat → Int) (b1 b2 : Int) : endsAt [0, 1] (Ly.run cx3 3000 [(21, true)] (sP m g 60 b1 b2)) = some (T [inb m.r7], .int .i64 0, 5, hPm (z3c_0 m) (memL g)) := by kernel_rfl
@[simp] def z3d_0 (m : Mc) : Mc := { m with fp := par ((m.r7 - 1) % 256), fs := decide (128 ≤ (m.r7 - 1) % 256), fx := decide (15 < m.r7 % 16 + 15), fz := (m.r7 - 1) % 256 == 0, pc := w16 (m.pc + 1), r7 := (m.r7 - 1) % 256 }
theorem p3d_0 (m : Mc) (g : Nat → Int) (b1 b2 : Int) : endsAt [0, 1] (Ly.run cx3 3000 [(22, true)] (sP m g 61 b1 b2)) = some (T [inb m.r7], .int .i64 0, 5, hPm (z3d_0 m) (memL g)) := by kernel_rfl
theorem p3e_0 (m : Mc) (g : Nat → Int) (b1 b2 : Int) : endsAt [0, 1] (Ly.run cx3 3000 [] (sP m g 62 b1 b2)) = some (T [], .int .i64 0, 5, hPm { m with pc := w16 (m.pc + 2), r7 := w8 (or16 0 (w16 b1)) } (memL g)) := by kernel_rfl
@[simp] def z3f_0 (m : Mc) : Mc := { m with fc := !m.fc, pc := w16 (m.pc + 1) }
theorem p3f_0 (m : Mc) (g : Nat → Int) (b1 b2 : Int) : endsAt [0, 1] (Ly.run cx3 3000 [] (sP m g 63 b1 b2)) = some (T [], .int .i64 0, 5, hPm (z3f_0 m) (memL g)) := by kernel_rfl
end Go.Proofs.Ytdjmpilegommlaa
namespace Go.Proofs.Ytdjmpilegommlaa
open Go Go.Ly Go.RowKit
theorem t31 {m : Mc} {g : Nat → Int} {s z x p c : Bool} (hm : m.Ok) (hg : ∀ e, B8 (g e)) (hh : m.halt = false) (h0 : g (ix m.pc) = 49) : Tw 0 m (setF m s z x p c) g := by
  obtain ⟨r0, r1, r2, r3, r4, r5, r7, sp, pc⟩ := id hm
  have hm2 := setF_ok (s := s) (z := z) (x := x) (p := p) (c := c) hm
  exact ⟨_, _, _, _, 0, joinP hm hh h0 (p31_0 m g _ _) (by simp [*]) (by decide) (eP (.inl rfl)), joinP hm2 hh h0 (p31_0 (setF m _ _ _ _ _) g _ _) (by simp [setF, *]) (by decide) (eP (.inl rfl)), ⟨rfl, rfl, rfl, rfl, rfl, rfl, rfl, rfl, rfl, rfl⟩, .inr (.inr (.inr ⟨rfl, ⟨⟨rfl, rfl, rfl, rfl⟩, rfl⟩, ⟨rfl, rfl, rfl, rfl⟩, rfl⟩))⟩
theorem t32 {m : Mc} {g : Nat → Int} {s z x p c : Bool} (hm : m.Ok) (hg : ∀ e, B8 (g e)) (hh : m.halt = false) (h0 : g (ix m.pc) = 50) : Tw 0 m (setF m s z x p c) g := by
  obtain ⟨r0, r1, r2, r3, r4, r5, r7, sp, pc⟩ := id hm
  have hm2 := setF_ok (s := s) (z := z) (x := x) (p := p) (c := c) hm
  exact ⟨_, _, _, _, 0, joinP hm hh h0 (p32_0 m g _ _) (by simp [*]) (by decide) (eP (m1s rfl rfl)), joinP hm2 hh h0 (p32_0 (setF m _ _ _ _ _) g _ _) (by simp [setF, *]) (by decide) (eP (m1s rfl rfl)), ⟨rfl, rfl, rfl, rfl, rfl, rfl, rfl, rfl, rfl, rfl⟩, .inr (.inr (.inr ⟨rfl, ⟨⟨rfl, rfl, rfl, rfl⟩, rfl⟩, ⟨rfl, rfl, rfl, rfl⟩, rfl⟩))⟩
theorem t33 {m : Mc} {g : Nat → Int} {s z x p c : Bool} (hm : m.Ok) (hg : ∀ e, B8 (g e)) (hh : m.halt = false) (h0 : g (ix m.pc) = 51) : Tw 0 m (setF m s z x p c) g := by
  obtain ⟨r0, r1, r2, r3, r4, r5, r7, sp, pc⟩ := id hm
  have hm2 := setF_ok (s := s) (z := z) (x := x) (p := p) (c := c) hm
  exact ⟨_, _, _, _, 0, joinP hm hh h0 (p33_0 m g _ _) (by simp [*]) (by decide) (eP (.inl rfl)), joinP hm2 hh h0 (p33_0 (setF m _ _ _ _ _) g _ _) (by simp [setF, *]) (by decide) (eP (.inl rfl)), ⟨rfl, rfl, rfl, rfl, rfl, rfl, rfl, rfl, rfl, rfl⟩, .inr (.inr (.inr ⟨rfl, ⟨⟨rfl, rfl, rfl, rfl⟩, rfl⟩, ⟨rfl, rfl, rfl, rfl⟩, rfl⟩))⟩
theorem t34 {m : Mc} {g : Nat → Int} {s z x p c : Bool} (hm : m.Ok) (hg : ∀ e, B8 (g e)) (hh : m.halt = false) (h0 : g (ix m.pc) = 52) : Tw 15 m (setF m s z x p c) g := by
  obtain ⟨r0, r1, r2, r3, r4, r5, r7, sp, pc⟩ := id hm
  have hm2 := setF_ok (s := s) (z := z) (x := x) (p := p) (c := c) hm
  exact ⟨_, _, _, _, 0, joinP hm hh h0 (p34_0 m g _ _) (by simp [*]) (by decide) (eP (m1s rfl rfl)), joinP hm2 hh h0 (p34_0 (setF m _ _ _ _ _) g _ _) (by simp [setF, *]) (by decide) (eP (m1s rfl rfl)), ⟨rfl, rfl, rfl, rfl, rfl, rfl, rfl, rfl, rfl, rfl⟩, .inr (.inl ⟨rfl, ⟨rfl, rfl, rfl, rfl⟩, rfl, rfl⟩)⟩
theorem t35 {m : Mc} {g : Nat → Int} {s z x p c : Bool} (hm : m.Ok) (hg : ∀ e, B8 (g e)) (hh : m.halt = false) (h0 : g (ix m.pc) = 53) : Tw 15 m (setF m s z x p c) g := by
  obtain ⟨r0, r1, r2, r3, r4, r5, r7, sp, pc⟩ := id hm
  have hm2 := setF_ok (s := s) (z := z) (x := x) (p := p) (c := c) hm
  exact ⟨_, _, _, _, 0, joinP hm hh h0 (p35_0 m g _ _) (by simp [*]) (by decide) (eP (m1s rfl rfl)), joinP hm2 hh h0 (p35_0 (setF m _ _ _ _ _) g _ _) (by simp [setF, *]) (by decide) (eP (m1s rfl rfl)), ⟨rfl, rfl, rfl, rfl, rfl, rfl, rfl, rfl, rfl, rfl⟩, .inr (.inl ⟨rfl, ⟨rfl, rfl, rfl, rfl⟩, rfl, rfl⟩)⟩
theorem t36 {m : Mc} {g : Nat → Int} {s z x p c : Bool} (hm : m.Ok) (hg : ∀ e, B8 (g e)) (hh : m.halt = false) (h0 : g (ix m.pc) = 54) : Tw 0 m (setF m s z x p c) g := by
  obtain ⟨r0, r1, r2, r3, r4, r5, r7, sp, pc⟩ := id hm
  have hm2 := setF_ok (s := s) (z := z) (x := x) (p := p) (c := c) hm
  exact ⟨_, _, _, _, 0, joinP hm hh h0 (p36_0 m g _ _) (by simp [*]) (by decide) (eP (m1s rfl rfl)), joinP hm2 hh h0 (p36_0 (setF m _ _ _ _ _) g _ _) (by simp [setF, *]) (by decide) (eP (m1s rfl rfl)), ⟨rfl, rfl, rfl, rfl, rfl, rfl, rfl, rfl, rfl, rfl⟩, .inr (.inr (.inr ⟨rfl, ⟨⟨rfl, rfl, rfl, rfl⟩, rfl⟩, ⟨rfl, rfl, rfl, rfl⟩, rfl⟩))⟩
theorem t37 {m : Mc} {g : Nat → Int} {s z x p c : Bool} (hm : m.Ok) (hg : ∀ e, B8 (g e)) (hh : m.halt = false) (h0 : g (ix m.pc) = 55) : Tw 16 m (setF m s z x p c) g := by
  obtain ⟨r0, r1, r2, r3, r4, r5, r7, sp, pc⟩ := id hm
  have hm2 := setF_ok (s := s) (z := z) (x := x) (p := p) (c := c) hm
  exact ⟨_, _, _, _, 0, joinP hm hh h0 (p37_0 m g _ _) (by simp [*]) (by decide) (eP (.inl rfl)), joinP hm2 hh h0 (p37_0 (setF m _ _ _ _ _) g _ _) (by simp [setF, *]) (by decide) (eP (.inl rfl)), ⟨rfl, rfl, rfl, rfl, rfl, rfl, rfl, rfl, rfl, rfl⟩, .inr (.inr (.inl ⟨rfl, rfl, ⟨rfl, rfl, rfl, rfl⟩, ⟨rfl, rfl, rfl, rfl⟩⟩))⟩
theorem t39 {m : Mc} {g : Nat → Int} {s z x p c : Bool} (hm : m.Ok) (hg : ∀ e, B8 (g e)) (hh : m.halt = false) (h0 : g (ix m.pc) = 57) : Tw 16 m (setF m s z x p c) g := by
  obtain ⟨r0, r1, r2, r3, r4, r5, r7, sp, pc⟩ := id hm
  have hm2 := setF_ok (s := s) (z := z) (x := x) (p := p) (c := c) hm
  exact ⟨_, _, _, _, 0, joinP hm hh h0 (p39_0 m g _ _) (by simp [*]; unfold B8 B16 at *; omega) (by decide) (eP (.inl rfl)), joinP hm2 hh h0 (p39_0 (setF m _ _ _ _ _) g _ _) (by simp [setF, *]; unfold B8 B16 at *; omega) (by decide) (eP (.inl rfl)), ⟨rfl, rfl, rfl, rfl, rfl, rfl, rfl, rfl, rfl, rfl⟩, .inr (.inr (.inl ⟨rfl, rfl, ⟨rfl, rfl, rfl, rfl⟩, ⟨rfl, rfl, rfl, rfl⟩⟩))⟩
theorem t3a {m : Mc} {g : Nat → Int} {s z x p c : Bool} (hm : m.Ok) (hg : ∀ e, B8 (g e)) (hh : m.halt = false) (h0 : g (ix m.pc) = 58) : Tw 0 m (setF m s z x p c) g := by
  obtain ⟨r0, r1, r2, r3, r4, r5, r7, sp, pc⟩ := id hm
  have hm2 := setF_ok (s := s) (z := z) (x := x) (p := p) (c := c) hm
  exact ⟨_, _, _, _, 0, joinP hm hh h0 (p3a_0 m g _ _) (by simp [*]) (by decide) (eP (.inl rfl)), joinP hm2 hh h0 (p3a_0 (setF m _ _ _ _ _) g _ _) (by simp [setF, *]) (by decide) (eP (.inl rfl)), ⟨rfl, rfl, rfl, rfl, rfl, rfl, rfl, rfl, rfl, rfl⟩, .inr (.inr (.inr ⟨rfl, ⟨⟨rfl, rfl, rfl, rfl⟩, rfl⟩, ⟨rfl, rfl, rfl, rfl⟩, rfl⟩))⟩
theorem t3b {m : Mc} {g : Nat → Int} {s z x p c : Bool} (hm : m.Ok) (hg : ∀ e, B8 (g e)) (hh : m.halt = false) (h0 : g (ix m.pc) = 59) : Tw 0 m (setF m s z x p c) g := by
  obtain ⟨r0, r1, r2, r3, r4, r5, r7, sp, pc⟩ := id hm
  have hm2 := setF_ok (s := s) (z := z) (x := x) (p := p) (c := c) hm
  exact ⟨_, _, _, _, 0, joinP hm hh h0 (p3b_0 m g _ _) (by simp [*]) (by decide) (eP (.inl rfl)), joinP hm2 hh h0 (p3b_0 (setF m _ _ _ _ _) g _ _) (by simp [setF, *]) (by decide) (eP (.inl rfl)), ⟨rfl, rfl, rfl, rfl, rfl, rfl, rfl, rfl, rfl, rfl⟩, .inr (.inr (.inr ⟨rfl, ⟨⟨rfl, rfl, rfl, rfl⟩, rfl⟩, ⟨rfl, rfl, rfl, rfl⟩, rfl⟩))⟩
theorem t3c {m : Mc} {g : Nat → Int} {s z x p c : Bool} (hm : m.Ok) (hg : ∀ e, B8 (g e)) (hh : m.halt = false) (h0 : g (ix m.pc) = 60) : Tw 15 m (setF m s z x p c) g := by
  obtain ⟨r0, r1, r2, r3, r4, r5, r7, sp, pc⟩ := id hm
  have hm2 := setF_ok (s := s) (z := z) (x := x) (p := p) (c := c) hm
  exact ⟨_, _, _, _, 0, joinP hm hh h0 (p3c_0 m g _ _) (by simp [*]) (by decide) (eP (.inl rfl)), joinP hm2 hh h0 (p3c_0 (setF m _ _ _ _ _) g _ _) (by simp [setF, *]) (by decide) (eP (.inl rfl)), ⟨rfl, rfl, rfl, rfl, rfl, rfl, rfl, rfl, rfl, rfl⟩, .inr (.inl ⟨rfl, ⟨rfl, rfl, rfl, rfl⟩, rfl, rfl⟩)⟩
theorem t3d {m : Mc} {g : Nat → Int} {s z x p c : Bool} (hm : m.Ok) (hg : ∀ e, B8 (g e)) (hh : m.halt = false) (h0 : g (ix m.pc) = 61) : Tw 15 m (setF m s z x p c) g := by
  obtain ⟨r0, r1, r2, r3, r4, r5, r7, sp, pc⟩ := id hm
  have hm2 := setF_ok (s := s) (z := z) (x := x) (p := p) (c := c) hm
  exact ⟨_, _, _, _, 0, joinP hm hh h0 (p3d_0 m g _ _) (by simp [*]) (by decide) (eP (.inl rfl)), joinP hm2 hh h0 (p3d_0 (setF m _ _ _ _ _) g _ _) (by simp [setF, *]) (by decide) (eP (.inl rfl)), ⟨rfl, rfl, rfl, rfl, rfl, rfl, rfl, rfl, rfl, rfl⟩, .inr (.inl ⟨rfl, ⟨rfl, rfl, rfl, rfl⟩, rfl, rfl⟩)⟩
theorem t3e {m : Mc} {g : Nat → Int} {s z x p c : Bool} (hm : m.Ok) (hg : ∀ e, B8 (g e)) (hh : m.halt = false) (h0 : g (ix m.pc) = 62) : Tw 0 m (setF m s z x p c) g := by
  obtain ⟨r0, r1, r2, r3, r4, r5, r7, sp, pc⟩ := id hm
  have hm2 := setF_ok (s := s) (z := z) (x := x) (p := p) (c := c) hm
  exact ⟨_, _, _, _, 0, joinP hm hh h0 (p3e_0 m g _ _) (by simp [*]) (by decide) (eP (.inl rfl)), joinP hm2 hh h0 (p3e_0 (setF m _ _ _ _ _) g _ _) (by simp [setF, *]) (by decide) (eP (.inl rfl)), ⟨rfl, rfl, rfl, rfl, rfl, rfl, rfl, rfl, rfl, rfl⟩, .inr (.inr (.inr ⟨rfl, ⟨⟨rfl, rfl, rfl, rfl⟩, rfl⟩, ⟨rfl, rfl, rfl, rfl⟩, rfl⟩))⟩
theorem t3f {m : Mc} {g : Nat → Int} {s z x p c : Bool} (hm : m.Ok) (hg : ∀ e, B8 (g e)) (hh : m.halt = false) (h0 : g (ix m.pc) = 63) (hc : m.fc = c) : Tw 16 m (setF m s z x p c) g := by
  subst hc
  obtain ⟨r0, r1, r2, r3, r4, r5, r7, sp, pc⟩ := id hm
  have hm2 := setF_ok (s := s) (z := z) (x := x) (p := p) (c := m.fc) hm
  exact ⟨_, _, _, _, 0, joinP hm hh h0 (p3f_0 m g _ _) (by simp [*]) (by decide) (eP (.inl rfl)), joinP hm2 hh h0 (p3f_0 (setF m _ _ _ _ _) g _ _) (by simp [setF, *]) (by decide) (eP (.inl rfl)), ⟨rfl, rfl, rfl, rfl, rfl, rfl, rfl, rfl, rfl, rfl⟩, .inr (.inr (.inl ⟨rfl, rfl, ⟨rfl, rfl, rfl, rfl⟩, ⟨rfl, rfl, rfl, rfl⟩⟩))⟩
end Go.Proofs.Ytdjmpilegommlaa
namespace Go.Proofs.Ytdjmpilegommlaa
open Go Go.Ly Go.RowKit
theorem p40_0 (m : Mc) (g : Nat → Int) (b1 b2 : Int) : endsAt [0, 1] (Ly.run cx3 3000 [] (sP m g 64 b1 b2)) = some (T [], .int .i64 0, 5, hPm { m with pc := w16 (m.pc + 1) } (memL g)) := by kernel_rfl
@[simp] def z41_0 (m : Mc) : Mc := { m with pc := w16 (m.pc + 1), r0 := m.r1 }
theorem p41_0 (m : Mc) (g : Nat → Int) (b1 b2 : Int) : endsAt [0, 1] (Ly.run cx3 3000 [] (sP m g 65 b1 b2)) = some (T [], .int .i64 0, 5, hPm (z41_0 m) (memL g)) := by kernel_rfl
@[simp] def z42_0 (m : Mc) : Mc := { m with pc := w16 (m.pc + 1), r0 := m.r2 }
theorem p42_0 (m : Mc) (g : Nat → Int) (b1 b2 : Int) : endsAt [0, 1] (Ly.run cx3 3000 [] (sP m g 66 b1 b2)) = some (T [], .int .i64 0, 5, hPm (z42_0 m) (memL g)) := by kernel_rfl
@[simp] def z43_0 (m : Mc) : Mc := { m with pc := w16 (m.pc + 1), r0 := m.r3 }
theorem p43_0 (m : Mc) (g : Nat → Int) (b1 b2 : Int) : endsAt [0, 1] (Ly.run cx3 3000 [] (sP m g 67 b1 b2)) = some (T [], .int .i64 0, 5, hPm (z43_0 m) (memL g)) := by kernel_rfl
@[simp] def z44_0 (m : Mc) : Mc := { m with pc := w16 (m.pc + 1), r0 := m.r4 }
theorem p44_0 (m : Mc) (g : Nat → Int) (b1 b2 : Int) : endsAt [0, 1] (Ly.run cx3 3000 [] (sP m g 68 b1 b2)) = some (T [], .int .i64 0, 5, hPm (z44_0 m) (memL g)) := by kernel_rfl
@[simp] def z45_0 (m : Mc) : Mc := { m with pc := w16 (m.pc + 1), r0 := m.r5 }
theorem p45_0 (m : Mc) (g : Nat → Int) (b1 b2 : Int) : endsAt [0, 1] (Ly.run cx3 3000 [] (sP m g 69 b1 b2)) = some (T [], .int .i64 0, 5, hPm (z45_0 m) (memL g)) := by kernel_rfl
@[simp] def z46_0 (m : Mc) (g : Nat → Int) : Mc := { m with pc := w16 (m.pc + 1), r0 := g (ix (or16 (w16 (w16 m.r4 * 256)) (w16 m.r5))) }
theorem p46_0 (m : Mc) (g : Nat → Int) (b1 b2 : Int) : endsAt [0, 1] (Ly.run cx3 3000 [(28, true), (0, true)] (sP m g 70 b1 b2)) = some (T [(true && lt16 (or16 (w16 (w16 m.r4 * 256)) (w16 m.r5))), bl (ix (or16 (w16 (w16 m.r4 * 256)) (w16 m.r5)))], .int .i64 0, 5, hPm (z46_0 m g) (memL g)) := by kernel_rfl
@[simp] def z47_0 (m : Mc) : Mc := { m with pc := w16 (m.pc + 1), r0 := m.r7 }
theorem p47_0 (m : Mc) (g : Nat → Int) (b1 b2 : Int) : endsAt [0, 1] (Ly.run cx3 3000 [] (sP m g 71 b1 b2)) = some (T [], .int .i64 0, 5, hPm (z47_0 m) (memL g)) := by kernel_rfl
@[simp] def z48_0 (m : Mc) : Mc := { m with pc := w16 (m.pc + 1), r1 := m.r0 }
theorem p48_0 (m : Mc) (g : Nat → Int) (b1 b2 : Int) : endsAt [0, 1] (Ly.run cx3 3000 [] (sP m g 72 b1 b2)) = some (T [], .int .i64 0, 5, hPm (z48_0 m) (memL g)) := by kernel_rfl
theorem p49_0 (m : Mc) (g : Nat → Int) (b1 b2 : Int) : endsAt [0, 1] (Ly.run cx3 3000 [] (sP m g 73 b1 b2)) = some (T [], .int .i64 0, 5, hPm { m with pc := w16 (m.pc + 1) } (memL g)) := by kernel_rfl
@[simp] def z4a_0 (m : Mc) : Mc := { m with pc := w16 (m.pc + 1), r1 := m.r2 }
theorem p4a_0 (m : Mc) (g : Nat → Int) (b1 b2 : Int) : endsAt [0, 1] (Ly.run cx3 3000 [] (sP m g 74 b1 b2)) = some (T [], .int .i64 0, 5, hPm (z4a_0 m) (memL g)) := by kernel_rfl
@[simp] def z4b_0 (m : Mc) : Mc := { m with pc := w16 (m.pc + 1), r1 := m.r3 }
theorem p4b_0 (m : Mc) (g : Nat → Int) (b1 b2 : Int) : endsAt [0, 1] (Ly.run cx3 3000 [] (sP m g 75 b1 b2)) = some (T [], .int .i64 0, 5, hPm (z4b_0 m) (memL g)) := by kernel_rfl
@[simp] def z4c_0 (m : Mc) : Mc := { m with pc := w16 (m.pc + 1), r1 := m.r4 }
theorem p4c_0 (m : Mc) (g : Nat → Int) (b1 b2 : Int) : endsAt [0, 1] (Ly.run cx3 3000 [] (sP m g 76 b1 b2)) = some (T [], .int .i64 0, 5, hPm (z4c_0 m) (memL g)) := by kernel_rfl
@[simp] def z4d_0 (m : Mc) : Mc := { m with pc := w16 (m.pc + 1), r1 := m.r5 }
theorem p4d_0 (m : Mc) (g : Nat → Int) (b1 b2 : Int) : endsAt [0, 1] (Ly.run cx3 3000 [] (sP m g 77 b1 b2)) = some (T [], .int .i64 0, 5, hPm (z4d_0 m) (memL g)) := by kernel_rfl
@[simp] def z4e_0 (m : Mc) (g : Nat → Int) : Mc := { m with pc := w16 (m.pc + 1), r1 := g (ix (or16 (w16 (w16 m.r4 * 256)) (w16 m.r5))) }
theorem p4e_0 (m : Mc) (g : Nat → Int) (b1 b2 : Int) : endsAt [0, 1] (Ly.run cx3 3000 [(28, true), (0, true)] (sP m g 78 b1 b2)) = some (T [(true && lt16 (or16 (w16 (w16 m.r4 * 256)) (w16 m.r5))), bl (ix (or16 (w16 (w16 m.r4 * 256)) (w16 m.r5)))], .int .i64 0, 5, hPm (z4e_0 m g) (memL g)) := by kernel_rfl
@[simp] def z4f_0 (m : Mc) : Mc := { m with pc := w16 (m.pc + 1), r1 := m.r7 }
theorem p4f_0 (m : Mc) (g : Nat → Int) (b1 b2 : Int) : endsAt [0, 1] (Ly.run cx3 3000 [] (sP m g 79 b1 b2)) = some (T [], .int .i64 0, 5, hPm (z4f_0 m) (memL g)) := by kernel_rfl
end Go.Proofs.Ytdjmpilegommlaa
namespace Go.Proofs.Ytdjmpilegommlaa
open Go Go.Ly Go.RowKit
theorem t40 {m : Mc} {g : Nat → Int} {s z x p c : Bool} (hm : m.Ok) (hg : ∀ e, B8 (g e)) (hh : m.halt = false) (h0 : g (ix m.pc) = 64) : Tw 0 m (setF m s z x p c) g := by
  obtain ⟨r0, r1, r2, r3, r4, r5, r7, sp, pc⟩ := id hm
  have hm2 := setF_ok (s := s) (z := z) (x := x) (p := p) (c := c) hm
  exact ⟨_, _, _, _, 0, joinP hm hh h0 (p40_0 m g _ _) (by simp [*]) (by decide) (eP (.inl rfl)), joinP hm2 hh h0 (p40_0 (setF m _ _ _ _ _) g _ _) (by simp [setF, *]) (by decide) (eP (.inl rfl)), ⟨rfl, rfl, rfl, rfl, rfl, rfl, rfl, rfl, rfl, rfl⟩, .inr (.inr (.inr ⟨rfl, ⟨⟨rfl, rfl, rfl, rfl⟩, rfl⟩, ⟨rfl, rfl, rfl, rfl⟩, rfl⟩))⟩
theorem t41 {m : Mc} {g : Nat → Int} {s z x p c : Bool} (hm : m.Ok) (hg : ∀ e, B8 (g e)) (hh : m.halt = false) (h0 : g (ix m.pc) = 65) : Tw 0 m (setF m s z x p c) g := by
  obtain ⟨r0, r1, r2, r3, r4, r5, r7, sp, pc⟩ := id hm
  have hm2 := setF_ok (s := s) (z := z) (x := x) (p := p) (c := c) hm
  exact ⟨_, _, _, _, 0, joinP hm hh h0 (p41_0 m g _ _) (by simp [*]) (by decide) (eP (.inl rfl)), joinP hm2 hh h0 (p41_0 (setF m _ _ _ _ _) g _ _) (by simp [setF, *]) (by decide) (eP (.inl rfl)), ⟨rfl, rfl, rfl, rfl, rfl, rfl, rfl, rfl, rfl, rfl⟩, .inr (.inr (.inr ⟨rfl, ⟨⟨rfl, rfl, rfl, rfl⟩, rfl⟩, ⟨rfl, rfl, rfl, rfl⟩, rfl⟩))⟩
theorem t42 {m : Mc} {g : Nat → Int} {s z x p c : Bool} (hm : m.Ok) (hg : ∀ e, B8 (g e)) (hh : m.halt = false) (h0 : g (ix m.pc) = 66) : Tw 0 m (setF m s z x p c) g := by
  obtain ⟨r0, r1, r2, r3, r4, r5, r7, sp, pc⟩ := id hm
  have hm2 := setF_ok (s := s) (z := z) (x := x) (p := p) (c := c) hm
  exact ⟨_, _, _, _, 0, joinP hm hh h0 (p42_0 m g _ _) (by simp [*]) (by decide) (eP (.inl rfl)), joinP hm2 hh h0 (p42_0 (setF m _ _ _ _ _) g _ _) (by simp [setF, *]) (by decide) (eP (.inl rfl)), ⟨rfl, rfl, rfl, rfl, rfl, rfl, rfl, rfl, rfl, rfl⟩, .inr (.inr (.inr ⟨rfl, ⟨⟨rfl, rfl, rfl, rfl⟩, rfl⟩, ⟨rfl, rfl, rfl, rfl⟩, rfl⟩))⟩
theorem t43 {m : Mc} {g : Nat → Int} {s z x p c : Bool} (hm : m.Ok) (hg : ∀ e, B8 (g e)) (hh : m.halt = false) (h0 : g (ix m.pc) = 67) : Tw 0 m (setF m s z x p c) g := by
  obtain ⟨r0, r1, r2, r3, r4, r5, r7, sp, pc⟩ := id hm
  have hm2 := setF_ok (s := s) (z := z) (x := x) (p := p) (c := c) hm
  exact ⟨_, _, _, _, 0, joinP hm hh h0 (p43_0 m g _ _) (by simp [*]) (by decide) (eP (.inl rfl)), joinP hm2 hh h0 (p43_0 (setF m _ _ _ _ _) g _ _) (by simp [setF, *]) (by decide) (eP (.inl rfl)), ⟨rfl, rfl, rfl, rfl, rfl, rfl, rfl, rfl, rfl, rfl⟩, .inr (.inr (.inr ⟨rfl, ⟨⟨rfl, rfl, rfl, rfl⟩, rfl⟩, ⟨rfl, rfl, rfl, rfl⟩, rfl⟩))⟩
theorem t44 {m : Mc} {g : Nat → Int} {s z x p c : Bool} (hm : m.Ok) (hg : ∀ e, B8 (g e)) (hh : m.halt = false) (h0 : g (ix m.pc) = 68) : Tw 0 m (setF m s z x p c) g := by
  obtain ⟨r0, r1, r2, r3, r4, r5, r7, sp, pc⟩ := id hm
  have hm2 := setF_ok (s := s) (z := z) (x := x) (p := p) (c := c) hm
  exact ⟨_, _, _, _, 0, joinP hm hh h0 (p44_0 m g _ _) (by simp [*]) (by decide) (eP (.inl rfl)), joinP hm2 hh h0 (p44_0 (setF m _ _ _ _ _) g _ _) (by simp [setF, *]) (by decide) (eP (.inl rfl)), ⟨rfl, rfl, rfl, rfl, rfl, rfl, rfl, rfl, rfl, rfl⟩, .inr (.inr (.inr ⟨rfl, ⟨⟨rfl, rfl, rfl, rfl⟩, rfl⟩, ⟨rfl, rfl, rfl, rfl⟩, rfl⟩))⟩
theorem t45 {m : Mc} {g : Nat → Int} {s z x p c : Bool} (hm : m.Ok) (hg : ∀ e, B8 (g e)) (hh : m.halt = false) (h0 : g (ix m.pc) = 69) : Tw 0 m (setF m s z x p c) g := by
  obtain ⟨r0, r1, r2, r3, r4, r5, r7, sp, pc⟩ := id hm
  have hm2 := setF_ok (s := s) (z := z) (x := x) (p := p) (c := c) hm
  exact ⟨_, _, _, _, 0, joinP hm hh h0 (p45_0 m g _ _) (by simp [*]) (by decide) (eP (.inl rfl)), joinP hm2 hh h0 (p45_0 (setF m _ _ _ _ _) g _ _) (by simp [setF, *]) (by decide) (eP (.inl rfl)), ⟨rfl, rfl, rfl, rfl, rfl, rfl, rfl, rfl, rfl, rfl⟩, .inr (.inr (.inr ⟨rfl, ⟨⟨rfl, rfl, rfl, rfl⟩, rfl⟩, ⟨rfl, rfl, rfl, rfl⟩, rfl⟩))⟩
theorem t46 {m : Mc} {g : Nat → Int} {s z x p c : Bool} (hm : m.Ok) (hg : ∀ e, B8 (g e)) (hh : m.halt = false) (h0 : g (ix m.pc) = 70) : Tw 0 m (setF m s z x p c) g := by
  obtain ⟨r0, r1, r2, r3, r4, r5, r7, sp, pc⟩ := id hm
  have hm2 := setF_ok (s := s) (z := z) (x := x) (p := p) (c := c) hm
  exact ⟨_, _, _, _, 0, joinP hm hh h0 (p46_0 m g _ _) (by simp [*]) (by decide) (eP (.inl rfl)), joinP hm2 hh h0 (p46_0 (setF m _ _ _ _ _) g _ _) (by simp [setF, *]) (by decide) (eP (.inl rfl)), ⟨rfl, rfl, rfl, rfl, rfl, rfl, rfl, rfl, rfl, rfl⟩, .inr (.inr (.inr ⟨rfl, ⟨⟨rfl, rfl, rfl, rfl⟩, rfl⟩, ⟨rfl, rfl, rfl, rfl⟩, rfl⟩))⟩
theorem t47 {m : Mc} {g : Nat → Int} {s z x p c : Bool} (hm : m.Ok) (hg : ∀ e, B8 (g e)) (hh : m.halt = false) (h0 : g (ix m.pc) = 71) : Tw 0 m (setF m s z x p c) g := by
  obtain ⟨r0, r1, r2, r3, r4, r5, r7, sp, pc⟩ := id hm
  have hm2 := setF_ok (s := s) (z := z) (x := x) (p := p) (c := c) hm
  exact ⟨_, _, _, _, 0, joinP hm hh h0 (p47_0 m g _ _) (by simp [*]) (by decide) (eP (.inl rfl)), joinP hm2 hh h0 (p47_0 (setF m _ _ _ _ _) g _ _) (by simp [setF, *]) (by decide) (eP (.inl rfl)), ⟨rfl, rfl, rfl, rfl, rfl, rfl, rfl, rfl, rfl, rfl⟩, .inr (.inr (.inr ⟨rfl, ⟨⟨rfl, rfl, rfl, rfl⟩, rfl⟩, ⟨rfl, rfl, rfl, rfl⟩, rfl⟩))⟩
theorem t48 {m : Mc} {g : Nat → Int} {s z x p c : Bool} (hm : m.Ok) (hg : ∀ e, B8 (g e)) (hh : m.halt = false) (h0 : g (ix m.pc) = 72) : Tw 0 m (setF m s z x p c) g := by
  obtain ⟨r0, r1, r2, r3, r4, r5, r7, sp, pc⟩ := id hm
  have hm2 := setF_ok (s := s) (z := z) (x := x) (p := p) (c := c) hm
  exact ⟨_, _, _, _, 0, joinP hm hh h0 (p48_0 m g _ _) (by simp [*]) (by decide) (eP (.inl rfl)), joinP hm2 hh h0 (p48_0 (setF m _ _ _ _ _) g _ _) (by simp [setF, *]) (by decide) (eP (.inl rfl)), ⟨rfl, rfl, rfl, rfl, rfl, rfl, rfl, rfl, rfl, rfl⟩, .inr (.inr (.inr ⟨rfl, ⟨⟨rfl, rfl, rfl, rfl⟩, rfl⟩, ⟨rfl, rfl, rfl, rfl⟩, rfl⟩))⟩
theorem t49 {m : Mc} {g : Nat → Int} {s z x p c : Bool} (hm : m.Ok) (hg : ∀ e, B8 (g e)) (hh : m.halt = false) (h0 : g (ix m.pc) = 73) : Tw 0 m (setF m s z x p c) g := by
  obtain ⟨r0, r1, r2, r3, r4, r5, r7, sp, pc⟩ := id hm
  have hm2 := setF_ok (s := s) (z := z) (x := x) (p := p) (c := c) hm
  exact ⟨_, _, _, _, 0, joinP hm hh h0 (p49_0 m g _ _) (by simp [*]) (by decide) (eP (.inl rfl)), joinP hm2 hh h0 (p49_0 (setF m _ _ _ _ _) g _ _) (by simp [setF, *]) (by decide) (eP (.inl rfl)), ⟨rfl, rfl, rfl, rfl, rfl, rfl, rfl, rfl, rfl, rfl⟩, .inr (.inr (.inr ⟨rfl, ⟨⟨rfl, rfl, rfl, rfl⟩, rfl⟩, ⟨rfl, rfl, rfl, rfl⟩, rfl⟩))⟩
theorem t4a {m : Mc} {g : Nat → Int} {s z x p c : Bool} (hm : m.Ok) (hg : ∀ e, B8 (g e)) (hh : m.halt = false) (h0 : g (ix m.pc) = 74) : Tw 0 m (setF m s z x p c) g := by
  obtain ⟨r0, r1, r2, r3, r4, r5, r7, sp, pc⟩ := id hm
  have hm2 := setF_ok (s := s) (z := z) (x := x) (p := p) (c := c) hm
  exact ⟨_, _, _, _, 0, joinP hm hh h0 (p4a_0 m g _ _) (by simp [*]) (by decide) (eP (.inl rfl)), joinP hm2 hh h0 (p4a_0 (setF m _ _ _ _ _) g _ _) (by simp [setF, *]) (by decide) (eP (.inl rfl)), ⟨rfl, rfl, rfl, rfl, rfl, rfl, rfl, rfl, rfl, rfl⟩, .inr (.inr (.inr ⟨rfl, ⟨⟨rfl, rfl, rfl, rfl⟩, rfl⟩, ⟨rfl, rfl, rfl, rfl⟩, rfl⟩))⟩
theorem t4b {m : Mc} {g : Nat → Int} {s z x p c : Bool} (hm : m.Ok) (hg : ∀ e, B8 (g e)) (hh : m.halt = false) (h0 : g (ix m.pc) = 75) : Tw 0 m (setF m s z x p c) g := by
  obtain ⟨r0, r1, r2, r3, r4, r5, r7, sp, pc⟩ := id hm
  have hm2 := setF_ok (s := s) (z := z) (x := x) (p := p) (c := c) hm
  exact ⟨_, _, _, _, 0, joinP hm hh h0 (p4b_0 m g _ _) (by simp [*]) (by decide) (eP (.inl rfl)), joinP hm2 hh h0 (p4b_0 (setF m _ _ _ _ _) g _ _) (by simp [setF, *]) (by decide) (eP (.inl rfl)), ⟨rfl, rfl, rfl, rfl, rfl, rfl, rfl, rfl, rfl, rfl⟩, .inr (.inr (.inr ⟨rfl, ⟨⟨rfl, rfl, rfl, rfl⟩, rfl⟩, ⟨rfl, rfl, rfl, rfl⟩, rfl⟩))⟩
theorem t4c {m : Mc} {g : Nat → Int} {s z x p c : Bool} (hm : m.Ok) (hg : ∀ e, B8 (g e)) (hh : m.halt = false) (h0 : g (ix m.pc) = 76) : Tw 0 m (setF m s z x p c) g := by
  obtain ⟨r0, r1, r2, r3, r4, r5, r7, sp, pc⟩ := id hm
  have hm2 := setF_ok (s := s) (z := z) (x := x) (p := p) (c := c) hm
  exact ⟨_, _, _, _, 0, joinP hm hh h0 (p4c_0 m g _ _) (by simp [*]) (by decide) (eP (.inl rfl)), joinP hm2 hh h0 (p4c_0 (setF m _ _ _ _ _) g _ _) (by simp [setF, *]) (by decide) (eP (.inl rfl)), ⟨rfl, rfl, rfl, rfl, rfl, rfl, rfl, rfl, rfl, rfl⟩, .inr (.inr (.inr ⟨rfl, ⟨⟨rfl, rfl, rfl, rfl⟩, rfl⟩, ⟨rfl, rfl, rfl, rfl⟩, rfl⟩))⟩
theorem t4d {m : Mc} {g : Nat → Int} {s z x p c : Bool} (hm : m.Ok) (hg : ∀ e, B8 (g e)) (hh : m.halt = false) (h0 : g (ix m.pc) = 77) : Tw 0 m (setF m s z x p c) g := by
  obtain ⟨r0, r1, r2, r3, r4, r5, r7, sp, pc⟩ := id hm
  have hm2 := setF_ok (s := s) (z := z) (x := x) (p := p) (c := c) hm
  exact ⟨_, _, _, _, 0, joinP hm hh h0 (p4d_0 m g _ _) (by simp [*]) (by decide) (eP (.inl rfl)), joinP hm2 hh h0 (p4d_0 (setF m _ _ _ _ _) g _ _) (by simp [setF, *]) (by decide) (eP (.inl rfl)), ⟨rfl, rfl, rfl, rfl, rfl, rfl, rfl, rfl, rfl, rfl⟩, .inr (.inr (.inr ⟨rfl, ⟨⟨rfl, rfl, rfl, rfl⟩, rfl⟩, ⟨rfl, rfl, rfl, rfl⟩, rfl⟩))⟩
theorem t4e {m : Mc} {g : Nat → Int} {s z x p c : Bool} (hm : m.Ok) (hg : ∀ e, B8 (g e)) (hh : m.halt = false) (h0 : g (ix m.pc) = 78) : Tw 0 m (setF m s z x p c) g := by
  obtain ⟨r0, r1, r2, r3, r4, r5, r7, sp, pc⟩ := id hm
  have hm2 := setF_ok (s := s) (z := z) (x := x) (p := p) (c := c) hm
  exact ⟨_, _, _, _, 0, joinP hm hh h0 (p4e_0 m g _ _) (by simp [*]) (by decide) (eP (.inl rfl)), joinP hm2 hh h0 (p4e_0 (setF m _ _ _ _ _) g _ _) (by simp [setF, *]) (by decide) (eP (.inl rfl)), ⟨rfl, rfl, rfl, rfl, rfl, rfl, rfl, rfl, rfl, rfl⟩, .inr (.inr (.inr ⟨rfl, ⟨⟨rfl, rfl, rfl, rfl⟩, rfl⟩, ⟨rfl, rfl, rfl, rfl⟩, rfl⟩))⟩
theorem t4f {m : Mc} {g : Nat → Int} {s z x p c : Bool} (hm : m.Ok) (hg : ∀ e, B8 (g e)) (hh : m.halt = false) (h0 : g (ix m.pc) = 79) : Tw 0 m (setF m s z x p c) g := by
  obtain ⟨r0, r1, r2, r3, r4, r5, r7, sp, pc⟩ := id hm
  have hm2 := setF_ok (s := s) (z := z) (x := x) (p := p) (c := c) hm
  exact ⟨_, _, _, _, 0, joinP hm hh h0 (p4f_0 m g _ _) (by simp [*]) (by decide) (eP (.inl rfl)), joinP hm2 hh h0 (p4f_0 (setF m _ _ _ _ _) g _ _) (by simp [setF, *]) (by decide) (eP (.inl rfl)), ⟨rfl, rfl, rfl, rfl, rfl, rfl, rfl, rfl, rfl, rfl⟩, .inr (.inr (.inr ⟨rfl, ⟨⟨rfl, rfl, rfl, rfl⟩, rfl⟩, ⟨rfl, rfl, rfl, rfl⟩, rfl⟩))⟩
end Go.Proofs.Ytdjmpilegommlaa
namespace Go.Proofs.Ytdjmpilegommlaa
open Go Go.Ly Go.RowKit
@[simp] def z50_0 (m : Mc) : Mc := { m with pc := w16 (m.pc + 1), r2 := m.r0 }
theorem p50_0 (m : Mc) (g : Nat → Int) (b1 b2 : Int) : endsAt [0, 1] (Ly.run cx3 3000 [] (sP m g 80 b1 b2)) = some (T [], .int .i64 0, 5, hPm (z50_0 m) (memL g)) := by kernel_rfl
@[simp] def z51_0 (m : Mc) : Mc := { m with pc := w16 (m.pc + 1), r2 := m.r1 }
theorem p51_0 (m : Mc) (g : Nat → Int) (b1 b2 : Int) : endsAt [0, 1] (Ly.run cx3 3000 [] (sP m g 81 b1 b2)) = some (T [], .int .i64 0, 5, hPm (z51_0 m) (memL g)) := by kernel_rfl
theorem p52_0 (m : Mc) (g : Nat → Int) (b1 b2 : Int) : endsAt [0, 1] (Ly.run cx3 3000 [] (sP m g 82 b1 b2)) = some (T [], .int .i64 0, 5, hPm { m with pc := w16 (m.pc + 1) } (memL g)) := by kernel_rfl
@[simp] def z53_0 (m : Mc) : Mc := { m with pc := w16 (m.pc + 1), r2 := m.r3 }
theorem p53_0 (m : Mc) (g : Nat → Int) (b1 b2 : Int) : endsAt [0, 1] (Ly.run cx3 3000 [] (sP m g 83 b1 b2)) = some (T [], .int .i64 0, 5, hPm (z53_0 m) (memL g)) := by kernel_rfl
@[simp] def z54_0 (m : Mc) : Mc := { m with pc := w16 (m.pc + 1), r2 := m.r4 }
theorem p54_0 (m : Mc) (g : Nat → Int) (b1 b2 : Int) : endsAt [0, 1] (Ly.run cx3 3000 [] (sP m g 84 b1 b2)) = some (T [], .int .i64 0, 5, hPm (z54_0 m) (memL g)) := by kernel_rfl
@[simp] def z55_0 (m : Mc) : Mc := { m with pc := w16 (m.pc + 1), r2 := m.r5 }
theorem p55_0 (m : Mc) (g : Nat → Int) (b1 b2 : Int) : endsAt [0, 1] (Ly.run cx3 3000 [] (sP m g 85 b1 b2)) = some (T [], .int .i64 0, 5, hPm (z55_0 m) (memL g)) := by kernel_rfl
@[simp] def z56_0 (m : Mc) (g : Nat → Int) : Mc := { m with pc := w16 (m.pc + 1), r2 := g (ix (or16 (w16 (w16 m.r4 * 256)) (w16 m.r5))) }
theorem p56_0 (m : Mc) (g : Nat → Int) (b1 b2 : Int) : endsAt [0, 1] (Ly.run cx3 3000 [(28, true), (0, true)] (sP m g 86 b1 b2)) = some (T [(true && lt16 (or16 (w16 (w16 m.r4 * 256)) (w16 m.r5))), bl (ix (or16 (w16 (w16 m.r4 * 256)) (w16 m.r5)))], .int .i64 0, 5, hPm (z56_0 m g) (memL g)) := by kernel_rfl
@[simp] def z57_0 (m : Mc) : Mc := { m with pc := w16 (m.pc + 1), r2 := m.r7 }
theorem p57_0 (m : Mc) (g : Nat → Int) (b1 b2 : Int) : endsAt [0, 1] (Ly.run cx3 3000 [] (sP m g 87 b1 b2)) = some (T [], .int .i64 0, 5, hPm (z57_0 m) (memL g)) := by kernel_rfl
@[simp] def z58_0 (m : Mc) : Mc := { m with pc := w16 (m.pc + 1), r3 := m.r0 }
theorem p58_0 (m : Mc) (g : Nat → Int) (b1 b2 : Int) : endsAt [0, 1] (Ly.run cx3 3000 [] (sP m g 88 b1 b2)) = some (T [], .int .i64 0, 5, hPm (z58_0 m) (memL g)) := by kernel_rfl
@[simp] def z59_0 (m : Mc) : Mc := { m with pc := w16 (m.pc + 1), r3 := m.r1 }
theorem p59_0 (m : Mc) (g : Nat → Int) (b1 b2 : Int) : endsAt [0, 1] (Ly.run cx3 3000 [] (sP m g 89 b1 b2)) = some (T [], .int .i64 0, 5, hPm (z59_0 m) (memL g)) := by kernel_rfl
@[simp] def z5a_0 (m : Mc) : Mc := { m with pc := w16 (m.pc + 1), r3 := m.r2 }
theorem p5a_0 (m : Mc) (g : Nat → Int) (b1 b2 : Int) : endsAt [0, 1] (Ly.run cx3 3000 [] (sP m g 90 b1 b2)) = some (T [], .int .i64 0, 5, hPm (z5a_0 m) (memL g)) := by kernel_rfl
theorem p5b_0 (m : Mc) (g : Nat → Int) (b1 b2 : Int) : endsAt [0, 1] (Ly.run cx3 3000 [] (sP m g 91 b1 b2)) = some (T [], .int .i64 0, 5, hPm { m with pc := w16 (m.pc + 1) } (memL g)) := by kernel_rfl
@[simp] def z5c_0 (m : Mc) : Mc := { m with pc := w16 (m.pc + 1), r3 := m.r4 }
theorem p5c_0 (m : Mc) (g : Nat → Int) (b1 b2 : Int) : endsAt [0, 1] (Ly.run cx3 3000 [] (sP m g 92 b1 b2)) = some (T [], .int .i64 0, 5, hPm (z5c_0 m) (memL g)) := by kernel_rfl
@[simp] def z5d_0 (m : Mc) : Mc := { m with pc := w16 (m.pc + 1), r3 := m.r5 }
theorem p5d_0 (m : Mc) (g : Nat → Int) (b1 b2 : Int) : endsAt [0, 1] (Ly.run cx3 3000 [] (sP m g 93 b1 b2)) = some (T [], .int .i64 0, 5, hPm (z5d_0 m) (memL g)) := by kernel_rfl
@[simp] def z5e_0 (m : Mc) (g : Nat → Int) : Mc := { m with pc := w16 (m.pc + 1), r3 := g (ix (or16 (w16 (w16 m.r4 * 256)) (w16 m.r5))) }
theorem p5e_0 (m : Mc) (g : Nat → Int) (b1 b2 : Int) : endsAt [0, 1] (Ly.run cx3 3000 [(28, true), (0, true)] (sP m g 94 b1 b2)) = some (T [(true && lt16 (or16 (w16 (w16 m.r4 * 256)) (w16 m.r5))), bl (ix (or16 (w16 (w16 m.r4 * 256)) (w16 m.r5)))], .int .i64 0, 5, hPm (z5e_0 m g) (memL g)) := by kernel_rfl
@[simp] def z5f_0 (m : Mc) : Mc := { m with pc := w16 (m.pc + 1), r3 := m.r7 }
theorem p5f_0 (m : Mc) (g : Nat → Int) (b1 b2 : Int) : endsAt [0, 1] (Ly.run cx3 3000 [] (sP m g 95 b1 b2)) = some (T [], .int .i64 0, 5, hPm (z5f_0 m) (memL g)) := by kernel_rfl
end Go.Proofs.Ytdjmpilegommlaa
end
