/- Part 6 of the texts that the law needs, laid together. By program (pack.py). -/
import Derived.Test.YtdjmpilegommlaaPwd
import Derived.Test.YtdjmpilegommlaaPwe
import Derived.KernelRfl
import Derived.OpenShut
set_option linter.unusedVariables false
set_option linter.unusedSimpArgs false
noncomputable section
namespace Go.Proofs.Ytdjmpilegommlaa
open Go Go.Ly Go.RowKit
def mkF (s z x p c : Bool) : Int := cI s + 2 * cI z + 4 * cI x + 8 * cI p + 16 * cI c
def maskC (l : List Value) : Option (Bool × Value) := match l with
  | [.agg ⟨[.bool s, .bool z, .bool x, .bool p, .bool c]⟩] => some (true, .int .i64 (mkF s z x p c))
  | _ => none
theorem gF22 : env.bare.fn.get 22 = some Try.f22 := by kernel_rfl
theorem maskR (s z x p c : Bool) : (Ly.run env.bare 2000 [] (Ly.start Try.f22 [.agg ⟨[.bool s, .bool z, .bool x, .bool p, .bool c]⟩] H0)).out? = some ([], .int .i64 (mkF s z x p c)) := by
  cases s <;> cases z <;> cases x <;> cases p <;> cases c <;> kernel_rfl
theorem mask_ans : Answers Try.prog 22 maskC := by
  intro args g v h hg
  unfold maskC at h
  split at h
  · simp only [Option.some.injEq, Prod.mk.injEq] at h
    obtain ⟨rfl, rfl⟩ := h
    exact ⟨by simp [plain, plainL], by simp [plain], fun w => calls_trust (Env.bare_ok envOk) 2000 [] gF22 (by kernel_rfl) (by simp [plain, plainL]) (by simp [plain]) (maskR _ _ _ _ _) trivial w⟩
  · cases h
def cxM : Ctx := cx0 |>.with 9 (tabC usesT) |>.with 11 (tabC setsT) |>.with 13 aliveC |>.with 22 maskC
theorem cxM_ok : cxM.Ok Try.prog := cx0_ok.with tab9_ans |>.with tab11_ans |>.with alive_ans |>.with mask_ans
def cxN : Ctx := cxM |>.withH 48 (hconTree cxM 300 48) |>.withH 49 (hconTree cxM 300 49)
theorem cxN_ok : cxN.Ok Try.prog := (cxM_ok.byRun cxM_ok 300 48).byRun cxM_ok 300 49
def cxO : Ctx := cxN.withH 24 (hconTree cxN 600 24)
theorem cxO_ok : cxO.Ok Try.prog := cxN_ok.byRun cxN_ok 600 24
def cxP : Ctx := cxO.withH 21 (hconTree cxO 3000 21)
theorem cxP_ok : cxP.Ok Try.prog := cxO_ok.byRun cxO_ok 3000 21
def cxT : Ctx := haltAt cxP 23
theorem cxT_ok : cxT.Ok Try.prog := haltAt_ok cxP_ok 23
end Go.Proofs.Ytdjmpilegommlaa
namespace Go.Proofs.Ytdjmpilegommlaa
open Go Go.Ly Go.RowKit
def mIn (m : Mc) : Mc := { m with pc := w16 (m.pc + 2), r7 := 0 }
def mOu (m : Mc) : Mc := { m with pc := w16 (m.pc + 2) }
def outV : Value := .slice (some ⟨6, 0, some 0⟩) 1 18446744073709551616
theorem inpR (m : Mc) (g : Nat → Int) (b1 b2 : Int) : endsAt [0, 1] (Ly.run cx3 3000 [] (sQ m g 219 b1 b2)) = some ([], .int .i64 0, 5, [some (.cells (cellsP (mIn m) nilS nilS) 53), some (memL g)]) := by kernel_rfl
theorem ouR (m : Mc) (g : Nat → Int) (b1 b2 : Int) : endsAt [0, 1] (Ly.run cx3 3000 [] (sQ m g 211 b1 b2)) = some ([], .int .i64 0, 7, [some (.cells (cellsP (mOu m) nilS outV) 53), some (memL g)]) := by kernel_rfl
theorem endsQ {m : Mc} {g : Nat → Int} {b0 k : Int} {nx : Nat} {os : List (Option LO)} (hm : m.Ok) (hh : m.halt = false) (h0 : g (ix m.pc) = b0)
    (hp : endsAt [0, 1] (Ly.run cx3 3000 [] (sQ m g b0 (g (at1 m.pc 1)) (g (at1 m.pc 2)))) = some ([], .int .i64 k, nx, os)) (hn : nx ≤ 64) : Ly.Ends Try.prog 23 [ptr 0] (hQ m g) [0, 1] (.int .i64 k) 64 os := by
  have e1 := MWp.ends cx3_ok 3000 [] hp trivial
  have e2 : Ly.Ends Try.prog 23 [ptr 0] (hQ m g) [0, 1] (.int .i64 k) nx os := by
    refine LCalls_of cx3_ok gP13 (by kernel_rfl) (MWp.halted (haltAt_ok cx3_ok 43) [0, 53] 300 pathP (juncQ m g) (trP hm hh) ?_)
    have h0' : g (0 + m.pc.toNat * 1) = b0 := h0
    rw [h0']; exact e1
  exact e2.grow hn (by unfold big; omega)
theorem endsQ_q {m m' : Mc} {g : Nat → Int} {k : Int} {ov : Value} (he : Ly.Ends Try.prog 23 [ptr 0] (hQ m g) [0, 1] (.int .i64 k) 64 [some (.cells (cellsP m' nilS ov) 53), some (memL g)])
    (ho : ∀ n, noTok (renV n ov) = true) : StQ m g m' k := by
  intro H p b h1 h2 hpb hl hc hb
  refine LCalls.ltn fun hlt hsm => ?_
  have hnd : [p, b].Nodup := by simp [hpb]
  have hs : Sit H (hQ m g) [p, b] := by
    refine ⟨hl, rfl, hnd, fun i o hi => ?_⟩
    rcases i with _ | _ | i
    · simp only [hQ, List.getElem?_cons_zero, Option.some.injEq] at hi; subst hi
      show H.get p = _
      rw [h1]; rfl
    · simp only [hQ, List.getElem?_cons_succ, List.getElem?_cons_zero, Option.some.injEq] at hi; subst hi
      show H.get b = _
      rw [h2]; rfl
    · simp [hQ] at hi
  have key : LCalls Try.prog 23 [ptr p] H _ := Ends.made (L := [p, b]) he (by rfl) hs hb hc (by
    intro o ho' x hx
    simp only [List.mem_cons, List.not_mem_nil, or_false] at ho'
    rcases ho' with rfl | rfl <;> (simp only [Option.some.injEq] at hx; subst hx)
    · show noTokL (cellsPb b m' nilS (renV _ ov)) = true
      rw [noP, ho]; rfl
    · exact rfl)
  refine key.mono ?_
  rintro u K ⟨rfl, hM⟩
  exact ⟨rfl, hM.lock, hM.clean, by rw [hM.next]; rfl, ⟨_, _, hM.now 0 0 _ rfl rfl⟩, fun i hi hp hb => hM.old i hi (by simp [hp, hb])⟩
def zG : Nat → Nat → Value := fun x q => ((cellsL (Value.int .u8 0))[q]?).getD undef
end Go.Proofs.Ytdjmpilegommlaa
namespace Go.Proofs.Ytdjmpilegommlaa
open Go Go.Ly Go.RowKit
end Go.Proofs.Ytdjmpilegommlaa
namespace Go.Proofs.Ytdjmpilegommlaa
open Go Go.Ly Go.RowKit
def mkM (m : Mc) : Int := mkF m.fs m.fz m.fx m.fp m.fc
end Go.Proofs.Ytdjmpilegommlaa
namespace Go.Proofs.Ytdjmpilegommlaa
open Go Go.Ly Go.RowKit
def cxQ : Ctx := ((cxT.withC 18 riC).withH 15 ownC).withH 19 nxC
theorem cxQ_ok : cxQ.Ok Try.prog := ((cxT_ok.withC riC_good).withH ownC_good).withH nxC_good
def cellsX (m : Mc) : List Value := [.int .u8 m.r0, .int .u8 m.r1, .int .u8 m.r2, .int .u8 m.r3, .int .u8 m.r4, .int .u8 m.r5, .int .u8 0, .int .u8 m.r7, .bool m.fs, .bool m.fz, .bool m.fx, .bool m.fp, .bool m.fc, .int .u16 m.sp, .int .u16 m.pc, .bool m.ie, .bool m.halt, anyV, anyV, anyV]
def toL (g : Nat → Int) (m : Nat) : LO := .fn 1 (fun e _ => .int .i64 (g e)) m 3
def waD : St := Ly.start Try.f8 [] H0
def waAr (i r0 r1 r2 r3 r4 r5 r6 r7 : Int) (k : Nat) (s z x p c : Bool) : List Value := [sls 0 k, .int .i64 i, .agg ⟨[.int .u8 r0, .int .u8 r1, .int .u8 r2, .int .u8 r3, .int .u8 r4, .int .u8 r5, .int .u8 r6, .int .u8 r7]⟩, .agg ⟨[.bool s, .bool z, .bool x, .bool p, .bool c]⟩]
def zF : Nat → Int := fun _ => 0
def waP (l : Path) : Path := (0, true) :: (2, true) :: (4, true) :: (1, true) :: (2, false) :: (0, true) :: (0, true) :: (0, true) :: (0, false) :: (0, true) :: (0, false) :: (0, false) :: (2, true) :: (0, true) :: (0, true) :: l
def waS0 (a o n : Nat → Int) (i r0 r1 r2 r3 r4 r5 r6 r7 : Int) (k : Nat) (s z x p c : Bool) : St := Ly.start Try.f8 (waAr i r0 r1 r2 r3 r4 r5 r6 r7 k s z x p c) (mkH [some (ndL a o n k)])
def waK : List KI := ((Ly.run cxQ 9000 (waP [(0, false), (0, true), (0, false)]) (waS0 zF zF zF 0 0 0 0 0 0 0 0 0 0 false false false false false)).st waD).top.k
def waV (k m : Nat) : List Value := slots 143 [(0, sls 0 k), (10, sl 5 m), (13, ptr 10), (101, .bool false), (102, ptr 10)]
def waS (k m : Nat) (H : Heap) : St := atSt Try.f8 waK none 1 (waV k m) H
def toN (a o n : Nat → Int) (k : Nat) (i : Int) : List Int × Bool := nxF k (sh (sh a)) (sh (sh o)) (sh (sh n)) i
def toI (a o n : Nat → Int) (k : Nat) (i : Int) : Nat → Int := fun e => ((toN a o n k i).1[e]?).getD 0
def rowT2 (a o n : Nat → Int) (k : Nat) : Bool := Nat.ble (0 + k) k && (okN k (fun e x => ndG a o n (0 + e) x) && (List.range k).all fun e => inb (sh o e))
def rowT4 (a o n : Nat → Int) (k : Nat) : Bool := Nat.ble (0 + k) k && (okN k (fun e x => ndG (sh a) (sh o) (sh n) (0 + e) x) && (List.range k).all fun e => inb (sh (sh o) e))
def waT (a o n : Nat → Int) (k : Nat) (i : Int) (l : List (Bool × Bool)) : List (Bool × Bool) := (decide ((40 : Int) < k) == false, true) :: (decide (i < 0) == false, true) :: (decide ((k : Int) ≤ i) == false, true) :: (rowT2 a o n k, true) :: (!(riN k (sh a) (sh o)), false) :: (ixB k i, true) :: (Nat.blt (0 + i.toNat) k, true) :: (rowT a o n k, true) :: (Nat.beq k 0, false) :: (rowT4 a o n k, true) :: (Nat.beq (toN a o n k i).1.length 0, false) :: ((toN a o n k i).2, false) :: l
def ixM (x : Int) : Bool := decide (0 ≤ x) && decide (x < 65536)
def blM (x : Int) : Bool := Nat.blt (0 + x.toNat * 1) 65536
def at1' (x : Int) : Int := IntKind.u16.wrap (x + 1)
def at2' (x : Int) : Int := IntKind.u16.wrap (x + 2)
def mG1 (x op : Int) : Nat → Nat → Value := updG zG (0 + x.toNat * 1) 0 [.int .u8 op]
def mG2 (x op n : Int) : Nat → Nat → Value := updG (mG1 x op) (0 + (at1' x).toNat * 1) 0 [.int .u8 (IntKind.u8.wrap n)]
def mG3 (x op n : Int) : Nat → Nat → Value := updG (mG2 x op n) (0 + (at2' x).toNat * 1) 0 [.int .u8 (IntKind.u8.wrap (n.fdiv 256))]
def shG (g : Nat → Nat → Value) : LO := .fn 1 (fun i j => g (0 + i) j) 65536 5
def mW (x r0 r1 r2 r3 r4 r5 r7 : Int) (s z f p c : Bool) : Mc := ⟨r0, r1, r2, r3, r4, r5, r7, s, z, f, p, c, IntKind.u16.wrap (x + 30000), x, false, false⟩
def waO (a o n : Nat → Int) (k : Nat) (i r0 r1 r2 r3 r4 r5 r7 : Int) (s z x p c : Bool) (g : Nat → Nat → Value) : List (Option LO) := [some (.cells (cellsPb 9 (mW (xN a i) r0 r1 r2 r3 r4 r5 r7 s z x p c) nilS nilS) 53), some (shG g), some (toL (toI a o n k i) (toN a o n k i).1.length), some (ndL a o n k)]
set_option maxRecDepth 100000 in
theorem wa1 (a o n : Nat → Int) (i r0 r1 r2 r3 r4 r5 r6 r7 : Int) (k : Nat) (s z x p c : Bool) : haltH [0, 10, 13, 101, 102] [10, 9, 5, 0] 11 waD (Ly.run cxQ 9000 (waP [(0, false), (0, true), (0, false)]) (waS0 a o n i r0 r1 r2 r3 r4 r5 r6 r7 k s z x p c)) =
  (true, waT a o n k i [(ixM (xN a i), true), (blM (xN a i), true), (inb (xO o i), true), (decide (1 < sizeT (xO o i)), false), (inb (xO o i), true), (decide (2 < sizeT (xO o i)), false)], true, (Try.f8, waK, none, 1), waV k (toN a o n k i).1.length, (true, true, true),
    waO a o n k i r0 r1 r2 r3 r4 r5 r7 s z x p c (mG1 (xN a i) (xO o i))) := by kernel_rfl
set_option maxRecDepth 100000 in
theorem wa2 (a o n : Nat → Int) (i r0 r1 r2 r3 r4 r5 r6 r7 : Int) (k : Nat) (s z x p c : Bool) : haltH [0, 10, 13, 101, 102] [10, 9, 5, 0] 11 waD (Ly.run cxQ 9000 (waP [(0, true), (0, true), (0, true), (0, true), (0, false)]) (waS0 a o n i r0 r1 r2 r3 r4 r5 r6 r7 k s z x p c)) =
  (true, waT a o n k i [(ixM (xN a i), true), (blM (xN a i), true), (inb (xO o i), true), (decide (1 < sizeT (xO o i)), true), (ixM (at1' (xN a i)), true), (blM (at1' (xN a i)), true), (inb (xO o i), true), (decide (2 < sizeT (xO o i)), false)], true, (Try.f8, waK, none, 1), waV k (toN a o n k i).1.length, (true, true, true),
    waO a o n k i r0 r1 r2 r3 r4 r5 r7 s z x p c (mG2 (xN a i) (xO o i) (xN n i))) := by kernel_rfl
set_option maxRecDepth 100000 in
theorem wa3 (a o n : Nat → Int) (i r0 r1 r2 r3 r4 r5 r6 r7 : Int) (k : Nat) (s z x p c : Bool) : haltH [0, 10, 13, 101, 102] [10, 9, 5, 0] 11 waD (Ly.run cxQ 9000 (waP [(0, true), (0, true), (0, true), (0, true), (0, true), (1, true), (0, true)]) (waS0 a o n i r0 r1 r2 r3 r4 r5 r6 r7 k s z x p c)) =
  (true, waT a o n k i [(ixM (xN a i), true), (blM (xN a i), true), (inb (xO o i), true), (decide (1 < sizeT (xO o i)), true), (ixM (at1' (xN a i)), true), (blM (at1' (xN a i)), true), (inb (xO o i), true), (decide (2 < sizeT (xO o i)), true), (ixM (at2' (xN a i)), true), (blM (at2' (xN a i)), true)], true, (Try.f8, waK, none, 1), waV k (toN a o n k i).1.length, (true, true, true),
    waO a o n k i r0 r1 r2 r3 r4 r5 r7 s z x p c (mG3 (xN a i) (xO o i) (xN n i))) := by kernel_rfl
end Go.Proofs.Ytdjmpilegommlaa
namespace Go.Proofs.Ytdjmpilegommlaa
open Go Go.Ly Go.RowKit
def wlS0 (k m : Nat) (H K : Heap) : St := behind (waS k m H) (.int .i64 0) K
def wlK : List KI := ((Ly.run cxQ 12 [] (wlS0 0 0 H0 H0)).st waD).top.k
def wlV (k m : Nat) (j : Int) : List Value := slots 143 [(0, sls 0 k), (10, sl 2 m), (13, ptr 1), (15, .int .i64 j)]
def wlO (a o n g : Nat → Int) (k m : Nat) (mc : Mc) : List (Option LO) := [some (ndL a o n k), some (.cells (cellsX mc) 53), some (toL g m)]
def gJ (g : Nat → Int) (j : Int) : Int := g (0 + j.toNat * 1)
def tA (m : Nat) (j : Int) (l : List (Bool × Bool)) : List (Bool × Bool) := (decide (j < m), true) :: (ixB m j, true) :: (Nat.blt (0 + j.toNat * 1) m, true) :: l
def tB (g : Nat → Int) (m : Nat) (j : Int) (l : List (Bool × Bool)) : List (Bool × Bool) := tA m j ((decide (0 ≤ gJ g j) == true, true) :: (ixB m j, true) :: (Nat.blt (0 + j.toNat * 1) m, true) :: l)
def tC (g : Nat → Int) (k m : Nat) (j : Int) (l : List (Bool × Bool)) : List (Bool × Bool) := tB g m j ((decide (gJ g j < k) == true, true) :: (ixB m j, true) :: (Nat.blt (0 + j.toNat * 1) m, true) :: (ixB k (gJ g j), true) :: (Nat.blt (0 + (gJ g j).toNat) k, true) :: l)
def pA (l : Path) : Path := (0, true) :: (0, true) :: (0, true) :: l
def pB (l : Path) : Path := pA ((0, true) :: (2, true) :: (1, true) :: l)
def pC (l : Path) : Path := pB ((4, true) :: (3, true) :: (1, true) :: (1, true) :: (2, true) :: l)
def wlH (a o n g : Nat → Int) (k m : Nat) (mc : Mc) : Heap := vH [10, 5, 0] [some (.cells (cellsX mc) 53), some (toL g m), some (ndL a o n k)] 2000
theorem wl_0 (a o n g : Nat → Int) (k m : Nat) (mc : Mc) (H : Heap) : headAt [0, 10, 13, 15] [0, 10, 5] waD (Ly.run cxQ 12 [] (wlS0 k m H (wlH a o n g k m mc))) = (true, [], true, (Try.f8, wlK, none, 1), wlV k m 0, wlO a o n g k m mc) := by kernel_rfl
theorem wl_A (a o n g : Nat → Int) (k m : Nat) (mc : Mc) (j : Int) : headAt [0, 10, 13, 15] [0, 1, 2] waD (Ly.run cxQ 23 (pA [(0, false)]) (mkSt Try.f8 wlK none 1 (wlV k m j) (wlO a o n g k m mc))) = (true, tA m j [(decide (0 ≤ gJ g j) == true, false)], true, (Try.f8, wlK, none, 1), wlV k m (IntKind.i64.wrap (j + 1)), wlO a o n g k m mc) := by kernel_rfl
theorem wl_B (a o n g : Nat → Int) (k m : Nat) (mc : Mc) (j : Int) : headAt [0, 10, 13, 15] [0, 1, 2] waD (Ly.run cxQ 23 (pB [(4, false)]) (mkSt Try.f8 wlK none 1 (wlV k m j) (wlO a o n g k m mc))) = (true, tB g m j [(decide (gJ g j < k) == true, false)], true, (Try.f8, wlK, none, 1), wlV k m (IntKind.i64.wrap (j + 1)), wlO a o n g k m mc) := by kernel_rfl
theorem wl_C (a o n g : Nat → Int) (k m : Nat) (mc : Mc) (j : Int) : headAt [0, 10, 13, 15] [0, 1, 2] waD (Ly.run cxQ 23 (pC [(7, false)]) (mkSt Try.f8 wlK none 1 (wlV k m j) (wlO a o n g k m mc))) = (true, tC g k m j [(a (0 + (gJ g j).toNat) == mc.pc, false)], true, (Try.f8, wlK, none, 1), wlV k m (IntKind.i64.wrap (j + 1)), wlO a o n g k m mc) := by kernel_rfl
theorem wl_R (a o n g : Nat → Int) (k m : Nat) (mc : Mc) (j : Int) : (Ly.run cxQ 300 (pC [(7, true)]) (mkSt Try.f8 wlK none 1 (wlV k m j) (wlO a o n g k m mc))).out? = some (tC g k m j [(a (0 + (gJ g j).toNat) == mc.pc, true)], .bool true) := by kernel_rfl
theorem wl_P (a o n g : Nat → Int) (k m : Nat) (mc : Mc) : ∀ y ∈ wlO a o n g k m mc, ∀ z, y = some z → plainO z := by
  intro y hy z hz
  simp only [wlO, List.mem_cons, List.not_mem_nil, or_false] at hy
  rcases hy with rfl | rfl | rfl <;> (simp only [Option.some.injEq] at hz; subst hz)
  · exact plain_ndL _ _ _ _
  · trivial
  · intro e j; simp [noBlk, blks]
theorem wl_loop (a o n g : Nat → Int) (k m : Nat) (mc : Mc) (hm : m ≤ 1000) (e : Nat) (he : e < m) (h0 : 0 ≤ g e) (h1 : g e < k) (h2 : a (g e).toNat = mc.pc) : ∀ (d j : Nat), j + d = e →
    MWp Try.prog (mkSt Try.f8 wlK none 1 (wlV k m j) (wlO a o n g k m mc)) (fun u _ => u = .bool true)
  | d, j, hd => by
    obtain ⟨i1, i2, i3, i4⟩ := ix_tests (show j < m by omega)
    have i5 : 0 + (j : Int).toNat * 1 = j := by omega
    have eg : gJ g j = g j := by unfold gJ; rw [i5]
    have hw : IntKind.i64.wrap ((j : Int) + 1) = ((j + 1 : Nat) : Int) := by rw [IntKind.wrap_i64]; omega
    have next : (∀ (d' : Nat), d = d' + 1 → MWp Try.prog (mkSt Try.f8 wlK none 1 (wlV k m ((j + 1 : Nat) : Int)) (wlO a o n g k m mc)) (fun u _ => u = .bool true)) :=
      fun d' hd' => by subst hd'; exact wl_loop a o n g k m mc hm e he h0 h1 h2 d' (j + 1) (by omega)
    by_cases c0 : 0 ≤ g j
    · by_cases c1 : g j < k
      · have z1 : ixB k (g j) = true := by simp [ixB, c0, c1]
        have z2 : 0 + (g j).toNat = (g j).toNat := by omega
        have z3 : Nat.blt (g j).toNat k = true := by rw [Nat.blt_eq]; omega
        cases c2 : (a (g j).toNat == mc.pc) with
        | true => exact MWp.out cxQ_ok 300 _ (wl_R a o n g k m mc j) (by simp [tC, tB, tA, trusted, eg, i1, i2, i4, i5, c0, c1, z1, z2, z3, c2]; omega) (fun _ => rfl)
        | false =>
          rcases d with _ | d
          · obtain rfl : j = e := by omega
            rw [h2] at c2; simp at c2
          · refine MWp.head cxQ_ok _ _ _ _ (wl_C a o n g k m mc j) (by simp [tC, tB, tA, trusted, eg, i1, i2, i4, i5, c0, c1, z1, z2, z3, c2]; omega) (wl_P a o n g k m mc) ?_
            rw [hw]; exact next d rfl
      · rcases d with _ | d
        · obtain rfl : j = e := by omega
          exact absurd h1 c1
        · refine MWp.head cxQ_ok _ _ _ _ (wl_B a o n g k m mc j) (by simp [tB, tA, trusted, eg, i1, i2, i4, i5, c0, c1]; omega) (wl_P a o n g k m mc) ?_
          rw [hw]; exact next d rfl
    · rcases d with _ | d
      · obtain rfl : j = e := by omega
        exact absurd h0 c0
      · refine MWp.head cxQ_ok _ _ _ _ (wl_A a o n g k m mc j) (by simp [tA, trusted, eg, i1, i2, i4, i5, c0]; omega) (wl_P a o n g k m mc) ?_
        rw [hw]; exact next d rfl
theorem ixF_spec (a : Nat → Int) (x : Int) : ∀ (d i : Nat), 0 ≤ ixF a x d i → ∃ e : Nat, ixF a x d i = e ∧ i ≤ e ∧ e < i + d ∧ a e = x
  | 0, i, h => by simp [ixF] at h
  | d + 1, i, h => by
    unfold ixF at h ⊢
    cases hb : (a i == x) with
    | true => simp only [cond_true]; exact ⟨i, rfl, by omega, by omega, by simpa using hb⟩
    | false =>
      rw [hb] at h
      simp only [cond_false] at h ⊢
      obtain ⟨e, h1, h2, h3, h4⟩ := ixF_spec a x d (i + 1) h
      exact ⟨e, h1, by omega, by omega, h4⟩
theorem atN_spec {k : Nat} {a : Nat → Int} {x : Int} (h : 0 ≤ atN k a x) : atN k a x < k ∧ a (atN k a x).toNat = x := by
  obtain ⟨e, h1, _, h3, h4⟩ := ixF_spec a x k 0 h
  have : atN k a x = e := h1
  rw [this]; exact ⟨by omega, by simpa using h4⟩
end Go.Proofs.Ytdjmpilegommlaa
namespace Go.Proofs.Ytdjmpilegommlaa
open Go Go.Ly Go.RowKit
def kindL : List Nat := [1, 1, 1, 1, 1, 1, 1, 1, 0, 1, 1, 1, 1, 1, 1, 1, 0, 1, 1, 1, 1, 1, 1, 1, 0, 1, 1, 1, 1, 1, 1, 1, 0, 1, 1, 1, 1, 1, 1, 1, 0, 1, 1, 1, 1, 1, 1, 1, 0, 1, 1, 1, 1, 1, 1, 1, 0, 1, 1, 1, 1, 1, 1, 1, 1, 1, 1, 1, 1, 1, 1, 1, 1, 1, 1, 1, 1, 1, 1, 1, 1, 1, 1, 1, 1, 1, 1, 1, 1, 1, 1, 1, 1, 1, 1, 1, 1, 1, 1, 1, 1, 1, 1, 1, 1, 1, 1, 1, 1, 1, 1, 1, 1, 1, 1, 1, 1, 1, 0, 1, 1, 1, 1, 1, 1, 1, 1, 1, 1, 1, 1, 1, 1, 1, 1, 1, 1, 1, 1, 1, 1, 1, 1, 1, 1, 1, 1, 1, 1, 1, 1, 1, 1, 1, 1, 1, 1, 1, 1, 1, 1, 1, 1, 1, 1, 1, 1, 1, 1, 1, 1, 1, 1, 1, 1, 1, 1, 1, 1, 1, 1, 1, 1, 1, 1, 1, 1, 1, 1, 1, 1, 1, 0, 1, 3, 2, 3, 1, 1, 4, 0, 0, 3, 0, 3, 2, 1, 4, 0, 1, 3, 1, 3, 1, 1, 4, 0, 0, 3, 1, 3, 0, 1, 4, 0, 1, 3, 1, 3, 1, 1, 4, 0, 0, 3, 1, 3, 0, 1, 4, 0, 1, 3, 1, 3, 1, 1, 4, 0, 1, 3, 1, 3, 0, 1, 4]
def kindT (op : Int) : Nat := (kindL[op.toNat]?).getD 0
def nw (m : Mc) (g : Nat → Int) : Int := or16 (w16 (or16 0 (w16 (g (at1 m.pc 2))) * 256)) (w16 (g (at1 m.pc 1)))
def Goes (m : Mc) (g : Nat → Int) (v : Int) : Prop := ∃ a, StQ m g a 0 ∧ a.pc = v
def WayA (op : Int) (m : Mc) (g : Nat → Int) : Prop := (kindT op = 1 → Goes m g (w16 (m.pc + sizeT op))) ∧ (kindT op = 2 → Goes m g (nw m g)) ∧ (kindT op = 3 → Goes m g (nw m g) ∨ Goes m g (w16 (m.pc + 3))) ∧ (kindT op = 4 → Goes m g (bits .and .u8 op 56))
theorem wayA0 {op : Int} {m : Mc} {g : Nat → Int} (h : kindT op = 0) : WayA op m g := ⟨fun e => by omega, fun e => by omega, fun e => by omega, fun e => by omega⟩
theorem wayA1 {op n : Int} {m : Mc} {g : Nat → Int} (h : kindT op = 1) (hs : sizeT op = n) (k : Goes m g (w16 (m.pc + n))) : WayA op m g := ⟨fun _ => by rw [hs]; exact k, fun e => by omega, fun e => by omega, fun e => by omega⟩
theorem wayA2 {op : Int} {m : Mc} {g : Nat → Int} (h : kindT op = 2) (k : Goes m g (nw m g)) : WayA op m g := ⟨fun e => by omega, fun _ => k, fun e => by omega, fun e => by omega⟩
theorem wayA3 {op : Int} {m : Mc} {g : Nat → Int} (h : kindT op = 3) (k : Goes m g (nw m g) ∨ Goes m g (w16 (m.pc + 3))) : WayA op m g := ⟨fun e => by omega, fun e => by omega, fun _ => k, fun e => by omega⟩
theorem wayA4 {op n : Int} {m : Mc} {g : Nat → Int} (h : kindT op = 4) (hs : bits .and .u8 op 56 = n) (k : Goes m g n) : WayA op m g := ⟨fun e => by omega, fun e => by omega, fun e => by omega, fun _ => by rw [hs]; exact k⟩
end Go.Proofs.Ytdjmpilegommlaa
namespace Go.Proofs.Ytdjmpilegommlaa
open Go Go.Ly Go.RowKit
theorem y00 {m : Mc} {g : Nat → Int} (hm : m.Ok) (hg : ∀ e, B8 (g e)) (hh : m.halt = false) (h0 : g (ix m.pc) = 0) : Goes m g (w16 (m.pc + 1)) := by
  obtain ⟨r0, r1, r2, r3, r4, r5, r7, sp, pc⟩ := id hm
  exact ⟨_, (joinP hm hh h0 (p00_0 m g _ _) (by simp [*]) (by decide) (eP (.inl rfl))).q, rfl⟩
theorem y01 {m : Mc} {g : Nat → Int} (hm : m.Ok) (hg : ∀ e, B8 (g e)) (hh : m.halt = false) (h0 : g (ix m.pc) = 1) : Goes m g (w16 (m.pc + 3)) := by
  obtain ⟨r0, r1, r2, r3, r4, r5, r7, sp, pc⟩ := id hm
  exact ⟨_, (joinP hm hh h0 (p01_0 m g _ _) (by simp [*]) (by decide) (eP (.inl rfl))).q, rfl⟩
theorem y02 {m : Mc} {g : Nat → Int} (hm : m.Ok) (hg : ∀ e, B8 (g e)) (hh : m.halt = false) (h0 : g (ix m.pc) = 2) : Goes m g (w16 (m.pc + 1)) := by
  obtain ⟨r0, r1, r2, r3, r4, r5, r7, sp, pc⟩ := id hm
  exact ⟨_, (joinP hm hh h0 (p02_0 m g _ _) (by simp [*]) (by decide) (eP (m1s rfl rfl))).q, rfl⟩
theorem y03 {m : Mc} {g : Nat → Int} (hm : m.Ok) (hg : ∀ e, B8 (g e)) (hh : m.halt = false) (h0 : g (ix m.pc) = 3) : Goes m g (w16 (m.pc + 1)) := by
  obtain ⟨r0, r1, r2, r3, r4, r5, r7, sp, pc⟩ := id hm
  exact ⟨_, (joinP hm hh h0 (p03_0 m g _ _) (by simp [*]) (by decide) (eP (.inl rfl))).q, rfl⟩
theorem y04 {m : Mc} {g : Nat → Int} (hm : m.Ok) (hg : ∀ e, B8 (g e)) (hh : m.halt = false) (h0 : g (ix m.pc) = 4) : Goes m g (w16 (m.pc + 1)) := by
  obtain ⟨r0, r1, r2, r3, r4, r5, r7, sp, pc⟩ := id hm
  exact ⟨_, (joinP hm hh h0 (p04_0 m g _ _) (by simp [*]) (by decide) (eP (.inl rfl))).q, rfl⟩
theorem y05 {m : Mc} {g : Nat → Int} (hm : m.Ok) (hg : ∀ e, B8 (g e)) (hh : m.halt = false) (h0 : g (ix m.pc) = 5) : Goes m g (w16 (m.pc + 1)) := by
  obtain ⟨r0, r1, r2, r3, r4, r5, r7, sp, pc⟩ := id hm
  exact ⟨_, (joinP hm hh h0 (p05_0 m g _ _) (by simp [*]) (by decide) (eP (.inl rfl))).q, rfl⟩
theorem y06 {m : Mc} {g : Nat → Int} (hm : m.Ok) (hg : ∀ e, B8 (g e)) (hh : m.halt = false) (h0 : g (ix m.pc) = 6) : Goes m g (w16 (m.pc + 2)) := by
  obtain ⟨r0, r1, r2, r3, r4, r5, r7, sp, pc⟩ := id hm
  exact ⟨_, (joinP hm hh h0 (p06_0 m g _ _) (by simp [*]) (by decide) (eP (.inl rfl))).q, rfl⟩
theorem y07 {m : Mc} {g : Nat → Int} (hm : m.Ok) (hg : ∀ e, B8 (g e)) (hh : m.halt = false) (h0 : g (ix m.pc) = 7) : Goes m g (w16 (m.pc + 1)) := by
  obtain ⟨r0, r1, r2, r3, r4, r5, r7, sp, pc⟩ := id hm
  exact ⟨_, (joinP hm hh h0 (p07_0 m g _ _) (by simp [*]) (by decide) (eP (.inl rfl))).q, rfl⟩
theorem y09 {m : Mc} {g : Nat → Int} (hm : m.Ok) (hg : ∀ e, B8 (g e)) (hh : m.halt = false) (h0 : g (ix m.pc) = 9) : Goes m g (w16 (m.pc + 1)) := by
  obtain ⟨r0, r1, r2, r3, r4, r5, r7, sp, pc⟩ := id hm
  exact ⟨_, (joinP hm hh h0 (p09_0 m g _ _) (by simp [*]; unfold B8 B16 at *; omega) (by decide) (eP (.inl rfl))).q, rfl⟩
theorem y0a {m : Mc} {g : Nat → Int} (hm : m.Ok) (hg : ∀ e, B8 (g e)) (hh : m.halt = false) (h0 : g (ix m.pc) = 10) : Goes m g (w16 (m.pc + 1)) := by
  obtain ⟨r0, r1, r2, r3, r4, r5, r7, sp, pc⟩ := id hm
  exact ⟨_, (joinP hm hh h0 (p0a_0 m g _ _) (by simp [*]) (by decide) (eP (.inl rfl))).q, rfl⟩
theorem y0b {m : Mc} {g : Nat → Int} (hm : m.Ok) (hg : ∀ e, B8 (g e)) (hh : m.halt = false) (h0 : g (ix m.pc) = 11) : Goes m g (w16 (m.pc + 1)) := by
  obtain ⟨r0, r1, r2, r3, r4, r5, r7, sp, pc⟩ := id hm
  exact ⟨_, (joinP hm hh h0 (p0b_0 m g _ _) (by simp [*]) (by decide) (eP (.inl rfl))).q, rfl⟩
theorem y0c {m : Mc} {g : Nat → Int} (hm : m.Ok) (hg : ∀ e, B8 (g e)) (hh : m.halt = false) (h0 : g (ix m.pc) = 12) : Goes m g (w16 (m.pc + 1)) := by
  obtain ⟨r0, r1, r2, r3, r4, r5, r7, sp, pc⟩ := id hm
  exact ⟨_, (joinP hm hh h0 (p0c_0 m g _ _) (by simp [*]) (by decide) (eP (.inl rfl))).q, rfl⟩
theorem y0d {m : Mc} {g : Nat → Int} (hm : m.Ok) (hg : ∀ e, B8 (g e)) (hh : m.halt = false) (h0 : g (ix m.pc) = 13) : Goes m g (w16 (m.pc + 1)) := by
  obtain ⟨r0, r1, r2, r3, r4, r5, r7, sp, pc⟩ := id hm
  exact ⟨_, (joinP hm hh h0 (p0d_0 m g _ _) (by simp [*]) (by decide) (eP (.inl rfl))).q, rfl⟩
theorem y0e {m : Mc} {g : Nat → Int} (hm : m.Ok) (hg : ∀ e, B8 (g e)) (hh : m.halt = false) (h0 : g (ix m.pc) = 14) : Goes m g (w16 (m.pc + 2)) := by
  obtain ⟨r0, r1, r2, r3, r4, r5, r7, sp, pc⟩ := id hm
  exact ⟨_, (joinP hm hh h0 (p0e_0 m g _ _) (by simp [*]) (by decide) (eP (.inl rfl))).q, rfl⟩
theorem y0f {m : Mc} {g : Nat → Int} (hm : m.Ok) (hg : ∀ e, B8 (g e)) (hh : m.halt = false) (h0 : g (ix m.pc) = 15) : Goes m g (w16 (m.pc + 1)) := by
  obtain ⟨r0, r1, r2, r3, r4, r5, r7, sp, pc⟩ := id hm
  exact ⟨_, (joinP hm hh h0 (p0f_0 m g _ _) (by simp [*]) (by decide) (eP (.inl rfl))).q, rfl⟩
theorem way0 {m : Mc} {g : Nat → Int} (hm : m.Ok) (hg : ∀ e, B8 (g e)) (hh : m.halt = false) {op : Int} (h0 : g (ix m.pc) = op) (h1 : 0 ≤ op) (h2 : op < 16) : WayA op m g := by
  have h : op = 0 ∨ op = 1 ∨ op = 2 ∨ op = 3 ∨ op = 4 ∨ op = 5 ∨ op = 6 ∨ op = 7 ∨ op = 8 ∨ op = 9 ∨ op = 10 ∨ op = 11 ∨ op = 12 ∨ op = 13 ∨ op = 14 ∨ op = 15 := by omega
  rcases h with rfl | rfl | rfl | rfl | rfl | rfl | rfl | rfl | rfl | rfl | rfl | rfl | rfl | rfl | rfl | rfl
  · exact wayA1 (n := 1) (by kernel_rfl) (by kernel_rfl) (y00 hm hg hh h0)
  · exact wayA1 (n := 3) (by kernel_rfl) (by kernel_rfl) (y01 hm hg hh h0)
  · exact wayA1 (n := 1) (by kernel_rfl) (by kernel_rfl) (y02 hm hg hh h0)
  · exact wayA1 (n := 1) (by kernel_rfl) (by kernel_rfl) (y03 hm hg hh h0)
  · exact wayA1 (n := 1) (by kernel_rfl) (by kernel_rfl) (y04 hm hg hh h0)
  · exact wayA1 (n := 1) (by kernel_rfl) (by kernel_rfl) (y05 hm hg hh h0)
  · exact wayA1 (n := 2) (by kernel_rfl) (by kernel_rfl) (y06 hm hg hh h0)
  · exact wayA1 (n := 1) (by kernel_rfl) (by kernel_rfl) (y07 hm hg hh h0)
  · exact wayA0 (by kernel_rfl)
  · exact wayA1 (n := 1) (by kernel_rfl) (by kernel_rfl) (y09 hm hg hh h0)
  · exact wayA1 (n := 1) (by kernel_rfl) (by kernel_rfl) (y0a hm hg hh h0)
  · exact wayA1 (n := 1) (by kernel_rfl) (by kernel_rfl) (y0b hm hg hh h0)
  · exact wayA1 (n := 1) (by kernel_rfl) (by kernel_rfl) (y0c hm hg hh h0)
  · exact wayA1 (n := 1) (by kernel_rfl) (by kernel_rfl) (y0d hm hg hh h0)
  · exact wayA1 (n := 2) (by kernel_rfl) (by kernel_rfl) (y0e hm hg hh h0)
  · exact wayA1 (n := 1) (by kernel_rfl) (by kernel_rfl) (y0f hm hg hh h0)
end Go.Proofs.Ytdjmpilegommlaa
namespace Go.Proofs.Ytdjmpilegommlaa
open Go Go.Ly Go.RowKit
theorem y11 {m : Mc} {g : Nat → Int} (hm : m.Ok) (hg : ∀ e, B8 (g e)) (hh : m.halt = false) (h0 : g (ix m.pc) = 17) : Goes m g (w16 (m.pc + 3)) := by
  obtain ⟨r0, r1, r2, r3, r4, r5, r7, sp, pc⟩ := id hm
  exact ⟨_, (joinP hm hh h0 (p11_0 m g _ _) (by simp [*]) (by decide) (eP (.inl rfl))).q, rfl⟩
theorem y12 {m : Mc} {g : Nat → Int} (hm : m.Ok) (hg : ∀ e, B8 (g e)) (hh : m.halt = false) (h0 : g (ix m.pc) = 18) : Goes m g (w16 (m.pc + 1)) := by
  obtain ⟨r0, r1, r2, r3, r4, r5, r7, sp, pc⟩ := id hm
  exact ⟨_, (joinP hm hh h0 (p12_0 m g _ _) (by simp [*]) (by decide) (eP (m1s rfl rfl))).q, rfl⟩
theorem y13 {m : Mc} {g : Nat → Int} (hm : m.Ok) (hg : ∀ e, B8 (g e)) (hh : m.halt = false) (h0 : g (ix m.pc) = 19) : Goes m g (w16 (m.pc + 1)) := by
  obtain ⟨r0, r1, r2, r3, r4, r5, r7, sp, pc⟩ := id hm
  exact ⟨_, (joinP hm hh h0 (p13_0 m g _ _) (by simp [*]) (by decide) (eP (.inl rfl))).q, rfl⟩
theorem y14 {m : Mc} {g : Nat → Int} (hm : m.Ok) (hg : ∀ e, B8 (g e)) (hh : m.halt = false) (h0 : g (ix m.pc) = 20) : Goes m g (w16 (m.pc + 1)) := by
  obtain ⟨r0, r1, r2, r3, r4, r5, r7, sp, pc⟩ := id hm
  exact ⟨_, (joinP hm hh h0 (p14_0 m g _ _) (by simp [*]) (by decide) (eP (.inl rfl))).q, rfl⟩
theorem y15 {m : Mc} {g : Nat → Int} (hm : m.Ok) (hg : ∀ e, B8 (g e)) (hh : m.halt = false) (h0 : g (ix m.pc) = 21) : Goes m g (w16 (m.pc + 1)) := by
  obtain ⟨r0, r1, r2, r3, r4, r5, r7, sp, pc⟩ := id hm
  exact ⟨_, (joinP hm hh h0 (p15_0 m g _ _) (by simp [*]) (by decide) (eP (.inl rfl))).q, rfl⟩
theorem y16 {m : Mc} {g : Nat → Int} (hm : m.Ok) (hg : ∀ e, B8 (g e)) (hh : m.halt = false) (h0 : g (ix m.pc) = 22) : Goes m g (w16 (m.pc + 2)) := by
  obtain ⟨r0, r1, r2, r3, r4, r5, r7, sp, pc⟩ := id hm
  exact ⟨_, (joinP hm hh h0 (p16_0 m g _ _) (by simp [*]) (by decide) (eP (.inl rfl))).q, rfl⟩
theorem y17 {m : Mc} {g : Nat → Int} (hm : m.Ok) (hg : ∀ e, B8 (g e)) (hh : m.halt = false) (h0 : g (ix m.pc) = 23) : Goes m g (w16 (m.pc + 1)) := by
  obtain ⟨r0, r1, r2, r3, r4, r5, r7, sp, pc⟩ := id hm
  exact ⟨_, (joinP hm hh h0 (p17_0 m g _ _) (by simp [*]) (by decide) (eP (.inl rfl))).q, rfl⟩
theorem y19 {m : Mc} {g : Nat → Int} (hm : m.Ok) (hg : ∀ e, B8 (g e)) (hh : m.halt = false) (h0 : g (ix m.pc) = 25) : Goes m g (w16 (m.pc + 1)) := by
  obtain ⟨r0, r1, r2, r3, r4, r5, r7, sp, pc⟩ := id hm
  exact ⟨_, (joinP hm hh h0 (p19_0 m g _ _) (by simp [*]; unfold B8 B16 at *; omega) (by decide) (eP (.inl rfl))).q, rfl⟩
theorem y1a {m : Mc} {g : Nat → Int} (hm : m.Ok) (hg : ∀ e, B8 (g e)) (hh : m.halt = false) (h0 : g (ix m.pc) = 26) : Goes m g (w16 (m.pc + 1)) := by
  obtain ⟨r0, r1, r2, r3, r4, r5, r7, sp, pc⟩ := id hm
  exact ⟨_, (joinP hm hh h0 (p1a_0 m g _ _) (by simp [*]) (by decide) (eP (.inl rfl))).q, rfl⟩
theorem y1b {m : Mc} {g : Nat → Int} (hm : m.Ok) (hg : ∀ e, B8 (g e)) (hh : m.halt = false) (h0 : g (ix m.pc) = 27) : Goes m g (w16 (m.pc + 1)) := by
  obtain ⟨r0, r1, r2, r3, r4, r5, r7, sp, pc⟩ := id hm
  exact ⟨_, (joinP hm hh h0 (p1b_0 m g _ _) (by simp [*]) (by decide) (eP (.inl rfl))).q, rfl⟩
theorem y1c {m : Mc} {g : Nat → Int} (hm : m.Ok) (hg : ∀ e, B8 (g e)) (hh : m.halt = false) (h0 : g (ix m.pc) = 28) : Goes m g (w16 (m.pc + 1)) := by
  obtain ⟨r0, r1, r2, r3, r4, r5, r7, sp, pc⟩ := id hm
  exact ⟨_, (joinP hm hh h0 (p1c_0 m g _ _) (by simp [*]) (by decide) (eP (.inl rfl))).q, rfl⟩
theorem y1d {m : Mc} {g : Nat → Int} (hm : m.Ok) (hg : ∀ e, B8 (g e)) (hh : m.halt = false) (h0 : g (ix m.pc) = 29) : Goes m g (w16 (m.pc + 1)) := by
  obtain ⟨r0, r1, r2, r3, r4, r5, r7, sp, pc⟩ := id hm
  exact ⟨_, (joinP hm hh h0 (p1d_0 m g _ _) (by simp [*]) (by decide) (eP (.inl rfl))).q, rfl⟩
theorem y1e {m : Mc} {g : Nat → Int} (hm : m.Ok) (hg : ∀ e, B8 (g e)) (hh : m.halt = false) (h0 : g (ix m.pc) = 30) : Goes m g (w16 (m.pc + 2)) := by
  obtain ⟨r0, r1, r2, r3, r4, r5, r7, sp, pc⟩ := id hm
  exact ⟨_, (joinP hm hh h0 (p1e_0 m g _ _) (by simp [*]) (by decide) (eP (.inl rfl))).q, rfl⟩
theorem y1f {m : Mc} {g : Nat → Int} (hm : m.Ok) (hg : ∀ e, B8 (g e)) (hh : m.halt = false) (h0 : g (ix m.pc) = 31) : Goes m g (w16 (m.pc + 1)) := by
  obtain ⟨r0, r1, r2, r3, r4, r5, r7, sp, pc⟩ := id hm
  exact ⟨_, (joinP hm hh h0 (p1f_0 m g _ _) (by simp [*]) (by decide) (eP (.inl rfl))).q, rfl⟩
theorem way1 {m : Mc} {g : Nat → Int} (hm : m.Ok) (hg : ∀ e, B8 (g e)) (hh : m.halt = false) {op : Int} (h0 : g (ix m.pc) = op) (h1 : 16 ≤ op) (h2 : op < 32) : WayA op m g := by
  have h : op = 16 ∨ op = 17 ∨ op = 18 ∨ op = 19 ∨ op = 20 ∨ op = 21 ∨ op = 22 ∨ op = 23 ∨ op = 24 ∨ op = 25 ∨ op = 26 ∨ op = 27 ∨ op = 28 ∨ op = 29 ∨ op = 30 ∨ op = 31 := by omega
  rcases h with rfl | rfl | rfl | rfl | rfl | rfl | rfl | rfl | rfl | rfl | rfl | rfl | rfl | rfl | rfl | rfl
  · exact wayA0 (by kernel_rfl)
  · exact wayA1 (n := 3) (by kernel_rfl) (by kernel_rfl) (y11 hm hg hh h0)
  · exact wayA1 (n := 1) (by kernel_rfl) (by kernel_rfl) (y12 hm hg hh h0)
  · exact wayA1 (n := 1) (by kernel_rfl) (by kernel_rfl) (y13 hm hg hh h0)
  · exact wayA1 (n := 1) (by kernel_rfl) (by kernel_rfl) (y14 hm hg hh h0)
  · exact wayA1 (n := 1) (by kernel_rfl) (by kernel_rfl) (y15 hm hg hh h0)
  · exact wayA1 (n := 2) (by kernel_rfl) (by kernel_rfl) (y16 hm hg hh h0)
  · exact wayA1 (n := 1) (by kernel_rfl) (by kernel_rfl) (y17 hm hg hh h0)
  · exact wayA0 (by kernel_rfl)
  · exact wayA1 (n := 1) (by kernel_rfl) (by kernel_rfl) (y19 hm hg hh h0)
  · exact wayA1 (n := 1) (by kernel_rfl) (by kernel_rfl) (y1a hm hg hh h0)
  · exact wayA1 (n := 1) (by kernel_rfl) (by kernel_rfl) (y1b hm hg hh h0)
  · exact wayA1 (n := 1) (by kernel_rfl) (by kernel_rfl) (y1c hm hg hh h0)
  · exact wayA1 (n := 1) (by kernel_rfl) (by kernel_rfl) (y1d hm hg hh h0)
  · exact wayA1 (n := 2) (by kernel_rfl) (by kernel_rfl) (y1e hm hg hh h0)
  · exact wayA1 (n := 1) (by kernel_rfl) (by kernel_rfl) (y1f hm hg hh h0)
end Go.Proofs.Ytdjmpilegommlaa
namespace Go.Proofs.Ytdjmpilegommlaa
open Go Go.Ly Go.RowKit
theorem y21 {m : Mc} {g : Nat → Int} (hm : m.Ok) (hg : ∀ e, B8 (g e)) (hh : m.halt = false) (h0 : g (ix m.pc) = 33) : Goes m g (w16 (m.pc + 3)) := by
  obtain ⟨r0, r1, r2, r3, r4, r5, r7, sp, pc⟩ := id hm
  exact ⟨_, (joinP hm hh h0 (p21_0 m g _ _) (by simp [*]) (by decide) (eP (.inl rfl))).q, rfl⟩
theorem y22 {m : Mc} {g : Nat → Int} (hm : m.Ok) (hg : ∀ e, B8 (g e)) (hh : m.halt = false) (h0 : g (ix m.pc) = 34) : Goes m g (w16 (m.pc + 3)) := by
  obtain ⟨r0, r1, r2, r3, r4, r5, r7, sp, pc⟩ := id hm
  exact ⟨_, (joinP hm hh h0 (p22_0 m g _ _) (by simp [*]) (by decide) (eP (m2s rfl rfl rfl rfl))).q, rfl⟩
theorem y23 {m : Mc} {g : Nat → Int} (hm : m.Ok) (hg : ∀ e, B8 (g e)) (hh : m.halt = false) (h0 : g (ix m.pc) = 35) : Goes m g (w16 (m.pc + 1)) := by
  obtain ⟨r0, r1, r2, r3, r4, r5, r7, sp, pc⟩ := id hm
  exact ⟨_, (joinP hm hh h0 (p23_0 m g _ _) (by simp [*]) (by decide) (eP (.inl rfl))).q, rfl⟩
theorem y24 {m : Mc} {g : Nat → Int} (hm : m.Ok) (hg : ∀ e, B8 (g e)) (hh : m.halt = false) (h0 : g (ix m.pc) = 36) : Goes m g (w16 (m.pc + 1)) := by
  obtain ⟨r0, r1, r2, r3, r4, r5, r7, sp, pc⟩ := id hm
  exact ⟨_, (joinP hm hh h0 (p24_0 m g _ _) (by simp [*]) (by decide) (eP (.inl rfl))).q, rfl⟩
theorem y25 {m : Mc} {g : Nat → Int} (hm : m.Ok) (hg : ∀ e, B8 (g e)) (hh : m.halt = false) (h0 : g (ix m.pc) = 37) : Goes m g (w16 (m.pc + 1)) := by
  obtain ⟨r0, r1, r2, r3, r4, r5, r7, sp, pc⟩ := id hm
  exact ⟨_, (joinP hm hh h0 (p25_0 m g _ _) (by simp [*]) (by decide) (eP (.inl rfl))).q, rfl⟩
theorem y26 {m : Mc} {g : Nat → Int} (hm : m.Ok) (hg : ∀ e, B8 (g e)) (hh : m.halt = false) (h0 : g (ix m.pc) = 38) : Goes m g (w16 (m.pc + 2)) := by
  obtain ⟨r0, r1, r2, r3, r4, r5, r7, sp, pc⟩ := id hm
  exact ⟨_, (joinP hm hh h0 (p26_0 m g _ _) (by simp [*]) (by decide) (eP (.inl rfl))).q, rfl⟩
theorem y27 {m : Mc} {g : Nat → Int} (hm : m.Ok) (hg : ∀ e, B8 (g e)) (hh : m.halt = false) (h0 : g (ix m.pc) = 39) : Goes m g (w16 (m.pc + 1)) := by
  obtain ⟨r0, r1, r2, r3, r4, r5, r7, sp, pc⟩ := id hm
  exact ⟨_, (joinP hm hh h0 (p27_0 m g _ _) (by simp [*]) (by decide) (eP (.inl rfl))).q, rfl⟩
theorem y29 {m : Mc} {g : Nat → Int} (hm : m.Ok) (hg : ∀ e, B8 (g e)) (hh : m.halt = false) (h0 : g (ix m.pc) = 41) : Goes m g (w16 (m.pc + 1)) := by
  obtain ⟨r0, r1, r2, r3, r4, r5, r7, sp, pc⟩ := id hm
  exact ⟨_, (joinP hm hh h0 (p29_0 m g _ _) (by simp [*]; unfold B8 B16 at *; omega) (by decide) (eP (.inl rfl))).q, rfl⟩
theorem y2a {m : Mc} {g : Nat → Int} (hm : m.Ok) (hg : ∀ e, B8 (g e)) (hh : m.halt = false) (h0 : g (ix m.pc) = 42) : Goes m g (w16 (m.pc + 3)) := by
  obtain ⟨r0, r1, r2, r3, r4, r5, r7, sp, pc⟩ := id hm
  exact ⟨_, (joinP hm hh h0 (p2a_0 m g _ _) (by simp [*]) (by decide) (eP (.inl rfl))).q, rfl⟩
theorem y2b {m : Mc} {g : Nat → Int} (hm : m.Ok) (hg : ∀ e, B8 (g e)) (hh : m.halt = false) (h0 : g (ix m.pc) = 43) : Goes m g (w16 (m.pc + 1)) := by
  obtain ⟨r0, r1, r2, r3, r4, r5, r7, sp, pc⟩ := id hm
  exact ⟨_, (joinP hm hh h0 (p2b_0 m g _ _) (by simp [*]) (by decide) (eP (.inl rfl))).q, rfl⟩
theorem y2c {m : Mc} {g : Nat → Int} (hm : m.Ok) (hg : ∀ e, B8 (g e)) (hh : m.halt = false) (h0 : g (ix m.pc) = 44) : Goes m g (w16 (m.pc + 1)) := by
  obtain ⟨r0, r1, r2, r3, r4, r5, r7, sp, pc⟩ := id hm
  exact ⟨_, (joinP hm hh h0 (p2c_0 m g _ _) (by simp [*]) (by decide) (eP (.inl rfl))).q, rfl⟩
theorem y2d {m : Mc} {g : Nat → Int} (hm : m.Ok) (hg : ∀ e, B8 (g e)) (hh : m.halt = false) (h0 : g (ix m.pc) = 45) : Goes m g (w16 (m.pc + 1)) := by
  obtain ⟨r0, r1, r2, r3, r4, r5, r7, sp, pc⟩ := id hm
  exact ⟨_, (joinP hm hh h0 (p2d_0 m g _ _) (by simp [*]) (by decide) (eP (.inl rfl))).q, rfl⟩
theorem y2e {m : Mc} {g : Nat → Int} (hm : m.Ok) (hg : ∀ e, B8 (g e)) (hh : m.halt = false) (h0 : g (ix m.pc) = 46) : Goes m g (w16 (m.pc + 2)) := by
  obtain ⟨r0, r1, r2, r3, r4, r5, r7, sp, pc⟩ := id hm
  exact ⟨_, (joinP hm hh h0 (p2e_0 m g _ _) (by simp [*]) (by decide) (eP (.inl rfl))).q, rfl⟩
theorem y2f {m : Mc} {g : Nat → Int} (hm : m.Ok) (hg : ∀ e, B8 (g e)) (hh : m.halt = false) (h0 : g (ix m.pc) = 47) : Goes m g (w16 (m.pc + 1)) := by
  obtain ⟨r0, r1, r2, r3, r4, r5, r7, sp, pc⟩ := id hm
  exact ⟨_, (joinP hm hh h0 (p2f_0 m g _ _) (by simp [*]) (by decide) (eP (.inl rfl))).q, rfl⟩
theorem way2 {m : Mc} {g : Nat → Int} (hm : m.Ok) (hg : ∀ e, B8 (g e)) (hh : m.halt = false) {op : Int} (h0 : g (ix m.pc) = op) (h1 : 32 ≤ op) (h2 : op < 48) : WayA op m g := by
  have h : op = 32 ∨ op = 33 ∨ op = 34 ∨ op = 35 ∨ op = 36 ∨ op = 37 ∨ op = 38 ∨ op = 39 ∨ op = 40 ∨ op = 41 ∨ op = 42 ∨ op = 43 ∨ op = 44 ∨ op = 45 ∨ op = 46 ∨ op = 47 := by omega
  rcases h with rfl | rfl | rfl | rfl | rfl | rfl | rfl | rfl | rfl | rfl | rfl | rfl | rfl | rfl | rfl | rfl
  · exact wayA0 (by kernel_rfl)
  · exact wayA1 (n := 3) (by kernel_rfl) (by kernel_rfl) (y21 hm hg hh h0)
  · exact wayA1 (n := 3) (by kernel_rfl) (by kernel_rfl) (y22 hm hg hh h0)
  · exact wayA1 (n := 1) (by kernel_rfl) (by kernel_rfl) (y23 hm hg hh h0)
  · exact wayA1 (n := 1) (by kernel_rfl) (by kernel_rfl) (y24 hm hg hh h0)
  · exact wayA1 (n := 1) (by kernel_rfl) (by kernel_rfl) (y25 hm hg hh h0)
  · exact wayA1 (n := 2) (by kernel_rfl) (by kernel_rfl) (y26 hm hg hh h0)
  · exact wayA1 (n := 1) (by kernel_rfl) (by kernel_rfl) (y27 hm hg hh h0)
  · exact wayA0 (by kernel_rfl)
  · exact wayA1 (n := 1) (by kernel_rfl) (by kernel_rfl) (y29 hm hg hh h0)
  · exact wayA1 (n := 3) (by kernel_rfl) (by kernel_rfl) (y2a hm hg hh h0)
  · exact wayA1 (n := 1) (by kernel_rfl) (by kernel_rfl) (y2b hm hg hh h0)
  · exact wayA1 (n := 1) (by kernel_rfl) (by kernel_rfl) (y2c hm hg hh h0)
  · exact wayA1 (n := 1) (by kernel_rfl) (by kernel_rfl) (y2d hm hg hh h0)
  · exact wayA1 (n := 2) (by kernel_rfl) (by kernel_rfl) (y2e hm hg hh h0)
  · exact wayA1 (n := 1) (by kernel_rfl) (by kernel_rfl) (y2f hm hg hh h0)
end Go.Proofs.Ytdjmpilegommlaa
namespace Go.Proofs.Ytdjmpilegommlaa
open Go Go.Ly Go.RowKit
theorem y31 {m : Mc} {g : Nat → Int} (hm : m.Ok) (hg : ∀ e, B8 (g e)) (hh : m.halt = false) (h0 : g (ix m.pc) = 49) : Goes m g (w16 (m.pc + 3)) := by
  obtain ⟨r0, r1, r2, r3, r4, r5, r7, sp, pc⟩ := id hm
  exact ⟨_, (joinP hm hh h0 (p31_0 m g _ _) (by simp [*]) (by decide) (eP (.inl rfl))).q, rfl⟩
theorem y32 {m : Mc} {g : Nat → Int} (hm : m.Ok) (hg : ∀ e, B8 (g e)) (hh : m.halt = false) (h0 : g (ix m.pc) = 50) : Goes m g (w16 (m.pc + 3)) := by
  obtain ⟨r0, r1, r2, r3, r4, r5, r7, sp, pc⟩ := id hm
  exact ⟨_, (joinP hm hh h0 (p32_0 m g _ _) (by simp [*]) (by decide) (eP (m1s rfl rfl))).q, rfl⟩
theorem y33 {m : Mc} {g : Nat → Int} (hm : m.Ok) (hg : ∀ e, B8 (g e)) (hh : m.halt = false) (h0 : g (ix m.pc) = 51) : Goes m g (w16 (m.pc + 1)) := by
  obtain ⟨r0, r1, r2, r3, r4, r5, r7, sp, pc⟩ := id hm
  exact ⟨_, (joinP hm hh h0 (p33_0 m g _ _) (by simp [*]) (by decide) (eP (.inl rfl))).q, rfl⟩
theorem y34 {m : Mc} {g : Nat → Int} (hm : m.Ok) (hg : ∀ e, B8 (g e)) (hh : m.halt = false) (h0 : g (ix m.pc) = 52) : Goes m g (w16 (m.pc + 1)) := by
  obtain ⟨r0, r1, r2, r3, r4, r5, r7, sp, pc⟩ := id hm
  exact ⟨_, (joinP hm hh h0 (p34_0 m g _ _) (by simp [*]) (by decide) (eP (m1s rfl rfl))).q, rfl⟩
theorem y35 {m : Mc} {g : Nat → Int} (hm : m.Ok) (hg : ∀ e, B8 (g e)) (hh : m.halt = false) (h0 : g (ix m.pc) = 53) : Goes m g (w16 (m.pc + 1)) := by
  obtain ⟨r0, r1, r2, r3, r4, r5, r7, sp, pc⟩ := id hm
  exact ⟨_, (joinP hm hh h0 (p35_0 m g _ _) (by simp [*]) (by decide) (eP (m1s rfl rfl))).q, rfl⟩
theorem y36 {m : Mc} {g : Nat → Int} (hm : m.Ok) (hg : ∀ e, B8 (g e)) (hh : m.halt = false) (h0 : g (ix m.pc) = 54) : Goes m g (w16 (m.pc + 2)) := by
  obtain ⟨r0, r1, r2, r3, r4, r5, r7, sp, pc⟩ := id hm
  exact ⟨_, (joinP hm hh h0 (p36_0 m g _ _) (by simp [*]) (by decide) (eP (m1s rfl rfl))).q, rfl⟩
theorem y37 {m : Mc} {g : Nat → Int} (hm : m.Ok) (hg : ∀ e, B8 (g e)) (hh : m.halt = false) (h0 : g (ix m.pc) = 55) : Goes m g (w16 (m.pc + 1)) := by
  obtain ⟨r0, r1, r2, r3, r4, r5, r7, sp, pc⟩ := id hm
  exact ⟨_, (joinP hm hh h0 (p37_0 m g _ _) (by simp [*]) (by decide) (eP (.inl rfl))).q, rfl⟩
theorem y39 {m : Mc} {g : Nat → Int} (hm : m.Ok) (hg : ∀ e, B8 (g e)) (hh : m.halt = false) (h0 : g (ix m.pc) = 57) : Goes m g (w16 (m.pc + 1)) := by
  obtain ⟨r0, r1, r2, r3, r4, r5, r7, sp, pc⟩ := id hm
  exact ⟨_, (joinP hm hh h0 (p39_0 m g _ _) (by simp [*]; unfold B8 B16 at *; omega) (by decide) (eP (.inl rfl))).q, rfl⟩
theorem y3a {m : Mc} {g : Nat → Int} (hm : m.Ok) (hg : ∀ e, B8 (g e)) (hh : m.halt = false) (h0 : g (ix m.pc) = 58) : Goes m g (w16 (m.pc + 3)) := by
  obtain ⟨r0, r1, r2, r3, r4, r5, r7, sp, pc⟩ := id hm
  exact ⟨_, (joinP hm hh h0 (p3a_0 m g _ _) (by simp [*]) (by decide) (eP (.inl rfl))).q, rfl⟩
theorem y3b {m : Mc} {g : Nat → Int} (hm : m.Ok) (hg : ∀ e, B8 (g e)) (hh : m.halt = false) (h0 : g (ix m.pc) = 59) : Goes m g (w16 (m.pc + 1)) := by
  obtain ⟨r0, r1, r2, r3, r4, r5, r7, sp, pc⟩ := id hm
  exact ⟨_, (joinP hm hh h0 (p3b_0 m g _ _) (by simp [*]) (by decide) (eP (.inl rfl))).q, rfl⟩
theorem y3c {m : Mc} {g : Nat → Int} (hm : m.Ok) (hg : ∀ e, B8 (g e)) (hh : m.halt = false) (h0 : g (ix m.pc) = 60) : Goes m g (w16 (m.pc + 1)) := by
  obtain ⟨r0, r1, r2, r3, r4, r5, r7, sp, pc⟩ := id hm
  exact ⟨_, (joinP hm hh h0 (p3c_0 m g _ _) (by simp [*]) (by decide) (eP (.inl rfl))).q, rfl⟩
theorem y3d {m : Mc} {g : Nat → Int} (hm : m.Ok) (hg : ∀ e, B8 (g e)) (hh : m.halt = false) (h0 : g (ix m.pc) = 61) : Goes m g (w16 (m.pc + 1)) := by
  obtain ⟨r0, r1, r2, r3, r4, r5, r7, sp, pc⟩ := id hm
  exact ⟨_, (joinP hm hh h0 (p3d_0 m g _ _) (by simp [*]) (by decide) (eP (.inl rfl))).q, rfl⟩
theorem y3e {m : Mc} {g : Nat → Int} (hm : m.Ok) (hg : ∀ e, B8 (g e)) (hh : m.halt = false) (h0 : g (ix m.pc) = 62) : Goes m g (w16 (m.pc + 2)) := by
  obtain ⟨r0, r1, r2, r3, r4, r5, r7, sp, pc⟩ := id hm
  exact ⟨_, (joinP hm hh h0 (p3e_0 m g _ _) (by simp [*]) (by decide) (eP (.inl rfl))).q, rfl⟩
theorem y3f {m : Mc} {g : Nat → Int} (hm : m.Ok) (hg : ∀ e, B8 (g e)) (hh : m.halt = false) (h0 : g (ix m.pc) = 63) : Goes m g (w16 (m.pc + 1)) := by
  obtain ⟨r0, r1, r2, r3, r4, r5, r7, sp, pc⟩ := id hm
  exact ⟨_, (joinP hm hh h0 (p3f_0 m g _ _) (by simp [*]) (by decide) (eP (.inl rfl))).q, rfl⟩
theorem way3 {m : Mc} {g : Nat → Int} (hm : m.Ok) (hg : ∀ e, B8 (g e)) (hh : m.halt = false) {op : Int} (h0 : g (ix m.pc) = op) (h1 : 48 ≤ op) (h2 : op < 64) : WayA op m g := by
  have h : op = 48 ∨ op = 49 ∨ op = 50 ∨ op = 51 ∨ op = 52 ∨ op = 53 ∨ op = 54 ∨ op = 55 ∨ op = 56 ∨ op = 57 ∨ op = 58 ∨ op = 59 ∨ op = 60 ∨ op = 61 ∨ op = 62 ∨ op = 63 := by omega
  rcases h with rfl | rfl | rfl | rfl | rfl | rfl | rfl | rfl | rfl | rfl | rfl | rfl | rfl | rfl | rfl | rfl
  · exact wayA0 (by kernel_rfl)
  · exact wayA1 (n := 3) (by kernel_rfl) (by kernel_rfl) (y31 hm hg hh h0)
  · exact wayA1 (n := 3) (by kernel_rfl) (by kernel_rfl) (y32 hm hg hh h0)
  · exact wayA1 (n := 1) (by kernel_rfl) (by kernel_rfl) (y33 hm hg hh h0)
  · exact wayA1 (n := 1) (by kernel_rfl) (by kernel_rfl) (y34 hm hg hh h0)
  · exact wayA1 (n := 1) (by kernel_rfl) (by kernel_rfl) (y35 hm hg hh h0)
  · exact wayA1 (n := 2) (by kernel_rfl) (by kernel_rfl) (y36 hm hg hh h0)
  · exact wayA1 (n := 1) (by kernel_rfl) (by kernel_rfl) (y37 hm hg hh h0)
  · exact wayA0 (by kernel_rfl)
  · exact wayA1 (n := 1) (by kernel_rfl) (by kernel_rfl) (y39 hm hg hh h0)
  · exact wayA1 (n := 3) (by kernel_rfl) (by kernel_rfl) (y3a hm hg hh h0)
  · exact wayA1 (n := 1) (by kernel_rfl) (by kernel_rfl) (y3b hm hg hh h0)
  · exact wayA1 (n := 1) (by kernel_rfl) (by kernel_rfl) (y3c hm hg hh h0)
  · exact wayA1 (n := 1) (by kernel_rfl) (by kernel_rfl) (y3d hm hg hh h0)
  · exact wayA1 (n := 2) (by kernel_rfl) (by kernel_rfl) (y3e hm hg hh h0)
  · exact wayA1 (n := 1) (by kernel_rfl) (by kernel_rfl) (y3f hm hg hh h0)
end Go.Proofs.Ytdjmpilegommlaa
namespace Go.Proofs.Ytdjmpilegommlaa
open Go Go.Ly Go.RowKit
theorem y40 {m : Mc} {g : Nat → Int} (hm : m.Ok) (hg : ∀ e, B8 (g e)) (hh : m.halt = false) (h0 : g (ix m.pc) = 64) : Goes m g (w16 (m.pc + 1)) := by
  obtain ⟨r0, r1, r2, r3, r4, r5, r7, sp, pc⟩ := id hm
  exact ⟨_, (joinP hm hh h0 (p40_0 m g _ _) (by simp [*]) (by decide) (eP (.inl rfl))).q, rfl⟩
theorem y41 {m : Mc} {g : Nat → Int} (hm : m.Ok) (hg : ∀ e, B8 (g e)) (hh : m.halt = false) (h0 : g (ix m.pc) = 65) : Goes m g (w16 (m.pc + 1)) := by
  obtain ⟨r0, r1, r2, r3, r4, r5, r7, sp, pc⟩ := id hm
  exact ⟨_, (joinP hm hh h0 (p41_0 m g _ _) (by simp [*]) (by decide) (eP (.inl rfl))).q, rfl⟩
theorem y42 {m : Mc} {g : Nat → Int} (hm : m.Ok) (hg : ∀ e, B8 (g e)) (hh : m.halt = false) (h0 : g (ix m.pc) = 66) : Goes m g (w16 (m.pc + 1)) := by
  obtain ⟨r0, r1, r2, r3, r4, r5, r7, sp, pc⟩ := id hm
  exact ⟨_, (joinP hm hh h0 (p42_0 m g _ _) (by simp [*]) (by decide) (eP (.inl rfl))).q, rfl⟩
theorem y43 {m : Mc} {g : Nat → Int} (hm : m.Ok) (hg : ∀ e, B8 (g e)) (hh : m.halt = false) (h0 : g (ix m.pc) = 67) : Goes m g (w16 (m.pc + 1)) := by
  obtain ⟨r0, r1, r2, r3, r4, r5, r7, sp, pc⟩ := id hm
  exact ⟨_, (joinP hm hh h0 (p43_0 m g _ _) (by simp [*]) (by decide) (eP (.inl rfl))).q, rfl⟩
theorem y44 {m : Mc} {g : Nat → Int} (hm : m.Ok) (hg : ∀ e, B8 (g e)) (hh : m.halt = false) (h0 : g (ix m.pc) = 68) : Goes m g (w16 (m.pc + 1)) := by
  obtain ⟨r0, r1, r2, r3, r4, r5, r7, sp, pc⟩ := id hm
  exact ⟨_, (joinP hm hh h0 (p44_0 m g _ _) (by simp [*]) (by decide) (eP (.inl rfl))).q, rfl⟩
theorem y45 {m : Mc} {g : Nat → Int} (hm : m.Ok) (hg : ∀ e, B8 (g e)) (hh : m.halt = false) (h0 : g (ix m.pc) = 69) : Goes m g (w16 (m.pc + 1)) := by
  obtain ⟨r0, r1, r2, r3, r4, r5, r7, sp, pc⟩ := id hm
  exact ⟨_, (joinP hm hh h0 (p45_0 m g _ _) (by simp [*]) (by decide) (eP (.inl rfl))).q, rfl⟩
theorem y46 {m : Mc} {g : Nat → Int} (hm : m.Ok) (hg : ∀ e, B8 (g e)) (hh : m.halt = false) (h0 : g (ix m.pc) = 70) : Goes m g (w16 (m.pc + 1)) := by
  obtain ⟨r0, r1, r2, r3, r4, r5, r7, sp, pc⟩ := id hm
  exact ⟨_, (joinP hm hh h0 (p46_0 m g _ _) (by simp [*]) (by decide) (eP (.inl rfl))).q, rfl⟩
theorem y47 {m : Mc} {g : Nat → Int} (hm : m.Ok) (hg : ∀ e, B8 (g e)) (hh : m.halt = false) (h0 : g (ix m.pc) = 71) : Goes m g (w16 (m.pc + 1)) := by
  obtain ⟨r0, r1, r2, r3, r4, r5, r7, sp, pc⟩ := id hm
  exact ⟨_, (joinP hm hh h0 (p47_0 m g _ _) (by simp [*]) (by decide) (eP (.inl rfl))).q, rfl⟩
theorem y48 {m : Mc} {g : Nat → Int} (hm : m.Ok) (hg : ∀ e, B8 (g e)) (hh : m.halt = false) (h0 : g (ix m.pc) = 72) : Goes m g (w16 (m.pc + 1)) := by
  obtain ⟨r0, r1, r2, r3, r4, r5, r7, sp, pc⟩ := id hm
  exact ⟨_, (joinP hm hh h0 (p48_0 m g _ _) (by simp [*]) (by decide) (eP (.inl rfl))).q, rfl⟩
theorem y49 {m : Mc} {g : Nat → Int} (hm : m.Ok) (hg : ∀ e, B8 (g e)) (hh : m.halt = false) (h0 : g (ix m.pc) = 73) : Goes m g (w16 (m.pc + 1)) := by
  obtain ⟨r0, r1, r2, r3, r4, r5, r7, sp, pc⟩ := id hm
  exact ⟨_, (joinP hm hh h0 (p49_0 m g _ _) (by simp [*]) (by decide) (eP (.inl rfl))).q, rfl⟩
theorem y4a {m : Mc} {g : Nat → Int} (hm : m.Ok) (hg : ∀ e, B8 (g e)) (hh : m.halt = false) (h0 : g (ix m.pc) = 74) : Goes m g (w16 (m.pc + 1)) := by
  obtain ⟨r0, r1, r2, r3, r4, r5, r7, sp, pc⟩ := id hm
  exact ⟨_, (joinP hm hh h0 (p4a_0 m g _ _) (by simp [*]) (by decide) (eP (.inl rfl))).q, rfl⟩
theorem y4b {m : Mc} {g : Nat → Int} (hm : m.Ok) (hg : ∀ e, B8 (g e)) (hh : m.halt = false) (h0 : g (ix m.pc) = 75) : Goes m g (w16 (m.pc + 1)) := by
  obtain ⟨r0, r1, r2, r3, r4, r5, r7, sp, pc⟩ := id hm
  exact ⟨_, (joinP hm hh h0 (p4b_0 m g _ _) (by simp [*]) (by decide) (eP (.inl rfl))).q, rfl⟩
theorem y4c {m : Mc} {g : Nat → Int} (hm : m.Ok) (hg : ∀ e, B8 (g e)) (hh : m.halt = false) (h0 : g (ix m.pc) = 76) : Goes m g (w16 (m.pc + 1)) := by
  obtain ⟨r0, r1, r2, r3, r4, r5, r7, sp, pc⟩ := id hm
  exact ⟨_, (joinP hm hh h0 (p4c_0 m g _ _) (by simp [*]) (by decide) (eP (.inl rfl))).q, rfl⟩
theorem y4d {m : Mc} {g : Nat → Int} (hm : m.Ok) (hg : ∀ e, B8 (g e)) (hh : m.halt = false) (h0 : g (ix m.pc) = 77) : Goes m g (w16 (m.pc + 1)) := by
  obtain ⟨r0, r1, r2, r3, r4, r5, r7, sp, pc⟩ := id hm
  exact ⟨_, (joinP hm hh h0 (p4d_0 m g _ _) (by simp [*]) (by decide) (eP (.inl rfl))).q, rfl⟩
theorem y4e {m : Mc} {g : Nat → Int} (hm : m.Ok) (hg : ∀ e, B8 (g e)) (hh : m.halt = false) (h0 : g (ix m.pc) = 78) : Goes m g (w16 (m.pc + 1)) := by
  obtain ⟨r0, r1, r2, r3, r4, r5, r7, sp, pc⟩ := id hm
  exact ⟨_, (joinP hm hh h0 (p4e_0 m g _ _) (by simp [*]) (by decide) (eP (.inl rfl))).q, rfl⟩
theorem y4f {m : Mc} {g : Nat → Int} (hm : m.Ok) (hg : ∀ e, B8 (g e)) (hh : m.halt = false) (h0 : g (ix m.pc) = 79) : Goes m g (w16 (m.pc + 1)) := by
  obtain ⟨r0, r1, r2, r3, r4, r5, r7, sp, pc⟩ := id hm
  exact ⟨_, (joinP hm hh h0 (p4f_0 m g _ _) (by simp [*]) (by decide) (eP (.inl rfl))).q, rfl⟩
theorem way4 {m : Mc} {g : Nat → Int} (hm : m.Ok) (hg : ∀ e, B8 (g e)) (hh : m.halt = false) {op : Int} (h0 : g (ix m.pc) = op) (h1 : 64 ≤ op) (h2 : op < 80) : WayA op m g := by
  have h : op = 64 ∨ op = 65 ∨ op = 66 ∨ op = 67 ∨ op = 68 ∨ op = 69 ∨ op = 70 ∨ op = 71 ∨ op = 72 ∨ op = 73 ∨ op = 74 ∨ op = 75 ∨ op = 76 ∨ op = 77 ∨ op = 78 ∨ op = 79 := by omega
  rcases h with rfl | rfl | rfl | rfl | rfl | rfl | rfl | rfl | rfl | rfl | rfl | rfl | rfl | rfl | rfl | rfl
  · exact wayA1 (n := 1) (by kernel_rfl) (by kernel_rfl) (y40 hm hg hh h0)
  · exact wayA1 (n := 1) (by kernel_rfl) (by kernel_rfl) (y41 hm hg hh h0)
  · exact wayA1 (n := 1) (by kernel_rfl) (by kernel_rfl) (y42 hm hg hh h0)
  · exact wayA1 (n := 1) (by kernel_rfl) (by kernel_rfl) (y43 hm hg hh h0)
  · exact wayA1 (n := 1) (by kernel_rfl) (by kernel_rfl) (y44 hm hg hh h0)
  · exact wayA1 (n := 1) (by kernel_rfl) (by kernel_rfl) (y45 hm hg hh h0)
  · exact wayA1 (n := 1) (by kernel_rfl) (by kernel_rfl) (y46 hm hg hh h0)
  · exact wayA1 (n := 1) (by kernel_rfl) (by kernel_rfl) (y47 hm hg hh h0)
  · exact wayA1 (n := 1) (by kernel_rfl) (by kernel_rfl) (y48 hm hg hh h0)
  · exact wayA1 (n := 1) (by kernel_rfl) (by kernel_rfl) (y49 hm hg hh h0)
  · exact wayA1 (n := 1) (by kernel_rfl) (by kernel_rfl) (y4a hm hg hh h0)
  · exact wayA1 (n := 1) (by kernel_rfl) (by kernel_rfl) (y4b hm hg hh h0)
  · exact wayA1 (n := 1) (by kernel_rfl) (by kernel_rfl) (y4c hm hg hh h0)
  · exact wayA1 (n := 1) (by kernel_rfl) (by kernel_rfl) (y4d hm hg hh h0)
  · exact wayA1 (n := 1) (by kernel_rfl) (by kernel_rfl) (y4e hm hg hh h0)
  · exact wayA1 (n := 1) (by kernel_rfl) (by kernel_rfl) (y4f hm hg hh h0)
end Go.Proofs.Ytdjmpilegommlaa
namespace Go.Proofs.Ytdjmpilegommlaa
open Go Go.Ly Go.RowKit
theorem y50 {m : Mc} {g : Nat → Int} (hm : m.Ok) (hg : ∀ e, B8 (g e)) (hh : m.halt = false) (h0 : g (ix m.pc) = 80) : Goes m g (w16 (m.pc + 1)) := by
  obtain ⟨r0, r1, r2, r3, r4, r5, r7, sp, pc⟩ := id hm
  exact ⟨_, (joinP hm hh h0 (p50_0 m g _ _) (by simp [*]) (by decide) (eP (.inl rfl))).q, rfl⟩
theorem y51 {m : Mc} {g : Nat → Int} (hm : m.Ok) (hg : ∀ e, B8 (g e)) (hh : m.halt = false) (h0 : g (ix m.pc) = 81) : Goes m g (w16 (m.pc + 1)) := by
  obtain ⟨r0, r1, r2, r3, r4, r5, r7, sp, pc⟩ := id hm
  exact ⟨_, (joinP hm hh h0 (p51_0 m g _ _) (by simp [*]) (by decide) (eP (.inl rfl))).q, rfl⟩
theorem y52 {m : Mc} {g : Nat → Int} (hm : m.Ok) (hg : ∀ e, B8 (g e)) (hh : m.halt = false) (h0 : g (ix m.pc) = 82) : Goes m g (w16 (m.pc + 1)) := by
  obtain ⟨r0, r1, r2, r3, r4, r5, r7, sp, pc⟩ := id hm
  exact ⟨_, (joinP hm hh h0 (p52_0 m g _ _) (by simp [*]) (by decide) (eP (.inl rfl))).q, rfl⟩
theorem y53 {m : Mc} {g : Nat → Int} (hm : m.Ok) (hg : ∀ e, B8 (g e)) (hh : m.halt = false) (h0 : g (ix m.pc) = 83) : Goes m g (w16 (m.pc + 1)) := by
  obtain ⟨r0, r1, r2, r3, r4, r5, r7, sp, pc⟩ := id hm
  exact ⟨_, (joinP hm hh h0 (p53_0 m g _ _) (by simp [*]) (by decide) (eP (.inl rfl))).q, rfl⟩
theorem y54 {m : Mc} {g : Nat → Int} (hm : m.Ok) (hg : ∀ e, B8 (g e)) (hh : m.halt = false) (h0 : g (ix m.pc) = 84) : Goes m g (w16 (m.pc + 1)) := by
  obtain ⟨r0, r1, r2, r3, r4, r5, r7, sp, pc⟩ := id hm
  exact ⟨_, (joinP hm hh h0 (p54_0 m g _ _) (by simp [*]) (by decide) (eP (.inl rfl))).q, rfl⟩
theorem y55 {m : Mc} {g : Nat → Int} (hm : m.Ok) (hg : ∀ e, B8 (g e)) (hh : m.halt = false) (h0 : g (ix m.pc) = 85) : Goes m g (w16 (m.pc + 1)) := by
  obtain ⟨r0, r1, r2, r3, r4, r5, r7, sp, pc⟩ := id hm
  exact ⟨_, (joinP hm hh h0 (p55_0 m g _ _) (by simp [*]) (by decide) (eP (.inl rfl))).q, rfl⟩
theorem y56 {m : Mc} {g : Nat → Int} (hm : m.Ok) (hg : ∀ e, B8 (g e)) (hh : m.halt = false) (h0 : g (ix m.pc) = 86) : Goes m g (w16 (m.pc + 1)) := by
  obtain ⟨r0, r1, r2, r3, r4, r5, r7, sp, pc⟩ := id hm
  exact ⟨_, (joinP hm hh h0 (p56_0 m g _ _) (by simp [*]) (by decide) (eP (.inl rfl))).q, rfl⟩
theorem y57 {m : Mc} {g : Nat → Int} (hm : m.Ok) (hg : ∀ e, B8 (g e)) (hh : m.halt = false) (h0 : g (ix m.pc) = 87) : Goes m g (w16 (m.pc + 1)) := by
  obtain ⟨r0, r1, r2, r3, r4, r5, r7, sp, pc⟩ := id hm
  exact ⟨_, (joinP hm hh h0 (p57_0 m g _ _) (by simp [*]) (by decide) (eP (.inl rfl))).q, rfl⟩
theorem y58 {m : Mc} {g : Nat → Int} (hm : m.Ok) (hg : ∀ e, B8 (g e)) (hh : m.halt = false) (h0 : g (ix m.pc) = 88) : Goes m g (w16 (m.pc + 1)) := by
  obtain ⟨r0, r1, r2, r3, r4, r5, r7, sp, pc⟩ := id hm
  exact ⟨_, (joinP hm hh h0 (p58_0 m g _ _) (by simp [*]) (by decide) (eP (.inl rfl))).q, rfl⟩
theorem y59 {m : Mc} {g : Nat → Int} (hm : m.Ok) (hg : ∀ e, B8 (g e)) (hh : m.halt = false) (h0 : g (ix m.pc) = 89) : Goes m g (w16 (m.pc + 1)) := by
  obtain ⟨r0, r1, r2, r3, r4, r5, r7, sp, pc⟩ := id hm
  exact ⟨_, (joinP hm hh h0 (p59_0 m g _ _) (by simp [*]) (by decide) (eP (.inl rfl))).q, rfl⟩
theorem y5a {m : Mc} {g : Nat → Int} (hm : m.Ok) (hg : ∀ e, B8 (g e)) (hh : m.halt = false) (h0 : g (ix m.pc) = 90) : Goes m g (w16 (m.pc + 1)) := by
  obtain ⟨r0, r1, r2, r3, r4, r5, r7, sp, pc⟩ := id hm
  exact ⟨_, (joinP hm hh h0 (p5a_0 m g _ _) (by simp [*]) (by decide) (eP (.inl rfl))).q, rfl⟩
theorem y5b {m : Mc} {g : Nat → Int} (hm : m.Ok) (hg : ∀ e, B8 (g e)) (hh : m.halt = false) (h0 : g (ix m.pc) = 91) : Goes m g (w16 (m.pc + 1)) := by
  obtain ⟨r0, r1, r2, r3, r4, r5, r7, sp, pc⟩ := id hm
  exact ⟨_, (joinP hm hh h0 (p5b_0 m g _ _) (by simp [*]) (by decide) (eP (.inl rfl))).q, rfl⟩
theorem y5c {m : Mc} {g : Nat → Int} (hm : m.Ok) (hg : ∀ e, B8 (g e)) (hh : m.halt = false) (h0 : g (ix m.pc) = 92) : Goes m g (w16 (m.pc + 1)) := by
  obtain ⟨r0, r1, r2, r3, r4, r5, r7, sp, pc⟩ := id hm
  exact ⟨_, (joinP hm hh h0 (p5c_0 m g _ _) (by simp [*]) (by decide) (eP (.inl rfl))).q, rfl⟩
theorem y5d {m : Mc} {g : Nat → Int} (hm : m.Ok) (hg : ∀ e, B8 (g e)) (hh : m.halt = false) (h0 : g (ix m.pc) = 93) : Goes m g (w16 (m.pc + 1)) := by
  obtain ⟨r0, r1, r2, r3, r4, r5, r7, sp, pc⟩ := id hm
  exact ⟨_, (joinP hm hh h0 (p5d_0 m g _ _) (by simp [*]) (by decide) (eP (.inl rfl))).q, rfl⟩
theorem y5e {m : Mc} {g : Nat → Int} (hm : m.Ok) (hg : ∀ e, B8 (g e)) (hh : m.halt = false) (h0 : g (ix m.pc) = 94) : Goes m g (w16 (m.pc + 1)) := by
  obtain ⟨r0, r1, r2, r3, r4, r5, r7, sp, pc⟩ := id hm
  exact ⟨_, (joinP hm hh h0 (p5e_0 m g _ _) (by simp [*]) (by decide) (eP (.inl rfl))).q, rfl⟩
theorem y5f {m : Mc} {g : Nat → Int} (hm : m.Ok) (hg : ∀ e, B8 (g e)) (hh : m.halt = false) (h0 : g (ix m.pc) = 95) : Goes m g (w16 (m.pc + 1)) := by
  obtain ⟨r0, r1, r2, r3, r4, r5, r7, sp, pc⟩ := id hm
  exact ⟨_, (joinP hm hh h0 (p5f_0 m g _ _) (by simp [*]) (by decide) (eP (.inl rfl))).q, rfl⟩
theorem way5 {m : Mc} {g : Nat → Int} (hm : m.Ok) (hg : ∀ e, B8 (g e)) (hh : m.halt = false) {op : Int} (h0 : g (ix m.pc) = op) (h1 : 80 ≤ op) (h2 : op < 96) : WayA op m g := by
  have h : op = 80 ∨ op = 81 ∨ op = 82 ∨ op = 83 ∨ op = 84 ∨ op = 85 ∨ op = 86 ∨ op = 87 ∨ op = 88 ∨ op = 89 ∨ op = 90 ∨ op = 91 ∨ op = 92 ∨ op = 93 ∨ op = 94 ∨ op = 95 := by omega
  rcases h with rfl | rfl | rfl | rfl | rfl | rfl | rfl | rfl | rfl | rfl | rfl | rfl | rfl | rfl | rfl | rfl
  · exact wayA1 (n := 1) (by kernel_rfl) (by kernel_rfl) (y50 hm hg hh h0)
  · exact wayA1 (n := 1) (by kernel_rfl) (by kernel_rfl) (y51 hm hg hh h0)
  · exact wayA1 (n := 1) (by kernel_rfl) (by kernel_rfl) (y52 hm hg hh h0)
  · exact wayA1 (n := 1) (by kernel_rfl) (by kernel_rfl) (y53 hm hg hh h0)
  · exact wayA1 (n := 1) (by kernel_rfl) (by kernel_rfl) (y54 hm hg hh h0)
  · exact wayA1 (n := 1) (by kernel_rfl) (by kernel_rfl) (y55 hm hg hh h0)
  · exact wayA1 (n := 1) (by kernel_rfl) (by kernel_rfl) (y56 hm hg hh h0)
  · exact wayA1 (n := 1) (by kernel_rfl) (by kernel_rfl) (y57 hm hg hh h0)
  · exact wayA1 (n := 1) (by kernel_rfl) (by kernel_rfl) (y58 hm hg hh h0)
  · exact wayA1 (n := 1) (by kernel_rfl) (by kernel_rfl) (y59 hm hg hh h0)
  · exact wayA1 (n := 1) (by kernel_rfl) (by kernel_rfl) (y5a hm hg hh h0)
  · exact wayA1 (n := 1) (by kernel_rfl) (by kernel_rfl) (y5b hm hg hh h0)
  · exact wayA1 (n := 1) (by kernel_rfl) (by kernel_rfl) (y5c hm hg hh h0)
  · exact wayA1 (n := 1) (by kernel_rfl) (by kernel_rfl) (y5d hm hg hh h0)
  · exact wayA1 (n := 1) (by kernel_rfl) (by kernel_rfl) (y5e hm hg hh h0)
  · exact wayA1 (n := 1) (by kernel_rfl) (by kernel_rfl) (y5f hm hg hh h0)
end Go.Proofs.Ytdjmpilegommlaa
namespace Go.Proofs.Ytdjmpilegommlaa
open Go Go.Ly Go.RowKit
theorem y60 {m : Mc} {g : Nat → Int} (hm : m.Ok) (hg : ∀ e, B8 (g e)) (hh : m.halt = false) (h0 : g (ix m.pc) = 96) : Goes m g (w16 (m.pc + 1)) := by
  obtain ⟨r0, r1, r2, r3, r4, r5, r7, sp, pc⟩ := id hm
  exact ⟨_, (joinP hm hh h0 (p60_0 m g _ _) (by simp [*]) (by decide) (eP (.inl rfl))).q, rfl⟩
theorem y61 {m : Mc} {g : Nat → Int} (hm : m.Ok) (hg : ∀ e, B8 (g e)) (hh : m.halt = false) (h0 : g (ix m.pc) = 97) : Goes m g (w16 (m.pc + 1)) := by
  obtain ⟨r0, r1, r2, r3, r4, r5, r7, sp, pc⟩ := id hm
  exact ⟨_, (joinP hm hh h0 (p61_0 m g _ _) (by simp [*]) (by decide) (eP (.inl rfl))).q, rfl⟩
theorem y62 {m : Mc} {g : Nat → Int} (hm : m.Ok) (hg : ∀ e, B8 (g e)) (hh : m.halt = false) (h0 : g (ix m.pc) = 98) : Goes m g (w16 (m.pc + 1)) := by
  obtain ⟨r0, r1, r2, r3, r4, r5, r7, sp, pc⟩ := id hm
  exact ⟨_, (joinP hm hh h0 (p62_0 m g _ _) (by simp [*]) (by decide) (eP (.inl rfl))).q, rfl⟩
theorem y63 {m : Mc} {g : Nat → Int} (hm : m.Ok) (hg : ∀ e, B8 (g e)) (hh : m.halt = false) (h0 : g (ix m.pc) = 99) : Goes m g (w16 (m.pc + 1)) := by
  obtain ⟨r0, r1, r2, r3, r4, r5, r7, sp, pc⟩ := id hm
  exact ⟨_, (joinP hm hh h0 (p63_0 m g _ _) (by simp [*]) (by decide) (eP (.inl rfl))).q, rfl⟩
theorem y64 {m : Mc} {g : Nat → Int} (hm : m.Ok) (hg : ∀ e, B8 (g e)) (hh : m.halt = false) (h0 : g (ix m.pc) = 100) : Goes m g (w16 (m.pc + 1)) := by
  obtain ⟨r0, r1, r2, r3, r4, r5, r7, sp, pc⟩ := id hm
  exact ⟨_, (joinP hm hh h0 (p64_0 m g _ _) (by simp [*]) (by decide) (eP (.inl rfl))).q, rfl⟩
theorem y65 {m : Mc} {g : Nat → Int} (hm : m.Ok) (hg : ∀ e, B8 (g e)) (hh : m.halt = false) (h0 : g (ix m.pc) = 101) : Goes m g (w16 (m.pc + 1)) := by
  obtain ⟨r0, r1, r2, r3, r4, r5, r7, sp, pc⟩ := id hm
  exact ⟨_, (joinP hm hh h0 (p65_0 m g _ _) (by simp [*]) (by decide) (eP (.inl rfl))).q, rfl⟩
theorem y66 {m : Mc} {g : Nat → Int} (hm : m.Ok) (hg : ∀ e, B8 (g e)) (hh : m.halt = false) (h0 : g (ix m.pc) = 102) : Goes m g (w16 (m.pc + 1)) := by
  obtain ⟨r0, r1, r2, r3, r4, r5, r7, sp, pc⟩ := id hm
  exact ⟨_, (joinP hm hh h0 (p66_0 m g _ _) (by simp [*]) (by decide) (eP (.inl rfl))).q, rfl⟩
theorem y67 {m : Mc} {g : Nat → Int} (hm : m.Ok) (hg : ∀ e, B8 (g e)) (hh : m.halt = false) (h0 : g (ix m.pc) = 103) : Goes m g (w16 (m.pc + 1)) := by
  obtain ⟨r0, r1, r2, r3, r4, r5, r7, sp, pc⟩ := id hm
  exact ⟨_, (joinP hm hh h0 (p67_0 m g _ _) (by simp [*]) (by decide) (eP (.inl rfl))).q, rfl⟩
theorem y68 {m : Mc} {g : Nat → Int} (hm : m.Ok) (hg : ∀ e, B8 (g e)) (hh : m.halt = false) (h0 : g (ix m.pc) = 104) : Goes m g (w16 (m.pc + 1)) := by
  obtain ⟨r0, r1, r2, r3, r4, r5, r7, sp, pc⟩ := id hm
  exact ⟨_, (joinP hm hh h0 (p68_0 m g _ _) (by simp [*]) (by decide) (eP (.inl rfl))).q, rfl⟩
theorem y69 {m : Mc} {g : Nat → Int} (hm : m.Ok) (hg : ∀ e, B8 (g e)) (hh : m.halt = false) (h0 : g (ix m.pc) = 105) : Goes m g (w16 (m.pc + 1)) := by
  obtain ⟨r0, r1, r2, r3, r4, r5, r7, sp, pc⟩ := id hm
  exact ⟨_, (joinP hm hh h0 (p69_0 m g _ _) (by simp [*]) (by decide) (eP (.inl rfl))).q, rfl⟩
theorem y6a {m : Mc} {g : Nat → Int} (hm : m.Ok) (hg : ∀ e, B8 (g e)) (hh : m.halt = false) (h0 : g (ix m.pc) = 106) : Goes m g (w16 (m.pc + 1)) := by
  obtain ⟨r0, r1, r2, r3, r4, r5, r7, sp, pc⟩ := id hm
  exact ⟨_, (joinP hm hh h0 (p6a_0 m g _ _) (by simp [*]) (by decide) (eP (.inl rfl))).q, rfl⟩
theorem y6b {m : Mc} {g : Nat → Int} (hm : m.Ok) (hg : ∀ e, B8 (g e)) (hh : m.halt = false) (h0 : g (ix m.pc) = 107) : Goes m g (w16 (m.pc + 1)) := by
  obtain ⟨r0, r1, r2, r3, r4, r5, r7, sp, pc⟩ := id hm
  exact ⟨_, (joinP hm hh h0 (p6b_0 m g _ _) (by simp [*]) (by decide) (eP (.inl rfl))).q, rfl⟩
theorem y6c {m : Mc} {g : Nat → Int} (hm : m.Ok) (hg : ∀ e, B8 (g e)) (hh : m.halt = false) (h0 : g (ix m.pc) = 108) : Goes m g (w16 (m.pc + 1)) := by
  obtain ⟨r0, r1, r2, r3, r4, r5, r7, sp, pc⟩ := id hm
  exact ⟨_, (joinP hm hh h0 (p6c_0 m g _ _) (by simp [*]) (by decide) (eP (.inl rfl))).q, rfl⟩
theorem y6d {m : Mc} {g : Nat → Int} (hm : m.Ok) (hg : ∀ e, B8 (g e)) (hh : m.halt = false) (h0 : g (ix m.pc) = 109) : Goes m g (w16 (m.pc + 1)) := by
  obtain ⟨r0, r1, r2, r3, r4, r5, r7, sp, pc⟩ := id hm
  exact ⟨_, (joinP hm hh h0 (p6d_0 m g _ _) (by simp [*]) (by decide) (eP (.inl rfl))).q, rfl⟩
theorem y6e {m : Mc} {g : Nat → Int} (hm : m.Ok) (hg : ∀ e, B8 (g e)) (hh : m.halt = false) (h0 : g (ix m.pc) = 110) : Goes m g (w16 (m.pc + 1)) := by
  obtain ⟨r0, r1, r2, r3, r4, r5, r7, sp, pc⟩ := id hm
  exact ⟨_, (joinP hm hh h0 (p6e_0 m g _ _) (by simp [*]) (by decide) (eP (.inl rfl))).q, rfl⟩
theorem y6f {m : Mc} {g : Nat → Int} (hm : m.Ok) (hg : ∀ e, B8 (g e)) (hh : m.halt = false) (h0 : g (ix m.pc) = 111) : Goes m g (w16 (m.pc + 1)) := by
  obtain ⟨r0, r1, r2, r3, r4, r5, r7, sp, pc⟩ := id hm
  exact ⟨_, (joinP hm hh h0 (p6f_0 m g _ _) (by simp [*]) (by decide) (eP (.inl rfl))).q, rfl⟩
theorem way6 {m : Mc} {g : Nat → Int} (hm : m.Ok) (hg : ∀ e, B8 (g e)) (hh : m.halt = false) {op : Int} (h0 : g (ix m.pc) = op) (h1 : 96 ≤ op) (h2 : op < 112) : WayA op m g := by
  have h : op = 96 ∨ op = 97 ∨ op = 98 ∨ op = 99 ∨ op = 100 ∨ op = 101 ∨ op = 102 ∨ op = 103 ∨ op = 104 ∨ op = 105 ∨ op = 106 ∨ op = 107 ∨ op = 108 ∨ op = 109 ∨ op = 110 ∨ op = 111 := by omega
  rcases h with rfl | rfl | rfl | rfl | rfl | rfl | rfl | rfl | rfl | rfl | rfl | rfl | rfl | rfl | rfl | rfl
  · exact wayA1 (n := 1) (by kernel_rfl) (by kernel_rfl) (y60 hm hg hh h0)
  · exact wayA1 (n := 1) (by kernel_rfl) (by kernel_rfl) (y61 hm hg hh h0)
  · exact wayA1 (n := 1) (by kernel_rfl) (by kernel_rfl) (y62 hm hg hh h0)
  · exact wayA1 (n := 1) (by kernel_rfl) (by kernel_rfl) (y63 hm hg hh h0)
  · exact wayA1 (n := 1) (by kernel_rfl) (by kernel_rfl) (y64 hm hg hh h0)
  · exact wayA1 (n := 1) (by kernel_rfl) (by kernel_rfl) (y65 hm hg hh h0)
  · exact wayA1 (n := 1) (by kernel_rfl) (by kernel_rfl) (y66 hm hg hh h0)
  · exact wayA1 (n := 1) (by kernel_rfl) (by kernel_rfl) (y67 hm hg hh h0)
  · exact wayA1 (n := 1) (by kernel_rfl) (by kernel_rfl) (y68 hm hg hh h0)
  · exact wayA1 (n := 1) (by kernel_rfl) (by kernel_rfl) (y69 hm hg hh h0)
  · exact wayA1 (n := 1) (by kernel_rfl) (by kernel_rfl) (y6a hm hg hh h0)
  · exact wayA1 (n := 1) (by kernel_rfl) (by kernel_rfl) (y6b hm hg hh h0)
  · exact wayA1 (n := 1) (by kernel_rfl) (by kernel_rfl) (y6c hm hg hh h0)
  · exact wayA1 (n := 1) (by kernel_rfl) (by kernel_rfl) (y6d hm hg hh h0)
  · exact wayA1 (n := 1) (by kernel_rfl) (by kernel_rfl) (y6e hm hg hh h0)
  · exact wayA1 (n := 1) (by kernel_rfl) (by kernel_rfl) (y6f hm hg hh h0)
end Go.Proofs.Ytdjmpilegommlaa
namespace Go.Proofs.Ytdjmpilegommlaa
open Go Go.Ly Go.RowKit
theorem y70 {m : Mc} {g : Nat → Int} (hm : m.Ok) (hg : ∀ e, B8 (g e)) (hh : m.halt = false) (h0 : g (ix m.pc) = 112) : Goes m g (w16 (m.pc + 1)) := by
  obtain ⟨r0, r1, r2, r3, r4, r5, r7, sp, pc⟩ := id hm
  exact ⟨_, (joinP hm hh h0 (p70_0 m g _ _) (by simp [*]) (by decide) (eP (m1s rfl rfl))).q, rfl⟩
theorem y71 {m : Mc} {g : Nat → Int} (hm : m.Ok) (hg : ∀ e, B8 (g e)) (hh : m.halt = false) (h0 : g (ix m.pc) = 113) : Goes m g (w16 (m.pc + 1)) := by
  obtain ⟨r0, r1, r2, r3, r4, r5, r7, sp, pc⟩ := id hm
  exact ⟨_, (joinP hm hh h0 (p71_0 m g _ _) (by simp [*]) (by decide) (eP (m1s rfl rfl))).q, rfl⟩
theorem y72 {m : Mc} {g : Nat → Int} (hm : m.Ok) (hg : ∀ e, B8 (g e)) (hh : m.halt = false) (h0 : g (ix m.pc) = 114) : Goes m g (w16 (m.pc + 1)) := by
  obtain ⟨r0, r1, r2, r3, r4, r5, r7, sp, pc⟩ := id hm
  exact ⟨_, (joinP hm hh h0 (p72_0 m g _ _) (by simp [*]) (by decide) (eP (m1s rfl rfl))).q, rfl⟩
theorem y73 {m : Mc} {g : Nat → Int} (hm : m.Ok) (hg : ∀ e, B8 (g e)) (hh : m.halt = false) (h0 : g (ix m.pc) = 115) : Goes m g (w16 (m.pc + 1)) := by
  obtain ⟨r0, r1, r2, r3, r4, r5, r7, sp, pc⟩ := id hm
  exact ⟨_, (joinP hm hh h0 (p73_0 m g _ _) (by simp [*]) (by decide) (eP (m1s rfl rfl))).q, rfl⟩
theorem y74 {m : Mc} {g : Nat → Int} (hm : m.Ok) (hg : ∀ e, B8 (g e)) (hh : m.halt = false) (h0 : g (ix m.pc) = 116) : Goes m g (w16 (m.pc + 1)) := by
  obtain ⟨r0, r1, r2, r3, r4, r5, r7, sp, pc⟩ := id hm
  exact ⟨_, (joinP hm hh h0 (p74_0 m g _ _) (by simp [*]) (by decide) (eP (m1s rfl rfl))).q, rfl⟩
theorem y75 {m : Mc} {g : Nat → Int} (hm : m.Ok) (hg : ∀ e, B8 (g e)) (hh : m.halt = false) (h0 : g (ix m.pc) = 117) : Goes m g (w16 (m.pc + 1)) := by
  obtain ⟨r0, r1, r2, r3, r4, r5, r7, sp, pc⟩ := id hm
  exact ⟨_, (joinP hm hh h0 (p75_0 m g _ _) (by simp [*]) (by decide) (eP (m1s rfl rfl))).q, rfl⟩
theorem y77 {m : Mc} {g : Nat → Int} (hm : m.Ok) (hg : ∀ e, B8 (g e)) (hh : m.halt = false) (h0 : g (ix m.pc) = 119) : Goes m g (w16 (m.pc + 1)) := by
  obtain ⟨r0, r1, r2, r3, r4, r5, r7, sp, pc⟩ := id hm
  exact ⟨_, (joinP hm hh h0 (p77_0 m g _ _) (by simp [*]) (by decide) (eP (m1s rfl rfl))).q, rfl⟩
theorem y78 {m : Mc} {g : Nat → Int} (hm : m.Ok) (hg : ∀ e, B8 (g e)) (hh : m.halt = false) (h0 : g (ix m.pc) = 120) : Goes m g (w16 (m.pc + 1)) := by
  obtain ⟨r0, r1, r2, r3, r4, r5, r7, sp, pc⟩ := id hm
  exact ⟨_, (joinP hm hh h0 (p78_0 m g _ _) (by simp [*]) (by decide) (eP (.inl rfl))).q, rfl⟩
theorem y79 {m : Mc} {g : Nat → Int} (hm : m.Ok) (hg : ∀ e, B8 (g e)) (hh : m.halt = false) (h0 : g (ix m.pc) = 121) : Goes m g (w16 (m.pc + 1)) := by
  obtain ⟨r0, r1, r2, r3, r4, r5, r7, sp, pc⟩ := id hm
  exact ⟨_, (joinP hm hh h0 (p79_0 m g _ _) (by simp [*]) (by decide) (eP (.inl rfl))).q, rfl⟩
theorem y7a {m : Mc} {g : Nat → Int} (hm : m.Ok) (hg : ∀ e, B8 (g e)) (hh : m.halt = false) (h0 : g (ix m.pc) = 122) : Goes m g (w16 (m.pc + 1)) := by
  obtain ⟨r0, r1, r2, r3, r4, r5, r7, sp, pc⟩ := id hm
  exact ⟨_, (joinP hm hh h0 (p7a_0 m g _ _) (by simp [*]) (by decide) (eP (.inl rfl))).q, rfl⟩
theorem y7b {m : Mc} {g : Nat → Int} (hm : m.Ok) (hg : ∀ e, B8 (g e)) (hh : m.halt = false) (h0 : g (ix m.pc) = 123) : Goes m g (w16 (m.pc + 1)) := by
  obtain ⟨r0, r1, r2, r3, r4, r5, r7, sp, pc⟩ := id hm
  exact ⟨_, (joinP hm hh h0 (p7b_0 m g _ _) (by simp [*]) (by decide) (eP (.inl rfl))).q, rfl⟩
theorem y7c {m : Mc} {g : Nat → Int} (hm : m.Ok) (hg : ∀ e, B8 (g e)) (hh : m.halt = false) (h0 : g (ix m.pc) = 124) : Goes m g (w16 (m.pc + 1)) := by
  obtain ⟨r0, r1, r2, r3, r4, r5, r7, sp, pc⟩ := id hm
  exact ⟨_, (joinP hm hh h0 (p7c_0 m g _ _) (by simp [*]) (by decide) (eP (.inl rfl))).q, rfl⟩
theorem y7d {m : Mc} {g : Nat → Int} (hm : m.Ok) (hg : ∀ e, B8 (g e)) (hh : m.halt = false) (h0 : g (ix m.pc) = 125) : Goes m g (w16 (m.pc + 1)) := by
  obtain ⟨r0, r1, r2, r3, r4, r5, r7, sp, pc⟩ := id hm
  exact ⟨_, (joinP hm hh h0 (p7d_0 m g _ _) (by simp [*]) (by decide) (eP (.inl rfl))).q, rfl⟩
theorem y7e {m : Mc} {g : Nat → Int} (hm : m.Ok) (hg : ∀ e, B8 (g e)) (hh : m.halt = false) (h0 : g (ix m.pc) = 126) : Goes m g (w16 (m.pc + 1)) := by
  obtain ⟨r0, r1, r2, r3, r4, r5, r7, sp, pc⟩ := id hm
  exact ⟨_, (joinP hm hh h0 (p7e_0 m g _ _) (by simp [*]) (by decide) (eP (.inl rfl))).q, rfl⟩
theorem y7f {m : Mc} {g : Nat → Int} (hm : m.Ok) (hg : ∀ e, B8 (g e)) (hh : m.halt = false) (h0 : g (ix m.pc) = 127) : Goes m g (w16 (m.pc + 1)) := by
  obtain ⟨r0, r1, r2, r3, r4, r5, r7, sp, pc⟩ := id hm
  exact ⟨_, (joinP hm hh h0 (p7f_0 m g _ _) (by simp [*]) (by decide) (eP (.inl rfl))).q, rfl⟩
theorem way7 {m : Mc} {g : Nat → Int} (hm : m.Ok) (hg : ∀ e, B8 (g e)) (hh : m.halt = false) {op : Int} (h0 : g (ix m.pc) = op) (h1 : 112 ≤ op) (h2 : op < 128) : WayA op m g := by
  have h : op = 112 ∨ op = 113 ∨ op = 114 ∨ op = 115 ∨ op = 116 ∨ op = 117 ∨ op = 118 ∨ op = 119 ∨ op = 120 ∨ op = 121 ∨ op = 122 ∨ op = 123 ∨ op = 124 ∨ op = 125 ∨ op = 126 ∨ op = 127 := by omega
  rcases h with rfl | rfl | rfl | rfl | rfl | rfl | rfl | rfl | rfl | rfl | rfl | rfl | rfl | rfl | rfl | rfl
  · exact wayA1 (n := 1) (by kernel_rfl) (by kernel_rfl) (y70 hm hg hh h0)
  · exact wayA1 (n := 1) (by kernel_rfl) (by kernel_rfl) (y71 hm hg hh h0)
  · exact wayA1 (n := 1) (by kernel_rfl) (by kernel_rfl) (y72 hm hg hh h0)
  · exact wayA1 (n := 1) (by kernel_rfl) (by kernel_rfl) (y73 hm hg hh h0)
  · exact wayA1 (n := 1) (by kernel_rfl) (by kernel_rfl) (y74 hm hg hh h0)
  · exact wayA1 (n := 1) (by kernel_rfl) (by kernel_rfl) (y75 hm hg hh h0)
  · exact wayA0 (by kernel_rfl)
  · exact wayA1 (n := 1) (by kernel_rfl) (by kernel_rfl) (y77 hm hg hh h0)
  · exact wayA1 (n := 1) (by kernel_rfl) (by kernel_rfl) (y78 hm hg hh h0)
  · exact wayA1 (n := 1) (by kernel_rfl) (by kernel_rfl) (y79 hm hg hh h0)
  · exact wayA1 (n := 1) (by kernel_rfl) (by kernel_rfl) (y7a hm hg hh h0)
  · exact wayA1 (n := 1) (by kernel_rfl) (by kernel_rfl) (y7b hm hg hh h0)
  · exact wayA1 (n := 1) (by kernel_rfl) (by kernel_rfl) (y7c hm hg hh h0)
  · exact wayA1 (n := 1) (by kernel_rfl) (by kernel_rfl) (y7d hm hg hh h0)
  · exact wayA1 (n := 1) (by kernel_rfl) (by kernel_rfl) (y7e hm hg hh h0)
  · exact wayA1 (n := 1) (by kernel_rfl) (by kernel_rfl) (y7f hm hg hh h0)
end Go.Proofs.Ytdjmpilegommlaa
namespace Go.Proofs.Ytdjmpilegommlaa
open Go Go.Ly Go.RowKit
theorem y80 {m : Mc} {g : Nat → Int} (hm : m.Ok) (hg : ∀ e, B8 (g e)) (hh : m.halt = false) (h0 : g (ix m.pc) = 128) : Goes m g (w16 (m.pc + 1)) := by
  obtain ⟨r0, r1, r2, r3, r4, r5, r7, sp, pc⟩ := id hm
  rcases Bool.eq_false_or_eq_true m.fc with hf | hf
  · exact ⟨_, (joinP hm hh h0 (p80_0 m g _ _) (by simp [*]) (by decide) (eP (.inl rfl))).q, rfl⟩
  · exact ⟨_, (joinP hm hh h0 (p80_1 m g _ _) (by simp [*]) (by decide) (eP (.inl rfl))).q, rfl⟩
theorem y81 {m : Mc} {g : Nat → Int} (hm : m.Ok) (hg : ∀ e, B8 (g e)) (hh : m.halt = false) (h0 : g (ix m.pc) = 129) : Goes m g (w16 (m.pc + 1)) := by
  obtain ⟨r0, r1, r2, r3, r4, r5, r7, sp, pc⟩ := id hm
  rcases Bool.eq_false_or_eq_true m.fc with hf | hf
  · exact ⟨_, (joinP hm hh h0 (p81_0 m g _ _) (by simp [*]) (by decide) (eP (.inl rfl))).q, rfl⟩
  · exact ⟨_, (joinP hm hh h0 (p81_1 m g _ _) (by simp [*]) (by decide) (eP (.inl rfl))).q, rfl⟩
theorem y82 {m : Mc} {g : Nat → Int} (hm : m.Ok) (hg : ∀ e, B8 (g e)) (hh : m.halt = false) (h0 : g (ix m.pc) = 130) : Goes m g (w16 (m.pc + 1)) := by
  obtain ⟨r0, r1, r2, r3, r4, r5, r7, sp, pc⟩ := id hm
  rcases Bool.eq_false_or_eq_true m.fc with hf | hf
  · exact ⟨_, (joinP hm hh h0 (p82_0 m g _ _) (by simp [*]) (by decide) (eP (.inl rfl))).q, rfl⟩
  · exact ⟨_, (joinP hm hh h0 (p82_1 m g _ _) (by simp [*]) (by decide) (eP (.inl rfl))).q, rfl⟩
theorem y83 {m : Mc} {g : Nat → Int} (hm : m.Ok) (hg : ∀ e, B8 (g e)) (hh : m.halt = false) (h0 : g (ix m.pc) = 131) : Goes m g (w16 (m.pc + 1)) := by
  obtain ⟨r0, r1, r2, r3, r4, r5, r7, sp, pc⟩ := id hm
  rcases Bool.eq_false_or_eq_true m.fc with hf | hf
  · exact ⟨_, (joinP hm hh h0 (p83_0 m g _ _) (by simp [*]) (by decide) (eP (.inl rfl))).q, rfl⟩
  · exact ⟨_, (joinP hm hh h0 (p83_1 m g _ _) (by simp [*]) (by decide) (eP (.inl rfl))).q, rfl⟩
theorem y84 {m : Mc} {g : Nat → Int} (hm : m.Ok) (hg : ∀ e, B8 (g e)) (hh : m.halt = false) (h0 : g (ix m.pc) = 132) : Goes m g (w16 (m.pc + 1)) := by
  obtain ⟨r0, r1, r2, r3, r4, r5, r7, sp, pc⟩ := id hm
  rcases Bool.eq_false_or_eq_true m.fc with hf | hf
  · exact ⟨_, (joinP hm hh h0 (p84_0 m g _ _) (by simp [*]) (by decide) (eP (.inl rfl))).q, rfl⟩
  · exact ⟨_, (joinP hm hh h0 (p84_1 m g _ _) (by simp [*]) (by decide) (eP (.inl rfl))).q, rfl⟩
theorem y85 {m : Mc} {g : Nat → Int} (hm : m.Ok) (hg : ∀ e, B8 (g e)) (hh : m.halt = false) (h0 : g (ix m.pc) = 133) : Goes m g (w16 (m.pc + 1)) := by
  obtain ⟨r0, r1, r2, r3, r4, r5, r7, sp, pc⟩ := id hm
  rcases Bool.eq_false_or_eq_true m.fc with hf | hf
  · exact ⟨_, (joinP hm hh h0 (p85_0 m g _ _) (by simp [*]) (by decide) (eP (.inl rfl))).q, rfl⟩
  · exact ⟨_, (joinP hm hh h0 (p85_1 m g _ _) (by simp [*]) (by decide) (eP (.inl rfl))).q, rfl⟩
theorem y86 {m : Mc} {g : Nat → Int} (hm : m.Ok) (hg : ∀ e, B8 (g e)) (hh : m.halt = false) (h0 : g (ix m.pc) = 134) : Goes m g (w16 (m.pc + 1)) := by
  obtain ⟨r0, r1, r2, r3, r4, r5, r7, sp, pc⟩ := id hm
  rcases Bool.eq_false_or_eq_true m.fc with hf | hf
  · exact ⟨_, (joinP hm hh h0 (p86_0 m g _ _) (by simp [*]) (by decide) (eP (.inl rfl))).q, rfl⟩
  · exact ⟨_, (joinP hm hh h0 (p86_1 m g _ _) (by simp [*]) (by decide) (eP (.inl rfl))).q, rfl⟩
theorem y87 {m : Mc} {g : Nat → Int} (hm : m.Ok) (hg : ∀ e, B8 (g e)) (hh : m.halt = false) (h0 : g (ix m.pc) = 135) : Goes m g (w16 (m.pc + 1)) := by
  obtain ⟨r0, r1, r2, r3, r4, r5, r7, sp, pc⟩ := id hm
  rcases Bool.eq_false_or_eq_true m.fc with hf | hf
  · exact ⟨_, (joinP hm hh h0 (p87_0 m g _ _) (by simp [*]) (by decide) (eP (.inl rfl))).q, rfl⟩
  · exact ⟨_, (joinP hm hh h0 (p87_1 m g _ _) (by simp [*]) (by decide) (eP (.inl rfl))).q, rfl⟩
theorem y88 {m : Mc} {g : Nat → Int} (hm : m.Ok) (hg : ∀ e, B8 (g e)) (hh : m.halt = false) (h0 : g (ix m.pc) = 136) : Goes m g (w16 (m.pc + 1)) := by
  obtain ⟨r0, r1, r2, r3, r4, r5, r7, sp, pc⟩ := id hm
  rcases Bool.eq_false_or_eq_true m.fc with hf | hf
  · exact ⟨_, (joinP hm hh h0 (p88_0 m g _ _) (by simp [*]) (by decide) (eP (.inl rfl))).q, rfl⟩
  · exact ⟨_, (joinP hm hh h0 (p88_1 m g _ _) (by simp [*]) (by decide) (eP (.inl rfl))).q, rfl⟩
theorem y89 {m : Mc} {g : Nat → Int} (hm : m.Ok) (hg : ∀ e, B8 (g e)) (hh : m.halt = false) (h0 : g (ix m.pc) = 137) : Goes m g (w16 (m.pc + 1)) := by
  obtain ⟨r0, r1, r2, r3, r4, r5, r7, sp, pc⟩ := id hm
  rcases Bool.eq_false_or_eq_true m.fc with hf | hf
  · exact ⟨_, (joinP hm hh h0 (p89_0 m g _ _) (by simp [*]) (by decide) (eP (.inl rfl))).q, rfl⟩
  · exact ⟨_, (joinP hm hh h0 (p89_1 m g _ _) (by simp [*]) (by decide) (eP (.inl rfl))).q, rfl⟩
theorem y8a {m : Mc} {g : Nat → Int} (hm : m.Ok) (hg : ∀ e, B8 (g e)) (hh : m.halt = false) (h0 : g (ix m.pc) = 138) : Goes m g (w16 (m.pc + 1)) := by
  obtain ⟨r0, r1, r2, r3, r4, r5, r7, sp, pc⟩ := id hm
  rcases Bool.eq_false_or_eq_true m.fc with hf | hf
  · exact ⟨_, (joinP hm hh h0 (p8a_0 m g _ _) (by simp [*]) (by decide) (eP (.inl rfl))).q, rfl⟩
  · exact ⟨_, (joinP hm hh h0 (p8a_1 m g _ _) (by simp [*]) (by decide) (eP (.inl rfl))).q, rfl⟩
theorem y8b {m : Mc} {g : Nat → Int} (hm : m.Ok) (hg : ∀ e, B8 (g e)) (hh : m.halt = false) (h0 : g (ix m.pc) = 139) : Goes m g (w16 (m.pc + 1)) := by
  obtain ⟨r0, r1, r2, r3, r4, r5, r7, sp, pc⟩ := id hm
  rcases Bool.eq_false_or_eq_true m.fc with hf | hf
  · exact ⟨_, (joinP hm hh h0 (p8b_0 m g _ _) (by simp [*]) (by decide) (eP (.inl rfl))).q, rfl⟩
  · exact ⟨_, (joinP hm hh h0 (p8b_1 m g _ _) (by simp [*]) (by decide) (eP (.inl rfl))).q, rfl⟩
theorem y8c {m : Mc} {g : Nat → Int} (hm : m.Ok) (hg : ∀ e, B8 (g e)) (hh : m.halt = false) (h0 : g (ix m.pc) = 140) : Goes m g (w16 (m.pc + 1)) := by
  obtain ⟨r0, r1, r2, r3, r4, r5, r7, sp, pc⟩ := id hm
  rcases Bool.eq_false_or_eq_true m.fc with hf | hf
  · exact ⟨_, (joinP hm hh h0 (p8c_0 m g _ _) (by simp [*]) (by decide) (eP (.inl rfl))).q, rfl⟩
  · exact ⟨_, (joinP hm hh h0 (p8c_1 m g _ _) (by simp [*]) (by decide) (eP (.inl rfl))).q, rfl⟩
theorem y8d {m : Mc} {g : Nat → Int} (hm : m.Ok) (hg : ∀ e, B8 (g e)) (hh : m.halt = false) (h0 : g (ix m.pc) = 141) : Goes m g (w16 (m.pc + 1)) := by
  obtain ⟨r0, r1, r2, r3, r4, r5, r7, sp, pc⟩ := id hm
  rcases Bool.eq_false_or_eq_true m.fc with hf | hf
  · exact ⟨_, (joinP hm hh h0 (p8d_0 m g _ _) (by simp [*]) (by decide) (eP (.inl rfl))).q, rfl⟩
  · exact ⟨_, (joinP hm hh h0 (p8d_1 m g _ _) (by simp [*]) (by decide) (eP (.inl rfl))).q, rfl⟩
theorem y8e {m : Mc} {g : Nat → Int} (hm : m.Ok) (hg : ∀ e, B8 (g e)) (hh : m.halt = false) (h0 : g (ix m.pc) = 142) : Goes m g (w16 (m.pc + 1)) := by
  obtain ⟨r0, r1, r2, r3, r4, r5, r7, sp, pc⟩ := id hm
  rcases Bool.eq_false_or_eq_true m.fc with hf | hf
  · exact ⟨_, (joinP hm hh h0 (p8e_0 m g _ _) (by simp [*]) (by decide) (eP (.inl rfl))).q, rfl⟩
  · exact ⟨_, (joinP hm hh h0 (p8e_1 m g _ _) (by simp [*]) (by decide) (eP (.inl rfl))).q, rfl⟩
theorem y8f {m : Mc} {g : Nat → Int} (hm : m.Ok) (hg : ∀ e, B8 (g e)) (hh : m.halt = false) (h0 : g (ix m.pc) = 143) : Goes m g (w16 (m.pc + 1)) := by
  obtain ⟨r0, r1, r2, r3, r4, r5, r7, sp, pc⟩ := id hm
  rcases Bool.eq_false_or_eq_true m.fc with hf | hf
  · exact ⟨_, (joinP hm hh h0 (p8f_0 m g _ _) (by simp [*]) (by decide) (eP (.inl rfl))).q, rfl⟩
  · exact ⟨_, (joinP hm hh h0 (p8f_1 m g _ _) (by simp [*]) (by decide) (eP (.inl rfl))).q, rfl⟩
theorem way8 {m : Mc} {g : Nat → Int} (hm : m.Ok) (hg : ∀ e, B8 (g e)) (hh : m.halt = false) {op : Int} (h0 : g (ix m.pc) = op) (h1 : 128 ≤ op) (h2 : op < 144) : WayA op m g := by
  have h : op = 128 ∨ op = 129 ∨ op = 130 ∨ op = 131 ∨ op = 132 ∨ op = 133 ∨ op = 134 ∨ op = 135 ∨ op = 136 ∨ op = 137 ∨ op = 138 ∨ op = 139 ∨ op = 140 ∨ op = 141 ∨ op = 142 ∨ op = 143 := by omega
  rcases h with rfl | rfl | rfl | rfl | rfl | rfl | rfl | rfl | rfl | rfl | rfl | rfl | rfl | rfl | rfl | rfl
  · exact wayA1 (n := 1) (by kernel_rfl) (by kernel_rfl) (y80 hm hg hh h0)
  · exact wayA1 (n := 1) (by kernel_rfl) (by kernel_rfl) (y81 hm hg hh h0)
  · exact wayA1 (n := 1) (by kernel_rfl) (by kernel_rfl) (y82 hm hg hh h0)
  · exact wayA1 (n := 1) (by kernel_rfl) (by kernel_rfl) (y83 hm hg hh h0)
  · exact wayA1 (n := 1) (by kernel_rfl) (by kernel_rfl) (y84 hm hg hh h0)
  · exact wayA1 (n := 1) (by kernel_rfl) (by kernel_rfl) (y85 hm hg hh h0)
  · exact wayA1 (n := 1) (by kernel_rfl) (by kernel_rfl) (y86 hm hg hh h0)
  · exact wayA1 (n := 1) (by kernel_rfl) (by kernel_rfl) (y87 hm hg hh h0)
  · exact wayA1 (n := 1) (by kernel_rfl) (by kernel_rfl) (y88 hm hg hh h0)
  · exact wayA1 (n := 1) (by kernel_rfl) (by kernel_rfl) (y89 hm hg hh h0)
  · exact wayA1 (n := 1) (by kernel_rfl) (by kernel_rfl) (y8a hm hg hh h0)
  · exact wayA1 (n := 1) (by kernel_rfl) (by kernel_rfl) (y8b hm hg hh h0)
  · exact wayA1 (n := 1) (by kernel_rfl) (by kernel_rfl) (y8c hm hg hh h0)
  · exact wayA1 (n := 1) (by kernel_rfl) (by kernel_rfl) (y8d hm hg hh h0)
  · exact wayA1 (n := 1) (by kernel_rfl) (by kernel_rfl) (y8e hm hg hh h0)
  · exact wayA1 (n := 1) (by kernel_rfl) (by kernel_rfl) (y8f hm hg hh h0)
end Go.Proofs.Ytdjmpilegommlaa
namespace Go.Proofs.Ytdjmpilegommlaa
open Go Go.Ly Go.RowKit
theorem y90 {m : Mc} {g : Nat → Int} (hm : m.Ok) (hg : ∀ e, B8 (g e)) (hh : m.halt = false) (h0 : g (ix m.pc) = 144) : Goes m g (w16 (m.pc + 1)) := by
  obtain ⟨r0, r1, r2, r3, r4, r5, r7, sp, pc⟩ := id hm
  rcases Bool.eq_false_or_eq_true m.fc with hf | hf
  · exact ⟨_, (joinP hm hh h0 (p90_0 m g _ _) (by simp [*]) (by decide) (eP (.inl rfl))).q, rfl⟩
  · exact ⟨_, (joinP hm hh h0 (p90_1 m g _ _) (by simp [*]) (by decide) (eP (.inl rfl))).q, rfl⟩
theorem y91 {m : Mc} {g : Nat → Int} (hm : m.Ok) (hg : ∀ e, B8 (g e)) (hh : m.halt = false) (h0 : g (ix m.pc) = 145) : Goes m g (w16 (m.pc + 1)) := by
  obtain ⟨r0, r1, r2, r3, r4, r5, r7, sp, pc⟩ := id hm
  rcases Bool.eq_false_or_eq_true m.fc with hf | hf
  · exact ⟨_, (joinP hm hh h0 (p91_0 m g _ _) (by simp [*]) (by decide) (eP (.inl rfl))).q, rfl⟩
  · exact ⟨_, (joinP hm hh h0 (p91_1 m g _ _) (by simp [*]) (by decide) (eP (.inl rfl))).q, rfl⟩
theorem y92 {m : Mc} {g : Nat → Int} (hm : m.Ok) (hg : ∀ e, B8 (g e)) (hh : m.halt = false) (h0 : g (ix m.pc) = 146) : Goes m g (w16 (m.pc + 1)) := by
  obtain ⟨r0, r1, r2, r3, r4, r5, r7, sp, pc⟩ := id hm
  rcases Bool.eq_false_or_eq_true m.fc with hf | hf
  · exact ⟨_, (joinP hm hh h0 (p92_0 m g _ _) (by simp [*]) (by decide) (eP (.inl rfl))).q, rfl⟩
  · exact ⟨_, (joinP hm hh h0 (p92_1 m g _ _) (by simp [*]) (by decide) (eP (.inl rfl))).q, rfl⟩
theorem y93 {m : Mc} {g : Nat → Int} (hm : m.Ok) (hg : ∀ e, B8 (g e)) (hh : m.halt = false) (h0 : g (ix m.pc) = 147) : Goes m g (w16 (m.pc + 1)) := by
  obtain ⟨r0, r1, r2, r3, r4, r5, r7, sp, pc⟩ := id hm
  rcases Bool.eq_false_or_eq_true m.fc with hf | hf
  · exact ⟨_, (joinP hm hh h0 (p93_0 m g _ _) (by simp [*]) (by decide) (eP (.inl rfl))).q, rfl⟩
  · exact ⟨_, (joinP hm hh h0 (p93_1 m g _ _) (by simp [*]) (by decide) (eP (.inl rfl))).q, rfl⟩
theorem y94 {m : Mc} {g : Nat → Int} (hm : m.Ok) (hg : ∀ e, B8 (g e)) (hh : m.halt = false) (h0 : g (ix m.pc) = 148) : Goes m g (w16 (m.pc + 1)) := by
  obtain ⟨r0, r1, r2, r3, r4, r5, r7, sp, pc⟩ := id hm
  rcases Bool.eq_false_or_eq_true m.fc with hf | hf
  · exact ⟨_, (joinP hm hh h0 (p94_0 m g _ _) (by simp [*]) (by decide) (eP (.inl rfl))).q, rfl⟩
  · exact ⟨_, (joinP hm hh h0 (p94_1 m g _ _) (by simp [*]) (by decide) (eP (.inl rfl))).q, rfl⟩
theorem y95 {m : Mc} {g : Nat → Int} (hm : m.Ok) (hg : ∀ e, B8 (g e)) (hh : m.halt = false) (h0 : g (ix m.pc) = 149) : Goes m g (w16 (m.pc + 1)) := by
  obtain ⟨r0, r1, r2, r3, r4, r5, r7, sp, pc⟩ := id hm
  rcases Bool.eq_false_or_eq_true m.fc with hf | hf
  · exact ⟨_, (joinP hm hh h0 (p95_0 m g _ _) (by simp [*]) (by decide) (eP (.inl rfl))).q, rfl⟩
  · exact ⟨_, (joinP hm hh h0 (p95_1 m g _ _) (by simp [*]) (by decide) (eP (.inl rfl))).q, rfl⟩
theorem y96 {m : Mc} {g : Nat → Int} (hm : m.Ok) (hg : ∀ e, B8 (g e)) (hh : m.halt = false) (h0 : g (ix m.pc) = 150) : Goes m g (w16 (m.pc + 1)) := by
  obtain ⟨r0, r1, r2, r3, r4, r5, r7, sp, pc⟩ := id hm
  rcases Bool.eq_false_or_eq_true m.fc with hf | hf
  · exact ⟨_, (joinP hm hh h0 (p96_0 m g _ _) (by simp [*]) (by decide) (eP (.inl rfl))).q, rfl⟩
  · exact ⟨_, (joinP hm hh h0 (p96_1 m g _ _) (by simp [*]) (by decide) (eP (.inl rfl))).q, rfl⟩
theorem y97 {m : Mc} {g : Nat → Int} (hm : m.Ok) (hg : ∀ e, B8 (g e)) (hh : m.halt = false) (h0 : g (ix m.pc) = 151) : Goes m g (w16 (m.pc + 1)) := by
  obtain ⟨r0, r1, r2, r3, r4, r5, r7, sp, pc⟩ := id hm
  rcases Bool.eq_false_or_eq_true m.fc with hf | hf
  · exact ⟨_, (joinP hm hh h0 (p97_0 m g _ _) (by simp [*]) (by decide) (eP (.inl rfl))).q, rfl⟩
  · exact ⟨_, (joinP hm hh h0 (p97_1 m g _ _) (by simp [*]) (by decide) (eP (.inl rfl))).q, rfl⟩
theorem y98 {m : Mc} {g : Nat → Int} (hm : m.Ok) (hg : ∀ e, B8 (g e)) (hh : m.halt = false) (h0 : g (ix m.pc) = 152) : Goes m g (w16 (m.pc + 1)) := by
  obtain ⟨r0, r1, r2, r3, r4, r5, r7, sp, pc⟩ := id hm
  rcases Bool.eq_false_or_eq_true m.fc with hf | hf
  · exact ⟨_, (joinP hm hh h0 (p98_0 m g _ _) (by simp [*]) (by decide) (eP (.inl rfl))).q, rfl⟩
  · exact ⟨_, (joinP hm hh h0 (p98_1 m g _ _) (by simp [*]) (by decide) (eP (.inl rfl))).q, rfl⟩
theorem y99 {m : Mc} {g : Nat → Int} (hm : m.Ok) (hg : ∀ e, B8 (g e)) (hh : m.halt = false) (h0 : g (ix m.pc) = 153) : Goes m g (w16 (m.pc + 1)) := by
  obtain ⟨r0, r1, r2, r3, r4, r5, r7, sp, pc⟩ := id hm
  rcases Bool.eq_false_or_eq_true m.fc with hf | hf
  · exact ⟨_, (joinP hm hh h0 (p99_0 m g _ _) (by simp [*]) (by decide) (eP (.inl rfl))).q, rfl⟩
  · exact ⟨_, (joinP hm hh h0 (p99_1 m g _ _) (by simp [*]) (by decide) (eP (.inl rfl))).q, rfl⟩
theorem y9a {m : Mc} {g : Nat → Int} (hm : m.Ok) (hg : ∀ e, B8 (g e)) (hh : m.halt = false) (h0 : g (ix m.pc) = 154) : Goes m g (w16 (m.pc + 1)) := by
  obtain ⟨r0, r1, r2, r3, r4, r5, r7, sp, pc⟩ := id hm
  rcases Bool.eq_false_or_eq_true m.fc with hf | hf
  · exact ⟨_, (joinP hm hh h0 (p9a_0 m g _ _) (by simp [*]) (by decide) (eP (.inl rfl))).q, rfl⟩
  · exact ⟨_, (joinP hm hh h0 (p9a_1 m g _ _) (by simp [*]) (by decide) (eP (.inl rfl))).q, rfl⟩
theorem y9b {m : Mc} {g : Nat → Int} (hm : m.Ok) (hg : ∀ e, B8 (g e)) (hh : m.halt = false) (h0 : g (ix m.pc) = 155) : Goes m g (w16 (m.pc + 1)) := by
  obtain ⟨r0, r1, r2, r3, r4, r5, r7, sp, pc⟩ := id hm
  rcases Bool.eq_false_or_eq_true m.fc with hf | hf
  · exact ⟨_, (joinP hm hh h0 (p9b_0 m g _ _) (by simp [*]) (by decide) (eP (.inl rfl))).q, rfl⟩
  · exact ⟨_, (joinP hm hh h0 (p9b_1 m g _ _) (by simp [*]) (by decide) (eP (.inl rfl))).q, rfl⟩
theorem y9c {m : Mc} {g : Nat → Int} (hm : m.Ok) (hg : ∀ e, B8 (g e)) (hh : m.halt = false) (h0 : g (ix m.pc) = 156) : Goes m g (w16 (m.pc + 1)) := by
  obtain ⟨r0, r1, r2, r3, r4, r5, r7, sp, pc⟩ := id hm
  rcases Bool.eq_false_or_eq_true m.fc with hf | hf
  · exact ⟨_, (joinP hm hh h0 (p9c_0 m g _ _) (by simp [*]) (by decide) (eP (.inl rfl))).q, rfl⟩
  · exact ⟨_, (joinP hm hh h0 (p9c_1 m g _ _) (by simp [*]) (by decide) (eP (.inl rfl))).q, rfl⟩
theorem y9d {m : Mc} {g : Nat → Int} (hm : m.Ok) (hg : ∀ e, B8 (g e)) (hh : m.halt = false) (h0 : g (ix m.pc) = 157) : Goes m g (w16 (m.pc + 1)) := by
  obtain ⟨r0, r1, r2, r3, r4, r5, r7, sp, pc⟩ := id hm
  rcases Bool.eq_false_or_eq_true m.fc with hf | hf
  · exact ⟨_, (joinP hm hh h0 (p9d_0 m g _ _) (by simp [*]) (by decide) (eP (.inl rfl))).q, rfl⟩
  · exact ⟨_, (joinP hm hh h0 (p9d_1 m g _ _) (by simp [*]) (by decide) (eP (.inl rfl))).q, rfl⟩
theorem y9e {m : Mc} {g : Nat → Int} (hm : m.Ok) (hg : ∀ e, B8 (g e)) (hh : m.halt = false) (h0 : g (ix m.pc) = 158) : Goes m g (w16 (m.pc + 1)) := by
  obtain ⟨r0, r1, r2, r3, r4, r5, r7, sp, pc⟩ := id hm
  rcases Bool.eq_false_or_eq_true m.fc with hf | hf
  · exact ⟨_, (joinP hm hh h0 (p9e_0 m g _ _) (by simp [*]) (by decide) (eP (.inl rfl))).q, rfl⟩
  · exact ⟨_, (joinP hm hh h0 (p9e_1 m g _ _) (by simp [*]) (by decide) (eP (.inl rfl))).q, rfl⟩
theorem y9f {m : Mc} {g : Nat → Int} (hm : m.Ok) (hg : ∀ e, B8 (g e)) (hh : m.halt = false) (h0 : g (ix m.pc) = 159) : Goes m g (w16 (m.pc + 1)) := by
  obtain ⟨r0, r1, r2, r3, r4, r5, r7, sp, pc⟩ := id hm
  rcases Bool.eq_false_or_eq_true m.fc with hf | hf
  · exact ⟨_, (joinP hm hh h0 (p9f_0 m g _ _) (by simp [*]) (by decide) (eP (.inl rfl))).q, rfl⟩
  · exact ⟨_, (joinP hm hh h0 (p9f_1 m g _ _) (by simp [*]) (by decide) (eP (.inl rfl))).q, rfl⟩
theorem way9 {m : Mc} {g : Nat → Int} (hm : m.Ok) (hg : ∀ e, B8 (g e)) (hh : m.halt = false) {op : Int} (h0 : g (ix m.pc) = op) (h1 : 144 ≤ op) (h2 : op < 160) : WayA op m g := by
  have h : op = 144 ∨ op = 145 ∨ op = 146 ∨ op = 147 ∨ op = 148 ∨ op = 149 ∨ op = 150 ∨ op = 151 ∨ op = 152 ∨ op = 153 ∨ op = 154 ∨ op = 155 ∨ op = 156 ∨ op = 157 ∨ op = 158 ∨ op = 159 := by omega
  rcases h with rfl | rfl | rfl | rfl | rfl | rfl | rfl | rfl | rfl | rfl | rfl | rfl | rfl | rfl | rfl | rfl
  · exact wayA1 (n := 1) (by kernel_rfl) (by kernel_rfl) (y90 hm hg hh h0)
  · exact wayA1 (n := 1) (by kernel_rfl) (by kernel_rfl) (y91 hm hg hh h0)
  · exact wayA1 (n := 1) (by kernel_rfl) (by kernel_rfl) (y92 hm hg hh h0)
  · exact wayA1 (n := 1) (by kernel_rfl) (by kernel_rfl) (y93 hm hg hh h0)
  · exact wayA1 (n := 1) (by kernel_rfl) (by kernel_rfl) (y94 hm hg hh h0)
  · exact wayA1 (n := 1) (by kernel_rfl) (by kernel_rfl) (y95 hm hg hh h0)
  · exact wayA1 (n := 1) (by kernel_rfl) (by kernel_rfl) (y96 hm hg hh h0)
  · exact wayA1 (n := 1) (by kernel_rfl) (by kernel_rfl) (y97 hm hg hh h0)
  · exact wayA1 (n := 1) (by kernel_rfl) (by kernel_rfl) (y98 hm hg hh h0)
  · exact wayA1 (n := 1) (by kernel_rfl) (by kernel_rfl) (y99 hm hg hh h0)
  · exact wayA1 (n := 1) (by kernel_rfl) (by kernel_rfl) (y9a hm hg hh h0)
  · exact wayA1 (n := 1) (by kernel_rfl) (by kernel_rfl) (y9b hm hg hh h0)
  · exact wayA1 (n := 1) (by kernel_rfl) (by kernel_rfl) (y9c hm hg hh h0)
  · exact wayA1 (n := 1) (by kernel_rfl) (by kernel_rfl) (y9d hm hg hh h0)
  · exact wayA1 (n := 1) (by kernel_rfl) (by kernel_rfl) (y9e hm hg hh h0)
  · exact wayA1 (n := 1) (by kernel_rfl) (by kernel_rfl) (y9f hm hg hh h0)
end Go.Proofs.Ytdjmpilegommlaa
namespace Go.Proofs.Ytdjmpilegommlaa
open Go Go.Ly Go.RowKit
theorem ya0 {m : Mc} {g : Nat → Int} (hm : m.Ok) (hg : ∀ e, B8 (g e)) (hh : m.halt = false) (h0 : g (ix m.pc) = 160) : Goes m g (w16 (m.pc + 1)) := by
  obtain ⟨r0, r1, r2, r3, r4, r5, r7, sp, pc⟩ := id hm
  rcases Bool.eq_false_or_eq_true m.fc with hf | hf
  · exact ⟨_, (joinP hm hh h0 (pa0_0 m g _ _) (by simp [*]) (by decide) (eP (.inl rfl))).q, rfl⟩
  · exact ⟨_, (joinP hm hh h0 (pa0_1 m g _ _) (by simp [*]) (by decide) (eP (.inl rfl))).q, rfl⟩
theorem ya1 {m : Mc} {g : Nat → Int} (hm : m.Ok) (hg : ∀ e, B8 (g e)) (hh : m.halt = false) (h0 : g (ix m.pc) = 161) : Goes m g (w16 (m.pc + 1)) := by
  obtain ⟨r0, r1, r2, r3, r4, r5, r7, sp, pc⟩ := id hm
  rcases Bool.eq_false_or_eq_true m.fc with hf | hf
  · exact ⟨_, (joinP hm hh h0 (pa1_0 m g _ _) (by simp [*]) (by decide) (eP (.inl rfl))).q, rfl⟩
  · exact ⟨_, (joinP hm hh h0 (pa1_1 m g _ _) (by simp [*]) (by decide) (eP (.inl rfl))).q, rfl⟩
theorem ya2 {m : Mc} {g : Nat → Int} (hm : m.Ok) (hg : ∀ e, B8 (g e)) (hh : m.halt = false) (h0 : g (ix m.pc) = 162) : Goes m g (w16 (m.pc + 1)) := by
  obtain ⟨r0, r1, r2, r3, r4, r5, r7, sp, pc⟩ := id hm
  rcases Bool.eq_false_or_eq_true m.fc with hf | hf
  · exact ⟨_, (joinP hm hh h0 (pa2_0 m g _ _) (by simp [*]) (by decide) (eP (.inl rfl))).q, rfl⟩
  · exact ⟨_, (joinP hm hh h0 (pa2_1 m g _ _) (by simp [*]) (by decide) (eP (.inl rfl))).q, rfl⟩
theorem ya3 {m : Mc} {g : Nat → Int} (hm : m.Ok) (hg : ∀ e, B8 (g e)) (hh : m.halt = false) (h0 : g (ix m.pc) = 163) : Goes m g (w16 (m.pc + 1)) := by
  obtain ⟨r0, r1, r2, r3, r4, r5, r7, sp, pc⟩ := id hm
  rcases Bool.eq_false_or_eq_true m.fc with hf | hf
  · exact ⟨_, (joinP hm hh h0 (pa3_0 m g _ _) (by simp [*]) (by decide) (eP (.inl rfl))).q, rfl⟩
  · exact ⟨_, (joinP hm hh h0 (pa3_1 m g _ _) (by simp [*]) (by decide) (eP (.inl rfl))).q, rfl⟩
theorem ya4 {m : Mc} {g : Nat → Int} (hm : m.Ok) (hg : ∀ e, B8 (g e)) (hh : m.halt = false) (h0 : g (ix m.pc) = 164) : Goes m g (w16 (m.pc + 1)) := by
  obtain ⟨r0, r1, r2, r3, r4, r5, r7, sp, pc⟩ := id hm
  rcases Bool.eq_false_or_eq_true m.fc with hf | hf
  · exact ⟨_, (joinP hm hh h0 (pa4_0 m g _ _) (by simp [*]) (by decide) (eP (.inl rfl))).q, rfl⟩
  · exact ⟨_, (joinP hm hh h0 (pa4_1 m g _ _) (by simp [*]) (by decide) (eP (.inl rfl))).q, rfl⟩
theorem ya5 {m : Mc} {g : Nat → Int} (hm : m.Ok) (hg : ∀ e, B8 (g e)) (hh : m.halt = false) (h0 : g (ix m.pc) = 165) : Goes m g (w16 (m.pc + 1)) := by
  obtain ⟨r0, r1, r2, r3, r4, r5, r7, sp, pc⟩ := id hm
  rcases Bool.eq_false_or_eq_true m.fc with hf | hf
  · exact ⟨_, (joinP hm hh h0 (pa5_0 m g _ _) (by simp [*]) (by decide) (eP (.inl rfl))).q, rfl⟩
  · exact ⟨_, (joinP hm hh h0 (pa5_1 m g _ _) (by simp [*]) (by decide) (eP (.inl rfl))).q, rfl⟩
theorem ya6 {m : Mc} {g : Nat → Int} (hm : m.Ok) (hg : ∀ e, B8 (g e)) (hh : m.halt = false) (h0 : g (ix m.pc) = 166) : Goes m g (w16 (m.pc + 1)) := by
  obtain ⟨r0, r1, r2, r3, r4, r5, r7, sp, pc⟩ := id hm
  rcases Bool.eq_false_or_eq_true m.fc with hf | hf
  · exact ⟨_, (joinP hm hh h0 (pa6_0 m g _ _) (by simp [*]) (by decide) (eP (.inl rfl))).q, rfl⟩
  · exact ⟨_, (joinP hm hh h0 (pa6_1 m g _ _) (by simp [*]) (by decide) (eP (.inl rfl))).q, rfl⟩
theorem ya7 {m : Mc} {g : Nat → Int} (hm : m.Ok) (hg : ∀ e, B8 (g e)) (hh : m.halt = false) (h0 : g (ix m.pc) = 167) : Goes m g (w16 (m.pc + 1)) := by
  obtain ⟨r0, r1, r2, r3, r4, r5, r7, sp, pc⟩ := id hm
  rcases Bool.eq_false_or_eq_true m.fc with hf | hf
  · exact ⟨_, (joinP hm hh h0 (pa7_0 m g _ _) (by simp [*]) (by decide) (eP (.inl rfl))).q, rfl⟩
  · exact ⟨_, (joinP hm hh h0 (pa7_1 m g _ _) (by simp [*]) (by decide) (eP (.inl rfl))).q, rfl⟩
theorem ya8 {m : Mc} {g : Nat → Int} (hm : m.Ok) (hg : ∀ e, B8 (g e)) (hh : m.halt = false) (h0 : g (ix m.pc) = 168) : Goes m g (w16 (m.pc + 1)) := by
  obtain ⟨r0, r1, r2, r3, r4, r5, r7, sp, pc⟩ := id hm
  rcases Bool.eq_false_or_eq_true m.fc with hf | hf
  · exact ⟨_, (joinP hm hh h0 (pa8_0 m g _ _) (by simp [*]) (by decide) (eP (.inl rfl))).q, rfl⟩
  · exact ⟨_, (joinP hm hh h0 (pa8_1 m g _ _) (by simp [*]) (by decide) (eP (.inl rfl))).q, rfl⟩
theorem ya9 {m : Mc} {g : Nat → Int} (hm : m.Ok) (hg : ∀ e, B8 (g e)) (hh : m.halt = false) (h0 : g (ix m.pc) = 169) : Goes m g (w16 (m.pc + 1)) := by
  obtain ⟨r0, r1, r2, r3, r4, r5, r7, sp, pc⟩ := id hm
  rcases Bool.eq_false_or_eq_true m.fc with hf | hf
  · exact ⟨_, (joinP hm hh h0 (pa9_0 m g _ _) (by simp [*]) (by decide) (eP (.inl rfl))).q, rfl⟩
  · exact ⟨_, (joinP hm hh h0 (pa9_1 m g _ _) (by simp [*]) (by decide) (eP (.inl rfl))).q, rfl⟩
theorem yaa {m : Mc} {g : Nat → Int} (hm : m.Ok) (hg : ∀ e, B8 (g e)) (hh : m.halt = false) (h0 : g (ix m.pc) = 170) : Goes m g (w16 (m.pc + 1)) := by
  obtain ⟨r0, r1, r2, r3, r4, r5, r7, sp, pc⟩ := id hm
  rcases Bool.eq_false_or_eq_true m.fc with hf | hf
  · exact ⟨_, (joinP hm hh h0 (paa_0 m g _ _) (by simp [*]) (by decide) (eP (.inl rfl))).q, rfl⟩
  · exact ⟨_, (joinP hm hh h0 (paa_1 m g _ _) (by simp [*]) (by decide) (eP (.inl rfl))).q, rfl⟩
theorem yab {m : Mc} {g : Nat → Int} (hm : m.Ok) (hg : ∀ e, B8 (g e)) (hh : m.halt = false) (h0 : g (ix m.pc) = 171) : Goes m g (w16 (m.pc + 1)) := by
  obtain ⟨r0, r1, r2, r3, r4, r5, r7, sp, pc⟩ := id hm
  rcases Bool.eq_false_or_eq_true m.fc with hf | hf
  · exact ⟨_, (joinP hm hh h0 (pab_0 m g _ _) (by simp [*]) (by decide) (eP (.inl rfl))).q, rfl⟩
  · exact ⟨_, (joinP hm hh h0 (pab_1 m g _ _) (by simp [*]) (by decide) (eP (.inl rfl))).q, rfl⟩
theorem yac {m : Mc} {g : Nat → Int} (hm : m.Ok) (hg : ∀ e, B8 (g e)) (hh : m.halt = false) (h0 : g (ix m.pc) = 172) : Goes m g (w16 (m.pc + 1)) := by
  obtain ⟨r0, r1, r2, r3, r4, r5, r7, sp, pc⟩ := id hm
  rcases Bool.eq_false_or_eq_true m.fc with hf | hf
  · exact ⟨_, (joinP hm hh h0 (pac_0 m g _ _) (by simp [*]) (by decide) (eP (.inl rfl))).q, rfl⟩
  · exact ⟨_, (joinP hm hh h0 (pac_1 m g _ _) (by simp [*]) (by decide) (eP (.inl rfl))).q, rfl⟩
theorem yad {m : Mc} {g : Nat → Int} (hm : m.Ok) (hg : ∀ e, B8 (g e)) (hh : m.halt = false) (h0 : g (ix m.pc) = 173) : Goes m g (w16 (m.pc + 1)) := by
  obtain ⟨r0, r1, r2, r3, r4, r5, r7, sp, pc⟩ := id hm
  rcases Bool.eq_false_or_eq_true m.fc with hf | hf
  · exact ⟨_, (joinP hm hh h0 (pad_0 m g _ _) (by simp [*]) (by decide) (eP (.inl rfl))).q, rfl⟩
  · exact ⟨_, (joinP hm hh h0 (pad_1 m g _ _) (by simp [*]) (by decide) (eP (.inl rfl))).q, rfl⟩
theorem yae {m : Mc} {g : Nat → Int} (hm : m.Ok) (hg : ∀ e, B8 (g e)) (hh : m.halt = false) (h0 : g (ix m.pc) = 174) : Goes m g (w16 (m.pc + 1)) := by
  obtain ⟨r0, r1, r2, r3, r4, r5, r7, sp, pc⟩ := id hm
  rcases Bool.eq_false_or_eq_true m.fc with hf | hf
  · exact ⟨_, (joinP hm hh h0 (pae_0 m g _ _) (by simp [*]) (by decide) (eP (.inl rfl))).q, rfl⟩
  · exact ⟨_, (joinP hm hh h0 (pae_1 m g _ _) (by simp [*]) (by decide) (eP (.inl rfl))).q, rfl⟩
theorem yaf {m : Mc} {g : Nat → Int} (hm : m.Ok) (hg : ∀ e, B8 (g e)) (hh : m.halt = false) (h0 : g (ix m.pc) = 175) : Goes m g (w16 (m.pc + 1)) := by
  obtain ⟨r0, r1, r2, r3, r4, r5, r7, sp, pc⟩ := id hm
  rcases Bool.eq_false_or_eq_true m.fc with hf | hf
  · exact ⟨_, (joinP hm hh h0 (paf_0 m g _ _) (by simp [*]) (by decide) (eP (.inl rfl))).q, rfl⟩
  · exact ⟨_, (joinP hm hh h0 (paf_1 m g _ _) (by simp [*]) (by decide) (eP (.inl rfl))).q, rfl⟩
theorem way10 {m : Mc} {g : Nat → Int} (hm : m.Ok) (hg : ∀ e, B8 (g e)) (hh : m.halt = false) {op : Int} (h0 : g (ix m.pc) = op) (h1 : 160 ≤ op) (h2 : op < 176) : WayA op m g := by
  have h : op = 160 ∨ op = 161 ∨ op = 162 ∨ op = 163 ∨ op = 164 ∨ op = 165 ∨ op = 166 ∨ op = 167 ∨ op = 168 ∨ op = 169 ∨ op = 170 ∨ op = 171 ∨ op = 172 ∨ op = 173 ∨ op = 174 ∨ op = 175 := by omega
  rcases h with rfl | rfl | rfl | rfl | rfl | rfl | rfl | rfl | rfl | rfl | rfl | rfl | rfl | rfl | rfl | rfl
  · exact wayA1 (n := 1) (by kernel_rfl) (by kernel_rfl) (ya0 hm hg hh h0)
  · exact wayA1 (n := 1) (by kernel_rfl) (by kernel_rfl) (ya1 hm hg hh h0)
  · exact wayA1 (n := 1) (by kernel_rfl) (by kernel_rfl) (ya2 hm hg hh h0)
  · exact wayA1 (n := 1) (by kernel_rfl) (by kernel_rfl) (ya3 hm hg hh h0)
  · exact wayA1 (n := 1) (by kernel_rfl) (by kernel_rfl) (ya4 hm hg hh h0)
  · exact wayA1 (n := 1) (by kernel_rfl) (by kernel_rfl) (ya5 hm hg hh h0)
  · exact wayA1 (n := 1) (by kernel_rfl) (by kernel_rfl) (ya6 hm hg hh h0)
  · exact wayA1 (n := 1) (by kernel_rfl) (by kernel_rfl) (ya7 hm hg hh h0)
  · exact wayA1 (n := 1) (by kernel_rfl) (by kernel_rfl) (ya8 hm hg hh h0)
  · exact wayA1 (n := 1) (by kernel_rfl) (by kernel_rfl) (ya9 hm hg hh h0)
  · exact wayA1 (n := 1) (by kernel_rfl) (by kernel_rfl) (yaa hm hg hh h0)
  · exact wayA1 (n := 1) (by kernel_rfl) (by kernel_rfl) (yab hm hg hh h0)
  · exact wayA1 (n := 1) (by kernel_rfl) (by kernel_rfl) (yac hm hg hh h0)
  · exact wayA1 (n := 1) (by kernel_rfl) (by kernel_rfl) (yad hm hg hh h0)
  · exact wayA1 (n := 1) (by kernel_rfl) (by kernel_rfl) (yae hm hg hh h0)
  · exact wayA1 (n := 1) (by kernel_rfl) (by kernel_rfl) (yaf hm hg hh h0)
end Go.Proofs.Ytdjmpilegommlaa
namespace Go.Proofs.Ytdjmpilegommlaa
open Go Go.Ly Go.RowKit
theorem yb0 {m : Mc} {g : Nat → Int} (hm : m.Ok) (hg : ∀ e, B8 (g e)) (hh : m.halt = false) (h0 : g (ix m.pc) = 176) : Goes m g (w16 (m.pc + 1)) := by
  obtain ⟨r0, r1, r2, r3, r4, r5, r7, sp, pc⟩ := id hm
  rcases Bool.eq_false_or_eq_true m.fc with hf | hf
  · exact ⟨_, (joinP hm hh h0 (pb0_0 m g _ _) (by simp [*]) (by decide) (eP (.inl rfl))).q, rfl⟩
  · exact ⟨_, (joinP hm hh h0 (pb0_1 m g _ _) (by simp [*]) (by decide) (eP (.inl rfl))).q, rfl⟩
theorem yb1 {m : Mc} {g : Nat → Int} (hm : m.Ok) (hg : ∀ e, B8 (g e)) (hh : m.halt = false) (h0 : g (ix m.pc) = 177) : Goes m g (w16 (m.pc + 1)) := by
  obtain ⟨r0, r1, r2, r3, r4, r5, r7, sp, pc⟩ := id hm
  rcases Bool.eq_false_or_eq_true m.fc with hf | hf
  · exact ⟨_, (joinP hm hh h0 (pb1_0 m g _ _) (by simp [*]) (by decide) (eP (.inl rfl))).q, rfl⟩
  · exact ⟨_, (joinP hm hh h0 (pb1_1 m g _ _) (by simp [*]) (by decide) (eP (.inl rfl))).q, rfl⟩
theorem yb2 {m : Mc} {g : Nat → Int} (hm : m.Ok) (hg : ∀ e, B8 (g e)) (hh : m.halt = false) (h0 : g (ix m.pc) = 178) : Goes m g (w16 (m.pc + 1)) := by
  obtain ⟨r0, r1, r2, r3, r4, r5, r7, sp, pc⟩ := id hm
  rcases Bool.eq_false_or_eq_true m.fc with hf | hf
  · exact ⟨_, (joinP hm hh h0 (pb2_0 m g _ _) (by simp [*]) (by decide) (eP (.inl rfl))).q, rfl⟩
  · exact ⟨_, (joinP hm hh h0 (pb2_1 m g _ _) (by simp [*]) (by decide) (eP (.inl rfl))).q, rfl⟩
theorem yb3 {m : Mc} {g : Nat → Int} (hm : m.Ok) (hg : ∀ e, B8 (g e)) (hh : m.halt = false) (h0 : g (ix m.pc) = 179) : Goes m g (w16 (m.pc + 1)) := by
  obtain ⟨r0, r1, r2, r3, r4, r5, r7, sp, pc⟩ := id hm
  rcases Bool.eq_false_or_eq_true m.fc with hf | hf
  · exact ⟨_, (joinP hm hh h0 (pb3_0 m g _ _) (by simp [*]) (by decide) (eP (.inl rfl))).q, rfl⟩
  · exact ⟨_, (joinP hm hh h0 (pb3_1 m g _ _) (by simp [*]) (by decide) (eP (.inl rfl))).q, rfl⟩
theorem yb4 {m : Mc} {g : Nat → Int} (hm : m.Ok) (hg : ∀ e, B8 (g e)) (hh : m.halt = false) (h0 : g (ix m.pc) = 180) : Goes m g (w16 (m.pc + 1)) := by
  obtain ⟨r0, r1, r2, r3, r4, r5, r7, sp, pc⟩ := id hm
  rcases Bool.eq_false_or_eq_true m.fc with hf | hf
  · exact ⟨_, (joinP hm hh h0 (pb4_0 m g _ _) (by simp [*]) (by decide) (eP (.inl rfl))).q, rfl⟩
  · exact ⟨_, (joinP hm hh h0 (pb4_1 m g _ _) (by simp [*]) (by decide) (eP (.inl rfl))).q, rfl⟩
theorem yb5 {m : Mc} {g : Nat → Int} (hm : m.Ok) (hg : ∀ e, B8 (g e)) (hh : m.halt = false) (h0 : g (ix m.pc) = 181) : Goes m g (w16 (m.pc + 1)) := by
  obtain ⟨r0, r1, r2, r3, r4, r5, r7, sp, pc⟩ := id hm
  rcases Bool.eq_false_or_eq_true m.fc with hf | hf
  · exact ⟨_, (joinP hm hh h0 (pb5_0 m g _ _) (by simp [*]) (by decide) (eP (.inl rfl))).q, rfl⟩
  · exact ⟨_, (joinP hm hh h0 (pb5_1 m g _ _) (by simp [*]) (by decide) (eP (.inl rfl))).q, rfl⟩
theorem yb6 {m : Mc} {g : Nat → Int} (hm : m.Ok) (hg : ∀ e, B8 (g e)) (hh : m.halt = false) (h0 : g (ix m.pc) = 182) : Goes m g (w16 (m.pc + 1)) := by
  obtain ⟨r0, r1, r2, r3, r4, r5, r7, sp, pc⟩ := id hm
  rcases Bool.eq_false_or_eq_true m.fc with hf | hf
  · exact ⟨_, (joinP hm hh h0 (pb6_0 m g _ _) (by simp [*]) (by decide) (eP (.inl rfl))).q, rfl⟩
  · exact ⟨_, (joinP hm hh h0 (pb6_1 m g _ _) (by simp [*]) (by decide) (eP (.inl rfl))).q, rfl⟩
theorem yb7 {m : Mc} {g : Nat → Int} (hm : m.Ok) (hg : ∀ e, B8 (g e)) (hh : m.halt = false) (h0 : g (ix m.pc) = 183) : Goes m g (w16 (m.pc + 1)) := by
  obtain ⟨r0, r1, r2, r3, r4, r5, r7, sp, pc⟩ := id hm
  rcases Bool.eq_false_or_eq_true m.fc with hf | hf
  · exact ⟨_, (joinP hm hh h0 (pb7_0 m g _ _) (by simp [*]) (by decide) (eP (.inl rfl))).q, rfl⟩
  · exact ⟨_, (joinP hm hh h0 (pb7_1 m g _ _) (by simp [*]) (by decide) (eP (.inl rfl))).q, rfl⟩
theorem yb8 {m : Mc} {g : Nat → Int} (hm : m.Ok) (hg : ∀ e, B8 (g e)) (hh : m.halt = false) (h0 : g (ix m.pc) = 184) : Goes m g (w16 (m.pc + 1)) := by
  obtain ⟨r0, r1, r2, r3, r4, r5, r7, sp, pc⟩ := id hm
  rcases Bool.eq_false_or_eq_true m.fc with hf | hf
  · exact ⟨_, (joinP hm hh h0 (pb8_0 m g _ _) (by simp [*]) (by decide) (eP (.inl rfl))).q, rfl⟩
  · exact ⟨_, (joinP hm hh h0 (pb8_1 m g _ _) (by simp [*]) (by decide) (eP (.inl rfl))).q, rfl⟩
theorem yb9 {m : Mc} {g : Nat → Int} (hm : m.Ok) (hg : ∀ e, B8 (g e)) (hh : m.halt = false) (h0 : g (ix m.pc) = 185) : Goes m g (w16 (m.pc + 1)) := by
  obtain ⟨r0, r1, r2, r3, r4, r5, r7, sp, pc⟩ := id hm
  rcases Bool.eq_false_or_eq_true m.fc with hf | hf
  · exact ⟨_, (joinP hm hh h0 (pb9_0 m g _ _) (by simp [*]) (by decide) (eP (.inl rfl))).q, rfl⟩
  · exact ⟨_, (joinP hm hh h0 (pb9_1 m g _ _) (by simp [*]) (by decide) (eP (.inl rfl))).q, rfl⟩
theorem yba {m : Mc} {g : Nat → Int} (hm : m.Ok) (hg : ∀ e, B8 (g e)) (hh : m.halt = false) (h0 : g (ix m.pc) = 186) : Goes m g (w16 (m.pc + 1)) := by
  obtain ⟨r0, r1, r2, r3, r4, r5, r7, sp, pc⟩ := id hm
  rcases Bool.eq_false_or_eq_true m.fc with hf | hf
  · exact ⟨_, (joinP hm hh h0 (pba_0 m g _ _) (by simp [*]) (by decide) (eP (.inl rfl))).q, rfl⟩
  · exact ⟨_, (joinP hm hh h0 (pba_1 m g _ _) (by simp [*]) (by decide) (eP (.inl rfl))).q, rfl⟩
theorem ybb {m : Mc} {g : Nat → Int} (hm : m.Ok) (hg : ∀ e, B8 (g e)) (hh : m.halt = false) (h0 : g (ix m.pc) = 187) : Goes m g (w16 (m.pc + 1)) := by
  obtain ⟨r0, r1, r2, r3, r4, r5, r7, sp, pc⟩ := id hm
  rcases Bool.eq_false_or_eq_true m.fc with hf | hf
  · exact ⟨_, (joinP hm hh h0 (pbb_0 m g _ _) (by simp [*]) (by decide) (eP (.inl rfl))).q, rfl⟩
  · exact ⟨_, (joinP hm hh h0 (pbb_1 m g _ _) (by simp [*]) (by decide) (eP (.inl rfl))).q, rfl⟩
theorem ybc {m : Mc} {g : Nat → Int} (hm : m.Ok) (hg : ∀ e, B8 (g e)) (hh : m.halt = false) (h0 : g (ix m.pc) = 188) : Goes m g (w16 (m.pc + 1)) := by
  obtain ⟨r0, r1, r2, r3, r4, r5, r7, sp, pc⟩ := id hm
  rcases Bool.eq_false_or_eq_true m.fc with hf | hf
  · exact ⟨_, (joinP hm hh h0 (pbc_0 m g _ _) (by simp [*]) (by decide) (eP (.inl rfl))).q, rfl⟩
  · exact ⟨_, (joinP hm hh h0 (pbc_1 m g _ _) (by simp [*]) (by decide) (eP (.inl rfl))).q, rfl⟩
theorem ybd {m : Mc} {g : Nat → Int} (hm : m.Ok) (hg : ∀ e, B8 (g e)) (hh : m.halt = false) (h0 : g (ix m.pc) = 189) : Goes m g (w16 (m.pc + 1)) := by
  obtain ⟨r0, r1, r2, r3, r4, r5, r7, sp, pc⟩ := id hm
  rcases Bool.eq_false_or_eq_true m.fc with hf | hf
  · exact ⟨_, (joinP hm hh h0 (pbd_0 m g _ _) (by simp [*]) (by decide) (eP (.inl rfl))).q, rfl⟩
  · exact ⟨_, (joinP hm hh h0 (pbd_1 m g _ _) (by simp [*]) (by decide) (eP (.inl rfl))).q, rfl⟩
theorem ybe {m : Mc} {g : Nat → Int} (hm : m.Ok) (hg : ∀ e, B8 (g e)) (hh : m.halt = false) (h0 : g (ix m.pc) = 190) : Goes m g (w16 (m.pc + 1)) := by
  obtain ⟨r0, r1, r2, r3, r4, r5, r7, sp, pc⟩ := id hm
  rcases Bool.eq_false_or_eq_true m.fc with hf | hf
  · exact ⟨_, (joinP hm hh h0 (pbe_0 m g _ _) (by simp [*]) (by decide) (eP (.inl rfl))).q, rfl⟩
  · exact ⟨_, (joinP hm hh h0 (pbe_1 m g _ _) (by simp [*]) (by decide) (eP (.inl rfl))).q, rfl⟩
theorem ybf {m : Mc} {g : Nat → Int} (hm : m.Ok) (hg : ∀ e, B8 (g e)) (hh : m.halt = false) (h0 : g (ix m.pc) = 191) : Goes m g (w16 (m.pc + 1)) := by
  obtain ⟨r0, r1, r2, r3, r4, r5, r7, sp, pc⟩ := id hm
  rcases Bool.eq_false_or_eq_true m.fc with hf | hf
  · exact ⟨_, (joinP hm hh h0 (pbf_0 m g _ _) (by simp [*]) (by decide) (eP (.inl rfl))).q, rfl⟩
  · exact ⟨_, (joinP hm hh h0 (pbf_1 m g _ _) (by simp [*]) (by decide) (eP (.inl rfl))).q, rfl⟩
theorem way11 {m : Mc} {g : Nat → Int} (hm : m.Ok) (hg : ∀ e, B8 (g e)) (hh : m.halt = false) {op : Int} (h0 : g (ix m.pc) = op) (h1 : 176 ≤ op) (h2 : op < 192) : WayA op m g := by
  have h : op = 176 ∨ op = 177 ∨ op = 178 ∨ op = 179 ∨ op = 180 ∨ op = 181 ∨ op = 182 ∨ op = 183 ∨ op = 184 ∨ op = 185 ∨ op = 186 ∨ op = 187 ∨ op = 188 ∨ op = 189 ∨ op = 190 ∨ op = 191 := by omega
  rcases h with rfl | rfl | rfl | rfl | rfl | rfl | rfl | rfl | rfl | rfl | rfl | rfl | rfl | rfl | rfl | rfl
  · exact wayA1 (n := 1) (by kernel_rfl) (by kernel_rfl) (yb0 hm hg hh h0)
  · exact wayA1 (n := 1) (by kernel_rfl) (by kernel_rfl) (yb1 hm hg hh h0)
  · exact wayA1 (n := 1) (by kernel_rfl) (by kernel_rfl) (yb2 hm hg hh h0)
  · exact wayA1 (n := 1) (by kernel_rfl) (by kernel_rfl) (yb3 hm hg hh h0)
  · exact wayA1 (n := 1) (by kernel_rfl) (by kernel_rfl) (yb4 hm hg hh h0)
  · exact wayA1 (n := 1) (by kernel_rfl) (by kernel_rfl) (yb5 hm hg hh h0)
  · exact wayA1 (n := 1) (by kernel_rfl) (by kernel_rfl) (yb6 hm hg hh h0)
  · exact wayA1 (n := 1) (by kernel_rfl) (by kernel_rfl) (yb7 hm hg hh h0)
  · exact wayA1 (n := 1) (by kernel_rfl) (by kernel_rfl) (yb8 hm hg hh h0)
  · exact wayA1 (n := 1) (by kernel_rfl) (by kernel_rfl) (yb9 hm hg hh h0)
  · exact wayA1 (n := 1) (by kernel_rfl) (by kernel_rfl) (yba hm hg hh h0)
  · exact wayA1 (n := 1) (by kernel_rfl) (by kernel_rfl) (ybb hm hg hh h0)
  · exact wayA1 (n := 1) (by kernel_rfl) (by kernel_rfl) (ybc hm hg hh h0)
  · exact wayA1 (n := 1) (by kernel_rfl) (by kernel_rfl) (ybd hm hg hh h0)
  · exact wayA1 (n := 1) (by kernel_rfl) (by kernel_rfl) (ybe hm hg hh h0)
  · exact wayA1 (n := 1) (by kernel_rfl) (by kernel_rfl) (ybf hm hg hh h0)
end Go.Proofs.Ytdjmpilegommlaa
namespace Go.Proofs.Ytdjmpilegommlaa
open Go Go.Ly Go.RowKit
theorem yc1 {m : Mc} {g : Nat → Int} (hm : m.Ok) (hg : ∀ e, B8 (g e)) (hh : m.halt = false) (h0 : g (ix m.pc) = 193) : Goes m g (w16 (m.pc + 1)) := by
  obtain ⟨r0, r1, r2, r3, r4, r5, r7, sp, pc⟩ := id hm
  exact ⟨_, (joinP hm hh h0 (pc1_0 m g _ _) (by simp [*]) (by decide) (eP (.inl rfl))).q, rfl⟩
theorem yc2 {m : Mc} {g : Nat → Int} (hm : m.Ok) (hg : ∀ e, B8 (g e)) (hh : m.halt = false) (h0 : g (ix m.pc) = 194) : Goes m g (nw m g) ∨ Goes m g (w16 (m.pc + 3)) := by
  obtain ⟨r0, r1, r2, r3, r4, r5, r7, sp, pc⟩ := id hm
  rcases Bool.eq_false_or_eq_true m.fz with hf | hf
  · exact .inr ⟨_, (joinP hm hh h0 (pc2_1 m g _ _) (by simp [*]) (by decide) (eP (.inl rfl))).q, rfl⟩
  · exact .inl ⟨_, (joinP hm hh h0 (pc2_0 m g _ _) (by simp [*]) (by decide) (eP (.inl rfl))).q, rfl⟩
theorem yc3 {m : Mc} {g : Nat → Int} (hm : m.Ok) (hg : ∀ e, B8 (g e)) (hh : m.halt = false) (h0 : g (ix m.pc) = 195) : Goes m g (nw m g) := by
  obtain ⟨r0, r1, r2, r3, r4, r5, r7, sp, pc⟩ := id hm
  exact ⟨_, (joinP hm hh h0 (pc3_0 m g _ _) (by simp [*]) (by decide) (eP (.inl rfl))).q, rfl⟩
theorem yc4 {m : Mc} {g : Nat → Int} (hm : m.Ok) (hg : ∀ e, B8 (g e)) (hh : m.halt = false) (h0 : g (ix m.pc) = 196) : Goes m g (nw m g) ∨ Goes m g (w16 (m.pc + 3)) := by
  obtain ⟨r0, r1, r2, r3, r4, r5, r7, sp, pc⟩ := id hm
  rcases Bool.eq_false_or_eq_true m.fz with hf | hf
  · exact .inr ⟨_, (joinP hm hh h0 (pc4_1 m g _ _) (by simp [*]) (by decide) (eP (.inl rfl))).q, rfl⟩
  · exact .inl ⟨_, (joinP hm hh h0 (pc4_0 m g _ _) (by simp [*]) (by decide) (eP (m2s rfl rfl rfl rfl))).q, rfl⟩
theorem yc5 {m : Mc} {g : Nat → Int} (hm : m.Ok) (hg : ∀ e, B8 (g e)) (hh : m.halt = false) (h0 : g (ix m.pc) = 197) : Goes m g (w16 (m.pc + 1)) := by
  obtain ⟨r0, r1, r2, r3, r4, r5, r7, sp, pc⟩ := id hm
  exact ⟨_, (joinP hm hh h0 (pc5_0 m g _ _) (by simp [*]) (by decide) (eP (m2s rfl rfl rfl rfl))).q, rfl⟩
theorem yc6 {m : Mc} {g : Nat → Int} (hm : m.Ok) (hg : ∀ e, B8 (g e)) (hh : m.halt = false) (h0 : g (ix m.pc) = 198) : Goes m g (w16 (m.pc + 2)) := by
  obtain ⟨r0, r1, r2, r3, r4, r5, r7, sp, pc⟩ := id hm
  rcases Bool.eq_false_or_eq_true m.fc with hf | hf
  · exact ⟨_, (joinP hm hh h0 (pc6_0 m g _ _) (by simp [*]) (by decide) (eP (.inl rfl))).q, rfl⟩
  · exact ⟨_, (joinP hm hh h0 (pc6_1 m g _ _) (by simp [*]) (by decide) (eP (.inl rfl))).q, rfl⟩
theorem yc7 {m : Mc} {g : Nat → Int} (hm : m.Ok) (hg : ∀ e, B8 (g e)) (hh : m.halt = false) (h0 : g (ix m.pc) = 199) : Goes m g (0) := by
  obtain ⟨r0, r1, r2, r3, r4, r5, r7, sp, pc⟩ := id hm
  exact ⟨_, (joinP hm hh h0 (pc7_0 m g _ _) (by simp [*]) (by decide) (eP (m2s rfl rfl rfl rfl))).q, rfl⟩
theorem yca {m : Mc} {g : Nat → Int} (hm : m.Ok) (hg : ∀ e, B8 (g e)) (hh : m.halt = false) (h0 : g (ix m.pc) = 202) : Goes m g (nw m g) ∨ Goes m g (w16 (m.pc + 3)) := by
  obtain ⟨r0, r1, r2, r3, r4, r5, r7, sp, pc⟩ := id hm
  rcases Bool.eq_false_or_eq_true m.fz with hf | hf
  · exact .inl ⟨_, (joinP hm hh h0 (pca_0 m g _ _) (by simp [*]) (by decide) (eP (.inl rfl))).q, rfl⟩
  · exact .inr ⟨_, (joinP hm hh h0 (pca_1 m g _ _) (by simp [*]) (by decide) (eP (.inl rfl))).q, rfl⟩
theorem ycc {m : Mc} {g : Nat → Int} (hm : m.Ok) (hg : ∀ e, B8 (g e)) (hh : m.halt = false) (h0 : g (ix m.pc) = 204) : Goes m g (nw m g) ∨ Goes m g (w16 (m.pc + 3)) := by
  obtain ⟨r0, r1, r2, r3, r4, r5, r7, sp, pc⟩ := id hm
  rcases Bool.eq_false_or_eq_true m.fz with hf | hf
  · exact .inl ⟨_, (joinP hm hh h0 (pcc_0 m g _ _) (by simp [*]) (by decide) (eP (m2s rfl rfl rfl rfl))).q, rfl⟩
  · exact .inr ⟨_, (joinP hm hh h0 (pcc_1 m g _ _) (by simp [*]) (by decide) (eP (.inl rfl))).q, rfl⟩
theorem ycd {m : Mc} {g : Nat → Int} (hm : m.Ok) (hg : ∀ e, B8 (g e)) (hh : m.halt = false) (h0 : g (ix m.pc) = 205) : Goes m g (nw m g) := by
  obtain ⟨r0, r1, r2, r3, r4, r5, r7, sp, pc⟩ := id hm
  exact ⟨_, (joinP hm hh h0 (pcd_0 m g _ _) (by simp [*]) (by decide) (eP (m2s rfl rfl rfl rfl))).q, rfl⟩
theorem yce {m : Mc} {g : Nat → Int} (hm : m.Ok) (hg : ∀ e, B8 (g e)) (hh : m.halt = false) (h0 : g (ix m.pc) = 206) : Goes m g (w16 (m.pc + 2)) := by
  obtain ⟨r0, r1, r2, r3, r4, r5, r7, sp, pc⟩ := id hm
  rcases Bool.eq_false_or_eq_true m.fc with hf | hf
  · exact ⟨_, (joinP hm hh h0 (pce_0 m g _ _) (by simp [*]) (by decide) (eP (.inl rfl))).q, rfl⟩
  · exact ⟨_, (joinP hm hh h0 (pce_1 m g _ _) (by simp [*]) (by decide) (eP (.inl rfl))).q, rfl⟩
theorem ycf {m : Mc} {g : Nat → Int} (hm : m.Ok) (hg : ∀ e, B8 (g e)) (hh : m.halt = false) (h0 : g (ix m.pc) = 207) : Goes m g (8) := by
  obtain ⟨r0, r1, r2, r3, r4, r5, r7, sp, pc⟩ := id hm
  exact ⟨_, (joinP hm hh h0 (pcf_0 m g _ _) (by simp [*]) (by decide) (eP (m2s rfl rfl rfl rfl))).q, rfl⟩
theorem way12 {m : Mc} {g : Nat → Int} (hm : m.Ok) (hg : ∀ e, B8 (g e)) (hh : m.halt = false) {op : Int} (h0 : g (ix m.pc) = op) (h1 : 192 ≤ op) (h2 : op < 208) : WayA op m g := by
  have h : op = 192 ∨ op = 193 ∨ op = 194 ∨ op = 195 ∨ op = 196 ∨ op = 197 ∨ op = 198 ∨ op = 199 ∨ op = 200 ∨ op = 201 ∨ op = 202 ∨ op = 203 ∨ op = 204 ∨ op = 205 ∨ op = 206 ∨ op = 207 := by omega
  rcases h with rfl | rfl | rfl | rfl | rfl | rfl | rfl | rfl | rfl | rfl | rfl | rfl | rfl | rfl | rfl | rfl
  · exact wayA0 (by kernel_rfl)
  · exact wayA1 (n := 1) (by kernel_rfl) (by kernel_rfl) (yc1 hm hg hh h0)
  · exact wayA3 (by kernel_rfl) (yc2 hm hg hh h0)
  · exact wayA2 (by kernel_rfl) (yc3 hm hg hh h0)
  · exact wayA3 (by kernel_rfl) (yc4 hm hg hh h0)
  · exact wayA1 (n := 1) (by kernel_rfl) (by kernel_rfl) (yc5 hm hg hh h0)
  · exact wayA1 (n := 2) (by kernel_rfl) (by kernel_rfl) (yc6 hm hg hh h0)
  · exact wayA4 (n := 0) (by kernel_rfl) (by kernel_rfl) (yc7 hm hg hh h0)
  · exact wayA0 (by kernel_rfl)
  · exact wayA0 (by kernel_rfl)
  · exact wayA3 (by kernel_rfl) (yca hm hg hh h0)
  · exact wayA0 (by kernel_rfl)
  · exact wayA3 (by kernel_rfl) (ycc hm hg hh h0)
  · exact wayA2 (by kernel_rfl) (ycd hm hg hh h0)
  · exact wayA1 (n := 2) (by kernel_rfl) (by kernel_rfl) (yce hm hg hh h0)
  · exact wayA4 (n := 8) (by kernel_rfl) (by kernel_rfl) (ycf hm hg hh h0)
end Go.Proofs.Ytdjmpilegommlaa
namespace Go.Proofs.Ytdjmpilegommlaa
open Go Go.Ly Go.RowKit
theorem yd1 {m : Mc} {g : Nat → Int} (hm : m.Ok) (hg : ∀ e, B8 (g e)) (hh : m.halt = false) (h0 : g (ix m.pc) = 209) : Goes m g (w16 (m.pc + 1)) := by
  obtain ⟨r0, r1, r2, r3, r4, r5, r7, sp, pc⟩ := id hm
  exact ⟨_, (joinP hm hh h0 (pd1_0 m g _ _) (by simp [*]) (by decide) (eP (.inl rfl))).q, rfl⟩
theorem yd2 {m : Mc} {g : Nat → Int} (hm : m.Ok) (hg : ∀ e, B8 (g e)) (hh : m.halt = false) (h0 : g (ix m.pc) = 210) : Goes m g (nw m g) ∨ Goes m g (w16 (m.pc + 3)) := by
  obtain ⟨r0, r1, r2, r3, r4, r5, r7, sp, pc⟩ := id hm
  rcases Bool.eq_false_or_eq_true m.fc with hf | hf
  · exact .inr ⟨_, (joinP hm hh h0 (pd2_1 m g _ _) (by simp [*]) (by decide) (eP (.inl rfl))).q, rfl⟩
  · exact .inl ⟨_, (joinP hm hh h0 (pd2_0 m g _ _) (by simp [*]) (by decide) (eP (.inl rfl))).q, rfl⟩
theorem yd3 {m : Mc} {g : Nat → Int} (hm : m.Ok) (hg : ∀ e, B8 (g e)) (hh : m.halt = false) (h0 : g (ix m.pc) = 211) : Goes m g (w16 (m.pc + 2)) := ⟨_, endsQ_q (endsQ hm hh h0 (ouR m g _ _) (by omega)) (fun n => rfl), rfl⟩
theorem yd4 {m : Mc} {g : Nat → Int} (hm : m.Ok) (hg : ∀ e, B8 (g e)) (hh : m.halt = false) (h0 : g (ix m.pc) = 212) : Goes m g (nw m g) ∨ Goes m g (w16 (m.pc + 3)) := by
  obtain ⟨r0, r1, r2, r3, r4, r5, r7, sp, pc⟩ := id hm
  rcases Bool.eq_false_or_eq_true m.fc with hf | hf
  · exact .inr ⟨_, (joinP hm hh h0 (pd4_1 m g _ _) (by simp [*]) (by decide) (eP (.inl rfl))).q, rfl⟩
  · exact .inl ⟨_, (joinP hm hh h0 (pd4_0 m g _ _) (by simp [*]) (by decide) (eP (m2s rfl rfl rfl rfl))).q, rfl⟩
theorem yd5 {m : Mc} {g : Nat → Int} (hm : m.Ok) (hg : ∀ e, B8 (g e)) (hh : m.halt = false) (h0 : g (ix m.pc) = 213) : Goes m g (w16 (m.pc + 1)) := by
  obtain ⟨r0, r1, r2, r3, r4, r5, r7, sp, pc⟩ := id hm
  exact ⟨_, (joinP hm hh h0 (pd5_0 m g _ _) (by simp [*]) (by decide) (eP (m2s rfl rfl rfl rfl))).q, rfl⟩
theorem yd6 {m : Mc} {g : Nat → Int} (hm : m.Ok) (hg : ∀ e, B8 (g e)) (hh : m.halt = false) (h0 : g (ix m.pc) = 214) : Goes m g (w16 (m.pc + 2)) := by
  obtain ⟨r0, r1, r2, r3, r4, r5, r7, sp, pc⟩ := id hm
  rcases Bool.eq_false_or_eq_true m.fc with hf | hf
  · exact ⟨_, (joinP hm hh h0 (pd6_0 m g _ _) (by simp [*]) (by decide) (eP (.inl rfl))).q, rfl⟩
  · exact ⟨_, (joinP hm hh h0 (pd6_1 m g _ _) (by simp [*]) (by decide) (eP (.inl rfl))).q, rfl⟩
theorem yd7 {m : Mc} {g : Nat → Int} (hm : m.Ok) (hg : ∀ e, B8 (g e)) (hh : m.halt = false) (h0 : g (ix m.pc) = 215) : Goes m g (16) := by
  obtain ⟨r0, r1, r2, r3, r4, r5, r7, sp, pc⟩ := id hm
  exact ⟨_, (joinP hm hh h0 (pd7_0 m g _ _) (by simp [*]) (by decide) (eP (m2s rfl rfl rfl rfl))).q, rfl⟩
theorem yda {m : Mc} {g : Nat → Int} (hm : m.Ok) (hg : ∀ e, B8 (g e)) (hh : m.halt = false) (h0 : g (ix m.pc) = 218) : Goes m g (nw m g) ∨ Goes m g (w16 (m.pc + 3)) := by
  obtain ⟨r0, r1, r2, r3, r4, r5, r7, sp, pc⟩ := id hm
  rcases Bool.eq_false_or_eq_true m.fc with hf | hf
  · exact .inl ⟨_, (joinP hm hh h0 (pda_0 m g _ _) (by simp [*]) (by decide) (eP (.inl rfl))).q, rfl⟩
  · exact .inr ⟨_, (joinP hm hh h0 (pda_1 m g _ _) (by simp [*]) (by decide) (eP (.inl rfl))).q, rfl⟩
theorem ydb {m : Mc} {g : Nat → Int} (hm : m.Ok) (hg : ∀ e, B8 (g e)) (hh : m.halt = false) (h0 : g (ix m.pc) = 219) : Goes m g (w16 (m.pc + 2)) := ⟨_, endsQ_q (endsQ hm hh h0 (inpR m g _ _) (by omega)) (fun n => rfl), rfl⟩
theorem ydc {m : Mc} {g : Nat → Int} (hm : m.Ok) (hg : ∀ e, B8 (g e)) (hh : m.halt = false) (h0 : g (ix m.pc) = 220) : Goes m g (nw m g) ∨ Goes m g (w16 (m.pc + 3)) := by
  obtain ⟨r0, r1, r2, r3, r4, r5, r7, sp, pc⟩ := id hm
  rcases Bool.eq_false_or_eq_true m.fc with hf | hf
  · exact .inl ⟨_, (joinP hm hh h0 (pdc_0 m g _ _) (by simp [*]) (by decide) (eP (m2s rfl rfl rfl rfl))).q, rfl⟩
  · exact .inr ⟨_, (joinP hm hh h0 (pdc_1 m g _ _) (by simp [*]) (by decide) (eP (.inl rfl))).q, rfl⟩
theorem yde {m : Mc} {g : Nat → Int} (hm : m.Ok) (hg : ∀ e, B8 (g e)) (hh : m.halt = false) (h0 : g (ix m.pc) = 222) : Goes m g (w16 (m.pc + 2)) := by
  obtain ⟨r0, r1, r2, r3, r4, r5, r7, sp, pc⟩ := id hm
  rcases Bool.eq_false_or_eq_true m.fc with hf | hf
  · exact ⟨_, (joinP hm hh h0 (pde_0 m g _ _) (by simp [*]) (by decide) (eP (.inl rfl))).q, rfl⟩
  · exact ⟨_, (joinP hm hh h0 (pde_1 m g _ _) (by simp [*]) (by decide) (eP (.inl rfl))).q, rfl⟩
theorem ydf {m : Mc} {g : Nat → Int} (hm : m.Ok) (hg : ∀ e, B8 (g e)) (hh : m.halt = false) (h0 : g (ix m.pc) = 223) : Goes m g (24) := by
  obtain ⟨r0, r1, r2, r3, r4, r5, r7, sp, pc⟩ := id hm
  exact ⟨_, (joinP hm hh h0 (pdf_0 m g _ _) (by simp [*]) (by decide) (eP (m2s rfl rfl rfl rfl))).q, rfl⟩
theorem way13 {m : Mc} {g : Nat → Int} (hm : m.Ok) (hg : ∀ e, B8 (g e)) (hh : m.halt = false) {op : Int} (h0 : g (ix m.pc) = op) (h1 : 208 ≤ op) (h2 : op < 224) : WayA op m g := by
  have h : op = 208 ∨ op = 209 ∨ op = 210 ∨ op = 211 ∨ op = 212 ∨ op = 213 ∨ op = 214 ∨ op = 215 ∨ op = 216 ∨ op = 217 ∨ op = 218 ∨ op = 219 ∨ op = 220 ∨ op = 221 ∨ op = 222 ∨ op = 223 := by omega
  rcases h with rfl | rfl | rfl | rfl | rfl | rfl | rfl | rfl | rfl | rfl | rfl | rfl | rfl | rfl | rfl | rfl
  · exact wayA0 (by kernel_rfl)
  · exact wayA1 (n := 1) (by kernel_rfl) (by kernel_rfl) (yd1 hm hg hh h0)
  · exact wayA3 (by kernel_rfl) (yd2 hm hg hh h0)
  · exact wayA1 (n := 2) (by kernel_rfl) (by kernel_rfl) (yd3 hm hg hh h0)
  · exact wayA3 (by kernel_rfl) (yd4 hm hg hh h0)
  · exact wayA1 (n := 1) (by kernel_rfl) (by kernel_rfl) (yd5 hm hg hh h0)
  · exact wayA1 (n := 2) (by kernel_rfl) (by kernel_rfl) (yd6 hm hg hh h0)
  · exact wayA4 (n := 16) (by kernel_rfl) (by kernel_rfl) (yd7 hm hg hh h0)
  · exact wayA0 (by kernel_rfl)
  · exact wayA0 (by kernel_rfl)
  · exact wayA3 (by kernel_rfl) (yda hm hg hh h0)
  · exact wayA1 (n := 2) (by kernel_rfl) (by kernel_rfl) (ydb hm hg hh h0)
  · exact wayA3 (by kernel_rfl) (ydc hm hg hh h0)
  · exact wayA0 (by kernel_rfl)
  · exact wayA1 (n := 2) (by kernel_rfl) (by kernel_rfl) (yde hm hg hh h0)
  · exact wayA4 (n := 24) (by kernel_rfl) (by kernel_rfl) (ydf hm hg hh h0)
end Go.Proofs.Ytdjmpilegommlaa
namespace Go.Proofs.Ytdjmpilegommlaa
open Go Go.Ly Go.RowKit
theorem ye1 {m : Mc} {g : Nat → Int} (hm : m.Ok) (hg : ∀ e, B8 (g e)) (hh : m.halt = false) (h0 : g (ix m.pc) = 225) : Goes m g (w16 (m.pc + 1)) := by
  obtain ⟨r0, r1, r2, r3, r4, r5, r7, sp, pc⟩ := id hm
  exact ⟨_, (joinP hm hh h0 (pe1_0 m g _ _) (by simp [*]) (by decide) (eP (.inl rfl))).q, rfl⟩
theorem ye2 {m : Mc} {g : Nat → Int} (hm : m.Ok) (hg : ∀ e, B8 (g e)) (hh : m.halt = false) (h0 : g (ix m.pc) = 226) : Goes m g (nw m g) ∨ Goes m g (w16 (m.pc + 3)) := by
  obtain ⟨r0, r1, r2, r3, r4, r5, r7, sp, pc⟩ := id hm
  rcases Bool.eq_false_or_eq_true m.fp with hf | hf
  · exact .inr ⟨_, (joinP hm hh h0 (pe2_1 m g _ _) (by simp [*]) (by decide) (eP (.inl rfl))).q, rfl⟩
  · exact .inl ⟨_, (joinP hm hh h0 (pe2_0 m g _ _) (by simp [*]) (by decide) (eP (.inl rfl))).q, rfl⟩
theorem ye3 {m : Mc} {g : Nat → Int} (hm : m.Ok) (hg : ∀ e, B8 (g e)) (hh : m.halt = false) (h0 : g (ix m.pc) = 227) : Goes m g (w16 (m.pc + 1)) := by
  obtain ⟨r0, r1, r2, r3, r4, r5, r7, sp, pc⟩ := id hm
  exact ⟨_, (joinP hm hh h0 (pe3_0 m g _ _) (by simp [*]) (by decide) (eP (m2s rfl rfl rfl rfl))).q, rfl⟩
theorem ye4 {m : Mc} {g : Nat → Int} (hm : m.Ok) (hg : ∀ e, B8 (g e)) (hh : m.halt = false) (h0 : g (ix m.pc) = 228) : Goes m g (nw m g) ∨ Goes m g (w16 (m.pc + 3)) := by
  obtain ⟨r0, r1, r2, r3, r4, r5, r7, sp, pc⟩ := id hm
  rcases Bool.eq_false_or_eq_true m.fp with hf | hf
  · exact .inr ⟨_, (joinP hm hh h0 (pe4_1 m g _ _) (by simp [*]) (by decide) (eP (.inl rfl))).q, rfl⟩
  · exact .inl ⟨_, (joinP hm hh h0 (pe4_0 m g _ _) (by simp [*]) (by decide) (eP (m2s rfl rfl rfl rfl))).q, rfl⟩
theorem ye5 {m : Mc} {g : Nat → Int} (hm : m.Ok) (hg : ∀ e, B8 (g e)) (hh : m.halt = false) (h0 : g (ix m.pc) = 229) : Goes m g (w16 (m.pc + 1)) := by
  obtain ⟨r0, r1, r2, r3, r4, r5, r7, sp, pc⟩ := id hm
  exact ⟨_, (joinP hm hh h0 (pe5_0 m g _ _) (by simp [*]) (by decide) (eP (m2s rfl rfl rfl rfl))).q, rfl⟩
theorem ye6 {m : Mc} {g : Nat → Int} (hm : m.Ok) (hg : ∀ e, B8 (g e)) (hh : m.halt = false) (h0 : g (ix m.pc) = 230) : Goes m g (w16 (m.pc + 2)) := by
  obtain ⟨r0, r1, r2, r3, r4, r5, r7, sp, pc⟩ := id hm
  rcases Bool.eq_false_or_eq_true m.fc with hf | hf
  · exact ⟨_, (joinP hm hh h0 (pe6_0 m g _ _) (by simp [*]) (by decide) (eP (.inl rfl))).q, rfl⟩
  · exact ⟨_, (joinP hm hh h0 (pe6_1 m g _ _) (by simp [*]) (by decide) (eP (.inl rfl))).q, rfl⟩
theorem ye7 {m : Mc} {g : Nat → Int} (hm : m.Ok) (hg : ∀ e, B8 (g e)) (hh : m.halt = false) (h0 : g (ix m.pc) = 231) : Goes m g (32) := by
  obtain ⟨r0, r1, r2, r3, r4, r5, r7, sp, pc⟩ := id hm
  exact ⟨_, (joinP hm hh h0 (pe7_0 m g _ _) (by simp [*]) (by decide) (eP (m2s rfl rfl rfl rfl))).q, rfl⟩
theorem yea {m : Mc} {g : Nat → Int} (hm : m.Ok) (hg : ∀ e, B8 (g e)) (hh : m.halt = false) (h0 : g (ix m.pc) = 234) : Goes m g (nw m g) ∨ Goes m g (w16 (m.pc + 3)) := by
  obtain ⟨r0, r1, r2, r3, r4, r5, r7, sp, pc⟩ := id hm
  rcases Bool.eq_false_or_eq_true m.fp with hf | hf
  · exact .inl ⟨_, (joinP hm hh h0 (pea_0 m g _ _) (by simp [*]) (by decide) (eP (.inl rfl))).q, rfl⟩
  · exact .inr ⟨_, (joinP hm hh h0 (pea_1 m g _ _) (by simp [*]) (by decide) (eP (.inl rfl))).q, rfl⟩
theorem yeb {m : Mc} {g : Nat → Int} (hm : m.Ok) (hg : ∀ e, B8 (g e)) (hh : m.halt = false) (h0 : g (ix m.pc) = 235) : Goes m g (w16 (m.pc + 1)) := by
  obtain ⟨r0, r1, r2, r3, r4, r5, r7, sp, pc⟩ := id hm
  exact ⟨_, (joinP hm hh h0 (peb_0 m g _ _) (by simp [*]) (by decide) (eP (.inl rfl))).q, rfl⟩
theorem yec {m : Mc} {g : Nat → Int} (hm : m.Ok) (hg : ∀ e, B8 (g e)) (hh : m.halt = false) (h0 : g (ix m.pc) = 236) : Goes m g (nw m g) ∨ Goes m g (w16 (m.pc + 3)) := by
  obtain ⟨r0, r1, r2, r3, r4, r5, r7, sp, pc⟩ := id hm
  rcases Bool.eq_false_or_eq_true m.fp with hf | hf
  · exact .inl ⟨_, (joinP hm hh h0 (pec_0 m g _ _) (by simp [*]) (by decide) (eP (m2s rfl rfl rfl rfl))).q, rfl⟩
  · exact .inr ⟨_, (joinP hm hh h0 (pec_1 m g _ _) (by simp [*]) (by decide) (eP (.inl rfl))).q, rfl⟩
theorem yee {m : Mc} {g : Nat → Int} (hm : m.Ok) (hg : ∀ e, B8 (g e)) (hh : m.halt = false) (h0 : g (ix m.pc) = 238) : Goes m g (w16 (m.pc + 2)) := by
  obtain ⟨r0, r1, r2, r3, r4, r5, r7, sp, pc⟩ := id hm
  rcases Bool.eq_false_or_eq_true m.fc with hf | hf
  · exact ⟨_, (joinP hm hh h0 (pee_0 m g _ _) (by simp [*]) (by decide) (eP (.inl rfl))).q, rfl⟩
  · exact ⟨_, (joinP hm hh h0 (pee_1 m g _ _) (by simp [*]) (by decide) (eP (.inl rfl))).q, rfl⟩
theorem yef {m : Mc} {g : Nat → Int} (hm : m.Ok) (hg : ∀ e, B8 (g e)) (hh : m.halt = false) (h0 : g (ix m.pc) = 239) : Goes m g (40) := by
  obtain ⟨r0, r1, r2, r3, r4, r5, r7, sp, pc⟩ := id hm
  exact ⟨_, (joinP hm hh h0 (pef_0 m g _ _) (by simp [*]) (by decide) (eP (m2s rfl rfl rfl rfl))).q, rfl⟩
theorem way14 {m : Mc} {g : Nat → Int} (hm : m.Ok) (hg : ∀ e, B8 (g e)) (hh : m.halt = false) {op : Int} (h0 : g (ix m.pc) = op) (h1 : 224 ≤ op) (h2 : op < 240) : WayA op m g := by
  have h : op = 224 ∨ op = 225 ∨ op = 226 ∨ op = 227 ∨ op = 228 ∨ op = 229 ∨ op = 230 ∨ op = 231 ∨ op = 232 ∨ op = 233 ∨ op = 234 ∨ op = 235 ∨ op = 236 ∨ op = 237 ∨ op = 238 ∨ op = 239 := by omega
  rcases h with rfl | rfl | rfl | rfl | rfl | rfl | rfl | rfl | rfl | rfl | rfl | rfl | rfl | rfl | rfl | rfl
  · exact wayA0 (by kernel_rfl)
  · exact wayA1 (n := 1) (by kernel_rfl) (by kernel_rfl) (ye1 hm hg hh h0)
  · exact wayA3 (by kernel_rfl) (ye2 hm hg hh h0)
  · exact wayA1 (n := 1) (by kernel_rfl) (by kernel_rfl) (ye3 hm hg hh h0)
  · exact wayA3 (by kernel_rfl) (ye4 hm hg hh h0)
  · exact wayA1 (n := 1) (by kernel_rfl) (by kernel_rfl) (ye5 hm hg hh h0)
  · exact wayA1 (n := 2) (by kernel_rfl) (by kernel_rfl) (ye6 hm hg hh h0)
  · exact wayA4 (n := 32) (by kernel_rfl) (by kernel_rfl) (ye7 hm hg hh h0)
  · exact wayA0 (by kernel_rfl)
  · exact wayA0 (by kernel_rfl)
  · exact wayA3 (by kernel_rfl) (yea hm hg hh h0)
  · exact wayA1 (n := 1) (by kernel_rfl) (by kernel_rfl) (yeb hm hg hh h0)
  · exact wayA3 (by kernel_rfl) (yec hm hg hh h0)
  · exact wayA0 (by kernel_rfl)
  · exact wayA1 (n := 2) (by kernel_rfl) (by kernel_rfl) (yee hm hg hh h0)
  · exact wayA4 (n := 40) (by kernel_rfl) (by kernel_rfl) (yef hm hg hh h0)
end Go.Proofs.Ytdjmpilegommlaa
namespace Go.Proofs.Ytdjmpilegommlaa
open Go Go.Ly Go.RowKit
theorem yf1 {m : Mc} {g : Nat → Int} (hm : m.Ok) (hg : ∀ e, B8 (g e)) (hh : m.halt = false) (h0 : g (ix m.pc) = 241) : Goes m g (w16 (m.pc + 1)) := by
  obtain ⟨r0, r1, r2, r3, r4, r5, r7, sp, pc⟩ := id hm
  exact ⟨_, (joinP hm hh h0 (pf1_0 m g _ _) (by simp [*]) (by decide) (eP (.inl rfl))).q, rfl⟩
theorem yf2 {m : Mc} {g : Nat → Int} (hm : m.Ok) (hg : ∀ e, B8 (g e)) (hh : m.halt = false) (h0 : g (ix m.pc) = 242) : Goes m g (nw m g) ∨ Goes m g (w16 (m.pc + 3)) := by
  obtain ⟨r0, r1, r2, r3, r4, r5, r7, sp, pc⟩ := id hm
  rcases Bool.eq_false_or_eq_true m.fs with hf | hf
  · exact .inr ⟨_, (joinP hm hh h0 (pf2_1 m g _ _) (by simp [*]) (by decide) (eP (.inl rfl))).q, rfl⟩
  · exact .inl ⟨_, (joinP hm hh h0 (pf2_0 m g _ _) (by simp [*]) (by decide) (eP (.inl rfl))).q, rfl⟩
theorem yf3 {m : Mc} {g : Nat → Int} (hm : m.Ok) (hg : ∀ e, B8 (g e)) (hh : m.halt = false) (h0 : g (ix m.pc) = 243) : Goes m g (w16 (m.pc + 1)) := by
  obtain ⟨r0, r1, r2, r3, r4, r5, r7, sp, pc⟩ := id hm
  exact ⟨_, (joinP hm hh h0 (pf3_0 m g _ _) (by simp [*]) (by decide) (eP (.inl rfl))).q, rfl⟩
theorem yf4 {m : Mc} {g : Nat → Int} (hm : m.Ok) (hg : ∀ e, B8 (g e)) (hh : m.halt = false) (h0 : g (ix m.pc) = 244) : Goes m g (nw m g) ∨ Goes m g (w16 (m.pc + 3)) := by
  obtain ⟨r0, r1, r2, r3, r4, r5, r7, sp, pc⟩ := id hm
  rcases Bool.eq_false_or_eq_true m.fs with hf | hf
  · exact .inr ⟨_, (joinP hm hh h0 (pf4_1 m g _ _) (by simp [*]) (by decide) (eP (.inl rfl))).q, rfl⟩
  · exact .inl ⟨_, (joinP hm hh h0 (pf4_0 m g _ _) (by simp [*]) (by decide) (eP (m2s rfl rfl rfl rfl))).q, rfl⟩
theorem yf5 {m : Mc} {g : Nat → Int} (hm : m.Ok) (hg : ∀ e, B8 (g e)) (hh : m.halt = false) (h0 : g (ix m.pc) = 245) : Goes m g (w16 (m.pc + 1)) := by
  obtain ⟨r0, r1, r2, r3, r4, r5, r7, sp, pc⟩ := id hm
  exact ⟨_, (joinP hm hh h0 (pf5_0 m g _ _) (by simp [*]) (by decide) (eP (m2s rfl rfl rfl rfl))).q, rfl⟩
theorem yf6 {m : Mc} {g : Nat → Int} (hm : m.Ok) (hg : ∀ e, B8 (g e)) (hh : m.halt = false) (h0 : g (ix m.pc) = 246) : Goes m g (w16 (m.pc + 2)) := by
  obtain ⟨r0, r1, r2, r3, r4, r5, r7, sp, pc⟩ := id hm
  rcases Bool.eq_false_or_eq_true m.fc with hf | hf
  · exact ⟨_, (joinP hm hh h0 (pf6_0 m g _ _) (by simp [*]) (by decide) (eP (.inl rfl))).q, rfl⟩
  · exact ⟨_, (joinP hm hh h0 (pf6_1 m g _ _) (by simp [*]) (by decide) (eP (.inl rfl))).q, rfl⟩
theorem yf7 {m : Mc} {g : Nat → Int} (hm : m.Ok) (hg : ∀ e, B8 (g e)) (hh : m.halt = false) (h0 : g (ix m.pc) = 247) : Goes m g (48) := by
  obtain ⟨r0, r1, r2, r3, r4, r5, r7, sp, pc⟩ := id hm
  exact ⟨_, (joinP hm hh h0 (pf7_0 m g _ _) (by simp [*]) (by decide) (eP (m2s rfl rfl rfl rfl))).q, rfl⟩
theorem yf9 {m : Mc} {g : Nat → Int} (hm : m.Ok) (hg : ∀ e, B8 (g e)) (hh : m.halt = false) (h0 : g (ix m.pc) = 249) : Goes m g (w16 (m.pc + 1)) := by
  obtain ⟨r0, r1, r2, r3, r4, r5, r7, sp, pc⟩ := id hm
  exact ⟨_, (joinP hm hh h0 (pf9_0 m g _ _) (by simp [*]) (by decide) (eP (.inl rfl))).q, rfl⟩
theorem yfa {m : Mc} {g : Nat → Int} (hm : m.Ok) (hg : ∀ e, B8 (g e)) (hh : m.halt = false) (h0 : g (ix m.pc) = 250) : Goes m g (nw m g) ∨ Goes m g (w16 (m.pc + 3)) := by
  obtain ⟨r0, r1, r2, r3, r4, r5, r7, sp, pc⟩ := id hm
  rcases Bool.eq_false_or_eq_true m.fs with hf | hf
  · exact .inl ⟨_, (joinP hm hh h0 (pfa_0 m g _ _) (by simp [*]) (by decide) (eP (.inl rfl))).q, rfl⟩
  · exact .inr ⟨_, (joinP hm hh h0 (pfa_1 m g _ _) (by simp [*]) (by decide) (eP (.inl rfl))).q, rfl⟩
theorem yfb {m : Mc} {g : Nat → Int} (hm : m.Ok) (hg : ∀ e, B8 (g e)) (hh : m.halt = false) (h0 : g (ix m.pc) = 251) : Goes m g (w16 (m.pc + 1)) := by
  obtain ⟨r0, r1, r2, r3, r4, r5, r7, sp, pc⟩ := id hm
  exact ⟨_, (joinP hm hh h0 (pfb_0 m g _ _) (by simp [*]) (by decide) (eP (.inl rfl))).q, rfl⟩
theorem yfc {m : Mc} {g : Nat → Int} (hm : m.Ok) (hg : ∀ e, B8 (g e)) (hh : m.halt = false) (h0 : g (ix m.pc) = 252) : Goes m g (nw m g) ∨ Goes m g (w16 (m.pc + 3)) := by
  obtain ⟨r0, r1, r2, r3, r4, r5, r7, sp, pc⟩ := id hm
  rcases Bool.eq_false_or_eq_true m.fs with hf | hf
  · exact .inl ⟨_, (joinP hm hh h0 (pfc_0 m g _ _) (by simp [*]) (by decide) (eP (m2s rfl rfl rfl rfl))).q, rfl⟩
  · exact .inr ⟨_, (joinP hm hh h0 (pfc_1 m g _ _) (by simp [*]) (by decide) (eP (.inl rfl))).q, rfl⟩
theorem yfe {m : Mc} {g : Nat → Int} (hm : m.Ok) (hg : ∀ e, B8 (g e)) (hh : m.halt = false) (h0 : g (ix m.pc) = 254) : Goes m g (w16 (m.pc + 2)) := by
  obtain ⟨r0, r1, r2, r3, r4, r5, r7, sp, pc⟩ := id hm
  rcases Bool.eq_false_or_eq_true m.fc with hf | hf
  · exact ⟨_, (joinP hm hh h0 (pfe_0 m g _ _) (by simp [*]) (by decide) (eP (.inl rfl))).q, rfl⟩
  · exact ⟨_, (joinP hm hh h0 (pfe_1 m g _ _) (by simp [*]) (by decide) (eP (.inl rfl))).q, rfl⟩
theorem yff {m : Mc} {g : Nat → Int} (hm : m.Ok) (hg : ∀ e, B8 (g e)) (hh : m.halt = false) (h0 : g (ix m.pc) = 255) : Goes m g (56) := by
  obtain ⟨r0, r1, r2, r3, r4, r5, r7, sp, pc⟩ := id hm
  exact ⟨_, (joinP hm hh h0 (pff_0 m g _ _) (by simp [*]) (by decide) (eP (m2s rfl rfl rfl rfl))).q, rfl⟩
theorem way15 {m : Mc} {g : Nat → Int} (hm : m.Ok) (hg : ∀ e, B8 (g e)) (hh : m.halt = false) {op : Int} (h0 : g (ix m.pc) = op) (h1 : 240 ≤ op) (h2 : op < 256) : WayA op m g := by
  have h : op = 240 ∨ op = 241 ∨ op = 242 ∨ op = 243 ∨ op = 244 ∨ op = 245 ∨ op = 246 ∨ op = 247 ∨ op = 248 ∨ op = 249 ∨ op = 250 ∨ op = 251 ∨ op = 252 ∨ op = 253 ∨ op = 254 ∨ op = 255 := by omega
  rcases h with rfl | rfl | rfl | rfl | rfl | rfl | rfl | rfl | rfl | rfl | rfl | rfl | rfl | rfl | rfl | rfl
  · exact wayA0 (by kernel_rfl)
  · exact wayA1 (n := 1) (by kernel_rfl) (by kernel_rfl) (yf1 hm hg hh h0)
  · exact wayA3 (by kernel_rfl) (yf2 hm hg hh h0)
  · exact wayA1 (n := 1) (by kernel_rfl) (by kernel_rfl) (yf3 hm hg hh h0)
  · exact wayA3 (by kernel_rfl) (yf4 hm hg hh h0)
  · exact wayA1 (n := 1) (by kernel_rfl) (by kernel_rfl) (yf5 hm hg hh h0)
  · exact wayA1 (n := 2) (by kernel_rfl) (by kernel_rfl) (yf6 hm hg hh h0)
  · exact wayA4 (n := 48) (by kernel_rfl) (by kernel_rfl) (yf7 hm hg hh h0)
  · exact wayA0 (by kernel_rfl)
  · exact wayA1 (n := 1) (by kernel_rfl) (by kernel_rfl) (yf9 hm hg hh h0)
  · exact wayA3 (by kernel_rfl) (yfa hm hg hh h0)
  · exact wayA1 (n := 1) (by kernel_rfl) (by kernel_rfl) (yfb hm hg hh h0)
  · exact wayA3 (by kernel_rfl) (yfc hm hg hh h0)
  · exact wayA0 (by kernel_rfl)
  · exact wayA1 (n := 2) (by kernel_rfl) (by kernel_rfl) (yfe hm hg hh h0)
  · exact wayA4 (n := 56) (by kernel_rfl) (by kernel_rfl) (yff hm hg hh h0)
end Go.Proofs.Ytdjmpilegommlaa
namespace Go.Proofs.Ytdjmpilegommlaa
open Go Go.Ly Go.RowKit
theorem way_all {m : Mc} {g : Nat → Int} (hm : m.Ok) (hg : ∀ e, B8 (g e)) (hh : m.halt = false) {op : Int} (h0 : g (ix m.pc) = op) (h1 : 0 ≤ op) (h2 : op ≤ 255) : WayA op m g := by
  rcases Int.lt_or_le op 16 with k0 | k0
  · exact way0 hm hg hh h0 (by omega) k0
  rcases Int.lt_or_le op 32 with k1 | k1
  · exact way1 hm hg hh h0 (by omega) k1
  rcases Int.lt_or_le op 48 with k2 | k2
  · exact way2 hm hg hh h0 (by omega) k2
  rcases Int.lt_or_le op 64 with k3 | k3
  · exact way3 hm hg hh h0 (by omega) k3
  rcases Int.lt_or_le op 80 with k4 | k4
  · exact way4 hm hg hh h0 (by omega) k4
  rcases Int.lt_or_le op 96 with k5 | k5
  · exact way5 hm hg hh h0 (by omega) k5
  rcases Int.lt_or_le op 112 with k6 | k6
  · exact way6 hm hg hh h0 (by omega) k6
  rcases Int.lt_or_le op 128 with k7 | k7
  · exact way7 hm hg hh h0 (by omega) k7
  rcases Int.lt_or_le op 144 with k8 | k8
  · exact way8 hm hg hh h0 (by omega) k8
  rcases Int.lt_or_le op 160 with k9 | k9
  · exact way9 hm hg hh h0 (by omega) k9
  rcases Int.lt_or_le op 176 with k10 | k10
  · exact way10 hm hg hh h0 (by omega) k10
  rcases Int.lt_or_le op 192 with k11 | k11
  · exact way11 hm hg hh h0 (by omega) k11
  rcases Int.lt_or_le op 208 with k12 | k12
  · exact way12 hm hg hh h0 (by omega) k12
  rcases Int.lt_or_le op 224 with k13 | k13
  · exact way13 hm hg hh h0 (by omega) k13
  rcases Int.lt_or_le op 240 with k14 | k14
  · exact way14 hm hg hh h0 (by omega) k14
  exact way15 hm hg hh h0 k14 (by omega)
end Go.Proofs.Ytdjmpilegommlaa
namespace Go.Proofs.Ytdjmpilegommlaa
open Go Go.Ly Go.RowKit
def kdB (x : Int) : Bool := sizeT x == 0 || (decide (1 ≤ sizeT x) && (decide (sizeT x ≤ 3) && (IntKind.u16.wrap (sizeT x) == sizeT x && (IntKind.u16.wrap (bits .and .u8 x 56) == bits .and .u8 x 56 && (bif x == 205 then Nat.beq (kindT x) 2 && sizeT x == 3 else bif bits .and .u8 x 199 == 199 then Nat.beq (kindT x) 4 else bif endsB x then (bif x == 195 then Nat.beq (kindT x) 2 && sizeT x == 3 else true) else bif jumpsB x then Nat.beq (kindT x) 3 && sizeT x == 3 else (bits .and .u8 x 199 == 192 || Nat.beq (kindT x) 1))))))
theorem kd_run : ((List.range 256).all fun n => kdB (n : Nat)) = true := by kernel_rfl
theorem kd_all {x : Int} (h0 : 0 ≤ x) (h1 : x ≤ 255) : kdB x = true := by
  obtain ⟨n, rfl⟩ := Int.eq_ofNat_of_zero_le h0
  exact List.all_eq_true.1 kd_run n (List.mem_range.2 (by omega))
theorem one_in {v : Int} {r : Bool} (h : (nxOne v r).2 = false) : 0 ≤ v ∧ (nxOne v r).1 = [v] ∧ r = false := by
  unfold nxOne at h ⊢
  cases c : decide (v < 0) with
  | true => rw [c] at h; cases h
  | false => rw [c] at h; exact ⟨by simpa using c, rfl, h⟩
theorem two_in {u v : Int} {r : Bool} (h : (nxTwo u v r).2 = false) : 0 ≤ u ∧ 0 ≤ v ∧ r = false ∧ u ∈ (nxTwo u v r).1 ∧ v ∈ (nxTwo u v r).1 := by
  unfold nxTwo at h ⊢
  cases c : decide (u < 0) with
  | true => rw [c] at h; cases c2 : decide (v < 0) <;> (rw [c2] at h; cases h)
  | false =>
    rw [c] at h; simp only [cond_false] at h ⊢
    cases c2 : decide (v < 0) with
    | true => rw [c2] at h; cases h
    | false =>
      rw [c2] at h; simp only [cond_false] at h ⊢
      have hu : 0 ≤ u := by simpa using c
      have hv : 0 ≤ v := by simpa using c2
      cases c3 : decide (v < u) with
      | true => rw [c3] at h; exact ⟨hu, hv, h, by simp, by simp⟩
      | false =>
        rw [c3] at h; simp only [cond_false] at h ⊢
        cases c4 : (v == u) with
        | true => rw [c4] at h; exact ⟨hu, hv, h, by simp, by simp; simpa using c4⟩
        | false => rw [c4] at h; exact ⟨hu, hv, h, by simp, by simp⟩
theorem in_ix {l : List Int} {v : Int} (h : v ∈ l) : ∃ e, e < l.length ∧ (l[e]?).getD 0 = v := by
  obtain ⟨e, he, h1⟩ := List.getElem_of_mem h
  exact ⟨e, he, by rw [List.getElem?_eq_getElem he]; exact h1⟩
theorem goes_to {m : Mc} {g a o n : Nat → Int} {k : Nat} {i : Int} (hm : m.Ok) (hg : ∀ e, B8 (g e)) (hh : m.halt = false) (h0 : g (ix m.pc) = xO o i) (hpc : m.pc = xN a i) (hnw : sizeT (xO o i) = 3 → nw m g = xN n i)
    (hx0 : 0 ≤ xO o i) (hx1 : xO o i ≤ 255) (hs : sizeT (xO o i) ≠ 0) (g0 : 0 ≤ i) (g1 : i < k) (hop : (toN a o n k i).2 = false) :
    ∃ mc, StQ m g mc 0 ∧ ∃ e, e < (toN a o n k i).1.length ∧ 0 ≤ toI a o n k i e ∧ toI a o n k i e < k ∧ a (toI a o n k i e).toNat = mc.pc := by
  have key : ∀ {v : Int} {x : Int}, v ∈ (toN a o n k i).1 → 0 ≤ v → v = atN k a x → Goes m g x →
      ∃ mc, StQ m g mc 0 ∧ ∃ e, e < (toN a o n k i).1.length ∧ 0 ≤ toI a o n k i e ∧ toI a o n k i e < k ∧ a (toI a o n k i e).toNat = mc.pc := by
    intro v x hv h1 h2 ⟨mc, h3, h4⟩
    obtain ⟨e, he, h5⟩ := in_ix hv
    obtain ⟨h6, h7⟩ := atN_spec (show 0 ≤ atN k a x by omega)
    refine ⟨mc, h3, e, he, ?_⟩
    have h8 : toI a o n k i e = v := h5
    rw [h8, h2, h4]
    exact ⟨by omega, h6, h7⟩
  have hw := way_all hm hg hh h0 hx0 hx1
  have hk := kd_all hx0 hx1
  have eN : toN a o n k i = nxI k a o n i := by
    unfold toN; rw [sh_eq, sh_eq, sh_eq, sh_eq, sh_eq, sh_eq]
    unfold nxF; rw [decide_eq_false (show ¬ i < 0 by omega), decide_eq_false (show ¬ (k : Int) ≤ i by omega)]; rfl
  have eA : ∀ y, aN k a y i = atN k a (xN y i) := fun y => by unfold aN; rw [sh_eq]
  have eR : aR k a o i = atN k a (xR o i) := by unfold aR; rw [sh_eq]
  have eB : aB k a o i = atN k a (xB a o i) := by unfold aB; rw [sh_eq]
  rw [eN] at hop key ⊢
  unfold kdB at hk
  rw [show (sizeT (xO o i) == 0) = false by simpa using hs, Bool.false_or] at hk
  simp only [Bool.and_eq_true, beq_iff_eq, decide_eq_true_eq] at hk
  obtain ⟨k1, k2, k3, k4, k5⟩ := hk
  have e99 : m99 o i = (bits .and .u8 (xO o i) 199 == 199) := rfl
  have ert : rtn o i = (bits .and .u8 (xO o i) 199 == 192) := rfl
  unfold nxI at hop key ⊢
  cases c1 : (xO o i == 205) with
  | true =>
    rw [c1] at hop key k5; simp only [cond_true] at hop key k5 ⊢
    simp only [Bool.and_eq_true, beq_iff_eq] at k5
    obtain ⟨q0, q1, q2⟩ := one_in hop
    rw [q1] at key ⊢
    exact key (List.mem_singleton.2 rfl) q0 (eA n) (by rw [← hnw k5.2]; exact hw.2.1 (Nat.eq_of_beq_eq_true k5.1))
  | false =>
    rw [c1] at hop key k5; simp only [cond_false] at hop key k5 ⊢
    cases c2 : m99 o i with
    | true =>
      rw [← e99] at k5
      rw [c2] at hop key k5; simp only [cond_true] at hop key k5 ⊢
      obtain ⟨q0, q1, q2⟩ := one_in hop
      rw [q1] at key ⊢
      refine key (List.mem_singleton.2 rfl) q0 eR ?_
      have := hw.2.2.2 (Nat.eq_of_beq_eq_true k5)
      unfold xR; rw [k4]; exact this
    | false =>
      rw [← e99] at k5
      rw [c2] at hop key k5; simp only [cond_false] at hop key k5 ⊢
      cases c3 : endsB (xO o i) with
      | true =>
        rw [c3] at hop key k5; simp only [cond_true] at hop key k5 ⊢
        cases c4 : (xO o i == 195) with
        | true =>
          rw [c4] at hop key k5; simp only [cond_true] at hop key k5 ⊢
          simp only [Bool.and_eq_true, beq_iff_eq] at k5
          obtain ⟨q0, q1, q2⟩ := one_in hop
          rw [q1] at key ⊢
          exact key (List.mem_singleton.2 rfl) q0 (eA n) (by rw [← hnw k5.2]; exact hw.2.1 (Nat.eq_of_beq_eq_true k5.1))
        | false => rw [c4] at hop; cases hop
      | false =>
        rw [c3] at hop key k5; simp only [cond_false] at hop key k5 ⊢
        cases c4 : jumpsB (xO o i) with
        | true =>
          rw [c4] at hop key k5; simp only [cond_true] at hop key k5 ⊢
          simp only [Bool.and_eq_true, beq_iff_eq] at k5
          obtain ⟨q0, q1, q2, q3, q4⟩ := two_in hop
          rcases hw.2.2.1 (Nat.eq_of_beq_eq_true k5.1) with hgo | hgo
          · exact key q3 q0 (eA n) (by rw [← hnw k5.2]; exact hgo)
          · refine key q4 q1 eB ?_
            have : xB a o i = w16 (m.pc + 3) := by
              unfold xB; rw [k3, k5.2, hpc]; rfl
            rw [this]; exact hgo
        | false =>
          rw [c4] at hop key k5; simp only [cond_false] at hop key k5 ⊢
          obtain ⟨q0, q1, q2⟩ := one_in hop
          rw [q1] at key ⊢
          rw [← ert, q2, Bool.false_or] at k5
          refine key (List.mem_singleton.2 rfl) q0 eB ?_
          have : xB a o i = w16 (m.pc + sizeT (xO o i)) := by
            unfold xB; rw [k3, hpc]; rfl
          rw [this]; exact hw.1 (Nat.eq_of_beq_eq_true k5)
def gM1 (x op : Int) : Nat → Int := fun e => upd zF (ix x) op (0 + e)
def gM2 (x op n : Int) : Nat → Int := fun e => upd (upd zF (ix x) op) (ix (at1' x)) (w8 n) (0 + e)
def gM3 (x op n : Int) : Nat → Int := fun e => upd (upd (upd zF (ix x) op) (ix (at1' x)) (w8 n)) (ix (at2' x)) (w8 (n.fdiv 256)) (0 + e)
theorem lo1 (x op : Int) : LOeq (shG (mG1 x op)) (memL (gM1 x op)) := by
  refine .inr ⟨1, _, _, _, _, rfl, rfl, fun e j _ hj => ?_⟩
  obtain rfl : j = 0 := by omega
  rfl
theorem lo2 (x op n : Int) : LOeq (shG (mG2 x op n)) (memL (gM2 x op n)) := by
  refine .inr ⟨1, _, _, _, _, rfl, rfl, fun e j _ hj => ?_⟩
  obtain rfl : j = 0 := by omega
  rfl
theorem lo3 (x op n : Int) : LOeq (shG (mG3 x op n)) (memL (gM3 x op n)) := by
  refine .inr ⟨1, _, _, _, _, rfl, rfl, fun e j _ hj => ?_⟩
  obtain rfl : j = 0 := by omega
  rfl
theorem upd_at (g : Nat → Int) (i : Nat) (v : Int) : upd g i v (0 + i) = v := by unfold upd; rw [Nat.zero_add, Nat.beq_refl]; rfl
theorem upd_ne {g : Nat → Int} {i j : Nat} {v : Int} (h : j ≠ i) : upd g i v (0 + j) = g j := by
  unfold upd
  have : Nat.beq (0 + j) i = false := by rw [Nat.zero_add, Bool.eq_false_iff, Ne, Nat.beq_eq]; exact h
  rw [this]; simp
theorem ix1 {x : Int} (h : B16 x) : ix x ≠ ix (at1' x) := by unfold B16 at h; unfold ix at1'; rw [IntKind.wrap_u16]; omega
theorem ix2 {x : Int} (h : B16 x) : ix x ≠ ix (at2' x) := by unfold B16 at h; unfold ix at2'; rw [IntKind.wrap_u16]; omega
theorem ix12 {x : Int} (h : B16 x) : ix (at1' x) ≠ ix (at2' x) := by unfold B16 at h; unfold ix at1' at2'; rw [IntKind.wrap_u16, IntKind.wrap_u16]; omega
theorem upd_ne' {g : Nat → Int} {i j : Nat} {v : Int} (h : j ≠ i) : upd g i v j = g j := by have := upd_ne (g := g) (v := v) h; rwa [Nat.zero_add] at this
theorem upd_at' (g : Nat → Int) (i : Nat) (v : Int) : upd g i v i = v := by have := upd_at g i v; rwa [Nat.zero_add] at this
theorem op1 {x op : Int} (h : B16 x) : gM1 x op (ix x) = op := upd_at _ _ _
theorem op2 {x op n : Int} (h : B16 x) : gM2 x op n (ix x) = op := by unfold gM2; rw [upd_ne (ix1 h), upd_at']
theorem op3 {x op n : Int} (h : B16 x) : gM3 x op n (ix x) = op := by unfold gM3; rw [upd_ne (ix2 h), upd_ne' (ix1 h), upd_at']
theorem nw3 {m : Mc} {x op n : Int} (hp : m.pc = x) (h : B16 x) (hn : B16 n) : nw m (gM3 x op n) = n := by
  unfold nw
  have e1 : gM3 x op n (at1 m.pc 1) = w8 n := by rw [hp]; show upd _ _ _ (0 + ix (at1' x)) = _; rw [upd_ne (ix12 h), upd_at']
  have e2 : gM3 x op n (at1 m.pc 2) = w8 (n.fdiv 256) := by rw [hp]; show upd _ _ _ (0 + ix (at2' x)) = _; rw [upd_at]
  rw [e1, e2]
  simp
  unfold B16 at hn
  rw [w8e, w8e, show n.fdiv 256 = n / 256 from Int.fdiv_eq_ediv_of_nonneg _ (by omega)]; omega
theorem b8z : ∀ e, B8 (zF e) := fun e => by unfold zF B8; omega
theorem b8g1 {x op : Int} (h : B8 op) : ∀ e, B8 (gM1 x op e) := fun e => upd_b8 b8z h (0 + e)
theorem b8g2 {x op n : Int} (h : B8 op) : ∀ e, B8 (gM2 x op n e) := fun e => upd_b8 (upd_b8 b8z h) (b8w8 n) (0 + e)
theorem b8g3 {x op n : Int} (h : B8 op) : ∀ e, B8 (gM3 x op n e) := fun e => upd_b8 (upd_b8 (upd_b8 b8z h) (b8w8 n)) (b8w8 _) (0 + e)
theorem waC (k m : Nat) (H : Heap) : callOf env (waS k m H) = some (23, [ptr 10]) := by kernel_rfl
theorem bhW (k m : Nat) (H K K' : Heap) : { wlS0 k m H K with H := K' } = wlS0 k m H K' := by kernel_rfl
theorem ow_x (b : Nat) (m : Mc) (i o : Value) : OW (.cells (cellsPb b m i o) 53) (.cells (cellsX m) 53) := by
  refine OW.cells ?_
  simp only [cellsPb, cellsX, VWL]
  exact ⟨_, _, VW.refl _, ⟨_, _, VW.refl _, ⟨_, _, VW.refl _, ⟨_, _, VW.refl _, ⟨_, _, VW.refl _, ⟨_, _, VW.refl _, ⟨_, _, VW.refl _, ⟨_, _, VW.refl _, ⟨_, _, VW.refl _, ⟨_, _, VW.refl _, ⟨_, _, VW.refl _, ⟨_, _, VW.refl _, ⟨_, _, VW.refl _, ⟨_, _, VW.refl _, ⟨_, _, VW.refl _, ⟨_, _, VW.refl _, ⟨_, _, VW.refl _, ⟨_, _, VW.any _, ⟨_, _, VW.any _, ⟨_, _, VW.any _, rfl, rfl⟩, rfl⟩, rfl⟩, rfl⟩, rfl⟩, rfl⟩, rfl⟩, rfl⟩, rfl⟩, rfl⟩, rfl⟩, rfl⟩, rfl⟩, rfl⟩, rfl⟩, rfl⟩, rfl⟩, rfl⟩, rfl⟩, rfl⟩
theorem waTail {a o n g : Nat → Int} {k m : Nat} {mc : Mc} {gm : Nat → Int} {H : Heap} (hl : H.lock = 0) (hn : H.next ≤ 1000) (hc : ∀ i o, i < H.next → H.get i = some o → noTokO o = true) (h10 : H.get 10 = some (.cells (cellsPb 9 mc nilS nilS) 53)) (h9 : H.get 9 = some (memL gm))
    (h5 : H.get 5 = some (toL g m)) (h0 : H.get 0 = some (ndL a o n k)) (hm : m ≤ 1000) (ht : ∃ mc', StQ mc gm mc' 0 ∧ ∃ e, e < m ∧ 0 ≤ g e ∧ g e < k ∧ a (g e).toNat = mc'.pc) :
    MWp Try.prog (waS k m H) (fun u _ => u = .bool true) := by
  have hbig : big = 2147483000 := rfl
  obtain ⟨mc', hs, e, he, q0, q1, q2⟩ := ht
  refine MWp.ltn (fun (hlt : ∀ i o, H.get i = some o → i < H.next) (_ : H.next < big) => ?_)
  have hc : Ly.Clean H := fun i o ho => hc i o (hlt i o ho) ho
  refine MWp.call envOk (waC k m H) (hs H 10 9 h10 h9 (by decide) hl hc (by omega)) ?_
  rintro u K ⟨rfl, k1, k2, k3, ⟨iv, ov, k4⟩, k5⟩
  have k3 : K.next = H.next + 62 := k3
  have k5 : ∀ i, i < H.next → i ≠ 10 → i ≠ 9 → K.get i = H.get i := k5
  have hHb : (wlS0 k m H K).H = K := behind_H (E := env) (by rw [waC]; rfl)
  show MWp Try.prog (wlS0 k m H K) _
  refine MWp.few (I := [10, 5, 0]) (os := [.cells (cellsX mc') 53, toL g m, ndL a o n k]) (n := 2000) (by rw [hHb]; exact k1) (by rw [hHb]; omega) (by omega) rfl (by decide) (by decide) (fun j y o hj hoo => ?_) ?_
  · rw [hHb]
    rcases j with _ | _ | _ | j
    · simp at hj hoo; subst hj hoo; exact ⟨_, k4, ow_x _ _ _ _⟩
    · simp at hj hoo; subst hj hoo; exact ⟨_, by rw [k5 5 (hlt _ _ h5) (by decide) (by decide)]; exact h5, OW.refl _⟩
    · simp at hj hoo; subst hj hoo; exact ⟨_, by rw [k5 0 (hlt _ _ h0) (by decide) (by decide)]; exact h0, OW.refl _⟩
    · simp at hj
  · rw [bhW]
    refine MWp.head cxQ_ok _ _ _ _ (wl_0 a o n g k m mc' H) trivial (wl_P a o n g k m mc') ?_
    exact wl_loop a o n g k m mc' hm e he q0 q1 q2 e 0 (by omega)
theorem waMid {a o n : Nat → Int} {k : Nat} {i r0 r1 r2 r3 r4 r5 r7 : Int} {s z x p c : Bool} {g : Nat → Nat → Value} {gm : Nat → Int} {H : Heap} (hnx : H.next = 11) (hl : H.lock = 0) (hc : Ly.Clean H) (hos : [10, 9, 5, 0].map H.get = waO a o n k i r0 r1 r2 r3 r4 r5 r7 s z x p c g)
    (hlo : LOeq (shG g) (memL gm)) (hm : (toN a o n k i).1.length ≤ 1000)
    (ht : ∃ mc', StQ (mW (xN a i) r0 r1 r2 r3 r4 r5 r7 s z x p c) gm mc' 0 ∧ ∃ e, e < (toN a o n k i).1.length ∧ 0 ≤ toI a o n k i e ∧ toI a o n k i e < k ∧ a (toI a o n k i e).toNat = mc'.pc) :
    MWp Try.prog (atSt Try.f8 waK none 1 (waV k (toN a o n k i).1.length) H) (fun u _ => u = .bool true) := by
  have hbig : big = 2147483000 := rfl
  simp only [waO, List.map_cons, List.map_nil, List.cons.injEq, and_true] at hos
  obtain ⟨e1, e2, e3, e4⟩ := hos
  have hS : (atSt Try.f8 waK none 1 (waV k (toN a o n k i).1.length) H).H = H := rfl
  refine MWp.few (I := [10, 9, 5, 0]) (os := [.cells (cellsPb 9 (mW (xN a i) r0 r1 r2 r3 r4 r5 r7 s z x p c) nilS nilS) 53, memL gm, toL (toI a o n k i) (toN a o n k i).1.length, ndL a o n k]) (n := 11)
    (by rw [hS]; exact hl) (by rw [hS]; omega) (by omega) rfl (by decide) (by decide) (fun j y o hj hoo => ?_) ?_
  · rw [hS]
    rcases j with _ | _ | _ | _ | j
    · simp at hj hoo; subst hj hoo; exact ⟨_, e1, OW.refl _⟩
    · simp at hj hoo; subst hj hoo; exact ⟨_, e2, .inr hlo⟩
    · simp at hj hoo; subst hj hoo; exact ⟨_, e3, OW.refl _⟩
    · simp at hj hoo; subst hj hoo; exact ⟨_, e4, OW.refl _⟩
    · simp at hj
  · exact waTail (o := o) (n := n) (H := vH [10, 9, 5, 0] _ 11) rfl (by show 11 ≤ 1000; omega) (fun i o hi ho => cleanB_spec 11 (by kernel_rfl) i hi o ho) (by kernel_rfl) (by kernel_rfl) (by kernel_rfl) (by kernel_rfl) hm ht
theorem gL8 : cxQ.fn.get 8 = some Try.f8 := by kernel_rfl
theorem riF_spec {a o : Nat → Int} : ∀ (d i : Nat), riF a o d i = true → ∀ e, i ≤ e → e < i + d → sizeT (o e) ≠ 0
  | 0, i, _, e, h1, h2 => by omega
  | d + 1, i, h, e, h1, h2 => by
    unfold riF at h
    cases hb : riB a o i with
    | true => rw [hb] at h; cases h
    | false =>
      rw [hb] at h
      by_cases he : e = i
      · subst he
        unfold riB at hb
        rw [Bool.or_eq_false_iff] at hb
        simpa using hb.2
      · exact riF_spec d (i + 1) h e (by omega) (by omega)
theorem bifP {α : Type} {P : α → Prop} (b : Bool) {x y : α} (hx : P x) (hy : P y) : P (bif b then x else y) := by cases b <;> assumption
theorem one_len (v : Int) (r : Bool) : (nxOne v r).1.length ≤ 2 := bifP (P := fun q : List Int × Bool => q.1.length ≤ 2) _ (by simp) (by simp)
theorem two_len (u v : Int) (r : Bool) : (nxTwo u v r).1.length ≤ 2 :=
  bifP (P := fun q : List Int × Bool => q.1.length ≤ 2) _ (bifP (P := fun q : List Int × Bool => q.1.length ≤ 2) _ (by simp) (by simp)) (bifP (P := fun q : List Int × Bool => q.1.length ≤ 2) _ (by simp)
    (bifP (P := fun q : List Int × Bool => q.1.length ≤ 2) _ (by simp) (bifP (P := fun q : List Int × Bool => q.1.length ≤ 2) _ (by simp) (by simp))))
theorem nxI_P {P : List Int × Bool → Prop} {k : Nat} {a o n : Nat → Int} {i : Int} (h1 : ∀ v r, P (nxOne v r)) (h2 : ∀ u v r, P (nxTwo u v r)) (h0 : P ([], true)) : P (nxI k a o n i) :=
  bifP _ (h1 _ _) (bifP _ (h1 _ _) (bifP _ (bifP _ (h1 _ _) h0) (bifP _ (h2 _ _ _) (h1 _ _))))
theorem nx_len (k : Nat) (a o n : Nat → Int) (i : Int) : (nxF k a o n i).1.length ≤ 2 :=
  bifP (P := fun q : List Int × Bool => q.1.length ≤ 2) _ (by simp) (nxI_P (P := fun q => q.1.length ≤ 2) one_len two_len (by simp))
theorem nx_ne {k : Nat} {a o n : Nat → Int} {i : Int} (h0 : 0 ≤ i) (h1 : i < k) (h : (nxF k a o n i).2 = false) : (nxF k a o n i).1.length ≠ 0 := by
  have e : nxF k a o n i = nxI k a o n i := by unfold nxF; rw [decide_eq_false (show ¬ i < 0 by omega), decide_eq_false (show ¬ (k : Int) ≤ i by omega)]; rfl
  rw [e] at h ⊢
  revert h
  refine nxI_P (P := fun q => q.2 = false → q.1.length ≠ 0) (fun v r h => ?_) (fun u v r h => ?_) (fun h => by cases h)
  · rw [(one_in h).2.1]; simp
  · intro e
    have := (two_in h).2.2.2.1
    rw [List.eq_nil_of_length_eq_zero e] at this; cases this
section
variable (a o n : Nat → Int) (i r0 r1 r2 r3 r4 r5 r6 r7 : Int) (k : Nat) (s z x p c : Bool)
theorem wo1 : (Ly.run cxQ 9000 [(0, false)] (waS0 a o n i r0 r1 r2 r3 r4 r5 r6 r7 k s z x p c)).out? = some ([(decide ((40 : Int) < k) == false, false)], .bool true) := by kernel_rfl
theorem wo2 : (Ly.run cxQ 9000 [(0, true), (2, false)] (waS0 a o n i r0 r1 r2 r3 r4 r5 r6 r7 k s z x p c)).out? = some ([(decide ((40 : Int) < k) == false, true), (decide (i < 0) == false, false)], .bool true) := by kernel_rfl
theorem wo3 : (Ly.run cxQ 9000 [(0, true), (2, true), (4, false)] (waS0 a o n i r0 r1 r2 r3 r4 r5 r6 r7 k s z x p c)).out? = some ([(decide ((40 : Int) < k) == false, true), (decide (i < 0) == false, true), (decide ((k : Int) ≤ i) == false, false)], .bool true) := by kernel_rfl
theorem wo4 : (Ly.run cxQ 9000 [(0, true), (2, true), (4, true), (1, true), (2, true)] (waS0 a o n i r0 r1 r2 r3 r4 r5 r6 r7 k s z x p c)).out? = some ([(decide ((40 : Int) < k) == false, true), (decide (i < 0) == false, true), (decide ((k : Int) ≤ i) == false, true), (rowT2 a o n k, true), (!(riN k (sh a) (sh o)), true)], .bool true) := by kernel_rfl
def woT (l : List (Bool × Bool)) : List (Bool × Bool) := (decide ((40 : Int) < k) == false, true) :: (decide (i < 0) == false, true) :: (decide ((k : Int) ≤ i) == false, true) :: (rowT2 a o n k, true) :: (!(riN k (sh a) (sh o)), false) :: (ixB k i, true) :: (Nat.blt (0 + i.toNat) k, true) :: (rowT a o n k, true) :: (Nat.beq k 0, false) :: (rowT4 a o n k, true) :: l
def woP (l : Path) : Path := (0, true) :: (2, true) :: (4, true) :: (1, true) :: (2, false) :: (0, true) :: (0, true) :: (0, true) :: (0, false) :: (0, true) :: l
theorem wo5 : (Ly.run cxQ 9000 (woP [(0, true), (0, true)]) (waS0 a o n i r0 r1 r2 r3 r4 r5 r6 r7 k s z x p c)).out? = some (woT a o n i k [(Nat.beq (toN a o n k i).1.length 0, true), ((toN a o n k i).2, true)], .bool true) := by kernel_rfl
theorem wo6 : (Ly.run cxQ 9000 (woP [(0, false), (0, true)]) (waS0 a o n i r0 r1 r2 r3 r4 r5 r6 r7 k s z x p c)).out? = some (woT a o n i k [(Nat.beq (toN a o n k i).1.length 0, false), ((toN a o n k i).2, true)], .bool true) := by kernel_rfl
end
theorem ways_calls (a o n : Nat → Int) (i r0 r1 r2 r3 r4 r5 r6 r7 : Int) (k : Nat) (s z x p c : Bool) (ha : ∀ e, e < k → B16 (a e)) (ho : ∀ e, e < k → B8 (o e)) (hn : ∀ e, e < k → B16 (n e)) (h0 : B8 r0) (h1 : B8 r1) (h2 : B8 r2) (h3 : B8 r3) (h4 : B8 r4) (h5 : B8 r5) (h7 : B8 r7) :
    LCalls Try.prog 8 (waAr i r0 r1 r2 r3 r4 r5 r6 r7 k s z x p c) (mkH [some (ndL a o n k)]) (fun u _ => u = .bool true) := by
  refine LCalls_of cxQ_ok gL8 (by kernel_rfl) ?_
  show MWp Try.prog (waS0 a o n i r0 r1 r2 r3 r4 r5 r6 r7 k s z x p c) _
  by_cases c1 : 40 < k
  · exact MWp.out cxQ_ok 9000 _ (wo1 a o n i r0 r1 r2 r3 r4 r5 r6 r7 k s z x p c) (by simp [trusted]; omega) (fun _ => rfl)
  have d1 : (decide ((40 : Int) < k) == false) = true := by simp; omega
  by_cases c2 : i < 0
  · exact MWp.out cxQ_ok 9000 _ (wo2 a o n i r0 r1 r2 r3 r4 r5 r6 r7 k s z x p c) (by simp [trusted]; omega) (fun _ => rfl)
  have d2 : (decide (i < 0) == false) = true := by simp; omega
  by_cases c3 : (k : Int) ≤ i
  · exact MWp.out cxQ_ok 9000 _ (wo3 a o n i r0 r1 r2 r3 r4 r5 r6 r7 k s z x p c) (by simp [trusted]; omega) (fun _ => rfl)
  have d3 : (decide ((k : Int) ≤ i) == false) = true := by simp; omega
  have hk : okN k (ndG a o n) = true := okN_nd _ _ _ (by omega)
  have g0 : 0 ≤ i := by omega
  have g1 : i < k := by omega
  have hi : i.toNat < k := by omega
  have shN : (fun e x => ndG a o n (0 + e) x) = ndG a o n := by funext e x; simp
  have t1 : rowT a o n k = true := by unfold rowT; rw [shN, hk]; simp
  have hib : ((List.range k).all fun e => inb (o e)) = true := List.all_eq_true.2 fun e he => inb_of (ho e (List.mem_range.1 he))
  have t2 : rowT2 a o n k = true := by unfold rowT2; rw [shN, hk, sh_eq, hib]; simp
  have t4 : rowT4 a o n k = true := by unfold rowT4; rw [sh_eq, sh_eq, sh_eq, shN, hk, sh_eq, hib]; simp
  cases c4 : riN k (sh a) (sh o) with
  | false => exact MWp.out cxQ_ok 9000 _ (wo4 a o n i r0 r1 r2 r3 r4 r5 r6 r7 k s z x p c) (by simp only [trusted, d1, d2, d3, t2, c4, Bool.not_false, and_self]) (fun _ => rfl)
  | true =>
  have d5 : ixB k i = true := by simp [ixB, g0, g1]
  have d6 : Nat.blt (0 + i.toNat) k = true := by rw [Nat.blt_eq]; omega
  have d7 : Nat.beq k 0 = false := by rw [Bool.eq_false_iff, Ne, Nat.beq_eq]; omega
  have eT : toN a o n k i = nxF k a o n i := by unfold toN; rw [sh_eq, sh_eq, sh_eq, sh_eq, sh_eq, sh_eq]
  cases c5 : (toN a o n k i).2 with
  | true =>
    cases c6 : Nat.beq (toN a o n k i).1.length 0 with
    | true => exact MWp.out cxQ_ok 9000 _ (wo5 a o n i r0 r1 r2 r3 r4 r5 r6 r7 k s z x p c) (by simp only [woT, trusted, d1, d2, d3, t2, c4, Bool.not_true, d5, d6, t1, d7, t4, c5, c6, and_self]) (fun _ => rfl)
    | false => exact MWp.out cxQ_ok 9000 _ (wo6 a o n i r0 r1 r2 r3 r4 r5 r6 r7 k s z x p c) (by simp only [woT, trusted, d1, d2, d3, t2, c4, Bool.not_true, d5, d6, t1, d7, t4, c5, c6, and_self]) (fun _ => rfl)
  | false =>
  have c6 : Nat.beq (toN a o n k i).1.length 0 = false := by rw [Bool.eq_false_iff, Ne, Nat.beq_eq, eT]; exact nx_ne g0 g1 (by rw [← eT]; exact c5)
  have hlen : (toN a o n k i).1.length ≤ 1000 := by rw [eT]; have := nx_len k a o n i; omega
  have b1 : B16 (xN a i) := by unfold xN; rw [Nat.zero_add]; exact ha _ hi
  have b2 : B8 (xO o i) := by unfold xO; rw [Nat.zero_add]; exact ho _ hi
  have b3 : B16 (xN n i) := by unfold xN; rw [Nat.zero_add]; exact hn _ hi
  have hm : (mW (xN a i) r0 r1 r2 r3 r4 r5 r7 s z x p c).Ok := ⟨h0, h1, h2, h3, h4, h5, h7, b16w16 _, b1⟩
  have hsz : sizeT (xO o i) ≠ 0 := by
    unfold xO; rw [Nat.zero_add]
    rw [sh_eq, sh_eq] at c4
    exact riF_spec k 0 c4 _ (by omega) (by omega)
  have hkd := kd_all b2.1 b2.2
  unfold kdB at hkd
  rw [show (sizeT (xO o i) == 0) = false by simpa using hsz, Bool.false_or] at hkd
  simp only [Bool.and_eq_true, decide_eq_true_eq] at hkd
  obtain ⟨s1, s2, _⟩ := hkd
  have m1 : ixM (xN a i) = true := idx_of b1
  have m2 : blM (xN a i) = true := blt_of b1
  have m3 : ixM (at1' (xN a i)) = true := idx_of (b16w16 _)
  have m4 : blM (at1' (xN a i)) = true := blt_of (b16w16 _)
  have m5 : ixM (at2' (xN a i)) = true := idx_of (b16w16 _)
  have m6 : blM (at2' (xN a i)) = true := blt_of (b16w16 _)
  have ib := inb_of b2
  by_cases e1 : sizeT (xO o i) = 1
  · have f1 : decide (1 < sizeT (xO o i)) = false := by rw [e1]; rfl
    have f2 : decide (2 < sizeT (xO o i)) = false := by rw [e1]; rfl
    refine MWp.haltH cxQ_ok _ _ _ _ (wa1 a o n i r0 r1 r2 r3 r4 r5 r6 r7 k s z x p c) (by simp only [waT, trusted, d1, d2, d3, t2, c4, Bool.not_true, d5, d6, t1, d7, t4, c5, c6, m1, m2, ib, f1, f2, and_self]) ?_
    intro H hnx hl hc hos
    exact waMid hnx hl hc hos (lo1 _ _) hlen (goes_to hm (b8g1 b2) rfl (op1 b1) rfl (fun e => by omega) b2.1 b2.2 hsz g0 g1 c5)
  by_cases e2 : sizeT (xO o i) = 2
  · have f1 : decide (1 < sizeT (xO o i)) = true := by rw [e2]; rfl
    have f2 : decide (2 < sizeT (xO o i)) = false := by rw [e2]; rfl
    refine MWp.haltH cxQ_ok _ _ _ _ (wa2 a o n i r0 r1 r2 r3 r4 r5 r6 r7 k s z x p c) (by simp only [waT, trusted, d1, d2, d3, t2, c4, Bool.not_true, d5, d6, t1, d7, t4, c5, c6, m1, m2, m3, m4, ib, f1, f2, and_self]) ?_
    intro H hnx hl hc hos
    exact waMid hnx hl hc hos (lo2 _ _ _) hlen (goes_to hm (b8g2 b2) rfl (op2 b1) rfl (fun e => by omega) b2.1 b2.2 hsz g0 g1 c5)
  · have e3 : sizeT (xO o i) = 3 := by omega
    have f1 : decide (1 < sizeT (xO o i)) = true := by rw [e3]; rfl
    have f2 : decide (2 < sizeT (xO o i)) = true := by rw [e3]; rfl
    refine MWp.haltH cxQ_ok _ _ _ _ (wa3 a o n i r0 r1 r2 r3 r4 r5 r6 r7 k s z x p c) (by simp only [waT, trusted, d1, d2, d3, t2, c4, Bool.not_true, d5, d6, t1, d7, t4, c5, c6, m1, m2, m3, m4, m5, m6, ib, f1, f2, and_self]) ?_
    intro H hnx hl hc hos
    exact waMid hnx hl hc hos (lo3 _ _ _) hlen (goes_to hm (b8g3 b2) rfl (op3 b1) rfl (fun _ => nw3 rfl b1 b3) b2.1 b2.2 hsz g0 g1 c5)
end Go.Proofs.Ytdjmpilegommlaa
namespace Go.Proofs.Ytdjmpilegommlaa
open Go Go.Ly Go.RowKit
def waAn (i r0 r1 r2 r3 r4 r5 r6 r7 : Int) (s z x p c : Bool) : List Value := [.slice none 0 0, .int .i64 i, .agg ⟨[.int .u8 r0, .int .u8 r1, .int .u8 r2, .int .u8 r3, .int .u8 r4, .int .u8 r5, .int .u8 r6, .int .u8 r7]⟩, .agg ⟨[.bool s, .bool z, .bool x, .bool p, .bool c]⟩]
theorem wn0 (i r0 r1 r2 r3 r4 r5 r6 r7 : Int) (s z x p c : Bool) : (Ly.run cxQ 9000 [(3, true), (4, false)] (Ly.start Try.f8 (waAn i r0 r1 r2 r3 r4 r5 r6 r7 s z x p c) (mkH []))).out? = some ([(decide (i < 0) == false, true), (decide (0 ≤ i) == false, false)], .bool true) := by kernel_rfl
theorem wn1 (i r0 r1 r2 r3 r4 r5 r6 r7 : Int) (s z x p c : Bool) : (Ly.run cxQ 9000 [(3, false)] (Ly.start Try.f8 (waAn i r0 r1 r2 r3 r4 r5 r6 r7 s z x p c) (mkH []))).out? = some ([(decide (i < 0) == false, false)], .bool true) := by kernel_rfl
theorem ways_nil (i r0 r1 r2 r3 r4 r5 r6 r7 : Int) (s z x p c : Bool) : LCalls Try.prog 8 (waAn i r0 r1 r2 r3 r4 r5 r6 r7 s z x p c) (mkH []) (fun u _ => u = .bool true) := by
  by_cases h : i < 0
  · exact LCalls_of cxQ_ok gL8 (by kernel_rfl) (MWp.out cxQ_ok 9000 _ (wn1 i r0 r1 r2 r3 r4 r5 r6 r7 s z x p c) (by simp [trusted, h]) (fun _ => rfl))
  · exact LCalls_of cxQ_ok gL8 (by kernel_rfl) (MWp.out cxQ_ok 9000 _ (wn0 i r0 r1 r2 r3 r4 r5 r6 r7 s z x p c) (by simp [trusted, h]; omega) (fun _ => rfl))
theorem ck_nodes {W : World} {v : Value} (h : CkOk W (.slice [.int .u16, .int .u8, .int .u16]) v) : v = .slice none 0 0 ∨ ∃ (k : Nat) (a o n : Nat → Int) (p : Option Plc), RealRows W 3 (ndG a o n) k v p ∧ (∀ e, e < k → B16 (a e) ∧ B8 (o e) ∧ B16 (n e)) := by
  rcases ck_rows (by rfl) (by decide) h with rfl | ⟨k, F, p, hr, hc, _⟩
  · exact .inl rfl
  · have hF : ∀ e, e < k → ∃ x y u, F e = [.int .u16 x, .int .u8 y, .int .u16 u] ∧ B16 x ∧ B8 y ∧ B16 u := by
      intro e he
      have h1 := hc e he
      simp only [CksOk, CkOk] at h1
      obtain ⟨_, _, e1, ⟨x, rfl, hx⟩, _, _, rfl, ⟨y, rfl, hy⟩, _, _, rfl, ⟨u, rfl, hu⟩, rfl⟩ := h1
      have hx := bounds_u16 hx
      have hy := bounds_u8 hy
      have hu := bounds_u16 hu
      exact ⟨x, y, u, e1, ⟨by omega, by omega⟩, ⟨by omega, by omega⟩, ⟨by omega, by omega⟩⟩
    refine .inr ⟨k, fun e => intV (((F e)[0]?).getD undef), fun e => intV (((F e)[1]?).getD undef), fun e => intV (((F e)[2]?).getD undef), p, hr.congr (fun e j he hj => ?_), fun e he => ?_⟩
    · obtain ⟨x, y, u, e1, _⟩ := hF e he
      have hj : j < 3 := hj
      simp only [ndG, e1]
      have : j = 0 ∨ j = 1 ∨ j = 2 := by omega
      rcases this with rfl | rfl | rfl <;> rfl
    · obtain ⟨x, y, u, e1, b1, b2, b3⟩ := hF e he
      simp only [e1]; exact ⟨b1, b2, b3⟩
theorem ways_walk (W : World) (v0 v1 v2 v3 : Value) (h0 : CkOk W (.slice [.int .u16, .int .u8, .int .u16]) v0) (h1 : CkOk W (.int .i64) v1) (h2 : ∃ cs, v2 = .agg ⟨cs⟩ ∧ CksOk W [.int .u8, .int .u8, .int .u8, .int .u8, .int .u8, .int .u8, .int .u8, .int .u8] cs)
    (h3 : ∃ cs, v3 = .agg ⟨cs⟩ ∧ CksOk W [.bool, .bool, .bool, .bool, .bool] cs) :
    Calls Try.prog 8 #[v0, v1, v2, v3] W fun e W' => e = .returned (.bool true) ∧ Below W.heap.size W W' := by
  simp only [CkOk] at h1
  obtain ⟨i, rfl, _⟩ := h1
  obtain ⟨cs, rfl, h2⟩ := h2
  obtain ⟨ds, rfl, h3⟩ := h3
  simp only [CksOk, CkOk] at h2 h3
  obtain ⟨_, _, rfl, ⟨r0, rfl, k0⟩, _, _, rfl, ⟨r1, rfl, k1⟩, _, _, rfl, ⟨r2, rfl, k2⟩, _, _, rfl, ⟨r3, rfl, k3⟩, _, _, rfl, ⟨r4, rfl, k4⟩, _, _, rfl, ⟨r5, rfl, k5⟩, _, _, rfl, ⟨r6, rfl, k6⟩, _, _, rfl, ⟨r7, rfl, k7⟩, rfl⟩ := h2
  obtain ⟨_, _, rfl, ⟨s, rfl⟩, _, _, rfl, ⟨z, rfl⟩, _, _, rfl, ⟨x, rfl⟩, _, _, rfl, ⟨p, rfl⟩, _, _, rfl, ⟨c, rfl⟩, rfl⟩ := h3
  rcases ck_nodes h0 with rfl | ⟨k, a, o, n, pl, hr, hb⟩
  · exact calls_ro (ρ := rowsRen []) (ways_nil i r0 r1 r2 r3 r4 r5 r6 r7 s z x p c) rfl (by simp [waAn, VRL, VR]) (rows_rep (rs := []) rfl (by simp) (by simp) (by simp)) (fun _ => rfl)
  · exact calls_ro (ρ := rowsRenW [pl] (fun _ => 3)) (ways_calls a o n i r0 r1 r2 r3 r4 r5 r6 r7 k s z x p c (fun e he => (hb e he).1) (fun e he => (hb e he).2.1) (fun e he => (hb e he).2.2) (bounds_u8 k0) (bounds_u8 k1) (bounds_u8 k2) (bounds_u8 k3) (bounds_u8 k4) (bounds_u8 k5) (bounds_u8 k7)) rfl
      (by
        simp only [waAr, VRL]
        exact ⟨v0, _, VR_sls (slW_VR hr (by simp)), ⟨_, _, by simp [VR], ⟨_, _, by simp [VR, VRL], ⟨_, _, by simp [VR, VRL], rfl, rfl⟩, rfl⟩, rfl⟩, rfl⟩)
      (rowsW_rep (l := [pl]) (rs := [(3, ndG a o n, k)]) rfl (by simp) (by
        intro j q hq
        rcases j with _ | j
        · simp at hq; exact hr.low q hq
        · simp at hq) (by
        intro j k2 g2 n2 h0
        rcases j with _ | j
        · simp at h0; obtain ⟨rfl, rfl, rfl⟩ := h0
          refine ⟨rfl, fun e j he hj => ⟨hr.one e j he hj, ?_⟩⟩
          obtain ⟨q, h3, h4⟩ := hr.cell e j he hj
          exact ⟨q, by simp [h3], h4⟩
        · simp at h0)) (fun _ => rfl)
end Go.Proofs.Ytdjmpilegommlaa
end
