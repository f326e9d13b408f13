/- Part 9 of the texts that the law needs, laid together. By program (pack.py). -/
import Derived.Test.YtpggoincnebfnaaPsg
import Derived.Test.YtpggoincnebfnaaPsh
import Derived.KernelRfl
set_option linter.unusedVariables false
set_option linter.unusedSimpArgs false
noncomputable section
namespace Go.Proofs.Ytpggoincnebfnaa
open Go Go.Ly Go.RowKit
theorem P_endsE {m m' mr : Mc} {g g' : Nat → Int} {b0 : Int} {nP : Nat} {tP' : List (Bool × Bool)} {pP : Path} {o : LO} (hpc : inw m.pc = true) (hh : m.halt = false) (h0 : g (ix m.pc) = b0)
    (hp : endsAt [0, 1] (Ly.run ctx3 3000 pP (sP m g b0 (g (at1 m.pc 1)) (g (at1 m.pc 2)))) = some (tP', .int .i64 0, nP, hPm mr o)) (h1 : trusted tP') (h3 : nP ≤ 64) (hm : mr = m') (ho : LOeq o (memL g')) :
    Ly.Ends Try.prog 13 [ptr 0] (hP m g) [0, 1] (.int .i64 0) 64 (hP m' g') := by
  subst hm
  have hpc' : B16 m.pc := (inw_iff _).1 hpc
  have e1 := MWp.ends ctx3_ok 3000 pP hp h1
  have h0' : g (0 + m.pc.toNat * 1) = b0 := h0
  have htr : trusted (tP m) := by
    simp only [tP, trusted, hh, idx_of hpc', blt_of hpc', idx_of (wrap16 _), at1, blt_of (wrap16 _), and_self]
  have e2 : Ly.Ends Try.prog 13 [ptr 0] (hP m g) [0, 1] (.int .i64 0) nP (hPm mr o) := by
    refine LCalls_of ctx3_ok gP13 (by kernel_rfl) (MWp.halted (haltAt_ok ctx3_ok 27) [0, 53] 300 pathP (juncP m g) htr ?_)
    rw [h0']; exact e1
  exact (e2.eqv (by kernel_rfl) (eP ho)).grow h3 (by unfold big; omega)
theorem inbB (a : Int) : inb a = true ↔ B8 a := inb_iff a
theorem inwB (a : Int) : inw a = true ↔ B16 a := inw_iff a
@[simp] theorem pairlo {h l : Int} (hl : B8 l) : w8 (256 * h + l) = l := by unfold B8 at hl; rw [w8e]; omega
@[simp] theorem pairhi {h l : Int} (hh : B8 h) (hl : B8 l) : w8 ((256 * h + l).fdiv 256) = h := by
  unfold B8 at hh hl
  have : (256 * h + l).fdiv 256 = (256 * h + l) / 256 := Int.fdiv_eq_ediv_of_nonneg _ (by omega)
  rw [w8e, this]; omega
@[simp] theorem wordlo (n : Int) : w8 (w16 n) = n % 256 := by rw [w8e, w16e]; omega
@[simp] theorem wordhi (n : Int) : w8 ((w16 n).fdiv 256) = n % 65536 / 256 := by
  have : (w16 n).fdiv 256 = (w16 n) / 256 := Int.fdiv_eq_ediv_of_nonneg _ (by omega)
  rw [w8e, this, w16e]; omega
def Emvi0 : Ent := ⟨6, fun m g => inb (g (ix (w16 (m.pc + 1)))), fun m g => { m with pc := w16 (m.pc + 2), r0 := g (ix (w16 (m.pc + 1))) }, fun m g => g⟩
theorem Emvi0_ok : Emvi0.Ok := by
  intro m g hh hpc h0 hg
  have hpc' := (inw_iff _).1 hpc
  have h0 : g (ix m.pc) = 6 := h0
  have hg : (inb (g (ix (w16 (m.pc + 1))))) = true := hg
  simp only [Bool.and_eq_true, inbB, inwB] at hg
  refine P_endsE hpc hh h0 (p06_0 m g _ _) (by simp [*]) (by decide) ?_ (.inl rfl)
  simp [Emvi0, *]
def Epush0 : Ent := ⟨197, fun m g => inb m.r0 && inb m.r1, fun m g => { m with pc := w16 (m.pc + 1), sp := w16 (m.sp - 2) }, fun m g => upd (upd g (ix (w16 (m.sp - 2))) m.r1) (ix (w16 (w16 (m.sp - 2) + 1))) m.r0⟩
theorem Epush0_ok : Epush0.Ok := by
  intro m g hh hpc h0 hg
  have hpc' := (inw_iff _).1 hpc
  have h0 : g (ix m.pc) = 197 := h0
  have hg : (inb m.r0 && inb m.r1) = true := hg
  simp only [Bool.and_eq_true, inbB, inwB] at hg
  refine P_endsE hpc hh h0 (pc5_0 m g _ _) (by simp [*]) (by decide) ?_ (m2s (by simp [*]) (by simp [*]) (by simp [*]) (by simp [*]))
  simp [Epush0, *]
def Epop0 : Ent := ⟨193, fun m g => inw m.sp && (inb (g (ix m.sp)) && inb (g (ix (w16 (m.sp + 1))))), fun m g => { m with pc := w16 (m.pc + 1), sp := w16 (m.sp + 2), r0 := g (ix (w16 (m.sp + 1))), r1 := g (ix m.sp) }, fun m g => g⟩
theorem Epop0_ok : Epop0.Ok := by
  intro m g hh hpc h0 hg
  have hpc' := (inw_iff _).1 hpc
  have h0 : g (ix m.pc) = 193 := h0
  have hg : (inw m.sp && (inb (g (ix m.sp)) && inb (g (ix (w16 (m.sp + 1)))))) = true := hg
  simp only [Bool.and_eq_true, inbB, inwB] at hg
  refine P_endsE hpc hh h0 (pc1_0 m g _ _) (by simp [*]) (by decide) ?_ (.inl rfl)
  simp [Epop0, *]
def Epush1 : Ent := ⟨213, fun m g => inb m.r2 && inb m.r3, fun m g => { m with pc := w16 (m.pc + 1), sp := w16 (m.sp - 2) }, fun m g => upd (upd g (ix (w16 (m.sp - 2))) m.r3) (ix (w16 (w16 (m.sp - 2) + 1))) m.r2⟩
theorem Epush1_ok : Epush1.Ok := by
  intro m g hh hpc h0 hg
  have hpc' := (inw_iff _).1 hpc
  have h0 : g (ix m.pc) = 213 := h0
  have hg : (inb m.r2 && inb m.r3) = true := hg
  simp only [Bool.and_eq_true, inbB, inwB] at hg
  refine P_endsE hpc hh h0 (pd5_0 m g _ _) (by simp [*]) (by decide) ?_ (m2s (by simp [*]) (by simp [*]) (by simp [*]) (by simp [*]))
  simp [Epush1, *]
def Epop1 : Ent := ⟨209, fun m g => inw m.sp && (inb (g (ix m.sp)) && inb (g (ix (w16 (m.sp + 1))))), fun m g => { m with pc := w16 (m.pc + 1), sp := w16 (m.sp + 2), r2 := g (ix (w16 (m.sp + 1))), r3 := g (ix m.sp) }, fun m g => g⟩
theorem Epop1_ok : Epop1.Ok := by
  intro m g hh hpc h0 hg
  have hpc' := (inw_iff _).1 hpc
  have h0 : g (ix m.pc) = 209 := h0
  have hg : (inw m.sp && (inb (g (ix m.sp)) && inb (g (ix (w16 (m.sp + 1)))))) = true := hg
  simp only [Bool.and_eq_true, inbB, inwB] at hg
  refine P_endsE hpc hh h0 (pd1_0 m g _ _) (by simp [*]) (by decide) ?_ (.inl rfl)
  simp [Epop1, *]
def Epush2 : Ent := ⟨229, fun m g => inb m.r4 && inb m.r5, fun m g => { m with pc := w16 (m.pc + 1), sp := w16 (m.sp - 2) }, fun m g => upd (upd g (ix (w16 (m.sp - 2))) m.r5) (ix (w16 (w16 (m.sp - 2) + 1))) m.r4⟩
theorem Epush2_ok : Epush2.Ok := by
  intro m g hh hpc h0 hg
  have hpc' := (inw_iff _).1 hpc
  have h0 : g (ix m.pc) = 229 := h0
  have hg : (inb m.r4 && inb m.r5) = true := hg
  simp only [Bool.and_eq_true, inbB, inwB] at hg
  refine P_endsE hpc hh h0 (pe5_0 m g _ _) (by simp [*]) (by decide) ?_ (m2s (by simp [*]) (by simp [*]) (by simp [*]) (by simp [*]))
  simp [Epush2, *]
def Epop2 : Ent := ⟨225, fun m g => inw m.sp && (inb (g (ix m.sp)) && inb (g (ix (w16 (m.sp + 1))))), fun m g => { m with pc := w16 (m.pc + 1), sp := w16 (m.sp + 2), r4 := g (ix (w16 (m.sp + 1))), r5 := g (ix m.sp) }, fun m g => g⟩
theorem Epop2_ok : Epop2.Ok := by
  intro m g hh hpc h0 hg
  have hpc' := (inw_iff _).1 hpc
  have h0 : g (ix m.pc) = 225 := h0
  have hg : (inw m.sp && (inb (g (ix m.sp)) && inb (g (ix (w16 (m.sp + 1)))))) = true := hg
  simp only [Bool.and_eq_true, inbB, inwB] at hg
  refine P_endsE hpc hh h0 (pe1_0 m g _ _) (by simp [*]) (by decide) ?_ (.inl rfl)
  simp [Epop2, *]
def Epush3 : Ent := ⟨245, fun m g => inb m.r7, fun m g => { m with pc := w16 (m.pc + 1), sp := w16 (m.sp - 2) }, fun m g => upd (upd g (ix (w16 (m.sp - 2))) (128 * cI m.fs + 64 * cI m.fz + 16 * cI m.fx + 4 * cI m.fp + 2 + cI m.fc)) (ix (w16 (w16 (m.sp - 2) + 1))) m.r7⟩
theorem Epush3_ok : Epush3.Ok := by
  intro m g hh hpc h0 hg
  have hpc' := (inw_iff _).1 hpc
  have h0 : g (ix m.pc) = 245 := h0
  have hg : (inb m.r7) = true := hg
  simp only [Bool.and_eq_true, inbB, inwB] at hg
  refine P_endsE hpc hh h0 (pf5_0 m g _ _) (by simp [*]) (by decide) ?_ (m2s (by simp [*]) (by simp [*]) (by simp [*]) (by simp [*]))
  simp [Epush3, *]
def Epop3 : Ent := ⟨241, fun m g => inw m.sp && (inb (g (ix m.sp)) && inb (g (ix (w16 (m.sp + 1))))), fun m g => { m with pc := w16 (m.pc + 1), sp := w16 (m.sp + 2), r7 := g (ix (w16 (m.sp + 1))), fc := g (ix m.sp) % 2 == 1, fp := g (ix m.sp) / 4 % 2 == 1, fs := decide (128 ≤ g (ix m.sp)), fx := g (ix m.sp) / 16 % 2 == 1, fz := g (ix m.sp) / 64 % 2 == 1 }, fun m g => g⟩
theorem Epop3_ok : Epop3.Ok := by
  intro m g hh hpc h0 hg
  have hpc' := (inw_iff _).1 hpc
  have h0 : g (ix m.pc) = 241 := h0
  have hg : (inw m.sp && (inb (g (ix m.sp)) && inb (g (ix (w16 (m.sp + 1)))))) = true := hg
  simp only [Bool.and_eq_true, inbB, inwB] at hg
  refine P_endsE hpc hh h0 (pf1_0 m g _ _) (by simp [*]) (by decide) ?_ (.inl rfl)
  simp [Epop3, *]
def EcalL : Ent := ⟨205, fun m g => inb (g (ix (w16 (m.pc + 1)))) && inb (g (ix (w16 (m.pc + 2)))), fun m g => { m with pc := 256 * g (ix (w16 (m.pc + 2))) + g (ix (w16 (m.pc + 1))), sp := w16 (m.sp - 2) }, fun m g => upd (upd g (ix (w16 (m.sp - 2))) ((m.pc + 3) % 256)) (ix (w16 (w16 (m.sp - 2) + 1))) ((m.pc + 3) % 65536 / 256)⟩
theorem EcalL_ok : EcalL.Ok := by
  intro m g hh hpc h0 hg
  have hpc' := (inw_iff _).1 hpc
  have h0 : g (ix m.pc) = 205 := h0
  have hg : (inb (g (ix (w16 (m.pc + 1)))) && inb (g (ix (w16 (m.pc + 2))))) = true := hg
  simp only [Bool.and_eq_true, inbB, inwB] at hg
  refine P_endsE hpc hh h0 (pcd_0 m g _ _) (by simp [*]) (by decide) ?_ (m2s (by simp [*]) (by simp [*]) (by simp [*]) (by simp [*]))
  simp [EcalL, *]
def EreT : Ent := ⟨201, fun m g => inw m.sp && (inb (g (ix m.sp)) && inb (g (ix (w16 (m.sp + 1))))), fun m g => { m with sp := w16 (m.sp + 2), pc := 256 * g (ix (w16 (m.sp + 1))) + g (ix m.sp) }, fun m g => g⟩
theorem EreT_ok : EreT.Ok := by
  intro m g hh hpc h0 hg
  have hpc' := (inw_iff _).1 hpc
  have h0 : g (ix m.pc) = 201 := h0
  have hg : (inw m.sp && (inb (g (ix m.sp)) && inb (g (ix (w16 (m.sp + 1)))))) = true := hg
  simp only [Bool.and_eq_true, inbB, inwB] at hg
  refine P_endsE hpc hh h0 (pc9_0 m g _ _) (by simp [*]) (by decide) ?_ (.inl rfl)
  simp [EreT, *]
end Go.Proofs.Ytpggoincnebfnaa
namespace Go.Ly
open Go.RowKit
def OWo : Option LO → Option LO → Prop
  | _, none => True
  | some a, some b => OW a b
  | none, some _ => False
theorem OWo.refl : ∀ (o : Option LO), OWo o o
  | none => trivial
  | some a => OW.refl a
theorem OWo.cells {c c' : List Value} {t : TypeId} (h : VWL c c') : OWo (some (.cells c t)) (some (.cells c' t)) := OW.cells h
theorem VWL.cons {v u : Value} {r s : List Value} (h : VW v u) (k : VWL r s) : VWL (v :: r) (u :: s) := ⟨u, s, h, k, rfl⟩
theorem VWL.nil : VWL [] [] := rfl
theorem weak_vH {H : Heap} {bs : List Nat} {os os' : List (Option LO)} {nx : Nat} (hn : H.next = nx) (hl : H.lock = 0) (hg : bs.map H.get = os) (hw : Each2 OWo os os') (hb : (nodupB bs && bs.all (fun b => Nat.blt b 2147483000)) = true) : WeakH H (vH bs os' nx) := by
  rw [Bool.and_eq_true] at hb
  have hnd := nodupB_iff bs hb.1
  have hbb : ∀ b ∈ bs, b < big := fun b h => by have := List.all_eq_true.1 hb.2 b h; simpa [Nat.blt_eq, big] using this
  have hlen : bs.length = os'.length := by rw [← hw.length, ← hg]; simp
  obtain ⟨g1, g2⟩ := setZip_get bs os' .nil hlen hbb hnd
  refine ⟨hn.symm, hl.symm, fun i o ho => ?_⟩
  have ho : (setAll (bs.zip os') .nil).get i = some o := ho
  by_cases hi : i ∈ bs
  · obtain ⟨j, hj, e⟩ := List.getElem_of_mem hi
    have e1 := g1 j i _ (by rw [List.getElem?_eq_getElem hj, e]) (List.getElem?_eq_getElem (show j < os'.length by omega))
    rw [e1] at ho
    have h2 := hw.get j (H.get i) (os'[j]'(by omega)) (by rw [← hg, List.getElem?_map, List.getElem?_eq_getElem hj, e]; rfl) (List.getElem?_eq_getElem (by omega))
    rw [ho] at h2
    cases hH : H.get i with
    | none => rw [hH] at h2; exact h2.elim
    | some x => rw [hH] at h2; exact ⟨x, rfl, h2⟩
  · rw [g2 i hi, Tr.get_nil] at ho; cases ho
theorem MWp.keepB {P : Program} {Q : Value → Heap → Prop} {fn : Func} {k : List KI} {dst : Option Tmp} {base : Nat} {vals vals' : List Value} {H : Heap} {bs : List Nat} {os os' os'' : List (Option LO)} {nx : Nat} (kp : List Nat)
    (hn : H.next = nx) (hl : H.lock = 0) (hg : bs.map H.get = os) (hw : Each2 OWo os os') (hb : (nodupB bs && bs.all (fun b => Nat.blt b 2147483000)) = true)
    (hc : formOf kp bs (atSt fn k dst base vals (vH bs os' nx)) = (true, (fn, k, dst, base), vals', os''))
    (hP : ∀ o ∈ os'', ∀ x, o = some x → plainO x) (h : MWp P (mkSt fn k dst base vals' os'') Q) : MWp P (atSt fn k dst base vals H) Q := by
  refine MWp.weak (S := atSt fn k dst base vals H) (weak_vH hn hl hg hw hb) ?_
  show MWp P (atSt fn k dst base vals (vH bs os' nx)) Q
  simp only [formOf, Prod.mk.injEq] at hc
  obtain ⟨h1, ⟨h2, h3, h4, h5⟩, h6, h7⟩ := hc
  refine MWp.collect kp bs h1 (by rw [h7]; exact hP) ?_
  unfold Go.Ly.collect
  rw [h6, h7]; exact h
end Go.Ly
namespace Go.Proofs.Ytpggoincnebfnaa
open Go Go.Ly Go.RowKit
def pc0 (s : Sv) : Sv := ⟨s.r0, s.r1, s.r2, s.r3, s.r4, s.r5, s.r6, s.r7, s.fs, s.fz, s.fx, s.fp, s.fc, s.sp, 0, s.ie⟩
def sCells (s : Sv) (i m : Value) : List Value := [.int .u8 s.r0, .int .u8 s.r1, .int .u8 s.r2, .int .u8 s.r3, .int .u8 s.r4, .int .u8 s.r5, .int .u8 0, .int .u8 s.r7, .bool s.fs, .bool s.fz, .bool s.fx, .bool s.fp, .bool s.fc, .int .u16 s.sp, .int .u16 s.pc, .bool s.ie, i, m]
theorem vwCells {b rg : Nat} {m : Mc} {i o i' o' : Value} (hi : VW i i') (ho : VW o o') : VWL (cellsPb b rg m i o) (cellsPb b rg m i' o') := by
  simp only [cellsPb]
  repeat' (first | exact VWL.nil | exact hi | exact ho | exact VW.refl _ | apply VWL.cons)
theorem vwS {s : Sv} {i m i' m' : Value} (hi : VW i i') (hm : VW m m') : VWL (sCells s i m) (sCells s i' m') := by
  simp only [sCells]
  repeat' (first | exact VWL.nil | exact hi | exact hm | exact VW.refl _ | apply VWL.cons)
theorem plain_mem (g : Nat → Int) : plainO (memL g) := fun e j => by simp [noBlk, blks]
def tMe (n : Nat) : Bool × Bool := (decide ((256 : Int) < ((n + 1 : Nat) : Int)) == false, true)
theorem tMe_ok {n : Nat} (h : n + 1 ≤ 256) : trusted [tMe n] := ⟨by show (decide ((256 : Int) < ((n + 1 : Nat) : Int)) == false) = true; rw [decide_eq_false (by omega)]; rfl, trivial⟩
def tLn8 (k : Nat) : Bool × Bool := ((!(decide (((k + 1 : Nat) : Int) ≤ 300))) == false, true)
theorem tLn8_ok {k : Nat} (h : k + 1 ≤ 300) : trusted [tLn8 k] := ⟨by show ((!(decide (((k + 1 : Nat) : Int) ≤ 300))) == false) = true; rw [decide_eq_true (by omega)]; rfl, trivial⟩
end Go.Proofs.Ytpggoincnebfnaa
namespace Go.Proofs.Ytpggoincnebfnaa
open Go Go.Ly Go.RowKit
def cx8 (l : List Ent) : Ctx := ctxO.withH 13 (stepE l)
theorem cx8_ok {l : List Ent} (h : ∀ e ∈ l, e.Ok) : (cx8 l).Ok Try.prog := ctxO_ok.withH (stepE_good h)
def neM (m w : Mc) : Bool := !((m.r0 == w.r0) && ((m.r1 == w.r1) && ((m.r2 == w.r2) && ((m.r3 == w.r3) && ((m.r4 == w.r4) && ((m.r5 == w.r5) && (((0 : Int) == 0) && ((m.r7 == w.r7) && true))))))))
def eqF (m w : Mc) : Bool := (m.fs == w.fs) && ((m.fz == w.fz) && ((m.fx == w.fx) && ((m.fp == w.fp) && ((m.fc == w.fc) && true))))
theorem hilo {w : Int} (h : B16 w) : 256 * w8 (w.fdiv 256) + w8 w = w := by
  unfold B16 at h
  have : w.fdiv 256 = w / 256 := Int.fdiv_eq_ediv_of_nonneg _ (by omega)
  rw [w8e, w8e, this]; omega
end Go.Proofs.Ytpggoincnebfnaa
namespace Go.Proofs.Ytpggoincnebfnaa
open Go Go.Ly Go.RowKit
def rd6 : St := Ly.start Try.f6 [] H0
def svs : Sv := ⟨0, 0, 0, 0, 0, 0, 0, 0, false, false, false, false, false, 300, 0, false⟩
set_option maxRecDepth 100000 in
def k6 : List KI := ((Ly.run ctxH 9000 [] (Ly.start Try.f6 [svV svs nilS nilS, .int .u8 0, .int .u16 600] (mkH [some (ints .u8 (fun _ => 0) 0), some (bytes2 (fun _ => 0) (fun _ => 0) 0)]))).st rd6).top.k
def v6 (q p : Nat) (w : Int) : List Value := slots 199 [(2, .int .u16 w), (3, ptr q), (7, ptr p), (95, ptr p)]
def l6 (d w : Int) : List Value := [.int .u16 0, .int .u8 (w8 (197 + w8 (d * 16))), .int .u16 1, .int .u8 (w8 (193 + w8 (d * 16))), .int .u16 2, .int .u8 205, .int .u16 3, .int .u8 (w8 w), .int .u16 4, .int .u8 (w8 (w.fdiv 256)), .int .u16 w, .int .u8 201]
def g6 (d w : Int) : Nat → Int := gm (GA (l6 d w) 6) 6
def os6 (s : Sv) (g : Nat → Int) : List (Option LO) := [none, none, some (.cells (sCells s anyV anyV) 29), some (.cells (cellsPb 4 0 (mOf s) anyV nilV) 60), some (memL g)]
def st6 (s : Sv) (w : Int) (g : Nat → Int) : St := mkSt Try.f6 k6 (some 85) 2 (v6 2 3 w) (os6 s g)
theorem plain_os6 {s : Sv} {g : Nat → Int} : ∀ o ∈ os6 s g, ∀ x, o = some x → plainO x := by
  intro o ho x hx
  simp only [os6, List.mem_cons, List.not_mem_nil, or_false] at ho
  rcases ho with rfl | rfl | rfl | rfl | rfl <;> first | (simp only [Option.some.injEq] at hx; subst hx; first | exact plain_mem g | exact trivial) | cases hx
def tLt (a b : Int) : Bool × Bool := (decide (a < b) == false, true)
theorem tLt_ok {a b : Int} (h : ¬ a < b) : trusted [tLt a b] := ⟨by show (decide (a < b) == false) = true; rw [decide_eq_false h]; rfl, trivial⟩
def tGt (a b : Int) (d : Bool) : Bool × Bool := (decide (a < b) == true, d)
theorem tGt_ok {a b : Int} (h : a < b) : trusted [tGt a b true] := ⟨by show (decide (a < b) == true) = true; rw [decide_eq_true h]; rfl, trivial⟩
theorem tGt_no {a b : Int} (h : ¬ a < b) : trusted [tGt a b false] := ⟨by show (decide (a < b) == true) = false; rw [decide_eq_false h]; rfl, trivial⟩
def t8f (s : Sv) (w : Int) : Bool × Bool := (decide (w16 (s.sp - w) < 8), false)
theorem t8f_ok {s : Sv} {w : Int} (h : ¬ w16 (s.sp - w) < 8) : trusted [t8f s w] := ⟨decide_eq_false h, trivial⟩
def Tail6 : Prop := ∀ (s : Sv) (d w : Int), s.Ok → B16 w → 0 ≤ d → d ≤ 3 → s.pc = 0 → ¬ w < 16 → ¬ s.sp < 256 → ¬ 65000 < w → (w < s.sp → ¬ w16 (s.sp - w) < 8) → MWp Try.prog (st6 s w (g6 d w)) (fun u _ => u = .bool true)
theorem gok6 {d w : Int} (hw : B16 w) : Gok 6 (GA (l6 d w) 6) :=
  Gok.cons (by simp) (by simp) (Gok.cons (by unfold B16; omega) (by simp) (Gok.cons (by unfold B16; omega) (by unfold B8; omega) (Gok.cons (by unfold B16; omega) (by simp) (Gok.cons (by unfold B16; omega) (by simp) (Gok.cons hw (by unfold B8; omega) Gok.nil)))))
theorem gLH6 : ctxH.fn.get 6 = some Try.f6 := by kernel_rfl
theorem f6_NN (s : Sv) (n k : Nat) (f fa fb : Nat → Int) (d w : Int) : formOf [2, 3, 7, 95] [0, 1, 2, 10, 9] (atSt Try.f6 k6 (some 85) 2 (v6 2 10 w) (vH [0, 1, 2, 10, 9] [none, none, some (.cells (sCells (pc0 s) anyV anyV) 29), some (.cells (cellsPb 9 0 (mOf (pc0 s)) anyV nilV) 60), some (memL (g6 d w))] 16)) = (true, (Try.f6, k6, some 85, 2), v6 2 3 w, os6 (pc0 s) (g6 d w)) := by kernel_rfl
set_option maxRecDepth 100000 in
theorem e6a_NN (s : Sv) (n k : Nat) (f fa fb : Nat → Int) (d w : Int) : haltH [2, 3, 7, 95] [0, 1, 2, 10, 9] 16 rd6 (Ly.run ctxH 9000 [(13, true), (6, true), (3, true), (2, true), (4, true), (7, false), (5, true), (22, true)] (Ly.start Try.f6 [svV (pc0 s) nilS nilS, .int .u8 d, .int .u16 w] (mkH [some (ints .u8 f n), some (bytes2 fa fb k)]))) =
  (true, [tLt 3 d, tLt w 16, tLt (pc0 s).sp 256, tLt 65000 w, tGt w (pc0 s).sp true, t8f (pc0 s) w, tOk (GA (l6 d w) 6) 6, tOk (GA (l6 d w) 6) 6], true, (Try.f6, k6, some 85, 2), v6 2 10 w, (true, true, true), [some (ints .u8 f n), some (bytes2 fa fb k), some (.cells (sCells (pc0 s) nilS (.slice (some ⟨4, 0, none⟩) 6 6)) 29), some (.cells (cellsPb 9 0 (mOf (pc0 s)) nilV nilV) 60), some (memL (gs (g6 d w)))]) := by kernel_rfl
set_option maxRecDepth 100000 in
theorem e6b_NN (s : Sv) (n k : Nat) (f fa fb : Nat → Int) (d w : Int) : haltH [2, 3, 7, 95] [0, 1, 2, 10, 9] 16 rd6 (Ly.run ctxH 9000 [(13, true), (6, true), (3, true), (2, true), (4, false), (13, true), (22, true)] (Ly.start Try.f6 [svV (pc0 s) nilS nilS, .int .u8 d, .int .u16 w] (mkH [some (ints .u8 f n), some (bytes2 fa fb k)]))) =
  (true, [tLt 3 d, tLt w 16, tLt (pc0 s).sp 256, tLt 65000 w, tGt w (pc0 s).sp false, tOk (GA (l6 d w) 6) 6, tOk (GA (l6 d w) 6) 6], true, (Try.f6, k6, some 85, 2), v6 2 10 w, (true, true, true), [some (ints .u8 f n), some (bytes2 fa fb k), some (.cells (sCells (pc0 s) nilS (.slice (some ⟨4, 0, none⟩) 6 6)) 29), some (.cells (cellsPb 9 0 (mOf (pc0 s)) nilV nilV) 60), some (memL (gs (g6 d w)))]) := by kernel_rfl
theorem c6_NN (ht : Tail6) (s : Sv) (n k : Nat) (f fa fb : Nat → Int) (d w : Int) (hs : s.Ok) (hw : B16 w) (h1 : 0 ≤ d) (h2 : d ≤ 3) (hp : s.pc = 0) (h3 : ¬ w < 16) (h4 : ¬ s.sp < 256) (h5 : ¬ 65000 < w) (h7 : w < s.sp → ¬ w16 (s.sp - w) < 8) : LCalls Try.prog 6 [svV s nilS nilS, .int .u8 d, .int .u16 w] (mkH [some (ints .u8 f n), some (bytes2 fa fb k)]) (fun u _ => u = .bool true) := by
  have es : s = pc0 s := by cases s; simp only at hp; subst hp; rfl
  have key : ∀ H : Heap, H.next = 16 → H.lock = 0 → Ly.Clean H → List.map H.get [0, 1, 2, 10, 9] = [some (ints .u8 f n), some (bytes2 fa fb k), some (.cells (sCells (pc0 s) nilS (.slice (some ⟨4, 0, none⟩) 6 6)) 29), some (.cells (cellsPb 9 0 (mOf (pc0 s)) nilV nilV) 60), some (memL (gs (g6 d w)))] → MWp Try.prog (atSt Try.f6 k6 (some 85) 2 (v6 2 10 w) H) (fun u _ => u = .bool true) := by
    intro H hnx hl hc hos
    rw [gs_eq] at hos
    refine MWp.keepB (nx := 16) (os' := [none, none, some (.cells (sCells (pc0 s) anyV anyV) 29), some (.cells (cellsPb 9 0 (mOf (pc0 s)) anyV nilV) 60), some (memL (g6 d w))]) [2, 3, 7, 95] hnx hl hos ⟨trivial, trivial, OWo.cells (vwS (VW.any _) (VW.any _)), OWo.cells (vwCells (VW.any _) (VW.refl _)), OWo.refl _, trivial⟩ (by decide) (f6_NN s n k f fa fb d w) plain_os6 ?_
    exact ht (pc0 s) d w (by rw [← es]; exact hs) hw h1 h2 rfl h3 (by rw [← es]; exact h4) h5 (by rw [← es]; exact h7)
  have hG := gok6 (d := d) hw
  by_cases h6 : w < s.sp
  · rw [es] at h4 h6 h7 ⊢
    exact LCalls_of ctxH_ok gLH6 (by kernel_rfl) (MWp.haltH ctxH_ok _ _ _ _ (e6a_NN s n k f fa fb d w) (tr_cons (tLt_ok (by omega)) (tr_cons (tLt_ok (by omega)) (tr_cons (tLt_ok (by omega)) (tr_cons (tLt_ok (by omega)) (tr_cons (tGt_ok h6) (tr_cons (t8f_ok (h7 h6)) (tr_cons (tOk_ok hG (by omega)) (tr_cons (tOk_ok hG (by omega)) trivial)))))))) key)
  · rw [es] at h4 h6 ⊢
    exact LCalls_of ctxH_ok gLH6 (by kernel_rfl) (MWp.haltH ctxH_ok _ _ _ _ (e6b_NN s n k f fa fb d w) (tr_cons (tLt_ok (by omega)) (tr_cons (tLt_ok (by omega)) (tr_cons (tLt_ok (by omega)) (tr_cons (tLt_ok (by omega)) (tr_cons (tGt_no h6) (tr_cons (tOk_ok hG (by omega)) (tr_cons (tOk_ok hG (by omega)) trivial))))))) key)
theorem f6_NE (s : Sv) (n k : Nat) (f fa fb : Nat → Int) (d w : Int) : formOf [2, 3, 7, 95] [0, 1, 2, 10, 9] (atSt Try.f6 k6 (some 85) 2 (v6 2 10 w) (vH [0, 1, 2, 10, 9] [none, none, some (.cells (sCells (pc0 s) anyV anyV) 29), some (.cells (cellsPb 9 0 (mOf (pc0 s)) anyV nilV) 60), some (memL (g6 d w))] 16)) = (true, (Try.f6, k6, some 85, 2), v6 2 3 w, os6 (pc0 s) (g6 d w)) := by kernel_rfl
set_option maxRecDepth 100000 in
theorem e6a_NE (s : Sv) (n k : Nat) (f fa fb : Nat → Int) (d w : Int) : haltH [2, 3, 7, 95] [0, 1, 2, 10, 9] 16 rd6 (Ly.run ctxH 9000 [(13, true), (6, true), (3, true), (2, true), (4, true), (7, false), (5, true), (22, true)] (Ly.start Try.f6 [svV (pc0 s) nilS (sls 1 0), .int .u8 d, .int .u16 w] (mkH [some (ints .u8 f n), some (bytes2 fa fb 0)]))) =
  (true, [tLt 3 d, tLt w 16, tLt (pc0 s).sp 256, tLt 65000 w, tGt w (pc0 s).sp true, t8f (pc0 s) w, tOk (GA (l6 d w) 6) 6, tOk (GA (l6 d w) 6) 6], true, (Try.f6, k6, some 85, 2), v6 2 10 w, (true, true, true), [some (ints .u8 f n), some (bytes2 fa fb 0), some (.cells (sCells (pc0 s) nilS (.slice (some ⟨4, 0, none⟩) 6 6)) 29), some (.cells (cellsPb 9 0 (mOf (pc0 s)) nilV nilV) 60), some (memL (gs (g6 d w)))]) := by kernel_rfl
set_option maxRecDepth 100000 in
theorem e6b_NE (s : Sv) (n k : Nat) (f fa fb : Nat → Int) (d w : Int) : haltH [2, 3, 7, 95] [0, 1, 2, 10, 9] 16 rd6 (Ly.run ctxH 9000 [(13, true), (6, true), (3, true), (2, true), (4, false), (13, true), (22, true)] (Ly.start Try.f6 [svV (pc0 s) nilS (sls 1 0), .int .u8 d, .int .u16 w] (mkH [some (ints .u8 f n), some (bytes2 fa fb 0)]))) =
  (true, [tLt 3 d, tLt w 16, tLt (pc0 s).sp 256, tLt 65000 w, tGt w (pc0 s).sp false, tOk (GA (l6 d w) 6) 6, tOk (GA (l6 d w) 6) 6], true, (Try.f6, k6, some 85, 2), v6 2 10 w, (true, true, true), [some (ints .u8 f n), some (bytes2 fa fb 0), some (.cells (sCells (pc0 s) nilS (.slice (some ⟨4, 0, none⟩) 6 6)) 29), some (.cells (cellsPb 9 0 (mOf (pc0 s)) nilV nilV) 60), some (memL (gs (g6 d w)))]) := by kernel_rfl
theorem c6_NE (ht : Tail6) (s : Sv) (n k : Nat) (f fa fb : Nat → Int) (d w : Int) (hs : s.Ok) (hw : B16 w) (h1 : 0 ≤ d) (h2 : d ≤ 3) (hp : s.pc = 0) (h3 : ¬ w < 16) (h4 : ¬ s.sp < 256) (h5 : ¬ 65000 < w) (h7 : w < s.sp → ¬ w16 (s.sp - w) < 8) : LCalls Try.prog 6 [svV s nilS (sls 1 0), .int .u8 d, .int .u16 w] (mkH [some (ints .u8 f n), some (bytes2 fa fb 0)]) (fun u _ => u = .bool true) := by
  have es : s = pc0 s := by cases s; simp only at hp; subst hp; rfl
  have key : ∀ H : Heap, H.next = 16 → H.lock = 0 → Ly.Clean H → List.map H.get [0, 1, 2, 10, 9] = [some (ints .u8 f n), some (bytes2 fa fb 0), some (.cells (sCells (pc0 s) nilS (.slice (some ⟨4, 0, none⟩) 6 6)) 29), some (.cells (cellsPb 9 0 (mOf (pc0 s)) nilV nilV) 60), some (memL (gs (g6 d w)))] → MWp Try.prog (atSt Try.f6 k6 (some 85) 2 (v6 2 10 w) H) (fun u _ => u = .bool true) := by
    intro H hnx hl hc hos
    rw [gs_eq] at hos
    refine MWp.keepB (nx := 16) (os' := [none, none, some (.cells (sCells (pc0 s) anyV anyV) 29), some (.cells (cellsPb 9 0 (mOf (pc0 s)) anyV nilV) 60), some (memL (g6 d w))]) [2, 3, 7, 95] hnx hl hos ⟨trivial, trivial, OWo.cells (vwS (VW.any _) (VW.any _)), OWo.cells (vwCells (VW.any _) (VW.refl _)), OWo.refl _, trivial⟩ (by decide) (f6_NE s n k f fa fb d w) plain_os6 ?_
    exact ht (pc0 s) d w (by rw [← es]; exact hs) hw h1 h2 rfl h3 (by rw [← es]; exact h4) h5 (by rw [← es]; exact h7)
  have hG := gok6 (d := d) hw
  by_cases h6 : w < s.sp
  · rw [es] at h4 h6 h7 ⊢
    exact LCalls_of ctxH_ok gLH6 (by kernel_rfl) (MWp.haltH ctxH_ok _ _ _ _ (e6a_NE s n k f fa fb d w) (tr_cons (tLt_ok (by omega)) (tr_cons (tLt_ok (by omega)) (tr_cons (tLt_ok (by omega)) (tr_cons (tLt_ok (by omega)) (tr_cons (tGt_ok h6) (tr_cons (t8f_ok (h7 h6)) (tr_cons (tOk_ok hG (by omega)) (tr_cons (tOk_ok hG (by omega)) trivial)))))))) key)
  · rw [es] at h4 h6 ⊢
    exact LCalls_of ctxH_ok gLH6 (by kernel_rfl) (MWp.haltH ctxH_ok _ _ _ _ (e6b_NE s n k f fa fb d w) (tr_cons (tLt_ok (by omega)) (tr_cons (tLt_ok (by omega)) (tr_cons (tLt_ok (by omega)) (tr_cons (tLt_ok (by omega)) (tr_cons (tGt_no h6) (tr_cons (tOk_ok hG (by omega)) (tr_cons (tOk_ok hG (by omega)) trivial))))))) key)
theorem f6_NR (s : Sv) (n k : Nat) (f fa fb : Nat → Int) (d w : Int) : formOf [2, 3, 7, 95] [0, 1, 2, 10, 9] (atSt Try.f6 k6 (some 85) 2 (v6 2 10 w) (vH [0, 1, 2, 10, 9] [none, none, some (.cells (sCells (pc0 s) anyV anyV) 29), some (.cells (cellsPb 9 0 (mOf (pc0 s)) anyV nilV) 60), some (memL (g6 d w))] 16)) = (true, (Try.f6, k6, some 85, 2), v6 2 3 w, os6 (pc0 s) (g6 d w)) := by kernel_rfl
set_option maxRecDepth 100000 in
theorem e6a_NR (s : Sv) (n k : Nat) (f fa fb : Nat → Int) (d w : Int) : haltH [2, 3, 7, 95] [0, 1, 2, 10, 9] 16 rd6 (Ly.run ctxH 9000 [(5, true), (7, true), (6, true), (3, true), (2, true), (4, true), (7, false), (5, true), (22, true)] (Ly.start Try.f6 [svV (pc0 s) nilS (sls 1 (k + 1)), .int .u8 d, .int .u16 w] (mkH [some (ints .u8 f n), some (bytes2 fa fb (k + 1))]))) =
  (true, [tLn8 k, tLt 3 d, tLt w 16, tLt (pc0 s).sp 256, tLt 65000 w, tGt w (pc0 s).sp true, t8f (pc0 s) w, tOk (GA (l6 d w) 6) 6, tOk (GA (l6 d w) 6) 6], true, (Try.f6, k6, some 85, 2), v6 2 10 w, (true, true, true), [some (ints .u8 f n), some (bytes2 fa fb (k + 1)), some (.cells (sCells (pc0 s) nilS (.slice (some ⟨4, 0, none⟩) 6 6)) 29), some (.cells (cellsPb 9 0 (mOf (pc0 s)) nilV nilV) 60), some (memL (gs (g6 d w)))]) := by kernel_rfl
set_option maxRecDepth 100000 in
theorem e6b_NR (s : Sv) (n k : Nat) (f fa fb : Nat → Int) (d w : Int) : haltH [2, 3, 7, 95] [0, 1, 2, 10, 9] 16 rd6 (Ly.run ctxH 9000 [(5, true), (7, true), (6, true), (3, true), (2, true), (4, false), (13, true), (22, true)] (Ly.start Try.f6 [svV (pc0 s) nilS (sls 1 (k + 1)), .int .u8 d, .int .u16 w] (mkH [some (ints .u8 f n), some (bytes2 fa fb (k + 1))]))) =
  (true, [tLn8 k, tLt 3 d, tLt w 16, tLt (pc0 s).sp 256, tLt 65000 w, tGt w (pc0 s).sp false, tOk (GA (l6 d w) 6) 6, tOk (GA (l6 d w) 6) 6], true, (Try.f6, k6, some 85, 2), v6 2 10 w, (true, true, true), [some (ints .u8 f n), some (bytes2 fa fb (k + 1)), some (.cells (sCells (pc0 s) nilS (.slice (some ⟨4, 0, none⟩) 6 6)) 29), some (.cells (cellsPb 9 0 (mOf (pc0 s)) nilV nilV) 60), some (memL (gs (g6 d w)))]) := by kernel_rfl
theorem c6_NR (ht : Tail6) (s : Sv) (n k : Nat) (f fa fb : Nat → Int) (d w : Int) (hs : s.Ok) (hw : B16 w) (h1 : 0 ≤ d) (h2 : d ≤ 3) (hp : s.pc = 0) (h3 : ¬ w < 16) (h4 : ¬ s.sp < 256) (h5 : ¬ 65000 < w) (hk : k + 1 ≤ 300) (h7 : w < s.sp → ¬ w16 (s.sp - w) < 8) : LCalls Try.prog 6 [svV s nilS (sls 1 (k + 1)), .int .u8 d, .int .u16 w] (mkH [some (ints .u8 f n), some (bytes2 fa fb (k + 1))]) (fun u _ => u = .bool true) := by
  have es : s = pc0 s := by cases s; simp only at hp; subst hp; rfl
  have key : ∀ H : Heap, H.next = 16 → H.lock = 0 → Ly.Clean H → List.map H.get [0, 1, 2, 10, 9] = [some (ints .u8 f n), some (bytes2 fa fb (k + 1)), some (.cells (sCells (pc0 s) nilS (.slice (some ⟨4, 0, none⟩) 6 6)) 29), some (.cells (cellsPb 9 0 (mOf (pc0 s)) nilV nilV) 60), some (memL (gs (g6 d w)))] → MWp Try.prog (atSt Try.f6 k6 (some 85) 2 (v6 2 10 w) H) (fun u _ => u = .bool true) := by
    intro H hnx hl hc hos
    rw [gs_eq] at hos
    refine MWp.keepB (nx := 16) (os' := [none, none, some (.cells (sCells (pc0 s) anyV anyV) 29), some (.cells (cellsPb 9 0 (mOf (pc0 s)) anyV nilV) 60), some (memL (g6 d w))]) [2, 3, 7, 95] hnx hl hos ⟨trivial, trivial, OWo.cells (vwS (VW.any _) (VW.any _)), OWo.cells (vwCells (VW.any _) (VW.refl _)), OWo.refl _, trivial⟩ (by decide) (f6_NR s n k f fa fb d w) plain_os6 ?_
    exact ht (pc0 s) d w (by rw [← es]; exact hs) hw h1 h2 rfl h3 (by rw [← es]; exact h4) h5 (by rw [← es]; exact h7)
  have hG := gok6 (d := d) hw
  by_cases h6 : w < s.sp
  · rw [es] at h4 h6 h7 ⊢
    exact LCalls_of ctxH_ok gLH6 (by kernel_rfl) (MWp.haltH ctxH_ok _ _ _ _ (e6a_NR s n k f fa fb d w) (tr_cons (tLn8_ok (by omega)) (tr_cons (tLt_ok (by omega)) (tr_cons (tLt_ok (by omega)) (tr_cons (tLt_ok (by omega)) (tr_cons (tLt_ok (by omega)) (tr_cons (tGt_ok h6) (tr_cons (t8f_ok (h7 h6)) (tr_cons (tOk_ok hG (by omega)) (tr_cons (tOk_ok hG (by omega)) trivial))))))))) key)
  · rw [es] at h4 h6 ⊢
    exact LCalls_of ctxH_ok gLH6 (by kernel_rfl) (MWp.haltH ctxH_ok _ _ _ _ (e6b_NR s n k f fa fb d w) (tr_cons (tLn8_ok (by omega)) (tr_cons (tLt_ok (by omega)) (tr_cons (tLt_ok (by omega)) (tr_cons (tLt_ok (by omega)) (tr_cons (tLt_ok (by omega)) (tr_cons (tGt_no h6) (tr_cons (tOk_ok hG (by omega)) (tr_cons (tOk_ok hG (by omega)) trivial)))))))) key)
theorem f6_EN (s : Sv) (n k : Nat) (f fa fb : Nat → Int) (d w : Int) : formOf [2, 3, 7, 95] [0, 1, 2, 11, 10] (atSt Try.f6 k6 (some 85) 2 (v6 2 11 w) (vH [0, 1, 2, 11, 10] [none, none, some (.cells (sCells (pc0 s) anyV anyV) 29), some (.cells (cellsPb 10 0 (mOf (pc0 s)) anyV nilV) 60), some (memL (g6 d w))] 17)) = (true, (Try.f6, k6, some 85, 2), v6 2 3 w, os6 (pc0 s) (g6 d w)) := by kernel_rfl
set_option maxRecDepth 100000 in
theorem e6a_EN (s : Sv) (n k : Nat) (f fa fb : Nat → Int) (d w : Int) : haltH [2, 3, 7, 95] [0, 1, 2, 11, 10] 17 rd6 (Ly.run ctxH 9000 [(13, true), (6, true), (3, true), (2, true), (4, true), (7, false), (5, true), (25, true)] (Ly.start Try.f6 [svV (pc0 s) (sl 0 0) nilS, .int .u8 d, .int .u16 w] (mkH [some (ints .u8 f 0), some (bytes2 fa fb k)]))) =
  (true, [tLt 3 d, tLt w 16, tLt (pc0 s).sp 256, tLt 65000 w, tGt w (pc0 s).sp true, t8f (pc0 s) w, tOk (GA (l6 d w) 6) 6, tOk (GA (l6 d w) 6) 6], true, (Try.f6, k6, some 85, 2), v6 2 11 w, (true, true, true), [some (ints .u8 f 0), some (bytes2 fa fb k), some (.cells (sCells (pc0 s) (sl 0 0) (.slice (some ⟨4, 0, none⟩) 6 6)) 29), some (.cells (cellsPb 10 0 (mOf (pc0 s)) (.slice (some ⟨8, 0, none⟩) 0 0) nilV) 60), some (memL (gs (g6 d w)))]) := by kernel_rfl
set_option maxRecDepth 100000 in
theorem e6b_EN (s : Sv) (n k : Nat) (f fa fb : Nat → Int) (d w : Int) : haltH [2, 3, 7, 95] [0, 1, 2, 11, 10] 17 rd6 (Ly.run ctxH 9000 [(13, true), (6, true), (3, true), (2, true), (4, false), (13, true), (25, true)] (Ly.start Try.f6 [svV (pc0 s) (sl 0 0) nilS, .int .u8 d, .int .u16 w] (mkH [some (ints .u8 f 0), some (bytes2 fa fb k)]))) =
  (true, [tLt 3 d, tLt w 16, tLt (pc0 s).sp 256, tLt 65000 w, tGt w (pc0 s).sp false, tOk (GA (l6 d w) 6) 6, tOk (GA (l6 d w) 6) 6], true, (Try.f6, k6, some 85, 2), v6 2 11 w, (true, true, true), [some (ints .u8 f 0), some (bytes2 fa fb k), some (.cells (sCells (pc0 s) (sl 0 0) (.slice (some ⟨4, 0, none⟩) 6 6)) 29), some (.cells (cellsPb 10 0 (mOf (pc0 s)) (.slice (some ⟨8, 0, none⟩) 0 0) nilV) 60), some (memL (gs (g6 d w)))]) := by kernel_rfl
theorem c6_EN (ht : Tail6) (s : Sv) (n k : Nat) (f fa fb : Nat → Int) (d w : Int) (hs : s.Ok) (hw : B16 w) (h1 : 0 ≤ d) (h2 : d ≤ 3) (hp : s.pc = 0) (h3 : ¬ w < 16) (h4 : ¬ s.sp < 256) (h5 : ¬ 65000 < w) (h7 : w < s.sp → ¬ w16 (s.sp - w) < 8) : LCalls Try.prog 6 [svV s (sl 0 0) nilS, .int .u8 d, .int .u16 w] (mkH [some (ints .u8 f 0), some (bytes2 fa fb k)]) (fun u _ => u = .bool true) := by
  have es : s = pc0 s := by cases s; simp only at hp; subst hp; rfl
  have key : ∀ H : Heap, H.next = 17 → H.lock = 0 → Ly.Clean H → List.map H.get [0, 1, 2, 11, 10] = [some (ints .u8 f 0), some (bytes2 fa fb k), some (.cells (sCells (pc0 s) (sl 0 0) (.slice (some ⟨4, 0, none⟩) 6 6)) 29), some (.cells (cellsPb 10 0 (mOf (pc0 s)) (.slice (some ⟨8, 0, none⟩) 0 0) nilV) 60), some (memL (gs (g6 d w)))] → MWp Try.prog (atSt Try.f6 k6 (some 85) 2 (v6 2 11 w) H) (fun u _ => u = .bool true) := by
    intro H hnx hl hc hos
    rw [gs_eq] at hos
    refine MWp.keepB (nx := 17) (os' := [none, none, some (.cells (sCells (pc0 s) anyV anyV) 29), some (.cells (cellsPb 10 0 (mOf (pc0 s)) anyV nilV) 60), some (memL (g6 d w))]) [2, 3, 7, 95] hnx hl hos ⟨trivial, trivial, OWo.cells (vwS (VW.any _) (VW.any _)), OWo.cells (vwCells (VW.any _) (VW.refl _)), OWo.refl _, trivial⟩ (by decide) (f6_EN s n k f fa fb d w) plain_os6 ?_
    exact ht (pc0 s) d w (by rw [← es]; exact hs) hw h1 h2 rfl h3 (by rw [← es]; exact h4) h5 (by rw [← es]; exact h7)
  have hG := gok6 (d := d) hw
  by_cases h6 : w < s.sp
  · rw [es] at h4 h6 h7 ⊢
    exact LCalls_of ctxH_ok gLH6 (by kernel_rfl) (MWp.haltH ctxH_ok _ _ _ _ (e6a_EN s n k f fa fb d w) (tr_cons (tLt_ok (by omega)) (tr_cons (tLt_ok (by omega)) (tr_cons (tLt_ok (by omega)) (tr_cons (tLt_ok (by omega)) (tr_cons (tGt_ok h6) (tr_cons (t8f_ok (h7 h6)) (tr_cons (tOk_ok hG (by omega)) (tr_cons (tOk_ok hG (by omega)) trivial)))))))) key)
  · rw [es] at h4 h6 ⊢
    exact LCalls_of ctxH_ok gLH6 (by kernel_rfl) (MWp.haltH ctxH_ok _ _ _ _ (e6b_EN s n k f fa fb d w) (tr_cons (tLt_ok (by omega)) (tr_cons (tLt_ok (by omega)) (tr_cons (tLt_ok (by omega)) (tr_cons (tLt_ok (by omega)) (tr_cons (tGt_no h6) (tr_cons (tOk_ok hG (by omega)) (tr_cons (tOk_ok hG (by omega)) trivial))))))) key)
theorem f6_EE (s : Sv) (n k : Nat) (f fa fb : Nat → Int) (d w : Int) : formOf [2, 3, 7, 95] [0, 1, 2, 11, 10] (atSt Try.f6 k6 (some 85) 2 (v6 2 11 w) (vH [0, 1, 2, 11, 10] [none, none, some (.cells (sCells (pc0 s) anyV anyV) 29), some (.cells (cellsPb 10 0 (mOf (pc0 s)) anyV nilV) 60), some (memL (g6 d w))] 17)) = (true, (Try.f6, k6, some 85, 2), v6 2 3 w, os6 (pc0 s) (g6 d w)) := by kernel_rfl
set_option maxRecDepth 100000 in
theorem e6a_EE (s : Sv) (n k : Nat) (f fa fb : Nat → Int) (d w : Int) : haltH [2, 3, 7, 95] [0, 1, 2, 11, 10] 17 rd6 (Ly.run ctxH 9000 [(13, true), (6, true), (3, true), (2, true), (4, true), (7, false), (5, true), (25, true)] (Ly.start Try.f6 [svV (pc0 s) (sl 0 0) (sls 1 0), .int .u8 d, .int .u16 w] (mkH [some (ints .u8 f 0), some (bytes2 fa fb 0)]))) =
  (true, [tLt 3 d, tLt w 16, tLt (pc0 s).sp 256, tLt 65000 w, tGt w (pc0 s).sp true, t8f (pc0 s) w, tOk (GA (l6 d w) 6) 6, tOk (GA (l6 d w) 6) 6], true, (Try.f6, k6, some 85, 2), v6 2 11 w, (true, true, true), [some (ints .u8 f 0), some (bytes2 fa fb 0), some (.cells (sCells (pc0 s) (sl 0 0) (.slice (some ⟨4, 0, none⟩) 6 6)) 29), some (.cells (cellsPb 10 0 (mOf (pc0 s)) (.slice (some ⟨8, 0, none⟩) 0 0) nilV) 60), some (memL (gs (g6 d w)))]) := by kernel_rfl
set_option maxRecDepth 100000 in
theorem e6b_EE (s : Sv) (n k : Nat) (f fa fb : Nat → Int) (d w : Int) : haltH [2, 3, 7, 95] [0, 1, 2, 11, 10] 17 rd6 (Ly.run ctxH 9000 [(13, true), (6, true), (3, true), (2, true), (4, false), (13, true), (25, true)] (Ly.start Try.f6 [svV (pc0 s) (sl 0 0) (sls 1 0), .int .u8 d, .int .u16 w] (mkH [some (ints .u8 f 0), some (bytes2 fa fb 0)]))) =
  (true, [tLt 3 d, tLt w 16, tLt (pc0 s).sp 256, tLt 65000 w, tGt w (pc0 s).sp false, tOk (GA (l6 d w) 6) 6, tOk (GA (l6 d w) 6) 6], true, (Try.f6, k6, some 85, 2), v6 2 11 w, (true, true, true), [some (ints .u8 f 0), some (bytes2 fa fb 0), some (.cells (sCells (pc0 s) (sl 0 0) (.slice (some ⟨4, 0, none⟩) 6 6)) 29), some (.cells (cellsPb 10 0 (mOf (pc0 s)) (.slice (some ⟨8, 0, none⟩) 0 0) nilV) 60), some (memL (gs (g6 d w)))]) := by kernel_rfl
theorem c6_EE (ht : Tail6) (s : Sv) (n k : Nat) (f fa fb : Nat → Int) (d w : Int) (hs : s.Ok) (hw : B16 w) (h1 : 0 ≤ d) (h2 : d ≤ 3) (hp : s.pc = 0) (h3 : ¬ w < 16) (h4 : ¬ s.sp < 256) (h5 : ¬ 65000 < w) (h7 : w < s.sp → ¬ w16 (s.sp - w) < 8) : LCalls Try.prog 6 [svV s (sl 0 0) (sls 1 0), .int .u8 d, .int .u16 w] (mkH [some (ints .u8 f 0), some (bytes2 fa fb 0)]) (fun u _ => u = .bool true) := by
  have es : s = pc0 s := by cases s; simp only at hp; subst hp; rfl
  have key : ∀ H : Heap, H.next = 17 → H.lock = 0 → Ly.Clean H → List.map H.get [0, 1, 2, 11, 10] = [some (ints .u8 f 0), some (bytes2 fa fb 0), some (.cells (sCells (pc0 s) (sl 0 0) (.slice (some ⟨4, 0, none⟩) 6 6)) 29), some (.cells (cellsPb 10 0 (mOf (pc0 s)) (.slice (some ⟨8, 0, none⟩) 0 0) nilV) 60), some (memL (gs (g6 d w)))] → MWp Try.prog (atSt Try.f6 k6 (some 85) 2 (v6 2 11 w) H) (fun u _ => u = .bool true) := by
    intro H hnx hl hc hos
    rw [gs_eq] at hos
    refine MWp.keepB (nx := 17) (os' := [none, none, some (.cells (sCells (pc0 s) anyV anyV) 29), some (.cells (cellsPb 10 0 (mOf (pc0 s)) anyV nilV) 60), some (memL (g6 d w))]) [2, 3, 7, 95] hnx hl hos ⟨trivial, trivial, OWo.cells (vwS (VW.any _) (VW.any _)), OWo.cells (vwCells (VW.any _) (VW.refl _)), OWo.refl _, trivial⟩ (by decide) (f6_EE s n k f fa fb d w) plain_os6 ?_
    exact ht (pc0 s) d w (by rw [← es]; exact hs) hw h1 h2 rfl h3 (by rw [← es]; exact h4) h5 (by rw [← es]; exact h7)
  have hG := gok6 (d := d) hw
  by_cases h6 : w < s.sp
  · rw [es] at h4 h6 h7 ⊢
    exact LCalls_of ctxH_ok gLH6 (by kernel_rfl) (MWp.haltH ctxH_ok _ _ _ _ (e6a_EE s n k f fa fb d w) (tr_cons (tLt_ok (by omega)) (tr_cons (tLt_ok (by omega)) (tr_cons (tLt_ok (by omega)) (tr_cons (tLt_ok (by omega)) (tr_cons (tGt_ok h6) (tr_cons (t8f_ok (h7 h6)) (tr_cons (tOk_ok hG (by omega)) (tr_cons (tOk_ok hG (by omega)) trivial)))))))) key)
  · rw [es] at h4 h6 ⊢
    exact LCalls_of ctxH_ok gLH6 (by kernel_rfl) (MWp.haltH ctxH_ok _ _ _ _ (e6b_EE s n k f fa fb d w) (tr_cons (tLt_ok (by omega)) (tr_cons (tLt_ok (by omega)) (tr_cons (tLt_ok (by omega)) (tr_cons (tLt_ok (by omega)) (tr_cons (tGt_no h6) (tr_cons (tOk_ok hG (by omega)) (tr_cons (tOk_ok hG (by omega)) trivial))))))) key)
theorem f6_ER (s : Sv) (n k : Nat) (f fa fb : Nat → Int) (d w : Int) : formOf [2, 3, 7, 95] [0, 1, 2, 11, 10] (atSt Try.f6 k6 (some 85) 2 (v6 2 11 w) (vH [0, 1, 2, 11, 10] [none, none, some (.cells (sCells (pc0 s) anyV anyV) 29), some (.cells (cellsPb 10 0 (mOf (pc0 s)) anyV nilV) 60), some (memL (g6 d w))] 17)) = (true, (Try.f6, k6, some 85, 2), v6 2 3 w, os6 (pc0 s) (g6 d w)) := by kernel_rfl
set_option maxRecDepth 100000 in
theorem e6a_ER (s : Sv) (n k : Nat) (f fa fb : Nat → Int) (d w : Int) : haltH [2, 3, 7, 95] [0, 1, 2, 11, 10] 17 rd6 (Ly.run ctxH 9000 [(5, true), (7, true), (6, true), (3, true), (2, true), (4, true), (7, false), (5, true), (25, true)] (Ly.start Try.f6 [svV (pc0 s) (sl 0 0) (sls 1 (k + 1)), .int .u8 d, .int .u16 w] (mkH [some (ints .u8 f 0), some (bytes2 fa fb (k + 1))]))) =
  (true, [tLn8 k, tLt 3 d, tLt w 16, tLt (pc0 s).sp 256, tLt 65000 w, tGt w (pc0 s).sp true, t8f (pc0 s) w, tOk (GA (l6 d w) 6) 6, tOk (GA (l6 d w) 6) 6], true, (Try.f6, k6, some 85, 2), v6 2 11 w, (true, true, true), [some (ints .u8 f 0), some (bytes2 fa fb (k + 1)), some (.cells (sCells (pc0 s) (sl 0 0) (.slice (some ⟨4, 0, none⟩) 6 6)) 29), some (.cells (cellsPb 10 0 (mOf (pc0 s)) (.slice (some ⟨8, 0, none⟩) 0 0) nilV) 60), some (memL (gs (g6 d w)))]) := by kernel_rfl
set_option maxRecDepth 100000 in
theorem e6b_ER (s : Sv) (n k : Nat) (f fa fb : Nat → Int) (d w : Int) : haltH [2, 3, 7, 95] [0, 1, 2, 11, 10] 17 rd6 (Ly.run ctxH 9000 [(5, true), (7, true), (6, true), (3, true), (2, true), (4, false), (13, true), (25, true)] (Ly.start Try.f6 [svV (pc0 s) (sl 0 0) (sls 1 (k + 1)), .int .u8 d, .int .u16 w] (mkH [some (ints .u8 f 0), some (bytes2 fa fb (k + 1))]))) =
  (true, [tLn8 k, tLt 3 d, tLt w 16, tLt (pc0 s).sp 256, tLt 65000 w, tGt w (pc0 s).sp false, tOk (GA (l6 d w) 6) 6, tOk (GA (l6 d w) 6) 6], true, (Try.f6, k6, some 85, 2), v6 2 11 w, (true, true, true), [some (ints .u8 f 0), some (bytes2 fa fb (k + 1)), some (.cells (sCells (pc0 s) (sl 0 0) (.slice (some ⟨4, 0, none⟩) 6 6)) 29), some (.cells (cellsPb 10 0 (mOf (pc0 s)) (.slice (some ⟨8, 0, none⟩) 0 0) nilV) 60), some (memL (gs (g6 d w)))]) := by kernel_rfl
theorem c6_ER (ht : Tail6) (s : Sv) (n k : Nat) (f fa fb : Nat → Int) (d w : Int) (hs : s.Ok) (hw : B16 w) (h1 : 0 ≤ d) (h2 : d ≤ 3) (hp : s.pc = 0) (h3 : ¬ w < 16) (h4 : ¬ s.sp < 256) (h5 : ¬ 65000 < w) (hk : k + 1 ≤ 300) (h7 : w < s.sp → ¬ w16 (s.sp - w) < 8) : LCalls Try.prog 6 [svV s (sl 0 0) (sls 1 (k + 1)), .int .u8 d, .int .u16 w] (mkH [some (ints .u8 f 0), some (bytes2 fa fb (k + 1))]) (fun u _ => u = .bool true) := by
  have es : s = pc0 s := by cases s; simp only at hp; subst hp; rfl
  have key : ∀ H : Heap, H.next = 17 → H.lock = 0 → Ly.Clean H → List.map H.get [0, 1, 2, 11, 10] = [some (ints .u8 f 0), some (bytes2 fa fb (k + 1)), some (.cells (sCells (pc0 s) (sl 0 0) (.slice (some ⟨4, 0, none⟩) 6 6)) 29), some (.cells (cellsPb 10 0 (mOf (pc0 s)) (.slice (some ⟨8, 0, none⟩) 0 0) nilV) 60), some (memL (gs (g6 d w)))] → MWp Try.prog (atSt Try.f6 k6 (some 85) 2 (v6 2 11 w) H) (fun u _ => u = .bool true) := by
    intro H hnx hl hc hos
    rw [gs_eq] at hos
    refine MWp.keepB (nx := 17) (os' := [none, none, some (.cells (sCells (pc0 s) anyV anyV) 29), some (.cells (cellsPb 10 0 (mOf (pc0 s)) anyV nilV) 60), some (memL (g6 d w))]) [2, 3, 7, 95] hnx hl hos ⟨trivial, trivial, OWo.cells (vwS (VW.any _) (VW.any _)), OWo.cells (vwCells (VW.any _) (VW.refl _)), OWo.refl _, trivial⟩ (by decide) (f6_ER s n k f fa fb d w) plain_os6 ?_
    exact ht (pc0 s) d w (by rw [← es]; exact hs) hw h1 h2 rfl h3 (by rw [← es]; exact h4) h5 (by rw [← es]; exact h7)
  have hG := gok6 (d := d) hw
  by_cases h6 : w < s.sp
  · rw [es] at h4 h6 h7 ⊢
    exact LCalls_of ctxH_ok gLH6 (by kernel_rfl) (MWp.haltH ctxH_ok _ _ _ _ (e6a_ER s n k f fa fb d w) (tr_cons (tLn8_ok (by omega)) (tr_cons (tLt_ok (by omega)) (tr_cons (tLt_ok (by omega)) (tr_cons (tLt_ok (by omega)) (tr_cons (tLt_ok (by omega)) (tr_cons (tGt_ok h6) (tr_cons (t8f_ok (h7 h6)) (tr_cons (tOk_ok hG (by omega)) (tr_cons (tOk_ok hG (by omega)) trivial))))))))) key)
  · rw [es] at h4 h6 ⊢
    exact LCalls_of ctxH_ok gLH6 (by kernel_rfl) (MWp.haltH ctxH_ok _ _ _ _ (e6b_ER s n k f fa fb d w) (tr_cons (tLn8_ok (by omega)) (tr_cons (tLt_ok (by omega)) (tr_cons (tLt_ok (by omega)) (tr_cons (tLt_ok (by omega)) (tr_cons (tLt_ok (by omega)) (tr_cons (tGt_no h6) (tr_cons (tOk_ok hG (by omega)) (tr_cons (tOk_ok hG (by omega)) trivial)))))))) key)
theorem f6_RN (s : Sv) (n k : Nat) (f fa fb : Nat → Int) (d w : Int) : formOf [2, 3, 7, 95] [0, 1, 2, 12, 11] (atSt Try.f6 k6 (some 85) 2 (v6 2 12 w) (vH [0, 1, 2, 12, 11] [none, none, some (.cells (sCells (pc0 s) anyV anyV) 29), some (.cells (cellsPb 11 0 (mOf (pc0 s)) anyV nilV) 60), some (memL (g6 d w))] 18)) = (true, (Try.f6, k6, some 85, 2), v6 2 3 w, os6 (pc0 s) (g6 d w)) := by kernel_rfl
set_option maxRecDepth 100000 in
theorem e6a_RN (s : Sv) (n k : Nat) (f fa fb : Nat → Int) (d w : Int) : haltH [2, 3, 7, 95] [0, 1, 2, 12, 11] 18 rd6 (Ly.run ctxH 9000 [(0, true), (9, true), (2, true), (6, true), (3, true), (2, true), (4, true), (7, false), (5, true), (11, false), (1, true), (11, true)] (Ly.start Try.f6 [svV (pc0 s) (sl 0 (n + 1)) nilS, .int .u8 d, .int .u16 w] (mkH [some (ints .u8 f (n + 1)), some (bytes2 fa fb k)]))) =
  (true, [tLi n, tMe n, tLt 3 d, tLt w 16, tLt (pc0 s).sp 256, tLt 65000 w, tGt w (pc0 s).sp true, t8f (pc0 s) w, tOk (GA (l6 d w) 6) 6, tMx n, tR1 n, tOk (GA (l6 d w) 6) 6], true, (Try.f6, k6, some 85, 2), v6 2 12 w, (true, true, true), [some (ints .u8 f (n + 1)), some (bytes2 fa fb k), some (.cells (sCells (pc0 s) (sl 0 (n + 1)) (.slice (some ⟨4, 0, none⟩) 6 6)) 29), some (.cells (cellsPb 11 0 (mOf (pc0 s)) (inV 9 0 (0 + (n + 1))) nilV) 60), some (memL (gs (g6 d w)))]) := by kernel_rfl
set_option maxRecDepth 100000 in
theorem e6b_RN (s : Sv) (n k : Nat) (f fa fb : Nat → Int) (d w : Int) : haltH [2, 3, 7, 95] [0, 1, 2, 12, 11] 18 rd6 (Ly.run ctxH 9000 [(0, true), (9, true), (2, true), (6, true), (3, true), (2, true), (4, false), (13, true), (11, false), (1, true), (11, true)] (Ly.start Try.f6 [svV (pc0 s) (sl 0 (n + 1)) nilS, .int .u8 d, .int .u16 w] (mkH [some (ints .u8 f (n + 1)), some (bytes2 fa fb k)]))) =
  (true, [tLi n, tMe n, tLt 3 d, tLt w 16, tLt (pc0 s).sp 256, tLt 65000 w, tGt w (pc0 s).sp false, tOk (GA (l6 d w) 6) 6, tMx n, tR1 n, tOk (GA (l6 d w) 6) 6], true, (Try.f6, k6, some 85, 2), v6 2 12 w, (true, true, true), [some (ints .u8 f (n + 1)), some (bytes2 fa fb k), some (.cells (sCells (pc0 s) (sl 0 (n + 1)) (.slice (some ⟨4, 0, none⟩) 6 6)) 29), some (.cells (cellsPb 11 0 (mOf (pc0 s)) (inV 9 0 (0 + (n + 1))) nilV) 60), some (memL (gs (g6 d w)))]) := by kernel_rfl
theorem c6_RN (ht : Tail6) (s : Sv) (n k : Nat) (f fa fb : Nat → Int) (d w : Int) (hs : s.Ok) (hw : B16 w) (h1 : 0 ≤ d) (h2 : d ≤ 3) (hp : s.pc = 0) (h3 : ¬ w < 16) (h4 : ¬ s.sp < 256) (h5 : ¬ 65000 < w) (hn : n + 1 ≤ 256) (h7 : w < s.sp → ¬ w16 (s.sp - w) < 8) : LCalls Try.prog 6 [svV s (sl 0 (n + 1)) nilS, .int .u8 d, .int .u16 w] (mkH [some (ints .u8 f (n + 1)), some (bytes2 fa fb k)]) (fun u _ => u = .bool true) := by
  have es : s = pc0 s := by cases s; simp only at hp; subst hp; rfl
  have key : ∀ H : Heap, H.next = 18 → H.lock = 0 → Ly.Clean H → List.map H.get [0, 1, 2, 12, 11] = [some (ints .u8 f (n + 1)), some (bytes2 fa fb k), some (.cells (sCells (pc0 s) (sl 0 (n + 1)) (.slice (some ⟨4, 0, none⟩) 6 6)) 29), some (.cells (cellsPb 11 0 (mOf (pc0 s)) (inV 9 0 (0 + (n + 1))) nilV) 60), some (memL (gs (g6 d w)))] → MWp Try.prog (atSt Try.f6 k6 (some 85) 2 (v6 2 12 w) H) (fun u _ => u = .bool true) := by
    intro H hnx hl hc hos
    rw [gs_eq] at hos
    refine MWp.keepB (nx := 18) (os' := [none, none, some (.cells (sCells (pc0 s) anyV anyV) 29), some (.cells (cellsPb 11 0 (mOf (pc0 s)) anyV nilV) 60), some (memL (g6 d w))]) [2, 3, 7, 95] hnx hl hos ⟨trivial, trivial, OWo.cells (vwS (VW.any _) (VW.any _)), OWo.cells (vwCells (VW.any _) (VW.refl _)), OWo.refl _, trivial⟩ (by decide) (f6_RN s n k f fa fb d w) plain_os6 ?_
    exact ht (pc0 s) d w (by rw [← es]; exact hs) hw h1 h2 rfl h3 (by rw [← es]; exact h4) h5 (by rw [← es]; exact h7)
  have hG := gok6 (d := d) hw
  by_cases h6 : w < s.sp
  · rw [es] at h4 h6 h7 ⊢
    exact LCalls_of ctxH_ok gLH6 (by kernel_rfl) (MWp.haltH ctxH_ok _ _ _ _ (e6a_RN s n k f fa fb d w) (tr_cons (tLi_ok (by omega)) (tr_cons (tMe_ok (by omega)) (tr_cons (tLt_ok (by omega)) (tr_cons (tLt_ok (by omega)) (tr_cons (tLt_ok (by omega)) (tr_cons (tLt_ok (by omega)) (tr_cons (tGt_ok h6) (tr_cons (t8f_ok (h7 h6)) (tr_cons (tOk_ok hG (by omega)) (tr_cons (tMx_ok hn) (tr_cons (tR1_ok (by omega)) (tr_cons (tOk_ok hG (by omega)) trivial)))))))))))) key)
  · rw [es] at h4 h6 ⊢
    exact LCalls_of ctxH_ok gLH6 (by kernel_rfl) (MWp.haltH ctxH_ok _ _ _ _ (e6b_RN s n k f fa fb d w) (tr_cons (tLi_ok (by omega)) (tr_cons (tMe_ok (by omega)) (tr_cons (tLt_ok (by omega)) (tr_cons (tLt_ok (by omega)) (tr_cons (tLt_ok (by omega)) (tr_cons (tLt_ok (by omega)) (tr_cons (tGt_no h6) (tr_cons (tOk_ok hG (by omega)) (tr_cons (tMx_ok hn) (tr_cons (tR1_ok (by omega)) (tr_cons (tOk_ok hG (by omega)) trivial))))))))))) key)
theorem f6_RE (s : Sv) (n k : Nat) (f fa fb : Nat → Int) (d w : Int) : formOf [2, 3, 7, 95] [0, 1, 2, 12, 11] (atSt Try.f6 k6 (some 85) 2 (v6 2 12 w) (vH [0, 1, 2, 12, 11] [none, none, some (.cells (sCells (pc0 s) anyV anyV) 29), some (.cells (cellsPb 11 0 (mOf (pc0 s)) anyV nilV) 60), some (memL (g6 d w))] 18)) = (true, (Try.f6, k6, some 85, 2), v6 2 3 w, os6 (pc0 s) (g6 d w)) := by kernel_rfl
set_option maxRecDepth 100000 in
theorem e6a_RE (s : Sv) (n k : Nat) (f fa fb : Nat → Int) (d w : Int) : haltH [2, 3, 7, 95] [0, 1, 2, 12, 11] 18 rd6 (Ly.run ctxH 9000 [(0, true), (9, true), (2, true), (6, true), (3, true), (2, true), (4, true), (7, false), (5, true), (11, false), (1, true), (11, true)] (Ly.start Try.f6 [svV (pc0 s) (sl 0 (n + 1)) (sls 1 0), .int .u8 d, .int .u16 w] (mkH [some (ints .u8 f (n + 1)), some (bytes2 fa fb 0)]))) =
  (true, [tLi n, tMe n, tLt 3 d, tLt w 16, tLt (pc0 s).sp 256, tLt 65000 w, tGt w (pc0 s).sp true, t8f (pc0 s) w, tOk (GA (l6 d w) 6) 6, tMx n, tR1 n, tOk (GA (l6 d w) 6) 6], true, (Try.f6, k6, some 85, 2), v6 2 12 w, (true, true, true), [some (ints .u8 f (n + 1)), some (bytes2 fa fb 0), some (.cells (sCells (pc0 s) (sl 0 (n + 1)) (.slice (some ⟨4, 0, none⟩) 6 6)) 29), some (.cells (cellsPb 11 0 (mOf (pc0 s)) (inV 9 0 (0 + (n + 1))) nilV) 60), some (memL (gs (g6 d w)))]) := by kernel_rfl
set_option maxRecDepth 100000 in
theorem e6b_RE (s : Sv) (n k : Nat) (f fa fb : Nat → Int) (d w : Int) : haltH [2, 3, 7, 95] [0, 1, 2, 12, 11] 18 rd6 (Ly.run ctxH 9000 [(0, true), (9, true), (2, true), (6, true), (3, true), (2, true), (4, false), (13, true), (11, false), (1, true), (11, true)] (Ly.start Try.f6 [svV (pc0 s) (sl 0 (n + 1)) (sls 1 0), .int .u8 d, .int .u16 w] (mkH [some (ints .u8 f (n + 1)), some (bytes2 fa fb 0)]))) =
  (true, [tLi n, tMe n, tLt 3 d, tLt w 16, tLt (pc0 s).sp 256, tLt 65000 w, tGt w (pc0 s).sp false, tOk (GA (l6 d w) 6) 6, tMx n, tR1 n, tOk (GA (l6 d w) 6) 6], true, (Try.f6, k6, some 85, 2), v6 2 12 w, (true, true, true), [some (ints .u8 f (n + 1)), some (bytes2 fa fb 0), some (.cells (sCells (pc0 s) (sl 0 (n + 1)) (.slice (some ⟨4, 0, none⟩) 6 6)) 29), some (.cells (cellsPb 11 0 (mOf (pc0 s)) (inV 9 0 (0 + (n + 1))) nilV) 60), some (memL (gs (g6 d w)))]) := by kernel_rfl
theorem c6_RE (ht : Tail6) (s : Sv) (n k : Nat) (f fa fb : Nat → Int) (d w : Int) (hs : s.Ok) (hw : B16 w) (h1 : 0 ≤ d) (h2 : d ≤ 3) (hp : s.pc = 0) (h3 : ¬ w < 16) (h4 : ¬ s.sp < 256) (h5 : ¬ 65000 < w) (hn : n + 1 ≤ 256) (h7 : w < s.sp → ¬ w16 (s.sp - w) < 8) : LCalls Try.prog 6 [svV s (sl 0 (n + 1)) (sls 1 0), .int .u8 d, .int .u16 w] (mkH [some (ints .u8 f (n + 1)), some (bytes2 fa fb 0)]) (fun u _ => u = .bool true) := by
  have es : s = pc0 s := by cases s; simp only at hp; subst hp; rfl
  have key : ∀ H : Heap, H.next = 18 → H.lock = 0 → Ly.Clean H → List.map H.get [0, 1, 2, 12, 11] = [some (ints .u8 f (n + 1)), some (bytes2 fa fb 0), some (.cells (sCells (pc0 s) (sl 0 (n + 1)) (.slice (some ⟨4, 0, none⟩) 6 6)) 29), some (.cells (cellsPb 11 0 (mOf (pc0 s)) (inV 9 0 (0 + (n + 1))) nilV) 60), some (memL (gs (g6 d w)))] → MWp Try.prog (atSt Try.f6 k6 (some 85) 2 (v6 2 12 w) H) (fun u _ => u = .bool true) := by
    intro H hnx hl hc hos
    rw [gs_eq] at hos
    refine MWp.keepB (nx := 18) (os' := [none, none, some (.cells (sCells (pc0 s) anyV anyV) 29), some (.cells (cellsPb 11 0 (mOf (pc0 s)) anyV nilV) 60), some (memL (g6 d w))]) [2, 3, 7, 95] hnx hl hos ⟨trivial, trivial, OWo.cells (vwS (VW.any _) (VW.any _)), OWo.cells (vwCells (VW.any _) (VW.refl _)), OWo.refl _, trivial⟩ (by decide) (f6_RE s n k f fa fb d w) plain_os6 ?_
    exact ht (pc0 s) d w (by rw [← es]; exact hs) hw h1 h2 rfl h3 (by rw [← es]; exact h4) h5 (by rw [← es]; exact h7)
  have hG := gok6 (d := d) hw
  by_cases h6 : w < s.sp
  · rw [es] at h4 h6 h7 ⊢
    exact LCalls_of ctxH_ok gLH6 (by kernel_rfl) (MWp.haltH ctxH_ok _ _ _ _ (e6a_RE s n k f fa fb d w) (tr_cons (tLi_ok (by omega)) (tr_cons (tMe_ok (by omega)) (tr_cons (tLt_ok (by omega)) (tr_cons (tLt_ok (by omega)) (tr_cons (tLt_ok (by omega)) (tr_cons (tLt_ok (by omega)) (tr_cons (tGt_ok h6) (tr_cons (t8f_ok (h7 h6)) (tr_cons (tOk_ok hG (by omega)) (tr_cons (tMx_ok hn) (tr_cons (tR1_ok (by omega)) (tr_cons (tOk_ok hG (by omega)) trivial)))))))))))) key)
  · rw [es] at h4 h6 ⊢
    exact LCalls_of ctxH_ok gLH6 (by kernel_rfl) (MWp.haltH ctxH_ok _ _ _ _ (e6b_RE s n k f fa fb d w) (tr_cons (tLi_ok (by omega)) (tr_cons (tMe_ok (by omega)) (tr_cons (tLt_ok (by omega)) (tr_cons (tLt_ok (by omega)) (tr_cons (tLt_ok (by omega)) (tr_cons (tLt_ok (by omega)) (tr_cons (tGt_no h6) (tr_cons (tOk_ok hG (by omega)) (tr_cons (tMx_ok hn) (tr_cons (tR1_ok (by omega)) (tr_cons (tOk_ok hG (by omega)) trivial))))))))))) key)
theorem f6_RR (s : Sv) (n k : Nat) (f fa fb : Nat → Int) (d w : Int) : formOf [2, 3, 7, 95] [0, 1, 2, 12, 11] (atSt Try.f6 k6 (some 85) 2 (v6 2 12 w) (vH [0, 1, 2, 12, 11] [none, none, some (.cells (sCells (pc0 s) anyV anyV) 29), some (.cells (cellsPb 11 0 (mOf (pc0 s)) anyV nilV) 60), some (memL (g6 d w))] 18)) = (true, (Try.f6, k6, some 85, 2), v6 2 3 w, os6 (pc0 s) (g6 d w)) := by kernel_rfl
set_option maxRecDepth 100000 in
theorem e6a_RR (s : Sv) (n k : Nat) (f fa fb : Nat → Int) (d w : Int) : haltH [2, 3, 7, 95] [0, 1, 2, 12, 11] 18 rd6 (Ly.run ctxH 9000 [(0, true), (4, true), (4, true), (2, true), (6, true), (3, true), (2, true), (4, true), (7, false), (5, true), (11, false), (1, true), (11, true)] (Ly.start Try.f6 [svV (pc0 s) (sl 0 (n + 1)) (sls 1 (k + 1)), .int .u8 d, .int .u16 w] (mkH [some (ints .u8 f (n + 1)), some (bytes2 fa fb (k + 1))]))) =
  (true, [tLi n, tLn8 k, tMe n, tLt 3 d, tLt w 16, tLt (pc0 s).sp 256, tLt 65000 w, tGt w (pc0 s).sp true, t8f (pc0 s) w, tOk (GA (l6 d w) 6) 6, tMx n, tR1 n, tOk (GA (l6 d w) 6) 6], true, (Try.f6, k6, some 85, 2), v6 2 12 w, (true, true, true), [some (ints .u8 f (n + 1)), some (bytes2 fa fb (k + 1)), some (.cells (sCells (pc0 s) (sl 0 (n + 1)) (.slice (some ⟨4, 0, none⟩) 6 6)) 29), some (.cells (cellsPb 11 0 (mOf (pc0 s)) (inV 9 0 (0 + (n + 1))) nilV) 60), some (memL (gs (g6 d w)))]) := by kernel_rfl
set_option maxRecDepth 100000 in
theorem e6b_RR (s : Sv) (n k : Nat) (f fa fb : Nat → Int) (d w : Int) : haltH [2, 3, 7, 95] [0, 1, 2, 12, 11] 18 rd6 (Ly.run ctxH 9000 [(0, true), (4, true), (4, true), (2, true), (6, true), (3, true), (2, true), (4, false), (13, true), (11, false), (1, true), (11, true)] (Ly.start Try.f6 [svV (pc0 s) (sl 0 (n + 1)) (sls 1 (k + 1)), .int .u8 d, .int .u16 w] (mkH [some (ints .u8 f (n + 1)), some (bytes2 fa fb (k + 1))]))) =
  (true, [tLi n, tLn8 k, tMe n, tLt 3 d, tLt w 16, tLt (pc0 s).sp 256, tLt 65000 w, tGt w (pc0 s).sp false, tOk (GA (l6 d w) 6) 6, tMx n, tR1 n, tOk (GA (l6 d w) 6) 6], true, (Try.f6, k6, some 85, 2), v6 2 12 w, (true, true, true), [some (ints .u8 f (n + 1)), some (bytes2 fa fb (k + 1)), some (.cells (sCells (pc0 s) (sl 0 (n + 1)) (.slice (some ⟨4, 0, none⟩) 6 6)) 29), some (.cells (cellsPb 11 0 (mOf (pc0 s)) (inV 9 0 (0 + (n + 1))) nilV) 60), some (memL (gs (g6 d w)))]) := by kernel_rfl
theorem c6_RR (ht : Tail6) (s : Sv) (n k : Nat) (f fa fb : Nat → Int) (d w : Int) (hs : s.Ok) (hw : B16 w) (h1 : 0 ≤ d) (h2 : d ≤ 3) (hp : s.pc = 0) (h3 : ¬ w < 16) (h4 : ¬ s.sp < 256) (h5 : ¬ 65000 < w) (hn : n + 1 ≤ 256) (hk : k + 1 ≤ 300) (h7 : w < s.sp → ¬ w16 (s.sp - w) < 8) : LCalls Try.prog 6 [svV s (sl 0 (n + 1)) (sls 1 (k + 1)), .int .u8 d, .int .u16 w] (mkH [some (ints .u8 f (n + 1)), some (bytes2 fa fb (k + 1))]) (fun u _ => u = .bool true) := by
  have es : s = pc0 s := by cases s; simp only at hp; subst hp; rfl
  have key : ∀ H : Heap, H.next = 18 → H.lock = 0 → Ly.Clean H → List.map H.get [0, 1, 2, 12, 11] = [some (ints .u8 f (n + 1)), some (bytes2 fa fb (k + 1)), some (.cells (sCells (pc0 s) (sl 0 (n + 1)) (.slice (some ⟨4, 0, none⟩) 6 6)) 29), some (.cells (cellsPb 11 0 (mOf (pc0 s)) (inV 9 0 (0 + (n + 1))) nilV) 60), some (memL (gs (g6 d w)))] → MWp Try.prog (atSt Try.f6 k6 (some 85) 2 (v6 2 12 w) H) (fun u _ => u = .bool true) := by
    intro H hnx hl hc hos
    rw [gs_eq] at hos
    refine MWp.keepB (nx := 18) (os' := [none, none, some (.cells (sCells (pc0 s) anyV anyV) 29), some (.cells (cellsPb 11 0 (mOf (pc0 s)) anyV nilV) 60), some (memL (g6 d w))]) [2, 3, 7, 95] hnx hl hos ⟨trivial, trivial, OWo.cells (vwS (VW.any _) (VW.any _)), OWo.cells (vwCells (VW.any _) (VW.refl _)), OWo.refl _, trivial⟩ (by decide) (f6_RR s n k f fa fb d w) plain_os6 ?_
    exact ht (pc0 s) d w (by rw [← es]; exact hs) hw h1 h2 rfl h3 (by rw [← es]; exact h4) h5 (by rw [← es]; exact h7)
  have hG := gok6 (d := d) hw
  by_cases h6 : w < s.sp
  · rw [es] at h4 h6 h7 ⊢
    exact LCalls_of ctxH_ok gLH6 (by kernel_rfl) (MWp.haltH ctxH_ok _ _ _ _ (e6a_RR s n k f fa fb d w) (tr_cons (tLi_ok (by omega)) (tr_cons (tLn8_ok (by omega)) (tr_cons (tMe_ok (by omega)) (tr_cons (tLt_ok (by omega)) (tr_cons (tLt_ok (by omega)) (tr_cons (tLt_ok (by omega)) (tr_cons (tLt_ok (by omega)) (tr_cons (tGt_ok h6) (tr_cons (t8f_ok (h7 h6)) (tr_cons (tOk_ok hG (by omega)) (tr_cons (tMx_ok hn) (tr_cons (tR1_ok (by omega)) (tr_cons (tOk_ok hG (by omega)) trivial))))))))))))) key)
  · rw [es] at h4 h6 ⊢
    exact LCalls_of ctxH_ok gLH6 (by kernel_rfl) (MWp.haltH ctxH_ok _ _ _ _ (e6b_RR s n k f fa fb d w) (tr_cons (tLi_ok (by omega)) (tr_cons (tLn8_ok (by omega)) (tr_cons (tMe_ok (by omega)) (tr_cons (tLt_ok (by omega)) (tr_cons (tLt_ok (by omega)) (tr_cons (tLt_ok (by omega)) (tr_cons (tLt_ok (by omega)) (tr_cons (tGt_no h6) (tr_cons (tOk_ok hG (by omega)) (tr_cons (tMx_ok hn) (tr_cons (tR1_ok (by omega)) (tr_cons (tOk_ok hG (by omega)) trivial)))))))))))) key)
end Go.Proofs.Ytpggoincnebfnaa
namespace Go.Proofs.Ytpggoincnebfnaa
open Go Go.Ly Go.RowKit
def eqRg (m w : Mc) : Bool := ((m.r0 == w.r0) && ((m.r1 == w.r1) && ((m.r2 == w.r2) && ((m.r3 == w.r3) && ((m.r4 == w.r4) && ((m.r5 == w.r5) && (((0 : Int) == 0) && ((m.r7 == w.r7) && true))))))))
def tM (g : Nat → Int) : Bool × Bool := (cdec (IsMem fun e _ => .int .u8 (g e)), true)
def t6 (E1 E2 : Ent) (m0 m1 m2 m3 m4 : Mc) (g g1 g2 g3 : Nat → Int) (w : Int) : List (Bool × Bool) := [tM g, (g (ix m0.pc) == E1.op, true), (E1.grd m0 g, true), tM g1, (g1 (ix m1.pc) == E1.op, false), (g1 (ix m1.pc) == E2.op, true), (E2.grd m1 g1, true), ((m1.sp != w16 (m0.sp - 2)) == false, true), ((m2.sp != m0.sp) == false, true), (neM m2 m0 == false, true), (!(eqF m2 m0), false), tM g2, (g2 (ix m2.pc) == E1.op, false), (g2 (ix m2.pc) == E2.op, false), (g2 (ix m2.pc) == EcalL.op, true), (EcalL.grd m2 g2, true), (inw m3.pc, true), tM g3, (g3 (ix m3.pc) == E1.op, false), (g3 (ix m3.pc) == E2.op, false), (g3 (ix m3.pc) == EcalL.op, false), (g3 (ix m3.pc) == EreT.op, true), (EreT.grd m3 g3, true), ((m3.pc == w) == true, true), ((m4.pc == 5) == true, true), ((m4.sp == m0.sp) == true, true), (eqRg m4 m0 == true, true)]
theorem tM_ok (g : Nat → Int) : cdec (IsMem fun e _ => .int .u8 (g e)) = true := cdec_true fun _ _ => rfl
theorem upd_at (g : Nat → Int) (i : Nat) (v : Int) : upd g i v i = v := by unfold upd; rw [Nat.beq_refl]; rfl
theorem upd_ne {g : Nat → Int} {i j : Nat} {v : Int} (h : j ≠ i) : upd g i v j = g j := by
  unfold upd
  have : Nat.beq j i = false := by
    cases e : Nat.beq j i with
    | false => rfl
    | true => exact absurd (Nat.eq_of_beq_eq_true e) h
  rw [this]; rfl
theorem upd2 (g : Nat → Int) (a : Int) (x y : Int) (h0 : 0 ≤ a) : upd (upd g (ix a) x) (ix (a + 1)) y (ix (a + 1)) = y ∧ upd (upd g (ix a) x) (ix (a + 1)) y (ix a) = x ∧ ∀ n, 0 ≤ n → n ≠ a → n ≠ a + 1 → upd (upd g (ix a) x) (ix (a + 1)) y (ix n) = g (ix n) := by
  have e : ix a ≠ ix (a + 1) := by unfold ix; omega
  refine ⟨upd_at _ _ _, by rw [upd_ne e, upd_at], fun n hn h1 h2 => ?_⟩
  have e1 : ix n ≠ ix a := by unfold ix; omega
  have e2 : ix n ≠ ix (a + 1) := by unfold ix; omega
  rw [upd_ne e2, upd_ne e1]
section
variable (s : Sv) (w : Int) (g : Nat → Int)
def b01 : Mc := Epush0.mf (mOf (pc0 s)) g
def gb01 : Nat → Int := Epush0.gf (mOf (pc0 s)) g
def b02 : Mc := Epop0.mf (b01 s g) (gb01 s g)
def b03 : Mc := EcalL.mf (b02 s g) (gb01 s g)
def gb03 : Nat → Int := EcalL.gf (b02 s g) (gb01 s g)
def b04 : Mc := EreT.mf (b03 s g) (gb03 s g)
set_option maxRecDepth 100000 in
theorem x6_0 : (Ly.run (cx8 [Epush0, Epop0, EcalL, EreT]) 3000 [(2, true), (0, true), (0, true), (2, true), (0, false), (0, true), (0, true), (9, true), (8, true), (8, true), (10, false), (2, true), (0, false), (0, false), (0, true), (0, true), (1, true), (0, true), (0, false), (0, false), (0, false), (0, true), (0, true), (7, true), (6, true), (8, true), (8, true)] (st6 (pc0 s) w g)).out? = some (t6 Epush0 Epop0 (mOf (pc0 s)) (b01 s g) (b02 s g) (b03 s g) (b04 s g) g (gb01 s g) (gb01 s g) (gb03 s g) w, .bool true) := by kernel_rfl
theorem y6_0 (hs : s.Ok) (hw : B16 w) (h3 : ¬ w < 16) (h4 : ¬ s.sp < 256) (h5 : ¬ 65000 < w) (h6 : w < s.sp → ¬ w16 (s.sp - w) < 8) (k0 : g (ix 0) = 197) (k1 : g (ix 1) = 193) (k2 : g (ix 2) = 205) (k3 : g (ix 3) = w8 w) (k4 : g (ix 4) = w8 (w.fdiv 256)) (kw : g (ix w) = 201) :
    trusted (t6 Epush0 Epop0 (mOf (pc0 s)) (b01 s g) (b02 s g) (b03 s g) (b04 s g) g (gb01 s g) (gb01 s g) (gb03 s g) w) := by
  obtain ⟨⟨q0, q1, q2, q3, q4, q5, q6, q7⟩, qs, qp⟩ := hs
  have qs' := qs; have hw' := hw
  unfold B16 at qs' hw'
  have eA : w16 (s.sp - 2) = s.sp - 2 := by rw [w16e]; omega
  have eB : w16 (s.sp - 2 + 1) = s.sp - 2 + 1 := by rw [w16e]; omega
  have eC : w16 (s.sp - 2 + 2) = s.sp := by rw [w16e]; omega
  have hap : s.sp ≤ w ∨ w + 8 ≤ s.sp := by
    rcases Int.lt_or_le w s.sp with h | h
    · have := h6 h; rw [w16e] at this; right; omega
    · exact .inl h
  have e0 := hilo hw
  have c0 : w16 (0 + 1) = 1 := by kernel_rfl
  have c1 : w16 (1 + 1) = 2 := by kernel_rfl
  have c2 : w16 (2 + 1) = 3 := by kernel_rfl
  have c3 : w16 (2 + 2) = 4 := by kernel_rfl
  have bl : B8 s.r1 := by assumption
  have bh : B8 s.r0 := by assumption
  have G1 : gb01 s g = upd (upd g (ix (s.sp - 2)) s.r1) (ix (s.sp - 2 + 1)) s.r0 := by
    show upd (upd g (ix (w16 (s.sp - 2))) s.r1) (ix (w16 (w16 (s.sp - 2) + 1))) s.r0 = _
    rw [eA, eB]
  obtain ⟨u1, u2, u3⟩ := upd2 g (s.sp - 2) s.r1 s.r0 (by omega)
  rw [← G1] at u1 u2 u3
  have v1 := u3 1 (by omega) (by omega) (by omega)
  have v2 := u3 2 (by omega) (by omega) (by omega)
  have v3 := u3 3 (by omega) (by omega) (by omega)
  have v4 := u3 4 (by omega) (by omega) (by omega)
  have vw := u3 w (by omega) (by omega) (by omega)
  have M1 : b01 s g = ⟨s.r0, s.r1, s.r2, s.r3, s.r4, s.r5, s.r7, s.fs, s.fz, s.fx, s.fp, s.fc, s.sp - 2, 1, s.ie, false⟩ := by
    show (⟨s.r0, s.r1, s.r2, s.r3, s.r4, s.r5, s.r7, s.fs, s.fz, s.fx, s.fp, s.fc, w16 (s.sp - 2), w16 (0 + 1), s.ie, false⟩ : Mc) = _
    rw [eA, c0]
  have M2 : b02 s g = ⟨s.r0, s.r1, s.r2, s.r3, s.r4, s.r5, s.r7, s.fs, s.fz, s.fx, s.fp, s.fc, s.sp, 2, s.ie, false⟩ := by
    unfold b02; rw [M1]
    show (⟨gb01 s g (ix (w16 (s.sp - 2 + 1))), gb01 s g (ix (s.sp - 2)), s.r2, s.r3, s.r4, s.r5, s.r7, s.fs, s.fz, s.fx, s.fp, s.fc, w16 (s.sp - 2 + 2), w16 (1 + 1), s.ie, false⟩ : Mc) = _
    rw [eB, u1, u2, eC, c1]
  have M3 : b03 s g = ⟨s.r0, s.r1, s.r2, s.r3, s.r4, s.r5, s.r7, s.fs, s.fz, s.fx, s.fp, s.fc, s.sp - 2, w, s.ie, false⟩ := by
    unfold b03; rw [M2]
    show (⟨s.r0, s.r1, s.r2, s.r3, s.r4, s.r5, s.r7, s.fs, s.fz, s.fx, s.fp, s.fc, w16 (s.sp - 2), 256 * gb01 s g (ix (w16 (2 + 2))) + gb01 s g (ix (w16 (2 + 1))), s.ie, false⟩ : Mc) = _
    rw [eA, c2, c3, v3, v4, k3, k4, e0]
  have G3 : gb03 s g = upd (upd (gb01 s g) (ix (s.sp - 2)) 5) (ix (s.sp - 2 + 1)) 0 := by
    unfold gb03; rw [M2]
    show upd (upd (gb01 s g) (ix (w16 (s.sp - 2))) ((2 + 3) % 256)) (ix (w16 (w16 (s.sp - 2) + 1))) ((2 + 3) % 65536 / 256) = _
    rw [eA, eB]; rfl
  obtain ⟨x1, x2, x3⟩ := upd2 (gb01 s g) (s.sp - 2) 5 0 (by omega)
  rw [← G3] at x1 x2 x3
  have xw := x3 w (by omega) (by omega) (by omega)
  have M4 : b04 s g = ⟨s.r0, s.r1, s.r2, s.r3, s.r4, s.r5, s.r7, s.fs, s.fz, s.fx, s.fp, s.fc, s.sp, 5, s.ie, false⟩ := by
    unfold b04; rw [M3]
    show (⟨s.r0, s.r1, s.r2, s.r3, s.r4, s.r5, s.r7, s.fs, s.fz, s.fx, s.fp, s.fc, w16 (s.sp - 2 + 2), 256 * gb03 s g (ix (w16 (s.sp - 2 + 1))) + gb03 s g (ix (s.sp - 2)), s.ie, false⟩ : Mc) = _
    rw [eB, eC, x1, x2]; rfl
  have i1 : inw (s.sp - 2) = true := (inw_iff _).2 (by omega)
  have i2 : inw w = true := (inw_iff _).2 hw'
  have z1 : inb s.r0 = true := inb_of bh
  have z2 : inb s.r1 = true := inb_of bl
  have D2 : Epop0.grd (b01 s g) (gb01 s g) = true := by
    rw [M1]
    show (inw (s.sp - 2) && (inb (gb01 s g (ix (s.sp - 2))) && inb (gb01 s g (ix (w16 (s.sp - 2 + 1)))))) = true
    rw [eB, u1, u2, i1, z1, z2]; rfl
  have D3 : EcalL.grd (b02 s g) (gb01 s g) = true := by
    rw [M2]
    show (inb (gb01 s g (ix (w16 (2 + 1)))) && inb (gb01 s g (ix (w16 (2 + 2))))) = true
    rw [c2, c3, v3, v4, k3, k4, inb_of (b8w8 _), inb_of (b8w8 _)]; rfl
  have D4 : EreT.grd (b03 s g) (gb03 s g) = true := by
    rw [M3]
    show (inw (s.sp - 2) && (inb (gb03 s g (ix (s.sp - 2))) && inb (gb03 s g (ix (w16 (s.sp - 2 + 1)))))) = true
    rw [eB, x1, x2, i1]; rfl
  have D1 : Epush0.grd (mOf (pc0 s)) g = true := by
    show (inb s.r0 && inb s.r1) = true
    rw [z1, z2]; rfl
  unfold t6
  rw [D1, D2, D3, D4, M1, M2, M3, M4]
  have P0 : (mOf (pc0 s)) = ⟨s.r0, s.r1, s.r2, s.r3, s.r4, s.r5, s.r7, s.fs, s.fz, s.fx, s.fp, s.fc, s.sp, 0, s.ie, false⟩ := rfl
  rw [P0]
  simp only [v1, v2, xw, vw, k0, k1, k2, kw, i2, eA, tM, tM_ok, neM, eqF, eqRg, Epush0, Epop0, EcalL, EreT]
  simp
theorem z6_0 (hs : s.Ok) (hw : B16 w) (h3 : ¬ w < 16) (h4 : ¬ s.sp < 256) (h5 : ¬ 65000 < w) (h6 : w < s.sp → ¬ w16 (s.sp - w) < 8) (k0 : g (ix 0) = 197) (k1 : g (ix 1) = 193) (k2 : g (ix 2) = 205) (k3 : g (ix 3) = w8 w) (k4 : g (ix 4) = w8 (w.fdiv 256)) (kw : g (ix w) = 201) : MWp Try.prog (st6 (pc0 s) w g) (fun u _ => u = .bool true) :=
  MWp.out (cx8_ok (by simp [Epush0_ok, Epop0_ok, EcalL_ok, EreT_ok])) 3000 _ (x6_0 s w g) (y6_0 s w g hs hw h3 h4 h5 h6 k0 k1 k2 k3 k4 kw) (fun _ => rfl)
end
section
variable (s : Sv) (w : Int) (g : Nat → Int)
def b11 : Mc := Epush1.mf (mOf (pc0 s)) g
def gb11 : Nat → Int := Epush1.gf (mOf (pc0 s)) g
def b12 : Mc := Epop1.mf (b11 s g) (gb11 s g)
def b13 : Mc := EcalL.mf (b12 s g) (gb11 s g)
def gb13 : Nat → Int := EcalL.gf (b12 s g) (gb11 s g)
def b14 : Mc := EreT.mf (b13 s g) (gb13 s g)
set_option maxRecDepth 100000 in
theorem x6_1 : (Ly.run (cx8 [Epush1, Epop1, EcalL, EreT]) 3000 [(2, true), (0, true), (0, true), (2, true), (0, false), (0, true), (0, true), (9, true), (8, true), (8, true), (10, false), (2, true), (0, false), (0, false), (0, true), (0, true), (1, true), (0, true), (0, false), (0, false), (0, false), (0, true), (0, true), (7, true), (6, true), (8, true), (8, true)] (st6 (pc0 s) w g)).out? = some (t6 Epush1 Epop1 (mOf (pc0 s)) (b11 s g) (b12 s g) (b13 s g) (b14 s g) g (gb11 s g) (gb11 s g) (gb13 s g) w, .bool true) := by kernel_rfl
theorem y6_1 (hs : s.Ok) (hw : B16 w) (h3 : ¬ w < 16) (h4 : ¬ s.sp < 256) (h5 : ¬ 65000 < w) (h6 : w < s.sp → ¬ w16 (s.sp - w) < 8) (k0 : g (ix 0) = 213) (k1 : g (ix 1) = 209) (k2 : g (ix 2) = 205) (k3 : g (ix 3) = w8 w) (k4 : g (ix 4) = w8 (w.fdiv 256)) (kw : g (ix w) = 201) :
    trusted (t6 Epush1 Epop1 (mOf (pc0 s)) (b11 s g) (b12 s g) (b13 s g) (b14 s g) g (gb11 s g) (gb11 s g) (gb13 s g) w) := by
  obtain ⟨⟨q0, q1, q2, q3, q4, q5, q6, q7⟩, qs, qp⟩ := hs
  have qs' := qs; have hw' := hw
  unfold B16 at qs' hw'
  have eA : w16 (s.sp - 2) = s.sp - 2 := by rw [w16e]; omega
  have eB : w16 (s.sp - 2 + 1) = s.sp - 2 + 1 := by rw [w16e]; omega
  have eC : w16 (s.sp - 2 + 2) = s.sp := by rw [w16e]; omega
  have hap : s.sp ≤ w ∨ w + 8 ≤ s.sp := by
    rcases Int.lt_or_le w s.sp with h | h
    · have := h6 h; rw [w16e] at this; right; omega
    · exact .inl h
  have e0 := hilo hw
  have c0 : w16 (0 + 1) = 1 := by kernel_rfl
  have c1 : w16 (1 + 1) = 2 := by kernel_rfl
  have c2 : w16 (2 + 1) = 3 := by kernel_rfl
  have c3 : w16 (2 + 2) = 4 := by kernel_rfl
  have bl : B8 s.r3 := by assumption
  have bh : B8 s.r2 := by assumption
  have G1 : gb11 s g = upd (upd g (ix (s.sp - 2)) s.r3) (ix (s.sp - 2 + 1)) s.r2 := by
    show upd (upd g (ix (w16 (s.sp - 2))) s.r3) (ix (w16 (w16 (s.sp - 2) + 1))) s.r2 = _
    rw [eA, eB]
  obtain ⟨u1, u2, u3⟩ := upd2 g (s.sp - 2) s.r3 s.r2 (by omega)
  rw [← G1] at u1 u2 u3
  have v1 := u3 1 (by omega) (by omega) (by omega)
  have v2 := u3 2 (by omega) (by omega) (by omega)
  have v3 := u3 3 (by omega) (by omega) (by omega)
  have v4 := u3 4 (by omega) (by omega) (by omega)
  have vw := u3 w (by omega) (by omega) (by omega)
  have M1 : b11 s g = ⟨s.r0, s.r1, s.r2, s.r3, s.r4, s.r5, s.r7, s.fs, s.fz, s.fx, s.fp, s.fc, s.sp - 2, 1, s.ie, false⟩ := by
    show (⟨s.r0, s.r1, s.r2, s.r3, s.r4, s.r5, s.r7, s.fs, s.fz, s.fx, s.fp, s.fc, w16 (s.sp - 2), w16 (0 + 1), s.ie, false⟩ : Mc) = _
    rw [eA, c0]
  have M2 : b12 s g = ⟨s.r0, s.r1, s.r2, s.r3, s.r4, s.r5, s.r7, s.fs, s.fz, s.fx, s.fp, s.fc, s.sp, 2, s.ie, false⟩ := by
    unfold b12; rw [M1]
    show (⟨s.r0, s.r1, gb11 s g (ix (w16 (s.sp - 2 + 1))), gb11 s g (ix (s.sp - 2)), s.r4, s.r5, s.r7, s.fs, s.fz, s.fx, s.fp, s.fc, w16 (s.sp - 2 + 2), w16 (1 + 1), s.ie, false⟩ : Mc) = _
    rw [eB, u1, u2, eC, c1]
  have M3 : b13 s g = ⟨s.r0, s.r1, s.r2, s.r3, s.r4, s.r5, s.r7, s.fs, s.fz, s.fx, s.fp, s.fc, s.sp - 2, w, s.ie, false⟩ := by
    unfold b13; rw [M2]
    show (⟨s.r0, s.r1, s.r2, s.r3, s.r4, s.r5, s.r7, s.fs, s.fz, s.fx, s.fp, s.fc, w16 (s.sp - 2), 256 * gb11 s g (ix (w16 (2 + 2))) + gb11 s g (ix (w16 (2 + 1))), s.ie, false⟩ : Mc) = _
    rw [eA, c2, c3, v3, v4, k3, k4, e0]
  have G3 : gb13 s g = upd (upd (gb11 s g) (ix (s.sp - 2)) 5) (ix (s.sp - 2 + 1)) 0 := by
    unfold gb13; rw [M2]
    show upd (upd (gb11 s g) (ix (w16 (s.sp - 2))) ((2 + 3) % 256)) (ix (w16 (w16 (s.sp - 2) + 1))) ((2 + 3) % 65536 / 256) = _
    rw [eA, eB]; rfl
  obtain ⟨x1, x2, x3⟩ := upd2 (gb11 s g) (s.sp - 2) 5 0 (by omega)
  rw [← G3] at x1 x2 x3
  have xw := x3 w (by omega) (by omega) (by omega)
  have M4 : b14 s g = ⟨s.r0, s.r1, s.r2, s.r3, s.r4, s.r5, s.r7, s.fs, s.fz, s.fx, s.fp, s.fc, s.sp, 5, s.ie, false⟩ := by
    unfold b14; rw [M3]
    show (⟨s.r0, s.r1, s.r2, s.r3, s.r4, s.r5, s.r7, s.fs, s.fz, s.fx, s.fp, s.fc, w16 (s.sp - 2 + 2), 256 * gb13 s g (ix (w16 (s.sp - 2 + 1))) + gb13 s g (ix (s.sp - 2)), s.ie, false⟩ : Mc) = _
    rw [eB, eC, x1, x2]; rfl
  have i1 : inw (s.sp - 2) = true := (inw_iff _).2 (by omega)
  have i2 : inw w = true := (inw_iff _).2 hw'
  have z1 : inb s.r2 = true := inb_of bh
  have z2 : inb s.r3 = true := inb_of bl
  have D2 : Epop1.grd (b11 s g) (gb11 s g) = true := by
    rw [M1]
    show (inw (s.sp - 2) && (inb (gb11 s g (ix (s.sp - 2))) && inb (gb11 s g (ix (w16 (s.sp - 2 + 1)))))) = true
    rw [eB, u1, u2, i1, z1, z2]; rfl
  have D3 : EcalL.grd (b12 s g) (gb11 s g) = true := by
    rw [M2]
    show (inb (gb11 s g (ix (w16 (2 + 1)))) && inb (gb11 s g (ix (w16 (2 + 2))))) = true
    rw [c2, c3, v3, v4, k3, k4, inb_of (b8w8 _), inb_of (b8w8 _)]; rfl
  have D4 : EreT.grd (b13 s g) (gb13 s g) = true := by
    rw [M3]
    show (inw (s.sp - 2) && (inb (gb13 s g (ix (s.sp - 2))) && inb (gb13 s g (ix (w16 (s.sp - 2 + 1)))))) = true
    rw [eB, x1, x2, i1]; rfl
  have D1 : Epush1.grd (mOf (pc0 s)) g = true := by
    show (inb s.r2 && inb s.r3) = true
    rw [z1, z2]; rfl
  unfold t6
  rw [D1, D2, D3, D4, M1, M2, M3, M4]
  have P0 : (mOf (pc0 s)) = ⟨s.r0, s.r1, s.r2, s.r3, s.r4, s.r5, s.r7, s.fs, s.fz, s.fx, s.fp, s.fc, s.sp, 0, s.ie, false⟩ := rfl
  rw [P0]
  simp only [v1, v2, xw, vw, k0, k1, k2, kw, i2, eA, tM, tM_ok, neM, eqF, eqRg, Epush1, Epop1, EcalL, EreT]
  simp
theorem z6_1 (hs : s.Ok) (hw : B16 w) (h3 : ¬ w < 16) (h4 : ¬ s.sp < 256) (h5 : ¬ 65000 < w) (h6 : w < s.sp → ¬ w16 (s.sp - w) < 8) (k0 : g (ix 0) = 213) (k1 : g (ix 1) = 209) (k2 : g (ix 2) = 205) (k3 : g (ix 3) = w8 w) (k4 : g (ix 4) = w8 (w.fdiv 256)) (kw : g (ix w) = 201) : MWp Try.prog (st6 (pc0 s) w g) (fun u _ => u = .bool true) :=
  MWp.out (cx8_ok (by simp [Epush1_ok, Epop1_ok, EcalL_ok, EreT_ok])) 3000 _ (x6_1 s w g) (y6_1 s w g hs hw h3 h4 h5 h6 k0 k1 k2 k3 k4 kw) (fun _ => rfl)
end
section
variable (s : Sv) (w : Int) (g : Nat → Int)
def b21 : Mc := Epush2.mf (mOf (pc0 s)) g
def gb21 : Nat → Int := Epush2.gf (mOf (pc0 s)) g
def b22 : Mc := Epop2.mf (b21 s g) (gb21 s g)
def b23 : Mc := EcalL.mf (b22 s g) (gb21 s g)
def gb23 : Nat → Int := EcalL.gf (b22 s g) (gb21 s g)
def b24 : Mc := EreT.mf (b23 s g) (gb23 s g)
set_option maxRecDepth 100000 in
theorem x6_2 : (Ly.run (cx8 [Epush2, Epop2, EcalL, EreT]) 3000 [(2, true), (0, true), (0, true), (2, true), (0, false), (0, true), (0, true), (9, true), (8, true), (8, true), (10, false), (2, true), (0, false), (0, false), (0, true), (0, true), (1, true), (0, true), (0, false), (0, false), (0, false), (0, true), (0, true), (7, true), (6, true), (8, true), (8, true)] (st6 (pc0 s) w g)).out? = some (t6 Epush2 Epop2 (mOf (pc0 s)) (b21 s g) (b22 s g) (b23 s g) (b24 s g) g (gb21 s g) (gb21 s g) (gb23 s g) w, .bool true) := by kernel_rfl
theorem y6_2 (hs : s.Ok) (hw : B16 w) (h3 : ¬ w < 16) (h4 : ¬ s.sp < 256) (h5 : ¬ 65000 < w) (h6 : w < s.sp → ¬ w16 (s.sp - w) < 8) (k0 : g (ix 0) = 229) (k1 : g (ix 1) = 225) (k2 : g (ix 2) = 205) (k3 : g (ix 3) = w8 w) (k4 : g (ix 4) = w8 (w.fdiv 256)) (kw : g (ix w) = 201) :
    trusted (t6 Epush2 Epop2 (mOf (pc0 s)) (b21 s g) (b22 s g) (b23 s g) (b24 s g) g (gb21 s g) (gb21 s g) (gb23 s g) w) := by
  obtain ⟨⟨q0, q1, q2, q3, q4, q5, q6, q7⟩, qs, qp⟩ := hs
  have qs' := qs; have hw' := hw
  unfold B16 at qs' hw'
  have eA : w16 (s.sp - 2) = s.sp - 2 := by rw [w16e]; omega
  have eB : w16 (s.sp - 2 + 1) = s.sp - 2 + 1 := by rw [w16e]; omega
  have eC : w16 (s.sp - 2 + 2) = s.sp := by rw [w16e]; omega
  have hap : s.sp ≤ w ∨ w + 8 ≤ s.sp := by
    rcases Int.lt_or_le w s.sp with h | h
    · have := h6 h; rw [w16e] at this; right; omega
    · exact .inl h
  have e0 := hilo hw
  have c0 : w16 (0 + 1) = 1 := by kernel_rfl
  have c1 : w16 (1 + 1) = 2 := by kernel_rfl
  have c2 : w16 (2 + 1) = 3 := by kernel_rfl
  have c3 : w16 (2 + 2) = 4 := by kernel_rfl
  have bl : B8 s.r5 := by assumption
  have bh : B8 s.r4 := by assumption
  have G1 : gb21 s g = upd (upd g (ix (s.sp - 2)) s.r5) (ix (s.sp - 2 + 1)) s.r4 := by
    show upd (upd g (ix (w16 (s.sp - 2))) s.r5) (ix (w16 (w16 (s.sp - 2) + 1))) s.r4 = _
    rw [eA, eB]
  obtain ⟨u1, u2, u3⟩ := upd2 g (s.sp - 2) s.r5 s.r4 (by omega)
  rw [← G1] at u1 u2 u3
  have v1 := u3 1 (by omega) (by omega) (by omega)
  have v2 := u3 2 (by omega) (by omega) (by omega)
  have v3 := u3 3 (by omega) (by omega) (by omega)
  have v4 := u3 4 (by omega) (by omega) (by omega)
  have vw := u3 w (by omega) (by omega) (by omega)
  have M1 : b21 s g = ⟨s.r0, s.r1, s.r2, s.r3, s.r4, s.r5, s.r7, s.fs, s.fz, s.fx, s.fp, s.fc, s.sp - 2, 1, s.ie, false⟩ := by
    show (⟨s.r0, s.r1, s.r2, s.r3, s.r4, s.r5, s.r7, s.fs, s.fz, s.fx, s.fp, s.fc, w16 (s.sp - 2), w16 (0 + 1), s.ie, false⟩ : Mc) = _
    rw [eA, c0]
  have M2 : b22 s g = ⟨s.r0, s.r1, s.r2, s.r3, s.r4, s.r5, s.r7, s.fs, s.fz, s.fx, s.fp, s.fc, s.sp, 2, s.ie, false⟩ := by
    unfold b22; rw [M1]
    show (⟨s.r0, s.r1, s.r2, s.r3, gb21 s g (ix (w16 (s.sp - 2 + 1))), gb21 s g (ix (s.sp - 2)), s.r7, s.fs, s.fz, s.fx, s.fp, s.fc, w16 (s.sp - 2 + 2), w16 (1 + 1), s.ie, false⟩ : Mc) = _
    rw [eB, u1, u2, eC, c1]
  have M3 : b23 s g = ⟨s.r0, s.r1, s.r2, s.r3, s.r4, s.r5, s.r7, s.fs, s.fz, s.fx, s.fp, s.fc, s.sp - 2, w, s.ie, false⟩ := by
    unfold b23; rw [M2]
    show (⟨s.r0, s.r1, s.r2, s.r3, s.r4, s.r5, s.r7, s.fs, s.fz, s.fx, s.fp, s.fc, w16 (s.sp - 2), 256 * gb21 s g (ix (w16 (2 + 2))) + gb21 s g (ix (w16 (2 + 1))), s.ie, false⟩ : Mc) = _
    rw [eA, c2, c3, v3, v4, k3, k4, e0]
  have G3 : gb23 s g = upd (upd (gb21 s g) (ix (s.sp - 2)) 5) (ix (s.sp - 2 + 1)) 0 := by
    unfold gb23; rw [M2]
    show upd (upd (gb21 s g) (ix (w16 (s.sp - 2))) ((2 + 3) % 256)) (ix (w16 (w16 (s.sp - 2) + 1))) ((2 + 3) % 65536 / 256) = _
    rw [eA, eB]; rfl
  obtain ⟨x1, x2, x3⟩ := upd2 (gb21 s g) (s.sp - 2) 5 0 (by omega)
  rw [← G3] at x1 x2 x3
  have xw := x3 w (by omega) (by omega) (by omega)
  have M4 : b24 s g = ⟨s.r0, s.r1, s.r2, s.r3, s.r4, s.r5, s.r7, s.fs, s.fz, s.fx, s.fp, s.fc, s.sp, 5, s.ie, false⟩ := by
    unfold b24; rw [M3]
    show (⟨s.r0, s.r1, s.r2, s.r3, s.r4, s.r5, s.r7, s.fs, s.fz, s.fx, s.fp, s.fc, w16 (s.sp - 2 + 2), 256 * gb23 s g (ix (w16 (s.sp - 2 + 1))) + gb23 s g (ix (s.sp - 2)), s.ie, false⟩ : Mc) = _
    rw [eB, eC, x1, x2]; rfl
  have i1 : inw (s.sp - 2) = true := (inw_iff _).2 (by omega)
  have i2 : inw w = true := (inw_iff _).2 hw'
  have z1 : inb s.r4 = true := inb_of bh
  have z2 : inb s.r5 = true := inb_of bl
  have D2 : Epop2.grd (b21 s g) (gb21 s g) = true := by
    rw [M1]
    show (inw (s.sp - 2) && (inb (gb21 s g (ix (s.sp - 2))) && inb (gb21 s g (ix (w16 (s.sp - 2 + 1)))))) = true
    rw [eB, u1, u2, i1, z1, z2]; rfl
  have D3 : EcalL.grd (b22 s g) (gb21 s g) = true := by
    rw [M2]
    show (inb (gb21 s g (ix (w16 (2 + 1)))) && inb (gb21 s g (ix (w16 (2 + 2))))) = true
    rw [c2, c3, v3, v4, k3, k4, inb_of (b8w8 _), inb_of (b8w8 _)]; rfl
  have D4 : EreT.grd (b23 s g) (gb23 s g) = true := by
    rw [M3]
    show (inw (s.sp - 2) && (inb (gb23 s g (ix (s.sp - 2))) && inb (gb23 s g (ix (w16 (s.sp - 2 + 1)))))) = true
    rw [eB, x1, x2, i1]; rfl
  have D1 : Epush2.grd (mOf (pc0 s)) g = true := by
    show (inb s.r4 && inb s.r5) = true
    rw [z1, z2]; rfl
  unfold t6
  rw [D1, D2, D3, D4, M1, M2, M3, M4]
  have P0 : (mOf (pc0 s)) = ⟨s.r0, s.r1, s.r2, s.r3, s.r4, s.r5, s.r7, s.fs, s.fz, s.fx, s.fp, s.fc, s.sp, 0, s.ie, false⟩ := rfl
  rw [P0]
  simp only [v1, v2, xw, vw, k0, k1, k2, kw, i2, eA, tM, tM_ok, neM, eqF, eqRg, Epush2, Epop2, EcalL, EreT]
  simp
theorem z6_2 (hs : s.Ok) (hw : B16 w) (h3 : ¬ w < 16) (h4 : ¬ s.sp < 256) (h5 : ¬ 65000 < w) (h6 : w < s.sp → ¬ w16 (s.sp - w) < 8) (k0 : g (ix 0) = 229) (k1 : g (ix 1) = 225) (k2 : g (ix 2) = 205) (k3 : g (ix 3) = w8 w) (k4 : g (ix 4) = w8 (w.fdiv 256)) (kw : g (ix w) = 201) : MWp Try.prog (st6 (pc0 s) w g) (fun u _ => u = .bool true) :=
  MWp.out (cx8_ok (by simp [Epush2_ok, Epop2_ok, EcalL_ok, EreT_ok])) 3000 _ (x6_2 s w g) (y6_2 s w g hs hw h3 h4 h5 h6 k0 k1 k2 k3 k4 kw) (fun _ => rfl)
end
section
variable (s : Sv) (w : Int) (g : Nat → Int)
def b31 : Mc := Epush3.mf (mOf (pc0 s)) g
def gb31 : Nat → Int := Epush3.gf (mOf (pc0 s)) g
def b32 : Mc := Epop3.mf (b31 s g) (gb31 s g)
def b33 : Mc := EcalL.mf (b32 s g) (gb31 s g)
def gb33 : Nat → Int := EcalL.gf (b32 s g) (gb31 s g)
def b34 : Mc := EreT.mf (b33 s g) (gb33 s g)
set_option maxRecDepth 100000 in
theorem x6_3 : (Ly.run (cx8 [Epush3, Epop3, EcalL, EreT]) 3000 [(2, true), (0, true), (0, true), (2, true), (0, false), (0, true), (0, true), (9, true), (8, true), (8, true), (10, false), (2, true), (0, false), (0, false), (0, true), (0, true), (1, true), (0, true), (0, false), (0, false), (0, false), (0, true), (0, true), (7, true), (6, true), (8, true), (8, true)] (st6 (pc0 s) w g)).out? = some (t6 Epush3 Epop3 (mOf (pc0 s)) (b31 s g) (b32 s g) (b33 s g) (b34 s g) g (gb31 s g) (gb31 s g) (gb33 s g) w, .bool true) := by kernel_rfl
theorem y6_3 (hs : s.Ok) (hw : B16 w) (h3 : ¬ w < 16) (h4 : ¬ s.sp < 256) (h5 : ¬ 65000 < w) (h6 : w < s.sp → ¬ w16 (s.sp - w) < 8) (k0 : g (ix 0) = 245) (k1 : g (ix 1) = 241) (k2 : g (ix 2) = 205) (k3 : g (ix 3) = w8 w) (k4 : g (ix 4) = w8 (w.fdiv 256)) (kw : g (ix w) = 201) :
    trusted (t6 Epush3 Epop3 (mOf (pc0 s)) (b31 s g) (b32 s g) (b33 s g) (b34 s g) g (gb31 s g) (gb31 s g) (gb33 s g) w) := by
  obtain ⟨⟨q0, q1, q2, q3, q4, q5, q6, q7⟩, qs, qp⟩ := hs
  have qs' := qs; have hw' := hw
  unfold B16 at qs' hw'
  have eA : w16 (s.sp - 2) = s.sp - 2 := by rw [w16e]; omega
  have eB : w16 (s.sp - 2 + 1) = s.sp - 2 + 1 := by rw [w16e]; omega
  have eC : w16 (s.sp - 2 + 2) = s.sp := by rw [w16e]; omega
  have hap : s.sp ≤ w ∨ w + 8 ≤ s.sp := by
    rcases Int.lt_or_le w s.sp with h | h
    · have := h6 h; rw [w16e] at this; right; omega
    · exact .inl h
  have e0 := hilo hw
  have c0 : w16 (0 + 1) = 1 := by kernel_rfl
  have c1 : w16 (1 + 1) = 2 := by kernel_rfl
  have c2 : w16 (2 + 1) = 3 := by kernel_rfl
  have c3 : w16 (2 + 2) = 4 := by kernel_rfl
  have bl : B8 (128 * cI s.fs + 64 * cI s.fz + 16 * cI s.fx + 4 * cI s.fp + 2 + cI s.fc) := by simp
  have bh : B8 s.r7 := by assumption
  have G1 : gb31 s g = upd (upd g (ix (s.sp - 2)) (128 * cI s.fs + 64 * cI s.fz + 16 * cI s.fx + 4 * cI s.fp + 2 + cI s.fc)) (ix (s.sp - 2 + 1)) s.r7 := by
    show upd (upd g (ix (w16 (s.sp - 2))) (128 * cI s.fs + 64 * cI s.fz + 16 * cI s.fx + 4 * cI s.fp + 2 + cI s.fc)) (ix (w16 (w16 (s.sp - 2) + 1))) s.r7 = _
    rw [eA, eB]
  obtain ⟨u1, u2, u3⟩ := upd2 g (s.sp - 2) (128 * cI s.fs + 64 * cI s.fz + 16 * cI s.fx + 4 * cI s.fp + 2 + cI s.fc) s.r7 (by omega)
  rw [← G1] at u1 u2 u3
  have v1 := u3 1 (by omega) (by omega) (by omega)
  have v2 := u3 2 (by omega) (by omega) (by omega)
  have v3 := u3 3 (by omega) (by omega) (by omega)
  have v4 := u3 4 (by omega) (by omega) (by omega)
  have vw := u3 w (by omega) (by omega) (by omega)
  have M1 : b31 s g = ⟨s.r0, s.r1, s.r2, s.r3, s.r4, s.r5, s.r7, s.fs, s.fz, s.fx, s.fp, s.fc, s.sp - 2, 1, s.ie, false⟩ := by
    show (⟨s.r0, s.r1, s.r2, s.r3, s.r4, s.r5, s.r7, s.fs, s.fz, s.fx, s.fp, s.fc, w16 (s.sp - 2), w16 (0 + 1), s.ie, false⟩ : Mc) = _
    rw [eA, c0]
  have M2 : b32 s g = ⟨s.r0, s.r1, s.r2, s.r3, s.r4, s.r5, s.r7, s.fs, s.fz, s.fx, s.fp, s.fc, s.sp, 2, s.ie, false⟩ := by
    unfold b32; rw [M1]
    show (⟨s.r0, s.r1, s.r2, s.r3, s.r4, s.r5, gb31 s g (ix (w16 (s.sp - 2 + 1))), decide (128 ≤ gb31 s g (ix (s.sp - 2))), gb31 s g (ix (s.sp - 2)) / 64 % 2 == 1, gb31 s g (ix (s.sp - 2)) / 16 % 2 == 1, gb31 s g (ix (s.sp - 2)) / 4 % 2 == 1, gb31 s g (ix (s.sp - 2)) % 2 == 1, w16 (s.sp - 2 + 2), w16 (1 + 1), s.ie, false⟩ : Mc) = _
    rw [eB, u1, u2, eC, c1]
    cases s.fs <;> cases s.fz <;> cases s.fx <;> cases s.fp <;> cases s.fc <;> rfl
  have M3 : b33 s g = ⟨s.r0, s.r1, s.r2, s.r3, s.r4, s.r5, s.r7, s.fs, s.fz, s.fx, s.fp, s.fc, s.sp - 2, w, s.ie, false⟩ := by
    unfold b33; rw [M2]
    show (⟨s.r0, s.r1, s.r2, s.r3, s.r4, s.r5, s.r7, s.fs, s.fz, s.fx, s.fp, s.fc, w16 (s.sp - 2), 256 * gb31 s g (ix (w16 (2 + 2))) + gb31 s g (ix (w16 (2 + 1))), s.ie, false⟩ : Mc) = _
    rw [eA, c2, c3, v3, v4, k3, k4, e0]
  have G3 : gb33 s g = upd (upd (gb31 s g) (ix (s.sp - 2)) 5) (ix (s.sp - 2 + 1)) 0 := by
    unfold gb33; rw [M2]
    show upd (upd (gb31 s g) (ix (w16 (s.sp - 2))) ((2 + 3) % 256)) (ix (w16 (w16 (s.sp - 2) + 1))) ((2 + 3) % 65536 / 256) = _
    rw [eA, eB]; rfl
  obtain ⟨x1, x2, x3⟩ := upd2 (gb31 s g) (s.sp - 2) 5 0 (by omega)
  rw [← G3] at x1 x2 x3
  have xw := x3 w (by omega) (by omega) (by omega)
  have M4 : b34 s g = ⟨s.r0, s.r1, s.r2, s.r3, s.r4, s.r5, s.r7, s.fs, s.fz, s.fx, s.fp, s.fc, s.sp, 5, s.ie, false⟩ := by
    unfold b34; rw [M3]
    show (⟨s.r0, s.r1, s.r2, s.r3, s.r4, s.r5, s.r7, s.fs, s.fz, s.fx, s.fp, s.fc, w16 (s.sp - 2 + 2), 256 * gb33 s g (ix (w16 (s.sp - 2 + 1))) + gb33 s g (ix (s.sp - 2)), s.ie, false⟩ : Mc) = _
    rw [eB, eC, x1, x2]; rfl
  have i1 : inw (s.sp - 2) = true := (inw_iff _).2 (by omega)
  have i2 : inw w = true := (inw_iff _).2 hw'
  have z1 : inb s.r7 = true := inb_of bh
  have z2 : inb (128 * cI s.fs + 64 * cI s.fz + 16 * cI s.fx + 4 * cI s.fp + 2 + cI s.fc) = true := inb_of bl
  have D2 : Epop3.grd (b31 s g) (gb31 s g) = true := by
    rw [M1]
    show (inw (s.sp - 2) && (inb (gb31 s g (ix (s.sp - 2))) && inb (gb31 s g (ix (w16 (s.sp - 2 + 1)))))) = true
    rw [eB, u1, u2, i1, z1, z2]; rfl
  have D3 : EcalL.grd (b32 s g) (gb31 s g) = true := by
    rw [M2]
    show (inb (gb31 s g (ix (w16 (2 + 1)))) && inb (gb31 s g (ix (w16 (2 + 2))))) = true
    rw [c2, c3, v3, v4, k3, k4, inb_of (b8w8 _), inb_of (b8w8 _)]; rfl
  have D4 : EreT.grd (b33 s g) (gb33 s g) = true := by
    rw [M3]
    show (inw (s.sp - 2) && (inb (gb33 s g (ix (s.sp - 2))) && inb (gb33 s g (ix (w16 (s.sp - 2 + 1)))))) = true
    rw [eB, x1, x2, i1]; rfl
  have D1 : Epush3.grd (mOf (pc0 s)) g = true := by
    show inb s.r7 = true
    rw [z1]
  unfold t6
  rw [D1, D2, D3, D4, M1, M2, M3, M4]
  have P0 : (mOf (pc0 s)) = ⟨s.r0, s.r1, s.r2, s.r3, s.r4, s.r5, s.r7, s.fs, s.fz, s.fx, s.fp, s.fc, s.sp, 0, s.ie, false⟩ := rfl
  rw [P0]
  simp only [v1, v2, xw, vw, k0, k1, k2, kw, i2, eA, tM, tM_ok, neM, eqF, eqRg, Epush3, Epop3, EcalL, EreT]
  simp
theorem z6_3 (hs : s.Ok) (hw : B16 w) (h3 : ¬ w < 16) (h4 : ¬ s.sp < 256) (h5 : ¬ 65000 < w) (h6 : w < s.sp → ¬ w16 (s.sp - w) < 8) (k0 : g (ix 0) = 245) (k1 : g (ix 1) = 241) (k2 : g (ix 2) = 205) (k3 : g (ix 3) = w8 w) (k4 : g (ix 4) = w8 (w.fdiv 256)) (kw : g (ix w) = 201) : MWp Try.prog (st6 (pc0 s) w g) (fun u _ => u = .bool true) :=
  MWp.out (cx8_ok (by simp [Epush3_ok, Epop3_ok, EcalL_ok, EreT_ok])) 3000 _ (x6_3 s w g) (y6_3 s w g hs hw h3 h4 h5 h6 k0 k1 k2 k3 k4 kw) (fun _ => rfl)
end
end Go.Proofs.Ytpggoincnebfnaa
namespace Go.Proofs.Ytpggoincnebfnaa
open Go Go.Ly Go.RowKit
theorem tMe8_no {n : Nat} (h : ¬ n + 1 ≤ 256) : trusted [((tMe n).1, false)] := ⟨by show (decide ((256 : Int) < ((n + 1 : Nat) : Int)) == false) = false; rw [decide_eq_true (by omega)]; rfl, trivial⟩
theorem tLi8_no {n : Nat} (h : ¬ n + 1 ≤ 300) : trusted [((tLi n).1, false)] := ⟨by show (decide (((n + 1 : Nat) : Int) ≤ 300) == true) = false; rw [decide_eq_false (by omega)]; rfl, trivial⟩
theorem tLn8_no {k : Nat} (h : ¬ k + 1 ≤ 300) : trusted [((tLn8 k).1, false)] := ⟨by show ((!(decide (((k + 1 : Nat) : Int) ≤ 300))) == false) = false; rw [decide_eq_false (by omega)]; rfl, trivial⟩
end Go.Proofs.Ytpggoincnebfnaa
end
